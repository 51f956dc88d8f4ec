import PyProof.Rows.All
import Wide.All
import OpenK.AllK
import Wide.FinOn
import HandS.ForMost
import HandS.ForExc
import HandS.Deep
import HandS.TupAny
import HandS.IsInst
import HandS.Lambda
import HandS.HeadHook4
import HandS.Flow
import HandS.Style
import HandS.Zip
import HandS.ExcCtx
import KE.KStateDown
import Lean
import HandS.Ends
import HandS.Defaults
import HandS.Head0
import HandS.Head1
import HandS.Head2
import HandS.HeadEnd
import HandS.HeadHook1
import HandS.HeadHook2
import HandS.EndTab
import HandS.NestedK
import KE.GoesEnum
import HandS.Text
import HandS.FStr
import KE.DataCmp
import KE.LtData
import KE.SortData
import KE.SortKeyHeap
import KE.DataMinMax
import KE.DataFind
import HandS.TupSets
import HandS.Set
import HandS.Strs
import KE.KDictPairs
import HandS.ExcValue
import HandS.ExcOwn
import HandS.TupLe
import HandS.HotCalls
import HandS.ExcIs
import KE.KExcIs
import HandS.ExcField
import PySem.Challenge.RW_nearpair_k41_texts_spoilt
set_option Elab.async false
set_option linter.all false
set_option maxRecDepth 100000
set_option maxHeartbeats 4000000
/-! Nd0: tuples made, each known as the object it is: none has a dict. -/
namespace L2
open PySem PySem.Spec PyProof.Rows
/-- what is behind a tuple made anew -/
def NewT (xs : List V) (H : Hp) (Q : VK) : Prop := ∀ (p : Addr) (o : Obj), H p = none → o.dict = none → Q (.ref p) (upd H p (.frz o (.tup xs)))
def tTupN (t : TA) : TE := fun σ H Q => t σ H fun xs H1 => xs.length ≤ sizeLine ∧ NewT xs H1 Q
section
variable {X : Cx} {pins : List (Addr × Obj)} {σ : St} {H : Hp} {s : Shared} {Q : VK} {es : List Expr} {pos : Pos} {t : TA}
theorem laid_tup {xs : List V} {its : List Value} {tk : Nat} (I : Inv X pins σ H s) (hz : xs.length ≤ sizeLine) (r : Vals xs its) (h : NewT xs H Q) :
    EP X pins σ Q (.ref s.heap.objs.size) { s with heap := s.heap.push { cls := .type "tuple", data := .seq its.toArray }, toks := tk } :=
  ⟨.ref s.heap.objs.size, _, I.laid (t' := tk) (o := .frz { cls := .type "tuple", data := .seq its.toArray } (.tup xs)) (fun b u e => Heap.get?_push_of_some _ e) (Nat.le_refl _) ⟨Heap.get?_push_size _ rfl, hz, its, r, IsTup.new _ _⟩, rfl, h _ _ (I.hok.fresh (Nat.le_refl _)) rfl⟩
theorem pe_tupN {x1} (h : PA X es t) : PE X (.Tuple es x1 pos) (tTupN t) := by
  refine ⟨fun pins s σ H Q I hq => ?_⟩
  refine wpAny_Tuple_spliced (thn (h.run pos pins s σ H _ I hq) fun us s1 ⟨xs, H1, I1, r, z, q⟩ => ⟨by rw [← r.length]; exact z, ?_⟩)
  exact laid_tup (tk := s1.toks) I1 z r q
/-- t + u -/
def rCatN (K : PySem.W.Frag) : R2 := fun x y H Q => ∃ a b xs ys, x = .ref a ∧ y = .ref b ∧ SqT K H a xs ∧ SqT K H b ys ∧ xs.length + ys.length ≤ sizeLine ∧
  (xs = [] → Q (.ref b) H) ∧ (xs ≠ [] → ys = [] → Q (.ref a) H) ∧ (xs ≠ [] → ys ≠ [] → NewT (xs ++ ys) H Q)
theorem op_catN : OpR X (binaryOp .Add) (rCatN X.K) := by
  intro pins s σ H x y v u Q I rx ry h
  obtain ⟨a, b, xs, ys, rfl, rfl, ha, hb, hz, q0, q1, q2⟩ := h
  cases rx
  cases ry
  obtain ⟨its, r1, p1, _⟩ := I.tuple ha
  obtain ⟨its2, r2, p2, _⟩ := I.tuple hb
  by_cases hx : xs = []
  · subst hx
    cases r1
    exact cat_tup0 p1 p2 ⟨.ref b, H, I, rfl, q0 rfl⟩
  · refine HT.cat_tup p1 p2 (fun z => hx (r1.nil_iff.mp z)) (fun z => ⟨.ref a, H, I, rfl, q1 hx (r2.nil_iff.mp z)⟩) (fun z => ?_) (by rw [← r1.length, ← r2.length]; exact hz)
    exact laid_tup (tk := s.toks) I (by rw [List.length_append]; exact hz) (r1.append r2) (q2 hx fun w => z (r2.nil_iff.mpr w))
/-- t[lo:hi]: the whole of it is t itself -/
def rSlN (K : PySem.W.Frag) : V → Option Int → Option Int → Hp → VK → Prop := fun x lo hi H Q => ∃ a xs, x = .ref a ∧ SqT K H a xs ∧
  (HT.sIx xs.length 0 lo = 0 ∧ HT.sIx xs.length xs.length hi = xs.length → Q (.ref a) H) ∧ (¬ (HT.sIx xs.length 0 lo = 0 ∧ HT.sIx xs.length xs.length hi = xs.length) → NewT (cutV xs lo hi) H Q)
theorem sl_tupN : SlR X (rSlN X.K) := by
  intro pins s σ H x v vl vu lo hi sl Q I rx hs pl pu h
  obtain ⟨a, xs, rfl, hx, q1, q2⟩ := h
  cases rx
  obtain ⟨its, r, ht, hz⟩ := I.tuple hx
  have hlen : its.toArray.size = xs.length := by rw [List.size_toArray]; exact r.length.symm
  refine ⟨"tuple", _, PyProof.Rows.slot_tuple_getitem.lookup, ht.typeIs, ?_⟩
  by_cases hw : HT.sIx xs.length 0 lo = 0 ∧ HT.sIx xs.length xs.length hi = xs.length
  · exact getItem_tuple_whole ht hs pl pu (by rw [hlen]; exact hw) ⟨.ref a, H, I, rfl, q1 hw⟩
  · refine HT.getItem_tuple_cut ht hs pl pu (by rw [hlen]; exact hw) ?_ (by rw [hlen]; exact hz)
    rw [hlen]
    exact laid_tup (tk := s.toks) I (Nat.le_trans (cutV_length xs lo hi) hz) ((r.drop (HT.sIx xs.length 0 lo)).take (HT.sIx xs.length xs.length hi - HT.sIx xs.length 0 lo)) (q2 hw)
/-- tuple(x), x a list or a tuple -/
theorem call_tupleN : CallR X (.type "tuple") (fun xs H Q => ∃ p ys, xs = [.ref p] ∧ ((SqL X.K H p ys ∧ NewT ys H Q) ∨ (SqT X.K H p ys ∧ Q (.ref p) H))) := by
  intro pins s σ H xs us Q I r h
  obtain ⟨p, ys, rfl, h⟩ := h
  obtain ⟨u, rfl, rx⟩ := vals1 r
  cases rx
  rcases h with ⟨hq, q⟩ | ⟨hq, q⟩
  · obtain ⟨its, r', pl, hz⟩ := I.list hq
    have hlen := r'.length
    refine call_tuple_list pl.isList (fun h' kp => ?_) (by simp only [List.size_toArray] <;> omega)
    exact laid_tup (tk := s.toks) (I.kept (t' := s.toks) kp) hz r' q
  · obtain ⟨its, r', pl, hz⟩ := I.tuple hq
    exact call_tuple_same pl ⟨.ref p, H, I, rfl, q⟩
/-- x.partition(sep) -/
theorem mt_partitionN : MtR X "str.partition" (fun x xs H Q => ∃ a b, x = .str a ∧ xs = [.str b] ∧ (b.length == 0) = false ∧ a.length ≤ sizeLine ∧
    NewT [.str (Txt.partition a b).1, .str (Txt.partition a b).2.1, .str (Txt.partition a b).2.2] H Q) := by
  intro pins s σ H x xs v us Q I rx rs h
  obtain ⟨a, b, rfl, rfl, hb, hz, h⟩ := h
  obtain ⟨t, rfl⟩ := rx
  cases rs with
  | cons r1 rs =>
    cases rs
    obtain ⟨u, rfl⟩ := r1
    refine call_meets F.slot_str_partition (typeIs_str _ _ _) F.entry_str_partition (F.args_str_partition_2 _ _) (meets_str_partition a b t u hb hz) ?_
    unfold Txt.partition at h
    revert h
    have few : ∀ {x y z : Str}, [V.str x, V.str y, V.str z].length ≤ sizeLine := by intro x y z; show 3 ≤ sizeLine; decide
    cases Builtin.Str.occurrences a b 0 a.length 1 with
    | nil => intro h; exact laid_tup (its := [Value.str _ _, Value.str _ _, Value.str _ _]) I few (.cons ⟨_, rfl⟩ (.cons ⟨_, rfl⟩ (.cons ⟨_, rfl⟩ .nil))) h
    | cons i r => intro h; exact laid_tup (its := [Value.str _ _, Value.str _ _, Value.str _ _]) I few (.cons ⟨_, rfl⟩ (.cons ⟨_, rfl⟩ (.cons ⟨_, rfl⟩ .nil))) h
end
end L2

/-! Nd1: contents, frozen heaps, what stands in the slots. -/
namespace Nd
open PySem L2

abbrev Frag := PySem.W.Frag
abbrev AS := Addr → Prop

/-- an object of which no more is known than its address, and perhaps its own dict (a caught exception) -/
structure RfK where
  a : Addr
  x : Option (Addr × List (Str × V)) := none
/-- what a value holds: frozen data, or a thing of one's own (nothing else leads to it) -/
inductive C where
  | val (d : PyData)
  | tup (cs : List C)
  | lst (cs : List C)
  | dic (ks : List Key) (cs : List C)
  | obj (cl : Str) (ks : List Str) (cs : List C)
  | ref (a : RfK)
  | lam (n : Nat) (q : Str) (o : Addr → Addr → HO)

abbrev Env := List (Option C)

/-! ### frozen data: every tuple is known as the object it is, none has a dict -/
def SqN (F : Hp) (a : Addr) (xs : List V) : Prop := ∃ o : Obj, F a = some (.frz o (.tup xs)) ∧ o.dict = none
theorem SqN.t {K : Frag} {F : Hp} {a : Addr} {xs : List V} (h : SqN F a xs) : SqT K F a xs := let ⟨o, e, _⟩ := h; .inl (.inr ⟨o, e⟩)
theorem SqN.mono {F F' : Hp} {a : Addr} {xs : List V} (e : Same F F') (h : SqN F a xs) : SqN F' a xs := let ⟨o, h, d⟩ := h; ⟨o, e _ _ h, d⟩
theorem SqN.new {F : Hp} {a : Addr} {o : Obj} {xs : List V} (d : o.dict = none) : SqN (upd F a (.frz o (.tup xs))) a xs := ⟨o, upd_same, d⟩
mutual
inductive Dn (K : PySem.W.Frag) (H : Hp) : V → PyData → Prop
  | non : Dn K H .non .none
  | bl (b : Bool) : Dn K H (.bl b) (.bool b)
  | int (i : Int) : Dn K H (.int i) (.int i)
  | str (x : Str) : Dn K H (.str x) (.str x)
  | lst {a : Addr} {xs : List V} {ds : List PyData} : SqL K H a xs → DnAll K H xs ds → Dn K H (.ref a) (.list ds)
  | tup {a : Addr} {xs : List V} {ds : List PyData} : SqN H a xs → DnAll K H xs ds → Dn K H (.ref a) (.tuple ds)
inductive DnAll (K : PySem.W.Frag) (H : Hp) : List V → List PyData → Prop
  | nil : DnAll K H [] []
  | cons {v : V} {vs : List V} {d : PyData} {ds : List PyData} : Dn K H v d → DnAll K H vs ds → DnAll K H (v :: vs) (d :: ds)
end
mutual
theorem Dn.dp {K : Frag} {F : Hp} : ∀ {d : PyData} {v : V}, Dn K F v d → Dp K F v d
  | .none, _, h => by cases h; exact .non
  | .bool _, _, h => by cases h; exact .bl _
  | .int _, _, h => by cases h; exact .int _
  | .str _, _, h => by cases h; exact .str _
  | .list ds, _, h => by
    cases h with
    | lst s a => exact .lst s (DnAll.dp a)
  | .tuple ds, _, h => by
    cases h with
    | tup s a => exact .tup s.t (DnAll.dp a)
  | .dict _, _, h => by cases h
theorem DnAll.dp {K : Frag} {F : Hp} : ∀ {ds : List PyData} {vs : List V}, DnAll K F vs ds → DpAll K F vs ds
  | [], _, h => by cases h; exact .nil
  | d :: ds, _, h => by
    cases h with
    | cons a b => exact .cons (Dn.dp a) (DnAll.dp b)
end
mutual
theorem Dn.mono {K : Frag} {F F' : Hp} (e : Same F F') : ∀ {d : PyData} {v : V}, Dn K F v d → Dn K F' v d
  | .none, _, h => by cases h; exact .non
  | .bool _, _, h => by cases h; exact .bl _
  | .int _, _, h => by cases h; exact .int _
  | .str _, _, h => by cases h; exact .str _
  | .list ds, _, h => by
    cases h with
    | lst s a => exact .lst (e.seq s) (DnAll.mono e a)
  | .tuple ds, _, h => by
    cases h with
    | tup s a => exact .tup (s.mono e) (DnAll.mono e a)
  | .dict _, _, h => by cases h
theorem DnAll.mono {K : Frag} {F F' : Hp} (e : Same F F') : ∀ {ds : List PyData} {vs : List V}, DnAll K F vs ds → DnAll K F' vs ds
  | [], _, h => by cases h; exact .nil
  | d :: ds, _, h => by
    cases h with
    | cons a b => exact .cons (Dn.mono e a) (DnAll.mono e b)
end
theorem DnAll.length {K : Frag} {F : Hp} : ∀ {ds : List PyData} {vs : List V}, DnAll K F vs ds → vs.length = ds.length
  | [], _, h => by cases h; rfl
  | d :: ds, _, h => by
    cases h with
    | cons a b => simp [DnAll.length b]
theorem DnAll.get {K : Frag} {F : Hp} : ∀ {ds : List PyData} {vs : List V} {i : Nat} {d : PyData}, DnAll K F vs ds → ds[i]? = some d → ∃ v, vs[i]? = some v ∧ Dn K F v d
  | [], _, i, d, h, e => by simp at e
  | d :: ds, _, 0, d', h, e => by
    cases h with
    | cons a b => simp at e; subst e; exact ⟨_, rfl, a⟩
  | d :: ds, _, i + 1, d', h, e => by
    cases h with
    | cons a b =>
      obtain ⟨v, e1, q⟩ := DnAll.get (i := i) b (by simpa using e)
      exact ⟨v, by simpa using e1, q⟩
theorem DnAll.get' {K : Frag} {F : Hp} {ds : List PyData} {vs : List V} {i : Nat} {v : V} (h : DnAll K F vs ds) (e : vs[i]? = some v) : ∃ d, ds[i]? = some d ∧ Dn K F v d := by
  have hi : i < ds.length := by rw [← DnAll.length h]; exact (List.getElem?_eq_some_iff.mp e).1
  obtain ⟨w, e1, q⟩ := DnAll.get h (List.getElem?_eq_getElem hi)
  rw [e] at e1; cases e1
  exact ⟨_, List.getElem?_eq_getElem hi, q⟩
theorem DnAll.append {K : Frag} {F : Hp} : ∀ {ds es : List PyData} {vs us : List V}, DnAll K F vs ds → DnAll K F us es → DnAll K F (vs ++ us) (ds ++ es)
  | [], _, _, _, h, q => by cases h; exact q
  | d :: ds, _, _, _, h, q => by
    cases h with
    | cons a b => exact .cons a (DnAll.append b q)
theorem DnAll.take {K : Frag} {F : Hp} : ∀ (n : Nat) {ds : List PyData} {vs : List V}, DnAll K F vs ds → DnAll K F (vs.take n) (ds.take n)
  | 0, _, _, h => by simp; exact .nil
  | n + 1, [], _, h => by cases h; exact .nil
  | n + 1, d :: ds, _, h => by
    cases h with
    | cons a b => exact .cons a (DnAll.take n b)
theorem DnAll.drop {K : Frag} {F : Hp} : ∀ (n : Nat) {ds : List PyData} {vs : List V}, DnAll K F vs ds → DnAll K F (vs.drop n) (ds.drop n)
  | 0, _, _, h => by simpa using h
  | n + 1, [], _, h => by cases h; exact .nil
  | n + 1, d :: ds, _, h => by
    cases h with
    | cons a b => exact DnAll.drop n b

/-- data whose texts are texts -/
def Dq (K : Frag) (F : Hp) (v : V) (d : PyData) : Prop := Dn K F v d ∧ d.canLay0 = true
def DqAll (K : Frag) (F : Hp) (vs : List V) (ds : List PyData) : Prop := DnAll K F vs ds ∧ PyData.canLayAll0 ds = true
section
variable {K : Frag} {F F' : Hp}
theorem lay_cons {d : PyData} {ds : List PyData} : PyData.canLayAll0 (d :: ds) = true ↔ d.canLay0 = true ∧ PyData.canLayAll0 ds = true := by simp [PyData.canLayAll0]
theorem lay_mem : ∀ {ds : List PyData}, PyData.canLayAll0 ds = true ↔ ∀ d ∈ ds, d.canLay0 = true
  | [] => by simp [PyData.canLayAll0]
  | d :: ds => by
    rw [lay_cons, lay_mem (ds := ds)]
    simp
theorem Dq.dp {v : V} {d : PyData} (h : Dq K F v d) : Dp K F v d := h.1.dp
theorem Dq.mono {v : V} {d : PyData} (e : Same F F') (h : Dq K F v d) : Dq K F' v d := ⟨Dn.mono e h.1, h.2⟩
theorem DqAll.mono {vs : List V} {ds : List PyData} (e : Same F F') (h : DqAll K F vs ds) : DqAll K F' vs ds := ⟨DnAll.mono e h.1, h.2⟩
theorem Dq.non : Dq K F .non .none := ⟨.non, rfl⟩
theorem Dq.bl (b : Bool) : Dq K F (.bl b) (.bool b) := ⟨.bl b, rfl⟩
theorem Dq.int (i : Int) : Dq K F (.int i) (.int i) := ⟨.int i, rfl⟩
theorem Dq.str {x : Str} (h : PyData.canLay0 (.str x) = true) : Dq K F (.str x) (.str x) := ⟨.str x, h⟩
theorem Dq.lst {a : Addr} {xs : List V} {ds : List PyData} (s : SqL K F a xs) (h : DqAll K F xs ds) : Dq K F (.ref a) (.list ds) := ⟨.lst s h.1, by simpa [PyData.canLay0] using h.2⟩
theorem Dq.tup {a : Addr} {xs : List V} {ds : List PyData} (s : SqN F a xs) (h : DqAll K F xs ds) : Dq K F (.ref a) (.tuple ds) := ⟨.tup s h.1, by simpa [PyData.canLay0] using h.2⟩
theorem DqAll.nil : DqAll K F [] [] := ⟨.nil, rfl⟩
theorem DqAll.cons {v : V} {vs : List V} {d : PyData} {ds : List PyData} (a : Dq K F v d) (b : DqAll K F vs ds) : DqAll K F (v :: vs) (d :: ds) := ⟨.cons a.1 b.1, lay_cons.mpr ⟨a.2, b.2⟩⟩
theorem DqAll.length {ds : List PyData} {vs : List V} (h : DqAll K F vs ds) : vs.length = ds.length := DnAll.length h.1
theorem DqAll.get {ds : List PyData} {vs : List V} {i : Nat} {d : PyData} (h : DqAll K F vs ds) (e : ds[i]? = some d) : ∃ v, vs[i]? = some v ∧ Dq K F v d := by
  obtain ⟨v, e1, q⟩ := DnAll.get h.1 e
  exact ⟨v, e1, q, lay_mem.mp h.2 d (List.mem_of_getElem? e)⟩
theorem DqAll.get' {ds : List PyData} {vs : List V} {i : Nat} {v : V} (h : DqAll K F vs ds) (e : vs[i]? = some v) : ∃ d, ds[i]? = some d ∧ Dq K F v d := by
  obtain ⟨d, e1, q⟩ := DnAll.get' h.1 e
  exact ⟨d, e1, q, lay_mem.mp h.2 d (List.mem_of_getElem? e1)⟩
theorem DqAll.append {ds es : List PyData} {vs us : List V} (h : DqAll K F vs ds) (q : DqAll K F us es) : DqAll K F (vs ++ us) (ds ++ es) := ⟨DnAll.append h.1 q.1, lay_mem.mpr fun d m => (List.mem_append.mp m).elim (lay_mem.mp h.2 d) (lay_mem.mp q.2 d)⟩
theorem DqAll.take (n : Nat) {ds : List PyData} {vs : List V} (h : DqAll K F vs ds) : DqAll K F (vs.take n) (ds.take n) := ⟨DnAll.take n h.1, lay_mem.mpr fun d m => lay_mem.mp h.2 d (List.mem_of_mem_take m)⟩
theorem DqAll.drop (n : Nat) {ds : List PyData} {vs : List V} (h : DqAll K F vs ds) : DqAll K F (vs.drop n) (ds.drop n) := ⟨DnAll.drop n h.1, lay_mem.mpr fun d m => lay_mem.mp h.2 d (List.mem_of_mem_drop m)⟩
/-- the kinds -/
theorem Dq.list_inv {v : V} {ds : List PyData} (h : Dq K F v (.list ds)) : ∃ a vs, v = .ref a ∧ SqL K F a vs ∧ DqAll K F vs ds := by
  obtain ⟨h, l⟩ := h
  cases h with
  | lst s a => exact ⟨_, _, rfl, s, a, by simpa [PyData.canLay0] using l⟩
theorem Dq.tup_inv {v : V} {ds : List PyData} (h : Dq K F v (.tuple ds)) : ∃ a vs, v = .ref a ∧ SqN F a vs ∧ DqAll K F vs ds := by
  obtain ⟨h, l⟩ := h
  cases h with
  | tup s a => exact ⟨_, _, rfl, s, a, by simpa [PyData.canLay0] using l⟩
theorem Dq.int_inv {v : V} {i : Int} (h : Dq K F v (.int i)) : v = .int i := by cases h.1; rfl
theorem Dq.str_inv {v : V} {x : Str} (h : Dq K F v (.str x)) : v = .str x ∧ PyData.canLay0 (.str x) = true := by
  have l := h.2
  cases h.1
  exact ⟨rfl, l⟩
theorem Dq.bl_inv {v : V} {b : Bool} (h : Dq K F v (.bool b)) : v = .bl b := by cases h.1; rfl
theorem Dq.non_inv {v : V} (h : Dq K F v .none) : v = .non := by cases h.1; rfl
theorem SqT.mono {a : Addr} {xs : List V} (e : Same F F') (s : SqT K F a xs) : SqT K F' a xs := by
  rcases s with (s | ⟨o, s⟩) | s
  · exact .inl (.inl (e _ _ s))
  · exact .inl (.inr ⟨o, e _ _ s⟩)
  · exact .inr s
end

/-! ### contents -/
section
variable (K : Frag) (mg : Str → Option Value) (F H : Hp)
mutual
def Rc : C → V → AS → Prop
  | .val d, v, fp => Dq K F v d ∧ ∀ a, ¬ fp a
  | .tup cs, v, fp => ∃ a vs f, v = .ref a ∧ SqN H a vs ∧ F a = none ∧ Rcs cs vs f ∧ ¬ f a ∧ ∀ b, fp b ↔ b = a ∨ f b
  | .lst cs, v, fp => ∃ a vs f, v = .ref a ∧ H a = some (.lst vs) ∧ F a = none ∧ Rcs cs vs f ∧ ¬ f a ∧ ∀ b, fp b ↔ b = a ∨ f b
  | .dic ks cs, v, fp => ∃ a vs f, v = .ref a ∧ H a = some (.dK (ks.zip vs)) ∧ F a = none ∧ vs.length = ks.length ∧ Rcs cs vs f ∧ ¬ f a ∧ ∀ b, fp b ↔ b = a ∨ f b
  | .obj cl ks cs, v, fp => ∃ a dx c vs f, v = .ref a ∧ mg cl = some (.ref c) ∧ H a = some (.ins c dx (ks.zip vs)) ∧ F a = none ∧ vs.length = ks.length ∧ Rcs cs vs f ∧ ¬ f a ∧ ∀ b, fp b ↔ b = a ∨ f b
  | .ref r, v, fp => (v = .ref r.a ∧ ∀ p, r.x = some p → F p.1 = some (.xd p.2)) ∧ ∀ b, ¬ fp b
  | .lam _ q o, v, fp => (∃ f c, v = .ref f ∧ F f = some (o f c) ∧ F c = some (LamX.CodeO c q)) ∧ ∀ b, ¬ fp b
def Rcs : List C → List V → AS → Prop
  | [], vs, fp => vs = [] ∧ ∀ a, ¬ fp a
  | c :: cs, vs, fp => ∃ v r f1 f2, vs = v :: r ∧ Rc c v f1 ∧ Rcs cs r f2 ∧ (∀ a, f1 a → ¬ f2 a) ∧ ∀ a, fp a ↔ f1 a ∨ f2 a
end
/-- what stands in the slots -/
def Re0 : Env → St → AS → Prop
  | [], σ, fp => σ = [] ∧ ∀ a, ¬ fp a
  | none :: ρ, σ, fp => ∃ x σ', σ = x :: σ' ∧ Re0 ρ σ' fp
  | some c :: ρ, σ, fp => ∃ v σ' f1 f2, σ = some v :: σ' ∧ Rc K mg F H c v f1 ∧ Re0 ρ σ' f2 ∧ (∀ a, f1 a → ¬ f2 a) ∧ ∀ a, fp a ↔ f1 a ∨ f2 a
end

section
variable {K : Frag} {mg : Str → Option Value} {F H F' H' : Hp}
theorem Rc.iff : ∀ {c : C} {v : V} {fp fp' : AS}, Rc K mg F H c v fp → (∀ a, fp' a ↔ fp a) → Rc K mg F H c v fp'
  | .val d, v, fp, fp', h, e => by
    simp only [Rc] at h ⊢
    exact ⟨h.1, fun a q => h.2 a ((e a).mp q)⟩
  | .tup cs, v, fp, fp', h, e => by
    simp only [Rc] at h ⊢
    obtain ⟨a, vs, f, h1, h2, h3, h4, h5, h6⟩ := h
    exact ⟨a, vs, f, h1, h2, h3, h4, h5, fun b => (e b).trans (h6 b)⟩
  | .lst cs, v, fp, fp', h, e => by
    simp only [Rc] at h ⊢
    obtain ⟨a, vs, f, h1, h2, h3, h4, h5, h6⟩ := h
    exact ⟨a, vs, f, h1, h2, h3, h4, h5, fun b => (e b).trans (h6 b)⟩
  | .dic ks cs, v, fp, fp', h, e => by
    simp only [Rc] at h ⊢
    obtain ⟨a, vs, f, h1, h2, h3, h4, h5, h6, h7⟩ := h
    exact ⟨a, vs, f, h1, h2, h3, h4, h5, h6, fun b => (e b).trans (h7 b)⟩
  | .obj cl ks cs, v, fp, fp', h, e => by
    simp only [Rc] at h ⊢
    obtain ⟨a, dx, c, vs, f, h1, h2, h3, h4, h5, h6, h7, h8⟩ := h
    exact ⟨a, dx, c, vs, f, h1, h2, h3, h4, h5, h6, h7, fun b => (e b).trans (h8 b)⟩
  | .ref a, v, fp, fp', h, e => by
    simp only [Rc] at h ⊢
    exact ⟨h.1, fun a q => h.2 a ((e a).mp q)⟩
  | .lam n q o, v, fp, fp', h, e => by
    simp only [Rc] at h ⊢
    exact ⟨h.1, fun a q => h.2 a ((e a).mp q)⟩
theorem Rcs.iff : ∀ {cs : List C} {vs : List V} {fp fp' : AS}, Rcs K mg F H cs vs fp → (∀ a, fp' a ↔ fp a) → Rcs K mg F H cs vs fp'
  | [], vs, fp, fp', h, e => by
    simp only [Rcs] at h ⊢
    exact ⟨h.1, fun a q => h.2 a ((e a).mp q)⟩
  | c :: cs, vs, fp, fp', h, e => by
    simp only [Rcs] at h ⊢
    obtain ⟨v, r, f1, f2, h1, h2, h3, h4, h5⟩ := h
    exact ⟨v, r, f1, f2, h1, h2, h3, h4, fun a => (e a).trans (h5 a)⟩
theorem Re0.iff : ∀ {ρ : Env} {σ : St} {fp fp' : AS}, Re0 K mg F H ρ σ fp → (∀ a, fp' a ↔ fp a) → Re0 K mg F H ρ σ fp'
  | [], σ, fp, fp', h, e => ⟨h.1, fun a q => h.2 a ((e a).mp q)⟩
  | none :: ρ, σ, fp, fp', h, e => by
    obtain ⟨x, σ', h1, h2⟩ := h
    exact ⟨x, σ', h1, Re0.iff h2 e⟩
  | some c :: ρ, σ, fp, fp', h, e => by
    obtain ⟨v, r, f1, f2, h1, h2, h3, h4, h5⟩ := h
    exact ⟨v, r, f1, f2, h1, h2, h3, h4, fun a => (e a).trans (h5 a)⟩

mutual
/-- what is one's own stands there and isn't frozen -/
theorem Rc.own : ∀ {c : C} {v : V} {fp : AS}, Rc K mg F H c v fp → ∀ a, fp a → F a = none ∧ ∃ o, H a = some o
  | .val d, v, fp, h, a, q => by simp only [Rc] at h; exact (h.2 a q).elim
  | .tup cs, v, fp, h, a, q => by
    simp only [Rc] at h
    obtain ⟨a', vs, f, h1, ⟨o, h2, _⟩, h3, h4, h5, h6⟩ := h
    rcases (h6 a).mp q with e | e
    · subst e; exact ⟨h3, _, h2⟩
    · exact Rcs.own h4 a e
  | .lst cs, v, fp, h, a, q => by
    simp only [Rc] at h
    obtain ⟨a', vs, f, h1, h2, h3, h4, h5, h6⟩ := h
    rcases (h6 a).mp q with e | e
    · subst e; exact ⟨h3, _, h2⟩
    · exact Rcs.own h4 a e
  | .dic ks cs, v, fp, h, a, q => by
    simp only [Rc] at h
    obtain ⟨a', vs, f, h1, h2, h3, h4, h5, h6, h7⟩ := h
    rcases (h7 a).mp q with e | e
    · subst e; exact ⟨h3, _, h2⟩
    · exact Rcs.own h5 a e
  | .obj cl ks cs, v, fp, h, a, q => by
    simp only [Rc] at h
    obtain ⟨a', dx, c, vs, f, h1, h2, h3, h4, h5, h6, h7, h8⟩ := h
    rcases (h8 a).mp q with e | e
    · subst e; exact ⟨h4, _, h3⟩
    · exact Rcs.own h6 a e
  | .ref b, v, fp, h, a, q => by simp only [Rc] at h; exact (h.2 a q).elim
  | .lam n _ o, v, fp, h, a, q => by simp only [Rc] at h; exact (h.2 a q).elim
theorem Rcs.own : ∀ {cs : List C} {vs : List V} {fp : AS}, Rcs K mg F H cs vs fp → ∀ a, fp a → F a = none ∧ ∃ o, H a = some o
  | [], vs, fp, h, a, q => by simp only [Rcs] at h; exact (h.2 a q).elim
  | c :: cs, vs, fp, h, a, q => by
    simp only [Rcs] at h
    obtain ⟨v, r, f1, f2, h1, h2, h3, h4, h5⟩ := h
    rcases (h5 a).mp q with e | e
    · exact Rc.own h2 a e
    · exact Rcs.own h3 a e
end
theorem Re0.own : ∀ {ρ : Env} {σ : St} {fp : AS}, Re0 K mg F H ρ σ fp → ∀ a, fp a → F a = none ∧ ∃ o, H a = some o
  | [], σ, fp, h, a, q => (h.2 a q).elim
  | none :: ρ, σ, fp, h, a, q => by
    obtain ⟨x, σ', h1, h2⟩ := h
    exact Re0.own h2 a q
  | some c :: ρ, σ, fp, h, a, q => by
    obtain ⟨v, r, f1, f2, h1, h2, h3, h4, h5⟩ := h
    rcases (h5 a).mp q with e | e
    · exact Rc.own h2 a e
    · exact Re0.own h3 a e

mutual
/-- what stands at one's own places alone matters -/
theorem Rc.frame (e : Same F F') : ∀ {c : C} {v : V} {fp : AS}, Rc K mg F H c v fp → (∀ a, fp a → H' a = H a ∧ F' a = F a) → Rc K mg F' H' c v fp
  | .val d, v, fp, h, k => by
    simp only [Rc] at h ⊢
    exact ⟨Dq.mono e h.1, h.2⟩
  | .tup cs, v, fp, h, k => by
    simp only [Rc] at h ⊢
    obtain ⟨a, vs, f, h1, ⟨o, h2, dn⟩, h3, h4, h5, h6⟩ := h
    have ka := k a ((h6 a).mpr (.inl rfl))
    exact ⟨a, vs, f, h1, ⟨o, ka.1.trans h2, dn⟩, ka.2.trans h3, Rcs.frame e h4 fun b q => k b ((h6 b).mpr (.inr q)), h5, h6⟩
  | .lst cs, v, fp, h, k => by
    simp only [Rc] at h ⊢
    obtain ⟨a, vs, f, h1, h2, h3, h4, h5, h6⟩ := h
    have ka := k a ((h6 a).mpr (.inl rfl))
    exact ⟨a, vs, f, h1, ka.1.trans h2, ka.2.trans h3, Rcs.frame e h4 fun b q => k b ((h6 b).mpr (.inr q)), h5, h6⟩
  | .dic ks cs, v, fp, h, k => by
    simp only [Rc] at h ⊢
    obtain ⟨a, vs, f, h1, h2, h3, h4, h5, h6, h7⟩ := h
    have ka := k a ((h7 a).mpr (.inl rfl))
    exact ⟨a, vs, f, h1, ka.1.trans h2, ka.2.trans h3, h4, Rcs.frame e h5 fun b q => k b ((h7 b).mpr (.inr q)), h6, h7⟩
  | .obj cl ks cs, v, fp, h, k => by
    simp only [Rc] at h ⊢
    obtain ⟨a, dx, c, vs, f, h1, h2, h3, h4, h5, h6, h7, h8⟩ := h
    have ka := k a ((h8 a).mpr (.inl rfl))
    exact ⟨a, dx, c, vs, f, h1, h2, ka.1.trans h3, ka.2.trans h4, h5, Rcs.frame e h6 fun b q => k b ((h8 b).mpr (.inr q)), h7, h8⟩
  | .ref b, v, fp, h, k => by
    simp only [Rc] at h ⊢
    exact ⟨⟨h.1.1, fun p q => e _ _ (h.1.2 p q)⟩, h.2⟩
  | .lam n q o, v, fp, h, k => by
    simp only [Rc] at h ⊢
    obtain ⟨⟨f, c, h1, h2, h4⟩, h3⟩ := h
    exact ⟨⟨f, c, h1, e _ _ h2, e _ _ h4⟩, h3⟩
theorem Rcs.frame (e : Same F F') : ∀ {cs : List C} {vs : List V} {fp : AS}, Rcs K mg F H cs vs fp → (∀ a, fp a → H' a = H a ∧ F' a = F a) → Rcs K mg F' H' cs vs fp
  | [], vs, fp, h, k => by
    simp only [Rcs] at h ⊢
    exact h
  | c :: cs, vs, fp, h, k => by
    simp only [Rcs] at h ⊢
    obtain ⟨v, r, f1, f2, h1, h2, h3, h4, h5⟩ := h
    exact ⟨v, r, f1, f2, h1, Rc.frame e h2 fun a q => k a ((h5 a).mpr (.inl q)), Rcs.frame e h3 fun a q => k a ((h5 a).mpr (.inr q)), h4, h5⟩
end
theorem Re0.frame (e : Same F F') : ∀ {ρ : Env} {σ : St} {fp : AS}, Re0 K mg F H ρ σ fp → (∀ a, fp a → H' a = H a ∧ F' a = F a) → Re0 K mg F' H' ρ σ fp
  | [], σ, fp, h, k => h
  | none :: ρ, σ, fp, h, k => by
    obtain ⟨x, σ', h1, h2⟩ := h
    exact ⟨x, σ', h1, Re0.frame e h2 k⟩
  | some c :: ρ, σ, fp, h, k => by
    obtain ⟨v, r, f1, f2, h1, h2, h3, h4, h5⟩ := h
    exact ⟨v, r, f1, f2, h1, Rc.frame e h2 fun a q => k a ((h5 a).mpr (.inl q)), Re0.frame e h3 fun a q => k a ((h5 a).mpr (.inr q)), h4, h5⟩
theorem Re0.length : ∀ {ρ : Env} {σ : St} {fp : AS}, Re0 K mg F H ρ σ fp → σ.length = ρ.length
  | [], σ, fp, h => by rw [h.1]; rfl
  | none :: ρ, σ, fp, h => by
    obtain ⟨x, σ', h1, h2⟩ := h
    rw [h1]; simp [Re0.length h2]
  | some c :: ρ, σ, fp, h => by
    obtain ⟨v, r, f1, f2, h1, h2, h3, h4, h5⟩ := h
    rw [h1]; simp [Re0.length h3]

/-- what a slot holds, new -/
def Slot (K : Frag) (mg : Str → Option Value) (F H : Hp) (oc : Option C) (ov : Option V) (f : AS) : Prop :=
  match oc with
  | none => ∀ a, ¬ f a
  | some c => ∃ v, ov = some v ∧ Rc K mg F H c v f

/-- THE FOCUS: the i-th slot, taken out and put back -/
theorem Re0.focus : ∀ {ρ : Env} {σ : St} {fp : AS} {i : Nat} {oc : Option C}, Re0 K mg F H ρ σ fp → ρ[i]? = some oc →
    ∃ (ov : Option V) (f1 f2 : AS), σ[i]? = some ov ∧ Slot K mg F H oc ov f1 ∧ (∀ a, f1 a → ¬ f2 a) ∧ (∀ a, fp a ↔ f1 a ∨ f2 a) ∧
      ∀ (oc' : Option C) (ov' : Option V) (F' H' : Hp) (f1' : AS), Same F F' → (∀ a, f2 a → H' a = H a ∧ F' a = F a) → Slot K mg F' H' oc' ov' f1' → (∀ a, f1' a → ¬ f2 a) →
        Re0 K mg F' H' (ρ.set i oc') (σ.set i ov') (fun a => f1' a ∨ f2 a)
  | [], σ, fp, i, oc, h, e => by simp at e
  | none :: ρ, σ, fp, 0, oc, h, e => by
    simp at e; subst e
    obtain ⟨x, σ', h1, h2⟩ := h
    subst h1
    refine ⟨x, fun _ => False, fp, rfl, fun _ z => z, fun _ z => z.elim, fun a => by simp, fun oc' ov' F' H' f1' se k sl dj => ?_⟩
    simp only [List.set_cons_zero]
    cases oc' with
    | none => exact ⟨ov', σ', rfl, (Re0.frame se h2 k).iff fun a => ⟨fun z => z.elim (fun q => (sl a q).elim) id, .inr⟩⟩
    | some c =>
      obtain ⟨v, e, r⟩ := sl
      subst e
      exact ⟨v, σ', f1', fp, rfl, r, Re0.frame se h2 k, dj, fun a => Iff.rfl⟩
  | some c :: ρ, σ, fp, 0, oc, h, e => by
    simp at e; subst e
    obtain ⟨v, σ', f1, f2, h1, h2, h3, h4, h5⟩ := h
    subst h1
    refine ⟨some v, f1, f2, rfl, ⟨v, rfl, h2⟩, h4, h5, fun oc' ov' F' H' f1' se k sl dj => ?_⟩
    simp only [List.set_cons_zero]
    cases oc' with
    | none => exact ⟨ov', σ', rfl, (Re0.frame se h3 k).iff fun a => ⟨fun z => z.elim (fun q => (sl a q).elim) id, .inr⟩⟩
    | some c =>
      obtain ⟨v, e, r⟩ := sl
      subst e
      exact ⟨v, σ', f1', f2, rfl, r, Re0.frame se h3 k, dj, fun a => Iff.rfl⟩
  | none :: ρ, σ, fp, i + 1, oc, h, e => by
    obtain ⟨x, σ', h1, h2⟩ := h
    subst h1
    obtain ⟨ov, f1, f2, q1, q2, q3, q4, q5⟩ := Re0.focus (i := i) h2 (by simpa using e)
    exact ⟨ov, f1, f2, by simpa using q1, q2, q3, q4, fun oc' ov' F' H' f1' se k sl dj => ⟨x, _, rfl, q5 oc' ov' F' H' f1' se k sl dj⟩⟩
  | some c :: ρ, σ, fp, i + 1, oc, h, e => by
    obtain ⟨v, σ', g1, g2, h1, h2, h3, h4, h5⟩ := h
    subst h1
    obtain ⟨ov, f1, f2, q1, q2, q3, q4, q5⟩ := Re0.focus (i := i) h3 (by simpa using e)
    refine ⟨ov, f1, fun a => g1 a ∨ f2 a, by simpa using q1, q2, fun a z y => ?_, fun a => ?_, fun oc' ov' F' H' f1' se k sl dj => ?_⟩
    · rcases y with y | y
      · exact h4 a y ((q4 a).mpr (.inl z))
      · exact q3 a z y
    · rw [h5 a, q4 a]
      exact ⟨fun z => z.elim (fun y => .inr (.inl y)) fun y => y.elim .inl fun y => .inr (.inr y), fun z => z.elim (fun y => .inr (.inl y)) fun y => y.elim .inl fun y => .inr (.inr y)⟩
    · refine ⟨v, _, g1, _, rfl, Rc.frame se h2 fun a z => k a (.inl z), q5 oc' ov' F' H' f1' se (fun a z => k a (.inr z)) sl fun a z y => dj a z (.inr y), fun a z y => ?_, fun a => ?_⟩
      · rcases y with y | y
        · exact dj a y (.inl z)
        · exact h4 a z ((q4 a).mpr (.inr y))
      · exact ⟨fun z => z.elim (fun y => .inr (.inl y)) fun y => y.elim .inl fun y => .inr (.inr y), fun z => z.elim (fun y => .inr (.inl y)) fun y => y.elim .inl fun y => .inr (.inr y)⟩
end

/-! ### the tables of code objects -/
/-- the defs that make lambdas, with their lambdas' qualified names -/
class TF where
  tf : List (He.Defn × Str)
def tabs [TF] (K : Frag) : List (Addr × Str) := TF.tf.map fun p => ((He.cT K p.1).2, p.2)
/-- the tables; the code objects that they tell are frozen -/
def Tb [TF] (K : Frag) (F H : Hp) (fp : AS) : Prop := (∀ a, fp a ↔ ∃ q, (a, q) ∈ tabs K) ∧
  ∀ p ∈ tabs K, F p.1 = none ∧ ∃ ps, H p.1 = some (.tbl ps) ∧ TriplesOk ps.toList ∧ ∀ (pos : Pos) (cv : Value), codeAmong pos ps.toList = some cv → ∃ c, cv = .ref c ∧ F c = some (LamX.CodeO c p.2)
section
variable [TF] {K : Frag} {mg : Str → Option Value} {F H F' H' : Hp}
theorem Tb.iff {fp fp' : AS} (h : Tb K F H fp) (e : ∀ a, fp' a ↔ fp a) : Tb K F H fp' := ⟨fun a => (e a).trans (h.1 a), h.2⟩
theorem Tb.own {fp : AS} (h : Tb K F H fp) : ∀ a, fp a → F a = none ∧ ∃ o, H a = some o := fun a z => by
  obtain ⟨q, m⟩ := (h.1 a).mp z
  obtain ⟨e1, ps, e2, _⟩ := h.2 _ m
  exact ⟨e1, _, e2⟩
theorem Tb.frame (e : Same F F') {fp : AS} (h : Tb K F H fp) (k : ∀ a, fp a → H' a = H a ∧ F' a = F a) : Tb K F' H' fp := by
  refine ⟨h.1, fun p m => ?_⟩
  obtain ⟨e1, ps, e2, e3, e4⟩ := h.2 p m
  have ka := k p.1 ((h.1 _).mpr ⟨p.2, m⟩)
  refine ⟨ka.2.trans e1, ps, ka.1.trans e2, e3, fun pos cv hc => ?_⟩
  obtain ⟨c, c1, c2⟩ := e4 pos cv hc
  exact ⟨c, c1, e _ _ c2⟩
/-- what stands in the slots, and the tables -/
def Re (K : Frag) (mg : Str → Option Value) (F H : Hp) (ρ : Env) (σ : St) (fp : AS) : Prop := ∃ f1 f2, Re0 K mg F H ρ σ f1 ∧ Tb K F H f2 ∧ (∀ a, f1 a → ¬ f2 a) ∧ ∀ a, fp a ↔ f1 a ∨ f2 a
theorem Re.iff {ρ : Env} {σ : St} {fp fp' : AS} (h : Re K mg F H ρ σ fp) (e : ∀ a, fp' a ↔ fp a) : Re K mg F H ρ σ fp' := by
  obtain ⟨f1, f2, h1, h2, h3, h4⟩ := h
  exact ⟨f1, f2, h1, h2, h3, fun a => (e a).trans (h4 a)⟩
theorem Re.own {ρ : Env} {σ : St} {fp : AS} (h : Re K mg F H ρ σ fp) : ∀ a, fp a → F a = none ∧ ∃ o, H a = some o := fun a z => by
  obtain ⟨f1, f2, h1, h2, h3, h4⟩ := h
  exact ((h4 a).mp z).elim (Re0.own h1 a) (h2.own a)
theorem Re.frame (e : Same F F') {ρ : Env} {σ : St} {fp : AS} (h : Re K mg F H ρ σ fp) (k : ∀ a, fp a → H' a = H a ∧ F' a = F a) : Re K mg F' H' ρ σ fp := by
  obtain ⟨f1, f2, h1, h2, h3, h4⟩ := h
  exact ⟨f1, f2, Re0.frame e h1 fun a z => k a ((h4 a).mpr (.inl z)), h2.frame e fun a z => k a ((h4 a).mpr (.inr z)), h3, h4⟩
theorem Re.length {ρ : Env} {σ : St} {fp : AS} (h : Re K mg F H ρ σ fp) : σ.length = ρ.length := by
  obtain ⟨f1, f2, h1, h2, h3, h4⟩ := h
  exact Re0.length h1
theorem Re.focus {ρ : Env} {σ : St} {fp : AS} {i : Nat} {oc : Option C} (h : Re K mg F H ρ σ fp) (e : ρ[i]? = some oc) :
    ∃ (ov : Option V) (f1 f2 : AS), σ[i]? = some ov ∧ Slot K mg F H oc ov f1 ∧ (∀ a, f1 a → ¬ f2 a) ∧ (∀ a, fp a ↔ f1 a ∨ f2 a) ∧
      ∀ (oc' : Option C) (ov' : Option V) (F' H' : Hp) (f1' : AS), Same F F' → (∀ a, f2 a → H' a = H a ∧ F' a = F a) → Slot K mg F' H' oc' ov' f1' → (∀ a, f1' a → ¬ f2 a) →
        Re K mg F' H' (ρ.set i oc') (σ.set i ov') (fun a => f1' a ∨ f2 a) := by
  obtain ⟨g1, g2, h1, h2, h3, h4⟩ := h
  obtain ⟨ov, f1, f2, q1, q2, q3, q4, put⟩ := Re0.focus h1 e
  refine ⟨ov, f1, fun a => f2 a ∨ g2 a, q1, q2, fun a z y => ?_, fun a => ?_, fun oc' ov' F' H' f1' se k sl dj => ?_⟩
  · rcases y with y | y
    · exact q3 a z y
    · exact h3 a ((q4 a).mpr (.inl z)) y
  · rw [h4 a, q4 a]
    exact ⟨fun z => z.elim (fun y => y.imp id .inl) fun y => .inr (.inr y), fun z => z.elim (fun y => .inl (.inl y)) fun y => y.elim (fun u => .inl (.inr u)) .inr⟩
  · refine ⟨fun a => f1' a ∨ f2 a, g2, put oc' ov' F' H' f1' se (fun a z => k a (.inl z)) sl (fun a z y => dj a z (.inl y)), h2.frame se fun a z => k a (.inr z), fun a z y => ?_, fun a => ?_⟩
    · rcases z with z | z
      · exact dj a z (.inr y)
      · exact h3 a ((q4 a).mpr (.inr z)) y
    · exact ⟨fun z => z.elim (fun y => .inl (.inl y)) fun y => y.elim (fun u => .inl (.inr u)) .inr, fun z => z.elim (fun y => y.imp id .inl) fun y => .inr (.inr y)⟩
/-- arguments' contents, and the tables -/
def Rct (K : Frag) (mg : Str → Option Value) (F H : Hp) (cs : List C) (vs : List V) (fp : AS) : Prop := ∃ f1 f2, Rcs K mg F H cs vs f1 ∧ Tb K F H f2 ∧ (∀ a, f1 a → ¬ f2 a) ∧ ∀ a, fp a ↔ f1 a ∨ f2 a
theorem Rct.own {cs : List C} {vs : List V} {fp : AS} (h : Rct K mg F H cs vs fp) : ∀ a, fp a → F a = none ∧ ∃ o, H a = some o := fun a z => by
  obtain ⟨f1, f2, h1, h2, h3, h4⟩ := h
  exact ((h4 a).mp z).elim (Rcs.own h1 a) (h2.own a)
end
structure Wd [TF] (K : Frag) (mg : Str → Option Value) (F H : Hp) (ρ : Env) (fp : AS) (σ : St) : Prop where
  sub : Same F H
  re : Re K mg F H ρ σ fp

/-! ### what an evaluation may change -/
structure Chg (fp : AS) (F H : Hp) (fp' : AS) (F' H' : Hp) : Prop where
  fz : Same F F'
  kp : ∀ a o, ¬ fp a → H a = some o → H' a = some o
  fn : ∀ a, ¬ fp a → H a ≠ none → F' a = F a
  nw : ∀ a, fp' a → fp a ∨ H a = none
theorem Chg.refl {fp : AS} {F H : Hp} : Chg fp F H fp F H := ⟨Same.refl _, fun _ _ _ e => e, fun _ _ _ => rfl, fun _ h => .inl h⟩
theorem Chg.trans {fp fp1 fp2 : AS} {F H F1 H1 F2 H2 : Hp} (x : Chg fp F H fp1 F1 H1) (y : Chg fp1 F1 H1 fp2 F2 H2) : Chg fp F H fp2 F2 H2 := by
  have n1 : ∀ a, ¬ fp a → H a ≠ none → ¬ fp1 a := fun a n e q => (x.nw a q).elim n e
  refine ⟨x.fz.trans y.fz, fun a o n e => ?_, fun a n e => ?_, fun a q => ?_⟩
  · exact y.kp a o (n1 a n (by rw [e]; simp)) (x.kp a o n e)
  · have h1 : H1 a ≠ none := by
      cases q : H a with
      | none => exact absurd q e
      | some o => rw [x.kp a o n q]; simp
    exact (y.fn a (n1 a n e) h1).trans (x.fn a n e)
  · rcases y.nw a q with z | z
    · exact x.nw a z
    · by_cases hf : fp a
      · exact .inl hf
      · right
        cases q : H a with
        | none => rfl
        | some o => rw [x.kp a o hf q] at z; cases z
theorem Chg.to {fp fp1 fp2 : AS} {F H F1 H1 : Hp} (x : Chg fp F H fp1 F1 H1) (h : ∀ a, fp2 a → fp1 a) : Chg fp F H fp2 F1 H1 := ⟨x.fz, x.kp, x.fn, fun a q => x.nw a (h a q)⟩
/-- a thing of one's own beside the slots stays -/
theorem Chg.aside {fp fp1 fv : AS} {F H F1 H1 : Hp} (x : Chg fp F H fp1 F1 H1) (o : ∀ a, fv a → ∃ o, H a = some o) (d : ∀ a, fv a → ¬ fp a) : (∀ a, fv a → H1 a = H a ∧ F1 a = F a) ∧ ∀ a, fv a → ¬ fp1 a := by
  refine ⟨fun a q => ?_, fun a q z => ?_⟩
  · obtain ⟨ob, e⟩ := o a q
    exact ⟨by rw [x.kp a ob (d a q) e, e], x.fn a (d a q) (by rw [e]; simp)⟩
  · obtain ⟨ob, e⟩ := o a q
    rcases x.nw a z with y | y
    · exact d a q y
    · rw [e] at y; cases y
/-- nothing but new things -/
structure Frs (F H F' H' : Hp) : Prop where
  fz : Same F F'
  sub : Same F' H'
  kp : Same H H'
  fn : ∀ a, H a ≠ none → F' a = F a
theorem Frs.refl {F H : Hp} (s : Same F H) : Frs F H F H := ⟨Same.refl _, s, Same.refl _, fun _ _ => rfl⟩
theorem Frs.trans {F H F1 H1 F2 H2 : Hp} (x : Frs F H F1 H1) (y : Frs F1 H1 F2 H2) : Frs F H F2 H2 := ⟨x.fz.trans y.fz, y.sub, x.kp.trans y.kp, fun a e => (y.fn a (by
  cases q : H a with
  | none => exact absurd q e
  | some o => rw [x.kp a o q]; simp)).trans (x.fn a e)⟩
theorem Frs.chg {fp : AS} {F H F' H' : Hp} (x : Frs F H F' H') : Chg fp F H fp F' H' := ⟨x.fz, fun a o _ e => x.kp a o e, fun a _ e => x.fn a e, fun _ h => .inl h⟩
section
variable [TF] {K : Frag} {mg : Str → Option Value} {F H F' H' : Hp} {ρ : Env} {fp : AS} {σ : St}
theorem Wd.frs (w : Wd K mg F H ρ fp σ) (x : Frs F H F' H') : Wd K mg F' H' ρ fp σ := ⟨x.sub, w.re.frame x.fz fun a q => by
  obtain ⟨_, o, e⟩ := w.re.own a q
  exact ⟨by rw [x.kp a o e, e], x.fn a (by rw [e]; simp)⟩⟩
end
end Nd

/-! Nd2: outcomes, transformers, expressions. -/
namespace Nd
open PySem L2

/-- a refusal: a class by its name, perhaps one field -/
inductive Xc where
  | plain (nm : Str)
  | fld (nm f : Str) (i : Int)
def Xr (mg : Str → Option Value) (x : Xc) (cls : Value) (dd : Option Addr) (H : Hp) : Prop :=
  match x with
  | .plain nm => mg nm = some cls ∧ dd = none
  | .fld nm f i => mg nm = some cls ∧ ∃ a, dd = some a ∧ H a = some (.xd [(f, .int i)])

inductive R (α : Type) where
  | ok (a : α) (ρ : Env)
  | ex (x : Xc) (ρ : Env)
  | bad
abbrev G (α : Type) := Env → R α
def R.bind {α β : Type} (r : R α) (f : α → G β) : R β :=
  match r with
  | .ok a ρ => f a ρ
  | .ex x ρ => .ex x ρ
  | .bad => .bad
def G.ret {α : Type} (a : α) : G α := fun ρ => .ok a ρ
def G.bind {α β : Type} (g : G α) (f : α → G β) : G β := fun ρ => (g ρ).bind f
def G.bad {α : Type} : G α := fun _ => .bad
def ofOpt {α : Type} (o : Option α) : G α := fun ρ => match o with | some a => .ok a ρ | none => .bad
@[simp] theorem R.bind_ok {α β : Type} {a : α} {ρ : Env} {f : α → G β} : (R.ok a ρ).bind f = f a ρ := rfl
@[simp] theorem R.bind_ex {α β : Type} {x : Xc} {ρ : Env} {f : α → G β} : (R.ex x ρ : R α).bind f = .ex x ρ := rfl
@[simp] theorem R.bind_bad {α β : Type} {f : α → G β} : (R.bad : R α).bind f = .bad := rfl

theorem G.bind_at {α β : Type} {g : G α} {f : α → G β} {ρ : Env} : G.bind g f ρ = (g ρ).bind f := rfl

/-- an operand: frozen data, or the slot that it is read from when the operation comes -/
inductive Op where
  | d (d : PyData)
  | s (i : Nat)
def vals : List C → Option (List PyData)
  | [] => some []
  | .val d :: r => (vals r).map (d :: ·)
  | _ :: _ => none
def shal : C → Option PyData
  | .val d => some d
  | .lst cs => (vals cs).map .list
  | _ => none
def deref (ρ : Env) : Op → Option PyData
  | .d d => some d
  | .s i => match ρ[i]? with
    | some (some c) => shal c
    | _ => none
/-! what may be frozen -/
mutual
def fz : C → Option PyData
  | .val d => some d
  | .lst cs => (fzs cs).map .list
  | .tup cs => (fzs cs).map .tuple
  | .dic _ _ => none
  | .obj _ _ _ => none
  | .ref _ => none
  | .lam _ _ _ => none
def fzs : List C → Option (List PyData)
  | [] => some []
  | c :: cs => match fz c, fzs cs with
    | some d, some ds => some (d :: ds)
    | _, _ => none
end

section
variable [TF] (K : Frag) (mg : Str → Option Value)
def Ro (F : Hp) (σ : St) (o : Op) (v : V) : Prop :=
  match o with
  | .d d => Dq K F v d
  | .s i => σ[i]? = some (some v)
def Ros (F : Hp) (σ : St) : List Op → List V → Prop
  | [], vs => vs = []
  | o :: os, vs => ∃ v r, vs = v :: r ∧ Ro K F σ o v ∧ Ros F σ os r
/-- data to be read now: frozen, or a list of one's own with frozen items -/
def Sh (F H : Hp) (v : V) (d : PyData) : Prop := Dq K F v d ∨ ∃ a vs ds, v = .ref a ∧ d = .list ds ∧ H a = some (.lst vs) ∧ DqAll K F vs ds
def Shs (F H : Hp) : List V → List PyData → Prop
  | [], ds => ds = []
  | v :: vs, ds => ∃ d r, ds = d :: r ∧ Sh K F H v d ∧ Shs F H vs r

/-- an exception comes -/
def exPost (W : WX) (F H : Hp) (fp : AS) (σ : St) (x : Xc) (ρ' : Env) : Prop :=
  ∀ cls dd F' H' fp', Wd K mg F' H' ρ' fp' σ → Chg fp F H fp' F' H' → Xr mg x cls dd F' → W cls dd σ H'
/-- an expression whose value is one's own -/
def tE (W : WX) (g : G C) : TE := fun σ H Q => ∃ ρ fp F, Wd K mg F H ρ fp σ ∧
  match g ρ with
  | .ok c ρ' => ∀ v F' H' fp' fv, Wd K mg F' H' ρ' fp' σ → Rc K mg F' H' c v fv → (∀ a, fv a → ¬ fp' a) → Chg fp F H (fun a => fp' a ∨ fv a) F' H' → Q v H'
  | .ex x ρ' => exPost K mg W F H fp σ x ρ'
  | .bad => False
/-- several -/
def tEs (W : WX) (g : G (List C)) : TA := fun σ H Q => ∃ ρ fp F, Wd K mg F H ρ fp σ ∧
  match g ρ with
  | .ok cs ρ' => ∀ vs F' H' fp' fv, Wd K mg F' H' ρ' fp' σ → Rcs K mg F' H' cs vs fv → (∀ a, fv a → ¬ fp' a) → Chg fp F H (fun a => fp' a ∨ fv a) F' H' → Q vs H'
  | .ex x ρ' => exPost K mg W F H fp σ x ρ'
  | .bad => False
/-- an operand -/
def tO (W : WX) (g : G Op) : TE := fun σ H Q => ∃ ρ fp F, Wd K mg F H ρ fp σ ∧
  match g ρ with
  | .ok o ρ' => ∀ v F' H' fp', Wd K mg F' H' ρ' fp' σ → Ro K F' σ o v → Chg fp F H fp' F' H' → Q v H'
  | .ex x ρ' => exPost K mg W F H fp σ x ρ'
  | .bad => False
def tOs (W : WX) (g : G (List Op)) : TA := fun σ H Q => ∃ ρ fp F, Wd K mg F H ρ fp σ ∧
  match g ρ with
  | .ok os ρ' => ∀ vs F' H' fp', Wd K mg F' H' ρ' fp' σ → Ros K F' σ os vs → Chg fp F H fp' F' H' → Q vs H'
  | .ex x ρ' => exPost K mg W F H fp σ x ρ'
  | .bad => False
/-- a test -/
def tT (W : WX) (g : G Bool) : TT := fun σ H Q => ∃ ρ fp F, Wd K mg F H ρ fp σ ∧
  match g ρ with
  | .ok b ρ' => ∀ F' H' fp', Wd K mg F' H' ρ' fp' σ → Chg fp F H fp' F' H' → Q b H'
  | .ex x ρ' => exPost K mg W F H fp σ x ρ'
  | .bad => False
end

section
variable [TF] {K : Frag} {mg : Str → Option Value} {F H F' H' : Hp} {ρ : Env} {fp : AS} {σ : St} {W : WX}
theorem Ro.mono {o : Op} {v : V} (e : Same F F') (h : Ro K F σ o v) : Ro K F' σ o v := by
  cases o with
  | d d => exact Dq.mono e h
  | s i => exact h
theorem Ros.mono (e : Same F F') : ∀ {os : List Op} {vs : List V}, Ros K F σ os vs → Ros K F' σ os vs
  | [], _, h => h
  | o :: os, vs, ⟨v, r, h1, h2, h3⟩ => ⟨v, r, h1, h2.mono e, Ros.mono e h3⟩
theorem vals_sh : ∀ {cs : List C} {ds : List PyData} {vs : List V} {f : AS}, Rcs K mg F H cs vs f → vals cs = some ds → DqAll K F vs ds
  | [], ds, vs, f, h, e => by
    simp only [vals, Option.some.injEq] at e
    simp only [Rcs] at h
    rw [h.1, ← e]; exact .nil
  | .val d :: r, ds, vs, f, h, e => by
    simp only [vals] at e
    simp only [Rcs, Rc] at h
    obtain ⟨v, vr, f1, f2, h1, h2, h3, h4, h5⟩ := h
    cases q : vals r with
    | none => rw [q] at e; cases e
    | some dr =>
      rw [q] at e
      cases e
      rw [h1]
      exact .cons h2.1 (vals_sh h3 q)
  | .tup _ :: r, ds, vs, f, h, e => by simp [vals] at e
  | .lst _ :: r, ds, vs, f, h, e => by simp [vals] at e
  | .dic _ _ :: r, ds, vs, f, h, e => by simp [vals] at e
  | .obj _ _ _ :: r, ds, vs, f, h, e => by simp [vals] at e
  | .ref _ :: r, ds, vs, f, h, e => by simp [vals] at e
  | .lam _ _ _ :: r, ds, vs, f, h, e => by simp [vals] at e
theorem shal_sh {c : C} {d : PyData} {v : V} {f : AS} (h : Rc K mg F H c v f) (e : shal c = some d) : Sh K F H v d := by
  cases c with
  | val d' =>
    simp only [shal, Option.some.injEq] at e
    subst e
    simp only [Rc] at h
    exact .inl h.1
  | lst cs =>
    simp only [shal] at e
    simp only [Rc] at h
    obtain ⟨a, vs, f', h1, h2, h3, h4, h5, h6⟩ := h
    cases q : vals cs with
    | none => rw [q] at e; cases e
    | some ds =>
      rw [q] at e
      cases e
      exact .inr ⟨a, vs, ds, h1, rfl, h2, vals_sh h4 q⟩
  | tup _ => simp [shal] at e
  | dic _ _ => simp [shal] at e
  | obj _ _ _ => simp [shal] at e
  | ref _ => simp [shal] at e
  | lam _ _ _ => simp [shal] at e
/-- the operand as it is now -/
theorem deref_sh {o : Op} {v : V} {d : PyData} (w : Wd K mg F H ρ fp σ) (r : Ro K F σ o v) (e : deref ρ o = some d) : Sh K F H v d := by
  cases o with
  | d d' =>
    simp only [deref, Option.some.injEq] at e
    subst e
    exact .inl r
  | s i =>
    simp only [deref] at e
    cases q : ρ[i]? with
    | none => rw [q] at e; cases e
    | some oc =>
      cases oc with
      | none => rw [q] at e; cases e
      | some c =>
        rw [q] at e
        obtain ⟨ov, f1, f2, q1, ⟨v', q2, q2'⟩, _⟩ := w.re.focus q
        have r' : σ[i]? = some (some v) := r
        rw [q1, q2] at r'
        cases r'
        exact shal_sh q2' e
theorem Sh.frs {v : V} {d : PyData} (h : Sh K F H v d) (x : Frs F H F' H') : Sh K F' H' v d := by
  rcases h with h | ⟨a, vs, ds, h1, h2, h3, h4⟩
  · exact .inl (Dq.mono x.fz h)
  · exact .inr ⟨a, vs, ds, h1, h2, x.kp a _ h3, DqAll.mono x.fz h4⟩

/-! ### freezing -/
open Classical in
/-- the heap of the frozen with some more of H -/
noncomputable def More (F H : Hp) (f : AS) : Hp := fun a => if f a then H a else F a
mutual
theorem fz_ok : ∀ {c : C} {d : PyData} {v : V} {f : AS}, Rc K mg F H c v f → fz c = some d → ∀ F', Same F F' → (∀ a, f a → F' a = H a) → Dq K F' v d
  | .val d, d', v, f, h, e, F', se, k => by
    simp only [fz, Option.some.injEq] at e
    subst e
    simp only [Rc] at h
    exact Dq.mono se h.1
  | .lst cs, d, v, f, h, e, F', se, k => by
    simp only [fz] at e
    simp only [Rc] at h
    obtain ⟨a, vs, f', h1, h2, h3, h4, h5, h6⟩ := h
    cases q : fzs cs with
    | none => rw [q] at e; cases e
    | some ds =>
      rw [q] at e
      cases e
      rw [h1]
      exact .lst (.of ((k a ((h6 a).mpr (.inl rfl))).trans h2)) (fzs_ok h4 q F' se fun b z => k b ((h6 b).mpr (.inr z)))
  | .tup cs, d, v, f, h, e, F', se, k => by
    simp only [fz] at e
    simp only [Rc] at h
    obtain ⟨a, vs, f', h1, h2, h3, h4, h5, h6⟩ := h
    cases q : fzs cs with
    | none => rw [q] at e; cases e
    | some ds =>
      rw [q] at e
      cases e
      rw [h1]
      obtain ⟨o, h2, dn⟩ := h2
      exact .tup ⟨o, (k a ((h6 a).mpr (.inl rfl))).trans h2, dn⟩ (fzs_ok h4 q F' se fun b z => k b ((h6 b).mpr (.inr z)))
  | .dic _ _, d, v, f, h, e, F', se, k => by simp [fz] at e
  | .obj _ _ _, d, v, f, h, e, F', se, k => by simp [fz] at e
  | .ref _, d, v, f, h, e, F', se, k => by simp [fz] at e
  | .lam _ _ _, d, v, f, h, e, F', se, k => by simp [fz] at e
theorem fzs_ok : ∀ {cs : List C} {ds : List PyData} {vs : List V} {f : AS}, Rcs K mg F H cs vs f → fzs cs = some ds → ∀ F', Same F F' → (∀ a, f a → F' a = H a) → DqAll K F' vs ds
  | [], ds, vs, f, h, e, F', se, k => by
    simp only [fzs, Option.some.injEq] at e
    simp only [Rcs] at h
    rw [h.1, ← e]; exact .nil
  | c :: cs, ds, vs, f, h, e, F', se, k => by
    simp only [fzs] at e
    simp only [Rcs] at h
    obtain ⟨v, r, f1, f2, h1, h2, h3, h4, h5⟩ := h
    cases q : fz c with
    | none => rw [q] at e; cases e
    | some d =>
      cases q2 : fzs cs with
      | none => rw [q, q2] at e; cases e
      | some dr =>
        rw [q, q2] at e
        cases e
        rw [h1]
        exact .cons (fz_ok h2 q F' se fun a z => k a ((h5 a).mpr (.inl z))) (fzs_ok h3 q2 F' se fun a z => k a ((h5 a).mpr (.inr z)))
end
open Classical in
/-- things of one's own beside the slots are frozen -/
theorem Wd.freeze {f : AS} (w : Wd K mg F H ρ fp σ) (own : ∀ a, f a → F a = none ∧ ∃ o, H a = some o) (d : ∀ a, f a → ¬ fp a) : Same F (More F H f) ∧ Wd K mg (More F H f) H ρ fp σ ∧ (∀ a, f a → More F H f a = H a) ∧ ∀ a, ¬ f a → More F H f a = F a := by
  have se : Same F (More F H f) := fun a o e => by
    unfold More
    by_cases h : f a
    · rw [(own a h).1] at e; cases e
    · rw [if_neg h]; exact e
  refine ⟨se, ⟨fun a o e => ?_, w.re.frame se fun a q => ⟨rfl, ?_⟩⟩, fun a h => if_pos h, fun a h => if_neg h⟩
  · unfold More at e
    by_cases h : f a
    · rw [if_pos h] at e; exact e
    · rw [if_neg h] at e; exact w.sub a o e
  · exact if_neg fun z => d a z q
end

/-! ### weakening -/
theorem _root_.L2.PE.imp {X : Cx} {e : Expr} {t t' : TE} (h : PE X e t) (k : ∀ σ H Q, t' σ H Q → t σ H Q) : PE X e t' := ⟨fun pins s σ H Q I hw => h.run pins s σ H Q I (k σ H Q hw)⟩
theorem _root_.L2.PT.imp {X : Cx} {e : Expr} {t t' : TT} (h : PT X e t) (k : ∀ σ H Q, t' σ H Q → t σ H Q) : PT X e t' := ⟨fun pins s σ H Q I hw => h.run pins s σ H Q I (k σ H Q hw)⟩
theorem _root_.L2.PW.imp {X : Cx} {e : Expr} {t t' : TT} (h : PW X e t) (k : ∀ σ H Q, t' σ H Q → t σ H Q) : PW X e t' := ⟨fun wh pins s σ H Q I hw => h.run wh pins s σ H Q I (k σ H Q hw)⟩
theorem _root_.L2.PA.imp {X : Cx} {e : List Expr} {t t' : TA} (h : PA X e t) (k : ∀ σ H Q, t' σ H Q → t σ H Q) : PA X e t' := ⟨fun pos pins s σ H Q I hw => h.run pos pins s σ H Q I (k σ H Q hw)⟩
theorem _root_.L2.PS.imp {X : Cx} {e : Stmt} {t t' : TS} (h : PS X e t) (k : ∀ D σ H, t' D σ H → t D σ H) : PS X e t' := ⟨fun pins s σ H D I hw => h.run pins s σ H D I (k D σ H hw)⟩
theorem _root_.L2.PSs.imp {X : Cx} {e : List Stmt} {t t' : TS} (h : PSs X e t) (k : ∀ D σ H, t' D σ H → t D σ H) : PSs X e t' := ⟨fun pins s σ H D I hw => h.run pins s σ H D I (k D σ H hw)⟩

/-! ### names, constants -/
section
variable [TF] {X : Cx} {K : Frag} {mg : Str → Option Value} {W : WX}
/-- the value of a slot: data is read, a thing of one's own is taken away -/
def gName (i : Nat) : G C := fun ρ => match ρ[i]? with
  | some (some (.val d)) => .ok (.val d) ρ
  | some (some (.ref a)) => .ok (.ref a) ρ
  | some (some (.lam n q o)) => .ok (.lam n q o) ρ
  | some (some c) => .ok c (ρ.set i none)
  | _ => .bad
def gSlot (i : Nat) : G Op := fun ρ => match ρ[i]? with
  | some (some _) => .ok (.s i) ρ
  | _ => .bad
theorem eName_ok {i : Nat} {σ : St} {H : Hp} {Q : VK} (h : tE K mg W (gName i) σ H Q) : tVar i σ H Q := by
  obtain ⟨ρ, fp, F, w, h⟩ := h
  unfold gName at h
  cases q : ρ[i]? with
  | none => rw [q] at h; exact h.elim
  | some oc =>
    cases oc with
    | none => rw [q] at h; exact h.elim
    | some c =>
      obtain ⟨ov, f1, f2, q1, ⟨v, q2, q3⟩, dj, cv, put⟩ := w.re.focus q
      subst q2
      refine ⟨v, q1, ?_⟩
      have mv : ∀ (hm : (∀ v F' H' fp' fv, Wd K mg F' H' (ρ.set i none) fp' σ → Rc K mg F' H' c v fv → (∀ a, fv a → ¬ fp' a) → Chg fp F H (fun a => fp' a ∨ fv a) F' H' → Q v H')), Q v H := fun hm => by
        refine hm v F H f2 f1 ⟨w.sub, ?_⟩ q3 dj ⟨Same.refl _, fun _ _ _ e => e, fun _ _ _ => rfl, fun a z => .inl ((cv a).mpr z.symm)⟩
        have z := put none (some v) F H (fun _ => False) (Same.refl _) (fun _ _ => ⟨rfl, rfl⟩) (fun _ z => z) (fun _ z => z.elim)
        have e : σ.set i (some v) = σ := by
          apply List.ext_getElem?
          intro j
          by_cases hj : j = i
          · subst hj; rw [q1]; exact List.getElem?_set_self (List.getElem?_eq_some_iff.mp q1).1
          · exact List.getElem?_set_ne (Ne.symm hj)
        rw [e] at z
        exact z.iff fun a => by simp
      cases c with
      | val d =>
        rw [q] at h
        exact h v F H fp f1 w q3 (fun a z => by simp only [Rc] at q3; exact (q3.2 a z).elim) ⟨Same.refl _, fun _ _ _ e => e, fun _ _ _ => rfl, fun a z => .inl (z.elim id fun y => by simp only [Rc] at q3; exact (q3.2 a y).elim)⟩
      | tup cs => rw [q] at h; exact mv h
      | lst cs => rw [q] at h; exact mv h
      | dic ks cs => rw [q] at h; exact mv h
      | obj cl ks cs => rw [q] at h; exact mv h
      | ref _ =>
        rw [q] at h
        exact h v F H fp f1 w q3 (fun a z => by simp only [Rc] at q3; exact (q3.2 a z).elim) ⟨Same.refl _, fun _ _ _ e => e, fun _ _ _ => rfl, fun a z => .inl (z.elim id fun y => by simp only [Rc] at q3; exact (q3.2 a y).elim)⟩
      | lam _ _ _ =>
        rw [q] at h
        exact h v F H fp f1 w q3 (fun a z => by simp only [Rc] at q3; exact (q3.2 a z).elim) ⟨Same.refl _, fun _ _ _ e => e, fun _ _ _ => rfl, fun a z => .inl (z.elim id fun y => by simp only [Rc] at q3; exact (q3.2 a y).elim)⟩
theorem oSlot_ok {i : Nat} {σ : St} {H : Hp} {Q : VK} (h : tO K mg W (gSlot i) σ H Q) : tVar i σ H Q := by
  obtain ⟨ρ, fp, F, w, h⟩ := h
  unfold gSlot at h
  cases q : ρ[i]? with
  | none => rw [q] at h; exact h.elim
  | some oc =>
    cases oc with
    | none => rw [q] at h; exact h.elim
    | some c =>
      rw [q] at h
      obtain ⟨ov, f1, f2, q1, ⟨v, q2, q3⟩, dj, cv, put⟩ := w.re.focus q
      subst q2
      exact ⟨v, q1, h v F H fp w q1 Chg.refl⟩
theorem e_name (i : Nat) {x : Str} {pos : Pos} (hN : X.N[i]? = some x := by rfl) (hv : Vis X.env.scope x := by first | exact Or.inl rfl | exact Or.inr (Or.inl rfl) | exact Or.inr (Or.inr rfl)) (hd : (x == ("__debug__" : Str)) = false := by decide)
    (hcd : (x == ("__classdict__" : Str)) = false := by decide) : PE X (.Name x pos) (tE K mg W (gName i)) := (pe_var hN hv hd hcd).imp fun _ _ _ => eName_ok
theorem o_name (i : Nat) {x : Str} {pos : Pos} (hN : X.N[i]? = some x := by rfl) (hv : Vis X.env.scope x := by first | exact Or.inl rfl | exact Or.inr (Or.inl rfl) | exact Or.inr (Or.inr rfl)) (hd : (x == ("__debug__" : Str)) = false := by decide)
    (hcd : (x == ("__classdict__" : Str)) = false := by decide) : PE X (.Name x pos) (tO K mg W (gSlot i)) := (pe_var hN hv hd hcd).imp fun _ _ _ => oSlot_ok

theorem Rc.of_dp {F H : Hp} {v : V} {d : PyData} (h : Dq K F v d) : Rc K mg F H (.val d) v (fun _ => False) := by
  simp only [Rc]
  exact ⟨h, fun _ z => z⟩
theorem Chg.or_false {fp fp' : AS} {F H F' H' : Hp} (x : Chg fp F H fp' F' H') : Chg fp F H (fun a => fp' a ∨ False) F' H' := x.to fun a z => z.elim id False.elim
/-- a constant -/
def gC (d : PyData) : G C := fun ρ => .ok (.val d) ρ
def oC (d : PyData) : G Op := fun ρ => .ok (.d d) ρ
theorem eC_ok {d : PyData} {v : V} (hd : ∀ F, Dq K F v d) {σ : St} {H : Hp} {Q : VK} (h : tE K mg W (gC d) σ H Q) : tC v σ H Q := by
  obtain ⟨ρ, fp, F, w, h⟩ := h
  exact h v F H fp _ w (Rc.of_dp (hd F)) (fun _ z => z.elim) Chg.refl.or_false
theorem oC_ok {d : PyData} {v : V} (hd : ∀ F, Dq K F v d) {σ : St} {H : Hp} {Q : VK} (h : tO K mg W (oC d) σ H Q) : tC v σ H Q := by
  obtain ⟨ρ, fp, F, w, h⟩ := h
  exact h v F H fp w (hd F) Chg.refl
theorem e_int {i j pos} : PE X (.Constant (.int i) j pos) (tE K mg W (gC (.int i))) := pe_int.imp fun _ _ _ => eC_ok fun _ => .int _
theorem e_str {x j pos} (hx : PyData.canLay0 (.str x) = true := by decide) : PE X (.Constant (.str x) j pos) (tE K mg W (gC (.str x))) := pe_str.imp fun _ _ _ => eC_ok fun _ => .str hx
theorem e_bl {b j pos} : PE X (.Constant (.bool b) j pos) (tE K mg W (gC (.bool b))) := pe_bl.imp fun _ _ _ => eC_ok fun _ => .bl _
theorem e_non {j pos} : PE X (.Constant .none j pos) (tE K mg W (gC .none)) := pe_non.imp fun _ _ _ => eC_ok fun _ => .non
theorem o_int {i j pos} : PE X (.Constant (.int i) j pos) (tO K mg W (oC (.int i))) := pe_int.imp fun _ _ _ => oC_ok fun _ => .int _
theorem o_str {x j pos} (hx : PyData.canLay0 (.str x) = true := by decide) : PE X (.Constant (.str x) j pos) (tO K mg W (oC (.str x))) := pe_str.imp fun _ _ _ => oC_ok fun _ => .str hx
theorem o_bl {b j pos} : PE X (.Constant (.bool b) j pos) (tO K mg W (oC (.bool b))) := pe_bl.imp fun _ _ _ => oC_ok fun _ => .bl _
theorem o_non {j pos} : PE X (.Constant .none j pos) (tO K mg W (oC .none)) := pe_non.imp fun _ _ _ => oC_ok fun _ => .non
/-- a module's constant -/
theorem e_glob {x : Str} {v : V} {d : PyData} {u : Value} {pos : Pos} (hg : Gl X x) (hm : X.mg x = some u) (r : RelV v u) (hd : ∀ F, Dq K F v d) (hdb : (x == ("__debug__" : Str)) = false := by decide) : PE X (.Name x pos) (tE K mg W (gC d)) := (pe_glob hg hm r hdb).imp fun _ _ _ => eC_ok hd
theorem o_glob {x : Str} {v : V} {d : PyData} {u : Value} {pos : Pos} (hg : Gl X x) (hm : X.mg x = some u) (r : RelV v u) (hd : ∀ F, Dq K F v d) (hdb : (x == ("__debug__" : Str)) = false := by decide) : PE X (.Name x pos) (tO K mg W (oC d)) := (pe_glob hg hm r hdb).imp fun _ _ _ => oC_ok hd

/-! ### what is one's own, frozen, as an operand -/
def gFz (g : G C) : G Op := G.bind g fun c => match fz c with | some d => G.ret (.d d) | none => G.bad
theorem o_of {e : Expr} {g : G C} (h : PE X e (tE K mg W g)) : PE X e (tO K mg W (gFz g)) := h.imp fun σ H Q hq => by
  obtain ⟨ρ, fp, F, w, hq⟩ := hq
  refine ⟨ρ, fp, F, w, ?_⟩
  unfold gFz G.bind at hq
  cases q : g ρ with
  | bad => rw [q] at hq; exact hq.elim
  | ex x ρ' => rw [q] at hq; exact hq
  | ok c ρ' =>
    rw [q] at hq
    intro v F' H' fp' fv w' r dj ch
    simp only [R.bind_ok] at hq
    cases z : fz c with
    | none => rw [z] at hq; exact hq.elim
    | some d =>
      rw [z] at hq
      obtain ⟨se, w2, k1, k2⟩ := w'.freeze (f := fv) (Rc.own r) dj
      classical
      refine hq v (More F' H' fv) H' fp' w2 (fz_ok r z _ se k1) ⟨ch.fz.trans se, ch.kp, fun a n e => ?_, fun a z => ch.nw a (.inl z)⟩
      have hn : ¬ fv a := fun y => (ch.nw a (.inr y)).elim n e
      exact (k2 a hn).trans (ch.fn a n e)
end
end Nd

/-! Nd3: expressions put together. -/
namespace Nd
open PySem L2
section
variable [TF] {X : Cx} {K : Frag} {mg : Str → Option Value} {W : WX} {F H F0 H0 : Hp} {ρ : Env} {fp fp0 : AS} {σ : St}
theorem exPost.of {x : Xc} {ρ' : Env} (ch : Chg fp0 F0 H0 fp F H) (h : exPost K mg W F0 H0 fp0 σ x ρ') : exPost K mg W F H fp σ x ρ' := fun cls dd F' H' fp' w c r => h cls dd F' H' fp' w (ch.trans c) r
/-- one step within a longer evaluation: an operand -/
theorem oRun {g : G Op} {Q : VK} (w : Wd K mg F H ρ fp σ) (ch : Chg fp0 F0 H0 fp F H)
    (h : match g ρ with
      | .ok o ρ' => ∀ v F' H' fp', Wd K mg F' H' ρ' fp' σ → Ro K F' σ o v → Same F F' → Chg fp0 F0 H0 fp' F' H' → Q v H'
      | .ex x ρ' => exPost K mg W F0 H0 fp0 σ x ρ'
      | .bad => False) : tO K mg W g σ H Q := by
  refine ⟨ρ, fp, F, w, ?_⟩
  cases q : g ρ with
  | bad => rw [q] at h; exact h.elim
  | ex x ρ' => rw [q] at h; exact exPost.of ch h
  | ok o ρ' =>
    rw [q] at h
    exact fun v F' H' fp' w' r c => h v F' H' fp' w' r c.fz (ch.trans c)
theorem osRun {g : G (List Op)} {Q : List V → Hp → Prop} (w : Wd K mg F H ρ fp σ) (ch : Chg fp0 F0 H0 fp F H)
    (h : match g ρ with
      | .ok o ρ' => ∀ v F' H' fp', Wd K mg F' H' ρ' fp' σ → Ros K F' σ o v → Same F F' → Chg fp0 F0 H0 fp' F' H' → Q v H'
      | .ex x ρ' => exPost K mg W F0 H0 fp0 σ x ρ'
      | .bad => False) : tOs K mg W g σ H Q := by
  refine ⟨ρ, fp, F, w, ?_⟩
  cases q : g ρ with
  | bad => rw [q] at h; exact h.elim
  | ex x ρ' => rw [q] at h; exact exPost.of ch h
  | ok o ρ' =>
    rw [q] at h
    exact fun v F' H' fp' w' r c => h v F' H' fp' w' r c.fz (ch.trans c)
theorem tRun {g : G Bool} {Q : Bool → Hp → Prop} (w : Wd K mg F H ρ fp σ) (ch : Chg fp0 F0 H0 fp F H)
    (h : match g ρ with
      | .ok b ρ' => ∀ F' H' fp', Wd K mg F' H' ρ' fp' σ → Same F F' → Chg fp0 F0 H0 fp' F' H' → Q b H'
      | .ex x ρ' => exPost K mg W F0 H0 fp0 σ x ρ'
      | .bad => False) : tT K mg W g σ H Q := by
  refine ⟨ρ, fp, F, w, ?_⟩
  cases q : g ρ with
  | bad => rw [q] at h; exact h.elim
  | ex x ρ' => rw [q] at h; exact exPost.of ch h
  | ok o ρ' =>
    rw [q] at h
    exact fun F' H' fp' w' c => h F' H' fp' w' c.fz (ch.trans c)
/-- a value, a thing of one's own at fa put aside -/
theorem eRun {g : G C} {Q : VK} (w : Wd K mg F H ρ fp σ) (ch : Chg fp0 F0 H0 fp F H)
    (h : match g ρ with
      | .ok c ρ' => ∀ v F' H' fp' fv, Wd K mg F' H' ρ' fp' σ → Rc K mg F' H' c v fv → (∀ a, fv a → ¬ fp' a) → Chg fp F H (fun a => fp' a ∨ fv a) F' H' → Chg fp0 F0 H0 (fun a => fp' a ∨ fv a) F' H' → Q v H'
      | .ex x ρ' => exPost K mg W F0 H0 fp0 σ x ρ'
      | .bad => False) : tE K mg W g σ H Q := by
  refine ⟨ρ, fp, F, w, ?_⟩
  cases q : g ρ with
  | bad => rw [q] at h; exact h.elim
  | ex x ρ' => rw [q] at h; exact exPost.of ch h
  | ok o ρ' =>
    rw [q] at h
    exact fun v F' H' fp' fv w' r dj c => h v F' H' fp' fv w' r dj c (ch.trans c)
theorem esRun {g : G (List C)} {Q : List V → Hp → Prop} (w : Wd K mg F H ρ fp σ) (ch : Chg fp0 F0 H0 fp F H)
    (h : match g ρ with
      | .ok c ρ' => ∀ v F' H' fp' fv, Wd K mg F' H' ρ' fp' σ → Rcs K mg F' H' c v fv → (∀ a, fv a → ¬ fp' a) → Chg fp F H (fun a => fp' a ∨ fv a) F' H' → Chg fp0 F0 H0 (fun a => fp' a ∨ fv a) F' H' → Q v H'
      | .ex x ρ' => exPost K mg W F0 H0 fp0 σ x ρ'
      | .bad => False) : tEs K mg W g σ H Q := by
  refine ⟨ρ, fp, F, w, ?_⟩
  cases q : g ρ with
  | bad => rw [q] at h; exact h.elim
  | ex x ρ' => rw [q] at h; exact exPost.of ch h
  | ok o ρ' =>
    rw [q] at h
    exact fun v F' H' fp' fv w' r dj c => h v F' H' fp' fv w' r dj c (ch.trans c)

/-! ### lists of operands, of values -/
def gOs : List (G Op) → G (List Op)
  | [] => G.ret []
  | g :: gs => G.bind g fun o => G.bind (gOs gs) fun os => G.ret (o :: os)
def gEs : List (G C) → G (List C)
  | [] => G.ret []
  | g :: gs => G.bind g fun o => G.bind (gEs gs) fun os => G.ret (o :: os)
theorem gEs_length : ∀ {gs : List (G C)} {ρ ρ' : Env} {cs : List C}, gEs gs ρ = .ok cs ρ' → cs.length = gs.length
  | [], ρ, ρ', cs, h => by
    simp only [gEs, G.ret] at h
    cases h; rfl
  | g :: gs, ρ, ρ', cs, h => by
    simp only [gEs, G.bind] at h
    cases q : g ρ with
    | bad => rw [q] at h; cases h
    | ex x ρ1 => rw [q] at h; cases h
    | ok c ρ1 =>
      rw [q] at h
      simp only [R.bind_ok, G.bind_at] at h
      cases q2 : gEs gs ρ1 with
      | bad => rw [q2] at h; cases h
      | ex x ρ2 => rw [q2] at h; cases h
      | ok cr ρ2 =>
        rw [q2] at h
        simp only [R.bind_ok, G.ret] at h
        cases h
        simp [gEs_length q2]
theorem os_nil : PA X [] (tOs K mg W (gOs [])) := pa_nil.imp fun σ H Q h => by
  obtain ⟨ρ, fp, F, w, h⟩ := h
  exact h [] F H fp w rfl Chg.refl
theorem os_cons {e : Expr} {es : List Expr} {g : G Op} {gs : List (G Op)} (ha : PE X e (tO K mg W g)) (hr : PA X es (tOs K mg W (gOs gs))) (hs : starEach (e :: es) X.env = (false, eval e X.env) :: starEach es X.env := by rfl) :
    PA X (e :: es) (tOs K mg W (gOs (g :: gs))) := (pa_cons ha hr hs).imp fun σ H Q h => by
  obtain ⟨ρ, fp, F, w, h⟩ := h
  simp only [gOs, G.bind] at h
  refine oRun w Chg.refl ?_
  cases q : g ρ with
  | bad => rw [q] at h; exact h.elim
  | ex x ρ' => rw [q] at h; exact h
  | ok o ρ1 =>
    rw [q] at h
    simp only [R.bind_ok, G.bind_at] at h
    intro v F1 H1 fp1 w1 r1 s1 c1
    refine osRun w1 c1 ?_
    cases q2 : gOs gs ρ1 with
    | bad => rw [q2] at h; exact h.elim
    | ex x ρ' => rw [q2] at h; exact h
    | ok os ρ2 =>
      rw [q2] at h
      intro vs F2 H2 fp2 w2 r2 s2 c2
      exact h (v :: vs) F2 H2 fp2 w2 ⟨v, vs, rfl, r1.mono s2, r2⟩ c2
theorem es_nil : PA X [] (tEs K mg W (gEs [])) := pa_nil.imp fun σ H Q h => by
  obtain ⟨ρ, fp, F, w, h⟩ := h
  exact h [] F H fp (fun _ => False) w (by simp only [Rcs]; exact ⟨trivial, fun _ z => z⟩) (fun _ z => z.elim) Chg.refl.or_false
theorem es_cons {e : Expr} {es : List Expr} {g : G C} {gs : List (G C)} (ha : PE X e (tE K mg W g)) (hr : PA X es (tEs K mg W (gEs gs))) (hs : starEach (e :: es) X.env = (false, eval e X.env) :: starEach es X.env := by rfl) :
    PA X (e :: es) (tEs K mg W (gEs (g :: gs))) := (pa_cons ha hr hs).imp fun σ H Q h => by
  obtain ⟨ρ, fp, F, w, h⟩ := h
  simp only [gEs, G.bind] at h
  refine eRun w Chg.refl ?_
  cases q : g ρ with
  | bad => rw [q] at h; exact h.elim
  | ex x ρ' => rw [q] at h; exact h
  | ok o ρ1 =>
    rw [q] at h
    simp only [R.bind_ok, G.bind_at] at h
    intro v F1 H1 fp1 fv1 w1 r1 d1 c1 _
    refine esRun w1 (c1.to fun a => .inl) ?_
    cases q2 : gEs gs ρ1 with
    | bad => rw [q2] at h; exact h.elim
    | ex x ρ' => rw [q2] at h; exact h
    | ok os ρ2 =>
      rw [q2] at h
      intro vs F2 H2 fp2 fv2 w2 r2 d2 c2 c2'
      obtain ⟨k1, k2⟩ := c2.aside (fv := fv1) (fun a z => (Rc.own r1 a z).2) d1
      refine h (v :: vs) F2 H2 fp2 (fun a => fv1 a ∨ fv2 a) w2 ?_ (fun a z => z.elim (fun y u => k2 a y (.inl u)) (d2 a)) ⟨c2'.fz, c2'.kp, c2'.fn, fun a z => ?_⟩
      · simp only [Rcs]
        exact ⟨v, vs, fv1, fv2, rfl, r1.frame c2.fz k1, r2, fun a y u => k2 a y (.inr u), fun a => Iff.rfl⟩
      · rcases z with z | z | z
        · exact c2'.nw a (.inl z)
        · exact c1.nw a (.inr z)
        · exact c2'.nw a (.inr z)

/-! ### operations by values -/
def Post (K : Frag) (mg : Str → Option Value) (F H : Hp) (c : C) (Q : VK) : Prop := ∀ z F' H' fv, Frs F H F' H' → Rc K mg F' H' c z fv → (∀ a, fv a → H a = none) → Q z H'
theorem Post.val {F H : Hp} {d : PyData} {Q : VK} {v : V} (p : Post K mg F H (.val d) Q) (s : Same F H) (h : Dq K F v d) : Q v H := p v F H _ (Frs.refl s) (Rc.of_dp h) fun _ z => z.elim
/-- an operation's result among what stands -/
theorem fin_post {c : C} {Q : VK} (w : Wd K mg F H ρ fp σ) (ch : Chg fp0 F0 H0 fp F H)
    (h : ∀ v F' H' fp' fv, Wd K mg F' H' ρ fp' σ → Rc K mg F' H' c v fv → (∀ a, fv a → ¬ fp' a) → Chg fp0 F0 H0 (fun a => fp' a ∨ fv a) F' H' → Q v H') : Post K mg F H c Q := fun z F' H' fv x r n => by
  refine h z F' H' fp fv (w.frs x) r (fun a q y => ?_) ?_
  · obtain ⟨_, o, e⟩ := w.re.own a y
    rw [n a q] at e; cases e
  · have y : Chg fp F H (fun a => fp a ∨ fv a) F' H' := ⟨x.fz, fun a o _ e => x.kp a o e, fun a _ e => x.fn a e, fun a z => z.elim .inl fun u => .inr (n a u)⟩
    exact ch.trans y
def r2 (K : Frag) (mg : Str → Option Value) (f : PyData → PyData → Option C) : R2 := fun x y H Q => ∃ F dx dy c, Same F H ∧ Sh K F H x dx ∧ Sh K F H y dy ∧ f dx dy = some c ∧ Post K mg F H c Q
def r1 (K : Frag) (mg : Str → Option Value) (f : PyData → Option C) : V → Hp → VK → Prop := fun x H Q => ∃ F dx c, Same F H ∧ Sh K F H x dx ∧ f dx = some c ∧ Post K mg F H c Q
def rN (K : Frag) (mg : Str → Option Value) (f : List PyData → Option C) : List V → Hp → VK → Prop := fun xs H Q => ∃ F ds c, Same F H ∧ Shs K F H xs ds ∧ f ds = some c ∧ Post K mg F H c Q
def gFin {α : Type} (o : Option α) : G α := fun ρ => match o with | some c => .ok c ρ | none => .bad
def gOp2 (f : PyData → PyData → Option C) (ga gb : G Op) : G C := G.bind ga fun a => G.bind gb fun b => fun ρ => match deref ρ a, deref ρ b with
  | some x, some y => gFin (f x y) ρ
  | _, _ => .bad
def derefs (ρ : Env) : List Op → Option (List PyData)
  | [] => some []
  | o :: os => match deref ρ o, derefs ρ os with
    | some d, some ds => some (d :: ds)
    | _, _ => none
def gOpN (f : List PyData → Option C) (g : G (List Op)) : G C := G.bind g fun os => fun ρ => match derefs ρ os with
  | some ds => gFin (f ds) ρ
  | none => .bad
def cmpC (f : PyData → PyData → Option Bool) : PyData → PyData → Option C := fun x y => (f x y).map fun b => .val (.bool b)
def gT2 (f : PyData → PyData → Option Bool) (ga gb : G Op) : G Bool := G.bind ga fun a => G.bind gb fun b => fun ρ => match deref ρ a, deref ρ b with
  | some x, some y => gFin (f x y) ρ
  | _, _ => .bad
theorem derefs_sh : ∀ {os : List Op} {vs : List V} {ds : List PyData}, Wd K mg F H ρ fp σ → Ros K F σ os vs → derefs ρ os = some ds → Shs K F H vs ds
  | [], vs, ds, w, r, e => by
    simp only [derefs, Option.some.injEq] at e
    have r' : vs = [] := r
    subst r'
    exact e.symm
  | o :: os, vs, ds, w, ⟨v, vr, h1, h2, h3⟩, e => by
    simp only [derefs] at e
    cases q : deref ρ o with
    | none => rw [q] at e; cases e
    | some d =>
      cases q2 : derefs ρ os with
      | none => rw [q, q2] at e; cases e
      | some dr =>
        rw [q, q2] at e
        cases e
        rw [h1]
        exact ⟨d, dr, rfl, deref_sh w h2 q, derefs_sh w h3 q2⟩
/-- two operands, then an operation -/
theorem op2_ok {α : Type} {f : PyData → PyData → Option α} {ga gb : G Op} {σ : St} {H : Hp} {Q : V → V → Hp → Prop} {Qa : α → Env → Hp → Hp → AS → AS → Hp → Hp → Prop}
    (w : Wd K mg F H ρ fp σ)
    (h : match (G.bind ga fun a => G.bind gb fun b => (fun ρ => match deref ρ a, deref ρ b with | some x, some y => gFin (f x y) ρ | _, _ => .bad : G α)) ρ with
      | .ok c ρ' => ∀ x y dx dy F' H' fp', Wd K mg F' H' ρ' fp' σ → Sh K F' H' x dx → Sh K F' H' y dy → f dx dy = some c → Chg fp F H fp' F' H' → Q x y H'
      | .ex x ρ' => exPost K mg W F H fp σ x ρ'
      | .bad => False) : tO K mg W ga σ H fun x H1 => tO K mg W gb σ H1 fun y H2 => Q x y H2 := by
  unfold G.bind at h
  refine oRun w Chg.refl ?_
  cases q : ga ρ with
  | bad => rw [q] at h; exact h.elim
  | ex x ρ' => rw [q] at h; exact h
  | ok a ρ1 =>
    rw [q] at h
    simp only [R.bind_ok, G.bind_at] at h
    intro v F1 H1 fp1 w1 r1 s1 c1
    refine oRun w1 c1 ?_
    cases q2 : gb ρ1 with
    | bad => rw [q2] at h; exact h.elim
    | ex x ρ' => rw [q2] at h; exact h
    | ok b ρ2 =>
      rw [q2] at h
      simp only [R.bind_ok, G.bind_at] at h
      intro u F2 H2 fp2 w2 r2 s2 c2
      cases da : deref ρ2 a with
      | none => rw [da] at h; exact h.elim
      | some x =>
        cases db : deref ρ2 b with
        | none => rw [da, db] at h; exact h.elim
        | some y =>
          rw [da, db] at h
          simp only [gFin] at h
          cases fe : f x y with
          | none => rw [fe] at h; exact h.elim
          | some c =>
            rw [fe] at h
            exact h v u x y F2 H2 fp2 w2 (deref_sh w2 (r1.mono s2) da) (deref_sh w2 r2 db) fe c2
theorem bin_ok {f : PyData → PyData → Option C} {ga gb : G Op} {Q : VK} (h : tE K mg W (gOp2 f ga gb) σ H Q) : tOp (r2 K mg f) (tO K mg W ga) (tO K mg W gb) σ H Q := by
  obtain ⟨ρ, fp, F, w, h⟩ := h
  refine op2_ok (f := f) (Qa := fun _ _ _ _ _ _ _ _ => True) w ?_
  unfold gOp2 at h
  revert h
  generalize (G.bind ga fun a => G.bind gb fun b => (fun ρ => match deref ρ a, deref ρ b with | some x, some y => gFin (f x y) ρ | _, _ => R.bad : G C)) ρ = r
  intro h
  cases r with
  | bad => exact h
  | ex x ρ' => exact h
  | ok c ρ' =>
    intro x y dx dy F' H' fp' w' sx sy e ch
    exact ⟨F', dx, dy, c, w'.sub, sx, sy, e, fin_post w' ch h⟩
theorem tst_ok {f : PyData → PyData → Option Bool} {ga gb : G Op} {Q : Bool → Hp → Prop} (h : tT K mg W (gT2 f ga gb) σ H Q) : tTest (tOp (r2 K mg (cmpC f)) (tO K mg W ga) (tO K mg W gb)) σ H Q := by
  obtain ⟨ρ, fp, F, w, h⟩ := h
  refine op2_ok (f := f) (Qa := fun _ _ _ _ _ _ _ _ => True) w ?_
  unfold gT2 at h
  revert h
  generalize (G.bind ga fun a => G.bind gb fun b => (fun ρ => match deref ρ a, deref ρ b with | some x, some y => gFin (f x y) ρ | _, _ => R.bad : G Bool)) ρ = r
  intro h
  cases r with
  | bad => exact h
  | ex x ρ' => exact h
  | ok c ρ' =>
    intro x y dx dy F' H' fp' w' sx sy e ch
    refine ⟨F', dx, dy, .val (.bool c), w'.sub, sx, sy, by simp [cmpC, e], ?_⟩
    intro z F2 H2 fv x2 r2 n2
    simp only [Rc] at r2
    cases r2.1.1
    exact ⟨c, rfl, h F2 H2 fp' (w'.frs x2) (ch.trans x2.chg)⟩
theorem e_bin {op : Operator} {f : PyData → PyData → Option C} {a b : Expr} {ga gb : G Op} {pos : Pos} (ho : OpR X (binaryOp op) (r2 K mg f)) (ha : PE X a (tO K mg W ga)) (hb : PE X b (tO K mg W gb)) : PE X (.BinOp a op b pos) (tE K mg W (gOp2 f ga gb)) :=
  (pe_op ho ha hb).imp fun _ _ _ => bin_ok
theorem e_cmp {op : CmpOp} {f : PyData → PyData → Option Bool} {a b : Expr} {ga gb : G Op} {pos : Pos} (ho : OpR X (compareOp op) (r2 K mg (cmpC f))) (ha : PE X a (tO K mg W ga)) (hb : PE X b (tO K mg W gb)) (hm : behindInMarks op b = false := by rfl) :
    PE X (.Compare a [op] [b] pos) (tE K mg W (gOp2 (cmpC f) ga gb)) := (pe_cmpR ho ha hb hm).imp fun _ _ _ => bin_ok
theorem t_cmp {op : CmpOp} {f : PyData → PyData → Option Bool} {a b : Expr} {ga gb : G Op} {pos : Pos} (ho : OpR X (compareOp op) (r2 K mg (cmpC f))) (ha : PE X a (tO K mg W ga)) (hb : PE X b (tO K mg W gb)) (hm : behindInMarks op b = false := by rfl) :
    PT X (.Compare a [op] [b] pos) (tT K mg W (gT2 f ga gb)) := (pt_cmpR ho ha hb hm).imp fun _ _ _ => tst_ok
/-- a op b op' c -/
def gCh (f f' : PyData → PyData → Option Bool) (ga gb gc : G Op) : G Bool := G.bind ga fun a => G.bind gb fun b => fun ρ => match deref ρ a, deref ρ b with
  | some x, some y => match f x y with
    | some true => (gc ρ).bind fun c => fun ρ => match deref ρ b, deref ρ c with
      | some y, some z => gFin (f' y z) ρ
      | _, _ => .bad
    | some false => .ok false ρ
    | none => .bad
  | _, _ => .bad
theorem chain_ok {f f' : PyData → PyData → Option Bool} {ga gb gc : G Op} {Q : Bool → Hp → Prop} (h : tT K mg W (gCh f f' ga gb gc) σ H Q) :
    tTest (tChain (r2 K mg (cmpC f)) (r2 K mg (cmpC f')) (tO K mg W ga) (tO K mg W gb) (tO K mg W gc)) σ H Q := by
  obtain ⟨ρ, fp, F, w, h⟩ := h
  unfold gCh G.bind at h
  refine oRun w Chg.refl ?_
  cases q : ga ρ with
  | bad => rw [q] at h; exact h.elim
  | ex x ρ' => rw [q] at h; exact h
  | ok a ρ1 =>
    rw [q] at h
    simp only [R.bind_ok, G.bind_at] at h
    intro v F1 H1 fp1 w1 r1 s1 c1
    refine oRun w1 c1 ?_
    cases q2 : gb ρ1 with
    | bad => rw [q2] at h; exact h.elim
    | ex x ρ' => rw [q2] at h; exact h
    | ok b ρ2 =>
      rw [q2] at h
      simp only [R.bind_ok, G.bind_at] at h
      intro u F2 H2 fp2 w2 r2 s2 c2
      cases da : deref ρ2 a with
      | none => rw [da] at h; exact h.elim
      | some x =>
        cases db : deref ρ2 b with
        | none => rw [da, db] at h; exact h.elim
        | some y =>
          rw [da, db] at h
          simp only at h
          cases fe : f x y with
          | none => rw [fe] at h; exact h.elim
          | some k =>
            rw [fe] at h
            refine ⟨F2, x, y, .val (.bool k), w2.sub, deref_sh w2 (r1.mono s2) da, deref_sh w2 r2 db, by simp [cmpC, fe], ?_⟩
            intro z F3 H3 fv x3 rc3 n3
            simp only [Rc] at rc3
            cases rc3.1.1
            have w3 := w2.frs x3
            have c3 := c2.trans x3.chg
            refine ⟨k, rfl, ?_⟩
            cases k with
            | false => exact ⟨false, rfl, h F3 H3 fp2 w3 c3⟩
            | true =>
              refine oRun w3 c3 ?_
              simp only at h
              cases q3 : gc ρ2 with
              | bad => rw [q3] at h; exact h.elim
              | ex x ρ' => rw [q3] at h; exact h
              | ok c ρ3 =>
                rw [q3] at h
                simp only [R.bind_ok, G.bind_at] at h
                intro t F4 H4 fp4 w4 r4 s4 c4
                cases db' : deref ρ3 b with
                | none => rw [db'] at h; exact h.elim
                | some y' =>
                  cases dc : deref ρ3 c with
                  | none => rw [db', dc] at h; exact h.elim
                  | some z' =>
                    rw [db', dc] at h
                    simp only [gFin] at h
                    cases fe' : f' y' z' with
                    | none => rw [fe'] at h; exact h.elim
                    | some k' =>
                      rw [fe'] at h
                      refine ⟨F4, y', z', .val (.bool k'), w4.sub, deref_sh w4 ((r2.mono x3.fz).mono s4) db', deref_sh w4 r4 dc, by simp [cmpC, fe'], ?_⟩
                      intro z5 F5 H5 fv5 x5 rc5 n5
                      simp only [Rc] at rc5
                      cases rc5.1.1
                      exact ⟨k', rfl, h F5 H5 fp4 (w4.frs x5) (c4.trans x5.chg)⟩
theorem t_chain {op op' : CmpOp} {f f' : PyData → PyData → Option Bool} {a b c : Expr} {ga gb gc : G Op} {pos : Pos} (ho : OpR X (compareOp op) (r2 K mg (cmpC f))) (ho' : OpR X (compareOp op') (r2 K mg (cmpC f')))
    (ha : PE X a (tO K mg W ga)) (hb : PE X b (tO K mg W gb)) (hc : PE X c (tO K mg W gc)) (hm : lastMarks [op, op'] [b, c] = false := by with_unfolding_all rfl) :
    PT X (.Compare a [op, op'] [b, c] pos) (tT K mg W (gCh f f' ga gb gc)) := (pt_chain ho ho' ha hb hc hm).imp fun _ _ _ => chain_ok
/-- a truth as a value -/
def gB (g : G Bool) : G C := G.bind g fun b => G.ret (.val (.bool b))
theorem tTest_val {t : TE} {g : G Bool} (mono : ∀ σ H (Q Q' : VK), (∀ v H, Q v H → Q' v H) → t σ H Q → t σ H Q') (hb : ∀ σ H Q, tT K mg W g σ H Q → tTest t σ H Q) {σ : St} {H : Hp} {Q : VK} (h : tE K mg W (gB g) σ H Q) : t σ H Q := by
  obtain ⟨ρ, fp, F, w, h⟩ := h
  refine mono σ H (fun x H' => ∃ k, x = .bl k ∧ Q (.bl k) H') Q (fun v H' ⟨k, e, q⟩ => by rw [e]; exact q) (hb σ H _ ?_)
  refine tRun w Chg.refl ?_
  unfold gB G.bind at h
  cases q : g ρ with
  | bad => rw [q] at h; exact h.elim
  | ex x ρ' => rw [q] at h; exact h
  | ok b ρ' =>
    rw [q] at h
    intro F' H' fp' w' s' c'
    exact h (.bl b) F' H' fp' _ w' (Rc.of_dp (.bl b)) (fun _ z => z.elim) c'.or_false
theorem tO_mono {g : G Op} {σ : St} {H : Hp} {Q Q' : VK} (k : ∀ v H, Q v H → Q' v H) (h : tO K mg W g σ H Q) : tO K mg W g σ H Q' := by
  obtain ⟨ρ, fp, F, w, h⟩ := h
  refine ⟨ρ, fp, F, w, ?_⟩
  cases q : g ρ with
  | bad => rw [q] at h; exact h
  | ex x ρ' => rw [q] at h; exact h
  | ok o ρ' => rw [q] at h; exact fun v F' H' fp' w' r c => k _ _ (h v F' H' fp' w' r c)
theorem r2_mono {f : PyData → PyData → Option C} {x y : V} {H : Hp} {Q Q' : VK} (k : ∀ v H, Q v H → Q' v H) (h : r2 K mg f x y H Q) : r2 K mg f x y H Q' := by
  obtain ⟨F, dx, dy, c, s, h1, h2, e, p⟩ := h
  exact ⟨F, dx, dy, c, s, h1, h2, e, fun z F' H' fv a b c => k _ _ (p z F' H' fv a b c)⟩
theorem chain_mono {f f' : PyData → PyData → Option C} {ga gb gc : G Op} (σ : St) (H : Hp) (Q Q' : VK) (k : ∀ v H, Q v H → Q' v H)
    (h : tChain (r2 K mg f) (r2 K mg f') (tO K mg W ga) (tO K mg W gb) (tO K mg W gc) σ H Q) : tChain (r2 K mg f) (r2 K mg f') (tO K mg W ga) (tO K mg W gb) (tO K mg W gc) σ H Q' := by
  refine tO_mono (fun x H1 h => tO_mono (fun y H2 h => r2_mono (fun z H3 ⟨b, e, h⟩ => ⟨b, e, ?_⟩) h) h) h
  cases b with
  | true => exact tO_mono (fun t H4 h => r2_mono k h) h
  | false => exact k _ _ h
theorem e_chain {op op' : CmpOp} {f f' : PyData → PyData → Option Bool} {a b c : Expr} {ga gb gc : G Op} {pos : Pos} (ho : OpR X (compareOp op) (r2 K mg (cmpC f))) (ho' : OpR X (compareOp op') (r2 K mg (cmpC f')))
    (ha : PE X a (tO K mg W ga)) (hb : PE X b (tO K mg W gb)) (hc : PE X c (tO K mg W gc)) (hm : lastMarks [op, op'] [b, c] = false := by with_unfolding_all rfl) :
    PE X (.Compare a [op, op'] [b, c] pos) (tE K mg W (gB (gCh f f' ga gb gc))) := (pe_chain ho ho' ha hb hc hm).imp fun _ _ _ => tTest_val chain_mono fun _ _ _ => chain_ok

/-! ### truths -/
def tru : C → Option Bool
  | .val (.bool b) => some b
  | _ => none
theorem tru_eq {c : C} {b : Bool} (h : tru c = some b) : c = .val (.bool b) := by
  unfold tru at h
  split at h
  · cases h; rfl
  · cases h
def gTru (g : G C) : G Bool := G.bind g fun c => gFin (tru c)
theorem val_ok {g : G C} {Q : Bool → Hp → Prop} (h : tT K mg W (gTru g) σ H Q) : tB (tE K mg W g) σ H Q := by
  obtain ⟨ρ, fp, F, w, h⟩ := h
  unfold gTru G.bind at h
  refine eRun w Chg.refl ?_
  cases q : g ρ with
  | bad => rw [q] at h; exact h.elim
  | ex x ρ' => rw [q] at h; exact h
  | ok c ρ' =>
    rw [q] at h
    simp only [R.bind_ok, G.bind_at] at h
    intro v F' H' fp' fv w' r d _ c'
    simp only [gFin] at h
    cases z : tru c with
    | none => rw [z] at h; exact h.elim
    | some b =>
      rw [z] at h
      cases tru_eq z
      simp only [Rc] at r
      cases r.1.1
      exact ⟨_, rfl, h F' H' fp' w' (c'.to fun a => .inl)⟩
theorem t_val {e : Expr} {g : G C} (h : PE X e (tE K mg W g)) (he : ∀ whole, isTrue e X.env whole = (do let v ← whole; standAt e.pos; holding [v] (truthy v)) := by intro _; rfl) : PT X e (tT K mg W (gTru g)) := (pt_val h he).imp fun _ _ _ => val_ok
def gAnd (g g' : G Bool) : G Bool := G.bind g fun b => if b = true then g' else G.ret false
def gOr (g g' : G Bool) : G Bool := G.bind g fun b => if b = true then G.ret true else g'
def gNot (g : G Bool) : G Bool := G.bind g fun b => G.ret (!b)
theorem gAnd_ok {g g' : G Bool} {Q : Bool → Hp → Prop} (h : tT K mg W (gAnd g g') σ H Q) : tAnd (tT K mg W g) (tT K mg W g') σ H Q := by
  obtain ⟨ρ, fp, F, w, h⟩ := h
  unfold gAnd G.bind at h
  refine tRun w Chg.refl ?_
  cases q : g ρ with
  | bad => rw [q] at h; exact h.elim
  | ex x ρ' => rw [q] at h; exact h
  | ok b ρ1 =>
    rw [q] at h
    simp only [R.bind_ok, G.bind_at] at h
    intro F1 H1 fp1 w1 s1 c1
    cases b with
    | true => exact tRun w1 c1 (by
        simp only [if_true] at h
        cases q2 : g' ρ1 with
        | bad => rw [q2] at h; exact h
        | ex x ρ' => rw [q2] at h; exact h
        | ok b ρ2 => rw [q2] at h; exact fun F' H' fp' w' _ c' => h F' H' fp' w' c')
    | false => exact h F1 H1 fp1 w1 c1
theorem gOr_ok {g g' : G Bool} {Q : Bool → Hp → Prop} (h : tT K mg W (gOr g g') σ H Q) : tOr (tT K mg W g) (tT K mg W g') σ H Q := by
  obtain ⟨ρ, fp, F, w, h⟩ := h
  unfold gOr G.bind at h
  refine tRun w Chg.refl ?_
  cases q : g ρ with
  | bad => rw [q] at h; exact h.elim
  | ex x ρ' => rw [q] at h; exact h
  | ok b ρ1 =>
    rw [q] at h
    simp only [R.bind_ok, G.bind_at] at h
    intro F1 H1 fp1 w1 s1 c1
    cases b with
    | false => exact tRun w1 c1 (by
        simp only [Bool.false_eq_true, if_false] at h
        cases q2 : g' ρ1 with
        | bad => rw [q2] at h; exact h
        | ex x ρ' => rw [q2] at h; exact h
        | ok b ρ2 => rw [q2] at h; exact fun F' H' fp' w' _ c' => h F' H' fp' w' c')
    | true => exact h F1 H1 fp1 w1 c1
theorem gNot_ok {g : G Bool} {Q : Bool → Hp → Prop} (h : tT K mg W (gNot g) σ H Q) : tNot (tT K mg W g) σ H Q := by
  obtain ⟨ρ, fp, F, w, h⟩ := h
  unfold gNot G.bind at h
  refine tRun w Chg.refl ?_
  cases q : g ρ with
  | bad => rw [q] at h; exact h.elim
  | ex x ρ' => rw [q] at h; exact h
  | ok b ρ1 =>
    rw [q] at h
    exact fun F1 H1 fp1 w1 s1 c1 => h F1 H1 fp1 w1 c1
variable {a b c : Expr} {rest : List Expr} {pos : Pos}
theorem w_and1 {g : G Bool} (ha : PT X a (tT K mg W g)) : PW X (.BoolOp .And [a] pos) (tT K mg W g) := pw_and1 ha
theorem w_or1 {g : G Bool} (ha : PT X a (tT K mg W g)) : PW X (.BoolOp .Or [a] pos) (tT K mg W g) := pw_or1 ha
theorem w_and {g g' : G Bool} (ha : PT X a (tT K mg W g)) (hb : PW X (.BoolOp .And (b :: rest) pos) (tT K mg W g')) : PW X (.BoolOp .And (a :: b :: rest) pos) (tT K mg W (gAnd g g')) := (pw_and ha hb).imp fun _ _ _ => gAnd_ok
theorem w_or {g g' : G Bool} (ha : PT X a (tT K mg W g)) (hb : PW X (.BoolOp .Or (b :: rest) pos) (tT K mg W g')) : PW X (.BoolOp .Or (a :: b :: rest) pos) (tT K mg W (gOr g g')) := (pw_or ha hb).imp fun _ _ _ => gOr_ok
theorem t_not {g : G Bool} (ha : PT X a (tT K mg W g)) : PT X (.UnaryOp .Not a pos) (tT K mg W (gNot g)) := (pt_not ha).imp fun _ _ _ => gNot_ok
/-- .. as values -/
def gAndV (g g' : G C) : G C := G.bind g fun c => match tru c with
  | some b => if b = true then g' else G.ret (.val (.bool false))
  | none => G.bad
def gOrV (g g' : G C) : G C := G.bind g fun c => match tru c with
  | some b => if b = true then G.ret (.val (.bool true)) else g'
  | none => G.bad
def gNotV (g : G C) : G C := G.bind g fun c => match tru c with
  | some b => G.ret (.val (.bool (!b)))
  | none => G.bad
/-- onwards with what follows -/
theorem eGo {g : G C} {Q : VK} (w : Wd K mg F H ρ fp σ) (ch : Chg fp0 F0 H0 fp F H)
    (h : match g ρ with
      | .ok c ρ' => ∀ v F' H' fp' fv, Wd K mg F' H' ρ' fp' σ → Rc K mg F' H' c v fv → (∀ a, fv a → ¬ fp' a) → Chg fp0 F0 H0 (fun a => fp' a ∨ fv a) F' H' → Q v H'
      | .ex x ρ' => exPost K mg W F0 H0 fp0 σ x ρ'
      | .bad => False) : tE K mg W g σ H Q := eRun w ch (by
  cases q : g ρ with
  | bad => rw [q] at h; exact h
  | ex x ρ' => rw [q] at h; exact h
  | ok c ρ' => rw [q] at h; exact fun v F' H' fp' fv w' r d _ c' => h v F' H' fp' fv w' r d c')
theorem gAndV_ok {g g' : G C} {Q : VK} (h : tE K mg W (gAndV g g') σ H Q) : tAndV (tE K mg W g) (tE K mg W g') σ H Q := by
  obtain ⟨ρ, fp, F, w, h⟩ := h
  unfold gAndV G.bind at h
  refine eRun w Chg.refl ?_
  cases q : g ρ with
  | bad => rw [q] at h; exact h.elim
  | ex x ρ' => rw [q] at h; exact h
  | ok c ρ1 =>
    rw [q] at h
    simp only [R.bind_ok, G.bind_at] at h
    intro v F1 H1 fp1 fv1 w1 r1 d1 _ c1
    cases z : tru c with
    | none => rw [z] at h; exact h.elim
    | some b =>
      rw [z] at h
      cases tru_eq z
      simp only [Rc] at r1
      cases r1.1.1
      cases b with
      | true => exact ⟨true, rfl, iteT (eGo w1 (c1.to fun a => .inl) h)⟩
      | false => exact ⟨false, rfl, iteF (h (.bl false) F1 H1 fp1 _ w1 (Rc.of_dp (.bl false)) (fun _ z => z.elim) (c1.to fun a z => z.elim .inl False.elim))⟩
theorem gOrV_ok {g g' : G C} {Q : VK} (h : tE K mg W (gOrV g g') σ H Q) : tOrV (tE K mg W g) (tE K mg W g') σ H Q := by
  obtain ⟨ρ, fp, F, w, h⟩ := h
  unfold gOrV G.bind at h
  refine eRun w Chg.refl ?_
  cases q : g ρ with
  | bad => rw [q] at h; exact h.elim
  | ex x ρ' => rw [q] at h; exact h
  | ok c ρ1 =>
    rw [q] at h
    simp only [R.bind_ok, G.bind_at] at h
    intro v F1 H1 fp1 fv1 w1 r1 d1 _ c1
    cases z : tru c with
    | none => rw [z] at h; exact h.elim
    | some b =>
      rw [z] at h
      cases tru_eq z
      simp only [Rc] at r1
      cases r1.1.1
      cases b with
      | true => exact ⟨true, rfl, iteT (h (.bl true) F1 H1 fp1 _ w1 (Rc.of_dp (.bl true)) (fun _ z => z.elim) (c1.to fun a z => z.elim .inl False.elim))⟩
      | false => exact ⟨false, rfl, iteF (eGo w1 (c1.to fun a => .inl) h)⟩
theorem gNotV_ok {g : G C} {Q : VK} (h : tE K mg W (gNotV g) σ H Q) : tNotV (tE K mg W g) σ H Q := by
  obtain ⟨ρ, fp, F, w, h⟩ := h
  unfold gNotV G.bind at h
  refine eRun w Chg.refl ?_
  cases q : g ρ with
  | bad => rw [q] at h; exact h.elim
  | ex x ρ' => rw [q] at h; exact h
  | ok c ρ1 =>
    rw [q] at h
    simp only [R.bind_ok, G.bind_at] at h
    intro v F1 H1 fp1 fv1 w1 r1 d1 _ c1
    cases z : tru c with
    | none => rw [z] at h; exact h.elim
    | some b =>
      rw [z] at h
      cases tru_eq z
      simp only [Rc] at r1
      cases r1.1.1
      exact ⟨_, rfl, h (.bl _) F1 H1 fp1 _ w1 (Rc.of_dp (.bl _)) (fun _ z => z.elim) (c1.to fun a z => z.elim .inl False.elim)⟩
theorem e_one {op} {t : TE} (h : PE X a t) : PE X (.BoolOp op [a] pos) t := pe_one h
theorem e_and {g g' : G C} (ha : PE X a (tE K mg W g)) (hb : PE X (.BoolOp .And (b :: rest) pos) (tE K mg W g')) : PE X (.BoolOp .And (a :: b :: rest) pos) (tE K mg W (gAndV g g')) := (pe_and ha hb).imp fun _ _ _ => gAndV_ok
theorem e_or {g g' : G C} (ha : PE X a (tE K mg W g)) (hb : PE X (.BoolOp .Or (b :: rest) pos) (tE K mg W g')) : PE X (.BoolOp .Or (a :: b :: rest) pos) (tE K mg W (gOrV g g')) := (pe_or ha hb).imp fun _ _ _ => gOrV_ok
theorem e_not {g : G C} (ha : PE X a (tE K mg W g)) : PE X (.UnaryOp .Not a pos) (tE K mg W (gNotV g)) := (pe_not ha).imp fun _ _ _ => gNotV_ok
/-- a if t else b -/
def gIf {α : Type} (t : G Bool) (g g' : G α) : G α := G.bind t fun b => if b = true then g else g'
theorem gIf_ok {t : G Bool} {g g' : G C} {Q : VK} (h : tE K mg W (gIf t g g') σ H Q) : tIf (tT K mg W t) (tE K mg W g) (tE K mg W g') σ H Q := by
  obtain ⟨ρ, fp, F, w, h⟩ := h
  unfold gIf G.bind at h
  refine tRun w Chg.refl ?_
  cases q : t ρ with
  | bad => rw [q] at h; exact h.elim
  | ex x ρ' => rw [q] at h; exact h
  | ok b ρ1 =>
    rw [q] at h
    simp only [R.bind_ok, G.bind_at] at h
    intro F1 H1 fp1 w1 s1 c1
    cases b with
    | true => exact iteT (eGo w1 c1 h)
    | false => exact iteF (eGo w1 c1 h)
theorem e_if {t : G Bool} {g g' : G C} (hc : PT X c (tT K mg W t)) (ha : PE X a (tE K mg W g)) (hb : PE X b (tE K mg W g')) : PE X (.IfExp c a b pos) (tE K mg W (gIf t g g')) := (pe_ifExp hc ha hb).imp fun _ _ _ => gIf_ok

/-! ### displays -/
def mkTup (cs : List C) : C := match vals cs with
  | some ds => .val (.tuple ds)
  | none => .tup cs
def gTup (gs : List (G C)) : G C := G.bind (gEs gs) fun cs => G.ret (mkTup cs)
def gLst (gs : List (G C)) : G C := G.bind (gEs gs) fun cs => G.ret (.lst cs)
theorem Rcs.length : ∀ {cs : List C} {vs : List V} {f : AS}, Rcs K mg F H cs vs f → vs.length = cs.length
  | [], vs, f, h => by simp only [Rcs] at h; rw [h.1]; rfl
  | c :: cs, vs, f, h => by
    simp only [Rcs] at h
    obtain ⟨v, r, f1, f2, h1, h2, h3, h4, h5⟩ := h
    rw [h1]; simp [Rcs.length h3]
theorem vals_none : ∀ {cs : List C} {ds : List PyData} {vs : List V} {f : AS}, Rcs K mg F H cs vs f → vals cs = some ds → ∀ a, ¬ f a
  | [], ds, vs, f, h, e => by simp only [Rcs] at h; exact h.2
  | .val d :: r, ds, vs, f, h, e => by
    simp only [vals] at e
    simp only [Rcs, Rc] at h
    obtain ⟨v, vr, f1, f2, h1, h2, h3, h4, h5⟩ := h
    cases q : vals r with
    | none => rw [q] at e; cases e
    | some dr => exact fun a z => ((h5 a).mp z).elim (h2.2 a) (vals_none h3 q a)
  | .tup _ :: r, ds, vs, f, h, e => by simp [vals] at e
  | .lst _ :: r, ds, vs, f, h, e => by simp [vals] at e
  | .dic _ _ :: r, ds, vs, f, h, e => by simp [vals] at e
  | .obj _ _ _ :: r, ds, vs, f, h, e => by simp [vals] at e
  | .ref _ :: r, ds, vs, f, h, e => by simp [vals] at e
  | .lam _ _ _ :: r, ds, vs, f, h, e => by simp [vals] at e
theorem upd_same_of {H : Hp} {p : Addr} {o : HO} (hp : H p = none) : Same H (upd H p o) := fun b u e => by rw [upd_ne (ne_of_none e hp)]; exact e
/-- a new thing at p -/
theorem Frs.new {p : Addr} {o : HO} (s : Same F H) (hp : H p = none) : Frs F H F (upd H p o) := ⟨Same.refl _, s.trans (upd_same_of hp), upd_same_of hp, fun _ _ => rfl⟩
/-- .. frozen at once -/
theorem Frs.newF {p : Addr} {o : HO} (s : Same F H) (hp : H p = none) : Frs F H (upd F p o) (upd H p o) := by
  have hf : F p = none := s.free hp
  refine ⟨upd_same_of hf, fun b u e => ?_, upd_same_of hp, fun a n => ?_⟩
  · by_cases hb : b = p
    · subst hb; rw [upd_same] at e ⊢; exact e
    · rw [upd_ne hb] at e ⊢; exact s b u e
  · rw [upd_ne]
    intro z
    rw [z] at n
    exact n hp
theorem few_line {n : Nat} (h : n ≤ 1000) : n ≤ sizeLine := Nat.le_trans h (by decide)
theorem Frs.keep {F' H' : Hp} {fv : AS} (x : Frs F H F' H') (own : ∀ a, fv a → ∃ o, H a = some o) : ∀ a, fv a → H' a = H a ∧ F' a = F a := fun a z => by
  obtain ⟨o, e⟩ := own a z
  exact ⟨by rw [x.kp a o e, e], x.fn a (by rw [e]; simp)⟩
theorem gTup_ok {gs : List (G C)} (hl : gs.length ≤ 1000) {Q : VK} (h : tE K mg W (gTup gs) σ H Q) : tTupN (tEs K mg W (gEs gs)) σ H Q := by
  obtain ⟨ρ, fp, F, w, h⟩ := h
  unfold gTup G.bind at h
  refine esRun w Chg.refl ?_
  cases q : gEs gs ρ with
  | bad => rw [q] at h; exact h.elim
  | ex x ρ' => rw [q] at h; exact h
  | ok cs ρ1 =>
    rw [q] at h
    intro vs F1 H1 fp1 fv1 w1 r1 d1 _ c1
    have hlen : vs.length ≤ 1000 := by rw [Rcs.length r1, gEs_length q]; exact hl
    refine ⟨few_line hlen, fun p o0 hp dn => ?_⟩
    simp only [R.bind_ok, G.ret, mkTup] at h
    have pv : ¬ fv1 p := fun z => by
      obtain ⟨_, o, e⟩ := Rcs.own r1 p z
      rw [hp] at e; cases e
    cases z : vals cs with
    | some ds =>
      rw [z] at h
      have x := Frs.newF (p := p) (o := .frz o0 (.tup vs)) w1.sub hp
      refine h (.ref p) _ _ fp1 (fun _ => False) (w1.frs x) (Rc.of_dp (.tup (SqN.new dn) (DqAll.mono x.fz (vals_sh r1 z)))) (fun _ z => z.elim) ((c1.to fun a => .inl).trans x.chg).or_false
    | none =>
      rw [z] at h
      have x := Frs.new (p := p) (o := .frz o0 (.tup vs)) w1.sub hp
      refine h (.ref p) _ _ fp1 (fun a => a = p ∨ fv1 a) (w1.frs x) ?_ (fun a z y => ?_) ?_
      · simp only [Rc]
        exact ⟨p, vs, fv1, rfl, SqN.new dn, w1.sub.free hp, r1.frame x.fz (x.keep fun a z => (Rcs.own r1 a z).2), pv, fun b => Iff.rfl⟩
      · rcases z with z | z
        · obtain ⟨_, o, e⟩ := w1.re.own a y
          rw [z, hp] at e; cases e
        · exact d1 a z y
      · have y := c1.trans (x.chg (fp := fun a => fp1 a ∨ fv1 a))
        refine ⟨y.fz, y.kp, y.fn, fun a z => ?_⟩
        rcases z with z | z | z
        · exact c1.nw a (.inl z)
        · subst z
          by_cases hf : fp a
          · exact .inl hf
          · right
            cases q : H a with
            | none => rfl
            | some o => rw [c1.kp a o hf q] at hp; cases hp
        · exact c1.nw a (.inr z)
theorem gLst_ok {gs : List (G C)} (hl : gs.length ≤ 1000) {Q : VK} (h : tE K mg W (gLst gs) σ H Q) : tLst (tEs K mg W (gEs gs)) σ H Q := by
  obtain ⟨ρ, fp, F, w, h⟩ := h
  unfold gLst G.bind at h
  refine esRun w Chg.refl ?_
  cases q : gEs gs ρ with
  | bad => rw [q] at h; exact h.elim
  | ex x ρ' => rw [q] at h; exact h
  | ok cs ρ1 =>
    rw [q] at h
    intro vs F1 H1 fp1 fv1 w1 r1 d1 _ c1
    have hlen : vs.length ≤ 1000 := by rw [Rcs.length r1, gEs_length q]; exact hl
    refine ⟨few_line hlen, fun p hp => ?_⟩
    have pv : ¬ fv1 p := fun z => by
      obtain ⟨_, o, e⟩ := Rcs.own r1 p z
      rw [hp] at e; cases e
    have x := Frs.new (p := p) (o := .lst vs) w1.sub hp
    refine h (.ref p) _ _ fp1 (fun a => a = p ∨ fv1 a) (w1.frs x) ?_ (fun a z y => ?_) ?_
    · simp only [Rc]
      exact ⟨p, vs, fv1, rfl, upd_same, w1.sub.free hp, r1.frame x.fz (x.keep fun a z => (Rcs.own r1 a z).2), pv, fun b => Iff.rfl⟩
    · rcases z with z | z
      · obtain ⟨_, o, e⟩ := w1.re.own a y
        rw [z, hp] at e; cases e
      · exact d1 a z y
    · have y := c1.trans (x.chg (fp := fun a => fp1 a ∨ fv1 a))
      refine ⟨y.fz, y.kp, y.fn, fun a z => ?_⟩
      rcases z with z | z | z
      · exact c1.nw a (.inl z)
      · subst z
        by_cases hf : fp a
        · exact .inl hf
        · right
          cases q : H a with
          | none => rfl
          | some o => rw [c1.kp a o hf q] at hp; cases hp
      · exact c1.nw a (.inr z)
theorem e_tup {es : List Expr} {gs : List (G C)} {x1} (h : PA X es (tEs K mg W (gEs gs))) (hl : gs.length ≤ 1000 := by decide) : PE X (.Tuple es x1 pos) (tE K mg W (gTup gs)) := (pe_tupN h).imp fun _ _ _ => gTup_ok hl
theorem e_lst {es : List Expr} {gs : List (G C)} (h : PA X es (tEs K mg W (gEs gs))) (hl : gs.length ≤ 1000 := by decide) : PE X (.List es pos) (tE K mg W (gLst gs)) := (pe_lst h).imp fun _ _ _ => gLst_ok hl

/-! ### calls of what is built in -/
theorem opN_ok {f : List PyData → Option C} {g : G (List Op)} {Q : VK} (h : tE K mg W (gOpN f g) σ H Q) : tCB (rN K mg f) (tOs K mg W g) σ H Q := by
  obtain ⟨ρ, fp, F, w, h⟩ := h
  unfold gOpN G.bind at h
  refine osRun w Chg.refl ?_
  cases q : g ρ with
  | bad => rw [q] at h; exact h.elim
  | ex x ρ' => rw [q] at h; exact h
  | ok os ρ1 =>
    rw [q] at h
    simp only [R.bind_ok, G.bind_at] at h
    intro vs F1 H1 fp1 w1 r1 s1 c1
    cases z : derefs ρ1 os with
    | none => rw [z] at h; exact h.elim
    | some ds =>
      rw [z] at h
      simp only [gFin] at h
      cases fe : f ds with
      | none => rw [fe] at h; exact h.elim
      | some c =>
        rw [fe] at h
        exact ⟨F1, ds, c, w1.sub, derefs_sh w1 r1 z, fe, fin_post w1 c1 h⟩
variable {e : Expr} {es : List Expr} {p : Pos} {x : Str}
theorem e_callB {f : List PyData → Option C} {id : String} {gs : List (G Op)} (hc : CallR X (.builtin id) (rN K mg f)) (hg : Gl X x) (hm : X.mg x = none) (hv : bootBuiltins x = some (.builtin id)) (ha : PA X (e :: es) (tOs K mg W (gOs gs)))
    (hn : x ≠ "__name__" := by decide) (hdb : (x == ("__debug__" : Str)) = false := by decide) (he : starEach (e :: es) X.env = (false, eval e X.env) :: starEach es X.env := by rfl) (hpl : (backTo pos (starEach es X.env)).any (·.1) = false := by rfl) :
    PE X (.Call (.Name x p) (e :: es) [] pos) (tE K mg W (gOpN f (gOs gs))) := (pe_callB hc hg hm hv ha hn hdb he hpl).imp fun _ _ _ => opN_ok
theorem e_callTy {f : List PyData → Option C} {T : String} {gs : List (G Op)} (hc : CallR X (.type T) (rN K mg f)) (hg : Gl X x) (hm : X.mg x = none) (hv : bootBuiltins x = some (.type T)) (ha : PA X (e :: es) (tOs K mg W (gOs gs)))
    (hn : x ≠ "__name__" := by decide) (hdb : (x == ("__debug__" : Str)) = false := by decide) (he : starEach (e :: es) X.env = (false, eval e X.env) :: starEach es X.env := by rfl) (hpl : (backTo pos (starEach es X.env)).any (·.1) = false := by rfl) :
    PE X (.Call (.Name x p) (e :: es) [] pos) (tE K mg W (gOpN f (gOs gs))) := (pe_callTy hc hg hm hv ha hn hdb he hpl).imp fun _ _ _ => opN_ok
end
end Nd

/-! Nd4: what the operations do with data. -/
namespace Nd
open PySem L2
section
variable [TF] {X : Cx} {K : Frag} {mg : Str → Option Value} {W : WX} {F H : Hp} {v : V} {Q : VK}
theorem Sh.int {i : Int} (h : Sh K F H v (.int i)) : v = .int i := by
  rcases h with h | ⟨_, _, _, _, e, _⟩
  · exact h.int_inv
  · cases e
theorem Sh.str {x : Str} (h : Sh K F H v (.str x)) : v = .str x ∧ PyData.canLay0 (.str x) = true := by
  rcases h with h | ⟨_, _, _, _, e, _⟩
  · exact h.str_inv
  · cases e
theorem Sh.bl {b : Bool} (h : Sh K F H v (.bool b)) : v = .bl b := by
  rcases h with h | ⟨_, _, _, _, e, _⟩
  · exact h.bl_inv
  · cases e
theorem Sh.non (h : Sh K F H v .none) : v = .non := by
  rcases h with h | ⟨_, _, _, _, e, _⟩
  · exact h.non_inv
  · cases e
theorem Sh.list {ds : List PyData} (s : Same F H) (h : Sh K F H v (.list ds)) : ∃ a vs, v = .ref a ∧ SqL K H a vs ∧ DqAll K F vs ds := by
  rcases h with h | ⟨a, vs, ds', e1, e, e2, e3⟩
  · obtain ⟨a, vs, e, q, r⟩ := h.list_inv
    exact ⟨a, vs, e, s.seq q, r⟩
  · cases e
    exact ⟨a, vs, e1, .of e2, e3⟩
theorem Sh.tup {ds : List PyData} (s : Same F H) (h : Sh K F H v (.tuple ds)) : ∃ a vs, v = .ref a ∧ SqN F a vs ∧ SqT K H a vs ∧ DqAll K F vs ds := by
  rcases h with h | ⟨a, vs, ds', e1, e, e2, e3⟩
  · obtain ⟨a, vs, e, q, r⟩ := h.tup_inv
    exact ⟨a, vs, e, q, (q.mono s).t, r⟩
  · cases e
theorem Sh.lay {d : PyData} (h : Sh K F H v d) : d.canLay0 = true := by
  rcases h with h | ⟨a, vs, ds', e1, e, e2, e3⟩
  · exact h.2
  · rw [e]; simpa [PyData.canLay0] using e3.2
/-- read in the heap as it is -/
theorem Sh.dp {d : PyData} (s : Same F H) (h : Sh K F H v d) : Dp K H v d := by
  rcases h with h | ⟨a, vs, ds', e1, e, e2, e3⟩
  · exact (Dn.mono s h.1).dp
  · rw [e1, e]; exact .lst (.of e2) (DnAll.mono s e3.1).dp
theorem Rcs_vals : ∀ {ds : List PyData} {vs : List V}, DqAll K F vs ds → Rcs K mg F H (ds.map .val) vs (fun _ => False)
  | [], vs, h => by
    cases h.1
    simp only [List.map_nil, Rcs]
    exact ⟨trivial, fun _ z => z⟩
  | d :: ds, vs, ⟨h, l⟩ => by
    cases h with
    | cons a b =>
      simp only [List.map_cons, Rcs]
      exact ⟨_, _, fun _ => False, fun _ => False, rfl, Rc.of_dp ⟨a, (lay_cons.mp l).1⟩, Rcs_vals ⟨b, (lay_cons.mp l).2⟩, fun _ z => z.elim, fun _ => by simp⟩
/-- a list made anew -/
def mkL (ds : List PyData) : C := .lst (ds.map .val)
theorem Post.lst {ds : List PyData} {vs : List V} (p : Post K mg F H (mkL ds) Q) (s : Same F H) (h : DqAll K F vs ds) {a : Addr} (ha : H a = none) : Q (.ref a) (upd H a (.lst vs)) :=
  p (.ref a) F _ (fun b => b = a) (Frs.new s ha) (by
    simp only [mkL, Rc]
    exact ⟨a, vs, fun _ => False, rfl, upd_same, s.free ha, Rcs_vals h, id, fun b => by simp⟩) fun b e => by rw [e]; exact ha
theorem Post.tup {ds : List PyData} {vs : List V} (p : Post K mg F H (.val (.tuple ds)) Q) (s : Same F H) (h : DqAll K F vs ds) {a : Addr} {o : Obj} (ha : H a = none) (dn : o.dict = none) : Q (.ref a) (upd H a (.frz o (.tup vs))) := by
  have x := Frs.newF (p := a) (o := .frz o (.tup vs)) s ha
  exact p (.ref a) _ _ _ x (Rc.of_dp (.tup (SqN.new dn) (h.mono x.fz))) fun _ z => z.elim

/-! ### arithmetic -/
def lenOk (n : Nat) : Bool := decide (n ≤ sizeLine)
def addD : PyData → PyData → Option C
  | .int i, .int j => some (.val (.int (i + j)))
  | .str a, .str b => if lenOk (a.length + b.length) = true then some (.val (.str (a ++ b))) else none
  | .list a, .list b => if lenOk (a.length + b.length) = true then some (mkL (a ++ b)) else none
  | .tuple a, .tuple b => if lenOk (a.length + b.length) = true then some (.val (.tuple (a ++ b))) else none
  | _, _ => none
theorem lay_str_app {a b : Str} (h : PyData.canLay0 (.str a) = true) (k : PyData.canLay0 (.str b) = true) : PyData.canLay0 (.str (a ++ b)) = true := by
  have e : (a ++ b).cps = a.cps ++ b.cps := rfl
  simp only [PyData.canLay0, PyData.strOk, e, Array.all_append, Bool.and_eq_true] at h k ⊢
  exact ⟨h, k⟩
theorem op_catL : OpR X (binaryOp .Add) (fun x y H Q => ∃ l b xs zs, x = .ref l ∧ y = .ref b ∧ SqL X.K H l xs ∧ SqL X.K H b zs ∧ xs.length + zs.length ≤ sizeLine ∧ ∀ p, H p = none → Q (.ref p) (upd H p (.lst (xs ++ zs)))) := by
  intro pins s σ H x y v u Q I rx ry h
  obtain ⟨l, b, xs, zs, rfl, rfl, hH, hB, hz, q⟩ := h
  cases rx
  cases ry
  obtain ⟨its, r, hl, _⟩ := I.list hH
  obtain ⟨its2, r2, hl2, _⟩ := I.list hB
  obtain ⟨⟨cls, dd, data, sl⟩, n, ho, hc, hdn, hd⟩ := hl
  obtain ⟨⟨cls2, dd2, data2, sl2⟩, n2, ho2, hc2, hdn2, hd2⟩ := hl2
  simp only at hc hd hc2 hd2 hdn hdn2
  subst hc hd hc2 hd2 hdn hdn2
  have e : its.toArray ++ its2.toArray = (its ++ its2).toArray := by simp
  have e1 := r.length
  have e2 := r2.length
  refine concat_meets ⟨_, ho, rfl⟩ ⟨_, ho2, rfl⟩ noFill_list_add seq_list_add PySem.F.slot_list_add PySem.F.entry_list_add (PySem.F.args_list_add_2 _ _) (PyProof.Rows.list_addW l b its.toArray its2.toArray n n2 none none sl sl2 (by simp; omega)) ⟨ho, ho2, ?_⟩
  rw [e]
  exact ⟨.ref _, _, I.lnew (t' := s.toks) (r.append r2) (by rw [List.length_append]; omega), rfl, q _ I.fresh⟩
theorem o_add : OpR X (binaryOp .Add) (r2 X.K mg addD) := by
  intro pins s σ H x y v u Q I rx ry h
  obtain ⟨F, dx, dy, c, sub, hx, hy, e, post⟩ := h
  unfold addD at e
  split at e
  · cases e
    exact op_add pins s σ H x y v u Q I rx ry ⟨_, _, hx.int, hy.int, post.val sub (.int _)⟩
  · rename_i a b
    split at e
    · rename_i hl
      cases e
      exact op_add_str pins s σ H x y v u Q I rx ry ⟨_, _, hx.str.1, hy.str.1, of_decide_eq_true hl, post.val sub (.str (lay_str_app hx.str.2 hy.str.2))⟩
    · cases e
  · rename_i a b
    split at e
    · rename_i hl
      cases e
      obtain ⟨a1, vs1, e1, s1, r1⟩ := hx.list sub
      obtain ⟨a2, vs2, e2, s2, r2⟩ := hy.list sub
      have hl' := of_decide_eq_true hl
      exact op_catL pins s σ H x y v u Q I rx ry ⟨a1, a2, vs1, vs2, e1, e2, s1, s2, by rw [r1.length, r2.length]; exact hl', fun p hp => post.lst sub (r1.append r2) hp⟩
    · cases e
  · rename_i a b
    split at e
    · rename_i hl
      cases e
      obtain ⟨a1, vs1, e1, s1, s1', r1⟩ := hx.tup sub
      obtain ⟨a2, vs2, e2, s2, s2', r2⟩ := hy.tup sub
      have hl' := of_decide_eq_true hl
      have r := r1.append r2
      refine op_catN pins s σ H x y v u Q I rx ry ⟨a1, a2, vs1, vs2, e1, e2, s1', s2', by rw [r1.length, r2.length]; exact hl', fun n => ?_, fun n m => ?_, fun n m p o hp dn => post.tup sub r hp dn⟩
      · subst n
        exact post.val sub (.tup s2 (by simpa using r))
      · subst m
        exact post.val sub (.tup s1 (by simpa using r))
    · cases e
  · cases e
def subD : PyData → PyData → Option C
  | .int i, .int j => some (.val (.int (i - j)))
  | _, _ => none
theorem o_sub : OpR X (binaryOp .Sub) (r2 X.K mg subD) := by
  intro pins s σ H x y v u Q I rx ry h
  obtain ⟨F, dx, dy, c, sub, hx, hy, e, post⟩ := h
  unfold subD at e
  split at e
  · cases e
    exact op_sub pins s σ H x y v u Q I rx ry ⟨_, _, hx.int, hy.int, post.val sub (.int _)⟩
  · cases e
def mulD : PyData → PyData → Option C
  | .int i, .int j => if decide (i.natAbs < 18446744073709551616 ∨ j.natAbs < 18446744073709551616) = true then some (.val (.int (i * j))) else none
  | _, _ => none
theorem o_mul : OpR X (binaryOp .Mult) (r2 X.K mg mulD) := by
  intro pins s σ H x y v u Q I rx ry h
  obtain ⟨F, dx, dy, c, sub, hx, hy, e, post⟩ := h
  unfold mulD at e
  split at e
  · split at e
    · rename_i hl
      cases e
      refine op_mul pins s σ H x y v u Q I rx ry ⟨_, _, hx.int, hy.int, ?_, post.val sub (.int _)⟩
      unfold CMul
      rcases of_decide_eq_true hl with h | h
      · left; omega
      · right; omega
    · cases e
  · cases e
def modD : PyData → PyData → Option C
  | .int i, .int j => if decide (0 < j) = true then some (.val (.int (i % j))) else none
  | _, _ => none
theorem o_mod : OpR X (binaryOp .Mod) (r2 X.K mg modD) := by
  intro pins s σ H x y v u Q I rx ry h
  obtain ⟨F, dx, dy, c, sub, hx, hy, e, post⟩ := h
  unfold modD at e
  split at e
  · split at e
    · rename_i hl
      cases e
      exact op_mod pins s σ H x y v u Q I rx ry ⟨_, _, hx.int, hy.int, of_decide_eq_true hl, post.val sub (.int _)⟩
    · cases e
  · cases e
def fdivD : PyData → PyData → Option C
  | .int i, .int j => if decide (0 < j ∧ j < 1073741824) = true then some (.val (.int (i / j))) else none
  | _, _ => none
theorem o_fdiv : OpR X (binaryOp .FloorDiv) (r2 X.K mg fdivD) := by
  intro pins s σ H x y v u Q I rx ry h
  obtain ⟨F, dx, dy, c, sub, hx, hy, e, post⟩ := h
  unfold fdivD at e
  split at e
  · split at e
    · rename_i hl
      cases e
      have hh := of_decide_eq_true hl
      exact op_fdiv pins s σ H x y v u Q I rx ry ⟨_, _, hx.int, hy.int, hh, post.val sub (.int _)⟩
    · cases e
  · cases e
def powD : PyData → PyData → Option C
  | .int i, .int j => if decide (0 ≤ j ∧ j ≤ 1000000 ∧ i.natAbs < 18446744073709551616) = true then some (.val (.int (i ^ j.toNat))) else none
  | _, _ => none
theorem o_pow : OpR X (binaryOp .Pow) (r2 X.K mg powD) := by
  intro pins s σ H x y v u Q I rx ry h
  obtain ⟨F, dx, dy, c, sub, hx, hy, e, post⟩ := h
  unfold powD at e
  split at e
  · split at e
    · rename_i hl
      cases e
      have hh := of_decide_eq_true hl
      exact op_pow pins s σ H x y v u Q I rx ry ⟨_, _, hx.int, hy.int, hh, post.val sub (.int _)⟩
    · cases e
  · cases e

/-! ### comparisons -/
def eqD (x y : PyData) : Option Bool := if decide (x.depth ≤ 64 ∧ y.depth ≤ 64) = true then some (PyData.eqv x y) else none
def neD (x y : PyData) : Option Bool := (eqD x y).map (!·)
theorem cmpC_some {f : PyData → PyData → Option Bool} {x y : PyData} {c : C} (h : cmpC f x y = some c) : ∃ b, f x y = some b ∧ c = .val (.bool b) := by
  unfold cmpC at h
  cases q : f x y with
  | none => rw [q] at h; cases h
  | some b => rw [q] at h; cases h; exact ⟨b, rfl, rfl⟩
theorem shaped_of {d : PyData} (h : d.canLay0 = true) (k : d.depth ≤ 64) : SeqAt.shaped d = true := by
  unfold SeqAt.shaped
  rw [h, decide_eq_true k]
  rfl
theorem o_eq (hu : X.A.units + 65 < cLine) : OpR X (compareOp .Eq) (r2 X.K mg (cmpC eqD)) := by
  intro pins s σ H x y v u Q I rx ry h
  obtain ⟨F, dx, dy, c, sub, hx, hy, e0, post⟩ := h
  obtain ⟨b, e, rfl⟩ := cmpC_some e0
  clear e0
  unfold eqD at e
  split at e
  · rename_i hl
    cases e
    obtain ⟨h1, h2⟩ := of_decide_eq_true hl
    exact op_eqD (by omega) pins s σ H x y v u Q I rx ry ⟨dx, dy, hx.dp sub, hy.dp sub, shaped_of hx.lay h1, shaped_of hy.lay h2, post.val sub (.bl _)⟩
  · cases e
theorem o_ne (hu : X.A.units + 65 < cLine) : OpR X (compareOp .NotEq) (r2 X.K mg (cmpC neD)) := by
  intro pins s σ H x y v u Q I rx ry h
  obtain ⟨F, dx, dy, c, sub, hx, hy, e0, post⟩ := h
  obtain ⟨b, e, rfl⟩ := cmpC_some e0
  clear e0
  unfold neD eqD at e
  split at e
  · rename_i hl
    simp only [Option.map_some, Option.some.injEq] at e
    subst e
    obtain ⟨h1, h2⟩ := of_decide_eq_true hl
    exact op_neD (by omega) pins s σ H x y v u Q I rx ry ⟨dx, dy, hx.dp sub, hy.dp sub, shaped_of hx.lay h1, shaped_of hy.lay h2, post.val sub (.bl _)⟩
  · cases e
/-- x is None -/
def isNone : PyData → Bool
  | .none => true
  | _ => false
def isND (x y : PyData) : Option Bool := match y with
  | .none => some (isNone x)
  | _ => none
def notND (x y : PyData) : Option Bool := (isND x y).map (!·)
theorem isN_V {x : V} {d : PyData} (h : Sh K F H x d) : decide (x = .non) = isNone d := by
  cases d with
  | none => rw [h.non]; rfl
  | bool b => rw [h.bl]; rfl
  | int i => rw [h.int]; rfl
  | str s => rw [h.str.1]; rfl
  | list ds =>
    rcases h with h | ⟨a, vs, ds', e1, e, e2, e3⟩
    · obtain ⟨a, vs, e, _⟩ := h.list_inv
      rw [e]; rfl
    · rw [e1]; rfl
  | tuple ds =>
    rcases h with h | ⟨a, vs, ds', e1, e, e2, e3⟩
    · obtain ⟨a, vs, e, _⟩ := h.tup_inv
      rw [e]; rfl
    · rw [e1]; rfl
  | dict ds =>
    rcases h with h | ⟨a, vs, ds', e1, e, e2, e3⟩
    · cases h.1
    · cases e
theorem o_isN : OpR X (compareOp .Is) (r2 X.K mg (cmpC isND)) := by
  intro pins s σ H x y v u Q I rx ry h
  obtain ⟨F, dx, dy, c, sub, hx, hy, e0, post⟩ := h
  obtain ⟨b, e, rfl⟩ := cmpC_some e0
  clear e0
  unfold isND at e
  split at e
  · cases e
    exact op_isN pins s σ H x y v u Q I rx ry ⟨hy.non, by rw [isN_V hx]; exact post.val sub (.bl _)⟩
  · cases e
theorem o_notN : OpR X (compareOp .IsNot) (r2 X.K mg (cmpC notND)) := by
  intro pins s σ H x y v u Q I rx ry h
  obtain ⟨F, dx, dy, c, sub, hx, hy, e0, post⟩ := h
  obtain ⟨b, e, rfl⟩ := cmpC_some e0
  clear e0
  unfold notND isND at e
  split at e
  · simp only [Option.map_some, Option.some.injEq] at e
    subst e
    exact op_notN pins s σ H x y v u Q I rx ry ⟨hy.non, by rw [isN_V hx]; exact post.val sub (.bl _)⟩
  · cases e
def strLt (a b : Str) : Bool := decide (a.cps.toList < b.cps.toList)
def ltA : PyData → PyData → Option Bool
  | .int i, .int j => some (decide (i < j))
  | .str a, .str b => some (strLt a b)
  | _, _ => none
def leA : PyData → PyData → Option Bool
  | .int i, .int j => some (decide (i ≤ j))
  | .str a, .str b => some (!strLt b a)
  | _, _ => none
def gtA (x y : PyData) : Option Bool := ltA y x
def geA (x y : PyData) : Option Bool := leA y x
theorem o_ltA : OpR X (compareOp .Lt) (r2 X.K mg (cmpC ltA)) := by
  intro pins s σ H x y v u Q I rx ry h
  obtain ⟨F, dx, dy, c, sub, hx, hy, e0, post⟩ := h
  obtain ⟨b, e, rfl⟩ := cmpC_some e0
  clear e0
  unfold ltA at e
  split at e
  · cases e
    exact op_lt pins s σ H x y v u Q I rx ry ⟨_, _, hx.int, hy.int, post.val sub (.bl _)⟩
  · cases e
    exact op_lt_str pins s σ H x y v u Q I rx ry ⟨_, _, hx.str.1, hy.str.1, post.val sub (.bl _)⟩
  · cases e
theorem o_leA : OpR X (compareOp .LtE) (r2 X.K mg (cmpC leA)) := by
  intro pins s σ H x y v u Q I rx ry h
  obtain ⟨F, dx, dy, c, sub, hx, hy, e0, post⟩ := h
  obtain ⟨b, e, rfl⟩ := cmpC_some e0
  clear e0
  unfold leA at e
  split at e
  · cases e
    exact op_le pins s σ H x y v u Q I rx ry ⟨_, _, hx.int, hy.int, post.val sub (.bl _)⟩
  · cases e
    exact op_le_str pins s σ H x y v u Q I rx ry ⟨_, _, hx.str.1, hy.str.1, post.val sub (.bl _)⟩
  · cases e
theorem o_gtA : OpR X (compareOp .Gt) (r2 X.K mg (cmpC gtA)) := by
  intro pins s σ H x y v u Q I rx ry h
  obtain ⟨F, dx, dy, c, sub, hx, hy, e0, post⟩ := h
  obtain ⟨b, e, rfl⟩ := cmpC_some e0
  clear e0
  unfold gtA ltA at e
  split at e
  · cases e
    exact op_gt pins s σ H x y v u Q I rx ry ⟨_, _, hx.int, hy.int, post.val sub (.bl _)⟩
  · cases e
    exact op_gt_str pins s σ H x y v u Q I rx ry ⟨_, _, hx.str.1, hy.str.1, post.val sub (.bl _)⟩
  · cases e
theorem o_geA : OpR X (compareOp .GtE) (r2 X.K mg (cmpC geA)) := by
  intro pins s σ H x y v u Q I rx ry h
  obtain ⟨F, dx, dy, c, sub, hx, hy, e0, post⟩ := h
  obtain ⟨b, e, rfl⟩ := cmpC_some e0
  clear e0
  unfold geA leA at e
  split at e
  · cases e
    exact op_ge pins s σ H x y v u Q I rx ry ⟨_, _, hx.int, hy.int, post.val sub (.bl _)⟩
  · cases e
    exact op_ge_str pins s σ H x y v u Q I rx ry ⟨_, _, hx.str.1, hy.str.1, post.val sub (.bl _)⟩
  · cases e
/-- the one sign of a text -/
def sgn1 (a : Str) : Option Nat := match a.cps.toList with
  | [c] => some c
  | _ => none
theorem sgn1_eq {a : Str} {c : Nat} (h : sgn1 a = some c) : a = ⟨#[c]⟩ := by
  unfold sgn1 at h
  split at h
  · rename_i c' e
    cases h
    obtain ⟨cps⟩ := a
    have e2 : cps.toList = #[c].toList := e
    rw [show cps = #[c] from Array.toList_inj.mp e2]
  · cases h
/-- x in a list, a tuple; a sign in a text -/
def inD : PyData → PyData → Option Bool
  | d, .list ds => if decide (d.depth ≤ 64 ∧ PyData.depthAll ds ≤ 63) = true then some (ds.any fun z => PyData.eqv z d) else none
  | d, .tuple ds => if decide (d.depth ≤ 64 ∧ PyData.depthAll ds ≤ 63) = true then some (ds.any fun z => PyData.eqv z d) else none
  | .str a, .str z => (sgn1 a).map fun c => decide (c ∈ z.cps.toList)
  | _, _ => none
def notInD (x y : PyData) : Option Bool := (inD x y).map (!·)
theorem lay_list {ds : List PyData} : PyData.canLay0 (.list ds) = PyData.canLayAll0 ds := by simp [PyData.canLay0]
theorem lay_tup {ds : List PyData} : PyData.canLay0 (.tuple ds) = PyData.canLayAll0 ds := by simp [PyData.canLay0]
theorem o_in (hu : X.A.units + 65 < cLine) : OpR X (compareOp .In) (r2 X.K mg (cmpC inD)) := by
  intro pins s σ H x y v u Q I rx ry h
  obtain ⟨F, dx, dy, c, sub, hx, hy, e0, post⟩ := h
  obtain ⟨b, e, rfl⟩ := cmpC_some e0
  clear e0
  unfold inD at e
  split at e
  · rename_i d ds
    split at e
    · rename_i hl
      cases e
      obtain ⟨h1, h2⟩ := of_decide_eq_true hl
      exact op_inD hu pins s σ H x y v u Q I rx ry ⟨_, ds, hx.dp sub, hy.dp sub, shaped_of hx.lay h1, shaped_of hy.lay (by simp only [PyData.depth]; omega), post.val sub (.bl _)⟩
    · cases e
  · rename_i d ds
    split at e
    · rename_i hl
      cases e
      obtain ⟨h1, h2⟩ := of_decide_eq_true hl
      obtain ⟨as, r1⟩ := Dp.reads I _ x v (hx.dp sub) rx
      obtain ⟨bs, r2⟩ := Dp.reads I _ y u (hy.dp sub) ry
      exact SeqAt.in_tuple_reads r2 r1 (by rw [← lay_tup]; exact hy.lay) hx.lay (by omega) ⟨.bl _, H, I, rfl, post.val sub (.bl _)⟩
    · cases e
  · rename_i a z
    cases q : sgn1 a with
    | none => rw [q] at e; cases e
    | some c =>
      rw [q] at e
      simp only [Option.map_some, Option.some.injEq] at e
      subst e
      cases sgn1_eq q
      exact op_in_sign pins s σ H x y v u Q I rx ry ⟨_, _, hx.str.1, hy.str.1, post.val sub (.bl _)⟩
  · cases e
theorem o_notIn (hu : X.A.units + 65 < cLine) : OpR X (compareOp .NotIn) (r2 X.K mg (cmpC notInD)) := by
  intro pins s σ H x y v u Q I rx ry h
  obtain ⟨F, dx, dy, c, sub, hx, hy, e0, post⟩ := h
  obtain ⟨b, e, rfl⟩ := cmpC_some e0
  clear e0
  unfold notInD inD at e
  split at e
  · rename_i d ds
    split at e
    · rename_i hl
      simp only [Option.map_some, Option.some.injEq] at e
      subst e
      obtain ⟨h1, h2⟩ := of_decide_eq_true hl
      exact op_notInD hu pins s σ H x y v u Q I rx ry ⟨_, ds, hx.dp sub, hy.dp sub, shaped_of hx.lay h1, shaped_of hy.lay (by simp only [PyData.depth]; omega), post.val sub (.bl _)⟩
    · cases e
  · rename_i d ds
    split at e
    · rename_i hl
      simp only [Option.map_some, Option.some.injEq] at e
      subst e
      obtain ⟨h1, h2⟩ := of_decide_eq_true hl
      obtain ⟨as, r1⟩ := Dp.reads I _ x v (hx.dp sub) rx
      obtain ⟨bs, r2⟩ := Dp.reads I _ y u (hy.dp sub) ry
      exact SeqAt.notIn_tuple_reads r2 r1 (by rw [← lay_tup]; exact hy.lay) hx.lay (by omega) ⟨.bl _, H, I, rfl, post.val sub (.bl _)⟩
    · cases e
  · rename_i a z
    cases q : sgn1 a with
    | none => rw [q] at e; cases e
    | some c =>
      rw [q] at e
      simp only [Option.map_some, Option.some.injEq] at e
      subst e
      cases sgn1_eq q
      exact op_notIn_sign pins s σ H x y v u Q I rx ry ⟨_, _, hx.str.1, hy.str.1, post.val sub (.bl _)⟩
  · cases e
end
end Nd

/-! Nd5: statements. -/
namespace Nd
open PySem L2

inductive Fl where
  | next
  | brk
  | cont
  | ret (c : C)
section
variable [TF] (K : Frag) (mg : Str → Option Value)
def exPostS (W : WX) (P : List Nat) (F H : Hp) (fp : AS) (σ : St) (x : Xc) (ρ' : Env) : Prop :=
  ∀ cls dd σ' F' H' fp', Wd K mg F' H' ρ' fp' σ' → Chg fp F H fp' F' H' → (∀ i ∈ P, σ'[i]? = σ[i]?) → Xr mg x cls dd F' → W cls dd σ' H'
def nxPost (P : List Nat) (F H : Hp) (fp : AS) (σ : St) (ρ' : Env) (k : St → Hp → Prop) : Prop :=
  ∀ σ' F' H' fp', Wd K mg F' H' ρ' fp' σ' → Chg fp F H fp' F' H' → (∀ i ∈ P, σ'[i]? = σ[i]?) → k σ' H'
def rtPost (P : List Nat) (F H : Hp) (fp : AS) (σ : St) (c : C) (ρ' : Env) (k : VK) : Prop :=
  ∀ v σ' F' H' fp' fv, Wd K mg F' H' ρ' fp' σ' → Rc K mg F' H' c v fv → (∀ a, fv a → ¬ fp' a) → Chg fp F H (fun a => fp' a ∨ fv a) F' H' → (∀ i ∈ P, σ'[i]? = σ[i]?) → k v H'
def flPost (P : List Nat) (F H : Hp) (fp : AS) (σ : St) (f : Fl) (ρ' : Env) (D : Ends) : Prop :=
  match f with
  | .next => nxPost K mg P F H fp σ ρ' D.nx
  | .brk => nxPost K mg P F H fp σ ρ' D.bk
  | .cont => nxPost K mg P F H fp σ ρ' D.ct
  | .ret c => rtPost K mg P F H fp σ c ρ' D.rt
def sPost (W : WX) (P : List Nat) (F H : Hp) (fp : AS) (σ : St) (r : R Fl) (D : Ends) : Prop :=
  match r with
  | .ok f ρ' => flPost K mg P F H fp σ f ρ' D
  | .ex x ρ' => exPostS K mg W P F H fp σ x ρ'
  | .bad => False
/-- a statement -/
def tS (W : WX) (P : List Nat) (g : G Fl) : TS := fun D σ H => ∃ ρ fp F, Wd K mg F H ρ fp σ ∧ sPost K mg W P F H fp σ (g ρ) D
end
section
variable [TF] {X : Cx} {K : Frag} {mg : Str → Option Value} {W : WX} {P : List Nat} {F H F0 H0 : Hp} {ρ : Env} {fp fp0 : AS} {σ σ0 : St} {D : Ends}
theorem nxPost.of {ρ' : Env} {k : St → Hp → Prop} (ch : Chg fp0 F0 H0 fp F H) (p : ∀ i ∈ P, σ[i]? = σ0[i]?) (h : nxPost K mg P F0 H0 fp0 σ0 ρ' k) : nxPost K mg P F H fp σ ρ' k :=
  fun σ' F' H' fp' w c q => h σ' F' H' fp' w (ch.trans c) fun i hi => (q i hi).trans (p i hi)
theorem sPost.of {r : R Fl} (ch : Chg fp0 F0 H0 fp F H) (p : ∀ i ∈ P, σ[i]? = σ0[i]?) (h : sPost K mg W P F0 H0 fp0 σ0 r D) : sPost K mg W P F H fp σ r D := by
  cases r with
  | bad => exact h
  | ex x ρ' => exact fun cls dd σ' F' H' fp' w c q r => h cls dd σ' F' H' fp' w (ch.trans c) (fun i hi => (q i hi).trans (p i hi)) r
  | ok f ρ' =>
    cases f with
    | next => exact nxPost.of ch p h
    | brk => exact nxPost.of ch p h
    | cont => exact nxPost.of ch p h
    | ret c => exact fun v σ' F' H' fp' fv w r d c q => h v σ' F' H' fp' fv w r d (ch.trans c) fun i hi => (q i hi).trans (p i hi)
/-- an expression's exception, a statement's -/
theorem exPostS.here {x : Xc} {ρ' : Env} (h : exPostS K mg W P F H fp σ x ρ') : exPost K mg W F H fp σ x ρ' := fun cls dd F' H' fp' w c r => h cls dd σ F' H' fp' w c (fun _ _ => rfl) r

/-! ### blocks -/
def gSeq (g g' : G Fl) : G Fl := G.bind g fun f => match f with
  | .next => g'
  | .brk => G.ret .brk
  | .cont => G.ret .cont
  | .ret c => G.ret (.ret c)
def gNext : G Fl := G.ret .next
theorem gSeq_ok {g g' : G Fl} (h : tS K mg W P (gSeq g g') D σ H) : tSeq (tS K mg W P g) (tS K mg W P g') D σ H := by
  obtain ⟨ρ, fp, F, w, h⟩ := h
  refine ⟨ρ, fp, F, w, ?_⟩
  unfold gSeq G.bind at h
  cases q : g ρ with
  | bad => rw [q] at h; exact h
  | ex x ρ' => rw [q] at h; exact h
  | ok f ρ1 =>
    rw [q] at h
    simp only [R.bind_ok] at h
    cases f with
    | next => exact fun σ' F' H' fp' w' c p => ⟨ρ1, fp', F', w', sPost.of c p h⟩
    | brk => exact h
    | cont => exact h
    | ret c => exact h
variable {st : Stmt} {rest : List Stmt} {pos : Pos}
theorem s_nil : PSs X [] (tS K mg W P gNext) := pss_nil.imp fun D σ H h => by
  obtain ⟨ρ, fp, F, w, h⟩ := h
  exact h σ F H fp w Chg.refl fun _ _ => rfl
theorem s_cons {g g' : G Fl} (h1 : PS X st (tS K mg W P g)) (h2 : PSs X rest (tS K mg W P g')) : PSs X (st :: rest) (tS K mg W P (gSeq g g')) := (pss_cons h1 h2).imp fun _ _ _ => gSeq_ok
theorem s_one {g : G Fl} (h1 : PS X st (tS K mg W P g)) : PSs X [st] (tS K mg W P g) := pss_one h1
def gBrk : G Fl := G.ret .brk
def gCont : G Fl := G.ret .cont
theorem s_pass : PS X (.Pass pos) (tS K mg W P gNext) := ps_pass.imp fun D σ H h => by
  obtain ⟨ρ, fp, F, w, h⟩ := h
  exact h σ F H fp w Chg.refl fun _ _ => rfl
theorem s_break : PS X (.Break pos) (tS K mg W P gBrk) := ps_break.imp fun D σ H h => by
  obtain ⟨ρ, fp, F, w, h⟩ := h
  exact h σ F H fp w Chg.refl fun _ _ => rfl
theorem s_continue : PS X (.Continue pos) (tS K mg W P gCont) := ps_continue.imp fun D σ H h => by
  obtain ⟨ρ, fp, F, w, h⟩ := h
  exact h σ F H fp w Chg.refl fun _ _ => rfl
/-- an if -/
def gIfS (t : G Bool) (g g' : G Fl) : G Fl := gIf t g g'
theorem gIfS_ok {t : G Bool} {g g' : G Fl} (h : tS K mg W P (gIfS t g g') D σ H) : tIfS (tT K mg W t) (tS K mg W P g) (tS K mg W P g') D σ H := by
  obtain ⟨ρ, fp, F, w, h⟩ := h
  unfold gIfS gIf G.bind at h
  refine tRun w Chg.refl ?_
  cases q : t ρ with
  | bad => rw [q] at h; exact h.elim
  | ex x ρ' => rw [q] at h; exact exPostS.here h
  | ok b ρ1 =>
    rw [q] at h
    simp only [R.bind_ok] at h
    intro F1 H1 fp1 w1 s1 c1
    cases b with
    | true => exact iteT ⟨ρ1, fp1, F1, w1, sPost.of c1 (fun _ _ => rfl) h⟩
    | false => exact iteF ⟨ρ1, fp1, F1, w1, sPost.of c1 (fun _ _ => rfl) h⟩
theorem s_if {c : Expr} {a b : List Stmt} {t : G Bool} {g g' : G Fl} (hc : PT X c (tT K mg W t)) (ha : PSs X a (tS K mg W P g)) (hb : PSs X b (tS K mg W P g')) : PS X (.If c a b pos) (tS K mg W P (gIfS t g g')) := (ps_if hc ha hb).imp fun _ _ _ => gIfS_ok
/-- return e -/
def gRet (g : G C) : G Fl := G.bind g fun c => G.ret (.ret c)
theorem s_ret {e : Expr} {g : G C} (he : PE X e (tE K mg W g)) : PS X (.Return (some e) pos) (tS K mg W P (gRet g)) := (ps_ret he).imp fun D σ H h => by
  obtain ⟨ρ, fp, F, w, h⟩ := h
  unfold gRet G.bind at h
  refine eGo w Chg.refl ?_
  cases q : g ρ with
  | bad => rw [q] at h; exact h
  | ex x ρ' => rw [q] at h; exact exPostS.here h
  | ok c ρ1 =>
    rw [q] at h
    exact fun v F' H' fp' fv w' r d c' => h v σ F' H' fp' fv w' r d c' fun _ _ => rfl
def gRetN : G Fl := G.ret (.ret (.val .none))
theorem s_retN : PS X (.Return none pos) (tS K mg W P gRetN) := ps_retN.imp fun D σ H h => by
  obtain ⟨ρ, fp, F, w, h⟩ := h
  exact h .non σ F H fp _ w (Rc.of_dp .non) (fun _ z => z.elim) Chg.refl.or_false fun _ _ => rfl
/-- an expression alone -/
def gDrop (g : G C) : G Fl := G.bind g fun _ => G.ret .next
theorem s_expr {e : Expr} {g : G C} (he : PE X e (tE K mg W g)) (hs : swapsWith e none pos.line X.env = pure false := by rfl) : PS X (.Expr e pos) (tS K mg W P (gDrop g)) := (ps_expr he hs).imp fun D σ H h => by
  obtain ⟨ρ, fp, F, w, h⟩ := h
  unfold gDrop G.bind at h
  refine eGo w Chg.refl ?_
  cases q : g ρ with
  | bad => rw [q] at h; exact h
  | ex x ρ' => rw [q] at h; exact exPostS.here h
  | ok c ρ1 =>
    rw [q] at h
    exact fun v F' H' fp' fv w' r d c' => h σ F' H' fp' w' (c'.to fun a => .inl) fun _ _ => rfl

/-! ### x = e -/
/-- a slot is given a new thing -/
theorem Wd.put {i : Nat} {c : C} {v : V} {fv : AS} (w : Wd K mg F H ρ fp σ) (hi : i < ρ.length) (r : Rc K mg F H c v fv) (d : ∀ a, fv a → ¬ fp a) :
    ∃ fp', Wd K mg F H (ρ.set i (some c)) fp' (σ.set i (some v)) ∧ ∀ a, fp' a → fp a ∨ fv a := by
  obtain ⟨ov, f1, f2, q1, q2, dj, cv, put⟩ := w.re.focus (List.getElem?_eq_getElem hi)
  exact ⟨_, ⟨w.sub, put (some c) (some v) F H fv (Same.refl _) (fun _ _ => ⟨rfl, rfl⟩) ⟨v, rfl, r⟩ fun a z y => d a z ((cv a).mpr (.inr y))⟩, fun a z => z.elim .inr fun y => .inl ((cv a).mpr (.inr y))⟩
def put (i : Nat) (c : C) : G Fl := fun ρ => if decide (i < ρ.length) = true then .ok .next (ρ.set i (some c)) else .bad
def gSet (i : Nat) (g : G C) : G Fl := G.bind g fun c => put i c
theorem keep_set {i : Nat} {v : V} (hi : i ∉ P) : ∀ j ∈ P, (σ.set i (some v))[j]? = σ[j]? := fun j hj => List.getElem?_set_ne fun e => by subst e; exact hi hj
theorem gSet_ok {i : Nat} (hi : i ∉ P) {g : G C} (h : tS K mg W P (gSet i g) D σ H) : tAsg (tE K mg W g) (L2.gName i) D σ H := by
  obtain ⟨ρ, fp, F, w, h⟩ := h
  unfold gSet G.bind at h
  refine eGo w Chg.refl ?_
  cases q : g ρ with
  | bad => rw [q] at h; exact h
  | ex x ρ' => rw [q] at h; exact exPostS.here h
  | ok c ρ1 =>
    rw [q] at h
    simp only [R.bind_ok, put] at h
    intro v F' H' fp' fv w' r d c'
    by_cases hl : i < ρ1.length
    · rw [if_pos (decide_eq_true hl)] at h
      obtain ⟨fp2, w2, k⟩ := w'.put hl r d
      exact h _ F' H' fp2 w2 (c'.to k) (keep_set hi)
    · rw [if_neg (by simpa using hl)] at h
      exact h.elim
theorem s_set {i : Nat} {x : Str} {e : Expr} {g : G C} {pos' : Pos} (hi : i ∉ P) (hN : X.N.Nodup) (hx : X.N[i]? = some x) (hl : Loc X.env.scope x) (he : PE X e (tE K mg W g)) (hs : swapsWith e (some (.Name x pos')) pos.line X.env = pure false := by rfl)
    (hf : X.fn x = true ∨ X.env.scope.names.lookup x = some .local := by first | exact .inl rfl | exact .inr rfl | assumption) : PS X (.Assign [.Name x pos'] e pos) (tS K mg W P (gSet i g)) := (ps_set hN hx hl he hs hf).imp fun _ _ _ => gSet_ok hi

/-! ### targets of data: names, tuples of these -/
inductive Pat where
  | nm (i : Nat)
  | tu (ps : List Pat)
mutual
def asg : Pat → PyData → Env → Option Env
  | .nm i, d, ρ => if decide (i < ρ.length) = true then some (ρ.set i (some (.val d))) else none
  | .tu ps, .tuple ds, ρ => asgs ps ds ρ
  | .tu _, _, _ => none
def asgs : List Pat → List PyData → Env → Option Env
  | [], [], ρ => some ρ
  | p :: ps, d :: ds, ρ => (asg p d ρ).bind fun ρ' => asgs ps ds ρ'
  | _, _, _ => none
end
mutual
def Pat.slots : Pat → List Nat
  | .nm i => [i]
  | .tu ps => slotsL ps
def slotsL : List Pat → List Nat
  | [] => []
  | p :: ps => p.slots ++ slotsL ps
end
def Pat.isTu : Pat → Bool
  | .tu _ => true
  | .nm _ => false
/-- data; or a tuple of data, made to be unpacked -/
def Di (K : Frag) (F : Hp) (wk : Bool) (v : V) (d : PyData) : Prop := Dq K F v d ∨ (wk = true ∧ ∃ a vs ds, v = .ref a ∧ d = .tuple ds ∧ SqT K F a vs ∧ DqAll K F vs ds)
theorem Di.strong {K : Frag} {F : Hp} {v : V} {d : PyData} (h : Di K F false v d) : Dq K F v d := h.elim id fun h => nomatch h.1
theorem Di.tup_inv {K : Frag} {F : Hp} {wk : Bool} {v : V} {ds : List PyData} (h : Di K F wk v (.tuple ds)) : ∃ a vs, v = .ref a ∧ SqT K F a vs ∧ DqAll K F vs ds := by
  rcases h with h | ⟨_, a, vs, ds', e1, e2, h1, h2⟩
  · obtain ⟨a, vs, e, s1, r1⟩ := h.tup_inv
    exact ⟨a, vs, e, s1.t, r1⟩
  · cases e2
    exact ⟨a, vs, e1, h1, h2⟩
/-- a target of data -/
def tGd (K : Frag) (mg : Str → Option Value) (p : Pat) : TG := fun v σ H Q => ∃ ρ fp F d ρ', Wd K mg F H ρ fp σ ∧ Di K F p.isTu v d ∧ asg p d ρ = some ρ' ∧
  ∀ σ' fp', Wd K mg F H ρ' fp' σ' → (∀ a, fp' a → fp a) → (∀ j, j ∉ p.slots → σ'[j]? = σ[j]?) → Q σ' H
def tGds (K : Frag) (mg : Str → Option Value) (ps : List Pat) : TGs := fun vs σ H Q => ∃ ρ fp F ds ρ', Wd K mg F H ρ fp σ ∧ DqAll K F vs ds ∧ asgs ps ds ρ = some ρ' ∧
  ∀ σ' fp', Wd K mg F H ρ' fp' σ' → (∀ a, fp' a → fp a) → (∀ j, j ∉ slotsL ps → σ'[j]? = σ[j]?) → Q σ' H
theorem _root_.L2.PG.imp {X : Cx} {e : Expr} {t t' : TG} (h : PG X e t) (k : ∀ v σ H Q, t' v σ H Q → t v σ H Q) : PG X e t' := ⟨fun pins s σ H v u Q I r hw => h.run pins s σ H v u Q I r (k v σ H Q hw)⟩
theorem _root_.L2.PGs.imp {X : Cx} {e : List Expr} {t t' : TGs} (h : PGs X e t) (k : ∀ v σ H Q, t' v σ H Q → t v σ H Q) : PGs X e t' := ⟨fun pins s σ H v u Q I r hw => h.run pins s σ H v u Q I r (k v σ H Q hw)⟩
theorem g_name {i : Nat} {x : Str} (hN : X.N.Nodup) (hi : X.N[i]? = some x) (hx : Loc X.env.scope x) (hf : X.fn x = true ∨ X.env.scope.names.lookup x = some .local := by first | exact .inl rfl | exact .inr rfl | assumption) : PG X (.Name x pos) (tGd K mg (.nm i)) :=
  (pg_name hN hi hx hf).imp fun v σ H Q h => by
    obtain ⟨ρ, fp, F, d, ρ', w, hd, e, k⟩ := h
    simp only [asg] at e
    split at e
    · rename_i hl
      cases e
      obtain ⟨fp2, w2, k2⟩ := w.put (of_decide_eq_true hl) (Rc.of_dp (Di.strong hd)) (fun _ z => z.elim)
      exact k _ fp2 w2 (fun a z => (k2 a z).elim id False.elim) fun j hj => List.getElem?_set_ne fun e => hj (by simp [Pat.slots, e])
    · cases e
theorem gs_nil : PGs X [] (tGds K mg []) := pgs_nil.imp fun v σ H Q h => by
  obtain ⟨ρ, fp, F, ds, ρ', w, hd, e, k⟩ := h
  cases ds with
  | nil =>
    simp only [asgs, Option.some.injEq] at e
    subst e
    cases hd.1
    exact ⟨rfl, k σ fp w (fun _ z => z) fun _ _ => rfl⟩
  | cons d ds => simp [asgs] at e
theorem gs_cons {e : Expr} {es : List Expr} {p : Pat} {ps : List Pat} (h1 : PG X e (tGd K mg p)) (h2 : PGs X es (tGds K mg ps)) (hs : (assignEach (e :: es) X.env).map (·.2) = assign e X.env :: (assignEach es X.env).map (·.2) := by rfl) : PGs X (e :: es) (tGds K mg (p :: ps)) :=
  (pgs_cons h1 h2 hs).imp fun v σ H Q h => by
    obtain ⟨ρ, fp, F, ds, ρ', w, hd, e, k⟩ := h
    cases ds with
    | nil => simp [asgs] at e
    | cons d ds =>
      simp only [asgs] at e
      cases q : asg p d ρ with
      | none => rw [q] at e; cases e
      | some ρ1 =>
        rw [q] at e
        obtain ⟨hd, hl⟩ := hd
        cases hd with
        | cons a b =>
          refine ⟨_, _, rfl, ρ, fp, F, d, ρ1, w, .inl ⟨a, (lay_cons.mp hl).1⟩, q, fun σ1 fp1 w1 k1 k1' => ?_⟩
          refine ⟨ρ1, fp1, F, ds, ρ', w1, ⟨b, (lay_cons.mp hl).2⟩, e, fun σ2 fp2 w2 k2 k2' => k σ2 fp2 w2 (fun a z => k1 a (k2 a z)) fun j hj => ?_⟩
          simp only [slotsL, List.mem_append, not_or] at hj
          exact (k2' j hj.2).trans (k1' j hj.1)
theorem g_tup {es : List Expr} {k : Nat} {ps : List Pat} {n : Nat} (hc : X.calm = true) (hn' : ps.length = n) (hK : X.K = K) (h : PGs X es (tGds K mg ps)) (hn : (assignEach es X.env).length = n := by rfl) (hst : (assignEach es X.env).findIdx? (·.1) = none := by rfl) :
    PG X (.Tuple es k pos) (tGd K mg (.tu ps)) := (pg_tup hc h hn hst).imp fun v σ H Q hq => by
  obtain ⟨ρ, fp, F, d, ρ', w, hd, e, k⟩ := hq
  cases d with
  | tuple ds =>
    simp only [asg] at e
    obtain ⟨a, vs, e1, s1, r1⟩ := hd.tup_inv
    have len : ∀ {ps : List Pat} {ds : List PyData} {ρ ρ' : Env}, asgs ps ds ρ = some ρ' → ds.length = ps.length := fun {ps} => by
      induction ps with
      | nil => intro ds ρ ρ' e; cases ds with
        | nil => rfl
        | cons _ _ => simp [asgs] at e
      | cons p ps ih =>
        intro ds ρ ρ' e
        cases ds with
        | nil => simp [asgs] at e
        | cons d ds =>
          simp only [asgs] at e
          cases q : asg p d ρ with
          | none => rw [q] at e; cases e
          | some ρ1 =>
            rw [q] at e
            simp [ih e]
    refine ⟨a, vs, e1, by rw [hK]; exact SqT.mono w.sub s1, by rw [r1.length, len e, hn'], ρ, fp, F, ds, ρ', w, r1, e, fun σ' fp' w' k1 k2 => k σ' fp' w' k1 k2⟩
  | none => simp [asg] at e
  | bool b => simp [asg] at e
  | int i => simp [asg] at e
  | str s => simp [asg] at e
  | list ds => simp [asg] at e
  | dict ds => simp [asg] at e
/-- pattern = e, e's value frozen -/
def gAsg (p : Pat) (g : G Op) : G Fl := G.bind g fun o => fun ρ => match o with
  | .d d => match asg p d ρ with
    | some ρ' => .ok .next ρ'
    | none => .bad
  | .s _ => .bad
theorem s_asg {tg e : Expr} {p : Pat} {g : G Op} (hp : ∀ j ∈ P, j ∉ p.slots) (he : PE X e (tO K mg W g)) (hg : PG X tg (tGd K mg p)) (hs : swapsWithSole [tg] e pos.line X.env = pure false := by rfl) (hw : swappedStores [tg] e X.env = pure none := by rfl)
    (h1 : (assignEach [tg] X.env).map (·.2) = [assign tg X.env] := by rfl) : PS X (.Assign [tg] e pos) (tS K mg W P (gAsg p g)) := (ps_asg he hg hs hw h1).imp fun D σ H h => by
  obtain ⟨ρ, fp, F, w, h⟩ := h
  unfold gAsg G.bind at h
  refine oRun w Chg.refl ?_
  cases q : g ρ with
  | bad => rw [q] at h; exact h
  | ex x ρ' => rw [q] at h; exact exPostS.here h
  | ok o ρ1 =>
    rw [q] at h
    simp only [R.bind_ok] at h
    intro v F1 H1 fp1 w1 r1 s1 c1
    cases o with
    | s i => exact h.elim
    | d d =>
      simp only at h
      cases z : asg p d ρ1 with
      | none => rw [z] at h; exact h.elim
      | some ρ2 =>
        rw [z] at h
        exact ⟨ρ1, fp1, F1, d, ρ2, w1, .inl r1, z, fun σ' fp' w' k k' => h σ' F1 H1 fp' w' (c1.to k) fun i hi => k' i (hp i hi)⟩
end
end Nd

/-! Nd6: loops and comprehensions. -/
namespace Nd
open PySem L2

/-- the slot that is walked, its content: it stays while the loop runs -/
abbrev Src := Option (Nat × C)
def chk (s : Src) (ρ : Env) : Prop := match s with
  | none => True
  | some (i, c) => ρ[i]? = some (some c)
open Classical in
noncomputable def gChk {α : Type} (s : Src) (g : G α) : G α := fun ρ => if chk s ρ then g ρ else .bad
theorem gChk_none {α : Type} {g : G α} : gChk none g = g := by funext ρ; unfold gChk; exact if_pos trivial
theorem gChk_some {α : Type} {i : Nat} {c : C} {g : G α} {ρ : Env} (h : ρ[i]? = some (some c)) : gChk (some (i, c)) g ρ = g ρ := if_pos h

section
variable [TF] {K : Frag} {mg : Str → Option Value}
def anchor (s : Src) (a : Addr) (σ : St) : Prop := match s with
  | none => True
  | some (i, _) => σ[i]? = some (some (.ref a))
/-- what a loop walks: data, one item a turn -/
structure ItOk (K : Frag) (mg : Str → Option Value) (wk : Bool) (s : Src) (a : Addr) (F0 : Hp) (ds : List PyData) (J : It) : Prop where
  go : ∀ ρ fp F H σ i, Wd K mg F H ρ fp σ → chk s ρ → anchor s a σ → Same F0 F → i < ds.length → J.go i H
  yld : ∀ ρ fp F H σ i x H' d, Wd K mg F H ρ fp σ → chk s ρ → anchor s a σ → Same F0 F → ds[i]? = some d → J.yld i H x H' → ∃ F', Frs F H F' H' ∧ Di K F' wk x d
  stop : ∀ ρ fp F H σ, Wd K mg F H ρ fp σ → chk s ρ → anchor s a σ → Same F0 F → J.stop ds.length H
structure Itm where
  ds : List PyData
  src : Src
/-- an iterable's reading -/
def tI (K : Frag) (mg : Str → Option Value) (W : WX) (wk : Bool) (g : G Itm) : TI := fun σ H Rr => ∃ ρ fp F, Wd K mg F H ρ fp σ ∧
  match g ρ with
  | .ok it ρ' => ∀ J a F' H' fp', Wd K mg F' H' ρ' fp' σ → Chg fp F H fp' F' H' → chk it.src ρ' → anchor it.src a σ → ItOk K mg wk it.src a F' it.ds J → it.ds.length ≤ sizeLine → Rr J H'
  | .ex x ρ' => exPost K mg W F H fp σ x ρ'
  | .bad => False
end

mutual
theorem asg_len : ∀ (p : Pat) (d : PyData) (ρ ρ' : Env), asg p d ρ = some ρ' → ρ'.length = ρ.length
  | .nm i, d, ρ, ρ', e => by
    simp only [asg] at e
    split at e
    · cases e; simp
    · cases e
  | .tu ps, .tuple ds, ρ, ρ', e => by
    simp only [asg] at e
    exact asgs_len ps ds ρ ρ' e
  | .tu ps, .none, ρ, ρ', e => by simp [asg] at e
  | .tu ps, .bool _, ρ, ρ', e => by simp [asg] at e
  | .tu ps, .int _, ρ, ρ', e => by simp [asg] at e
  | .tu ps, .str _, ρ, ρ', e => by simp [asg] at e
  | .tu ps, .list _, ρ, ρ', e => by simp [asg] at e
  | .tu ps, .dict _, ρ, ρ', e => by simp [asg] at e
theorem asgs_len : ∀ (ps : List Pat) (ds : List PyData) (ρ ρ' : Env), asgs ps ds ρ = some ρ' → ρ'.length = ρ.length
  | [], [], ρ, ρ', e => by
    simp only [asgs, Option.some.injEq] at e
    rw [e]
  | [], _ :: _, ρ, ρ', e => by simp [asgs] at e
  | _ :: _, [], ρ, ρ', e => by simp [asgs] at e
  | p :: ps, d :: ds, ρ, ρ', e => by
    simp only [asgs] at e
    cases q : asg p d ρ with
    | none => rw [q] at e; cases e
    | some ρ1 =>
      rw [q] at e
      exact (asgs_len ps ds ρ1 ρ' e).trans (asg_len p d ρ ρ1 q)
end

/-! ### for -/
noncomputable def forL (s : Src) (p : Pat) (gb : G Fl) : List PyData → G Fl
  | [] => gChk s (G.ret .next)
  | d :: ds => gChk s fun ρ => match asg p d ρ with
    | none => .bad
    | some ρ1 => (gb ρ1).bind fun f => match f with
      | .next => forL s p gb ds
      | .cont => forL s p gb ds
      | .brk => G.ret .next
      | .ret c => G.ret (.ret c)
noncomputable def gFor (gi : G Itm) (p : Pat) (gb : G Fl) : G Fl := G.bind gi fun it => forL it.src p gb it.ds
def srcIn (s : Src) (P : List Nat) : Prop := match s with
  | none => True
  | some (i, _) => i ∈ P
section
variable [TF] {X : Cx} {K : Frag} {mg : Str → Option Value} {W : WX} {P : List Nat} {F H F0 H0 : Hp} {ρ : Env} {fp fp0 : AS} {σ σ0 : St} {D : Ends}
theorem sPost.sub {P' : List Nat} (hs : ∀ i ∈ P, i ∈ P') {r : R Fl} (h : sPost K mg W P F H fp σ r D) : sPost K mg W P' F H fp σ r D := by
  cases r with
  | bad => exact h
  | ex x ρ' => exact fun cls dd σ' F' H' fp' w c q r => h cls dd σ' F' H' fp' w c (fun i hi => q i (hs i hi)) r
  | ok f ρ' =>
    cases f with
    | next => exact fun σ' F' H' fp' w c q => h σ' F' H' fp' w c fun i hi => q i (hs i hi)
    | brk => exact fun σ' F' H' fp' w c q => h σ' F' H' fp' w c fun i hi => q i (hs i hi)
    | cont => exact fun σ' F' H' fp' w c q => h σ' F' H' fp' w c fun i hi => q i (hs i hi)
    | ret c => exact fun v σ' F' H' fp' fv w r d c q => h v σ' F' H' fp' fv w r d c fun i hi => q i (hs i hi)
theorem anchor.of {s : Src} {a : Addr} {σ σ' : St} (hs : srcIn s P) (h : anchor s a σ) (k : ∀ i ∈ P, σ'[i]? = σ[i]?) : anchor s a σ' := by
  cases s with
  | none => trivial
  | some q =>
    obtain ⟨i, c⟩ := q
    exact (k i hs).trans h
/-- P' : the slots kept in the loop's body (P and what is walked) -/
theorem gFor_ok {P' : List Nat} {gi : G Itm} {p : Pat} {gb : G Fl} (hP : ∀ i ∈ P, i ∈ P') (hp : ∀ j ∈ P', j ∉ p.slots) (hsrc : ∀ ρ it ρ', gi ρ = .ok it ρ' → srcIn it.src P') (h : tS K mg W P (gFor gi p gb) D σ H) :
    tFor (tI K mg W p.isTu gi) (tGd K mg p) (tS K mg W P' gb) D σ H := by
  obtain ⟨ρ, fp, F, w, h⟩ := h
  refine ⟨ρ, fp, F, w, ?_⟩
  unfold gFor G.bind at h
  cases q : gi ρ with
  | bad => rw [q] at h; exact h
  | ex x ρ' => rw [q] at h; exact exPostS.here h
  | ok it ρ1 =>
    rw [q] at h
    simp only [R.bind_ok] at h
    intro J a F1 H1 fp1 w1 c1 ck1 an1 ok hz
    have hs := hsrc ρ it ρ1 q
    have h1 : sPost K mg W P F1 H1 fp1 σ (forL it.src p gb it.ds ρ1) D := sPost.of c1 (fun _ _ => rfl) h
    refine ⟨fun i m σ' H' => m = it.ds.length - i ∧ i ≤ it.ds.length ∧ ∃ ρ' fp' F', Wd K mg F' H' ρ' fp' σ' ∧ Same F1 F' ∧ anchor it.src a σ' ∧ (∀ j ∈ P, σ'[j]? = σ[j]?) ∧ sPost K mg W P F' H' fp' σ' (forL it.src p gb (it.ds.drop i) ρ') D,
      ⟨_, rfl, Nat.zero_le _, ρ1, fp1, F1, w1, Same.refl _, an1, fun _ _ => rfl, by simpa using h1⟩, ?_⟩
    rintro i m σ2 H2 ⟨rfl, hi, ρ2, fp2, F2, w2, s2, an2, kp2, h2⟩
    by_cases hlt : i < it.ds.length
    · right
      rw [List.drop_eq_getElem_cons hlt] at h2
      unfold forL at h2
      by_cases ck : chk it.src ρ2
      · unfold gChk at h2
        rw [if_pos ck] at h2
        dsimp only at h2
        refine ⟨ok.go ρ2 fp2 F2 H2 σ2 i w2 ck an2 s2 hlt, fun σ' H' => (it.ds.length - (i + 1) = it.ds.length - (i + 1) ∧ i + 1 ≤ it.ds.length ∧ ∃ ρ' fp' F', Wd K mg F' H' ρ' fp' σ' ∧ Same F1 F' ∧ anchor it.src a σ' ∧ (∀ j ∈ P, σ'[j]? = σ[j]?) ∧ sPost K mg W P F' H' fp' σ' (forL it.src p gb (it.ds.drop (i + 1)) ρ') D),
          fun σ' H' n => ⟨_, by omega, n⟩, fun x H3 hy => ?_⟩
        obtain ⟨F3, x3, d3⟩ := ok.yld ρ2 fp2 F2 H2 σ2 i x H3 _ w2 ck an2 s2 (List.getElem?_eq_getElem hlt) hy
        cases z : asg p it.ds[i] ρ2 with
        | none => rw [z] at h2; exact h2.elim
        | some ρ3 =>
          rw [z] at h2
          simp only at h2
          refine ⟨ρ2, fp2, F3, it.ds[i], ρ3, w2.frs x3, d3, z, fun σ4 fp4 w4 k4 k4' => ⟨ρ3, fp4, F3, w4, ?_⟩⟩
          have c4 : Chg fp2 F2 H2 fp4 F3 H3 := x3.chg.to k4
          have kp4 : ∀ j ∈ P', σ4[j]? = σ2[j]? := fun j hj => k4' j (hp j hj)
          have an4 : anchor it.src a σ4 := an2.of hs kp4
          cases z2 : gb ρ3 with
          | bad => rw [z2] at h2; exact h2.elim
          | ex x ρ' =>
            rw [z2] at h2
            exact fun cls dd σ' F' H' fp' w c q r => h2 cls dd σ' F' H' fp' w (c4.trans c) (fun j hj => (q j (hP j hj)).trans (kp4 j (hP j hj))) r
          | ok f ρ5 =>
            rw [z2] at h2
            simp only [R.bind_ok] at h2
            have go : ∀ {k : St → Hp → Prop}, sPost K mg W P F2 H2 fp2 σ2 (forL it.src p gb (it.ds.drop (i + 1)) ρ5) D → nxPost K mg P' F3 H3 fp4 σ4 ρ5 fun σ' H' => (it.ds.length - (i + 1) = it.ds.length - (i + 1) ∧ i + 1 ≤ it.ds.length ∧ ∃ ρ' fp' F', Wd K mg F' H' ρ' fp' σ' ∧ Same F1 F' ∧ anchor it.src a σ' ∧ (∀ j ∈ P, σ'[j]? = σ[j]?) ∧ sPost K mg W P F' H' fp' σ' (forL it.src p gb (it.ds.drop (i + 1)) ρ') D) := fun {k} hh σ' F' H' fp' w' c' q' =>
              ⟨rfl, hlt, ρ5, fp', F', w', s2.trans ((c4.trans c').fz), an4.of hs q', fun j hj => (q' j (hP j hj)).trans ((kp4 j (hP j hj)).trans (kp2 j hj)), sPost.of (c4.trans c') (fun j hj => (q' j (hP j hj)).trans (kp4 j (hP j hj))) hh⟩
            cases f with
            | next => exact go (k := D.nx) h2
            | cont => exact go (k := D.nx) h2
            | brk => exact fun σ' F' H' fp' w' c' q' => h2 σ' F' H' fp' w' (c4.trans c') fun j hj => (q' j (hP j hj)).trans (kp4 j (hP j hj))
            | ret c => exact fun v σ' F' H' fp' fv w' r d c' q' => h2 v σ' F' H' fp' fv w' r d (c4.trans c') fun j hj => (q' j (hP j hj)).trans (kp4 j (hP j hj))
      · unfold gChk at h2
        rw [if_neg ck] at h2
        exact h2.elim
    · left
      have e : i = it.ds.length := by omega
      subst e
      rw [List.drop_length] at h2
      unfold forL gChk at h2
      by_cases ck : chk it.src ρ2
      · rw [if_pos ck] at h2
        exact ⟨ok.stop ρ2 fp2 F2 H2 σ2 w2 ck an2 s2, h2 σ2 F2 H2 fp2 w2 Chg.refl fun _ _ => rfl⟩
      · rw [if_neg ck] at h2
        exact h2.elim
theorem s_for {P' : List Nat} {tg iter : Expr} {body : List Stmt} {gi : G Itm} {p : Pat} {gb : G Fl} {pos : Pos} (hP : ∀ i ∈ P, i ∈ P') (hq : ∀ j ∈ P', j ∉ p.slots) (hsrc : ∀ ρ it ρ', gi ρ = .ok it ρ' → srcIn it.src P')
    (hp : PassesOwn (model X.prog X.w) X.A X.env X.xe) (hc : X.calm = true) (hi : PI X tg iter (tI K mg W p.isTu gi)) (hg : PG X tg (tGd K mg p)) (hb : PSs X body (tS K mg W P' gb))
    (hs : ∀ x, foldedSetIterable iter X.env x = pure x := by intro _; rfl) : PS X (.For tg iter body [] pos) (tS K mg W P (gFor gi p gb)) := (ps_for hp hc hi hg hb hs).imp fun _ _ _ => gFor_ok hP hq hsrc

/-! ### while -/
def whl : Nat → G Bool → G Fl → G Fl
  | 0, _, _ => G.bad
  | n + 1, t, gb => fun ρ => (t ρ).bind fun b ρ1 => if b = true then (gb ρ1).bind fun f => match f with
      | .next => whl n t gb
      | .cont => whl n t gb
      | .brk => G.ret .next
      | .ret c => G.ret (.ret c)
    else .ok .next ρ1
/-- n: more than enough turns -/
def gWhile (n : Env → Nat) (t : G Bool) (gb : G Fl) : G Fl := fun ρ => whl (n ρ) t gb ρ
theorem gWhile_ok {n : Env → Nat} {t : G Bool} {gb : G Fl} (h : tS K mg W P (gWhile n t gb) D σ H) : tWhile (tT K mg W t) (tS K mg W P gb) D σ H := by
  obtain ⟨ρ, fp, F, w, h⟩ := h
  refine ⟨fun m σ' H' => ∃ ρ' fp' F', Wd K mg F' H' ρ' fp' σ' ∧ sPost K mg W P F' H' fp' σ' (whl m t gb ρ') D, ⟨n ρ, ρ, fp, F, w, h⟩, ?_⟩
  rintro m σ1 H1 ⟨ρ1, fp1, F1, w1, h1⟩
  cases m with
  | zero => exact h1.elim
  | succ m =>
    simp only [whl] at h1
    refine tRun w1 Chg.refl ?_
    cases q : t ρ1 with
    | bad => rw [q] at h1; exact h1.elim
    | ex x ρ' => rw [q] at h1; exact exPostS.here h1
    | ok b ρ2 =>
      rw [q] at h1
      simp only [R.bind_ok] at h1
      intro F2 H2 fp2 w2 s2 c2
      cases b with
      | false => exact iteF (h1 σ1 F2 H2 fp2 w2 c2 fun _ _ => rfl)
      | true =>
        refine iteT ⟨fun σ' H' => ∃ ρ' fp' F', Wd K mg F' H' ρ' fp' σ' ∧ sPost K mg W P F' H' fp' σ' (whl m t gb ρ') D, fun σ' H' z => ⟨m, Nat.lt_succ_self _, z⟩, ρ2, fp2, F2, w2, ?_⟩
        simp only [if_true] at h1
        cases z : gb ρ2 with
        | bad => rw [z] at h1; exact h1.elim
        | ex x ρ' => rw [z] at h1; exact fun cls dd σ' F' H' fp' w c q r => h1 cls dd σ' F' H' fp' w (c2.trans c) q r
        | ok f ρ3 =>
          rw [z] at h1
          simp only [R.bind_ok] at h1
          cases f with
          | next => exact fun σ' F' H' fp' w' c' q' => ⟨ρ3, fp', F', w', sPost.of (c2.trans c') q' h1⟩
          | cont => exact fun σ' F' H' fp' w' c' q' => ⟨ρ3, fp', F', w', sPost.of (c2.trans c') q' h1⟩
          | brk => exact fun σ' F' H' fp' w' c' q' => h1 σ' F' H' fp' w' (c2.trans c') q'
          | ret c => exact fun v σ' F' H' fp' fv w' r d c' q' => h1 v σ' F' H' fp' fv w' r d (c2.trans c') q'
theorem s_while {c : Expr} {body : List Stmt} (n : Env → Nat) {t : G Bool} {gb : G Fl} {pos : Pos} (hp : PassesOwn (model X.prog X.w) X.A X.env X.xe) (hc : PT X c (tT K mg W t)) (hb : PSs X body (tS K mg W P gb)) : PS X (.While c body [] pos) (tS K mg W P (gWhile n t gb)) :=
  (ps_while hp hc hb).imp fun _ _ _ => gWhile_ok

/-! ### comprehensions -/
def wipeE (ρ : Env) : List Nat → Env
  | [] => ρ
  | v :: vs => (wipeE ρ vs).set v none
/-- the slots at vs hold nothing of one's own -/
def plainAt (ρ : Env) : List Nat → Bool
  | [] => true
  | v :: vs => (match ρ[v]? with
    | some none => true
    | some (some (.val _)) => true
    | _ => false) && plainAt ρ vs
/-- the outer slots at vs again -/
def restore (ρ : Env) : List Nat → Env → Env
  | [], ρ2 => ρ2
  | v :: vs, ρ2 => (restore ρ vs (ρ2.set v none)).set v (ρ[v]?.getD none)
noncomputable def compL (s : Src) (p : Pat) (vs : List Nat) (gt : G Bool) (ge : G Op) : List PyData → G (List PyData)
  | [] => gChk s (G.ret [])
  | d :: ds => gChk s fun ρ => match asg p d ρ with
    | none => .bad
    | some ρ1 => (gt ρ1).bind fun b ρ2 => if b = true then (ge ρ2).bind fun o ρ3 => match o with
        | .d y => (compL s p vs gt ge ds (wipeE ρ3 vs)).bind fun ys => G.ret (y :: ys)
        | .s _ => .bad
      else compL s p vs gt ge ds (wipeE ρ2 vs)
noncomputable def gComp (gi : G Itm) (p : Pat) (vs : List Nat) (gt : G Bool) (ge : G Op) : G C := G.bind gi fun it ρ => if plainAt ρ vs = true then
  match compL it.src p vs gt ge it.ds (wipeE ρ vs) with
  | .ok ys ρ2 => .ok (mkL ys) (restore ρ vs ρ2)
  | _ => .bad
  else .bad
/-- a slot without anything of one's own may change -/
theorem Re.plain {i : Nat} {oc oc' : Option C} {ov' : Option V} (h : Re K mg F H ρ σ fp) (e : ρ[i]? = some oc) (n : ∀ ov f, Slot K mg F H oc ov f → ∀ a, ¬ f a) (sl : Slot K mg F H oc' ov' (fun _ => False)) :
    Re K mg F H (ρ.set i oc') (σ.set i ov') fp := by
  obtain ⟨ov, f1, f2, q1, q2, dj, cv, put⟩ := h.focus e
  exact (put oc' ov' F H (fun _ => False) (Same.refl _) (fun _ _ => ⟨rfl, rfl⟩) sl fun _ z => z.elim).iff fun a => by
    rw [cv a]
    exact ⟨fun z => z.elim (fun y => (n ov f1 q2 a y).elim) .inr, fun z => z.elim False.elim .inr⟩
theorem plain_slot {oc : Option C} (h : (match some oc with | some none => true | some (some (.val _)) => true | _ => false) = true) : ∀ ov f, Slot K mg F H oc ov f → ∀ a, ¬ f a := by
  cases oc with
  | none => exact fun ov f s a z => s a z
  | some c =>
    cases c with
    | val d => exact fun ov f ⟨v, e, r⟩ a z => by simp only [Rc] at r; exact r.2 a z
    | tup cs => exact nomatch h
    | lst cs => exact nomatch h
    | dic ks cs => exact nomatch h
    | obj cl ks cs => exact nomatch h
    | ref _ => exact nomatch h
    | lam _ _ _ => exact nomatch h
theorem Re.wipe : ∀ {vs : List Nat} {fp : AS}, Re K mg F H ρ σ fp → ∃ fp', Re K mg F H (wipeE ρ vs) (L2.wipe σ vs) fp' ∧ ∀ a, fp' a → fp a
  | [], fp, h => ⟨fp, h, fun _ z => z⟩
  | v :: vs, fp, h => by
    obtain ⟨fp1, h1, k1⟩ := Re.wipe (vs := vs) h
    simp only [wipeE, L2.wipe]
    by_cases hv : v < (wipeE ρ vs).length
    · obtain ⟨ov, f1, f2, q1, q2, dj, cv, put⟩ := h1.focus (List.getElem?_eq_getElem hv)
      exact ⟨_, put none none F H (fun _ => False) (Same.refl _) (fun _ _ => ⟨rfl, rfl⟩) (fun _ z => z) (fun _ z => z.elim), fun a z => k1 a ((cv a).mpr (z.elim False.elim .inr))⟩
    · rw [List.set_eq_of_length_le (by omega), List.set_eq_of_length_le (by rw [Re.length h1]; omega)]
      exact ⟨fp1, h1, k1⟩
theorem wipeE_at {vs : List Nat} {v : Nat} (hv : v ∈ vs) (hl : v < ρ.length) : (wipeE ρ vs)[v]? = some none := by
  induction vs with
  | nil => cases hv
  | cons u vs ih =>
    simp only [wipeE]
    by_cases e : u = v
    · subst e
      have hlen : ∀ vs : List Nat, (wipeE ρ vs).length = ρ.length := fun vs => by
        induction vs with
        | nil => rfl
        | cons _ _ ih => simp [wipeE, ih]
      exact List.getElem?_set_self (by rw [hlen]; exact hl)
    · rw [List.getElem?_set_ne e]
      exact ih (by rcases List.mem_cons.mp hv with z | z; exact absurd z.symm e; exact z)
theorem wipe_eq {σ σ' : St} {vs : List Nat} (hl : σ'.length = σ.length) (h : ∀ j, j ∉ vs → σ'[j]? = (L2.wipe σ vs)[j]?) : wipe σ' vs = wipe σ vs := by
  have key : ∀ (τ : St) (vs : List Nat) (j : Nat), (wipe τ vs)[j]? = if j ∈ vs then (if j < τ.length then some none else none) else τ[j]? := by
    intro τ vs
    induction vs with
    | nil => intro j; simp [L2.wipe]
    | cons u vs ih =>
      intro j
      simp only [L2.wipe]
      by_cases e : u = j
      · subst e
        by_cases hj : u < τ.length
        · rw [List.getElem?_set_self (by rw [wipe_length]; exact hj)]; simp [hj]
        · rw [List.getElem?_eq_none (by rw [List.length_set, wipe_length]; omega)]; simp [hj]
      · rw [List.getElem?_set_ne e, ih j]
        have : j ∈ u :: vs ↔ j ∈ vs := by simp [Ne.symm e]
        simp only [this]
  apply List.ext_getElem?
  intro j
  rw [key, key]
  by_cases hj : j ∈ vs
  · simp [hj, hl]
  · rw [if_neg hj, if_neg hj, h j hj, key, if_neg hj]
theorem set_back {α : Type} {l : List α} {v : Nat} {x y : α} (h : l[v]? = some x) : (l.set v y).set v x = l := by
  rw [List.set_set]
  apply List.ext_getElem?
  intro j
  by_cases e : v = j
  · subst e; rw [h]; exact List.getElem?_set_self (List.getElem?_eq_some_iff.mp h).1
  · exact List.getElem?_set_ne e
/-- the outer slots come back -/
theorem Re.restore {F0 H0 : Hp} {fp0 : AS} (h0 : Re K mg F0 H0 ρ σ fp0) (se : Same F0 F) : ∀ {vs : List Nat} {ρ2 : Env} {fp : AS}, plainAt ρ vs = true → (∀ v ∈ vs, v < ρ2.length → ρ2[v]? = some none) → Re K mg F H ρ2 (L2.wipe σ vs) fp → Re K mg F H (Nd.restore ρ vs ρ2) σ fp
  | [], ρ2, fp, hp, hn, h => h
  | v :: vs, ρ2, fp, hp, hn, h => by
    simp only [plainAt, Bool.and_eq_true] at hp
    simp only [Nd.restore]
    have hl2 : ρ2.length = σ.length := by rw [← Re.length h, wipe_length]
    have hl0 : σ.length = ρ.length := Re.length h0
    have hv : v < ρ.length := by
      cases q : ρ[v]? with
      | none => rw [q] at hp; exact nomatch hp.1
      | some oc => exact (List.getElem?_eq_some_iff.mp q).1
    have e2 : ρ2[v]? = some none := hn v List.mem_cons_self (by omega)
    obtain ⟨ov, hov⟩ : ∃ ov, (L2.wipe σ vs)[v]? = some ov := ⟨_, List.getElem?_eq_getElem (by rw [wipe_length]; omega)⟩
    have h1 := Re.plain (oc' := none) (ov' := ov) h e2 (fun _ _ s => s) (fun _ z => z)
    simp only [L2.wipe] at h1
    rw [set_back hov] at h1
    have h2 := Re.restore h0 se (vs := vs) hp.2 (fun u hu hlu => by
      by_cases e : v = u
      · subst e; exact List.getElem?_set_self (by omega)
      · rw [List.getElem?_set_ne e]; exact hn u (List.mem_cons_of_mem _ hu) (by rw [List.length_set] at hlu; exact hlu)) h1
    obtain ⟨oc, hoc⟩ : ∃ oc, ρ[v]? = some oc := ⟨_, List.getElem?_eq_getElem hv⟩
    have hr : (Nd.restore ρ vs (ρ2.set v none))[v]? ≠ none := by
      rw [ne_eq, List.getElem?_eq_none_iff]
      have := Re.length h2
      omega
    obtain ⟨oc2, hoc2⟩ := Option.ne_none_iff_exists'.mp hr
    rw [hoc, Option.getD_some]
    rw [hoc] at hp
    -- what stood there, still does
    obtain ⟨ov0, f1, f2, q1, q2, dj, cv, put⟩ := h0.focus hoc
    have n0 := plain_slot (K := K) (mg := mg) (F := F0) (H := H0) hp.1 ov0 f1 q2
    have back : Slot K mg F H oc ov0 (fun _ => False) := by
      cases oc with
      | none => exact fun _ z => z
      | some c =>
        obtain ⟨v', e, r⟩ := q2
        cases c with
        | val d =>
          simp only [Rc] at r
          exact ⟨v', e, Rc.of_dp (r.1.mono se)⟩
        | tup cs => exact nomatch hp.1
        | lst cs => exact nomatch hp.1
        | dic ks cs => exact nomatch hp.1
        | obj cl ks cs => exact nomatch hp.1
        | ref _ => exact nomatch hp.1
        | lam _ _ _ => exact nomatch hp.1
    -- oc2 holds nothing of one's own: it is none or came from ρ
    obtain ⟨ov2, g1, g2, p1, p2, dj2, cv2, put2⟩ := h2.focus hoc2
    have pl2 : ∀ a, ¬ g1 a := by
      have key : ∀ (us : List Nat) (τ : Env), plainAt ρ us = true → τ[v]? = some none → ∀ oc2, (Nd.restore ρ us τ)[v]? = some oc2 → oc2 = none ∨ oc2 = oc := by
        intro us
        induction us with
        | nil => intro τ _ e oc2 e2; simp only [Nd.restore] at e2; rw [e] at e2; exact .inl (Option.some.inj e2).symm
        | cons u us ih =>
          intro τ hp' e oc2 e2
          simp only [plainAt, Bool.and_eq_true] at hp'
          simp only [Nd.restore] at e2
          by_cases eu : u = v
          · subst eu
            have hlt : u < (Nd.restore ρ us (τ.set u none)).length := by
              have := (List.getElem?_eq_some_iff.mp e2).1
              rwa [List.length_set] at this
            rw [List.getElem?_set_self hlt, hoc, Option.getD_some] at e2
            exact .inr (Option.some.inj e2).symm
          · rw [List.getElem?_set_ne eu] at e2
            exact ih (τ.set u none) hp'.2 (by rw [List.getElem?_set_ne eu]; exact e) oc2 e2
      rcases key vs (ρ2.set v none) hp.2 (List.getElem?_set_self (by omega)) oc2 hoc2 with z | z
      · subst z; exact fun a y => p2 a y
      · subst z; exact plain_slot hp.1 ov2 g1 p2
    have fin := put2 oc ov0 F H (fun _ => False) (Same.refl _) (fun _ _ => ⟨rfl, rfl⟩) back (fun _ z => z.elim)
    have e3 : σ.set v ov0 = σ := by
      apply List.ext_getElem?
      intro j
      by_cases e : v = j
      · subst e; rw [q1]; exact List.getElem?_set_self (by omega)
      · exact List.getElem?_set_ne e
    rw [e3] at fin
    exact fin.iff fun a => by
      rw [cv2 a]
      exact ⟨fun z => z.elim (fun y => (pl2 a y).elim) .inr, fun z => z.elim False.elim .inr⟩
/-- the source isn't one of the block's own slots -/
def srcOut (s : Src) (vs : List Nat) : Prop := match s with
  | none => True
  | some (i, _) => i ∉ vs
theorem wipeE_out {vs : List Nat} {i : Nat} (hi : i ∉ vs) : (wipeE ρ vs)[i]? = ρ[i]? := by
  induction vs with
  | nil => rfl
  | cons u vs ih =>
    simp only [wipeE]
    rw [List.getElem?_set_ne (fun e => by subst e; exact hi List.mem_cons_self)]
    exact ih fun z => hi (List.mem_cons_of_mem _ z)
theorem wipeE_length (vs : List Nat) : (wipeE ρ vs).length = ρ.length := by
  induction vs with
  | nil => rfl
  | cons _ _ ih => simp [wipeE, ih]
theorem wipe_out' {vs : List Nat} {i : Nat} (hi : i ∉ vs) : (L2.wipe σ vs)[i]? = σ[i]? := by
  induction vs with
  | nil => rfl
  | cons u vs ih =>
    simp only [L2.wipe]
    rw [List.getElem?_set_ne (fun e => by subst e; exact hi List.mem_cons_self)]
    exact ih fun z => hi (List.mem_cons_of_mem _ z)
/-- W0: in a block no exception leaves -/
abbrev W0 : WX := fun _ _ _ _ => False
theorem gComp_ok {gi : G Itm} {p : Pat} {vs : List Nat} {gt : G Bool} {ge : G Op} (hvs : ∀ j, j ∈ p.slots → j ∈ vs) (hsrc : ∀ ρ it ρ', gi ρ = .ok it ρ' → srcOut it.src vs) {Q : VK} (h : tE K mg W (gComp gi p vs gt ge) σ H Q) :
    tLc (tI K mg W p.isTu gi) (tGd K mg p) (tT K mg W0 gt) (tO K mg W0 ge) vs σ H Q := by
  obtain ⟨ρ, fp, F, w, h⟩ := h
  refine ⟨ρ, fp, F, w, ?_⟩
  unfold gComp G.bind at h
  cases q : gi ρ with
  | bad => rw [q] at h; exact h
  | ex x ρ' => rw [q] at h; exact h
  | ok it ρ1 =>
    rw [q] at h
    simp only [R.bind_ok] at h
    intro J a F1 H1 fp1 w1 c1 ck1 an1 ok hz D hD
    have hs := hsrc ρ it ρ1 q
    by_cases hpl : plainAt ρ1 vs = true
    · rw [if_pos hpl] at h
      have sF1 := w1.sub.free hD
      -- the block's start
      have x0 : Frs F1 H1 F1 (upd H1 D (.lst [])) := Frs.new w1.sub hD
      have w0 := w1.frs x0
      obtain ⟨fpb, rb, kb⟩ := w0.re.wipe (vs := vs)
      have wb : Wd K mg F1 (upd H1 D (.lst [])) (wipeE ρ1 vs) fpb (L2.wipe σ vs) := ⟨w0.sub, rb⟩
      have Dfp : ¬ fp1 D := fun z => by
        obtain ⟨_, o, e⟩ := w1.re.own D z
        rw [hD] at e; cases e
      have anb : anchor it.src a (L2.wipe σ vs) := by
        cases z : it.src with
        | none => trivial
        | some u =>
          obtain ⟨i, c⟩ := u
          rw [z] at an1 hs
          show (L2.wipe σ vs)[i]? = _
          rw [wipe_out' hs]; exact an1
      have hlen : σ.length = ρ1.length := Re.length w1.re
      have z0 : Chg fpb F1 H1 (fun a => fpb a ∨ a = D) F1 (upd H1 D (.lst [])) := ⟨Same.refl _, fun b o _ e => x0.kp b o e, fun _ _ _ => rfl, fun b y => y.elim .inl fun u => .inr (by rw [u]; exact hD)⟩
      let Inv2 : Nat → List PyData → Env → Hp → Prop := fun i out ρo H' => ∃ ρ' fp' F' acc vacc rest, Wd K mg F' H' ρ' fp' (L2.wipe σ vs) ∧ Chg fpb F1 H1 (fun a => fp' a ∨ a = D) F' H' ∧ (∀ v ∈ vs, v < ρ'.length → ρ'[v]? = some none) ∧ H' D = some (.lst vacc) ∧ F' D = none ∧ ¬ fp' D ∧ DqAll K F' vacc acc ∧ acc.length ≤ i ∧
            compL it.src p vs gt ge (it.ds.drop i) ρ' = .ok rest ρo ∧ acc ++ rest = out
      cases qc : compL it.src p vs gt ge it.ds (wipeE ρ1 vs) with
      | bad => rw [qc] at h; exact h.elim
      | ex x ρ' => rw [qc] at h; exact h.elim
      | ok out ρo =>
        rw [qc] at h
        simp only at h
        refine ⟨fun i m H' => m = it.ds.length - i ∧ i ≤ it.ds.length ∧ Inv2 i out ρo H',
          ⟨_, rfl, Nat.zero_le _, wipeE ρ1 vs, fpb, F1, [], [], out, wb, z0, fun v hv hl => wipeE_at hv (by rw [wipeE_length] at hl; exact hl), upd_same, sF1, fun z => Dfp (kb D z), .nil, Nat.zero_le _, by simpa using qc, by simp⟩, ?_⟩
        rintro i m H2 ⟨rfl, hi, ρ2, fp2, F2, acc, vacc, rest, w2, c2, n2, D2, FD2, fD2, r2, l2, e2, eo⟩
        have s12 : Same F1 F2 := c2.fz
        by_cases hlt : i < it.ds.length
        · right
          rw [List.drop_eq_getElem_cons hlt] at e2
          unfold compL gChk at e2
          by_cases ck : chk it.src ρ2
          · rw [if_pos ck] at e2
            dsimp only at e2
            refine ⟨ok.go ρ2 fp2 F2 H2 _ i w2 ck anb s12 hlt, fun H' => (i + 1 ≤ it.ds.length ∧ Inv2 (i + 1) out ρo H'), fun H' n => ⟨_, by omega, rfl, n⟩, fun x H3 hy => ?_⟩
            obtain ⟨F3, x3, d3⟩ := ok.yld ρ2 fp2 F2 H2 _ i x H3 _ w2 ck anb s12 (List.getElem?_eq_getElem hlt) hy
            cases z : asg p it.ds[i] ρ2 with
            | none => rw [z] at e2; cases e2
            | some ρ3 =>
              rw [z] at e2
              simp only at e2
              refine ⟨ρ2, fp2, F3, it.ds[i], ρ3, w2.frs x3, d3, z, fun σ4 fp4 w4 k4 k4' => ?_⟩
              have we4 : L2.wipe σ4 vs = L2.wipe σ vs := by
                refine wipe_eq ?_ fun j hj => k4' j fun z => hj (hvs j z)
                have l4 := Re.length w4.re
                have l3 := Re.length w2.re
                rw [wipe_length] at l3
                rw [l4, asg_len _ _ _ _ z, ← l3]
              refine ⟨we4, ?_⟩
              have c4 : Chg fp2 F2 H2 fp4 F3 H3 := x3.chg.to k4
              have D3 : H3 D = some (.lst vacc) := x3.kp D _ D2
              have FD3 : F3 D = none := (x3.fn D (by rw [D2]; simp)).trans FD2
              have fD4 : ¬ fp4 D := fun y => fD2 (k4 D y)
              -- D stays what it is through the test and the element
              have stayD : ∀ {fp5 : AS} {F5 H5 : Hp}, Chg fp4 F3 H3 fp5 F5 H5 → H5 D = some (.lst vacc) ∧ F5 D = none ∧ ¬ fp5 D := fun {fp5 F5 H5} c5 =>
                ⟨c5.kp D _ fD4 D3, (c5.fn D fD4 (by rw [D3]; simp)).trans FD3, fun y => (c5.nw D y).elim fD4 fun u => by rw [D3] at u; cases u⟩
              -- the turn's end
              have fin : ∀ {ρ5 : Env} {fp5 : AS} {F5 H5 : Hp} {acc' : List PyData} {vacc' : List V} {rest' : List PyData}, Wd K mg F5 H5 ρ5 fp5 σ4 → Chg fpb F1 H1 (fun a => fp5 a ∨ a = D) F5 H5 → H5 D = some (.lst vacc') → F5 D = none → ¬ fp5 D → DqAll K F5 vacc' acc' → acc'.length ≤ i + 1 →
                  compL it.src p vs gt ge (it.ds.drop (i + 1)) (wipeE ρ5 vs) = .ok rest' ρo → acc' ++ rest' = out →
                  (i + 1 ≤ it.ds.length ∧ Inv2 (i + 1) out ρo H5) := fun {ρ5 fp5 F5 H5 acc' vacc' rest'} w5 c5 D5 FD5 fD5 r5 l5 e5 o5 => by
                obtain ⟨fp6, r6, k6⟩ := w5.re.wipe (vs := vs)
                rw [we4] at r6
                exact ⟨hlt, wipeE ρ5 vs, fp6, F5, acc', vacc', rest', ⟨w5.sub, r6⟩, c5.to fun a y => y.elim (fun u => .inl (k6 a u)) .inr, fun v hv hl => wipeE_at hv (by rw [wipeE_length] at hl; exact hl), D5, FD5, fun y => fD5 (k6 D y), r5, l5, e5, o5⟩
              -- from the turn's start on, D grown or not
              have far : ∀ {fp5 : AS} {F5 H5 H5' : Hp}, Chg fp4 F3 H3 fp5 F5 H5 → (∀ b, b ≠ D → H5' b = H5 b) → Chg fpb F1 H1 (fun a => fp5 a ∨ a = D) F5 H5' := fun {fp5 F5 H5 H5'} c5 hb => by
                have c25 := c4.trans c5
                refine c2.trans ⟨c25.fz, fun b o n e => ?_, fun b n e => c25.fn b (fun u => n (.inl u)) e, fun b y => ?_⟩
                · rw [hb b fun u => n (.inr u)]
                  exact c25.kp b o (fun u => n (.inl u)) e
                · rcases y with y | y
                  · exact (c25.nw b y).elim (fun u => .inl (.inl u)) .inr
                  · exact .inl (.inr y)
              refine tRun w4 (Chg.refl (fp := fp4) (F := F3) (H := H3)) ?_
              cases zt : gt ρ3 with
              | bad => rw [zt] at e2; cases e2
              | ex x ρ' => rw [zt] at e2; cases e2
              | ok b ρ5 =>
                rw [zt] at e2
                simp only [R.bind_ok] at e2
                intro F5 H5 fp5 w5 s5 c5
                have t5 := stayD c5
                cases b with
                | false =>
                  simp only [Bool.false_eq_true, if_false] at e2 ⊢
                  exact fin w5 (far c5 fun _ _ => rfl) t5.1 t5.2.1 t5.2.2 ((r2.mono x3.fz).mono s5) (by omega) e2 eo
                | true =>
                  simp only [if_true] at e2 ⊢
                  refine oRun w5 c5 ?_
                  cases ze : ge ρ5 with
                  | bad => rw [ze] at e2; cases e2
                  | ex x ρ' => rw [ze] at e2; cases e2
                  | ok o ρ6 =>
                    rw [ze] at e2
                    simp only [R.bind_ok] at e2
                    intro y F6 H6 fp6 w6 r6 s6 c6
                    cases o with
                    | s j => cases e2
                    | d y' =>
                      simp only at e2
                      have t6 := stayD c6
                      cases zr : compL it.src p vs gt ge (it.ds.drop (i + 1)) (wipeE ρ6 vs) with
                      | bad => rw [zr] at e2; cases e2
                      | ex x ρ' => rw [zr] at e2; cases e2
                      | ok rest' ρr =>
                        rw [zr] at e2
                        simp only [R.bind_ok, G.ret, R.ok.injEq] at e2
                        obtain ⟨e2, e3⟩ := e2
                        subst e2 e3
                        have racc : DqAll K F6 vacc acc := ((r2.mono x3.fz).mono s5).mono s6
                        refine ⟨vacc, t6.1, ?_, ?_⟩
                        · rw [racc.length]; omega
                        · have nd : ∀ b, b ≠ D → (upd H6 D (.lst (vacc ++ [y]))) b = H6 b := fun b hb => upd_ne hb
                          have sub6 : Same F6 (upd H6 D (.lst (vacc ++ [y]))) := fun b u e => by
                            have hb : b ≠ D := fun z => by rw [z, t6.2.1] at e; cases e
                            rw [nd b hb]; exact w6.sub b u e
                          have w7 : Wd K mg F6 (upd H6 D (.lst (vacc ++ [y]))) ρ6 fp6 σ4 := ⟨sub6, w6.re.frame (Same.refl _) fun b hb => ⟨nd b fun z => t6.2.2 (z ▸ hb), rfl⟩⟩
                          exact fin (acc' := acc ++ [y']) (vacc' := vacc ++ [y]) (rest' := rest') w7 (far c6 nd) upd_same t6.2.1 t6.2.2 (racc.append (.cons r6 .nil)) (by simp; omega) zr (by rw [List.append_assoc]; exact eo)
          · rw [if_neg ck] at e2
            cases e2
        · left
          have e : i = it.ds.length := by omega
          subst e
          rw [List.drop_length] at e2
          unfold compL gChk at e2
          by_cases ck : chk it.src ρ2
          · rw [if_pos ck] at e2
            simp only [G.ret, R.ok.injEq] at e2
            obtain ⟨e2, e3⟩ := e2
            subst e2 e3
            rw [List.append_nil] at eo
            subst eo
            refine ⟨ok.stop ρ2 fp2 F2 H2 _ w2 ck anb s12, ?_⟩
            refine h (.ref D) F2 H2 fp2 (fun a => a = D) ⟨w2.sub, Re.restore w1.re s12 hpl n2 w2.re⟩ ?_ (fun a y u => fD2 (y ▸ u)) ?_
            · simp only [mkL, Rc]
              exact ⟨D, vacc, fun _ => False, rfl, D2, FD2, Rcs_vals r2, id, fun b => by simp⟩
            · have c2' : Chg fp1 F1 H1 (fun a => fp2 a ∨ a = D) F2 H2 := ⟨c2.fz, fun b o n e => c2.kp b o (fun u => n (kb b u)) e, fun b n e => c2.fn b (fun u => n (kb b u)) e, fun b y => (c2.nw b y).imp (kb b) id⟩
              exact c1.trans c2'
          · rw [if_neg ck] at e2
            cases e2
    · rw [if_neg hpl] at h
      exact h.elim
end
end Nd

/-! Nd7: what is walked; items, slices, kinds, lengths. -/
namespace Nd
open PySem L2
/-- what stands in lists and tuples has a bounded length -/
def tSized (K : Frag) (t : TE) : TE := fun σ H Q => t σ H fun x H1 => (∀ a xs, x = .ref a → (SqL K H1 a xs ∨ SqT K H1 a xs) → xs.length ≤ sizeLine) → Q x H1
theorem _root_.L2.PE.sized {X : Cx} {e : Expr} {t : TE} (h : PE X e t) : PE X e (tSized X.K t) := ⟨fun pins s σ H Q I hw => thn (h.run pins s σ H _ I hw) fun u s1 ⟨x, H1, I1, r, q⟩ => ⟨x, H1, I1, r, q fun a xs e hs => by
  rcases hs with hs | hs
  · obtain ⟨its, _, _, z⟩ := I1.list hs
    exact z
  · obtain ⟨its, _, _, z⟩ := I1.tuple hs
    exact z⟩⟩
def signs (z : Str) : List PyData := z.cps.toList.map fun c => .str ⟨#[c]⟩
def items : PyData → Option (List PyData)
  | .list ds => some ds
  | .tuple ds => some ds
  | .str z => if lenOk z.length = true then some (signs z) else none
  | _ => none
section
variable [TF] {wk : Bool} {X : Cx} {K : Frag} {mg : Str → Option Value} {W : WX} {F H F0 H0 : Hp} {ρ : Env} {fp fp0 : AS} {σ σ0 : St} {v : V}
theorem itOk_list {a : Addr} {vs : List V} {ds : List PyData} (s : SqL K F a vs) (r : DqAll K F vs ds) : ItOk K mg wk none a F ds (Itl K a) where
  go := fun ρ fp F' H' σ i w _ _ se hi => by
    have hi' : i < vs.length := by rw [r.length]; exact hi
    exact ⟨vs, vs[i], w.sub.seq (se.seq s), List.getElem?_eq_getElem hi'⟩
  yld := fun ρ fp F' H' σ i x H2 d w _ _ se hd hy => by
    obtain ⟨rfl, hx⟩ := hy
    obtain ⟨u, e, q⟩ := r.get hd
    have := hx vs (w.sub.seq (se.seq s))
    rw [e] at this
    cases this
    exact ⟨F', Frs.refl w.sub, .inl (q.mono se)⟩
  stop := fun ρ fp F' H' σ w _ _ se => ⟨vs, w.sub.seq (se.seq s), by rw [r.length]; exact Nat.le_refl _⟩
theorem itOk_tup {a : Addr} {vs : List V} {ds : List PyData} (s : SqT K F a vs) (r : DqAll K F vs ds) : ItOk K mg wk none a F ds (Itt K a) where
  go := fun ρ fp F' H' σ i w _ _ se hi => by
    have hi' : i < vs.length := by rw [r.length]; exact hi
    exact ⟨vs, vs[i], SqT.mono w.sub (SqT.mono se s), List.getElem?_eq_getElem hi'⟩
  yld := fun ρ fp F' H' σ i x H2 d w _ _ se hd hy => by
    obtain ⟨rfl, hx⟩ := hy
    obtain ⟨u, e, q⟩ := r.get hd
    have := hx vs (SqT.mono w.sub (SqT.mono se s))
    rw [e] at this
    cases this
    exact ⟨F', Frs.refl w.sub, .inl (q.mono se)⟩
  stop := fun ρ fp F' H' σ w _ _ se => ⟨vs, SqT.mono w.sub (SqT.mono se s), by rw [r.length]; exact Nat.le_refl _⟩
theorem itOk_own {i : Nat} {cs : List C} {a : Addr} {ds : List PyData} (e : vals cs = some ds) : ItOk K mg wk (some (i, .lst cs)) a F ds (Itl K a) := by
  have key : ∀ {ρ : Env} {fp : AS} {F' H' : Hp} {σ : St}, Wd K mg F' H' ρ fp σ → chk (some (i, .lst cs)) ρ → anchor (some (i, .lst cs)) a σ → ∃ vs, SqL K H' a vs ∧ DqAll K F' vs ds := fun {ρ fp F' H' σ} w ck an => by
    obtain ⟨ov, f1, f2, q1, ⟨v, q2, q3⟩, _⟩ := w.re.focus ck
    have an' : σ[i]? = some (some (.ref a)) := an
    rw [q1, q2] at an'
    cases an'
    simp only [Rc] at q3
    obtain ⟨a', vs, f', h1, h2, h3, h4, h5, h6⟩ := q3
    cases h1
    exact ⟨vs, .of h2, vals_sh h4 e⟩
  refine ⟨fun ρ fp F' H' σ j w ck an se hi => ?_, fun ρ fp F' H' σ j x H2 d w ck an se hd hy => ?_, fun ρ fp F' H' σ w ck an se => ?_⟩
  · obtain ⟨vs, s, r⟩ := key w ck an
    have hi' : j < vs.length := by rw [r.length]; exact hi
    exact ⟨vs, vs[j], s, List.getElem?_eq_getElem hi'⟩
  · obtain ⟨vs, s, r⟩ := key w ck an
    obtain ⟨rfl, hx⟩ := hy
    obtain ⟨u, e, q⟩ := r.get hd
    have := hx vs s
    rw [e] at this
    cases this
    exact ⟨F', Frs.refl w.sub, .inl q⟩
  · obtain ⟨vs, s, r⟩ := key w ck an
    exact ⟨vs, s, by rw [r.length]; exact Nat.le_refl _⟩
theorem strOk_mem {z : Str} (h : PyData.canLay0 (.str z) = true) {c : Nat} (m : c ∈ z.cps.toList) : PyData.canLay0 (.str ⟨#[c]⟩) = true := by
  simp only [PyData.canLay0, PyData.strOk, Array.all_eq_true', decide_eq_true_eq] at h ⊢
  intro x hx
  have e : x = c := by simpa using hx
  subst e
  exact h x (by simpa using m)
theorem itOk_str {z : Str} (h : PyData.canLay0 (.str z) = true) : ItOk K mg wk none 0 F (signs z) (Its z) where
  go := fun ρ fp F' H' σ i w _ _ se hi => by
    have : i < z.cps.toList.length := by simpa [signs] using hi
    show i < z.cps.size
    simpa using this
  yld := fun ρ fp F' H' σ i x H2 d w _ _ se hd hy => by
    obtain ⟨rfl, c, hc, rfl⟩ := hy
    simp only [signs, List.getElem?_map] at hd
    have hc' : z.cps.toList[i]? = some c := by simpa using hc
    rw [hc'] at hd
    cases hd
    exact ⟨F', Frs.refl w.sub, .inl (.str (strOk_mem h (List.mem_of_getElem? hc')))⟩
  stop := fun ρ fp F' H' σ w _ _ se => by
    show z.cps.size ≤ _
    simp [signs]
/-- an operand walked: its items -/
def gItems (g : G Op) : G Itm := G.bind g fun o ρ => match o with
  | .d d => match items d with
    | some ds => .ok ⟨ds, none⟩ ρ
    | none => .bad
  | .s i => match ρ[i]? with
    | some (some (.val d)) => match items d with
      | some ds => .ok ⟨ds, none⟩ ρ
      | none => .bad
    | some (some (.lst cs)) => match vals cs with
      | some ds => .ok ⟨ds, some (i, .lst cs)⟩ ρ
      | none => .bad
    | _ => .bad
theorem sized_mono {t : TE} {σ : St} {H : Hp} {Q : VK} (h : t σ H fun x H1 => (∀ a xs, x = .ref a → (SqL K H1 a xs ∨ SqT K H1 a xs) → xs.length ≤ sizeLine) → Q x H1) : tSized K t σ H Q := h
theorem i_op {tg l : Expr} {g : G Op} (hl : PE X l (tO X.K mg W g)) : PI X tg l (tI X.K mg W wk (gItems g)) := by
  refine ⟨fun pins s σ H Rr I h => ?_⟩
  obtain ⟨ρ, fp, F, w, h⟩ := h
  unfold gItems G.bind at h
  -- frozen data
  have dat : ∀ {d : PyData} {ρ' : Env} {o : Op}, g ρ = .ok o ρ' → (∀ v F' H' fp', Wd X.K mg F' H' ρ' fp' σ → Ro X.K F' σ o v → Dq X.K F' v d) →
      (match items d with
        | some ds => ∀ J a F' H' fp', Wd X.K mg F' H' ρ' fp' σ → Chg fp F H fp' F' H' → ItOk X.K mg wk none a F' ds J → ds.length ≤ sizeLine → Rr J H'
        | none => False) →
      wpAny (model X.prog X.w) X.A (eval l X.env) (fun v s1 => wpAny (model X.prog X.w) X.A (pyIter v) (PIE X pins σ tg Rr) X.xe s1) X.xe s := fun {d ρ' o} eg ro hh => by
    have run : ∀ {Q : VK}, (∀ v F' H' fp', Wd X.K mg F' H' ρ' fp' σ → Dq X.K F' v d → Chg fp F H fp' F' H' → (∀ a xs, v = .ref a → (SqL X.K H' a xs ∨ SqT X.K H' a xs) → xs.length ≤ sizeLine) → Q v H') → tSized X.K (tO X.K mg W g) σ H Q := fun {Q} k =>
      ⟨ρ, fp, F, w, by rw [eg]; exact fun v F' H' fp' w' r c sz => k v F' H' fp' w' (ro v F' H' fp' w' r) c sz⟩
    cases d with
    | list ds =>
      simp only [items] at hh
      refine (pi_list hl.sized).run pins s σ H Rr I (run fun v F' H' fp' w' r c sz => ?_)
      obtain ⟨a, vs, e, s1, r1⟩ := r.list_inv
      have s2 := w'.sub.seq s1
      exact ⟨a, e, ⟨vs, s2⟩, hh _ a F' H' fp' w' c (itOk_list s1 r1) (by rw [← r1.length]; exact sz a vs e (.inl s2))⟩
    | tuple ds =>
      simp only [items] at hh
      refine (pi_tup hl.sized).run pins s σ H Rr I (run fun v F' H' fp' w' r c sz => ?_)
      obtain ⟨a, vs, e, s1, r1⟩ := r.tup_inv
      have s2 : SqT X.K H' a vs := (s1.mono w'.sub).t
      exact ⟨a, e, ⟨vs, s2⟩, hh _ a F' H' fp' w' c (itOk_tup s1.t r1) (by rw [← r1.length]; exact sz a vs e (.inr s2))⟩
    | str z =>
      simp only [items] at hh
      by_cases hz : lenOk z.length = true
      · rw [if_pos hz] at hh
        refine (pi_str hl.sized).run pins s σ H Rr I (run fun v F' H' fp' w' r c sz => ?_)
        obtain ⟨e, lay⟩ := r.str_inv
        refine ⟨z, e, hh _ 0 F' H' fp' w' c (itOk_str lay) ?_⟩
        have := of_decide_eq_true hz
        simpa [signs, Str.length] using this
      · rw [if_neg hz] at hh
        exact hh.elim
    | none => exact hh.elim
    | bool b => exact hh.elim
    | int i => exact hh.elim
    | dict ds => exact hh.elim
  cases q : g ρ with
  | bad => rw [q] at h; exact h.elim
  | ex x ρ' =>
    rw [q] at h
    exact (pi_list hl).run pins s σ H Rr I ⟨ρ, fp, F, w, by rw [q]; exact h⟩
  | ok o ρ1 =>
    rw [q] at h
    simp only [R.bind_ok] at h
    cases o with
    | d d =>
      dsimp only at h
      refine dat q (fun v F' H' fp' _ r => r) ?_
      cases z : items d with
      | none => rw [z] at h; exact h.elim
      | some ds => rw [z] at h; exact fun J a F' H' fp' w' c ok hz => h J a F' H' fp' w' c trivial trivial ok hz
    | s i =>
      simp only at h
      cases z : ρ1[i]? with
      | none => rw [z] at h; exact h.elim
      | some oc =>
        cases oc with
        | none => rw [z] at h; exact h.elim
        | some c =>
          rw [z] at h
          cases c with
          | val d =>
            refine dat (d := d) q (fun v F' H' fp' w' r => ?_) ?_
            · obtain ⟨ov, f1, f2, q1, ⟨v', q2, q3⟩, _⟩ := w'.re.focus z
              have r' : σ[i]? = some (some v) := r
              rw [q1, q2] at r'
              cases r'
              simp only [Rc] at q3
              exact q3.1
            · simp only at h
              cases z : items d with
              | none => rw [z] at h; exact h.elim
              | some ds => rw [z] at h; exact fun J a F' H' fp' w' c ok hz => h J a F' H' fp' w' c trivial trivial ok hz
          | lst cs =>
            simp only at h
            cases zv : vals cs with
            | none => rw [zv] at h; exact h.elim
            | some ds =>
              rw [zv] at h
              refine (pi_list hl.sized).run pins s σ H Rr I ⟨ρ, fp, F, w, by
                rw [q]
                intro v F' H' fp' w' r c sz
                obtain ⟨ov, f1, f2, q1, ⟨v', q2, q3⟩, _⟩ := w'.re.focus z
                have r' : σ[i]? = some (some v) := r
                rw [q1, q2] at r'
                cases r'
                simp only [Rc] at q3
                obtain ⟨a, vs, f', h1, h2, h3, h4, h5, h6⟩ := q3
                have r1 := vals_sh h4 zv
                exact ⟨a, h1, ⟨vs, .of h2⟩, h (Itl X.K a) a F' H' fp' w' c z (show σ[i]? = some (some (.ref a)) by rw [← h1]; exact r) (itOk_own zv) (by rw [← r1.length]; exact sz a vs h1 (.inl (.of h2)))⟩⟩
          | tup cs => exact h.elim
          | dic ks cs => exact h.elim
          | obj cl ks cs => exact h.elim
          | ref _ => exact h.elim
          | lam _ _ _ => exact h.elim
/-- where the source is -/
theorem src_slot {i : Nat} {T : Src → Prop} (h0 : T none) (h : ∀ c, T (some (i, c))) : ∀ ρ it ρ', gItems (gSlot i) ρ = .ok it ρ' → T it.src := by
  intro ρ it ρ' e
  simp only [gItems, gSlot, G.bind] at e
  cases z : ρ[i]? with
  | none => rw [z] at e; cases e
  | some oc =>
    cases oc with
    | none => rw [z] at e; cases e
    | some c =>
      rw [z] at e
      simp only [R.bind_ok, z] at e
      cases c with
      | val d =>
        simp only at e
        cases y : items d with
        | none => rw [y] at e; cases e
        | some ds => rw [y] at e; cases e; exact h0
      | lst cs =>
        simp only at e
        cases y : vals cs with
        | none => rw [y] at e; cases e
        | some ds => rw [y] at e; cases e; exact h _
      | tup cs => cases e
      | dic ks cs => cases e
      | obj cl ks cs => cases e
      | ref _ => cases e
      | lam _ _ _ => cases e
theorem src_fz {g : G C} {T : Src → Prop} (h0 : T none) : ∀ ρ it ρ', gItems (gFz g) ρ = .ok it ρ' → T it.src := by
  intro ρ it ρ' e
  unfold gItems gFz G.bind at e
  cases z : g ρ with
  | bad => rw [z] at e; cases e
  | ex x ρ1 => rw [z] at e; cases e
  | ok c ρ1 =>
    rw [z] at e
    simp only [R.bind_ok] at e
    cases y : fz c with
    | none => rw [y] at e; cases e
    | some d =>
      rw [y] at e
      simp only [G.ret, R.bind_ok] at e
      cases u : items d with
      | none => rw [u] at e; cases e
      | some ds => rw [u] at e; cases e; exact h0

/-! ### range -/
def rng (n : Nat) (lo : Int) : List PyData := (List.range n).map fun k => .int (lo + (k : Nat))
theorem itOk_rng {n : Nat} {lo : Int} : ItOk K mg wk none 0 F (rng n lo) (Itr lo n) where
  go := fun ρ fp F' H' σ i w _ _ se hi => by
    show i < n
    simpa [rng] using hi
  yld := fun ρ fp F' H' σ i x H2 d w _ _ se hd hy => by
    obtain ⟨rfl, rfl⟩ := hy
    simp only [rng, List.getElem?_map] at hd
    by_cases hi : i < n
    · rw [List.getElem?_range hi] at hd
      cases hd
      exact ⟨F', Frs.refl w.sub, .inl (.int _)⟩
    · rw [List.getElem?_eq_none (by simpa using hi)] at hd
      cases hd
  stop := fun ρ fp F' H' σ w _ _ se => by
    show n ≤ _
    simp [rng]
def rng1 : List PyData → Option Int
  | [.int j] => if decide (-(2 ^ 62) ≤ j ∧ j ≤ 16777216) = true then some j else none
  | _ => none
theorem rng1_eq {ds : List PyData} {j : Int} (h : rng1 ds = some j) : ds = [.int j] ∧ -(2 ^ 62) ≤ j ∧ j ≤ 16777216 := by
  unfold rng1 at h
  split at h
  · split at h
    · rename_i hb
      cases h
      exact ⟨rfl, of_decide_eq_true hb⟩
    · cases h
  · cases h
def gRng1 (g : G (List Op)) : G Itm := G.bind g fun os ρ => match (derefs ρ os).bind rng1 with
  | some j => .ok ⟨rng j.toNat 0, none⟩ ρ
  | none => .bad
theorem i_range1 {tg a : Expr} {gs : List (G Op)} {p pos : Pos} (hg : Gl X "range") (hm : X.mg "range" = none) (ha : PA X [a] (tOs X.K mg W (gOs gs))) (hs : starEach [a] X.env = [(false, eval a X.env)] := by rfl) : PI X tg (.Call (.Name "range" p) [a] [] pos) (tI X.K mg W wk (gRng1 (gOs gs))) := by
  refine ⟨fun pins s σ H Rr I h => ?_⟩
  refine (pi_range1 hg hm ha hs).run pins s σ H Rr I ?_
  obtain ⟨ρ, fp, F, w, h⟩ := h
  unfold gRng1 G.bind at h
  refine osRun w Chg.refl ?_
  cases q : gOs gs ρ with
  | bad => rw [q] at h; exact h.elim
  | ex x ρ' => rw [q] at h; exact h
  | ok os ρ1 =>
    rw [q] at h
    simp only [R.bind_ok] at h
    intro vs F1 H1 fp1 w1 r1 s1 c1
    cases z : derefs ρ1 os with
    | none => rw [z] at h; exact h.elim
    | some ds =>
      rw [z] at h
      have sh := derefs_sh w1 r1 z
      simp only [Option.bind_some] at h
      cases y : rng1 ds with
      | none => rw [y] at h; exact h.elim
      | some j =>
        rw [y] at h
        obtain ⟨e, b1, b2⟩ := rng1_eq y
        subst e
        cases vs with
        | nil => cases sh
        | cons v vs =>
          obtain ⟨d, r, e1, e2, e3⟩ := sh
          cases e1
          cases vs with
          | cons _ _ => obtain ⟨_, _, e1, _⟩ := e3; cases e1
          | nil =>
            refine ⟨j, by rw [e2.int], b1, by omega, h _ 0 F1 H1 fp1 w1 c1 trivial trivial itOk_rng ?_⟩
            simp only [rng, List.length_map, List.length_range]
            rw [sizeLine_eq]
            omega
theorem src_rng1 {g : G (List Op)} {T : Src → Prop} (h0 : T none) : ∀ ρ it ρ', gRng1 g ρ = .ok it ρ' → T it.src := by
  intro ρ it ρ' e
  unfold gRng1 G.bind at e
  cases z : g ρ with
  | bad => rw [z] at e; cases e
  | ex x ρ1 => rw [z] at e; cases e
  | ok c ρ1 =>
    rw [z] at e
    simp only [R.bind_ok] at e
    split at e
    · cases e; exact h0
    · cases e
end
end Nd

/-! Nd8: defs and their calls. -/
namespace Nd
open PySem L2

theorem takes0N {X : Cx} : L2N.Takes X (fun _ _ _ _ => False) := fun _ _ x => by
  obtain ⟨_, _, _, _, _, _, _, _, _, _, _, _, _, _, _, _, z⟩ := x
  exact z.elim
inductive RF where
  | ok (r : C) (cs : List C)
  | ex (x : Xc) (cs : List C)
  | bad
/-- a def's meaning: what its arguments hold, ahead and behind; its answer -/
abbrev Fn := List C → RF
section
variable [TF] (K : Frag) (mg : Str → Option Value)
def SpOf (n : Nat) (f : Fn) : Sp := fun vs H Q E => ∃ F cs fp, vs.length = n ∧ Same F H ∧ Rct K mg F H cs vs fp ∧
  match f cs with
  | .ok r cs' => ∀ v F' H' fp' fv, Same F' H' → Rct K mg F' H' cs' vs fp' → Rc K mg F' H' r v fv → (∀ a, fv a → ¬ fp' a) → Chg fp F H (fun a => fp' a ∨ fv a) F' H' → Q v H'
  | .ex x cs' => ∀ cls dd F' H' fp', Same F' H' → Rct K mg F' H' cs' vs fp' → Chg fp F H fp' F' H' → Xr mg x cls dd F' → E cls dd H'
  | .bad => False
end
/-- an argument: a value of its own, or a slot that is lent -/
inductive Arg where
  | c (c : C)
  | s (i : Nat)
def lent : List Arg → List Nat
  | [] => []
  | .c _ :: r => lent r
  | .s i :: r => i :: lent r
def conts (ρ : Env) : List Arg → Option (List C)
  | [] => some []
  | .c c :: r => (conts ρ r).map (c :: ·)
  | .s i :: r => match ρ[i]?, conts ρ r with
    | some (some c), some cs => some (c :: cs)
    | _, _ => none
def lendE (ρ : Env) : List Arg → Env
  | [] => ρ
  | .c _ :: r => lendE ρ r
  | .s i :: r => (lendE ρ r).set i none
def backE : List Arg → List C → Env → Env
  | .c _ :: r, _ :: cs, ρ => backE r cs ρ
  | .s i :: r, c :: cs, ρ => (backE r cs ρ).set i (some c)
  | _, _, ρ => ρ
section
variable [TF] (K : Frag) (mg : Str → Option Value)
def Ras (F H : Hp) (σ : St) : List Arg → List V → AS → Prop
  | [], vs, fv => vs = [] ∧ ∀ a, ¬ fv a
  | .c c :: as, vs, fv => ∃ v r f1 f2, vs = v :: r ∧ Rc K mg F H c v f1 ∧ Ras F H σ as r f2 ∧ (∀ a, f1 a → ¬ f2 a) ∧ ∀ a, fv a ↔ f1 a ∨ f2 a
  | .s i :: as, vs, fv => ∃ v r, vs = v :: r ∧ σ[i]? = some (some v) ∧ Ras F H σ as r fv
def tAs (W : WX) (g : G (List Arg)) : TA := fun σ H Q => ∃ ρ fp F, Wd K mg F H ρ fp σ ∧
  match g ρ with
  | .ok as ρ' => ∀ vs F' H' fp' fv, Wd K mg F' H' ρ' fp' σ → Ras K mg F' H' σ as vs fv → (∀ a, fv a → ¬ fp' a) → Chg fp F H (fun a => fp' a ∨ fv a) F' H' → Q vs H'
  | .ex x ρ' => exPost K mg W F H fp σ x ρ'
  | .bad => False
end
section
variable [TF] {X : Cx} {K : Frag} {mg : Str → Option Value} {W : WX} {F H F' H' F0 H0 : Hp} {ρ : Env} {fp fp0 : AS} {σ σ0 : St}
theorem Ras.own : ∀ {as : List Arg} {vs : List V} {fv : AS}, Ras K mg F H σ as vs fv → ∀ a, fv a → F a = none ∧ ∃ o, H a = some o
  | [], vs, fv, h, a, z => (h.2 a z).elim
  | .c c :: as, vs, fv, h, a, z => by
    obtain ⟨v, r, f1, f2, h1, h2, h3, h4, h5⟩ := h
    rcases (h5 a).mp z with y | y
    · exact Rc.own h2 a y
    · exact Ras.own h3 a y
  | .s i :: as, vs, fv, h, a, z => by
    obtain ⟨v, r, h1, h2, h3⟩ := h
    exact Ras.own h3 a z
theorem Ras.frame (e : Same F F') : ∀ {as : List Arg} {vs : List V} {fv : AS}, Ras K mg F H σ as vs fv → (∀ a, fv a → H' a = H a ∧ F' a = F a) → Ras K mg F' H' σ as vs fv
  | [], vs, fv, h, k => h
  | .c c :: as, vs, fv, h, k => by
    obtain ⟨v, r, f1, f2, h1, h2, h3, h4, h5⟩ := h
    exact ⟨v, r, f1, f2, h1, h2.frame e fun a z => k a ((h5 a).mpr (.inl z)), Ras.frame e h3 fun a z => k a ((h5 a).mpr (.inr z)), h4, h5⟩
  | .s i :: as, vs, fv, h, k => by
    obtain ⟨v, r, h1, h2, h3⟩ := h
    exact ⟨v, r, h1, h2, Ras.frame e h3 k⟩
def gAs : List (G Arg) → G (List Arg)
  | [] => G.ret []
  | g :: gs => G.bind g fun o => G.bind (gAs gs) fun os => G.ret (o :: os)
def gArg (g : G C) : G Arg := G.bind g fun c => G.ret (.c c)
def gLent (i : Nat) : G Arg := fun ρ => match ρ[i]? with
  | some (some _) => .ok (.s i) ρ
  | _ => .bad
theorem as_nil : PA X [] (tAs K mg W (gAs [])) := pa_nil.imp fun σ H Q h => by
  obtain ⟨ρ, fp, F, w, h⟩ := h
  exact h [] F H fp (fun _ => False) w ⟨rfl, fun _ z => z⟩ (fun _ z => z.elim) Chg.refl.or_false
theorem asRun {g : G (List Arg)} {Q : List V → Hp → Prop} (w : Wd K mg F H ρ fp σ) (ch : Chg fp0 F0 H0 fp F H)
    (h : match g ρ with
      | .ok c ρ' => ∀ v F' H' fp' fv, Wd K mg F' H' ρ' fp' σ → Ras K mg F' H' σ c v fv → (∀ a, fv a → ¬ fp' a) → Chg fp F H (fun a => fp' a ∨ fv a) F' H' → Chg fp0 F0 H0 (fun a => fp' a ∨ fv a) F' H' → Q v H'
      | .ex x ρ' => exPost K mg W F0 H0 fp0 σ x ρ'
      | .bad => False) : tAs K mg W g σ H Q := by
  refine ⟨ρ, fp, F, w, ?_⟩
  cases q : g ρ with
  | bad => rw [q] at h; exact h.elim
  | ex x ρ' => rw [q] at h; exact exPost.of ch h
  | ok o ρ' =>
    rw [q] at h
    exact fun v F' H' fp' fv w' r dj c => h v F' H' fp' fv w' r dj c (ch.trans c)
theorem as_val {e : Expr} {es : List Expr} {g : G C} {gs : List (G Arg)} (ha : PE X e (tE K mg W g)) (hr : PA X es (tAs K mg W (gAs gs))) (hs : starEach (e :: es) X.env = (false, eval e X.env) :: starEach es X.env := by rfl) :
    PA X (e :: es) (tAs K mg W (gAs (gArg g :: gs))) := (pa_cons ha hr hs).imp fun σ H Q h => by
  obtain ⟨ρ, fp, F, w, h⟩ := h
  simp only [gAs, gArg, G.bind] at h
  refine eRun w Chg.refl ?_
  cases q : g ρ with
  | bad => rw [q] at h; exact h.elim
  | ex x ρ' => rw [q] at h; exact h
  | ok o ρ1 =>
    rw [q] at h
    simp only [R.bind_ok, G.bind_at, G.ret] at h
    intro v F1 H1 fp1 fv1 w1 r1 d1 c1 _
    refine asRun w1 (c1.to fun a => .inl) ?_
    cases q2 : gAs gs ρ1 with
    | bad => rw [q2] at h; exact h.elim
    | ex x ρ' => rw [q2] at h; exact h
    | ok os ρ2 =>
      rw [q2] at h
      intro vs F2 H2 fp2 fv2 w2 r2 d2 c2 c2'
      obtain ⟨k1, k2⟩ := c2.aside (fv := fv1) (fun a z => (Rc.own r1 a z).2) d1
      refine h (v :: vs) F2 H2 fp2 (fun a => fv1 a ∨ fv2 a) w2 ⟨v, vs, fv1, fv2, rfl, r1.frame c2.fz k1, r2, fun a y u => k2 a y (.inr u), fun a => Iff.rfl⟩ (fun a z => z.elim (fun y u => k2 a y (.inl u)) (d2 a)) ⟨c2'.fz, c2'.kp, c2'.fn, fun a z => ?_⟩
      rcases z with z | z | z
      · exact c2'.nw a (.inl z)
      · exact c1.nw a (.inr z)
      · exact c2'.nw a (.inr z)
theorem as_lent {es : List Expr} {gs : List (G Arg)} (i : Nat) {x : Str} {pos : Pos} (hr : PA X es (tAs K mg W (gAs gs))) (hN : X.N[i]? = some x := by rfl) (hv : Vis X.env.scope x := by first | exact Or.inl rfl | exact Or.inr (Or.inl rfl) | exact Or.inr (Or.inr rfl))
    (hd : (x == ("__debug__" : Str)) = false := by decide) (hcd : (x == ("__classdict__" : Str)) = false := by decide) (hs : starEach (.Name x pos :: es) X.env = (false, eval (.Name x pos) X.env) :: starEach es X.env := by rfl) :
    PA X (.Name x pos :: es) (tAs K mg W (gAs (gLent i :: gs))) := (pa_cons (pe_var hN hv hd hcd) hr hs).imp fun σ H Q h => by
  obtain ⟨ρ, fp, F, w, h⟩ := h
  simp only [gAs, G.bind, gLent] at h
  cases q : ρ[i]? with
  | none => rw [q] at h; exact h.elim
  | some oc =>
    cases oc with
    | none => rw [q] at h; exact h.elim
    | some c =>
      simp only [q, R.bind_ok, G.bind_at] at h
      obtain ⟨ov, f1, f2, q1, ⟨v, q2, q3⟩, dj, cv, put⟩ := w.re.focus q
      subst q2
      refine ⟨v, q1, ?_⟩
      refine asRun w Chg.refl ?_
      cases q2 : gAs gs ρ with
      | bad => rw [q2] at h; exact h.elim
      | ex x ρ' => rw [q2] at h; exact h
      | ok os ρ2 =>
        rw [q2] at h
        intro vs F2 H2 fp2 fv2 w2 r2 d2 c2 c2'
        exact h (v :: vs) F2 H2 fp2 fv2 w2 ⟨v, vs, rfl, q1, r2⟩ d2 c2'

/-! ### lending -/
theorem lendE_out : ∀ {as : List Arg} {i : Nat}, i ∉ lent as → (lendE ρ as)[i]? = ρ[i]?
  | [], i, h => rfl
  | .c c :: as, i, h => lendE_out (as := as) h
  | .s j :: as, i, h => by
    simp only [lent, List.mem_cons, not_or] at h
    simp only [lendE]
    rw [List.getElem?_set_ne (Ne.symm h.1)]
    exact lendE_out h.2
theorem lendE_length : ∀ {as : List Arg}, (lendE ρ as).length = ρ.length
  | [] => rfl
  | .c c :: as => lendE_length (as := as)
  | .s j :: as => by simp [lendE, lendE_length (as := as)]
theorem lend : ∀ {as : List Arg} {vs : List V} {fv : AS} {cs : List C}, Re0 K mg F H ρ σ fp → Ras K mg F H σ as vs fv → (∀ a, fv a → ¬ fp a) → (lent as).Nodup → conts ρ as = some cs →
    ∃ fpa fp0, Rcs K mg F H cs vs fpa ∧ Re0 K mg F H (lendE ρ as) σ fp0 ∧ (∀ a, fpa a → ¬ fp0 a) ∧ (∀ a, fpa a → fp a ∨ fv a) ∧ (∀ a, fp0 a → fp a) ∧ (∀ a, fp a → fpa a ∨ fp0 a) ∧ ∀ a, fv a → fpa a
  | [], vs, fv, cs, w, r, d, nd, e => by
    simp only [conts, Option.some.injEq] at e
    subst e
    obtain ⟨rfl, n⟩ := r
    exact ⟨fun _ => False, fp, by simp only [Rcs]; exact ⟨trivial, fun _ z => z⟩, w, fun _ z => z.elim, fun _ z => z.elim, fun _ z => z, fun _ z => .inr z, fun a z => (n a z).elim⟩
  | .c c :: as, vs, fv, cs, w, r, d, nd, e => by
    obtain ⟨v, vr, f1, f2, h1, h2, h3, h4, h5⟩ := r
    simp only [conts] at e
    cases q : conts ρ as with
    | none => rw [q] at e; cases e
    | some cr =>
      rw [q] at e
      cases e
      obtain ⟨fpa, fp0, k1, k2, k3, k4, k5, k6, k7⟩ := lend w h3 (fun a z => d a ((h5 a).mpr (.inr z))) nd q
      have n1 : ∀ a, f1 a → ¬ fpa a := fun a z y => (k4 a y).elim (d a ((h5 a).mpr (.inl z))) (h4 a z)
      refine ⟨fun a => f1 a ∨ fpa a, fp0, ?_, k2, fun a z y => ?_, fun a z => ?_, k5, fun a z => (k6 a z).imp .inr id, fun a z => ((h5 a).mp z).imp id (k7 a)⟩
      · simp only [Rcs]
        exact ⟨v, vr, f1, fpa, h1, h2, k1, n1, fun _ => Iff.rfl⟩
      · rcases z with z | z
        · exact d a ((h5 a).mpr (.inl z)) (k5 a y)
        · exact k3 a z y
      · rcases z with z | z
        · exact .inr ((h5 a).mpr (.inl z))
        · exact (k4 a z).imp id fun u => (h5 a).mpr (.inr u)
  | .s i :: as, vs, fv, cs, w, r, d, nd, e => by
    obtain ⟨v, vr, h1, h2, h3⟩ := r
    simp only [lent, List.nodup_cons] at nd
    simp only [conts] at e
    cases q0 : ρ[i]? with
    | none => rw [q0] at e; cases e
    | some oc =>
      cases oc with
      | none => rw [q0] at e; cases e
      | some c =>
        cases q : conts ρ as with
        | none => rw [q0, q] at e; cases e
        | some cr =>
          rw [q0, q] at e
          cases e
          obtain ⟨fpa, fp0, k1, k2, k3, k4, k5, k6, k7⟩ := lend w h3 d nd.2 q
          have qi : (lendE ρ as)[i]? = some (some c) := (lendE_out nd.1).trans q0
          obtain ⟨ov, f1, f2, p1, ⟨v', p2, p3⟩, dj, cv, put⟩ := k2.focus qi
          subst p2
          rw [h2] at p1
          cases p1
          have e1 : σ.set i (some v) = σ := by
            apply List.ext_getElem?
            intro j
            by_cases hj : i = j
            · subst hj; rw [h2]; exact List.getElem?_set_self (List.getElem?_eq_some_iff.mp h2).1
            · exact List.getElem?_set_ne hj
          have re := put none (some v) F H (fun _ => False) (Same.refl _) (fun _ _ => ⟨rfl, rfl⟩) (fun _ z => z) (fun _ z => z.elim)
          rw [e1] at re
          refine ⟨fun a => f1 a ∨ fpa a, fun a => False ∨ f2 a, ?_, re, fun a z y => ?_, fun a z => ?_, fun a z => ?_, fun a z => ?_, fun a z => .inr (k7 a z)⟩
          · simp only [Rcs]
            exact ⟨v, vr, f1, fpa, h1, p3, k1, fun a y u => k3 a u ((cv a).mpr (.inl y)), fun _ => Iff.rfl⟩
          · rcases y with y | y
            · exact y
            · rcases z with z | z
              · exact dj a z y
              · exact k3 a z ((cv a).mpr (.inr y))
          · rcases z with z | z
            · exact .inl (k5 a ((cv a).mpr (.inl z)))
            · exact k4 a z
          · rcases z with z | z
            · exact z.elim
            · exact k5 a ((cv a).mpr (.inr z))
          · rcases k6 a z with y | y
            · exact .inl (.inr y)
            · rcases (cv a).mp y with u | u
              · exact .inl (.inl u)
              · exact .inr (.inr u)
/-- what was lent comes back -/
theorem unlend : ∀ {as : List Arg} {vs : List V} {cs : List C} {fpa : AS} {ρ0 : Env}, Re0 K mg F H ρ0 σ fp0 → Rcs K mg F H cs vs fpa → (∀ a, fpa a → ¬ fp0 a) → (lent as).Nodup → (∀ i ∈ lent as, ρ0[i]? = some none) →
    (∀ F1 H1 fv, Ras K mg F1 H1 σ as vs fv → True) → (∃ F1 H1 fv, Ras K mg F1 H1 σ as vs fv) → ∃ fp', Re0 K mg F H (backE as cs ρ0) σ fp' ∧ ∀ a, fp' a → fp0 a ∨ fpa a
  | [], vs, cs, fpa, ρ0, w, r, d, nd, hn, _, _ => by
    simp only [backE]
    exact ⟨fp0, w, fun _ z => .inl z⟩
  | .c c :: as, vs, cs, fpa, ρ0, w, r, d, nd, hn, t, ⟨F1, H1, fv, h⟩ => by
    obtain ⟨v, vr, f1, f2, h1, h2, h3, h4, h5⟩ := h
    subst h1
    cases cs with
    | nil => simp only [Rcs] at r; exact nomatch r.1
    | cons c' cr =>
      simp only [Rcs] at r
      obtain ⟨v', vr', g1, g2, e1, r1, r2, dj, cv⟩ := r
      cases e1
      simp only [backE]
      obtain ⟨fp', k1, k2⟩ := unlend (as := as) w r2 (fun a z => d a ((cv a).mpr (.inr z))) nd hn (fun _ _ _ _ => trivial) ⟨F1, H1, f2, h3⟩
      exact ⟨fp', k1, fun a z => (k2 a z).imp id fun u => (cv a).mpr (.inr u)⟩
  | .s i :: as, vs, cs, fpa, ρ0, w, r, d, nd, hn, t, ⟨F1, H1, fv, h⟩ => by
    obtain ⟨v, vr, h1, h2, h3⟩ := h
    subst h1
    simp only [lent, List.nodup_cons] at nd
    cases cs with
    | nil => simp only [Rcs] at r; exact nomatch r.1
    | cons c' cr =>
      simp only [Rcs] at r
      obtain ⟨v', vr', g1, g2, e1, r1, r2, dj, cv⟩ := r
      cases e1
      simp only [backE]
      obtain ⟨fp', k1, k2⟩ := unlend (as := as) w r2 (fun a z => d a ((cv a).mpr (.inr z))) nd.2 (fun j hj => hn j (by simp [lent, hj])) (fun _ _ _ _ => trivial) ⟨F1, H1, fv, h3⟩
      have hb : ∀ {as : List Arg} {cs : List C} {ρ0 : Env}, i ∉ lent as → (backE as cs ρ0)[i]? = ρ0[i]? := fun {as} => by
        induction as with
        | nil => intro cs ρ0 _; simp [backE]
        | cons a as ih =>
          intro cs ρ0 hi
          cases a with
          | c c =>
            cases cs with
            | nil => simp [backE]
            | cons c' cs => simp only [backE]; exact ih hi
          | s j =>
            simp only [lent, List.mem_cons, not_or] at hi
            cases cs with
            | nil => simp [backE]
            | cons c' cs =>
              simp only [backE]
              rw [List.getElem?_set_ne (Ne.symm hi.1)]
              exact ih hi.2
      have qi : (backE as cr ρ0)[i]? = some none := (hb nd.1).trans (hn i (by simp [lent]))
      obtain ⟨ov, f1, f2, p1, p2, dj2, cv2, put⟩ := k1.focus qi
      have e1 : σ.set i (some v) = σ := by
        apply List.ext_getElem?
        intro j
        by_cases hj : i = j
        · subst hj; rw [h2]; exact List.getElem?_set_self (List.getElem?_eq_some_iff.mp h2).1
        · exact List.getElem?_set_ne hj
      have re := put (some c') (some v) F H g1 (Same.refl _) (fun _ _ => ⟨rfl, rfl⟩) ⟨v, rfl, r1⟩ (fun a z y => (k2 a ((cv2 a).mpr (.inr y))).elim (d a ((cv a).mpr (.inl z))) (dj a z))
      rw [e1] at re
      refine ⟨_, re, fun a z => ?_⟩
      rcases z with z | z
      · exact .inr ((cv a).mpr (.inl z))
      · exact (k2 a ((cv2 a).mpr (.inr z))).imp id fun u => (cv a).mpr (.inr u)
theorem lendR {as : List Arg} {vs : List V} {fv : AS} {cs : List C} (w : Re K mg F H ρ σ fp) (r : Ras K mg F H σ as vs fv) (d : ∀ a, fv a → ¬ fp a) (nd : (lent as).Nodup) (e : conts ρ as = some cs) :
    ∃ fpa fp0, Rct K mg F H cs vs fpa ∧ Re0 K mg F H (lendE ρ as) σ fp0 ∧ (∀ a, fpa a → ¬ fp0 a) ∧ (∀ a, fpa a → fp a ∨ fv a) ∧ (∀ a, fp0 a → fp a) ∧ (∀ a, fp a → fpa a ∨ fp0 a) ∧ ∀ a, fv a → fpa a := by
  obtain ⟨f1, f2, h1, h2, h3, h4⟩ := w
  obtain ⟨fpa, fp0, k1, k2, k3, k4, k5, k6, k7⟩ := lend h1 r (fun a z y => d a z ((h4 a).mpr (.inl y))) nd e
  refine ⟨fun a => fpa a ∨ f2 a, fp0, ⟨fpa, f2, k1, h2, fun a z y => ?_, fun _ => Iff.rfl⟩, k2, fun a z y => ?_, fun a z => ?_, fun a z => (h4 a).mpr (.inl (k5 a z)), fun a z => ?_, fun a z => .inl (k7 a z)⟩
  · rcases k4 a z with u | u
    · exact h3 a u y
    · exact d a u ((h4 a).mpr (.inr y))
  · rcases z with z | z
    · exact k3 a z y
    · exact h3 a (k5 a y) z
  · rcases z with z | z
    · exact (k4 a z).imp (fun u => (h4 a).mpr (.inl u)) id
    · exact .inl ((h4 a).mpr (.inr z))
  · rcases (h4 a).mp z with u | u
    · exact (k6 a u).imp .inl id
    · exact .inl (.inr u)
theorem unlendR {as : List Arg} {vs : List V} {cs : List C} {fpa : AS} {ρ0 : Env} (w : Re0 K mg F H ρ0 σ fp0) (r : Rct K mg F H cs vs fpa) (d : ∀ a, fpa a → ¬ fp0 a) (nd : (lent as).Nodup) (hn : ∀ i ∈ lent as, ρ0[i]? = some none)
    (hx : ∃ F1 H1 fv, Ras K mg F1 H1 σ as vs fv) : ∃ fp', Re K mg F H (backE as cs ρ0) σ fp' ∧ ∀ a, fp' a → fp0 a ∨ fpa a := by
  obtain ⟨f1, f2, h1, h2, h3, h4⟩ := r
  obtain ⟨fp', k1, k2⟩ := unlend w h1 (fun a z y => d a ((h4 a).mpr (.inl z)) y) nd hn (fun _ _ _ _ => trivial) hx
  refine ⟨fun a => fp' a ∨ f2 a, ⟨fp', f2, k1, h2, fun a z y => ?_, fun _ => Iff.rfl⟩, fun a z => ?_⟩
  · rcases k2 a z with u | u
    · exact d a ((h4 a).mpr (.inr y)) u
    · exact h3 a u y
  · rcases z with z | z
    · exact (k2 a z).imp id fun u => (h4 a).mpr (.inl u)
    · exact .inr ((h4 a).mpr (.inr z))
theorem lendE_at : ∀ {as : List Arg} {i : Nat}, i ∈ lent as → i < ρ.length → (lendE ρ as)[i]? = some none
  | [], i, h, hl => nomatch h
  | .c c :: as, i, h, hl => lendE_at (as := as) h hl
  | .s j :: as, i, h, hl => by
    simp only [lendE]
    by_cases e : j = i
    · subst e; exact List.getElem?_set_self (by rw [lendE_length]; exact hl)
    · rw [List.getElem?_set_ne e]
      simp only [lent, List.mem_cons] at h
      exact lendE_at (h.resolve_left (Ne.symm e)) hl
theorem conts_lt : ∀ {as : List Arg} {cs : List C}, conts ρ as = some cs → ∀ i ∈ lent as, i < ρ.length
  | [], cs, e, i, h => nomatch h
  | .c c :: as, cs, e, i, h => by
    simp only [conts] at e
    cases q : conts ρ as with
    | none => rw [q] at e; cases e
    | some cr => exact conts_lt q i h
  | .s j :: as, cs, e, i, h => by
    simp only [conts] at e
    cases q0 : ρ[j]? with
    | none => rw [q0] at e; cases e
    | some oc =>
      cases q : conts ρ as with
      | none => rw [q0, q] at e; cases oc <;> cases e
      | some cr =>
        simp only [lent, List.mem_cons] at h
        rcases h with h | h
        · subst h; exact (List.getElem?_eq_some_iff.mp q0).1
        · exact conts_lt q i h

/-! ### the call -/
def gCallF (f : Fn) (g : G (List Arg)) : G C := G.bind g fun as ρ => if decide (lent as).Nodup = true then
  match conts ρ as with
  | some cs => match f cs with
    | .ok r cs' => .ok r (backE as cs' (lendE ρ as))
    | .ex x cs' => .ex x (backE as cs' (lendE ρ as))
    | .bad => .bad
  | none => .bad
  else .bad
theorem gCall_ok {n : Nat} {f : Fn} {g : G (List Arg)} (hn : ∀ ρ as ρ', g ρ = .ok as ρ' → as.length = n) {Q : VK} (h : tE K mg W (gCallF f g) σ H Q) : tCallS (SpOf K mg n f) (WE W) (tAs K mg W g) σ H Q := by
  obtain ⟨ρ, fp, F, w, h⟩ := h
  unfold gCallF G.bind at h
  refine asRun w Chg.refl ?_
  cases q : g ρ with
  | bad => rw [q] at h; exact h
  | ex x ρ' => rw [q] at h; exact h
  | ok as ρ1 =>
    rw [q] at h
    simp only [R.bind_ok] at h
    intro vs F1 H1 fp1 fv1 w1 r1 d1 _ c1
    by_cases nd : (lent as).Nodup
    · rw [if_pos (decide_eq_true nd)] at h
      cases qc : conts ρ1 as with
      | none => rw [qc] at h; exact h.elim
      | some cs =>
        rw [qc] at h
        simp only at h
        obtain ⟨fpa, fp0, k1, k2, k3, k4, k5, k6, k7⟩ := lendR w1.re r1 d1 nd qc
        have hl : vs.length = n := by
          have : ∀ {as : List Arg} {vs : List V} {fv : AS}, Ras K mg F1 H1 σ as vs fv → vs.length = as.length := fun {as} => by
            induction as with
            | nil => intro vs fv r; rw [r.1]; rfl
            | cons a as ih =>
              intro vs fv r
              cases a with
              | c c => obtain ⟨v, vr, f1, f2, h1, h2, h3, h4, h5⟩ := r; rw [h1]; simp [ih h3]
              | s j => obtain ⟨v, vr, h1, h2, h3⟩ := r; rw [h1]; simp [ih h3]
          rw [this r1]; exact hn ρ as ρ1 q
        have lt := conts_lt qc
        -- what stood beside the arguments stays
        have back : ∀ {F2 H2 : Hp} {cs' : List C} {fp' fv' : AS}, Same F2 H2 → Rct K mg F2 H2 cs' vs fp' → (∀ a, fv' a → ¬ fp' a) → Chg fpa F1 H1 (fun a => fp' a ∨ fv' a) F2 H2 →
            ∃ fp2, Wd K mg F2 H2 (backE as cs' (lendE ρ1 as)) fp2 σ ∧ (∀ a, fp2 a → fp0 a ∨ fp' a) ∧ (∀ a, fv' a → ¬ fp2 a) ∧ Chg fp F H (fun a => fp2 a ∨ fv' a) F2 H2 := fun {F2 H2 cs' fp' fv'} s2 r2 d2 c2 => by
          obtain ⟨n1, n2⟩ := c2.aside (fv := fp0) (fun a z => (Re0.own k2 a z).2) fun a z y => k3 a y z
          have re0 := k2.frame c2.fz n1
          obtain ⟨fp2, e1, e2⟩ := unlendR (as := as) re0 r2 (fun a z y => n2 a y (.inl z)) nd (fun i hi => lendE_at hi (lt i hi)) ⟨F1, H1, fv1, r1⟩
          refine ⟨fp2, ⟨s2, e1⟩, e2, fun a z y => (e2 a y).elim (fun u => n2 a u (.inr z)) (d2 a z), ?_⟩
          have c2' : Chg (fun a => fp1 a ∨ fv1 a) F1 H1 (fun a => fp2 a ∨ fv' a) F2 H2 := ⟨c2.fz, fun a o nn e => c2.kp a o (fun u => nn (k4 a u)) e, fun a nn e => c2.fn a (fun u => nn (k4 a u)) e, fun a z => ?_⟩
          · exact c1.trans c2'
          · rcases z with z | z
            · rcases e2 a z with u | u
              · exact .inl (.inl (k5 a u))
              · exact (c2.nw a (.inl u)).imp (k4 a) id
            · exact (c2.nw a (.inr z)).imp (k4 a) id
        refine ⟨F1, cs, fpa, hl, w1.sub, k1, ?_⟩
        cases qf : f cs with
        | bad => rw [qf] at h; exact h.elim
        | ex x cs' =>
          rw [qf] at h
          intro cls dd F2 H2 fp' s2 r2 c2 xr
          obtain ⟨fp2, w2, _, _, c⟩ := back (fv' := fun _ => False) s2 r2 (fun _ z => z.elim) c2.or_false
          exact h cls dd F2 H2 fp2 w2 (c.to fun a => .inl) xr
        | ok r cs' =>
          rw [qf] at h
          intro v F2 H2 fp' fv' s2 r2 rv d2 c2
          obtain ⟨fp2, w2, _, d3, c⟩ := back s2 r2 d2 c2
          exact h v F2 H2 fp2 fv' w2 rv d3 c
    · rw [if_neg (by simpa using nd)] at h
      exact h.elim
theorem gAs_length : ∀ {gs : List (G Arg)} {ρ ρ' : Env} {cs : List Arg}, gAs gs ρ = .ok cs ρ' → cs.length = gs.length
  | [], ρ, ρ', cs, h => by
    simp only [gAs, G.ret] at h
    cases h; rfl
  | g :: gs, ρ, ρ', cs, h => by
    simp only [gAs, G.bind] at h
    cases q : g ρ with
    | bad => rw [q] at h; cases h
    | ex x ρ1 => rw [q] at h; cases h
    | ok c ρ1 =>
      rw [q] at h
      simp only [R.bind_ok, G.bind_at] at h
      cases q2 : gAs gs ρ1 with
      | bad => rw [q2] at h; cases h
      | ex x ρ2 => rw [q2] at h; cases h
      | ok cr ρ2 =>
        rw [q2] at h
        simp only [R.bind_ok, G.ret] at h
        cases h
        simp [gAs_length q2]
/-- a def as its callers know it -/
structure Cal (Pg : Program) (w : World) (K : Frag) (mg : Str → Option Value) (base : Heap) (x : Str) (n k : Nat) (fn : Fn) : Prop where
  ex : ∃ f fd ps, FnOk Pg w K mg base (L2N.CX Pg w) k f fd ps (SpOf K mg n fn) ∧ mg x = some (.ref f) ∧ PySem.W.keepIn K (.ref f) = true ∧ Binds K fd ps []
theorem e_call {x : Str} {k : Nat} {fn : Fn} {gs : List (G Arg)} {e : Expr} {es : List Expr} {p pos : Pos} (c : Cal X.prog X.w X.K X.mg X.base x gs.length k fn) (hr : Room k X.A) (tk : L2N.Takes X W) (hg : Gl X x) (ha : PA X (e :: es) (tAs X.K X.mg W (gAs gs)))
    (hdb : (x == ("__debug__" : Str)) = false := by decide) (he : starEach (e :: es) X.env = (false, eval e X.env) :: starEach es X.env := by rfl) (hpl : (backTo pos (starEach es X.env)).any (·.1) = false := by rfl) :
    PE X (.Call (.Name x p) (e :: es) [] pos) (tE X.K X.mg W (gCallF fn (gAs gs))) := by
  obtain ⟨f, fd, ps, F, hm, hk, hb⟩ := c.ex
  exact (pe_callS F hr hg hm hk hb (fun σ => L2N.passAt tk σ) ha hdb he hpl).imp fun _ _ _ => gCall_ok fun _ _ _ e => gAs_length e

/-! ### a def -/
def startE (n : Nat) (cs : List C) : Env := cs.map some ++ List.replicate (n - cs.length) none
/-- what the arguments hold behind: those never stored to as they stand, the others were data -/
def backs : List Bool → List C → Env → Option (List C)
  | [], [], _ => some []
  | true :: bs, _ :: cs, some c' :: ρ => (backs bs cs ρ).map (c' :: ·)
  | false :: bs, .val d :: cs, _ :: ρ => (backs bs cs ρ).map (.val d :: ·)
  | _, _, _ => none
def fnOf (N : Nat) (bs : List Bool) (g : G Fl) : Fn := fun cs => match g (startE N cs) with
  | .ok .next ρ' => match backs bs cs ρ' with
    | some cs' => .ok (.val .none) cs'
    | none => .bad
  | .ok (.ret c) ρ' => match backs bs cs ρ' with
    | some cs' => .ok c cs'
    | none => .bad
  | .ex x ρ' => match backs bs cs ρ' with
    | some cs' => .ex x cs'
    | none => .bad
  | _ => .bad
theorem re_none (n : Nat) : ∀ {σ : St}, σ.length = n → Re0 K mg F H (List.replicate n none) σ (fun _ => False) := by
  induction n with
  | zero =>
    intro σ h
    exact ⟨List.eq_nil_of_length_eq_zero h, fun _ z => z⟩
  | succ n ih =>
    intro σ h
    cases σ with
    | nil => cases h
    | cons x σ => exact ⟨x, σ, rfl, ih (by simpa using h)⟩
theorem re_start : ∀ {cs : List C} {vs : List V} {fp : AS} {m : Nat} {σ : St}, Rcs K mg F H cs vs fp → σ.length = m → Re0 K mg F H (cs.map some ++ List.replicate m none) (vs.map some ++ σ) fp
  | [], vs, fp, m, σ, r, h => by
    simp only [Rcs] at r
    rw [r.1]
    exact (re_none m h).iff fun a => ⟨fun z => (r.2 a z).elim, fun z => z.elim⟩
  | c :: cs, vs, fp, m, σ, r, h => by
    simp only [Rcs] at r
    obtain ⟨v, vr, f1, f2, e1, r1, r2, dj, cv⟩ := r
    rw [e1]
    exact ⟨v, _, f1, f2, rfl, r1, re_start r2 h, dj, cv⟩
theorem backs_ok {F0 H0 : Hp} : ∀ {bs : List Bool} {cs cs' : List C} {vs : List V} {fp0 : AS} {ρ' : Env} {σ' : St} {fp' : AS}, Re0 K mg F H ρ' σ' fp' → Rcs K mg F0 H0 cs vs fp0 → Same F0 F → (∀ i : Nat, bs[i]? = some true → σ'[i]? = (vs.map some)[i]?) → backs bs cs ρ' = some cs' →
    ∃ fp2, Rcs K mg F H cs' vs fp2 ∧ ∀ a, fp2 a → fp' a
  | [], [], cs', vs, fp0, ρ', σ', fp', re, r, se, k, e => by
    simp only [backs, Option.some.injEq] at e
    subst e
    simp only [Rcs] at r
    exact ⟨fun _ => False, by simp only [Rcs]; exact ⟨r.1, fun _ z => z⟩, fun _ z => z.elim⟩
  | true :: bs, c :: cs, cs', vs, fp0, some c' :: ρ', σ', fp', re, r, se, k, e => by
    simp only [backs] at e
    simp only [Rcs] at r
    obtain ⟨v, vr, g1, g2, e1, r1, r2, dj, cv⟩ := r
    subst e1
    obtain ⟨v', σ2, f1, f2, e2, q1, q2, dj2, cv2⟩ := re
    subst e2
    have e0 := k 0 rfl
    simp only [List.map_cons, List.getElem?_cons_zero, Option.some.injEq] at e0
    subst e0
    cases q : backs bs cs ρ' with
    | none => rw [q] at e; cases e
    | some cr =>
      rw [q] at e
      cases e
      obtain ⟨fp2, k1, k2⟩ := backs_ok q2 r2 se (fun i hi => by simpa using k (i + 1) (by simpa using hi)) q
      refine ⟨fun a => f1 a ∨ fp2 a, ?_, fun a z => (cv2 a).mpr (z.imp id (k2 a))⟩
      simp only [Rcs]
      exact ⟨v', vr, f1, fp2, rfl, q1, k1, fun a z y => dj2 a z (k2 a y), fun _ => Iff.rfl⟩
  | false :: bs, .val d :: cs, cs', vs, fp0, oc :: ρ', σ', fp', re, r, se, k, e => by
    simp only [backs] at e
    simp only [Rcs, Rc] at r
    obtain ⟨v, vr, g1, g2, e1, r1, r2, dj, cv⟩ := r
    subst e1
    cases q : backs bs cs ρ' with
    | none => rw [q] at e; cases e
    | some cr =>
      rw [q] at e
      cases e
      have tail : ∃ x σ2 f2, σ' = x :: σ2 ∧ Re0 K mg F H ρ' σ2 f2 ∧ ∀ a, f2 a → fp' a := by
        cases oc with
        | none =>
          obtain ⟨x, σ2, e2, q2⟩ := re
          exact ⟨x, σ2, fp', e2, q2, fun _ z => z⟩
        | some c2 =>
          obtain ⟨v', σ2, f1, f2, e2, q1, q2, dj2, cv2⟩ := re
          exact ⟨_, σ2, f2, e2, q2, fun a z => (cv2 a).mpr (.inr z)⟩
      obtain ⟨x, σ2, f2, e2, q2, sub⟩ := tail
      subst e2
      obtain ⟨fp2, k1, k2⟩ := backs_ok q2 r2 se (fun i hi => by simpa using k (i + 1) (by simpa using hi)) q
      refine ⟨fp2, ?_, fun a z => sub a (k2 a z)⟩
      simp only [Rcs, Rc]
      exact ⟨v, vr, fun _ => False, fp2, rfl, ⟨r1.1.mono se, fun _ z => z⟩, k1, fun _ z => z.elim, fun a => by simp⟩
  | [], _ :: _, cs', vs, fp0, ρ', σ', fp', re, r, se, k, e => by simp [backs] at e
  | _ :: _, [], cs', vs, fp0, ρ', σ', fp', re, r, se, k, e => by cases ρ' <;> simp [backs] at e
  | true :: bs, c :: cs, cs', vs, fp0, [], σ', fp', re, r, se, k, e => by simp [backs] at e
  | true :: bs, c :: cs, cs', vs, fp0, none :: ρ', σ', fp', re, r, se, k, e => by simp [backs] at e
  | false :: bs, c :: cs, cs', vs, fp0, [], σ', fp', re, r, se, k, e => by cases c <;> simp [backs] at e
  | false :: bs, .tup _ :: cs, cs', vs, fp0, _ :: ρ', σ', fp', re, r, se, k, e => by simp [backs] at e
  | false :: bs, .lst _ :: cs, cs', vs, fp0, _ :: ρ', σ', fp', re, r, se, k, e => by simp [backs] at e
  | false :: bs, .dic _ _ :: cs, cs', vs, fp0, _ :: ρ', σ', fp', re, r, se, k, e => by simp [backs] at e
  | false :: bs, .obj _ _ _ :: cs, cs', vs, fp0, _ :: ρ', σ', fp', re, r, se, k, e => by simp [backs] at e
  | false :: bs, .ref _ :: cs, cs', vs, fp0, _ :: ρ', σ', fp', re, r, se, k, e => by simp [backs] at e
  | false :: bs, .lam _ _ _ :: cs, cs', vs, fp0, _ :: ρ', σ', fp', re, r, se, k, e => by simp [backs] at e
theorem re_startR {cs : List C} {vs : List V} {fp : AS} {m : Nat} {σ : St} (r : Rct K mg F H cs vs fp) (h : σ.length = m) : Re K mg F H (cs.map some ++ List.replicate m none) (vs.map some ++ σ) fp := by
  obtain ⟨f1, f2, h1, h2, h3, h4⟩ := r
  exact ⟨f1, f2, re_start h1 h, h2, h3, h4⟩
theorem backs_okR {F0 H0 : Hp} {bs : List Bool} {cs cs' : List C} {vs : List V} {fp0 : AS} {ρ' : Env} {σ' : St} {fp' : AS} (w : Re K mg F H ρ' σ' fp') (r : Rct K mg F0 H0 cs vs fp0) (se : Same F0 F) (k : ∀ i : Nat, bs[i]? = some true → σ'[i]? = (vs.map some)[i]?) (e : backs bs cs ρ' = some cs') :
    ∃ fp2, Rct K mg F H cs' vs fp2 ∧ ∀ a, fp2 a → fp' a := by
  obtain ⟨f1, f2, h1, h2, h3, h4⟩ := w
  obtain ⟨g1, g2, r1, r2, r3, r4⟩ := r
  obtain ⟨fp2, k1, k2⟩ := backs_ok h1 r1 se k e
  refine ⟨fun a => fp2 a ∨ f2 a, ⟨fp2, f2, k1, h2, fun a z y => h3 a (k2 a z) y, fun _ => Iff.rfl⟩, fun a z => (h4 a).mpr (z.imp (k2 a) id)⟩
section
variable {Pg : Program} {w : World} {base : Heap}
abbrev WDef (E : XK) : WX := fun cls d _ H => E cls d H
/-- the code object of the def at f -/
def CodeAt (K : Frag) (f : Addr) (cdv : Value) : Prop := ∃ (oc : Value) (od : Option Addr) (osl : Array (Option Value)) (fd : FuncData), K.lookup f = some ⟨oc, od, .func fd, osl⟩ ∧ fd.code = cdv
theorem okX2 {x qual : Str} {st : Stmt} {f : Addr} {fd : FuncData} {N ps : List Str} {k : Nat} {sp : Sp} (F : Fun K x qual st f fd) (S : FnScope N ps (defScope st)) (len : ∀ vs H Q E, sp vs H Q E → vs.length = ps.length)
    (hb : ∀ (cdv : Value) (hc : CodeAt K f cdv) (A : Around) (outer : List PySem.Env) (s : Shared) (H : Hp) (vs : List V) (Q : VK) (E : XK), Room k (A.deeper (PyProof.Rows.envOfC qual (defScope st) s.heap.objs.size f cdv)) → sp vs H Q E → ∃ t, PSs (cxOf (L2N.CX Pg w) Pg w K mg base N qual (defScope st) f cdv A outer s H E) (defBody st) t ∧ t { nx := fun _ H' => Q .non H', rt := Q } (L2.start N vs) H) :
    FnOk Pg w K mg base (L2N.CX Pg w) (k + 1) f fd ps sp := by
  obtain ⟨oc, od, kV, doc, pm, an, cdv, ct, osl, e, lk, hcd⟩ := F.ex
  subst e
  exact fn_of lk hcd S len fun A outer s H vs Q E hr hsp => hb cdv ⟨oc, od, osl, _, lk, rfl⟩ A outer s H vs Q E hr hsp
/-- THE DEF: its body's meaning -/
theorem fn_ok {x qual : Str} {st : Stmt} {f : Addr} {fd : FuncData} {N ps : List Str} {k : Nat} (Fn' : Fun K x qual st f fd) (S : FnScope N ps (defScope st)) (P : List Nat) (bs : List Bool) {g : G Fl} (hN : ps.length ≤ N.length := by decide) (hb : bs.length = ps.length := by rfl) (hP : ∀ i : Nat, bs[i]? = some true → i ∈ P)
    (hbody : ∀ (cdv : Value) (hc : CodeAt K f cdv) (A : Around) (outer : List PySem.Env) (s : Shared) (H : Hp) (E : XK), Room k (A.deeper (PyProof.Rows.envOfC qual (defScope st) s.heap.objs.size f cdv)) → PSs (cxOf (L2N.CX Pg w) Pg w K mg base N qual (defScope st) f cdv A outer s H E) (defBody st) (tS K mg (WDef E) P g)) :
    FnOk Pg w K mg base (L2N.CX Pg w) (k + 1) f fd ps (SpOf K mg ps.length (fnOf N.length bs g)) := by
  refine okX2 Fn' S (fun vs H Q E h => ?_) fun cdv hc A outer s H vs Q E hr h => ⟨_, hbody cdv hc A outer s H E hr, ?_⟩
  · obtain ⟨_, _, _, e, _⟩ := h
    exact e
  · obtain ⟨F, cs, fp, hl, sub, r, h⟩ := h
    have hlc : cs.length = ps.length := by obtain ⟨_, _, r1, _⟩ := r; rw [← Rcs.length r1, hl]
    refine ⟨startE N.length cs, fp, F, ⟨sub, ?_⟩, ?_⟩
    · unfold startE L2.start
      rw [hl]
      have : N.length - ps.length = N.length - cs.length := by rw [hlc]
      exact re_startR r (by rw [List.length_replicate, hlc])
    · unfold fnOf at h
      have keep : ∀ {σ' : St}, (∀ i ∈ P, σ'[i]? = (L2.start N vs)[i]?) → ∀ i : Nat, bs[i]? = some true → σ'[i]? = (vs.map some)[i]? := fun {σ'} k i hi => by
        rw [k i (hP i hi)]
        unfold L2.start
        have : i < (vs.map some).length := by
          rw [List.length_map, hl, ← hb]
          exact (List.getElem?_eq_some_iff.mp hi).1
        exact List.getElem?_append_left this
      cases q : g (startE N.length cs) with
      | bad => rw [q] at h; exact h
      | ex x ρ' =>
        rw [q] at h
        simp only at h
        cases z : backs bs cs ρ' with
        | none => rw [z] at h; exact h.elim
        | some cs' =>
          rw [z] at h
          intro cls dd σ' F' H' fp' w' c' k' xr
          obtain ⟨fp2, r2, k2⟩ := backs_okR w'.re r c'.fz (keep k') z
          exact h cls dd F' H' fp2 w'.sub r2 (c'.to k2) xr
      | ok fl ρ' =>
        rw [q] at h
        cases fl with
        | brk => exact h.elim
        | cont => exact h.elim
        | next =>
          simp only at h
          cases z : backs bs cs ρ' with
          | none => rw [z] at h; exact h.elim
          | some cs' =>
            rw [z] at h
            intro σ' F' H' fp' w' c' k'
            obtain ⟨fp2, r2, k2⟩ := backs_okR w'.re r c'.fz (keep k') z
            exact h .non F' H' fp2 (fun _ => False) w'.sub r2 (Rc.of_dp .non) (fun _ z => z.elim) ((c'.to k2).or_false)
        | ret c =>
          simp only at h
          cases z : backs bs cs ρ' with
          | none => rw [z] at h; exact h.elim
          | some cs' =>
            rw [z] at h
            intro v σ' F' H' fp' fv w' rv d' c' k'
            obtain ⟨fp2, r2, k2⟩ := backs_okR w'.re r c'.fz (keep k') z
            exact h v F' H' fp2 fv w'.sub r2 rv (fun a u y => d' a u (k2 a y)) (c'.to fun a u => u.imp (k2 a) id)
end
end
end Nd

/-! Nd9: kinds, lengths, items, slices, new lists, sorting of texts; append, x[i] = v; zip, enumerate. -/
namespace Nd
open PySem L2
/-! ### isinstance -/
inductive Ty where
  | int | bool | str | tuple | list
def Ty.name : Ty → String
  | .int => "int"
  | .bool => "bool"
  | .str => "str"
  | .tuple => "tuple"
  | .list => "list"
def tyN : PyData → String
  | .none => "NoneType"
  | .bool _ => "bool"
  | .int _ => "int"
  | .str _ => "str"
  | .list _ => "list"
  | .tuple _ => "tuple"
  | .dict _ => "dict"
def isTy : Ty → PyData → Bool
  | .int, .int _ => true
  | .int, .bool _ => true
  | .bool, .bool _ => true
  | .str, .str _ => true
  | .tuple, .tuple _ => true
  | .list, .list _ => true
  | _, _ => false
section
variable [TF] {X : Cx} {K : Frag} {mg : Str → Option Value} {W : WX} {P : List Nat} {F H F0 H0 : Hp} {ρ : Env} {fp fp0 : AS} {σ σ0 : St} {v : V}
theorem Sh.tyx {d : PyData} (s : Same F H) (h : Sh K F H v d) : TyX K H v (.type (tyN d)) := by
  cases d with
  | none => rw [h.non]; exact .base .non
  | bool b => rw [h.bl]; exact .base (.bl b)
  | int i => rw [h.int]; exact .base (.int i)
  | str x => rw [h.str.1]; exact .base (.str x)
  | list ds =>
    obtain ⟨a, vs, e, q, r⟩ := h.list s
    rw [e]
    rcases q with (q | ⟨o, q⟩) | ⟨o, its, n, q, c, _⟩
    · exact .base (.lst q)
    · exact .base (.frz q)
    · exact .kList q c
  | tuple ds =>
    obtain ⟨a, vs, e, _, q, r⟩ := h.tup s
    rw [e]
    rcases q with (q | ⟨o, q⟩) | ⟨o, its, n, q, c, _⟩
    · exact .base (.tup q)
    · exact .fTuple q
    · exact .kTuple q c
  | dict kvs =>
    rcases h with h | ⟨a, vs, ds', e1, e, e2, e3⟩
    · cases h.1
    · cases e
theorem kit_is {d : PyData} {t : Ty} (h : ∀ kvs, d ≠ .dict kvs) : PySem.W.kitOne K (.type (tyN d)) (.type t.name) = some (isTy t d) := by
  refine kit_ty ?_
  cases d with
  | dict kvs => exact (h kvs rfl).elim
  | none => cases t <;> (show kitB _ _ = some _; decide +kernel)
  | bool b => cases t <;> (show kitB "bool" _ = some _; simp only [Ty.name, isTy]; decide +kernel)
  | int b => cases t <;> (show kitB "int" _ = some _; simp only [Ty.name, isTy]; decide +kernel)
  | str b => cases t <;> (show kitB "str" _ = some _; simp only [Ty.name, isTy]; decide +kernel)
  | list b => cases t <;> (show kitB "list" _ = some _; simp only [Ty.name, isTy]; decide +kernel)
  | tuple b => cases t <;> (show kitB "tuple" _ = some _; simp only [Ty.name, isTy]; decide +kernel)
theorem Sh.nodict {d : PyData} (h : Sh K F H v d) : ∀ kvs, d ≠ .dict kvs := fun kvs e => by
  subst e
  rcases h with h | ⟨a, vs, ds', e1, e, e2, e3⟩
  · cases h.1
  · cases e
/-- a question about an operand -/
def gAsk (p : PyData → Bool) (g : G Op) : G C := G.bind g fun o ρ => match deref ρ o with
  | some d => .ok (.val (.bool (p d))) ρ
  | none => .bad
theorem ask_ok {p : PyData → Bool} {g : G Op} {Q : VK} (h : tE K mg W (gAsk p g) σ H Q) : tO K mg W g σ H fun x H1 => ∃ ρ fp F d, Wd K mg F H1 ρ fp σ ∧ Sh K F H1 x d ∧ ∀ F' H' , Frs F H1 F' H' → Q (.bl (p d)) H' := by
  obtain ⟨ρ, fp, F, w, h⟩ := h
  unfold gAsk G.bind at h
  refine oRun w Chg.refl ?_
  cases q : g ρ with
  | bad => rw [q] at h; exact h.elim
  | ex x ρ' => rw [q] at h; exact h
  | ok o ρ1 =>
    rw [q] at h
    simp only [R.bind_ok] at h
    intro v F1 H1 fp1 w1 r1 s1 c1
    cases z : deref ρ1 o with
    | none => rw [z] at h; exact h.elim
    | some d =>
      rw [z] at h
      exact ⟨ρ1, fp1, F1, d, w1, deref_sh w1 r1 z, fun F' H' x => h _ F' H' fp1 _ (w1.frs x) (Rc.of_dp (.bl _)) (fun _ z => z.elim) (c1.trans x.chg).or_false⟩
variable {e : Expr} {es : List Expr} {p pos p1 p2 : Pos} {x : Str}
theorem e_isi (t : Ty) {g : G Op} {T : Str} (hg : Gl X "isinstance") (hm : X.mg "isinstance" = none) (ha : PE X e (tO X.K mg W g)) (hT : PE X (.Name T p2) (tC (.ty t.name)))
    (he : starEach [e, .Name T p2] X.env = (false, eval e X.env) :: starEach [.Name T p2] X.env := by rfl) (he2 : starEach [.Name T p2] X.env = (false, eval (.Name T p2) X.env) :: starEach [] X.env := by rfl) (hpl : (backTo pos (starEach [.Name T p2] X.env)).any (·.1) = false := by rfl) :
    PE X (.Call (.Name "isinstance" p1) [e, .Name T p2] [] pos) (tE X.K mg W (gAsk (isTy t) g)) :=
  (pe_callB call_isi hg hm PyProof.Rows.boot_isinstance (pa_cons ha (pa_cons hT pa_nil he2) he) (he := he) (hpl := hpl)).imp fun σ H Q h =>
    tO_mono (fun v H1 ⟨ρ, fp, F, d, w, sh, k⟩ => ⟨_, _, _, _, _, rfl, .ty _, sh.tyx w.sub, kit_is sh.nodict, k F H1 (Frs.refl w.sub)⟩) (ask_ok h)
/-- isinstance(x, (T1, T2)) -/
theorem e_isi2 (t t' : Ty) {g : G Op} {T T' : Str} {k3 : Nat} {p3 p4 : Pos} (hg : Gl X "isinstance") (hm : X.mg "isinstance" = none) (ha : PE X e (tO X.K mg W g)) (hT : PE X (.Name T p2) (tC (.ty t.name))) (hT' : PE X (.Name T' p3) (tC (.ty t'.name)))
    (he : starEach [e, .Tuple [.Name T p2, .Name T' p3] k3 p4] X.env = (false, eval e X.env) :: starEach [.Tuple [.Name T p2, .Name T' p3] k3 p4] X.env := by rfl)
    (he2 : starEach [.Tuple [.Name T p2, .Name T' p3] k3 p4] X.env = (false, eval (.Tuple [.Name T p2, .Name T' p3] k3 p4) X.env) :: starEach [] X.env := by rfl)
    (he3 : starEach [.Name T p2, .Name T' p3] X.env = (false, eval (.Name T p2) X.env) :: starEach [.Name T' p3] X.env := by rfl) (he4 : starEach [.Name T' p3] X.env = (false, eval (.Name T' p3) X.env) :: starEach [] X.env := by rfl)
    (hpl : (backTo pos (starEach [.Tuple [.Name T p2, .Name T' p3] k3 p4] X.env)).any (·.1) = false := by rfl) :
    PE X (.Call (.Name "isinstance" p1) [e, .Tuple [.Name T p2, .Name T' p3] k3 p4] [] pos) (tE X.K mg W (gAsk (fun d => isTy t d || isTy t' d) g)) :=
  (pe_callB call_isiT hg hm PyProof.Rows.boot_isinstance (pa_cons ha (pa_cons (pe_tup (pa_cons hT (pa_cons hT' pa_nil he4) he3)) pa_nil he2) he) (he := he) (hpl := hpl)).imp fun σ H Q h =>
    tO_mono (fun v H1 ⟨ρ, fp, F, d, w, sh, k⟩ => by
      refine ⟨by show 2 ≤ sizeLine; decide, fun q hq => ?_⟩
      have x := Frs.new (p := q) (o := .tup [V.ty t.name, V.ty t'.name]) w.sub hq
      refine ⟨_, q, _, _, [.type t.name, .type t'.name], _, rfl, upd_same, .cons (.ty _) (.cons (.ty _) .nil), (sh.frs x).tyx x.sub, ?_, k F _ x⟩
      refine kitAny_cons (kit_is sh.nodict) (fun h1 => kitAny_cons (kit_is sh.nodict) (fun h2 => ?_) fun h2 => ?_) fun h1 => by rw [h1]; rfl
      · rw [h1, h2]; exact kitAny_nil
      · rw [h1, h2]; rfl) (ask_ok h)

/-! ### len, list, tuple -/
def lenD : List PyData → Option C
  | [.list ds] => some (.val (.int ds.length))
  | [.tuple ds] => some (.val (.int ds.length))
  | [.str z] => if lenOk z.length = true then some (.val (.int z.length)) else none
  | _ => none
theorem Shs.one {vs : List V} {d : PyData} (h : Shs K F H vs [d]) : ∃ v, vs = [v] ∧ Sh K F H v d := by
  cases vs with
  | nil => cases h
  | cons v vs =>
    obtain ⟨d', r, e1, e2, e3⟩ := h
    cases e1
    cases vs with
    | nil => exact ⟨v, rfl, e2⟩
    | cons _ _ => obtain ⟨_, _, e1, _⟩ := e3; cases e1
theorem Shs.two {vs : List V} {d d' : PyData} (h : Shs K F H vs [d, d']) : ∃ v v', vs = [v, v'] ∧ Sh K F H v d ∧ Sh K F H v' d' := by
  cases vs with
  | nil => cases h
  | cons v vs =>
    obtain ⟨d1, r, e1, e2, e3⟩ := h
    cases e1
    obtain ⟨v', rfl, e4⟩ := Shs.one e3
    exact ⟨v, v', rfl, e2, e4⟩
theorem c_len : CallR X (.builtin "len") (rN X.K mg lenD) := by
  intro pins s σ H xs us Q I r h
  obtain ⟨F, ds, c, sub, sh, e, post⟩ := h
  unfold lenD at e
  split at e
  · cases e
    obtain ⟨v, rfl, s1⟩ := sh.one
    obtain ⟨a, vs, e1, q1, r1⟩ := s1.list sub
    refine call_len_seq pins s σ H _ us Q I r ⟨a, vs, by rw [e1], .inl q1, ?_⟩
    rw [r1.length]
    exact post.val sub (.int _)
  · cases e
    obtain ⟨v, rfl, s1⟩ := sh.one
    obtain ⟨a, vs, e1, q0, q1, r1⟩ := s1.tup sub
    refine call_len_seq pins s σ H _ us Q I r ⟨a, vs, by rw [e1], .inr q1, ?_⟩
    rw [r1.length]
    exact post.val sub (.int _)
  · rename_i z
    split at e
    · rename_i hl
      cases e
      obtain ⟨v, rfl, s1⟩ := sh.one
      exact call_len_str pins s σ H _ us Q I r ⟨z, by rw [s1.str.1], of_decide_eq_true hl, post.val sub (.int _)⟩
    · cases e
  · cases e
def listD : List PyData → Option C
  | [.list ds] => some (mkL ds)
  | [.tuple ds] => some (mkL ds)
  | _ => none
theorem c_list : CallR X (.type "list") (rN X.K mg listD) := by
  intro pins s σ H xs us Q I r h
  obtain ⟨F, ds, c, sub, sh, e, post⟩ := h
  unfold listD at e
  split at e
  · cases e
    obtain ⟨v, rfl, s1⟩ := sh.one
    obtain ⟨a, vs, e1, q1, r1⟩ := s1.list sub
    exact call_list_of pins s σ H _ us Q I r ⟨a, vs, by rw [e1], .inl q1, fun l hl => post.lst sub r1 hl⟩
  · cases e
    obtain ⟨v, rfl, s1⟩ := sh.one
    obtain ⟨a, vs, e1, q0, q1, r1⟩ := s1.tup sub
    exact call_list_of pins s σ H _ us Q I r ⟨a, vs, by rw [e1], .inr q1, fun l hl => post.lst sub r1 hl⟩
  · cases e
def tupleD : List PyData → Option C
  | [.list ds] => some (.val (.tuple ds))
  | [.tuple ds] => some (.val (.tuple ds))
  | _ => none
theorem c_tuple : CallR X (.type "tuple") (rN X.K mg tupleD) := by
  intro pins s σ H xs us Q I r h
  obtain ⟨F, ds, c, sub, sh, e, post⟩ := h
  unfold tupleD at e
  split at e
  · cases e
    obtain ⟨v, rfl, s1⟩ := sh.one
    obtain ⟨a, vs, e1, q1, r1⟩ := s1.list sub
    exact call_tupleN pins s σ H _ us Q I r ⟨a, vs, by rw [e1], .inl ⟨q1, fun l o hl dn => post.tup sub r1 hl dn⟩⟩
  · cases e
    obtain ⟨v, rfl, s1⟩ := sh.one
    obtain ⟨a, vs, e1, q0, q1, r1⟩ := s1.tup sub
    exact call_tupleN pins s σ H _ us Q I r ⟨a, vs, by rw [e1], .inr ⟨q1, post.val sub (.tup q0 r1)⟩⟩
  · cases e
def allInts : List PyData → Option (List Int)
  | [] => some []
  | .int i :: r => (allInts r).map (i :: ·)
  | _ => none
def allBools : List PyData → Option (List Bool)
  | [] => some []
  | .bool i :: r => (allBools r).map (i :: ·)
  | _ => none
def allStrs : List PyData → Option (List Str)
  | [] => some []
  | .str i :: r => (allStrs r).map (i :: ·)
  | _ => none
theorem allInts_eq : ∀ {ds : List PyData} {ns : List Int}, allInts ds = some ns → ds = ns.map .int
  | [], ns, h => by simp [allInts] at h; subst h; rfl
  | .int i :: r, ns, h => by
    simp only [allInts] at h
    cases q : allInts r with
    | none => rw [q] at h; cases h
    | some m => rw [q] at h; cases h; rw [allInts_eq q]; rfl
  | .none :: _, ns, h => by simp [allInts] at h
  | .bool _ :: _, ns, h => by simp [allInts] at h
  | .str _ :: _, ns, h => by simp [allInts] at h
  | .list _ :: _, ns, h => by simp [allInts] at h
  | .tuple _ :: _, ns, h => by simp [allInts] at h
  | .dict _ :: _, ns, h => by simp [allInts] at h
theorem allBools_eq : ∀ {ds : List PyData} {ns : List Bool}, allBools ds = some ns → ds = ns.map .bool
  | [], ns, h => by simp [allBools] at h; subst h; rfl
  | .bool i :: r, ns, h => by
    simp only [allBools] at h
    cases q : allBools r with
    | none => rw [q] at h; cases h
    | some m => rw [q] at h; cases h; rw [allBools_eq q]; rfl
  | .none :: _, ns, h => by simp [allBools] at h
  | .int _ :: _, ns, h => by simp [allBools] at h
  | .str _ :: _, ns, h => by simp [allBools] at h
  | .list _ :: _, ns, h => by simp [allBools] at h
  | .tuple _ :: _, ns, h => by simp [allBools] at h
  | .dict _ :: _, ns, h => by simp [allBools] at h
theorem allStrs_eq : ∀ {ds : List PyData} {ns : List Str}, allStrs ds = some ns → ds = ns.map .str
  | [], ns, h => by simp [allStrs] at h; subst h; rfl
  | .str i :: r, ns, h => by
    simp only [allStrs] at h
    cases q : allStrs r with
    | none => rw [q] at h; cases h
    | some m => rw [q] at h; cases h; rw [allStrs_eq q]; rfl
  | .none :: _, ns, h => by simp [allStrs] at h
  | .int _ :: _, ns, h => by simp [allStrs] at h
  | .bool _ :: _, ns, h => by simp [allStrs] at h
  | .list _ :: _, ns, h => by simp [allStrs] at h
  | .tuple _ :: _, ns, h => by simp [allStrs] at h
  | .dict _ :: _, ns, h => by simp [allStrs] at h
theorem allInts_map (ns : List Int) : allInts (ns.map .int) = some ns := by
  induction ns with
  | nil => rfl
  | cons n r ih => simp [allInts, ih]
theorem allBools_map (ns : List Bool) : allBools (ns.map .bool) = some ns := by
  induction ns with
  | nil => rfl
  | cons n r ih => simp [allBools, ih]
theorem allStrs_map (ns : List Str) : allStrs (ns.map .str) = some ns := by
  induction ns with
  | nil => rfl
  | cons n r ih => simp [allStrs, ih]
theorem DqAll.ints : ∀ {ns : List Int} {vs : List V}, DqAll K F vs (ns.map .int) → vs = ns.map V.int
  | [], vs, h => by cases h.1; rfl
  | n :: ns, vs, ⟨h, l⟩ => by
    cases h with
    | cons a b =>
      cases a
      rw [DqAll.ints ⟨b, (lay_cons.mp l).2⟩]
      rfl
theorem DqAll.bls : ∀ {ns : List Bool} {vs : List V}, DqAll K F vs (ns.map .bool) → vs = ns.map V.bl
  | [], vs, h => by cases h.1; rfl
  | n :: ns, vs, ⟨h, l⟩ => by
    cases h with
    | cons a b =>
      cases a
      rw [DqAll.bls ⟨b, (lay_cons.mp l).2⟩]
      rfl
theorem DqAll.strs : ∀ {ns : List Str} {vs : List V}, DqAll K F vs (ns.map .str) → vs = ns.map V.str
  | [], vs, h => by cases h.1; rfl
  | n :: ns, vs, ⟨h, l⟩ => by
    cases h with
    | cons a b =>
      cases a
      rw [DqAll.strs ⟨b, (lay_cons.mp l).2⟩]
      rfl
theorem DqAll.of_strs : ∀ {ns : List Str}, PyData.canLayAll0 (ns.map .str) = true → DqAll K F (ns.map V.str) (ns.map .str)
  | [], _ => .nil
  | n :: ns, l => .cons (.str (lay_cons.mp l).1) (DqAll.of_strs (lay_cons.mp l).2)
def sumD : List PyData → Option C
  | [.list ds] => (allInts ds).map fun ns => .val (.int ns.sum)
  | _ => none
theorem c_sum (hc : X.calm = true) : CallR X (.builtin "sum") (rN X.K mg sumD) := by
  intro pins s σ H xs us Q I r h
  obtain ⟨F, ds, c, sub, sh, e, post⟩ := h
  unfold sumD at e
  split at e
  · rename_i ds
    cases q : allInts ds with
    | none => rw [q] at e; cases e
    | some ns =>
      rw [q] at e
      cases e
      obtain ⟨v, rfl, s1⟩ := sh.one
      obtain ⟨a, vs, e1, q1, r1⟩ := s1.list sub
      rw [allInts_eq q] at r1
      rw [r1.ints] at q1
      exact cr_sum hc pins s σ H _ us Q I r ⟨a, ns, by rw [e1], q1, post.val sub (.int _)⟩
  · cases e
def allD : List PyData → Option C
  | [.list ds] => (allBools ds).map fun ns => .val (.bool (ns.all id))
  | _ => none
theorem c_all (hc : X.calm = true) : CallR X (.builtin "all") (rN X.K mg allD) := by
  intro pins s σ H xs us Q I r h
  obtain ⟨F, ds, c, sub, sh, e, post⟩ := h
  unfold allD at e
  split at e
  · rename_i ds
    cases q : allBools ds with
    | none => rw [q] at e; cases e
    | some ns =>
      rw [q] at e
      cases e
      obtain ⟨v, rfl, s1⟩ := sh.one
      obtain ⟨a, vs, e1, q1, r1⟩ := s1.list sub
      rw [allBools_eq q] at r1
      rw [r1.bls] at q1
      exact cr_all hc pins s σ H _ us Q I r ⟨a, ns, by rw [e1], q1, post.val sub (.bl _)⟩
  · cases e
def anyD : List PyData → Option C
  | [.list ds] => (allBools ds).map fun ns => .val (.bool (ns.any id))
  | _ => none
theorem c_any (hc : X.calm = true) : CallR X (.builtin "any") (rN X.K mg anyD) := by
  intro pins s σ H xs us Q I r h
  obtain ⟨F, ds, c, sub, sh, e, post⟩ := h
  unfold anyD at e
  split at e
  · rename_i ds
    cases q : allBools ds with
    | none => rw [q] at e; cases e
    | some ns =>
      rw [q] at e
      cases e
      obtain ⟨v, rfl, s1⟩ := sh.one
      obtain ⟨a, vs, e1, q1, r1⟩ := s1.list sub
      rw [allBools_eq q] at r1
      rw [r1.bls] at q1
      exact cr_any hc pins s σ H _ us Q I r ⟨a, ns, by rw [e1], q1, post.val sub (.bl _)⟩
  · cases e

/-! ### items, slices -/
def ixD : PyData → PyData → Option C
  | .list ds, .int i => (atI ds i).map .val
  | .tuple ds, .int i => (atI ds i).map .val
  | .str z, .int i => if lenOk z.length = true then (atI z.cps.toList i).map fun c => .val (.str ⟨#[c]⟩) else none
  | _, _ => none
theorem atI_dq {ds : List PyData} {vs : List V} {i : Int} {d : PyData} (r : DqAll K F vs ds) (e : atI ds i = some d) : ∃ v, atI vs i = some v ∧ Dq K F v d := by
  unfold atI at e ⊢
  rw [r.length]
  cases q : ixN ds.length i with
  | none => rw [q] at e; cases e
  | some j =>
    rw [q] at e
    exact r.get e
theorem x_ix : IxR X (r2 X.K mg ixD) := by
  intro value slice pins s σ H x y v u Q I rx ry h hs
  obtain ⟨F, dx, dy, c, sub, hx, hy, e, post⟩ := h
  unfold ixD at e
  split at e
  · rename_i ds i
    cases q : atI ds i with
    | none => rw [q] at e; cases e
    | some d =>
      rw [q] at e
      cases e
      obtain ⟨a, vs, e1, q1, r1⟩ := hx.list sub
      obtain ⟨v', e2, d2⟩ := atI_dq r1 q
      exact ix_list value slice pins s σ H x y v u Q I rx ry ⟨a, vs, i, v', e1, hy.int, q1, e2, post.val sub d2⟩ hs
  · rename_i ds i
    cases q : atI ds i with
    | none => rw [q] at e; cases e
    | some d =>
      rw [q] at e
      cases e
      obtain ⟨a, vs, e1, q0, q1, r1⟩ := hx.tup sub
      obtain ⟨v', e2, d2⟩ := atI_dq r1 q
      exact ix_tup value slice pins s σ H x y v u Q I rx ry ⟨a, vs, i, v', e1, hy.int, q1, e2, post.val sub d2⟩ hs
  · rename_i z i
    split at e
    · rename_i hl
      cases q : atI z.cps.toList i with
      | none => rw [q] at e; cases e
      | some c =>
        rw [q] at e
        cases e
        have m : c ∈ z.cps.toList := by
          unfold atI at q
          cases q2 : ixN z.cps.toList.length i with
          | none => rw [q2] at q; cases q
          | some j => rw [q2] at q; exact List.mem_of_getElem? q
        exact ix_str value slice pins s σ H x y v u Q I rx ry ⟨z, i, c, hx.str.1, hy.int, of_decide_eq_true hl, q, post.val sub (.str (strOk_mem hx.str.2 m))⟩ hs
    · cases e
  · cases e
theorem e_ix {a b : Expr} {ga gb : G Op} (ha : PE X a (tO X.K mg W ga)) (hb : PE X b (tO X.K mg W gb)) (hs : PlainIx b) : PE X (.Subscript a b pos) (tE X.K mg W (gOp2 ixD ga gb)) := (pe_ix x_ix ha hb hs).imp fun _ _ _ => bin_ok
theorem o_ix {a b : Expr} {ga gb : G Op} (ha : PE X a (tO X.K mg W ga)) (hb : PE X b (tO X.K mg W gb)) (hs : PlainIx b) : PE X (.Subscript a b pos) (tO X.K mg W (gFz (gOp2 ixD ga gb))) := o_of (e_ix ha hb hs)
def cutD {α : Type} (xs : List α) (lo hi : Option Int) : List α := (xs.drop (HT.sIx xs.length 0 lo)).take (HT.sIx xs.length xs.length hi - HT.sIx xs.length 0 lo)
def slD (d : PyData) (lo hi : Option Int) : Option C := match d with
  | .list ds => some (mkL (cutD ds lo hi))
  | .tuple ds => some (.val (.tuple (cutD ds lo hi)))
  | .str z => if lenOk z.length = true then some (.val (.str (cutS z lo hi))) else none
  | _ => none
theorem DqAll.cut {ds : List PyData} {vs : List V} (lo hi : Option Int) (r : DqAll K F vs ds) : DqAll K F (cutV vs lo hi) (cutD ds lo hi) := by
  unfold cutV cutD
  rw [r.length]
  exact (r.drop _).take _
def rSl (K : Frag) (mg : Str → Option Value) (f : PyData → Option Int → Option Int → Option C) : V → Option Int → Option Int → Hp → VK → Prop := fun x lo hi H Q => ∃ F d c, Same F H ∧ Sh K F H x d ∧ f d lo hi = some c ∧ Post K mg F H c Q
theorem lay_cutS {z : Str} {lo hi : Option Int} (h : PyData.canLay0 (.str z) = true) : PyData.canLay0 (.str (cutS z lo hi)) = true := by
  simp only [PyData.canLay0, PyData.strOk, cutS, Array.all_eq_true', decide_eq_true_eq] at h ⊢
  intro x hx
  have hx' : x ∈ (z.cps.toList.drop (HT.sIx z.length 0 lo)).take (HT.sIx z.length z.length hi - HT.sIx z.length 0 lo) := by simpa using hx
  exact h x (by simpa using List.mem_of_mem_drop (List.mem_of_mem_take hx'))
theorem x_sl : SlR X (rSl X.K mg slD) := by
  intro pins s σ H x v vl vu lo hi sl Q I rx hs pl pu h
  obtain ⟨F, d, c, sub, sh, e, post⟩ := h
  unfold slD at e
  split at e
  · cases e
    obtain ⟨a, vs, e1, q1, r1⟩ := sh.list sub
    exact sl_list pins s σ H x v vl vu lo hi sl Q I rx hs pl pu ⟨a, vs, e1, q1, fun p hp => post.lst sub (r1.cut lo hi) hp⟩
  · rename_i ds
    cases e
    obtain ⟨a, vs, e1, q0, q1, r1⟩ := sh.tup sub
    refine sl_tupN pins s σ H x v vl vu lo hi sl Q I rx hs pl pu ⟨a, vs, e1, q1, fun hw => ?_, fun _ p o hp dn => post.tup sub (r1.cut lo hi) hp dn⟩
    have e2 : cutD ds lo hi = ds := by
      unfold cutD
      rw [← r1.length, hw.1, hw.2]
      simp [r1.length]
    rw [e2] at post
    exact post.val sub (.tup q0 r1)
  · rename_i z
    split at e
    · rename_i hl
      cases e
      exact sl_str pins s σ H x v vl vu lo hi sl Q I rx hs pl pu ⟨z, sh.str.1, of_decide_eq_true hl, post.val sub (.str (lay_cutS sh.str.2))⟩
    · cases e
  · cases e
/-- a part of a slice -/
def tPO (K : Frag) (mg : Str → Option Value) (W : WX) (g : G (Option Int)) : L2.TO := fun σ H Q => ∃ ρ fp F, Wd K mg F H ρ fp σ ∧
  match g ρ with
  | .ok o ρ' => ∀ F' H' fp', Wd K mg F' H' ρ' fp' σ → Chg fp F H fp' F' H' → Q o H'
  | .ex x ρ' => exPost K mg W F H fp σ x ρ'
  | .bad => False
theorem _root_.L2.PO.imp {X : Cx} {e : Option Expr} {t t' : L2.TO} (h : PO X e t) (k : ∀ σ H Q, t' σ H Q → t σ H Q) : PO X e t' := ⟨fun pins s σ H Q I hw => h.run pins s σ H Q I (k σ H Q hw)⟩
theorem p_none : PO X none (tPO K mg W (G.ret none)) := po_none.imp fun σ H Q h => by
  obtain ⟨ρ, fp, F, w, h⟩ := h
  exact h F H fp w Chg.refl
def gPart (g : G Op) : G (Option Int) := G.bind g fun o ρ => match deref ρ o with
  | some (.int i) => .ok (some i) ρ
  | _ => .bad
theorem p_some {g : G Op} (h : PE X e (tO K mg W g)) : PO X (some e) (tPO K mg W (gPart g)) := (po_some h).imp fun σ H Q h => by
  obtain ⟨ρ, fp, F, w, h⟩ := h
  unfold gPart G.bind at h
  refine oRun w Chg.refl ?_
  cases q : g ρ with
  | bad => rw [q] at h; exact h.elim
  | ex x ρ' => rw [q] at h; exact h
  | ok o ρ1 =>
    rw [q] at h
    simp only [R.bind_ok] at h
    intro v F1 H1 fp1 w1 r1 s1 c1
    cases z : deref ρ1 o with
    | none => rw [z] at h; exact h.elim
    | some d =>
      rw [z] at h
      cases d with
      | int i => exact ⟨i, (deref_sh w1 r1 z).int, h F1 H1 fp1 w1 c1⟩
      | none => exact h.elim
      | bool b => exact h.elim
      | str b => exact h.elim
      | list b => exact h.elim
      | tuple b => exact h.elim
      | dict b => exact h.elim
def gSl (g : G Op) (gl gh : G (Option Int)) : G C := G.bind g fun o => G.bind gl fun lo => G.bind gh fun hi => fun ρ => match deref ρ o with
  | some d => gFin (slD d lo hi) ρ
  | none => .bad
theorem gSl_ok {g : G Op} {gl gh : G (Option Int)} {Q : VK} (h : tE K mg W (gSl g gl gh) σ H Q) : tSl (rSl K mg slD) (tO K mg W g) (tPO K mg W gl) (tPO K mg W gh) σ H Q := by
  obtain ⟨ρ, fp, F, w, h⟩ := h
  unfold gSl G.bind at h
  refine oRun w Chg.refl ?_
  cases q : g ρ with
  | bad => rw [q] at h; exact h.elim
  | ex x ρ' => rw [q] at h; exact h
  | ok o ρ1 =>
    rw [q] at h
    simp only [R.bind_ok] at h
    intro v F1 H1 fp1 w1 r1 s1 c1
    refine ⟨ρ1, fp1, F1, w1, ?_⟩
    cases q2 : gl ρ1 with
    | bad => rw [q2] at h; exact h.elim
    | ex x ρ' => rw [q2] at h; exact exPost.of c1 h
    | ok lo ρ2 =>
      rw [q2] at h
      simp only [R.bind_ok] at h
      intro F2 H2 fp2 w2 c2
      refine ⟨ρ2, fp2, F2, w2, ?_⟩
      have c12 := c1.trans c2
      cases q3 : gh ρ2 with
      | bad => rw [q3] at h; exact h.elim
      | ex x ρ' => rw [q3] at h; exact exPost.of c12 h
      | ok hi ρ3 =>
        rw [q3] at h
        simp only [R.bind_ok] at h
        intro F3 H3 fp3 w3 c3
        cases z : deref ρ3 o with
        | none => rw [z] at h; exact h.elim
        | some d =>
          rw [z] at h
          simp only [gFin] at h
          cases fe : slD d lo hi with
          | none => rw [fe] at h; exact h.elim
          | some c =>
            rw [fe] at h
            exact ⟨F3, d, c, w3.sub, deref_sh w3 ((r1.mono c2.fz).mono c3.fz) z, fe, fin_post w3 (c12.trans c3) h⟩
theorem e_sl {lo hi : Option Expr} {g : G Op} {gl gh : G (Option Int)} {p2 : Pos} (he : PE X e (tO X.K mg W g)) (hl : PO X lo (tPO X.K mg W gl)) (hu : PO X hi (tPO X.K mg W gh)) : PE X (.Subscript e (.Slice lo hi none p2) pos) (tE X.K mg W (gSl g gl gh)) := (pe_slice x_sl he hl hu).imp fun _ _ _ => gSl_ok
end
end Nd

/-! Nd10: blocks, growing and storing, sorted texts, zip, enumerate, parallel assignment. -/
namespace Nd
open PySem L2
section
variable [TF] {X : Cx} {mg : Str → Option Value} {W : WX} {F H F0 H0 : Hp} {ρ : Env} {fp fp0 : AS} {σ σ0 : St} {P : List Nat} {pos : Pos}

/-! ### [e for t in xs if c] -/
theorem e_comp {elt tg iter : Expr} {ifs : List Expr} {scope : Scope} {own : List (Str × Nat)} {gi : G Itm} {p : Pat} {gt : G Bool} {ge : G Op} (hc : X.calm = true) (hN : X.N.Nodup) (hi : PI X tg iter (tI X.K mg W p.isTu gi)) (ok : BlkOk X.N X.env.scope scope own)
    (hg : ∀ (s : Shared) (H : Hp) (C : Addr) (cl : List (Str × Addr)) (fp : List Addr), PG (X.blk s H scope (compEnvC scope cl C X.env) fp) tg (tGd X.K mg p)) (ht : ∀ (s : Shared) (H : Hp) (C : Addr) (cl : List (Str × Addr)) (fp : List Addr), PTs (X.blk s H scope (compEnvC scope cl C X.env) fp) ifs (tT X.K mg W0 gt))
    (he : ∀ (s : Shared) (H : Hp) (C : Addr) (cl : List (Str × Addr)) (fp : List Addr), PE (X.blk s H scope (compEnvC scope cl C X.env) fp) elt (tO X.K mg W0 ge)) (hvs : ∀ j, j ∈ p.slots → j ∈ own.map (·.2)) (hsrc : ∀ ρ it ρ', gi ρ = .ok it ρ' → srcOut it.src (own.map (·.2)))
    (hs : ∀ x, foldedSetIterable iter X.env x = pure x := by intro _; rfl) :
    PE X (.ListComp elt [⟨tg, iter, ifs, 0⟩] scope pos) (tE X.K mg W (gComp gi p (own.map (·.2)) gt ge)) := (pe_lc hc hN hi ok hg ht he hs).imp fun _ _ _ => gComp_ok hvs hsrc
theorem s_setComp {i : Nat} {y : Str} {py spos : Pos} {elt tg iter : Expr} {ifs : List Expr} {scope : Scope} {own : List (Str × Nat)} {gi : G Itm} {p : Pat} {gt : G Bool} {ge : G Op} (hiP : i ∉ P) (hc : X.calm = true) (hN : X.N.Nodup) (hy : X.N[i]? = some y) (hyl : X.env.scope.names.lookup y = some .local)
    (hsw : swapsWith (.ListComp elt [⟨tg, iter, ifs, 0⟩] scope pos) (some (.Name y py)) spos.line X.env = pure true) (hi : PI X tg iter (tI X.K mg W p.isTu gi)) (ok : BlkOk X.N X.env.scope scope own)
    (hg : ∀ (s : Shared) (H : Hp) (C : Addr) (cl : List (Str × Addr)) (fp : List Addr), PG (X.blk s H scope (compEnvC scope cl C X.env) fp) tg (tGd X.K mg p)) (ht : ∀ (s : Shared) (H : Hp) (C : Addr) (cl : List (Str × Addr)) (fp : List Addr), PTs (X.blk s H scope (compEnvC scope cl C X.env) fp) ifs (tT X.K mg W0 gt))
    (he : ∀ (s : Shared) (H : Hp) (C : Addr) (cl : List (Str × Addr)) (fp : List Addr), PE (X.blk s H scope (compEnvC scope cl C X.env) fp) elt (tO X.K mg W0 ge)) (hvs : ∀ j, j ∈ p.slots → j ∈ own.map (·.2)) (hsrc : ∀ ρ it ρ', gi ρ = .ok it ρ' → srcOut it.src (own.map (·.2)))
    (hs : ∀ x, foldedSetIterable iter X.env x = pure x := by intro _; rfl) :
    PS X (.Assign [.Name y py] (.ListComp elt [⟨tg, iter, ifs, 0⟩] scope pos) spos) (tS X.K mg W P (gSet i (gComp gi p (own.map (·.2)) gt ge))) :=
  (ps_setLc hc hN hy hyl hsw hi ok hg ht he hs).imp fun D σ H h => gComp_ok hvs hsrc (gSet_ok hiP h)
theorem ts_nil {K : Frag} : PTs X [] (tT K mg W (G.ret true)) := ⟨fun pins s σ H Q I h => pts_nil.run pins s σ H Q I (by
  obtain ⟨ρ, fp, F, w, h⟩ := h
  exact h F H fp w Chg.refl)⟩
theorem ts_one {K : Frag} {c : Expr} {g : G Bool} (h : PT X c (tT K mg W g)) : PTs X [c] (tT K mg W g) := pts_one h

/-! ### what isn't reached -/
def gOff {α : Type} : G α := fun _ => .bad
theorem s_bad {K : Frag} {st : Stmt} : PS X st (tS K mg W P gOff) := ⟨fun pins s σ H D I h => by obtain ⟨_, _, _, _, h⟩ := h; exact h.elim⟩
theorem ss_bad {K : Frag} {st : List Stmt} : PSs X st (tS K mg W P gOff) := ⟨fun pins s σ H D I h => by obtain ⟨_, _, _, _, h⟩ := h; exact h.elim⟩
theorem e_bad {K : Frag} {e : Expr} : PE X e (tE K mg W gOff) := ⟨fun pins s σ H Q I h => by obtain ⟨_, _, _, _, h⟩ := h; exact h.elim⟩
theorem o_bad {K : Frag} {e : Expr} : PE X e (tO K mg W gOff) := ⟨fun pins s σ H Q I h => by obtain ⟨_, _, _, _, h⟩ := h; exact h.elim⟩
theorem t_bad {K : Frag} {e : Expr} : PT X e (tT K mg W gOff) := ⟨fun pins s σ H Q I h => by obtain ⟨_, _, _, _, h⟩ := h; exact h.elim⟩

/-! ### xs.append(e) -/
def grow (i : Nat) (c : C) : G C := fun ρ => match ρ[i]? with
  | some (some (.lst cs)) => if decide (cs.length < sizeLine) = true then .ok (.val .none) (ρ.set i (some (.lst (cs ++ [c])))) else .bad
  | _ => .bad
def gHas (i : Nat) : G Unit := fun ρ => match ρ[i]? with
  | some (some (.lst _)) => .ok () ρ
  | _ => .bad
def gApp (i : Nat) (g : G C) : G C := G.bind (gHas i) fun _ => G.bind g fun c => grow i c
theorem Rcs_snoc {K : Frag} : ∀ {cs : List C} {vs : List V} {f : AS} {c : C} {v : V} {fv : AS}, Rcs K mg F H cs vs f → Rc K mg F H c v fv → (∀ a, f a → ¬ fv a) → Rcs K mg F H (cs ++ [c]) (vs ++ [v]) (fun a => f a ∨ fv a)
  | [], vs, f, c, v, fv, h, r, d => by
    simp only [Rcs] at h
    simp only [List.nil_append, Rcs]
    exact ⟨v, [], fv, fun _ => False, by rw [h.1]; rfl, r, ⟨rfl, fun _ z => z⟩, fun _ _ z => z, fun a => ⟨fun z => z.elim (fun y => (h.2 a y).elim) .inl, fun z => z.elim .inr False.elim⟩⟩
  | c0 :: cs, vs, f, c, v, fv, h, r, d => by
    simp only [Rcs] at h
    obtain ⟨v0, vr, f1, f2, e1, r1, r2, dj, cv⟩ := h
    simp only [List.cons_append, Rcs]
    refine ⟨v0, vr ++ [v], f1, fun a => f2 a ∨ fv a, by rw [e1]; rfl, r1, Rcs_snoc r2 r (fun a z => d a ((cv a).mpr (.inr z))), fun a z y => y.elim (dj a z) (d a ((cv a).mpr (.inl z))), fun a => ?_⟩
    rw [cv a, or_assoc]
theorem gApp_ok {K : Frag} {i : Nat} {g : G C} {Q : VK} (h : tE K mg W (gApp i g) σ H Q) : tBM K "list" rAppend (tVar i) (tCons (tE K mg W g) tNil) σ H Q := by
  obtain ⟨ρ, fp, F, w, h⟩ := h
  unfold gApp G.bind at h
  simp only [gHas] at h
  cases q0 : ρ[i]? with
  | none => rw [q0] at h; exact h.elim
  | some oc =>
    cases oc with
    | none => rw [q0] at h; exact h.elim
    | some c0 =>
      cases c0 with
      | val d => rw [q0] at h; exact h.elim
      | tup cs => rw [q0] at h; exact h.elim
      | dic ks cs => rw [q0] at h; exact h.elim
      | obj cl ks cs => rw [q0] at h; exact h.elim
      | ref _ => rw [q0] at h; exact h.elim
      | lam _ _ _ => rw [q0] at h; exact h.elim
      | lst cs0 =>
        rw [q0] at h
        simp only [R.bind_ok] at h
        obtain ⟨ov, f1, f2, q1, ⟨v, q2, q3⟩, dj, cv, put⟩ := w.re.focus q0
        subst q2
        refine ⟨v, q1, ?_⟩
        simp only [Rc] at q3
        obtain ⟨a, vs, f', rfl, h2, h3, h4, h5, h6⟩ := q3
        refine ⟨.inl ⟨rfl, vs, .of h2⟩, ?_⟩
        show tE K mg W g σ H _
        refine eRun w Chg.refl ?_
        cases q : g ρ with
        | bad => rw [q] at h; exact h
        | ex x ρ' => rw [q] at h; exact h
        | ok c ρ1 =>
          rw [q] at h
          simp only [R.bind_ok, grow] at h
          intro u F1 H1 fp1 fv1 w1 r1 d1 c1 c1'
          cases q5 : ρ1[i]? with
          | none => rw [q5] at h; exact h.elim
          | some oc =>
            cases oc with
            | none => rw [q5] at h; exact h.elim
            | some c2 =>
              cases c2 with
              | val d => rw [q5] at h; exact h.elim
              | tup cs => rw [q5] at h; exact h.elim
              | dic ks cs => rw [q5] at h; exact h.elim
              | obj cl ks cs => rw [q5] at h; exact h.elim
              | ref _ => rw [q5] at h; exact h.elim
              | lam _ _ _ => rw [q5] at h; exact h.elim
              | lst cs =>
                rw [q5] at h
                by_cases hl : cs.length < sizeLine
                · simp only [hl, decide_true, if_true] at h
                  obtain ⟨ov, g1, g2, p1, ⟨v', p2, p3⟩, dj', cv', put'⟩ := w1.re.focus q5
                  rw [q1] at p1
                  subst p2
                  cases p1
                  simp only [Rc] at p3
                  obtain ⟨a', vs', f2', e1, k2, k3, k4, k5, k6⟩ := p3
                  cases e1
                  have hlen := Rcs.length k4
                  refine ⟨a, vs', u, rfl, rfl, k2, by rw [hlen]; exact hl, ?_⟩
                  -- the new heap
                  have na : ¬ fv1 a := fun z => d1 a z ((cv' a).mpr (.inl ((k6 a).mpr (.inl rfl))))
                  have same : ∀ {S : AS}, (∀ b, S b → b ≠ a) → ∀ b, S b → (upd H1 a (.lst (vs' ++ [u]))) b = H1 b ∧ F1 b = F1 b := fun hS b z => ⟨upd_ne (hS b z), rfl⟩
                  have sF : Same F1 (upd H1 a (.lst (vs' ++ [u]))) := fun b o e => by
                    by_cases hb : b = a
                    · subst hb; rw [k3] at e; cases e
                    · rw [upd_ne hb]; exact w1.sub b o e
                  have rr : Rc K mg F1 (upd H1 a (.lst (vs' ++ [u]))) (.lst (cs ++ [c])) (.ref a) (fun b => g1 b ∨ fv1 b) := by
                    simp only [Rc]
                    refine ⟨a, vs' ++ [u], fun b => f2' b ∨ fv1 b, rfl, upd_same, k3, Rcs_snoc (k4.frame (Same.refl _) (same fun b z e => by subst e; exact k5 z)) (r1.frame (Same.refl _) (same fun b z e => by subst e; exact na z)) (fun b z y => d1 b y ((cv' b).mpr (.inl ((k6 b).mpr (.inr z))))), fun z => z.elim k5 na, fun b => ?_⟩
                    rw [k6 b, or_assoc]
                  have keep2 : ∀ b, g2 b → (upd H1 a (.lst (vs' ++ [u]))) b = H1 b ∧ F1 b = F1 b := same fun b z e => by subst e; exact dj' _ ((k6 _).mpr (.inl rfl)) z
                  have re2 := put' (some (.lst (cs ++ [c]))) (some (.ref a)) F1 (upd H1 a (.lst (vs' ++ [u]))) (fun b => g1 b ∨ fv1 b) (Same.refl _) keep2 ⟨_, rfl, rr⟩ (fun b z y => z.elim (fun x => dj' b x y) fun x => d1 b x ((cv' b).mpr (.inr y)))
                  have e0 : σ.set i (some (.ref a)) = σ := by
                    apply List.ext_getElem?
                    intro j
                    by_cases hj : i = j
                    · subst hj; rw [q1]; exact List.getElem?_set_self (List.getElem?_eq_some_iff.mp q1).1
                    · exact List.getElem?_set_ne hj
                  rw [e0] at re2
                  have fpa : fp1 a := (cv' a).mpr (.inl ((k6 a).mpr (.inl rfl)))
                  refine h .non F1 _ (fun b => (g1 b ∨ fv1 b) ∨ g2 b) (fun _ => False) ⟨sF, re2⟩ (Rc.of_dp .non) (fun _ z => z.elim) ?_
                  refine Chg.or_false (c1'.trans ⟨Same.refl _, fun b o n e => ?_, fun b n e => rfl, fun b z => ?_⟩)
                  · have hb : b ≠ a := fun e => by subst e; exact n (.inl fpa)
                    rw [upd_ne hb]; exact e
                  · left
                    rcases z with (z | z) | z
                    · exact .inl ((cv' b).mpr (.inl z))
                    · exact .inr z
                    · exact .inl ((cv' b).mpr (.inr z))
                · simp only [hl, decide_false, Bool.false_eq_true, if_false] at h
theorem s_app {e : Expr} {x : Str} {px apos cpos : Pos} (i : Nat) {g : G C} (he : PE X e (tE X.K mg W g)) (hN : X.N[i]? = some x := by rfl) (hv : Vis X.env.scope x := by first | exact Or.inl rfl | exact Or.inr (Or.inl rfl) | exact Or.inr (Or.inr rfl))
    (hd : (x == ("__debug__" : Str)) = false := by decide) (hcd : (x == ("__classdict__" : Str)) = false := by decide)
    (hbase : attributeBase (.Name x px) "append" X.env (eval (.Name x px) X.env) = eval (.Name x px) X.env := by rfl)
    (hfew : ((backTo cpos (starEach [e] X.env)).all (fun x => !x.1) && (backToKw cpos (keywordEach [] X.env)).all (fun x => x.1.isSome) && decide (([e] : List Expr).length + ([] : List Keyword).length + (if ([] : List Keyword).isEmpty then 0 else 1) < 30)) = true := by rfl)
    (hline : (apos.endLine == cpos.line) = true := by rfl) (hs : starEach [e] X.env = (false, eval e X.env) :: starEach [] X.env := by rfl) (hplain : (backTo cpos (starEach [] X.env)).any (·.1) = false := by rfl)
    (hsw : swapsWith (.Call (.Attribute (.Name x px) "append" apos) [e] [] cpos) none pos.line X.env = pure false := by rfl) :
    PS X (.Expr (.Call (.Attribute (.Name x px) "append" apos) [e] [] cpos) pos) (tS X.K mg W P (gDrop (gApp i g))) :=
  s_expr ((pe_bm PySem.F.plainAttrs_list PySem.F.slot_list_append PySem.F.type_list_append mt_append (pe_var hN hv hd hcd) (pa_cons he pa_nil hs) hbase hfew hline hs hplain).imp fun _ _ _ => gApp_ok) hsw
end
end Nd

/-! Nd11: storing, t[::-1], sorted texts, zip, enumerate, parallel assignment. -/
namespace NdT
open PySem PySem.Spec PyProof.Rows HT
section
variable {prog : Program} {w : World} {A : Around} {E : Value → Shared → Prop} {s : Shared}
theorem places_rev (n : Nat) : Builtin.Slice.slicePlaces ((n : Int) - 1) (-1) (-1) = n := by
  unfold Builtin.Slice.slicePlaces
  have h1 : ¬ ((-1 : Int) > 0) := by decide
  simp only [h1, if_false]
  by_cases h : (n : Int) - 1 > -1
  · rw [if_pos h, show (- -1 : Int) = 1 by decide, Int.ediv_one]; omega
  · rw [if_neg h]; omega
theorem adjust_rev (n : Nat) : Builtin.Slice.sliceAdjust none none (-1) (n : Int) = ((n : Int) - 1, -1) := by
  unfold Builtin.Slice.sliceAdjust
  simp
theorem sliceApplied_rev {sl : Addr} {vs : Value} {n : Nat} {Q : Int × Int × Nat → Shared → Prop} (hs : s.heap.IsSliceOf sl .none .none vs) (ps : IsPart vs (some (-1)))
    (h : Q ((n : Int) - 1, -1, n) s) : wpAny (model prog w) A (Builtin.Slice.sliceApplied (.ref sl) (pure (n : Int))) Q E s := by
  obtain ⟨os, hos, hcs, hds⟩ := id hs
  unfold Builtin.Slice.sliceApplied Builtin.Slice.sliceFields
  refine wpAny_bind (wpAny_bind (wpAny_field hos hds (x := .none) rfl (wpAny_bind (wpAny_field hos hds (x := .none) rfl (wpAny_bind (wpAny_field hos hds (x := vs) rfl (wpAny_pure ?_)))))))
  refine wpAny_bind (slicePart_ ps ?_)
  show wpAny _ _ (if ((-1 : Int) == 0) = true then _ else _) _ _ s
  rw [if_neg (by decide)]
  refine wpAny_bind (slicePart_none (wpAny_bind (slicePart_none (wpAny_bind (wpAny_pure ?_)))))
  show wpAny _ _ (match Builtin.Slice.sliceAdjust none none (-1) (n : Int) with | (lo, hi) => pure (lo, (-1 : Int), Builtin.Slice.slicePlaces lo hi (-1))) _ _ s
  rw [adjust_rev n]
  show wpAny _ _ (pure ((n : Int) - 1, (-1 : Int), Builtin.Slice.slicePlaces ((n : Int) - 1) (-1) (-1))) _ _ s
  rw [places_rev]
  exact wpAny_pure h
theorem pick_rev (xs : Array Value) : ((List.range xs.size).filterMap fun (m : Nat) => xs[((xs.size : Int) - 1 + (m : Int) * (-1)).toNat]?).toArray = xs.toList.reverse.toArray := by
  have e : (List.range xs.size).filterMap (fun (m : Nat) => xs[((xs.size : Int) - 1 + (m : Int) * (-1)).toNat]?) = (List.range xs.size).filterMap (fun m => xs[xs.size - 1 - m]?) := by
    have key : ∀ (l : List Nat), (∀ m ∈ l, m < xs.size) → l.filterMap (fun (m : Nat) => xs[((xs.size : Int) - 1 + (m : Int) * (-1)).toNat]?) = l.filterMap (fun m => xs[xs.size - 1 - m]?) := by
      intro l
      induction l with
      | nil => intro _; rfl
      | cons m l ih =>
        intro h
        have hm := h m List.mem_cons_self
        have e2 : ((xs.size : Int) - 1 + (m : Int) * (-1)).toNat = xs.size - 1 - m := by omega
        simp only [List.filterMap_cons, e2, ih fun k hk => h k (List.mem_cons_of_mem _ hk)]
    exact key _ fun m hm => List.mem_range.mp hm
  rw [e, show (fun m => xs[xs.size - 1 - m]?) = (xs[·]?) ∘ (fun k => xs.size - 1 - k) from rfl, ← List.filterMap_map, PySem.W.krv_range, List.filterMap_reverse, PySem.W.krv_all]
theorem getItem_tuple_rev {t sl : Addr} {items : Array Value} {vs : Value} {Q : Value → Shared → Prop} (ht : IsTup s.heap t items) (hs : s.heap.IsSliceOf sl .none .none vs) (ps : IsPart vs (some (-1)))
    (h : Q (.ref s.heap.objs.size) { s with heap := s.heap.push { cls := .type "tuple", data := .seq items.toList.reverse.toArray } })
    (hsz : items.size ≤ sizeLine) : wpAny (model prog w) A (getItem (.ref t) (.ref sl)) Q E s := by
  have htake : sizeOk (.seq items.toList.reverse.toArray) := by
    show items.toList.reverse.toArray.size ≤ sizeLine
    simpa using hsz
  obtain ⟨os, hos, hcs, hds⟩ := id hs
  have hTs : s.TypeIs (.ref sl) "slice" := ⟨os, hos, hcs⟩
  unfold getItem
  try with_reducible refine wpAny_holding ?_
  first | refine wpAny_bind (wpAny_pure ?_) | skip
  refine wpAny_bind (wpAny_sequenceKey ht.typeIs (by decide) ?_)
  refine wpAny_bind (wpAny_callSpecial?_slot (name := Str.ofString "__getitem__") ht.typeIs PyProof.Rows.slot_tuple_getitem
    (wpAny_call_entry PyProof.Rows.slot_tuple_getitem ht.typeIs entry_tuple_getitem ?_ (args_tuple_getitem _ _)))
  show wpAny _ _ (Builtin.Tuple.tupleItemsOf (.ref t) >>= _) _ _ s
  refine wpAny_bind (tupleItemsOf_ ht ?_)
  refine wpAny_bind (wpAny_typeOf hTs ?_)
  rw [if_pos (by decide)]
  refine wpAny_bind (sliceApplied_rev hs ps ?_)
  have hno : ¬ ((((items.size : Int) - 1) == 0 && (-1 : Int) == 1 && items.size == items.size) = true) := by
    intro q
    rw [Bool.and_eq_true, Bool.and_eq_true] at q
    exact absurd q.1.2 (by decide)
  show wpAny _ _ (if ((((items.size : Int) - 1) == 0 && (-1 : Int) == 1 && items.size == items.size) = true) then _ else _) _ _ s
  rw [if_neg hno, pick_rev]
  first
    | exact wpAny_bind (m := Builtin.Tuple.tupleExact _) (wpAny_newObj_type (wpAny_pure ⟨_, rfl, wpAny_pure h⟩) htake)
    | exact wpAny_bind (m := Builtin.Tuple.tupleExact _) (wpAny_newObj_type (wpAny_bind (wpAny_pure (wpAny_pure ⟨_, rfl, wpAny_pure h⟩))) htake)
    | exact wpAny_bind (wpAny_bind (m := Builtin.Tuple.tupleExact _) (wpAny_newObj_type (wpAny_pure (wpAny_pure ⟨_, rfl, wpAny_pure h⟩)) htake))
    | exact wpAny_bind (wpAny_bind (m := Builtin.Tuple.tupleExact _) (wpAny_newObj_type (wpAny_pure ⟨_, rfl, wpAny_pure h⟩) htake))
end
end NdT
namespace L2
open PySem PySem.Spec PyProof.Rows
variable {X : Cx}
def tRevT (K : PySem.W.Frag) (te : TE) : TE := fun σ H Q => te σ H fun x H1 => ∃ a xs, x = .ref a ∧ SqT K H1 a xs ∧ ∀ (p : Addr) (o : Obj), H1 p = none → o.dict = none → Q (.ref p) (upd H1 p (.frz o (.tup xs.reverse)))
theorem pe_revT {e : Expr} {te : TE} {k : Nat} {p1 p2 p3 pos : Pos} (he : PE X e te) : PE X (.Subscript e (.Slice none none (some (.UnaryOp .USub (.Constant (.int 1) k p1) p2)) p3) pos) (tRevT X.K te) := by
  refine ⟨fun pins s σ H Q I h => ?_⟩
  refine Subscript_ (thn (he.run pins s σ H _ I h) fun v s1 ⟨x, H1, I1, r1, q1⟩ => ?_)
  obtain ⟨a, xs, ex, hx, q⟩ := q1
  subst ex
  cases r1
  have hst : PO X (some (.UnaryOp .USub (.Constant (.int 1) k p1) p2)) (tPart (tUn (rU fun i => .int (-i)) (tC (.int 1)))) := po_some (pe_un un_neg pe_int)
  refine wpAny_Slice (thn (po_none.run pins s1 σ H1 (fun o H2 => o = none ∧ H2 = H1) I1 ⟨rfl, rfl⟩) fun vl s2 ⟨l, H2, I2, pl, el, e2⟩ => ?_)
  subst el e2
  refine thn (po_none.run pins s2 σ H2 (fun o H3 => o = none ∧ H3 = H2) I2 ⟨rfl, rfl⟩) fun vu s3 ⟨u, H3, I3, pu, eu, e3⟩ => ?_
  subst eu e3
  refine thn (hst.run pins s3 σ H3 (fun o H4 => o = some (-1) ∧ H4 = H3) I3 ⟨1, rfl, -1, rfl, rfl, rfl⟩) fun vs s4 ⟨o, H4, I4, ps, eo, e4⟩ => ?_
  subst eo e4
  cases pl
  cases pu
  have I5 : Inv X pins σ H4 { s4 with heap := s4.heap.push { cls := .type "slice", data := .fields #[.none, .none, vs] } } := I4.kept (t' := s4.toks) fun b ob q => Heap.get?_push_of_some _ q
  obtain ⟨its, r, ht, hz⟩ := I5.tuple hx
  have hlen := r.length
  show wpAny (model X.prog X.w) X.A (subscriptTail e (.Slice none none (some (.UnaryOp .USub (.Constant (.int 1) k p1) p2)) p3) (.ref a) (.ref s4.heap.objs.size)) (EP X pins σ Q) X.xe { s4 with heap := s4.heap.push { cls := .type "slice", data := .fields #[.none, .none, vs] } }
  refine tail_any (ops := [.ref a, .ref s4.heap.objs.size]) ht.typeIs (PyProof.Rows.slot_tuple_getitem.lookup) ?_ (by with_unfolding_all rfl)
  refine NdT.getItem_tuple_rev ht (Heap.IsSliceOf.new _ .none .none vs) ps ?_ (by rw [List.size_toArray]; omega)
  refine ⟨.ref _, _, I5.laid (t' := s4.toks) (o := .frz _ (.tup xs.reverse)) (fun b ob q => Heap.get?_push_of_some _ q) (Nat.le_refl _) ⟨Heap.get?_push_size _ rfl, ?_⟩, rfl, q _ _ (I5.hok.fresh (Nat.le_refl _)) rfl⟩
  exact ⟨by rw [List.length_reverse]; exact hz, its.reverse, r.reverse, IsTup.new _ _⟩
end L2
namespace Nd
open PySem L2
section
variable [TF] {X : Cx} {mg : Str → Option Value} {W : WX} {F H F0 H0 : Hp} {ρ : Env} {fp fp0 : AS} {σ σ0 : St} {P : List Nat} {pos : Pos}

/-! ### t[::-1] -/
def revD : PyData → Option C
  | .tuple ds => some (.val (.tuple ds.reverse))
  | _ => none
def gRev (g : G Op) : G C := G.bind g fun o ρ => match deref ρ o with
  | some d => gFin (revD d) ρ
  | none => .bad
theorem DnAll.rev {K : Frag} : ∀ {ds : List PyData} {vs : List V}, DnAll K F vs ds → DnAll K F vs.reverse ds.reverse
  | [], _, h => by cases h; exact .nil
  | d :: ds, _, h => by
    cases h with
    | cons a b =>
      rw [List.reverse_cons, List.reverse_cons]
      exact DnAll.append (DnAll.rev b) (.cons a .nil)
theorem e_rev {e : Expr} {g : G Op} {k : Nat} {p1 p2 p3 : Pos} (he : PE X e (tO X.K mg W g)) : PE X (.Subscript e (.Slice none none (some (.UnaryOp .USub (.Constant (.int 1) k p1) p2)) p3) pos) (tE X.K mg W (gRev g)) := (pe_revT he).imp fun σ H Q h => by
  obtain ⟨ρ, fp, F, w, h⟩ := h
  unfold gRev G.bind at h
  refine oRun w Chg.refl ?_
  cases q : g ρ with
  | bad => rw [q] at h; exact h
  | ex x ρ' => rw [q] at h; exact h
  | ok o ρ1 =>
    rw [q] at h
    simp only [R.bind_ok] at h
    intro v F1 H1 fp1 w1 r1 s1 c1
    cases z : deref ρ1 o with
    | none => rw [z] at h; exact h.elim
    | some d =>
      rw [z] at h
      simp only [gFin] at h
      cases fe : revD d with
      | none => rw [fe] at h; exact h.elim
      | some c =>
        rw [fe] at h
        have sh := deref_sh w1 r1 z
        unfold revD at fe
        split at fe
        · cases fe
          obtain ⟨a, vs, e1, q0, q1, r⟩ := sh.tup w1.sub
          exact ⟨a, vs, e1, q1, fun p o hp dn => (fin_post w1 c1 h).tup w1.sub ⟨DnAll.rev r.1, lay_mem.mpr fun d hd => lay_mem.mp r.2 d (List.mem_reverse.mp hd)⟩ hp dn⟩
        · cases fe

/-! ### xs[i] = v -/
theorem Rcs_set {K : Frag} : ∀ {cs : List C} {vs : List V} {f : AS} {j : Nat} {d : PyData} {v : V}, Rcs K mg F H cs vs f → Dq K F v d → j < cs.length → ∃ f', Rcs K mg F H (cs.set j (.val d)) (vs.set j v) f' ∧ ∀ a, f' a → f a
  | [], vs, f, j, d, v, h, q, l => nomatch l
  | c :: cs, vs, f, j, d, v, h, q, l => by
    simp only [Rcs] at h
    obtain ⟨v0, vr, f1, f2, e1, r1, r2, dj, cv⟩ := h
    subst e1
    cases j with
    | zero =>
      refine ⟨f2, ?_, fun a z => (cv a).mpr (.inr z)⟩
      simp only [List.set_cons_zero, Rcs]
      exact ⟨v, vr, fun _ => False, f2, rfl, Rc.of_dp q, r2, fun _ z => z.elim, fun a => by simp⟩
    | succ j =>
      obtain ⟨f', k1, k2⟩ := Rcs_set r2 q (by simpa using l)
      refine ⟨fun a => f1 a ∨ f' a, ?_, fun a z => (cv a).mpr (z.imp id (k2 a))⟩
      simp only [List.set_cons_succ, Rcs]
      exact ⟨v0, _, f1, f', rfl, r1, k1, fun a z y => dj a z (k2 a y), fun _ => Iff.rfl⟩
def storeAt (i : Nat) (d : PyData) (o : Op) : G Fl := fun ρ => match ρ[i]?, deref ρ o with
  | some (some (.lst cs)), some (.int k) => match ixN cs.length k with
    | some j => .ok .next (ρ.set i (some (.lst (cs.set j (.val d)))))
    | none => .bad
  | _, _ => .bad
/-- the value, then the list, then the place -/
def gStore (i : Nat) (gi : G Op) (g : G C) : G Fl := G.bind (gFz g) fun o' => match o' with
  | .d d => G.bind (gHas i) fun _ => G.bind gi fun o => storeAt i d o
  | .s _ => G.bad
theorem ixN_lt {n : Nat} {k : Int} {j : Nat} (h : ixN n k = some j) : j < n := (ixN_seq h).2.1
theorem gStore_ok {i : Nat} {gi : G Op} {g : G C} {D : Ends} (h : tS X.K mg W P (gStore i gi g) D σ H) : tAsg (tO X.K mg W (gFz g)) (gSub (tVar i) (tO X.K mg W gi) rSetL) D σ H := by
  obtain ⟨ρ, fp, F, w, h⟩ := h
  unfold gStore at h
  unfold G.bind at h
  refine oRun w Chg.refl ?_
  cases q : gFz g ρ with
  | bad => rw [q] at h; exact h
  | ex x ρ' => rw [q] at h; exact exPostS.here h
  | ok o' ρ1 =>
    rw [q] at h
    simp only [R.bind_ok] at h
    cases o' with
    | s _ => exact h.elim
    | d d =>
      simp only [gHas] at h
      intro v F1 H1 fp1 w1 r1 s1 c1
      have r1' : Dq X.K F1 v d := r1
      cases q0 : ρ1[i]? with
      | none => rw [q0] at h; exact h.elim
      | some oc =>
        cases oc with
        | none => rw [q0] at h; exact h.elim
        | some c0 =>
          cases c0 with
          | val d => rw [q0] at h; exact h.elim
          | tup cs => rw [q0] at h; exact h.elim
          | dic ks cs => rw [q0] at h; exact h.elim
          | obj cl ks cs => rw [q0] at h; exact h.elim
          | ref _ => rw [q0] at h; exact h.elim
          | lam _ _ _ => rw [q0] at h; exact h.elim
          | lst cs0 =>
            rw [q0] at h
            simp only [R.bind_ok] at h
            obtain ⟨ov, f1, f2, q1, ⟨u, q2, q3⟩, _⟩ := w1.re.focus q0
            subst q2
            refine ⟨u, q1, ?_⟩
            simp only [Rc] at q3
            obtain ⟨a, vs, f', rfl, h2, h3, h4, h5, h6⟩ := q3
            refine oRun w1 c1 ?_
            cases q4 : gi ρ1 with
            | bad => rw [q4] at h; exact h
            | ex x ρ' => rw [q4] at h; exact exPostS.here h
            | ok o ρ2 =>
              rw [q4] at h
              simp only [R.bind_ok, storeAt] at h
              intro vo F2 H2 fp2 w2 r2 s2 c2
              cases q5 : ρ2[i]? with
              | none => rw [q5] at h; exact h.elim
              | some oc =>
                cases oc with
                | none => rw [q5] at h; exact h.elim
                | some c2' =>
                  cases c2' with
                  | val d => rw [q5] at h; exact h.elim
                  | tup cs => rw [q5] at h; exact h.elim
                  | dic ks cs => rw [q5] at h; exact h.elim
                  | obj cl ks cs => rw [q5] at h; exact h.elim
                  | ref _ => rw [q5] at h; exact h.elim
                  | lam _ _ _ => rw [q5] at h; exact h.elim
                  | lst cs =>
                    rw [q5] at h
                    cases q6 : deref ρ2 o with
                    | none => rw [q6] at h; exact h.elim
                    | some dk =>
                      rw [q6] at h
                      cases dk with
                      | int k =>
                        simp only at h
                        have ek := (deref_sh w2 r2 q6).int
                        cases q7 : ixN cs.length k with
                        | none => rw [q7] at h; exact h.elim
                        | some j =>
                          rw [q7] at h
                          obtain ⟨ov, g1, g2, p1, ⟨u', p2, p3⟩, dj, cv, put⟩ := w2.re.focus q5
                          rw [q1] at p1
                          subst p2
                          cases p1
                          simp only [Rc] at p3
                          obtain ⟨a', vs', f2', e1, k2, k3, k4, k5, k6⟩ := p3
                          cases e1
                          have hlen := Rcs.length k4
                          refine ⟨a, vs', k, j, rfl, ek, k2, by rw [hlen]; exact q7, ?_⟩
                          have same : ∀ {S : AS}, (∀ b, S b → b ≠ a) → ∀ b, S b → (upd H2 a (.lst (vs'.set j v))) b = H2 b ∧ F2 b = F2 b := fun hS b z => ⟨upd_ne (hS b z), rfl⟩
                          have sF : Same F2 (upd H2 a (.lst (vs'.set j v))) := fun b o e => by
                            by_cases hb : b = a
                            · subst hb; rw [k3] at e; cases e
                            · rw [upd_ne hb]; exact w2.sub b o e
                          obtain ⟨fn, n1, n2⟩ := Rcs_set (d := d) (v := v) (k4.frame (Same.refl _) (same fun b z e => by subst e; exact k5 z)) (r1'.mono s2) (ixN_lt q7)
                          have rr : Rc X.K mg F2 (upd H2 a (.lst (vs'.set j v))) (.lst (cs.set j (.val d))) (.ref a) (fun b => b = a ∨ fn b) := by
                            simp only [Rc]
                            exact ⟨a, _, fn, rfl, upd_same, k3, n1, fun z => k5 (n2 a z), fun _ => Iff.rfl⟩
                          have keep2 : ∀ b, g2 b → (upd H2 a (.lst (vs'.set j v))) b = H2 b ∧ F2 b = F2 b := same fun b z e => by subst e; exact dj _ ((k6 _).mpr (.inl rfl)) z
                          have sub1 : ∀ b, (b = a ∨ fn b) → g1 b := fun b z => (k6 b).mpr (z.imp id (n2 b))
                          have re2 := put (some (.lst (cs.set j (.val d)))) (some (.ref a)) F2 _ (fun b => b = a ∨ fn b) (Same.refl _) keep2 ⟨_, rfl, rr⟩ (fun b z => dj b (sub1 b z))
                          have e0 : σ.set i (some (.ref a)) = σ := by
                            apply List.ext_getElem?
                            intro j
                            by_cases hj : i = j
                            · subst hj; rw [q1]; exact List.getElem?_set_self (List.getElem?_eq_some_iff.mp q1).1
                            · exact List.getElem?_set_ne hj
                          rw [e0] at re2
                          have fpa : fp2 a := (cv a).mpr (.inl ((k6 a).mpr (.inl rfl)))
                          refine h σ F2 _ (fun b => (b = a ∨ fn b) ∨ g2 b) ⟨sF, re2⟩ (c2.trans ⟨Same.refl _, fun b o n e => ?_, fun b n e => rfl, fun b z => ?_⟩) fun _ _ => rfl
                          · have hb : b ≠ a := fun e => by subst e; exact n fpa
                            rw [upd_ne hb]; exact e
                          · left
                            exact (cv b).mpr (z.imp (sub1 b) id)
                      | none => exact h.elim
                      | bool b => exact h.elim
                      | str b => exact h.elim
                      | list b => exact h.elim
                      | tuple b => exact h.elim
                      | dict b => exact h.elim
theorem s_store {x : Str} {ix e : Expr} {px ps : Pos} (i : Nat) {gi : G Op} {g : G C} (he : PE X e (tE X.K mg W g)) (hi : PE X ix (tO X.K mg W gi)) (hN : X.N[i]? = some x := by rfl) (hv : Vis X.env.scope x := by first | exact Or.inl rfl | exact Or.inr (Or.inl rfl) | exact Or.inr (Or.inr rfl))
    (hd : (x == ("__debug__" : Str)) = false := by decide) (hcd : (x == ("__classdict__" : Str)) = false := by decide)
    (ha : ∀ v, assign (.Subscript (.Name x px) ix ps) X.env v = (do
      let ov ← holding [v] (eval (.Name x px) X.env)
      let iv ← holding [v, ov] (eval ix X.env)
      standAt ps
      holding [v, ov, iv] (setItem ov iv v)
      release [v, ov, iv] []) := by intro _; rfl)
    (hs : swapsWithSole [.Subscript (.Name x px) ix ps] e pos.line X.env = pure false := by rfl) (hw : swappedStores [.Subscript (.Name x px) ix ps] e X.env = pure none := by rfl)
    (h1 : (assignEach [.Subscript (.Name x px) ix ps] X.env).map (·.2) = [assign (.Subscript (.Name x px) ix ps) X.env] := by rfl) :
    PS X (.Assign [.Subscript (.Name x px) ix ps] e pos) (tS X.K mg W P (gStore i gi g)) :=
  (ps_asg (o_of he) (pg_sub (pe_var hN hv hd hcd) hi set_list ha) hs hw h1).imp fun _ _ _ => gStore_ok

/-! ### sorted(texts) -/
def leS (a b : Str) : Bool := !strLt b a
theorem leS_total (a b : Str) : (leS a b || leS b a) = true := by
  unfold leS strLt
  by_cases h : b.cps.toList < a.cps.toList
  · have : ¬ a.cps.toList < b.cps.toList := List.not_lt.mpr (List.le_of_lt h)
    simp [h, this]
  · simp [h]
theorem leS_iff {a b : Str} : leS a b = true ↔ a.cps.toList ≤ b.cps.toList := by
  unfold leS strLt
  simp [List.not_lt]
theorem leS_trans (a b c : Str) (h : leS a b = true) (k : leS b c = true) : leS a c = true := leS_iff.mpr (List.le_trans (leS_iff.mp h) (leS_iff.mp k))
theorem leS_antisymm {a b : Str} (h : leS a b = true) (k : leS b a = true) : a = b := by
  have := List.le_antisymm (leS_iff.mp h) (leS_iff.mp k)
  cases a; cases b
  simp only [Str.mk.injEq]
  exact Array.toList_inj.mp this
def sortS (xs : List Str) : List Str := xs.mergeSort leS
theorem sortedS_pairwise : ∀ {ys : List Str}, PyProof.Rows.sortedS ys = true → ys.Pairwise fun a b => leS a b = true := by
  have hlt : ∀ a b : Str, (!PySem.Spec.ltCps b.cps.toList a.cps.toList) = true → leS a b = true := fun a b h => by
    unfold leS strLt
    rw [PyProof.Rows.lt_meets]; exact h
  have key : ∀ {ys : List Str} {p : Str}, PyProof.Rows.risingS p ys = true → (p :: ys).Pairwise fun a b => leS a b = true := fun {ys} => by
    induction ys with
    | nil => intro p _; simp
    | cons y ys ih =>
      intro p h
      simp only [PyProof.Rows.risingS, Bool.and_eq_true] at h
      have t := ih h.2
      have e := hlt p y (by simpa using h.1)
      refine .cons (fun z hz => ?_) t
      rcases List.mem_cons.mp hz with q | q
      · subst q; exact e
      · exact leS_trans _ _ _ e ((List.pairwise_cons.mp t).1 z q)
  intro ys h
  cases ys with
  | nil => exact .nil
  | cons y ys => exact key h
theorem sortS_unique {xs ys : List Str} (p : ys.Perm xs) (h : PyProof.Rows.sortedS ys = true) : ys = sortS xs := by
  have q : ys.Perm (sortS xs) := p.trans (List.mergeSort_perm xs leS).symm
  exact q.eq_of_pairwise (le := fun a b => leS a b = true) (fun a b _ _ x y => leS_antisymm x y) (sortedS_pairwise h) (List.pairwise_mergeSort leS_trans leS_total xs)
def sortedD : List PyData → Option C
  | [.list ds] => (allStrs ds).bind fun xs => if decide (xs.length < 64) = true then some (mkL ((sortS xs).map .str)) else none
  | _ => none
theorem c_sorted : CallR X (.builtin "sorted") (rN X.K mg sortedD) := by
  intro pins s σ H xs us Q I r h
  obtain ⟨F, ds, c, sub, sh, e, post⟩ := h
  unfold sortedD at e
  split at e
  · rename_i ds
    cases q : allStrs ds with
    | none => rw [q] at e; cases e
    | some ns =>
      rw [q] at e
      simp only [Option.bind_some] at e
      split at e
      · rename_i hl
        cases e
        obtain ⟨v, rfl, s1⟩ := sh.one
        obtain ⟨a, vs, e1, q1, r1⟩ := s1.list sub
        rw [allStrs_eq q] at r1
        rw [r1.strs] at q1
        refine cr_sortedS pins s σ H _ us Q I r ⟨a, ns, by rw [e1], q1, of_decide_eq_true hl, fun ys p hp hs hf => ?_⟩
        rw [sortS_unique hp hs]
        refine post.lst sub (DqAll.of_strs ?_) hf
        refine lay_mem.mpr fun d hd => ?_
        have hd' : d ∈ ns.map PyData.str := by
          obtain ⟨z, hz, rfl⟩ := List.mem_map.mp hd
          exact List.mem_map.mpr ⟨z, (List.mergeSort_perm ns leS).mem_iff.mp hz, rfl⟩
        exact lay_mem.mp r1.2 d hd'
      · cases e
  · cases e
end
end Nd

/-! Nd12: zip, enumerate, parallel assignment. -/
namespace Nd
open PySem L2 RZ
section
variable [TF] {X : Cx} {K : Frag} {mg : Str → Option Value} {W : WX} {F H F0 H0 : Hp} {ρ : Env} {fp fp0 : AS} {σ σ0 : St} {P : List Nat} {pos : Pos}
/-- frozen data read -/
def opD (ρ : Env) : Op → Option PyData
  | .d d => some d
  | .s i => match ρ[i]? with
    | some (some (.val d)) => some d
    | _ => none
theorem opD_dq {o : Op} {v : V} {d : PyData} (w : Wd K mg F H ρ fp σ) (r : Ro K F σ o v) (e : opD ρ o = some d) : Dq K F v d := by
  cases o with
  | d d' =>
    simp only [opD, Option.some.injEq] at e
    subst e
    exact r
  | s i =>
    simp only [opD] at e
    cases q : ρ[i]? with
    | none => rw [q] at e; cases e
    | some oc =>
      cases oc with
      | none => rw [q] at e; cases e
      | some c =>
        rw [q] at e
        cases c with
        | val d' =>
          cases e
          obtain ⟨ov, f1, f2, q1, ⟨v', q2, q3⟩, _⟩ := w.re.focus q
          have r' : σ[i]? = some (some v) := r
          rw [q1, q2] at r'
          cases r'
          simp only [Rc] at q3
          exact q3.1
        | tup cs => cases e
        | lst cs => cases e
        | dic ks cs => cases e
        | obj cl ks cs => cases e
        | ref _ => cases e
        | lam _ _ _ => cases e
def zipP (xs ys : List PyData) : List PyData := (xs.zip ys).map fun p => .tuple [p.1, p.2]
theorem zipP_get {xs ys : List PyData} {i : Nat} {d : PyData} (h : (zipP xs ys)[i]? = some d) : ∃ x y, xs[i]? = some x ∧ ys[i]? = some y ∧ d = .tuple [x, y] := by
  unfold zipP at h
  rw [List.getElem?_map] at h
  cases q : (xs.zip ys)[i]? with
  | none => rw [q] at h; cases h
  | some p =>
    rw [q] at h
    cases h
    obtain ⟨h1, h2⟩ := List.getElem?_zip_eq_some.mp q
    exact ⟨_, _, h1, h2, rfl⟩
theorem zipP_length (xs ys : List PyData) : (zipP xs ys).length = min xs.length ys.length := by simp [zipP]
theorem itOk_zipL {a b : Addr} {vs us : List V} {xs ys : List PyData} (s1 : SqL K F a vs) (r1 : DqAll K F vs xs) (s2 : SqL K F b us) (r2 : DqAll K F us ys) : ItOk K mg true none 0 F (zipP xs ys) (Itz K a b) where
  go := fun ρ fp F' H' σ i w _ _ se hi => by
    rw [zipP_length, ← r1.length, ← r2.length] at hi
    exact ⟨vs, us, vs[i], us[i], w.sub.seq (se.seq s1), w.sub.seq (se.seq s2), List.getElem?_eq_getElem (by omega), List.getElem?_eq_getElem (by omega)⟩
  yld := fun ρ fp F' H' σ i x H2 d w _ _ se hd hy => by
    obtain ⟨x1, y1, h1, h2, rfl⟩ := zipP_get hd
    obtain ⟨T, x2, y2, rfl, hT, rfl, k1, k2⟩ := hy
    obtain ⟨u1, e1, q1⟩ := r1.get h1
    obtain ⟨u2, e2, q2⟩ := r2.get h2
    have z1 := k1 vs (w.sub.seq (se.seq s1))
    have z2 := k2 us (w.sub.seq (se.seq s2))
    rw [e1] at z1; rw [e2] at z2
    have z1' := Option.some.inj z1
    have z2' := Option.some.inj z2
    subst z1' z2'
    have x := Frs.newF (p := T) (o := .tup [u1, u2]) w.sub hT
    exact ⟨_, x, .inr ⟨rfl, _, _, _, rfl, rfl, .of upd_same, .cons (q1.mono (se.trans x.fz)) (.cons (q2.mono (se.trans x.fz)) .nil)⟩⟩
  stop := fun ρ fp F' H' σ w _ _ se => by
    refine ⟨vs, us, w.sub.seq (se.seq s1), w.sub.seq (se.seq s2), ?_⟩
    rw [zipP_length, r1.length, r2.length]
    omega
theorem itOk_zipT {a b : Addr} {vs us : List V} {xs ys : List PyData} (s1 : SqT K F a vs) (r1 : DqAll K F vs xs) (s2 : SqT K F b us) (r2 : DqAll K F us ys) : ItOk K mg true none 0 F (zipP xs ys) (ItzT K a b) where
  go := fun ρ fp F' H' σ i w _ _ se hi => by
    rw [zipP_length, ← r1.length, ← r2.length] at hi
    exact ⟨vs, us, vs[i], us[i], SqT.mono w.sub (SqT.mono se s1), SqT.mono w.sub (SqT.mono se s2), List.getElem?_eq_getElem (by omega), List.getElem?_eq_getElem (by omega)⟩
  yld := fun ρ fp F' H' σ i x H2 d w _ _ se hd hy => by
    obtain ⟨x1, y1, h1, h2, rfl⟩ := zipP_get hd
    obtain ⟨T, x2, y2, rfl, hT, rfl, k1, k2⟩ := hy
    obtain ⟨u1, e1, q1⟩ := r1.get h1
    obtain ⟨u2, e2, q2⟩ := r2.get h2
    have z1 := k1 vs (SqT.mono w.sub (SqT.mono se s1))
    have z2 := k2 us (SqT.mono w.sub (SqT.mono se s2))
    rw [e1] at z1; rw [e2] at z2
    have z1' := Option.some.inj z1
    have z2' := Option.some.inj z2
    subst z1' z2'
    have x := Frs.newF (p := T) (o := .tup [u1, u2]) w.sub hT
    exact ⟨_, x, .inr ⟨rfl, _, _, _, rfl, rfl, .of upd_same, .cons (q1.mono (se.trans x.fz)) (.cons (q2.mono (se.trans x.fz)) .nil)⟩⟩
  stop := fun ρ fp F' H' σ w _ _ se => by
    refine ⟨vs, us, SqT.mono w.sub (SqT.mono se s1), SqT.mono w.sub (SqT.mono se s2), ?_⟩
    rw [zipP_length, r1.length, r2.length]
    omega
def szOk (ds : List PyData) : Bool := decide (ds.length ≤ sizeLine)
def zipI : Option PyData → Option PyData → Option (List PyData)
  | some (.list xs), some (.list ys) => if szOk (zipP xs ys) = true then some (zipP xs ys) else none
  | some (.tuple xs), some (.tuple ys) => if szOk (zipP xs ys) = true then some (zipP xs ys) else none
  | _, _ => none
def gZip (ga gb : G Op) : G Itm := G.bind ga fun a => G.bind gb fun b => fun ρ => match zipI (opD ρ a) (opD ρ b) with
  | some ds => .ok ⟨ds, none⟩ ρ
  | none => .bad
theorem i_zip {e e2 : Expr} {p pos tpos : Pos} {elts : List Expr} {kk : Nat} {ga gb : G Op} (hg : Gl X "zip") (hm : X.mg "zip" = none) (ha : PE X e (tO X.K mg W ga)) (hb : PE X e2 (tO X.K mg W gb))
    (hs : starEach [e, e2] X.env = (false, eval e X.env) :: starEach [e2] X.env := by rfl) (hs2 : starEach [e2] X.env = (false, eval e2 X.env) :: starEach [] X.env := by rfl) (hpl : (backTo pos (starEach [e2] X.env)).any (·.1) = false := by rfl) :
    PI X (.Tuple elts kk tpos) (.Call (.Name "zip" p) [e, e2] [] pos) (tI X.K mg W true (gZip ga gb)) := by
  refine ⟨fun pins s σ H Rr I h => ?_⟩
  refine (pi_zipA hg hm (pa_cons ha (pa_cons hb pa_nil hs2) hs) hs hpl).run pins s σ H Rr I ?_
  obtain ⟨ρ, fp, F, w, h⟩ := h
  unfold gZip G.bind at h
  refine oRun w Chg.refl ?_
  cases q : ga ρ with
  | bad => rw [q] at h; exact h.elim
  | ex x ρ' => rw [q] at h; exact h
  | ok a ρ1 =>
    rw [q] at h
    simp only [R.bind_ok] at h
    intro v F1 H1 fp1 w1 r1 s1 c1
    refine oRun w1 c1 ?_
    cases q2 : gb ρ1 with
    | bad => rw [q2] at h; exact h.elim
    | ex x ρ' => rw [q2] at h; exact h
    | ok b ρ2 =>
      rw [q2] at h
      simp only [R.bind_ok] at h
      intro u F2 H2 fp2 w2 r2 s2 c2
      cases z : zipI (opD ρ2 a) (opD ρ2 b) with
      | none => rw [z] at h; exact h.elim
      | some ds =>
        rw [z] at h
        unfold zipI at z
        split at z
        · rename_i xs ys ex ey
          split at z
          · rename_i hl
            cases z
            obtain ⟨a1, vs, rfl, t1, p1⟩ := (opD_dq w2 (r1.mono s2) ex).list_inv
            obtain ⟨a2, us, rfl, t2, p2⟩ := (opD_dq w2 r2 ey).list_inv
            exact ⟨a1, a2, vs, us, rfl, .inl ⟨w2.sub.seq t1, w2.sub.seq t2, h _ 0 F2 H2 fp2 w2 c2 trivial trivial (itOk_zipL t1 p1 t2 p2) (of_decide_eq_true hl)⟩⟩
          · cases z
        · rename_i xs ys ex ey
          split at z
          · rename_i hl
            cases z
            obtain ⟨a1, vs, rfl, t1, p1⟩ := (opD_dq w2 (r1.mono s2) ex).tup_inv
            obtain ⟨a2, us, rfl, t2, p2⟩ := (opD_dq w2 r2 ey).tup_inv
            exact ⟨a1, a2, vs, us, rfl, .inr ⟨SqT.mono w2.sub t1.t, SqT.mono w2.sub t2.t, h _ 0 F2 H2 fp2 w2 c2 trivial trivial (itOk_zipT t1.t p1 t2.t p2) (of_decide_eq_true hl)⟩⟩
          · cases z
        · cases z
theorem src_zip {ga gb : G Op} {T : Src → Prop} (h0 : T none) : ∀ ρ it ρ', gZip ga gb ρ = .ok it ρ' → T it.src := by
  intro ρ it ρ' e
  unfold gZip G.bind at e
  cases z : ga ρ with
  | bad => rw [z] at e; cases e
  | ex x ρ1 => rw [z] at e; cases e
  | ok c ρ1 =>
    rw [z] at e
    simp only [R.bind_ok] at e
    cases z2 : gb ρ1 with
    | bad => rw [z2] at e; cases e
    | ex x ρ1 => rw [z2] at e; cases e
    | ok c2 ρ2 =>
      rw [z2] at e
      simp only [R.bind_ok] at e
      split at e
      · cases e; exact h0
      · cases e

/-! ### enumerate(list) -/
def enumP (xs : List PyData) : List PyData := xs.zipIdx.map fun p => .tuple [.int p.2, p.1]
theorem itOk_enumL {a : Addr} {vs : List V} {xs : List PyData} (s1 : SqL K F a vs) (r1 : DqAll K F vs xs) : ItOk K mg true none 0 F (enumP xs) (Ite K a) where
  go := fun ρ fp F' H' σ i w _ _ se hi => by
    have hi' : i < vs.length := by rw [r1.length]; simpa [enumP] using hi
    exact ⟨vs, vs[i], w.sub.seq (se.seq s1), List.getElem?_eq_getElem hi'⟩
  yld := fun ρ fp F' H' σ i x H2 d w _ _ se hd hy => by
    unfold enumP at hd
    rw [List.getElem?_map, List.getElem?_zipIdx] at hd
    obtain ⟨T, x2, rfl, hT, rfl, k1⟩ := hy
    cases q : xs[i]? with
    | none => rw [q] at hd; cases hd
    | some x1 =>
      rw [q] at hd
      simp only [Option.map_some, Option.some.injEq] at hd
      subst hd
      obtain ⟨u1, e1, q1⟩ := r1.get q
      have z1 := k1 vs (w.sub.seq (se.seq s1))
      rw [e1] at z1
      have z1' := Option.some.inj z1
      subst z1'
      have x := Frs.newF (p := T) (o := .tup [.int (i : Nat), u1]) w.sub hT
      exact ⟨_, x, .inr ⟨rfl, _, _, _, rfl, rfl, .of upd_same, .cons (by simpa using Dq.int (K := K) (F := upd F' T (.tup [.int (i : Nat), u1])) ((i : Nat) : Int)) (.cons (q1.mono (se.trans x.fz)) .nil)⟩⟩
  stop := fun ρ fp F' H' σ w _ _ se => ⟨vs, w.sub.seq (se.seq s1), by rw [r1.length]; simp [enumP]⟩
def enumI : Option PyData → Option (List PyData)
  | some (.list xs) => if szOk xs = true then some (enumP xs) else none
  | _ => none
def gEnum (ga : G Op) : G Itm := G.bind ga fun a => fun ρ => match enumI (opD ρ a) with
  | some ds => .ok ⟨ds, none⟩ ρ
  | none => .bad
theorem i_enum {e : Expr} {p pos tpos : Pos} {elts : List Expr} {kk : Nat} {ga : G Op} (hg : Gl X "enumerate") (hm : X.mg "enumerate" = none) (ha : PE X e (tO X.K mg W ga))
    (hs : starEach [e] X.env = [(false, eval e X.env)] := by rfl) : PI X (.Tuple elts kk tpos) (.Call (.Name "enumerate" p) [e] [] pos) (tI X.K mg W true (gEnum ga)) := by
  refine ⟨fun pins s σ H Rr I h => ?_⟩
  refine (pi_enum hg hm (pa_cons ha pa_nil hs) hs).run pins s σ H Rr I ?_
  obtain ⟨ρ, fp, F, w, h⟩ := h
  unfold gEnum G.bind at h
  refine oRun w Chg.refl ?_
  cases q : ga ρ with
  | bad => rw [q] at h; exact h.elim
  | ex x ρ' => rw [q] at h; exact h
  | ok a ρ1 =>
    rw [q] at h
    simp only [R.bind_ok] at h
    intro v F1 H1 fp1 w1 r1 s1 c1
    cases z : enumI (opD ρ1 a) with
    | none => rw [z] at h; exact h.elim
    | some ds =>
      rw [z] at h
      unfold enumI at z
      split at z
      · rename_i xs ex
        split at z
        · rename_i hl
          cases z
          obtain ⟨a1, vs, rfl, t1, p1⟩ := (opD_dq w1 r1 ex).list_inv
          exact ⟨a1, vs, rfl, w1.sub.seq t1, h _ 0 F1 H1 fp1 w1 c1 trivial trivial (itOk_enumL t1 p1) (by simpa [enumP, szOk] using hl)⟩
        · cases z
      · cases z
theorem src_enum {ga : G Op} {T : Src → Prop} (h0 : T none) : ∀ ρ it ρ', gEnum ga ρ = .ok it ρ' → T it.src := by
  intro ρ it ρ' e
  unfold gEnum G.bind at e
  cases z : ga ρ with
  | bad => rw [z] at e; cases e
  | ex x ρ1 => rw [z] at e; cases e
  | ok c ρ1 =>
    rw [z] at e
    simp only [R.bind_ok] at e
    split at e
    · cases e; exact h0
    · cases e

/-! ### x, y = a, b -/
def gPar (i j : Nat) (ga gb : G C) : G Fl := G.bind (gEs [ga, gb]) fun cs => match cs with
  | [a, b] => fun ρ => if decide (i < ρ.length ∧ j < ρ.length) = true then .ok .next ((ρ.set i (some a)).set j (some b)) else .bad
  | _ => G.bad
theorem gPar_ok {i j : Nat} (hi : i ∉ P) (hj : j ∉ P) {ga gb : G C} {D : Ends} (h : tS K mg W P (gPar i j ga gb) D σ H) : tPar i j (tEs K mg W (gEs [ga, gb])) D σ H := by
  obtain ⟨ρ, fp, F, w, h⟩ := h
  unfold gPar at h
  rw [G.bind_at] at h
  refine esRun w Chg.refl ?_
  cases q : gEs [ga, gb] ρ with
  | bad => rw [q] at h; exact h
  | ex x ρ' => rw [q] at h; exact exPostS.here h
  | ok cs ρ1 =>
    rw [q] at h
    simp only [R.bind_ok] at h
    intro vs F' H' fp' fv w' r d _ c'
    match cs, h, r with
    | [a, b], h, r =>
      simp only [Rcs] at r
      obtain ⟨v, vr, f1, f2, rfl, r1, ⟨u, ur, g1, g2, rfl, r2, ⟨rfl, n2⟩, dj2, cv2⟩, dj, cv⟩ := r
      refine ⟨v, u, rfl, ?_⟩
      simp only at h
      by_cases hl : i < ρ1.length ∧ j < ρ1.length
      · rw [if_pos (decide_eq_true hl)] at h
        obtain ⟨fpa, wa, ka⟩ := w'.put hl.1 r1 (fun a z => d a ((cv a).mpr (.inl z)))
        have f2g : ∀ a, g1 a → f2 a := fun a z => (cv2 a).mpr (.inl z)
        obtain ⟨fpb, wb, kb⟩ := wa.put (i := j) (by rw [List.length_set]; exact hl.2) r2 (fun a z y => (ka a y).elim (d a ((cv a).mpr (.inr (f2g a z)))) fun x => dj a x (f2g a z))
        refine h _ F' H' fpb wb (c'.to fun a z => ?_) fun k hk => ?_
        · rcases kb a z with y | y
          · exact (ka a y).imp id fun x => (cv a).mpr (.inl x)
          · exact .inr ((cv a).mpr (.inr (f2g a y)))
        · rw [keep_set hj k hk, keep_set hi k hk]
      · rw [if_neg (by simpa using hl)] at h
        exact h.elim
    | [], h, r => exact h.elim
    | [_], h, r => exact h.elim
    | _ :: _ :: _ :: _, h, r => exact h.elim
theorem s_par {i j : Nat} {x y : Str} {a b : Expr} {ga gb : G C} {px py pt : Pos} {kt k2 pt2} (hi : i ∉ P) (hj : j ∉ P) (hc : X.calm = true) (hN : X.N.Nodup) (hx : X.N[i]? = some x) (hy : X.N[j]? = some y) (hij : i ≠ j)
    (hxl : X.env.scope.names.lookup x = some .local) (hyl : X.env.scope.names.lookup y = some .local) (ha : PA X [a, b] (tEs X.K mg W (gEs [ga, gb])))
    (hw : swappedStores [.Tuple [.Name x px, .Name y py] kt pt] (.Tuple [a, b] k2 pt2) X.env = pure (some [x, y]))
    (hs : swapsWithSole [.Tuple [.Name x px, .Name y py] kt pt] (.Tuple [a, b] k2 pt2) pos.line X.env = pure false := by rfl) :
    PS X (.Assign [.Tuple [.Name x px, .Name y py] kt pt] (.Tuple [a, b] k2 pt2) pos) (tS X.K mg W P (gPar i j ga gb)) := (ps_par hc hN hx hy hij hxl hyl ha hw hs).imp fun _ _ _ => gPar_ok hi hj
end
end Nd

/-! Nd13: -e; defs among the texts; a def that isn't reached. -/
namespace L2
open PySem
theorem Room.u65 {k : Nat} {A : Around} (r : Room k A) : A.units + 65 < cLine := by have := r.un; omega
end L2
namespace Nd
open PySem L2
section
variable [TF] {X : Cx} {K : Frag} {mg : Str → Option Value} {W : WX} {F H : Hp} {ρ : Env} {fp : AS} {σ : St} {pos : Pos}
def gNeg (g : G Op) : G C := G.bind g fun o ρ => match deref ρ o with
  | some (.int i) => .ok (.val (.int (-i))) ρ
  | _ => .bad
theorem e_neg {e : Expr} {g : G Op} (he : PE X e (tO K mg W g)) : PE X (.UnaryOp .USub e pos) (tE K mg W (gNeg g)) := (pe_un un_neg he).imp fun σ H Q h => by
  obtain ⟨ρ, fp, F, w, h⟩ := h
  unfold gNeg G.bind at h
  refine oRun w Chg.refl ?_
  cases q : g ρ with
  | bad => rw [q] at h; exact h
  | ex x ρ' => rw [q] at h; exact h
  | ok o ρ1 =>
    rw [q] at h
    simp only [R.bind_ok] at h
    intro v F1 H1 fp1 w1 r1 s1 c1
    cases z : deref ρ1 o with
    | none => rw [z] at h; exact h.elim
    | some d =>
      rw [z] at h
      cases d with
      | int i => exact ⟨i, (deref_sh w1 r1 z).int, (fin_post w1 c1 h).val w1.sub (.int _)⟩
      | none => exact h.elim
      | bool b => exact h.elim
      | str b => exact h.elim
      | list b => exact h.elim
      | tuple b => exact h.elim
      | dict b => exact h.elim
end
section
variable [TF] {X : Cx} {K : Frag} {mg : Str → Option Value} {W : WX}
/-- an operand's data as a value -/
def vlk : Op → G C
  | .d d => G.ret (.val d)
  | .s _ => G.bad
def gVal (g : G Op) : G C := G.bind g vlk
theorem e_val {e : Expr} {g : G Op} (he : PE X e (tO K mg W g)) : PE X e (tE K mg W (gVal g)) := he.imp fun σ H Q h => by
  obtain ⟨ρ, fp, F, w, h⟩ := h
  unfold gVal G.bind at h
  refine oRun w Chg.refl ?_
  cases q : g ρ with
  | bad => rw [q] at h; exact h
  | ex x ρ' => rw [q] at h; exact h
  | ok o ρ1 =>
    rw [q] at h
    simp only [R.bind_ok] at h
    intro v F1 H1 fp1 w1 r1 s1 c1
    cases o with
    | d d => exact h v F1 H1 fp1 _ w1 (Rc.of_dp r1) (fun _ z => z.elim) c1.or_false
    | s i => exact h.elim
end
section
variable [TF] {X : Cx} {pos : Pos}
theorem pe_tyN {T : String} {x : Str} (hg : Gl X x) (hm : X.mg x = none) (hv : bootBuiltins x = some (.type T)) (hn : x ≠ "__name__" := by decide) (hd : (x == ("__debug__" : Str)) = false := by decide) : PE X (.Name x pos) (tC (.ty T)) :=
  ⟨fun pins s σ H Q I h => ld_blt I hg hm hv ⟨.ty T, H, I, rfl, h⟩ hn hd⟩
end
section
variable [TF] {Pg : Program} {w : World} {K : Frag} {mg : Str → Option Value} {base : Heap}
theorem hP_of {bs : List Bool} {P : List Nat} (h : ((List.range bs.length).all fun i => !(bs.getD i false) || decide (i ∈ P)) = true) : ∀ i : Nat, bs[i]? = some true → i ∈ P := fun i hi => by
  have hl := (List.getElem?_eq_some_iff.mp hi).1
  have := List.all_eq_true.mp h i (List.mem_range.mpr hl)
  simp only [List.getD_eq_getElem?_getD, hi, Option.getD_some, Bool.not_true, Bool.false_or, decide_eq_true_eq] at this
  exact this
/-- a def among the texts -/
structure DefAt (K : Frag) (mg : Str → Option Value) (x : Str) (st : Stmt) (ps : List Str) : Prop where
  ex : ∃ f fd, Fun K x x st f fd ∧ mg x = some (.ref f) ∧ PySem.W.keepIn K (.ref f) = true ∧ Binds K fd ps []
theorem DefAt.cal {x : Str} {st : Stmt} {N ps : List Str} {k : Nat} (D : DefAt K mg x st ps) (S : FnScope N ps (defScope st)) (P : List Nat) (bs : List Bool) {g : G Fl} (hN : ps.length ≤ N.length) (hb : bs.length = ps.length) (hP : ∀ i : Nat, bs[i]? = some true → i ∈ P)
    (hbody : ∀ (f : Addr) (cdv : Value) (hc : CodeAt K f cdv) (hf : mg x = some (.ref f)) (A : Around) (outer : List PySem.Env) (s : Shared) (H : Hp) (E : XK), Room k (A.deeper (PyProof.Rows.envOfC x (defScope st) s.heap.objs.size f cdv)) → PSs (cxOf (L2N.CX Pg w) Pg w K mg base N x (defScope st) f cdv A outer s H E) (defBody st) (tS K mg (WDef E) P g)) :
    Cal Pg w K mg base x ps.length (k + 1) (fnOf N.length bs g) := by
  obtain ⟨f, fd, F, hm, hk, hbi⟩ := D.ex
  exact ⟨⟨f, fd, ps, fn_ok F S P bs hN hb hP (fun cdv hc => hbody f cdv hc hm), hm, hk, hbi⟩⟩
theorem DefAt.none {x : Str} {st : Stmt} {ps : List Str} {k : Nat} (D : DefAt K mg x st ps) : Cal Pg w K mg base x ps.length k (fun _ => .bad) := by
  obtain ⟨f, fd, F, hm, hk, hbi⟩ := D.ex
  exact ⟨⟨f, fd, ps, ⟨fun vs H Q E h => by obtain ⟨_, _, _, e, _⟩ := h; exact e, fun A outer s H args us vs Q E hr he hb hv hs => by obtain ⟨_, _, _, _, _, _, z⟩ := hs; exact z.elim⟩, hm, hk, hbi⟩⟩
end
end Nd

/-! Nd14: the law's promise. -/
namespace Nd
open PySem PySem.Spec PyProof.Rows L2
/-- it answers True to every script -/
def spLaw [TF] (K : Frag) : Sp := fun vs H Q _ => ∃ (a : Addr) (ns : List Int), vs = [.ref a] ∧ SqL K H a (ns.map V.int) ∧ ns.length ≤ 63 ∧ (∀ p ∈ tabs K, H p.1 = some (.tbl #[])) ∧ ∀ H', Q (.bl true) H'
theorem ints_dq {K : Frag} {F : Hp} : ∀ ns : List Int, DqAll K F (ns.map V.int) (ns.map .int)
  | [] => .nil
  | n :: ns => .cons (.int n) (ints_dq ns)
open Classical in
/-- all but the tables -/
noncomputable def noTab [TF] (K : Frag) (H : Hp) : Hp := fun b => if (∃ q, (b, q) ∈ tabs K) then none else H b
theorem law_imp [TF] {Pg : Program} {w : World} {K : Frag} {mg : Str → Option Value} {base : Heap} {k : Nat} {f : Addr} {fd : FuncData} {x : Str} {fn : Fn} (F : FnOk Pg w K mg base (L2N.CX Pg w) k f fd [x] (SpOf K mg 1 fn))
    (hl : ∀ ns : List Int, ns.length ≤ 63 → ∃ cs, fn [.val (.list (ns.map .int))] = .ok (.val (.bool true)) cs) : FnOk Pg w K mg base (L2.CX Pg w) k f fd [x] (spLaw K) := by
  have z : ∀ (vs : List V) (H : Hp) (Q : VK) (E : XK), spLaw K vs H Q E → SpOf K mg 1 fn vs H Q (fun _ _ _ => False) := fun vs H Q E ⟨a, ns, e, s, hn, ht, q⟩ => by
    obtain ⟨cs, ec⟩ := hl ns hn
    subst e
    have keep : ∀ b o, H b = some o → (∀ ps, o ≠ .tbl ps) → noTab K H b = some o := fun b o h1 h2 => by
      unfold noTab
      by_cases c : ∃ q, (b, q) ∈ tabs K
      · obtain ⟨q, m⟩ := c
        have := ht _ m
        rw [this] at h1
        exact absurd (Option.some.inj h1).symm (h2 _)
      · rw [if_neg c]; exact h1
    have s' : SqL K (noTab K H) a (ns.map V.int) := by
      rcases s with (s | ⟨o, s⟩) | s
      · exact .inl (.inl (keep _ _ s (fun _ z => by cases z)))
      · exact .inl (.inr ⟨o, keep _ _ s (fun _ z => by cases z)⟩)
      · exact .inr s
    have sub : Same (noTab K H) H := fun b o h => by
      unfold noTab at h
      split at h
      · cases h
      · exact h
    have tb : Tb K (noTab K H) H (fun b => ∃ q, (b, q) ∈ tabs K) := by
      refine ⟨fun b => Iff.rfl, fun p m => ⟨?_, #[], ht p m, trivial, fun pos cv hc => ?_⟩⟩
      · unfold noTab
        exact if_pos ⟨p.2, m⟩
      · have z : codeAmong pos [] = some cv := hc
        simp [codeAmong] at z
    refine ⟨noTab K H, [.val (.list (ns.map .int))], fun b => False ∨ ∃ q, (b, q) ∈ tabs K, rfl, sub, ⟨fun _ => False, _, ?_, tb, fun _ z => z.elim, fun _ => Iff.rfl⟩, ?_⟩
    · simp only [Rcs]
      exact ⟨_, [], fun _ => False, fun _ => False, rfl, Rc.of_dp (.lst s' (ints_dq ns)), ⟨rfl, fun _ z => z⟩, fun _ z => z.elim, fun _ => by simp⟩
    · rw [ec]
      intro v F' H' fp' fv _ _ r _ _
      simp only [Rc] at r
      rw [r.1.bl_inv]
      exact q H'
  refine ⟨fun vs H Q E h => F.len vs H Q _ (z vs H Q E h), fun A outer s H args us vs Q E hr he hb hv hs => codeAny_mono (F.run A outer s H args us vs Q _ hr he hb hv (z vs H Q E hs)) fun r s' hq => ?_⟩
  cases r with
  | error e =>
    obtain ⟨_, _, _, _, _, _, _, _, _, _, _, _, q⟩ := hq
    exact q.elim
  | ok fl =>
    cases fl with
    | ret u => exact hq
    | next => exact hq
    | brk => exact hq
    | cont => exact hq
theorem noCX {Pg : Program} {w : World} (H : Hp) (s : Shared) (e : Value) (s' : Shared) (z : L2.CX Pg w [] H s (fun _ _ _ => False) e s') : False := by
  obtain ⟨_, _, _, _, _, _, _, _, _, _, _, _, z⟩ := z
  exact z
/-- a def's datum -/
def dd (x : Str) (st : Stmt) : He.DefD := ⟨(x, none), x, x, defArgs st, defBody st, defScope st, [], []⟩
theorem fun_of {K : Frag} {x qual : Str} {st : Stmt} {f : Addr} {fd : FuncData} (F : FunD K x qual (defArgs st) (defBody st) (defScope st) [] [] f fd) : Fun K x qual st f fd := by
  obtain ⟨oc, od, dV, kV, doc, pm, an, cdv, ct, osl, rfl, lk, hcd, hD, hK⟩ := F.ex
  rcases hD with ⟨_, rfl⟩ | ⟨e, _⟩
  · exact ⟨⟨oc, od, kV, doc, pm, an, cdv, ct, osl, rfl, lk, hcd⟩, F.kp⟩
  · exact absurd rfl e
section
variable [TF] {K : Frag} {h : Heap} {mg : Str → Option Value} {fas : List He.Fa} {fns : List He.DefD}
theorem defAt (X : K.In h) (G : h.Ns mainGlobals mg) (c : He.SaysD fas fns K) {x : Str} {st : Stmt} {ps : List Str} (i j : Nat)
    (hi : fns[i]? = some (dd x st)) (hj : fas[j]? = some (.glo x))
    (hb : ∀ (kV doc pm : Value) (an : Option Addr) (cdv ct : Value) (us : List Value), us.length = ps.length → bindArgs (PySem.W.fnOf x x (defArgs st) (defBody st) (defScope st) .none kV doc pm an cdv ct) ⟨us, []⟩ = pure (ps.zip us)) :
    DefAt K mg x st ps := by
  obtain ⟨fd, F⟩ := c.def_ i hi
  have e := He.glo_ok X G (c.fact j hj)
  exact ⟨⟨_, fd, fun_of F, e, F.kp, FunD.bindsN F hb⟩⟩
end
end Nd
namespace Nd
open PySem PySem.Spec PyProof.Rows L2
/-- the law's run, from what the top wrote -/
theorem walkW [TF] {l : PySem.W.OpenLaw} {k : Nat} {q : Program} {loose : List Str} {XP : (Str → Option Value) → Heap → Prop} {YP : World → Heap → Prop} {d : DefRec} {x : Str} (h63 : l.most = some 63) (nodef : d.params.defaults = []) (room : Room k callerA)
    (F : ∀ (w : World) (mg : Str → Option Value) (fa : Addr) (h : Heap), YP w h → h.Ns mainGlobals mg → mg d.name = some (.ref fa) → ∃ (K : Frag) (fd : FuncData), K.In h ∧ (∀ p ∈ TF.tf, h.get? (He.cT K p.1).2 = some { cls := .none, data := .fields #[] } ∧ K.lookup (He.cT K p.1).2 = none ∧ PySem.W.CodeHd h (He.cT K p.1).1 (He.cT K p.1).2) ∧ (∀ (s : Shared) (u : Value), BindsTo s fd ⟨[u], []⟩ [(x, u)]) ∧
      ∀ base : Heap, K.In base → base.Ns mainGlobals mg → (∀ p ∈ TF.tf, LamX.TabB base mg (He.cT K p.1).1 (He.cT K p.1).2) → FnOk l.prog w K mg base (L2.CX l.prog w) k fa fd [x] (spLaw K)) : PySem.W.WalkO q loose XP YP l.row.toRowW d [] (fun f vs => PySem.call f vs) :=
  Att.attach_call h63 nodef fun w s0 s1 mg mb fa o pm cd doc a vs ns G Y ho hd hcd hmg hobj hints hlen hg => by
    obtain ⟨K, fd, KX, hT, hb, hF⟩ := F w mg fa _ Y G.T.g hmg
    have mem : ∀ p ∈ TF.tf.map (fun p => He.cT K p.1), ∃ q ∈ TF.tf, p = He.cT K q.1 := fun p hp => by
      obtain ⟨q, h1, h2⟩ := List.mem_map.mp hp
      exact ⟨q, h1, h2.symm⟩
    refine LamX.law_callTs (cs := TF.tf.map fun p => He.cT K p.1) KX G.T.g G.T.b G.T.builtins G.T.nolimit hg (fun p hp => ?_) (fun p hp => ?_) (fun p hp => ?_) G.T.bmain hobj hints (Nat.le_trans hlen (by decide)) room (fun base b1 b2 b3 => hF base b1 b2 fun p hp => b3 _ (List.mem_map.mpr ⟨p, hp, rfl⟩)) hb (fun H hH hS => ⟨a, ns, rfl, hS, hlen, fun p hp => ?_, fun _ => rfl⟩) fun H e s' z => noCX H s1 e s' z
    · obtain ⟨q, h1, rfl⟩ := mem p hp
      exact (hT q h1).1
    · obtain ⟨q, h1, rfl⟩ := mem p hp
      exact (hT q h1).2.1
    · obtain ⟨q, h1, rfl⟩ := mem p hp
      exact (hT q h1).2.2
    · obtain ⟨q, h1, h2⟩ := List.mem_map.mp hp
      subst h2
      exact hH _ (List.mem_map.mpr ⟨q, h1, rfl⟩)
/-- a def that makes lambdas: its code object, its table -/
structure LamAt [TF] (K : Frag) (mg : Str → Option Value) (base : Heap) (cdv : Value) (q : Str) : Prop where
  ex : ∃ c P, cdv = .ref c ∧ LamX.TabB base mg c P ∧ (P, q) ∈ tabs K ∧ ∀ p ∈ tabs K, p.1 = P → p.2 = q
/-- what the walk of such a def leans on -/
def Lm [TF] (K : Frag) (mg : Str → Option Value) (base : Heap) (x q : Str) : Prop := ∀ f cdv, mg x = some (.ref f) → CodeAt K f cdv → LamAt K mg base cdv q
theorem lm_of [TF] {K : Frag} {mg : Str → Option Value} {base : Heap} {x q : Str} (hx : mg x = some (.ref (He.ga K x))) (hc : ∃ oc od osl fd c, K.lookup (He.ga K x) = some ⟨oc, od, .func fd, osl⟩ ∧ fd.code = .ref c) (hm : ((x, none), q) ∈ TF.tf) (nd : (TF.tf.map fun p => (He.cT K p.1).2).Nodup)
    (TB : ∀ p ∈ TF.tf, LamX.TabB base mg (He.cT K p.1).1 (He.cT K p.1).2) : Lm K mg base x q := fun f cdv hf ⟨oc, od, osl, fd, lk, e⟩ => by
  rw [hx] at hf
  have ef : He.ga K x = f := by
    have := Option.some.inj hf
    injection this
  subst ef
  obtain ⟨oc', od', osl', fd', c, lk', e'⟩ := hc
  rw [lk] at lk'
  have e2 := Option.some.inj lk'
  injection e2 with _ _ e3 _
  injection e3 with e3
  subst e3
  have ec : He.codeOf K (x, none) = c := He.codeOf_eq (p := (x, none)) lk e'
  refine ⟨c, _, e.symm.trans e', ?_, List.mem_map.mpr ⟨_, hm, rfl⟩, fun p hp hq => ?_⟩
  · have := TB _ hm
    show LamX.TabB base mg c (He.cT K (x, none)).2
    have e5 : (He.cT K (x, none)).1 = c := ec
    rw [← e5]
    exact this
  · obtain ⟨p0, h1, h2⟩ := List.mem_map.mp hp
    subst h2
    have q1 : (He.cT K p0.1).2 = (He.cT K (x, none)).2 := hq
    show p0.2 = q
    obtain ⟨i, hi, ei⟩ := List.mem_iff_getElem.mp h1
    obtain ⟨j, hj, ej⟩ := List.mem_iff_getElem.mp hm
    have hij : i = j := by
      refine (List.getElem_inj (h₀ := by simpa using hi) (h₁ := by simpa using hj) nd).mp ?_
      simp only [List.getElem_map, ei, ej]
      exact q1
    subst hij
    rw [ei] at ej
    rw [ej]
theorem codeFd {K : Frag} {fas : List He.Fa} {fns : List He.DefD} (c : He.SaysD fas fns K) {x : Str} {st : Stmt} (i : Nat) (hi : fns[i]? = some (dd x st)) : ∃ oc od osl fd c, K.lookup (He.ga K x) = some ⟨oc, od, .func fd, osl⟩ ∧ fd.code = .ref c := by
  obtain ⟨fd, F⟩ := c.def_ i hi
  obtain ⟨oc, od, dV, kV, doc, pm, an, cdv, ct, osl, e, lk, hcd, _, _⟩ := F.ex
  obtain ⟨c, ec⟩ := He.codeIn_ref hcd
  exact ⟨oc, od, osl, fd, c, lk, by rw [e]; exact ec⟩
end Nd

/-! Nd15: the meanings computed at a given frame. -/
namespace Nd
open PySem L2
section
variable [TF] {α β : Type} {ρ : Env}
/-! the steps' ends -/
def sq (r : R Fl) (g : G Fl) : R Fl := r.bind fun f => match f with
  | .next => g
  | .brk => G.ret .brk
  | .cont => G.ret .cont
  | .ret c => G.ret (.ret c)
@[simp] theorem sq_next {g} : sq (.ok .next ρ) g = g ρ := rfl
@[simp] theorem sq_brk {g} : sq (.ok .brk ρ) g = .ok .brk ρ := rfl
@[simp] theorem sq_cont {g} : sq (.ok .cont ρ) g = .ok .cont ρ := rfl
@[simp] theorem sq_ret {g c} : sq (.ok (.ret c) ρ) g = .ok (.ret c) ρ := rfl
@[simp] theorem sq_ex {g x} : sq (.ex x ρ) g = .ex x ρ := rfl
@[simp] theorem sq_bad {g} : sq .bad g = .bad := rfl
def tst (r : R Bool) (a b : G α) : R α := r.bind fun t => if t = true then a else b
@[simp] theorem tst_o {t : Bool} {a b : G α} : tst (.ok t ρ) a b = if t = true then a ρ else b ρ := by unfold tst; cases t <;> rfl
@[simp] theorem tst_ex {x} {a b : G α} : tst (.ex x ρ) a b = .ex x ρ := rfl
@[simp] theorem tst_bad {a b : G α} : tst .bad a b = .bad := rfl
def fin (o : Option α) (ρ : Env) : R α := gFin o ρ
@[simp] theorem fin_some {c : α} : fin (some c) ρ = .ok c ρ := rfl
@[simp] theorem fin_none : fin (none : Option α) ρ = .bad := rfl
theorem fin_if {p : Prop} [Decidable p] {c : α} : fin (if p then some c else none) ρ = if p then .ok c ρ else .bad := by split <;> rfl
def dsl : Option (Option C) → Option PyData
  | some (some c) => shal c
  | _ => none
@[simp] theorem dsl_some {c : C} : dsl (some (some c)) = shal c := rfl
@[simp] theorem shal_val {d} : shal (.val d) = some d := rfl
@[simp] theorem shal_lst {cs} : shal (.lst cs) = (vals cs).map .list := rfl
@[simp] theorem vals_nil : vals [] = some [] := rfl
@[simp] theorem vals_cons {d r} : vals (.val d :: r) = (vals r).map (d :: ·) := rfl
@[simp] theorem vals_map (ds : List PyData) : vals (ds.map .val) = some ds := by induction ds with
  | nil => rfl
  | cons d r ih => simp [ih]
theorem vals_app {cs es : List C} {ds fs : List PyData} (h : vals cs = some ds) (k : vals es = some fs) : vals (cs ++ es) = some (ds ++ fs) := by
  induction cs generalizing ds with
  | nil => simp at h; subst h; exact k
  | cons c r ih =>
    cases c with
    | val d =>
      simp only [vals_cons, Option.map_eq_some_iff] at h
      obtain ⟨r', h1, h2⟩ := h
      subst h2
      simp [ih h1]
    | tup _ => simp [vals] at h
    | lst _ => simp [vals] at h
    | dic _ _ => simp [vals] at h
    | obj _ _ _ => simp [vals] at h
    | ref _ => simp [vals] at h
    | lam _ _ _ => simp [vals] at h
@[simp] theorem fz_val {d} : fz (.val d) = some d := rfl
@[simp] theorem fz_lst {cs} : fz (.lst cs) = (fzs cs).map .list := rfl
@[simp] theorem fz_tup {cs} : fz (.tup cs) = (fzs cs).map .tuple := rfl
@[simp] theorem fzs_nil : fzs [] = some [] := rfl
theorem fzs_cons {c cs} : fzs (c :: cs) = (fz c).bind fun d => (fzs cs).map (d :: ·) := by
  simp only [fzs]
  cases fz c <;> cases fzs cs <;> rfl
@[simp] theorem fzs_cv {d cs} : fzs (.val d :: cs) = (fzs cs).map (d :: ·) := by rw [fzs_cons]; rfl
@[simp] theorem fzs_cl {c cs} : fzs (.lst c :: cs) = (fz (.lst c)).bind fun d => (fzs cs).map (d :: ·) := fzs_cons
@[simp] theorem fzs_ct {c cs} : fzs (.tup c :: cs) = (fz (.tup c)).bind fun d => (fzs cs).map (d :: ·) := fzs_cons
@[simp] theorem fzs_map (ds : List PyData) : fzs (ds.map .val) = some ds := by induction ds with
  | nil => rfl
  | cons d r ih => simp [ih]
@[simp] theorem deref_d {d} : deref ρ (.d d) = some d := rfl
@[simp] theorem deref_s {i} : deref ρ (.s i) = dsl ρ[i]? := rfl
def dcons : Option PyData → Option (List PyData) → Option (List PyData)
  | some d, some ds => some (d :: ds)
  | _, _ => none
@[simp] theorem dcons_some {d ds} : dcons (some d) (some ds) = some (d :: ds) := rfl
@[simp] theorem derefs_nil : derefs ρ [] = some [] := rfl
@[simp] theorem derefs_cons {o os} : derefs ρ (o :: os) = dcons (deref ρ o) (derefs ρ os) := rfl
/-! ### expressions -/
@[simp] theorem ret_at {a : α} : G.ret a ρ = .ok a ρ := rfl
@[simp] theorem bad_at : (G.bad : G α) ρ = .bad := rfl
@[simp] theorem off_at : (gOff : G α) ρ = .bad := rfl
@[simp] theorem bind_at {g : G α} {f : α → G β} : G.bind g f ρ = (g ρ).bind f := rfl
def o2m (f : PyData → PyData → Option α) : Option PyData → Option PyData → Env → R α
  | some x, some y, ρ => fin (f x y) ρ
  | _, _, _ => .bad
@[simp] theorem o2m_some {f : PyData → PyData → Option α} {x y} : o2m f (some x) (some y) ρ = fin (f x y) ρ := rfl
def o2 (f : PyData → PyData → Option α) (a b : Op) : G α := fun ρ => o2m f (deref ρ a) (deref ρ b) ρ
@[simp] theorem o2_at {f : PyData → PyData → Option α} {a b} : o2 f a b ρ = o2m f (deref ρ a) (deref ρ b) ρ := rfl
theorem o2_eq {f : PyData → PyData → Option α} {a b : Op} : (fun ρ => match deref ρ a, deref ρ b with | some x, some y => gFin (f x y) ρ | _, _ => .bad : G α) = o2 f a b := by
  funext ρ
  simp only [o2_at]
  cases deref ρ a <;> cases deref ρ b <;> rfl
@[simp] theorem gOp2_at {f ga gb} : gOp2 f ga gb ρ = (ga ρ).bind fun a => G.bind gb (o2 f a) := by
  show (ga ρ).bind _ = _
  congr 1
  funext a
  unfold G.bind
  funext ρ
  congr 1
  funext b ρ
  simp only [o2_at]
  cases deref ρ a <;> cases deref ρ b <;> rfl
@[simp] theorem gT2_at {f ga gb} : gT2 f ga gb ρ = (ga ρ).bind fun a => G.bind gb (o2 f a) := by
  show (ga ρ).bind _ = _
  congr 1
  funext a
  unfold G.bind
  funext ρ
  congr 1
  funext b ρ
  simp only [o2_at]
  cases deref ρ a <;> cases deref ρ b <;> rfl
@[simp] theorem gOs_nil : gOs [] ρ = .ok [] ρ := rfl
@[simp] theorem gOs_cons {g gs} : gOs (g :: gs) ρ = (g ρ).bind fun o => G.bind (gOs gs) fun os => G.ret (o :: os) := rfl
@[simp] theorem gEs_nil : gEs [] ρ = .ok [] ρ := rfl
@[simp] theorem gEs_cons {g gs} : gEs (g :: gs) ρ = (g ρ).bind fun o => G.bind (gEs gs) fun os => G.ret (o :: os) := rfl
@[simp] theorem gAs_nil : gAs [] ρ = .ok [] ρ := rfl
@[simp] theorem gAs_cons {g gs} : gAs (g :: gs) ρ = (g ρ).bind fun o => G.bind (gAs gs) fun os => G.ret (o :: os) := rfl
def onm (f : List PyData → Option C) : Option (List PyData) → Env → R C
  | some ds, ρ => fin (f ds) ρ
  | none, _ => .bad
@[simp] theorem onm_some {f ds} : onm f (some ds) ρ = fin (f ds) ρ := rfl
def onk (f : List PyData → Option C) (os : List Op) : G C := fun ρ => onm f (derefs ρ os) ρ
@[simp] theorem onk_at {f os} : onk f os ρ = onm f (derefs ρ os) ρ := rfl
@[simp] theorem gOpN_at {f g} : gOpN f g ρ = (g ρ).bind (onk f) := by
  show (g ρ).bind _ = _
  congr 1
  funext os ρ
  simp only [onk_at]
  cases derefs ρ os <;> rfl
def trk (c : C) : G Bool := fun ρ => fin (tru c) ρ
@[simp] theorem trk_at {c} : trk c ρ = fin (tru c) ρ := rfl
@[simp] theorem gTru_at {g} : gTru g ρ = (g ρ).bind trk := rfl
@[simp] theorem tru_bool {b} : tru (.val (.bool b)) = some b := rfl
@[simp] theorem gB_at {g} : gB g ρ = (g ρ).bind fun b => G.ret (.val (.bool b)) := rfl
@[simp] theorem gAnd_at {g g'} : gAnd g g' ρ = tst (g ρ) g' (G.ret false) := rfl
@[simp] theorem gOr_at {g g'} : gOr g g' ρ = tst (g ρ) (G.ret true) g' := rfl
@[simp] theorem gNot_at {g} : Nd.gNot g ρ = (g ρ).bind fun b => G.ret (!b) := rfl
@[simp] theorem gIf_at {t} {a b : G α} : gIf t a b ρ = tst (t ρ) a b := rfl
@[simp] theorem gIfS_at {t a b} : gIfS t a b ρ = tst (t ρ) a b := rfl
def avk (g : G C) (c : C) : G C := fun ρ => tst (trk c ρ) g (G.ret (.val (.bool false)))
def ovk (g : G C) (c : C) : G C := fun ρ => tst (trk c ρ) (G.ret (.val (.bool true))) g
def nvk (c : C) : G C := fun ρ => (trk c ρ).bind fun b => G.ret (.val (.bool (!b)))
@[simp] theorem avk_at {g c} : avk g c ρ = tst (trk c ρ) g (G.ret (.val (.bool false))) := rfl
@[simp] theorem ovk_at {g c} : ovk g c ρ = tst (trk c ρ) (G.ret (.val (.bool true))) g := rfl
@[simp] theorem nvk_at {c} : nvk c ρ = (trk c ρ).bind fun b => G.ret (.val (.bool (!b))) := rfl
@[simp] theorem gAndV_at {g g'} : gAndV g g' ρ = (g ρ).bind (avk g') := by
  show (g ρ).bind _ = _
  congr 1
  funext c ρ
  simp only [avk_at, trk_at]
  cases tru c with
  | none => rfl
  | some b => cases b <;> rfl
@[simp] theorem gOrV_at {g g'} : gOrV g g' ρ = (g ρ).bind (ovk g') := by
  show (g ρ).bind _ = _
  congr 1
  funext c ρ
  simp only [ovk_at, trk_at]
  cases tru c with
  | none => rfl
  | some b => cases b <;> rfl
@[simp] theorem gNotV_at {g} : gNotV g ρ = (g ρ).bind nvk := by
  show (g ρ).bind _ = _
  congr 1
  funext c ρ
  simp only [nvk_at, trk_at]
  cases tru c <;> rfl
def mkt : Option (List PyData) → List C → C
  | some ds, _ => .val (.tuple ds)
  | none, cs => .tup cs
@[simp] theorem mkt_some {ds cs} : mkt (some ds) cs = .val (.tuple ds) := rfl
@[simp] theorem mkTup_eq {cs} : mkTup cs = mkt (vals cs) cs := by unfold mkTup; cases vals cs <;> rfl
def tuk (cs : List C) : G C := G.ret (mkTup cs)
@[simp] theorem tuk_at {cs} : tuk cs ρ = .ok (mkTup cs) ρ := rfl
@[simp] theorem gTup_at {gs} : gTup gs ρ = (gEs gs ρ).bind tuk := rfl
theorem vals_eq : ∀ {cs : List C} {ds : List PyData}, vals cs = some ds → cs = ds.map .val
  | [], ds, h => by simp at h; subst h; rfl
  | .val d :: r, ds, h => by
    simp only [vals_cons, Option.map_eq_some_iff] at h
    obtain ⟨r', h1, h2⟩ := h
    subst h2
    simp [vals_eq h1]
  | .tup _ :: _, ds, h => by simp [vals] at h
  | .lst _ :: _, ds, h => by simp [vals] at h
  | .dic _ _ :: _, ds, h => by simp [vals] at h
  | .obj _ _ _ :: _, ds, h => by simp [vals] at h
  | .ref _ :: _, ds, h => by simp [vals] at h
  | .lam _ _ _ :: _, ds, h => by simp [vals] at h
def lsm : Option (List PyData) → List C → C
  | some ds, _ => mkL ds
  | none, cs => .lst cs
@[simp] theorem lsm_some {ds cs} : lsm (some ds) cs = mkL ds := rfl
def luk (cs : List C) : G C := G.ret (.lst cs)
@[simp] theorem luk_at {cs} : luk cs ρ = .ok (lsm (vals cs) cs) ρ := by
  show R.ok (C.lst cs) ρ = _
  cases h : vals cs with
  | none => rfl
  | some ds => rw [lsm_some, mkL, ← vals_eq h]
@[simp] theorem gLst_at {gs} : gLst gs ρ = (gEs gs ρ).bind luk := rfl
def slt (i : Nat) : Option (Option C) → Env → R Op
  | some (some _), ρ => .ok (.s i) ρ
  | _, _ => .bad
@[simp] theorem slt_some {i c} : slt i (some (some c)) ρ = .ok (.s i) ρ := rfl
@[simp] theorem gSlot_at {i} : gSlot i ρ = slt i ρ[i]? ρ := by
  unfold gSlot
  cases ρ[i]? with
  | none => rfl
  | some o => cases o <;> rfl
def nmk (i : Nat) : Option (Option C) → Env → R C
  | some (some (.val d)), ρ => .ok (.val d) ρ
  | some (some (.ref a)), ρ => .ok (.ref a) ρ
  | some (some (.lam n q o)), ρ => .ok (.lam n q o) ρ
  | some (some c), ρ => .ok c (ρ.set i none)
  | _, _ => .bad
@[simp] theorem nmk_val {i d} : nmk i (some (some (.val d))) ρ = .ok (.val d) ρ := rfl
@[simp] theorem nmk_ref {i a} : nmk i (some (some (.ref a))) ρ = .ok (.ref a) ρ := rfl
@[simp] theorem nmk_lam {i n q o} : nmk i (some (some (.lam n q o))) ρ = .ok (.lam n q o) ρ := rfl
@[simp] theorem nmk_tup {i d} : nmk i (some (some (.tup d))) ρ = .ok (.tup d) (ρ.set i none) := rfl
@[simp] theorem nmk_dic {i k d} : nmk i (some (some (.dic k d))) ρ = .ok (.dic k d) (ρ.set i none) := rfl
@[simp] theorem nmk_obj {i c k d} : nmk i (some (some (.obj c k d))) ρ = .ok (.obj c k d) (ρ.set i none) := rfl
@[simp] theorem nmk_lst {i d} : nmk i (some (some (.lst d))) ρ = .ok (.lst d) (ρ.set i none) := rfl
@[simp] theorem nmk_mkL {i d} : nmk i (some (some (mkL d))) ρ = .ok (mkL d) (ρ.set i none) := rfl
@[simp] theorem gName_at {i} : Nd.gName i ρ = nmk i ρ[i]? ρ := by
  unfold Nd.gName
  cases ρ[i]? with
  | none => rfl
  | some o =>
    cases o with
    | none => rfl
    | some c => cases c <;> rfl
@[simp] theorem gC_at {d} : gC d ρ = .ok (.val d) ρ := rfl
@[simp] theorem oC_at {d} : oC d ρ = .ok (.d d) ρ := rfl
def fzm : Option PyData → Env → R Op
  | some d, ρ => .ok (.d d) ρ
  | none, _ => .bad
@[simp] theorem fzm_some {d} : fzm (some d) ρ = .ok (.d d) ρ := rfl
def fzk (c : C) : G Op := fun ρ => fzm (fz c) ρ
@[simp] theorem fzk_at {c} : fzk c ρ = fzm (fz c) ρ := rfl
@[simp] theorem gFz_at {g} : gFz g ρ = (g ρ).bind fzk := by
  show (g ρ).bind _ = _
  congr 1
  funext c ρ
  simp only [fzk_at]
  cases fz c <;> rfl
@[simp] theorem vlk_d {d} : vlk (.d d) ρ = .ok (.val d) ρ := rfl
@[simp] theorem gVal_at {g} : gVal g ρ = (g ρ).bind vlk := rfl
def ask (p : PyData → Bool) : Option PyData → Env → R C
  | some d, ρ => .ok (.val (.bool (p d))) ρ
  | none, _ => .bad
@[simp] theorem ask_some {p d} : ask p (some d) ρ = .ok (.val (.bool (p d))) ρ := rfl
def askk (p : PyData → Bool) (o : Op) : G C := fun ρ => ask p (deref ρ o) ρ
@[simp] theorem askk_at {p o} : askk p o ρ = ask p (deref ρ o) ρ := rfl
@[simp] theorem gAsk_at {p g} : gAsk p g ρ = (g ρ).bind (askk p) := by
  show (g ρ).bind _ = _
  congr 1
  funext o ρ
  simp only [askk_at]
  cases deref ρ o <;> rfl
def neg : Option PyData → Env → R C
  | some (.int i), ρ => .ok (.val (.int (-i))) ρ
  | _, _ => .bad
@[simp] theorem neg_some {i} : neg (some (.int i)) ρ = .ok (.val (.int (-i))) ρ := rfl
def negk (o : Op) : G C := fun ρ => neg (deref ρ o) ρ
@[simp] theorem negk_at {o} : negk o ρ = neg (deref ρ o) ρ := rfl
@[simp] theorem gNeg_at {g} : gNeg g ρ = (g ρ).bind negk := by
  show (g ρ).bind _ = _
  congr 1
  funext o ρ
  simp only [negk_at]
  cases deref ρ o with
  | none => rfl
  | some d => cases d <;> rfl
def rvm : Option PyData → Env → R C
  | some d, ρ => fin (revD d) ρ
  | none, _ => .bad
@[simp] theorem rvm_some {d} : rvm (some d) ρ = fin (revD d) ρ := rfl
@[simp] theorem revD_t {ds} : revD (.tuple ds) = some (.val (.tuple ds.reverse)) := rfl
def rvk (o : Op) : G C := fun ρ => rvm (deref ρ o) ρ
@[simp] theorem rvk_at {o} : rvk o ρ = rvm (deref ρ o) ρ := rfl
@[simp] theorem gRev_at {g} : gRev g ρ = (g ρ).bind rvk := by
  show (g ρ).bind _ = _
  congr 1
  funext o ρ
  simp only [rvk_at]
  cases deref ρ o <;> rfl
def prm : Option PyData → Env → R (Option Int)
  | some (.int i), ρ => .ok (some i) ρ
  | _, _ => .bad
@[simp] theorem prm_some {i} : prm (some (.int i)) ρ = .ok (some i) ρ := rfl
def prk (o : Op) : G (Option Int) := fun ρ => prm (deref ρ o) ρ
@[simp] theorem prk_at {o} : prk o ρ = prm (deref ρ o) ρ := rfl
@[simp] theorem gPart_at {g} : gPart g ρ = (g ρ).bind prk := by
  show (g ρ).bind _ = _
  congr 1
  funext o ρ
  simp only [prk_at]
  cases deref ρ o with
  | none => rfl
  | some d => cases d <;> rfl
def slm (lo hi : Option Int) : Option PyData → Env → R C
  | some d, ρ => fin (slD d lo hi) ρ
  | none, _ => .bad
@[simp] theorem slm_some {lo hi d} : slm lo hi (some d) ρ = fin (slD d lo hi) ρ := rfl
@[simp] theorem slD_l {ds lo hi} : slD (.list ds) lo hi = some (mkL (cutD ds lo hi)) := rfl
@[simp] theorem slD_t {ds lo hi} : slD (.tuple ds) lo hi = some (.val (.tuple (cutD ds lo hi))) := rfl
def slk (o : Op) (lo hi : Option Int) : G C := fun ρ => slm lo hi (deref ρ o) ρ
@[simp] theorem slk_at {o lo hi} : slk o lo hi ρ = slm lo hi (deref ρ o) ρ := rfl
@[simp] theorem gSl_at {g gl gh} : gSl g gl gh ρ = (g ρ).bind fun o => G.bind gl fun lo => G.bind gh (slk o lo) := by
  show (g ρ).bind _ = _
  congr 1
  funext o
  unfold G.bind
  funext ρ
  congr 1
  funext lo ρ
  congr 1
  funext hi ρ
  simp only [slk_at]
  cases deref ρ o <;> rfl
def chn (f' : PyData → PyData → Option Bool) (gc : G Op) (b : Op) : Option Bool → Env → R Bool
  | some t, ρ => tst (.ok t ρ) (G.bind gc (o2 f' b)) (G.ret false)
  | none, _ => .bad
@[simp] theorem chn_some {f' gc b t} : chn f' gc b (some t) ρ = tst (.ok t ρ) (G.bind gc (o2 f' b)) (G.ret false) := rfl
def chm (f f' : PyData → PyData → Option Bool) (gc : G Op) (b : Op) : Option PyData → Option PyData → Env → R Bool
  | some x, some y, ρ => chn f' gc b (f x y) ρ
  | _, _, _ => .bad
@[simp] theorem chm_some {f f' gc b x y} : chm f f' gc b (some x) (some y) ρ = chn f' gc b (f x y) ρ := rfl
def chk2 (f f' : PyData → PyData → Option Bool) (gc : G Op) (a b : Op) : G Bool := fun ρ => chm f f' gc b (deref ρ a) (deref ρ b) ρ
@[simp] theorem chk2_at {f f' gc a b} : chk2 f f' gc a b ρ = chm f f' gc b (deref ρ a) (deref ρ b) ρ := rfl
@[simp] theorem gCh_at {f f' ga gb gc} : gCh f f' ga gb gc ρ = (ga ρ).bind fun a => G.bind gb (chk2 f f' gc a) := by
  show (ga ρ).bind _ = _
  congr 1
  funext a
  unfold G.bind
  funext ρ
  congr 1
  funext b ρ
  simp only [chk2_at]
  cases deref ρ a with
  | none => rfl
  | some x =>
    cases deref ρ b with
    | none => rfl
    | some y =>
      simp only [chm_some]
      cases f x y with
      | none => rfl
      | some t =>
        cases t with
        | false => rfl
        | true =>
          simp only [chn_some, tst_o, if_true, bind_at]
          congr 1
          funext c ρ2
          simp only [o2_at]
          cases deref ρ2 b <;> cases deref ρ2 c <;> rfl
/-! ### statements -/
@[simp] theorem gNext_at : gNext ρ = .ok .next ρ := rfl
@[simp] theorem gBrk_at : gBrk ρ = .ok .brk ρ := rfl
@[simp] theorem gCont_at : gCont ρ = .ok .cont ρ := rfl
@[simp] theorem gRetN_at : gRetN ρ = .ok (.ret (.val .none)) ρ := rfl
@[simp] theorem gSeq_at {g g'} : gSeq g g' ρ = sq (g ρ) g' := rfl
@[simp] theorem gRet_at {g} : gRet g ρ = (g ρ).bind fun c => G.ret (.ret c) := rfl
@[simp] theorem gDrop_at {g} : gDrop g ρ = (g ρ).bind fun _ => G.ret .next := rfl
@[simp] theorem put_at {i c} : Nd.put i c ρ = if i < ρ.length then .ok .next (ρ.set i (some c)) else .bad := by
  unfold Nd.put
  by_cases h : i < ρ.length <;> simp [h]
@[simp] theorem gSet_at {i g} : gSet i g ρ = (g ρ).bind (Nd.put i) := rfl
def asm : Option Env → R Fl
  | some ρ => .ok .next ρ
  | none => .bad
@[simp] theorem asm_some : asm (some ρ) = .ok .next ρ := rfl
def ask1 (p : Pat) : Op → G Fl
  | .d d => fun ρ => asm (asg p d ρ)
  | .s _ => fun _ => .bad
@[simp] theorem ask1_at {p d} : ask1 p (.d d) ρ = asm (asg p d ρ) := rfl
@[simp] theorem gAsg_at {p g} : gAsg p g ρ = (g ρ).bind (ask1 p) := by
  show (g ρ).bind _ = _
  congr 1
  funext o ρ
  cases o with
  | s i => rfl
  | d d =>
    simp only [ask1_at]
    cases asg p d ρ <;> rfl
@[simp] theorem asg_nm {i d} : asg (.nm i) d ρ = if i < ρ.length then some (ρ.set i (some (.val d))) else none := by
  simp only [asg]
  by_cases h : i < ρ.length <;> simp [h]
@[simp] theorem asg_tu {ps ds} : asg (.tu ps) (.tuple ds) ρ = asgs ps ds ρ := rfl
@[simp] theorem asgs_nil : asgs [] [] ρ = some ρ := rfl
@[simp] theorem asgs_cons {p ps d ds} : asgs (p :: ps) (d :: ds) ρ = (asg p d ρ).bind fun ρ' => asgs ps ds ρ' := rfl
def park (i j : Nat) : List C → G Fl
  | [a, b] => fun ρ => if i < ρ.length ∧ j < ρ.length then .ok .next ((ρ.set i (some a)).set j (some b)) else .bad
  | _ => G.bad
@[simp] theorem park_at {i j a b} : park i j [a, b] ρ = if i < ρ.length ∧ j < ρ.length then .ok .next ((ρ.set i (some a)).set j (some b)) else .bad := rfl
@[simp] theorem gPar_at {i j ga gb} : gPar i j ga gb ρ = (gEs [ga, gb] ρ).bind (park i j) := by
  show (gEs [ga, gb] ρ).bind _ = _
  congr 1
  funext cs ρ
  match cs with
  | [a, b] =>
    simp only [park_at]
    by_cases h : i < ρ.length ∧ j < ρ.length <;> simp [h]
  | [] => rfl
  | [_] => rfl
  | _ :: _ :: _ :: _ => rfl
def hsm : Option (Option C) → Env → R Unit
  | some (some (.lst _)), ρ => .ok () ρ
  | _, _ => .bad
@[simp] theorem hsm_lst {cs} : hsm (some (some (.lst cs))) ρ = .ok () ρ := rfl
@[simp] theorem hsm_mkL {cs} : hsm (some (some (mkL cs))) ρ = .ok () ρ := rfl
@[simp] theorem gHas_at {i} : gHas i ρ = hsm ρ[i]? ρ := by
  unfold gHas
  cases ρ[i]? with
  | none => rfl
  | some o =>
    cases o with
    | none => rfl
    | some c => cases c <;> rfl
def sto (i : Nat) (d : PyData) (cs : List C) : Option Nat → Env → R Fl
  | some j, ρ => .ok .next (ρ.set i (some (.lst (cs.set j (.val d)))))
  | none, _ => .bad
@[simp] theorem sto_some {i d cs j} : sto i d cs (some j) ρ = .ok .next (ρ.set i (some (.lst (cs.set j (.val d))))) := rfl
def stm (i : Nat) (d : PyData) : Option (Option C) → Option PyData → Env → R Fl
  | some (some (.lst cs)), some (.int k), ρ => sto i d cs (ixN cs.length k) ρ
  | _, _, _ => .bad
@[simp] theorem stm_some {i d cs k} : stm i d (some (some (.lst cs))) (some (.int k)) ρ = sto i d cs (ixN cs.length k) ρ := rfl
def stoL (i : Nat) (d : PyData) (ds : List PyData) : Option Nat → Env → R Fl
  | some j, ρ => .ok .next (ρ.set i (some (mkL (ds.set j d))))
  | none, _ => .bad
@[simp] theorem stoL_some {i d cs j} : stoL i d cs (some j) ρ = .ok .next (ρ.set i (some (mkL (cs.set j d)))) := rfl
@[simp] theorem stm_mkL {i d ds k} : stm i d (some (some (mkL ds))) (some (.int k)) ρ = stoL i d ds (ixN ds.length k) ρ := by
  show sto i d (ds.map C.val) (ixN (ds.map C.val).length k) ρ = _
  rw [List.length_map]
  cases ixN ds.length k with
  | none => rfl
  | some j => simp only [sto_some, stoL_some, mkL, List.map_set]
@[simp] theorem storeAt_at {i d o} : storeAt i d o ρ = stm i d ρ[i]? (deref ρ o) ρ := by
  unfold storeAt
  cases ρ[i]? with
  | none => rfl
  | some oc =>
    cases oc with
    | none => rfl
    | some c =>
      cases c with
      | lst cs =>
        cases deref ρ o with
        | none => rfl
        | some d =>
          cases d with
          | int k =>
            simp only [stm_some]
            cases ixN cs.length k <;> rfl
          | _ => rfl
      | _ => rfl
def stk (i : Nat) (gi : G Op) : Op → G Fl
  | .d d => G.bind (gHas i) fun _ => G.bind gi (storeAt i d)
  | .s _ => G.bad
@[simp] theorem stk_at {i gi d} : stk i gi (.d d) ρ = (gHas i ρ).bind fun _ => G.bind gi (storeAt i d) := rfl
@[simp] theorem gStore_at {i gi g} : gStore i gi g ρ = (gFz g ρ).bind (stk i gi) := by
  show (gFz g ρ).bind _ = _
  refine congrArg (R.bind (gFz g ρ)) ?_
  funext o
  cases o <;> rfl
def grm (i : Nat) (c : C) : Option (Option C) → Env → R C
  | some (some (.lst cs)), ρ => if cs.length < sizeLine then .ok (.val .none) (ρ.set i (some (.lst (cs ++ [c])))) else .bad
  | _, _ => .bad
@[simp] theorem grm_lst {i c cs} : grm i c (some (some (.lst cs))) ρ = if cs.length < sizeLine then .ok (.val .none) (ρ.set i (some (.lst (cs ++ [c])))) else .bad := rfl
@[simp] theorem grm_mkL {i d ds} : grm i (.val d) (some (some (mkL ds))) ρ = if ds.length < sizeLine then .ok (.val .none) (ρ.set i (some (mkL (ds ++ [d])))) else .bad := by
  show (if (ds.map C.val).length < sizeLine then _ else _) = _
  rw [List.length_map]
  simp [mkL]
@[simp] theorem grow_at {i c} : grow i c ρ = grm i c ρ[i]? ρ := by
  unfold grow
  cases ρ[i]? with
  | none => rfl
  | some oc =>
    cases oc with
    | none => rfl
    | some c' =>
      cases c' with
      | lst cs =>
        simp only [grm_lst]
        by_cases h : cs.length < sizeLine <;> simp [h]
      | _ => rfl
@[simp] theorem gApp_at {i g} : gApp i g ρ = (gHas i ρ).bind fun _ => G.bind g (grow i) := rfl
/-! ### calls -/
@[simp] theorem gArg_at {g} : gArg g ρ = (g ρ).bind fun c => G.ret (.c c) := rfl
def lnm (i : Nat) : Option (Option C) → Env → R Arg
  | some (some _), ρ => .ok (.s i) ρ
  | _, _ => .bad
@[simp] theorem lnm_some {i c} : lnm i (some (some c)) ρ = .ok (.s i) ρ := rfl
@[simp] theorem gLent_at {i} : gLent i ρ = lnm i ρ[i]? ρ := by
  unfold gLent
  cases ρ[i]? with
  | none => rfl
  | some o => cases o <;> rfl
@[simp] theorem lent_nil : lent [] = [] := rfl
@[simp] theorem lent_c {c r} : lent (.c c :: r) = lent r := rfl
@[simp] theorem lent_s {i r} : lent (.s i :: r) = i :: lent r := rfl
@[simp] theorem conts_nil : conts ρ [] = some [] := rfl
@[simp] theorem conts_c {c r} : conts ρ (.c c :: r) = (conts ρ r).map (c :: ·) := rfl
def cnm : Option (Option C) → Option (List C) → Option (List C)
  | some (some c), some cs => some (c :: cs)
  | _, _ => none
@[simp] theorem cnm_some {c cs} : cnm (some (some c)) (some cs) = some (c :: cs) := rfl
@[simp] theorem conts_s {i r} : conts ρ (.s i :: r) = cnm ρ[i]? (conts ρ r) := by
  simp only [conts]
  cases ρ[i]? with
  | none => cases conts ρ r <;> rfl
  | some o => cases o <;> cases conts ρ r <;> rfl
@[simp] theorem lendE_nil : lendE ρ [] = ρ := rfl
@[simp] theorem lendE_c {c r} : lendE ρ (.c c :: r) = lendE ρ r := rfl
@[simp] theorem lendE_s {i r} : lendE ρ (.s i :: r) = (lendE ρ r).set i none := rfl
@[simp] theorem backE_nil {cs} : backE [] cs ρ = ρ := by cases cs <;> rfl
@[simp] theorem backE_c {c c' r cs} : backE (.c c :: r) (c' :: cs) ρ = backE r cs ρ := rfl
@[simp] theorem backE_s {i c' r cs} : backE (.s i :: r) (c' :: cs) ρ = (backE r cs ρ).set i (some c') := rfl
def clr (as : List Arg) (ρ : Env) : RF → R C
  | .ok r cs' => .ok r (backE as cs' (lendE ρ as))
  | .ex x cs' => .ex x (backE as cs' (lendE ρ as))
  | .bad => .bad
@[simp] theorem clr_ok {as r cs} : clr as ρ (.ok r cs) = .ok r (backE as cs (lendE ρ as)) := rfl
@[simp] theorem clr_ex {as x cs} : clr as ρ (.ex x cs) = .ex x (backE as cs (lendE ρ as)) := rfl
def clm (f : Fn) (as : List Arg) : Option (List C) → Env → R C
  | some cs, ρ => clr as ρ (f cs)
  | none, _ => .bad
@[simp] theorem clm_some {f as cs} : clm f as (some cs) ρ = clr as ρ (f cs) := rfl
def clk (f : Fn) (as : List Arg) : G C := fun ρ => if (lent as).Nodup then clm f as (conts ρ as) ρ else .bad
@[simp] theorem clk_at {f as} : clk f as ρ = if (lent as).Nodup then clm f as (conts ρ as) ρ else .bad := rfl
@[simp] theorem gCallF_at {f g} : gCallF f g ρ = (g ρ).bind (clk f) := by
  show (g ρ).bind _ = _
  congr 1
  funext as ρ
  simp only [clk_at]
  by_cases h : (lent as).Nodup
  · simp only [h, decide_true, if_true]
    cases conts ρ as with
    | none => rfl
    | some cs =>
      simp only [clm_some]
      cases f cs <;> rfl
  · simp [h]
def ends (bs : List Bool) (cs : List C) : R Fl → RF
  | .ok .next ρ => match backs bs cs ρ with
    | some cs' => .ok (.val .none) cs'
    | none => .bad
  | .ok (.ret c) ρ => match backs bs cs ρ with
    | some cs' => .ok c cs'
    | none => .bad
  | .ex x ρ => match backs bs cs ρ with
    | some cs' => .ex x cs'
    | none => .bad
  | _ => .bad
def bko (c : C) : Option (List C) → RF
  | some cs => .ok c cs
  | none => .bad
@[simp] theorem bko_some {c cs} : bko c (some cs) = .ok c cs := rfl
@[simp] theorem ends_next {bs cs} : ends bs cs (.ok .next ρ) = bko (.val .none) (backs bs cs ρ) := by
  simp only [ends]; cases backs bs cs ρ <;> rfl
@[simp] theorem ends_ret {bs cs c} : ends bs cs (.ok (.ret c) ρ) = bko c (backs bs cs ρ) := by
  simp only [ends]; cases backs bs cs ρ <;> rfl
theorem ends_ex {bs cs x} : ends bs cs (.ex x ρ) = match backs bs cs ρ with | some cs' => .ex x cs' | none => .bad := rfl
theorem fnOf_eq {N bs g cs} : fnOf N bs g cs = ends bs cs (g (startE N cs)) := by
  unfold fnOf ends
  rfl
@[simp] theorem backs_nil : backs [] [] ρ = some [] := by cases ρ <;> rfl
@[simp] theorem backs_t {bs c cs c'} : backs (true :: bs) (c :: cs) (some c' :: ρ) = (backs bs cs ρ).map (c' :: ·) := rfl
@[simp] theorem backs_f {bs d cs o} : backs (false :: bs) (.val d :: cs) (o :: ρ) = (backs bs cs ρ).map (.val d :: ·) := by simp [backs]
/-! ### walks -/
def itm : Option (List PyData) → Env → R Itm
  | some ds, ρ => .ok ⟨ds, none⟩ ρ
  | none, _ => .bad
@[simp] theorem itm_some {ds} : itm (some ds) ρ = .ok ⟨ds, none⟩ ρ := rfl
def itv (i : Nat) (cs : List C) : Option (List PyData) → Env → R Itm
  | some ds, ρ => .ok ⟨ds, some (i, .lst cs)⟩ ρ
  | none, _ => .bad
@[simp] theorem itv_some {i cs ds} : itv i cs (some ds) ρ = .ok ⟨ds, some (i, .lst cs)⟩ ρ := rfl
def its (i : Nat) : Option (Option C) → Env → R Itm
  | some (some (.val d)), ρ => itm (items d) ρ
  | some (some (.lst cs)), ρ => itv i cs (vals cs) ρ
  | _, _ => .bad
@[simp] theorem its_val {i d} : its i (some (some (.val d))) ρ = itm (items d) ρ := rfl
@[simp] theorem its_lst {i cs} : its i (some (some (.lst cs))) ρ = itv i cs (vals cs) ρ := rfl
@[simp] theorem its_mkL {i ds} : its i (some (some (mkL ds))) ρ = .ok ⟨ds, some (i, mkL ds)⟩ ρ := by
  show itv i (ds.map C.val) (vals (ds.map C.val)) ρ = _
  rw [vals_map]; rfl
def itk : Op → G Itm
  | .d d => fun ρ => itm (items d) ρ
  | .s i => fun ρ => its i ρ[i]? ρ
@[simp] theorem itk_d {d} : itk (.d d) ρ = itm (items d) ρ := rfl
@[simp] theorem itk_s {i} : itk (.s i) ρ = its i ρ[i]? ρ := rfl
@[simp] theorem items_l {ds} : items (.list ds) = some ds := rfl
@[simp] theorem items_t {ds} : items (.tuple ds) = some ds := rfl
@[simp] theorem gItems_at {g} : gItems g ρ = (g ρ).bind itk := by
  show (g ρ).bind _ = _
  congr 1
  funext o ρ
  cases o with
  | d d =>
    simp only [itk_d]
    cases items d <;> rfl
  | s i =>
    simp only [itk_s]
    cases ρ[i]? with
    | none => rfl
    | some oc =>
      cases oc with
      | none => rfl
      | some c =>
        cases c with
        | val d =>
          simp only [its_val]
          cases items d <;> rfl
        | lst cs =>
          simp only [its_lst]
          cases vals cs <;> rfl
        | _ => rfl
@[simp] theorem opD_d {d} : opD ρ (.d d) = some d := rfl
def odm : Option (Option C) → Option PyData
  | some (some (.val d)) => some d
  | _ => none
@[simp] theorem odm_val {d} : odm (some (some (.val d))) = some d := rfl
@[simp] theorem opD_s {i} : opD ρ (.s i) = odm ρ[i]? := by
  simp only [opD]
  cases ρ[i]? with
  | none => rfl
  | some o =>
    cases o with
    | none => rfl
    | some c => cases c <;> rfl
def zpk (a b : Op) : G Itm := fun ρ => itm (zipI (opD ρ a) (opD ρ b)) ρ
@[simp] theorem zpk_at {a b} : zpk a b ρ = itm (zipI (opD ρ a) (opD ρ b)) ρ := rfl
@[simp] theorem gZip_at {ga gb} : gZip ga gb ρ = (ga ρ).bind fun a => G.bind gb (zpk a) := by
  show (ga ρ).bind _ = _
  congr 1
  funext a
  unfold G.bind
  funext ρ
  congr 1
  funext b ρ
  simp only [zpk_at]
  cases zipI (opD ρ a) (opD ρ b) <;> rfl
def enk (a : Op) : G Itm := fun ρ => itm (enumI (opD ρ a)) ρ
@[simp] theorem enk_at {a} : enk a ρ = itm (enumI (opD ρ a)) ρ := rfl
@[simp] theorem gEnum_at {ga} : gEnum ga ρ = (ga ρ).bind enk := by
  show (ga ρ).bind _ = _
  congr 1
  funext a ρ
  simp only [enk_at]
  cases enumI (opD ρ a) <;> rfl
def rgk (os : List Op) : G Itm := fun ρ => itm (((derefs ρ os).bind rng1).map fun j => rng j.toNat 0) ρ
@[simp] theorem rgk_at {os} : rgk os ρ = itm (((derefs ρ os).bind rng1).map fun j => rng j.toNat 0) ρ := rfl
@[simp] theorem gRng1_at {g} : gRng1 g ρ = (g ρ).bind rgk := by
  show (g ρ).bind _ = _
  congr 1
  funext os ρ
  simp only [rgk_at]
  cases (derefs ρ os).bind rng1 <;> rfl
@[simp] theorem gFor_at {gi p gb} : gFor gi p gb ρ = (gi ρ).bind fun it => forL it.src p gb it.ds := rfl
def lp (r : R Fl) (k : G Fl) : R Fl := r.bind fun f => match f with
  | .next => k
  | .cont => k
  | .brk => G.ret .next
  | .ret c => G.ret (.ret c)
@[simp] theorem lp_next {k} : lp (.ok .next ρ) k = k ρ := rfl
@[simp] theorem lp_cont {k} : lp (.ok .cont ρ) k = k ρ := rfl
@[simp] theorem lp_brk {k} : lp (.ok .brk ρ) k = .ok .next ρ := rfl
@[simp] theorem lp_ret {k c} : lp (.ok (.ret c) ρ) k = .ok (.ret c) ρ := rfl
@[simp] theorem lp_ex {k x} : lp (.ex x ρ) k = .ex x ρ := rfl
@[simp] theorem lp_bad {k} : lp .bad k = .bad := rfl
def lps (gb : G Fl) (k : G Fl) : Option Env → R Fl
  | some ρ => lp (gb ρ) k
  | none => .bad
@[simp] theorem lps_some {gb k} : lps gb k (some ρ) = lp (gb ρ) k := rfl
theorem forL_nil {p gb} : forL none p gb [] ρ = .ok .next ρ := by simp only [forL, gChk_none]; rfl
theorem forL_cons {p gb d ds} : forL none p gb (d :: ds) ρ = lps gb (forL none p gb ds) (asg p d ρ) := by
  simp only [forL, gChk_none]
  cases asg p d ρ <;> rfl
theorem forS_nil {i c p gb} (h : ρ[i]? = some (some c)) : forL (some (i, c)) p gb [] ρ = .ok .next ρ := by
  simp only [forL]
  rw [gChk_some h]; rfl
theorem forS_cons {i c p gb d ds} (h : ρ[i]? = some (some c)) : forL (some (i, c)) p gb (d :: ds) ρ = lps gb (forL (some (i, c)) p gb ds) (asg p d ρ) := by
  simp only [forL]
  rw [gChk_some h]
  cases asg p d ρ <;> rfl
/-! ### blocks -/
def elk (p : Pat) (vs : List Nat) (k : G (List PyData)) : Op → G (List PyData)
  | .d y => fun ρ => (k (wipeE ρ vs)).bind fun ys => G.ret (y :: ys)
  | .s _ => fun _ => .bad
@[simp] theorem elk_at {p vs k y} : elk p vs k (.d y) ρ = (k (wipeE ρ vs)).bind fun ys => G.ret (y :: ys) := rfl
def cps (p : Pat) (vs : List Nat) (gt : G Bool) (ge : G Op) (k : G (List PyData)) : Option Env → R (List PyData)
  | some ρ => tst (gt ρ) (G.bind ge (elk p vs k)) fun ρ => k (wipeE ρ vs)
  | none => .bad
@[simp] theorem cps_some {p vs gt ge k} : cps p vs gt ge k (some ρ) = tst (gt ρ) (G.bind ge (elk p vs k)) fun ρ => k (wipeE ρ vs) := rfl
theorem compL_nil {p vs gt ge} : compL none p vs gt ge [] ρ = .ok [] ρ := by simp only [compL, gChk_none]; rfl
theorem compL_cons {p vs gt ge d ds} : compL none p vs gt ge (d :: ds) ρ = cps p vs gt ge (compL none p vs gt ge ds) (asg p d ρ) := by
  simp only [compL, gChk_none]
  cases asg p d ρ with
  | none => rfl
  | some ρ1 =>
    simp only [cps_some, tst]
    congr 1
    funext b ρ2
    cases b with
    | false => rfl
    | true =>
      simp only [if_true, bind_at]
      congr 1
      funext o ρ3
      cases o <;> rfl
def cpe (ρ : Env) (vs : List Nat) : R (List PyData) → R C
  | .ok ys ρ2 => .ok (mkL ys) (restore ρ vs ρ2)
  | _ => .bad
@[simp] theorem cpe_ok {ys vs ρ2} : cpe ρ vs (.ok ys ρ2) = .ok (mkL ys) (restore ρ vs ρ2) := rfl
noncomputable def cpk (p : Pat) (vs : List Nat) (gt : G Bool) (ge : G Op) (it : Itm) : G C := fun ρ => if plainAt ρ vs = true then cpe ρ vs (compL it.src p vs gt ge it.ds (wipeE ρ vs)) else .bad
@[simp] theorem cpk_at {p vs gt ge it} : cpk p vs gt ge it ρ = if plainAt ρ vs = true then cpe ρ vs (compL it.src p vs gt ge it.ds (wipeE ρ vs)) else .bad := rfl
@[simp] theorem gComp_at {gi p vs gt ge} : gComp gi p vs gt ge ρ = (gi ρ).bind (cpk p vs gt ge) := by
  show (gi ρ).bind _ = _
  refine congrArg (R.bind (gi ρ)) ?_
  funext it ρ
  simp only [cpk_at]
  by_cases h : plainAt ρ vs = true
  · rw [if_pos h, if_pos h]
    cases compL it.src p vs gt ge it.ds (wipeE ρ vs) <;> rfl
  · rw [if_neg h, if_neg h]
/-! ### operations -/
@[simp] theorem addD_int {i j} : addD (.int i) (.int j) = some (.val (.int (i + j))) := rfl
@[simp] theorem addD_lst {a b} : addD (.list a) (.list b) = if a.length + b.length ≤ sizeLine then some (mkL (a ++ b)) else none := by
  simp only [addD, lenOk, decide_eq_true_eq]
@[simp] theorem addD_tup {a b} : addD (.tuple a) (.tuple b) = if a.length + b.length ≤ sizeLine then some (.val (.tuple (a ++ b))) else none := by
  simp only [addD, lenOk, decide_eq_true_eq]
@[simp] theorem subD_int {i j} : subD (.int i) (.int j) = some (.val (.int (i - j))) := rfl
@[simp] theorem mulD_int {i j} : mulD (.int i) (.int j) = if i.natAbs < 18446744073709551616 ∨ j.natAbs < 18446744073709551616 then some (.val (.int (i * j))) else none := by
  simp only [mulD, decide_eq_true_eq]
@[simp] theorem modD_int {i j} : modD (.int i) (.int j) = if 0 < j then some (.val (.int (i % j))) else none := by
  simp only [modD, decide_eq_true_eq]
@[simp] theorem fdivD_int {i j} : fdivD (.int i) (.int j) = if 0 < j ∧ j < 1073741824 then some (.val (.int (i / j))) else none := by
  simp only [fdivD, decide_eq_true_eq]
@[simp] theorem powD_int {i j} : powD (.int i) (.int j) = if 0 ≤ j ∧ j ≤ 1000000 ∧ i.natAbs < 18446744073709551616 then some (.val (.int (i ^ j.toNat))) else none := by
  simp only [powD, decide_eq_true_eq]
@[simp] theorem ltA_int {i j} : ltA (.int i) (.int j) = some (decide (i < j)) := rfl
@[simp] theorem leA_int {i j} : leA (.int i) (.int j) = some (decide (i ≤ j)) := rfl
@[simp] theorem gtA_int {i j} : gtA (.int i) (.int j) = some (decide (j < i)) := rfl
@[simp] theorem geA_int {i j} : geA (.int i) (.int j) = some (decide (j ≤ i)) := rfl
@[simp] theorem isND_none {x} : isND x .none = some (isNone x) := rfl
@[simp] theorem notND_none {x} : notND x .none = some (!isNone x) := rfl
@[simp] theorem isNone_n : isNone .none = true := rfl
@[simp] theorem isNone_b {b} : isNone (.bool b) = false := rfl
@[simp] theorem isNone_i {b} : isNone (.int b) = false := rfl
@[simp] theorem isNone_s {b} : isNone (.str b) = false := rfl
@[simp] theorem isNone_l {b} : isNone (.list b) = false := rfl
@[simp] theorem isNone_t {b} : isNone (.tuple b) = false := rfl
@[simp] theorem ixD_l {ds i} : ixD (.list ds) (.int i) = (atI ds i).map .val := rfl
@[simp] theorem ixD_t {ds i} : ixD (.tuple ds) (.int i) = (atI ds i).map .val := rfl
@[simp] theorem lenD_l {ds} : lenD [.list ds] = some (.val (.int ds.length)) := rfl
@[simp] theorem lenD_t {ds} : lenD [.tuple ds] = some (.val (.int ds.length)) := rfl
@[simp] theorem listD_l {ds} : listD [.list ds] = some (mkL ds) := rfl
@[simp] theorem listD_t {ds} : listD [.tuple ds] = some (mkL ds) := rfl
@[simp] theorem tupleD_l {ds} : tupleD [.list ds] = some (.val (.tuple ds)) := rfl
@[simp] theorem tupleD_t {ds} : tupleD [.tuple ds] = some (.val (.tuple ds)) := rfl
@[simp] theorem cmpC_at {f x y} : cmpC f x y = (f x y).map fun b => .val (.bool b) := rfl
@[simp] theorem startE_at {n cs} : startE n cs = cs.map some ++ List.replicate (n - cs.length) none := rfl
@[simp] theorem mkL_vals {ds} : vals (ds.map C.val) = some ds := vals_map ds
@[simp] theorem shal_mkL {ds} : shal (mkL ds) = some (.list ds) := by simp [mkL]
@[simp] theorem fz_mkL {ds} : fz (mkL ds) = some (.list ds) := by simp [mkL]
end
end Nd

/-! Nd16: enumerate over a tuple. -/
namespace NdE
open PySem PySem.Spec PyProof.Rows
abbrev tupIt (t : Addr) : Obj := { cls := .type "tuple_iterator", data := .fields #[.ref t, .int 0 0] }
abbrev enOn (n : Addr) : Obj := { cls := .type "enumerate", data := .fields #[.none, .bool false, .ref n, rawInt 0, .none, .none] }
theorem newT (t : Addr) (items : Array Value) :
    Meets (Builtin.«enumerate.__new__» ⟨[.type "enumerate", .ref t], []⟩) (fun _ R s => s.heap.IsTuple t items ∧
      R (.ok (.ret (.ref (s.heap.push (tupIt t)).objs.size))) { s with heap := (s.heap.push (tupIt t)).push (enOn s.heap.objs.size) }) :=
  .of_wp fun prog w A R s ⟨ht, h⟩ => by
    obtain ⟨hp, g, d, tk, os⟩ := s
    have hsub := sub_enumerate
    wp_walk
    refine wpAny_stack_any fun st => wpAny_pure ?_
    split
    · rename_i c _ _ _ _ _
      cases (c == Value.type "enumerate")
      · wp_walk using wpAny_pyIter_tuple ht
        exact ⟨_, rfl, h⟩
      · wp_walk using wpAny_pyIter_tuple ht
        exact ⟨_, rfl, h⟩
    · wp_walk using wpAny_pyIter_tuple ht
      exact ⟨_, rfl, h⟩
section
variable {prog : Program} {w : World} {A : Around} {E : Value → Shared → Prop} {s : Shared}
theorem callT {t : Addr} {items : Array Value} {Q : Value → Shared → Prop} (ht : s.heap.IsTuple t items)
    (k : ∀ h' : Heap, IsEnum h' (s.heap.objs.size + 1) s.heap.objs.size 0 .none → h'.IsTupleIter s.heap.objs.size t 0 → (∀ b o, s.heap.get? b = some o → h'.get? b = some o) → Q (.ref (s.heap.objs.size + 1)) { s with heap := h' }) :
    wpAny (model prog w) A (call (.type "enumerate") [.ref t]) Q E s := by
  refine callType_new (F.called_enumerate) (by decide) (F.typeCall_enumerate_1 _) (F.newCall_enumerate_1 _) (fun o => F.args_object_init_2 o _) (F.entry_enumerate_new) (newT t items) ⟨ht, ?_⟩
  have z1 : (s.heap.push (tupIt t)).objs.size = s.heap.objs.size + 1 := by rw [Heap.size_push]
  have e1 : IsEnum ((s.heap.push (tupIt t)).push (enOn s.heap.objs.size)) (s.heap.objs.size + 1) s.heap.objs.size 0 .none := by
    have q := Heap.get?_push_size (s.heap.push (tupIt t)) (o := enOn s.heap.objs.size) rfl
    rw [z1] at q
    exact q
  show _ ∧ _
  rw [z1]
  exact ⟨⟨_, e1, rfl⟩, k _ e1 ⟨_, Heap.get?_push_of_some _ (Heap.get?_push_size _ rfl), rfl, rfl⟩ fun b o q => Heap.get?_push_of_some _ (Heap.get?_push_of_some _ q)⟩
theorem endT {e it t : Addr} {i : Nat} {items : Array Value} {c : Int} {old : Value} {Q : Option Value → Shared → Prop} (hh : A.handled = none) (he : IsEnum s.heap e it c old) (hit : s.heap.IsTupleIter it t i) (ht : s.heap.IsTuple t items) (hx : items[i]? = none)
    (k : ∀ h' : Heap, Heap.ExtBut it s.heap h' → Q none { s with heap := h' }) : wpAny (model prog w) A (pyNext (.ref e)) Q E s := by
  have ty : s.TypeIs (.ref e) "enumerate" := ⟨_, he, rfl⟩
  unfold pyNext
  refine wpAny_bind (wpAny_attempt (wpAny_callSpecial?_slot (name := Str.ofString "__next__") ty (F.slot_enumerate_next) (wpAny_call_entry (F.slot_enumerate_next) ty (F.entry_enumerate_next) ?_ (F.args_enumerate_next_1 _))))
  show wpAny _ _ (field (.ref e) 2 >>= _) _ _ s
  refine wpAny_bind (wpAny_field he rfl (x := .ref it) rfl ?_)
  refine wpAny_bind (wpAny_nextOf_tuple_end (A := A.in1) hh hit ht hx fun h' x b ⟨o, ho, hc⟩ => ?_)
  exact wpAny_bind (wpAny_isInstance (T := "StopIteration") (b := true) ⟨o, ho, hc⟩ isSubtype_stop (wpAny_pure (k _ b)))
end
end NdE
namespace L2
open PySem PySem.Spec PyProof.Rows
/-- a tuple's items in new pairs -/
def IteT (K : PySem.W.Frag) (a : Addr) : It :=
  ⟨fun i H => ∃ (xs : List V) (x : V), SqT K H a xs ∧ xs[i]? = some x, fun i H v H' => ∃ T x, v = .ref T ∧ H T = none ∧ H' = upd H T (.tup [.int (i : Nat), x]) ∧ ∀ xs, SqT K H a xs → xs[i]? = some x, fun i H => ∃ xs : List V, SqT K H a xs ∧ xs.length ≤ i⟩
theorem turn_enumT {P : Program} {w : World} {K : PySem.W.Frag} {elts : List Expr} {kk : Nat} {tpos : Pos} (a e it : Addr) (hae : a ≠ it) :
    Turn P w K (.Tuple elts kk tpos) (IteT K a) [e, it] e (fun i h => (∃ old, IsEnum h e it ((i : Nat) : Int) old) ∧ h.IsTupleIter it a i ∧ e ≠ it ∧ e ≠ a) where
  mem := by simp
  obj := fun i h st b hb => by
    obtain ⟨⟨old, he⟩, ⟨o, ho, hc, hd⟩, _⟩ := st
    rcases (by simpa using hb : b = e ∨ b = it) with z | z
    · rw [z]
      exact ⟨_, he, fun v q => nomatch q⟩
    · rw [z]
      exact ⟨o, ho, fun v q => by rw [hd] at q; cases q⟩
  keep := fun i h h' st k => by
    obtain ⟨⟨old, he⟩, hi, hne⟩ := st
    exact ⟨⟨old, k e (by simp) _ he⟩, hi.at fun o q => k it (by simp) o q, hne⟩
  item := by
    intro X hP hw hK hc i pins s σ H E I hf st hg
    subst hP hw hK
    obtain ⟨⟨old, he⟩, hit, hne, hea⟩ := st
    obtain ⟨xs, x, hq, hx⟩ := hg
    obtain ⟨its, rv, p, hz⟩ := I.tuple hq
    obtain ⟨u, hu, ru⟩ := rv.get hx
    have hel : e < s.heap.objs.size := Heap.lt_size he
    have hil : it < s.heap.objs.size := by obtain ⟨_, q, _⟩ := hit; exact Heap.lt_size q
    have hlt : i < its.toArray.size := by
      have := (List.getElem?_eq_some_iff.mp hu).1
      simpa using this
    refine wpAny_pyNext_enum_itemD (Draws.tuple (A := X.A.in1) (I.ok.hd hc) it a hae its.toArray) he ⟨hit, p⟩ hlt hne (by simp [hne, hea]) fun y h' tk hy ho hit' hT hsz hk => ?_
    have hyu : y = u := by
      have hy' : its.toArray[i]? = some y := hy
      rw [List.getElem?_toArray, hu] at hy'
      exact (Option.some.inj hy').symm
    subst hyu
    refine ⟨_, rfl, wpAny_letOwnedTupleGo_enum (s := { s with heap := h', toks := tk + 1 }) ho fun h'' he' sb => ?_⟩
    have hT2 : h''.get? s.heap.objs.size = some { cls := .type "tuple", data := .seq #[.int i tk, y] } := (sb.2 _ (Nat.ne_of_gt hel)).trans hT
    have new : ObjOk X.prog X.w (upd H s.heap.objs.size (.tup [.int (i : Nat), x])) h'' s.heap.objs.size (.tup [.int (i : Nat), x]) :=
      ⟨(by decide : 2 ≤ sizeLine), [.int i tk, y], .cons ⟨_, rfl⟩ (.cons ru .nil), ⟨_, hT2, rfl, _, rfl⟩⟩
    have kp : ∀ b o, b ∉ [e, it] → s.heap.get? b = some o → h''.get? b = some o := fun b o hb q => by
      simp only [List.mem_cons, List.not_mem_nil, or_false, not_or] at hb
      exact (sb.2 b hb.1).trans (hk b o hb.1 hb.2 q)
    have I1 : Inv X pins σ (upd H s.heap.objs.size (.tup [.int (i : Nat), x])) { s with heap := h'', toks := tk + 1 } := I.turnedNew (ch := [e, it]) (fun b o hb q => kp b o hb q) hf (Nat.le_refl _) new
    refine ⟨.ref s.heap.objs.size, _, I1, rfl, ⟨_, x, rfl, I.hok.fresh (Nat.le_refl _), rfl, fun ys hy => by rw [I.tuple_inj hy hq]; exact hx⟩, ⟨⟨y, ?_⟩, hit'.1.at fun o q => (sb.2 it (Ne.symm hne)).trans q, hne, hea⟩, fun b hb => ?_⟩
    · have e1 : ((i + 1 : Nat) : Int) = (i : Int) + 1 := by omega
      rw [e1]
      exact he'
    · have hb' : b < s.heap.objs.size := by
        rcases (by simpa using hb : b = e ∨ b = it) with z | z
        · exact z ▸ hel
        · exact z ▸ hil
      rw [upd_ne (Nat.ne_of_lt hb')]
      exact (hf b hb).1
  done := by
    intro X hP hw hK hc i pins s σ H E I hf st hg
    subst hP hw hK
    obtain ⟨⟨old, he⟩, hit, hne, hea⟩ := st
    obtain ⟨xs, hq, hx⟩ := hg
    obtain ⟨its, rv, p, hz⟩ := I.tuple hq
    have hl := rv.length
    obtain ⟨f0, f1, f2, f3, f4, f5⟩ := hf it (by simp)
    exact NdE.endT (I.ok.hd hc) he hit p (by simp; omega) fun h' eb => ⟨rfl, I.turned (t' := s.toks) (fun b o hb q => eb b o hb q) f0 f1 f3 f4 f5⟩
  self := fun A i s Q E st h => by
    obtain ⟨⟨_, he⟩, _⟩ := st
    exact wpAny_pyIter_enum he h
def iEnumA (K : PySem.W.Frag) (ta : TA) : TI := fun σ H R => ta σ H fun vs H1 => ∃ a, vs = [.ref a] ∧ ((∃ xs, SqL K H1 a xs ∧ R (Ite K a) H1) ∨ (∃ xs, SqT K H1 a xs ∧ R (IteT K a) H1))
theorem pi_enumA {X : Cx} {e : Expr} {ta : TA} {p pos tpos : Pos} {elts : List Expr} {kk : Nat} (hg : Gl X "enumerate") (hm : X.mg "enumerate" = none) (ha : PA X [e] ta) (hs2 : starEach [e] X.env = [(false, eval e X.env)] := by rfl) :
    PI X (.Tuple elts kk tpos) (.Call (.Name "enumerate" p) [e] [] pos) (iEnumA X.K ta) := by
  refine ⟨fun pins s σ H R I h => ?_⟩
  refine Call_ (ld_blt I hg hm boot_enumerate (PyProof.Rows.callWith_type1 (thn (ha.run pos pins s σ H _ I h) fun us s1 q => ?_) hs2 rfl))
  obtain ⟨vs, H1, I1, r1, q1⟩ := q
  obtain ⟨a, ex, q⟩ := q1
  subst ex
  obtain rfl := Vals.ref1 r1
  have fpo : ∀ b ∈ [s1.heap.objs.size + 1, s1.heap.objs.size], s1.heap.objs.size ≤ b := fun b hb => by
    rcases (by simpa using hb : b = s1.heap.objs.size + 1 ∨ b = s1.heap.objs.size) with z | z <;> omega
  rcases q with ⟨xs, hq, q⟩ | ⟨xs, hq, q⟩
  · obtain ⟨its, rv, p', hz⟩ := I1.list hq
    refine call_enumerate_list p'.isList fun h' he hit hsz hk => wpAny_pyIter_enum he ?_
    exact ⟨s1.heap.objs.size + 1, [s1.heap.objs.size + 1, s1.heap.objs.size], _, _, H1, rfl, I1.kept (t' := s1.toks) hk, turn_enum a (s1.heap.objs.size + 1) s1.heap.objs.size, ⟨⟨.none, he⟩, hit, Nat.succ_ne_self _⟩, fun b hb => I1.fpOk (fpo b hb) (I1.hok.fresh (fpo b hb)), q⟩
  · obtain ⟨its, rv, p', hz⟩ := I1.tuple hq
    have hlt : a < s1.heap.objs.size := by obtain ⟨o, ho, _⟩ := p'; exact Heap.lt_size ho
    refine NdE.callT (items := its.toArray) p' fun h' he hit hk => wpAny_pyIter_enum he ?_
    exact ⟨s1.heap.objs.size + 1, [s1.heap.objs.size + 1, s1.heap.objs.size], _, _, H1, rfl, I1.kept (t' := s1.toks) hk, turn_enumT a (s1.heap.objs.size + 1) s1.heap.objs.size (Nat.ne_of_lt hlt), ⟨⟨.none, he⟩, hit, Nat.succ_ne_self _, Nat.ne_of_gt (Nat.lt_succ_of_lt hlt)⟩, fun b hb => I1.fpOk (fpo b hb) (I1.hok.fresh (fpo b hb)), q⟩
end L2
namespace Nd
open PySem L2
section
variable [TF] {X : Cx} {K : Frag} {mg : Str → Option Value} {W : WX} {F H : Hp} {ρ : Env} {σ : St}
theorem itOk_enumT {a : Addr} {vs : List V} {xs : List PyData} (s1 : SqT K F a vs) (r1 : DqAll K F vs xs) : ItOk K mg true none 0 F (enumP xs) (IteT K a) where
  go := fun ρ fp F' H' σ i w _ _ se hi => by
    have hi' : i < vs.length := by rw [r1.length]; simpa [enumP] using hi
    exact ⟨vs, vs[i], SqT.mono w.sub (SqT.mono se s1), List.getElem?_eq_getElem hi'⟩
  yld := fun ρ fp F' H' σ i x H2 d w _ _ se hd hy => by
    unfold enumP at hd
    rw [List.getElem?_map, List.getElem?_zipIdx] at hd
    obtain ⟨T, x2, rfl, hT, rfl, k1⟩ := hy
    cases q : xs[i]? with
    | none => rw [q] at hd; cases hd
    | some x1 =>
      rw [q] at hd
      simp only [Option.map_some, Option.some.injEq] at hd
      subst hd
      obtain ⟨u1, e1, q1⟩ := r1.get q
      have z1 := k1 vs (SqT.mono w.sub (SqT.mono se s1))
      rw [e1] at z1
      have z1' := Option.some.inj z1
      subst z1'
      have x := Frs.newF (p := T) (o := .tup [.int (i : Nat), u1]) w.sub hT
      exact ⟨_, x, .inr ⟨rfl, _, _, _, rfl, rfl, .of upd_same, .cons (by simpa using Dq.int (K := K) (F := upd F' T (.tup [.int (i : Nat), u1])) ((i : Nat) : Int)) (.cons (q1.mono (se.trans x.fz)) .nil)⟩⟩
  stop := fun ρ fp F' H' σ w _ _ se => ⟨vs, SqT.mono w.sub (SqT.mono se s1), by rw [r1.length]; simp [enumP]⟩
/-- of a list or a tuple -/
def enumJ : Option PyData → Option (List PyData)
  | some (.list xs) => if szOk xs = true then some (enumP xs) else none
  | some (.tuple xs) => if szOk xs = true then some (enumP xs) else none
  | _ => none
def gEnumA (ga : G Op) : G Itm := G.bind ga fun a => fun ρ => match enumJ (opD ρ a) with
  | some ds => .ok ⟨ds, none⟩ ρ
  | none => .bad
theorem i_enumA {e : Expr} {p pos tpos : Pos} {elts : List Expr} {kk : Nat} {ga : G Op} (hg : Gl X "enumerate") (hm : X.mg "enumerate" = none) (ha : PE X e (tO X.K mg W ga))
    (hs : starEach [e] X.env = [(false, eval e X.env)] := by rfl) : PI X (.Tuple elts kk tpos) (.Call (.Name "enumerate" p) [e] [] pos) (tI X.K mg W true (gEnumA ga)) := by
  refine ⟨fun pins s σ H Rr I h => ?_⟩
  refine (pi_enumA hg hm (pa_cons ha pa_nil hs) hs).run pins s σ H Rr I ?_
  obtain ⟨ρ, fp, F, w, h⟩ := h
  unfold gEnumA G.bind at h
  refine oRun w Chg.refl ?_
  cases q : ga ρ with
  | bad => rw [q] at h; exact h.elim
  | ex x ρ' => rw [q] at h; exact h
  | ok a ρ1 =>
    rw [q] at h
    simp only [R.bind_ok] at h
    intro v F1 H1 fp1 w1 r1 s1 c1
    cases z : enumJ (opD ρ1 a) with
    | none => rw [z] at h; exact h.elim
    | some ds =>
      rw [z] at h
      unfold enumJ at z
      split at z
      · rename_i xs ex
        split at z
        · rename_i hl
          cases z
          obtain ⟨a1, vs, rfl, t1, p1⟩ := (opD_dq w1 r1 ex).list_inv
          exact ⟨a1, rfl, .inl ⟨vs, w1.sub.seq t1, h _ 0 F1 H1 fp1 w1 c1 trivial trivial (itOk_enumL t1 p1) (by simpa [enumP, szOk] using hl)⟩⟩
        · cases z
      · rename_i xs ex
        split at z
        · rename_i hl
          cases z
          obtain ⟨a1, vs, rfl, t1, p1⟩ := (opD_dq w1 r1 ex).tup_inv
          exact ⟨a1, rfl, .inr ⟨vs, SqT.mono w1.sub t1.t, h _ 0 F1 H1 fp1 w1 c1 trivial trivial (itOk_enumT t1.t p1) (by simpa [enumP, szOk] using hl)⟩⟩
        · cases z
      · cases z
theorem src_enumA {ga : G Op} {T : Src → Prop} (h0 : T none) : ∀ ρ it ρ', gEnumA ga ρ = .ok it ρ' → T it.src := by
  intro ρ it ρ' e
  unfold gEnumA G.bind at e
  cases z : ga ρ with
  | bad => rw [z] at e; cases e
  | ex x ρ1 => rw [z] at e; cases e
  | ok c ρ1 =>
    rw [z] at e
    simp only [R.bind_ok] at e
    split at e
    · cases e; exact h0
    · cases e
def enjk (a : Op) : G Itm := fun ρ => itm (enumJ (opD ρ a)) ρ
@[simp] theorem enjk_at {a} : enjk a ρ = itm (enumJ (opD ρ a)) ρ := rfl
@[simp] theorem gEnumA_at {ga} : gEnumA ga ρ = (ga ρ).bind enjk := by
  show (ga ρ).bind _ = _
  congr 1
  funext a ρ
  simp only [enjk_at]
  cases enumJ (opD ρ a) <;> rfl
end
end Nd

/-! Nd17: texts: methods, str(), int(), f'..', a or b. -/
namespace Nd
open PySem L2
section
variable [TF] {X : Cx} {K : Frag} {mg : Str → Option Value} {W : WX} {F H F0 H0 : Hp} {ρ : Env} {fp fp0 : AS} {σ : St} {pos : Pos}
/-! ### a method of a text -/
def rM (K : Frag) (mg : Str → Option Value) (f : PyData → List PyData → Option C) : V → List V → Hp → VK → Prop := fun x xs H Q => ∃ F d ds c, Same F H ∧ Sh K F H x d ∧ Shs K F H xs ds ∧ f d ds = some c ∧ Post K mg F H c Q
def mts (f : PyData → List PyData → Option C) : Option PyData → Option (List PyData) → Env → R C
  | some d, some ds, ρ => gFin (f d ds) ρ
  | _, _, _ => .bad
def isS : Option PyData → Env → R Unit
  | some (.str _), ρ => .ok () ρ
  | _, _ => .bad
def gMtS (f : PyData → List PyData → Option C) (go : G Op) (g : G (List Op)) : G C := G.bind go fun o => G.bind (fun ρ => isS (deref ρ o) ρ) fun _ => G.bind g fun os => fun ρ => mts f (deref ρ o) (derefs ρ os) ρ
theorem gMtS_ok {f : PyData → List PyData → Option C} {go : G Op} {g : G (List Op)} {Q : VK} (h : tE K mg W (gMtS f go g) σ H Q) : tBM K "str" (rM K mg f) (tO K mg W go) (tOs K mg W g) σ H Q := by
  obtain ⟨ρ, fp, F, w, h⟩ := h
  unfold gMtS G.bind at h
  refine oRun w Chg.refl ?_
  cases q : go ρ with
  | bad => rw [q] at h; exact h
  | ex x ρ' => rw [q] at h; exact h
  | ok o ρ1 =>
    rw [q] at h
    simp only [R.bind_ok] at h
    intro v F1 H1 fp1 w1 r1 s1 c1
    cases z : deref ρ1 o with
    | none => rw [z] at h; exact h.elim
    | some d0 =>
      rw [z] at h
      cases d0 with
      | str x =>
        have ev := (deref_sh w1 r1 z).str.1
        refine ⟨by rw [ev]; rfl, ?_⟩
        simp only [isS, R.bind_ok] at h
        refine osRun w1 c1 ?_
        cases q2 : g ρ1 with
        | bad => rw [q2] at h; exact h
        | ex x ρ' => rw [q2] at h; exact h
        | ok os ρ2 =>
          rw [q2] at h
          simp only [R.bind_ok] at h
          intro vs F2 H2 fp2 w2 r2 s2 c2
          cases z2 : deref ρ2 o with
          | none => rw [z2] at h; exact h.elim
          | some d =>
            cases z3 : derefs ρ2 os with
            | none => rw [z2, z3] at h; exact h.elim
            | some ds =>
              rw [z2, z3] at h
              simp only [mts, gFin] at h
              cases fe : f d ds with
              | none => rw [fe] at h; exact h.elim
              | some c =>
                rw [fe] at h
                exact ⟨F2, d, ds, c, w2.sub, deref_sh w2 (r1.mono s2) z2, derefs_sh w2 r2 z3, fe, fin_post w2 c2 h⟩
      | none => exact h.elim
      | bool b => exact h.elim
      | int b => exact h.elim
      | list b => exact h.elim
      | tuple b => exact h.elim
      | dict b => exact h.elim
theorem e_mtS {o e : Expr} {es : List Expr} {name : Str} {id : String} {apos cpos : Pos} {f : PyData → List PyData → Option C} {go : G Op} {gs : List (G Op)} (slot : PySem.Slot "str" name id) (hty : typeOf (.builtin id) = pure (.type "method_descriptor")) (hm : MtR X id (rM X.K mg f))
    (ho : PE X o (tO X.K mg W go)) (ha : PA X (e :: es) (tOs X.K mg W (gOs gs))) (hbase : attributeBase o name X.env (eval o X.env) = eval o X.env := by rfl)
    (hfew : ((backTo cpos (starEach (e :: es) X.env)).all (fun x => !x.1) && (backToKw cpos (keywordEach [] X.env)).all (fun x => x.1.isSome) && decide ((e :: es).length + ([] : List Keyword).length + (if ([] : List Keyword).isEmpty then 0 else 1) < 30)) = true := by rfl)
    (hline : (apos.endLine == cpos.line) = true := by rfl) (hs : starEach (e :: es) X.env = (false, eval e X.env) :: starEach es X.env := by rfl) (hplain : (backTo cpos (starEach es X.env)).any (·.1) = false := by rfl) :
    PE X (.Call (.Attribute o name apos) (e :: es) [] cpos) (tE X.K mg W (gMtS f go (gOs gs))) :=
  (pe_bm PySem.F.plainAttrs_str slot hty hm ho ha hbase hfew hline hs hplain).imp fun _ _ _ => gMtS_ok
def layS (x : Str) : Bool := PyData.canLay0 (.str x)
def joinD : PyData → List PyData → Option C
  | .str a, [.list ds] => (allStrs ds).bind fun ys => if decide ((ys.map (·.length)).sum + ys.length * a.length ≤ 16777216) && layS (Txt.join a ys) = true then some (.val (.str (Txt.join a ys))) else none
  | .str a, [.tuple ds] => (allStrs ds).bind fun ys => if decide ((ys.map (·.length)).sum + ys.length * a.length ≤ 16777216) && layS (Txt.join a ys) = true then some (.val (.str (Txt.join a ys))) else none
  | _, _ => none
theorem m_join : MtR X "str.join" (rM X.K mg joinD) := by
  intro pins s σ H x xs v us Q I rx rs h
  obtain ⟨F, d, ds, c, sub, hx, hxs, e, post⟩ := h
  unfold joinD at e
  split at e
  · rename_i a ds
    cases q : allStrs ds with
    | none => rw [q] at e; cases e
    | some ys =>
      rw [q] at e
      simp only [Option.bind_some] at e
      split at e
      · rename_i hl
        cases e
        simp only [Bool.and_eq_true, decide_eq_true_eq] at hl
        obtain ⟨v, rfl, s1⟩ := hxs.one
        obtain ⟨p, vs, e1, q1, r1⟩ := s1.list sub
        rw [allStrs_eq q] at r1
        rw [r1.strs] at q1
        exact mt_join pins s σ H x _ _ us Q I rx rs ⟨a, p, ys, hx.str.1, by rw [e1], .inl q1, hl.1, post.val sub (.str hl.2)⟩
      · cases e
  · rename_i a ds
    cases q : allStrs ds with
    | none => rw [q] at e; cases e
    | some ys =>
      rw [q] at e
      simp only [Option.bind_some] at e
      split at e
      · rename_i hl
        cases e
        simp only [Bool.and_eq_true, decide_eq_true_eq] at hl
        obtain ⟨v, rfl, s1⟩ := hxs.one
        obtain ⟨p, vs, e1, q0, q1, r1⟩ := s1.tup sub
        rw [allStrs_eq q] at r1
        rw [r1.strs] at q1
        exact mt_join pins s σ H x _ _ us Q I rx rs ⟨a, p, ys, hx.str.1, by rw [e1], .inr q1, hl.1, post.val sub (.str hl.2)⟩
      · cases e
  · cases e
theorem Shs.str1 {vs : List V} {b : Str} (h : Shs K F H vs [.str b]) : vs = [.str b] ∧ PyData.canLay0 (.str b) = true := by
  obtain ⟨v, rfl, s1⟩ := h.one
  rw [s1.str.1]
  exact ⟨rfl, s1.str.2⟩
def splitD : PyData → List PyData → Option C
  | .str a, [.str b] => if decide ((b.length == 0) = false ∧ a.length + 2 ≤ sizeLine) && PyData.canLayAll0 ((Txt.split a b).map .str) = true then some (mkL ((Txt.split a b).map .str)) else none
  | _, _ => none
theorem m_split : MtR X "str.split" (rM X.K mg splitD) := by
  intro pins s σ H x xs v us Q I rx rs h
  obtain ⟨F, d, ds, c, sub, hx, hxs, e, post⟩ := h
  unfold splitD at e
  split at e
  · rename_i a b
    split at e
    · rename_i hl
      cases e
      simp only [Bool.and_eq_true, decide_eq_true_eq] at hl
      exact mt_split pins s σ H x _ _ us Q I rx rs ⟨a, b, hx.str.1, hxs.str1.1, hl.1.1, hl.1.2, fun p hp => post.lst sub (DqAll.of_strs hl.2) hp⟩
    · cases e
  · cases e
def partD : PyData → List PyData → Option C
  | .str a, [.str b] => if decide ((b.length == 0) = false ∧ a.length ≤ sizeLine) && PyData.canLayAll0 [.str (Txt.partition a b).1, .str (Txt.partition a b).2.1, .str (Txt.partition a b).2.2] = true then some (.val (.tuple [.str (Txt.partition a b).1, .str (Txt.partition a b).2.1, .str (Txt.partition a b).2.2])) else none
  | _, _ => none
theorem m_part : MtR X "str.partition" (rM X.K mg partD) := by
  intro pins s σ H x xs v us Q I rx rs h
  obtain ⟨F, d, ds, c, sub, hx, hxs, e, post⟩ := h
  unfold partD at e
  split at e
  · rename_i a b
    split at e
    · rename_i hl
      cases e
      simp only [Bool.and_eq_true, decide_eq_true_eq] at hl
      refine mt_partitionN pins s σ H x _ _ us Q I rx rs ⟨a, b, hx.str.1, hxs.str1.1, hl.1.1, hl.1.2, fun p o hp dn => ?_⟩
      exact post.tup sub (vs := [_, _, _]) (DqAll.of_strs (ns := [_, _, _]) hl.2) hp dn
    · cases e
  · cases e
/-! ### str(i), int(text) -/
def strD : List PyData → Option C
  | [.int i] => if decide (i.natAbs.log2 < 1920) && layS (toString i) = true then some (.val (.str (toString i))) else none
  | _ => none
theorem c_str : CallR X (.type "str") (rN X.K mg strD) := by
  intro pins s σ H xs us Q I r h
  obtain ⟨F, ds, c, sub, sh, e, post⟩ := h
  unfold strD at e
  split at e
  · rename_i i
    split at e
    · rename_i hl
      cases e
      simp only [Bool.and_eq_true, decide_eq_true_eq] at hl
      obtain ⟨v, rfl, s1⟩ := sh.one
      exact call_str_int pins s σ H _ us Q I r ⟨i, by rw [s1.int], hl.1, post.val sub (.str hl.2)⟩
    · cases e
  · cases e
def intD : List PyData → Option C
  | [.str a] => (PySem.intText? a).bind fun n => if decide (a.length ≤ 640) = true then some (.val (.int n)) else none
  | _ => none
theorem c_int : CallR X (.type "int") (rN X.K mg intD) := by
  intro pins s σ H xs us Q I r h
  obtain ⟨F, ds, c, sub, sh, e, post⟩ := h
  unfold intD at e
  split at e
  · rename_i a
    cases q : PySem.intText? a with
    | none => rw [q] at e; cases e
    | some n =>
      rw [q] at e
      simp only [Option.bind_some] at e
      split at e
      · rename_i hl
        cases e
        exact call_int_str pins s σ H _ us Q I r ⟨a, n, sh.str1.1, q, of_decide_eq_true hl, post.val sub (.int _)⟩
      · cases e
  · cases e
end
end Nd

/-! Nd18: f'..', a or b, and what these compute. -/
namespace Nd
open PySem L2
section
variable [TF] {X : Cx} {K : Frag} {mg : Str → Option Value} {W : WX} {F H F0 H0 : Hp} {ρ : Env} {fp fp0 : AS} {σ : St} {pos : Pos}
/-- a part: a text -/
def tSt (K : Frag) (mg : Str → Option Value) (W : WX) (g : G Str) : TE := fun σ H Q => ∃ ρ fp F, Wd K mg F H ρ fp σ ∧
  match g ρ with
  | .ok y ρ' => ∀ F' H' fp', Wd K mg F' H' ρ' fp' σ → Chg fp F H fp' F' H' → Q (.str y) H'
  | .ex x ρ' => exPost K mg W F H fp σ x ρ'
  | .bad => False
def txt1 : Option PyData → Env → R Str
  | some (.str y), ρ => if y.length ≤ sizeLine then .ok y ρ else .bad
  | some (.int i), ρ => if i.natAbs.log2 < 1920 then .ok (toString i) ρ else .bad
  | _, _ => .bad
def txk (o : Op) : G Str := fun ρ => txt1 (deref ρ o) ρ
def gTx (g : G Op) : G Str := G.bind g txk
def gTc (x : Str) : G Str := G.ret x
theorem j_fmt {e : Expr} {g : G Op} (he : PE X e (tO K mg W g)) : PE X (.FormattedValue e (-1) none pos) (tSt K mg W (gTx g)) := (pe_fmt he).imp fun σ H Q h => by
  obtain ⟨ρ, fp, F, w, h⟩ := h
  unfold gTx G.bind at h
  refine oRun w Chg.refl ?_
  cases q : g ρ with
  | bad => rw [q] at h; exact h
  | ex x ρ' => rw [q] at h; exact h
  | ok o ρ1 =>
    rw [q] at h
    simp only [R.bind_ok, txk] at h
    intro v F1 H1 fp1 w1 r1 s1 c1
    cases z : deref ρ1 o with
    | none => rw [z] at h; exact h.elim
    | some d =>
      rw [z] at h
      cases d with
      | str y =>
        simp only [txt1] at h
        by_cases hl : y.length ≤ sizeLine
        · rw [if_pos hl] at h
          exact .inl ⟨y, (deref_sh w1 r1 z).str.1, hl, h F1 H1 fp1 w1 c1⟩
        · rw [if_neg hl] at h; exact h.elim
      | int i =>
        simp only [txt1] at h
        by_cases hl : i.natAbs.log2 < 1920
        · rw [if_pos hl] at h
          exact .inr ⟨i, (deref_sh w1 r1 z).int, hl, h F1 H1 fp1 w1 c1⟩
        · rw [if_neg hl] at h; exact h.elim
      | none => exact h.elim
      | bool b => exact h.elim
      | list b => exact h.elim
      | tuple b => exact h.elim
      | dict b => exact h.elim
theorem j_str {x : Str} {j} : PE X (.Constant (.str x) j pos) (tSt K mg W (gTc x)) := pe_str.imp fun σ H Q h => by
  obtain ⟨ρ, fp, F, w, h⟩ := h
  exact h F H fp w Chg.refl
def gJ : List (G Str) → Str → G Str
  | [], acc => G.ret acc
  | g :: gs, acc => G.bind g fun y => fun ρ => if (acc ++ y).length ≤ sizeLine then gJ gs (acc ++ y) ρ else .bad
theorem js_run : ∀ {gs : List (G Str)} {acc : Str} {ρ : Env} {fp : AS} {F H : Hp} {Q : Str → Hp → Prop}, Wd K mg F H ρ fp σ → Chg fp0 F0 H0 fp F H →
    (match gJ gs acc ρ with
      | .ok y ρ' => ∀ F' H' fp', Wd K mg F' H' ρ' fp' σ → Chg fp0 F0 H0 fp' F' H' → Q y H'
      | .ex x ρ' => exPost K mg W F0 H0 fp0 σ x ρ'
      | .bad => False) → tJs (gs.map (tSt K mg W)) acc σ H Q
  | [], acc, ρ, fp, F, H, Q, w, ch, h => h F H fp w ch
  | g :: gs, acc, ρ, fp, F, H, Q, w, ch, h => by
    simp only [gJ, G.bind] at h
    refine ⟨ρ, fp, F, w, ?_⟩
    cases q : g ρ with
    | bad => rw [q] at h; exact h.elim
    | ex x ρ' => rw [q] at h; exact exPost.of ch h
    | ok y ρ1 =>
      rw [q] at h
      simp only [R.bind_ok] at h
      intro F1 H1 fp1 w1 c1
      by_cases hl : (acc ++ y).length ≤ sizeLine
      · rw [if_pos hl] at h
        exact ⟨y, rfl, hl, js_run w1 (ch.trans c1) h⟩
      · rw [if_neg hl] at h; exact h.elim
def lyk (y : Str) : G C := fun ρ => if layS y = true then .ok (.val (.str y)) ρ else .bad
def gJs (gs : List (G Str)) : G C := G.bind (gJ gs Str.empty) lyk
theorem j_nil : PJ X [] (([] : List (G Str)).map (tSt K mg W)) := .nil
theorem j_cons {e : Expr} {es : List Expr} {g : G Str} {gs : List (G Str)} (h : PE X e (tSt K mg W g)) (r : PJ X es (gs.map (tSt K mg W))) : PJ X (e :: es) ((g :: gs).map (tSt K mg W)) := .cons h r
theorem e_js {v1 v2 : Expr} {rest : List Expr} {gs : List (G Str)} (h : PJ X (v1 :: v2 :: rest) (gs.map (tSt K mg W))) : PE X (.JoinedStr (v1 :: v2 :: rest) pos) (tE K mg W (gJs gs)) := (pe_joined h).imp fun σ H Q h => by
  obtain ⟨ρ, fp, F, w, h⟩ := h
  unfold gJs G.bind at h
  refine js_run w Chg.refl ?_
  cases q : gJ gs Str.empty ρ with
  | bad => rw [q] at h; exact h
  | ex x ρ' => rw [q] at h; exact h
  | ok y ρ1 =>
    rw [q] at h
    simp only [R.bind_ok, lyk] at h
    intro F1 H1 fp1 w1 c1
    by_cases hl : layS y = true
    · rw [if_pos hl] at h
      exact h (.str y) F1 H1 fp1 _ w1 (Rc.of_dp (.str hl)) (fun _ z => z.elim) c1.or_false
    · rw [if_neg hl] at h; exact h.elim
/-! ### a or b, as a value -/
def truD : PyData → Option Bool
  | .none => some false
  | .bool b => some b
  | .int i => some (i != 0)
  | .str y => if decide (y.length ≤ sizeLine) = true then some ((y.length : Int) != 0) else none
  | .list ds => some (!ds.isEmpty)
  | .tuple ds => some (!ds.isEmpty)
  | _ => none
theorem truD_ok {d : PyData} {v : V} {k : Bool} (s : Same F H) (h : Dq K F v d) (e : truD d = some k) : TruV K v H k := by
  cases d with
  | none => rw [h.non_inv]; cases e; rfl
  | bool b => rw [h.bl_inv]; cases e; rfl
  | int i => rw [h.int_inv]; cases e; rfl
  | str y =>
    rw [h.str_inv.1]
    simp only [truD] at e
    split at e
    · rename_i hl
      cases e
      exact ⟨of_decide_eq_true hl, rfl⟩
    · cases e
  | list ds =>
    obtain ⟨a, vs, e1, s1, r1⟩ := h.list_inv
    rw [e1]
    cases e
    refine .inl ⟨vs, s.seq s1, ?_⟩
    have := r1.length
    cases vs <;> cases ds <;> first | rfl | simp at this
  | tuple ds =>
    obtain ⟨a, vs, e1, s1, r1⟩ := h.tup_inv
    rw [e1]
    cases e
    refine .inr (.inl ⟨vs, (s1.mono s).t, ?_⟩)
    have := r1.length
    cases vs <;> cases ds <;> first | rfl | simp at this
  | dict _ => cases e
def orm (g : G C) : Option PyData → Env → R C
  | some d, ρ => match truD d with
    | some b => if b = true then .ok (.val d) ρ else g ρ
    | none => .bad
  | none, _ => .bad
def ork (g : G C) (o : Op) : G C := fun ρ => orm g (opD ρ o) ρ
def gOrX (ga : G Op) (g : G C) : G C := G.bind ga (ork g)
theorem e_orX {a b : Expr} {rest : List Expr} {ga : G Op} {g : G C} (ha : PE X a (tO X.K mg W ga)) (hb : PE X (.BoolOp .Or (b :: rest) pos) (tE X.K mg W g)) : PE X (.BoolOp .Or (a :: b :: rest) pos) (tE X.K mg W (gOrX ga g)) := (pe_orT ha hb).imp fun σ H Q h => by
  obtain ⟨ρ, fp, F, w, h⟩ := h
  unfold gOrX G.bind at h
  refine oRun w Chg.refl ?_
  cases q : ga ρ with
  | bad => rw [q] at h; exact h
  | ex x ρ' => rw [q] at h; exact h
  | ok o ρ1 =>
    rw [q] at h
    simp only [R.bind_ok, ork] at h
    intro v F1 H1 fp1 w1 r1 s1 c1
    cases z : opD ρ1 o with
    | none => rw [z] at h; exact h.elim
    | some d =>
      rw [z] at h
      simp only [orm] at h
      cases zt : truD d with
      | none => rw [zt] at h; exact h.elim
      | some k =>
        rw [zt] at h
        have dq := opD_dq w1 r1 z
        refine ⟨k, truD_ok w1.sub dq zt, ?_⟩
        cases k with
        | true => exact iteT (h v F1 H1 fp1 _ w1 (Rc.of_dp dq) (fun _ z => z.elim) c1.or_false)
        | false =>
          simp only [Bool.false_eq_true, if_false] at h ⊢
          refine eRun w1 c1 ?_
          cases q2 : g ρ1 with
          | bad => rw [q2] at h; exact h
          | ex x ρ' => rw [q2] at h; exact h
          | ok c ρ2 =>
            rw [q2] at h
            exact fun v F' H' fp' fv w' r d _ c' => h v F' H' fp' fv w' r d c'
/-! ### a module's constants -/
theorem e_globI {x : Str} {i : Int} (hg : Gl X x) (h : ∃ t, X.mg x = some (.int i t)) (hd : (x == ("__debug__" : Str)) = false := by decide) : PE X (.Name x pos) (tE K mg W (gC (.int i))) := by
  obtain ⟨t, hm⟩ := h
  exact e_glob (v := .int i) hg hm ⟨t, rfl⟩ (fun _ => .int _) hd
theorem o_globI {x : Str} {i : Int} (hg : Gl X x) (h : ∃ t, X.mg x = some (.int i t)) (hd : (x == ("__debug__" : Str)) = false := by decide) : PE X (.Name x pos) (tO K mg W (oC (.int i))) := by
  obtain ⟨t, hm⟩ := h
  exact o_glob (v := .int i) hg hm ⟨t, rfl⟩ (fun _ => .int _) hd
theorem e_globS {x y : Str} (hy : PyData.canLay0 (.str y) = true) (hg : Gl X x) (h : ∃ t, X.mg x = some (.str y t)) (hd : (x == ("__debug__" : Str)) = false := by decide) : PE X (.Name x pos) (tE K mg W (gC (.str y))) := by
  obtain ⟨t, hm⟩ := h
  exact e_glob (v := .str y) hg hm ⟨t, rfl⟩ (fun _ => .str hy) hd
theorem o_globS {x y : Str} (hy : PyData.canLay0 (.str y) = true) (hg : Gl X x) (h : ∃ t, X.mg x = some (.str y t)) (hd : (x == ("__debug__" : Str)) = false := by decide) : PE X (.Name x pos) (tO K mg W (oC (.str y))) := by
  obtain ⟨t, hm⟩ := h
  exact o_glob (v := .str y) hg hm ⟨t, rfl⟩ (fun _ => .str hy) hd
end
section
variable {ρ : Env}
@[simp] theorem txt1_str {y} : txt1 (some (.str y)) ρ = if y.length ≤ sizeLine then .ok y ρ else .bad := rfl
@[simp] theorem txt1_int {i} : txt1 (some (.int i)) ρ = if i.natAbs.log2 < 1920 then .ok (toString i) ρ else .bad := rfl
@[simp] theorem txk_at {o} : txk o ρ = txt1 (deref ρ o) ρ := rfl
@[simp] theorem gTx_at {g} : gTx g ρ = (g ρ).bind txk := rfl
@[simp] theorem gTc_at {x} : gTc x ρ = .ok x ρ := rfl
@[simp] theorem gJ_nil {acc} : gJ [] acc ρ = .ok acc ρ := rfl
def gjk (gs : List (G Str)) (acc y : Str) : G Str := fun ρ => if (acc ++ y).length ≤ sizeLine then gJ gs (acc ++ y) ρ else .bad
@[simp] theorem gjk_at {gs acc y} : gjk gs acc y ρ = if (acc ++ y).length ≤ sizeLine then gJ gs (acc ++ y) ρ else .bad := rfl
@[simp] theorem gJ_cons {g gs acc} : gJ (g :: gs) acc ρ = (g ρ).bind (gjk gs acc) := rfl
@[simp] theorem lyk_at {y} : lyk y ρ = if layS y = true then .ok (.val (.str y)) ρ else .bad := rfl
@[simp] theorem gJs_at {gs} : gJs gs ρ = (gJ gs Str.empty ρ).bind lyk := rfl
@[simp] theorem orm_some {g d} : orm g (some d) ρ = match truD d with | some b => if b = true then .ok (.val d) ρ else g ρ | none => .bad := rfl
@[simp] theorem ork_at {g o} : ork g o ρ = orm g (opD ρ o) ρ := rfl
@[simp] theorem gOrX_at {ga g} : gOrX ga g ρ = (ga ρ).bind (ork g) := rfl
def mtk (f : PyData → List PyData → Option C) (o : Op) (os : List Op) : G C := fun ρ => mts f (deref ρ o) (derefs ρ os) ρ
@[simp] theorem mtk_at {f o os} : mtk f o os ρ = mts f (deref ρ o) (derefs ρ os) ρ := rfl
@[simp] theorem mts_some {f d ds} : mts f (some d) (some ds) ρ = fin (f d ds) ρ := rfl
@[simp] theorem isS_str {x} : isS (some (.str x)) ρ = .ok () ρ := rfl
def isk (o : Op) : G Unit := fun ρ => isS (deref ρ o) ρ
@[simp] theorem isk_at {o} : isk o ρ = isS (deref ρ o) ρ := rfl
@[simp] theorem gMtS_at {f go g} : gMtS f go g ρ = (go ρ).bind fun o => G.bind (isk o) fun _ => G.bind g (mtk f o) := rfl
end
end Nd

/-! Nd19: < of data. -/
namespace Nd
open PySem L2
section
variable [TF] {X : Cx} {mg : Str → Option Value}
/-- < of alike data -/
def ltD (x y : PyData) : Option Bool := if decide (PySem.W.alike x y = true ∧ isNone x = false ∧ x.depth ≤ 64 ∧ y.depth ≤ 64) = true then some (PySem.W.dataLt x y) else none
theorem o_ltD (hu : X.A.units + 65 < cLine) : OpR X (compareOp .Lt) (r2 X.K mg (cmpC ltD)) := by
  intro pins s σ H x y v u Q I rx ry h
  obtain ⟨F, dx, dy, c, sub, hx, hy, e0, post⟩ := h
  obtain ⟨b, e, rfl⟩ := cmpC_some e0
  clear e0
  unfold ltD at e
  split at e
  · rename_i hl
    cases e
    obtain ⟨h0, hn, h1, h2⟩ := of_decide_eq_true hl
    obtain ⟨as, r1⟩ := Dp.reads I dx x v (hx.dp sub) rx
    obtain ⟨bs, r2⟩ := Dp.reads I dy y u (hy.dp sub) ry
    exact PySem.W.lt_data r1 r2 h0 (fun z => by rw [z] at hn; cases hn) (by omega) ⟨.bl _, H, I, rfl, post.val sub (.bl _)⟩
  · cases e
end
theorem ltD_int {i j : Int} : ltD (.int i) (.int j) = some (decide (i < j)) := by
  simp [ltD, PySem.W.alike, isNone, PyData.depth, PySem.W.dataLt_int]
theorem ltD_str {x y : Str} : ltD (.str x) (.str y) = some (strLt x y) := by
  simp [ltD, PySem.W.alike, isNone, PyData.depth, PySem.W.dataLt_str, strLt]
end Nd

/-! Nd20: sorted, min, max of data. -/
namespace Nd
open PySem PySem.Spec PyProof.Rows L2
section
variable {prog : Program} {w : World} {A : Around} {E : Value → Shared → Prop} {s : Shared}
/-- what is gathered from x, at s -/
def Gathers (prog : Program) (w : World) (A : Around) (x : Value) (s : Shared) (vs : List Value) : Prop :=
  ∀ (Q : List Value → Shared → Prop) (E : Value → Shared → Prop), (∀ (h1 : Heap) (tk : Nat), (∀ b o, s.heap.get? b = some o → h1.get? b = some o) → s.heap.objs.size ≤ h1.objs.size → Q vs { s with heap := h1, toks := tk }) → wpAny (model prog w) A (collect x) Q E s
theorem gathers_seq {l : Addr} {T : String} {vs : List Value} {o : Obj} {n : Nat} (ho : s.heap.get? l = some o) (hc : o.cls = .type T) (hd : o.data = .seq vs.toArray n) (hT : T = "list" ∨ T = "tuple") (hz : vs.length ≤ sizeLine) : Gathers prog w A (.ref l) s vs := by
  intro Q E h
  have hp : ∀ b u, s.heap.get? b = some u → (s.heap.push (seqObj "list" #[] 0)).get? b = some u := fun b u e => Heap.get?_push_of_some _ e
  have hw : (s.heap.push (seqObj "list" #[] 0)).get? s.heap.objs.size = some (seqObj "list" #[] 0) := Heap.get?_push_size _ rfl
  unfold collect
  refine wpAny_bind (wpAny_runValue (codeAny_builtin entry_proto_collect' ?_))
  show wpAny _ _ (newList [] >>= fun z => again (.builtin "list.__iadd__" ⟨[z, .ref l], []⟩)) _ _ s
  refine wpAny_bind (wpAny_newList (wpAny_pure ⟨Code.quiet_builtin _ (by decide +kernel), codeAny_builtin entry_list_iadd' ?_⟩))
  show wpAny _ _ (Builtin.List.listExtendWith (.ref s.heap.objs.size) (.ref l) (.ref s.heap.objs.size)) _ _ { s with heap := s.heap.push (seqObj "list" #[] 0) }
  unfold Builtin.List.listExtendWith
  refine wpAny_bind (wpAny_typeOf (T := T) ⟨o, hp _ _ ho, hc⟩ ?_)
  have ht : ((Value.type T == Value.type "list") || (Value.type T == Value.type "tuple")) = true := by
    rcases hT with e | e <;> (subst e; rfl)
  rw [if_pos (by rcases hT with e | e <;> (subst e; simp))]
  refine wpAny_bind (listItems_at (hp _ _ ho) hd (wpAny_bind (listItems_at (xs := #[]) (n := 0) hw rfl ?_)))
  rw [if_neg (by simp)]
  refine wpAny_bind (listUpdate_at (xs := #[]) (n := 0) hw rfl (wpAny_pure ?_) (Nat.zero_le _) (by show (#[] ++ vs.toArray).size ≤ sizeLine + 1; simp; omega))
  show wpAny (model prog w) A (load s.heap.objs.size >>= fun u => match u.data with
      | .seq xs _ => pure xs.toList
      | _ => unsupported "internal:collect") Q E { s with heap := (s.heap.push (seqObj "list" #[] 0)).update s.heap.objs.size (Obj.mapSeq (· ++ vs.toArray)) }
  refine wpAny_bind (wpAny_load (get?_update_seq hw _) ?_)
  have ev : ((#[] : Array Value) ++ vs.toArray).toList = vs := by simp
  show wpAny _ _ (pure ((#[] : Array Value) ++ vs.toArray).toList) Q E _
  rw [ev]
  refine wpAny_pure (h _ _ (fun b u e => ?_) ?_)
  · rw [Heap.get?_update_ne _ _ _ _ (Nat.ne_of_lt (Heap.lt_size e))]
    exact hp b u e
  · rw [Heap.size_update, size_push']
    exact Nat.le_succ _
/-- sorted of what may be gathered, by any keywords -/
theorem sorted_it {x : Value} {vs : List Value} {kw : List (Str × Value)} {Q : Value → Shared → Prop} (g : Gathers prog w A.in1 x s vs) (hz : vs.length ≤ sizeLine) (ha1 : argsOk "sorted" ⟨[x], kw⟩) (ha2 : ∀ x, argsOk "list.sort" ⟨[x], kw⟩)
    (body : ∀ (p : Addr) (h1 : Heap) (tk : Nat) (E' : Value → Shared → Prop), s.heap.objs.size ≤ p → (∀ b o, s.heap.get? b = some o → h1.get? b = some o) → h1.get? p = some (seqObj "list" vs.toArray 0) →
      wpAny (model prog w) A.in1.in1 (Builtin.«list.sort» ⟨[.ref p], kw⟩) (fun f s' => f = .done (.ret .none) ∧ Q (.ref p) s') E' { s with heap := h1, toks := tk }) :
    wpAny (model prog w) A (call (.builtin "sorted") [x] kw) Q E s := by
  refine call_function_entry_kw kind_sorted plain_sorted entry_sorted ha1 ?_
  unfold Builtin.«sorted»
  refine wpAny_bind (m := checkCount "sorted" 1 1 _) (wpAny_pure (wpAny_bind (g _ _ fun h1 tk k1 z1 => wpAny_bind (wpAny_newList ?_ hz))))
  have at_ : (h1.push (seqObj "list" vs.toArray 0)).get? h1.objs.size = some (seqObj "list" vs.toArray 0) := Heap.get?_push_size _ rfl
  refine wpAny_bind (wpAny_holding (wpAny_call_entry_kw slot_list_sort ⟨_, at_, rfl⟩ entry_list_sort ?b1 (ha2 _)))
  refine wpAny_mono (body h1.objs.size _ tk _ z1 (fun b o e => Heap.get?_push_of_some _ (k1 b o e)) at_) (fun f s' hf => ?_) fun _ _ e => e
  obtain ⟨e, hq⟩ := hf
  exact ⟨_, e, wpAny_pure ⟨_, rfl, hq⟩⟩
end
/-! ### data -/
def alikeB (ds : List PyData) : Bool := ds.all fun d => ds.all fun e => PySem.W.alike d e
def tupB1 : PyData → Bool
  | .tuple (_ :: _) => true
  | _ => false
def othB : PyData → Bool
  | .tuple _ => false
  | .none => false
  | _ => true
def sortB (ds : List PyData) : Bool := ds.all tupB1 || ds.all othB
theorem alikeB_ok {ds : List PyData} (h : alikeB ds = true) : PySem.W.AllAlike ds := fun d hd e he => List.all_eq_true.mp (List.all_eq_true.mp h d hd) e he
theorem sortB_ok {ds : List PyData} (h : sortB ds = true) : PySem.W.Sortable ds := by
  unfold sortB at h
  rcases Bool.or_eq_true_iff.mp h with h | h
  · left
    intro d hd
    have := List.all_eq_true.mp h d hd
    unfold tupB1 at this
    split at this
    · exact ⟨_, _, rfl⟩
    · cases this
  · right
    intro d hd
    have := List.all_eq_true.mp h d hd
    refine ⟨fun e => ?_, fun xs e => ?_⟩
    · rw [e] at this; cases this
    · rw [e] at this; cases this
def sortOk (ds : List PyData) : Bool := alikeB ds && (sortB ds && decide (∀ d ∈ ds, d.depth ≤ 32))
def sortL (ds : List PyData) : List PyData := ds.mergeSort (PySem.W.dataLe false fun d => d)
def seqD : PyData → Option (List PyData)
  | .list ds => some ds
  | .tuple ds => some ds
  | _ => none
def sortDD : List PyData → Option C
  | [d] => (seqD d).bind fun ds => if sortOk ds = true then some (mkL (sortL ds)) else none
  | _ => none
section
variable [TF] {X : Cx} {K : Frag} {mg : Str → Option Value} {W : WX} {F H : Hp} {v : V} {Q : VK}
/-- a value that holds data -/
def Hd (K : Frag) (F : Hp) (u : Value) (d : PyData) : Prop := ∃ v, RelV v u ∧ Dq K F v d
theorem hd_all : ∀ {vs : List V} {its : List Value} {ds : List PyData}, Vals vs its → DqAll K F vs ds → PySem.W.EachIs (Hd K F) its ds
  | [], _, [], r, _ => by cases r; exact .nil
  | [], _, d :: ds, _, h => by have := h.length; simp at this
  | v :: vs, _, [], _, h => by have := h.length; simp at this
  | v :: vs, its, d :: ds, r, h => by
    cases r with
    | cons r1 r2 =>
      have h1 : Dq K F v d ∧ DqAll K F vs ds := by
        obtain ⟨a, b⟩ := h
        cases a with
        | cons a1 a2 => exact ⟨⟨a1, (lay_cons.mp b).1⟩, a2, (lay_cons.mp b).2⟩
      exact .cons ⟨v, r1, h1.1⟩ (hd_all r2 h1.2)
theorem all_hd : ∀ {its : List Value} {ds : List PyData}, PySem.W.EachIs (Hd K F) its ds → ∃ vs, Vals vs its ∧ DqAll K F vs ds
  | [], [], _ => ⟨[], .nil, .nil⟩
  | u :: us, d :: ds, h => by
    cases h with
    | cons h1 h2 =>
      obtain ⟨v, r, q⟩ := h1
      obtain ⟨vs, r2, q2⟩ := all_hd h2
      exact ⟨v :: vs, .cons r r2, .cons q q2⟩
theorem hd_reads {pins : List (Addr × Obj)} {σ : L2.St} {s : Shared} (I : Inv X pins σ H s) (sub : Same F H) {u : Value} {d : PyData} (h : Hd X.K F u d) : ∃ as, Reads s.heap u d as := by
  obtain ⟨v, r, q⟩ := h
  exact Dp.reads I d v u (q.mono sub).dp r
/-- the object of a list or tuple -/
theorem seq_obj {pins : List (Addr × Obj)} {σ : L2.St} {s : Shared} (I : Inv X pins σ H s) (sub : Same F H) {v : V} {u : Value} {d : PyData} {ds : List PyData} (h : Sh X.K F H v d) (e : seqD d = some ds) (r : RelV v u) :
    ∃ l T its n o, v = .ref l ∧ u = .ref l ∧ s.heap.get? l = some o ∧ o.cls = .type T ∧ o.data = .seq (List.toArray its) n ∧ (T = "list" ∨ T = "tuple") ∧ its.length ≤ sizeLine ∧ PySem.W.EachIs (Hd X.K F) its ds := by
  cases d with
  | list xs =>
    cases e
    obtain ⟨a, vs, rfl, q1, q2⟩ := h.list sub
    obtain ⟨its, rv, hl, hz⟩ := I.list q1
    obtain ⟨o, ho, hc, n, hd⟩ := hl.isList
    exact ⟨a, "list", its, n, o, rfl, r, ho, hc, hd, .inl rfl, by rw [← rv.length]; exact hz, hd_all rv q2⟩
  | tuple xs =>
    cases e
    obtain ⟨a, vs, rfl, _, q1, q2⟩ := h.tup sub
    obtain ⟨its, rv, hl, hz⟩ := I.tuple q1
    obtain ⟨o, ho, hc, n, hd⟩ := hl
    exact ⟨a, "tuple", its, n, o, rfl, r, ho, hc, hd, .inr rfl, by rw [← rv.length]; exact hz, hd_all rv q2⟩
  | none => cases e
  | bool => cases e
  | int => cases e
  | str => cases e
  | dict => cases e
theorem sortL_perm (ds : List PyData) : (sortL ds).Perm ds := List.mergeSort_perm ds _
theorem c_sortDD (hu : X.A.units + 65 < cLine) : CallR X (.builtin "sorted") (rN X.K mg sortDD) := by
  intro pins s σ H xs us Q I r h
  obtain ⟨F, ds, c, sub, sh, e, post⟩ := h
  unfold sortDD at e
  split at e
  · rename_i d
    cases q : seqD d with
    | none => rw [q] at e; cases e
    | some ds =>
      rw [q] at e
      simp only [Option.bind_some] at e
      split at e
      · rename_i hs
        cases e
        unfold sortOk at hs
        obtain ⟨h1, h2⟩ := Bool.and_eq_true_iff.mp hs
        obtain ⟨h2, h3⟩ := Bool.and_eq_true_iff.mp h2
        have h3 := of_decide_eq_true h3
        obtain ⟨v, rfl, s1⟩ := sh.one
        cases r with
        | cons r1 r2 =>
          cases r2
          obtain ⟨l, T, its, n, o, rfl, rfl, ho, hc, hd, hT, hz, eh⟩ := seq_obj I sub s1 q r1
          have gth : Gathers X.prog X.w X.A.in1 (.ref l) s its := gathers_seq ho hc hd hT hz
          refine sorted_it gth hz (args_sorted1 _) (fun _ => args_list_sort _) fun p h1' tk E' hp k1 at_ => ?_
          have er : ∀ h2' : Heap, (∀ b o, s.heap.get? b = some o → h2'.get? b = some o) → PySem.W.EachIs (fun v d => ∃ as, Reads h2' v d as) its ds := fun h2' kk => eh.mono fun v d hv => by
            obtain ⟨as, ra⟩ := hd_reads I sub hv
            exact ⟨as, PyProof.Rows.Reads.keeps kk ra⟩
          have kpre : ∀ b o, s.heap.get? b = some o → (PySem.W.sortingHeap h1' p its).get? b = some o := fun b o eb => by
            have hb : b ≠ p := Nat.ne_of_lt (Nat.lt_of_lt_of_le (Heap.lt_size eb) hp)
            unfold PySem.W.sortingHeap
            refine Heap.get?_push_of_some _ (Heap.get?_push_of_some _ ?_)
            exact (Heap.get?_update_ne _ _ _ _ hb).trans (k1 b o eb)
          have S : PySem.W.SortsAt X.prog X.w X.A.in1.in1 { s with heap := PySem.W.sortingHeap h1' p its, toks := tk } (PySem.W.dataKind (PySem.W.sortingHeap h1' p its) ds) its :=
            PySem.W.SortsAt.data (s := { s with heap := PySem.W.sortingHeap h1' p its, toks := tk }) (er _ kpre) (alikeB_ok h1) (sortB_ok h2) (fun d hd => by
              have := h3 d hd
              show X.A.units + 2 + d.depth < cLine
              omega)
          refine PySem.W.list_sort_vals (s := { s with heap := h1', toks := tk }) at_ S hz ⟨rfl, ?_⟩
          have outs := PySem.W.sortVals_data (R := Hd X.K F) (enc := fun d : PyData => d) false eh (by simpa using er _ kpre) (by simpa using alikeB_ok h1)
          rw [show (ds.map fun d : PyData => d) = ds by simp] at outs
          obtain ⟨vs', rv, dq⟩ := all_hd outs
          obtain ⟨ep, he'⟩ := sortedHeap_at (vs := its) (out := (PySem.W.sortVals (PySem.W.dataKind (PySem.W.sortingHeap h1' p its) ds) false its its).toArray) at_
          have hlen : vs'.length ≤ sizeLine := by
            rw [rv.length, PySem.W.sortVals_length false rfl]
            exact hz
          have kend : ∀ b o, s.heap.get? b = some o → (sortedHeap h1' p its (PySem.W.sortVals (PySem.W.dataKind (PySem.W.sortingHeap h1' p its) ds) false its its).toArray).get? b = some o := fun b o eb => by
            have hb : b ≠ p := Nat.ne_of_lt (Nat.lt_of_lt_of_le (Heap.lt_size eb) hp)
            have e1 := k1 b o eb
            rw [sortedHeap_old hb (Heap.lt_size e1)]
            exact e1
          exact ⟨.ref p, upd H p (.lst vs'), I.laid (t' := tk) kend hp ⟨hlen, _, ep, rv, he'⟩, rfl, post.lst sub dq (I.hok.fresh hp)⟩
      · cases e
  · cases e
/-! ### min, max -/
def noneB (ds : List PyData) : Bool := ds.all fun d => !isNone d
def mmOk (ds : List PyData) : Bool := alikeB ds && (noneB ds && decide (PyData.depthAll ds ≤ 32))
def pairB : PyData → PyData → Bool
  | .int _, .int _ => true
  | .str _, .str _ => true
  | _, _ => false
def minDD : List PyData → Option C
  | [d] => match seqD d with
    | some (x :: xs) => if mmOk (x :: xs) = true then some (.val (PySem.W.minD x xs)) else none
    | _ => none
  | [x, y] => if pairB x y = true then some (.val (if PySem.W.dataLt y x then y else x)) else none
  | _ => none
def maxDD : List PyData → Option C
  | [d] => match seqD d with
    | some (x :: xs) => if mmOk (x :: xs) = true then some (.val (PySem.W.maxD x xs)) else none
    | _ => none
  | [x, y] => if pairB x y = true then some (.val (if PySem.W.dataLt x y then y else x)) else none
  | _ => none
theorem mmOk_ok {ds : List PyData} (h : mmOk ds = true) : PySem.W.AlikeAll ds ∧ PyData.depthAll ds ≤ 32 := by
  unfold mmOk at h
  obtain ⟨h1, h2⟩ := Bool.and_eq_true_iff.mp h
  obtain ⟨h2, h3⟩ := Bool.and_eq_true_iff.mp h2
  refine ⟨⟨alikeB_ok h1, fun d hd e => ?_⟩, of_decide_eq_true h3⟩
  have := List.all_eq_true.mp h2 d hd
  rw [e] at this
  cases this
theorem each_reads {h : Heap} : ∀ {its : List Value} {ds : List PyData}, PySem.W.EachIs (fun v d => ∃ as, Reads h v d as) its ds → ∃ as, ReadsAll h its ds as
  | _, _, .nil => ⟨[], .nil⟩
  | _, _, .cons ⟨as, h1⟩ t => by
    obtain ⟨bs, h2⟩ := each_reads t
    exact ⟨as ++ bs, .cons h1 h2⟩
theorem each_at {R : Value → PyData → Prop} : ∀ {its : List Value} {ds : List PyData} {i : Nat} {v : Value}, PySem.W.EachIs R its ds → its[i]? = some v → ∃ d, d ∈ ds ∧ R v d
  | _, _, 0, v, .cons h1 t, e => by
    simp at e
    subst e
    exact ⟨_, List.mem_cons_self, h1⟩
  | _, _, i + 1, v, .cons h1 t, e => by
    obtain ⟨d, h2, h3⟩ := each_at (i := i) t (by simpa using e)
    exact ⟨d, List.mem_cons_of_mem _ h2, h3⟩
  | _, _, i, v, .nil, e => by simp at e
theorem minD_mem (x : PyData) (xs : List PyData) : PySem.W.minD x xs ∈ x :: xs := by
  unfold PySem.W.minD
  induction xs generalizing x with
  | nil => simp
  | cons y r ih =>
    simp only [List.foldl_cons]
    split
    · rcases List.mem_cons.mp (ih y) with h | h
      · rw [h]; simp
      · simp [h]
    · rcases List.mem_cons.mp (ih x) with h | h
      · rw [h]; simp
      · simp [h]
theorem maxD_mem (x : PyData) (xs : List PyData) : PySem.W.maxD x xs ∈ x :: xs := by
  unfold PySem.W.maxD
  induction xs generalizing x with
  | nil => simp
  | cons y r ih =>
    simp only [List.foldl_cons]
    split
    · rcases List.mem_cons.mp (ih y) with h | h
      · rw [h]; simp
      · simp [h]
    · rcases List.mem_cons.mp (ih x) with h | h
      · rw [h]; simp
      · simp [h]
/-- the one that was chosen is data as it was told -/
theorem chosen {pins : List (Addr × Obj)} {σ : L2.St} {s : Shared} (I : Inv X pins σ H s) (sub : Same F H) {its : List Value} {ds : List PyData} (eh : PySem.W.EachIs (Hd X.K F) its ds) (al : PySem.W.AllAlike ds) {m : PyData} (hm : m ∈ ds) {i : Nat} {u : Value} (hi : its[i]? = some u) {h' : Heap} {bs : List Addr} (kk : ∀ b o, s.heap.get? b = some o → h'.get? b = some o) (rr : Reads h' u m bs) :
    ∃ v, RelV v u ∧ Dq X.K F v m := by
  obtain ⟨d, hd, v, r, q⟩ := each_at eh hi
  obtain ⟨as, ra⟩ := Dp.reads I d v u (q.mono sub).dp r
  have e : m = d := PySem.W.alike_unique _ _ _ _ _ (al _ hm _ hd) rr (PyProof.Rows.Reads.keeps kk ra)
  rw [e]
  exact ⟨v, r, q⟩
/-- values that tell their data in any heap -/
theorem pair_reads {x y : PyData} (hp : pairB x y = true) {v1 v2 : V} {u1 u2 : Value} (s1 : Sh K F H v1 x) (s2 : Sh K F H v2 y) (r1 : RelV v1 u1) (r2 : RelV v2 u2) : (∀ h : Heap, Reads h u1 x []) ∧ (∀ h : Heap, Reads h u2 y []) ∧ PySem.W.alike x y = true ∧ PySem.W.alike y x = true ∧ x ≠ .none ∧ y ≠ .none ∧ x.depth = 0 ∧ y.depth = 0 ∧ PySem.W.alike x x = true ∧ PySem.W.alike y y = true ∧ Dq K F v1 x ∧ Dq K F v2 y := by
  unfold pairB at hp
  split at hp
  · have e1 := s1.int
    have e2 := s2.int
    subst e1 e2
    obtain ⟨t1, rfl⟩ := r1
    obtain ⟨t2, rfl⟩ := r2
    exact ⟨fun _ => .int _ _, fun _ => .int _ _, by simp [PySem.W.alike], by simp [PySem.W.alike], by simp, by simp, by simp [PyData.depth], by simp [PyData.depth], by simp [PySem.W.alike], by simp [PySem.W.alike], .int _, .int _⟩
  · obtain ⟨e1, l1⟩ := s1.str
    obtain ⟨e2, l2⟩ := s2.str
    subst e1 e2
    obtain ⟨t1, rfl⟩ := r1
    obtain ⟨t2, rfl⟩ := r2
    exact ⟨fun _ => .str _ _, fun _ => .str _ _, by simp [PySem.W.alike], by simp [PySem.W.alike], by simp, by simp, by simp [PyData.depth], by simp [PyData.depth], by simp [PySem.W.alike], by simp [PySem.W.alike], .str l1, .str l2⟩
  · cases hp
theorem cmp_two {prog : Program} {w : World} {A : Around} {x y : PyData} {u1 u2 : Value} (hx : ∀ h : Heap, Reads h u1 x []) (hy : ∀ h : Heap, Reads h u2 y []) (a1 : PySem.W.alike x y = true) (a2 : PySem.W.alike y x = true) (a3 : PySem.W.alike x x = true) (a4 : PySem.W.alike y y = true) (n1 : x ≠ .none) (n2 : y ≠ .none) (d1 : x.depth = 0) (d2 : y.depth = 0) (hu : A.units < cLine) :
    CmpOf prog w A .Lt (fun i v => (#[u1, u2] : Array Value)[i]? = some v) (fun i j => PySem.W.dataLt ([x, y].getD i .none) ([x, y].getD j .none)) ∧
    CmpOf prog w A .Gt (fun i v => (#[u1, u2] : Array Value)[i]? = some v) (fun i j => PySem.W.dataLt ([x, y].getD j .none) ([x, y].getD i .none)) := by
  have at_ : ∀ (i : Nat) (v : Value), (#[u1, u2] : Array Value)[i]? = some v → (i = 0 ∧ v = u1) ∨ (i = 1 ∧ v = u2) := fun i v h => by
    match i with
    | 0 => simp at h; exact .inl ⟨rfl, h.symm⟩
    | 1 => simp at h; exact .inr ⟨rfl, h.symm⟩
    | i + 2 => simp at h
  refine ⟨fun i j vi vj s Q E hi hj hq => ?_, fun i j vi vj s Q E hi hj hq => ?_⟩
  · rcases at_ i vi hi with ⟨rfl, rfl⟩ | ⟨rfl, rfl⟩ <;> rcases at_ j vj hj with ⟨rfl, rfl⟩ | ⟨rfl, rfl⟩
    · exact PySem.W.rcLt_alike _ _ A s _ _ _ _ (hx _) (hx _) a3 n1 (by omega) prog w E Q hq
    · exact PySem.W.rcLt_alike _ _ A s _ _ _ _ (hx _) (hy _) a1 n1 (by omega) prog w E Q hq
    · exact PySem.W.rcLt_alike _ _ A s _ _ _ _ (hy _) (hx _) a2 n2 (by omega) prog w E Q hq
    · exact PySem.W.rcLt_alike _ _ A s _ _ _ _ (hy _) (hy _) a4 n2 (by omega) prog w E Q hq
  · rcases at_ i vi hi with ⟨rfl, rfl⟩ | ⟨rfl, rfl⟩ <;> rcases at_ j vj hj with ⟨rfl, rfl⟩ | ⟨rfl, rfl⟩
    · exact PySem.W.rcGt_alike _ _ A s _ _ _ _ (hx _) (hx _) a3 n1 (by omega) prog w E Q hq
    · exact PySem.W.rcGt_alike _ _ A s _ _ _ _ (hx _) (hy _) a1 n1 (by omega) prog w E Q hq
    · exact PySem.W.rcGt_alike _ _ A s _ _ _ _ (hy _) (hx _) a2 n2 (by omega) prog w E Q hq
    · exact PySem.W.rcGt_alike _ _ A s _ _ _ _ (hy _) (hy _) a4 n2 (by omega) prog w E Q hq
theorem two_walk {prog : Program} {w : World} {A : Around} {s : Shared} {E : Value → Shared → Prop} {Q : Value → Shared → Prop} {op : CmpOp} {u1 u2 : Value} {bt : Nat → Nat → Bool} (hh : A.handled = none) (hc : CmpOf prog w A op (fun i v => (#[u1, u2] : Array Value)[i]? = some v) bt)
    (h : ∀ (u : Value) (h' : Heap) (tk : Nat), (#[u1, u2] : Array Value)[argBest bt 1]? = some u → (∀ b o, s.heap.get? b = some o → h'.get? b = some o) → Q u { s with heap := h', toks := tk }) :
    wpAny (model prog w) A (pyIter (.ref s.heap.objs.size)) (fun it s2 => ∃ I fp wr n P St bt, it = .ref I ∧ Walks prog w A I fp wr n P St ∧ St 0 s2.heap ∧ (∀ b ∈ fp, b < s2.heap.objs.size) ∧ 0 < n ∧ CmpOf prog w A op P bt ∧
      ∀ v h' tk, P (argBest bt (n - 1)) v → (∀ b o, b ∉ wr → s2.heap.get? b = some o → h'.get? b = some o) → Q v { s2 with heap := h', toks := tk }) E { s with heap := s.heap.push { cls := .type "tuple", data := .seq #[u1, u2] } } := by
  have at_ : (s.heap.push { cls := .type "tuple", data := .seq #[u1, u2] }).IsTuple s.heap.objs.size #[u1, u2] := ⟨_, Heap.get?_push_size _ rfl, rfl, 0, rfl⟩
  have sz : (s.heap.push { cls := .type "tuple", data := .seq #[u1, u2] }).objs.size = s.heap.objs.size + 1 := Heap.size_push ..
  refine wpAny_pyIter_tuple at_ ⟨_, [_, s.heap.objs.size], [_], _, _, _, bt, rfl, Walks.tuple hh _ s.heap.objs.size (by rw [sz]; exact Nat.ne_of_lt (Nat.lt_succ_self _)) #[u1, u2], ⟨⟨_, Heap.get?_push_size _ rfl, rfl, rfl⟩, at_.push _⟩, fun c hm => ?_, by simp, hc, fun v h' tk hP hk => ?_⟩
  · show c < ((s.heap.push _).push _).objs.size
    rw [Heap.size_push, sz]
    simp only [List.mem_cons, List.not_mem_nil, or_false] at hm
    rcases hm with e | e
    · rw [e, sz]; exact Nat.lt_succ_self _
    · rw [e]; exact Nat.lt_succ_of_lt (Nat.lt_succ_self _)
  · refine h v h' tk hP fun b o e => hk b o (fun hm => ?_) (Heap.get?_push_of_some _ (Heap.get?_push_of_some _ e))
    have l1 := Heap.lt_size e
    rw [List.mem_singleton.mp hm, sz] at l1
    exact Nat.lt_irrefl _ (Nat.lt_of_succ_lt l1)
theorem c_minDD (hc : X.calm = true) (hu : X.A.units + 65 < cLine) : CallR X (.builtin "min") (rN X.K mg minDD) := by
  intro pins s σ H xs us Q I r h
  obtain ⟨F, ds, c, sub, sh, e, post⟩ := h
  unfold minDD at e
  split at e
  · rename_i d
    split at e
    · rename_i x xs q
      split at e
      · rename_i hm
        cases e
        obtain ⟨al, dp⟩ := mmOk_ok hm
        obtain ⟨v, rfl, s1⟩ := sh.one
        cases r with
        | cons r1 r2 =>
          cases r2
          obtain ⟨l, T, its, n, o, rfl, rfl, ho, hcl, hd, hT, hz, eh⟩ := seq_obj I sub s1 q r1
          obtain ⟨as, ra⟩ := each_reads (eh.mono fun v d hv => hd_reads I sub hv)
          have fin : ∀ (i : Nat) (u : Value) (h' : Heap) (tk : Nat) (bs : List Addr), its.toArray[i]? = some u → Reads h' u (PySem.W.minD x xs) bs → (∀ b o, s.heap.get? b = some o → h'.get? b = some o) → EP X pins σ Q u { s with heap := h', toks := tk } := fun i u h' tk bs hi rr kk => by
            obtain ⟨v, rv, dq⟩ := chosen I sub eh al.1 (minD_mem x xs) (i := i) (by simpa using hi) kk rr
            exact ⟨v, H, I.kept kk, rv, post.val sub dq⟩
          rcases hT with e | e
          · subst e
            exact PySem.W.min_list_data (I.ok.hd hc) ⟨o, ho, hcl, n, hd⟩ (by simpa using ra) al (by omega) fin
          · subst e
            exact PySem.W.min_tuple_data (I.ok.hd hc) ⟨o, ho, hcl, n, hd⟩ (by simpa using ra) al (by omega) fin
      · cases e
    · cases e
  · rename_i x y
    split at e
    · rename_i hp
      cases e
      obtain ⟨v1, v2, rfl, s1, s2⟩ := sh.two
      cases r with
      | cons r1 r2 =>
        cases r2 with
        | cons r2 r3 =>
          cases r3
          obtain ⟨hx, hy, a1, a2, n1, n2, d1, d2, a3, a4, q1, q2⟩ := pair_reads hp s1 s2 r1 r2
          have hco := (cmp_two (prog := X.prog) (w := X.w) (A := X.A.in1) hx hy a1 a2 a3 a4 n1 n2 d1 d2 (by show X.A.units + 1 < cLine; omega)).1
          refine call_min_two (two_walk (I.ok.hd hc) hco fun u h' tk hi kk => ?_)
          have e1 : argBest (fun i j => PySem.W.dataLt ([x, y].getD i .none) ([x, y].getD j .none)) 1 = if PySem.W.dataLt y x = true then 1 else 0 := rfl
          rw [e1] at hi
          by_cases hl : PySem.W.dataLt y x = true
          · rw [if_pos hl] at hi post
            simp at hi
            subst hi
            exact ⟨_, H, I.kept kk, r2, post.val sub q2⟩
          · rw [if_neg hl] at hi post
            simp at hi
            subst hi
            exact ⟨_, H, I.kept kk, r1, post.val sub q1⟩
    · cases e
  · cases e
theorem c_maxDD (hc : X.calm = true) (hu : X.A.units + 65 < cLine) : CallR X (.builtin "max") (rN X.K mg maxDD) := by
  intro pins s σ H xs us Q I r h
  obtain ⟨F, ds, c, sub, sh, e, post⟩ := h
  unfold maxDD at e
  split at e
  · rename_i d
    split at e
    · rename_i x xs q
      split at e
      · rename_i hm
        cases e
        obtain ⟨al, dp⟩ := mmOk_ok hm
        obtain ⟨v, rfl, s1⟩ := sh.one
        cases r with
        | cons r1 r2 =>
          cases r2
          obtain ⟨l, T, its, n, o, rfl, rfl, ho, hcl, hd, hT, hz, eh⟩ := seq_obj I sub s1 q r1
          obtain ⟨as, ra⟩ := each_reads (eh.mono fun v d hv => hd_reads I sub hv)
          have fin : ∀ (i : Nat) (u : Value) (h' : Heap) (tk : Nat) (bs : List Addr), its.toArray[i]? = some u → Reads h' u (PySem.W.maxD x xs) bs → (∀ b o, s.heap.get? b = some o → h'.get? b = some o) → EP X pins σ Q u { s with heap := h', toks := tk } := fun i u h' tk bs hi rr kk => by
            obtain ⟨v, rv, dq⟩ := chosen I sub eh al.1 (maxD_mem x xs) (i := i) (by simpa using hi) kk rr
            exact ⟨v, H, I.kept kk, rv, post.val sub dq⟩
          rcases hT with e | e
          · subst e
            exact PySem.W.max_list_data (I.ok.hd hc) ⟨o, ho, hcl, n, hd⟩ (by simpa using ra) al (by omega) fin
          · subst e
            exact PySem.W.max_tuple_data (I.ok.hd hc) ⟨o, ho, hcl, n, hd⟩ (by simpa using ra) al (by omega) fin
      · cases e
    · cases e
  · rename_i x y
    split at e
    · rename_i hp
      cases e
      obtain ⟨v1, v2, rfl, s1, s2⟩ := sh.two
      cases r with
      | cons r1 r2 =>
        cases r2 with
        | cons r2 r3 =>
          cases r3
          obtain ⟨hx, hy, a1, a2, n1, n2, d1, d2, a3, a4, q1, q2⟩ := pair_reads hp s1 s2 r1 r2
          have hco := (cmp_two (prog := X.prog) (w := X.w) (A := X.A.in1) hx hy a1 a2 a3 a4 n1 n2 d1 d2 (by show X.A.units + 1 < cLine; omega)).2
          refine call_max_two (two_walk (I.ok.hd hc) hco fun u h' tk hi kk => ?_)
          have e1 : argBest (fun i j => PySem.W.dataLt ([x, y].getD j .none) ([x, y].getD i .none)) 1 = if PySem.W.dataLt x y = true then 1 else 0 := rfl
          rw [e1] at hi
          by_cases hl : PySem.W.dataLt x y = true
          · rw [if_pos hl] at hi post
            simp at hi
            subst hi
            exact ⟨_, H, I.kept kk, r2, post.val sub q2⟩
          · rw [if_neg hl] at hi post
            simp at hi
            subst hi
            exact ⟨_, H, I.kept kk, r1, post.val sub q1⟩
    · cases e
  · cases e
end
end Nd

/-! Nd21: lambdas. -/
namespace Nd
open PySem PySem.Spec PyProof.Rows L2
section
variable [TF] {X : Cx} {pins : List (Addr × Obj)} {σ : L2.St} {F H : Hp} {s : Shared} {ft : AS}
theorem upd2 {H : Hp} {P c b : Addr} {o u : HO} (h1 : b ≠ P) (h2 : b ≠ c) : upd (upd H P o) c u b = H b := (upd_ne h2).trans (upd_ne h1)
/-- the function object of a lambda -/
def LamO (q : Str) (params : Arguments) (body : Expr) (scope : Scope) (cells : List (Str × Addr)) (f c : Addr) : HO := .ext fun h => ∃ pm ctv, h.get? f = some (PySem.W.kla_obj "<lambda>" q params body scope (cloFrom cells scope.names []) pm c ctv)
theorem lamO_ok {P : Program} {w : World} {H : Hp} {h : Heap} {q : Str} {params : Arguments} {body : Expr} {scope : Scope} {cells : List (Str × Addr)} {f c : Addr} {pm ctv : Value} (e : h.get? f = some (PySem.W.kla_obj "<lambda>" q params body scope (cloFrom cells scope.names []) pm c ctv)) : ObjOk P w H h f (LamO q params body scope cells f c) :=
  ⟨⟨pm, ctv, e⟩, ⟨_, e⟩, fun h1 h2 ⟨pm, ctv, e1⟩ st => ⟨pm, ctv, st _ e1⟩⟩
theorem lamO_get {P : Program} {w : World} {H : Hp} {h : Heap} {q : Str} {params : Arguments} {body : Expr} {scope : Scope} {cells : List (Str × Addr)} {f c : Addr} (k : HOk P w H h) (e : H f = some (LamO q params body scope cells f c)) : ∃ pm ctv, h.get? f = some (PySem.W.kla_obj "<lambda>" q params body scope (cloFrom cells scope.names []) pm c ctv) := (k f _ e).1
/-- one more thing is known -/
theorem ext_f {K : Frag} {F H F1 H1 : Hp} {ft : AS} {f : Addr} {o : HO} (z1 : Same F F1) (z2 : Same F1 H1) (tb : Tb K F1 H1 ft) (z3 : ∀ b o, ¬ ft b → H b = some o → H1 b = some o) (z4 : ∀ b, H b ≠ none → F1 b = F b) (n1 : H1 f = none) (n : H f = none) :
    Same F (upd F1 f o) ∧ Same (upd F1 f o) (upd H1 f o) ∧ Tb K (upd F1 f o) (upd H1 f o) ft ∧ (∀ b o', ¬ ft b → H b = some o' → upd H1 f o b = some o') ∧ (∀ b, H b ≠ none → upd F1 f o b = F b) := by
  have nF : F1 f = none := by
    cases q : F1 f with
    | none => rfl
    | some o => rw [z2 _ _ q] at n1; cases n1
  refine ⟨fun b u e => ?_, fun b u e => ?_, ⟨tb.1, fun p hp => ?_⟩, fun b o' h1 e => ?_, fun b h1 => ?_⟩
  · rw [upd_ne (ne_of_none (z1 _ _ e) nF)]; exact z1 _ _ e
  · by_cases hb : b = f
    · rw [hb, upd_same] at e ⊢; exact e
    · rw [upd_ne hb] at e ⊢; exact z2 _ _ e
  · obtain ⟨g1, ps, g2, g3, g4⟩ := tb.2 p hp
    have np := ne_of_none g2 n1
    refine ⟨by rw [upd_ne np]; exact g1, ps, by rw [upd_ne np]; exact g2, g3, fun pos cv hc => ?_⟩
    obtain ⟨c0, e1, e2⟩ := g4 pos cv hc
    exact ⟨c0, e1, by rw [upd_ne (ne_of_none e2 nF)]; exact e2⟩
  · rw [upd_ne (ne_of_none e n)]; exact z3 b o' h1 e
  · rw [upd_ne (fun z => h1 (by rw [z]; exact n))]; exact z4 b h1
/-- a lambda is made -/
theorem lam_new {c P : Addr} {params : Arguments} {body : Expr} {scope : Scope} {pos : Pos} {E : Value → Shared → Prop} {Q : Value → Shared → Prop} (I : Inv X pins σ H s) (sub : Same F H) (tb : Tb X.K F H ft) (TB : LamX.TabB X.base X.mg c P) (hcode : X.env.code = .ref c)
    (hm : (P, X.env.qual ++ "<lambda>") ∈ tabs X.K) (hu : ∀ p ∈ tabs X.K, p.1 = P → p.2 = X.env.qual ++ "<lambda>") (hdef : defaultsOf params X.env = ([], [])) (hfree : ∀ y ∈ scope.names, y.2 = .free → ∃ c, X.env.cells.lookup y.1 = some c)
    (h : ∀ (f c' : Addr) (pm ctv : Value) (F1 H1 : Hp) (s' : Shared), Inv X pins σ H1 s' → Same F F1 → Same F1 H1 → Tb X.K F1 H1 ft → (∀ b o, ¬ ft b → H b = some o → H1 b = some o) → (∀ b, H b ≠ none → F1 b = F b) →
      s'.heap.get? f = some (PySem.W.kla_obj "<lambda>" (X.env.qual ++ "<lambda>") params body scope (cloFrom X.env.cells scope.names []) pm c' ctv) → F1 f = some (LamO (X.env.qual ++ "<lambda>") params body scope X.env.cells f c') → F1 c' = some (LamX.CodeO c' (X.env.qual ++ "<lambda>")) → Q (.ref f) s') :
    wpAny (model X.prog X.w) X.A (eval (.Lambda params body scope pos) X.env) Q E s := by
  obtain ⟨eF, ps, hP, ht, ha⟩ := tb.2 _ hm
  have bP : s.heap.BuiltinsAt X.mg P := TB.bm.keeps I.bk
  have hobj : s.heap.get? P = some { cls := .none, data := .fields ps } := I.hok P _ hP
  refine PySem.W.kla_eval hdef ?_
  -- the end, alike in both cases
  have fin : ∀ (c' : Addr) (pm ctv : Value) (F1 H1 : Hp) (s1 : Shared) (tk : Nat), Inv X pins σ H1 s1 → s.heap.objs.size ≤ s1.heap.objs.size → Same F F1 → Same F1 H1 → Tb X.K F1 H1 ft → (∀ b o, ¬ ft b → H b = some o → H1 b = some o) → (∀ b, H b ≠ none → F1 b = F b) → F1 c' = some (LamX.CodeO c' (X.env.qual ++ "<lambda>")) →
      Q (.ref s1.heap.objs.size) { s1 with heap := s1.heap.push (PySem.W.kla_obj "<lambda>" (X.env.qual ++ "<lambda>") params body scope (cloFrom X.env.cells scope.names []) pm c' ctv), toks := tk } := fun c' pm ctv F1 H1 s1 tk I1 hsz z1 z2 tb1 z3 z4 hc => by
    have n1 : H1 s1.heap.objs.size = none := I1.hok.fresh (Nat.le_refl _)
    obtain ⟨y1, y2, y3, y4, y5⟩ := ext_f (f := s1.heap.objs.size) (o := LamO (X.env.qual ++ "<lambda>") params body scope X.env.cells s1.heap.objs.size c') z1 z2 tb1 z3 z4 n1 (I.hok.fresh hsz)
    have nc : c' ≠ s1.heap.objs.size := ne_of_none (z2 _ _ hc) n1
    exact h _ c' pm ctv _ _ _ (I1.laid (t' := tk) (a := s1.heap.objs.size) (o := LamO (X.env.qual ++ "<lambda>") params body scope X.env.cells s1.heap.objs.size c') (fun b o e => Heap.get?_push_of_some _ e) (Nat.le_refl _) (lamO_ok (Heap.get?_push_size _ rfl))) y1 y2 y3 y4 y5 (Heap.get?_push_size _ rfl) upd_same (by rw [upd_ne nc]; exact hc)
  cases hc : codeAmong pos ps.toList with
  | some cv =>
    obtain ⟨c', e, hco⟩ := ha pos cv hc
    subst e
    refine PySem.W.kla_makeFunctionHit (mg := X.mg) (c := c) (P := P) (ps := ps) (closure_ok hfree) I.ok.glob (I.mod.glob.keeps I.bk) hcode (TB.code.keeps I.bk) hobj ht hc bP fun ctv h' tk hx hsz => ?_
    exact fin c' _ ctv F H { s with heap := h' } tk (I.kept (t' := s.toks) fun b o e => hx b o e) hsz (Same.refl _) sub tb (fun _ _ _ e => e) (fun _ _ => rfl) hco
  | none =>
    refine PySem.W.kla_makeFunction (mg := X.mg) (c := c) (P := P) (ps := ps) (closure_ok hfree) I.ok.glob (I.mod.glob.keeps I.bk) hcode (TB.code.keeps I.bk) hobj ht hc TB.gP bP fun c' ctv h' tk hx hge hlt hrec htb => ?_
    obtain ⟨c2, oc, vs, t, e2, hoc, hd, hv⟩ := hrec
    injection e2 with e2
    subst e2
    have nC : H c' = none := I.hok.fresh hge
    have nFC : F c' = none := by
      cases q : F c' with
      | none => rfl
      | some o => rw [sub _ _ q] at nC; cases nC
    have nPc : P ≠ c' := ne_of_none hP nC
    have I1 := LamX.inv_table (t' := s.toks) (c := c') (more := #[rawInt pos.line, rawInt pos.col, .ref c']) (h' := h') I hP (fun b o hb e => hx b o hb e) htb hge ⟨oc, vs, t, hoc, hd, hv⟩
    have ftP : ∀ b, ¬ ft b → b ≠ P := fun b n z => n (by rw [z]; exact (tb.1 P).mpr ⟨_, hm⟩)
    have eL : (ps ++ #[rawInt pos.line, rawInt pos.col, .ref c']).toList = ps.toList ++ [rawInt pos.line, rawInt pos.col, .ref c'] := by simp
    refine fin c' _ ctv (upd F c' (LamX.CodeO c' (X.env.qual ++ "<lambda>"))) _ { s with heap := h' } tk I1 (Nat.le_trans hge (Nat.le_of_lt hlt)) (fun b o e => ?_) (fun b o e => ?_) ⟨tb.1, fun p hp => ?_⟩ (fun b o n e => ?_) (fun b n => ?_) upd_same
    · rw [upd_ne (ne_of_none e nFC)]; exact e
    · by_cases hb : b = c'
      · subst hb
        rw [upd_same] at e ⊢
        exact e
      · rw [upd_ne hb] at e
        have hbP : b ≠ P := fun z => by rw [z] at e; rw [eF] at e; cases e
        rw [upd2 hbP hb]
        exact sub _ _ e
    · obtain ⟨g1, ps', g2, g3, g4⟩ := tb.2 p hp
      have npc : p.1 ≠ c' := ne_of_none g2 nC
      refine ⟨by rw [upd_ne npc]; exact g1, ?_⟩
      by_cases hb : p.1 = P
      · rw [hu p hp hb, hb]
        refine ⟨_, by rw [upd_ne nPc, upd_same], by rw [eL]; exact PySem.TriplesOk_snoc _ _ _ _ ht, fun p' cv hcv => ?_⟩
        rw [eL] at hcv
        rcases LamX.among_app _ ht hcv with z | z
        · obtain ⟨c0, e1, e2⟩ := ha p' cv z
          exact ⟨c0, e1, by rw [upd_ne (ne_of_none e2 nFC)]; exact e2⟩
        · exact ⟨c', z, upd_same⟩
      · refine ⟨ps', by rw [upd2 hb npc]; exact g2, g3, fun p' cv hcv => ?_⟩
        obtain ⟨c0, e1, e2⟩ := g4 p' cv hcv
        exact ⟨c0, e1, by rw [upd_ne (ne_of_none e2 nFC)]; exact e2⟩
    · rw [upd2 (ftP b n) (ne_of_none e nC)]; exact e
    · exact upd_ne (fun z => n (by rw [z]; exact nC))
end
/-! ### data without lists -/
mutual
def flatB : PyData → Bool
  | .list _ => false
  | .dict _ => false
  | .tuple ds => flatBs ds
  | _ => true
def flatBs : List PyData → Bool
  | [] => true
  | d :: ds => flatB d && flatBs ds
end
mutual
theorem flat_reads {h : Heap} : ∀ {d : PyData} {v : Value} {as : List Addr}, flatB d = true → Reads h v d as → as = []
  | .none, _, _, _, r => by cases r; rfl
  | .bool _, _, _, _, r => by cases r; rfl
  | .int _, _, _, _, r => by cases r; rfl
  | .str _, _, _, _, r => by cases r; rfl
  | .tuple ds, _, _, hf, r => by
    cases r with
    | tuple h1 h2 h3 h4 => exact flats_reads (by simpa [flatB] using hf) h4
  | .list ds, _, _, hf, r => by simp [flatB] at hf
  | .dict ds, _, _, hf, r => by simp [flatB] at hf
theorem flats_reads {h : Heap} : ∀ {ds : List PyData} {vs : List Value} {as : List Addr}, flatBs ds = true → ReadsAll h vs ds as → as = []
  | [], _, _, _, r => by cases r; rfl
  | d :: ds, _, _, hf, r => by
    cases r with
    | cons r1 r2 =>
      simp only [flatBs, Bool.and_eq_true] at hf
      rw [flat_reads hf.1 r1, flats_reads hf.2 r2]
      rfl
end
/-! ### key expressions, exactly -/
def exH (h h' : Heap) : Prop := ∀ b o, h.get? b = some o → h'.get? b = some o
/-- e of the one local name a, whose data is d, is data f d; nothing that stood is changed -/
structure XEv (prog : Program) (w : World) (A : Around) (env : PySem.Env) (a : Str) (e : Expr) (f : PyData → Option PyData) : Prop where
  run : ∀ (v : Value) (d kd : PyData) (s : Shared) (m : Str → Option Value) (Q E : Value → Shared → Prop), f d = some kd → s.heap.Ns env.locals m → m a = some v → Reads s.heap v d [] →
    (∀ (u : Value) (h' : Heap) (tk : Nat), exH s.heap h' → Reads h' u kd [] → Q u { s with heap := h', toks := tk }) → wpAny (model prog w) A (eval e env) Q E s
structure XEvs (prog : Program) (w : World) (A : Around) (env : PySem.Env) (a : Str) (es : List Expr) (f : PyData → Option (List PyData)) : Prop where
  len : ∀ d ks, f d = some ks → ks.length = es.length
  run : ∀ (v : Value) (d : PyData) (ks : List PyData) (s : Shared) (m : Str → Option Value) (Q : List Value → Shared → Prop) (E : Value → Shared → Prop), f d = some ks → s.heap.Ns env.locals m → m a = some v → Reads s.heap v d [] →
    (∀ (us : List Value) (h' : Heap) (tk : Nat), exH s.heap h' → ReadsAll h' us ks [] → Q us { s with heap := h', toks := tk }) → ∀ pos : Pos, wpAny (model prog w) A (spliced (backTo pos (starEach es env))) Q E s
section
variable {prog : Program} {w : World} {A : Around} {env : PySem.Env} {a : Str}
theorem ns_keep {h h' : Heap} {L : Addr} {m : Str → Option Value} (x : h.Ns L m) (k : exH h h') : h'.Ns L m := by
  obtain ⟨o, es, ep, e, r⟩ := x
  exact ⟨o, es, ep, k _ _ e, r⟩
def kName : PyData → Option PyData := fun d => some d
theorem x_name {p : Pos} (hk0 : env.scope.kind = .function) (hk : env.kindOf a = some .local) (hd : (a == ("__debug__" : Str)) = false := by decide) : XEv prog w A env a (.Name a p) kName :=
  ⟨fun v d kd s m Q E e hn hm r h => by
    cases e
    exact wpAny_Name (wpAny_loadName_local hk0 hk hn hm (h v s.heap s.toks (fun _ _ e => e) r)) hd⟩
def kIx (i : Int) (f : PyData → Option PyData) : PyData → Option PyData := fun d => match f d with
  | some (.tuple xs) => atI xs i
  | _ => none
theorem readsAll_get {h : Heap} : ∀ {vs : List Value} {ds : List PyData} {as : List Addr} {i : Nat} {d : PyData}, ReadsAll h vs ds as → as = [] → ds[i]? = some d → ∃ u, vs[i]? = some u ∧ Reads h u d []
  | _, _, _, 0, d, .cons (as := as) (bs := bs) r1 r2, z, e => by
    obtain ⟨rfl, rfl⟩ := List.append_eq_nil_iff.mp z
    simp at e
    subst e
    exact ⟨_, rfl, r1⟩
  | _, _, _, i + 1, d, .cons (as := as) (bs := bs) r1 r2, z, e => by
    obtain ⟨rfl, rfl⟩ := List.append_eq_nil_iff.mp z
    obtain ⟨u, h1, h2⟩ := readsAll_get (i := i) r2 rfl (by simpa using e)
    exact ⟨u, by simpa using h1, h2⟩
  | _, _, _, i, d, .nil, _, e => by simp at e
theorem readsAll_length {h : Heap} : ∀ {vs : List Value} {ds : List PyData} {as : List Addr}, ReadsAll h vs ds as → vs.length = ds.length
  | _, _, _, .cons r1 r2 => by simp [readsAll_length r2]
  | _, _, _, .nil => rfl
theorem x_item {i : Nat} (hi63 : i < 1000) {f : PyData → Option PyData} {e : Expr} {j : Nat} {p pos : Pos} (he : XEv prog w A env a e f) (hs : PlainIx (.Constant (.int i) j p)) : XEv prog w A env a (.Subscript e (.Constant (.int i) j p) pos) (kIx i f) :=
  ⟨fun v d kd s m Q E ef hn hm r h => by
    unfold kIx at ef
    cases q : f d with
    | none => rw [q] at ef; cases ef
    | some x =>
      rw [q] at ef
      cases x with
      | tuple xs =>
        refine Subscript_ (he.run v d _ s m _ _ q hn hm r fun u h1 tk k1 r1 => ?_)
        refine wpAny_Constant_int ?_
        cases r1 with
        | @tuple b o vs n _ _ ho hc hd ra =>
          obtain ⟨j', h1', h2', h3', h4', h5'⟩ := atI_get ef
          obtain ⟨u, eu, ru⟩ := readsAll_get ra rfl h2'
          have hl := readsAll_length ra
          have h6 : ((i : Int)) < 2 ^ 63 := by omega
          have pl : IsTup h1 b vs := ⟨o, ho, hc, n, hd⟩
          exact subscriptTail_builtinR (x := u) pl.typeIs slot_tuple_getitem.lookup
            (getItem_tuple (j := j') (Q := fun r s' => r = u ∧ Q r s') pl (by omega) h6 (by rw [← Array.length_toList, hl]; exact h1') (by simpa using eu) ⟨rfl, h u _ _ k1 ru⟩) (hs _ _)
      | _ => cases ef⟩
def kNeg (f : PyData → Option PyData) : PyData → Option PyData := fun d => match f d with
  | some (.int i) => some (.int (-i))
  | _ => none
theorem x_neg {f : PyData → Option PyData} {e : Expr} {pos : Pos} (he : XEv prog w A env a e f) : XEv prog w A env a (.UnaryOp .USub e pos) (kNeg f) :=
  ⟨fun v d kd s m Q E ef hn hm r h => by
    unfold kNeg at ef
    cases q : f d with
    | none => rw [q] at ef; cases ef
    | some x =>
      rw [q] at ef
      cases x with
      | int i =>
        cases ef
        refine UnaryOp_ (he.run v d _ s m _ _ q hn hm r fun u h1 tk k1 r1 => ?_)
        cases r1
        exact neg_int (h _ _ _ k1 (.int _ _))
      | _ => cases ef⟩
def kNil : PyData → Option (List PyData) := fun _ => some []
def kCons (f : PyData → Option PyData) (g : PyData → Option (List PyData)) : PyData → Option (List PyData) := fun d => match f d, g d with
  | some x, some xs => some (x :: xs)
  | _, _ => none
def kTup (g : PyData → Option (List PyData)) : PyData → Option PyData := fun d => (g d).map .tuple
theorem kCons_len {f : PyData → Option PyData} {g : PyData → Option (List PyData)} {n : Nat} (h : ∀ d ks, g d = some ks → ks.length = n) : ∀ d ks, kCons f g d = some ks → ks.length = n + 1 := fun d ks e => by
  unfold kCons at e
  split at e
  · rename_i q
    cases e
    simp [h d _ q]
  · cases e
theorem xs_nil : XEvs prog w A env a [] kNil := ⟨fun d ks h => (by cases h; rfl), fun v d ks s m Q E ef hn hm r h pos => by
  cases ef
  exact Calls.spliced_nil (h [] s.heap s.toks (fun _ _ e => e) .nil)⟩
theorem xs_cons {e : Expr} {es : List Expr} {f : PyData → Option PyData} {g : PyData → Option (List PyData)} (he : XEv prog w A env a e f) (hr : XEvs prog w A env a es g) (hs : starEach (e :: es) env = (false, eval e env) :: starEach es env := by rfl) : XEvs prog w A env a (e :: es) (kCons f g) :=
  ⟨kCons_len hr.len, fun v d ks s m Q E ef hn hm r h pos => by
    unfold kCons at ef
    cases q : f d with
    | none => rw [q] at ef; cases ef
    | some x =>
      cases q2 : g d with
      | none => rw [q, q2] at ef; cases ef
      | some xs =>
        rw [q, q2] at ef
        cases ef
        rw [hs]
        show wpAny _ _ (spliced ((false, eval e env) :: backTo pos (starEach es env))) _ _ s
        refine Calls.spliced_cons (he.run v d _ s m _ _ q hn hm r fun u h1 tk k1 r1 => ?_)
        refine hr.run v d xs { s with heap := h1, toks := tk } m _ _ q2 (ns_keep hn k1) hm (PyProof.Rows.Reads.keeps k1 r) (fun us h2 tk2 k2 r2 => ?_) pos
        exact h (u :: us) h2 tk2 (fun b o e => k2 b o (k1 b o e)) (.cons (PyProof.Rows.Reads.keeps k2 r1) r2)⟩
theorem x_tup {es : List Expr} {g : PyData → Option (List PyData)} {x1} {pos : Pos} (he : XEvs prog w A env a es g) (hl : es.length ≤ 1000 := by decide) : XEv prog w A env a (.Tuple es x1 pos) (kTup g) :=
  ⟨fun v d kd s m Q E ef hn hm r h => by
    unfold kTup at ef
    cases q : g d with
    | none => rw [q] at ef; cases ef
    | some ks =>
      rw [q] at ef
      cases ef
      refine wpAny_Tuple_spliced (he.run v d ks s m _ _ q hn hm r (fun us h1 tk k1 r1 => ⟨?_, ?_⟩) pos)
      · rw [readsAll_length r1]
        rw [he.len d ks q]
        exact Nat.le_trans hl (by decide)
      · have k2 : exH h1 (h1.push { cls := .type "tuple", data := .seq us.toArray }) := fun b o e => Heap.get?_push_of_some _ e
        exact h _ _ tk (fun b o e => k2 b o (k1 b o e)) (.tuple (Heap.get?_push_size _ rfl) rfl rfl (by simpa using PyProof.Rows.ReadsAll.keeps k2 r1))⟩
/-- a lambda of one parameter -/
structure Lam1 (params : Arguments) (body : Expr) (scope : Scope) (a : Str) : Prop where
  kind : scope.kind = .function
  co : scope.isCoroutine = false
  gen : scope.isGenerator = false
  nocell : ∀ y ∈ scope.names, y.2 ≠ .cell
  loc : scope.names.lookup a = some .local
  bind : ∀ (q : Str) (cl : List (Str × Addr)) (pm cv ctv u : Value), bindArgs (PySem.W.kla_fn "<lambda>" q params body scope cl pm cv ctv) ⟨[u], []⟩ = pure [(a, u)]
abbrev lenv (q : Str) (scope : Scope) (L f c' : Addr) (cl : List (Str × Addr)) : PySem.Env := PySem.W.envX q scope L f (.ref c') cl
/-- the key of an item -/
theorem key_turn {f c' : Addr} {q : Str} {params : Arguments} {body : Expr} {scope : Scope} {cl : List (Str × Addr)} {pm ctv v : Value} {d kd : PyData} {g : PyData → Option PyData} {s : Shared} (L1 : Lam1 params body scope a) (hr : A.depth < recursionLimit) (lim : s.heap.NoLimit)
    (of : s.heap.get? f = some (PySem.W.kla_obj "<lambda>" q params body scope cl pm c' ctv)) (oc : ∃ (oc : Obj) (vs : Array Value) (t : Tok), s.heap.get? c' = some oc ∧ oc.data = .fields vs ∧ vs[1]? = some (.str q t))
    (hx : ∀ (A : Around) (L : Addr), XEv prog w A (lenv q scope L f c' cl) a body g) (hg : g d = some kd) (r : Reads s.heap v d []) :
    wpAny (model prog w) A (call (.ref f) [v]) (PySem.W.KeyPure kd s) (fun _ _ => False) s := by
  obtain ⟨oc, vs, t, hoc, hd, hv⟩ := oc
  refine wpAny_call ?_
  refine PySem.W.kla_callFunE hr of rfl L1.co L1.gen rfl ⟨c', oc, vs, t, rfl, hoc, hd, hv⟩ ?_
  rw [L1.bind]
  refine wpAny_pure (wpAny_newFunctionEnv L1.nocell (fun y hy => ?_) (fun h1 hns hsb => ⟨lim.fresh _ hsb, ?_⟩) L1.kind)
  · rw [List.mem_singleton.mp hy]
    exact L1.loc
  · have kp : ∀ b o, s.heap.get? b = some o → h1.get? b = some o := fun b o e => hsb.extBut b o (Nat.ne_of_lt (Heap.lt_size e)) (Heap.get?_push_of_some _ e)
    show codeAny _ _ (.expr body (lenv q scope s.heap.objs.size f c' cl)) _ _
    refine PySem.W.kla_codeExpr ((hx _ _).run v d kd { s with heap := h1, toks := s.toks + 1 } _ _ _ hg hns (by simp) (PyProof.Rows.Reads.keeps kp r) fun u h2 tk k2 r2 => ?_)
    exact ⟨h2, tk, rfl, fun b o e => k2 b o (kp b o e), r2⟩
end
def kOf (f : PyData → Option PyData) (d : PyData) : PyData := (f d).getD .none
def sortKD (f : PyData → Option PyData) (d : PyData) : Option C := (seqD d).bind fun ds => if ((ds.all fun d => (f d).isSome) && (sortOk (ds.map (kOf f)) && ds.all fun d => flatB d)) = true then some (mkL (ds.mergeSort (PySem.W.dataLe false (kOf f)))) else none
def gSortK (f : PyData → Option PyData) (g : G Op) : G C := G.bind g fun o ρ => match deref ρ o with
  | some d => match sortKD f d with
    | some c => .ok c ρ
    | none => .bad
  | none => .bad
section
variable [TF] {X : Cx} {mg : Str → Option Value} {W : WX}
/-- the names that a lambda takes over are the def's own -/
def frB (sc scope : Scope) : Bool := scope.names.all fun y => !decide (y.2 = .free) || (decide (sc.names.lookup y.1 = some .cell) || decide (sc.names.lookup y.1 = some .free))
theorem frB_ok {sc scope : Scope} (h : frB sc scope = true) : ∀ y ∈ scope.names, y.2 = .free → sc.names.lookup y.1 = some .cell ∨ sc.names.lookup y.1 = some .free := fun y hy e => by
  have := List.all_eq_true.mp h y hy
  simpa [e] using this
/-- the strongest of what is known behind an operand -/
theorem o_strong {g : G Op} {K : Frag} {mg : Str → Option Value} {F H : Hp} {ρ : Env} {fp : AS} {σ : L2.St} {α : Type} {k : Op → G α} (w : Wd K mg F H ρ fp σ) {ex : Xc → Env → Prop} (hx : ∀ x ρ', g ρ = .ex x ρ' → exPost K mg W F H fp σ x ρ') (hb : g ρ ≠ .bad) :
    tO K mg W g σ H fun v H' => ∃ o ρ' F' fp', g ρ = .ok o ρ' ∧ Wd K mg F' H' ρ' fp' σ ∧ Ro K F' σ o v ∧ Chg fp F H fp' F' H' := by
  refine ⟨ρ, fp, F, w, ?_⟩
  cases q : g ρ with
  | bad => exact hb q
  | ex x ρ' => exact hx x ρ' q
  | ok o ρ' => exact fun v F' H' fp' w' r c => ⟨o, ρ', F', fp', rfl, w', r, c⟩
theorem e_sortK {e : Expr} {params : Arguments} {body : Expr} {scope : Scope} {a : Str} {lpos kpos p pos : Pos} {g : G Op} {fk : PyData → Option PyData} {k : Nat} (LA : LamAt X.K X.mg X.base X.env.code (X.env.qual ++ "<lambda>")) (hr : Room k X.A) (hg : Gl X "sorted") (hm : X.mg "sorted" = none)
    (L1 : Lam1 params body scope a) (hfrB : frB X.env.scope scope = true) (hx : ∀ (f c' : Addr) (cl : List (Str × Addr)) (A : Around) (L : Addr), XEv X.prog X.w A (lenv (X.env.qual ++ "<lambda>") scope L f c' cl) a body fk)
    (ha : PE X e (tO X.K X.mg W g)) (hdef : defaultsOf params X.env = ([], []) := by rfl) (hs : starEach [e] X.env = (false, eval e X.env) :: starEach [] X.env := by rfl)
    (hkw : keywordEach [⟨some (Str.ofString "key"), .Lambda params body scope lpos, kpos⟩] X.env = [(some (Str.ofString "key"), eval (.Lambda params body scope lpos) X.env)] := by rfl) :
    PE X (.Call (.Name "sorted" p) [e] [⟨some (Str.ofString "key"), .Lambda params body scope lpos, kpos⟩] pos) (tE X.K X.mg W (gSortK fk g)) := by
  refine ⟨fun pins s σ H Q I h => ?_⟩
  obtain ⟨ρ, fp, F, w, h⟩ := h
  unfold gSortK G.bind at h
  obtain ⟨c, P, ecode, TB, hmem, huq⟩ := LA.ex
  have hfr := frB_ok hfrB
  refine wpAny_Call_Name_kw (ld_blt (u := .builtin "sorted") I hg hm (by decide +kernel) ?_ (by decide))
  have st : tO X.K X.mg W g σ H fun v H' => ∃ o ρ' F' fp', g ρ = .ok o ρ' ∧ Wd X.K X.mg F' H' ρ' fp' σ ∧ Ro X.K F' σ o v ∧ Chg fp F H fp' F' H' := by
    refine o_strong (α := C) (k := fun _ => G.bad) (ex := fun _ _ => True) w (fun x ρ' q => ?_) fun q => ?_
    · rw [q] at h; exact h
    · rw [q] at h; exact h
  refine PyProof.Rows.callWith_kw (thn ((pa_cons ha pa_nil hs).run pos pins s σ H (fun vs H' => ∃ v, vs = [v] ∧ ∃ o ρ' F' fp', g ρ = .ok o ρ' ∧ Wd X.K X.mg F' H' ρ' fp' σ ∧ Ro X.K F' σ o v ∧ Chg fp F H fp' F' H') I ?_) fun us s1 ⟨vs, H1, I1, r1, v, ev, o, ρ1, F1, fp1, q, w1, ro, ch1⟩ => ?_) (by rw [hs]; rfl) (by rw [hs]; rfl) (by rw [hkw]; rfl) (by rw [hkw]; rfl)
  · exact tO_mono (fun v H' hq => ⟨v, rfl, hq⟩) st
  · subst ev
    rw [q] at h
    simp only [R.bind_ok] at h
    rw [hkw]
    show wpAny _ _ (evalAll [do let v ← eval (.Lambda params body scope lpos) X.env; standAt pos; pure v]) _ _ s1
    cases qd : deref ρ1 o with
    | none => rw [qd] at h; exact h.elim
    | some d =>
      rw [qd] at h
      simp only at h
      cases qs : sortKD fk d with
      | none => rw [qs] at h; exact h.elim
      | some cc =>
        rw [qs] at h
        simp only at h
        have sh1 := deref_sh w1 ro qd
        obtain ⟨f1, f2, re0, tb, dj, cv⟩ := w1.re
        refine wpAny_evalAll_cons (wpAny_bind (lam_new I1 w1.sub tb TB ecode hmem huq hdef (fun y hy e => ?_) fun f c' pm ctv F2 H2 s2 I2 z1 z2 tb2 z3 z4 of2 hfo hcF => wpAny_bind (wpAny_standAt (wpAny_pure (wpAny_evalAll_nil ?_)))))
        · rcases hfr y hy e with q | q
          · exact I1.ok.has _ (.inl q)
          · exact I1.ok.has _ (.inr q)
        · have hco := z2 _ _ hcF
          have ch2 : Chg fp1 F1 H1 fp1 F2 H2 := ⟨z1, fun b ob n e => z3 b ob (fun u => n ((cv b).mpr (.inr u))) e, fun b _ n => z4 b n, fun b u => .inl u⟩
          have w2 : Wd X.K X.mg F2 H2 ρ1 fp1 σ := ⟨z2, f1, f2, re0.frame z1 (fun b u => by
            obtain ⟨_, ob, eb⟩ := re0.own b u
            exact ⟨(z3 b ob (dj b u) eb).trans eb.symm, z4 b (by rw [eb]; simp)⟩), tb2, dj, cv⟩
          have sh2 : Sh X.K F2 H2 v d := by
            rcases sh1 with y | ⟨b, vs, ds, y1, y2, y3, y4⟩
            · exact .inl (y.mono z1)
            · refine .inr ⟨b, vs, ds, y1, y2, z3 b _ (fun u => ?_) y3, y4.mono z1⟩
              obtain ⟨qn, m⟩ := (tb.1 b).mp u
              obtain ⟨_, ps, e2, _⟩ := tb.2 _ m
              rw [e2] at y3
              cases y3
          have post : Post X.K X.mg F2 H2 cc Q := fin_post w2 (ch1.trans ch2) h
          unfold sortKD at qs
          cases q5 : seqD d with
          | none => rw [q5] at qs; cases qs
          | some ds =>
            rw [q5] at qs
            simp only [Option.bind_some] at qs
            split at qs
            · rename_i hcond
              cases qs
              obtain ⟨b1, b2⟩ := Bool.and_eq_true_iff.mp hcond
              obtain ⟨b2, b3⟩ := Bool.and_eq_true_iff.mp b2
              unfold sortOk at b2
              obtain ⟨c1, c2⟩ := Bool.and_eq_true_iff.mp b2
              obtain ⟨c2, c3⟩ := Bool.and_eq_true_iff.mp c2
              have c3 := of_decide_eq_true c3
              cases r1 with
              | cons r1 r0 =>
                cases r0
                obtain ⟨l, T, its, n, ol, rfl, rfl, ho, hc, hd, hT, hz, eh⟩ := seq_obj I2 z2 sh2 q5 r1
                have gth : Gathers X.prog X.w X.A.in1 (.ref l) s2 its := gathers_seq ho hc hd hT hz
                have lenE := eh.length
                show wpAny _ _ (call (.builtin "sorted") [.ref l] [(Str.ofString "key", .ref f)]) _ _ s2
                refine sorted_it gth hz (ksk_s1 _ _) (fun _ => ksk_l1 _ _) fun pp h1' tk E' hp k1 at_ => ?_
                rw [ksk_t1]
                have up : ∀ {h3 : Heap}, PySem.W.KeepsBut pp h1' h3 → ∀ b ob, s2.heap.get? b = some ob → h3.get? b = some ob := fun {h3} kb b ob eb => kb b ob (Nat.ne_of_lt (Nat.lt_of_lt_of_le (Heap.lt_size eb) hp)) (k1 b ob eb)
                refine PySem.W.keyH_tree (kz := ds.map (kOf fk)) (s := { s2 with heap := h1', toks := tk }) at_ (by rw [List.length_map]; exact lenE.symm) hz (alikeB_ok c1) (sortB_ok c2) (fun kd hk => ?_) (PySem.W.keyH_turns (s := { s2 with heap := h1', toks := tk }) (k := kOf fk) eh fun u x hux hxm h3 tk3 kb => ?_) fun h3 tk3 out cnt kb hD ko => ⟨rfl, ?_⟩
                · have := c3 kd hk
                  show X.A.units + 2 + kd.depth < cLine
                  have := hr.un
                  omega
                · have hsm := List.all_eq_true.mp b1 x hxm
                  have hfl := List.all_eq_true.mp b3 x hxm
                  obtain ⟨as, ra⟩ := hd_reads I2 z2 hux
                  have ra0 : Reads s2.heap u x [] := by
                    have := flat_reads hfl ra
                    rw [this] at ra
                    exact ra
                  have eg : fk x = some (kOf fk x) := by
                    unfold kOf
                    cases q6 : fk x with
                    | none => rw [q6] at hsm; cases hsm
                    | some z => rfl
                  obtain ⟨⟨oc, vs, t, hoc, hdc, hvc⟩, _, _⟩ := I2.hok c' _ hco
                  refine key_turn (s := { s2 with heap := h3, toks := tk3 }) L1 ?_ (I2.nolimit.keeps (up kb)) (up kb _ _ of2) ⟨oc, vs, t, up kb _ _ hoc, hdc, hvc⟩ (hx f c' _) eg (PyProof.Rows.Reads.keeps (up kb) ra0)
                  show X.A.depth < recursionLimit
                  have := hr.dp
                  omega
                · have outs := PySem.W.keyedOut_each (kOf fk) ko eh
                  obtain ⟨vs', rv, dq⟩ := all_hd outs
                  have hlen : vs'.length ≤ sizeLine := by
                    rw [rv.length, ko.length (by rw [List.length_map]; exact lenE.symm)]
                    exact hz
                  exact ⟨.ref pp, upd H2 pp (.lst vs'), I2.laid (t' := tk3) (up kb) hp ⟨hlen, _, cnt, rv, hD⟩, rfl, post.lst z2 dq (I2.hok.fresh hp)⟩
            · cases qs
end
end Nd

/-! Nd22: a list of one's own changed; xs.remove(e). -/
namespace Nd
open PySem PySem.Spec PyProof.Rows L2
section
variable [TF] {X : Cx} {K : Frag} {mg : Str → Option Value} {W : WX} {F H F0 H0 : Hp} {ρ : Env} {fp fp0 : AS} {σ : L2.St} {P : List Nat} {pos : Pos}
/-- a list of data in a slot, and what it may become -/
theorem Wd.updL {i : Nat} {cs : List C} {ds : List PyData} (w : Wd K mg F H ρ fp σ) (q : ρ[i]? = some (some (.lst cs))) (hv : vals cs = some ds) :
    ∃ a vs, σ[i]? = some (some (.ref a)) ∧ H a = some (.lst vs) ∧ DqAll K F vs ds ∧ ∀ vs' ds', DqAll K F vs' ds' → Wd K mg F (upd H a (.lst vs')) (ρ.set i (some (mkL ds'))) fp σ ∧ Chg fp F H fp F (upd H a (.lst vs')) := by
  obtain ⟨ov, f1, f2, q1, ⟨v, q2, q3⟩, dj, cv, put⟩ := w.re.focus q
  subst q2
  simp only [Rc] at q3
  obtain ⟨a, vs, f', rfl, h2, h3, h4, h5, h6⟩ := q3
  refine ⟨a, vs, q1, h2, vals_sh h4 hv, fun vs' ds' dq => ?_⟩
  have fa : fp a := (cv a).mpr (.inl ((h6 a).mpr (.inl rfl)))
  have nof : ∀ b, ¬ f' b := vals_none h4 hv
  have sF : Same F (upd H a (.lst vs')) := fun b o e => by
    by_cases hb : b = a
    · subst hb; rw [h3] at e; cases e
    · rw [upd_ne hb]; exact w.sub b o e
  have rr : Rc K mg F (upd H a (.lst vs')) (mkL ds') (.ref a) f1 := by
    unfold mkL
    simp only [Rc]
    exact ⟨a, vs', fun _ => False, rfl, upd_same, h3, Rcs_vals dq, fun z => z, fun b => by rw [h6 b]; exact ⟨fun z => z.imp id (nof b), fun z => z.imp id False.elim⟩⟩
  have re2 := put (some (mkL ds')) (some (.ref a)) F (upd H a (.lst vs')) f1 (Same.refl _) (fun b z => ⟨upd_ne (fun e => by subst e; exact dj _ ((h6 _).mpr (.inl rfl)) z), rfl⟩) ⟨_, rfl, rr⟩ dj
  have e0 : σ.set i (some (.ref a)) = σ := by
    apply List.ext_getElem?
    intro j
    by_cases hj : i = j
    · subst hj; rw [q1]; exact List.getElem?_set_self (List.getElem?_eq_some_iff.mp q1).1
    · exact List.getElem?_set_ne hj
  rw [e0] at re2
  refine ⟨⟨sF, re2.iff fun b => cv b⟩, Same.refl _, fun b o n e => ?_, fun b n e => rfl, fun b z => .inl z⟩
  rw [upd_ne (fun e => by subst e; exact n fa)]
  exact e
def remOk (ds : List PyData) (d : PyData) : Bool := PyData.plainAll ds && (d.plain && decide (d.depth ≤ 32))
def remD (ds : List PyData) (d : PyData) : Option (List PyData) := if remOk ds d = true then (SeqAt.dataPlace ds d).map ds.eraseIdx else none
def gRem (i : Nat) (g : G Op) : G C := G.bind (gHas i) fun _ => G.bind g fun o ρ => match deref ρ o, ρ[i]? with
  | some d, some (some (.lst cs)) => match (vals cs).bind fun ds => remD ds d with
    | some ds' => .ok (.val .none) (ρ.set i (some (mkL ds')))
    | none => .bad
  | _, _ => .bad
/-- xs.remove(e), by what stands there -/
def rRemD (K : Frag) : V → List V → Hp → VK → Prop := fun x ys H Q => ∃ (a : Addr) (y : V) (vs : List V) (ds : List PyData) (d : PyData) (F : Hp) (j : Nat), x = .ref a ∧ ys = [y] ∧ H a = some (.lst vs) ∧ Same F H ∧ DqAll K F vs ds ∧ Sh K F H y d ∧ remOk ds d = true ∧ SeqAt.dataPlace ds d = some j ∧ Q .non (upd H a (.lst (vs.eraseIdx j)))
theorem vals_erase : ∀ {vs : List V} {us : List Value} (j : Nat), Vals vs us → Vals (vs.eraseIdx j) (us.eraseIdx j)
  | _, _, _, .nil => by simp; exact .nil
  | _, _, 0, .cons r t => by simpa using t
  | _, _, j + 1, .cons r t => by simpa using .cons r (vals_erase j t)
theorem DqAll.erase {vs : List V} {ds : List PyData} (j : Nat) (h : DqAll K F vs ds) : DqAll K F (vs.eraseIdx j) (ds.eraseIdx j) := by
  rw [List.eraseIdx_eq_take_drop_succ, List.eraseIdx_eq_take_drop_succ]
  exact (h.take j).append (h.drop (j + 1))
theorem mt_rem (hu : X.A.units + 65 < cLine) : MtR X "list.remove" (rRemD X.K) := by
  intro pins s σ H x xs v us Q I rx rxs h
  obtain ⟨a, y, vs, ds, d, F, j, rfl, rfl, ha, sub, dq, sh, hok, hp, q⟩ := h
  cases rx
  cases rxs with
  | cons ry rt =>
    cases rt
    rename_i u
    unfold remOk at hok
    obtain ⟨o1, o2⟩ := Bool.and_eq_true_iff.mp hok
    obtain ⟨o2, o3⟩ := Bool.and_eq_true_iff.mp o2
    have o3 := of_decide_eq_true o3
    obtain ⟨hz, its, n, rv, hob⟩ := I.hok a _ ha
    obtain ⟨as, ra⟩ := each_reads ((hd_all rv dq).mono fun v d hv => hd_reads I sub hv)
    obtain ⟨bs, rb⟩ := Dp.reads I d y u (sh.dp sub) ry
    refine SeqAt.remove_list_data (vs := its.toArray) ⟨_, hob, rfl, n, rfl⟩ (by simpa using ra) rb o1 o2 (by have := Nat.min_le_right (PyData.depthAll ds) d.depth; omega) hp (by rw [List.size_toArray, ← rv.length]; exact hz) ?_
    obtain ⟨ep, he'⟩ : ∃ ep, (s.heap.update a (Obj.mapSeq fun ys => ys.eraseIdxIfInBounds j)).get? a = some (seqObj "list" (its.toArray.eraseIdxIfInBounds j) ep) := ⟨_, get?_update_seq hob _⟩
    have e1 : its.toArray.eraseIdxIfInBounds j = (its.eraseIdx j).toArray := by simp
    rw [e1] at he'
    have hl2 : (vs.eraseIdx j).length ≤ sizeLine := Nat.le_trans (List.length_eraseIdx_le _ _) hz
    exact ⟨.non, upd H a (.lst (vs.eraseIdx j)), I.write (e := a) (t' := s.toks) (by rw [ha]; trivial) (.inl rfl) (fun b u hb hu => (Heap.get?_update_ne _ _ _ _ hb).trans hu) ⟨_, he'⟩ ⟨hl2, _, ep, vals_erase j rv, he'⟩, rfl, q⟩
theorem gHas_inv {i : Nat} {ρ ρ' : Env} {u : Unit} (h : gHas i ρ = .ok u ρ') : ρ' = ρ ∧ ∃ cs, ρ[i]? = some (some (.lst cs)) := by
  unfold gHas at h
  split at h
  · rename_i cs q
    cases h
    exact ⟨rfl, cs, q⟩
  · cases h
theorem gRem_ok {i : Nat} {g : G Op} {Q : VK} (h : tE K mg W (gRem i g) σ H Q) : tBM K "list" (rRemD K) (tVar i) (tCons (tO K mg W g) tNil) σ H Q := by
  obtain ⟨ρ, fp, F, w, h⟩ := h
  unfold gRem G.bind at h
  cases e0 : gHas i ρ with
  | bad => rw [e0] at h; exact h.elim
  | ex x ρ' =>
    unfold gHas at e0
    split at e0 <;> cases e0
  | ok u ρ' =>
    obtain ⟨er, cs0, q0⟩ := gHas_inv e0
    subst er
    rw [e0] at h
    simp only [R.bind_ok] at h
    obtain ⟨ov, f1, f2, q1, ⟨v, q2, q3⟩, dj, cv, put⟩ := w.re.focus q0
    subst q2
    refine ⟨v, q1, ?_⟩
    simp only [Rc] at q3
    obtain ⟨a, vs, f', rfl, h2, h3, h4, h5, h6⟩ := q3
    refine ⟨.inl ⟨rfl, vs, .of h2⟩, ?_⟩
    show tO K mg W g σ H _
    refine oRun w Chg.refl ?_
    cases q : g ρ' with
    | bad => rw [q] at h; exact h
    | ex x ρ' => rw [q] at h; exact h
    | ok o ρ1 =>
      rw [q] at h
      simp only [R.bind_ok] at h
      intro y F1 H1 fp1 w1 ro _ c1
      cases qd : deref ρ1 o with
      | none => rw [qd] at h; exact h.elim
      | some d =>
        rw [qd] at h
        split at h
        · rename_i c ρ'' e9
          split at e9
          · rename_i d' cs ed es
            cases ed
            split at e9
            · rename_i ds' em
              cases e9
              cases ev : vals cs with
              | none => rw [ev] at em; cases em
              | some ds =>
                rw [ev] at em
                simp only [Option.bind_some] at em
                unfold remD at em
                split at em
                · rename_i hok
                  cases ep : SeqAt.dataPlace ds d with
                  | none => rw [ep] at em; cases em
                  | some j =>
                    rw [ep] at em
                    cases em
                    obtain ⟨a', vs1, p1, p2, p3, upd_⟩ := w1.updL es ev
                    rw [q1] at p1
                    cases p1
                    obtain ⟨w2, c2⟩ := upd_ _ _ (DqAll.erase j p3)
                    exact ⟨a, y, vs1, ds, d, F1, j, rfl, rfl, p2, w1.sub, p3, deref_sh w1 ro qd, hok, ep, h .non F1 _ fp1 (fun _ => False) w2 (Rc.of_dp .non) (fun _ z => z.elim) ((c1.trans c2).or_false)⟩
                · cases em
            · cases e9
          · cases e9
        · rename_i x ρ'' e9
          split at e9
          · split at e9 <;> cases e9
          · cases e9
        · exact h.elim
theorem s_rem {e : Expr} {x : Str} {px apos cpos : Pos} (i : Nat) {g : G Op} (hu : X.A.units + 65 < cLine) (he : PE X e (tO X.K mg W g)) (hN : X.N[i]? = some x := by rfl) (hv : Vis X.env.scope x := by first | exact Or.inl rfl | exact Or.inr (Or.inl rfl) | exact Or.inr (Or.inr rfl))
    (hd : (x == ("__debug__" : Str)) = false := by decide) (hcd : (x == ("__classdict__" : Str)) = false := by decide)
    (hbase : attributeBase (.Name x px) "remove" X.env (eval (.Name x px) X.env) = eval (.Name x px) X.env := by rfl)
    (hfew : ((backTo cpos (starEach [e] X.env)).all (fun x => !x.1) && (backToKw cpos (keywordEach [] X.env)).all (fun x => x.1.isSome) && decide (([e] : List Expr).length + ([] : List Keyword).length + (if ([] : List Keyword).isEmpty then 0 else 1) < 30)) = true := by rfl)
    (hline : (apos.endLine == cpos.line) = true := by rfl) (hs : starEach [e] X.env = (false, eval e X.env) :: starEach [] X.env := by rfl) (hplain : (backTo cpos (starEach [] X.env)).any (·.1) = false := by rfl)
    (hsw : swapsWith (.Call (.Attribute (.Name x px) "remove" apos) [e] [] cpos) none pos.line X.env = pure false := by rfl) :
    PS X (.Expr (.Call (.Attribute (.Name x px) "remove" apos) [e] [] cpos) pos) (tS X.K mg W P (gDrop (gRem i g))) :=
  s_expr ((pe_bm PySem.F.plainAttrs_list PySem.F.slot_list_remove PySem.F.type_list_remove (mt_rem hu) (pe_var hN hv hd hcd) (pa_cons he pa_nil hs) hbase hfew hline hs hplain).imp fun _ _ _ => gRem_ok) hsw
end
end Nd

/-! Nd23: more meanings computed at a given frame. -/
namespace Nd
open PySem L2
section
variable [TF] {ρ : Env}
def srm (f : PyData → Option PyData) : Option PyData → Env → R C
  | some d, ρ => fin (sortKD f d) ρ
  | none, _ => .bad
@[simp] theorem srm_some {f d} : srm f (some d) ρ = fin (sortKD f d) ρ := rfl
def srk (f : PyData → Option PyData) (o : Op) : G C := fun ρ => srm f (deref ρ o) ρ
@[simp] theorem srk_at {f o} : srk f o ρ = srm f (deref ρ o) ρ := rfl
@[simp] theorem gSortK_at {f g} : gSortK f g ρ = (g ρ).bind (srk f) := by
  show (g ρ).bind _ = _
  congr 1
  funext o ρ
  simp only [srk_at]
  cases deref ρ o with
  | none => rfl
  | some d =>
    simp only [srm_some]
    cases sortKD f d <;> rfl
def rmo (i : Nat) : Option (List PyData) → Env → R C
  | some ds', ρ => .ok (.val .none) (ρ.set i (some (mkL ds')))
  | none, _ => .bad
@[simp] theorem rmo_some {i ds} : rmo i (some ds) ρ = .ok (.val .none) (ρ.set i (some (mkL ds))) := rfl
def rmm (i : Nat) : Option PyData → Option (Option C) → Env → R C
  | some d, some (some (.lst cs)), ρ => rmo i ((vals cs).bind fun ds => remD ds d) ρ
  | _, _, _ => .bad
@[simp] theorem rmm_some {i d ds} : rmm i (some d) (some (some (mkL ds))) ρ = rmo i (remD ds d) ρ := by
  show rmo i ((vals (ds.map .val)).bind fun ds => remD ds d) ρ = _
  rw [vals_map]
  rfl
def rmk (i : Nat) (o : Op) : G C := fun ρ => rmm i (deref ρ o) ρ[i]? ρ
@[simp] theorem rmk_at {i o} : rmk i o ρ = rmm i (deref ρ o) ρ[i]? ρ := rfl
@[simp] theorem gRem_at {i g} : gRem i g ρ = (gHas i ρ).bind fun _ => G.bind g (rmk i) := by
  show (gHas i ρ).bind _ = _
  congr 1
  funext u
  unfold G.bind
  funext ρ
  congr 1
  funext o ρ
  simp only [rmk_at]
  cases deref ρ o with
  | none => cases ρ[i]? with
    | none => rfl
    | some c => cases c with
      | none => rfl
      | some c => cases c <;> rfl
  | some d =>
    cases ρ[i]? with
    | none => rfl
    | some c => cases c with
      | none => rfl
      | some c =>
        cases c with
        | lst cs =>
          show (match (vals cs).bind fun ds => remD ds d with | some ds' => R.ok (C.val .none) (ρ.set i (some (mkL ds'))) | none => R.bad) = rmo i _ ρ
          cases (vals cs).bind fun ds => remD ds d <;> rfl
        | _ => rfl
end
end Nd

/-! Nd24: loops by what holds between their turns. -/
namespace Nd
open PySem L2
section
variable [TF]
/-- a for, without a way out -/
theorem for_inv {p : Pat} {gb : G Fl} {I : List PyData → Env → Prop} (step : ∀ d ds ρ, I (d :: ds) ρ → ∃ ρ1 f ρ2, asg p d ρ = some ρ1 ∧ gb ρ1 = .ok f ρ2 ∧ (f = .next ∨ f = .cont) ∧ I ds ρ2) : ∀ (ds : List PyData) (ρ : Env), I ds ρ → ∃ ρ', forL none p gb ds ρ = .ok .next ρ' ∧ I [] ρ'
  | [], ρ, h => ⟨ρ, forL_nil, h⟩
  | d :: ds, ρ, h => by
    obtain ⟨ρ1, f, ρ2, e1, e2, e3, h2⟩ := step d ds ρ h
    obtain ⟨ρ', e4, h3⟩ := for_inv step ds ρ2 h2
    refine ⟨ρ', ?_, h3⟩
    rw [forL_cons, e1, lps_some, e2]
    rcases e3 with e3 | e3 <;> subst e3
    · rw [lp_next]; exact e4
    · rw [lp_cont]; exact e4
/-- a for that may return -/
theorem for_ret {p : Pat} {gb : G Fl} {I : List PyData → Env → Prop} {Rt : C → Env → Prop} (step : ∀ d ds ρ, I (d :: ds) ρ → ∃ ρ1, asg p d ρ = some ρ1 ∧ ((∃ f ρ2, gb ρ1 = .ok f ρ2 ∧ (f = .next ∨ f = .cont) ∧ I ds ρ2) ∨ ∃ c ρ2, gb ρ1 = .ok (.ret c) ρ2 ∧ Rt c ρ2)) :
    ∀ (ds : List PyData) (ρ : Env), I ds ρ → (∃ ρ', forL none p gb ds ρ = .ok .next ρ' ∧ I [] ρ') ∨ ∃ c ρ', forL none p gb ds ρ = .ok (.ret c) ρ' ∧ Rt c ρ'
  | [], ρ, h => .inl ⟨ρ, forL_nil, h⟩
  | d :: ds, ρ, h => by
    obtain ⟨ρ1, e1, ⟨f, ρ2, e2, e3, h2⟩ | ⟨c, ρ2, e2, h2⟩⟩ := step d ds ρ h
    · rcases for_ret step ds ρ2 h2 with ⟨ρ', e4, h3⟩ | ⟨c, ρ', e4, h3⟩
      · left
        refine ⟨ρ', ?_, h3⟩
        rw [forL_cons, e1, lps_some, e2]
        rcases e3 with e3 | e3 <;> subst e3
        · rw [lp_next]; exact e4
        · rw [lp_cont]; exact e4
      · right
        refine ⟨c, ρ', ?_, h3⟩
        rw [forL_cons, e1, lps_some, e2]
        rcases e3 with e3 | e3 <;> subst e3
        · rw [lp_next]; exact e4
        · rw [lp_cont]; exact e4
    · right
      exact ⟨c, ρ2, by rw [forL_cons, e1, lps_some, e2, lp_ret], h2⟩
/-- a for over a list of one's own -/
theorem forS_inv {i : Nat} {c : C} {p : Pat} {gb : G Fl} {I : List PyData → Env → Prop} (hs : ∀ ds ρ, I ds ρ → ρ[i]? = some (some c)) (step : ∀ d ds ρ, I (d :: ds) ρ → ∃ ρ1 f ρ2, asg p d ρ = some ρ1 ∧ gb ρ1 = .ok f ρ2 ∧ (f = .next ∨ f = .cont) ∧ I ds ρ2) : ∀ (ds : List PyData) (ρ : Env), I ds ρ → ∃ ρ', forL (some (i, c)) p gb ds ρ = .ok .next ρ' ∧ I [] ρ'
  | [], ρ, h => ⟨ρ, forS_nil (hs _ _ h), h⟩
  | d :: ds, ρ, h => by
    obtain ⟨ρ1, f, ρ2, e1, e2, e3, h2⟩ := step d ds ρ h
    obtain ⟨ρ', e4, h3⟩ := forS_inv hs step ds ρ2 h2
    refine ⟨ρ', ?_, h3⟩
    rw [forS_cons (hs _ _ h), e1, lps_some, e2]
    rcases e3 with e3 | e3 <;> subst e3
    · rw [lp_next]; exact e4
    · rw [lp_cont]; exact e4
theorem forS_ret {i : Nat} {c : C} {p : Pat} {gb : G Fl} {I : List PyData → Env → Prop} {Rt : C → Env → Prop} (hs : ∀ ds ρ, I ds ρ → ρ[i]? = some (some c)) (step : ∀ d ds ρ, I (d :: ds) ρ → ∃ ρ1, asg p d ρ = some ρ1 ∧ ((∃ f ρ2, gb ρ1 = .ok f ρ2 ∧ (f = .next ∨ f = .cont) ∧ I ds ρ2) ∨ ∃ c ρ2, gb ρ1 = .ok (.ret c) ρ2 ∧ Rt c ρ2)) :
    ∀ (ds : List PyData) (ρ : Env), I ds ρ → (∃ ρ', forL (some (i, c)) p gb ds ρ = .ok .next ρ' ∧ I [] ρ') ∨ ∃ c' ρ', forL (some (i, c)) p gb ds ρ = .ok (.ret c') ρ' ∧ Rt c' ρ'
  | [], ρ, h => .inl ⟨ρ, forS_nil (hs _ _ h), h⟩
  | d :: ds, ρ, h => by
    obtain ⟨ρ1, e1, ⟨f, ρ2, e2, e3, h2⟩ | ⟨c', ρ2, e2, h2⟩⟩ := step d ds ρ h
    · rcases forS_ret hs step ds ρ2 h2 with ⟨ρ', e4, h3⟩ | ⟨c', ρ', e4, h3⟩
      · left
        refine ⟨ρ', ?_, h3⟩
        rw [forS_cons (hs _ _ h), e1, lps_some, e2]
        rcases e3 with e3 | e3 <;> subst e3
        · rw [lp_next]; exact e4
        · rw [lp_cont]; exact e4
      · right
        refine ⟨c', ρ', ?_, h3⟩
        rw [forS_cons (hs _ _ h), e1, lps_some, e2]
        rcases e3 with e3 | e3 <;> subst e3
        · rw [lp_next]; exact e4
        · rw [lp_cont]; exact e4
    · right
      exact ⟨c', ρ2, by rw [forS_cons (hs _ _ h), e1, lps_some, e2, lp_ret], h2⟩
/-- a while: n turns at most are left -/
theorem whl_inv {t : G Bool} {gb : G Fl} {I : Nat → Env → Prop} {J : Env → Prop} (step : ∀ n ρ, I n ρ → (∃ ρ1, t ρ = .ok false ρ1 ∧ J ρ1) ∨ ∃ ρ1 f ρ2 m, t ρ = .ok true ρ1 ∧ gb ρ1 = .ok f ρ2 ∧ (f = .next ∨ f = .cont) ∧ m < n ∧ I m ρ2) :
    ∀ (N n : Nat) (ρ : Env), n < N → I n ρ → ∃ ρ', whl N t gb ρ = .ok .next ρ' ∧ J ρ'
  | 0, n, ρ, hn, h => nomatch hn
  | N + 1, n, ρ, hn, h => by
    rcases step n ρ h with ⟨ρ1, e1, hj⟩ | ⟨ρ1, f, ρ2, m, e1, e2, e3, hm, h2⟩
    · exact ⟨ρ1, by simp [whl, e1], hj⟩
    · obtain ⟨ρ', e4, hj⟩ := whl_inv step N m ρ2 (by omega) h2
      refine ⟨ρ', ?_, hj⟩
      rcases e3 with e3 | e3 <;> subst e3 <;> simp [whl, e1, e2, e4]
/-- a while that may return -/
theorem whl_ret {t : G Bool} {gb : G Fl} {I : Nat → Env → Prop} {J : Env → Prop} {Rt : C → Env → Prop} (step : ∀ n ρ, I n ρ → (∃ ρ1, t ρ = .ok false ρ1 ∧ J ρ1) ∨ (∃ ρ1 f ρ2 m, t ρ = .ok true ρ1 ∧ gb ρ1 = .ok f ρ2 ∧ (f = .next ∨ f = .cont) ∧ m < n ∧ I m ρ2) ∨ ∃ ρ1 c ρ2, t ρ = .ok true ρ1 ∧ gb ρ1 = .ok (.ret c) ρ2 ∧ Rt c ρ2) :
    ∀ (N n : Nat) (ρ : Env), n < N → I n ρ → (∃ ρ', whl N t gb ρ = .ok .next ρ' ∧ J ρ') ∨ ∃ c ρ', whl N t gb ρ = .ok (.ret c) ρ' ∧ Rt c ρ'
  | 0, n, ρ, hn, h => nomatch hn
  | N + 1, n, ρ, hn, h => by
    rcases step n ρ h with ⟨ρ1, e1, hj⟩ | ⟨ρ1, f, ρ2, m, e1, e2, e3, hm, h2⟩ | ⟨ρ1, c, ρ2, e1, e2, h2⟩
    · exact .inl ⟨ρ1, by simp [whl, e1], hj⟩
    · rcases whl_ret step N m ρ2 (by omega) h2 with ⟨ρ', e4, hj⟩ | ⟨c, ρ', e4, hj⟩
      · refine .inl ⟨ρ', ?_, hj⟩
        rcases e3 with e3 | e3 <;> subst e3 <;> simp [whl, e1, e2, e4]
      · refine .inr ⟨c, ρ', ?_, hj⟩
        rcases e3 with e3 | e3 <;> subst e3 <;> simp [whl, e1, e2, e4]
    · exact .inr ⟨c, ρ2, by simp [whl, e1, e2], h2⟩
@[simp] theorem gWhile_at {n : Env → Nat} {t : G Bool} {gb : G Fl} {ρ : Env} : gWhile n t gb ρ = whl (n ρ) t gb ρ := rfl
/-- a comprehension whose parts leave the frame as it is -/
theorem comp_map {p : Pat} {vs : List Nat} {gt : G Bool} {ge : G Op} {f : PyData → Bool} {h : PyData → PyData} {ρ : Env} : ∀ (ds : List PyData), (∀ d ∈ ds, ∃ ρ1, asg p d ρ = some ρ1 ∧ gt ρ1 = .ok (f d) ρ1 ∧ (f d = true → ge ρ1 = .ok (.d (h d)) ρ1) ∧ wipeE ρ1 vs = ρ) →
    compL none p vs gt ge ds ρ = .ok ((ds.filter f).map h) ρ
  | [], _ => by simp [compL_nil]
  | d :: ds, k => by
    obtain ⟨ρ1, e1, e2, e3, e4⟩ := k d List.mem_cons_self
    have ih := comp_map (gt := gt) (ge := ge) (f := f) (h := h) ds fun x hx => k x (List.mem_cons_of_mem _ hx)
    rw [compL_cons, e1, cps_some, e2]
    cases q : f d with
    | true =>
      rw [e3 q |> fun e => (by simp [e, e4, ih, q] : tst (.ok true ρ1) (G.bind ge (elk p vs (compL none p vs gt ge ds))) (fun ρ => compL none p vs gt ge ds (wipeE ρ vs)) = .ok (((d :: ds).filter f).map h) ρ)]
    | false => simp [e4, ih, q]
/-- all turns, in order -/
theorem comp_all {p : Pat} {vs : List Nat} {ge : G Op} {h : PyData → PyData} {ρ : Env} (ds : List PyData) (k : ∀ d ∈ ds, ∃ ρ1, asg p d ρ = some ρ1 ∧ ge ρ1 = .ok (.d (h d)) ρ1 ∧ wipeE ρ1 vs = ρ) : compL none p vs (G.ret true) ge ds ρ = .ok (ds.map h) ρ := by
  have := comp_map (gt := G.ret true) (ge := ge) (f := fun _ => true) (h := h) (p := p) (vs := vs) (ρ := ρ) ds fun d hd => by
    obtain ⟨ρ1, e1, e2, e3⟩ := k d hd
    exact ⟨ρ1, e1, rfl, fun _ => e2, e3⟩
  have e : ds.filter (fun _ => true) = ds := List.filter_eq_self.mpr (by simp)
  rw [e] at this
  exact this
/-- a comprehension that draws: what holds of what is made and of the frame -/
theorem comp_inv {p : Pat} {vs : List Nat} {gt : G Bool} {ge : G Op} {I : List PyData → List PyData → Env → Prop} (step : ∀ d ds ys ρ, I (d :: ds) ys ρ → ∃ ρ1 b ρ2, asg p d ρ = some ρ1 ∧ gt ρ1 = .ok b ρ2 ∧ (b = true → ∃ y ρ3, ge ρ2 = .ok (.d y) ρ3 ∧ I ds (ys ++ [y]) (wipeE ρ3 vs)) ∧ (b = false → I ds ys (wipeE ρ2 vs))) :
    ∀ (ds ys : List PyData) (ρ : Env), I ds ys ρ → ∃ zs ρ', compL none p vs gt ge ds ρ = .ok zs ρ' ∧ I [] (ys ++ zs) ρ'
  | [], ys, ρ, h => ⟨[], ρ, compL_nil, by simpa using h⟩
  | d :: ds, ys, ρ, h => by
    obtain ⟨ρ1, b, ρ2, e1, e2, k1, k2⟩ := step d ds ys ρ h
    rw [compL_cons, e1, cps_some, e2]
    cases b with
    | true =>
      obtain ⟨y, ρ3, e3, h3⟩ := k1 rfl
      obtain ⟨zs, ρ', e4, h4⟩ := comp_inv step ds _ _ h3
      exact ⟨y :: zs, ρ', by simp [e3, e4], by simpa using h4⟩
    | false =>
      obtain ⟨zs, ρ', e4, h4⟩ := comp_inv step ds _ _ (k2 rfl)
      exact ⟨zs, ρ', by simp [e4], h4⟩
end
end Nd

/-! Nd25: enumerate over a list of one's own. -/
namespace Nd
open PySem L2
section
variable [TF] {X : Cx} {K : Frag} {mg : Str → Option Value} {W : WX} {F H : Hp} {ρ : Env} {σ : St}
theorem itOk_enumO {i : Nat} {cs : List C} {a : Addr} {xs : List PyData} (e : vals cs = some xs) : ItOk K mg true (some (i, .lst cs)) a F (enumP xs) (Ite K a) := by
  have key : ∀ {ρ : Env} {fp : AS} {F' H' : Hp} {σ : St}, Wd K mg F' H' ρ fp σ → chk (some (i, .lst cs)) ρ → anchor (some (i, .lst cs)) a σ → ∃ vs, SqL K H' a vs ∧ DqAll K F' vs xs := fun {ρ fp F' H' σ} w ck an => by
    obtain ⟨ov, f1, f2, q1, ⟨v, q2, q3⟩, _⟩ := w.re.focus ck
    have an' : σ[i]? = some (some (.ref a)) := an
    rw [q1, q2] at an'
    cases an'
    simp only [Rc] at q3
    obtain ⟨a', vs, f', h1, h2, h3, h4, h5, h6⟩ := q3
    cases h1
    exact ⟨vs, .of h2, vals_sh h4 e⟩
  refine ⟨fun ρ fp F' H' σ j w ck an se hi => ?_, fun ρ fp F' H' σ j x H2 d w ck an se hd hy => ?_, fun ρ fp F' H' σ w ck an se => ?_⟩
  · obtain ⟨vs, s1, r1⟩ := key w ck an
    have hi' : j < vs.length := by rw [r1.length]; simpa [enumP] using hi
    exact ⟨vs, vs[j], s1, List.getElem?_eq_getElem hi'⟩
  · obtain ⟨vs, s1, r1⟩ := key w ck an
    unfold enumP at hd
    rw [List.getElem?_map, List.getElem?_zipIdx] at hd
    obtain ⟨T, x2, rfl, hT, rfl, k1⟩ := hy
    cases q : xs[j]? with
    | none => rw [q] at hd; cases hd
    | some x1 =>
      rw [q] at hd
      simp only [Option.map_some, Option.some.injEq] at hd
      subst hd
      obtain ⟨u1, e1, q1⟩ := r1.get q
      have z1 := k1 vs s1
      rw [e1] at z1
      have z1' := Option.some.inj z1
      subst z1'
      have x := Frs.newF (p := T) (o := .tup [.int (j : Nat), u1]) w.sub hT
      exact ⟨_, x, .inr ⟨rfl, _, _, _, rfl, rfl, .of upd_same, .cons (by simpa using Dq.int (K := K) (F := upd F' T (.tup [.int (j : Nat), u1])) ((j : Nat) : Int)) (.cons (q1.mono x.fz) .nil)⟩⟩
  · obtain ⟨vs, s1, r1⟩ := key w ck an
    exact ⟨vs, s1, by rw [r1.length]; simp [enumP]⟩
def enS (i : Nat) : Option (Option C) → Option Itm
  | some (some (.val (.list xs))) => if szOk xs = true then some ⟨enumP xs, none⟩ else none
  | some (some (.val (.tuple xs))) => if szOk xs = true then some ⟨enumP xs, none⟩ else none
  | some (some (.lst cs)) => match vals cs with
    | some xs => if szOk xs = true then some ⟨enumP xs, some (i, .lst cs)⟩ else none
    | none => none
  | _ => none
def enSr : Option Itm → Env → R Itm
  | some it, ρ => .ok it ρ
  | none, _ => .bad
def gEnumS (i : Nat) : G Itm := fun ρ => enSr (enS i ρ[i]?) ρ
theorem i_enumS {p px pos tpos : Pos} {elts : List Expr} {kk : Nat} (i : Nat) {x : Str} (hg : Gl X "enumerate") (hm : X.mg "enumerate" = none) (hN : X.N[i]? = some x := by rfl) (hv : Vis X.env.scope x := by first | exact Or.inl rfl | exact Or.inr (Or.inl rfl) | exact Or.inr (Or.inr rfl))
    (hd : (x == ("__debug__" : Str)) = false := by decide) (hcd : (x == ("__classdict__" : Str)) = false := by decide)
    (hs : starEach [.Name x px] X.env = [(false, eval (.Name x px) X.env)] := by rfl) : PI X (.Tuple elts kk tpos) (.Call (.Name "enumerate" p) [.Name x px] [] pos) (tI X.K mg W true (gEnumS i)) := by
  refine ⟨fun pins s σ H Rr I h => ?_⟩
  refine (pi_enumA hg hm (pa_cons (pe_var hN hv hd hcd) pa_nil hs) hs).run pins s σ H Rr I ?_
  obtain ⟨ρ, fp, F, w, h⟩ := h
  unfold gEnumS at h
  cases q : ρ[i]? with
  | none => rw [q] at h; exact h.elim
  | some oc =>
    cases oc with
    | none => rw [q] at h; exact h.elim
    | some c =>
      rw [q] at h
      obtain ⟨ov, f1, f2, q1, ⟨v, q2, q3⟩, _⟩ := w.re.focus q
      subst q2
      refine ⟨v, q1, ?_⟩
      cases c with
      | val d =>
        cases d with
        | list xs =>
          simp only [enS] at h
          by_cases hl : szOk xs = true
          · rw [if_pos hl] at h
            simp only [Rc] at q3
            obtain ⟨a1, vs, rfl, t1, p1⟩ := q3.1.list_inv
            exact ⟨a1, rfl, .inl ⟨vs, w.sub.seq t1, h _ 0 F H fp w Chg.refl trivial trivial (itOk_enumL t1 p1) (by simpa [enumP, szOk] using hl)⟩⟩
          · rw [if_neg hl] at h; exact h.elim
        | tuple xs =>
          simp only [enS] at h
          by_cases hl : szOk xs = true
          · rw [if_pos hl] at h
            simp only [Rc] at q3
            obtain ⟨a1, vs, rfl, t1, p1⟩ := q3.1.tup_inv
            exact ⟨a1, rfl, .inr ⟨vs, SqT.mono w.sub t1.t, h _ 0 F H fp w Chg.refl trivial trivial (itOk_enumT t1.t p1) (by simpa [enumP, szOk] using hl)⟩⟩
          · rw [if_neg hl] at h; exact h.elim
        | none => exact h.elim
        | bool => exact h.elim
        | int => exact h.elim
        | str => exact h.elim
        | dict => exact h.elim
      | lst cs =>
        simp only [enS] at h
        cases zv : vals cs with
        | none => rw [zv] at h; exact h.elim
        | some xs =>
          rw [zv] at h
          simp only at h
          by_cases hl : szOk xs = true
          · rw [if_pos hl] at h
            simp only [Rc] at q3
            obtain ⟨a, vs, f', rfl, h2, h3, h4, h5, h6⟩ := q3
            exact ⟨a, rfl, .inl ⟨vs, .of h2, h (Ite X.K a) a F H fp w Chg.refl q q1 (itOk_enumO zv) (by simpa [enumP, szOk] using hl)⟩⟩
          · rw [if_neg hl] at h; exact h.elim
      | tup => exact h.elim
      | dic => exact h.elim
      | obj => exact h.elim
      | ref => exact h.elim
      | lam => exact h.elim
theorem src_enumS {i : Nat} {T : Src → Prop} (h0 : T none) (h : ∀ c, T (some (i, c))) : ∀ ρ it ρ', gEnumS i ρ = .ok it ρ' → T it.src := by
  intro ρ it ρ' e
  unfold gEnumS at e
  cases z : enS i ρ[i]? with
  | none => rw [z] at e; cases e
  | some it' =>
    rw [z] at e
    cases e
    unfold enS at z
    split at z
    · split at z
      · cases z; exact h0
      · cases z
    · split at z
      · cases z; exact h0
      · cases z
    · split at z
      · split at z
        · cases z; exact h _
        · cases z
      · cases z
    · cases z
@[simp] theorem gEnumS_at {i} : gEnumS i ρ = enSr (enS i ρ[i]?) ρ := rfl
@[simp] theorem enSr_some {it} : enSr (some it) ρ = .ok it ρ := rfl
@[simp] theorem enS_l {i xs} : enS i (some (some (.val (.list xs)))) = if szOk xs = true then some ⟨enumP xs, none⟩ else none := rfl
@[simp] theorem enS_t {i xs} : enS i (some (some (.val (.tuple xs)))) = if szOk xs = true then some ⟨enumP xs, none⟩ else none := rfl
@[simp] theorem enS_o {i xs} : enS i (some (some (mkL xs))) = if szOk xs = true then some ⟨enumP xs, some (i, mkL xs)⟩ else none := by
  show (match vals (xs.map .val) with | some xs => _ | none => _) = _
  rw [vals_map]
  rfl
theorem compS_nil {i c p vs gt ge} (h : ρ[i]? = some (some c)) : compL (some (i, c)) p vs gt ge [] ρ = .ok [] ρ := by
  simp only [compL]
  rw [gChk_some h]; rfl
theorem compS_cons {i c p vs gt ge d ds} (h : ρ[i]? = some (some c)) : compL (some (i, c)) p vs gt ge (d :: ds) ρ = cps p vs gt ge (compL (some (i, c)) p vs gt ge ds) (asg p d ρ) := by
  simp only [compL]
  rw [gChk_some h]
  cases asg p d ρ with
  | none => rfl
  | some ρ1 =>
    simp only [cps_some, tst]
    congr 1
    funext b ρ2
    cases b with
    | false => rfl
    | true =>
      simp only [if_true, bind_at]
      congr 1
      funext o ρ3
      cases o <;> rfl
end
end Nd

/-! Nd26: sets of tuples of texts. -/
namespace Ns
open PySem PySem.Spec PyProof.Rows L2
/-- the tuple at b has the texts k -/
abbrev TKey (P : Program) (w : World) (h : Heap) (k : List Str) (b : Addr) : Prop := IsTupleKey (PySem.strKind P w) h k b
abbrev hkey (P : Program) (w : World) (k : List Str) : Int := tupleKeyHash (PySem.strKind P w) k
section
variable {P : Program} {w : World} {A : Around} {E : Value → Shared → Prop} {s : Shared}
theorem key_strs {k : List Str} {vs : List Value} (h : ItemsAre (PySem.strKind P w) k vs) : ∀ v ∈ vs, ∃ x t, v = Value.str x t := by
  induction h with
  | nil => intro v hv; exact nomatch hv
  | cons h1 _ ih =>
    intro v hv
    rcases List.mem_cons.mp hv with rfl | hv
    · obtain ⟨t, e⟩ := Value.isStrOf_shape h1
      exact ⟨_, t, e⟩
    · exact ih v hv
/-- whether it is hashed by value: one answer or the other, nothing changed -/
theorem byVal {k : List Str} {b : Addr} {Q : Bool → Shared → Prop} (hb : TKey P w s.heap k b) (h : ∀ r, Q r s) : wpAny (model P w) A (hashByValue 8 (.ref b)) Q E s := by
  have hT := hb.typeIs
  obtain ⟨o, its, n, ho, _, hd, hi⟩ := hb
  unfold hashByValue
  refine wpAny_bind (wpAny_specialOf hT F.slot_tuple_hash.lookup ?_)
  show wpAny _ _ (seqItems? (.ref b) >>= _) _ _ s
  refine wpAny_bind (wpAny_seqItems ho hd (wpAny_bind ?_))
  show wpAny _ _ (forIn its _ _) _ _ s
  rw [← Array.forIn_toList]
  refine wpAny_forIn_list _ (fun rest r s' => s' = s ∧ (r.1 = none ∨ r.1 = some false) ∧ ∀ v ∈ rest, ∃ x t, v = Value.str x t) _ ?_ ?_ _ _ ⟨rfl, .inl rfl, key_strs hi⟩
  · rintro v rest r s' ⟨rfl, hr, all⟩
    obtain ⟨x, t, rfl⟩ := all v List.mem_cons_self
    have e : hashByValue 7 (.str x t) = pure false := rfl
    rw [e]
    refine wpAny_bind (wpAny_pure ?_)
    simp only [Bool.not_false, if_true]
    exact wpAny_pure (wpAny_pure (h _))
  · rintro ⟨r1, r2⟩ s' ⟨rfl, hr, _⟩
    simp only at hr
    rcases hr with e | e <;> subst e <;> exact wpAny_pure (h _)
/-- a tuple of texts tells of no class -/
theorem noClass {k : List Str} {b : Addr} {Q : Bool → Shared → Prop} (hb : TKey P w s.heap k b) (h : Q false s) : wpAny (model P w) A (ofAClassStatement 8 (.ref b)) Q E s := by
  have hT := hb.typeIs
  obtain ⟨o, its, n, ho, _, hd, hi⟩ := hb
  unfold ofAClassStatement
  refine wpAny_bind (wpAny_typeOf hT ?_)
  dsimp only
  have e : (("tuple" : String) == "tuple") = true := by decide
  simp only [e, if_true, Bool.not_true, Bool.false_eq_true, if_false]
  try refine wpAny_bind (wpAny_pure ?_)
  try simp only [Bool.not_true, Bool.false_eq_true, if_false]
  show wpAny _ _ (seqItems? (.ref b) >>= _) _ _ s
  refine wpAny_bind (wpAny_seqItems ho hd ?_)
  dsimp only
  refine wpAny_bind ?_
  show wpAny _ _ (forIn its _ _) _ _ s
  rw [← Array.forIn_toList]
  refine wpAny_forIn_list _ (fun rest r s' => s' = s ∧ r.1 = none ∧ ∀ v ∈ rest, ∃ x t, v = Value.str x t) _ ?_ ?_ _ _ ⟨rfl, rfl, key_strs hi⟩
  · rintro v rest r s' ⟨rfl, hr, all⟩
    obtain ⟨x, t, rfl⟩ := all v List.mem_cons_self
    have e : ofAClassStatement 7 (.str x t) = pure false := rfl
    rw [e]
    refine wpAny_bind (wpAny_pure ?_)
    simp only [Bool.false_eq_true, if_false]
    exact wpAny_pure ⟨rfl, rfl, fun u hu => all u (List.mem_cons_of_mem _ hu)⟩
  · rintro ⟨r1, r2⟩ s' ⟨rfl, hr, _⟩
    simp only at hr
    subst hr
    exact wpAny_pure h
/-- nobody sees the search -/
theorem unseen {k : List Str} {b : Addr} {Q : Bool → Shared → Prop} (hb : TKey P w s.heap k b) {ys : List Value} (hy : ∀ y ∈ ys, ∃ k' c, y = Value.ref c ∧ TKey P w s.heap k' c) (h : Q false s) : wpAny (model P w) A (searchCouldBeSeen (.ref b) ys) Q E s := by
  unfold searchCouldBeSeen
  refine wpAny_bind (wpAny_forIn_list _ (fun rest r s' => s' = s ∧ r.1 = none ∧ ∀ y ∈ rest, ∃ k' c, y = Value.ref c ∧ TKey P w s.heap k' c) _ ?_ ?_ _ _ ⟨rfl, rfl, hy⟩)
  · rintro v rest r s' ⟨rfl, hr, all⟩
    obtain ⟨k', c, rfl, hc⟩ := all v List.mem_cons_self
    have more : ∀ y ∈ rest, ∃ k' c, y = Value.ref c ∧ TKey P w s'.heap k' c := fun u hu => all u (List.mem_cons_of_mem _ hu)
    dsimp only
    by_cases hv : (b == c || (carriedByValue (.ref b) && carriedByValue (.ref c))) = true
    · exact wp_if_pos hv (wpAny_pure ⟨rfl, rfl, more⟩)
    · refine wp_if_neg hv (wpAny_bind (wpAny_eqIsQuiet_tuple hb ?_))
      simp only [Bool.not_true, Bool.false_eq_true, if_false]
      refine wpAny_bind (wpAny_eqIsQuiet_tuple hc ?_)
      simp only [Bool.not_true, Bool.false_eq_true, if_false]
      refine wpAny_bind (noClass hb ?_)
      simp only [Bool.false_eq_true, if_false]
      refine wpAny_bind (noClass hc ?_)
      simp only [Bool.false_eq_true, if_false]
      exact wpAny_pure ⟨rfl, rfl, more⟩
  · rintro ⟨r1, r2⟩ s' ⟨rfl, hr, _⟩
    simp only at hr
    subst hr
    exact wpAny_pure h
/-! ### the set as it stands -/
def ents (P : Program) (w : World) (L : List (Addr × List Str)) : List (Int × Value) := L.map fun p => (hkey P w p.2, Value.ref p.1)
structure SetP (P : Program) (w : World) (h : Heap) (a : Addr) (L : List (Addr × List Str)) (es : Array (Int × Value)) (ep : Nat) (t : SetTable) : Prop where
  obj : ∃ o, h.get? a = some o ∧ o.ExactSet ∧ o.data = .set es ep t
  ents_eq : es.toList = ents P w L
  tab : TabOk t (L.map fun p => hkey P w p.2)
  once : (L.map (·.2)).Nodup
  keys : ∀ p ∈ L, TKey P w h p.2 p.1
  led : w.params.followText "set-order" = true ∨ t.led = true
  room : L.length * 5 < t.mask * 3
  few : L.length < 64
variable {a : Addr} {L : List (Addr × List Str)} {es : Array (Int × Value)} {ep : Nat} {t : SetTable}
theorem ents_len {es : Array (Int × Value)} (h : es.toList = ents P w L) : es.size = L.length := by
  rw [← Array.length_toList, h]
  simp [ents]
theorem ents_at {es : Array (Int × Value)} (h : es.toList = ents P w L) {i : Nat} {p : Addr × List Str} (hp : L[i]? = some p) : es[i]? = some (hkey P w p.2, Value.ref p.1) := by
  rw [← Array.getElem?_toList, h]
  simp [ents, hp]
theorem fits_of (T : TabOk t (L.map fun p => hkey P w p.2)) (hr : L.length ≤ t.mask) (he : es.size = L.length) : t.fits es.size = true := by
  have z := T.sz
  rw [List.length_map] at z
  unfold SetTable.fits SetTable.fill
  rw [T.dm, Bool.and_eq_true, beq_iff_eq, decide_eq_true_eq]
  show t.place.size = es.size ∧ t.place.size + 0 ≤ t.mask
  omega
theorem SetP.fits (R : SetP P w s.heap a L es ep t) : t.fits es.size = true := fits_of R.tab (by have := R.room; omega) (ents_len R.ents_eq)
/-- a step of the way -/
def prb (m : Nat) (h : Int) (c : Nat) : SetTable.Probe := nth m (runAt m (SetTable.bits h % (m + 1)) (SetTable.bits h)) c
theorem prb_way (m : Nat) (h : Int) (c : Nat) : (prb m h c).j = way m h c := rfl
theorem prb_add (m : Nat) (h : Int) (c q : Nat) : nth m (prb m h c) q = prb m h (c + q) := (nth_add m c _ q).symm
theorem prb_clean (m : Nat) (h : Int) (c : Nat) : (prb m h c).dummy = none := by
  have key : ∀ (n : Nat) (p : SetTable.Probe), p.dummy = none → (nth m p n).dummy = none := fun n => by
    induction n with
    | zero => exact fun p e => e
    | succ n ih =>
      refine fun p e => ih (adv m p) ?_
      unfold adv
      split <;> exact e
  exact key c _ rfl
theorem find_from (R : SetP P w s.heap a L es ep t) {x : Addr} {k : List Str} (hx : TKey P w s.heap k x) (hu : A.units < cLine) {K : Nat} (hKf : K < 10 * SetTable.turns t.mask)
    (hK : way t.mask (hkey P w k) K ∉ t.place.toList) (hb : ∀ c, c < K → way t.mask (hkey P w k) c ∈ t.place.toList) {Q : SetFound → Shared → Prop}
    (hin : k ∈ L.map (·.2) → Q (.there none) s) (hout : k ∉ L.map (·.2) → Q (.free (way t.mask (hkey P w k) K) false) s) (fuel : Nat) :
    ∀ (c : Nat) (stand : Option SetTable.Probe), stand.getD (t.probeStart (hkey P w k)) = prb t.mask (hkey P w k) c → c ≤ K → K - c < fuel →
      (∀ (i : Nat) p, L[i]? = some p → p.2 = k → ∃ c', c ≤ c' ∧ c' < K ∧ t.place.toList[i]? = some (way t.mask (hkey P w k) c')) →
      wpAny (model P w) A (setSearchFrom a (.ref x) (hkey P w k) true fuel stand) Q E s := by
  induction fuel with
  | zero => intro c stand _ _ hf; exact absurd hf (Nat.not_lt_zero _)
  | succ fuel ih =>
    intro c stand hst hc hf hre
    obtain ⟨o, ho, hex, hd⟩ := R.obj
    have at_ : ∀ (i : Nat) p, L[i]? = some p → (es[i]?.map (·.1)).getD 0 = hkey P w p.2 := fun i p hp => by rw [ents_at R.ents_eq hp]; rfl
    have gw : ¬ t.gaveWay = true := by
      unfold SetTable.gaveWay
      rw [mask_odd R.tab.mok]
      decide
    rw [setSearchFrom_succ]
    refine wpAny_bind (wpAny_setState_of ho hd R.fits ?_)
    dsimp only
    refine wp_if_neg gw ?_
    try refine wpAny_bind (wpAny_pure ?_)
    have eK : c + (K - c) = K := by omega
    rcases go_spec t R.tab.ris R.tab.dm (fun i => (es[i]?.map (·.1)).getD 0) (hkey P w k) (10 * SetTable.turns t.mask) (K - c) (prb t.mask (hkey P w k) c) (prb_clean _ _ _) (by omega)
      (fun q hq => by rw [prb_add, prb_way]; exact hb _ (by omega)) (by rw [prb_add, prb_way, eK]; exact hK) with ⟨q, i, hq, hi, hh, hno, hpr⟩ | ⟨hno, hpr⟩
    · rw [prb_add, prb_way] at hi
      have hpr2 : t.probe (fun i => (es[i]?.map (·.1)).getD 0) (hkey P w k) (stand.getD (t.probeStart (hkey P w k))) = some (.candidate (way t.mask (hkey P w k) (c + q)) i (prb t.mask (hkey P w k) (c + (q + 1)))) := by
        rw [hst]
        refine hpr.trans ?_
        rw [prb_add, prb_add, prb_way]
      rw [hpr2]
      dsimp only
      have hil : i < L.length := by
        have l1 := (List.getElem?_eq_some_iff.mp hi).1
        have l2 := R.tab.sz
        rw [List.length_map] at l2
        rw [Array.length_toList] at l1
        omega
      obtain ⟨p, hp⟩ : ∃ p, L[i]? = some p := ⟨_, List.getElem?_eq_getElem hil⟩
      have hm : p ∈ L := List.mem_of_getElem? hp
      have slot : t.slot (way t.mask (hkey P w k) (c + q)) = .live i := slot_live R.tab.ris hi
      have tail : wpAny (model P w) A (searchRest a (.ref x) (hkey P w k) true fuel es t (way t.mask (hkey P w k) (c + q)) i (prb t.mask (hkey P w k) (c + (q + 1)))) Q E s := by
        unfold searchRest
        rw [ents_at R.ents_eq hp]
        dsimp only
        refine wpAny_bind (wpAny_holding (wpAny_eqBool_tuple hu (R.keys p hm) hx (wpAny_bind (wpAny_setState_of ho hd R.fits ?_))))
        dsimp only
        by_cases hkk : p.2 = k
        · exact wp_if_pos (by simp [hkk]) (wpAny_pure (hin (List.mem_map.mpr ⟨p, hm, hkk⟩)))
        · refine wp_if_neg (by simp [hkk]) ?_
          try refine wpAny_bind (wpAny_pure ?_)
          rw [sameMem]
          dsimp only
          simp only [if_true, slot, ents_at R.ents_eq hp]
          refine wpAny_bind (wpAny_isSame_ref_self (wpAny_bind (wpAny_pure ?_)))
          simp only [if_true]
          refine wp_if_neg (by simp [hkk]) (ih (c + (q + 1)) _ rfl (by omega) (by omega) fun i0 p0 h0 hk0 => ?_)
          obtain ⟨c', a1, a2, a3⟩ := hre i0 p0 h0 hk0
          refine ⟨c', ?_, a2, a3⟩
          rcases Nat.lt_trichotomy c' (c + q) with z | z | z
          · refine absurd ((at_ i0 p0 h0).trans (congrArg (hkey P w) hk0)) (hno (c' - c) i0 (by omega) ?_)
            rw [prb_add, prb_way, show c + (c' - c) = c' by omega]
            exact a3
          · rw [z] at a3
            have s0 := slot_live R.tab.ris a3
            rw [slot] at s0
            injection s0 with s0
            rw [← s0, hp] at h0
            exact absurd ((congrArg Prod.snd (Option.some.inj h0)).trans hk0) hkk
          · omega
      by_cases hl : t.led = true
      · refine wp_if_neg (by simp [hl]) ?_
        try refine wpAny_bind (wpAny_pure ?_)
        exact tail
      · refine wp_if_pos (by simp [hl]) (wpAny_bind (unseen hx (fun y hy => ?_) ?_))
        · obtain ⟨e, he, ee⟩ := List.mem_map.mp hy
          have he1 : e ∈ es ∧ e.1 = hkey P w k := by simpa using he
          have he2 : e ∈ es.toList := by simpa using he1.1
          rw [R.ents_eq] at he2
          obtain ⟨p2, hp2, e2⟩ := List.mem_map.mp he2
          exact ⟨p2.2, p2.1, by rw [← ee, ← e2], R.keys p2 hp2⟩
        · refine wp_if_neg (by decide) ?_
          try refine wpAny_bind (wpAny_pure ?_)
          exact tail
    · have hpr2 : t.probe (fun i => (es[i]?.map (·.1)).getD 0) (hkey P w k) (stand.getD (t.probeStart (hkey P w k))) = some (.empty (way t.mask (hkey P w k) K) none) := by
        rw [hst]
        refine hpr.trans ?_
        rw [prb_add, prb_way, eK]
      rw [hpr2]
      dsimp only
      refine wpAny_pure (hout fun hm => ?_)
      obtain ⟨p0, h0, hk0⟩ := List.mem_map.mp hm
      obtain ⟨i0, hi0, e0⟩ := List.getElem_of_mem h0
      have h00 : L[i0]? = some p0 := by rw [List.getElem?_eq_getElem hi0, e0]
      obtain ⟨c', a1, a2, a3⟩ := hre i0 p0 h00 hk0
      refine hno (c' - c) i0 (by omega) ?_ ((at_ i0 p0 h00).trans (congrArg (hkey P w) hk0))
      rw [prb_add, prb_way, show c + (c' - c) = c' by omega]
      exact a3
theorem find_at (R : SetP P w s.heap a L es ep t) {x : Addr} {k : List Str} (hx : TKey P w s.heap k x) (hu : A.units < cLine) {Q : SetFound → Shared → Prop} (hin : k ∈ L.map (·.2) → Q (.there none) s)
    (hout : ∀ K, k ∉ L.map (·.2) → way t.mask (hkey P w k) K ∉ t.place.toList → (∀ c, c < K → way t.mask (hkey P w k) c ∈ t.place.toList) → Q (.free (way t.mask (hkey P w k) K) false) s) : wpAny (model P w) A (setSearch a (.ref x) (hkey P w k) true) Q E s := by
  have room := R.room
  obtain ⟨K, hKf, hK, hb⟩ := R.tab.first (by rw [List.length_map]; omega) (hkey P w k)
  have big : K < 100000 := by
    have : 10 * SetTable.turns t.mask ≤ 1420 := by
      unfold SetTable.turns
      rcases R.tab.mok with e | e | e <;> omega
    omega
  unfold setSearch
  refine find_from R hx hu hKf hK hb hin (fun hn => hout K hn hK hb) 100000 0 none rfl (Nat.zero_le _) (by omega) fun i p hp hk => ?_
  have hi : (L.map fun p => hkey P w p.2)[i]? = some (hkey P w k) := by rw [List.getElem?_map, hp, ← hk]; rfl
  have hil : i < t.place.toList.length := by
    have l1 := (List.getElem?_eq_some_iff.mp hp).1
    have l2 := R.tab.sz
    rw [List.length_map] at l2
    rw [Array.length_toList]
    omega
  have hj := List.getElem?_eq_getElem hil
  obtain ⟨c, hc, e⟩ := R.tab.before hK hi hj
  exact ⟨c, Nat.zero_le _, hc, by rw [hj, e]⟩
end
end Ns

/-! Nd27: sets of tuples of texts, made and read. -/
namespace Ns
open PySem PySem.Spec PyProof.Rows L2
section
variable {P : Program} {w : World} {A : Around} {E : Value → Shared → Prop} {s : Shared}
theorem range_get {α : Type} : ∀ (L : List α), (List.range L.length).filterMap (fun i => L[i]?) = L
  | [] => rfl
  | x :: r => by
    have ih := range_get r
    simp only [List.length_cons, List.range_succ_eq_map, List.filterMap_cons, List.getElem?_cons_zero, List.filterMap_map]
    congr 1
theorem ents_order {L : List (Addr × List Str)} {es : Array (Int × Value)} {order : Array Nat} (he : es.toList = ents P w L) (hp : order.toList.Perm (List.range L.length)) :
    ∃ L2, (order.filterMap (es[·]?)).toList = ents P w L2 ∧ L2.Perm L ∧ (L2.map fun p => hkey P w p.2) = order.toList.map fun i => (es.map (·.1)).getD i 0 := by
  have get : ∀ i : Nat, es[i]? = (L[i]?).map fun p : Addr × List Str => (hkey P w p.2, Value.ref p.1) := fun i => by
    rw [← Array.getElem?_toList, he]
    simp [ents]
  refine ⟨order.toList.filterMap fun i => L[i]?, ?_, ?_, ?_⟩
  · rw [Array.toList_filterMap]
    unfold ents
    rw [List.map_filterMap]
    congr 1
    funext i
    exact get i
  · have := hp.filterMap fun i => L[i]?
    rwa [range_get] at this
  · have key : ∀ l : List Nat, (∀ i ∈ l, i < L.length) → ((l.filterMap fun i => L[i]?).map fun p => hkey P w p.2) = l.map fun i => (es.map (·.1)).getD i 0 := fun l => by
      induction l with
      | nil => intro _; rfl
      | cons i l ih =>
        intro hl
        have hi := hl i List.mem_cons_self
        have e1 : L[i]? = some L[i] := List.getElem?_eq_getElem hi
        have e2 : (es.map (·.1)).getD i 0 = hkey P w (L[i]).2 := by
          have : (es.map (·.1))[i]? = some (hkey P w (L[i]).2) := by rw [Array.getElem?_map, get, e1]; rfl
          simp [Array.getD_eq_getD_getElem?, this]
        rw [List.filterMap_cons_some e1, List.map_cons, List.map_cons, ih fun j hj => hl j (List.mem_cons_of_mem _ hj), e2]
    exact key _ fun i hi => List.mem_range.mp (hp.mem_iff.mp hi)
theorem key_apart {h h' : Heap} {k : List Str} {a b : Addr} {o : Obj} {es : Array (Int × Value)} {ep : Nat} {t : SetTable} (hb : TKey P w h k b) (ho : h.get? a = some o) (hd : o.data = .set es ep t) (sb : Heap.SameBut a h h') : TKey P w h' k b := by
  obtain ⟨u, its, n, hu, hc, hd', hi⟩ := hb
  refine ⟨u, its, n, (sb.2 b fun z => ?_).trans hu, hc, hd', hi⟩
  subst z
  rw [hu] at ho
  cases ho
  rw [hd] at hd'
  cases hd'
theorem key_keep {h h' : Heap} {k : List Str} {b : Addr} (hb : TKey P w h k b) (kk : ∀ c o, h.get? c = some o → h'.get? c = some o) : TKey P w h' k b := by
  obtain ⟨u, its, n, hu, r⟩ := hb
  exact ⟨u, its, n, kk _ _ hu, r⟩
variable {a : Addr} {L : List (Addr × List Str)} {es : Array (Int × Value)} {ep : Nat} {t : SetTable}
/-- a larger table -/
theorem relay {o : Obj} (ho : s.heap.get? a = some o) (hex : o.ExactSet) (hd : o.data = .set es ep t) (he : es.toList = ents P w L) (T : TabOk t (L.map fun p => hkey P w p.2)) (hr : L.length ≤ t.mask) (once : (L.map (·.2)).Nodup) (keys : ∀ p ∈ L, TKey P w s.heap p.2 p.1)
    (ld : w.params.followText "set-order" = true ∨ t.led = true) (few : L.length < 64) {wanted M : Nat} (hw : SetTable.sizeAbove wanted - 1 = M) (hM : MaskOk M) (hw2 : SetTable.sizeAbove wanted ≤ 128) (hn : L.length * 5 < M * 3) {Q : Unit → Shared → Prop}
    (hQ : ∀ h' L' es' ep' t', Heap.SameBut a s.heap h' → SetP P w h' a L' es' ep' t' → L'.Perm L → Q () { s with heap := h' }) : wpAny (model P w) A (setRelay a wanted) Q E s := by
  have z := ents_len he
  obtain ⟨t', order, e, hp, T', em, el, _, _⟩ := relaid_ok t (hs := es.map (·.1)) (wanted := wanted) hw hM (by rw [Array.size_map, z]; omega)
  rw [Array.size_map, z] at hp
  obtain ⟨L2, r1, r2, r3⟩ := ents_order he hp
  rw [← r3] at T'
  have z2 : (order.filterMap (es[·]?)).size = es.size := by rw [ents_len r1, r2.length_eq, z]
  rw [setRelay_eq]
  refine wpAny_bind (wpAny_setState_of ho hd (fits_of T hr z) ?_)
  dsimp only
  refine wp_if_neg (by rw [sizeLine_eq]; omega) ?_
  try refine wpAny_bind (wpAny_pure ?_)
  rw [e]
  dsimp only
  refine wpAny_bind (wp_if_neg (by rw [z2]; simp) ?_)
  try refine wpAny_bind (wpAny_pure ?_)
  refine wpAny_pure ?_
  dsimp only
  refine wpAny_storeSet_of ho hd ?_ (by rw [z2, z, sizeLine_eq]; omega)
  have sb : Heap.SameBut a s.heap (s.heap.update a (Obj.putSet (order.filterMap (es[·]?)) t')) := Heap.SameBut.update ..
  exact hQ _ L2 _ (ep + 1) t' sb ⟨⟨_, store_at ho hd, ⟨hex.1, hex.2.1, hex.2.2⟩, rfl⟩, r1, T', (r2.map (·.2)).nodup_iff.mpr once, fun p m => key_apart (keys p (r2.mem_iff.mp m)) ho hd sb, by rw [el]; exact ld, by rw [r2.length_eq, em]; exact hn, by rw [r2.length_eq]; exact few⟩ r2
theorem cut_perm {α : Type} (L : List α) (p : Nat) (x : α) : (L.take p ++ x :: L.drop p).Perm (x :: L) := by
  have := List.perm_middle (a := x) (l₁ := L.take p) (l₂ := L.drop p)
  rwa [List.take_append_drop] at this
/-- one more -/
theorem adds (R : SetP P w s.heap a L es ep t) {x : Addr} {k : List Str} (hx : TKey P w s.heap k x) (hu : A.units < cLine) (few : L.length + 1 < 64) {Q : Bool → Shared → Prop}
    (hQ : ∀ b h' L' es' ep' t', Heap.SameBut a s.heap h' → SetP P w h' a L' es' ep' t' → (k ∈ L.map (·.2) → L' = L) → (k ∉ L.map (·.2) → L'.Perm ((x, k) :: L)) → Q b { s with heap := h' }) : wpAny (model P w) A (setAddHashed a (.ref x) (hkey P w k)) Q E s := by
  obtain ⟨o, ho, hex, hd⟩ := R.obj
  have z := ents_len R.ents_eq
  have room := R.room
  unfold setAddHashed
  refine wpAny_holding ?_
  rw [show (100000 : Nat) = 99999 + 1 from rfl, setAddHashedIn_succ]
  refine wpAny_bind (wpAny_setState_of ho hd R.fits ?_)
  dsimp only
  refine wp_if_neg (by simp [byScan, Value.scannable]) ?_
  try refine wpAny_bind (wpAny_pure ?_)
  refine wpAny_bind (find_at R hx hu (fun hm => ?_) fun K hm hK hb => ?_)
  · dsimp only
    exact wpAny_pure (hQ false s.heap L es ep t (Heap.SameBut.refl a s.heap) R (fun _ => rfl) fun n => absurd hm n)
  · dsimp only
    refine wpAny_bind (wpAny_setState_of ho hd R.fits ?_)
    dsimp only
    obtain ⟨q1, q2, q3, q4, q5, q6, q7, q8, q9⟩ := R.tab.put hK hb
    generalize hpt : t.put (way t.mask (hkey P w k) K) = pt at q1 q3 q4 q5 q6 q7 q8 q9 ⊢
    obtain ⟨t1, pl⟩ := pt
    dsimp only at q1 q3 q4 q5 q6 q7 q8 q9 ⊢
    subst q1
    generalize hpp : SetTable.below t.place (way t.mask (hkey P w k) K) = pl at q2 q3 ⊢
    have hin : (SetTable.insertAt es pl (hkey P w k, Value.ref x)).toList = ents P w (L.take pl ++ (x, k) :: L.drop pl) := by
      rw [SetTable.toList_insertAt, R.ents_eq]
      simp [ents, List.map_take, List.map_drop]
    have pm := cut_perm L pl (x, k)
    have hlen : (L.take pl ++ (x, k) :: L.drop pl).length = L.length + 1 := pm.length_eq
    have ehs : (L.map fun p => hkey P w p.2).take pl ++ hkey P w k :: (L.map fun p => hkey P w p.2).drop pl = (L.take pl ++ (x, k) :: L.drop pl).map fun p => hkey P w p.2 := by simp [List.map_take, List.map_drop]
    rw [ehs] at q3
    have once1 : ((L.take pl ++ (x, k) :: L.drop pl).map (·.2)).Nodup := by
      refine (pm.map (·.2)).nodup_iff.mpr ?_
      rw [List.map_cons]
      exact List.nodup_cons.mpr ⟨hm, R.once⟩
    generalize L.take pl ++ (x, k) :: L.drop pl = L1 at pm hlen q3 once1 hin
    have z1 := ents_len hin
    generalize SetTable.insertAt es pl (hkey P w k, Value.ref x) = es1 at hin z1 ⊢
    -- the rest, by whatever table it is that differs in its mark alone
    have go : ∀ t2 : SetTable, (t2.place = t1.place ∧ t2.dummies = t1.dummies ∧ t2.mask = t1.mask ∧ t2.led = t1.led ∧ t2.moves = t1.moves ∧ t2.fill = t1.fill) → TabOk t2 (L1.map fun p => hkey P w p.2) →
        wpAny (model P w) A (storeSet a es1 t2 >>= fun _ => if (!false && t2.tooFull) = true then (setRelay a (SetTable.grown (es.size + 1)) >>= fun _ => pure true) else pure true) Q E s := fun t2 ⟨g1, g2, g3, g4, g5, g6⟩ T2 => by
      refine wpAny_bind (wpAny_storeSet_of ho hd ?_ (by rw [z1, hlen, sizeLine_eq]; omega))
      have sb : Heap.SameBut a s.heap (s.heap.update a (Obj.putSet es1 t2)) := Heap.SameBut.update ..
      have ho1 := store_at (es' := es1) (t' := t2) ho hd
      generalize s.heap.update a (Obj.putSet es1 t2) = h1 at sb ho1 ⊢
      have keys1 : ∀ p ∈ L1, TKey P w h1 p.2 p.1 := fun p hp => by
        rcases List.mem_cons.mp (pm.mem_iff.mp hp) with e | hp
        · rw [e]; exact key_apart hx ho hd sb
        · exact key_apart (R.keys p hp) ho hd sb
      have ld : w.params.followText "set-order" = true ∨ t2.led = true := by rw [g4, q5]; exact R.led
      have efill : t2.fill = L.length + 1 := by rw [g6, q9, List.length_map]
      have em : t2.mask = t.mask := g3.trans q4
      by_cases hf : t2.tooFull = true
      · refine wp_if_pos (by simp [hf]) (wpAny_bind ?_)
        have full : (L.length + 1) * 5 ≥ t.mask * 3 := by
          have h := hf
          unfold SetTable.tooFull at h
          rw [decide_eq_true_eq, efill, em] at h
          exact h
        rw [z]
        have two : (t.mask = 7 ∧ L.length = 4) ∨ (t.mask = 31 ∧ L.length = 18) := by
          rcases R.tab.mok with e | e | e
          · left; rw [e] at full room; exact ⟨e, by omega⟩
          · right; rw [e] at full room; exact ⟨e, by omega⟩
          · exfalso; rw [e] at full; omega
        have more : ∀ M, SetTable.sizeAbove (SetTable.grown (L.length + 1)) - 1 = M → MaskOk M → SetTable.sizeAbove (SetTable.grown (L.length + 1)) ≤ 128 → (L.length + 1) * 5 < M * 3 → wpAny (model P w) A (setRelay a (SetTable.grown (L.length + 1))) (fun _ s' => wpAny (model P w) A (pure true) Q E s') E { s with heap := h1 } := fun M m1 m2 m3 m4 => by
          refine relay (s := { s with heap := h1 }) ho1 ⟨hex.1, hex.2.1, hex.2.2⟩ rfl hin T2 (by rw [hlen, em]; rcases two with ⟨e, e2⟩ | ⟨e, e2⟩ <;> omega) once1 keys1 ld (by rw [hlen]; exact few) m1 m2 m3 (by rw [hlen]; exact m4) ?_
          intro h2 L2 es2 ep2 t2 sb2 R2 pm2
          exact wpAny_pure (hQ true h2 L2 es2 ep2 t2 (sb.trans sb2) R2 (fun y => absurd y hm) fun _ => pm2.trans pm)
        rcases two with ⟨_, e2⟩ | ⟨_, e2⟩
        · exact more 31 (by rw [e2, size_20]) (.inr (.inl rfl)) (by rw [e2, size_20]; decide) (by omega)
        · exact more 127 (by rw [e2, size_76]) (.inr (.inr rfl)) (by rw [e2, size_76]; decide) (by omega)
      · refine wp_if_neg (by simp [hf]) ?_
        refine wpAny_pure (hQ true h1 L1 es1 (ep + 1) t2 sb ⟨⟨_, ho1, ⟨hex.1, hex.2.1, hex.2.2⟩, rfl⟩, hin, T2, once1, keys1, ld, ?_, by rw [hlen]; exact few⟩ (fun y => absurd y hm) fun _ => pm)
        have h := hf
        unfold SetTable.tooFull at h
        rw [decide_eq_true_eq, efill, em] at h
        rw [hlen, em]
        omega
    have unmarked : TabOk { t1 with plain := false } (L1.map fun p => hkey P w p.2) := ⟨q3.ris, q3.dm, q3.sz, q3.mok, q3.bd, q3.reach⟩
    by_cases hpl : t1.plain = true
    · refine wp_if_pos hpl (wpAny_bind (byVal hx fun r => ?_))
      cases r with
      | true => exact go t1 ⟨rfl, rfl, rfl, rfl, rfl, rfl⟩ q3
      | false => exact go { t1 with plain := false } ⟨rfl, rfl, rfl, rfl, rfl, rfl⟩ unmarked
    · refine wp_if_neg hpl (wpAny_bind (wpAny_pure ?_))
      exact go t1 ⟨rfl, rfl, rfl, rfl, rfl, rfl⟩ q3
end
end Ns

/-! Nd28: set(xs) of tuples of texts, sorted and counted. -/
namespace Ns
open PySem PySem.Spec PyProof.Rows L2
/-- what the first i items made -/
structure Gath (ks : List (Addr × List Str)) (i : Nat) (L : List (Addr × List Str)) : Prop where
  from_ : ∀ p ∈ L, p ∈ ks.take i
  has : ∀ p ∈ ks.take i, p.2 ∈ L.map (·.2)
  le : L.length ≤ i
theorem take_snoc {α : Type} {l : List α} {i : Nat} {x : α} (h : l[i]? = some x) : l.take (i + 1) = l.take i ++ [x] := by
  rw [List.take_succ, h]; rfl
theorem Gath.step {ks L L' : List (Addr × List Str)} {i : Nat} {x : Addr × List Str} (g : Gath ks i L) (h : ks[i]? = some x) (h1 : x.2 ∈ L.map (·.2) → L' = L) (h2 : x.2 ∉ L.map (·.2) → L'.Perm (x :: L)) : Gath ks (i + 1) L' := by
  rcases Classical.em (x.2 ∈ L.map (·.2)) with c | c
  · rw [h1 c]
    refine ⟨fun p hp => ?_, fun p hp => ?_, Nat.le_succ_of_le g.le⟩
    · rw [take_snoc h]; exact List.mem_append_left _ (g.from_ p hp)
    · rw [take_snoc h] at hp
      rcases List.mem_append.mp hp with z | z
      · exact g.has p z
      · rw [List.mem_singleton.mp z]; exact c
  · have pm := h2 c
    refine ⟨fun p hp => ?_, fun p hp => ?_, by rw [pm.length_eq]; exact Nat.succ_le_succ g.le⟩
    · rw [take_snoc h]
      rcases List.mem_cons.mp (pm.mem_iff.mp hp) with e | z
      · rw [e]; simp
      · exact List.mem_append_left _ (g.from_ p z)
    · rw [(pm.map (·.2)).mem_iff, List.map_cons]
      rw [take_snoc h] at hp
      rcases List.mem_append.mp hp with z | z
      · exact List.mem_cons_of_mem _ (g.has p z)
      · rw [List.mem_singleton.mp z]; exact List.mem_cons_self
section
variable {P : Program} {w : World} {A : Around} {E : Value → Shared → Prop} {s : Shared}
theorem SetP.keep {h h' : Heap} {a : Addr} {L : List (Addr × List Str)} {es : Array (Int × Value)} {ep : Nat} {t : SetTable} (R : SetP P w h a L es ep t) (ha : ∀ o, h.get? a = some o → h'.get? a = some o) (hk : ∀ p ∈ L, TKey P w h' p.2 p.1) : SetP P w h' a L es ep t := by
  obtain ⟨o, ho, r⟩ := R.obj
  exact ⟨⟨o, ha o ho, r⟩, R.ents_eq, R.tab, R.once, hk, R.led, R.room, R.few⟩
abbrev newSet (w : World) : Obj := { cls := .type "set", dict := none, data := .set #[] 0 (.fresh 0 0 (!w.params.followText "set-order")) }
theorem SetP.new {h : Heap} {a : Addr} (ho : h.get? a = some (newSet w)) : SetP P w h a [] #[] 0 (.fresh 0 0 (!w.params.followText "set-order")) where
  obj := ⟨_, ho, ⟨rfl, rfl, rfl⟩, rfl⟩
  ents_eq := rfl
  tab := ⟨List.Pairwise.nil, rfl, rfl, .inl rfl, fun x hx => (nomatch hx), fun i h j hi => (by simp at hi)⟩
  once := List.nodup_nil
  keys := fun p hp => nomatch hp
  led := by
    show _ ∨ (!w.params.followText "set-order") = true
    cases w.params.followText "set-order"
    · exact .inr rfl
    · exact .inl rfl
  room := by show 0 * 5 < 7 * 3; decide
  few := by show 0 < 64; decide
theorem upd_loop {I : Addr} {fp wr : List Addr} {G : Array GenState → Array GenState → Prop} {n : Nat} {Pv : Nat → Value → Prop} {St : Nat → Shared → Prop} {R : Result → Shared → Prop} (W : WalksS P w A.in1 I fp wr G n Pv St) (S : Addr) (hS : S ∉ fp) (ks : List (Addr × List Str)) (hn : n = ks.length) (few : ks.length < 64)
    (hv : ∀ i v, Pv i v → ∃ p, ks[i]? = some p ∧ v = .ref p.1) (h0 : Heap) (hk : ∀ p ∈ ks, TKey P w h0 p.2 p.1) (n0 : h0.get? S = none) (nw : ∀ b ∈ wr, h0.get? b = none) (hu : A.in1.units < cLine) (j : Nat) :
    ∀ (i : Nat) (s : Shared), n - i = j → i ≤ n → St i s → (∀ b o, h0.get? b = some o → s.heap.get? b = some o) → (∃ L es ep t, SetP P w s.heap S L es ep t ∧ Gath ks i L) →
      (∀ s' L es ep t, Moved (S :: wr) G s s' → SetP P w s'.heap S L es ep t → Gath ks n L → (∀ b o, h0.get? b = some o → s'.heap.get? b = some o) → R (.ok (.ret .none)) s') →
      codeAny (model P w) A (.builtin "set.update.loop" ⟨[.ref S, .ref I], []⟩) R s := by
  have sw : S ∉ wr := fun h => hS (W.sub _ h)
  have into : ∀ b ∈ wr, b ∈ S :: wr := fun b hb => List.mem_cons_of_mem _ hb
  have stay : ∀ {s s' : Shared}, Moved wr G s s' → (∀ b o, h0.get? b = some o → s.heap.get? b = some o) → ∀ b o, h0.get? b = some o → s'.heap.get? b = some o := fun m k b o e => m.heap b o (fun hb => by rw [nw b hb] at e; cases e) (k b o e)
  induction j with
  | zero =>
    intro i s hj hi hst kp ⟨L, es, ep, t, R0, g⟩ fin
    have ei : i = n := by omega
    subst ei
    refine codeAny_builtin F.entry_set_update_loop ?_
    rw [Around.under_plainId F.plain_set_update_loop _]
    show wpAny _ A.in1 (pyNext (.ref I) >>= _) _ _ s
    refine wpAny_bind (W.done s _ _ hst fun s' m => ?_)
    have kp' := stay m kp
    show wpAny _ A.in1 (ret Value.none) _ _ s'
    exact wpAny_pure (fin s' L es ep t (m.mono into) (R0.keep (fun o e => m.heap S o sw e) fun p hp => key_keep (hk p (List.mem_of_mem_take (g.from_ p hp))) kp') g kp')
  | succ j ih =>
    intro i s hj hi hst kp ⟨L, es, ep, t, R0, g⟩ fin
    have lt : i < n := by omega
    refine codeAny_builtin F.entry_set_update_loop ?_
    rw [Around.under_plainId F.plain_set_update_loop _]
    show wpAny _ A.in1 (pyNext (.ref I) >>= _) _ _ s
    refine wpAny_bind (W.item i s _ _ lt hst fun v s' hP hst' m => ?_)
    obtain ⟨p, hp, rfl⟩ := hv i v hP
    have kp' := stay m kp
    have R1 : SetP P w s'.heap S L es ep t := R0.keep (fun o e => m.heap S o sw e) fun q hq => key_keep (hk q (List.mem_of_mem_take (g.from_ q hq))) kp'
    have hx : TKey P w s'.heap p.2 p.1 := key_keep (hk p (List.mem_of_getElem? hp)) kp'
    show wpAny _ A.in1 (holding [Value.ref p.1] (setAdd S (.ref p.1)) >>= _) _ _ s'
    refine wpAny_bind (wpAny_holding ?_)
    unfold setAdd
    refine wpAny_holding (wpAny_bind (wpAny_pyHash_tuple hu hx ?_))
    refine adds (s := { s' with toks := s'.toks + (p.2.length + 1) }) R1 hx hu (by have := g.le; omega) fun b h' L' es' ep' t' sb R2 c1 c2 => ?_
    have kp2 : ∀ b o, h0.get? b = some o → h'.get? b = some o := fun b o e => (sb.2 b (fun z => by rw [z, n0] at e; cases e)).trans (kp' b o e)
    refine wpAny_pure ⟨plainId_quiet F.plain_set_update_loop _, ih (i + 1) _ (by omega) lt (W.frame _ s' _ _ hst' (Nat.le_add_right _ _) fun b hb o e => (sb.2 b (fun z : b = S => hS (z ▸ hb))).trans e) kp2 ⟨L', es', ep', t', R2, g.step hp c1 c2⟩ fun s2 L2 es2 ep2 t2 m2 R3 g2 k2 => ?_⟩
    refine fin s2 L2 es2 ep2 t2 (Moved.trans W.gtrans ((m.mono into).then_heap (Nat.le_add_right _ _) fun b o hb e => ?_) m2) R3 g2 k2
    exact (sb.2 b (fun z : b = S => hb (by rw [z]; exact List.mem_cons_self))).trans e
end
end Ns

/-! Nd31: sets of texts. -/
namespace Ns
open PySem PySem.Spec PyProof.Rows L2
abbrev shash (P : Program) (w : World) (x : Str) : Int := (PySem.strKind P w).hash x
def txt (v : Value) : Str := match v with | .str x _ => x | _ => Str.empty
def GoodS (P : Program) (w : World) (e : Int × Value) : Prop := ∃ x t, e.2 = Value.str x t ∧ e.1 = shash P w x
def nmS (e : Int × Value) : Str := txt e.2
/-- the set of texts at a: its members are L, in some order -/
def SetS (P : Program) (w : World) (h : Heap) (a : Addr) (L : List Str) : Prop :=
  ∃ o es ep t, h.get? a = some o ∧ o.ExactSet ∧ o.data = .set es ep t ∧ (∀ e ∈ es.toList, GoodS P w e) ∧ es.toList.map nmS = L ∧ L.Nodup ∧
    es.size < scanBound ∧ t.fits es.size = true ∧ Ris t.place.toList ∧ (w.params.followText "set-order" = true ∨ t.led = true)
section
variable {P : Program} {w : World} {A : Around} {E : Value → Shared → Prop} {s : Shared} {a : Addr} {L : List Str}
theorem SetS.at {h h' : Heap} (R : SetS P w h a L) (k : ∀ o, h.get? a = some o → h'.get? a = some o) : SetS P w h' a L := by
  obtain ⟨o, es, ep, t, ho, r⟩ := R
  exact ⟨o, es, ep, t, k o ho, r⟩
theorem good_elS {l : List (Int × Value)} (g : ∀ e ∈ l, GoodS P w e) : ElemsOf (PySem.strKind P w) l := fun e he => by
  obtain ⟨k, tk, h1, h2⟩ := g e he
  exact ⟨⟨k, by rw [h1]; exact PySem.strKind_is P w k tk, h2⟩, by rw [h1] <;> rfl⟩
theorem good_isS {e : Int × Value} (g : GoodS P w e) (k : Str) : (PySem.strKind P w).is k e.2 = true ↔ nmS e = k := by
  obtain ⟨k0, tk, h1, _⟩ := g
  unfold nmS txt
  rw [h1]
  show ((k0 == k) = true) ↔ k0 = k
  exact beq_iff_eq
theorem SetS.new {h : Heap} (ho : h.get? a = some (newSet w)) : SetS P w h a [] := by
  refine ⟨_, #[], 0, _, ho, ⟨rfl, rfl, rfl⟩, rfl, (fun e he => nomatch he), rfl, List.nodup_nil, by unfold scanBound; decide, rfl, List.Pairwise.nil, ?_⟩
  show _ ∨ (!w.params.followText "set-order") = true
  cases w.params.followText "set-order"
  · exact .inr rfl
  · exact .inl rfl
theorem addS_tail {g : Bool → Sem Unit} (hg : ∀ (b : Bool) (s₁ : Shared) (Q' : Unit → Shared → Prop), Q' () s₁ → wpAny (model P w) A (g b) Q' E s₁)
    {o : Obj} {es : Array (Int × Value)} {ep : Nat} {t : SetTable} (ho : s.heap.get? a = some o) (hex : o.ExactSet) (hd : o.data = .set es ep t)
    {es1 : Array (Int × Value)} {t2 : SetTable} (g1 : ∀ e ∈ es1.toList, GoodS P w e) (nd1 : (es1.toList.map nmS).Nodup)
    (hb1 : es1.size < scanBound) (hf2 : t2.fits es1.size = true) (hr : Ris t2.place.toList) (hl : w.params.followText "set-order" = true ∨ t2.led = true) {wasDummy : Bool} {R : Option Bool → Shared → Prop}
    (hR : ∀ h' L', Heap.SameBut a s.heap h' → SetS P w h' a L' → L'.Perm (es1.toList.map nmS) → R (some true) { s with heap := h' }) :
    wpAny (model P w) A (do
        storeSet a es1 t2
        if (!wasDummy && t2.tooFull) = true then do
            g (relayAll t2 es1 (SetTable.grown es1.size)).2.2
            storeSet a (relayAll t2 es1 (SetTable.grown es1.size)).1 (relayAll t2 es1 (SetTable.grown es1.size)).2.1
            pure (some true)
          else pure (some true)) R E s := by
  refine wpAny_bind (wpAny_storeSet_of ho hd ?_ (fits_of_scanBound hb1))
  have ho1 := store_at (es' := es1) (t' := t2) ho hd
  have sb1 := Heap.SameBut.update s.heap a (Obj.putSet es1 t2)
  split
  · have pm := relayAll_perm t2 es1 (SetTable.grown es1.size)
    have hf3 := relayAll_fits t2 es1 (SetTable.grown es1.size)
    have hr3 := relayAll_ris t2 es1 (SetTable.grown es1.size)
    have hl3 := relayAll_led t2 es1 (SetTable.grown es1.size)
    generalize relayAll t2 es1 (SetTable.grown es1.size) = Z at pm hf3 hr3 hl3 ⊢
    obtain ⟨es2, t3, gave⟩ := Z
    dsimp only at pm hf3 hr3 hl3 ⊢
    have hsz : es2.size = es1.size := by rw [← Array.length_toList, pm.length_eq, Array.length_toList]
    have hb2 : es2.size < scanBound := by rw [hsz]; exact hb1
    refine wpAny_bind (hg _ _ _ ?_)
    refine wpAny_bind (wpAny_storeSet_of ho1 rfl ?_ (fits_of_scanBound hb2))
    have ho2 := store_at (es' := es2) (t' := t3) ho1 rfl
    refine wpAny_pure (hR _ (es2.toList.map nmS) (sb1.trans (Heap.SameBut.update _ a _)) ?_ (pm.map nmS))
    exact ⟨_, es2, _, t3, ho2, hex, rfl, fun e he => g1 e (pm.mem_iff.mp he), rfl, (pm.map nmS).nodup_iff.mpr nd1, hb2, hf3, hr3, hl.imp id fun z => by rw [hl3]; exact z⟩
  · exact wpAny_pure (hR _ (es1.toList.map nmS) sb1 ⟨_, es1, _, t2, ho1, hex, rfl, g1, rfl, nd1, hb1, hf2, hr, hl⟩ (List.Perm.refl _))
theorem addS {x : Str} {tk : Tok} {Q : Bool → Shared → Prop} (R : SetS P w s.heap a L) (room : L.length + 1 < scanBound)
    (hQ : ∀ b h' L', Heap.SameBut a s.heap h' → SetS P w h' a L' → (x ∈ L → L' = L) → (x ∉ L → L'.Perm (x :: L)) → Q b { s with heap := h' }) :
    wpAny (model P w) A (setAddHashed a (.str x tk) (shash P w x)) Q E s := by
  obtain ⟨o, es, ep, t, ho, hex, hd, g, rfl, nd, hb, hf, hr, hl⟩ := R
  have hkey : (PySem.strKind P w).is x (.str x tk) = true := PySem.strKind_is P w x tk
  have hsc : (Value.str x tk).scannable = true := rfl
  have hel : ElemsOf (PySem.strKind P w) es.toList := good_elS g
  unfold setAddHashed setAddHashedIn
  refine wpAny_holding (wpAny_bind (wpAny_setState_of ho hd hf ?_))
  dsimp only
  rw [byScan_of hsc hb hel]
  simp only [↓reduceIte]
  unfold setAddByScan
  refine wpAny_bind ?_
  refine wpAny_bind (wpAny_rule ?_)
  refine wpAny_bind (wpAny_setScan_of hkey ho hd hf hel ?_)
  cases hfi : List.findIdx? (fun e => (PySem.strKind P w).is x e.2) es.toList with
  | some j =>
    dsimp only
    obtain ⟨hj, pj, _⟩ := List.findIdx?_eq_some_iff_getElem.mp hfi
    have hm : x ∈ es.toList.map nmS := List.mem_map.mpr ⟨es.toList[j], List.getElem_mem hj, (good_isS (g _ (List.getElem_mem hj)) x).mp pj⟩
    refine wpAny_pure (wpAny_pure ?_)
    exact hQ _ s.heap _ (Heap.SameBut.refl a s.heap) ⟨o, es, ep, t, ho, hex, hd, g, rfl, nd, hb, hf, hr, hl⟩ (fun _ => rfl) (fun n => absurd hm n)
  | none =>
    dsimp only
    have hn : x ∉ es.toList.map nmS := fun z => by
      obtain ⟨e, he, q⟩ := List.mem_map.mp z
      have c := List.findIdx?_eq_none_iff.mp hfi e he
      rw [(good_isS (g e he) x).mpr q] at c
      cases c
    have hgw : ∀ (b : Bool) {s₁ : Shared} {Q' : Unit → Shared → Prop}, Q' () s₁ → wpAny (model P w) A (match b with | true => rule "set.scan.the-table-gave-way" | false => pure ()) Q' E s₁ :=
      fun b s₁ Q' q => by cases b <;> first | exact wpAny_pure q | exact wpAny_rule q
    have pm := layNew_perm t es (shash P w x) (.str x tk)
    have hf1 := layNew_fits t es (shash P w x) (.str x tk)
    have hr1 := layNew_ris t es (shash P w x) (.str x tk) hr
    have hl1 := layNew_led t es (shash P w x) (.str x tk)
    generalize layNew t es (shash P w x) (.str x tk) = Z at pm hf1 hr1 hl1 ⊢
    obtain ⟨es1, t1, wasDummy, gave⟩ := Z
    dsimp only at pm hf1 hr1 hl1 ⊢
    rw [Array.toList_push] at pm
    have pc : es1.toList.Perm ((shash P w x, Value.str x tk) :: es.toList) := pm.trans (List.perm_append_singleton _ _)
    have pk : (es1.toList.map nmS).Perm (x :: es.toList.map nmS) := pc.map nmS
    have g1 : ∀ e ∈ es1.toList, GoodS P w e := fun e he => by
      rcases List.mem_cons.mp (pc.mem_iff.mp he) with z | z
      · rw [z]; exact ⟨x, tk, rfl, rfl⟩
      · exact g e z
    have nd1 : (es1.toList.map nmS).Nodup := pk.nodup_iff.mpr (List.nodup_cons.mpr ⟨hn, nd⟩)
    have hsz : es1.size = es.size + 1 := by rw [← Array.length_toList, pc.length_eq, List.length_cons, Array.length_toList]
    have hb1 : es1.size < scanBound := by
      rw [hsz]
      simpa using room
    have hled : w.params.followText "set-order" = true ∨ t1.led = true := hl.imp id fun z => by rw [hl1]; exact z
    have fin : ∀ h' L', Heap.SameBut a s.heap h' → SetS P w h' a L' → L'.Perm (es1.toList.map nmS) → Q true { s with heap := h' } := fun h' L' sb r p => hQ true h' L' sb r (fun z => absurd z hn) fun _ => p.trans pk
    refine wpAny_bind (hgw _ ?_)
    split
    · refine wpAny_bind ?_
      rw [hashByValue_scannable 8 hsc]
      refine wpAny_pure ?_
      refine addS_tail ?_ ho hex hd g1 nd1 hb1 ?_ ?_ ?_ ?_
      · intro b s₁ Q' q; cases b <;> first | exact wpAny_pure q | exact wpAny_rule q
      · first | (split <;> first | exact hf1 | exact SetTable.fits_plain_off hf1) | exact hf1
      · first | (split <;> exact hr1) | exact hr1
      · first | (split <;> exact hled) | exact hled
      · intro h' L' sb r p; dsimp only; exact wpAny_pure (fin h' L' sb r p)
    · refine wpAny_bind (wpAny_pure ?_)
      simp only [↓reduceIte]
      refine addS_tail ?_ ho hex hd g1 nd1 hb1 hf1 hr1 hled ?_
      · intro b s₁ Q' q; cases b <;> first | exact wpAny_pure q | exact wpAny_rule q
      · intro h' L' sb r p; dsimp only; exact wpAny_pure (fin h' L' sb r p)
/-- what the first i texts made -/
structure GatS (xs : List Str) (i : Nat) (L : List Str) : Prop where
  mem : ∀ x, x ∈ L ↔ x ∈ xs.take i
  le : L.length ≤ i
theorem GatS.step {xs L L' : List Str} {i : Nat} {x : Str} (g : GatS xs i L) (h : xs[i]? = some x) (h1 : x ∈ L → L' = L) (h2 : x ∉ L → L'.Perm (x :: L)) : GatS xs (i + 1) L' := by
  rcases Classical.em (x ∈ L) with c | c
  · rw [h1 c]
    refine ⟨fun y => ?_, Nat.le_succ_of_le g.le⟩
    rw [take_snoc h, List.mem_append, ← g.mem y, List.mem_singleton]
    exact ⟨.inl, fun z => z.elim id fun e => e ▸ c⟩
  · have pm := h2 c
    refine ⟨fun y => ?_, by rw [pm.length_eq]; exact Nat.succ_le_succ g.le⟩
    rw [take_snoc h, List.mem_append, ← g.mem y, List.mem_singleton, pm.mem_iff, List.mem_cons]
    exact or_comm
theorem loopS {I : Addr} {fp wr : List Addr} {G : Array GenState → Array GenState → Prop} {n : Nat} {Pv : Nat → Value → Prop} {St : Nat → Shared → Prop} {R : Result → Shared → Prop} (W : WalksS P w A.in1 I fp wr G n Pv St) (S : Addr) (hS : S ∉ fp) (xs : List Str) (hn : n = xs.length) (few : xs.length + 1 < scanBound)
    (hv : ∀ i v, Pv i v → ∃ x t, xs[i]? = some x ∧ v = .str x t) (h0 : Heap) (n0 : h0.get? S = none) (nw : ∀ b ∈ wr, h0.get? b = none) (j : Nat) :
    ∀ (i : Nat) (s : Shared), n - i = j → i ≤ n → St i s → (∀ b o, h0.get? b = some o → s.heap.get? b = some o) → (∃ L, SetS P w s.heap S L ∧ GatS xs i L) →
      (∀ s' L, Moved (S :: wr) G s s' → SetS P w s'.heap S L → GatS xs n L → (∀ b o, h0.get? b = some o → s'.heap.get? b = some o) → R (.ok (.ret .none)) s') →
      codeAny (model P w) A (.builtin "set.update.loop" ⟨[.ref S, .ref I], []⟩) R s := by
  have sw : S ∉ wr := fun h => hS (W.sub _ h)
  have into : ∀ b ∈ wr, b ∈ S :: wr := fun b hb => List.mem_cons_of_mem _ hb
  have stay : ∀ {s s' : Shared}, Moved wr G s s' → (∀ b o, h0.get? b = some o → s.heap.get? b = some o) → ∀ b o, h0.get? b = some o → s'.heap.get? b = some o := fun m k b o e => m.heap b o (fun hb => by rw [nw b hb] at e; cases e) (k b o e)
  induction j with
  | zero =>
    intro i s hj hi hst kp ⟨L, R0, g⟩ fin
    have ei : i = n := by omega
    subst ei
    refine codeAny_builtin F.entry_set_update_loop ?_
    rw [Around.under_plainId F.plain_set_update_loop _]
    show wpAny _ A.in1 (pyNext (.ref I) >>= _) _ _ s
    refine wpAny_bind (W.done s _ _ hst fun s' m => ?_)
    have kp' := stay m kp
    show wpAny _ A.in1 (ret Value.none) _ _ s'
    exact wpAny_pure (fin s' L (m.mono into) (R0.at fun o e => m.heap S o sw e) g kp')
  | succ j ih =>
    intro i s hj hi hst kp ⟨L, R0, g⟩ fin
    have lt : i < n := by omega
    refine codeAny_builtin F.entry_set_update_loop ?_
    rw [Around.under_plainId F.plain_set_update_loop _]
    show wpAny _ A.in1 (pyNext (.ref I) >>= _) _ _ s
    refine wpAny_bind (W.item i s _ _ lt hst fun v s' hP hst' m => ?_)
    obtain ⟨x, t, hp, rfl⟩ := hv i v hP
    have kp' := stay m kp
    have R1 : SetS P w s'.heap S L := R0.at fun o e => m.heap S o sw e
    show wpAny _ A.in1 (holding [Value.str x t] (setAdd S (.str x t)) >>= _) _ _ s'
    refine wpAny_bind (wpAny_holding ?_)
    unfold setAdd
    refine wpAny_holding (wpAny_bind ((PySem.strKind P w).pyHash (k := x) (PySem.strKind_is _ _ _ _) ?_))
    refine addS (s := { s' with toks := s'.toks + 1 }) R1 (by have := g.le; omega) fun b h' L' sb R2 c1 c2 => ?_
    have kp2 : ∀ b o, h0.get? b = some o → h'.get? b = some o := fun b o e => (sb.2 b (fun z => by rw [z, n0] at e; cases e)).trans (kp' b o e)
    refine wpAny_pure ⟨plainId_quiet F.plain_set_update_loop _, ih (i + 1) _ (by omega) lt (W.frame _ s' _ _ hst' (Nat.le_add_right _ _) fun b hb o e => (sb.2 b (fun z : b = S => hS (z ▸ hb))).trans e) kp2 ⟨L', R2, g.step hp c1 c2⟩ fun s2 L2 m2 R3 g2 k2 => ?_⟩
    refine fin s2 L2 (Moved.trans W.gtrans ((m.mono into).then_heap (Nat.le_add_right _ _) fun b o hb e => ?_) m2) R3 g2 k2
    exact (sb.2 b (fun z : b = S => hb (by rw [z]; exact List.mem_cons_self))).trans e
end
end Ns

/-! Nd32: the one rising list of a set's members. -/
namespace Nd
open PySem PySem.Spec PyProof.Rows L2
abbrev lsD (x y : PyData) : Bool := PySem.W.dataLt x y
def insD (x : PyData) : List PyData → List PyData
  | [] => [x]
  | y :: r => if lsD x y = true then x :: y :: r else if lsD y x = true then y :: insD x r else y :: r
def canonD (ds : List PyData) : List PyData := ds.foldr insD []
def strB : PyData → Bool
  | .str _ => true
  | _ => false
def prB : PyData → Bool
  | .tuple [.str _, .str _] => true
  | _ => false
def keysB (ds : List PyData) : Bool := ds.all strB || ds.all prB
theorem lsD_irrefl (x : PyData) : lsD x x = false := lex_irrefl _
theorem lsD_trans {x y z : PyData} (h : lsD x y = true) (k : lsD y z = true) : lsD x z = true := lex_trans _ _ _ h k
theorem str_same {a b : Str} (h : a.cps.toList = b.cps.toList) : a = b := by
  cases a; cases b
  simp only at h
  congr 1
  exact Array.ext' h
theorem strB_inv : ∀ {x : PyData}, strB x = true → ∃ a, x = .str a := fun {x} h => by
  unfold strB at h
  split at h
  · exact ⟨_, rfl⟩
  · cases h
theorem prB_inv : ∀ {x : PyData}, prB x = true → ∃ a b, x = .tuple [.str a, .str b] := fun {x} h => by
  unfold prB at h
  split at h
  · exact ⟨_, _, rfl⟩
  · cases h
theorem lsD_eq_str {x y : PyData} (hx : strB x = true) (hy : strB y = true) (h : lsD x y = false) (k : lsD y x = false) : x = y := by
  obtain ⟨a, rfl⟩ := strB_inv hx
  obtain ⟨b, rfl⟩ := strB_inv hy
  have e := lex_total _ _ h k
  simp only [PySem.W.keyToks, List.cons.injEq, Sum.inr.injEq, and_true] at e
  rw [str_same e]
theorem lsD_eq_pr {x y : PyData} (hx : prB x = true) (hy : prB y = true) (h : lsD x y = false) (k : lsD y x = false) : x = y := by
  obtain ⟨a, b, rfl⟩ := prB_inv hx
  obtain ⟨c, d, rfl⟩ := prB_inv hy
  have e := lex_total _ _ h k
  simp only [PySem.W.keyToks, PySem.W.keyToksAll, List.cons_append, List.nil_append, List.cons.injEq, Sum.inr.injEq, Sum.inl.injEq, and_true, true_and] at e
  rw [str_same e.1, str_same e.2]
/-- among keys, what is neither less nor greater is the same -/
def Tri (P : PyData → Prop) : Prop := ∀ x y, P x → P y → lsD x y = false → lsD y x = false → x = y
theorem keysB_tri {ds : List PyData} (h : keysB ds = true) : Tri (· ∈ ds) := fun x y hx hy a b => by
  rcases Bool.or_eq_true_iff.mp h with h | h
  · exact lsD_eq_str (List.all_eq_true.mp h x hx) (List.all_eq_true.mp h y hy) a b
  · exact lsD_eq_pr (List.all_eq_true.mp h x hx) (List.all_eq_true.mp h y hy) a b
theorem insD_mem {P : PyData → Prop} (T : Tri P) {x : PyData} (px : P x) : ∀ {l : List PyData}, (∀ y ∈ l, P y) → ∀ z, z ∈ insD x l ↔ z = x ∨ z ∈ l
  | [], _, z => by simp [insD]
  | y :: r, h, z => by
    unfold insD
    split
    · simp
    · rename_i n1
      split
      · rename_i y1
        rw [List.mem_cons, insD_mem T px (fun u hu => h u (List.mem_cons_of_mem _ hu)), List.mem_cons]
        exact ⟨fun q => q.elim (fun e => .inr (.inl e)) fun q => q.elim .inl fun q => .inr (.inr q), fun q => q.elim (fun e => .inr (.inl e)) fun q => q.elim .inl fun q => .inr (.inr q)⟩
      · rename_i n2
        have e : x = y := T x y px (h y List.mem_cons_self) (Bool.eq_false_iff.mpr n1) (Bool.eq_false_iff.mpr n2)
        rw [e]
        simp
theorem insD_rise {P : PyData → Prop} (T : Tri P) {x : PyData} (px : P x) : ∀ {l : List PyData}, (∀ y ∈ l, P y) → l.Pairwise (fun a b => lsD a b = true) → (insD x l).Pairwise fun a b => lsD a b = true
  | [], _, _ => by simp [insD]
  | y :: r, h, p => by
    obtain ⟨p1, p2⟩ := List.pairwise_cons.mp p
    unfold insD
    split
    · rename_i y1
      exact List.pairwise_cons.mpr ⟨fun z hz => (List.mem_cons.mp hz).elim (fun e => e ▸ y1) fun q => lsD_trans y1 (p1 z q), p⟩
    · split
      · rename_i y1
        have hr : ∀ u ∈ r, P u := fun u hu => h u (List.mem_cons_of_mem _ hu)
        exact List.pairwise_cons.mpr ⟨fun z hz => ((insD_mem T px hr z).mp hz).elim (fun e => e ▸ y1) fun q => p1 z q, insD_rise T px hr p2⟩
      · exact p
theorem canonD_mem {ds : List PyData} (T : Tri (· ∈ ds)) : ∀ {l : List PyData}, (∀ y ∈ l, y ∈ ds) → ∀ z, z ∈ l.foldr insD [] ↔ z ∈ l
  | [], _, z => by simp
  | y :: r, h, z => by
    have hr : ∀ u ∈ r, u ∈ ds := fun u hu => h u (List.mem_cons_of_mem _ hu)
    have ih := canonD_mem T hr
    rw [List.foldr_cons, insD_mem T (h y List.mem_cons_self) (fun u hu => hr u ((ih u).mp hu)), ih, List.mem_cons]
theorem canonD_rise {ds : List PyData} (T : Tri (· ∈ ds)) : ∀ {l : List PyData}, (∀ y ∈ l, y ∈ ds) → (l.foldr insD []).Pairwise fun a b => lsD a b = true
  | [], _ => by simp
  | y :: r, h => by
    have hr : ∀ u ∈ r, u ∈ ds := fun u hu => h u (List.mem_cons_of_mem _ hu)
    rw [List.foldr_cons]
    exact insD_rise T (h y List.mem_cons_self) (fun u hu => hr u ((canonD_mem T hr u).mp hu)) (canonD_rise T hr)
theorem rise_nodup {l : List PyData} (h : l.Pairwise fun a b => lsD a b = true) : l.Nodup := h.imp fun {a b} q e => by
  rw [e, lsD_irrefl] at q
  cases q
theorem rise_unique : ∀ {l m : List PyData}, l.Pairwise (fun a b => lsD a b = true) → m.Pairwise (fun a b => lsD a b = true) → (∀ z, z ∈ l ↔ z ∈ m) → l = m := fun {l m} hl hm h => by
  have p : l.Perm m := (List.perm_ext_iff_of_nodup (rise_nodup hl) (rise_nodup hm)).mpr h
  refine p.eq_of_pairwise (le := fun a b => lsD a b = true) (fun a b _ _ x y => ?_) hl hm
  have := lsD_trans x y
  rw [lsD_irrefl] at this
  cases this
/-- THE RISING LIST: any rising list of the same members is it -/
theorem canonD_eq {ds us : List PyData} (h : keysB ds = true) (p : us.Pairwise fun a b => lsD a b = true) (m : ∀ z, z ∈ us ↔ z ∈ ds) : canonD ds = us :=
  rise_unique (canonD_rise (keysB_tri h) fun _ q => q) p fun z => (canonD_mem (keysB_tri h) (fun _ q => q) z).trans (m z).symm
/-- what sorting members, none twice, tells -/
theorem sorted_canon {ds us : List PyData} (h : keysB ds = true) (m : ∀ z, z ∈ us ↔ z ∈ ds) (nd : us.Nodup) : sortL us = canonD ds := by
  have T := keysB_tri h
  have tr : ∀ a b c : PyData, PySem.W.dataLe false (fun d => d) a b = true → PySem.W.dataLe false (fun d => d) b c = true → PySem.W.dataLe false (fun d => d) a c = true := fun a b c x y => by
    rw [PySem.W.dataLe_eq] at x y ⊢
    simp only [cond_false, Bool.not_eq_true'] at x y ⊢
    cases q : PySem.W.dataLt c a with
    | false => rfl
    | true =>
      rcases lex_negTrans _ (PySem.W.keyToks b) _ q with z | z
      · rw [show PySem.W.dataLt c b = true from z] at y; cases y
      · rw [show PySem.W.dataLt b a = true from z] at x; cases x
  have to : ∀ a b : PyData, (PySem.W.dataLe false (fun d => d) a b || PySem.W.dataLe false (fun d => d) b a) = true := fun a b => by
    rw [PySem.W.dataLe_eq]
    simp only [cond_false]
    cases q : PySem.W.dataLt b a with
    | false => simp
    | true =>
      cases q2 : PySem.W.dataLt a b with
      | false => simp
      | true =>
        have := lsD_trans (x := a) (y := b) (z := a) q2 q
        rw [lsD_irrefl] at this
        cases this
  have pw : (sortL us).Pairwise fun a b => PySem.W.dataLe false (fun d => d) a b = true := List.pairwise_mergeSort tr to us
  have pm : (sortL us).Perm us := List.mergeSort_perm us _
  have nd2 : (sortL us).Nodup := pm.nodup_iff.mpr nd
  refine (canonD_eq h ?_ fun z => (pm.mem_iff).trans (m z)).symm
  refine (pw.and nd2).imp_of_mem fun {a b} ha hb q => ?_
  obtain ⟨q1, q2⟩ := q
  rw [PySem.W.dataLe_eq] at q1
  simp only [cond_false, Bool.not_eq_true'] at q1
  cases z : lsD a b with
  | true => rfl
  | false => exact absurd (T a b ((m a).mp (pm.mem_iff.mp ha)) ((m b).mp (pm.mem_iff.mp hb)) z q1) q2
theorem canon_length {ds us : List PyData} (h : keysB ds = true) (m : ∀ z, z ∈ us ↔ z ∈ ds) (nd : us.Nodup) : us.length = (canonD ds).length := by
  rw [← sorted_canon h m nd]
  exact (List.mergeSort_perm us _).length_eq.symm
end Nd

/-! Nd29: set(xs), whatever its elements are, where the loop that adds them is known. -/
namespace Ns
open PySem PySem.Spec PyProof.Rows L2
/-- the loop that adds each item to the new set at S ends with what Res tells -/
def Upd (P : Program) (w : World) (items : Array Value) (S : Addr) (h0 : Heap) (u : Nat) (Res : Heap → Prop) : Prop :=
  ∀ (A : Around) (I : Addr) (fp wr : List Addr) (G : Array GenState → Array GenState → Prop) (Pv : Nat → Value → Prop) (St : Nat → Shared → Prop) (R : Result → Shared → Prop) (s : Shared),
    WalksS P w A.in1 I fp wr G items.size Pv St → (∀ i v, Pv i v → items[i]? = some v) → S ∉ fp → (∀ b ∈ wr, h0.get? b = none) → A.in1.units ≤ u → St 0 s → s.heap.get? S = some (newSet w) → (∀ b o, h0.get? b = some o → s.heap.get? b = some o) →
    (∀ s', Moved (S :: wr) G s s' → Res s'.heap → (∀ b o, h0.get? b = some o → s'.heap.get? b = some o) → R (.ok (.ret .none)) s') →
    codeAny (model P w) A (.builtin "set.update.loop" ⟨[.ref S, .ref I], []⟩) R s
section
variable {P : Program} {w : World} {A : Around} {E : Value → Shared → Prop} {s : Shared}
theorem call_set_list {l : Addr} {items : Array Value} {Res : Heap → Prop} {Q : Value → Shared → Prop} (hh : A.handled = none) (hl : s.heap.IsList l items) (up : Upd P w items s.heap.objs.size s.heap (A.units + 3) Res)
    (h : ∀ (h' : Heap) (tk : Nat), Res h' → (∀ b o, s.heap.get? b = some o → h'.get? b = some o) → Q (.ref s.heap.objs.size) { s with heap := h', toks := tk }) :
    wpAny (model P w) A (call (.type "set") [.ref l]) Q E s := by
  have cs := F.called_set
  obtain ⟨mc, mt, mro⟩ := cs.mro
  have made_ := cs.made
  have sub_ := cs.sub
  refine wpAny_call (codeAny_of_tree ?_)
  show wpAny (model P w) _ (callAny (.type "set") _) _ _ s
  refine wpAny_pure ⟨Code.quiet_builtin _ (by decide +kernel), codeAny_builtin F.entry_type_call ?_⟩
  rw [Around.under_plain (weight_type_call_type "set" [.ref l] []) rfl]
  have n1 := cs.notType
  have n2 := cs.canCreate
  have n3 := F.typeCall_set_1 (.ref l)
  repeat (any_goals (first | assumption | wp_step))
  refine codeAny_mono (code_set_led1 (.ref l) (E := E) (Q₁ := fun v s1 => v = .ref s.heap.objs.size ∧ s1 = { s with heap := s.heap.push (newSet w) }) ⟨rfl, rfl⟩) fun r s1 hr => ?_
  cases r with
  | error e => exact hr
  | ok fl =>
    cases fl with
    | ret v =>
      obtain ⟨rfl, rfl⟩ := hr
      have at0 : (s.heap.push (newSet w)).get? s.heap.objs.size = some (newSet w) := Heap.get?_push_size _ rfl
      have ty0 : Shared.TypeIs { s with heap := s.heap.push (newSet w) } (.ref s.heap.objs.size) "set" := ⟨_, at0, rfl⟩
      have li := cs.init.lookup
      have bi := cs.init.bind (.ref s.heap.objs.size)
      repeat (any_goals (first | assumption | wp_step))
      refine codeAny_mono (codeAny_call_builtin (R := wants (fun r s2 => r = .none ∧ ∃ h' tk, s2 = { s with heap := h', toks := tk } ∧ Res h' ∧ ∀ b o, s.heap.get? b = some o → h'.get? b = some o) E) cs.init.plain F.entry_set_init (check_set_init_1 ty0 ?_)) fun r2 s2 hr2 => ?_
      · have keep1 : ∀ b o, s.heap.get? b = some o → (s.heap.push (newSet w)).get? b = some o := fun b o e => Heap.get?_push_of_some _ e
        obtain ⟨⟨oc, od, odt, osl⟩, hol, hcl, nl, hdl⟩ := hl
        simp only at hcl hdl
        subst hcl hdl
        have atl := keep1 l _ hol
        have sl1 := F.sub_list_set
        have sl2 := F.sub_list_frozenset
        have nd : (Value.type "list" == Value.type "dict") = false := by decide
        have isl : (s.heap.push (newSet w)).IsList l items := ⟨_, atl, rfl, nl, rfl⟩
        unfold Builtin.«set.__init__» noKeywords Builtin.Frozenset.updateFrom
        generalize hPI : pyIter = PI
        wp_walk
        subst hPI
        refine wpAny_pyIter_list isl (wpAny_bind (wpAny_runValue ?_))
        have old : l < s.heap.objs.size := Heap.lt_size hol
        have hh3 : A.in1.in1.in1.handled = none := by simp [hh]
        have sz1 : (s.heap.push (newSet w)).objs.size = s.heap.objs.size + 1 := Heap.size_push ..
        have gone : ∀ b, s.heap.objs.size ≤ b → s.heap.get? b = none := fun b hb => by
          cases q : s.heap.get? b with
          | none => rfl
          | some o => exact absurd (Nat.lt_of_lt_of_le (Heap.lt_size q) hb) (Nat.lt_irrefl _)
        have hneI : l ≠ (s.heap.push (newSet w)).objs.size := by rw [sz1]; exact Nat.ne_of_lt (Nat.lt_succ_of_lt old)
        have hSf : s.heap.objs.size ∉ [(s.heap.push (newSet w)).objs.size, l] := by
          rw [sz1]; simp only [List.mem_cons, List.not_mem_nil, or_false, not_or]; exact ⟨Nat.ne_of_lt (Nat.lt_succ_self _), Nat.ne_of_gt old⟩
        refine up _ _ _ _ _ _ _ _ _ ((Walks.list hh3 _ l hneI items).toS) (fun i v e => e) hSf (fun b hb => gone b (by rw [List.mem_singleton.mp hb, sz1]; exact Nat.le_succ _)) (Nat.le_refl _)
          ⟨⟨_, Heap.get?_push_size _ rfl, rfl, rfl⟩, isl.push _⟩ (Heap.get?_push_of_some _ at0) (fun b o e => Heap.get?_push_of_some _ (keep1 b o e)) ?_
        intro s' m rs k1
        obtain ⟨h', g', d', tk', os'⟩ := s'
        have eg : g' = s.gens := m.gens
        have ed : d' = s.drawn := m.drawn
        have eo : os' = s.os := m.os
        subst eg ed eo
        exact wpAny_pure (wpAny_pure ⟨rfl, h', tk', rfl, rs, k1⟩)
      · cases r2 with
        | error e => exact hr2
        | ok fl2 =>
          cases fl2 with
          | ret r =>
            obtain ⟨rfl, h', tk, rfl, rs, k1⟩ := hr2
            repeat (any_goals (first | assumption | wp_step))
            exact h _ _ rs k1
          | _ => exact hr2.elim
    | _ => exact hr.elim
end
end Ns

/-! Nd30: set(xs), whatever its elements are, where the loop that adds them is known. -/
namespace Ns
open PySem PySem.Spec PyProof.Rows L2
section
variable {P : Program} {w : World} {A : Around} {E : Value → Shared → Prop} {s : Shared}
theorem call_set_tuple {l : Addr} {items : Array Value} {Res : Heap → Prop} {Q : Value → Shared → Prop} (hh : A.handled = none) (hl : s.heap.IsTuple l items) (up : Upd P w items s.heap.objs.size s.heap (A.units + 3) Res)
    (h : ∀ (h' : Heap) (tk : Nat), Res h' → (∀ b o, s.heap.get? b = some o → h'.get? b = some o) → Q (.ref s.heap.objs.size) { s with heap := h', toks := tk }) :
    wpAny (model P w) A (call (.type "set") [.ref l]) Q E s := by
  have cs := F.called_set
  obtain ⟨mc, mt, mro⟩ := cs.mro
  have made_ := cs.made
  have sub_ := cs.sub
  refine wpAny_call (codeAny_of_tree ?_)
  show wpAny (model P w) _ (callAny (.type "set") _) _ _ s
  refine wpAny_pure ⟨Code.quiet_builtin _ (by decide +kernel), codeAny_builtin F.entry_type_call ?_⟩
  rw [Around.under_plain (weight_type_call_type "set" [.ref l] []) rfl]
  have n1 := cs.notType
  have n2 := cs.canCreate
  have n3 := F.typeCall_set_1 (.ref l)
  repeat (any_goals (first | assumption | wp_step))
  refine codeAny_mono (code_set_led1 (.ref l) (E := E) (Q₁ := fun v s1 => v = .ref s.heap.objs.size ∧ s1 = { s with heap := s.heap.push (newSet w) }) ⟨rfl, rfl⟩) fun r s1 hr => ?_
  cases r with
  | error e => exact hr
  | ok fl =>
    cases fl with
    | ret v =>
      obtain ⟨rfl, rfl⟩ := hr
      have at0 : (s.heap.push (newSet w)).get? s.heap.objs.size = some (newSet w) := Heap.get?_push_size _ rfl
      have ty0 : Shared.TypeIs { s with heap := s.heap.push (newSet w) } (.ref s.heap.objs.size) "set" := ⟨_, at0, rfl⟩
      have li := cs.init.lookup
      have bi := cs.init.bind (.ref s.heap.objs.size)
      repeat (any_goals (first | assumption | wp_step))
      refine codeAny_mono (codeAny_call_builtin (R := wants (fun r s2 => r = .none ∧ ∃ h' tk, s2 = { s with heap := h', toks := tk } ∧ Res h' ∧ ∀ b o, s.heap.get? b = some o → h'.get? b = some o) E) cs.init.plain F.entry_set_init (check_set_init_1 ty0 ?_)) fun r2 s2 hr2 => ?_
      · have keep1 : ∀ b o, s.heap.get? b = some o → (s.heap.push (newSet w)).get? b = some o := fun b o e => Heap.get?_push_of_some _ e
        obtain ⟨⟨oc, od, odt, osl⟩, hol, hcl, nl, hdl⟩ := hl
        simp only at hcl hdl
        subst hcl hdl
        have atl := keep1 l _ hol
        have sl1 := F.sub_tuple_set
        have sl2 := F.sub_tuple_frozenset
        have nd : (Value.type "tuple" == Value.type "dict") = false := by decide
        have isl : (s.heap.push (newSet w)).IsTuple l items := ⟨_, atl, rfl, nl, rfl⟩
        unfold Builtin.«set.__init__» noKeywords Builtin.Frozenset.updateFrom
        generalize hPI : pyIter = PI
        wp_walk
        subst hPI
        refine wpAny_pyIter_tuple isl (wpAny_bind (wpAny_runValue ?_))
        have old : l < s.heap.objs.size := Heap.lt_size hol
        have hh3 : A.in1.in1.in1.handled = none := by simp [hh]
        have sz1 : (s.heap.push (newSet w)).objs.size = s.heap.objs.size + 1 := Heap.size_push ..
        have gone : ∀ b, s.heap.objs.size ≤ b → s.heap.get? b = none := fun b hb => by
          cases q : s.heap.get? b with
          | none => rfl
          | some o => exact absurd (Nat.lt_of_lt_of_le (Heap.lt_size q) hb) (Nat.lt_irrefl _)
        have hneI : l ≠ (s.heap.push (newSet w)).objs.size := by rw [sz1]; exact Nat.ne_of_lt (Nat.lt_succ_of_lt old)
        have hSf : s.heap.objs.size ∉ [(s.heap.push (newSet w)).objs.size, l] := by
          rw [sz1]; simp only [List.mem_cons, List.not_mem_nil, or_false, not_or]; exact ⟨Nat.ne_of_lt (Nat.lt_succ_self _), Nat.ne_of_gt old⟩
        refine up _ _ _ _ _ _ _ _ _ ((Walks.tuple hh3 _ l hneI items).toS) (fun i v e => e) hSf (fun b hb => gone b (by rw [List.mem_singleton.mp hb, sz1]; exact Nat.le_succ _)) (Nat.le_refl _)
          ⟨⟨_, Heap.get?_push_size _ rfl, rfl, rfl⟩, isl.push _⟩ (Heap.get?_push_of_some _ at0) (fun b o e => Heap.get?_push_of_some _ (keep1 b o e)) ?_
        intro s' m rs k1
        obtain ⟨h', g', d', tk', os'⟩ := s'
        have eg : g' = s.gens := m.gens
        have ed : d' = s.drawn := m.drawn
        have eo : os' = s.os := m.os
        subst eg ed eo
        exact wpAny_pure (wpAny_pure ⟨rfl, h', tk', rfl, rs, k1⟩)
      · cases r2 with
        | error e => exact hr2
        | ok fl2 =>
          cases fl2 with
          | ret r =>
            obtain ⟨rfl, h', tk, rfl, rs, k1⟩ := hr2
            repeat (any_goals (first | assumption | wp_step))
            exact h _ _ rs k1
          | _ => exact hr2.elim
    | _ => exact hr.elim
end
end Ns

/-! Nd33: sorted(set(xs)), len(set(xs)), xs texts or pairs of texts. -/
namespace Nd
open PySem PySem.Spec PyProof.Rows L2 Ns
/-- what is known of a set: it can be walked; its members are vs -/
def Walked (w : World) (h : Heap) (a : Addr) (vs : List Value) : Prop :=
  ∃ o es ep t, h.get? a = some o ∧ o.ExactSet ∧ o.data = .set es ep t ∧ es.toList.map (·.2) = vs ∧ es.size < 64 ∧ t.fits es.size = true ∧ Ris t.place.toList ∧ (w.params.followText "set-order" = true ∨ t.led = true)
def keysOf (d : PyData) : Option (List PyData) := (seqD d).bind fun ds => if keysB ds && decide (ds.length < 63) then some ds else none
def sortSetD : List PyData → Option C
  | [d] => (keysOf d).map fun ds => mkL (canonD ds)
  | _ => none
def lenSetD : List PyData → Option C
  | [d] => (keysOf d).map fun ds => .val (.int (canonD ds).length)
  | _ => none
theorem each_perm {α β : Type} {R : α → β → Prop} {xs ys : List α} (p : xs.Perm ys) : ∀ {ds : List β}, PySem.W.EachIs R xs ds → ∃ es, es.Perm ds ∧ PySem.W.EachIs R ys es := by
  induction p with
  | nil => intro ds h; exact ⟨ds, List.Perm.refl _, h⟩
  | cons x _ ih =>
    intro ds h
    cases h with
    | cons a b =>
      obtain ⟨es, e1, e2⟩ := ih b
      exact ⟨_ :: es, e1.cons _, .cons a e2⟩
  | swap x y l =>
    intro ds h
    cases h with
    | cons a b =>
      cases b with
      | cons b c => exact ⟨_ :: _ :: _, List.Perm.swap _ _ _, .cons b (.cons a c)⟩
  | trans _ _ ih1 ih2 =>
    intro ds h
    obtain ⟨es, e1, e2⟩ := ih1 h
    obtain ⟨fs, f1, f2⟩ := ih2 e2
    exact ⟨fs, f1.trans e1, f2⟩
theorem each_str {K : Frag} {F : Hp} : ∀ {its : List Value} {ds : List PyData}, PySem.W.EachIs (Hd K F) its ds → ds.all strB = true → ∃ xs : List Str, ds = xs.map .str ∧ PyData.canLayAll0 ds = true ∧ StrsAre its xs
  | _, _, .nil, _ => ⟨[], rfl, rfl, .nil⟩
  | _, _, .cons ⟨v, r, q⟩ t, h => by
    rw [List.all_cons, Bool.and_eq_true] at h
    obtain ⟨xs, e1, e2, e3⟩ := each_str t h.2
    obtain ⟨h1, _⟩ := h
    unfold strB at h1
    split at h1
    · obtain ⟨e, l⟩ := q.str_inv
      subst e
      obtain ⟨tk, rfl⟩ := r
      exact ⟨_ :: xs, by rw [e1]; rfl, lay_cons.mpr ⟨l, e2⟩, .cons _ _ e3⟩
    · cases h1
/-- a value of data that a pair of texts holds -/
def prOf (k : List Str) : PyData := .tuple (k.map .str)
theorem each_pr {X : Cx} {pins : List (Addr × Obj)} {σ : L2.St} {s : Shared} {F H : Hp} (I : Inv X pins σ H s) (sub : Same F H) : ∀ {its : List Value} {ds : List PyData}, PySem.W.EachIs (Hd X.K F) its ds → ds.all prB = true →
    ∃ ks : List (Addr × List Str), its = ks.map (fun p => Value.ref p.1) ∧ ds = ks.map (fun p => prOf p.2) ∧ ∀ p ∈ ks, TKey X.prog X.w s.heap p.2 p.1 ∧ Dq X.K F (.ref p.1) (prOf p.2)
  | _, _, .nil, _ => ⟨[], rfl, rfl, fun p hp => (nomatch hp)⟩
  | _, _, .cons ⟨v, r, q⟩ t, h => by
    rw [List.all_cons, Bool.and_eq_true] at h
    obtain ⟨ks, e1, e2, e3⟩ := each_pr I sub t h.2
    obtain ⟨h1, _⟩ := h
    unfold prB at h1
    split at h1
    · rename_i x y
      obtain ⟨a, vs, rfl, sq, dq⟩ := q.tup_inv
      cases r
      refine ⟨(a, [x, y]) :: ks, by rw [e1]; rfl, by rw [e2]; rfl, fun p hp => ?_⟩
      rcases List.mem_cons.mp hp with e | hp
      · subst e
        refine ⟨?_, q⟩
        obtain ⟨v1, e1, d1⟩ := DqAll.get dq (i := 0) rfl
        obtain ⟨v2, e2, d2⟩ := DqAll.get dq (i := 1) rfl
        have hl := dq.length
        match vs, hl with
        | [u1, u2], _ =>
          simp at e1 e2
          subst e1 e2
          have s1 := d1.str_inv.1
          have s2 := d2.str_inv.1
          subst s1 s2
          obtain ⟨its, rv, ⟨o, ho, hc, n, hd⟩, hz⟩ := I.tuple (sq.mono sub).t
          cases rv with
          | cons r1 rv =>
            cases rv with
            | cons r2 rv =>
              cases rv
              obtain ⟨t1, rfl⟩ := r1
              obtain ⟨t2, rfl⟩ := r2
              exact ⟨o, _, n, ho, hc, hd, .cons (PySem.strKind_is _ _ _ _) (.cons (PySem.strKind_is _ _ _ _) .nil)⟩
      · exact e3 p hp
    · cases h1
theorem strs_get : ∀ {its : List Value} {xs : List Str} {i : Nat} {v : Value}, StrsAre its xs → its[i]? = some v → ∃ x t, xs[i]? = some x ∧ v = Value.str x t
  | _, _, i, v, .nil, h => by simp at h
  | _, _, 0, v, .cons x k t, h => by
    simp at h
    exact ⟨x, k, rfl, h.symm⟩
  | _, _, i + 1, v, .cons x k t, h => by
    obtain ⟨y, t', e1, e2⟩ := strs_get (i := i) t (by simpa using h)
    exact ⟨y, t', by simpa using e1, e2⟩
theorem upd_strs {P : Program} {w : World} {its : List Value} {xs : List Str} {S : Addr} {h0 : Heap} {u : Nat} (si : StrsAre its xs) (few : xs.length + 1 < scanBound) (n0 : h0.get? S = none) : Upd P w its.toArray S h0 u (fun h' => ∃ L, SetS P w h' S L ∧ GatS xs xs.length L) := by
  intro A I fp wr G Pv St R s W hP hS nw hu hst hnew kp fin
  have hsz : its.toArray.size = xs.length := by rw [List.size_toArray, si.len_eq]
  refine loopS W S hS xs hsz few (fun i v hv => ?_) h0 n0 nw (its.toArray.size - 0) 0 s (by omega) (Nat.zero_le _) hst kp ⟨[], SetS.new hnew, ⟨fun x => by simp, Nat.le_refl _⟩⟩ fun s' L m r g k => fin s' m ⟨L, r, by rw [← hsz]; exact g⟩ k
  have e := hP i v hv
  rw [List.getElem?_toArray] at e
  exact strs_get si e
theorem upd_pairs {P : Program} {w : World} {ks : List (Addr × List Str)} {S : Addr} {h0 : Heap} {u : Nat} (hk : ∀ p ∈ ks, TKey P w h0 p.2 p.1) (few : ks.length < 64) (n0 : h0.get? S = none) (hu : u < cLine) :
    Upd P w (ks.map fun p => Value.ref p.1).toArray S h0 u (fun h' => ∃ L es ep t, SetP P w h' S L es ep t ∧ Gath ks ks.length L) := by
  intro A I fp wr G Pv St R s W hP hS nw hu1 hst hnew kp fin
  have hsz : (ks.map fun p => Value.ref p.1).toArray.size = ks.length := by simp
  refine upd_loop W S hS ks hsz few (fun i v hv => ?_) h0 hk n0 nw (by omega) ((ks.map fun p => Value.ref p.1).toArray.size - 0) 0 s (by omega) (Nat.zero_le _) hst kp ⟨[], #[], 0, _, SetP.new hnew, ⟨fun p hp => (nomatch hp), fun p hp => (by simp at hp), Nat.le_refl _⟩⟩ fun s' L es ep t m r g k => fin s' m ⟨L, es, ep, t, r, by rw [hsz] at g; exact g⟩ k
  have e := hP i v hv
  rw [List.getElem?_toArray, List.getElem?_map] at e
  obtain ⟨p, e1, e2⟩ := Option.map_eq_some_iff.mp e
  exact ⟨p, e1, e2.symm⟩
theorem str_inj : Function.Injective PyData.str := fun a b h => by injection h
theorem prOf_inj : Function.Injective prOf := fun a b h => by
  unfold prOf at h
  injection h with h
  exact (List.map_inj_right fun x y e => str_inj e).mp h
theorem map_nodup {α β : Type} {f : α → β} (hf : Function.Injective f) {l : List α} (h : l.Nodup) : (l.map f).Nodup := List.pairwise_map.mpr (h.imp fun n e => n (hf e))
theorem goods_each {K : Frag} {F : Hp} {P : Program} {w : World} : ∀ {l : List (Int × Value)}, (∀ e ∈ l, GoodS P w e) → (∀ x ∈ l.map nmS, PyData.canLay0 (.str x) = true) → PySem.W.EachIs (Hd K F) (l.map (·.2)) ((l.map nmS).map .str)
  | [], _, _ => .nil
  | e :: r, g, c => by
    obtain ⟨x, t, e1, e2⟩ := g e List.mem_cons_self
    have en : nmS e = x := by unfold nmS; rw [e1]; rfl
    refine .cons ⟨.str x, ?_, ?_⟩ (goods_each (fun u hu => g u (List.mem_cons_of_mem _ hu)) fun u hu => c u (List.mem_cons_of_mem _ hu))
    · show RelV (V.str x) e.2
      rw [e1]; exact ⟨t, rfl⟩
    · rw [en]; exact .str (by have := c x (by rw [List.map_cons, en]; exact List.mem_cons_self); exact this)
theorem pairs_each {K : Frag} {F : Hp} : ∀ {L : List (Addr × List Str)}, (∀ p ∈ L, Dq K F (.ref p.1) (prOf p.2)) → PySem.W.EachIs (Hd K F) (L.map fun p => Value.ref p.1) (L.map fun p => prOf p.2)
  | [], _ => .nil
  | p :: r, h => .cons ⟨.ref p.1, rfl, h p List.mem_cons_self⟩ (pairs_each fun q hq => h q (List.mem_cons_of_mem _ hq))
theorem set_run [TF] {X : Cx} {pins : List (Addr × Obj)} {σ : L2.St} {s : Shared} {F H : Hp} (I : Inv X pins σ H s) (sub : Same F H) {v : V} {u : Value} {d : PyData} {ds : List PyData} (sh : Sh X.K F H v d) (e : keysOf d = some ds) (r : RelV v u) (hc : X.calm = true) (hu : X.A.units + 65 < cLine) {Q : Value → Shared → Prop} {E : Value → Shared → Prop}
    (h : ∀ (h' : Heap) (tk : Nat) (a : Addr) (vs : List Value) (us : List PyData), Walked X.w h' a vs → PySem.W.EachIs (Hd X.K F) vs us → us.Nodup → (∀ z, z ∈ us ↔ z ∈ ds) → keysB ds = true → (∀ b o, s.heap.get? b = some o → h'.get? b = some o) → a = s.heap.objs.size → Q (.ref a) { s with heap := h', toks := tk }) :
    wpAny (model X.prog X.w) X.A (call (.type "set") [u]) Q E s := by
  unfold keysOf at e
  cases q : seqD d with
  | none => rw [q] at e; cases e
  | some ds' =>
    rw [q] at e
    simp only [Option.bind_some] at e
    split at e
    · rename_i hcond
      cases e
      obtain ⟨kb, fw⟩ := Bool.and_eq_true_iff.mp hcond
      have fw := of_decide_eq_true fw
      obtain ⟨l, T, its, n, o, rfl, rfl, ho, hcl, hd, hT, hz, eh⟩ := seq_obj I sub sh q r
      have lenE := eh.length
      have gone : s.heap.get? s.heap.objs.size = none := by
        cases q2 : s.heap.get? s.heap.objs.size with
        | none => rfl
        | some o => exact absurd (Heap.lt_size q2) (Nat.lt_irrefl _)
      have run : ∀ {Res : Heap → Prop}, Upd X.prog X.w its.toArray s.heap.objs.size s.heap (X.A.units + 3) Res → (∀ (h' : Heap) (tk : Nat), Res h' → (∀ b o, s.heap.get? b = some o → h'.get? b = some o) → Q (.ref s.heap.objs.size) { s with heap := h', toks := tk }) →
          wpAny (model X.prog X.w) X.A (call (.type "set") [.ref l]) Q E s := fun {Res} up fin => by
        rcases hT with e | e
        · subst e
          exact call_set_list (I.ok.hd hc) ⟨o, ho, hcl, n, hd⟩ up fin
        · subst e
          exact call_set_tuple (I.ok.hd hc) ⟨o, ho, hcl, n, hd⟩ up fin
      by_cases hs : ds.all strB = true
      · obtain ⟨xs, e1, lay, si⟩ := each_str eh hs
        have lx : xs.length = ds.length := by rw [e1, List.length_map]
        refine run (upd_strs si (by unfold scanBound; omega) gone) fun h' tk ⟨L, R, g⟩ k => ?_
        obtain ⟨o', es, ep, t, ho', hex, hd', gd, rfl, nd, hb, hf, hr, hl⟩ := R
        have mm : ∀ x, x ∈ es.toList.map nmS ↔ x ∈ xs := fun x => by rw [g.mem x, List.take_length]
        refine h h' tk _ (es.toList.map (·.2)) ((es.toList.map nmS).map .str) ⟨o', es, ep, t, ho', hex, hd', rfl, ?_, hf, hr, hl⟩ (goods_each gd fun x hx => ?_) (map_nodup str_inj nd) (fun z => ?_) kb k rfl
        · have := g.le
          rw [List.length_map, Array.length_toList] at this
          omega
        · exact lay_mem.mp lay _ (by rw [e1]; exact List.mem_map.mpr ⟨x, (mm x).mp hx, rfl⟩)
        · rw [e1, List.mem_map, List.mem_map]
          exact ⟨fun ⟨x, hx, ex⟩ => ⟨x, (mm x).mp hx, ex⟩, fun ⟨x, hx, ex⟩ => ⟨x, (mm x).mpr hx, ex⟩⟩
      · have hp : ds.all prB = true := (Bool.or_eq_true_iff.mp kb).resolve_left hs
        obtain ⟨ks, e1, e2, e3⟩ := each_pr I sub eh hp
        have lx : ks.length = ds.length := by rw [e2, List.length_map]
        subst e1
        refine run (upd_pairs (fun p hp => (e3 p hp).1) (by omega) gone (by omega)) fun h' tk ⟨L, es, ep, t, R, g⟩ k => ?_
        obtain ⟨o', ho', hex, hd'⟩ := R.obj
        have hes : es.toList.map (·.2) = L.map fun p => Value.ref p.1 := by
          rw [R.ents_eq]
          unfold ents
          rw [List.map_map]
          rfl
        have inks : ∀ p ∈ L, p ∈ ks := fun p hp => List.mem_of_mem_take (g.from_ p hp)
        refine h h' tk _ _ (L.map fun p => prOf p.2) ⟨o', es, ep, t, ho', hex, hd', hes, ?_, R.fits (s := { s with heap := h' }), R.tab.ris, R.led⟩ (pairs_each fun p hp => (e3 p (inks p hp)).2) ?_ (fun z => ?_) kb k rfl
        · rw [ents_len R.ents_eq]; exact R.few
        · have := map_nodup prOf_inj R.once
          rwa [List.map_map] at this
        · rw [e2, List.mem_map, List.mem_map]
          refine ⟨fun ⟨p, hp, ex⟩ => ⟨p, inks p hp, ex⟩, fun ⟨p, hp, ex⟩ => ?_⟩
          obtain ⟨p', hp', ep'⟩ := List.mem_map.mp (g.has p (by rw [List.take_length]; exact hp))
          exact ⟨p', hp', by rw [ep']; exact ex⟩
    · cases e
end Nd

/-! Nd34: the rules of sorted(set(e)) and len(set(e)). -/
namespace Nd
open PySem PySem.Spec PyProof.Rows L2 Ns
/-- id(set(us)) -/
def CallS (X : Cx) (id : String) (r : List V → Hp → VK → Prop) : Prop :=
  ∀ (pins : List (Addr × Obj)) (s : Shared) (σ : L2.St) (H : Hp) (xs : List V) (us : List Value) (Q : VK), Inv X pins σ H s → Vals xs us → r xs H Q →
    wpAny (model X.prog X.w) X.A (call (.type "set") us) (fun v s' => wpAny (model X.prog X.w) X.A (call (.builtin id) [v]) (EP X pins σ Q) X.xe s') X.xe s
section
variable [TF] {X : Cx} {mg : Str → Option Value}
theorem pe_set {x : Str} {id : String} {r : List V → Hp → VK → Prop} {t : TA} {e : Expr} {p p2 q pos : Pos} (hc : CallS X id r) (hg : Gl X x) (hm : X.mg x = none) (hv : bootBuiltins x = some (.builtin id)) (hg2 : Gl X "set") (hm2 : X.mg "set" = none) (ha : PA X [e] t)
    (hn : x ≠ "__name__" := by decide) (hdb : (x == ("__debug__" : Str)) = false := by decide) (na : starEach [e] X.env = (false, eval e X.env) :: starEach [] X.env := by rfl) :
    PE X (.Call (.Name x p) [.Call (.Name "set" p2) [e] [] q] [] pos) (tCB r t) := by
  refine ⟨fun pins s σ H Q I h => ?_⟩
  refine wpAny_Call_Name_kw (ld_blt I hg hm hv ?_ hn hdb)
  refine PyProof.Rows.callWith_builtin1 (PyProof.Rows.args_cons ?_ rfl) rfl rfl
  refine wpAny_Call_Name_kw (ld_blt I hg2 hm2 boot_set ?_ (by decide) (by decide))
  refine PyProof.Rows.callWith_type1 (thn (ha.run q pins s σ H _ I h) fun us s1 ⟨vs, H1, I1, r1, q1⟩ => ?_) na rfl
  exact thn (hc pins s1 σ H1 vs us Q I1 r1 q1) fun v s2 q2 => PyProof.Rows.args_nil q2
/-- what is gathered from a set: its members, in some order -/
theorem collect_walked {h : Heap} {w : World} {a : Addr} {vs : List Value} {prog : Program} {A : Around} {E : Value → Shared → Prop} {s : Shared} {Q : List Value → Shared → Prop} (W : Walked w s.heap a vs) (hh : A.handled = none)
    (hQ : ∀ s' out, (∀ b o, s.heap.get? b = some o → s'.heap.get? b = some o) → s.heap.objs.size ≤ s'.heap.objs.size → s'.gens = s.gens → s'.os = s.os → out.Perm vs → Q out s') : wpAny (model prog w) A (collect (.ref a)) Q E s := by
  obtain ⟨o, es, ep, t, ho, hex, hd, rfl, hs, hf, hr, hl⟩ := W
  exact collect_set hh ⟨o, ho, hex.1, hd⟩ hf (by unfold scanBound; omega) hr hl hQ
theorem keys_depth {ds : List PyData} (h : keysB ds = true) : ∀ d ∈ ds, d.depth ≤ 1 := fun d hd => by
  rcases Bool.or_eq_true_iff.mp h with h | h
  · obtain ⟨a, rfl⟩ := strB_inv (List.all_eq_true.mp h d hd)
    simp [PyData.depth]
  · obtain ⟨a, b, rfl⟩ := prB_inv (List.all_eq_true.mp h d hd)
    simp [PyData.depth, PyData.depthAll]
theorem keys_alike {ds us : List PyData} (h : keysB ds = true) (m : ∀ z, z ∈ us ↔ z ∈ ds) : PySem.W.AllAlike us ∧ PySem.W.Sortable us := by
  rcases Bool.or_eq_true_iff.mp h with h | h
  · have k : ∀ d ∈ us, ∃ a, d = .str a := fun d hd => strB_inv (List.all_eq_true.mp h d ((m d).mp hd))
    refine ⟨fun d hd e he => ?_, sortB_ok (Bool.or_eq_true_iff.mpr (.inr (List.all_eq_true.mpr fun d hd => ?_)))⟩
    · obtain ⟨a, rfl⟩ := k d hd
      obtain ⟨b, rfl⟩ := k e he
      simp [PySem.W.alike]
    · obtain ⟨a, rfl⟩ := k d hd
      rfl
  · have k : ∀ d ∈ us, ∃ a b, d = .tuple [.str a, .str b] := fun d hd => prB_inv (List.all_eq_true.mp h d ((m d).mp hd))
    refine ⟨fun d hd e he => ?_, sortB_ok (Bool.or_eq_true_iff.mpr (.inl (List.all_eq_true.mpr fun d hd => ?_)))⟩
    · obtain ⟨a, b, rfl⟩ := k d hd
      obtain ⟨a', b', rfl⟩ := k e he
      simp [PySem.W.alike, PySem.W.alikeAll]
    · obtain ⟨a, b, rfl⟩ := k d hd
      rfl
theorem s_sorted (hc : X.calm = true) (hu : X.A.units + 65 < cLine) : CallS X "sorted" (rN X.K mg sortSetD) := by
  intro pins s σ H xs us Q I r h
  obtain ⟨F, ds, c, sub, sh, e, post⟩ := h
  unfold sortSetD at e
  split at e
  · rename_i d
    obtain ⟨ks, ek, rfl⟩ := Option.map_eq_some_iff.mp e
    obtain ⟨v, rfl, s1⟩ := sh.one
    cases r with
    | cons r1 r2 =>
      cases r2
      refine set_run I sub s1 ek r1 hc hu fun h' tk a vs us W eh nd mm kb k1 ea => ?_
      have I1 : Inv X pins σ H { s with heap := h', toks := tk } := I.kept k1
      refine Calls.call_function_entry kind_sorted plain_sorted entry_sorted (args_sorted1 _) ?_
      unfold Builtin.«sorted»
      refine wpAny_bind (m := checkCount "sorted" 1 1 _) (wpAny_pure ?_)
      refine wpAny_bind (collect_walked (h := h') W (I.ok.hd hc) fun s2 out k2 z2 g2 o2 pm => ?_)
      obtain ⟨us2, pm2, eh2⟩ := each_perm pm.symm eh
      have mm2 : ∀ z, z ∈ us2 ↔ z ∈ ks := fun z => pm2.mem_iff.trans (mm z)
      have nd2 : us2.Nodup := pm2.nodup_iff.mpr nd
      obtain ⟨al, so⟩ := keys_alike kb mm2
      have few : out.length ≤ sizeLine := by
        obtain ⟨o, es, ep, t, _, _, _, e4, hs, _⟩ := W
        rw [pm.length_eq, ← e4, List.length_map, Array.length_toList, sizeLine_eq]
        omega
      refine wpAny_bind (wpAny_newList ?_ few)
      have at_ : (s2.heap.push (seqObj "list" out.toArray 0)).get? s2.heap.objs.size = some (seqObj "list" out.toArray 0) := Heap.get?_push_size _ rfl
      have kk : ∀ b o, s.heap.get? b = some o → s2.heap.get? b = some o := fun b o e => k2 b o (k1 b o e)
      have up : ∀ b o, s.heap.get? b = some o → (PySem.W.sortingHeap (s2.heap.push (seqObj "list" out.toArray 0)) s2.heap.objs.size out).get? b = some o := fun b o eb => by
        have e1 := kk b o eb
        unfold PySem.W.sortingHeap
        refine Heap.get?_push_of_some _ (Heap.get?_push_of_some _ ?_)
        exact (Heap.get?_update_ne _ _ _ _ (Nat.ne_of_lt (Heap.lt_size e1))).trans (Heap.get?_push_of_some _ e1)
      have er : PySem.W.EachIs (fun v d => ∃ as, Reads (PySem.W.sortingHeap (s2.heap.push (seqObj "list" out.toArray 0)) s2.heap.objs.size out) v d as) out us2 := eh2.mono fun v d hv => by
        obtain ⟨as, ra⟩ := hd_reads I sub hv
        exact ⟨as, PyProof.Rows.Reads.keeps up ra⟩
      have S : PySem.W.SortsAt X.prog X.w X.A.in1.in1 { s2 with heap := PySem.W.sortingHeap (s2.heap.push (seqObj "list" out.toArray 0)) s2.heap.objs.size out } (PySem.W.dataKind (PySem.W.sortingHeap (s2.heap.push (seqObj "list" out.toArray 0)) s2.heap.objs.size out) us2) out :=
        PySem.W.SortsAt.data (s := { s2 with heap := PySem.W.sortingHeap (s2.heap.push (seqObj "list" out.toArray 0)) s2.heap.objs.size out }) er al so (fun d hd => by
          have := keys_depth kb d ((mm2 d).mp hd)
          show X.A.units + 2 + d.depth < cLine
          omega)
      refine wpAny_bind (wpAny_holding (wpAny_call_entry slot_list_sort ⟨_, at_, rfl⟩ entry_list_sort (PySem.W.list_sort_vals (s := { s2 with heap := s2.heap.push (seqObj "list" out.toArray 0) }) at_ S few ⟨_, rfl, ?_⟩) (args_list_sort _)))
      have outs := PySem.W.sortVals_data (R := Hd X.K F) (enc := fun d : PyData => d) false eh2 (by simpa using er) (by simpa using al)
      rw [show (us2.map fun d : PyData => d) = us2 by simp] at outs
      change PySem.W.EachIs (Hd X.K F) _ (sortL us2) at outs
      rw [sorted_canon kb mm2 nd2] at outs
      obtain ⟨vs', rv, dq⟩ := all_hd outs
      obtain ⟨ep, he'⟩ := sortedHeap_at (vs := out) (out := (PySem.W.sortVals (PySem.W.dataKind (PySem.W.sortingHeap (s2.heap.push (seqObj "list" out.toArray 0)) s2.heap.objs.size out) us2) false out out).toArray) at_
      have hlen : vs'.length ≤ sizeLine := by
        rw [rv.length, PySem.W.sortVals_length false rfl]
        exact few
      have hp : s.heap.objs.size ≤ s2.heap.objs.size := by
        obtain ⟨o, es, ep, t, ho, _⟩ := W
        have l1 : a < h'.objs.size := Heap.lt_size ho
        have l2 : h'.objs.size ≤ s2.heap.objs.size := z2
        rw [ea] at l1
        exact Nat.le_trans (Nat.le_of_lt l1) l2
      have kend : ∀ b o, s.heap.get? b = some o → (sortedHeap (s2.heap.push (seqObj "list" out.toArray 0)) s2.heap.objs.size out (PySem.W.sortVals (PySem.W.dataKind (PySem.W.sortingHeap (s2.heap.push (seqObj "list" out.toArray 0)) s2.heap.objs.size out) us2) false out out).toArray).get? b = some o := fun b o eb => by
        have e1 := kk b o eb
        rw [sortedHeap_old (Nat.ne_of_lt (Heap.lt_size e1)) (by rw [size_push']; exact Nat.lt_succ_of_lt (Heap.lt_size e1))]
        exact Heap.get?_push_of_some _ e1
      have hn : H s2.heap.objs.size = none := I.hok.fresh hp
      have J := I.call (g' := s2.gens) (d' := s2.drawn) (t' := s2.toks) (ch := []) (Un.laid kend hp hn) (I.hok.laid (o := .lst vs') kend hp ⟨hlen, _, ep, rv, he'⟩) (by rw [show s2.gens = s.gens from g2]; exact I.bare) (fun _ z => nomatch z)
      refine wpAny_pure ⟨_, rfl, ?_⟩
      refine ⟨.ref s2.heap.objs.size, upd H s2.heap.objs.size (.lst vs'), ?_, rfl, post.lst sub dq hn⟩
      have eo : s2.os = s.os := o2
      obtain ⟨sh2, sg2, sd2, st2, so2⟩ := s2
      simp only at eo
      subst eo
      exact J
  · cases e
theorem s_len (hc : X.calm = true) (hu : X.A.units + 65 < cLine) : CallS X "len" (rN X.K mg lenSetD) := by
  intro pins s σ H xs us Q I r h
  obtain ⟨F, ds, c, sub, sh, e, post⟩ := h
  unfold lenSetD at e
  split at e
  · rename_i d
    obtain ⟨ks, ek, rfl⟩ := Option.map_eq_some_iff.mp e
    obtain ⟨v, rfl, s1⟩ := sh.one
    cases r with
    | cons r1 r2 =>
      cases r2
      refine set_run I sub s1 ek r1 hc hu fun h' tk a vs us W eh nd mm kb k1 ea => ?_
      have I1 : Inv X pins σ H { s with heap := h', toks := tk } := I.kept k1
      obtain ⟨o, es, ep, t, ho, hex, hd, e4, hs, hf, hr, hl⟩ := W
      have ln : es.size = (canonD ks).length := by
        rw [← canon_length kb mm nd, ← eh.length, ← e4, List.length_map, Array.length_toList]
      refine call_len_set ho hex hd hf (by omega) ⟨.int es.size, H, I1.tok _, ⟨_, rfl⟩, ?_⟩
      rw [ln]
      exact post.val sub (.int _)
  · cases e
theorem e_setB {W : WX} {f : List PyData → Option C} {x : Str} {id : String} {e : Expr} {g : G Op} {p p2 q pos : Pos} (hc : CallS X id (rN X.K X.mg f)) (hg : Gl X x) (hm : X.mg x = none) (hv : bootBuiltins x = some (.builtin id)) (hg2 : Gl X "set") (hm2 : X.mg "set" = none) (ha : PA X [e] (tOs X.K X.mg W (gOs [g])))
    (hn : x ≠ "__name__" := by decide) (hdb : (x == ("__debug__" : Str)) = false := by decide) (na : starEach [e] X.env = (false, eval e X.env) :: starEach [] X.env := by rfl) :
    PE X (.Call (.Name x p) [.Call (.Name "set" p2) [e] [] q] [] pos) (tE X.K X.mg W (gOpN f (gOs [g]))) := (pe_set hc hg hm hv hg2 hm2 ha hn hdb na).imp fun _ _ _ => opN_ok
end
end Nd

/-! Nd35: dict(xs) of rows; d[k], d.get(k, v) of a dict of one's own. -/
namespace Nd
open PySem PySem.Spec PyProof.Rows L2
theorem mergeK_fresh : ∀ {kvs acc : List (Key × V)}, ((acc ++ kvs).map (·.1)).Nodup → mergeK acc kvs = acc ++ kvs
  | [], acc, _ => by simp [mergeK]
  | kv :: r, acc, h => by
    have hn : kv.1 ∉ acc.map (·.1) := by
      rw [List.map_append, List.map_cons] at h
      obtain ⟨_, _, h3⟩ := List.nodup_append.mp h
      intro hm
      exact h3 _ hm _ List.mem_cons_self rfl
    have e1 : putK acc kv.1 kv.2 = acc ++ [kv] := by
      unfold putK
      rw [if_neg]
      intro ha
      obtain ⟨x, hx, e⟩ := List.any_eq_true.mp ha
      exact hn (List.mem_map.mpr ⟨x, hx, of_decide_eq_true e⟩)
    show mergeK (putK acc kv.1 kv.2) r = _
    rw [e1, mergeK_fresh (by simpa using h)]
    simp
/-- rows of a text and anything -/
def rowD : PyData → Option (Str × PyData)
  | .tuple [.str k, v] => some (k, v)
  | _ => none
def rowsD : List PyData → Option (List (Str × PyData))
  | [] => some []
  | d :: ds => match rowD d, rowsD ds with
    | some p, some ps => some (p :: ps)
    | _, _ => none
def dicC (kvs : List (Str × PyData)) : C := .dic (kvs.map fun p => Sum.inr p.1) (kvs.map fun p => .val p.2)
def dictD : List PyData → Option C
  | [d] => ((seqD d).bind rowsD).bind fun kvs => if decide ((kvs.map (·.1)).Nodup) = true then some (dicC kvs) else none
  | _ => none
theorem seq_plain [TF] {X : Cx} {F H : Hp} {pins : List (Addr × Obj)} {σ : L2.St} {s : Shared} (I : Inv X pins σ H s) (sub : Same F H) {v : V} {u : Value} {d : PyData} {ds : List PyData} (h : Sh X.K F H v d) (e : seqD d = some ds) (r : RelV v u) :
    ∃ l T its, v = .ref l ∧ u = .ref l ∧ PlainSeq T s.heap l (List.toArray its) ∧ (T = "list" ∨ T = "tuple") ∧ its.length ≤ sizeLine ∧ PySem.W.EachIs (Hd X.K F) its ds := by
  cases d with
  | list xs =>
    cases e
    obtain ⟨a, vs, rfl, q1, q2⟩ := h.list sub
    obtain ⟨its, rv, ⟨o, n, ho, hc, hd, hdat⟩, hz⟩ := I.list q1
    exact ⟨a, "list", its, rfl, r, ⟨o, n, ho, hc, hd, hdat⟩, .inl rfl, by rw [← rv.length]; exact hz, hd_all rv q2⟩
  | tuple xs =>
    cases e
    obtain ⟨a, vs, rfl, ⟨o, q0, dn⟩, _, q2⟩ := h.tup sub
    obtain ⟨ho, hz, its, rv, ⟨o2, ho2, hc, n, hd⟩⟩ := (show ObjOk X.prog X.w H s.heap a (.frz o (.tup vs)) from I.hok a _ (sub _ _ q0))
    rw [ho] at ho2
    cases ho2
    exact ⟨a, "tuple", its, rfl, r, ⟨o, n, ho, hc, dn, hd⟩, .inr rfl, by rw [← rv.length]; exact hz, hd_all rv q2⟩
  | none => cases e
  | bool => cases e
  | int => cases e
  | str => cases e
  | dict => cases e
/-- the rows as they stand -/
theorem rows_at {X : Cx} {F H : Hp} {pins : List (Addr × Obj)} {σ : L2.St} {s : Shared} (I : Inv X pins σ H s) (sub : Same F H) : ∀ {its : List Value} {ds : List PyData} {kvs : List (Str × PyData)}, PySem.W.EachIs (Hd X.K F) its ds → rowsD ds = some kvs →
    ∃ (Ts : List Addr) (ps : List (Value × Value)) (vs : List V) (us : List Value), its = Ts.map Value.ref ∧ ps.length = kvs.length ∧ Ts.length = kvs.length ∧ DqAll X.K F vs (kvs.map (·.2)) ∧ Vals vs us ∧ ps.map (·.2) = us ∧
      (∀ (j : Nat) k v, ps[j]? = some (k, v) → ∃ T, Ts[j]? = some T ∧ PairAt s.heap T k v) ∧ ∀ (j : Nat) p q, ps[j]? = some p → kvs[j]? = some q → RelV (.str q.1) p.1
  | _, _, kvs, .nil, e => by
    simp only [rowsD, Option.some.injEq] at e
    subst e
    exact ⟨[], [], [], [], rfl, rfl, rfl, .nil, .nil, rfl, fun j k v h => by simp at h, fun j p q h => by simp at h⟩
  | _, d :: ds, kvs, .cons ⟨v, r, q⟩ t, e => by
    simp only [rowsD] at e
    cases q1 : rowD d with
    | none => rw [q1] at e; cases e
    | some p =>
      cases q2 : rowsD ds with
      | none => rw [q1, q2] at e; cases e
      | some ps0 =>
        rw [q1, q2] at e
        cases e
        obtain ⟨Ts, ps, vs, us, e1, e2, e3, e4, e5, e6, e7, e8⟩ := rows_at I sub t q2
        unfold rowD at q1
        split at q1
        · rename_i k y
          cases q1
          obtain ⟨a, ws, rfl, sq, dq⟩ := q.tup_inv
          cases r
          have hl := dq.length
          obtain ⟨v1, w1, d1⟩ := DqAll.get dq (i := 0) rfl
          obtain ⟨v2, w2, d2⟩ := DqAll.get dq (i := 1) rfl
          match ws, hl with
          | [u1, u2], _ =>
            simp at w1 w2
            subst w1 w2
            have z1 := d1.str_inv.1
            subst z1
            obtain ⟨its, rv, ht, hz⟩ := I.tuple (sq.mono sub).t
            cases rv with
            | cons r1 rv =>
              cases rv with
              | cons r2 rv =>
                cases rv
                rename_i x1 x2
                refine ⟨a :: Ts, (x1, x2) :: ps, _ :: vs, x2 :: us, by rw [e1]; rfl, by simp [e2], by simp [e3], .cons d2 e4, .cons r2 e5, by simp [e6], fun j k' v' h => ?_, fun j p' q' h h' => ?_⟩
                · cases j with
                  | zero =>
                    simp at h
                    obtain ⟨rfl, rfl⟩ := h
                    exact ⟨a, rfl, .inl ht⟩
                  | succ j => exact e7 j k' v' (by simpa using h)
                · cases j with
                  | zero =>
                    simp at h h'
                    subst h h'
                    exact r1
                  | succ j => exact e8 j p' q' (by simpa using h) (by simpa using h')
        · cases q1
theorem kv_rel : ∀ {kvs : List (Str × PyData)} {ps : List (Value × Value)} {vs : List V}, ps.length = kvs.length → Vals vs (ps.map (·.2)) → KV ((kvs.map fun p => (Sum.inr p.1 : Key)).zip vs) ((kvs.map fun p => (Sum.inr p.1 : Key)).zip (ps.map (·.2)))
  | [], [], vs, _, r => by cases r; exact .nil
  | [], _ :: _, vs, h, _ => by simp at h
  | _ :: _, [], vs, h, _ => by simp at h
  | k :: kvs, p :: ps, vs, h, r => by
    cases r with
    | cons r1 r2 => exact .cons ⟨rfl, r1⟩ (kv_rel (by simpa using h) r2)
section
variable [TF] {X : Cx} {mg : Str → Option Value}
theorem c_dict (hc : X.calm = true) : CallR X (.type "dict") (rN X.K mg dictD) := by
  intro pins s σ H xs us Q I r h
  obtain ⟨F, ds, c, sub, sh, e, post⟩ := h
  unfold dictD at e
  split at e
  · rename_i d
    cases q : seqD d with
    | none => rw [q] at e; cases e
    | some rs =>
      rw [q] at e
      simp only [Option.bind_some] at e
      cases q2 : rowsD rs with
      | none => rw [q2] at e; cases e
      | some kvs =>
        rw [q2] at e
        simp only [Option.bind_some] at e
        split at e
        · rename_i hn
          cases e
          have hn := of_decide_eq_true hn
          obtain ⟨v, rfl, s1⟩ := sh.one
          cases r with
          | cons r1 r2 =>
            cases r2
            obtain ⟨l, T, its, rfl, rfl, pl, hT, hz, eh⟩ := seq_plain I sub s1 q r1
            obtain ⟨Ts, ps, vs, us, e1, e2, e3, dq, rv, e6, e7, e8⟩ := rows_at I sub eh q2
            have e6' := e6
            subst e6
            have lvs := rv.length
            rw [List.length_map, e2] at lvs
            have pi : PairItems s.heap its.toArray (fun j => Ts.getD j 0) ps := by
              refine ⟨by rw [List.size_toArray, e1, List.length_map, e2, e3], fun j k v hj => ?_⟩
              obtain ⟨T, h1, h2⟩ := e7 j k v hj
              have h3 : Ts.getD j 0 = T := by simp [List.getD_eq_getElem?_getD, h1]
              show its.toArray[j]? = some (Value.ref (Ts.getD j 0)) ∧ PairAt s.heap (Ts.getD j 0) k v
              rw [h3]
              exact ⟨by rw [List.getElem?_toArray, e1, List.getElem?_map, h1]; rfl, h2⟩
            have hh : PairsHave (mixKind X.prog X.w) ps.length (PairRel ps) ((kvs.map fun p => (Sum.inr p.1 : Key)).zip (ps.map (·.2))) := by
              refine ⟨by simp [e2], fun i key v hi => ?_⟩
              have hlt : i < kvs.length := by rw [← e2]; exact (List.getElem?_eq_some_iff.mp hi).1
              have hk := List.getElem?_eq_getElem hlt
              refine ⟨Sum.inr (kvs[i]).1, ?_, kV_is (P := X.prog) (w := X.w) (k := Sum.inr (kvs[i]).1) (e8 i _ _ hi hk)⟩
              rw [List.getElem?_zip_eq_some]
              exact ⟨by rw [List.getElem?_map, hk]; rfl, by rw [List.getElem?_map, hi]; rfl⟩
            have hlen : ps.length ≤ sizeLine := by
              rw [e1, List.length_map, e3] at hz
              omega
            have nd : (((([] : List (Key × V)) ++ (kvs.map fun p => (Sum.inr p.1 : Key)).zip vs)).map (·.1)).Nodup := by
              rw [List.nil_append, List.map_fst_zip (by simp; omega)]
              have : (kvs.map fun p => (Sum.inr p.1 : Key)) = (kvs.map (·.1)).map Sum.inr := by simp
              rw [this]
              exact List.pairwise_map.mpr (hn.imp fun n e => n (Sum.inr.inj e))
            have kr := kv_rel e2 rv
            have kr2 : KV (mergeK [] ((kvs.map fun p => (Sum.inr p.1 : Key)).zip vs)) (merged [] ((kvs.map fun p => (Sum.inr p.1 : Key)).zip (ps.map (·.2)))) := KV.merge kr .nil
            rw [mergeK_fresh nd, List.nil_append] at kr2
            have fin : ∀ (h' : Heap) (tk : Nat), h'.DictOf (mixKind X.prog X.w) s.heap.objs.size (merged [] ((kvs.map fun p => (Sum.inr p.1 : Key)).zip (ps.map (·.2)))) → (∀ b o, b ∉ ([] : List Addr) → s.heap.get? b = some o → h'.get? b = some o) → EP X pins σ Q (.ref s.heap.objs.size) { s with heap := h', toks := tk } := fun h' tk dd k => by
              have hm : (s.heap.objs.size == sysModules) = false := beq_eq_false_iff_ne.mpr (Nat.ne_of_gt I.big)
              have hz2 : ((kvs.map fun p => (Sum.inr p.1 : Key)).zip vs).length ≤ sizeLine := by simp; omega
              refine ⟨.ref s.heap.objs.size, upd H s.heap.objs.size (.dK ((kvs.map fun p => (Sum.inr p.1 : Key)).zip vs)), I.laid (t' := tk) (fun b u e => k b u (fun z => nomatch z) e) (Nat.le_refl _) (dk_new hz2 hm kr2 dd), rfl, ?_⟩
              have hf := I.hok.fresh (a := s.heap.objs.size) (Nat.le_refl _)
              refine post (.ref s.heap.objs.size) F _ (fun b => b = s.heap.objs.size) (Frs.new sub hf) ?_ fun b e => by rw [e]; exact hf
              simp only [dicC, Rc]
              have rs : Rcs X.K mg F (upd H s.heap.objs.size (.dK ((kvs.map fun p => (Sum.inr p.1 : Key)).zip vs))) (kvs.map fun p => C.val p.2) vs (fun _ => False) := by
                have := Rcs_vals (mg := mg) (H := upd H s.heap.objs.size (.dK ((kvs.map fun p => (Sum.inr p.1 : Key)).zip vs))) dq
                rwa [List.map_map] at this
              exact ⟨s.heap.objs.size, vs, fun _ => False, rfl, upd_same, sub.free hf, by simp; omega, rs, id, fun b => by simp⟩
            rcases hT with e | e
            · subst e
              exact call_dict_pairs (PairArg.list l its.toArray (fun j => Ts.getD j 0) ps) (I.ok.hd hc) ⟨pl, pi⟩ hh hlen fin
            · subst e
              exact call_dict_pairs (PairArg.tuple l its.toArray (fun j => Ts.getD j 0) ps) (I.ok.hd hc) ⟨pl, pi⟩ hh hlen fin
        · cases e
  · cases e
end
end Nd

/-! Nd36: d[k], d.get(k, v] of a dict of one's own. -/
namespace Nd
open PySem PySem.Spec PyProof.Rows L2
def valD : C → Option PyData
  | .val d => some d
  | _ => none
def atK : List Key → List C → Str → Option C
  | k :: ks, c :: cs, x => if k = Sum.inr x then some c else atK ks cs x
  | _, _, _ => none
def gHasD (i : Nat) : G Unit := fun ρ => match ρ[i]? with
  | some (some (.dic _ _)) => .ok () ρ
  | _ => .bad
def strD? : PyData → Option Str
  | .str k => some k
  | _ => none
def slotDic (ρ : Env) (i : Nat) : Option (List Key × List C) := match ρ[i]? with
  | some (some (.dic ks cs)) => some (ks, cs)
  | _ => none
def getAt (ρ : Env) (i : Nat) (o : Op) : Option PyData := (slotDic ρ i).bind fun p => ((deref ρ o).bind strD?).bind fun k => (atK p.1 p.2 k).bind valD
def getOr (ρ : Env) (i : Nat) (o od : Op) : Option PyData := (slotDic ρ i).bind fun p => ((deref ρ o).bind strD?).bind fun k => match atK p.1 p.2 k with
  | some c => valD c
  | none => match od with
    | .d d => some d
    | .s _ => none
def gDGet (i : Nat) (g : G Op) : G C := G.bind (gHasD i) fun _ => G.bind g fun o ρ => match getAt ρ i o with
  | some d => .ok (.val d) ρ
  | none => .bad
def gDGetD (i : Nat) (g gd : G Op) : G C := G.bind (gHasD i) fun _ => G.bind g fun o => G.bind gd fun od ρ => match getOr ρ i o od with
  | some d => .ok (.val d) ρ
  | none => .bad
section
variable [TF] {X : Cx} {mg : Str → Option Value} {W : WX} {F H F0 H0 : Hp} {ρ : Env} {fp fp0 : AS} {σ : L2.St} {P : List Nat} {pos : Pos}
theorem atK_some {K : Frag} : ∀ {ks : List Key} {cs : List C} {vs : List V} {f : AS} {x : Str} {c : C}, Rcs K mg F H cs vs f → atK ks cs x = some c → ∃ v f', valV (ks.zip vs) (Sum.inr x) = some v ∧ Rc K mg F H c v f'
  | [], _, _, _, _, _, _, e => by simp [atK] at e
  | _ :: _, [], _, _, _, _, _, e => by simp [atK] at e
  | k :: ks, c0 :: cs, vs, f, x, c, h, e => by
    simp only [Rcs] at h
    obtain ⟨v0, r, f1, f2, rfl, h2, h3, _, _⟩ := h
    simp only [atK] at e
    by_cases hk : k = Sum.inr x
    · rw [if_pos hk] at e
      cases e
      exact ⟨v0, f1, by simp [valV, hk], h2⟩
    · rw [if_neg hk] at e
      obtain ⟨v, f', e1, e2⟩ := atK_some h3 e
      refine ⟨v, f', ?_, e2⟩
      unfold valV at e1 ⊢
      rw [List.zip_cons_cons, List.find?_cons_of_neg (by simpa using hk)]
      exact e1
theorem atK_none {K : Frag} : ∀ {ks : List Key} {cs : List C} {vs : List V} {f : AS} {x : Str}, Rcs K mg F H cs vs f → atK ks cs x = none → valV (ks.zip vs) (Sum.inr x) = none
  | [], _, _, _, _, _, _ => by simp [valV]
  | _ :: _, [], vs, f, x, h, _ => by
    simp only [Rcs] at h
    rw [h.1]
    simp [valV]
  | k :: ks, c0 :: cs, vs, f, x, h, e => by
    simp only [Rcs] at h
    obtain ⟨v0, r, f1, f2, rfl, h2, h3, _, _⟩ := h
    simp only [atK] at e
    by_cases hk : k = Sum.inr x
    · rw [if_pos hk] at e
      cases e
    · rw [if_neg hk] at e
      have e1 := atK_none h3 e
      unfold valV at e1 ⊢
      rw [List.zip_cons_cons, List.find?_cons_of_neg (by simpa using hk)]
      exact e1
theorem slotDic_eq {i : Nat} {ks : List Key} {cs : List C} (h : slotDic ρ i = some (ks, cs)) : ρ[i]? = some (some (.dic ks cs)) := by
  unfold slotDic at h
  split at h
  · rename_i e
    cases h
    exact e
  · cases h
theorem strD?_eq {d : PyData} {k : Str} (h : strD? d = some k) : d = .str k := by
  unfold strD? at h
  split at h
  · cases h; rfl
  · cases h
theorem valD_eq {c : C} {d : PyData} (h : valD c = some d) : c = .val d := by
  unfold valD at h
  split at h
  · cases h; rfl
  · cases h
/-- the dict in a slot -/
theorem slot_dic {K : Frag} {i : Nat} {ks : List Key} {cs : List C} (w : Wd K mg F H ρ fp σ) (e : ρ[i]? = some (some (.dic ks cs))) : ∃ a vs f, σ[i]? = some (some (.ref a)) ∧ H a = some (.dK (ks.zip vs)) ∧ Rcs K mg F H cs vs f := by
  obtain ⟨ov, f1, f2, q1, ⟨u, q2, q3⟩, _⟩ := w.re.focus e
  subst q2
  simp only [Rc] at q3
  obtain ⟨a, vs, f', rfl, h2, h3, h4, h5, h6, h7⟩ := q3
  exact ⟨a, vs, f', q1, h2, h5⟩
theorem gHasD_inv {i : Nat} {ρ' : Env} {u : Unit} (h : gHasD i ρ = .ok u ρ') : ρ' = ρ ∧ ∃ ks cs, ρ[i]? = some (some (.dic ks cs)) := by
  unfold gHasD at h
  split at h
  · rename_i e
    cases h
    exact ⟨rfl, _, _, e⟩
  · cases h
theorem gHasD_ex {i : Nat} {ρ' : Env} {x : Xc} (h : gHasD i ρ = .ex x ρ') : False := by
  unfold gHasD at h
  split at h <;> cases h
theorem gDGet_ok {i : Nat} {g : G Op} {Q : VK} (h : tE X.K mg W (gDGet i g) σ H Q) : tDGet (tVar i) (tO X.K mg W g) σ H Q := by
  obtain ⟨ρ, fp, F, w, h⟩ := h
  unfold gDGet G.bind at h
  cases q0 : gHasD i ρ with
  | bad => rw [q0] at h; exact h.elim
  | ex x ρ' => exact (gHasD_ex q0).elim
  | ok u ρ0 =>
    obtain ⟨rfl, ks, cs, e0⟩ := gHasD_inv q0
    rw [q0] at h
    simp only [R.bind_ok] at h
    obtain ⟨a, vs, f, s1, _, _⟩ := slot_dic w e0
    refine ⟨_, s1, ?_⟩
    refine oRun w Chg.refl ?_
    cases q : g ρ0 with
    | bad => rw [q] at h; exact h
    | ex x ρ' => rw [q] at h; exact h
    | ok o ρ1 =>
      rw [q] at h
      simp only [R.bind_ok] at h
      intro v F1 H1 fp1 w1 r1 sd1 c1
      cases q2 : getAt ρ1 i o with
      | none => rw [q2] at h; exact h.elim
      | some d =>
        rw [q2] at h
        unfold getAt at q2
        obtain ⟨⟨ks1, cs1⟩, e1, q2⟩ := Option.bind_eq_some_iff.mp q2
        obtain ⟨k, e2, q2⟩ := Option.bind_eq_some_iff.mp q2
        obtain ⟨dk, e3, e4⟩ := Option.bind_eq_some_iff.mp e2
        obtain ⟨c, e5, e6⟩ := Option.bind_eq_some_iff.mp q2
        have e7 := strD?_eq e4
        subst e7
        have e8 := valD_eq e6
        subst e8
        obtain ⟨a1, vs1, f1, s2, hd, rs⟩ := slot_dic w1 (slotDic_eq e1)
        rw [s1] at s2
        cases s2
        obtain ⟨v2, f2, hv, rc⟩ := atK_some rs e5
        have ev := (deref_sh w1 r1 e3).str.1
        subst ev
        simp only [Rc] at rc
        refine ⟨a, v2, rfl, by have := DGet.k (k := Sum.inr k) hd; rwa [hv] at this, ?_⟩
        exact (fin_post w1 c1 h).val w1.sub rc.1
theorem e_dget {x : Str} {e : Expr} {px : Pos} (i : Nat) {g : G Op} (hu : X.A.units + 65 < cLine) (he : PE X e (tO X.K X.mg W g)) (hs : NoSl e := by exact fun _ _ => rfl) (hN : X.N[i]? = some x := by rfl) (hv : Vis X.env.scope x := by first | exact Or.inl rfl | exact Or.inr (Or.inl rfl) | exact Or.inr (Or.inr rfl))
    (hd : (x == ("__debug__" : Str)) = false := by decide) (hcd : (x == ("__classdict__" : Str)) = false := by decide) : PE X (.Subscript (.Name x px) e pos) (tE X.K X.mg W (gDGet i g)) :=
  (pe_dget (by omega) (pe_var hN hv hd hcd) he hs).imp fun _ _ _ => gDGet_ok
theorem gDGetD_ok {i : Nat} {g gd : G Op} {Q : VK} (h : tE X.K mg W (gDGetD i g gd) σ H Q) : tDGet2 (tVar i) (tO X.K mg W g) (tO X.K mg W gd) σ H Q := by
  obtain ⟨ρ, fp, F, w, h⟩ := h
  unfold gDGetD G.bind at h
  cases q0 : gHasD i ρ with
  | bad => rw [q0] at h; exact h.elim
  | ex x ρ' => exact (gHasD_ex q0).elim
  | ok u ρ0 =>
    obtain ⟨rfl, ks, cs, e0⟩ := gHasD_inv q0
    rw [q0] at h
    simp only [R.bind_ok] at h
    obtain ⟨a, vs, f, s1, hd0, _⟩ := slot_dic w e0
    refine ⟨_, s1, a, rfl, .inl ⟨_, .inl hd0⟩, ?_⟩
    refine oRun w Chg.refl ?_
    cases q : g ρ0 with
    | bad => rw [q] at h; exact h
    | ex x ρ' => rw [q] at h; exact h
    | ok o ρ1 =>
      rw [q] at h
      simp only [R.bind_ok] at h
      intro v F1 H1 fp1 w1 r1 sd1 c1
      refine oRun w1 c1 ?_
      cases q' : gd ρ1 with
      | bad => rw [q'] at h; exact h
      | ex x ρ' => rw [q'] at h; exact h
      | ok od ρ2 =>
        rw [q'] at h
        simp only [R.bind_ok] at h
        intro z F2 H2 fp2 w2 r2 sd2 c2
        cases q2 : getOr ρ2 i o od with
        | none => rw [q2] at h; exact h.elim
        | some d =>
          rw [q2] at h
          unfold getOr at q2
          obtain ⟨⟨ks1, cs1⟩, e1, q2⟩ := Option.bind_eq_some_iff.mp q2
          obtain ⟨k, e2, q2⟩ := Option.bind_eq_some_iff.mp q2
          obtain ⟨dk, e3, e4⟩ := Option.bind_eq_some_iff.mp e2
          have e7 := strD?_eq e4
          subst e7
          obtain ⟨a1, vs1, f1, s2, hd, rs⟩ := slot_dic w2 (slotDic_eq e1)
          rw [s1] at s2
          cases s2
          have ro2 : Ro X.K F2 σ o v := by
            first
            | exact r1.mono sd2
            | exact r1.mono (by assumption)
          have ev := (deref_sh w2 ro2 e3).str.1
          subst ev
          cases e5 : atK ks1 cs1 k with
          | some c =>
            rw [e5] at q2
            have e8 := valD_eq q2
            subst e8
            obtain ⟨v2, f2, hv, rc⟩ := atK_some rs e5
            simp only [Rc] at rc
            refine ⟨some v2, by have := DGet.k (k := Sum.inr k) hd; rwa [hv] at this, ?_⟩
            exact (fin_post w2 c2 h).val w2.sub rc.1
          | none =>
            rw [e5] at q2
            have hv := atK_none rs e5
            refine ⟨none, by have := DGet.k (k := Sum.inr k) hd; rwa [hv] at this, ?_⟩
            cases od with
            | s _ => cases q2
            | d d' =>
              cases q2
              exact (fin_post w2 c2 h).val w2.sub r2
theorem e_dgetD {x : Str} {e ed : Expr} {px apos cpos : Pos} (i : Nat) {g gd : G Op} (hu : X.A.units + 65 < cLine) (he : PE X e (tO X.K X.mg W g)) (hed : PE X ed (tO X.K X.mg W gd)) (m : M2 X (.Name x px) "get" apos e ed cpos) (hN : X.N[i]? = some x := by rfl) (hv : Vis X.env.scope x := by first | exact Or.inl rfl | exact Or.inr (Or.inl rfl) | exact Or.inr (Or.inr rfl))
    (hd : (x == ("__debug__" : Str)) = false := by decide) (hcd : (x == ("__classdict__" : Str)) = false := by decide) : PE X (.Call (.Attribute (.Name x px) "get" apos) [e, ed] [] cpos) (tE X.K X.mg W (gDGetD i g gd)) :=
  (pe_dget2 (by omega) (pe_var hN hv hd hcd) he hed m).imp fun _ _ _ => gDGetD_ok
end
end Nd

/-! Nd37: [x for p in e for x in p]. -/
namespace Nd
open PySem L2
def flatD : List PyData → Option (List PyData)
  | [] => some []
  | d :: ds => match seqD d, flatD ds with
    | some xs, some zs => some (xs ++ zs)
    | _, _ => none
def gFlat (gi : G Itm) (vs : List Nat) : G C := G.bind gi fun it ρ => if plainAt ρ vs = true then match flatD it.ds with
    | some zs => if decide (zs.length ≤ 1000) = true then .ok (mkL zs) (restore ρ vs (wipeE ρ vs)) else .bad
    | none => .bad
  else .bad
theorem seqD_items {d : PyData} {xs : List PyData} (h : seqD d = some xs) : items d = some xs := by
  cases d <;> first | exact h | cases h
theorem flat_at : ∀ {ds : List PyData} {zs : List PyData} {i : Nat}, flatD ds = some zs → (h : i < ds.length) → ∃ xs ys rest, seqD ds[i] = some xs ∧ flatD (ds.take i) = some ys ∧ flatD (ds.take (i + 1)) = some (ys ++ xs) ∧ zs = ys ++ xs ++ rest
  | [], _, i, _, h => by simp at h
  | d :: ds, zs, i, e, h => by
    simp only [flatD] at e
    cases q1 : seqD d with
    | none => rw [q1] at e; cases e
    | some x0 =>
      cases q2 : flatD ds with
      | none => rw [q1, q2] at e; cases e
      | some z0 =>
        rw [q1, q2] at e
        cases e
        cases i with
        | zero => exact ⟨x0, [], z0, by simpa using q1, rfl, by simp [flatD, q1], by simp⟩
        | succ i =>
          obtain ⟨xs, ys, rest, h1, h2, h3, h4⟩ := flat_at (i := i) q2 (by simpa using h)
          exact ⟨xs, x0 ++ ys, rest, by simpa using h1, by simp [flatD, q1, h2], by simp [flatD, q1, h3], by simp [h4]⟩
section
variable [TF] {X : Cx} {K : Frag} {mg : Str → Option Value} {W : WX} {F H F0 H0 : Hp} {ρ : Env} {fp fp0 : AS} {σ σ0 : St} {P : List Nat} {pos : Pos}
theorem wipeE_same {ρ ρ' : Env} {vs : List Nat} (hl : ρ'.length = ρ.length) (h : ∀ k, k ∉ vs → ρ'[k]? = ρ[k]?) : wipeE ρ' vs = wipeE ρ vs := by
  apply List.ext_getElem?
  intro k
  by_cases hk : k ∈ vs
  · by_cases hlt : k < ρ.length
    · rw [wipeE_at hk hlt, wipeE_at hk (by omega)]
    · rw [List.getElem?_eq_none (by rw [wipeE_length]; omega), List.getElem?_eq_none (by rw [wipeE_length]; omega)]
  · rw [wipeE_out hk, wipeE_out hk]
    exact h k hk
theorem plainAt_lt {ρ : Env} : ∀ {vs : List Nat} {v : Nat}, plainAt ρ vs = true → v ∈ vs → v < ρ.length
  | [], v, _, h => by simp at h
  | u :: vs, v, hp, h => by
    simp only [plainAt, Bool.and_eq_true] at hp
    rcases List.mem_cons.mp h with e | h
    · subst e
      obtain ⟨hp, _⟩ := hp
      cases q : ρ[v]? with
      | none => rw [q] at hp; cases hp
      | some _ => exact (List.getElem?_eq_some_iff.mp q).1
    · exact plainAt_lt hp.2 h
theorem gFlat_ok {gi : G Itm} {i0 j0 : Nat} {vs : List Nat} (hi0 : i0 ∈ vs) (hj0 : j0 ∈ vs) (hij : i0 ≠ j0) (hsrc : ∀ ρ it ρ', gi ρ = .ok it ρ' → srcOut it.src vs) {Q : VK} (h : tE K mg W (gFlat gi vs) σ H Q) :
    tLc2 (tI K mg W false gi) (tGd K mg (.nm i0)) tYes (tI K mg W0 false (gItems (gSlot i0))) (tGd K mg (.nm j0)) tYes (tVar j0) vs [j0] σ H Q := by
  obtain ⟨ρ, fp, F, w, h⟩ := h
  refine ⟨ρ, fp, F, w, ?_⟩
  unfold gFlat G.bind at h
  cases q : gi ρ with
  | bad => rw [q] at h; exact h
  | ex x ρ' => rw [q] at h; exact h
  | ok it ρ1 =>
    rw [q] at h
    simp only [R.bind_ok] at h
    intro J a F1 H1 fp1 w1 c1 ck1 an1 ok hz D hD
    have hs := hsrc ρ it ρ1 q
    by_cases hpl : plainAt ρ1 vs = true
    · rw [if_pos hpl] at h
      cases qz : flatD it.ds with
      | none => rw [qz] at h; exact h.elim
      | some zs =>
        rw [qz] at h
        simp only at h
        by_cases hzl : zs.length ≤ 1000
        · rw [if_pos (decide_eq_true hzl)] at h
          have zsl : zs.length < sizeLine := by rw [sizeLine_eq]; omega
          have sF1 := w1.sub.free hD
          have x0 : Frs F1 H1 F1 (upd H1 D (.lst [])) := Frs.new w1.sub hD
          have w0 := w1.frs x0
          obtain ⟨fpb, rb, kb⟩ := w0.re.wipe (vs := vs)
          have wb : Wd K mg F1 (upd H1 D (.lst [])) (wipeE ρ1 vs) fpb (L2.wipe σ vs) := ⟨w0.sub, rb⟩
          have Dfp : ¬ fp1 D := fun z => by
            obtain ⟨_, o, e⟩ := w1.re.own D z
            rw [hD] at e; cases e
          have anb : anchor it.src a (L2.wipe σ vs) := by
            cases z : it.src with
            | none => trivial
            | some u =>
              obtain ⟨i, c⟩ := u
              rw [z] at an1 hs
              show (L2.wipe σ vs)[i]? = _
              rw [wipe_out' hs]; exact an1
          have ckb : chk it.src (wipeE ρ1 vs) := by
            cases z : it.src with
            | none => trivial
            | some u =>
              obtain ⟨i, c⟩ := u
              rw [z] at ck1 hs
              show (wipeE ρ1 vs)[i]? = _
              rw [wipeE_out hs]; exact ck1
          have hlen : σ.length = ρ1.length := Re.length w1.re
          have len0 : (wipeE ρ1 vs).length = (L2.wipe σ vs).length := by rw [wipeE_length, wipe_length, hlen]
          have z0 : Chg fpb F1 H1 (fun a => fpb a ∨ a = D) F1 (upd H1 D (.lst [])) := ⟨Same.refl _, fun b o _ e => x0.kp b o e, fun _ _ _ => rfl, fun b y => y.elim .inl fun u => .inr (by rw [u]; exact hD)⟩
          -- what holds while D holds acc, at an environment and slots
          let Mid : Hp → Env → St → List PyData → Hp → Prop := fun Fb ρ' σ' acc H' => ∃ fp' F' vacc, Wd K mg F' H' ρ' fp' σ' ∧ Chg fpb F1 H1 (fun a => fp' a ∨ a = D) F' H' ∧ H' D = some (.lst vacc) ∧ F' D = none ∧ ¬ fp' D ∧ DqAll K F' vacc acc ∧ Same Fb F'
          -- D stays what it is while something else is done
          have stay : ∀ {fp4 fp5 : AS} {F3 H3 F5 H5 : Hp} {vacc : List V}, Chg fp4 F3 H3 fp5 F5 H5 → ¬ fp4 D → H3 D = some (.lst vacc) → F3 D = none → H5 D = some (.lst vacc) ∧ F5 D = none ∧ ¬ fp5 D := fun {fp4 fp5 F3 H3 F5 H5 vacc} c5 fD4 D3 FD3 =>
            ⟨c5.kp D _ fD4 D3, (c5.fn D fD4 (by rw [D3]; simp)).trans FD3, fun y => (c5.nw D y).elim fD4 fun u => by rw [D3] at u; cases u⟩
          have far : ∀ {fp2 fp5 : AS} {F2 H2 F5 H5 H5' : Hp}, Chg fpb F1 H1 (fun a => fp2 a ∨ a = D) F2 H2 → Chg fp2 F2 H2 fp5 F5 H5 → (∀ b, b ≠ D → H5' b = H5 b) → Chg fpb F1 H1 (fun a => fp5 a ∨ a = D) F5 H5' := fun {fp2 fp5 F2 H2 F5 H5 H5'} c2 c25 hb => by
            refine c2.trans ⟨c25.fz, fun b o n e => ?_, fun b n e => c25.fn b (fun u => n (.inl u)) e, fun b y => ?_⟩
            · rw [hb b fun u => n (.inr u)]
              exact c25.kp b o (fun u => n (.inl u)) e
            · rcases y with y | y
              · exact (c25.nw b y).elim (fun u => .inl (.inl u)) .inr
              · exact .inl (.inr y)
          -- slots of the block forgotten
          have forget : ∀ {Fb : Hp} {ρ' ρ'' : Env} {σ' σ'' : St} {acc : List PyData} {H' : Hp} {us : List Nat}, Mid Fb ρ' σ' acc H' → wipeE ρ' us = ρ'' → L2.wipe σ' us = σ'' → Mid Fb ρ'' σ'' acc H' := fun {Fb ρ' ρ'' σ' σ'' acc H' us} ⟨fp', F', vacc, w', c', D', FD', fD', r', sb'⟩ e1 e2 => by
            obtain ⟨fp6, r6, k6⟩ := w'.re.wipe (vs := us)
            rw [e1, e2] at r6
            exact ⟨fp6, F', vacc, ⟨w'.sub, r6⟩, c'.to fun a y => y.elim (fun u => .inl (k6 a u)) .inr, D', FD', fun y => fD' (k6 D y), r', sb'⟩
          refine ⟨fun i m H' => m = it.ds.length - i ∧ i ≤ it.ds.length ∧ ∃ ys, flatD (it.ds.take i) = some ys ∧ Mid F1 (wipeE ρ1 vs) (L2.wipe σ vs) ys H',
            ⟨_, rfl, Nat.zero_le _, [], rfl, fpb, F1, [], wb, z0, upd_same, sF1, fun z => Dfp (kb D z), .nil, Same.refl _⟩, ?_⟩
          rintro i m H2 ⟨rfl, hi, ys, ey, fp2, F2, vacc, w2, c2, D2, FD2, fD2, r2, _⟩
          have s12 : Same F1 F2 := c2.fz
          by_cases hlt : i < it.ds.length
          · right
            obtain ⟨xs, ys', rest, g1, g2, g3, g4⟩ := flat_at qz hlt
            rw [ey] at g2
            cases g2
            refine ⟨ok.go _ fp2 F2 H2 _ i w2 ckb anb s12 hlt, fun H' => (i + 1 ≤ it.ds.length ∧ ∃ ys, flatD (it.ds.take (i + 1)) = some ys ∧ Mid F1 (wipeE ρ1 vs) (L2.wipe σ vs) ys H'), fun H' n => ⟨_, by omega, rfl, n⟩, fun x H3 hy => ?_⟩
            obtain ⟨F3, x3, d3⟩ := ok.yld _ fp2 F2 H2 _ i x H3 _ w2 ckb anb s12 (List.getElem?_eq_getElem hlt) hy
            have d3 : Dq K F3 x it.ds[i] := d3.strong
            have hl0 : i0 < (wipeE ρ1 vs).length := by rw [wipeE_length]; exact plainAt_lt hpl hi0
            have hl1 : j0 < (wipeE ρ1 vs).length := by rw [wipeE_length]; exact plainAt_lt hpl hj0
            refine ⟨_, fp2, F3, it.ds[i], (wipeE ρ1 vs).set i0 (some (.val it.ds[i])), w2.frs x3, .inl d3, by simp only [asg]; rw [if_pos (decide_eq_true hl0)], fun σ4 fp4 w4 k4 k4' => ?_⟩
            have l4 : σ4.length = (L2.wipe σ vs).length := by rw [Re.length w4.re, List.length_set, len0]
            have we4 : L2.wipe σ4 vs = L2.wipe σ vs := wipe_eq (by rw [l4, wipe_length]) fun j hj => k4' j fun z => hj (by simp [Pat.slots] at z; rw [z]; exact hi0)
            refine ⟨we4, ?_⟩
            simp only [tYes, if_true]
            have eg : gItems (gSlot i0) ((wipeE ρ1 vs).set i0 (some (.val it.ds[i]))) = .ok ⟨xs, none⟩ ((wipeE ρ1 vs).set i0 (some (.val it.ds[i]))) := by
              unfold gItems gSlot G.bind
              simp only [List.getElem?_set_self hl0, R.bind_ok, seqD_items g1]
            have eW : wipeE (wipeE ((wipeE ρ1 vs).set i0 (some (.val it.ds[i]))) [j0]) vs = wipeE ρ1 vs := wipeE_same (by simp [wipeE_length]) fun k hk => by
              have h1 : j0 ≠ k := fun e => hk (e ▸ hj0)
              have h2 : i0 ≠ k := fun e => hk (e ▸ hi0)
              simp only [wipeE]
              rw [List.getElem?_set_ne h1, List.getElem?_set_ne h2, wipeE_out hk]
            have eS : L2.wipe (L2.wipe σ4 [j0]) vs = L2.wipe σ vs := by
              refine (wipe_eq (σ := σ4) (by simp [L2.wipe]) fun j hj => ?_).trans we4
              rw [wipe_out' hj]
              have h1 : j0 ≠ j := fun e => hj (e ▸ hj0)
              simp only [L2.wipe]
              rw [List.getElem?_set_ne h1]
            generalize hρ3 : (wipeE ρ1 vs).set i0 (some (.val it.ds[i])) = ρ3 at w4 eg eW
            have hl3 : j0 < ρ3.length := by rw [← hρ3, List.length_set]; exact hl1
            refine ⟨ρ3, fp4, F3, w4, ?_⟩
            rw [eg]
            intro J1 a1 F4 H4 fp5 w5 c5 _ _ ok1 hz1
            have c4 : Chg fp2 F2 H2 fp5 F4 H4 := (x3.chg.to k4).trans c5
            have t4 := stay c4 fD2 D2 FD2
            have m0 : Mid F4 ρ3 σ4 ys H4 := ⟨fp5, F4, vacc, w5, far c2 c4 fun _ _ => rfl, t4.1, t4.2.1, t4.2.2, r2.mono c4.fz, Same.refl _⟩
            have wE0 : wipeE ρ3 [j0] = ρ3.set j0 none := rfl
            refine ⟨fun j k H' => k = xs.length - j ∧ j ≤ xs.length ∧ Mid F4 (wipeE ρ3 [j0]) (L2.wipe σ4 [j0]) (ys ++ xs.take j) H', ⟨_, rfl, Nat.zero_le _, by simpa using forget m0 rfl rfl⟩, ?_⟩
            rintro j k H5 ⟨rfl, hj, mid⟩
            obtain ⟨fp7, F7, vacc7, w7, c7, D7, FD7, fD7, r7, s47⟩ := id mid
            by_cases hjl : j < xs.length
            · right
              refine ⟨ok1.go _ fp7 F7 H5 _ j w7 trivial trivial s47 hjl, fun H' => j + 1 ≤ xs.length ∧ Mid F4 (wipeE ρ3 [j0]) (L2.wipe σ4 [j0]) (ys ++ xs.take (j + 1)) H', fun H' n => ⟨_, by omega, rfl, n⟩, fun x H6 hy => ?_⟩
              obtain ⟨F8, x8, d8⟩ := ok1.yld _ fp7 F7 H5 _ j x H6 _ w7 trivial trivial s47 (List.getElem?_eq_getElem hjl) hy
              have d8 : Dq K F8 x xs[j] := d8.strong
              have hl4 : j0 < (wipeE ρ3 [j0]).length := by rw [wipeE_length]; exact hl3
              refine ⟨_, fp7, F8, xs[j], (wipeE ρ3 [j0]).set j0 (some (.val xs[j])), w7.frs x8, .inl d8, by simp only [asg]; rw [if_pos (decide_eq_true hl4)], fun σ9 fp9 w9 k9 k9' => ?_⟩
              have eS9 : L2.wipe σ9 [j0] = L2.wipe σ4 [j0] := by
                have l9 := Re.length w9.re
                have l7 := Re.length w7.re
                rw [List.length_set] at l9
                refine wipe_eq (by rw [l9, ← l7]; simp [L2.wipe]) fun k hk => k9' k fun z => hk (by simpa [Pat.slots] using z)
              refine ⟨eS9, ?_⟩
              have e9 : ((wipeE ρ3 [j0]).set j0 (some (.val xs[j])))[j0]? = some (some (.val xs[j])) := List.getElem?_set_self hl4
              obtain ⟨ov, f1, f2, q1, ⟨y, q2, q3⟩, _⟩ := w9.re.focus e9
              subst q2
              simp only [Rc] at q3
              refine ⟨y, q1, vacc7, ?_⟩
              have c89 : Chg fp7 F7 H5 fp9 F8 H6 := x8.chg.to k9
              have t9 := stay c89 fD7 D7 FD7
              have r9 := r7.mono x8.fz
              refine ⟨t9.1, ?_, hjl, ?_⟩
              · rw [r7.length, List.length_append, List.length_take]
                have : zs.length = ys.length + xs.length + rest.length := by rw [g4]; simp; omega
                omega
              · have nd : ∀ b, b ≠ D → (upd H6 D (.lst (vacc7 ++ [y]))) b = H6 b := fun b hb => upd_ne hb
                have sub6 : Same F8 (upd H6 D (.lst (vacc7 ++ [y]))) := fun b u e => by
                  have hb : b ≠ D := fun z => by rw [z, t9.2.1] at e; cases e
                  rw [nd b hb]; exact w9.sub b u e
                have w10 : Wd K mg F8 (upd H6 D (.lst (vacc7 ++ [y]))) ((wipeE ρ3 [j0]).set j0 (some (.val xs[j]))) fp9 σ9 := ⟨sub6, w9.re.frame (Same.refl _) fun b hb => ⟨nd b fun z => t9.2.2 (z ▸ hb), rfl⟩⟩
                have acc' : ys ++ xs.take (j + 1) = (ys ++ xs.take j) ++ [xs[j]] := by rw [List.append_assoc, List.take_succ_eq_append_getElem hjl]
                rw [acc']
                refine forget (us := [j0]) ⟨fp9, F8, vacc7 ++ [y], w10, far c7 c89 nd, upd_same, t9.2.1, t9.2.2, r9.append (.cons q3.1 .nil), fun b u e => x8.fz _ _ (s47 _ _ e)⟩ ?_ eS9
                simp [wipeE]
            · left
              have e : j = xs.length := by omega
              subst e
              refine ⟨ok1.stop _ fp7 F7 H5 _ w7 trivial trivial s47, hlt, ys ++ xs, g3, ?_⟩
              have m2 := forget (us := vs) mid eW eS
              rw [List.take_length] at m2
              obtain ⟨fp', F', vacc', u1, u2, u3, u4, u5, u6, _⟩ := m2
              exact ⟨fp', F', vacc', u1, u2, u3, u4, u5, u6, u2.fz⟩
          · left
            have e : i = it.ds.length := by omega
            subst e
            rw [List.take_length] at ey
            rw [qz] at ey
            cases ey
            refine ⟨ok.stop _ fp2 F2 H2 _ w2 ckb anb s12, ?_⟩
            refine h (.ref D) F2 H2 fp2 (fun a => a = D) ⟨w2.sub, Re.restore w1.re s12 hpl (fun v hv hl => wipeE_at hv (by rw [wipeE_length] at hl; exact hl)) w2.re⟩ ?_ (fun a y u => fD2 (y ▸ u)) ?_
            · simp only [mkL, Rc]
              exact ⟨D, vacc, fun _ => False, rfl, D2, FD2, Rcs_vals r2, id, fun b => by simp⟩
            · have c2' : Chg fp1 F1 H1 (fun a => fp2 a ∨ a = D) F2 H2 := ⟨c2.fz, fun b o n e => c2.kp b o (fun u => n (kb b u)) e, fun b n e => c2.fn b (fun u => n (kb b u)) e, fun b y => (c2.nw b y).imp (kb b) id⟩
              exact c1.trans c2'
        · rw [if_neg (by simpa using hzl)] at h
          exact h.elim
    · rw [if_neg hpl] at h
      exact h.elim
end
section
variable [TF] {X : Cx} {mg : Str → Option Value} {W : WX} {P : List Nat} {pos : Pos}
theorem e_flat {elt tg iter tg1 iter1 : Expr} {scope : Scope} {own : List (Str × Nat)} {gi : G Itm} {i0 j0 : Nat} (hc : X.calm = true) (hN : X.N.Nodup) (hi : PI X tg iter (tI X.K mg W false gi)) (ok : BlkOk X.N X.env.scope scope own) (hi0 : i0 ∈ own.map (·.2)) (hj0 : j0 ∈ own.map (·.2)) (hij : i0 ≠ j0)
    (hg : ∀ (s : Shared) (H : Hp) (C : Addr) (cl : List (Str × Addr)) (fp : List Addr), PG (X.blk s H scope (compEnvC scope cl C X.env) fp) tg (tGd X.K mg (.nm i0)))
    (hi1 : ∀ (s : Shared) (H : Hp) (C : Addr) (cl : List (Str × Addr)) (fp : List Addr), PI (X.blk s H scope (compEnvC scope cl C X.env) fp) tg1 iter1 (tI X.K mg W0 false (gItems (gSlot i0))))
    (hg1 : ∀ (s : Shared) (H : Hp) (C : Addr) (cl : List (Str × Addr)) (fp : List Addr), PG (X.blk s H scope (compEnvC scope cl C X.env) fp) tg1 (tGd X.K mg (.nm j0)))
    (he : ∀ (s : Shared) (H : Hp) (C : Addr) (cl : List (Str × Addr)) (fp : List Addr), PE (X.blk s H scope (compEnvC scope cl C X.env) fp) elt (tVar j0)) (hsrc : ∀ ρ it ρ', gi ρ = .ok it ρ' → srcOut it.src (own.map (·.2)))
    (hs : ∀ x, foldedSetIterable iter X.env x = pure x := by intro _; rfl) (hs1 : ∀ env x, foldedSetIterable iter1 env x = pure x := by intro _ _; rfl) :
    PE X (.ListComp elt [⟨tg, iter, [], 0⟩, ⟨tg1, iter1, [], 0⟩] scope pos) (tE X.K mg W (gFlat gi (own.map (·.2)))) :=
  (pe_lc2 hc hN hi ok (vs1 := [j0]) (fun i h => by rw [List.mem_singleton.mp h]; exact hj0) hg (fun _ _ _ _ _ => pts_nil) hi1 hg1 (fun _ _ _ _ _ => pts_nil) he hs hs1).imp fun _ _ _ => gFlat_ok hi0 hj0 hij hsrc
end
end Nd

/-! Nd38: sum(xs, []) of a list of lists. -/
namespace Ns
open PySem PySem.Spec PyProof.Rows L2
section
variable {Pg : Program} {w : World} {A : Around} {E : Value → Shared → Prop} {s : Shared}
abbrev lstO (xs : Array Value) (n : Nat) : Obj := { cls := .type "list", data := .seq xs n }
/-- the lists in a list, one behind the other -/
def cats (xss : List (Array Value)) : Array Value := xss.foldl (· ++ ·) #[]
theorem cats_take {xss : List (Array Value)} {i : Nat} {x : Array Value} (h : xss[i]? = some x) : cats (xss.take (i + 1)) = cats (xss.take i) ++ x := by
  unfold cats
  rw [take_snoc h, List.foldl_append]
  rfl
theorem sum_loopL {I : Addr} {fp wr : List Addr} {G : Array GenState → Array GenState → Prop} {n : Nat} {Pv : Nat → Value → Prop} {St : Nat → Shared → Prop} {R : Result → Shared → Prop} (W : WalksS Pg w A.in1 I fp wr G n Pv St) (xss : List (Array Value)) (hn : n = xss.length)
    (h0 : Heap) (hv : ∀ i v, Pv i v → ∃ b x m dd sl, xss[i]? = some x ∧ v = .ref b ∧ h0.get? b = some ⟨.type "list", dd, .seq x m, sl⟩) (few : ∀ i, (cats (xss.take i)).size ≤ sizeLine) (S : Addr) (hSf : S ∉ fp) (n0 : h0.get? S = none) (nw : ∀ b ∈ wr, h0.get? b = none) (wI : ∀ i s, St i s → ∀ b ∈ wr, ∃ o, s.heap.get? b = some o) :
    ∀ (k i : Nat) (s : Shared) (c : Nat) (T : Addr) (m : Nat), n - i = k → i ≤ n → St i s → s.heap.get? S = some (lstO #[.ref T] c) → s.heap.get? T = some (lstO (cats (xss.take i)) m) → T ≠ S → T ∉ wr → (∀ b o, h0.get? b = some o → s.heap.get? b = some o) →
    (∀ s' T' m', s'.heap.get? T' = some (lstO (cats xss) m') → (∀ b o, h0.get? b = some o → s'.heap.get? b = some o) → (T' = T ∨ s.heap.get? T' = none) → G s.gens s'.gens → s'.drawn = s.drawn → s'.os = s.os → R (.ok (.ret (.ref T'))) s') →
    codeAny (model Pg w) A (.builtin "sum.loop" ⟨[.ref I, .ref S, rawInt 2, rawInt 0], []⟩) R s := by
  have hSw : S ∉ wr := fun h => hSf (W.sub _ h)
  intro k
  induction k with
  | zero =>
    intro i s c T m hk hi hst hS hT hne hTw kp hR
    have hin : i = n := by omega
    subst hin
    refine codeAny_builtin PySem.F.entry_sum_loop ?_
    rw [Around.under_plainId PySem.F.plain_sum_loop _]
    show wpAny _ A.in1 (seqItems? (.ref S) >>= _) _ _ s
    refine wpAny_bind (wpAny_seqItems hS rfl ?_)
    show wpAny _ A.in1 (tryCatch (pyNext (.ref I)) _ >>= _) _ _ s
    refine wpAny_bind (wpAny_tryCatch (W.done s _ _ hst fun s' hm => ?_))
    have hT' := hm.heap T _ hTw hT
    rw [hn, List.take_length] at hT'
    exact wpAny_pure (hR s' T m hT' (fun b o e => hm.heap b o (fun z => by rw [nw b z] at e; cases e) (kp b o e)) (.inl rfl) hm.gens hm.drawn hm.os)
  | succ k ih =>
    intro i s c T m hk hi hst hS hT hne hTw kp hR
    have hlt : i < n := by omega
    refine codeAny_builtin PySem.F.entry_sum_loop ?_
    rw [Around.under_plainId PySem.F.plain_sum_loop _]
    show wpAny _ A.in1 (seqItems? (.ref S) >>= _) _ _ s
    refine wpAny_bind (wpAny_seqItems hS rfl ?_)
    show wpAny _ A.in1 (tryCatch (pyNext (.ref I)) _ >>= _) _ _ s
    refine wpAny_bind (wpAny_tryCatch (W.item i s _ _ hlt hst fun v s' hP hst' hm => ?_))
    obtain ⟨b, x, mb, dd, sl, hx, rfl, hb⟩ := hv i v hP
    have hS' := hm.heap S _ hSw hS
    have hT' := hm.heap T _ hTw hT
    have kp' : ∀ b o, h0.get? b = some o → s'.heap.get? b = some o := fun b o e => hm.heap b o (fun z => by rw [nw b z] at e; cases e) (kp b o e)
    have ec := cats_take hx
    have hz := few (i + 1)
    rw [ec, Array.size_append] at hz
    show wpAny _ A.in1 ((holding [Value.ref b] (binaryOp .Add (.ref T) (.ref b))).attempt >>= _) _ _ _
    refine wpAny_bind (wpAny_attempt (wpAny_holding (concat_meets ⟨_, hT', rfl⟩ ⟨_, kp' b _ hb, rfl⟩ noFill_list_add seq_list_add PySem.F.slot_list_add PySem.F.entry_list_add (PySem.F.args_list_add_2 _ _) (PyProof.Rows.list_addW T b (cats (xss.take i)) x m mb none dd #[] sl hz) ⟨hT', kp' b _ hb, ?_⟩)))
    rw [← ec]
    have hSp : (s'.heap.push (lstO (cats (xss.take (i + 1))) 0)).get? S = some (lstO #[.ref T] c) := Heap.get?_push_of_some _ hS'
    show wpAny _ A.in1 (updateSeq S (fun _ => #[.ref s'.heap.objs.size]) >>= _) _ _ _
    refine wpAny_bind (wpAny_updateSeq hSp rfl ?_)
    have hS2 := Heap.get?_update_self (Obj.mapSeq fun _ => #[Value.ref s'.heap.objs.size]) hSp rfl
    refine wpAny_bind (wpAny_letGo ?_)
    have hS3 := Heap.get?_update_self (Obj.mapSeq fun _ => #[Value.ref s'.heap.objs.size]) hS2 rfl
    have sS : S < s'.heap.objs.size := Heap.lt_size hS'
    have other : ∀ {b o}, b ≠ S → s'.heap.get? b = some o → (((s'.heap.push (lstO (cats (xss.take (i + 1))) 0)).update S (Obj.mapSeq fun _ => #[Value.ref s'.heap.objs.size])).update S (Obj.mapSeq fun _ => #[Value.ref s'.heap.objs.size])).get? b = some o := fun {b o} hb e =>
      (Heap.get?_update_other _ _ (fun h : S = b => hb h.symm)).trans ((Heap.get?_update_other _ _ (fun h : S = b => hb h.symm)).trans (Heap.get?_push_of_some _ e))
    have atT : (((s'.heap.push (lstO (cats (xss.take (i + 1))) 0)).update S (Obj.mapSeq fun _ => #[Value.ref s'.heap.objs.size])).update S (Obj.mapSeq fun _ => #[Value.ref s'.heap.objs.size])).get? s'.heap.objs.size = some (lstO (cats (xss.take (i + 1))) 0) :=
      (Heap.get?_update_other _ _ (Nat.ne_of_lt sS)).trans ((Heap.get?_update_other _ _ (Nat.ne_of_lt sS)).trans (Heap.get?_push_size _ rfl))
    refine wpAny_bind (wpAny_updateSeq hS2 rfl (wpAny_pure ⟨plainId_quiet PySem.F.plain_sum_loop _, ih (i + 1) _ _ s'.heap.objs.size 0 (by omega) hlt (W.frame _ s' _ _ hst' (by first | exact Nat.le_refl _ | exact Nat.le_succ _ | omega) fun b hb o e => other (fun z => hSf (z ▸ hb)) e) hS3 atT (Nat.ne_of_gt sS) (fun hm' => ?_) (fun b o e => other (fun z => by rw [z, n0] at e; cases e) (kp' b o e)) fun s'' T' m' q1 q2 q3 q4 q5 q6 => ?_⟩))
    · obtain ⟨o, e⟩ := wI _ _ hst' _ hm'
      exact Nat.lt_irrefl _ (Heap.lt_size e)
    · have none1 : ∀ b, s'.heap.get? b = none → s.heap.get? b = none := fun b hb => by
        cases q : s.heap.get? b with
        | none => rfl
        | some o =>
          by_cases hbw : b ∈ wr
          · obtain ⟨o', e⟩ := wI _ _ hst' b hbw
            rw [hb] at e; cases e
          · have := hm.heap b o hbw q
            rw [hb] at this; cases this
      refine hR s'' T' m' q1 q2 (.inr (none1 _ ?_)) (W.gtrans _ _ _ hm.gens q4) (q5.trans hm.drawn) (q6.trans hm.os)
      rcases q3 with z | z
      · cases q : s'.heap.get? T' with
        | none => rfl
        | some o => exact absurd (Heap.lt_size q) (by rw [z]; exact Nat.lt_irrefl _)
      · cases q : s'.heap.get? T' with
        | none => rfl
        | some o =>
          by_cases hb : T' = S
          · rw [hb] at z
            have := hS3.symm.trans z
            cases this
          · have := (other hb q).symm.trans z
            cases this
/-- sum(xs, t), xs a list of lists, t an empty list -/
theorem call_sum_lists {l T0 : Addr} {items : Array Value} {m0 : Nat} {Q : Value → Shared → Prop} (xss : List (Array Value)) (hh : A.handled = none) (isl : s.heap.IsList l items) (hT0 : s.heap.get? T0 = some (lstO #[] m0)) (hn : items.size = xss.length)
    (hv : ∀ (i : Nat) (v : Value), items[i]? = some v → ∃ b x m dd sl, xss[i]? = some x ∧ v = Value.ref b ∧ s.heap.get? b = some ⟨.type "list", dd, .seq x m, sl⟩) (few : ∀ i, (cats (xss.take i)).size ≤ sizeLine)
    (hQ : ∀ s' T' m', s'.heap.get? T' = some (lstO (cats xss) m') → (∀ b o, s.heap.get? b = some o → s'.heap.get? b = some o) → (T' = T0 ∨ s.heap.get? T' = none) → s'.gens = s.gens → s'.drawn = s.drawn → s'.os = s.os → Q (.ref T') s') :
    wpAny (model Pg w) A (call (.builtin "sum") [.ref l, .ref T0]) Q E s := by
  refine call_function_tree PySem.F.kind_sum PySem.F.plain_sum PySem.F.entry_sum (by unfold argsOk; kernel_rfl) ?_
  unfold Builtin.«sum»
  simp only [List.length_cons, List.length_nil]
  rw [if_neg (by decide)]
  refine wpAny_bind (wpAny_of_eq (show Builtin.Builtins.bindParams "sum" ["start"] 0 ⟨[Value.ref T0], []⟩ = pure [some (Value.ref T0)] from rfl) ?_)
  refine wpAny_bind (wpAny_pyIter_list isl ?_)
  refine wpAny_bind (wpAny_pure ?_)
  have kp : ∀ b o, s.heap.get? b = some o → (s.heap.push { cls := .type "list_iterator", data := .fields #[.ref l, .int 0 0] }).get? b = some o := fun b o e => Heap.get?_push_of_some _ e
  have tT : ∀ tk, Shared.TypeIs { s with heap := s.heap.push { cls := .type "list_iterator", data := .fields #[.ref l, .int 0 0] }, toks := tk } (.ref T0) "list" := fun _ => ⟨_, kp _ _ hT0, rfl⟩
  simp only [List.forIn_cons, List.forIn_nil]
  refine wpAny_bind (wpAny_bind (wpAny_bind (wpAny_isInstance (T := "list") (b := false) (tT _) PySem.F.sub_list_str ?_)))
  simp only [Bool.false_eq_true, if_false]
  refine wpAny_pure (wpAny_bind (wpAny_bind (wpAny_isInstance (T := "list") (b := false) (tT _) PySem.F.sub_list_bytes ?_)))
  simp only [Bool.false_eq_true, if_false]
  refine wpAny_pure (wpAny_bind (wpAny_bind (wpAny_isInstance (T := "list") (b := false) (tT _) PySem.F.sub_list_bytearray ?_)))
  simp only [Bool.false_eq_true, if_false]
  refine wpAny_pure (wpAny_pure ?_)
  refine wpAny_bind (wpAny_newObj_type ?_)
  obtain ⟨ol, hol, hlc, nl, hld⟩ := isl
  have lI : l < s.heap.objs.size := Heap.lt_size hol
  have tI' : T0 < s.heap.objs.size := Heap.lt_size hT0
  have sz1 : (s.heap.push { cls := .type "list_iterator", data := .fields #[.ref l, .int 0 0] }).objs.size = s.heap.objs.size + 1 := Heap.size_push ..
  have gone : ∀ b, s.heap.objs.size ≤ b → s.heap.get? b = none := fun b hb => by
    cases q : s.heap.get? b with
    | none => rfl
    | some o => exact absurd (Nat.lt_of_lt_of_le (Heap.lt_size q) hb) (Nat.lt_irrefl _)
  have lim : ∀ b ∈ [s.heap.objs.size], s.heap.get? b = none := fun b hb => by rw [List.mem_singleton.mp hb]; exact gone _ (Nat.le_refl _)
  have hSf : (s.heap.push { cls := .type "list_iterator", data := .fields #[.ref l, .int 0 0] }).objs.size ∉ [s.heap.objs.size, l] := by
    rw [sz1]; simp only [List.mem_cons, List.not_mem_nil, or_false, not_or]
    exact ⟨Nat.ne_of_gt (Nat.lt_succ_self _), Nat.ne_of_gt (Nat.lt_succ_of_lt lI)⟩
  refine wpAny_pure ⟨plainId_quiet PySem.F.plain_sum_loop _, sum_loopL ((Walks.list (by simpa using hh) s.heap.objs.size l (Nat.ne_of_lt lI) items).toS) xss hn s.heap hv few _ hSf (gone _ (by rw [sz1]; exact Nat.le_succ _)) lim ?_ items.size 0 _ 0 T0 m0 (by omega) (Nat.zero_le _)
    ⟨⟨_, Heap.get?_push_of_some _ (Heap.get?_push_size _ rfl), rfl, rfl⟩, ⟨_, Heap.get?_push_of_some _ (kp _ _ hol), hlc, nl, hld⟩⟩ (Heap.get?_push_size _ rfl) (Heap.get?_push_of_some _ (kp _ _ hT0)) ?_ ?_ (fun b o e => Heap.get?_push_of_some _ (kp b o e)) ?_⟩
  · intro i s1 st b hb
    obtain ⟨⟨o, e, _⟩, _⟩ := st
    rw [List.mem_singleton.mp hb]
    exact ⟨o, e⟩
  · rw [sz1]; exact Nat.ne_of_lt (Nat.lt_succ_of_lt tI')
  · rw [List.mem_singleton]; exact Nat.ne_of_lt tI'
  · intro s' T' m' q1 q2 q3 q4 q5 q6
    refine hQ s' T' m' q1 q2 (q3.imp id fun z => ?_) q4 q5 q6
    cases q : s.heap.get? T' with
    | none => rfl
    | some o =>
      have : ((s.heap.push { cls := .type "list_iterator", data := .fields #[.ref l, .int 0 0] }).push { cls := .type "list", data := .seq #[Value.ref T0] }).get? T' = some o := Heap.get?_push_of_some _ (kp _ _ q)
      have z' := this.symm.trans z
      cases z'
end
end Ns

/-! Nd39: the rule of sum(xs, []). -/
namespace Nd
open PySem PySem.Spec PyProof.Rows L2 Ns
def flatL : List PyData → Option (List PyData)
  | [] => some []
  | .list xs :: ds => (flatL ds).map (xs ++ ·)
  | _ :: _ => none
def sumLD : List PyData → Option C
  | [.list ds] => (flatL ds).bind fun zs => if decide (zs.length ≤ 1000) = true then some (mkL zs) else none
  | _ => none
theorem cats_cons (x : Array Value) (xss : List (Array Value)) : cats (x :: xss) = x ++ cats xss := by
  have key : ∀ (xss : List (Array Value)) (a b : Array Value), xss.foldl (· ++ ·) (a ++ b) = a ++ xss.foldl (· ++ ·) b := fun xss => by
    induction xss with
    | nil => intro a b; rfl
    | cons y r ih => intro a b; rw [List.foldl_cons, List.foldl_cons, Array.append_assoc, ih]
  unfold cats
  rw [List.foldl_cons]
  have := key xss x #[]
  simpa using this
theorem cats_size_le : ∀ (xss : List (Array Value)) (i : Nat), (cats (xss.take i)).size ≤ (cats xss).size
  | [], i => by simp
  | x :: r, 0 => by simp [cats]
  | x :: r, i + 1 => by
    rw [List.take_succ_cons, cats_cons, cats_cons, Array.size_append, Array.size_append]
    have := cats_size_le r i
    omega
/-- the lists that stand in a list -/
theorem lists_at {X : Cx} {F H : Hp} {pins : List (Addr × Obj)} {σ : L2.St} {s : Shared} (I : Inv X pins σ H s) (sub : Same F H) : ∀ {its : List Value} {ds zs : List PyData}, PySem.W.EachIs (Hd X.K F) its ds → flatL ds = some zs →
    ∃ (xss : List (Array Value)) (vs : List V), its.length = xss.length ∧ (∀ (i : Nat) (v : Value), its[i]? = some v → ∃ b x m dd sl, xss[i]? = some x ∧ v = Value.ref b ∧ s.heap.get? b = some ⟨.type "list", dd, .seq x m, sl⟩) ∧ Vals vs (cats xss).toList ∧ DqAll X.K F vs zs
  | _, _, zs, .nil, e => by
    simp only [flatL, Option.some.injEq] at e
    subst e
    exact ⟨[], [], rfl, fun i v h => by simp at h, .nil, .nil⟩
  | _, d :: ds, zs, .cons ⟨v, r, q⟩ t, e => by
    cases d with
    | list xs =>
      simp only [flatL] at e
      obtain ⟨z0, e0, rfl⟩ := Option.map_eq_some_iff.mp e
      obtain ⟨xss, vs, h1, h2, h3, h4⟩ := lists_at I sub t e0
      obtain ⟨a, ws, rfl, sq, dq⟩ := q.list_inv
      cases r
      obtain ⟨its0, rv, ⟨⟨oc, od, odt, osl⟩, n, ho, hc, hd, hdat⟩, hz⟩ := I.list (sub.seq sq)
      simp only at hc hdat
      subst hc hdat
      refine ⟨its0.toArray :: xss, ws ++ vs, by simp [h1], fun i v hv => ?_, ?_, dq.append h4⟩
      · cases i with
        | zero =>
          simp at hv
          subst hv
          exact ⟨a, _, n, od, osl, rfl, rfl, ho⟩
        | succ i =>
          obtain ⟨b, x, m, dd, sl, e1, e2, e3⟩ := h2 i v (by simpa using hv)
          exact ⟨b, x, m, dd, sl, by simpa using e1, e2, e3⟩
      · rw [cats_cons]
        simpa using rv.append h3
    | none => simp [flatL] at e
    | bool => simp [flatL] at e
    | int => simp [flatL] at e
    | str => simp [flatL] at e
    | tuple => simp [flatL] at e
    | dict => simp [flatL] at e
section
variable [TF] {X : Cx} {mg : Str → Option Value} {W : WX}
def rSumL (K : Frag) (mg : Str → Option Value) : List V → Hp → VK → Prop := fun xs H Q => ∃ F H0 p d c x, xs = [x, .ref p] ∧ H = upd H0 p (.lst []) ∧ H0 p = none ∧ Same F H0 ∧ Sh K F H0 x d ∧ sumLD [d] = some c ∧ Post K mg F H0 c Q
theorem c_sumL (hc : X.calm = true) : CallR X (.builtin "sum") (rSumL X.K mg) := by
  intro pins s σ H xs us Q I r h
  obtain ⟨F, H0, p, d, c, x, rfl, rfl, hp, sub0, sh0, e, post⟩ := h
  have fr := Frs.new (o := .lst []) sub0 hp
  have sub := fr.sub
  have sh := sh0.frs fr
  unfold sumLD at e
  split at e
  · rename_i ds heq
    cases heq
    obtain ⟨zs, ez, e⟩ := Option.bind_eq_some_iff.mp e
    split at e
    · rename_i hl
      cases e
      have hl := of_decide_eq_true hl
      cases r with
      | cons r1 r2 =>
        cases r2 with
        | cons r2 r3 =>
          cases r3
          cases r2
          obtain ⟨l, vs0, rfl, sq, dq0⟩ := sh.list sub
          cases r1
          obtain ⟨its, rv0, pl, hz⟩ := I.list sq
          have eh := hd_all rv0 dq0
          obtain ⟨xss, vs, h1, h2, h3, h4⟩ := lists_at I sub eh ez
          obtain ⟨zp, itp, np, rvp, hop⟩ := (show ObjOk X.prog X.w _ s.heap p (.lst []) from I.hok p _ upd_same)
          cases rvp
          have hsz : (cats xss).size ≤ 1000 := by
            rw [← Array.length_toList, ← h3.length, h4.length]
            exact hl
          refine call_sum_lists xss (I.ok.hd hc) pl.isList hop (by simpa using h1) (fun i v hv => h2 i v (by simpa using hv)) (fun i => Nat.le_trans (cats_size_le xss i) (by rw [sizeLine_eq]; omega)) fun s' T m q1 q2 q3 q4 q5 q6 => ?_
          have es : s' = { s with heap := s'.heap, toks := s'.toks } := by
            obtain ⟨a, b, c, d, e⟩ := s'
            simp only at q4 q5 q6
            subst q4 q5 q6
            rfl
          rw [es]
          have new : ∀ Hx : Hp, ObjOk X.prog X.w Hx s'.heap T (.lst vs) := fun Hx => ⟨by rw [h4.length, sizeLine_eq]; omega, (cats xss).toList, m, h3, by simpa using q1⟩
          rcases q3 with rfl | q3
          · -- the empty sum: the start itself
            have e0 : vs = [] := by
              have a1 := q2 _ _ hop
              rw [q1] at a1
              have a2 : cats xss = #[] := by
                have := congrArg Obj.data (Option.some.inj a1)
                simp only at this
                injection this with e1 _
              rw [a2] at h3
              cases h3
              rfl
            subst e0
            refine ⟨.ref T, upd H0 T (.lst []), I.kept q2, rfl, ?_⟩
            exact post.lst sub0 h4 hp
          · have hn : upd H0 p (.lst []) T = none := I.hok.gone q3
            refine ⟨.ref T, upd (upd H0 p (.lst [])) T (.lst vs), I.laidN q2 q3 hn (new _), rfl, ?_⟩
            have hne : T ≠ p := fun z => by rw [z, upd_same] at hn; cases hn
            have hT0 : H0 T = none := by rwa [upd_ne hne] at hn
            refine post (.ref T) F _ (fun b => b = T) (fr.trans (Frs.new sub hn)) ?_ fun b e => by rw [e]; exact hT0
            simp only [mkL, Rc]
            exact ⟨T, vs, fun _ => False, rfl, upd_same, sub.free hn, Rcs_vals h4, id, fun b => by simp⟩
    · cases e
  · cases e
def gSumL (g : G Op) : G C := G.bind g fun o ρ => match (deref ρ o).bind fun d => sumLD [d] with
  | some c => .ok c ρ
  | none => .bad
theorem sumL_ok {g : G Op} {σ : L2.St} {H : Hp} {Q : VK} (h : tE X.K mg W (gSumL g) σ H Q) : tCB (rSumL X.K mg) (tCons (tO X.K mg W g) (tCons (tLst tNil) tNil)) σ H Q := by
  obtain ⟨ρ, fp, F, w, h⟩ := h
  unfold gSumL G.bind at h
  refine oRun w Chg.refl ?_
  cases q : g ρ with
  | bad => rw [q] at h; exact h.elim
  | ex x ρ' => rw [q] at h; exact h
  | ok o ρ1 =>
    rw [q] at h
    simp only [R.bind_ok] at h
    intro v F1 H1 fp1 w1 r1 s1 c1
    cases z : (deref ρ1 o).bind fun d => sumLD [d] with
    | none => rw [z] at h; exact h.elim
    | some c =>
      rw [z] at h
      obtain ⟨d, e1, e2⟩ := Option.bind_eq_some_iff.mp z
      exact ⟨Nat.zero_le _, fun p hp => ⟨F1, H1, p, d, c, v, rfl, rfl, hp, w1.sub, deref_sh w1 r1 e1, e2, fin_post w1 c1 h⟩⟩
variable {e : Expr} {p q pos : Pos}
theorem e_sumL {g : G Op} (hc : X.calm = true) (hg : Gl X "sum") (hm : X.mg "sum" = none) (ha : PE X e (tO X.K mg W g)) (he : starEach [e, .List [] q] X.env = (false, eval e X.env) :: starEach [.List [] q] X.env := by rfl) (he2 : starEach [.List [] q] X.env = (false, eval (.List [] q) X.env) :: starEach [] X.env := by rfl) (hpl : (backTo pos (starEach [.List [] q] X.env)).any (·.1) = false := by rfl) :
    PE X (.Call (.Name "sum" p) [e, .List [] q] [] pos) (tE X.K mg W (gSumL g)) := (pe_callB (c_sumL hc) hg hm boot_sum (pa_cons ha (pa_cons (pe_lst pa_nil) pa_nil he2) he) (he := he) (hpl := hpl)).imp fun _ _ _ => sumL_ok
end
end Nd

/-! Nd40: the newer parts, read. -/
namespace Nd
open PySem L2
section
variable {ρ : Env}
def flr (ρ : Env) (vs : List Nat) : Option (List PyData) → R C
  | some zs => if decide (zs.length ≤ 1000) = true then .ok (mkL zs) (restore ρ vs (wipeE ρ vs)) else .bad
  | none => .bad
@[simp] theorem flr_some {vs zs} : flr ρ vs (some zs) = if decide (zs.length ≤ 1000) = true then .ok (mkL zs) (restore ρ vs (wipeE ρ vs)) else .bad := rfl
def flk (vs : List Nat) (it : Itm) : G C := fun ρ => if plainAt ρ vs = true then flr ρ vs (flatD it.ds) else .bad
@[simp] theorem flk_at {vs it} : flk vs it ρ = if plainAt ρ vs = true then flr ρ vs (flatD it.ds) else .bad := rfl
@[simp] theorem gFlat_at {gi vs} : gFlat gi vs ρ = (gi ρ).bind (flk vs) := by
  show (gi ρ).bind _ = _
  refine congrArg (R.bind (gi ρ)) ?_
  funext it ρ
  simp only [flk_at]
  split
  · cases flatD it.ds <;> rfl
  · rfl
def smk (o : Op) : G C := fun ρ => gFin ((deref ρ o).bind fun d => sumLD [d]) ρ
@[simp] theorem smk_at {o} : smk o ρ = gFin ((deref ρ o).bind fun d => sumLD [d]) ρ := rfl
@[simp] theorem gSumL_at {g} : gSumL g ρ = (g ρ).bind smk := by
  show (g ρ).bind _ = _
  refine congrArg (R.bind (g ρ)) ?_
  funext o ρ
  simp only [smk_at, gFin]
  cases (deref ρ o).bind fun d => sumLD [d] <;> rfl
def vfin (ρ : Env) : Option PyData → R C
  | some d => .ok (.val d) ρ
  | none => .bad
@[simp] theorem vfin_some {d} : vfin ρ (some d) = .ok (.val d) ρ := rfl
def dgk (i : Nat) (o : Op) : G C := fun ρ => vfin ρ (getAt ρ i o)
@[simp] theorem dgk_at {i o} : dgk i o ρ = vfin ρ (getAt ρ i o) := rfl
@[simp] theorem gHasD_at {i} : gHasD i ρ = match ρ[i]? with
  | some (some (.dic _ _)) => .ok () ρ
  | _ => .bad := rfl
def dgu (i : Nat) (g : G Op) (_ : Unit) : G C := fun ρ => (g ρ).bind (dgk i)
@[simp] theorem dgu_at {i g u} : dgu i g u ρ = (g ρ).bind (dgk i) := rfl
@[simp] theorem gDGet_at {i g} : gDGet i g ρ = (gHasD i ρ).bind (dgu i g) := by
  show (gHasD i ρ).bind _ = _
  refine congrArg (R.bind (gHasD i ρ)) ?_
  funext u ρ
  simp only [dgu_at, G.bind]
  refine congrArg (R.bind (g ρ)) ?_
  funext o ρ
  simp only [dgk_at]
  cases getAt ρ i o <;> rfl
def dhk (i : Nat) (o : Op) (od : Op) : G C := fun ρ => vfin ρ (getOr ρ i o od)
@[simp] theorem dhk_at {i o od} : dhk i o od ρ = vfin ρ (getOr ρ i o od) := rfl
def dhg (i : Nat) (gd : G Op) (o : Op) : G C := fun ρ => (gd ρ).bind (dhk i o)
@[simp] theorem dhg_at {i gd o} : dhg i gd o ρ = (gd ρ).bind (dhk i o) := rfl
def dhu (i : Nat) (g gd : G Op) (_ : Unit) : G C := fun ρ => (g ρ).bind (dhg i gd)
@[simp] theorem dhu_at {i g gd u} : dhu i g gd u ρ = (g ρ).bind (dhg i gd) := rfl
@[simp] theorem gDGetD_at {i g gd} : gDGetD i g gd ρ = (gHasD i ρ).bind (dhu i g gd) := by
  show (gHasD i ρ).bind _ = _
  refine congrArg (R.bind (gHasD i ρ)) ?_
  funext u ρ
  simp only [dhu_at, G.bind]
  refine congrArg (R.bind (g ρ)) ?_
  funext o ρ
  simp only [dhg_at]
  refine congrArg (R.bind (gd ρ)) ?_
  funext od ρ
  simp only [dhk_at]
  cases getOr ρ i o od <;> rfl
end
end Nd

/-! Nd41: x is True, of truths. -/
namespace Nd
open PySem L2
def isBD (x y : PyData) : Option Bool := match x, y with
  | .bool a, .bool b => some (decide (a = b))
  | _, _ => none
def notBD (x y : PyData) : Option Bool := (isBD x y).map (!·)
section
variable [TF] {X : Cx} {mg : Str → Option Value}
theorem o_isB : OpR X (compareOp .Is) (r2 X.K mg (cmpC isBD)) := by
  intro pins s σ H x y v u Q I rx ry h
  obtain ⟨F, dx, dy, c, sub, hx, hy, e0, post⟩ := h
  obtain ⟨b, e, rfl⟩ := cmpC_some e0
  clear e0
  unfold isBD at e
  split at e
  · cases e
    exact op_is_bl pins s σ H x y v u Q I rx ry ⟨_, _, hx.bl, hy.bl, post.val sub (.bl _)⟩
  · cases e
theorem o_notB : OpR X (compareOp .IsNot) (r2 X.K mg (cmpC notBD)) := by
  intro pins s σ H x y v u Q I rx ry h
  obtain ⟨F, dx, dy, c, sub, hx, hy, e0, post⟩ := h
  obtain ⟨b, e, rfl⟩ := cmpC_some e0
  clear e0
  unfold notBD isBD at e
  split at e
  · simp only [Option.map_some, Option.some.injEq] at e
    subst e
    exact op_isnot_bl pins s σ H x y v u Q I rx ry ⟨_, _, hx.bl, hy.bl, post.val sub (.bl _)⟩
  · cases e
end
end Nd

/-! Nd42: lambdas as values; raise. -/
namespace Nd
open PySem PySem.Spec PyProof.Rows L2
abbrev LO := Nat → Str × (Addr → Addr → HO)
section
variable [TF] {X : Cx} {mg : Str → Option Value} {W : WX} {P : List Nat}
def gLam (n : Nat) (lo : LO) : G C := fun ρ => .ok (.lam n (lo n).1 (lo n).2) ρ
theorem e_lam {params : Arguments} {body : Expr} {scope : Scope} {pos : Pos} (LA : LamAt X.K X.mg X.base X.env.code (X.env.qual ++ "<lambda>")) (n : Nat) (lo : LO) (hlo : lo n = (X.env.qual ++ "<lambda>", LamO (X.env.qual ++ "<lambda>") params body scope X.env.cells)) (hfrB : frB X.env.scope scope = true)
    (hdef : defaultsOf params X.env = ([], []) := by rfl) : PE X (.Lambda params body scope pos) (tE X.K mg W (gLam n lo)) := by
  refine ⟨fun pins s σ H Q I h => ?_⟩
  obtain ⟨ρ, fp, F, w, h⟩ := h
  obtain ⟨c, P, ecode, TB, hmem, huq⟩ := LA.ex
  have hfr := frB_ok hfrB
  obtain ⟨f1, f2, re0, tb, dj, cv⟩ := w.re
  refine lam_new I w.sub tb TB ecode hmem huq hdef (fun y hy e => ?_) fun f c' pm ctv F2 H2 s2 I2 z1 z2 tb2 z3 z4 of2 hfo hcF => ?_
  · rcases hfr y hy e with q | q
    · exact I.ok.has _ (.inl q)
    · exact I.ok.has _ (.inr q)
  · have ch2 : Chg fp F H fp F2 H2 := ⟨z1, fun b ob n e => z3 b ob (fun u => n ((cv b).mpr (.inr u))) e, fun b _ n => z4 b n, fun b u => .inl u⟩
    have w2 : Wd X.K mg F2 H2 ρ fp σ := ⟨z2, f1, f2, re0.frame z1 (fun b u => by
      obtain ⟨_, ob, eb⟩ := re0.own b u
      exact ⟨(z3 b ob (dj b u) eb).trans eb.symm, z4 b (by rw [eb]; simp)⟩), tb2, dj, cv⟩
    refine ⟨.ref f, H2, I2, rfl, h (.ref f) F2 H2 fp (fun _ => False) w2 ?_ (fun _ z => z.elim) ch2.or_false⟩
    simp only [Rc]
    rw [hlo]
    exact ⟨⟨f, c', rfl, hfo, hcF⟩, fun _ z => z⟩

/-! ### raise -/
/-- a class of exceptions among the texts, without __init__ of its own -/
structure ExAt (K : Frag) (mg : Str → Option Value) (x : Str) : Prop where
  ex : ∃ C, mg x = some (.ref C) ∧ PySem.W.excIn K C He.veBase "ValueError.__new__" = true ∧ PySem.W.keepIn K (.ref C) = true ∧ PySem.W.subIn K (.ref C) (.type "BaseException") = some true ∧ PySem.W.typeIn K (.ref C) = some (.type "type")
def gRaise (x : Str) : G Fl := fun ρ => .ex (.plain x) ρ
theorem s_raise {x m : Str} {j : Nat} {p p2 p3 pos : Pos} (c : ExAt X.K X.mg x) (hc : X.calm = true) (tk : L2N.Takes X W) (hg : Gl X x) (hdb : (x == ("__debug__" : Str)) = false := by decide) :
    PS X (.Raise (some (.Call (.Name x p) [.Constant (.str m) j p2] [] p3)) none pos) (tS X.K X.mg W P (gRaise x)) := by
  obtain ⟨C, gC, q, kC, bC, tC⟩ := c.ex
  refine (L2N.ps_raise hc tk (L2N.pmk_own PySem.F.excBase_ValueError q gC kC (raises_own bC tC) hg hdb)).imp fun D σ H h => ?_
  obtain ⟨ρ, fp, F, w, h⟩ := h
  exact h (.ref C) none σ F H fp w Chg.refl (fun _ _ => rfl) ⟨gC, rfl⟩
end
end Nd

/-! Nd43: a def called where an exception is handled: it is told that exception. -/
namespace Nd
open PySem PySem.Spec PyProof.Rows L2
/-- the exception p is handled where the def is called -/
structure FnK (Pg : Program) (w : World) (K : Frag) (mg : Str → Option Value) (base : Heap) (k : Nat) (f : Addr) (fd : FuncData) (ps : List Str) (sp : Addr × Obj → Sp) : Prop where
  len : ∀ p vs H Q E, sp p vs H Q E → vs.length = ps.length
  run : ∀ (A : Around) (outer : List PySem.Env) (s : Shared) (H : Hp) (args : Args) (us : List Value) (vs : List V) (Q : VK) (p : Addr × Obj), L2H.RoomH k A → L2H.Hot1 A p → L2H.PinOk outer H s p → Env0 Pg w K mg base A outer s H → BindsTo s fd args (ps.zip us) → Vals vs us → sp p vs H Q C8.E0 →
    codeAny (model Pg w) A (.call (.ref f) args) (CR C8.CX0 outer Pg w H s Q C8.E0) s
section
variable {Pg : Program} {w : World} {K : Frag} {mg : Str → Option Value} {base : Heap}
abbrev cxK (Pg : Program) (w : World) (K : Frag) (mg : Str → Option Value) (base : Heap) (N : List Str) (qual : Str) (scope : Scope) (f : Addr) (cd : Value) (A : Around) (outer : List PySem.Env) (s : Shared) (H : Hp) (p : Addr × Obj) : Cx := L2H.cxH C8.CX0 Pg w K mg base N qual scope f cd A outer s H C8.E0 p
theorem fn_k {x qual : Str} {st : Stmt} {f : Addr} {fd : FuncData} {N ps : List Str} {k : Nat} {sp : Addr × Obj → Sp} (F : Fun K x qual st f fd) (S : FnScope N ps (defScope st)) (len : ∀ p vs H Q E, sp p vs H Q E → vs.length = ps.length)
    (hb : ∀ (cdv : Value) (hc : CodeAt K f cdv) (A : Around) (outer : List PySem.Env) (s : Shared) (H : Hp) (vs : List V) (Q : VK) (p : Addr × Obj), L2H.Hot1 A p → L2H.RoomH k (A.deeper (PyProof.Rows.envOfC qual (defScope st) s.heap.objs.size f cdv)) → sp p vs H Q C8.E0 →
      ∃ t, PSs (cxK Pg w K mg base N qual (defScope st) f cdv A outer s H p) (defBody st) t ∧ t { nx := fun _ H' => Q .non H', rt := Q } (L2.start N vs) H) : FnK Pg w K mg base (k + 1) f fd ps sp := by
  obtain ⟨oc, od, kV, doc, pm, an, cdv, ct, osl, e, lk, hcd⟩ := F.ex
  subst e
  refine ⟨len, fun A outer s H args us vs Q p hr hot hpin e0 hbi r hsp => ?_⟩
  have KX : K.In s.heap := e0.mod.kin.keeps fun b o e => (e0.bs b o e).1
  have hkind : ∀ y ∈ ps.zip us, (defScope st).names.lookup y.1 = some .local ∨ ((defScope st).names.lookup y.1 = some .cell ∧ ((cellsFrom (s.heap.objs.size + 1) (defScope st).names []).lookup y.1).isSome = true) := fun ⟨n, v⟩ hy =>
    (S.par n (List.of_mem_zip hy).1).imp id fun q => ⟨q, PySem.W.cellsFrom_some _ _ _ (.inl q)⟩
  refine codeAny_call_function hr.depth (KX _ _ lk) rfl S.co S.gen rfl (PySem.W.codeRec_of KX hcd) (hbi _ _ _ _ ?_)
  refine wpAny_newFunctionEnv_cells S.kind hkind fun env he s1 x => ?_
  subst he
  refine ⟨(e0.mod.nolimit.keeps fun b o e => (e0.bs b o e).1).keeps x.toInCall.keep, codeAny_func ?_⟩
  obtain ⟨t, ht, hq⟩ := hb cdv ⟨oc, od, osl, _, lk, rfl⟩ A outer s H vs Q p hot (hr.deeper _) hsp
  refine wpAny_mono (ht.run [] s1 (L2.start N vs) H _ (L2H.inv_startH S hpin e0 (len _ _ _ _ _ hsp) r x) hq) (fun fl s' hs => ?_) fun e s' hs => hs
  cases fl with
  | brk => obtain ⟨_, _, _, q⟩ := hs; exact False.elim q
  | cont => obtain ⟨_, _, _, q⟩ := hs; exact False.elim q
  | next =>
    obtain ⟨σ', H', J, q⟩ := hs
    exact ⟨.non, H', J.os, J.bare, J.base, J.hok, rfl, q⟩
  | ret u =>
    obtain ⟨v, σ', H', J, rv, q⟩ := hs
    exact ⟨v, H', J.os, J.bare, J.base, J.hok, rv, q⟩
end
section
variable [TF] {Pg : Program} {w : World} {K : Frag} {mg : Str → Option Value} {base : Heap}
/-- no exception comes -/
abbrev WK : WX := fun _ _ _ _ => False
/-- THE DEF, told an exception: its body's meaning -/
theorem fn_kOk {x qual : Str} {st : Stmt} {f : Addr} {fd : FuncData} {N ps : List Str} {k : Nat} (Fn' : Fun K x qual st f fd) (S : FnScope N ps (defScope st)) (P : List Nat) (bs : List Bool) {ι : Type} {g : ι → G Fl} (pre : Addr × Obj → ι → Prop) (hN : ps.length ≤ N.length) (hb : bs.length = ps.length) (hP : ∀ i : Nat, bs[i]? = some true → i ∈ P)
    (hbody : ∀ (cdv : Value) (hc : CodeAt K f cdv) (A : Around) (outer : List PySem.Env) (s : Shared) (H : Hp) (p : Addr × Obj) (i : ι), pre p i → L2H.Hot1 A p → L2H.RoomH k (A.deeper (PyProof.Rows.envOfC qual (defScope st) s.heap.objs.size f cdv)) → PSs (cxK Pg w K mg base N qual (defScope st) f cdv A outer s H p) (defBody st) (tS K mg WK P (g i))) :
    FnK Pg w K mg base (k + 1) f fd ps (fun p vs H Q E => ∃ i, pre p i ∧ SpOf K mg ps.length (fnOf N.length bs (g i)) vs H Q C8.E0) := by
  refine fn_k Fn' S (fun p vs H Q E h => ?_) fun cdv hc A outer s H vs Q p hot hr h => ?_
  · obtain ⟨_, _, _, _, _, e, _⟩ := h
    exact e
  · obtain ⟨i0, hpre, F, cs, fp, hl, sub, r, h⟩ := h
    refine ⟨_, hbody cdv hc A outer s H p i0 hpre hot hr, ?_⟩
    have hlc : cs.length = ps.length := by obtain ⟨_, _, r1, _⟩ := r; rw [← Rcs.length r1, hl]
    refine ⟨startE N.length cs, fp, F, ⟨sub, ?_⟩, ?_⟩
    · unfold startE L2.start
      rw [hl]
      have : N.length - ps.length = N.length - cs.length := by rw [hlc]
      exact re_startR r (by rw [List.length_replicate, hlc])
    · unfold fnOf at h
      have keep : ∀ {σ' : L2.St}, (∀ i ∈ P, σ'[i]? = (L2.start N vs)[i]?) → ∀ i : Nat, bs[i]? = some true → σ'[i]? = (vs.map some)[i]? := fun {σ'} k i hi => by
        rw [k i (hP i hi)]
        unfold L2.start
        have : i < (vs.map some).length := by
          rw [List.length_map, hl, ← hb]
          exact (List.getElem?_eq_some_iff.mp hi).1
        exact List.getElem?_append_left this
      cases q : g i0 (startE N.length cs) with
      | bad => rw [q] at h; exact h
      | ex x ρ' =>
        rw [q] at h
        simp only at h
        cases z : backs bs cs ρ' with
        | none => rw [z] at h; exact h.elim
        | some cs' =>
          rw [z] at h
          intro cls dd σ' F' H' fp' w' c' k' xr
          obtain ⟨fp2, r2, k2⟩ := backs_okR w'.re r c'.fz (keep k') z
          exact h cls dd F' H' fp2 w'.sub r2 (c'.to k2) xr
      | ok fl ρ' =>
        rw [q] at h
        cases fl with
        | brk => exact h.elim
        | cont => exact h.elim
        | next =>
          simp only at h
          cases z : backs bs cs ρ' with
          | none => rw [z] at h; exact h.elim
          | some cs' =>
            rw [z] at h
            intro σ' F' H' fp' w' c' k'
            obtain ⟨fp2, r2, k2⟩ := backs_okR w'.re r c'.fz (keep k') z
            exact h .non F' H' fp2 (fun _ => False) w'.sub r2 (Rc.of_dp .non) (fun _ z => z.elim) ((c'.to k2).or_false)
        | ret c =>
          simp only at h
          cases z : backs bs cs ρ' with
          | none => rw [z] at h; exact h.elim
          | some cs' =>
            rw [z] at h
            intro v σ' F' H' fp' fv w' rv d' c' k'
            obtain ⟨fp2, r2, k2⟩ := backs_okR w'.re r c'.fz (keep k') z
            exact h v F' H' fp2 fv w'.sub r2 rv (fun a u y => d' a u (k2 a y)) (c'.to fun a u => u.imp (k2 a) id)
end
end Nd

/-! Nd44: isinstance of the exception that is handled; a def called with it. -/
namespace Nd
open PySem PySem.Spec PyProof.Rows L2
section
variable [TF] {X : Cx} {mg : Str → Option Value} {W : WX}
open Classical in
/-- is the exception r of such a class -/
noncomputable def gIsE (i : Nat) (r : RfK) (b : Bool) : G C := fun ρ => match ρ[i]? with
  | some (some (.ref r')) => if r' = r then .ok (.val (.bool b)) ρ else .bad
  | _ => .bad
/-- isinstance(e, c), e the exception that is handled; its dict, if it has one, is known -/
theorem call_isP {r : RfK} {D : Addr} {oe : Obj} (hp : (r.a, oe) ∈ X.pn) (C : ExcC X.K D) (hz : Zc (.ref D) (r.x.map (·.1)) oe) (hf : ∃ vs, oe.data = .fields vs) : CallR X (.builtin "isinstance") (fun xs H Q => (∀ p, r.x = some p → H p.1 = some (.xd p.2)) ∧ rIsE X.K D r.a xs H Q) := by
  intro pins s σ H xs us Q I rr h
  obtain ⟨hx, c, cv, b, rfl, hcv, e, q⟩ := h
  cases rr with
  | cons rx rr =>
    cases rr with
    | cons rt rr =>
      cases rr
      cases rx
      obtain rfl := hcv _ rt
      obtain ⟨hget, _⟩ := I.pin (r.a, oe) (List.mem_append.mpr (.inl hp))
      obtain ⟨vs, hv⟩ := hf
      have J : ∃ od, PySem.W.InstAt s.heap r.a oe D od := by
        cases rk : r.x with
        | none =>
          refine ⟨none, hget, hz.1, by unfold PySem.W.notCls; rw [hv], ?_⟩
          have := hz.2
          rw [rk] at this
          rw [this]
          trivial
        | some p =>
          obtain ⟨mA, hns, hr⟩ : ObjOk X.prog X.w H s.heap p.1 (.xd p.2) := I.hok _ _ (hx p rk)
          obtain ⟨od, ho, hl⟩ := lookIn_ns hns
          refine ⟨some od, hget, hz.1, by unfold PySem.W.notCls; rw [hv], ?_⟩
          have := hz.2
          rw [rk] at this
          rw [this]
          exact ho
      obtain ⟨od, J⟩ := J
      have hcl : (PySem.W.clsIn X.K D).isSome = true := by
        obtain ⟨cd, h1, _⟩ := PySem.W.any_some C.hd
        rw [h1]; rfl
      exact PySem.W.kia_one (PySem.W.kitx_exc hcl C.hg C.hk C.hs C.ha C.hn C.ht C.hm) I.kIn J e (fun z => nomatch z) fun tk => ⟨.bl b, H, I.kept (t' := tk) fun _ _ z => z, rfl, q⟩
theorem e_isE (i : Nat) {r : RfK} {D : Addr} {oe : Obj} {x T : Str} {c : V} {cv : Value} {b : Bool} {p1 p2 p3 pos : Pos} (hp : (r.a, oe) ∈ X.pn) (C : ExcC X.K D) (hz : Zc (.ref D) (r.x.map (·.1)) oe) (hf : ∃ vs, oe.data = .fields vs) (hg : Gl X "isinstance") (hm : X.mg "isinstance" = none)
    (hT : PE X (.Name T p3) (tC c)) (hcv : ∀ u, RelV c u → u = cv) (hb : PySem.W.kitOne X.K (.ref D) cv = some b) (hN : X.N[i]? = some x := by rfl) (hv : Vis X.env.scope x := by first | exact Or.inl rfl | exact Or.inr (Or.inl rfl) | exact Or.inr (Or.inr rfl))
    (hd : (x == ("__debug__" : Str)) = false := by decide) (hcd : (x == ("__classdict__" : Str)) = false := by decide)
    (he : starEach [.Name x p2, .Name T p3] X.env = (false, eval (.Name x p2) X.env) :: starEach [.Name T p3] X.env := by rfl) (he2 : starEach [.Name T p3] X.env = (false, eval (.Name T p3) X.env) :: starEach [] X.env := by rfl) (hpl : (backTo pos (starEach [.Name T p3] X.env)).any (·.1) = false := by rfl) :
    PE X (.Call (.Name "isinstance" p1) [.Name x p2, .Name T p3] [] pos) (tE X.K mg W (gIsE i r b)) :=
  (pe_callB (call_isP hp C hz hf) hg hm PyProof.Rows.boot_isinstance (pa_cons (pe_var hN hv hd hcd) (pa_cons hT pa_nil he2) he) (he := he) (hpl := hpl)).imp fun σ H Q h => by
    obtain ⟨ρ, fp, F, w, h⟩ := h
    unfold gIsE at h
    rcases q : ρ[i]? with _ | _ | c0
    · simp only [q] at h
    · simp only [q] at h
    · cases c0 with
      | ref r' =>
        simp only [q] at h
        by_cases er : r' = r
        · rw [if_pos er] at h
          subst er
          obtain ⟨ov, f1, f2, q1, ⟨v, q2, q3⟩, _⟩ := w.re.focus q
          subst q2
          simp only [Rc] at q3
          obtain ⟨⟨rfl, hx⟩, _⟩ := q3
          exact ⟨.ref r'.a, q1, fun p ep => w.sub _ _ (hx p ep), c, cv, b, rfl, hcv, hb, h (.bl b) F H fp _ w (Rc.of_dp (.bl b)) (fun _ z => z.elim) Chg.refl.or_false⟩
        · rw [if_neg er] at h
          exact h.elim
      | val _ => simp only [q] at h
      | tup _ => simp only [q] at h
      | lst _ => simp only [q] at h
      | dic _ _ => simp only [q] at h
      | obj _ _ _ => simp only [q] at h
      | lam _ _ _ => simp only [q] at h
end
end Nd

/-! Nd45: zip of lists walked to its end where an exception is handled. -/
namespace HotZ
open PySem PySem.Spec PyProof.Rows HotX
section
variable {prog : Program} {w : World} {A : Around} {E : Value → Shared → Prop} {s : Shared}
theorem in1 {x1 : Addr} {h : Heap} (hot : HotAt A x1 h) : HotAt A.in1 x1 h := ⟨hot.1, hot.2⟩
theorem nextOf_list_end_hot {it l x1 : Addr} {i : Nat} {items : Array Value} {Q : Value → Shared → Prop} (hot : HotAt A x1 s.heap) (hxi : x1 ≠ it)
    (hit : s.heap.IsListIter it l i) (hl : s.heap.IsList l items) (hx : items[i]? = none)
    (hE : ∀ h' e, Heap.ExtBut it s.heap h' → (∃ o, h'.get? e = some o ∧ o.cls = .type "StopIteration") → E (.ref e) { s with heap := h' }) :
    wpAny (model prog w) A (Builtin.SmallTypes.nextOf (.ref it)) Q E s := by
  obtain ⟨hh, o1, vs1, h1, d1, c1⟩ := hot
  obtain ⟨o, ho, hc, hd⟩ := id hit
  obtain ⟨ol, hol, _, nl, hdl⟩ := hl
  unfold Builtin.SmallTypes.nextOf
  refine wpAny_bind (wpAny_callSpecial?_slot (name := Str.ofString "__next__") hit.typeIs slot_listiter_next
    (wpAny_call_entry slot_listiter_next hit.typeIs entry_listiter_next ?_ (args_listiter_next _)))
  show wpAny _ _ (field (.ref it) 0 >>= _) _ _ s
  refine wpAny_bind (wpAny_field ho hd (x := .ref l) rfl ?_)
  show wpAny _ _ (if (Value.ref l == Value.none) = true then _ else _) _ _ s
  rw [if_neg (show ¬ ((Value.ref l == Value.none) = true) from Bool.false_ne_true)]
  show wpAny _ _ (field (.ref it) 1 >>= _) _ _ s
  refine wpAny_bind (wpAny_field ho hd (x := .int i 0) rfl ?_)
  show wpAny _ _ (seqItems? (.ref l) >>= _) _ _ s
  refine wpAny_bind (wpAny_seqItems hol hdl ?_)
  simp only [Int.toNat_natCast, hx]
  refine wpAny_bind (wpAny_rule (wpAny_bind (wpAny_setField ho hd (by simp) ?_)))
  show wpAny _ _ (newExc (.type "StopIteration") [] >>= _) _ _ _
  refine wpAny_bind ?_
  simp only [newExc, newTuple]
  refine wpAny_bind (wpAny_newObj_type ?_ (by size_fits))
  refine wpAny_bind (m := firstArgMember _ _) (wpAny_of_eq (a := Value.none) (by first | rfl | (simp only [firstArgMember]; rfl)) ?_)
  refine wpAny_newObj_type ?_ (by size_fits)
  have up := (Heap.SameBut.update (h := s.heap) (a := it) (f := Obj.mapFields (·.setIfInBounds 0 .none))).extBut
  have g1 := Heap.get?_push_of_some { cls := .type "tuple", data := .seq ([] : List Value).toArray } (up x1 o1 hxi h1)
  refine raiseNew_hot ⟨hh, o1, vs1, Heap.get?_push_of_some _ g1, d1, c1⟩ (Nat.ne_of_lt (Heap.lt_size g1)) (Heap.get?_push_size _ rfl) rfl (by first | (simp; done) | (simp; omega) | (simp only [Array.size_append]; simp; omega)) ?_
  refine hE _ _ (fun b o hb e => ?_) ⟨_, Heap.get?_update_self _ (Heap.get?_push_size _ rfl) rfl, rfl⟩
  have g2 := Heap.get?_push_of_some { cls := .type "tuple", data := .seq ([] : List Value).toArray } (up b o hb e)
  rw [Heap.get?_update_other _ _ (Nat.ne_of_gt (Heap.lt_size g2))]
  exact Heap.get?_push_of_some _ g2
theorem HotAt.ext {x1 : Addr} {h h' : Heap} (hot : HotAt A x1 h) (k : ∀ o, h.get? x1 = some o → h'.get? x1 = some o) : HotAt A x1 h' := by
  obtain ⟨hh, o1, vs1, h1, d1, c1⟩ := hot
  exact ⟨hh, o1, vs1, k _ h1, d1, c1⟩
theorem zip_next_end_hot {z TI TO i1 i2 l1 l2 x1 : Addr} {k1 k2 : Nat} {xs ys : Array Value} {a b : Value} {Q : Fin → Shared → Prop} (hot : HotAt A x1 s.heap) (xz : x1 ≠ z) (xT : x1 ≠ TO) (x1i : x1 ≠ i1) (x2i : x1 ≠ i2) (D : ZipApart z TI TO i1 i2 l1 l2)
    (hz : IsZip s.heap z TI TO .none) (hTI : IsPair s.heap TI (.ref i1) (.ref i2)) (hTO : IsPair s.heap TO a b)
    (h1 : s.heap.IsListIter i1 l1 k1) (h2 : s.heap.IsListIter i2 l2 k2) (hl1 : s.heap.IsList l1 xs) (hl2 : s.heap.IsList l2 ys) (hend : xs[k1]? = none ∨ ys[k2]? = none)
    (hE : ∀ h' e, (∀ c o, c ≠ z → c ≠ TO → c ≠ i1 → c ≠ i2 → s.heap.get? c = some o → h'.get? c = some o) → (∃ o, h'.get? e = some o ∧ o.cls = .type "StopIteration") → E (.ref e) { s with heap := h' }) :
    wpAny (model prog w) A (Builtin.«zip.__next__» ⟨[.ref z], []⟩) Q E s := by
  show wpAny _ _ (field (.ref z) 2 >>= _) _ _ _
  refine wpAny_bind (wpAny_field hz rfl (x := .bool false) rfl ?_)
  show wpAny _ _ (field (.ref z) 3 >>= _) _ _ _
  refine wpAny_bind (wpAny_field hz rfl (x := .ref TI) rfl ?_)
  refine wpAny_bind (wpAny_seqItems hTI rfl ?_)
  show wpAny _ _ (Builtin.SmallTypes.ownedTupleIsFree (.ref z) >>= _) _ _ _
  refine wpAny_bind ?_
  unfold Builtin.SmallTypes.ownedTupleIsFree
  refine wpAny_bind (wpAny_field hz rfl (x := .none) rfl (wpAny_pure ?_))
  simp only [if_true]
  refine wpAny_bind (wpAny_rule ?_)
  refine wpAny_bind (wpAny_field hz rfl (x := .ref TO) rfl ?_)
  refine wpAny_bind (wpAny_setField_rec hz (by simp) fun h₁ hz₁ hs₁ => ?_)
  replace hz₁ : IsZip h₁ z TI TO .ellipsis := hz₁
  have hot₁ := HotAt.ext (h' := h₁) hot fun o e => hs₁.extBut _ _ xz e
  refine wpAny_bind ?_
  simp only [List.zipIdx_cons, List.zipIdx_nil, List.forIn_cons, List.forIn_nil]
  refine wpAny_bind (wpAny_bind (wpAny_onRaise ?_))
  show wpAny _ _ (Builtin.SmallTypes.nextOf (.ref i1) >>= _) _ _ _
  cases hx : xs[k1]? with
  | none =>
    refine wpAny_bind (nextOf_list_end_hot hot₁ x1i (h1.extBut hs₁.extBut D.i1z) (hl1.extBut hs₁.extBut D.l1z) hx fun h₂ e hs₂ he => ?_)
    obtain ⟨oe, hoe, hce⟩ := he
    have hz₂ : IsZip h₂ z TI TO .ellipsis := hs₂ _ _ D.i1z.symm hz₁
    have hez : e ≠ z := fun x => by subst x; rw [hz₂] at hoe; cases hoe; simp at hce
    refine wpAny_setField_rec hz₂ (by simp) fun h₃ _ hs₃ => hE h₃ e (fun c o c1 _ c3 _ x => hs₃.extBut _ _ c1 (hs₂ _ _ c3 (hs₁.extBut _ _ c1 x))) ⟨oe, hs₃.extBut _ _ hez hoe, hce⟩
  | some x =>
    have hy : ys[k2]? = none := by rcases hend with h | h; rw [hx] at h; cases h; exact h
    refine wpAny_bind (wpAny_nextOf_list_item (h1.extBut hs₁.extBut D.i1z) (hl1.extBut hs₁.extBut D.l1z) hx fun h₂ h1₂ hs₂ => wpAny_pure ?_)
    have hTO₂ : IsPair h₂ TO a b := hs₂.extBut _ _ D.TOi1 (hs₁.extBut _ _ D.TOz hTO)
    refine wpAny_bind (wpAny_seqItems hTO₂ rfl ?_)
    refine wpAny_bind (wpAny_updateSeq_pair hTO₂ fun h₃ hTO₃ hs₃ => ?_)
    refine wpAny_bind (wpAny_letGo (wpAny_pure ?_))
    refine wpAny_bind (wpAny_bind (wpAny_onRaise ?_))
    show wpAny _ _ (Builtin.SmallTypes.nextOf (.ref i2) >>= _) _ _ _
    have hot₃ := HotAt.ext (h' := h₃) hot₁ fun o e => hs₃.extBut _ _ xT (hs₂.extBut _ _ x1i e)
    refine wpAny_bind (nextOf_list_end_hot hot₃ x2i (((h2.extBut hs₁.extBut D.i2z).extBut hs₂.extBut D.i12.symm).extBut hs₃.extBut D.TOi2.symm)
      (((hl2.extBut hs₁.extBut D.l2z).extBut hs₂.extBut D.l2i1).extBut hs₃.extBut D.l2TO) hy fun h₄ e hs₄ he => ?_)
    obtain ⟨oe, hoe, hce⟩ := he
    have hz₄ : IsZip h₄ z TI TO .ellipsis := hs₄ _ _ D.i2z.symm (hs₃.extBut _ _ D.TOz.symm (hs₂.extBut _ _ D.i1z.symm hz₁))
    have hez : e ≠ z := fun x => by subst x; rw [hz₄] at hoe; cases hoe; simp at hce
    refine wpAny_setField_rec hz₄ (by simp) fun h₅ _ hs₅ => hE h₅ e (fun c o c1 c2 c3 c4 x => hs₅.extBut _ _ c1 (hs₄ _ _ c4 (hs₃.extBut _ _ c2 (hs₂.extBut _ _ c3 (hs₁.extBut _ _ c1 x))))) ⟨oe, hs₅.extBut _ _ hez hoe, hce⟩
theorem pyNext_zip_end_hot {z TI TO i1 i2 l1 l2 x1 : Addr} {k1 k2 : Nat} {xs ys : Array Value} {a b : Value} {Q : Option Value → Shared → Prop} (hot : HotAt A x1 s.heap) (xz : x1 ≠ z) (xT : x1 ≠ TO) (x1i : x1 ≠ i1) (x2i : x1 ≠ i2) (D : ZipApart z TI TO i1 i2 l1 l2)
    (hz : IsZip s.heap z TI TO .none) (hTI : IsPair s.heap TI (.ref i1) (.ref i2)) (hTO : IsPair s.heap TO a b)
    (h1 : s.heap.IsListIter i1 l1 k1) (h2 : s.heap.IsListIter i2 l2 k2) (hl1 : s.heap.IsList l1 xs) (hl2 : s.heap.IsList l2 ys) (hend : xs[k1]? = none ∨ ys[k2]? = none)
    (hQ : ∀ h', (∀ c o, c ≠ z → c ≠ TO → c ≠ i1 → c ≠ i2 → s.heap.get? c = some o → h'.get? c = some o) → Q none { s with heap := h' }) : wpAny (model prog w) A (pyNext (.ref z)) Q E s := by
  have hT : s.TypeIs (.ref z) "zip" := ⟨_, hz, rfl⟩
  unfold pyNext
  refine wpAny_bind (wpAny_attempt (wpAny_callSpecial?_slot (name := Str.ofString "__next__") hT F.slot_zip_next
    (wpAny_call_entry F.slot_zip_next hT F.entry_zip_next (zip_next_end_hot (in1 hot) xz xT x1i x2i D hz hTI hTO h1 h2 hl1 hl2 hend fun h' e hk he => ?_) (F.args_zip_next_1 _))))
  obtain ⟨o, ho, hc⟩ := he
  refine wpAny_bind (wpAny_isInstance (T := "StopIteration") (b := true) ⟨o, ho, hc⟩ isSubtype_stop ?_)
  exact wpAny_pure (hQ _ hk)
end
end HotZ

/-! Nd46: [x for .. in zip(a, b) if c] where an exception is handled. -/
namespace Nd
open PySem PySem.Spec PyProof.Rows L2 L2H
/-- the block's context: it bears the pinned exception -/
abbrev blkH (X : Cx) (s : Shared) (H : Hp) (scope : Scope) (cenv : PySem.Env) (fp : List Addr) : Cx := (X.blk s H scope cenv fp).tr X.pn (fun _ _ => False)
section
variable {X : Cx} {pins : List (Addr × Obj)} {σ : L2.St} {H : Hp} {s : Shared}
/-- other pins, another wish -/
theorem okTr {pn : List (Addr × Obj)} {xe : Value → Shared → Prop} (o : X.Ok) : (X.tr pn xe).Ok := ⟨o.mod, o.kind, o.glob, o.blt, o.above, o.inj, o.has, o.cab, o.hd, o.frames, o.stk, o.exf, o.bs, o.bsz, o.noex, o.exfs, o.funs, o.frf⟩
theorem invTr {pn : List (Addr × Obj)} {xe : Value → Shared → Prop} (I : Inv X pins σ H s) (hp : ∀ p ∈ pn, s.heap.get? p.1 = some p.2 ∧ H p.1 = none ∧ p.1 ≠ X.env.locals ∧ p.1 ∉ X.fs ∧ ∀ v, p.2.data ≠ .cell v) : Inv (X.tr pn xe) pins σ H s :=
  ⟨okTr I.ok, I.os, I.bare, I.base, I.loc, I.cell, I.free, I.freeC, fun p hm => (List.mem_append.mp hm).elim (hp p) fun m => I.pin p (List.mem_append_right _ m), I.hok, I.len⟩
end
theorem turn_zipH {P : Program} {w : World} {K : Frag} {elts : List Expr} {kk : Nat} {tpos : Pos} {a b z TI TO i1 i2 : Addr} (D : ZipApart z TI TO i1 i2 a b) :
    TurnH P w K (.Tuple elts kk tpos) (Itz K a b) [z, TI, TO, i1, i2] z (fun i h => IsZip h z TI TO .none ∧ IsPair h TI (.ref i1) (.ref i2) ∧ (∃ x y, IsPair h TO x y) ∧ h.IsListIter i1 a i ∧ h.IsListIter i2 b i) where
  mem := by simp
  obj := (turn_zip (P := P) (w := w) (K := K) (elts := elts) (kk := kk) (tpos := tpos) D).obj
  keep := (turn_zip (P := P) (w := w) (K := K) (elts := elts) (kk := kk) (tpos := tpos) D).keep
  item := by
    intro X hP hw hK hc i pins s σ H E I hf st hg
    subst hP hw hK
    obtain ⟨hz, hTI, ⟨x0, y0, hTO⟩, h1, h2⟩ := st
    obtain ⟨xs, ys, x, y, hqx, hqy, hx, hy⟩ := hg
    obtain ⟨its, rv, p, _⟩ := I.list hqx
    obtain ⟨its2, rv2, p2, _⟩ := I.list hqy
    obtain ⟨u, hu, ru⟩ := rv.get hx
    obtain ⟨u2, hu2, ru2⟩ := rv2.get hy
    have hzl : z < s.heap.objs.size := Heap.lt_size hz
    refine wpAny_pyNext_zip_item D hz hTI hTO h1 h2 p.isList p2.isList (x := u) (y := u2) (by simpa using hu) (by simpa using hu2) fun h' z' TO' h1' h2' hT hsz hk => ?_
    refine ⟨_, rfl, wpAny_letOwnedTupleGo_zip (s := { s with heap := h' }) z' fun h'' z'' sb => ?_⟩
    have hT2 : h''.get? s.heap.objs.size = some { cls := .type "tuple", data := .seq #[u, u2] } := (sb.2 _ (Nat.ne_of_gt hzl)).trans hT
    have new : ObjOk X.prog X.w (upd H s.heap.objs.size (.tup [x, y])) h'' s.heap.objs.size (.tup [x, y]) :=
      ⟨by show 2 ≤ sizeLine; decide, [u, u2], .cons ru (.cons ru2 .nil), ⟨_, hT2, rfl, _, rfl⟩⟩
    have I1 : Inv X pins σ (upd H s.heap.objs.size (.tup [x, y])) { s with heap := h'' } :=
      I.turnedNew (t' := s.toks) (ch := [z, TI, TO, i1, i2]) (fun c o hb q => (sb.2 c (fun q' => hb (by simp [q']))).trans (hk c o (fun q' => hb (by simp [q'])) (fun q' => hb (by simp [q'])) (fun q' => hb (by simp [q'])) (fun q' => hb (by simp [q'])) q)) hf (Nat.le_refl _) new
    refine ⟨.ref s.heap.objs.size, _, I1, rfl, ⟨_, x, y, rfl, I.hok.fresh (Nat.le_refl _), rfl, fun l hl => by rw [I.list_inj hl hqx]; exact hx, fun l hl => by rw [I.list_inj hl hqy]; exact hy⟩, ⟨z'', ?_, ⟨u, u2, ?_⟩, ?_, ?_⟩, fun c hcm => ?_⟩
    · exact (sb.2 _ D.TIz).trans (hk _ _ D.TIz D.TITO D.TIi1 D.TIi2 hTI)
    · exact (sb.2 _ D.TOz).trans TO'
    · exact h1'.at fun o q => (sb.2 _ D.i1z).trans q
    · exact h2'.at fun o q => (sb.2 _ D.i2z).trans q
    · have hlt : c < s.heap.objs.size := by
        have e' : c = z ∨ c = TI ∨ c = TO ∨ c = i1 ∨ c = i2 := by simpa using hcm
        rcases e' with q | q | q | q | q
        · rw [q]; exact hzl
        · rw [q]; exact Heap.lt_size hTI
        · rw [q]; exact Heap.lt_size hTO
        · rw [q]; obtain ⟨_, e1, _⟩ := h1; exact Heap.lt_size e1
        · rw [q]; obtain ⟨_, e2, _⟩ := h2; exact Heap.lt_size e2
      rw [upd_ne (Nat.ne_of_lt hlt)]
      exact (hf c hcm).1
  done := by
    intro X hP hw hK hc i pins s σ H E I hf st hg
    subst hP hw hK
    obtain ⟨hz, hTI, ⟨x0, y0, hTO⟩, h1, h2⟩ := st
    obtain ⟨xs, ys, hqx, hqy, hend⟩ := hg
    obtain ⟨its, rv, p, _⟩ := I.list hqx
    obtain ⟨its2, rv2, p2, _⟩ := I.list hqy
    have l1 := rv.length
    have l2 := rv2.length
    have he : its.toArray[i]? = none ∨ its2.toArray[i]? = none := by
      rcases hend with q | q
      · exact .inl (by simp; omega)
      · exact .inr (by simp; omega)
    obtain ⟨p0, ⟨hh, v1, e1, c1⟩, hp⟩ := hc
    have hot : HotX.HotAt X.A p0.1 s.heap := ⟨hh, p0.2, v1, (I.pin p0 (List.mem_append_left _ hp)).1, e1, c1⟩
    have ne : ∀ c ∈ [z, TI, TO, i1, i2], p0.1 ≠ c := fun c hcm => (hf c hcm).2.2.2.2.2 p0 (List.mem_append_left _ hp)
    exact HotZ.pyNext_zip_end_hot hot (ne _ (by simp)) (ne _ (by simp)) (ne _ (by simp)) (ne _ (by simp)) D hz hTI hTO h1 h2 p.isList p2.isList he fun h' hk => ⟨rfl, I.turnedL (t' := s.toks) (ch := [z, TI, TO, i1, i2]) (fun c o hb q =>
      hk c o (fun q' => hb (by simp [q'])) (fun q' => hb (by simp [q'])) (fun q' => hb (by simp [q'])) (fun q' => hb (by simp [q'])) q) hf⟩
  self := fun A i s Q E st h => wpAny_pyIter_zip st.1 h
theorem pi_zipH {X : Cx} {e e2 : Expr} {ta : TA} {p pos tpos : Pos} {elts : List Expr} {kk : Nat} (hg : Gl X "zip") (hm : X.mg "zip" = none) (ha : PA X [e, e2] ta)
    (hs : starEach [e, e2] X.env = (false, eval e X.env) :: starEach [e2] X.env := by rfl) (hpl : (backTo pos (starEach [e2] X.env)).any (·.1) = false := by rfl) :
    PIH X (.Tuple elts kk tpos) (.Call (.Name "zip" p) [e, e2] [] pos) (iZip X.K ta) := by
  refine ⟨fun pins s σ H R I h => ?_⟩
  refine Call_ (ld_blt I hg hm PyProof.Rows.boot_zip (PyProof.Rows.callWith_type1 (thn (ha.run pos pins s σ H _ I h) fun us s1 ⟨vs, H1, I1, r1, q1⟩ => ?_) hs hpl))
  obtain ⟨a, b, xs, ys, ex, hqx, hqy, q⟩ := q1
  subst ex
  cases r1 with
  | cons r rr =>
    cases rr with
    | cons r' rr =>
      cases rr
      cases r
      cases r'
      obtain ⟨its, rv, p1, _⟩ := I1.list hqx
      obtain ⟨its2, rv2, p2, _⟩ := I1.list hqy
      have la : a < s1.heap.objs.size := p1.lt
      have lb : b < s1.heap.objs.size := p2.lt
      refine call_zip_2 p1.isList p2.isList fun h' hz hTI hTO h1 h2 hsz hk => wpAny_pyIter_zip hz ?_
      have I2 : Inv X pins σ H1 { s1 with heap := h' } := I1.kept (t' := s1.toks) hk
      refine ⟨s1.heap.objs.size + 4, [s1.heap.objs.size + 4, s1.heap.objs.size + 2, s1.heap.objs.size + 3, s1.heap.objs.size, s1.heap.objs.size + 1], _, _, H1, rfl, I2, turn_zipH (PySem.W.ktu_apart s1.heap.objs.size a b la lb), ⟨hz, hTI, ⟨_, _, hTO⟩, h1, h2⟩, fun c hcm => ?_, q⟩
      have e' : c = s1.heap.objs.size + 4 ∨ c = s1.heap.objs.size + 2 ∨ c = s1.heap.objs.size + 3 ∨ c = s1.heap.objs.size ∨ c = s1.heap.objs.size + 1 := by simpa using hcm
      have hle : s1.heap.objs.size ≤ c := by
        rcases e' with z | z | z | z | z
        · rw [z]; exact Nat.le_add_right _ _
        · rw [z]; exact Nat.le_add_right _ _
        · rw [z]; exact Nat.le_add_right _ _
        · rw [z]; exact Nat.le_refl _
        · rw [z]; exact Nat.le_add_right _ _
      exact I1.fpOk hle (I1.hok.fresh hle)

section
variable {X : Cx}

theorem lc_coreH {pins : List (Addr × Obj)} {s : Shared} {σ : L2.St} {H : Hp} {Q : VK} {elt tg iter : Expr} {ifs : List Expr} {scope : Scope} {own : List (Str × Nat)} {pos pos' : Pos} {wi : TI} {g : TG} {tt : TT} {te : TE} {use : Option (Value → Sem Unit)} {Qf : Value → Shared → Prop}
    (hc : HotC X) (hN : X.N.Nodup) (I : Inv X pins σ H s) (hi : PIH X tg iter wi) (ok : BlkOk X.N X.env.scope scope own)
    (hg : ∀ (s : Shared) (H : Hp) (C : Addr) (cl : List (Str × Addr)) (fp : List Addr), PG (blkH X s H scope (compEnvC scope cl C X.env) fp) tg g) (ht : ∀ (s : Shared) (H : Hp) (C : Addr) (cl : List (Str × Addr)) (fp : List Addr), PTs (blkH X s H scope (compEnvC scope cl C X.env) fp) ifs tt)
    (he : ∀ (s : Shared) (H : Hp) (C : Addr) (cl : List (Str × Addr)) (fp : List Addr), PE (blkH X s H scope (compEnvC scope cl C X.env) fp) elt te) (hs : ∀ x, foldedSetIterable iter X.env x = pure x)
    (h : tLc wi g tt te (own.map (·.2)) σ H Q)
    (hRR : ∀ D C s' m H', Inv X pins σ H' s' → Q (.ref D) H' → s'.heap.Ns C m → FpOk X pins H' C → compPost (model X.prog X.w) X.A X.xe use Qf (.ref D) C (.ok .next) s') :
    wpAny (model X.prog X.w) X.A (comprehension (.ListComp elt [⟨tg, iter, ifs, 0⟩] scope pos) scope X.env pos' (newList []) false (eval iter X.env) use) Qf X.xe s := by
  have hfree : ∀ y ∈ scope.names, y.2 = .free → ∃ c, X.env.cells.lookup y.1 = some c := fun y hy e => by
    rcases ok.free y hy e with k | k
    · exact I.ok.has _ (.inl k)
    · exact I.ok.has _ (.inr k)
  refine wpAny_comprehension_free (use := use) rfl hs (closure_ok hfree) ok.kind (fun y hy e => by rw [ok.uniq y hy, e])
    (thn (hi.run pins s σ H _ I h) fun xv s1 hx => thn hx fun itv s2 h2 => ?_)
  obtain ⟨it, fp, tn, J, H2, e, I2, T, st2, f2, q⟩ := h2
  subst e
  refine wpAny_newObj_type (newEnv_comp ?_) (by show 0 ≤ sizeLine; decide)
  generalize hD : s2.heap.objs.size = D
  have hDn : H2 D = none := I2.hok.fresh (Nat.le_of_eq hD)
  obtain ⟨W, ⟨m0, w0⟩, turn⟩ := q D hDn
  -- the new list
  generalize hs3 : ({ s2 with heap := s2.heap.push { cls := .type "list", data := .seq ([] : List Value).toArray } } : Shared) = s3
  have I3 : Inv X pins σ (upd H2 D (.lst [])) s3 := by
    rw [← hs3]
    refine I2.laid (t' := s2.toks) (fun b o e => Heap.get?_push_of_some _ e) (Nat.le_of_eq hD) ⟨Nat.zero_le _, [], 0, .nil, ?_⟩
    rw [← hD]
    exact Heap.get?_push_size _ rfl
  have h3 : s3.heap = s2.heap.push { cls := .type "list", data := .seq ([] : List Value).toArray } := by rw [← hs3]
  have sz : ∀ b ∈ fp, b < s2.heap.objs.size := fun b hb => by
    obtain ⟨o, e, _⟩ := T.obj _ _ st2 b hb
    exact Heap.lt_size e
  have f3 : ∀ b ∈ fp, FpOk X pins (upd H2 D (.lst [])) b ∧ b < s3.heap.objs.size := fun b hb => by
    have hlt := sz b hb
    refine ⟨⟨?_, (f2 b hb).2⟩, by rw [h3, Heap.size_push]; exact Nat.lt_succ_of_lt hlt⟩
    rw [upd_ne (by rw [← hD]; exact Nat.ne_of_lt hlt)]
    exact (f2 b hb).1
  have st3 : tn 0 s3.heap := T.keep _ _ _ st2 fun b _ o e => by rw [h3]; exact Heap.get?_push_of_some _ e
  have I4 := block_start I3 ok hN f3
  have hpn : ∀ p ∈ X.pn, p.1 < s3.heap.objs.size := fun p hp => Heap.lt_size (I3.pin p (List.mem_append_left _ hp)).1
  have I4 := invTr (pn := X.pn) (xe := fun _ _ => False) I4 fun p hp => by
    have P1 := I3.pin p (List.mem_append_left _ hp)
    exact ⟨pushCells_keeps _ _ _ _ (Heap.get?_push_of_some _ P1.1), P1.2.1, Nat.ne_of_lt (hpn p hp), fun hm => (List.mem_cons.mp (I3.stkSub p.1 hm)).elim P1.2.2.1 P1.2.2.2.1, P1.2.2.2.2⟩
  have hcb : ∀ ce : PySem.Env, HotC (blkH X s3 (upd H2 D (.lst [])) scope ce fp) := fun _ => hc
  have fpn : ∀ b ∈ fp, ∀ p ∈ X.pn, p.1 ≠ b := fun b hb p hp => (f3 b hb).1.2.2.2.2.2 p (List.mem_append_left _ hp)
  have pg := hg s3 (upd H2 D (.lst [])) s3.heap.objs.size (cellsFrom (s3.heap.objs.size + 1) scope.names (cloFrom X.env.cells scope.names [])) fp
  have pt := ht s3 (upd H2 D (.lst [])) s3.heap.objs.size (cellsFrom (s3.heap.objs.size + 1) scope.names (cloFrom X.env.cells scope.names [])) fp
  have pe := he s3 (upd H2 D (.lst [])) s3.heap.objs.size (cellsFrom (s3.heap.objs.size + 1) scope.names (cloFrom X.env.cells scope.names [])) fp
  show codeAny _ _ (.compStart (.ListComp elt [⟨tg, iter, ifs, 0⟩] scope pos) 0 (.ref it) (.ref D) (compEnvC scope (cellsFrom (s3.heap.objs.size + 1) scope.names (cloFrom X.env.cells scope.names [])) s3.heap.objs.size X.env)) (compPost (model X.prog X.w) X.A X.xe use Qf (.ref D) s3.heap.objs.size) { s3 with heap := pushCells (s3.heap.push { cls := .type "dict", data := .dict #[] }) scope.names }
  have nfp : ∀ b ∈ fp, (upd H2 D (.lst [])) b = none := fun b hb => (f3 b hb).1.1
  generalize hce : compEnvC scope (cellsFrom (s3.heap.objs.size + 1) scope.names (cloFrom X.env.cells scope.names [])) s3.heap.objs.size X.env = ce at I4 pg pt pe ⊢
  have cL : ce.locals = s3.heap.objs.size := by subst hce; rfl
  generalize hH3 : upd H2 D (.lst []) = H3 at I3 I4 pg pt pe w0 nfp f3 hcb
  generalize hs4 : ({ s3 with heap := pushCells (s3.heap.push { cls := .type "dict", data := .dict #[] }) scope.names } : Shared) = s4 at I4 ⊢
  have st4 : tn 0 s4.heap := T.keep _ _ _ st3 fun b _ o e => by rw [← hs4]; exact pushCells_keeps _ _ _ _ (Heap.get?_push_of_some _ e)
  have stat : ∀ {σ' : L2.St} {H' : Hp} {s' : Shared}, Inv (blkH X s3 H3 scope ce fp) [] σ' H' s' → (∀ b ∈ fp, H' b = none) → ∀ b ∈ fp, FpOk (blkH X s3 H3 scope ce fp) [] H' b := fun {σ' H' s'} I' hn b hb =>
    ⟨hn b hb, (I'.ok.exf b hb).1, I'.ok.exfs b hb, .inl hb, fun x c e => (I'.ok.exf b hb).2 x c e, fun p hp => fpn b hb p (by simpa using hp)⟩
  have loop : codeAny (model X.prog X.w) X.A (.compLoop (.ListComp elt [⟨tg, iter, ifs, 0⟩] scope pos) 0 (.ref it) (.ref D) ce) (compPost (model X.prog X.w) X.A X.xe use Qf (.ref D) s3.heap.objs.size) s4 := by
    refine compLoop_any (fun n s' => ∃ i H', Inv (blkH X s3 H3 scope ce fp) [] (wipe σ (own.map (·.2))) H' s' ∧ tn i s'.heap ∧ (∀ b ∈ fp, H' b = none) ∧ W i n H') ?_ m0 ⟨0, H3, I4, st4, nfp, w0⟩
    rintro n s5 ⟨i, H5, I5, st5, n5, w5⟩
    rcases turn i n H5 w5 with ⟨stop, qq⟩ | ⟨go, Nx, hNx, step⟩
    · have td := T.done (blkH X s3 H3 scope ce fp) rfl rfl rfl (show HotC (blkH X s3 H3 scope ce fp) from hc) i [] s5 _ H5 (fun _ _ => False) I5 (stat I5 n5) st5 stop
      refine thnF td fun r s6 ⟨hr, I6⟩ => ?_
      subst hr
      -- back in the def's context
      have I7 : Inv X pins σ H5 s6 := I3.call' (ch := fp) I6.os I6.base I6.hok I6.bare fun b hb => ⟨(f3 b hb).1.2.2.2.1, (f3 b hb).1.2.1, (f3 b hb).1.2.2.2.2.1, (f3 b hb).1.2.2.2.2.2⟩
      have nC : H5 s3.heap.objs.size = none := by
        have z : H5 ce.locals = none := I6.free
        rw [cL] at z
        exact z
      obtain ⟨m, hn, _⟩ := I6.loc
      have hn : s6.heap.Ns ce.locals m := hn
      rw [cL] at hn
      exact hRR D s3.heap.objs.size s6 m H5 I7 qq hn (I3.fpOk (Nat.le_refl _) nC)
    · have ti := T.item (blkH X s3 H3 scope ce fp) rfl rfl rfl (show HotC (blkH X s3 H3 scope ce fp) from hc) i [] s5 _ H5 (fun _ _ => False) I5 (stat I5 n5) st5 go
      refine thnF ti fun r s6 ⟨u, hr, h6⟩ => ?_
      subst hr
      refine thnF h6 fun _ s7 ⟨x, H7, I7, r7, y7, st7, n7⟩ => ?_
      have I7' := I7.pinned (stat I7 n7) (T.obj _ _ st7)
      refine thnF (pg.run _ s7 _ H7 x u _ I7' r7 (step x H7 y7)) fun _ s8 ⟨σ8, H8, I8, hw8, q8⟩ => ?_
      refine thnF (pt.run _ s8 σ8 H8 _ I8 q8) fun b s9 ⟨H9, I9, q9⟩ => ?_
      -- the turn's end
      have fin : ∀ {s' : Shared} {H' : Hp}, Inv (blkH X s3 H3 scope ce fp) ([] ++ pinsAt fp s7.heap) σ8 H' s' → Nx H' → ∃ m, m < n ∧ ∃ i H', Inv (blkH X s3 H3 scope ce fp) [] (wipe σ (own.map (·.2))) H' s' ∧ tn i s'.heap ∧ (∀ b ∈ fp, H' b = none) ∧ W i m H' := fun {s' H'} I' nx => by
        obtain ⟨m', hm, w'⟩ := hNx H' nx
        have pin' : ∀ b ∈ fp, ∀ o, s7.heap.get? b = some o → s'.heap.get? b = some o ∧ H' b = none := fun b hb o e =>
          let z := I'.pin (b, o) (List.mem_append_right _ (List.mem_append_right _ (mem_pinsAt hb e)))
          ⟨z.1, z.2.1⟩
        have hl : (wipe σ (own.map (·.2))).length = σ8.length := by rw [← hw8, wipe_length]
        refine ⟨m', hm, i + 1, H', (I'.unpinned (pins := [])).weak hl (fun j v e => ?_), T.keep _ _ _ st7 fun b hb o e => (pin' b hb o e).1, fun b hb => ?_, w'⟩
        · rw [← hw8] at e
          exact (wipe_some e).1
        · obtain ⟨o, e, _⟩ := T.obj _ _ st7 b hb
          exact (pin' b hb o e).2
      cases b with
      | false =>
        simp only [Bool.false_eq_true, if_false] at q9 ⊢
        exact fin I9 q9
      | true =>
        simp only [if_true] at q9 ⊢
        refine thnF (pe.run _ s9 σ8 H9 _ I9 q9) fun z s10 ⟨yv, H10, I10, r10, acc, hD10, hz10, nx⟩ => ?_
        exact app_ok (X := blkH X s3 H3 scope ce fp) I10 hD10 hz10 r10 fun s11 I11 => fin I11 nx
  exact codeAny_compStart_list loop (T.self X.A 0 _ _ _ st4 loop)

theorem pe_lcH {elt tg iter : Expr} {ifs : List Expr} {scope : Scope} {own : List (Str × Nat)} {pos : Pos} {wi : TI} {g : TG} {tt : TT} {te : TE} (hc : HotC X) (hN : X.N.Nodup) (hi : PIH X tg iter wi) (ok : BlkOk X.N X.env.scope scope own)
    (hg : ∀ (s : Shared) (H : Hp) (C : Addr) (cl : List (Str × Addr)) (fp : List Addr), PG (blkH X s H scope (compEnvC scope cl C X.env) fp) tg g) (ht : ∀ (s : Shared) (H : Hp) (C : Addr) (cl : List (Str × Addr)) (fp : List Addr), PTs (blkH X s H scope (compEnvC scope cl C X.env) fp) ifs tt)
    (he : ∀ (s : Shared) (H : Hp) (C : Addr) (cl : List (Str × Addr)) (fp : List Addr), PE (blkH X s H scope (compEnvC scope cl C X.env) fp) elt te) (hs : ∀ x, foldedSetIterable iter X.env x = pure x := by intro _; rfl) :
    PE X (.ListComp elt [⟨tg, iter, ifs, 0⟩] scope pos) (tLc wi g tt te (own.map (·.2))) := by
  refine ⟨fun pins s σ H Q I h => ?_⟩
  rw [eval_ListComp]
  refine lc_coreH hc hN I hi ok hg ht he hs h fun D C s' m H' I' q hn f => ⟨m, hn, fun h'' sb => ?_⟩
  obtain ⟨f0, f1, f2, f3, f4, f5⟩ := f
  exact ⟨.ref D, H', I'.turned (t' := s'.toks) (fun b o hb e => (sb.2 b hb).trans e) f0 f1 f3 f4 f5, rfl, q⟩
end
def zipIL : Option PyData → Option PyData → Option (List PyData)
  | some (.list xs), some (.list ys) => if szOk (zipP xs ys) = true then some (zipP xs ys) else none
  | _, _ => none
def gZipL (ga gb : G Op) : G Itm := G.bind ga fun a => G.bind gb fun b => fun ρ => match zipIL (opD ρ a) (opD ρ b) with
  | some ds => .ok ⟨ds, none⟩ ρ
  | none => .bad
section
variable [TF] {X : Cx} {mg : Str → Option Value} {W : WX}
theorem i_zipH {e e2 : Expr} {p pos tpos : Pos} {elts : List Expr} {kk : Nat} {ga gb : G Op} (hg : Gl X "zip") (hm : X.mg "zip" = none) (ha : PE X e (tO X.K mg W ga)) (hb : PE X e2 (tO X.K mg W gb))
    (hs : starEach [e, e2] X.env = (false, eval e X.env) :: starEach [e2] X.env := by rfl) (hs2 : starEach [e2] X.env = (false, eval e2 X.env) :: starEach [] X.env := by rfl) (hpl : (backTo pos (starEach [e2] X.env)).any (·.1) = false := by rfl) :
    PIH X (.Tuple elts kk tpos) (.Call (.Name "zip" p) [e, e2] [] pos) (tI X.K mg W true (gZipL ga gb)) := by
  refine ⟨fun pins s σ H Rr I h => ?_⟩
  refine (pi_zipH hg hm (pa_cons ha (pa_cons hb pa_nil hs2) hs) hs hpl).run pins s σ H Rr I ?_
  obtain ⟨ρ, fp, F, w, h⟩ := h
  unfold gZipL G.bind at h
  refine oRun w Chg.refl ?_
  cases q : ga ρ with
  | bad => rw [q] at h; exact h.elim
  | ex x ρ' => rw [q] at h; exact h
  | ok a ρ1 =>
    rw [q] at h
    simp only [R.bind_ok] at h
    intro v F1 H1 fp1 w1 r1 s1 c1
    refine oRun w1 c1 ?_
    cases q2 : gb ρ1 with
    | bad => rw [q2] at h; exact h.elim
    | ex x ρ' => rw [q2] at h; exact h
    | ok b ρ2 =>
      rw [q2] at h
      simp only [R.bind_ok] at h
      intro u F2 H2 fp2 w2 r2 s2 c2
      cases z : zipIL (opD ρ2 a) (opD ρ2 b) with
      | none => rw [z] at h; exact h.elim
      | some ds =>
        rw [z] at h
        unfold zipIL at z
        split at z
        · rename_i xs ys ex ey
          split at z
          · rename_i hl
            cases z
            obtain ⟨a1, vs, rfl, t1, p1⟩ := (opD_dq w2 (r1.mono s2) ex).list_inv
            obtain ⟨a2, us, rfl, t2, p2⟩ := (opD_dq w2 r2 ey).list_inv
            exact ⟨a1, a2, vs, us, rfl, w2.sub.seq t1, w2.sub.seq t2, h _ 0 F2 H2 fp2 w2 c2 trivial trivial (itOk_zipL t1 p1 t2 p2) (of_decide_eq_true hl)⟩
          · cases z
        · cases z
theorem e_compH {elt tg iter : Expr} {ifs : List Expr} {scope : Scope} {own : List (Str × Nat)} {pos : Pos} {gi : G Itm} {p : Pat} {gt : G Bool} {ge : G Op} (hc : HotC X) (hN : X.N.Nodup) (hi : PIH X tg iter (tI X.K mg W p.isTu gi)) (ok : BlkOk X.N X.env.scope scope own)
    (hg : ∀ (s : Shared) (H : Hp) (C : Addr) (cl : List (Str × Addr)) (fp : List Addr), PG (blkH X s H scope (compEnvC scope cl C X.env) fp) tg (tGd X.K mg p)) (ht : ∀ (s : Shared) (H : Hp) (C : Addr) (cl : List (Str × Addr)) (fp : List Addr), PTs (blkH X s H scope (compEnvC scope cl C X.env) fp) ifs (tT X.K mg W0 gt))
    (he : ∀ (s : Shared) (H : Hp) (C : Addr) (cl : List (Str × Addr)) (fp : List Addr), PE (blkH X s H scope (compEnvC scope cl C X.env) fp) elt (tO X.K mg W0 ge)) (hvs : ∀ j, j ∈ p.slots → j ∈ own.map (·.2)) (hsrc : ∀ ρ it ρ', gi ρ = .ok it ρ' → srcOut it.src (own.map (·.2)))
    (hs : ∀ x, foldedSetIterable iter X.env x = pure x := by intro _; rfl) :
    PE X (.ListComp elt [⟨tg, iter, ifs, 0⟩] scope pos) (tE X.K mg W (gComp gi p (own.map (·.2)) gt ge)) := (pe_lcH hc hN hi ok hg ht he hs).imp fun _ _ _ => gComp_ok hvs hsrc
end
end Nd

/-! Nd47: a door tried: a lambda called within a try, what is refused told by a def. -/
namespace Nd
open PySem PySem.Spec PyProof.Rows L2 L2H
section
variable {X : Cx} {k : Nat} {f : Addr} {fd : FuncData} {ps : List Str} {sp : Addr × Obj → Sp} {x : Str} {q pos : Pos} {e : Expr} {es : List Expr} {t : TA}
theorem run_fnK {pins : List (Addr × Obj)} {σ : L2.St} {H : Hp} {s : Shared} {Q : VK} {us : List Value} {vs : List V} (F : FnK X.prog X.w X.K X.mg X.base k f fd ps sp) (hr : RoomH k X.A) {p : Addr × Obj} (hot : Hot1 X.A p) (hp : p ∈ X.pn) (hb : Binds X.K fd ps [])
    (I : Inv X pins σ H s) (r : Vals vs us) (h : sp p vs H Q C8.E0) : wpAny (model X.prog X.w) X.A (call (.ref f) us) (EP X pins σ Q) X.xe s := by
  have n1 : us.length = ps.length := by rw [← r.length]; exact F.len _ _ _ _ _ h
  have bi := hb s us I.kIn (by rw [List.append_nil]; exact n1)
  rw [List.append_nil] at bi
  obtain ⟨p1, p2, p3, p4, p5⟩ := I.pin p (List.mem_append_left _ hp)
  have pin : PinOk X.stack H s p := ⟨p1, p2, fun m => (List.mem_cons.mp (I.stkSub p.1 m)).elim p3 p4, p5⟩
  refine wpAny_call (codeAny_mono (F.run X.A X.stack s H ⟨us, []⟩ us vs Q p hr hot pin I.env0 bi r h) fun r1 s1 z => ?_)
  cases r1 with
  | error _ => exact (show False from z).elim
  | ok fl =>
    cases fl with
    | ret u => exact I.after z
    | next => exact (show False from z).elim
    | brk => exact (show False from z).elim
    | cont => exact (show False from z).elim
theorem pe_callK {p : Addr × Obj} (F : FnK X.prog X.w X.K X.mg X.base k f fd ps sp) (hr : RoomH k X.A) (hot : Hot1 X.A p) (hp : p ∈ X.pn) (hg : Gl X x) (hm : X.mg x = some (.ref f)) (hk : PySem.W.keepIn X.K (.ref f) = true) (hb : Binds X.K fd ps []) (ha : PA X (e :: es) t)
    (hdb : (x == ("__debug__" : Str)) = false := by decide) (he : starEach (e :: es) X.env = (false, eval e X.env) :: starEach es X.env := by rfl) (hpl : (backTo pos (starEach es X.env)).any (·.1) = false := by rfl) :
    PE X (.Call (.Name x q) (e :: es) [] pos) (fun σ H Q => t σ H fun vs H1 => sp p vs H1 Q C8.E0) := by
  refine ⟨fun pins s σ H Q I h => wpAny_Call_Name_kw (ld_glob I hg hm ?_ hdb)⟩
  exact PySem.W.callWith_K (h₀ := X.base) I.ok.mod.kin hk (thn (ha.run pos pins s σ H _ I h) fun us s1 ⟨vs, H1, I1, r, z⟩ => ⟨I1.kIn, run_fnK F hr hot hp hb I1 r z⟩) he hpl
end
/-! ### a lambda called by the def that got it -/
section
variable [TF] {X : Cx} {pins : List (Addr × Obj)} {σ : L2.St} {H : Hp} {s : Shared}
/-- the context of a lambda's body; what it raises is known to have no context -/
abbrev lamN (X : Cx) (A : Around) (outer : List PySem.Env) (s : Shared) (H : Hp) (E : XK) (scope : Scope) (f c' : Addr) : Cx :=
  (LamX.lamCx X A outer s H E scope f c').tr [] fun e s' => wpAny (model X.prog X.w) (A.deeper (LamX.lamEnv X scope s.heap.objs.size f c')) (leaving (LamX.lamEnv X scope s.heap.objs.size f c') e) (fun _ s'' => L2N.CX X.prog X.w outer H s E e s'') (fun e' s'' => L2N.CX X.prog X.w outer H s E e' s'') s'
theorem pe_actN {CXg : CXT} {Eg : XK} {Ng : List Str} {qg : Str} {sg : Scope} {g f c' : Addr} {cdg : Value} {params : Arguments} {body : Expr} {scope : Scope} {k i : Nat} {a : Str} {pn : List (Addr × Obj)} {xe : Value → Shared → Prop} {W : WX} {tb : XK → TE} {p1 p2 : Pos}
    (I : Inv X pins σ H s) (L : LamX.LamS X.env.scope scope) (hbind : ∀ pm ctv : Value, bindArgs (PySem.W.kla_fn "<lambda>" (X.env.qual ++ "<lambda>") params body scope (cloFrom X.env.cells scope.names []) pm (.ref c') ctv) ⟨[], []⟩ = pure [])
    (tk : L2N.Takes ((cxOf CXg X.prog X.w X.K X.mg X.base Ng qg sg g cdg X.A X.stack s H Eg).tr pn xe) W) (hr : Room (k + 1) (X.A.deeper (envOfC qg sg s.heap.objs.size g cdg)))
    (hbody : ∀ (A : Around) (outer : List PySem.Env) (s : Shared) (H : Hp) (E : XK), Room k (A.deeper (LamX.lamEnv X scope s.heap.objs.size f c')) → PE (lamN X A outer s H E scope f c') body (tb E))
    (hN : Ng[i]? = some a) (hv : Vis sg a) (hd : (a == ("__debug__" : Str)) = false) (hcd : (a == ("__classdict__" : Str)) = false) :
    PE ((cxOf CXg X.prog X.w X.K X.mg X.base Ng qg sg g cdg X.A X.stack s H Eg).tr pn xe) (.Call (.Name a p1) [] [] p2)
      (fun σZ HZ Q => σZ[i]? = some (some (.ref f)) ∧ HZ f = some (LamO (X.env.qual ++ "<lambda>") params body scope X.env.cells f c') ∧ HZ c' = some (LamX.CodeO c' (X.env.qual ++ "<lambda>")) ∧ tb (fun cls d H => W cls d σZ H) σ HZ Q) := by
  refine ⟨fun pinsZ sZ σZ HZ Q IZ ⟨z1, z2, z3, z4⟩ => ?_⟩
  refine wpAny_Call_Name_kw (thn ((pe_var (pos := p1) (i := i) hN hv hd hcd).run pinsZ sZ σZ HZ (fun v H1 => v = .ref f ∧ H1 = HZ) IZ ⟨.ref f, z1, rfl, rfl⟩) fun u s1 ⟨v, H1, I1, r1, e1, e2⟩ => ?_)
  subst e1
  subst e2
  have eu : u = Value.ref f := r1
  subst eu
  obtain ⟨pm, ctv, gf⟩ := lamO_get I1.hok z2
  obtain ⟨⟨oc, vs, t, g1, g2, g3⟩, _, _⟩ := I1.hok c' _ z3
  refine PySem.W.callWith_F0 ⟨_, _, _, _, gf⟩ ?_
  have un : Un (frs X.stack) [] H H1 s.heap s1.heap := I1.base
  have run : codeAny (model X.prog X.w) (X.A.deeper (envOfC qg sg s.heap.objs.size g cdg)) (.call (.ref f) ⟨[], []⟩) (CR (L2N.CX X.prog X.w) (envOfC qg sg s.heap.objs.size g cdg :: X.stack) X.prog X.w H1 s1 Q fun cls d H => W cls d σZ H) s1 := by
    refine PySem.W.kla_callFunE hr.depth gf rfl L.co L.gen rfl ⟨c', oc, vs, t, rfl, g1, g2, g3⟩ ?_
    rw [hbind]
    refine wpAny_pure (wpAny_newFunctionEnv (fun y hy => (L.own y hy).2) (fun y hy => absurd hy (by simp)) (fun h1 n1 n2 => ⟨I1.nolimit.fresh _ n2, ?_⟩) L.kind)
    have keep : ∀ b o, s1.heap.get? b = some o → h1.get? b = some o := fun b o e => n2.extBut b o (Nat.ne_of_lt (Heap.lt_size e)) (Heap.get?_push_of_some _ e)
    have J := LamX.lam_start2 (E := fun cls d H => W cls d σZ H) (c' := c') (f := f) (tk := s1.toks + ([] : List (Str × Value)).length) I L I1.env0 hr.hd un n1 keep
    have J2 := invTr (pn := []) (xe := fun e s' => wpAny (model X.prog X.w) ((X.A.deeper (envOfC qg sg s.heap.objs.size g cdg)).deeper (LamX.lamEnv X scope s1.heap.objs.size f c')) (leaving (LamX.lamEnv X scope s1.heap.objs.size f c') e) (fun _ s'' => L2N.CX X.prog X.w (envOfC qg sg s.heap.objs.size g cdg :: X.stack) H1 s1 (fun cls d H => W cls d σZ H) e s'') (fun e' s'' => L2N.CX X.prog X.w (envOfC qg sg s.heap.objs.size g cdg :: X.stack) H1 s1 (fun cls d H => W cls d σZ H) e' s'') s') J (fun p m => absurd m (by simp))
    show codeAny _ _ (.expr body (LamX.lamEnv X scope s1.heap.objs.size f c')) _ _
    refine PySem.W.kla_codeExpr (wpAny_mono ((hbody _ _ s1 H1 _ (hr.deeper _)).run [] _ _ H1 Q J2 z4) (fun v s' ⟨w1, H2, J3, rv, qq⟩ => ?_) fun _ _ z => z)
    exact ⟨w1, H2, J3.os, J3.bare, J3.base, J3.hok, rv, qq⟩
  refine wpAny_call (codeAny_mono run fun r s' z => ?_)
  cases r with
  | error e => exact L2N.passAt tk σZ pinsZ H1 s1 e s' I1 z
  | ok fl =>
    cases fl with
    | ret u => exact I1.after z
    | next => exact (show False from z).elim
    | brk => exact (show False from z).elim
    | cont => exact (show False from z).elim
end
/-! ### what is refused -/
def exNames : List Str := ["NoMove", "TooMany", "NoHand", "NoLetter", "NothingLeft", "NoNet", "NoName", "Taken", "Last", "Same", "Tied", "NotTied", "NoWeight", "NoState", "NoDeeds", "NoText", "NoRow"]
def Xc.nm : Xc → Str
  | .plain nm => nm
  | .fld nm _ _ => nm
def Xc.dt : Xc → Option Addr → Option (Addr × List (Str × V))
  | .plain _, _ => none
  | .fld _ f i, some a => some (a, [(f, .int i)])
  | .fld _ _ _, none => none
/-- the exception that a def is told: its class by name, its dict -/
def PreK (mg : Str → Option Value) (p : Addr × Obj) (i : RfK × Str) : Prop := p.1 = i.1.a ∧ i.2 ∈ exNames ∧ ∃ D, mg i.2 = some (.ref D) ∧ Zc (.ref D) (i.1.x.map (·.1)) p.2 ∧ ∃ vs, p.2.data = .fields vs
/-- the def that tells what an exception is -/
structure KinAt [TF] (Pg : Program) (w : World) (K : Frag) (mg : Str → Option Value) (base : Heap) (x : Str) (k : Nat) (fnk : RfK → Str → Fn) : Prop where
  ex : ∃ f fd ps, FnK Pg w K mg base k f fd ps (fun p vs H Q E => ∃ i : RfK × Str, PreK mg p i ∧ SpOf K mg 1 (fnk i.1 i.2) vs H Q C8.E0) ∧ mg x = some (.ref f) ∧ PySem.W.keepIn K (.ref f) = true ∧ Binds K fd ps []
  told : ∀ r nm, nm ∈ exNames → ∃ cs, fnk r nm [.ref r] = .ok (.val (.str (nm ++ "+"))) cs
/-- all refusals are of the class at CP -/
structure ExFacts (K : Frag) (mg : Str → Option Value) (CP : Addr) : Prop where
  pe : mg "PairError" = some (.ref CP)
  cls : ∀ nm ∈ exNames, ∃ D, mg nm = some (.ref D) ∧ PySem.W.exmOne K (.ref D) (.ref CP) = some true
open Classical in
noncomputable def gTry (gl : G C) : G C := fun ρ => match gTup [gC (.str "told"), gl] ρ with
  | .ok c ρ' => .ok c ρ'
  | .ex x ρ' => if x.nm ∈ exNames then .ok (.val (.str (x.nm ++ "+"))) ρ' else .bad
  | .bad => .bad
/-- the text of the def that tries a door -/
def TryText (st : Stmt) : Prop := ∃ j1 j2 x1 p1 p2 p3 p4 p5 p6 p7 p8 p9 p10 p11 p12 p13 p14 p15 p16 p17 p18 p19, defBody st = [.Assign [.Name "_law_found" p1] (.Constant .none j1 p2) p3,
  .Try [.Assign [.Name "_law_found" p4] (.Tuple [.Constant (.str "told") j2 p5, .Call (.Name "_law_door" p6) [] [] p7] x1 p8) p9] [.ExceptHandler (some (.Name "PairError" p10)) (some "_law_e") [.Assign [.Name "_law_found" p11] (.Call (.Name "_law_kin" p12) [.Name "_law_e" p13] [] p14) p15] p16] [] [] p17,
  .Return (some (.Name "_law_found" p18)) p19]
structure TryScope (st : Stmt) : Prop where
  sc : FnScope ["_law_door", "_law_found", "_law_e"] ["_law_door"] (defScope st)
  tx : TryText st
  l0 : (defScope st).names.lookup ("_law_door" : Str) = some .local
  l1 : (defScope st).names.lookup ("_law_found" : Str) = some .local
  l2 : (defScope st).names.lookup ("_law_e" : Str) = some .local
  g1 : (defScope st).names.lookup ("PairError" : Str) = some .globalImplicit
  g2 : (defScope st).names.lookup ("_law_kin" : Str) = some .globalImplicit
/-- a lambda of the def, its body's meaning -/
structure LamB [TF] (X : Cx) (k : Nat) (params : Arguments) (body : Expr) (scope : Scope) (gl : G C) : Prop where
  L : LamX.LamS X.env.scope scope
  bind : ∀ c pm ctv : Value, bindArgs (PySem.W.kla_fn "<lambda>" (X.env.qual ++ "<lambda>") params body scope (cloFrom X.env.cells scope.names []) pm c ctv) ⟨[], []⟩ = pure []
  body : ∀ (A : Around) (outer : List PySem.Env) (s : Shared) (H : Hp) (E : XK) (f c' : Addr), Room k (A.deeper (LamX.lamEnv X scope s.heap.objs.size f c')) → PE (lamN X A outer s H E scope f c') body (tE X.K X.mg (WDef E) gl)
section
variable [TF] {X : Cx} {pins : List (Addr × Obj)} {σ : L2.St} {F H : Hp} {s : Shared}
theorem two_ok {K : Frag} {mg : Str → Option Value} {W : WX} {gl : G C} {d : PyData} {v0 : V} {Q : List V → Hp → Prop} (hd : ∀ F, Dq K F v0 d) (h : tEs K mg W (gEs [gC d, gl]) σ H Q) : tE K mg W gl σ H fun v H1 => Q [v0, v] H1 := by
  obtain ⟨ρ, fp, F, w, h⟩ := h
  refine ⟨ρ, fp, F, w, ?_⟩
  simp only [gEs, G.bind, gC, G.ret, R.bind_ok] at h
  cases q : gl ρ with
  | bad => rw [q] at h; exact h
  | ex x ρ' => rw [q] at h; exact h
  | ok c ρ' =>
    rw [q] at h
    simp only [R.bind_ok] at h
    intro v F1 H1 fp1 fv w1 r dj ch
    refine h [v0, v] F1 H1 fp1 fv w1 ?_ dj ch
    simp only [Rcs]
    refine ⟨v0, [v], fun _ => False, fv, rfl, Rc.of_dp (hd F1), ⟨v, [], fv, fun _ => False, rfl, r, ⟨rfl, fun _ z => z⟩, fun _ _ z => z, fun a => by simp⟩, fun _ z => z.elim, fun a => by simp⟩
/-- THE DOOR TRIED -/
theorem try_core {st : Stmt} {params : Arguments} {body : Expr} {scope : Scope} {W0 : WX} {gl : G C} {Q : VK} {g f c' CP : Addr} {fd : FuncData} {kk k : Nat} {fnk : RfK → Str → Fn} (S : TryScope st) (Fn' : Fun X.K "_law_try" "_law_try" st g fd) (hb : Binds X.K fd ["_law_door"] [])
    (kin : KinAt X.prog X.w X.K X.mg X.base "_law_kin" kk fnk) (ex : ExFacts X.K X.mg CP) (LB : LamB X k params body scope gl) (hr : Room (k + 2) X.A) (hrk : Room (kk + 1) X.A)
    (I : Inv X pins σ H s) (hfo : H f = some (LamO (X.env.qual ++ "<lambda>") params body scope X.env.cells f c')) (hco : H c' = some (LamX.CodeO c' (X.env.qual ++ "<lambda>")))
    (h : tE X.K X.mg W0 (gTry gl) σ H Q) : codeAny (model X.prog X.w) X.A (.call (.ref g) ⟨[.ref f], []⟩) (CR C8.CX0 X.stack X.prog X.w H s Q C8.E0) s := by
  obtain ⟨oc, od, kV, doc, pm, an, cdv, ct, osl, e, lk, hcd⟩ := Fn'.ex
  subst e
  obtain ⟨fk, fdk, psk, FK, mk, kk', bk⟩ := kin.ex
  obtain ⟨j1, j2, x1, p1, p2, p3, p4, p5, p6, p7, p8, p9, p10, p11, p12, p13, p14, p15, p16, p17, p18, p19, tx⟩ := S.tx
  refine LamX.run_ofS (N := ["_law_door", "_law_found", "_law_e"]) (ps := ["_law_door"]) (us := [.ref f]) (vs := [.ref f]) lk hcd S.sc hr I.env0 (hb s [.ref f] I.kIn rfl) (.cons rfl .nil) rfl fun hr' => ?_
  rw [tx]
  have hq0 : ((L2.start ["_law_door", "_law_found", "_law_e"] [V.ref f]).set 1 (some .non)) = [some (.ref f), some .non, none] := rfl
  refine ⟨_, pss_cons (ps_set (i := 1) S.sc.nd rfl (.inl S.l1) pe_non) (pss_cons (L2N.ps_try_as (c := .ref CP) (i := 2)
      (tb := fun W D σ1 H1 => σ1[0]? = some (some (.ref f)) ∧ H1 f = some (LamO (X.env.qual ++ "<lambda>") params body scope X.env.cells f c') ∧ H1 c' = some (LamX.CodeO c' (X.env.qual ++ "<lambda>")) ∧ tE X.K X.mg (WDef fun cls d H => W cls d σ1 H) gl σ H1 fun v H2 => [V.str "told", v].length ≤ sizeLine ∧ NewT [V.str "told", v] H2 fun v H3 => D.nx (σ1.set 1 (some v)) H3)
      (ts := fun a cls d D σ1 H1 => σ1[2]? = some (some (.ref a)) ∧ ∃ i : RfK × Str, i.1.a = a ∧ i.2 ∈ exNames ∧ (∃ D0, X.mg i.2 = some (.ref D0) ∧ cls = .ref D0 ∧ d = i.1.x.map (·.1)) ∧ SpOf X.K X.mg 1 (fnk i.1 i.2) [.ref a] H1 (fun v H2 => D.nx (σ1.set 1 (some v)) H2) C8.E0)
      rfl rfl S.sc.nd rfl S.l2 ⟨S.g1, by decide, .inl ex.pe⟩ takes0N (fun W pn xe tk _ => ?_) (fun a oe cls d pn hz hf => ?_)) (pss_one (ps_ret (pe_var (i := 1) rfl (.inl S.l1))))), ?_⟩
  · apply PSs.imp
    · exact pss_one (ps_set (i := 1) S.sc.nd rfl (.inl S.l1) (pe_tupN (pa_cons pe_str (pa_cons (pe_actN (k := k) (i := 0) I LB.L (fun pm ctv => LB.bind _ pm ctv) tk hr' (fun A outer s H E => LB.body A outer s H E f c') rfl (.inl S.l0) (by decide) (by decide)) pa_nil))))
    · exact fun D σ1 H1 h1 => ⟨h1.1, h1.2.1, h1.2.2.1, h1.2.2.2⟩
  · obtain ⟨vs, hv⟩ := hf
    have rk := (hrk.deeper (envOfC "_law_try" (defScope st) s.heap.objs.size g cdv))
    apply PSs.imp
    · exact pss_one (ps_set (i := 1) S.sc.nd rfl (.inl S.l1) (pe_callK (p := (a, oe)) FK ⟨rk.dp, rk.un⟩ ⟨rfl, vs, hv, hz.2.2 vs hv⟩ List.mem_cons_self S.g2 mk kk' bk (pa_cons (pe_var (i := 2) rfl (.inl S.l2)) pa_nil)))
    · exact fun D σ1 H1 ⟨e2, i, ea, em, ⟨D0, ed1, ed2, ed3⟩, sp⟩ => ⟨.ref a, e2, i, ⟨ea.symm, em, D0, ed1, by rw [← ed2, ← ed3]; exact hz.zc, vs, hv⟩, sp⟩
  · refine ⟨rfl, hfo, hco, two_ok (d := .str "told") (fun F => Dq.str (by decide +kernel)) (gTup_ok (gs := [gC (.str "told"), gl]) (show (2 : Nat) ≤ 1000 by decide) ?_)⟩
    obtain ⟨ρ, fp, F, w, hm⟩ := h
    refine ⟨ρ, fp, F, w, ?_⟩
    unfold gTry at hm
    cases q : gTup [gC (.str "told"), gl] ρ with
    | bad => rw [q] at hm; exact hm
    | ok c ρ' =>
      rw [q] at hm
      exact fun v F' H' fp' fv w' r dj ch => ⟨v, rfl, hm v F' H' fp' fv w' r dj ch⟩
    | ex x ρ' =>
      rw [q] at hm
      simp only at hm
      by_cases hmem : x.nm ∈ exNames
      · rw [if_pos hmem] at hm
        intro cls dd F' H' fp' w' ch xr
        obtain ⟨D0, d1, d2⟩ := ex.cls x.nm hmem
        have ed : cls = .ref D0 ∧ dd = (x.dt dd).map (·.1) ∧ ∀ p, x.dt dd = some p → F' p.1 = some (.xd p.2) := by
          cases x with
          | plain nm =>
            obtain ⟨e1, e2⟩ := xr
            rw [show X.mg nm = some (.ref D0) from d1] at e1
            exact ⟨(Option.some.inj e1).symm, e2, fun p z => nomatch z⟩
          | fld nm f0 i =>
            obtain ⟨e1, a0, e2, e3⟩ := xr
            rw [show X.mg nm = some (.ref D0) from d1] at e1
            subst e2
            refine ⟨(Option.some.inj e1).symm, rfl, fun p z => ?_⟩
            cases z
            exact e3
        obtain ⟨ed1, ed2, ed3⟩ := ed
        refine ⟨true, by rw [ed1]; exact d2, fun _ a na => ⟨rfl, (⟨a, x.dt dd⟩, x.nm), rfl, hmem, ⟨D0, d1, ed1, ed2⟩, ?_⟩, fun z => nomatch z⟩
        obtain ⟨cs, ec⟩ := kin.told ⟨a, x.dt dd⟩ x.nm hmem
        obtain ⟨f1, f2, re0, tb, dj, cv⟩ := w'.re
        refine ⟨F', [.ref ⟨a, x.dt dd⟩], f2, rfl, w'.sub, ⟨fun _ => False, f2, ?_, tb, fun _ z => z.elim, fun a => by simp⟩, ?_⟩
        · simp only [Rcs, Rc]
          exact ⟨.ref a, [], fun _ => False, fun _ => False, rfl, ⟨⟨rfl, ed3⟩, fun _ z => z⟩, ⟨rfl, fun _ z => z⟩, fun _ z => z.elim, fun _ => by simp⟩
        · simp only
          rw [ec]
          intro v F3 H3 fp3 fv3 s3 r3 rv dj3 ch3
          simp only [Rc] at rv
          have ev := rv.1.str_inv.1
          subst ev
          obtain ⟨g1, g2, _, tb3, dj4, cv4⟩ := r3
          obtain ⟨k1, k2⟩ := ch3.aside (fv := f1) (fun a z => (Re0.own re0 a z).2) dj
          refine ⟨_, rfl, hm (.str (x.nm ++ "+")) F3 H3 (fun a => f1 a ∨ g2 a) (fun _ => False) ⟨s3, f1, g2, re0.frame ch3.fz k1, tb3, fun a z y => k2 a z (.inl ((cv4 a).mpr (.inr y))), fun a => Iff.rfl⟩ (Rc.of_dp (Dq.str rv.1.str_inv.2)) (fun _ z => z.elim) ?_⟩
          refine ch.trans ⟨ch3.fz, fun a o n e => ch3.kp a o (fun z => n ((cv a).mpr (.inr z))) e, fun a n e => ch3.fn a (fun z => n ((cv a).mpr (.inr z))) e, fun a z => ?_⟩
          rcases z with (z | z) | z
          · exact .inl ((cv a).mpr (.inl z))
          · exact (ch3.nw a (.inl ((cv4 a).mpr (.inr z)))).imp (fun y => (cv a).mpr (.inr y)) id
          · exact z.elim
      · rw [if_neg hmem] at hm
        exact hm.elim
/-- _law_try(lambda: ..) -/
theorem e_tryL {st : Stmt} {params : Arguments} {body : Expr} {scope : Scope} {W : WX} {gl : G C} {CP : Addr} {kk k : Nat} {fnk : RfK → Str → Fn} {p lpos pos : Pos} (S : TryScope st) (DT : DefAt X.K X.mg "_law_try" st ["_law_door"])
    (kin : KinAt X.prog X.w X.K X.mg X.base "_law_kin" kk fnk) (ex : ExFacts X.K X.mg CP) (LA : LamAt X.K X.mg X.base X.env.code (X.env.qual ++ "<lambda>")) (hg : Gl X "_law_try") (hr : Room (k + 2) X.A) (hrk : Room (kk + 1) X.A)
    (hfrB : frB X.env.scope scope = true) (LB : LamB X k params body scope gl) (hdef : defaultsOf params X.env = ([], []) := by rfl) :
    PE X (.Call (.Name "_law_try" p) [.Lambda params body scope lpos] [] pos) (tE X.K X.mg W (gTry gl)) := by
  refine ⟨fun pins s σ H Q I h => ?_⟩
  obtain ⟨g, fd, Fn', hm, hk, hb⟩ := DT.ex
  obtain ⟨ρ, fp, F, w, h⟩ := h
  obtain ⟨c, P, ecode, TB, hmem, huq⟩ := LA.ex
  have hfr := frB_ok hfrB
  obtain ⟨f1, f2, re0, tb, dj, cv⟩ := w.re
  refine wpAny_Call_Name_kw (ld_glob I hg hm ?_ (by decide))
  refine PySem.W.callWith_K (h₀ := X.base) I.ok.mod.kin hk ?_ (by rfl) (by rfl)
  show wpAny _ _ (spliced ((false, eval (.Lambda params body scope lpos) X.env) :: backTo pos (starEach [] X.env))) _ _ s
  refine Calls.spliced_cons (lam_new I w.sub tb TB ecode hmem huq hdef (fun y hy e => ?_) fun f c' pm ctv F2 H2 s2 I2 z1 z2 tb2 z3 z4 of2 hfo hcF => ?_)
  · rcases hfr y hy e with q | q
    · exact I.ok.has _ (.inl q)
    · exact I.ok.has _ (.inr q)
  · refine Calls.spliced_nil ⟨I2.kIn, ?_⟩
    have ch2 : Chg fp F H fp F2 H2 := ⟨z1, fun b ob n e => z3 b ob (fun u => n ((cv b).mpr (.inr u))) e, fun b _ n => z4 b n, fun b u => .inl u⟩
    have w2 : Wd X.K X.mg F2 H2 ρ fp σ := ⟨z2, f1, f2, re0.frame z1 (fun b u => by
      obtain ⟨_, ob, eb⟩ := re0.own b u
      exact ⟨(z3 b ob (dj b u) eb).trans eb.symm, z4 b (by rw [eb]; simp)⟩), tb2, dj, cv⟩
    have rc := try_core (W0 := W) (Q := Q) S Fn' hb kin ex LB hr hrk I2 (z2 _ _ hfo) (z2 _ _ hcF) ⟨ρ, fp, F2, w2, by
      cases q : gTry gl ρ with
      | bad => rw [q] at h; exact h
      | ex x ρ' => rw [q] at h; exact exPost.of ch2 h
      | ok c ρ' =>
        rw [q] at h
        exact fun v F' H' fp' fv w' r d c => h v F' H' fp' fv w' r d (ch2.trans c)⟩
    refine wpAny_call (codeAny_mono rc fun r s3 z => ?_)
    cases r with
    | error e => exact (show False from z).elim
    | ok fl =>
      cases fl with
      | ret u => exact I2.after z
      | next => exact (show False from z).elim
      | brk => exact (show False from z).elim
      | cont => exact (show False from z).elim
end
end Nd

/-! Nd48: the classes of refusals asked one by one; an item of a thing just made grows. -/
namespace Nd
open PySem PySem.Spec PyProof.Rows L2 L2H
/-- what isinstance answers of the refusals -/
structure ExKin (K : Frag) (mg : Str → Option Value) : Prop where
  at_ : ∀ nm ∈ exNames, ∃ D, mg nm = some (.ref D) ∧ L2.ExcC K D ∧ (∀ T ∈ exNames, ∃ D', mg T = some (.ref D') ∧ PySem.W.kitOne K (.ref D) (.ref D') = some (decide (nm = T))) ∧ PySem.W.kitOne K (.ref D) (.type "ValueError") = some true
section
variable [TF] {X : Cx} {mg : Str → Option Value} {W : WX}
theorem e_isX (i : Nat) {ri : RfK × Str} {p : Addr × Obj} {x T : Str} {p1 p2 p3 pos : Pos} (ek : ExKin X.K X.mg) (hp : p ∈ X.pn) (pre : PreK X.mg p ri) (hg : Gl X "isinstance") (hm : X.mg "isinstance" = none) (hT : T ∈ exNames) (hgT : Gl X T) (hN : X.N[i]? = some x := by rfl)
    (hv : Vis X.env.scope x := by first | exact Or.inl rfl | exact Or.inr (Or.inl rfl) | exact Or.inr (Or.inr rfl))
    (hd : (x == ("__debug__" : Str)) = false := by decide) (hcd : (x == ("__classdict__" : Str)) = false := by decide) (hdT : (T == ("__debug__" : Str)) = false := by decide)
    (he : starEach [.Name x p2, .Name T p3] X.env = (false, eval (.Name x p2) X.env) :: starEach [.Name T p3] X.env := by rfl) (he2 : starEach [.Name T p3] X.env = (false, eval (.Name T p3) X.env) :: starEach [] X.env := by rfl) (hpl : (backTo pos (starEach [.Name T p3] X.env)).any (·.1) = false := by rfl) :
    PE X (.Call (.Name "isinstance" p1) [.Name x p2, .Name T p3] [] pos) (tE X.K mg W (gIsE i ri.1 (decide (ri.2 = T)))) := by
  obtain ⟨ea, em, D, hD, hz, hf⟩ := pre
  obtain ⟨D1, h1, h2, h3, _⟩ := ek.at_ ri.2 em
  rw [hD] at h1
  cases h1
  obtain ⟨D', h4, h5⟩ := h3 T hT
  exact e_isE i (c := .ref D') (cv := .ref D') (oe := p.2) (by rw [← ea]; exact hp) h2 hz hf hg hm (pe_glob hgT h4 rfl hdT) (fun u r => r) h5 hN hv hd hcd he he2 hpl
theorem e_isVE (i : Nat) {ri : RfK × Str} {p : Addr × Obj} {x : Str} {p1 p2 p3 pos : Pos} (ek : ExKin X.K X.mg) (hp : p ∈ X.pn) (pre : PreK X.mg p ri) (hg : Gl X "isinstance") (hm : X.mg "isinstance" = none) (hgT : Gl X "ValueError") (hmT : X.mg "ValueError" = none) (hN : X.N[i]? = some x := by rfl)
    (hv : Vis X.env.scope x := by first | exact Or.inl rfl | exact Or.inr (Or.inl rfl) | exact Or.inr (Or.inr rfl))
    (hd : (x == ("__debug__" : Str)) = false := by decide) (hcd : (x == ("__classdict__" : Str)) = false := by decide)
    (he : starEach [.Name x p2, .Name "ValueError" p3] X.env = (false, eval (.Name x p2) X.env) :: starEach [.Name "ValueError" p3] X.env := by rfl) (he2 : starEach [.Name "ValueError" p3] X.env = (false, eval (.Name "ValueError" p3) X.env) :: starEach [] X.env := by rfl) (hpl : (backTo pos (starEach [.Name "ValueError" p3] X.env)).any (·.1) = false := by rfl) :
    PE X (.Call (.Name "isinstance" p1) [.Name x p2, .Name "ValueError" p3] [] pos) (tE X.K mg W (gIsE i ri.1 true)) := by
  obtain ⟨ea, em, D, hD, hz, hf⟩ := pre
  obtain ⟨D1, h1, h2, _, h3⟩ := ek.at_ ri.2 em
  rw [hD] at h1
  cases h1
  exact e_isE i (c := .ty "ValueError") (cv := .type "ValueError") (oe := p.2) (by rw [← ea]; exact hp) h2 hz hf hg hm (pe_tyN hgT hmT (by decide +kernel)) (fun u r => r) h3 hN hv hd hcd he he2 hpl
theorem takes_lam {A : Around} {outer : List PySem.Env} {s : Shared} {H : Hp} {E : XK} {scope : Scope} {f c' : Addr} : L2N.Takes (lamN X A outer s H E scope f c') (WDef E) := L2N.takes_of rfl rfl rfl rfl
/-! ### e[i].append(c), e just made -/
def gTmpApp (i : Nat) (g : G C) : G Fl := fun ρ => match g ρ with
  | .ok (.tup cs) ρ' => match cs[i]? with
    | some (.lst es) => if decide (es.length < sizeLine) = true then .ok .next ρ' else .bad
    | _ => .bad
  | .ok _ _ => .bad
  | .ex x ρ' => .ex x ρ'
  | .bad => .bad
theorem Rcs.at {K : Frag} {F H : Hp} : ∀ {cs : List C} {vs : List V} {fp : AS} {i : Nat} {c : C}, Rcs K mg F H cs vs fp → cs[i]? = some c → ∃ v f, vs[i]? = some v ∧ Rc K mg F H c v f ∧ ∀ a, f a → fp a
  | [], vs, fp, i, c, r, e => by simp at e
  | c0 :: cs, vs, fp, 0, c, r, e => by
    simp only [Rcs] at r
    obtain ⟨v, vr, f1, f2, rfl, r1, r2, dj, cv⟩ := r
    simp at e
    subst e
    exact ⟨v, f1, rfl, r1, fun a z => (cv a).mpr (.inl z)⟩
  | c0 :: cs, vs, fp, i + 1, c, r, e => by
    simp only [Rcs] at r
    obtain ⟨v, vr, f1, f2, rfl, r1, r2, dj, cv⟩ := r
    obtain ⟨w, f, e1, r3, k⟩ := Rcs.at (i := i) r2 (by simpa using e)
    exact ⟨w, f, by simpa using e1, r3, fun a z => (cv a).mpr (.inr (k a z))⟩
variable {P : List Nat}
theorem s_tmpApp {e0 : Expr} {i : Nat} {j : Int} {k1 k2 : Nat} {g : G C} {p1 p2 p3 apos cpos pos : Pos} (he : PE X e0 (tE X.K mg W g))
    (hpi : PlainIx (.Constant (.int i) k1 p1) := by exact fun _ _ => rfl)
    (hbase : attributeBase (.Subscript e0 (.Constant (.int i) k1 p1) p2) "append" X.env (eval (.Subscript e0 (.Constant (.int i) k1 p1) p2) X.env) = eval (.Subscript e0 (.Constant (.int i) k1 p1) p2) X.env := by rfl)
    (hfew : ((backTo cpos (starEach [.Constant (.int j) k2 p3] X.env)).all (fun x => !x.1) && (backToKw cpos (keywordEach [] X.env)).all (fun x => x.1.isSome) && decide (([.Constant (.int j) k2 p3] : List Expr).length + ([] : List Keyword).length + (if ([] : List Keyword).isEmpty then 0 else 1) < 30)) = true := by rfl)
    (hline : (apos.endLine == cpos.line) = true := by rfl) (hs : starEach [.Constant (.int j) k2 p3] X.env = (false, eval (.Constant (.int j) k2 p3) X.env) :: starEach [] X.env := by rfl) (hplain : (backTo cpos (starEach [] X.env)).any (·.1) = false := by rfl)
    (hsw : swapsWith (.Call (.Attribute (.Subscript e0 (.Constant (.int i) k1 p1) p2) "append" apos) [.Constant (.int j) k2 p3] [] cpos) none pos.line X.env = pure false := by rfl) :
    PS X (.Expr (.Call (.Attribute (.Subscript e0 (.Constant (.int i) k1 p1) p2) "append" apos) [.Constant (.int j) k2 p3] [] cpos) pos) (tS X.K mg W P (gTmpApp i g)) :=
  (ps_expr (pe_bm PySem.F.plainAttrs_list PySem.F.slot_list_append PySem.F.type_list_append mt_append (pe_ix ix_tup he pe_int hpi) (pa_cons pe_int pa_nil hs) hbase hfew hline hs hplain) hsw).imp fun D σ H h => by
    obtain ⟨ρ, fp, F, w, h⟩ := h
    refine eGo w Chg.refl ?_
    unfold gTmpApp at h
    cases q : g ρ with
    | bad => rw [q] at h; exact h
    | ex x ρ' => rw [q] at h; exact exPostS.here h
    | ok c ρ1 =>
      rw [q] at h
      intro v F1 H1 fp1 fv w1 r d ch
      cases c with
      | tup cs =>
        simp only at h
        rcases q1 : cs[i]? with _ | c1
        · simp only [q1] at h; exact h.elim
        · cases c1 with
          | lst es =>
            simp only [q1] at h
            by_cases hl : es.length < sizeLine
            · rw [if_pos (decide_eq_true hl)] at h
              simp only [Rc] at r
              obtain ⟨a, vs, f, rfl, hn, e3, e4, e5, e6⟩ := r
              obtain ⟨u, f1, u1, u2, u3⟩ := Rcs.at e4 q1
              simp only [Rc] at u2
              obtain ⟨l, xs, f2, rfl, l1, l2, l3, l4, l5⟩ := u2
              have nl : fv l := (e6 l).mpr (.inr (u3 l ((l5 l).mpr (.inl rfl))))
              refine ⟨a, vs, (i : Int), .ref l, rfl, rfl, hn.t, L2.atI_nat u1, .inl ⟨rfl, xs, .of l1⟩, l, xs, .int j, rfl, rfl, l1, by rw [Rcs.length l3]; exact hl, ?_⟩
              have keep : ∀ b, fp1 b → (upd H1 l (.lst (xs ++ [.int j]))) b = H1 b ∧ F1 b = F1 b := fun b z => ⟨upd_ne fun y => d l nl (by rw [← y]; exact z), rfl⟩
              refine h σ F1 _ fp1 ⟨fun b o e => ?_, w1.re.frame (Same.refl _) keep⟩ ⟨ch.fz, fun b o n e => ?_, ch.fn, fun b z => ch.nw b (.inl z)⟩ fun _ _ => rfl
              · by_cases hb : b = l
                · subst hb; rw [l2] at e; cases e
                · rw [upd_ne hb]; exact w1.sub b o e
              · by_cases hb : b = l
                · subst hb
                  rcases ch.nw b (.inr nl) with z | z
                  · exact (n z).elim
                  · rw [z] at e; cases e
                · rw [upd_ne hb]; exact ch.kp b o n e
            · rw [if_neg (by simpa using hl)] at h; exact h.elim
          | val _ => simp only [q1] at h; exact h.elim
          | tup _ => simp only [q1] at h; exact h.elim
          | dic _ _ => simp only [q1] at h; exact h.elim
          | obj _ _ _ => simp only [q1] at h; exact h.elim
          | ref _ => simp only [q1] at h; exact h.elim
          | lam _ _ _ => simp only [q1] at h; exact h.elim
      | val _ => exact h.elim
      | lst _ => exact h.elim
      | dic _ _ => exact h.elim
      | obj _ _ _ => exact h.elim
      | ref _ => exact h.elim
      | lam _ _ _ => exact h.elim
end
end Nd

/-! Nd49: what the top tells of the refusals. -/
namespace Nd
open PySem PySem.Spec PyProof.Rows L2
def excCB (K : Frag) (D : Addr) : Bool :=
  decide (PySem.W.findIn K (.ref D) "__getattribute__" = some (some (.builtin "BaseException.__getattribute__"))) && (decide (PySem.W.findIn K (.ref D) "__getattr__" = some none) && (decide (PySem.W.subIn K (.ref D) (.type "BaseException") = some true) && (decide (PySem.W.hasDictIn K D = true) &&
  (decide (PySem.W.findIn K (.ref D) "__class__" = some (some (.builtin "object.__class__"))) && (decide (PySem.W.specialIn K (.builtin "object.__class__") "__get__" = some (some (.builtin "getset_descriptor.__get__"))) && (decide (PySem.W.takesIn K (.builtin "object.__class__") = some true) && decide (PySem.W.mroIn K D (.type "object") = some true)))))))
theorem excC_ok {K : Frag} {D : Addr} (h : excCB K D = true) : L2.ExcC K D := by
  unfold excCB at h
  simp only [Bool.and_eq_true, decide_eq_true_eq] at h
  obtain ⟨h1, h2, h3, h4, h5, h6, h7, h8⟩ := h
  exact ⟨h1, h2, h3, h4, h5, h6, h7, h8⟩
def exOne (K : Frag) (nm : Str) : Bool := (He.Fa.glo nm).ok K && (decide (PySem.W.exmOne K (.ref (He.ga K nm)) (.ref (He.ga K "PairError")) = some true) && (excCB K (He.ga K nm) && ((exNames.all fun T => decide (PySem.W.kitOne K (.ref (He.ga K nm)) (.ref (He.ga K T)) = some (decide (nm = T)))) &&
  (decide (PySem.W.kitOne K (.ref (He.ga K nm)) (.type "ValueError") = some true) && (decide (nm = "TooMany") || (He.Fa.exc nm).ok K)))))
def exkB (K : Frag) : Bool := (He.Fa.glo "PairError").ok K && exNames.all (exOne K)
/-- all that the walks lean on -/
structure ExAll (K : Frag) (mg : Str → Option Value) : Prop where
  facts : ∃ CP, ExFacts K mg CP
  kin : ExKin K mg
  at_ : ∀ nm ∈ exNames, nm ≠ "TooMany" → ExAt K mg nm
theorem exAll_ok {K : Frag} {h : Heap} {mg : Str → Option Value} (X : K.In h) (G : h.Ns mainGlobals mg) (e : exkB K = true) : ExAll K mg := by
  unfold exkB at e
  rw [Bool.and_eq_true] at e
  obtain ⟨e1, e2⟩ := e
  have one : ∀ nm ∈ exNames, mg nm = some (.ref (He.ga K nm)) ∧ PySem.W.exmOne K (.ref (He.ga K nm)) (.ref (He.ga K "PairError")) = some true ∧ L2.ExcC K (He.ga K nm) ∧ (∀ T ∈ exNames, PySem.W.kitOne K (.ref (He.ga K nm)) (.ref (He.ga K T)) = some (decide (nm = T))) ∧
      PySem.W.kitOne K (.ref (He.ga K nm)) (.type "ValueError") = some true ∧ (nm = "TooMany" ∨ (He.Fa.exc nm).ok K = true) := fun nm hm => by
    have z := List.all_eq_true.mp e2 nm hm
    unfold exOne at z
    simp only [Bool.and_eq_true, decide_eq_true_eq, List.all_eq_true, Bool.or_eq_true] at z
    obtain ⟨z1, z2, z3, z4, z5, z6⟩ := z
    exact ⟨He.glo_ok X G z1, z2, excC_ok z3, z4, z5, z6⟩
  refine ⟨⟨_, He.glo_ok X G e1, fun nm hm => ⟨_, (one nm hm).1, (one nm hm).2.1⟩⟩, ⟨fun nm hm => ?_⟩, fun nm hm hn => ?_⟩
  · obtain ⟨z1, z2, z3, z4, z5, z6⟩ := one nm hm
    exact ⟨_, z1, z3, fun T hT => ⟨_, (one T hT).1, z4 T hT⟩, z5⟩
  · obtain ⟨z1, z2, z3, z4, z5, z6⟩ := one nm hm
    rcases z6 with z | z
    · exact absurd z hn
    · obtain ⟨q1, q2, q3, q4⟩ := He.exc_ok z
      exact ⟨_, z1, q1, q2, q3, q4⟩
theorem src_zipL {ga gb : G Op} {T : Src → Prop} (h0 : T none) : ∀ ρ it ρ', gZipL ga gb ρ = .ok it ρ' → T it.src := by
  intro ρ it ρ' e
  unfold gZipL G.bind at e
  cases z : ga ρ with
  | bad => rw [z] at e; cases e
  | ex x ρ1 => rw [z] at e; cases e
  | ok c ρ1 =>
    rw [z] at e
    simp only [R.bind_ok] at e
    cases z2 : gb ρ1 with
    | bad => rw [z2] at e; cases e
    | ex x ρ1 => rw [z2] at e; cases e
    | ok c2 ρ2 =>
      rw [z2] at e
      simp only [R.bind_ok] at e
      split at e
      · cases e; exact h0
      · cases e

@[simp] theorem gIsE_at {i : Nat} {r : RfK} {b : Bool} {ρ : Env} (h : ρ[i]? = some (some (.ref r))) : gIsE i r b ρ = .ok (.val (.bool b)) ρ := by
  unfold gIsE
  rw [h]
  simp
def zpkL (a b : Op) : G Itm := fun ρ => itm (zipIL (opD ρ a) (opD ρ b)) ρ
@[simp] theorem zpkL_at {ρ : Env} {a b} : zpkL a b ρ = itm (zipIL (opD ρ a) (opD ρ b)) ρ := rfl
@[simp] theorem gZipL_at {ρ : Env} {ga gb} : gZipL ga gb ρ = (ga ρ).bind fun a => G.bind gb (zpkL a) := by
  show (ga ρ).bind _ = _
  congr
  funext a
  show G.bind gb _ = G.bind gb _
  congr
  funext b ρ
  show (match zipIL (opD ρ a) (opD ρ b) with | some ds => R.ok (⟨ds, none⟩ : Itm) ρ | none => R.bad) = itm (zipIL (opD ρ a) (opD ρ b)) ρ
  cases zipIL (opD ρ a) (opD ρ b) <;> rfl
/-! the names of the kinds -/
def kinN : List Str := exNames ++ [("+" : Str)]
def kinK (nm : Str) : List Bool := (exNames.map fun T => decide (nm = T)) ++ [true]
theorem kin_filter : ∀ nm ∈ exNames, ((kinN.zip (kinK nm)).filter (·.2)).map (fun p => PyData.str p.1) = [.str nm, .str "+"] := fun nm h => by
  have : ∀ nm ∈ exNames, ((kinN.zip (kinK nm)).filter (·.2)).map (·.1) = [nm, "+"] := by decide +kernel
  have e := congrArg (List.map PyData.str) (this nm h)
  rw [List.map_map] at e
  exact e
theorem kin_join : ∀ nm ∈ exNames, joinD (.str "") [.list [.str nm, .str "+"]] = some (.val (.str (nm ++ "+"))) := fun nm h => by
  have h1 : ∀ nm ∈ exNames, Txt.join "" [nm, "+"] = nm ++ "+" ∧ layS (Txt.join "" [nm, "+"]) = true ∧ ([nm, ("+" : Str)].map (·.length)).sum + [nm, ("+" : Str)].length * ("" : Str).length ≤ 16777216 := by decide +kernel
  obtain ⟨e1, e2, e3⟩ := h1 nm h
  have : allStrs [.str nm, .str "+"] = some [nm, "+"] := rfl
  simp only [joinD, this, Option.bind_some]
  rw [if_pos (by rw [decide_eq_true e3, e2]; rfl), e1]
def kinZ (nm : Str) : List PyData := (kinN.zip (kinK nm)).map fun p => .tuple [.str p.1, .bool p.2]
theorem zipIL_kin (nm : Str) : zipIL (some (.list [.str "NoMove", .str "TooMany", .str "NoHand", .str "NoLetter", .str "NothingLeft", .str "NoNet", .str "NoName", .str "Taken", .str "Last", .str "Same", .str "Tied", .str "NotTied", .str "NoWeight", .str "NoState", .str "NoDeeds", .str "NoText", .str "NoRow", .str "+"])) (some (.list [.bool (decide (nm = "NoMove")), .bool (decide (nm = "TooMany")), .bool (decide (nm = "NoHand")), .bool (decide (nm = "NoLetter")), .bool (decide (nm = "NothingLeft")), .bool (decide (nm = "NoNet")), .bool (decide (nm = "NoName")), .bool (decide (nm = "Taken")), .bool (decide (nm = "Last")), .bool (decide (nm = "Same")), .bool (decide (nm = "Tied")), .bool (decide (nm = "NotTied")), .bool (decide (nm = "NoWeight")), .bool (decide (nm = "NoState")), .bool (decide (nm = "NoDeeds")), .bool (decide (nm = "NoText")), .bool (decide (nm = "NoRow")), .bool true])) = some (kinZ nm) := by
  simp only [zipIL]
  rw [if_pos (by unfold szOk; exact decide_eq_true (by rw [sizeLine_eq]; unfold zipP; rw [List.length_map, List.length_zip]; simp))]
  rfl
end Nd

/-! Nd50: a tuple unpacked where an exception is handled. -/
namespace HotT
open PySem PySem.Spec PyProof.Rows HotX
section
variable {prog : Program} {w : World} {A : Around} {E : Value → Shared → Prop} {s : Shared}
theorem tupEnd_hot {it t x1 : Addr} {i : Nat} {items} {Q : Option Value → Shared → Prop} (hot : HotAt A x1 s.heap) (hxi : x1 ≠ it)
    (hit : IsTupIter s.heap it t i) (ht : IsTup s.heap t items) (hx : items[i]? = none)
    (hQ : ∀ h', Heap.ExtBut it s.heap h' → Q none { s with heap := h' }) : wpAny (model prog w) A (pyNext (.ref it)) Q E s := by
  obtain ⟨hh, o1, vs1, h1, d1, c1⟩ := hot
  obtain ⟨o, ho, hc, hd⟩ := id hit
  obtain ⟨ol, hol, _, nl, hdl⟩ := ht
  unfold pyNext
  refine wpAny_bind (wpAny_attempt (wpAny_callSpecial?_slot (name := Str.ofString "__next__") hit.typeIs slot_tupleiter_next
    (wpAny_call_entry slot_tupleiter_next hit.typeIs entry_tupleiter_next ?_ (args_tupleiter_next _))))
  show wpAny _ _ (field (.ref it) 0 >>= _) _ _ s
  refine wpAny_bind (wpAny_field ho hd (x := .ref t) rfl ?_)
  show wpAny _ _ (if (Value.ref t == Value.none) = true then _ else _) _ _ s
  rw [if_neg (show ¬ ((Value.ref t == Value.none) = true) from Bool.false_ne_true)]
  show wpAny _ _ (field (.ref it) 1 >>= _) _ _ s
  refine wpAny_bind (wpAny_field ho hd (x := .int i 0) rfl ?_)
  show wpAny _ _ (seqItems? (.ref t) >>= _) _ _ s
  refine wpAny_bind (wpAny_seqItems hol hdl ?_)
  simp only [Int.toNat_natCast, hx]
  refine wpAny_bind (wpAny_rule (wpAny_bind (wpAny_setField ho hd (by simp) ?_)))
  show wpAny _ _ (newExc (.type "StopIteration") [] >>= _) _ _ _
  refine wpAny_bind ?_
  simp only [newExc, newTuple]
  refine wpAny_bind (wpAny_newObj_type ?_ (by size_fits))
  refine wpAny_bind (m := firstArgMember _ _) (wpAny_of_eq (a := Value.none) (by first | rfl | (simp only [firstArgMember]; rfl)) ?_)
  refine wpAny_newObj_type ?_ (by size_fits)
  have up := (Heap.SameBut.update (h := s.heap) (a := it) (f := Obj.mapFields (·.setIfInBounds 0 .none))).extBut
  have g1 := Heap.get?_push_of_some { cls := .type "tuple", data := .seq ([] : List Value).toArray } (up x1 o1 hxi h1)
  refine raiseNew_hot ⟨hh, o1, vs1, Heap.get?_push_of_some _ g1, d1, c1⟩ (Nat.ne_of_lt (Heap.lt_size g1)) (Heap.get?_push_size _ rfl) rfl (by first | (simp; done) | (simp; omega) | (simp only [Array.size_append]; simp; omega)) ?_
  refine wpAny_bind (wpAny_isInstance (T := "StopIteration") (b := true) ⟨_, Heap.get?_update_self _ (Heap.get?_push_size _ rfl) rfl, rfl⟩ isSubtype_stop ?_)
  refine wpAny_pure (hQ _ fun b o hb e => ?_)
  have g2 := Heap.get?_push_of_some { cls := .type "tuple", data := .seq ([] : List Value).toArray } (up b o hb e)
  rw [Heap.get?_update_other _ _ (Nat.ne_of_gt (Heap.lt_size g2))]
  exact Heap.get?_push_of_some _ g2
theorem unpackItems_hot {t x1 : Addr} {items : Array Value} {Q : List Value → Shared → Prop} (hot : HotAt A x1 s.heap) (ht : IsTup s.heap t items)
    (hQ : ∀ h', Heap.ExtBut s.heap.objs.size s.heap h' → Q items.toList { s with heap := h' }) : wpAny (model prog w) A (unpackItems (.ref t) items.size none) Q E s := by
  have hlt : t ≠ s.heap.objs.size := by obtain ⟨o, ho, _⟩ := ht; exact Nat.ne_of_lt (Heap.lt_size ho)
  have xn : x1 ≠ s.heap.objs.size := by obtain ⟨_, o1, _, h1, _⟩ := hot; exact Nat.ne_of_lt (Heap.lt_size h1)
  unfold unpackItems
  refine wpAny_bind ?_
  · unfold notIterableAtAll
    refine wpAny_bind (wpAny_specialOf ht.typeIs slot_tuple_iter.lookup ?_)
    refine wpAny_pure ?_
    simp only [Bool.false_eq_true, if_false]
    refine wpAny_bind (wpAny_holding (iter_tuple ht ?_))
    refine wpAny_bind (wpAny_holding (draw_tuple hlt items.size 0 _ _ ⟨_, Heap.get?_push_size _ rfl, rfl, rfl⟩ (ht.push _) (by omega) fun h₁ hit₁ hs₁ => ?_))
    have hall : List.take items.size (List.drop 0 items.toList) = items.toList := by
      rw [List.drop_zero]; exact List.take_of_length_le (by simp)
    rw [hall]
    rw [if_neg (by simp)]
    have ht₁ : IsTup h₁ t items := (ht.push _).extBut hs₁.extBut hlt
    refine wpAny_bind (wpAny_holding (tupEnd_hot (HotZ.HotAt.ext (h' := h₁) hot fun o e => hs₁.extBut _ _ xn (Heap.get?_push_of_some _ e)) xn hit₁ ht₁ (by simp) fun h₂ he₂ => ?_))
    simp only [Option.isSome_none, Bool.false_eq_true, if_false]
    refine wpAny_pure (hQ h₂ fun b o hb e => he₂ b o hb (hs₁.extBut b o hb (Heap.get?_push_of_some _ e)))

theorem unpack_hot {t x1 : Addr} {items : Array Value} {targets : List (Bool × (Value → Sem Unit))} {Q : Unit → Shared → Prop} (hot : HotAt A x1 s.heap) (ht : IsTup s.heap t items)
    (hn : targets.length = items.size) (hstar : targets.findIdx? (·.1) = none)
    (h : ∀ h', Heap.ExtBut s.heap.objs.size s.heap h' → wpAny (model prog w) A (assignInOrder (targets.map (·.2)) items.toList) Q E { s with heap := h' }) :
    wpAny (model prog w) A (unpack (.ref t) targets) Q E s := by
  unfold unpack
  rw [hn, hstar]
  exact wpAny_bind (wpAny_holding (unpackItems_hot hot ht h))
theorem assign_tuple_hot {x1 : Addr} {env : PySem.Env} {elts : List Expr} {k0} {pos : Pos} {t : Addr} {items : Array Value} {Q : Unit → Shared → Prop} (hot : HotAt A x1 s.heap) (ht : IsTup s.heap t items)
    (hn : (assignEach elts env).length = items.size) (hstar : (assignEach elts env).findIdx? (·.1) = none)
    (h : ∀ h', Heap.ExtBut s.heap.objs.size s.heap h' → wpAny (model prog w) A (assignInOrder ((assignEach elts env).map (·.2)) items.toList) Q E { s with heap := h' }) :
    wpAny (model prog w) A (assign (.Tuple elts k0 pos) env (.ref t)) Q E s := by
  rw [assign_Tuple]
  exact wpAny_bind (wpAny_standAt (unpack_hot hot ht hn hstar h))
end
end HotT
namespace Nd
open PySem PySem.Spec PyProof.Rows L2 L2H
section
variable [TF] {X : Cx} {K : Frag} {mg : Str → Option Value} {pos : Pos}
theorem pg_tupH {es : List Expr} {k : Nat} {t : TGs} {n : Nat} (hc : HotC X) (h : PGs X es t)
    (hn : (assignEach es X.env).length = n := by rfl) (hst : (assignEach es X.env).findIdx? (·.1) = none := by rfl) : PG X (.Tuple es k pos) (L2.gTup X.K n t) := by
  refine ⟨fun pins s σ H v u Q I r hw => ?_⟩
  obtain ⟨x1, hot⟩ := hc.at I
  obtain ⟨a, xs, e1, hq, hl, hw⟩ := hw
  subst e1
  cases r
  obtain ⟨its, rv, ht, hz⟩ := I.tuple hq
  refine HotT.assign_tuple_hot hot ht (by simp [hn, ← hl, rv.length]) hst fun h' hx => ?_
  have I1 : Inv X pins σ H { s with heap := h' } := I.kept (t' := s.toks) fun b o e => hx b o (Nat.ne_of_lt (Heap.lt_size e)) e
  exact h.run pins _ σ H xs _ Q I1 (by simpa using rv) hw
theorem g_tupH {es : List Expr} {k : Nat} {ps : List Pat} {n : Nat} (hc : HotC X) (hn' : ps.length = n) (hK : X.K = K) (h : PGs X es (tGds K mg ps)) (hn : (assignEach es X.env).length = n := by rfl) (hst : (assignEach es X.env).findIdx? (·.1) = none := by rfl) :
    PG X (.Tuple es k pos) (tGd K mg (.tu ps)) := (pg_tupH hc h hn hst).imp fun v σ H Q hq => by
  obtain ⟨ρ, fp, F, d, ρ', w, hd, e, k⟩ := hq
  cases d with
  | tuple ds =>
    simp only [asg] at e
    obtain ⟨a, vs, e1, s1, r1⟩ := hd.tup_inv
    have len : ∀ {ps : List Pat} {ds : List PyData} {ρ ρ' : Env}, asgs ps ds ρ = some ρ' → ds.length = ps.length := fun {ps} => by
      induction ps with
      | nil => intro ds ρ ρ' e; cases ds with
        | nil => rfl
        | cons _ _ => simp [asgs] at e
      | cons p ps ih =>
        intro ds ρ ρ' e
        cases ds with
        | nil => simp [asgs] at e
        | cons d ds =>
          simp only [asgs] at e
          cases q : asg p d ρ with
          | none => rw [q] at e; cases e
          | some ρ1 =>
            rw [q] at e
            simp [ih e]
    refine ⟨a, vs, e1, by rw [hK]; exact SqT.mono w.sub s1, by rw [r1.length, len e, hn'], ρ, fp, F, ds, ρ', w, r1, e, fun σ' fp' w' k1 k2 => k σ' fp' w' k1 k2⟩
  | none => simp [asg] at e
  | bool b => simp [asg] at e
  | int i => simp [asg] at e
  | str s => simp [asg] at e
  | list ds => simp [asg] at e
  | dict ds => simp [asg] at e
end
end Nd

/-! Nd51: what a refusal is, step by step. -/
namespace Nd
open PySem L2
variable [TF] {ρ : Env}
def bkx (x : Xc) : Option (List C) → RF
  | some cs => .ex x cs
  | none => .bad
@[simp] theorem bkx_some {x cs} : bkx x (some cs) = .ex x cs := rfl
@[simp] theorem ends_exx {bs cs x} : ends bs cs (.ex x ρ) = bkx x (backs bs cs ρ) := by
  rw [ends_ex]
  cases backs bs cs ρ <;> rfl
@[simp] theorem gRaise_at {x} : gRaise x ρ = .ex (.plain x) ρ := rfl
theorem gTry_ok {gl : G C} {ρ' : Env} {d : PyData} (h : gl ρ = .ok (.val d) ρ') : gTry gl ρ = .ok (.val (.tuple [.str "told", d])) ρ' := by
  unfold gTry
  have : Nd.gTup [gC (.str "told"), gl] ρ = .ok (.val (.tuple [.str "told", d])) ρ' := by simp [h]
  rw [this]
theorem gTry_ex {gl : G C} {ρ' : Env} {x : Xc} (h : gl ρ = .ex x ρ') (hm : x.nm ∈ exNames) : gTry gl ρ = .ok (.val (.str (x.nm ++ "+"))) ρ' := by
  unfold gTry
  have : Nd.gTup [gC (.str "told"), gl] ρ = .ex x ρ' := by simp [h]
  rw [this]
  exact if_pos hm
end Nd

/-! Nd54: xs[i], xs[j] = a, b. -/
namespace Nd
open PySem L2 RZ
section
variable [TF] {X : Cx} {mg : Str → Option Value} {W : WX} {P : List Nat} {F H F0 H0 : Hp} {ρ : Env} {fp fp0 : AS} {σ σ0 : St} {pos : Pos}
/-- a place of a list given a value: the list, the place -/
def gPut (i : Nat) (gi : G Op) (d : PyData) : G Fl := G.bind (gHas i) fun _ => G.bind gi fun o => storeAt i d o
def subPost (K : Frag) (mg : Str → Option Value) (W : WX) (F H : Hp) (fp : AS) (σ : St) (Q : St → Hp → Prop) : R Fl → Prop
  | .ok .next ρ' => ∀ F' H' fp', Wd K mg F' H' ρ' fp' σ → Chg fp F H fp' F' H' → Q σ H'
  | .ok _ _ => False
  | .ex x ρ' => exPost K mg W F H fp σ x ρ'
  | .bad => False
theorem gPut_ok {i : Nat} {gi : G Op} {d : PyData} {v : V} {F1 H1 : Hp} {fp1 : AS} {ρ1 : Env} {Q : St → Hp → Prop} (w1 : Wd X.K mg F1 H1 ρ1 fp1 σ) (r1' : Dq X.K F1 v d) (h : subPost X.K mg W F1 H1 fp1 σ Q (gPut i gi d ρ1)) : gSub (tVar i) (tO X.K mg W gi) rSetL v σ H1 Q := by
  unfold gPut at h
  unfold G.bind at h
  simp only [gHas] at h
  cases q0 : ρ1[i]? with
  | none => rw [q0] at h; exact h.elim
  | some oc =>
    cases oc with
    | none => rw [q0] at h; exact h.elim
    | some c0 =>
      cases c0 with
      | val d => rw [q0] at h; exact h.elim
      | tup cs => rw [q0] at h; exact h.elim
      | dic ks cs => rw [q0] at h; exact h.elim
      | obj cl ks cs => rw [q0] at h; exact h.elim
      | ref _ => rw [q0] at h; exact h.elim
      | lam _ _ _ => rw [q0] at h; exact h.elim
      | lst cs0 =>
        rw [q0] at h
        simp only [R.bind_ok] at h
        obtain ⟨ov, f1, f2, q1, ⟨u, q2, q3⟩, _⟩ := w1.re.focus q0
        subst q2
        refine ⟨u, q1, ?_⟩
        simp only [Rc] at q3
        obtain ⟨a, vs, f', rfl, h2, h3, h4, h5, h6⟩ := q3
        refine oRun w1 Chg.refl ?_
        cases q4 : gi ρ1 with
        | bad => rw [q4] at h; exact h
        | ex x ρ' => rw [q4] at h; exact h
        | ok o ρ2 =>
          rw [q4] at h
          simp only [R.bind_ok, storeAt] at h
          intro vo F2 H2 fp2 w2 r2 s2 c2
          cases q5 : ρ2[i]? with
          | none => rw [q5] at h; exact h.elim
          | some oc =>
            cases oc with
            | none => rw [q5] at h; exact h.elim
            | some c2' =>
              cases c2' with
              | val d => rw [q5] at h; exact h.elim
              | tup cs => rw [q5] at h; exact h.elim
              | dic ks cs => rw [q5] at h; exact h.elim
              | obj cl ks cs => rw [q5] at h; exact h.elim
              | ref _ => rw [q5] at h; exact h.elim
              | lam _ _ _ => rw [q5] at h; exact h.elim
              | lst cs =>
                rw [q5] at h
                cases q6 : deref ρ2 o with
                | none => rw [q6] at h; exact h.elim
                | some dk =>
                  rw [q6] at h
                  cases dk with
                  | int k =>
                    simp only at h
                    have ek := (deref_sh w2 r2 q6).int
                    cases q7 : ixN cs.length k with
                    | none => rw [q7] at h; exact h.elim
                    | some j =>
                      rw [q7] at h
                      obtain ⟨ov, g1, g2, p1, ⟨u', p2, p3⟩, dj, cv, put⟩ := w2.re.focus q5
                      rw [q1] at p1
                      subst p2
                      cases p1
                      simp only [Rc] at p3
                      obtain ⟨a', vs', f2', e1, k2, k3, k4, k5, k6⟩ := p3
                      cases e1
                      have hlen := Rcs.length k4
                      refine ⟨a, vs', k, j, rfl, ek, k2, by rw [hlen]; exact q7, ?_⟩
                      have same : ∀ {S : AS}, (∀ b, S b → b ≠ a) → ∀ b, S b → (upd H2 a (.lst (vs'.set j v))) b = H2 b ∧ F2 b = F2 b := fun hS b z => ⟨upd_ne (hS b z), rfl⟩
                      have sF : Same F2 (upd H2 a (.lst (vs'.set j v))) := fun b o e => by
                        by_cases hb : b = a
                        · subst hb; rw [k3] at e; cases e
                        · rw [upd_ne hb]; exact w2.sub b o e
                      obtain ⟨fn, n1, n2⟩ := Rcs_set (d := d) (v := v) (k4.frame (Same.refl _) (same fun b z e => by subst e; exact k5 z)) (r1'.mono s2) (ixN_lt q7)
                      have rr : Rc X.K mg F2 (upd H2 a (.lst (vs'.set j v))) (.lst (cs.set j (.val d))) (.ref a) (fun b => b = a ∨ fn b) := by
                        simp only [Rc]
                        exact ⟨a, _, fn, rfl, upd_same, k3, n1, fun z => k5 (n2 a z), fun _ => Iff.rfl⟩
                      have keep2 : ∀ b, g2 b → (upd H2 a (.lst (vs'.set j v))) b = H2 b ∧ F2 b = F2 b := same fun b z e => by subst e; exact dj _ ((k6 _).mpr (.inl rfl)) z
                      have sub1 : ∀ b, (b = a ∨ fn b) → g1 b := fun b z => (k6 b).mpr (z.imp id (n2 b))
                      have re2 := put (some (.lst (cs.set j (.val d)))) (some (.ref a)) F2 _ (fun b => b = a ∨ fn b) (Same.refl _) keep2 ⟨_, rfl, rr⟩ (fun b z => dj b (sub1 b z))
                      have e0 : σ.set i (some (.ref a)) = σ := by
                        apply List.ext_getElem?
                        intro j
                        by_cases hj : i = j
                        · subst hj; rw [q1]; exact List.getElem?_set_self (List.getElem?_eq_some_iff.mp q1).1
                        · exact List.getElem?_set_ne hj
                      rw [e0] at re2
                      have fpa : fp2 a := (cv a).mpr (.inl ((k6 a).mpr (.inl rfl)))
                      refine h F2 _ (fun b => (b = a ∨ fn b) ∨ g2 b) ⟨sF, re2⟩ (c2.trans ⟨Same.refl _, fun b o n e => ?_, fun b n e => rfl, fun b z => ?_⟩)
                      · have hb : b ≠ a := fun e => by subst e; exact n fpa
                        rw [upd_ne hb]; exact e
                      · left
                        exact (cv b).mpr (z.imp (sub1 b) id)
                  | none => exact h.elim
                  | bool b => exact h.elim
                  | str b => exact h.elim
                  | list b => exact h.elim
                  | tuple b => exact h.elim
                  | dict b => exact h.elim
theorem gPut_next {i : Nat} {gi : G Op} {d : PyData} {f : Fl} {ρ' : Env} (h : gPut i gi d ρ = .ok f ρ') : f = .next := by
  unfold gPut G.bind at h
  simp only [gHas] at h
  split at h
  · simp only [R.bind_ok] at h
    cases q : gi ρ with
    | bad => rw [q] at h; cases h
    | ex x ρ' => rw [q] at h; cases h
    | ok o ρ2 =>
      rw [q] at h
      simp only [R.bind_ok, storeAt] at h
      split at h
      · split at h
        · cases h; rfl
        · cases h
      · cases h
  all_goals cases h
theorem sPost.toSub {D : Ends} {r : R Fl} (hr : ∀ f ρ', r = .ok f ρ' → f = .next) (h : sPost X.K mg W P F H fp σ r D) : subPost X.K mg W F H fp σ D.nx r := by
  cases r with
  | bad => exact h
  | ex x ρ' => exact exPostS.here h
  | ok f ρ' =>
    cases hr f ρ' rfl
    exact fun F' H' fp' w c => h σ F' H' fp' w c fun _ _ => rfl
/-- xs[i], xs[j] = a, b -/
def gSwap (i : Nat) (ga gb : G Op) (g : G C) : G Fl := G.bind (gFz g) fun o => match o with
  | .d (.tuple [a, b]) => gSeq (gPut i ga a) (gPut i gb b)
  | _ => G.bad
theorem gSwap_ok {i : Nat} {ga gb : G Op} {g : G C} {D : Ends} (h : tS X.K mg W P (gSwap i ga gb g) D σ H) : tAsg (tO X.K mg W (gFz g)) (L2.gTup X.K 2 (gCons (gSub (tVar i) (tO X.K mg W ga) rSetL) (gCons (gSub (tVar i) (tO X.K mg W gb) rSetL) gNil))) D σ H := by
  obtain ⟨ρ, fp, F, w, h⟩ := h
  unfold gSwap at h
  unfold G.bind at h
  refine oRun w Chg.refl ?_
  cases q : gFz g ρ with
  | bad => rw [q] at h; exact h
  | ex x ρ' => rw [q] at h; exact exPostS.here h
  | ok o ρ1 =>
    rw [q] at h
    simp only [R.bind_ok] at h
    split at h
    · rename_i a b
      intro v F1 H1 fp1 w1 r1 s1 c1
      have r1' : Dq X.K F1 v (.tuple [a, b]) := r1
      obtain ⟨p, vs, e, sq, all⟩ := r1'.tup_inv
      obtain ⟨hd, hl⟩ := all
      cases hd with
      | cons a1 b1 =>
        cases b1 with
        | cons a2 b2 =>
          cases b2
          rename_i v1 v2
          refine ⟨p, [v1, v2], e, SqT.mono w1.sub sq.t, rfl, v1, [v2], rfl, ?_⟩
          have d1 : Dq X.K F1 v1 a := ⟨a1, (lay_cons.mp hl).1⟩
          have d2 : Dq X.K F1 v2 b := ⟨a2, (lay_cons.mp (lay_cons.mp hl).2).1⟩
          have h1 := sPost.of (P := P) (σ := σ) c1 (fun _ _ => rfl) h
          unfold gSeq G.bind at h1
          refine gPut_ok w1 d1 ?_
          cases q1 : gPut i ga a ρ1 with
          | bad => rw [q1] at h1; exact h1
          | ex x ρ' => rw [q1] at h1; exact exPostS.here h1
          | ok f ρ2 =>
            cases gPut_next q1
            rw [q1] at h1
            simp only [R.bind_ok] at h1
            intro F2 H2 fp2 w2 c2
            refine ⟨v2, [], rfl, gPut_ok w2 (d2.mono c2.1) ?_⟩
            have h2 := sPost.of (P := P) (σ := σ) c2 (fun _ _ => rfl) h1
            have z := sPost.toSub (fun _ _ => gPut_next) h2
            cases q2 : gPut i gb b ρ2 with
            | bad => rw [q2] at z; exact z
            | ex x ρ' => rw [q2] at z; exact z
            | ok f ρ3 =>
              cases gPut_next q2
              rw [q2] at z
              exact fun F3 H3 fp3 w3 c3 => ⟨rfl, z F3 H3 fp3 w3 c3⟩
    · exact h.elim
theorem s_swap {x : Str} {ia ib e : Expr} {px px' ps ps' pt : Pos} {k : Nat} (i : Nat) {ga gb : G Op} {g : G C} (hc : X.calm = true) (he : PE X e (tE X.K mg W g)) (ha : PE X ia (tO X.K mg W ga)) (hb : PE X ib (tO X.K mg W gb)) (hN : X.N[i]? = some x := by rfl) (hv : Vis X.env.scope x := by first | exact Or.inl rfl | exact Or.inr (Or.inl rfl) | exact Or.inr (Or.inr rfl))
    (hd : (x == ("__debug__" : Str)) = false := by decide) (hcd : (x == ("__classdict__" : Str)) = false := by decide)
    (hta : ∀ v, assign (.Subscript (.Name x px) ia ps) X.env v = (do
      let ov ← holding [v] (eval (.Name x px) X.env)
      let iv ← holding [v, ov] (eval ia X.env)
      standAt ps
      holding [v, ov, iv] (setItem ov iv v)
      release [v, ov, iv] []) := by intro _; rfl)
    (htb : ∀ v, assign (.Subscript (.Name x px') ib ps') X.env v = (do
      let ov ← holding [v] (eval (.Name x px') X.env)
      let iv ← holding [v, ov] (eval ib X.env)
      standAt ps'
      holding [v, ov, iv] (setItem ov iv v)
      release [v, ov, iv] []) := by intro _; rfl)
    (z1 : (assignEach [.Subscript (.Name x px) ia ps, .Subscript (.Name x px') ib ps'] X.env).map (·.2) = assign (.Subscript (.Name x px) ia ps) X.env :: (assignEach [.Subscript (.Name x px') ib ps'] X.env).map (·.2) := by rfl)
    (z2 : (assignEach [.Subscript (.Name x px') ib ps'] X.env).map (·.2) = assign (.Subscript (.Name x px') ib ps') X.env :: (assignEach ([] : List Expr) X.env).map (·.2) := by rfl)
    (hn : (assignEach [.Subscript (.Name x px) ia ps, .Subscript (.Name x px') ib ps'] X.env).length = 2 := by rfl) (hst : (assignEach [.Subscript (.Name x px) ia ps, .Subscript (.Name x px') ib ps'] X.env).findIdx? (·.1) = none := by rfl)
    (hs : swapsWithSole [.Tuple [.Subscript (.Name x px) ia ps, .Subscript (.Name x px') ib ps'] k pt] e pos.line X.env = pure false := by rfl) (hw : swappedStores [.Tuple [.Subscript (.Name x px) ia ps, .Subscript (.Name x px') ib ps'] k pt] e X.env = pure none := by rfl)
    (h1 : (assignEach [.Tuple [.Subscript (.Name x px) ia ps, .Subscript (.Name x px') ib ps'] k pt] X.env).map (·.2) = [assign (.Tuple [.Subscript (.Name x px) ia ps, .Subscript (.Name x px') ib ps'] k pt) X.env] := by rfl) :
    PS X (.Assign [.Tuple [.Subscript (.Name x px) ia ps, .Subscript (.Name x px') ib ps'] k pt] e pos) (tS X.K mg W P (gSwap i ga gb g)) :=
  (ps_asg (o_of he) (pg_tup hc (pgs_cons (pg_sub (pe_var hN hv hd hcd) ha set_list hta) (pgs_cons (pg_sub (pe_var hN hv hd hcd) hb set_list htb) pgs_nil z2) z1) hn hst) hs hw h1).imp fun _ _ _ => gSwap_ok
end
end Nd


instance (priority := low) Nd.tf0 : Nd.TF := ⟨[]⟩
namespace Lw
open PySem L2 Nd
abbrev N__law_deck : List Str := ["_law_cell", "_law_turn"]
noncomputable def g__law_deck : G Fl := (gSeq (gIfS (gT2 geA (gSlot 0) (gFz (gOp2 powD (oC (.int 10)) (oC (.int 18)))))
  (gRet (gLst [(gVal (gFz (gOp2 subD (gSlot 0) (gFz (gOp2 powD (oC (.int 10)) (oC (.int 18))))))), (gVal (gFz (gOp2 modD (gSlot 0) (oC (.int 2147483579))))), (Nd.gName 1)]))
  gNext)
  (gRet (gLst [(gC (.int 0)), (gVal (gFz (gOp2 modD (gSlot 0) (oC (.int 2147483579))))), (Nd.gName 1)])))
noncomputable def fn__law_deck : Fn := fnOf N__law_deck.length [true, true] g__law_deck
abbrev N__law_pick : List Str := ["_law_deck_here", "_law_size", "_law_number_here", "_law_found"]
noncomputable def g__law_pick : G Fl := (gSeq (gIfS (gT2 gtA (gFz (gOp2 ixD (gSlot 0) (oC (.int 0)))) (oC (.int 1)))
  (gSeq (gAsg (.nm 3) (gFz (gOp2 modD (gFz (gOp2 ixD (gSlot 0) (oC (.int 0)))) (gSlot 1))))
  (gSeq (gStore 0 (oC (.int 0)) (gOp2 fdivD (gFz (gOp2 ixD (gSlot 0) (oC (.int 0)))) (gSlot 1)))
  (gRet (Nd.gName 3))))
  gNext)
  (gSeq (gStore 0 (oC (.int 2)) (gOp2 addD (gFz (gOp2 ixD (gSlot 0) (oC (.int 2)))) (oC (.int 1))))
  (gSeq (gAsg (.nm 2) (gFz (gOp2 modD (gFz (gOp2 powD (gFz (gOp2 addD (gFz (gOp2 ixD (gSlot 0) (oC (.int 1)))) (gFz (gOp2 mulD (oC (.int 15485867)) (gFz (gOp2 ixD (gSlot 0) (oC (.int 2)))))))) (oC (.int 5)))) (oC (.int 2147483647)))))
  (gSeq (gAsg (.nm 3) (gFz (gOp2 fdivD (gFz (gOp2 modD (gFz (gOp2 powD (gFz (gOp2 addD (gSlot 2) (gFz (gOp2 mulD (oC (.int 7919)) (gFz (gOp2 ixD (gSlot 0) (oC (.int 2)))))))) (oC (.int 3)))) (oC (.int 2147483629)))) (oC (.int 32)))))
  (gRet (gOp2 modD (gSlot 3) (gSlot 1)))))))
noncomputable def fn__law_pick : Fn := fnOf N__law_pick.length [true, true] g__law_pick
abbrev N__law_one : List Str := ["_law_deck_here", "_law_some"]
noncomputable def g__law_one : G Fl := (gRet (gOp2 ixD (gSlot 1) (gFz (gCallF fn__law_pick (gAs [(gLent 0), (gArg (gVal (gFz (gOpN lenD (gOs [(gSlot 1)])))))])))))
noncomputable def fn__law_one : Fn := fnOf N__law_one.length [true, true] g__law_one
abbrev N__law_net : List Str := ["_law_deck_here", "_law_most", "_law_hands", "_law_ties", "_law_k", "_law_one_here", "_law_other"]
noncomputable def b1__law_net : G Fl := (gIfS (gAnd (gT2 ltA (gFz (gCallF fn__law_pick (gAs [(gLent 0), (gArg (gC (.int 5)))]))) (oC (.int 3))) (gT2 ltA (gFz (gOpN lenD (gOs [(gSlot 3)]))) (oC (.int 16))))
  (gDrop (gApp 3 (gTup [(Nd.gName 5), (Nd.gName 6), (gVal (gFz (gOp2 addD (oC (.int 1)) (gFz (gCallF fn__law_pick (gAs [(gLent 0), (gArg (gVal (gFz (gCallF fn__law_one (gAs [(gLent 0), (gArg (gVal (gFz (gLst [(gC (.int 3)), (gC (.int 10)), (gC (.int 100))]))))])))))]))))))])))
  gNext)
theorem b1__law_net_at (ρ : Nd.Env) : b1__law_net ρ = (gIfS (gAnd (gT2 ltA (gFz (gCallF fn__law_pick (gAs [(gLent 0), (gArg (gC (.int 5)))]))) (oC (.int 3))) (gT2 ltA (gFz (gOpN lenD (gOs [(gSlot 3)]))) (oC (.int 16))))
  (gDrop (gApp 3 (gTup [(Nd.gName 5), (Nd.gName 6), (gVal (gFz (gOp2 addD (oC (.int 1)) (gFz (gCallF fn__law_pick (gAs [(gLent 0), (gArg (gVal (gFz (gCallF fn__law_one (gAs [(gLent 0), (gArg (gVal (gFz (gLst [(gC (.int 3)), (gC (.int 10)), (gC (.int 100))]))))])))))]))))))])))
  gNext) ρ := rfl
noncomputable def b2__law_net : G Fl := (gFor (gItems (gFz (gSl (gSlot 2) (gPart (gFz (gOp2 addD (gSlot 4) (oC (.int 1))))) (G.ret none)))) (.nm 6)
  b1__law_net)
theorem b2__law_net_at (ρ : Nd.Env) : b2__law_net ρ = (gFor (gItems (gFz (gSl (gSlot 2) (gPart (gFz (gOp2 addD (gSlot 4) (oC (.int 1))))) (G.ret none)))) (.nm 6)
  b1__law_net) ρ := rfl
noncomputable def g__law_net : G Fl := (gSeq (gAsg (.nm 2) (gFz (gSl (gFz (gLst [(gC (.str "ann")), (gC (.str "bo")), (gC (.str "cy")), (gC (.str "dee")), (gC (.str "ed")), (gC (.str "flo")), (gC (.str "gus")), (gC (.str "hal"))])) (G.ret none) (gPart (gFz (gOp2 addD (oC (.int 1)) (gFz (gCallF fn__law_pick (gAs [(gLent 0), (gArg (Nd.gName 1))])))))))))
  (gSeq (gSet 3 (gLst []))
  (gSeq (gFor (gEnumA (gSlot 2)) (.tu [(.nm 4), (.nm 5)])
  b2__law_net)
  (gRet (gTup [(gVal (gFz (gOpN tupleD (gOs [(gSlot 2)])))), (gVal (gFz (gOpN tupleD (gOs [(gSlot 3)]))))])))))
noncomputable def fn__law_net : Fn := fnOf N__law_net.length [true, true] g__law_net
abbrev N__law_near : List Str := ["_law_net_here", "_law_hand", "_law_found", "_law_one_here", "_law_other", "_law_weight"]
noncomputable def b1__law_near : G Fl := (gIfS (gT2 inD (gSlot 1) (gFz (gTup [(Nd.gName 3), (Nd.gName 4)])))
  (gDrop (gApp 2 (gIf (gT2 eqD (gSlot 1) (gSlot 3)) (Nd.gName 4) (Nd.gName 3))))
  gNext)
theorem b1__law_near_at (ρ : Nd.Env) : b1__law_near ρ = (gIfS (gT2 inD (gSlot 1) (gFz (gTup [(Nd.gName 3), (Nd.gName 4)])))
  (gDrop (gApp 2 (gIf (gT2 eqD (gSlot 1) (gSlot 3)) (Nd.gName 4) (Nd.gName 3))))
  gNext) ρ := rfl
noncomputable def g__law_near : G Fl := (gSeq (gSet 2 (gLst []))
  (gSeq (gFor (gItems (gFz (gOp2 ixD (gSlot 0) (oC (.int 1))))) (.tu [(.nm 3), (.nm 4), (.nm 5)])
  b1__law_near)
  (gRet (gOpN sortDD (gOs [(gSlot 2)])))))
noncomputable def fn__law_near : Fn := fnOf N__law_near.length [true, true] g__law_near
abbrev N__law_state : List Str := ["_law_deck_here", "_law_net_here", "_law_hand"]
noncomputable def e1__law_state : G Op := (gFz (gTup [(Nd.gName 2), (gVal (gFz (gCallF fn__law_one (gAs [(gLent 0), (gArg (gVal (gFz (gOp2 addD (gFz (gLst [(gC .none)])) (gFz (gCallF fn__law_near (gAs [(gArg (Nd.gName 1)), (gArg (Nd.gName 2))])))))))]))))]))
theorem e1__law_state_at (ρ : Nd.Env) : e1__law_state ρ = (gFz (gTup [(Nd.gName 2), (gVal (gFz (gCallF fn__law_one (gAs [(gLent 0), (gArg (gVal (gFz (gOp2 addD (gFz (gLst [(gC .none)])) (gFz (gCallF fn__law_near (gAs [(gArg (Nd.gName 1)), (gArg (Nd.gName 2))])))))))]))))])) ρ := rfl
noncomputable def g__law_state : G Fl := (gRet (gOpN tupleD (gOs [(gFz (gComp (gItems (gFz (gOp2 ixD (gSlot 1) (oC (.int 0))))) (.nm 2) [2] (G.ret true) e1__law_state))])))
noncomputable def fn__law_state : Fn := fnOf N__law_state.length [true, true] g__law_state
abbrev N__law_net_text : List Str := ["_law_net_here", "_law_rows", "_law_one_here", "_law_other", "_law_weight"]
noncomputable def b1__law_net_text : G Fl := (gDrop (gApp 1 (gOp2 addD (gFz (gOp2 addD (gFz (gOp2 addD (gFz (gOp2 addD (gFz (gOp2 addD (oC (.str "tie ")) (gSlot 2))) (oC (.str " ")))) (gSlot 3))) (oC (.str " ")))) (gFz (gOpN strD (gOs [(gSlot 4)]))))))
theorem b1__law_net_text_at (ρ : Nd.Env) : b1__law_net_text ρ = (gDrop (gApp 1 (gOp2 addD (gFz (gOp2 addD (gFz (gOp2 addD (gFz (gOp2 addD (gFz (gOp2 addD (oC (.str "tie ")) (gSlot 2))) (oC (.str " ")))) (gSlot 3))) (oC (.str " ")))) (gFz (gOpN strD (gOs [(gSlot 4)])))))) ρ := rfl
noncomputable def g__law_net_text : G Fl := (gSeq (gSet 1 (gLst [(gVal (gFz (gOp2 addD (oC (.str "hands ")) (gFz (gMtS joinD (oC (.str " ")) (gOs [(gFz (gOp2 ixD (gSlot 0) (oC (.int 0))))]))))))]))
  (gSeq (gFor (gItems (gFz (gOp2 ixD (gSlot 0) (oC (.int 1))))) (.tu [(.nm 2), (.nm 3), (.nm 4)])
  b1__law_net_text)
  (gRet (gMtS joinD (oC (.str "\n")) (gOs [(gSlot 1)])))))
noncomputable def fn__law_net_text : Fn := fnOf N__law_net_text.length [true] g__law_net_text
abbrev N__law_state_text : List Str := ["_law_state_here", "_law_hand", "_law_at"]
noncomputable def e1__law_state_text : G Op := (gFz (gOp2 addD (gFz (gOp2 addD (gSlot 1) (oC (.str ">")))) (gFz (gIf (gT2 isND (gSlot 2) (oC .none)) (gC (.str "-")) (Nd.gName 2)))))
theorem e1__law_state_text_at (ρ : Nd.Env) : e1__law_state_text ρ = (gFz (gOp2 addD (gFz (gOp2 addD (gSlot 1) (oC (.str ">")))) (gFz (gIf (gT2 isND (gSlot 2) (oC .none)) (gC (.str "-")) (Nd.gName 2))))) ρ := rfl
noncomputable def g__law_state_text : G Fl := (gRet (gMtS joinD (oC (.str " ")) (gOs [(gFz (gComp (gItems (gFz (Nd.gName 0))) (.tu [(.nm 1), (.nm 2)]) [1, 2] (G.ret true) e1__law_state_text))])))
noncomputable def fn__law_state_text : Fn := fnOf N__law_state_text.length [true] g__law_state_text
abbrev N__law_bent_text : List Str := ["_law_deck_here", "_law_text", "_law_at", "_law_signs", "_law_sign", "_law_way", "_law_mark", "_law_parts", "_law_other"]
noncomputable def g__law_bent_text : G Fl := (gSeq (gAsg (.nm 2) (gFz (gCallF fn__law_pick (gAs [(gLent 0), (gArg (gVal (gFz (gOp2 addD (gFz (gOpN lenD (gOs [(gSlot 1)]))) (oC (.int 1))))))]))))
  (gSeq (gSet 3 (gC (.str "abotdn0123 >-\nX")))
  (gSeq (gAsg (.nm 4) (gFz (gOp2 ixD (gSlot 3) (gFz (gCallF fn__law_pick (gAs [(gLent 0), (gArg (gVal (gFz (gOpN lenD (gOs [(gSlot 3)])))))]))))))
  (gSeq (gAsg (.nm 5) (gFz (gCallF fn__law_pick (gAs [(gLent 0), (gArg (gC (.int 7)))]))))
  (gSeq (gIfS (gT2 eqD (gSlot 5) (oC (.int 0)))
  (gRet (gOp2 addD (gFz (gOp2 addD (gFz (gSl (gSlot 1) (G.ret none) (gPart (gSlot 2)))) (gSlot 4))) (gFz (gSl (gSlot 1) (gPart (gSlot 2)) (G.ret none)))))
  gNext)
  (gSeq (gIfS (gT2 eqD (gSlot 5) (oC (.int 1)))
  (gRet (gOp2 addD (gFz (gSl (gSlot 1) (G.ret none) (gPart (gSlot 2)))) (gFz (gSl (gSlot 1) (gPart (gFz (gOp2 addD (gSlot 2) (oC (.int 1))))) (G.ret none)))))
  gNext)
  (gSeq (gIfS (gT2 eqD (gSlot 5) (oC (.int 2)))
  (gRet (gOp2 addD (gFz (gOp2 addD (gFz (gSl (gSlot 1) (G.ret none) (gPart (gSlot 2)))) (gSlot 4))) (gFz (gSl (gSlot 1) (gPart (gFz (gOp2 addD (gSlot 2) (oC (.int 1))))) (G.ret none)))))
  gNext)
  (gSeq (gAsg (.nm 6) (gFz (gCallF fn__law_one (gAs [(gLent 0), (gArg (gVal (gFz (gLst [(gC (.str "\n")), (gC (.str " ")), (gC (.str " ")), (gC (.str ">"))]))))]))))
  (gSeq (gSet 7 (gMtS splitD (gSlot 1) (gOs [(gSlot 6)])))
  (gSeq (gAsg (.nm 2) (gFz (gCallF fn__law_pick (gAs [(gLent 0), (gArg (gVal (gFz (gOpN lenD (gOs [(gSlot 7)])))))]))))
  (gSeq (gIfS (gT2 ltA (gSlot 5) (oC (.int 5)))
  (gRet (gMtS joinD (gSlot 6) (gOs [(gFz (gOp2 addD (gFz (gSl (gSlot 7) (G.ret none) (gPart (gSlot 2)))) (gFz (gSl (gSlot 7) (gPart (gFz (gOp2 addD (gSlot 2) (oC (.int 1))))) (G.ret none)))))])))
  gNext)
  (gSeq (gIfS (gT2 eqD (gSlot 5) (oC (.int 5)))
  (gRet (gMtS joinD (gSlot 6) (gOs [(gFz (gOp2 addD (gFz (gSl (gSlot 7) (G.ret none) (gPart (gFz (gOp2 addD (gSlot 2) (oC (.int 1))))))) (gFz (gSl (gSlot 7) (gPart (gSlot 2)) (G.ret none)))))])))
  gNext)
  (gSeq (gAsg (.nm 8) (gFz (gCallF fn__law_pick (gAs [(gLent 0), (gArg (gVal (gFz (gOpN lenD (gOs [(gSlot 7)])))))]))))
  (gSeq (gSwap 7 (gSlot 2) (gSlot 8) (gTup [(gVal (gFz (gOp2 ixD (gSlot 7) (gSlot 8)))), (gVal (gFz (gOp2 ixD (gSlot 7) (gSlot 2))))]))
  (gRet (gMtS joinD (gSlot 6) (gOs [(gSlot 7)])))))))))))))))))
noncomputable def fn__law_bent_text : Fn := fnOf N__law_bent_text.length [true, true] g__law_bent_text
abbrev N__law_odd : List Str := ["_law_deck_here", "_law_some"]
noncomputable def g__law_odd : G Fl := (gSeq (gAsg (.nm 1) (gFz (gLst [(gC .none), (gC (.bool true)), (gC (.bool false)), (gC (.int 0)), (gC (.int 1)), (gVal (gFz (gNeg (oC (.int 1))))), (gC (.int 7)), (gC (.int 101)), (gVal (gFz (gOp2 powD (oC (.int 10)) (oC (.int 39))))), (gC (.str "")), (gC (.str "ann")), (gC (.str "abcdefghi")), (gC (.str "A")), (gVal (gFz (gTup []))), (gVal (gFz (gLst []))), (gVal (gFz (gTup [(gVal (gFz (gTup [])))]))), (gVal (gFz (gTup [(gC (.str "ann"))])))])))
  (gRet (gCallF fn__law_one (gAs [(gLent 0), (gArg (gVal (gFz (gOp2 addD (gSlot 1) (gFz (gLst [(gVal (gFz (gLst [(gC (.str "ann"))]))), (gVal (gFz (gTup [(gC (.str "ann")), (gC (.str "bo"))]))), (gVal (gFz (gTup [(gC (.str "ann")), (gC .none)]))), (gVal (gFz (gTup [(gC (.str "bo")), (gC (.str "ann")), (gC (.int 5))]))), (gVal (gFz (gTup [(gC (.str "settle"))]))), (gC (.str "zz"))]))))))]))))
noncomputable def fn__law_odd : Fn := fnOf N__law_odd.length [true] g__law_odd
abbrev N_is_rising : List Str := ["things", "one", "other"]
noncomputable def e1_is_rising : G Op := (gFz (gOp2 (cmpC ltD) (gSlot 1) (gSlot 2)))
theorem e1_is_rising_at (ρ : Nd.Env) : e1_is_rising ρ = (gFz (gOp2 (cmpC ltD) (gSlot 1) (gSlot 2))) ρ := rfl
noncomputable def g_is_rising : G Fl := (gRet (gOpN allD (gOs [(gFz (gComp (gZip (gSlot 0) (gFz (gSl (gSlot 0) (gPart (oC (.int 1))) (G.ret none)))) (.tu [(.nm 1), (.nm 2)]) [1, 2] (G.ret true) e1_is_rising))])))
noncomputable def fn_is_rising : Fn := fnOf N_is_rising.length [true] g_is_rising
abbrev N_is_from : List Str := ["thing", "low", "high"]
noncomputable def g_is_from : G Fl := (gRet (gAndV (gAsk (isTy .int) (gSlot 0)) (gAndV (gNotV (gAsk (isTy .bool) (gSlot 0))) (gB (gCh leA leA (gSlot 1) (gSlot 0) (gSlot 2))))))
noncomputable def fn_is_from : Fn := fnOf N_is_from.length [true, true, true] g_is_from
abbrev N_is_name : List Str := ["thing", "sign"]
noncomputable def e1_is_name : G Op := (gFz (gOp2 (cmpC inD) (gSlot 1) (oC (.str "abcdefghijklmnopqrstuvwxyz"))))
theorem e1_is_name_at (ρ : Nd.Env) : e1_is_name ρ = (gFz (gOp2 (cmpC inD) (gSlot 1) (oC (.str "abcdefghijklmnopqrstuvwxyz")))) ρ := rfl
noncomputable def g_is_name : G Fl := (gRet (gAndV (gAsk (isTy .str) (gSlot 0)) (gAndV (gB (gCh leA leA (oC (.int 1)) (gFz (gOpN lenD (gOs [(gSlot 0)]))) (oC (.int 8)))) (gOpN allD (gOs [(gFz (gComp (gItems (gFz (Nd.gName 0))) (.nm 1) [1] (G.ret true) e1_is_name))])))))
noncomputable def fn_is_name : Fn := fnOf N_is_name.length [true] g_is_name
abbrev N_is_tie : List Str := ["hands", "thing"]
noncomputable def g_is_tie : G Fl := (gSeq (gIfS (gOr (Nd.gNot (gTru (gAsk (isTy .tuple) (gSlot 1)))) (gOr (gT2 neD (gFz (gOpN lenD (gOs [(gSlot 1)]))) (oC (.int 3))) (gOr (Nd.gNot (gTru (gCallF fn_is_name (gAs [(gArg (gVal (gFz (gOp2 ixD (gSlot 1) (oC (.int 0))))))])))) (Nd.gNot (gTru (gCallF fn_is_name (gAs [(gArg (gVal (gFz (gOp2 ixD (gSlot 1) (oC (.int 1))))))])))))))
  (gRet (gC (.bool false)))
  gNext)
  (gSeq (gIfS (gOr (gT2 notInD (gFz (gOp2 ixD (gSlot 1) (oC (.int 0)))) (gSlot 0)) (gOr (gT2 notInD (gFz (gOp2 ixD (gSlot 1) (oC (.int 1)))) (gSlot 0)) (Nd.gNot (gT2 ltA (gFz (gOp2 ixD (gSlot 1) (oC (.int 0)))) (gFz (gOp2 ixD (gSlot 1) (oC (.int 1))))))))
  (gRet (gC (.bool false)))
  gNext)
  (gRet (gCallF fn_is_from (gAs [(gArg (gVal (gFz (gOp2 ixD (gSlot 1) (oC (.int 2)))))), (gArg (gC (.int 1))), (gArg (gC (.int 100)))])))))
noncomputable def fn_is_tie : Fn := fnOf N_is_tie.length [true, true] g_is_tie
abbrev N_is_net : List Str := ["thing", "hands", "ties", "tie", "one"]
noncomputable def e1_is_net : G Op := (gFz (gCallF fn_is_name (gAs [(gArg (Nd.gName 4))])))
theorem e1_is_net_at (ρ : Nd.Env) : e1_is_net ρ = (gFz (gCallF fn_is_name (gAs [(gArg (Nd.gName 4))]))) ρ := rfl
noncomputable def e2_is_net : G Op := (gFz (gCallF fn_is_tie (gAs [(gArg (Nd.gName 1)), (gArg (Nd.gName 3))])))
theorem e2_is_net_at (ρ : Nd.Env) : e2_is_net ρ = (gFz (gCallF fn_is_tie (gAs [(gArg (Nd.gName 1)), (gArg (Nd.gName 3))]))) ρ := rfl
noncomputable def e3_is_net : G Op := (gFz (gSl (gSlot 3) (G.ret none) (gPart (oC (.int 2)))))
theorem e3_is_net_at (ρ : Nd.Env) : e3_is_net ρ = (gFz (gSl (gSlot 3) (G.ret none) (gPart (oC (.int 2))))) ρ := rfl
noncomputable def g_is_net : G Fl := (gSeq (gIfS (gOr (Nd.gNot (gTru (gAsk (isTy .tuple) (gSlot 0)))) (gT2 neD (gFz (gOpN lenD (gOs [(gSlot 0)]))) (oC (.int 2))))
  (gRet (gC (.bool false)))
  gNext)
  (gSeq (gAsg (.tu [(.nm 1), (.nm 2)]) (gFz (Nd.gName 0)))
  (gSeq (gIfS (gOr (Nd.gNot (gTru (gAsk (isTy .tuple) (gSlot 1)))) (gOr (Nd.gNot (gCh leA leA (oC (.int 1)) (gFz (gOpN lenD (gOs [(gSlot 1)]))) (oC (.int 8)))) (Nd.gNot (gTru (gOpN allD (gOs [(gFz (gComp (gItems (gFz (Nd.gName 1))) (.nm 4) [4] (G.ret true) e1_is_net))]))))))
  (gRet (gC (.bool false)))
  gNext)
  (gSeq (gIfS (gOr (Nd.gNot (gTru (gCallF fn_is_rising (gAs [(gArg (Nd.gName 1))])))) (gOr (Nd.gNot (gTru (gAsk (isTy .tuple) (gSlot 2)))) (gT2 gtA (gFz (gOpN lenD (gOs [(gSlot 2)]))) (oC (.int 16)))))
  (gRet (gC (.bool false)))
  gNext)
  (gRet (gAndV (gOpN allD (gOs [(gFz (gComp (gItems (gFz (Nd.gName 2))) (.nm 3) [3] (G.ret true) e2_is_net))])) (gCallF fn_is_rising (gAs [(gArg (gVal (gFz (gComp (gItems (gFz (Nd.gName 2))) (.nm 3) [3] (G.ret true) e3_is_net))))]))))))))
noncomputable def fn_is_net : Fn := fnOf N_is_net.length [true] g_is_net
abbrev N__law_number : List Str := ["_law_word", "_law_sign"]
noncomputable def t1__law_number : G Bool := (Nd.gNot (gCh leA leA (oC (.str "0")) (gSlot 1) (oC (.str "9"))))
theorem t1__law_number_at (ρ : Nd.Env) : t1__law_number ρ = (Nd.gNot (gCh leA leA (oC (.str "0")) (gSlot 1) (oC (.str "9")))) ρ := rfl
noncomputable def e2__law_number : G Op := (gFz (Nd.gName 1))
theorem e2__law_number_at (ρ : Nd.Env) : e2__law_number ρ = (gFz (Nd.gName 1)) ρ := rfl
noncomputable def g__law_number : G Fl := (gSeq (gIfS (gOr (gT2 eqD (gSlot 0) (oC (.str ""))) (gOr (gT2 gtA (gFz (gOpN lenD (gOs [(gSlot 0)]))) (oC (.int 3))) (gT2 neD (gFz (gComp (gItems (gFz (Nd.gName 0))) (.nm 1) [1] t1__law_number e2__law_number)) (gFz (gLst [])))))
  (gRet (gC .none))
  gNext)
  (gRet (gIf (gT2 eqD (gFz (gOpN strD (gOs [(gFz (gOpN intD (gOs [(gSlot 0)])))]))) (gSlot 0)) (gOpN intD (gOs [(gSlot 0)])) (gC .none))))
noncomputable def fn__law_number : Fn := fnOf N__law_number.length [true] g__law_number
abbrev N__law_read_net : List Str := ["_law_thing", "_law_rows", "_law_ties", "_law_words", "_law_net_here", "_law_row"]
noncomputable def e1__law_read_net : G Op := (gFz (gMtS splitD (gSlot 5) (gOs [(oC (.str " "))])))
theorem e1__law_read_net_at (ρ : Nd.Env) : e1__law_read_net ρ = (gFz (gMtS splitD (gSlot 5) (gOs [(oC (.str " "))]))) ρ := rfl
noncomputable def b2__law_read_net : G Fl := (gSeq (gIfS (gOr (gT2 neD (gFz (gOpN lenD (gOs [(gSlot 3)]))) (oC (.int 4))) (gT2 neD (gFz (gOp2 ixD (gSlot 3) (oC (.int 0)))) (oC (.str "tie"))))
  (gRet (gC .none))
  gNext)
  (gDrop (gApp 2 (gTup [(gVal (gFz (gOp2 ixD (gSlot 3) (oC (.int 1))))), (gVal (gFz (gOp2 ixD (gSlot 3) (oC (.int 2))))), (gVal (gFz (gCallF fn__law_number (gAs [(gArg (gVal (gFz (gOp2 ixD (gSlot 3) (oC (.int 3))))))]))))]))))
theorem b2__law_read_net_at (ρ : Nd.Env) : b2__law_read_net ρ = (gSeq (gIfS (gOr (gT2 neD (gFz (gOpN lenD (gOs [(gSlot 3)]))) (oC (.int 4))) (gT2 neD (gFz (gOp2 ixD (gSlot 3) (oC (.int 0)))) (oC (.str "tie"))))
  (gRet (gC .none))
  gNext)
  (gDrop (gApp 2 (gTup [(gVal (gFz (gOp2 ixD (gSlot 3) (oC (.int 1))))), (gVal (gFz (gOp2 ixD (gSlot 3) (oC (.int 2))))), (gVal (gFz (gCallF fn__law_number (gAs [(gArg (gVal (gFz (gOp2 ixD (gSlot 3) (oC (.int 3))))))]))))])))) ρ := rfl
noncomputable def g__law_read_net : G Fl := (gSeq (gIfS (Nd.gNot (gTru (gAsk (isTy .str) (gSlot 0))))
  (gRet (gC .none))
  gNext)
  (gSeq (gSet 1 (gComp (gItems (gFz (gMtS splitD (gSlot 0) (gOs [(oC (.str "\n"))])))) (.nm 5) [5] (G.ret true) e1__law_read_net))
  (gSeq (gSet 2 (gLst []))
  (gSeq (gFor (gItems (gFz (gSl (gSlot 1) (gPart (oC (.int 1))) (G.ret none)))) (.nm 3)
  b2__law_read_net)
  (gSeq (gAsg (.nm 4) (gFz (gTup [(gVal (gFz (gOpN tupleD (gOs [(gFz (gSl (gFz (gOp2 ixD (gSlot 1) (oC (.int 0)))) (gPart (oC (.int 1))) (G.ret none)))])))), (gVal (gFz (gOpN tupleD (gOs [(gSlot 2)]))))])))
  (gRet (gIf (gAnd (gT2 eqD (gFz (gOp2 ixD (gFz (gOp2 ixD (gSlot 1) (oC (.int 0)))) (oC (.int 0)))) (oC (.str "hands"))) (gTru (gCallF fn_is_net (gAs [(gArg (Nd.gName 4))])))) (Nd.gName 4) (gC .none))))))))
noncomputable def fn__law_read_net : Fn := fnOf N__law_read_net.length [true] g__law_read_net
abbrev N_neighbours : List Str := ["net", "hand", "found", "tie"]
noncomputable def t1_neighbours : G Bool := (gT2 eqD (gFz (gOp2 ixD (gSlot 3) (oC (.int 0)))) (gSlot 1))
theorem t1_neighbours_at (ρ : Nd.Env) : t1_neighbours ρ = (gT2 eqD (gFz (gOp2 ixD (gSlot 3) (oC (.int 0)))) (gSlot 1)) ρ := rfl
noncomputable def e2_neighbours : G Op := (gFz (gOp2 ixD (gSlot 3) (oC (.int 1))))
theorem e2_neighbours_at (ρ : Nd.Env) : e2_neighbours ρ = (gFz (gOp2 ixD (gSlot 3) (oC (.int 1)))) ρ := rfl
noncomputable def t3_neighbours : G Bool := (gT2 eqD (gFz (gOp2 ixD (gSlot 3) (oC (.int 1)))) (gSlot 1))
theorem t3_neighbours_at (ρ : Nd.Env) : t3_neighbours ρ = (gT2 eqD (gFz (gOp2 ixD (gSlot 3) (oC (.int 1)))) (gSlot 1)) ρ := rfl
noncomputable def e4_neighbours : G Op := (gFz (gOp2 ixD (gSlot 3) (oC (.int 0))))
theorem e4_neighbours_at (ρ : Nd.Env) : e4_neighbours ρ = (gFz (gOp2 ixD (gSlot 3) (oC (.int 0)))) ρ := rfl
noncomputable def g_neighbours : G Fl := (gSeq (gAsg (.nm 2) (gFz (gOp2 addD (gFz (gComp (gItems (gFz (gOp2 ixD (gSlot 0) (oC (.int 1))))) (.nm 3) [3] t1_neighbours e2_neighbours)) (gFz (gComp (gItems (gFz (gOp2 ixD (gSlot 0) (oC (.int 1))))) (.nm 3) [3] t3_neighbours e4_neighbours)))))
  (gRet (gOpN sortDD (gOs [(gSlot 2)]))))
noncomputable def fn_neighbours : Fn := fnOf N_neighbours.length [true, true] g_neighbours
abbrev N_is_state : List Str := ["net", "thing", "hand", "row"]
noncomputable def b1_is_state : G Fl := (gSeq (gIfS (gOr (Nd.gNot (gTru (gAsk (isTy .tuple) (gSlot 3)))) (gOr (gT2 neD (gFz (gOpN lenD (gOs [(gSlot 3)]))) (oC (.int 2))) (gOr (Nd.gNot (gTru (gAsk (isTy .str) (gFz (gOp2 ixD (gSlot 3) (oC (.int 0))))))) (gT2 neD (gFz (gOp2 ixD (gSlot 3) (oC (.int 0)))) (gSlot 2)))))
  (gRet (gC (.bool false)))
  gNext)
  (gIfS (gAnd (gT2 notND (gFz (gOp2 ixD (gSlot 3) (oC (.int 1)))) (oC .none)) (gOr (Nd.gNot (gTru (gAsk (isTy .str) (gFz (gOp2 ixD (gSlot 3) (oC (.int 1))))))) (gT2 notInD (gFz (gOp2 ixD (gSlot 3) (oC (.int 1)))) (gFz (gCallF fn_neighbours (gAs [(gArg (Nd.gName 0)), (gArg (Nd.gName 2))]))))))
  (gRet (gC (.bool false)))
  gNext))
theorem b1_is_state_at (ρ : Nd.Env) : b1_is_state ρ = (gSeq (gIfS (gOr (Nd.gNot (gTru (gAsk (isTy .tuple) (gSlot 3)))) (gOr (gT2 neD (gFz (gOpN lenD (gOs [(gSlot 3)]))) (oC (.int 2))) (gOr (Nd.gNot (gTru (gAsk (isTy .str) (gFz (gOp2 ixD (gSlot 3) (oC (.int 0))))))) (gT2 neD (gFz (gOp2 ixD (gSlot 3) (oC (.int 0)))) (gSlot 2)))))
  (gRet (gC (.bool false)))
  gNext)
  (gIfS (gAnd (gT2 notND (gFz (gOp2 ixD (gSlot 3) (oC (.int 1)))) (oC .none)) (gOr (Nd.gNot (gTru (gAsk (isTy .str) (gFz (gOp2 ixD (gSlot 3) (oC (.int 1))))))) (gT2 notInD (gFz (gOp2 ixD (gSlot 3) (oC (.int 1)))) (gFz (gCallF fn_neighbours (gAs [(gArg (Nd.gName 0)), (gArg (Nd.gName 2))]))))))
  (gRet (gC (.bool false)))
  gNext)) ρ := rfl
noncomputable def g_is_state : G Fl := (gSeq (gIfS (gOr (Nd.gNot (gTru (gAsk (isTy .tuple) (gSlot 1)))) (gT2 neD (gFz (gOpN lenD (gOs [(gSlot 1)]))) (gFz (gOpN lenD (gOs [(gFz (gOp2 ixD (gSlot 0) (oC (.int 0))))])))))
  (gRet (gC (.bool false)))
  gNext)
  (gSeq (gFor (gZip (gFz (gOp2 ixD (gSlot 0) (oC (.int 0)))) (gSlot 1)) (.tu [(.nm 2), (.nm 3)])
  b1_is_state)
  (gRet (gC (.bool true)))))
noncomputable def fn_is_state : Fn := fnOf N_is_state.length [true, true] g_is_state
abbrev N__law_read_state : List Str := ["_law_net_here", "_law_thing", "_law_found", "_law_word", "_law_parts"]
noncomputable def b1__law_read_state : G Fl := (gSeq (gAsg (.nm 4) (gFz (gMtS splitD (gSlot 3) (gOs [(oC (.str ">"))]))))
  (gSeq (gIfS (gT2 neD (gFz (gOpN lenD (gOs [(gSlot 4)]))) (oC (.int 2)))
  (gRet (gC .none))
  gNext)
  (gDrop (gApp 2 (gTup [(gVal (gFz (gOp2 ixD (gSlot 4) (oC (.int 0))))), (gVal (gFz (gIf (gT2 eqD (gFz (gOp2 ixD (gSlot 4) (oC (.int 1)))) (oC (.str "-"))) (gC .none) (gOp2 ixD (gSlot 4) (oC (.int 1))))))])))))
theorem b1__law_read_state_at (ρ : Nd.Env) : b1__law_read_state ρ = (gSeq (gAsg (.nm 4) (gFz (gMtS splitD (gSlot 3) (gOs [(oC (.str ">"))]))))
  (gSeq (gIfS (gT2 neD (gFz (gOpN lenD (gOs [(gSlot 4)]))) (oC (.int 2)))
  (gRet (gC .none))
  gNext)
  (gDrop (gApp 2 (gTup [(gVal (gFz (gOp2 ixD (gSlot 4) (oC (.int 0))))), (gVal (gFz (gIf (gT2 eqD (gFz (gOp2 ixD (gSlot 4) (oC (.int 1)))) (oC (.str "-"))) (gC .none) (gOp2 ixD (gSlot 4) (oC (.int 1))))))]))))) ρ := rfl
noncomputable def g__law_read_state : G Fl := (gSeq (gIfS (Nd.gNot (gTru (gAsk (isTy .str) (gSlot 1))))
  (gRet (gC .none))
  gNext)
  (gSeq (gSet 2 (gLst []))
  (gSeq (gFor (gItems (gFz (gMtS splitD (gSlot 1) (gOs [(oC (.str " "))])))) (.nm 3)
  b1__law_read_state)
  (gRet (gIf (gTru (gCallF fn_is_state (gAs [(gArg (Nd.gName 0)), (gArg (gVal (gFz (gOpN tupleD (gOs [(gSlot 2)])))))]))) (gOpN tupleD (gOs [(gSlot 2)])) (gC .none))))))
noncomputable def fn__law_read_state : Fn := fnOf N__law_read_state.length [true, true] g__law_read_state
abbrev N__law_sort : List Str := ["_law_thing"]
noncomputable def g__law_sort : G Fl := (gSeq (gIfS (gTru (gAsk (isTy .bool) (gSlot 0)))
  (gRet (gC (.str "truth")))
  gNext)
  (gSeq (gIfS (gTru (gAsk (isTy .int) (gSlot 0)))
  (gRet (gC (.str "number")))
  gNext)
  (gSeq (gIfS (gTru (gAsk (isTy .tuple) (gSlot 0)))
  (gRet (gC (.str "tuple")))
  gNext)
  (gRet (gIf (gTru (gAsk (isTy .list) (gSlot 0))) (gC (.str "list")) (gC (.str "other")))))))
noncomputable def fn__law_sort : Fn := fnOf N__law_sort.length [true] g__law_sort
abbrev N__law_same : List Str := ["_law_told", "_law_due", "_law_k", "_law_part"]
noncomputable def t1__law_same (rec : Fn) : G Bool := (Nd.gNot (gTru (gCallF rec (gAs [(gArg (Nd.gName 3)), (gArg (gVal (gFz (gOp2 ixD (gSlot 1) (gSlot 2)))))]))))
theorem t1__law_same_at (rec : Fn) (ρ : Nd.Env) : t1__law_same rec ρ = (Nd.gNot (gTru (gCallF rec (gAs [(gArg (Nd.gName 3)), (gArg (gVal (gFz (gOp2 ixD (gSlot 1) (gSlot 2)))))])))) ρ := rfl
noncomputable def e2__law_same (rec : Fn) : G Op := (gFz (Nd.gName 2))
theorem e2__law_same_at (rec : Fn) (ρ : Nd.Env) : e2__law_same rec ρ = (gFz (Nd.gName 2)) ρ := rfl
noncomputable def g__law_same (rec : Fn) : G Fl := (gSeq (gIfS (gT2 neD (gFz (gCallF fn__law_sort (gAs [(gArg (Nd.gName 0))]))) (gFz (gCallF fn__law_sort (gAs [(gArg (Nd.gName 1))]))))
  (gRet (gC (.bool false)))
  gNext)
  (gSeq (gIfS (Nd.gNot (gTru (gAsk (fun d => isTy .tuple d || isTy .list d) (gSlot 0))))
  (gRet (gOp2 (cmpC eqD) (gSlot 0) (gSlot 1)))
  gNext)
  (gSeq (gIfS (gT2 neD (gFz (gOpN lenD (gOs [(gSlot 0)]))) (gFz (gOpN lenD (gOs [(gSlot 1)]))))
  (gRet (gC (.bool false)))
  gNext)
  (gRet (gOp2 (cmpC eqD) (gFz (gComp (gEnumA (gSlot 0)) (.tu [(.nm 2), (.nm 3)]) [2, 3] (t1__law_same rec) (e2__law_same rec))) (gFz (gLst [])))))))
noncomputable def fn__law_same : Nat → Fn
  | 0 => fun _ => .bad
  | k0 + 1 => fnOf N__law_same.length [true, true] (g__law_same (fn__law_same k0))
abbrev N__law_kin : List Str := ["_law_e", "_law_kinds", "_law_names", "_law_name", "_law_kind"]
noncomputable def t1__law_kin : G Bool := (gTru (Nd.gName 4))
theorem t1__law_kin_at (ρ : Nd.Env) : t1__law_kin ρ = (gTru (Nd.gName 4)) ρ := rfl
noncomputable def e2__law_kin : G Op := (gFz (Nd.gName 3))
theorem e2__law_kin_at (ρ : Nd.Env) : e2__law_kin ρ = (gFz (Nd.gName 3)) ρ := rfl
noncomputable def g__law_kin (i : RfK × Str) : G Fl := (gSeq (gAsg (.nm 1) (gFz (gLst [(gVal (gFz (gIsE 0 i.1 (decide (i.2 = "NoMove"))))), (gVal (gFz (gIsE 0 i.1 (decide (i.2 = "TooMany"))))), (gVal (gFz (gIsE 0 i.1 (decide (i.2 = "NoHand"))))), (gVal (gFz (gIsE 0 i.1 (decide (i.2 = "NoLetter")))))])))
  (gSeq (gAsg (.nm 1) (gFz (gOp2 addD (gSlot 1) (gFz (gLst [(gVal (gFz (gIsE 0 i.1 (decide (i.2 = "NothingLeft"))))), (gVal (gFz (gIsE 0 i.1 (decide (i.2 = "NoNet"))))), (gVal (gFz (gIsE 0 i.1 (decide (i.2 = "NoName"))))), (gVal (gFz (gIsE 0 i.1 (decide (i.2 = "Taken")))))])))))
  (gSeq (gAsg (.nm 1) (gFz (gOp2 addD (gSlot 1) (gFz (gLst [(gVal (gFz (gIsE 0 i.1 (decide (i.2 = "Last"))))), (gVal (gFz (gIsE 0 i.1 (decide (i.2 = "Same"))))), (gVal (gFz (gIsE 0 i.1 (decide (i.2 = "Tied"))))), (gVal (gFz (gIsE 0 i.1 (decide (i.2 = "NotTied")))))])))))
  (gSeq (gAsg (.nm 1) (gFz (gOp2 addD (gSlot 1) (gFz (gLst [(gVal (gFz (gIsE 0 i.1 (decide (i.2 = "NoWeight"))))), (gVal (gFz (gIsE 0 i.1 (decide (i.2 = "NoState"))))), (gVal (gFz (gIsE 0 i.1 (decide (i.2 = "NoDeeds"))))), (gVal (gFz (gIsE 0 i.1 (decide (i.2 = "NoText")))))])))))
  (gSeq (gAsg (.nm 1) (gFz (gOp2 addD (gSlot 1) (gFz (gLst [(gVal (gFz (gIsE 0 i.1 (decide (i.2 = "NoRow"))))), (gVal (gFz (gIsE 0 i.1 true)))])))))
  (gSeq (gAsg (.nm 2) (gFz (gLst [(gC (.str "NoMove")), (gC (.str "TooMany")), (gC (.str "NoHand")), (gC (.str "NoLetter")), (gC (.str "NothingLeft")), (gC (.str "NoNet")), (gC (.str "NoName")), (gC (.str "Taken")), (gC (.str "Last")), (gC (.str "Same"))])))
  (gSeq (gAsg (.nm 2) (gFz (gOp2 addD (gSlot 2) (gFz (gLst [(gC (.str "Tied")), (gC (.str "NotTied")), (gC (.str "NoWeight")), (gC (.str "NoState")), (gC (.str "NoDeeds")), (gC (.str "NoText")), (gC (.str "NoRow")), (gC (.str "+"))])))))
  (gRet (gMtS joinD (oC (.str "")) (gOs [(gFz (gComp (gZipL (gSlot 2) (gSlot 1)) (.tu [(.nm 3), (.nm 4)]) [3, 4] t1__law_kin e2__law_kin))]))))))))))
noncomputable def fn__law_kin (r : RfK) (nm : Str) : Fn := fnOf N__law_kin.length [true] (g__law_kin (r, nm))
abbrev N_state_text : List Str := ["state", "hand", "at"]
noncomputable def e1_state_text : G Op := (gFz (gJs [(gTx (gSlot 1)), (gTc ">"), (gTx (gFz (gOrX (gSlot 2) (gC (.str "-")))))]))
theorem e1_state_text_at (ρ : Nd.Env) : e1_state_text ρ = (gFz (gJs [(gTx (gSlot 1)), (gTc ">"), (gTx (gFz (gOrX (gSlot 2) (gC (.str "-")))))])) ρ := rfl
noncomputable def g_state_text : G Fl := (gRet (gMtS joinD (oC (.str " ")) (gOs [(gFz (gComp (gItems (gFz (Nd.gName 0))) (.tu [(.nm 1), (.nm 2)]) [1, 2] (G.ret true) e1_state_text))])))
noncomputable def fn_state_text : Fn := fnOf N_state_text.length [true] g_state_text
abbrev N_pointer_in : List Str := ["word", "hand", "mark", "at"]
noncomputable def g_pointer_in : G Fl := (gSeq (gAsg (.tu [(.nm 1), (.nm 2), (.nm 3)]) (gFz (gMtS partD (gSlot 0) (gOs [(oC (.str ">"))]))))
  (gRet (gTup [(Nd.gName 1), (gVal (gFz (gIf (gT2 eqD (gSlot 3) (oC (.str "-"))) (gC .none) (Nd.gName 3))))])))
noncomputable def fn_pointer_in : Fn := fnOf N_pointer_in.length [true] g_pointer_in
abbrev N_read_state : List Str := ["net", "text", "state", "word"]
noncomputable def e1_read_state : G Op := (gFz (gCallF fn_pointer_in (gAs [(gArg (Nd.gName 3))])))
theorem e1_read_state_at (ρ : Nd.Env) : e1_read_state ρ = (gFz (gCallF fn_pointer_in (gAs [(gArg (Nd.gName 3))]))) ρ := rfl
noncomputable def g_read_state : G Fl := (gSeq (gAsg (.nm 2) (gFz (gIf (gTru (gAsk (isTy .str) (gSlot 1))) (gOpN tupleD (gOs [(gFz (gComp (gItems (gFz (gMtS splitD (gSlot 1) (gOs [(oC (.str " "))])))) (.nm 3) [3] (G.ret true) e1_read_state))])) (gC .none))))
  (gSeq (gIfS (gOr (Nd.gNot (gTru (gCallF fn_is_state (gAs [(gArg (Nd.gName 0)), (gArg (Nd.gName 2))])))) (gT2 neD (gFz (gCallF fn_state_text (gAs [(gArg (Nd.gName 2))]))) (gSlot 1)))
  (gRaise "NoText")
  gNext)
  (gRet (Nd.gName 2))))
noncomputable def fn_read_state : Fn := fnOf N_read_state.length [true, true] g_read_state
abbrev N_net_text : List Str := ["net", "rows", "one", "other", "weight"]
noncomputable def e1_net_text : G Op := (gFz (gJs [(gTc "tie "), (gTx (gSlot 2)), (gTc " "), (gTx (gSlot 3)), (gTc " "), (gTx (gSlot 4))]))
theorem e1_net_text_at (ρ : Nd.Env) : e1_net_text ρ = (gFz (gJs [(gTc "tie "), (gTx (gSlot 2)), (gTc " "), (gTx (gSlot 3)), (gTc " "), (gTx (gSlot 4))])) ρ := rfl
noncomputable def g_net_text : G Fl := (gSeq (gAsg (.nm 1) (gFz (gLst [(gVal (gFz (gMtS joinD (oC (.str " ")) (gOs [(gFz (gOp2 addD (gFz (gLst [(gC (.str "hands"))])) (gFz (gOpN listD (gOs [(gFz (gOp2 ixD (gSlot 0) (oC (.int 0))))])))))]))))])))
  (gRet (gMtS joinD (oC (.str "\n")) (gOs [(gFz (gOp2 addD (gSlot 1) (gFz (gComp (gItems (gFz (gOp2 ixD (gSlot 0) (oC (.int 1))))) (.tu [(.nm 2), (.nm 3), (.nm 4)]) [2, 3, 4] (G.ret true) e1_net_text))))]))))
noncomputable def fn_net_text : Fn := fnOf N_net_text.length [true] g_net_text
abbrev N_number_in : List Str := ["word", "sign"]
noncomputable def e1_number_in : G Op := (gFz (gOp2 (cmpC inD) (gSlot 1) (oC (.str "0123456789"))))
theorem e1_number_in_at (ρ : Nd.Env) : e1_number_in ρ = (gFz (gOp2 (cmpC inD) (gSlot 1) (oC (.str "0123456789")))) ρ := rfl
noncomputable def g_number_in : G Fl := (gSeq (gIfS (gOr (Nd.gNot (gCh leA leA (oC (.int 1)) (gFz (gOpN lenD (gOs [(gSlot 0)]))) (oC (.int 3)))) (gOr (Nd.gNot (gTru (gOpN allD (gOs [(gFz (gComp (gItems (gFz (Nd.gName 0))) (.nm 1) [1] (G.ret true) e1_number_in))])))) (gT2 neD (gFz (gOpN strD (gOs [(gFz (gOpN intD (gOs [(gSlot 0)])))]))) (gSlot 0))))
  (gRet (gC .none))
  gNext)
  (gRet (gOpN intD (gOs [(gSlot 0)]))))
noncomputable def fn_number_in : Fn := fnOf N_number_in.length [true] g_number_in
abbrev N_tie_in : List Str := ["row", "words"]
noncomputable def g_tie_in : G Fl := (gSeq (gAsg (.nm 1) (gFz (gMtS splitD (gSlot 0) (gOs [(oC (.str " "))]))))
  (gSeq (gIfS (gOr (gT2 neD (gFz (gOpN lenD (gOs [(gSlot 1)]))) (oC (.int 4))) (gT2 neD (gFz (gOp2 ixD (gSlot 1) (oC (.int 0)))) (oC (.str "tie"))))
  (gRet (gC .none))
  gNext)
  (gRet (gTup [(gVal (gFz (gOp2 ixD (gSlot 1) (oC (.int 1))))), (gVal (gFz (gOp2 ixD (gSlot 1) (oC (.int 2))))), (gVal (gFz (gCallF fn_number_in (gAs [(gArg (gVal (gFz (gOp2 ixD (gSlot 1) (oC (.int 3))))))]))))]))))
noncomputable def fn_tie_in : Fn := fnOf N_tie_in.length [true] g_tie_in
abbrev N_read_net : List Str := ["text", "rows", "words", "net", "row"]
noncomputable def e1_read_net : G Op := (gFz (gCallF fn_tie_in (gAs [(gArg (Nd.gName 4))])))
theorem e1_read_net_at (ρ : Nd.Env) : e1_read_net ρ = (gFz (gCallF fn_tie_in (gAs [(gArg (Nd.gName 4))]))) ρ := rfl
noncomputable def g_read_net : G Fl := (gSeq (gAsg (.nm 1) (gFz (gIf (gTru (gAsk (isTy .str) (gSlot 0))) (gMtS splitD (gSlot 0) (gOs [(oC (.str "\n"))])) (gLst [(gC (.str ""))]))))
  (gSeq (gAsg (.nm 2) (gFz (gMtS splitD (gFz (gOp2 ixD (gSlot 1) (oC (.int 0)))) (gOs [(oC (.str " "))]))))
  (gSeq (gAsg (.nm 3) (gFz (gTup [(gVal (gFz (gOpN tupleD (gOs [(gFz (gSl (gSlot 2) (gPart (oC (.int 1))) (G.ret none)))])))), (gVal (gFz (gOpN tupleD (gOs [(gFz (gComp (gItems (gFz (gSl (gSlot 1) (gPart (oC (.int 1))) (G.ret none)))) (.nm 4) [4] (G.ret true) e1_read_net))]))))])))
  (gSeq (gIfS (gOr (gT2 neD (gFz (gOp2 ixD (gSlot 2) (oC (.int 0)))) (oC (.str "hands"))) (gOr (Nd.gNot (gTru (gCallF fn_is_net (gAs [(gArg (Nd.gName 3))])))) (gT2 neD (gFz (gCallF fn_net_text (gAs [(gArg (Nd.gName 3))]))) (gSlot 0))))
  (gRaise "NoText")
  gNext)
  (gRet (Nd.gName 3))))))
noncomputable def fn_read_net : Fn := fnOf N_read_net.length [true] g_read_net
abbrev N__law_right_reads : List Str := ["_law_net_here", "_law_thing", "_law_due"]
noncomputable def l1__law_right_reads : G C := (gCallF fn_read_net (gAs [(gArg (Nd.gName 1))]))
theorem l1__law_right_reads_at (ρ : Nd.Env) : l1__law_right_reads ρ = (gCallF fn_read_net (gAs [(gArg (Nd.gName 1))])) ρ := rfl
noncomputable def l2__law_right_reads : G C := (gCallF fn_read_state (gAs [(gArg (Nd.gName 0)), (gArg (Nd.gName 1))]))
theorem l2__law_right_reads_at (ρ : Nd.Env) : l2__law_right_reads ρ = (gCallF fn_read_state (gAs [(gArg (Nd.gName 0)), (gArg (Nd.gName 1))])) ρ := rfl
noncomputable def g__law_right_reads : G Fl := (gSeq (gAsg (.nm 2) (gFz (gCallF fn__law_read_net (gAs [(gArg (Nd.gName 1))]))))
  (gSeq (gIfS (Nd.gNot (gTru (gCallF (fn__law_same 6) (gAs [(gArg (gVal (gFz (gTry l1__law_right_reads)))), (gArg (gVal (gFz (gIf (gT2 isND (gSlot 2) (oC .none)) (gC (.str "NoText+")) (gTup [(gC (.str "told")), (Nd.gName 2)])))))]))))
  (gRet (gC (.bool false)))
  gNext)
  (gSeq (gAsg (.nm 2) (gFz (gCallF fn__law_read_state (gAs [(gArg (Nd.gName 0)), (gArg (Nd.gName 1))]))))
  (gRet (gCallF (fn__law_same 6) (gAs [(gArg (gVal (gFz (gTry l2__law_right_reads)))), (gArg (gVal (gFz (gIf (gT2 isND (gSlot 2) (oC .none)) (gC (.str "NoText+")) (gTup [(gC (.str "told")), (Nd.gName 2)])))))]))))))
noncomputable def fn__law_right_reads : Fn := fnOf N__law_right_reads.length [true, true] g__law_right_reads
abbrev N_law : List Str := ["_law_script", "_law_some", "_law_cell", "_law_deck_here", "_law_net_here", "_law_state_here", "_law_texts_here", "_law_k", "_law_thing", "_law_bent"]
noncomputable def b1_law : G Fl := (gIfS (Nd.gNot (gTru (gCallF fn__law_right_reads (gAs [(gArg (Nd.gName 4)), (gArg (Nd.gName 8))]))))
  (gRet (gC (.bool false)))
  gNext)
theorem b1_law_at (ρ : Nd.Env) : b1_law ρ = (gIfS (Nd.gNot (gTru (gCallF fn__law_right_reads (gAs [(gArg (Nd.gName 4)), (gArg (Nd.gName 8))]))))
  (gRet (gC (.bool false)))
  gNext) ρ := rfl
noncomputable def b2_law : G Fl := (gSeq (gAsg (.nm 9) (gFz (gCallF fn__law_bent_text (gAs [(gLent 3), (gArg (gVal (gFz (gCallF fn__law_one (gAs [(gLent 3), (gArg (Nd.gName 6))])))))]))))
  (gFor (gItems (gFz (gLst [(Nd.gName 9), (gVal (gFz (gCallF fn__law_bent_text (gAs [(gLent 3), (gArg (Nd.gName 9))])))), (gVal (gFz (gCallF fn__law_odd (gAs [(gLent 3)])))), (gVal (gFz (gLst [(Nd.gName 9)])))]))) (.nm 8)
  b1_law))
theorem b2_law_at (ρ : Nd.Env) : b2_law ρ = (gSeq (gAsg (.nm 9) (gFz (gCallF fn__law_bent_text (gAs [(gLent 3), (gArg (gVal (gFz (gCallF fn__law_one (gAs [(gLent 3), (gArg (Nd.gName 6))])))))]))))
  (gFor (gItems (gFz (gLst [(Nd.gName 9), (gVal (gFz (gCallF fn__law_bent_text (gAs [(gLent 3), (gArg (Nd.gName 9))])))), (gVal (gFz (gCallF fn__law_odd (gAs [(gLent 3)])))), (gVal (gFz (gLst [(Nd.gName 9)])))]))) (.nm 8)
  b1_law)) ρ := rfl
noncomputable def l3_law : G C := (gCallF fn_read_net (gAs [(gArg (Nd.gName 8))]))
theorem l3_law_at (ρ : Nd.Env) : l3_law ρ = (gCallF fn_read_net (gAs [(gArg (Nd.gName 8))])) ρ := rfl
noncomputable def b4_law : G Fl := (gIfS (gOr (gT2 neD (gFz (gTry l3_law)) (oC (.str "NoText+"))) (Nd.gNot (gTru (gCallF fn__law_right_reads (gAs [(gArg (Nd.gName 4)), (gArg (Nd.gName 8))])))))
  (gRet (gC (.bool false)))
  gNext)
theorem b4_law_at (ρ : Nd.Env) : b4_law ρ = (gIfS (gOr (gT2 neD (gFz (gTry l3_law)) (oC (.str "NoText+"))) (Nd.gNot (gTru (gCallF fn__law_right_reads (gAs [(gArg (Nd.gName 4)), (gArg (Nd.gName 8))])))))
  (gRet (gC (.bool false)))
  gNext) ρ := rfl
noncomputable def b5_law : G Fl := (gSeq (gSet 3 (gCallF fn__law_deck (gAs [(gArg (Nd.gName 2)), (gArg (gC (.int 41)))])))
  (gSeq (gAsg (.nm 4) (gFz (gCallF fn__law_net (gAs [(gLent 3), (gArg (gC (.int 6)))]))))
  (gSeq (gAsg (.nm 5) (gFz (gCallF fn__law_state (gAs [(gLent 3), (gArg (Nd.gName 4))]))))
  (gSeq (gAsg (.nm 6) (gFz (gLst [(gVal (gFz (gCallF fn__law_net_text (gAs [(gArg (Nd.gName 4))])))), (gVal (gFz (gCallF fn__law_state_text (gAs [(gArg (Nd.gName 5))])))), (gVal (gFz (gCallF fn__law_one (gAs [(gLent 3), (gLent 1)]))))])))
  (gSeq (gFor (gRng1 (gOs [(oC (.int 6))])) (.nm 7)
  b2_law)
  (gFor (gItems (gSlot 1)) (.nm 8)
  b4_law))))))
theorem b5_law_at (ρ : Nd.Env) : b5_law ρ = (gSeq (gSet 3 (gCallF fn__law_deck (gAs [(gArg (Nd.gName 2)), (gArg (gC (.int 41)))])))
  (gSeq (gAsg (.nm 4) (gFz (gCallF fn__law_net (gAs [(gLent 3), (gArg (gC (.int 6)))]))))
  (gSeq (gAsg (.nm 5) (gFz (gCallF fn__law_state (gAs [(gLent 3), (gArg (Nd.gName 4))]))))
  (gSeq (gAsg (.nm 6) (gFz (gLst [(gVal (gFz (gCallF fn__law_net_text (gAs [(gArg (Nd.gName 4))])))), (gVal (gFz (gCallF fn__law_state_text (gAs [(gArg (Nd.gName 5))])))), (gVal (gFz (gCallF fn__law_one (gAs [(gLent 3), (gLent 1)]))))])))
  (gSeq (gFor (gRng1 (gOs [(oC (.int 6))])) (.nm 7)
  b2_law)
  (gFor (gItems (gSlot 1)) (.nm 8)
  b4_law)))))) ρ := rfl
noncomputable def g_law : G Fl := (gSeq (gSet 1 (gLst [(gC (.str "")), (gC (.str "hands")), (gC (.str "hands ")), (gC (.str "hands ann ann")), (gC (.str "hands bo ann")), (gC (.str "hands ann bo\ntie bo ann 1")), (gC (.str "hands  ann"))]))
  (gSeq (gSet 1 (gOp2 addD (gSlot 1) (gFz (gLst [(gC (.str "hands ann bo\ntie ann bo 0")), (gC (.str "hands ann bo\ntie ann bo 01")), (gC (.str "hands ann\n"))]))))
  (gSeq (gDrop (gApp 1 (gC (.str "hands ann\ntie ann ann 1"))))
  (gSeq (gSet 1 (gOp2 addD (gSlot 1) (gFz (gLst [(gC (.str "hand ann")), (gC (.str "hands ann bo\ntie ann bo 101")), (gC (.str "hands ann bo\nties ann bo 1")), (gC (.str "hands Ann"))]))))
  (gSeq (gFor (gItems (gFz (gSl (gFz (gOp2 addD (gFz (gLst [(gC (.int 0))])) (gSlot 0))) (G.ret none) (gPart (oC (.int 12)))))) (.nm 2)
  b5_law)
  (gRet (gC (.bool true))))))))
noncomputable def fn_law : Fn := fnOf N_law.length [true] g_law
theorem kin_comp (o a b : Option C) : ∀ xs : List (Str × Bool), compL none (.tu [.nm 3, .nm 4]) [3, 4] t1__law_kin e2__law_kin (xs.map fun p => .tuple [.str p.1, .bool p.2]) [o, a, b, none, none] = .ok ((xs.filter (·.2)).map fun p => .str p.1) [o, a, b, none, none]
  | [] => by simp [compL_nil]
  | (x, true) :: xs => by
    have ih := kin_comp o a b xs
    rw [List.map_cons, compL_cons]
    simp [t1__law_kin_at, e2__law_kin_at, wipeE, ih]
  | (x, false) :: xs => by
    have ih := kin_comp o a b xs
    rw [List.map_cons, compL_cons]
    simp [t1__law_kin_at, e2__law_kin_at, wipeE, ih]
theorem kin_told (r : RfK) (nm : Str) (h : nm ∈ exNames) : ∃ cs, fn__law_kin r nm [.ref r] = .ok (.val (.str (nm ++ "+"))) cs := by
  unfold fn__law_kin g__law_kin
  rw [fnOf_eq]
  simp [startE, zipIL_kin, plainAt, wipeE, kinZ, kin_comp, kin_filter nm h, kin_join nm h, restore, sizeLine_eq, mkL]
end Lw


namespace Lw
open PySem L2 Nd
/-! ### the deck -/
def dk (a b c : Int) : C := mkL [.int a, .int b, .int c]
def Dk (m : Int) (d : C) : Prop := ∃ a b c : Int, d = dk a b c ∧ 0 ≤ a ∧ 0 ≤ b ∧ b < 2147483579 ∧ 0 ≤ c ∧ c ≤ m
theorem Dk.mono {m m' : Int} {d : C} (h : Dk m d) (hm : m ≤ m') : Dk m' d := by
  obtain ⟨a, b, c, e, h1, h2, h3, h4, h5⟩ := h
  exact ⟨a, b, c, e, h1, h2, h3, h4, by omega⟩
theorem pick1 {a b c n : Int} (ha : 1 < a) (hn : 0 < n) (hn2 : n < 1073741824) : fn__law_pick [dk a b c, .val (.int n)] = .ok (.val (.int (a % n))) [dk (a / n) b c, .val (.int n)] := by
  unfold fn__law_pick g__law_pick dk
  rw [fnOf_eq]
  simp [ha, hn, hn2, atI, ixN]
theorem pick2 {a b c n : Int} (ha : ¬ 1 < a) (hb : 0 ≤ b ∧ b < 2147483579) (hc : 0 ≤ c ∧ c < 1000000) (hn : 0 < n) : fn__law_pick [dk a b c, .val (.int n)] = .ok (.val (.int ((((b + 15485867 * (c + 1)) ^ 5 % 2147483647 + 7919 * (c + 1)) ^ 3 % 2147483629 / 32) % n))) [dk a b (c + 1), .val (.int n)] := by
  have h1 : (b + 15485867 * (c + 1)).natAbs < 18446744073709551616 := by omega
  have h2 : ((b + 15485867 * (c + 1)) ^ 5 % 2147483647 + 7919 * (c + 1)).natAbs < 18446744073709551616 := by
    have p := Int.emod_nonneg ((b + 15485867 * (c + 1)) ^ 5) (by decide : (2147483647 : Int) ≠ 0)
    have q := Int.emod_lt_of_pos ((b + 15485867 * (c + 1)) ^ 5) (by decide : (0 : Int) < 2147483647)
    revert p q
    generalize (b + 15485867 * (c + 1)) ^ 5 % 2147483647 = z
    intro p q
    omega
  unfold fn__law_pick g__law_pick dk
  rw [fnOf_eq]
  simp [ha, hn, h1, h2, atI, ixN]
theorem pick_ok {m n : Int} {d : C} (h : Dk m d) (hm : m < 1000000) (hn : 0 < n) (hn2 : n < 1073741824) : ∃ (r : Int) (d' : C), fn__law_pick [d, .val (.int n)] = .ok (.val (.int r)) [d', .val (.int n)] ∧ Dk (m + 1) d' ∧ 0 ≤ r ∧ r < n := by
  obtain ⟨a, b, c, rfl, h1, h2, h3, h4, h5⟩ := h
  by_cases ha : 1 < a
  · exact ⟨_, _, pick1 ha hn hn2, ⟨a / n, b, c, rfl, Int.ediv_nonneg h1 (by omega), h2, h3, h4, by omega⟩, Int.emod_nonneg _ (by omega), Int.emod_lt_of_pos _ hn⟩
  · exact ⟨_, _, pick2 ha ⟨h2, h3⟩ ⟨h4, by omega⟩ hn, ⟨a, b, c + 1, rfl, h1, h2, h3, by omega, by omega⟩, Int.emod_nonneg _ (by omega), Int.emod_lt_of_pos _ hn⟩
theorem atI_mem {ds : List PyData} {r : Int} (h0 : 0 ≤ r) (h1 : r < ds.length) : ∃ x, atI ds r = some x ∧ x ∈ ds := by
  unfold atI ixN
  have hl : r.toNat < ds.length := by omega
  refine ⟨ds[r.toNat], ?_, List.getElem_mem hl⟩
  rw [if_pos h0, if_pos h1]
  exact List.getElem?_eq_getElem hl
theorem one_ok {m : Int} {d c : C} {ds : List PyData} (h : Dk m d) (hm : m < 1000000) (hc : shal c = some (.list ds)) (hn : ds ≠ []) (hl : ds.length < 1000000) : ∃ (x : PyData) (d' : C), fn__law_one [d, c] = .ok (.val x) [d', c] ∧ Dk (m + 1) d' ∧ x ∈ ds := by
  have hp : 0 < ds.length := List.length_pos_iff.mpr hn
  obtain ⟨r, d', e, hd, h0, h1⟩ := pick_ok h hm (n := (ds.length : Int)) (by omega) (by omega)
  obtain ⟨x, ex, hx⟩ := atI_mem h0 h1
  refine ⟨x, d', ?_, hd, hx⟩
  unfold fn__law_one g__law_one
  rw [fnOf_eq]
  simp [hc, e, ex]
theorem deck_ok (cell : Int) {t : Int} (ht : 0 ≤ t) : ∃ d, fn__law_deck [.val (.int cell), .val (.int t)] = .ok d [.val (.int cell), .val (.int t)] ∧ Dk t d := by
  have p := Int.emod_nonneg cell (by decide : (2147483579 : Int) ≠ 0)
  have q := Int.emod_lt_of_pos cell (by decide : (0 : Int) < 2147483579)
  by_cases h : 1000000000000000000 ≤ cell
  · refine ⟨dk (cell - 1000000000000000000) (cell % 2147483579) t, ?_, ⟨_, _, _, rfl, by omega, p, q, ht, by omega⟩⟩
    unfold fn__law_deck g__law_deck dk
    rw [fnOf_eq]
    simp [h]
  · refine ⟨dk 0 (cell % 2147483579) t, ?_, ⟨_, _, _, rfl, by omega, p, q, ht, by omega⟩⟩
    unfold fn__law_deck g__law_deck dk
    rw [fnOf_eq]
    simp [h]
theorem sizeL : (1000000 : Nat) ≤ sizeLine := by decide
theorem cutD_le {α : Type} (xs : List α) (lo hi : Option Int) : (cutD xs lo hi).length ≤ xs.length := by
  unfold cutD
  simp only [List.length_take, List.length_drop]
  omega
theorem cutD_mem {α : Type} {xs : List α} {lo hi : Option Int} {x : α} (h : x ∈ cutD xs lo hi) : x ∈ xs := by
  unfold cutD at h
  exact List.mem_of_mem_drop (List.mem_of_mem_take h)
theorem sIx_nat' (n d : Nat) {r : Int} (h0 : 0 ≤ r) : HT.sIx n d (some r) = min r.toNat n := by
  show (if r < 0 then _ else _) = _
  rw [if_neg (by omega)]
/-- what stands ahead of r, what stands behind: together no longer -/
theorem cut2 {α : Type} (xs : List α) {r : Int} (h0 : 0 ≤ r) : (cutD xs none (some r)).length + (cutD xs (some (r + 1)) none).length ≤ xs.length := by
  unfold cutD
  simp only [List.length_take, List.length_drop, sIx_nat' _ _ h0, sIx_nat' _ _ (show 0 ≤ r + 1 by omega), HT.sIx_none]
  omega
theorem cut2' {α : Type} (xs : List α) {r : Int} (h0 : 0 ≤ r) : (cutD xs none (some r)).length + (cutD xs (some r) none).length ≤ xs.length := by
  unfold cutD
  simp only [List.length_take, List.length_drop, sIx_nat' _ _ h0, HT.sIx_none]
  omega
theorem cut1 {α : Type} (xs : List α) {r : Int} (h0 : 0 ≤ r) : (cutD xs (some r) (some (r + 1))).length ≤ 1 := by
  unfold cutD
  simp only [List.length_take, List.length_drop, sIx_nat' _ _ h0, sIx_nat' _ _ (show 0 ≤ r + 1 by omega)]
  omega
theorem eqv_int {i j : Int} : PyData.eqv (.int i) (.int j) = decide (i = j) := by
  simp only [PyData.eqv]
  by_cases h : i = j <;> simp [h]
theorem eqD_int {i j : Int} : eqD (.int i) (.int j) = some (decide (i = j)) := by
  simp [eqD, PyData.depth, eqv_int]
end Lw

namespace Lw
open PySem L2 Nd
/-! ### drawn nets -/
abbrev Tie := Str × Str × Int
def tieD (t : Tie) : PyData := .tuple [.str t.1, .str t.2.1, .int t.2.2]
def netD (hs : List Str) (ts : List Tie) : PyData := .tuple [.tuple (hs.map .str), .tuple (ts.map tieD)]
def names : List Str := ["ann", "bo", "cy", "dee", "ed", "flo", "gus", "hal"]
def pairs : List Str → List (Str × Str)
  | [] => []
  | a :: r => r.map (fun b => (a, b)) ++ pairs r
def ends2 (t : Tie) : Str × Str := (t.1, t.2.1)
structure NetOk (most : Nat) (hs : List Str) (ts : List Tie) : Prop where
  pre : ∃ j, hs = names.take j ∧ 1 ≤ j ∧ j ≤ most
  sub : (ts.map ends2).Sublist (pairs hs)
  wt : ∀ t ∈ ts, 1 ≤ t.2.2 ∧ t.2.2 ≤ 100
  few : ts.length ≤ 16
theorem cutD_take {α : Type} (xs : List α) {r : Int} (h0 : 0 ≤ r) : cutD xs none (some r) = xs.take r.toNat := by
  unfold cutD
  rw [sIx_nat' _ _ h0, HT.sIx_none, List.drop_zero, Nat.sub_zero]
  rcases Nat.le_total r.toNat xs.length with h | h
  · rw [Nat.min_eq_left h]
  · rw [Nat.min_eq_right h, List.take_length, List.take_of_length_le h]
theorem cutD_drop {α : Type} (xs : List α) {r : Int} (h0 : 0 ≤ r) : cutD xs (some r) none = xs.drop r.toNat := by
  unfold cutD
  rw [sIx_nat' _ _ h0, HT.sIx_none]
  rcases Nat.le_total r.toNat xs.length with h | h
  · rw [Nat.min_eq_left h, List.take_of_length_le (by simp)]
  · rw [Nat.min_eq_right h, List.drop_length, List.drop_of_length_le h]; simp
/-- the inner loop -/
theorem net_in {M : Int} {hd kd : C} (a : Str) : ∀ (os : List Str) {m : Int} {d : C} {ts : List Tie} {x : Option C}, Dk m d → m + 5 * os.length < 900000 → ts.length ≤ 16 →
    ∃ (d' : C) (new : List Tie) (x' : Option C), forL none (.nm 6) b1__law_net (os.map .str) [some d, some (.val (.int M)), some hd, some (mkL (ts.map tieD)), some kd, some (.val (.str a)), x]
      = .ok .next [some d', some (.val (.int M)), some hd, some (mkL ((ts ++ new).map tieD)), some kd, some (.val (.str a)), x'] ∧ Dk (m + 5 * os.length) d' ∧ (new.map ends2).Sublist (os.map fun b => (a, b)) ∧ (∀ t ∈ new, 1 ≤ t.2.2 ∧ t.2.2 ≤ 100) ∧ (ts ++ new).length ≤ 16
  | [], m, d, ts, x, h, hm, hl => ⟨d, [], x, by simp [forL_nil], by simpa using h, by simp, by simp, by simpa using hl⟩
  | o :: os, m, d, ts, x, h, hm, hl => by
    simp only [List.length_cons, List.map_cons] at hm ⊢
    obtain ⟨r, d1, f1, hd1, r0, r1⟩ := pick_ok h (by omega) (n := 5) (by omega) (by omega)
    have szl := sizeL
    by_cases hc : r < 3 ∧ ts.length < 16
    · obtain ⟨z, d2, f2, hd2, hz⟩ := one_ok hd1 (by omega) (c := .val (.list [.int 3, .int 10, .int 100])) rfl (by simp) (by simp)
      obtain ⟨q, rfl, q0, q1⟩ : ∃ q : Int, z = .int q ∧ 3 ≤ q ∧ q ≤ 100 := by
        simp only [List.mem_cons, List.not_mem_nil, or_false] at hz
        rcases hz with rfl | rfl | rfl <;> exact ⟨_, rfl, by decide, by decide⟩
      obtain ⟨v, d3, f3, hd3, v0, v1⟩ := pick_ok hd2 (by omega) (n := q) (by omega) (by omega)
      obtain ⟨d', new, x', e, k1, k2, k3, k4⟩ := net_in (M := M) (hd := hd) (kd := kd) a os (ts := ts ++ [(a, o, 1 + v)]) (x := some (.val (.str o))) hd3 (by omega) (by simp; omega)
      refine ⟨d', (a, o, 1 + v) :: new, x', ?_, k1.mono (by omega), ?_, ?_, by simpa using k4⟩
      · rw [forL_cons]
        have a1 : ts.length < sizeLine := by omega
        have a2 : (ts.length : Int) < 16 := by omega
        simp only [List.map_append, List.map_cons, List.map_nil] at e
        simp [b1__law_net_at, f1, f2, f3, hc.1, a1, a2]
        simpa [tieD] using e
      · simpa [ends2] using k2
      · intro t ht
        rcases List.mem_cons.mp ht with q | q
        · subst q; exact ⟨by show 1 ≤ 1 + v; omega, by show 1 + v ≤ 100; omega⟩
        · exact k3 t q
    · obtain ⟨d', new, x', e, k1, k2, k3, k4⟩ := net_in (M := M) (hd := hd) (kd := kd) a os (ts := ts) (x := some (.val (.str o))) hd1 (by omega) hl
      refine ⟨d', new, x', ?_, k1.mono (by omega), ?_, k3, k4⟩
      · rw [forL_cons]
        by_cases h3 : r < 3
        · have a2 : ¬ (ts.length : Int) < 16 := by omega
          simp [b1__law_net_at, f1, h3, a2]
          simpa using e
        · simp [b1__law_net_at, f1, h3]
          simpa using e
      · exact k2.trans (List.sublist_cons_self _ _)
/-- the outer loop -/
theorem net_out {M : Int} (hs : List Str) : ∀ (rest pre : List Str) {m : Int} {d : C} {ts : List Tie} {x4 x5 x6 : Option C}, hs = pre ++ rest → hs.length ≤ 8 → Dk m d → m + 40 * rest.length < 900000 → ts.length ≤ 16 →
    ∃ (d' : C) (new : List Tie) (x4' x5' x6' : Option C), forL none (.tu [.nm 4, .nm 5]) b2__law_net (((rest.map PyData.str).zipIdx pre.length).map fun p => .tuple [.int p.2, p.1]) [some d, some (.val (.int M)), some (.val (.list (hs.map .str))), some (mkL (ts.map tieD)), x4, x5, x6]
      = .ok .next [some d', some (.val (.int M)), some (.val (.list (hs.map .str))), some (mkL ((ts ++ new).map tieD)), x4', x5', x6'] ∧ Dk (m + 40 * rest.length) d' ∧ (new.map ends2).Sublist (pairs rest) ∧ (∀ t ∈ new, 1 ≤ t.2.2 ∧ t.2.2 ≤ 100) ∧ (ts ++ new).length ≤ 16
  | [], pre, m, d, ts, x4, x5, x6, hh, h8, h, hm, hl => ⟨d, [], x4, x5, x6, by simp [forL_nil], by simpa using h, by simp [pairs], by simp, by simpa using hl⟩
  | a :: rest, pre, m, d, ts, x4, x5, x6, hh, h8, h, hm, hl => by
    simp only [List.length_cons, List.map_cons, List.zipIdx_cons] at hm ⊢
    have hr : rest.length ≤ 8 := by rw [hh] at h8; simp at h8; omega
    have hdrop : hs.drop (pre.length + 1) = rest := by rw [hh]; simp
    obtain ⟨d1, n1, x', f1, hd1, s1, w1, l1⟩ := net_in (M := M) (hd := .val (.list (hs.map .str))) (kd := .val (.int pre.length)) a rest (x := x6) h (by omega) hl
    obtain ⟨d2, n2, y4, y5, y6, f2, hd2, s2, w2, l2⟩ := net_out (M := M) hs rest (pre ++ [a]) (ts := ts ++ n1) (x4 := some (.val (.int pre.length))) (x5 := some (.val (.str a))) (x6 := x') (by rw [hh]; simp) h8 hd1 (by omega) l1
    refine ⟨d2, n1 ++ n2, y4, y5, y6, ?_, hd2.mono (by omega), ?_, ?_, by simpa using l2⟩
    · rw [forL_cons]
      have c1 : cutD (hs.map PyData.str) (some ((pre.length : Int) + 1)) none = rest.map .str := by
        rw [cutD_drop _ (by omega), ← List.map_drop, show ((pre.length : Int) + 1).toNat = pre.length + 1 by omega, hdrop]
      simp [b2__law_net_at, c1]
      rw [f1]
      simp only [List.length_append, List.length_cons, List.length_nil] at f2
      simpa using f2
    · simp only [pairs, List.map_append]
      exact s1.append s2
    · intro t ht
      exact (List.mem_append.mp ht).elim (w1 t) (w2 t)
theorem net_ok {m : Int} {d : C} {M : Nat} (h : Dk m d) (hm : m < 800000) (h1 : 1 ≤ M) (h8 : M ≤ 8) :
    ∃ (hs : List Str) (ts : List Tie) (d' : C), fn__law_net [d, .val (.int M)] = .ok (.val (netD hs ts)) [d', .val (.int M)] ∧ Dk (m + 400) d' ∧ NetOk M hs ts := by
  obtain ⟨r, d1, f1, hd1, r0, r1⟩ := pick_ok h (by omega) (n := (M : Int)) (by omega) (by omega)
  have hlen : (names.take (1 + r).toNat).length ≤ 8 := by simp [names]; omega
  obtain ⟨d2, new, y4, y5, y6, f2, hd2, s2, w2, l2⟩ := net_out (M := (M : Int)) (names.take (1 + r).toNat) (names.take (1 + r).toNat) [] (ts := []) (x4 := none) (x5 := none) (x6 := none) rfl hlen hd1 (by omega) (by simp)
  refine ⟨names.take (1 + r).toNat, new, d2, ?_, hd2.mono (by omega), ⟨⟨(1 + r).toNat, rfl, by omega, by omega⟩, s2, w2, by simpa using l2⟩⟩
  have c1 : cutD ([.str "ann", .str "bo", .str "cy", .str "dee", .str "ed", .str "flo", .str "gus", .str "hal"] : List PyData) none (some (1 + r)) = (names.take (1 + r).toNat).map .str := by
    rw [cutD_take _ (by omega), List.map_take]; rfl
  unfold fn__law_net g__law_net
  rw [fnOf_eq]
  have szl := sizeL
  have a1 : szOk ((names.take (1 + r).toNat).map PyData.str) = true := by
    unfold szOk
    rw [List.length_map]
    exact decide_eq_true (by omega)
  simp only [List.length_nil, List.map_nil, List.nil_append] at f2
  simp [f1, c1, enumJ, a1, -List.map_take, -List.length_take]
  unfold enumP
  rw [f2]
  simp [netD]
end Lw

namespace Lw
open PySem L2 Nd
/-! ### texts compared, lists of texts -/
theorem eqv_str {x y : Str} : PyData.eqv (.str x) (.str y) = decide (x = y) := by
  simp only [PyData.eqv]
  by_cases h : x = y <;> simp [h]
theorem eqD_str {x y : Str} : eqD (.str x) (.str y) = some (decide (x = y)) := by simp [eqD, PyData.depth, eqv_str]
theorem depthAll_strs (xs : List Str) : PyData.depthAll (xs.map .str) = 0 := by
  induction xs with
  | nil => rfl
  | cons x r ih => simp [PyData.depthAll, PyData.depth, ih]
theorem any_strs (xs : List Str) (s : Str) : ((xs.map PyData.str).any fun z => PyData.eqv z (.str s)) = decide (s ∈ xs) := by
  induction xs with
  | nil => rfl
  | cons x r ih =>
    rw [List.map_cons, List.any_cons, ih, eqv_str]
    by_cases h : x = s
    · simp [h]
    · have h' : ¬ s = x := fun e => h e.symm
      simp [h, h']
theorem neD_str {x : PyData} {h : Str} (hd : x.depth ≤ 64) : neD x (.str h) = some (!PyData.eqv x (.str h)) := by
  simp only [neD, eqD]
  have e0 : PyData.depth (.str h) = 0 := by simp [PyData.depth]
  rw [if_pos (decide_eq_true ⟨hd, by omega⟩)]
  rfl
theorem neD_int {i j : Int} : neD (.int i) (.int j) = some (!decide (i = j)) := by simp [neD, eqD_int]
theorem inD_strs (xs : List Str) (s : Str) : inD (.str s) (.list (xs.map .str)) = some (decide (s ∈ xs)) := by
  simp only [inD, depthAll_strs, any_strs]
  simp [PyData.depth]
theorem inD_two (s a b : Str) : inD (.str s) (.tuple [.str a, .str b]) = some (decide (a = s) || decide (b = s)) := by
  simp [inD, PyData.depth, PyData.depthAll, eqv_str]
theorem sortOk_strs (xs : List Str) : sortOk (xs.map .str) = true := by
  unfold sortOk alikeB sortB
  simp only [Bool.and_eq_true, Bool.or_eq_true, List.all_eq_true, decide_eq_true_eq, List.mem_map, forall_exists_index, and_imp, forall_apply_eq_imp_iff₂]
  exact ⟨fun _ _ _ _ => by simp [PySem.W.alike], .inr fun _ _ => rfl, fun _ _ => by simp [PyData.depth]⟩
theorem sortL_strs (xs : List Str) : sortL (xs.map .str) = (sortS xs).map .str := by
  unfold sortL sortS
  rw [List.map_mergeSort (r := leS) (s := PySem.W.dataLe false fun d => d)]
  intro a _ b _
  show leS a b = !PySem.W.dataLt (.str b) (.str a)
  rw [PySem.W.dataLt_str, PySem.W.not_lt_str, Bool.eq_iff_iff, leS_iff, decide_eq_true_iff]
theorem sorted_strs {xs : List Str} (h : xs.length < 64) : sortDD [.list (xs.map .str)] = some (mkL ((sortS xs).map .str)) := by
  unfold sortDD seqD
  simp only [Option.bind_some]
  rw [if_pos (sortOk_strs xs), sortL_strs]
theorem sortS_perm {xs ys : List Str} (h : xs.Perm ys) : sortS xs = sortS ys := by
  have p : (sortS xs).Perm (sortS ys) := (List.mergeSort_perm xs leS).trans (h.trans (List.mergeSort_perm ys leS).symm)
  exact p.eq_of_pairwise (le := fun a b => leS a b = true) (fun a b _ _ x y => leS_antisymm x y) (List.pairwise_mergeSort leS_trans leS_total xs) (List.pairwise_mergeSort leS_trans leS_total ys)
theorem mem_sortS {xs : List Str} {s : Str} : s ∈ sortS xs ↔ s ∈ xs := (List.mergeSort_perm xs leS).mem_iff
theorem length_sortS (xs : List Str) : (sortS xs).length = xs.length := (List.mergeSort_perm xs leS).length_eq
theorem pairs_ne : ∀ {hs : List Str}, hs.Nodup → ∀ p ∈ pairs hs, p.1 ≠ p.2 ∧ p.1 ∈ hs ∧ p.2 ∈ hs
  | [], _, p, hp => by simp [pairs] at hp
  | a :: r, hn, p, hp => by
    simp only [pairs, List.mem_append, List.mem_map] at hp
    rcases hp with ⟨b, hb, rfl⟩ | hp
    · exact ⟨fun e => (List.nodup_cons.mp hn).1 (by have q : a = b := e; rw [q]; exact hb), List.mem_cons_self, List.mem_cons_of_mem _ hb⟩
    · obtain ⟨h1, h2, h3⟩ := pairs_ne (List.nodup_cons.mp hn).2 p hp
      exact ⟨h1, List.mem_cons_of_mem _ h2, List.mem_cons_of_mem _ h3⟩
theorem names_nodup : names.Nodup := by decide +kernel
theorem NetOk.nodup {M : Nat} {hs : List Str} {ts : List Tie} (h : NetOk M hs ts) : hs.Nodup := by
  obtain ⟨j, e, _⟩ := h.pre
  rw [e]
  exact names_nodup.sublist (List.take_sublist _ _)
theorem NetOk.ne {M : Nat} {hs : List Str} {ts : List Tie} (h : NetOk M hs ts) : ∀ t ∈ ts, t.1 ≠ t.2.1 := fun t ht =>
  (pairs_ne h.nodup (ends2 t) (h.sub.subset (List.mem_map_of_mem ht))).1
/-! ### rising -/
def sLt (a b : Str) : Prop := a.cps.toList < b.cps.toList
def prLt (p q : Str × Str) : Prop := sLt p.1 q.1 ∨ (p.1 = q.1 ∧ sLt p.2 q.2)
instance (a b : Str) : Decidable (sLt a b) := by unfold sLt; infer_instance
theorem pairs_fst {q : Str × Str} : ∀ {r : List Str}, q ∈ pairs r → q.1 ∈ r
  | [], hq => by simp [pairs] at hq
  | c :: r, hq => by
    simp only [pairs, List.mem_append, List.mem_map] at hq
    rcases hq with ⟨d, hd, rfl⟩ | hq
    · exact List.mem_cons_self
    · exact List.mem_cons_of_mem _ (pairs_fst hq)
theorem pairs_rising : ∀ {hs : List Str}, hs.Pairwise sLt → (pairs hs).Pairwise prLt
  | [], _ => List.Pairwise.nil
  | a :: r, h => by
    obtain ⟨h1, h2⟩ := List.pairwise_cons.mp h
    simp only [pairs]
    rw [List.pairwise_append]
    refine ⟨?_, pairs_rising h2, fun p hp q hq => ?_⟩
    · rw [List.pairwise_map]
      exact h2.imp fun h => .inr ⟨rfl, h⟩
    · obtain ⟨b, hb, rfl⟩ := List.mem_map.mp hp
      exact .inl (h1 _ (pairs_fst hq))
theorem names_rising : names.Pairwise sLt := by decide +kernel
theorem NetOk.hrising {M : Nat} {hs : List Str} {ts : List Tie} (h : NetOk M hs ts) : hs.Pairwise sLt := by
  obtain ⟨j, e, _⟩ := h.pre
  rw [e]
  exact names_rising.sublist (List.take_sublist _ _)
theorem NetOk.rising {M : Nat} {hs : List Str} {ts : List Tie} (h : NetOk M hs ts) : ts.Pairwise fun t u => prLt (ends2 t) (ends2 u) := by
  have := (pairs_rising h.hrising).sublist h.sub
  exact List.pairwise_map.mp this
theorem str_ext {a b : Str} (h : a.cps.toList = b.cps.toList) : a = b := by
  cases a; cases b
  simp only at h
  congr 1
  exact Array.ext' h
theorem sLt_irrefl (a : Str) : ¬ sLt a a := List.lt_irrefl _
theorem sLt_trans {a b c : Str} (h : sLt a b) (k : sLt b c) : sLt a c := List.lt_trans h k
theorem sLt_asymm {a b : Str} (h : sLt a b) : ¬ sLt b a := fun k => sLt_irrefl _ (sLt_trans h k)
theorem sLt_tri (a b : Str) : sLt a b ∨ a = b ∨ sLt b a := by
  by_cases h : a.cps.toList < b.cps.toList
  · exact .inl h
  · by_cases k : b.cps.toList < a.cps.toList
    · exact .inr (.inr k)
    · exact .inr (.inl (str_ext (List.le_antisymm (List.not_lt.mp k) (List.not_lt.mp h))))
theorem prLt_irrefl (p : Str × Str) : ¬ prLt p p := fun h => h.elim (sLt_irrefl _) fun k => sLt_irrefl _ k.2
theorem prLt_trans {p q r : Str × Str} (h : prLt p q) (k : prLt q r) : prLt p r := by
  rcases h with h | ⟨e, h⟩ <;> rcases k with k | ⟨e', k⟩
  · exact .inl (sLt_trans h k)
  · exact .inl (e' ▸ h)
  · exact .inl (e ▸ k)
  · exact .inr ⟨e.trans e', sLt_trans h k⟩
theorem prLt_tri (p q : Str × Str) : prLt p q ∨ p = q ∨ prLt q p := by
  rcases sLt_tri p.1 q.1 with h | h | h
  · exact .inl (.inl h)
  · rcases sLt_tri p.2 q.2 with k | k | k
    · exact .inl (.inr ⟨h, k⟩)
    · exact .inr (.inl (Prod.ext h k))
    · exact .inr (.inr (.inr ⟨h.symm, k⟩))
  · exact .inr (.inr (.inl h))
instance (p q : Str × Str) : Decidable (prLt p q) := by unfold prLt sLt; infer_instance
theorem dlt_str {a b : Str} : PySem.W.dataLt (.str a) (.str b) = decide (sLt a b) := by rw [PySem.W.dataLt_str]; rfl
end Lw

namespace Lw
open PySem L2 Nd
/-! ### neighbours -/
def nbrL (ts : List Tie) (h : Str) : List Str := (ts.filter fun t => decide (t.1 = h)).map (·.2.1) ++ (ts.filter fun t => decide (t.2.1 = h)).map (·.1)
def nbrP (ts : List Tie) (h : Str) : List Str := sortS (nbrL ts h)
theorem nbr_c1 {net : C} {h : Str} {x2 : Option C} : ∀ (ts : List Tie), compL none (.nm 3) [3] t1_neighbours e2_neighbours (ts.map tieD) [some net, some (.val (.str h)), x2, none] = .ok ((ts.filter fun t => decide (t.1 = h)).map fun t => .str t.2.1) [some net, some (.val (.str h)), x2, none]
  | [] => by simp [compL_nil]
  | t :: ts => by
    rw [List.map_cons, compL_cons]
    by_cases e : t.1 = h
    · simp [t1_neighbours_at, e2_neighbours_at, tieD, atI, ixN, eqD_str, e, wipeE, nbr_c1 ts]
    · simp [t1_neighbours_at, e2_neighbours_at, tieD, atI, ixN, eqD_str, e, wipeE, nbr_c1 ts]
theorem nbr_c2 {net : C} {h : Str} {x2 : Option C} : ∀ (ts : List Tie), compL none (.nm 3) [3] t3_neighbours e4_neighbours (ts.map tieD) [some net, some (.val (.str h)), x2, none] = .ok ((ts.filter fun t => decide (t.2.1 = h)).map fun t => .str t.1) [some net, some (.val (.str h)), x2, none]
  | [] => by simp [compL_nil]
  | t :: ts => by
    rw [List.map_cons, compL_cons]
    by_cases e : t.2.1 = h
    · simp [t3_neighbours_at, e4_neighbours_at, tieD, atI, ixN, eqD_str, e, wipeE, nbr_c2 ts]
    · simp [t3_neighbours_at, e4_neighbours_at, tieD, atI, ixN, eqD_str, e, wipeE, nbr_c2 ts]
theorem nbr_ok {hs : List Str} {ts : List Tie} {h : Str} (hf : ts.length ≤ 16) : fn_neighbours [.val (netD hs ts), .val (.str h)] = .ok (mkL ((nbrP ts h).map .str)) [.val (netD hs ts), .val (.str h)] := by
  have szl := sizeL
  have l1 := List.length_filter_le (fun t : Tie => decide (t.1 = h)) ts
  have l2 := List.length_filter_le (fun t : Tie => decide (t.2.1 = h)) ts
  have a1 : (ts.filter fun t => decide (t.1 = h)).length + (ts.filter fun t => decide (t.2.1 = h)).length ≤ sizeLine := by omega
  have a2 : (nbrL ts h).length < 64 := by simp [nbrL]; omega
  have e0 : (ts.filter fun t => decide (t.1 = h)).map (fun t => PyData.str t.2.1) ++ (ts.filter fun t => decide (t.2.1 = h)).map (fun t => PyData.str t.1) = (nbrL ts h).map .str := by simp [nbrL]; rfl
  have c1 := nbr_c1 (net := .val (netD hs ts)) (h := h) (x2 := none) ts
  have c2 := nbr_c2 (net := .val (netD hs ts)) (h := h) (x2 := none) ts
  unfold netD at c1 c2
  unfold fn_neighbours g_neighbours netD
  rw [fnOf_eq]
  simp [atI, ixN, plainAt, wipeE, restore, c1, c2, a1]
  rw [e0, sorted_strs a2]
  simp [nbrP]
/-! ### the law's own -/
def nearL (ts : List Tie) (h : Str) : List Str := ts.filterMap fun t => if h = t.1 then some t.2.1 else if h = t.2.1 then some t.1 else none
theorem near_loop {net : C} {h : Str} : ∀ (ts : List Tie) {fs : List Str} {x3 x4 x5 : Option C}, fs.length + ts.length < 1000 → ∃ y3 y4 y5 : Option C, forL none (.tu [.nm 3, .nm 4, .nm 5]) b1__law_near (ts.map tieD) [some net, some (.val (.str h)), some (mkL (fs.map .str)), x3, x4, x5]
    = .ok .next [some net, some (.val (.str h)), some (mkL ((fs ++ nearL ts h).map .str)), y3, y4, y5]
  | [], fs, x3, x4, x5, hl => ⟨x3, x4, x5, by simp [forL_nil, nearL]⟩
  | t :: ts, fs, x3, x4, x5, hl => by
    have szl := sizeL
    simp only [List.length_cons] at hl
    have a1 : fs.length < sizeLine := by omega
    have step : ∀ (new : List Str), new.length ≤ 1 → nearL (t :: ts) h = new ++ nearL ts h → b1__law_near [some net, some (.val (.str h)), some (mkL (fs.map .str)), some (.val (.str t.1)), some (.val (.str t.2.1)), some (.val (.int t.2.2))] = .ok .next [some net, some (.val (.str h)), some (mkL ((fs ++ new).map .str)), some (.val (.str t.1)), some (.val (.str t.2.1)), some (.val (.int t.2.2))] →
        ∃ y3 y4 y5 : Option C, forL none (.tu [.nm 3, .nm 4, .nm 5]) b1__law_near ((t :: ts).map tieD) [some net, some (.val (.str h)), some (mkL (fs.map .str)), x3, x4, x5] = .ok .next [some net, some (.val (.str h)), some (mkL ((fs ++ nearL (t :: ts) h).map .str)), y3, y4, y5] := fun new hn en eb => by
      obtain ⟨y3, y4, y5, e⟩ := near_loop (net := net) (h := h) ts (fs := fs ++ new) (x3 := some (.val (.str t.1))) (x4 := some (.val (.str t.2.1))) (x5 := some (.val (.int t.2.2))) (by simp; omega)
      refine ⟨y3, y4, y5, ?_⟩
      rw [List.map_cons, forL_cons]
      simp only [tieD, asg_tu, asgs_cons, asgs_nil, asg_nm]
      simp [-List.map_append]
      rw [eb, lp_next, e, en, List.append_assoc]
    by_cases e1 : h = t.1
    · refine step [t.2.1] (by simp) (by simp [nearL, e1]) ?_
      rw [b1__law_near_at]
      simp [inD_two, eqD_str, ← e1, a1]
    · by_cases e2 : h = t.2.1
      · refine step [t.1] (by simp) (by simp [nearL, e1, ← e2]) ?_
        rw [b1__law_near_at]
        simp [inD_two, eqD_str, e1, ← e2, a1]
      · refine step [] (by simp) (by simp [nearL, e1, e2]) ?_
        have e1' : ¬ t.1 = h := fun e => e1 e.symm
        have e2' : ¬ t.2.1 = h := fun e => e2 e.symm
        rw [b1__law_near_at]
        simp [inD_two, e1', e2']
theorem near_ok {hs : List Str} {ts : List Tie} {h : Str} (hf : ts.length ≤ 16) : fn__law_near [.val (netD hs ts), .val (.str h)] = .ok (mkL ((sortS (nearL ts h)).map .str)) [.val (netD hs ts), .val (.str h)] := by
  obtain ⟨y3, y4, y5, e⟩ := near_loop (net := .val (netD hs ts)) (h := h) ts (fs := []) (x3 := none) (x4 := none) (x5 := none) (by simp; omega)
  have a2 : (nearL ts h).length < 64 := by
    have := List.length_filterMap_le (fun t : Tie => if h = t.1 then some t.2.1 else if h = t.2.1 then some t.1 else none) ts
    unfold nearL
    omega
  unfold netD at e
  unfold fn__law_near g__law_near netD
  rw [fnOf_eq]
  simp only [List.map_nil, List.nil_append] at e
  simp [atI, ixN, e, sorted_strs a2]
theorem near_perm {h : Str} : ∀ {ts : List Tie}, (∀ t ∈ ts, t.1 ≠ t.2.1) → (nearL ts h).Perm (nbrL ts h)
  | [], _ => by simp [nearL, nbrL]
  | t :: ts, hne => by
    have ih := near_perm (h := h) (ts := ts) fun u hu => hne u (List.mem_cons_of_mem _ hu)
    have n0 := hne t List.mem_cons_self
    by_cases e1 : t.1 = h
    · have e2 : ¬ t.2.1 = h := fun e => n0 (e1.trans e.symm)
      have : nearL (t :: ts) h = t.2.1 :: nearL ts h := by simp [nearL, e1]
      rw [this]
      have : nbrL (t :: ts) h = t.2.1 :: nbrL ts h := by simp [nbrL, e1, e2]
      rw [this]
      exact ih.cons _
    · have e1' : ¬ h = t.1 := fun e => e1 e.symm
      by_cases e2 : t.2.1 = h
      · have : nearL (t :: ts) h = t.1 :: nearL ts h := by simp [nearL, e1', e2]
        rw [this]
        have : nbrL (t :: ts) h = (ts.filter fun t => decide (t.1 = h)).map (·.2.1) ++ t.1 :: (ts.filter fun t => decide (t.2.1 = h)).map (·.1) := by simp [nbrL, e1, e2]
        rw [this]
        exact (ih.cons _).trans List.perm_middle.symm
      · have e2' : ¬ h = t.2.1 := fun e => e2 e.symm
        have : nearL (t :: ts) h = nearL ts h := by simp [nearL, e1', e2']
        rw [this]
        have : nbrL (t :: ts) h = nbrL ts h := by simp [nbrL, e1, e2]
        rw [this]
        exact ih
theorem near_eq {ts : List Tie} {h : Str} (hne : ∀ t ∈ ts, t.1 ≠ t.2.1) : sortS (nearL ts h) = nbrP ts h := sortS_perm (near_perm hne)
end Lw

namespace Lw
open PySem L2 Nd
/-! ### drawn states -/
def atD : Option Str → PyData
  | none => .none
  | some s => .str s
def rowD (p : Str × Option Str) : PyData := .tuple [.str p.1, atD p.2]
def stD (ps : List (Str × Option Str)) : PyData := .tuple (ps.map rowD)
structure StOk (hs : List Str) (ts : List Tie) (ps : List (Str × Option Str)) : Prop where
  fst : ps.map (·.1) = hs
  at_ : ∀ p ∈ ps, ∀ s, p.2 = some s → s ∈ nbrP ts p.1
theorem st_comp {hs : List Str} {ts : List Tie} (hf : ts.length ≤ 16) (hne : ∀ t ∈ ts, t.1 ≠ t.2.1) : ∀ (os : List Str) {m : Int} {d : C}, Dk m d → m + os.length < 900000 → ∃ (d' : C) (ps : List (Str × Option Str)), compL none (.nm 2) [2] (G.ret true) e1__law_state (os.map .str) [some d, some (.val (netD hs ts)), none] = .ok (ps.map rowD) [some d', some (.val (netD hs ts)), none] ∧ Dk (m + os.length) d' ∧ StOk os ts ps
  | [], m, d, h, hm => ⟨d, [], by simp [compL_nil], by simpa using h, ⟨rfl, by simp⟩⟩
  | o :: os, m, d, h, hm => by
    simp only [List.length_cons, List.map_cons] at hm ⊢
    have szl := sizeL
    have nb := near_ok (hs := hs) (h := o) hf
    rw [near_eq hne] at nb
    have ln : (nbrP ts o).length ≤ 32 := by
      have l1 := List.length_filter_le (fun t : Tie => decide (t.1 = o)) ts
      have l2 := List.length_filter_le (fun t : Tie => decide (t.2.1 = o)) ts
      rw [nbrP, length_sortS]
      simp only [nbrL, List.length_append, List.length_map]
      omega
    obtain ⟨x, d1, f1, hd1, hx⟩ := one_ok h (by omega) (c := .val (.list (.none :: (nbrP ts o).map .str))) rfl (by simp) (by simp; omega)
    obtain ⟨a, rfl, ha⟩ : ∃ a, x = atD a ∧ ∀ s, a = some s → s ∈ nbrP ts o := by
      rcases List.mem_cons.mp hx with q | q
      · exact ⟨none, q, by simp⟩
      · obtain ⟨s, hs, e⟩ := List.mem_map.mp q
        exact ⟨some s, e.symm, fun t ht => by cases ht; exact hs⟩
    obtain ⟨d2, ps, e, hd2, ok⟩ := st_comp (hs := hs) hf hne os hd1 (by omega)
    refine ⟨d2, (o, a) :: ps, ?_, hd2.mono (by omega), ⟨by simp [ok.fst], fun p hp s hs => ?_⟩⟩
    · rw [compL_cons]
      have a1 : 1 + (nbrP ts o).length ≤ sizeLine := by omega
      simp [e1__law_state_at, nb, a1, f1, wipeE, e, rowD]
    · rcases List.mem_cons.mp hp with q | q
      · subst q; exact ha s hs
      · exact ok.at_ p q s hs
theorem state_ok {hs : List Str} {ts : List Tie} (h8 : hs.length ≤ 8) (hf : ts.length ≤ 16) (hne : ∀ t ∈ ts, t.1 ≠ t.2.1) {m : Int} {d : C} (h : Dk m d) (hm : m < 800000) :
    ∃ (d' : C) (ps : List (Str × Option Str)), fn__law_state [d, .val (netD hs ts)] = .ok (.val (stD ps)) [d', .val (netD hs ts)] ∧ Dk (m + 8) d' ∧ StOk hs ts ps := by
  obtain ⟨d', ps, e, hd, ok⟩ := st_comp (hs := hs) hf hne hs h (by omega)
  refine ⟨d', ps, ?_, hd.mono (by omega), ok⟩
  unfold fn__law_state g__law_state
  rw [fnOf_eq]
  unfold netD at e ⊢
  simp [atI, ixN, plainAt, wipeE, restore, e, stD]
end Lw

namespace Lw
open PySem L2 Nd
/-! ### the law's comparison: alike is alike -/
theorem sort_ok (x : PyData) : ∃ z : Str, fn__law_sort [.val x] = .ok (.val (.str z)) [.val x] := by
  unfold fn__law_sort g__law_sort
  simp only [fnOf_eq]
  cases x with
  | none => exact ⟨"other", by simp [isTy]⟩
  | bool b => exact ⟨"truth", by simp [isTy]⟩
  | int i => exact ⟨"number", by simp [isTy]⟩
  | str s => exact ⟨"other", by simp [isTy]⟩
  | list ds => exact ⟨"list", by simp [isTy]⟩
  | tuple ds => exact ⟨"tuple", by simp [isTy]⟩
  | dict _ => exact ⟨"other", by simp [isTy]⟩
/-- nothing but lists and tuples of at most a million items, to depth k -/
def Nice : Nat → PyData → Prop
  | 0, .list _ => False
  | 0, .tuple _ => False
  | _, .dict _ => False
  | k + 1, .list ds => ds.length ≤ 1000000 ∧ ∀ x ∈ ds, Nice k x
  | k + 1, .tuple ds => ds.length ≤ 1000000 ∧ ∀ x ∈ ds, Nice k x
  | _, _ => True
theorem same_comp {rec : Fn} {x y : Option C} {full : List PyData} : ∀ (ds pre : List PyData), full = pre ++ ds → y = some (.val (.list full)) ∨ y = some (.val (.tuple full)) → (∀ d ∈ ds, rec [.val d, .val d] = .ok (.val (.bool true)) [.val d, .val d]) →
    compL none (.tu [.nm 2, .nm 3]) [2, 3] (t1__law_same rec) (e2__law_same rec) ((ds.zipIdx pre.length).map fun p => .tuple [.int p.2, p.1]) [x, y, none, none] = .ok [] [x, y, none, none]
  | [], pre, hf, hy, hr => by simp [compL_nil]
  | d :: ds, pre, hf, hy, hr => by
    have ih := same_comp (rec := rec) (x := x) (y := y) (full := full) ds (pre ++ [d]) (by rw [hf]; simp) hy fun q hq => hr q (List.mem_cons_of_mem _ hq)
    have h1 := hr d List.mem_cons_self
    have hlt : pre.length < full.length := by rw [hf]; simp
    have hat : atI full (pre.length : Int) = some d := by
      unfold atI ixN
      rw [if_pos (by omega), if_pos (by omega)]
      show full[(pre.length : Int).toNat]? = _
      rw [Int.toNat_natCast, hf, List.getElem?_append_right (Nat.le_refl _)]
      simp
    simp only [List.length_append, List.length_cons, List.length_nil] at ih
    rw [List.zipIdx_cons, List.map_cons, compL_cons]
    rcases hy with rfl | rfl
    · simp [t1__law_same_at, hat, h1, wipeE]
      simpa using ih
    · simp [t1__law_same_at, hat, h1, wipeE]
      simpa using ih
theorem eqv_refl_flat {x : PyData} (h1 : ∀ ds, x ≠ .list ds) (h2 : ∀ ds, x ≠ .tuple ds) (h3 : ∀ ds, x ≠ .dict ds) : PyData.eqv x x = true := by
  cases x with
  | none => rfl
  | bool b => simp [PyData.eqv]
  | int i => simp [PyData.eqv]
  | str s => simp [PyData.eqv]
  | list ds => exact absurd rfl (h1 ds)
  | tuple ds => exact absurd rfl (h2 ds)
  | dict ds => exact absurd rfl (h3 ds)
theorem same_ok : ∀ (K : Nat) {x : PyData} {k : Nat}, Nice k x → k < K → fn__law_same K [.val x, .val x] = .ok (.val (.bool true)) [.val x, .val x]
  | 0, x, k, h, hk => nomatch hk
  | K + 1, x, k, h, hk => by
    show fnOf _ _ (g__law_same (fn__law_same K)) _ = _
    unfold g__law_same
    rw [fnOf_eq]
    obtain ⟨z, hz⟩ := sort_ok x
    have e4 : PyData.depth (.str z) ≤ 64 := by simp [PyData.depth]
    have e5 : eqD (.list []) (.list []) = some true := by simp [eqD, PyData.depth, PyData.depthAll, PyData.eqv, PyData.eqvAll]
    have szl := sizeL
    have cmp : ∀ {ds : List PyData}, (x = .list ds ∨ x = .tuple ds) → ds.length ≤ 1000000 ∧ (∃ j, k = j + 1 ∧ ∀ y ∈ ds, Nice j y) → szOk ds = true ∧ compL none (.tu [.nm 2, .nm 3]) [2, 3] (t1__law_same (fn__law_same K)) (e2__law_same (fn__law_same K)) (enumP ds) [some (.val x), some (.val x), none, none] = .ok [] [some (.val x), some (.val x), none, none] := fun {ds} hx hd => by
      obtain ⟨hl, j, rfl, hj⟩ := hd
      refine ⟨decide_eq_true (by omega), ?_⟩
      exact same_comp ds [] rfl (by rcases hx with q | q <;> simp [q]) fun d hd => same_ok K (hj d hd) (by omega)
    cases x with
    | list ds =>
      have hd : ds.length ≤ 1000000 ∧ (∃ j, k = j + 1 ∧ ∀ y ∈ ds, Nice j y) := by
        cases k with
        | zero => simp [Nice] at h
        | succ j => simp only [Nice] at h; exact ⟨h.1, j, rfl, h.2⟩
      obtain ⟨a, b⟩ := cmp (.inl rfl) hd
      simp [hz, neD_str e4, eqv_str, isTy, neD_int, enumJ, a, plainAt, wipeE, restore, b, e5, mkL]
    | tuple ds =>
      have hd : ds.length ≤ 1000000 ∧ (∃ j, k = j + 1 ∧ ∀ y ∈ ds, Nice j y) := by
        cases k with
        | zero => simp [Nice] at h
        | succ j => simp only [Nice] at h; exact ⟨h.1, j, rfl, h.2⟩
      obtain ⟨a, b⟩ := cmp (.inr rfl) hd
      simp [hz, neD_str e4, eqv_str, isTy, neD_int, enumJ, a, plainAt, wipeE, restore, b, e5, mkL]
    | dict ds => cases k <;> simp [Nice] at h
    | none => simp [hz, neD_str e4, eqv_str, isTy, eqD, PyData.depth, eqv_refl_flat]
    | bool q => simp [hz, neD_str e4, eqv_str, isTy, eqD, PyData.depth, eqv_refl_flat]
    | int q => simp [hz, neD_str e4, eqv_str, isTy, eqD, PyData.depth, eqv_refl_flat]
    | str q => simp [hz, neD_str e4, eqv_str, isTy, eqD, PyData.depth, eqv_refl_flat]
end Lw

namespace Lw
open PySem L2 Nd TL
/-! ### texts laid -/
theorem layS_iff {x : Str} : layS x = true ↔ ∀ c ∈ tl x, c < 0x110000 := by
  simp only [layS, PyData.canLay0, PyData.strOk, Array.all_eq_true', decide_eq_true_eq]
  exact ⟨fun h c hc => h c (by simpa [tl] using hc), fun h c hc => h c (by simpa [tl] using hc)⟩
theorem layS_app {x y : Str} (hx : layS x = true) (hy : layS y = true) : layS (x ++ y) = true := by
  rw [layS_iff] at hx hy ⊢
  intro c hc
  rw [tl_append] at hc
  exact (List.mem_append.mp hc).elim (hx c) (hy c)
theorem layS_join {y : Str} (hy : layS y = true) : ∀ {ps : List Str}, (∀ p ∈ ps, layS p = true) → layS (Txt.join y ps) = true := by
  intro ps hp
  rw [join_eq]
  have key : ∀ {ps : List Str}, (∀ p ∈ ps, layS p = true) → layS (Str.join y ps) = true := fun {ps} => by
    induction ps with
    | nil =>
      intro _
      show layS Str.empty = true
      decide +kernel
    | cons p r ih =>
      intro h
      cases r with
      | nil => exact h p List.mem_cons_self
      | cons q r =>
        show layS (p ++ y ++ Str.join y (q :: r)) = true
        exact layS_app (layS_app (h p List.mem_cons_self) hy) (ih fun z hz => h z (List.mem_cons_of_mem _ hz))
  exact key hp
theorem len_app (x y : Str) : (x ++ y).length = x.length + y.length := by
  show (x ++ y).cps.size = _
  rw [Str.cps_append, Array.size_append]; rfl
theorem empty_app (x : Str) : Str.empty ++ x = x := by
  apply ext_tl
  rw [tl_append]; rfl
/-! ### f'..' -/
def Parts (ρ : Nd.Env) : List (G Str) → List Str → Prop
  | [], [] => True
  | g :: gs, y :: ys => g ρ = .ok y ρ ∧ Parts ρ gs ys
  | _, _ => False
theorem gJ_ok {ρ : Nd.Env} : ∀ {gs : List (G Str)} {ys : List Str} {acc : Str}, Parts ρ gs ys → acc.length + (ys.map Str.length).sum ≤ sizeLine → gJ gs acc ρ = .ok (ys.foldl (· ++ ·) acc) ρ
  | [], [], acc, h, hl => rfl
  | g :: gs, y :: ys, acc, ⟨h1, h2⟩, hl => by
    simp only [List.map_cons, List.sum_cons] at hl
    have hl' : (acc ++ y).length ≤ sizeLine := by rw [len_app]; omega
    rw [gJ_cons, h1]
    simp only [R.bind_ok, gjk_at, if_pos hl', List.foldl_cons]
    exact gJ_ok h2 (by rw [len_app]; omega)
  | [], _ :: _, acc, h, hl => h.elim
  | _ :: _, [], acc, h, hl => h.elim
/-! ### numbers of one to three figures -/
theorem num_facts : ∀ n : Nat, n < 101 → (1 ≤ (toString ((n : Nat) : Int) : Str).length ∧ (toString ((n : Nat) : Int) : Str).length ≤ 3) := by decide +kernel
theorem num_lay : ∀ n : Nat, n < 101 → layS (toString ((n : Nat) : Int)) = true := by decide +kernel
theorem num_int : ∀ n : Nat, n < 101 → PySem.intText? (toString ((n : Nat) : Int)) = some (n : Int) := by decide +kernel
theorem num_fig : ∀ n : Nat, n < 101 → (tl (toString ((n : Nat) : Int))).all (fun c => decide (c ∈ tl ("0123456789" : Str))) = true := by decide +kernel
theorem num_log : ∀ n : Nat, n < 101 → n.log2 < 1920 := by decide +kernel
/-- a name -/
def NmOk (h : Str) : Prop := (1 ≤ h.length ∧ h.length ≤ 8) ∧ (tl h).all (fun c => decide (97 ≤ c ∧ c ≤ 122)) = true
theorem nm_names : ∀ h ∈ names, (1 ≤ h.length ∧ h.length ≤ 8) ∧ (tl h).all (fun c => decide (97 ≤ c ∧ c ≤ 122)) = true := by decide +kernel
theorem name_facts (h : Str) (k : NmOk h) : 1 ≤ h.length ∧ h.length ≤ 8 ∧ layS h = true ∧ (tl h).all (fun c => decide (97 ≤ c ∧ c ≤ 122)) = true :=
  ⟨k.1.1, k.1.2, layS_iff.mpr fun c hc => by have := of_decide_eq_true (List.all_eq_true.mp k.2 c hc); omega, k.2⟩
/-! ### a net as a text -/
def tieT (t : Tie) : Str := "tie " ++ t.1 ++ " " ++ t.2.1 ++ " " ++ toString t.2.2
def netT (hs : List Str) (ts : List Tie) : Str := Txt.join "\n" (Txt.join " " ("hands" :: hs) :: ts.map tieT)
structure Good (hs : List Str) (ts : List Tie) : Prop where
  few : hs.length ≤ 8
  ne : hs ≠ []
  nm : ∀ h ∈ hs, NmOk h
  tfew : ts.length ≤ 16
  tie : ∀ t ∈ ts, t.1 ∈ hs ∧ t.2.1 ∈ hs ∧ 1 ≤ t.2.2 ∧ t.2.2 ≤ 100
theorem NetOk.good {M : Nat} (h8 : M ≤ 8) {hs : List Str} {ts : List Tie} (N : NetOk M hs ts) : Good hs ts := by
  obtain ⟨j, e, j1, j2⟩ := N.pre
  refine ⟨by rw [e, List.length_take]; omega, ?_, fun h hh => ?_, N.few, fun t ht => ?_⟩
  · rw [e]
    intro z
    have := congrArg List.length z
    rw [List.length_take] at this
    have l8 : names.length = 8 := rfl
    rw [l8, List.length_nil] at this
    omega
  · rw [e] at hh
    exact nm_names h (List.mem_of_mem_take hh)
  · have p := pairs_ne N.nodup (ends2 t) (N.sub.subset (List.mem_map_of_mem ht))
    exact ⟨p.2.1, p.2.2, N.wt t ht⟩
theorem tie_text {hs : List Str} {ts : List Tie} (g : Good hs ts) {t : Tie} (ht : t ∈ ts) : ∃ n : Nat, t.2.2 = (n : Int) ∧ n < 101 ∧ NmOk t.1 ∧ NmOk t.2.1 := by
  obtain ⟨h1, h2, h3, h4⟩ := g.tie t ht
  exact ⟨t.2.2.toNat, by omega, by omega, g.nm _ h1, g.nm _ h2⟩
theorem tieT_len {hs : List Str} {ts : List Tie} (g : Good hs ts) {t : Tie} (ht : t ∈ ts) : (tieT t).length ≤ 30 ∧ layS (tieT t) = true := by
  obtain ⟨n, e, hn, n1, n2⟩ := tie_text g ht
  obtain ⟨a1, a2, a3, _⟩ := name_facts _ n1
  obtain ⟨b1, b2, b3, _⟩ := name_facts _ n2
  obtain ⟨c1, c2⟩ := num_facts n hn
  have hs4 : ("tie " : Str).length = 4 := by decide +kernel
  have hs1 : (" " : Str).length = 1 := by decide +kernel
  unfold tieT
  rw [e]
  refine ⟨by simp only [len_app]; omega, ?_⟩
  exact layS_app (layS_app (layS_app (layS_app (layS_app (by decide +kernel) a3) (by decide +kernel)) b3) (by decide +kernel)) (num_lay n hn)
end Lw

namespace Lw
open PySem L2 Nd TL
theorem addD_str' {a b : Str} (h : a.length + b.length ≤ sizeLine) : addD (.str a) (.str b) = some (.val (.str (a ++ b))) := by
  have e : lenOk (a.length + b.length) = true := decide_eq_true h
  simp only [addD]
  rw [if_pos e]
theorem nt_comp {net r : C} {hs : List Str} {all : List Tie} (g : Good hs all) : ∀ (ts : List Tie), (∀ t ∈ ts, t ∈ all) → compL none (.tu [.nm 2, .nm 3, .nm 4]) [2, 3, 4] (G.ret true) e1_net_text (ts.map tieD) [some net, some r, none, none, none] = .ok (ts.map fun t => .str (tieT t)) [some net, some r, none, none, none]
  | [], _ => by simp [compL_nil]
  | t :: ts, hm => by
    have ih := nt_comp (net := net) (r := r) g ts fun q hq => hm q (List.mem_cons_of_mem _ hq)
    have ht := hm t List.mem_cons_self
    obtain ⟨n, e, hn, n1, n2⟩ := tie_text g ht
    obtain ⟨a1, a2, _, _⟩ := name_facts _ n1
    obtain ⟨b1, b2, _, _⟩ := name_facts _ n2
    obtain ⟨c1, c2⟩ := num_facts n hn
    have szl := sizeL
    have hs4 : ("tie " : Str).length = 4 := by decide +kernel
    have hs1 : (" " : Str).length = 1 := by decide +kernel
    have ly := (tieT_len g ht).2
    have hlog := num_log n hn
    have ej : gJ [gTc "tie ", gTx (gSlot 2), gTc " ", gTx (gSlot 3), gTc " ", gTx (gSlot 4)] Str.empty [some net, some r, some (.val (.str t.1)), some (.val (.str t.2.1)), some (.val (.int t.2.2))] = .ok (tieT t) [some net, some r, some (.val (.str t.1)), some (.val (.str t.2.1)), some (.val (.int t.2.2))] := by
      have q := gJ_ok (ρ := [some net, some r, some (.val (.str t.1)), some (.val (.str t.2.1)), some (.val (.int t.2.2))]) (gs := [gTc "tie ", gTx (gSlot 2), gTc " ", gTx (gSlot 3), gTc " ", gTx (gSlot 4)]) (ys := ["tie ", t.1, " ", t.2.1, " ", toString t.2.2]) (acc := Str.empty) (by
        have l1 : t.1.length ≤ sizeLine := by omega
        have l2 : t.2.1.length ≤ sizeLine := by omega
        have l3 : t.2.2.natAbs.log2 < 1920 := by rw [e]; simpa using hlog
        refine ⟨rfl, ?_, rfl, ?_, rfl, ?_, trivial⟩
        · simp [l1]
        · simp [l2]
        · simp [l3]) (by
        rw [e]
        have h0 : Str.empty.length = 0 := rfl
        simp only [List.map_cons, List.map_nil, List.sum_cons, List.sum_nil]
        omega)
      rw [q]
      simp only [List.foldl_cons, List.foldl_nil, empty_app]
      rfl
    rw [List.map_cons, compL_cons]
    simp [e1_net_text_at, tieD, ej, ly, wipeE]
    rw [ih]
    simp
theorem join_len (y : Str) (ps : List Str) {n k : Nat} (hn : ps.length ≤ n) (hp : ∀ p ∈ ps, p.length ≤ k) : (ps.map (·.length)).sum ≤ n * k := by
  induction ps generalizing n with
  | nil => simp
  | cons p r ih =>
    cases n with
    | zero => simp at hn
    | succ n =>
      have h1 := hp p List.mem_cons_self
      have h2 := ih (n := n) (by simpa using hn) fun q hq => hp q (List.mem_cons_of_mem _ hq)
      simp only [List.map_cons, List.sum_cons]
      rw [Nat.succ_mul]; omega
theorem rows_ok {hs : List Str} {ts : List Tie} (g : Good hs ts) : ∀ p ∈ Txt.join " " ("hands" :: hs) :: ts.map tieT, layS p = true := by
  intro p hp
  rcases List.mem_cons.mp hp with q | q
  · rw [q]
    exact layS_join (by decide +kernel) fun z hz => by
      rcases List.mem_cons.mp hz with w | w
      · rw [w]; decide +kernel
      · exact (name_facts z (g.nm z w)).2.2.1
  · obtain ⟨t, ht, rfl⟩ := List.mem_map.mp q
    exact (tieT_len g ht).2
theorem joinD_ok {a : Str} {ps : List Str} (h : (ps.map (·.length)).sum + ps.length * a.length ≤ 16777216) (l : layS (Txt.join a ps) = true) : joinD (.str a) [.list (ps.map .str)] = some (.val (.str (Txt.join a ps))) := by
  simp only [joinD, allStrs_map, Option.bind_some]
  rw [if_pos (by rw [Bool.and_eq_true]; exact ⟨decide_eq_true h, decide_eq_true l⟩)]
theorem joinD_okT {a : Str} {ps : List Str} (h : (ps.map (·.length)).sum + ps.length * a.length ≤ 16777216) (l : layS (Txt.join a ps) = true) : joinD (.str a) [.tuple (ps.map .str)] = some (.val (.str (Txt.join a ps))) := by
  simp only [joinD, allStrs_map, Option.bind_some]
  rw [if_pos (by rw [Bool.and_eq_true]; exact ⟨decide_eq_true h, decide_eq_true l⟩)]
theorem join_length (y : Str) : ∀ ps : List Str, (Txt.join y ps).length ≤ (ps.map (·.length)).sum + ps.length * y.length := by
  intro ps
  rw [join_eq]
  induction ps with
  | nil => show Str.empty.length ≤ _; exact Nat.zero_le _
  | cons p r ih =>
    cases r with
    | nil => show p.length ≤ _; simp only [List.map_cons, List.sum_cons]; omega
    | cons q r =>
      show (p ++ y ++ Str.join y (q :: r)).length ≤ _
      rw [len_app, len_app]
      simp only [List.map_cons, List.sum_cons, List.length_cons] at ih ⊢
      rw [Nat.succ_mul]
      omega
theorem hands_sum {hs : List Str} {ts : List Tie} (g : Good hs ts) : (hs.map (·.length)).sum ≤ 64 := join_len " " hs (n := 8) (k := 8) g.few fun p hp => (name_facts p (g.nm p hp)).2.1
theorem j1_ok {hs : List Str} {ts : List Tie} (g : Good hs ts) : joinD (.str " ") [.list (.str "hands" :: hs.map .str)] = some (.val (.str (Txt.join " " ("hands" :: hs)))) ∧ (Txt.join " " ("hands" :: hs)).length ≤ 100 := by
  have hs5 : ("hands" : Str).length = 5 := by decide +kernel
  have hs1 : (" " : Str).length = 1 := by decide +kernel
  have h8 := g.few
  have hsum := hands_sum g
  have hb : ((("hands" : Str) :: hs).map (·.length)).sum + (("hands" : Str) :: hs).length * (" " : Str).length ≤ 100 := by
    simp only [List.map_cons, List.sum_cons, List.length_cons, hs5, hs1]
    omega
  exact ⟨joinD_ok (ps := "hands" :: hs) (by omega) (rows_ok g _ List.mem_cons_self), Nat.le_trans (join_length _ _) hb⟩
theorem j2_ok {hs : List Str} {ts : List Tie} (g : Good hs ts) : joinD (.str "\n") [.list (.str (Txt.join " " ("hands" :: hs)) :: ts.map fun t => .str (tieT t))] = some (.val (.str (netT hs ts))) ∧ (netT hs ts).length ≤ 1000 ∧ layS (netT hs ts) = true := by
  have hs1 : ("\n" : Str).length = 1 := by decide +kernel
  have l1 := (j1_ok g).2
  have h16 := g.tfew
  have hsum : ((ts.map tieT).map (·.length)).sum ≤ 16 * 30 := join_len " " _ (n := 16) (k := 30) (by simpa using h16) fun p hp => by
    obtain ⟨t, ht, rfl⟩ := List.mem_map.mp hp
    exact (tieT_len g ht).1
  have hb : (((Txt.join " " ("hands" :: hs)) :: ts.map tieT).map (·.length)).sum + ((Txt.join " " ("hands" :: hs)) :: ts.map tieT).length * ("\n" : Str).length ≤ 1000 := by
    simp only [List.map_cons, List.sum_cons, List.length_cons, List.length_map, hs1]
    simp only [List.map_map] at hsum ⊢
    omega
  have lay : layS (netT hs ts) = true := layS_join (by decide +kernel) (rows_ok g)
  have q := joinD_ok (a := "\n") (ps := Txt.join " " ("hands" :: hs) :: ts.map tieT) (by omega) lay
  refine ⟨?_, Nat.le_trans (join_length _ _) hb, lay⟩
  have em : ts.map (fun t => PyData.str (tieT t)) = (ts.map tieT).map .str := by rw [List.map_map]; rfl
  rw [em]
  exact q
theorem net_text_ok {hs : List Str} {ts : List Tie} (g : Good hs ts) : fn_net_text [.val (netD hs ts)] = .ok (.val (.str (netT hs ts))) [.val (netD hs ts)] := by
  have szl := sizeL
  have a1 : 1 + hs.length ≤ sizeLine := by have := g.few; omega
  have a2 : 1 + ts.length ≤ sizeLine := by have := g.tfew; omega
  have j1 := (j1_ok g).1
  have j2 := (j2_ok g).1
  have e := nt_comp (net := .val (netD hs ts)) (r := .val (.list [.str (Txt.join " " ("hands" :: hs))])) g ts fun t ht => ht
  unfold netD at e
  unfold fn_net_text g_net_text netD
  rw [fnOf_eq]
  simp [atI, ixN, a1, a2, j1, plainAt, wipeE, restore, e, j2]
end Lw

namespace Lw
open PySem L2 Nd TL
theorem strD_ok {n : Nat} (hn : n < 101) : strD [.int (n : Int)] = some (.val (.str (toString ((n : Nat) : Int)))) := by
  simp only [strD]
  rw [if_pos (by rw [Bool.and_eq_true]; exact ⟨decide_eq_true (by simpa using num_log n hn), decide_eq_true (num_lay n hn)⟩)]
theorem ln_loop {net : C} {hs : List Str} {all : List Tie} (g : Good hs all) : ∀ (ts : List Tie) {rs : List Str} {x2 x3 x4 : Option C}, (∀ t ∈ ts, t ∈ all) → rs.length + ts.length < 1000 →
    ∃ y2 y3 y4 : Option C, forL none (.tu [.nm 2, .nm 3, .nm 4]) b1__law_net_text (ts.map tieD) [some net, some (mkL (rs.map .str)), x2, x3, x4] = .ok .next [some net, some (mkL ((rs ++ ts.map tieT).map .str)), y2, y3, y4]
  | [], rs, x2, x3, x4, hm, hl => ⟨x2, x3, x4, by simp [forL_nil]⟩
  | t :: ts, rs, x2, x3, x4, hm, hl => by
    have ht := hm t List.mem_cons_self
    simp only [List.length_cons] at hl
    obtain ⟨y2, y3, y4, ih⟩ := ln_loop (net := net) g ts (rs := rs ++ [tieT t]) (x2 := some (.val (.str t.1))) (x3 := some (.val (.str t.2.1))) (x4 := some (.val (.int t.2.2))) (fun q hq => hm q (List.mem_cons_of_mem _ hq)) (by simp; omega)
    obtain ⟨n, e, hn, n1, n2⟩ := tie_text g ht
    obtain ⟨a1, a2, _, _⟩ := name_facts _ n1
    obtain ⟨b1, b2, _, _⟩ := name_facts _ n2
    obtain ⟨c1, c2⟩ := num_facts n hn
    have szl := sizeL
    have hs4 : ("tie " : Str).length = 4 := by decide +kernel
    have hs1 : (" " : Str).length = 1 := by decide +kernel
    have es := strD_ok hn
    rw [← e] at es c1 c2
    have d1 := addD_str' (a := "tie ") (b := t.1) (by omega)
    have d2 := addD_str' (a := "tie " ++ t.1) (b := " ") (by rw [len_app]; omega)
    have d3 := addD_str' (a := "tie " ++ t.1 ++ " ") (b := t.2.1) (by simp only [len_app]; omega)
    have d4 := addD_str' (a := "tie " ++ t.1 ++ " " ++ t.2.1) (b := " ") (by simp only [len_app]; omega)
    have d5 := addD_str' (a := "tie " ++ t.1 ++ " " ++ t.2.1 ++ " ") (b := toString t.2.2) (by simp only [len_app]; omega)
    have ht' : tieT t = "tie " ++ t.1 ++ " " ++ t.2.1 ++ " " ++ Str.ofString (toString t.2.2) := rfl
    generalize Str.ofString (toString t.2.2) = z at es d5 ht'
    have lr : rs.length < sizeLine := by omega
    refine ⟨y2, y3, y4, ?_⟩
    rw [List.map_cons, forL_cons]
    simp [b1__law_net_text_at, tieD, es, d1, d2, d3, d4, d5, lr, ht']
    simpa [ht'] using ih
theorem lnet_text_ok {hs : List Str} {ts : List Tie} (g : Good hs ts) : fn__law_net_text [.val (netD hs ts)] = .ok (.val (.str (netT hs ts))) [.val (netD hs ts)] := by
  have szl := sizeL
  have h8 := g.few
  have h16 := g.tfew
  have hs1 : (" " : Str).length = 1 := by decide +kernel
  have hs6 : ("hands " : Str).length = 6 := by decide +kernel
  have hsum := hands_sum g
  have hb : (hs.map (·.length)).sum + hs.length * (" " : Str).length ≤ 100 := by rw [hs1]; omega
  have lay : layS (Txt.join " " hs) = true := layS_join (by decide +kernel) fun p hp => (name_facts p (g.nm p hp)).2.2.1
  have j0 := joinD_okT (a := " ") (ps := hs) (by omega) lay
  have ll := join_length " " hs
  have d1 := addD_str' (a := "hands ") (b := Txt.join " " hs) (by omega)
  have eh : ("hands " : Str) ++ Txt.join " " hs = Txt.join " " ("hands" :: hs) := by
    rw [join_eq, join_eq]
    cases hs with
    | nil => exact absurd rfl g.ne
    | cons h r =>
      show ("hands " : Str) ++ Str.join " " (h :: r) = ("hands" : Str) ++ " " ++ Str.join " " (h :: r)
      have : ("hands " : Str) = ("hands" : Str) ++ " " := by decide +kernel
      rw [this]
  rw [eh] at d1
  have j2 := (j2_ok g).1
  obtain ⟨y2, y3, y4, e⟩ := ln_loop (net := .val (netD hs ts)) g ts (rs := [Txt.join " " ("hands" :: hs)]) (x2 := none) (x3 := none) (x4 := none) (fun t ht => ht) (by simp; omega)
  have em : ts.map (fun t => PyData.str (tieT t)) = (ts.map tieT).map .str := by rw [List.map_map]; rfl
  rw [em] at j2
  simp only [List.map_cons, List.map_nil, List.cons_append, List.nil_append] at e
  unfold netD at e
  unfold fn__law_net_text g__law_net_text netD
  rw [fnOf_eq]
  simp [atI, ixN, j0, d1, -List.map_map]
  rw [e]
  simp [j2, -List.map_map]
end Lw

namespace Lw
open PySem L2 Nd TL
theorem num_free : ∀ n : Nat, n < 101 → 32 ∉ tl (toString ((n : Nat) : Int)) ∧ 10 ∉ tl (toString ((n : Nat) : Int)) := by decide +kernel
theorem name_free {h : Str} (hh : NmOk h) {s : Nat} (hs : s < 97) : s ∉ tl h := fun hm => by
  have := List.all_eq_true.mp (name_facts h hh).2.2.2 s hm
  have := of_decide_eq_true this
  omega
theorem tieT_join (t : Tie) : tieT t = Txt.join " " ["tie", t.1, t.2.1, toString t.2.2] := by
  rw [join_eq]
  have e0 : ("tie " : Str) = "tie" ++ " " := by decide +kernel
  show "tie " ++ t.1 ++ " " ++ t.2.1 ++ " " ++ _ = ("tie" : Str) ++ " " ++ (t.1 ++ " " ++ (t.2.1 ++ " " ++ _))
  rw [e0]
  apply ext_tl
  simp only [tl_append, List.append_assoc]
  rfl
theorem free_app {s : Nat} {x y : Str} (hx : s ∉ tl x) (hy : s ∉ tl y) : s ∉ tl (x ++ y) := by
  rw [tl_append]
  exact fun h => (List.mem_append.mp h).elim hx hy
theorem free_join {s : Nat} {y : Str} (hy : s ∉ tl y) {ps : List Str} (hp : ∀ p ∈ ps, s ∉ tl p) : s ∉ tl (Txt.join y ps) := by
  rw [join_eq]
  induction ps with
  | nil => exact fun h => by cases (show s ∈ ([] : List Nat) from h)
  | cons p r ih =>
    cases r with
    | nil => exact hp p List.mem_cons_self
    | cons q r =>
      show s ∉ tl (p ++ y ++ Str.join y (q :: r))
      exact free_app (free_app (hp p List.mem_cons_self) hy) (ih fun z hz => hp z (List.mem_cons_of_mem _ hz))
theorem rows_free {hs : List Str} {ts : List Tie} (g : Good hs ts) : ∀ p ∈ Txt.join " " ("hands" :: hs) :: ts.map tieT, 10 ∉ tl p := by
  intro p hp
  rcases List.mem_cons.mp hp with q | q
  · rw [q]
    refine free_join (by decide +kernel) fun z hz => ?_
    rcases List.mem_cons.mp hz with w | w
    · rw [w]; decide +kernel
    · exact name_free (g.nm z w) (by omega)
  · obtain ⟨t, ht, rfl⟩ := List.mem_map.mp q
    obtain ⟨n, e, hn, n1, n2⟩ := tie_text g ht
    rw [tieT_join, e]
    refine free_join (by decide +kernel) fun z hz => ?_
    simp only [List.mem_cons, List.not_mem_nil, or_false] at hz
    rcases hz with rfl | rfl | rfl | rfl
    · decide +kernel
    · exact name_free n1 (by omega)
    · exact name_free n2 (by omega)
    · exact (num_free n hn).2
end Lw

namespace Lw
open PySem L2 Nd TL
/-! ### texts split, anywhere -/
structure Cut (y : Str) (s : Nat) (z : Str) (ps : List Str) : Prop where
  ne : ps ≠ []
  eq : Txt.join y ps = z
  free : ∀ p ∈ ps, s ∉ tl p
theorem cutL (s : Nat) : ∀ l : List Nat, ∃ ps : List (List Nat), ps ≠ [] ∧ joinL [s] ps = l ∧ ∀ p ∈ ps, s ∉ p
  | [] => ⟨[[]], by simp, rfl, by simp⟩
  | c :: r => by
    obtain ⟨ps, h1, h2, h3⟩ := cutL s r
    cases ps with
    | nil => exact absurd rfl h1
    | cons p q =>
      by_cases hc : c = s
      · subst hc
        refine ⟨[] :: p :: q, by simp, ?_, ?_⟩
        · show ([] : List Nat) ++ ([c] ++ joinL [c] (p :: q)) = c :: r
          rw [h2]; rfl
        · intro z hz
          rcases List.mem_cons.mp hz with rfl | hz
          · simp
          · exact h3 z hz
      · refine ⟨(c :: p) :: q, by simp, ?_, ?_⟩
        · cases q with
          | nil => show c :: p = c :: r; rw [show p = r from h2]
          | cons a b =>
            show (c :: p) ++ ([s] ++ joinL [s] (a :: b)) = c :: r
            rw [← h2]; rfl
        · intro z hz
          rcases List.mem_cons.mp hz with rfl | hz
          · intro hm
            rcases List.mem_cons.mp hm with e | e
            · exact hc e.symm
            · exact h3 p List.mem_cons_self e
          · exact h3 z (List.mem_cons_of_mem _ hz)
theorem cutAll {y : Str} {s : Nat} (ey : tl y = [s]) (hk : y.cps.all (· < 256) = true) (z : Str) : Cut y s z (Txt.split z y) := by
  obtain ⟨ls, h1, h2, h3⟩ := cutL s (tl z)
  have e : Txt.join y (ls.map fun l => (⟨l.toArray⟩ : Str)) = z := by
    apply ext_tl
    rw [join_eq, tl_join, ey, List.map_map]
    have : (tl ∘ fun l : List Nat => (⟨l.toArray⟩ : Str)) = id := by funext l; rfl
    rw [this, List.map_id, h2]
  have ne : (ls.map fun l => (⟨l.toArray⟩ : Str)) ≠ [] := fun q => h1 (List.map_eq_nil_iff.mp q)
  have fr : ∀ p ∈ ls.map (fun l => (⟨l.toArray⟩ : Str)), s ∉ tl p := fun p hp => by
    obtain ⟨l, hl, rfl⟩ := List.mem_map.mp hp
    exact h3 l hl
  have := split_join ey hk ne fr
  rw [e] at this
  rw [this]
  exact ⟨ne, e, fr⟩
/-- a text of at most so many signs, each a sign -/
structure TxtOk (n : Nat) (z : Str) : Prop where
  len : z.length ≤ n
  lay : layS z = true
theorem TxtOk.mono {n m : Nat} {z : Str} (h : TxtOk n z) (k : n ≤ m) : TxtOk m z := ⟨Nat.le_trans h.len k, h.lay⟩
theorem mem_join {y : Str} : ∀ {ps : List Str} {p : Str}, p ∈ ps → (tl p).length ≤ (tl (Str.join y ps)).length ∧ ∀ c ∈ tl p, c ∈ tl (Str.join y ps)
  | [q], p, h => by
    rw [List.mem_singleton] at h
    subst h
    exact ⟨Nat.le_refl _, fun _ z => z⟩
  | q :: q' :: r, p, h => by
    have e : tl (Str.join y (q :: q' :: r)) = tl q ++ tl y ++ tl (Str.join y (q' :: r)) := by
      show tl (q ++ y ++ Str.join y (q' :: r)) = _
      rw [tl_append, tl_append]
    rw [e]
    simp only [List.length_append, List.mem_append]
    rcases List.mem_cons.mp h with rfl | h
    · exact ⟨by omega, fun c hc => .inl (.inl hc)⟩
    · obtain ⟨a, b⟩ := mem_join (y := y) h
      exact ⟨by omega, fun c hc => .inr (b c hc)⟩
theorem Cut.part {y : Str} {s n : Nat} {z : Str} {ps : List Str} (C : Cut y s z ps) (ok : TxtOk n z) {p : Str} (hp : p ∈ ps) : TxtOk n p := by
  obtain ⟨a, b⟩ := mem_join (y := y) hp
  have e : Str.join y ps = z := by rw [← join_eq]; exact C.eq
  rw [e] at a b
  refine ⟨?_, layS_iff.mpr fun c hc => layS_iff.mp ok.lay c (b c hc)⟩
  have := ok.len
  rw [len_tl] at this ⊢
  omega
theorem join_count {y : Str} {s : Nat} (ey : tl y = [s]) : ∀ {ps : List Str}, ps.length ≤ (tl (Str.join y ps)).length + 1
  | [] => Nat.zero_le _
  | [_] => by simp
  | q :: q' :: r => by
    have e : tl (Str.join y (q :: q' :: r)) = tl q ++ tl y ++ tl (Str.join y (q' :: r)) := by
      show tl (q ++ y ++ Str.join y (q' :: r)) = _
      rw [tl_append, tl_append]
    have ih := join_count ey (ps := q' :: r)
    rw [e]
    simp only [List.length_append, ey, List.length_cons, List.length_nil] at ih ⊢
    omega
theorem Cut.count {y : Str} {s n : Nat} {z : Str} {ps : List Str} (C : Cut y s z ps) (ey : tl y = [s]) (ok : TxtOk n z) : ps.length ≤ n + 1 := by
  have h := join_count ey (ps := ps)
  have e : Str.join y ps = z := by rw [← join_eq]; exact C.eq
  rw [e, ← len_tl] at h
  have := ok.len
  omega
theorem Cut.split {y : Str} {s : Nat} {z : Str} {ps : List Str} (C : Cut y s z ps) (ey : tl y = [s]) (hk : y.cps.all (· < 256) = true) (ok : TxtOk 100000 z) : splitD (.str z) [.str y] = some (mkL (ps.map .str)) := by
  have e := split_join ey hk C.ne C.free
  rw [C.eq] at e
  have szl := sizeL
  have hy : (y.length == 0) = false := by rw [len_tl, ey]; rfl
  have := ok.len
  simp only [splitD, e]
  rw [if_pos]
  rw [Bool.and_eq_true]
  exact ⟨decide_eq_true ⟨hy, by omega⟩, decide_eq_true (lay_mem.mpr fun d hd => by
    obtain ⟨p, hp', rfl⟩ := List.mem_map.mp hd
    exact (C.part ok hp').lay)⟩
theorem cutNl (z : Str) : Cut "\n" 10 z (Txt.split z "\n") := cutAll (by decide +kernel) (by decide +kernel) z
theorem cutSp (z : Str) : Cut " " 32 z (Txt.split z " ") := cutAll (by decide +kernel) (by decide +kernel) z
theorem cutGt (z : Str) : Cut ">" 62 z (Txt.split z ">") := cutAll (by decide +kernel) (by decide +kernel) z
theorem splitNl {z : Str} (ok : TxtOk 100000 z) : splitD (.str z) [.str "\n"] = some (mkL ((Txt.split z "\n").map .str)) := (cutNl z).split (by decide +kernel) (by decide +kernel) ok
theorem splitSp {z : Str} (ok : TxtOk 100000 z) : splitD (.str z) [.str " "] = some (mkL ((Txt.split z " ").map .str)) := (cutSp z).split (by decide +kernel) (by decide +kernel) ok
theorem splitGt {z : Str} (ok : TxtOk 100000 z) : splitD (.str z) [.str ">"] = some (mkL ((Txt.split z ">").map .str)) := (cutGt z).split (by decide +kernel) (by decide +kernel) ok
/-! ### numbers of one to three figures -/
def digB (c : Nat) : Bool := decide (48 ≤ c ∧ c ≤ 57)
def digsB (z : Str) : Bool := decide (1 ≤ z.length ∧ z.length ≤ 3) && (tl z).all digB
def numS (z : Str) : Option Int := if digsB z = true then (PySem.intText? z).bind fun n => if (Str.ofString (toString n)) = z then some n else none else none
def numD (z : Str) : PyData := match numS z with
  | some n => .int n
  | none => .none
theorem dig1 : ∀ a < 10, PySem.intText? ⟨#[48 + a]⟩ = some (a : Int) := by decide +kernel
theorem dig2 : ∀ a < 10, ∀ b < 10, PySem.intText? ⟨#[48 + a, 48 + b]⟩ = some ((10 * a + b : Nat) : Int) := by decide +kernel
theorem dig3 : ∀ a < 10, ∀ b < 10, ∀ c < 10, PySem.intText? ⟨#[48 + a, 48 + b, 48 + c]⟩ = some ((100 * a + 10 * b + c : Nat) : Int) := by decide +kernel
theorem dig_of {c : Nat} (h : digB c = true) : ∃ a < 10, c = 48 + a := by
  have := of_decide_eq_true h
  exact ⟨c - 48, by omega, by omega⟩
theorem int_digs {z : Str} (h : digsB z = true) : ∃ n : Nat, n < 1000 ∧ PySem.intText? z = some (n : Int) := by
  unfold digsB at h
  rw [Bool.and_eq_true] at h
  have hl := of_decide_eq_true h.1
  have hd := h.2
  have ez : z = ⟨(tl z).toArray⟩ := (mk_tl z).symm
  rw [len_tl] at hl
  rw [ez]
  generalize tl z = l at hl hd
  match l, hl with
  | [a], _ =>
    simp only [List.all_cons, List.all_nil, Bool.and_true] at hd
    obtain ⟨x, hx, rfl⟩ := dig_of hd
    exact ⟨x, by omega, dig1 x hx⟩
  | [a, b], _ =>
    simp only [List.all_cons, List.all_nil, Bool.and_true, Bool.and_eq_true] at hd
    obtain ⟨x, hx, rfl⟩ := dig_of hd.1
    obtain ⟨y, hy, rfl⟩ := dig_of hd.2
    exact ⟨10 * x + y, by omega, dig2 x hx y hy⟩
  | [a, b, c], _ =>
    simp only [List.all_cons, List.all_nil, Bool.and_true, Bool.and_eq_true] at hd
    obtain ⟨x, hx, rfl⟩ := dig_of hd.1
    obtain ⟨y, hy, rfl⟩ := dig_of hd.2.1
    obtain ⟨w, hw, rfl⟩ := dig_of hd.2.2
    exact ⟨100 * x + 10 * y + w, by omega, dig3 x hx y hy w hw⟩
  | [], hl => exact absurd hl.1 (by simp)
  | _ :: _ :: _ :: _ :: _, hl => exact absurd hl.2 (by simp)
theorem n1000_log : ∀ n : Nat, n < 1000 → n.log2 < 1920 := by decide +kernel
theorem n1000_lay : ∀ n : Nat, n < 1000 → layS (toString ((n : Nat) : Int)) = true := by decide +kernel
theorem strD_1000 {n : Nat} (hn : n < 1000) : strD [.int (n : Int)] = some (.val (.str (toString ((n : Nat) : Int)))) := by
  simp only [strD]
  rw [if_pos (by rw [Bool.and_eq_true]; exact ⟨decide_eq_true (by simpa using n1000_log n hn), decide_eq_true (n1000_lay n hn)⟩)]
theorem intD_digs {z : Str} (h : digsB z = true) : ∃ n : Nat, n < 1000 ∧ PySem.intText? z = some (n : Int) ∧ intD [.str z] = some (.val (.int n)) := by
  obtain ⟨n, hn, e⟩ := int_digs h
  refine ⟨n, hn, e, ?_⟩
  unfold digsB at h
  rw [Bool.and_eq_true] at h
  have hl := of_decide_eq_true h.1
  simp only [intD, e, Option.bind_some]
  rw [if_pos (decide_eq_true (by omega))]
end Lw

namespace Lw
open PySem L2 Nd
/-! ### pairs -/
noncomputable instance decPy : DecidableEq PyData := fun a b => Classical.propDecidable _
def prD (p : Str × Str) : PyData := .tuple [.str p.1, .str p.2]
def handsOf : List (Str × Str) → List Str
  | [] => []
  | p :: ps => p.1 :: p.2 :: handsOf ps
theorem handsOf_length : ∀ ps : List (Str × Str), (handsOf ps).length = 2 * ps.length
  | [] => rfl
  | p :: ps => by simp only [handsOf, List.length_cons, handsOf_length ps]; omega
theorem eqv_strD (a : Str) : ∀ x : PyData, PyData.eqv (.str a) x = decide (x = .str a)
  | .str b => by rw [eqv_str]; by_cases h : a = b <;> simp [h, eq_comm]
  | .none => by simp [PyData.eqv]
  | .bool _ => by simp [PyData.eqv]
  | .int _ => by simp [PyData.eqv]
  | .list _ => by simp [PyData.eqv]
  | .tuple _ => by simp [PyData.eqv]
  | .dict _ => by simp [PyData.eqv]
theorem eqv_tt (xs ys : List PyData) : PyData.eqv (.tuple xs) (.tuple ys) = PyData.eqvAll xs ys := by rw [PyData.eqv]
theorem eqvAll_cc (x y : PyData) (xs ys : List PyData) : PyData.eqvAll (x :: xs) (y :: ys) = (PyData.eqv x y && PyData.eqvAll xs ys) := by rw [PyData.eqvAll]
theorem eqv_prD (p : Str × Str) : ∀ x : PyData, PyData.eqv (prD p) x = decide (x = prD p)
  | .tuple [a, b] => by
    unfold prD
    rw [eqv_tt, eqvAll_cc, eqvAll_cc, eqv_strD, eqv_strD, show PyData.eqvAll [] [] = true by simp [PyData.eqvAll], Bool.eq_iff_iff]
    simp
  | .tuple [] => by simp [prD, PyData.eqv, PyData.eqvAll]
  | .tuple [a] => by
    unfold prD
    rw [eqv_tt, eqvAll_cc, show PyData.eqvAll [.str p.2] [] = false by simp [PyData.eqvAll]]
    simp
  | .tuple (a :: b :: c :: r) => by
    unfold prD
    rw [eqv_tt, eqvAll_cc, eqvAll_cc, show PyData.eqvAll [] (c :: r) = false by simp [PyData.eqvAll]]
    simp
  | .str _ => by simp [prD, PyData.eqv]
  | .none => by simp [prD, PyData.eqv]
  | .bool _ => by simp [prD, PyData.eqv]
  | .int _ => by simp [prD, PyData.eqv]
  | .list _ => by simp [prD, PyData.eqv]
  | .dict _ => by simp [prD, PyData.eqv]
theorem prD_inj {p q : Str × Str} (h : prD p = prD q) : p = q := by
  simp only [prD, PyData.tuple.injEq, List.cons.injEq, PyData.str.injEq, and_true] at h
  exact Prod.ext h.1 h.2
theorem prD_depth (p : Str × Str) : (prD p).depth = 1 := by simp [prD, PyData.depth, PyData.depthAll]
theorem eqD_prD (p : Str × Str) {x : PyData} (h : x.depth ≤ 60) : eqD (prD p) x = some (decide (x = prD p)) := by
  unfold eqD
  rw [eqv_prD, prD_depth, if_pos (decide_eq_true ⟨by omega, by omega⟩)]
theorem lsD_prD (p q : Str × Str) : lsD (prD p) (prD q) = decide (prLt p q) := by
  have a2 : ∀ {x y : Str}, PySem.W.alike (.str x) (.str y) = true := by simp [PySem.W.alike]
  have e0 : PyProof.Rows.lexLt PyProof.Rows.itemOrd (PySem.W.keyToksAll []) (PySem.W.keyToksAll []) = false := PyProof.Rows.lex_irrefl _
  unfold lsD prD
  rw [PySem.W.dataLt_tuple, PySem.W.dataLt_cons a2, PySem.W.dataLt_cons a2, e0, dlt_str, dlt_str, eqv_str, eqv_str, Bool.eq_iff_iff]
  by_cases h2 : p.1 = q.1
  · by_cases h3 : p.2 = q.2
    · simp [prLt, h2, h3, sLt_irrefl]
    · simp [prLt, h2, h3, sLt_irrefl]
  · simp [prLt, h2]
theorem ltD_prD (p q : Str × Str) : Nd.ltD (prD p) (prD q) = some (decide (prLt p q)) := by
  unfold Nd.ltD
  rw [prD_depth, prD_depth, if_pos, show PySem.W.dataLt (prD p) (prD q) = decide (prLt p q) from lsD_prD p q]
  refine decide_eq_true ⟨by simp [prD, PySem.W.alike, PySem.W.alikeAll], rfl, by omega, by omega⟩
theorem flat_prs : ∀ ps : List (Str × Str), flatD (ps.map prD) = some ((handsOf ps).map .str)
  | [] => rfl
  | p :: ps => by
    simp only [List.map_cons, flatD, flat_prs ps]
    rfl
theorem any_boolsD (bs : List Bool) : anyD [.list (bs.map .bool)] = some (.val (.bool (bs.any id))) := by
  simp [anyD, allBools_map]
theorem all_boolsD (bs : List Bool) : allD [.list (bs.map .bool)] = some (.val (.bool (bs.all id))) := by
  simp [allD, allBools_map]
theorem isTy_tup (ds : List PyData) : isTy .tuple (.tuple ds) = true := rfl
end Lw

namespace Lw
open PySem L2 Nd
/-! ### rising -/
def risB (ds : List PyData) : Bool := (ds.zip (ds.drop 1)).all fun p => lsD p.1 p.2
theorem zip_mem {α : Type} {l : List α} {p : α × α} (h : p ∈ l.zip (l.drop 1)) : p.1 ∈ l ∧ p.2 ∈ l := by
  obtain ⟨h1, h2⟩ := List.of_mem_zip (a := p.1) (b := p.2) h
  exact ⟨h1, List.mem_of_mem_drop h2⟩
theorem keys_ltD {ds : List PyData} (h : keysB ds = true) {x y : PyData} (hx : x ∈ ds) (hy : y ∈ ds) : Nd.ltD x y = some (lsD x y) := by
  rcases Bool.or_eq_true_iff.mp h with h | h
  · obtain ⟨a, rfl⟩ := strB_inv (List.all_eq_true.mp h x hx)
    obtain ⟨b, rfl⟩ := strB_inv (List.all_eq_true.mp h y hy)
    unfold Nd.ltD
    rw [if_pos]
    exact decide_eq_true ⟨by simp [PySem.W.alike], rfl, by simp [PyData.depth], by simp [PyData.depth]⟩
  · obtain ⟨a, b, rfl⟩ := prB_inv (List.all_eq_true.mp h x hx)
    obtain ⟨c, d, rfl⟩ := prB_inv (List.all_eq_true.mp h y hy)
    exact (ltD_prD (a, b) (c, d)).trans (by rw [← lsD_prD]; rfl)
/-- step by step is from any to any -/
theorem risB_pairwise : ∀ {ds : List PyData}, risB ds = true ↔ ds.Pairwise fun a b => lsD a b = true
  | [] => by simp [risB]
  | [a] => by simp [risB]
  | a :: b :: r => by
    have ih := risB_pairwise (ds := b :: r)
    have e : risB (a :: b :: r) = (lsD a b && risB (b :: r)) := by simp [risB]
    rw [e, Bool.and_eq_true, ih, List.pairwise_cons (a := a)]
    refine ⟨fun ⟨h1, h2⟩ => ⟨fun x hx => ?_, h2⟩, fun ⟨h1, h2⟩ => ⟨h1 b List.mem_cons_self, h2⟩⟩
    rcases List.mem_cons.mp hx with e | hx
    · rw [e]; exact h1
    · exact lsD_trans h1 ((List.pairwise_cons.mp h2).1 x hx)
theorem canon_iff {ds : List PyData} (h : keysB ds = true) : canonD ds = ds ↔ risB ds = true := by
  rw [risB_pairwise]
  exact ⟨fun e => by
    have := canonD_rise (keysB_tri h) (l := ds) fun _ q => q
    rw [show ds.foldr insD [] = canonD ds from rfl, e] at this
    exact this, fun p => canonD_eq h p fun _ => Iff.rfl⟩
theorem eqvAll_of : ∀ {l xs : List PyData}, (∀ y ∈ l, ∀ x, PyData.eqv y x = decide (x = y)) → PyData.eqvAll l xs = decide (xs = l)
  | [], [], _ => by simp [PyData.eqvAll]
  | [], _ :: _, _ => by simp [PyData.eqvAll]
  | _ :: _, [], _ => by simp [PyData.eqvAll]
  | y :: l, x :: xs, h => by
    simp only [PyData.eqvAll, h y List.mem_cons_self x, eqvAll_of (l := l) (xs := xs) fun z hz => h z (List.mem_cons_of_mem _ hz)]
    rw [Bool.eq_iff_iff]
    simp
theorem keys_eqv {ds : List PyData} (h : keysB ds = true) : ∀ y ∈ ds, ∀ x, PyData.eqv y x = decide (x = y) := fun y hy x => by
  rcases Bool.or_eq_true_iff.mp h with h | h
  · obtain ⟨a, rfl⟩ := strB_inv (List.all_eq_true.mp h y hy)
    exact eqv_strD a x
  · obtain ⟨a, b, rfl⟩ := prB_inv (List.all_eq_true.mp h y hy)
    exact eqv_prD (a, b) x
theorem keys_depthAll {ds : List PyData} (h : ∀ d ∈ ds, d.depth ≤ 1) : PyData.depthAll ds ≤ 1 := by
  induction ds with
  | nil => simp [PyData.depthAll]
  | cons d r ih =>
    have h1 := h d List.mem_cons_self
    have h2 := ih fun x hx => h x (List.mem_cons_of_mem _ hx)
    simp only [PyData.depthAll]
    omega
/-- list(xs) == sorted(set(xs)) -/
theorem eq_canon {ds : List PyData} (h : keysB ds = true) : eqD (.list ds) (.list (canonD ds)) = some (risB ds) := by
  have d1 := keys_depthAll (keys_depth h)
  have d2 := keys_depthAll (ds := canonD ds) fun d hd => keys_depth h d ((canonD_mem (keysB_tri h) (fun _ q => q) d).mp hd)
  unfold eqD
  rw [if_pos (decide_eq_true ⟨by simp only [PyData.depth]; omega, by simp only [PyData.depth]; omega⟩)]
  simp only [PyData.eqv]
  rw [eqvAll_of (keys_eqv h)]
  congr 1
  rw [Bool.eq_iff_iff, decide_eq_true_iff, canon_iff h]
theorem keysB_prs (ps : List (Str × Str)) : keysB (ps.map prD) = true := by
  unfold keysB
  rw [Bool.or_eq_true]
  right
  simp [prD, prB]
theorem keysB_strs (xs : List Str) : keysB (xs.map .str) = true := by
  unfold keysB
  rw [Bool.or_eq_true]
  left
  simp [strB]
theorem lenSet_ok {ds : List PyData} (h : keysB ds = true) (hl : ds.length < 63) {d : PyData} (hd : d = .list ds ∨ d = .tuple ds) : lenSetD [d] = some (.val (.int (canonD ds).length)) := by
  rcases hd with rfl | rfl <;> simp [lenSetD, keysOf, seqD, h, hl]
theorem sortSet_ok {ds : List PyData} (h : keysB ds = true) (hl : ds.length < 63) {d : PyData} (hd : d = .list ds ∨ d = .tuple ds) : sortSetD [d] = some (mkL (canonD ds)) := by
  rcases hd with rfl | rfl <;> simp [sortSetD, keysOf, seqD, h, hl]
end Lw

namespace Lw
open PySem L2 Nd
theorem ris_compB {c : C} : ∀ (ps : List (PyData × PyData)), (∀ p ∈ ps, Nd.ltD p.1 p.2 = some (lsD p.1 p.2)) → compL none (.tu [.nm 1, .nm 2]) [1, 2] (G.ret true) e1_is_rising (ps.map fun p => .tuple [p.1, p.2]) [some c, none, none] = .ok ((ps.map fun p => lsD p.1 p.2).map .bool) [some c, none, none]
  | [], _ => by simp [compL_nil]
  | p :: ps, h => by
    have h1 := h p List.mem_cons_self
    have ih := ris_compB (c := c) ps fun q hq => h q (List.mem_cons_of_mem _ hq)
    rw [List.map_cons, compL_cons]
    rw [List.map_map] at ih
    simp [e1_is_rising_at, h1, wipeE, ih]
theorem is_rising_tup {ds : List PyData} (hl : ds.length ≤ 1000) (h : keysB ds = true) : fn_is_rising [.val (.tuple ds)] = .ok (.val (.bool (risB ds))) [.val (.tuple ds)] := by
  have e := ris_compB (c := .val (.tuple ds)) (ds.zip (ds.drop 1)) fun p hp => keys_ltD h (zip_mem hp).1 (zip_mem hp).2
  have c1 : cutD ds (some 1) none = ds.drop 1 := cutD_drop ds (by omega)
  have szl := sizeL
  have a1 : szOk (zipP ds (ds.drop 1)) = true := decide_eq_true (by rw [zipP_length]; omega)
  have ab := all_boolsD ((ds.zip (ds.drop 1)).map fun p => lsD p.1 p.2)
  have e2 : ((ds.zip (ds.drop 1)).map fun p => lsD p.1 p.2).all id = risB ds := by simp [risB]
  rw [e2] at ab
  unfold fn_is_rising g_is_rising
  rw [fnOf_eq]
  have ez : zipP ds (ds.drop 1) = (ds.zip (ds.drop 1)).map fun p => .tuple [p.1, p.2] := rfl
  rw [ez] at a1
  simp [c1, zipI, ez, a1, plainAt, wipeE, restore, e, -List.drop_one, -List.map_map]
  rw [ab]
  simp
theorem is_rising_lst {ds : List PyData} (hl : ds.length ≤ 1000) (h : keysB ds = true) : fn_is_rising [.val (.list ds)] = .ok (.val (.bool (risB ds))) [.val (.list ds)] := by
  have e := ris_compB (c := .val (.list ds)) (ds.zip (ds.drop 1)) fun p hp => keys_ltD h (zip_mem hp).1 (zip_mem hp).2
  have c1 : cutD ds (some 1) none = ds.drop 1 := cutD_drop ds (by omega)
  have szl := sizeL
  have a1 : szOk (zipP ds (ds.drop 1)) = true := decide_eq_true (by rw [zipP_length]; omega)
  have ab := all_boolsD ((ds.zip (ds.drop 1)).map fun p => lsD p.1 p.2)
  have e2 : ((ds.zip (ds.drop 1)).map fun p => lsD p.1 p.2).all id = risB ds := by simp [risB]
  rw [e2] at ab
  unfold fn_is_rising g_is_rising
  rw [fnOf_eq]
  have ez : zipP ds (ds.drop 1) = (ds.zip (ds.drop 1)).map fun p => .tuple [p.1, p.2] := rfl
  rw [ez] at a1
  simp [c1, zipI, ez, a1, plainAt, wipeE, restore, e, -List.drop_one, -List.map_map]
  rw [ab]
  simp
end Lw

namespace Lw
open PySem L2 Nd
/-! ### what the program takes for a name, a tie, a net: of anything -/
def letB (c : Nat) : Bool := decide (97 ≤ c ∧ c ≤ 122)
theorem letters_mem (c : Nat) : decide (c ∈ ("abcdefghijklmnopqrstuvwxyz" : Str).cps.toList) = letB c := by
  have e : ("abcdefghijklmnopqrstuvwxyz" : Str).cps.toList = (List.range 26).map (97 + ·) := by decide +kernel
  rw [e, letB]
  congr 1
  rw [List.mem_map, eq_iff_iff]
  exact ⟨fun ⟨a, h1, h2⟩ => by have := List.mem_range.mp h1; omega, fun h => ⟨c - 97, List.mem_range.mpr (by omega), by omega⟩⟩
theorem in_letters (c : Nat) : inD (.str ⟨#[c]⟩) (.str "abcdefghijklmnopqrstuvwxyz") = some (letB c) := by
  rw [← letters_mem]
  simp [inD, sgn1]
def nameB : PyData → Bool
  | .str s => decide (1 ≤ s.length ∧ s.length ≤ 8) && s.cps.toList.all letB
  | _ => false
theorem isn_comp {w : C} : ∀ (cs : List Nat), compL none (.nm 1) [1] (G.ret true) e1_is_name (cs.map fun c => .str ⟨#[c]⟩) [some w, none] = .ok ((cs.map letB).map .bool) [some w, none]
  | [] => by simp [compL_nil]
  | c :: cs => by
    have ih := isn_comp (w := w) cs
    rw [List.map_map] at ih
    rw [List.map_cons, compL_cons]
    simp [e1_is_name_at, in_letters, wipeE, ih]
theorem items_str1 {z : Str} (h : z.length ≤ sizeLine) : items (.str z) = some (z.cps.toList.map fun c => .str ⟨#[c]⟩) := by
  simp only [items]
  rw [if_pos (show lenOk _ = true from decide_eq_true h)]
  rfl
theorem lenD_str1 {z : Str} (h : z.length ≤ sizeLine) : lenD [.str z] = some (.val (.int z.length)) := by
  simp only [lenD]
  rw [if_pos (show lenOk _ = true from decide_eq_true h)]
theorem is_name_ok {x : PyData} (hx : ∀ s, x = .str s → s.length ≤ 100000) : fn_is_name [.val x] = .ok (.val (.bool (nameB x))) [.val x] := by
  unfold fn_is_name g_is_name
  rw [fnOf_eq]
  cases x with
  | str s =>
    have hs := hx s rfl
    have szl := sizeL
    have e1 := lenD_str1 (z := s) (by omega)
    have e2 := items_str1 (z := s) (by omega)
    have e3 := isn_comp (w := .val (.str s)) s.cps.toList
    have e4 := all_boolsD (s.cps.toList.map letB)
    have e5 : (s.cps.toList.map letB).all id = s.cps.toList.all letB := by simp
    rw [e5] at e4
    by_cases h1 : 1 ≤ s.length
    · have h1' : (1 : Int) ≤ s.length := by omega
      by_cases h2 : s.length ≤ 8
      · have h2' : (s.length : Int) ≤ 8 := by omega
        simp [isTy, e1, e2, e3, e4, h1', h2', plainAt, wipeE, restore, nameB, h1, h2, -List.map_map]
      · have h2' : ¬ (s.length : Int) ≤ 8 := by omega
        simp [isTy, e1, h1', h2', nameB, h1, h2]
    · have h1' : ¬ (1 : Int) ≤ s.length := by omega
      simp [isTy, e1, h1', nameB, h1]
  | _ => simp [isTy, nameB]
theorem strLt_one (c d : Nat) : strLt ⟨#[c]⟩ ⟨#[d]⟩ = decide (c < d) := by
  simp [strLt, List.cons_lt_cons_iff]
theorem eq_nil (ds : List PyData) (h : PyData.depthAll ds ≤ 60) : eqD (.list ds) (.list []) = some ds.isEmpty := by
  unfold eqD
  rw [if_pos (decide_eq_true ⟨by simp only [PyData.depth]; omega, by simp [PyData.depth, PyData.depthAll]⟩)]
  cases ds <;> simp [PyData.eqv, PyData.eqvAll]
theorem depth_strs (xs : List Str) : PyData.depthAll (xs.map .str) = 0 := by
  induction xs with
  | nil => rfl
  | cons x r ih => simp [PyData.depthAll, PyData.depth, ih]
theorem nameB_str {x : PyData} (h : nameB x = true) : ∃ s, x = .str s := by
  cases x with
  | str s => exact ⟨s, rfl⟩
  | _ => cases h
def inN (xs : List Str) : PyData → Bool
  | .str s => decide (s ∈ xs)
  | _ => false
def ltN : PyData → PyData → Bool
  | .str a, .str b => strLt a b
  | _, _ => false
def wtB : PyData → Bool
  | .int i => decide (1 ≤ i ∧ i ≤ 100)
  | _ => false
def tieB (xs : List Str) : PyData → Bool
  | .tuple [a, b, w] => (nameB a && nameB b) && ((inN xs a && (inN xs b && ltN a b)) && wtB w)
  | _ => false
theorem tieB_len {xs : List Str} {ds : List PyData} (h : ds.length ≠ 3) : tieB xs (.tuple ds) = false := by
  match ds, h with
  | [], _ => rfl
  | [_], _ => rfl
  | [_, _], _ => rfl
  | [_, _, _], h => exact absurd rfl h
  | _ :: _ :: _ :: _ :: _, _ => rfl
theorem len3 {ds : List PyData} (h : ds.length = 3) : ∃ a b w, ds = [a, b, w] := by
  match ds, h with
  | [a, b, w], _ => exact ⟨a, b, w, rfl⟩
theorem notIn_tup (xs : List Str) (s : Str) : notInD (.str s) (.tuple (xs.map .str)) = some (decide (s ∉ xs)) := by
  have h0 : inD (.str s) (.tuple (xs.map .str)) = some (decide (s ∈ xs)) := by
    simp only [inD, depthAll_strs, any_strs]
    simp [PyData.depth]
  simp only [notInD, h0]
  by_cases h : s ∈ xs <;> simp [h]
def Short (x : PyData) : Prop := ∀ s, x = .str s → s.length ≤ 100000
theorem is_from_ok (w : PyData) : fn_is_from [.val w, .val (.int 1), .val (.int 100)] = .ok (.val (.bool (wtB w))) [.val w, .val (.int 1), .val (.int 100)] := by
  unfold fn_is_from g_is_from
  rw [fnOf_eq]
  cases w with
  | int i =>
    by_cases h1 : 1 ≤ i
    · by_cases h2 : i ≤ 100
      · simp [isTy, leA, h1, h2, wtB]
      · simp [isTy, leA, h1, h2, wtB]
    · simp [isTy, leA, h1, wtB]
  | _ => simp [isTy, wtB]
theorem is_tie_ok {xs : List Str} {t : PyData} (ht : ∀ ds, t = .tuple ds → ∀ y ∈ ds, Short y) : fn_is_tie [.val (.tuple (xs.map .str)), .val t] = .ok (.val (.bool (tieB xs t))) [.val (.tuple (xs.map .str)), .val t] := by
  unfold fn_is_tie g_is_tie
  rw [fnOf_eq]
  cases t with
  | tuple ds =>
    by_cases hl : ds.length = 3
    · obtain ⟨a, b, w, rfl⟩ := len3 hl
      have ha := is_name_ok (ht _ rfl a (by simp))
      have hb := is_name_ok (ht _ rfl b (by simp))
      have hw := is_from_ok w
      cases q1 : nameB a with
      | false => simp [isTy_tup, neD_int, atI, ixN, ha, q1, tieB]
      | true =>
        cases q2 : nameB b with
        | false => simp [isTy_tup, neD_int, atI, ixN, ha, hb, q1, q2, tieB]
        | true =>
          obtain ⟨s, rfl⟩ := nameB_str q1
          obtain ⟨s', rfl⟩ := nameB_str q2
          have n1 := notIn_tup xs s
          have n2 := notIn_tup xs s'
          by_cases h1 : s ∈ xs
          · by_cases h2 : s' ∈ xs
            · cases h3 : strLt s s' with
              | true => simp [isTy_tup, neD_int, atI, ixN, ha, hb, hw, q1, q2, n1, n2, h1, h2, ltA, h3, tieB, inN, ltN]
              | false => simp [isTy_tup, neD_int, atI, ixN, ha, hb, q1, q2, n1, n2, h1, h2, ltA, h3, tieB, inN, ltN]
            · simp [isTy_tup, neD_int, atI, ixN, ha, hb, q1, q2, n1, n2, h1, h2, tieB, inN, ltN]
          · simp [isTy_tup, neD_int, atI, ixN, ha, hb, q1, q2, n1, h1, tieB, inN, ltN]
    · have hl' : ¬ (ds.length : Int) = 3 := by omega
      rw [tieB_len hl]
      simp [isTy_tup, neD_int, hl']
  | _ => simp [isTy, tieB]
def headD : PyData → PyData
  | .tuple (a :: b :: _) => .tuple [a, b]
  | x => x
def txs : List PyData → List Str
  | [] => []
  | .str s :: r => s :: txs r
  | _ :: r => txs r
noncomputable def tiesB (xs : List Str) : PyData → Bool
  | .tuple ts => decide (ts.length ≤ 16) && (ts.all (tieB xs) && risB (ts.map headD))
  | _ => false
noncomputable def netB : PyData → Bool
  | .tuple [.tuple hs, tl] => (decide (1 ≤ hs.length ∧ hs.length ≤ 8) && hs.all nameB) && (risB hs && tiesB (txs hs) tl)
  | _ => false
theorem all_strs : ∀ {hs : List PyData}, hs.all nameB = true → hs = (txs hs).map .str
  | [], _ => rfl
  | x :: r, h => by
    rw [List.all_cons, Bool.and_eq_true] at h
    obtain ⟨s, rfl⟩ := nameB_str h.1
    rw [txs, List.map_cons, ← all_strs h.2]
theorem all_heads {xs : List Str} : ∀ {ts : List PyData}, ts.all (tieB xs) = true → ∃ ps : List (Str × Str), ts.map headD = ps.map prD
  | [], _ => ⟨[], rfl⟩
  | t :: r, h => by
    rw [List.all_cons, Bool.and_eq_true] at h
    obtain ⟨ps, e⟩ := all_heads h.2
    have ht := h.1
    unfold tieB at ht
    split at ht
    · rename_i a b w
      simp only [Bool.and_eq_true] at ht
      obtain ⟨s, rfl⟩ := nameB_str ht.1.1
      obtain ⟨s', rfl⟩ := nameB_str ht.1.2
      exact ⟨(s, s') :: ps, by rw [List.map_cons, e]; rfl⟩
    · cases ht
theorem isn_c1 {x0 x2 x3 : Option C} {c : C} : ∀ (hs : List PyData), (∀ h ∈ hs, Short h) → compL none (.nm 4) [4] (G.ret true) e1_is_net hs [x0, some c, x2, x3, none] = .ok ((hs.map nameB).map .bool) [x0, some c, x2, x3, none]
  | [], _ => by simp [compL_nil]
  | h :: hs, k => by
    have ih := isn_c1 (x0 := x0) (x2 := x2) (x3 := x3) (c := c) hs fun x hx => k x (List.mem_cons_of_mem _ hx)
    have e := is_name_ok (k h List.mem_cons_self)
    rw [List.map_map] at ih
    rw [compL_cons]
    simp [e1_is_net_at, e, wipeE, ih]
theorem isn_c2 {x0 x2 x4 : Option C} {xs : List Str} : ∀ (ts : List PyData), (∀ t ∈ ts, ∀ ds, t = .tuple ds → ∀ y ∈ ds, Short y) → compL none (.nm 3) [3] (G.ret true) e2_is_net ts [x0, some (.val (.tuple (xs.map .str))), x2, none, x4] = .ok ((ts.map (tieB xs)).map .bool) [x0, some (.val (.tuple (xs.map .str))), x2, none, x4]
  | [], _ => by simp [compL_nil]
  | t :: ts, k => by
    have ih := isn_c2 (x0 := x0) (x2 := x2) (x4 := x4) (xs := xs) ts fun x hx => k x (List.mem_cons_of_mem _ hx)
    have e := is_tie_ok (xs := xs) (k t List.mem_cons_self)
    rw [List.map_map] at ih
    rw [compL_cons]
    simp [e2_is_net_at, e, wipeE, ih]
theorem tieB_head {xs : List Str} {t : PyData} (h : tieB xs t = true) : ∃ a b w, t = .tuple [a, b, w] := by
  unfold tieB at h
  split at h
  · exact ⟨_, _, _, rfl⟩
  · cases h
theorem isn_c3 {x0 x1 x2 x4 : Option C} {xs : List Str} : ∀ (ts : List PyData), ts.all (tieB xs) = true → compL none (.nm 3) [3] (G.ret true) e3_is_net ts [x0, x1, x2, none, x4] = .ok (ts.map headD) [x0, x1, x2, none, x4]
  | [], _ => by simp [compL_nil]
  | t :: ts, k => by
    rw [List.all_cons, Bool.and_eq_true] at k
    have ih := isn_c3 (x0 := x0) (x1 := x1) (x2 := x2) (x4 := x4) ts k.2
    obtain ⟨a, b, w, rfl⟩ := tieB_head k.1
    rw [compL_cons]
    simp [e3_is_net_at, wipeE, cutD, HT.sIx, ih, headD]
structure Sm (z : PyData) : Prop where
  dep : z.depth ≤ 60
  s1 : ∀ ds, z = .tuple ds → ∀ x ∈ ds, ∀ es, x = .tuple es → (∀ y ∈ es, Short y) ∧ ∀ y ∈ es, ∀ fs, y = .tuple fs → ∀ u ∈ fs, Short u
theorem len2 {ds : List PyData} (h : ds.length = 2) : ∃ a b, ds = [a, b] := by
  match ds, h with
  | [a, b], _ => exact ⟨a, b, rfl⟩
theorem netB_len {ds : List PyData} (h : ds.length ≠ 2) : netB (.tuple ds) = false := by
  match ds, h with
  | [], _ => rfl
  | [_], _ => simp [netB]
  | [_, _], h => exact absurd rfl h
  | _ :: _ :: _ :: _, _ => simp [netB]
theorem is_net_ok {z : PyData} (S : Sm z) : fn_is_net [.val z] = .ok (.val (.bool (netB z))) [.val z] := by
  unfold fn_is_net g_is_net
  rw [fnOf_eq]
  cases z with
  | tuple ds =>
    by_cases hl : ds.length = 2
    · obtain ⟨h, tl, rfl⟩ := len2 hl
      cases h with
      | tuple hs =>
        obtain ⟨sh, _⟩ := S.s1 _ rfl (.tuple hs) (by simp) hs rfl
        have szl := sizeL
        by_cases h1 : 1 ≤ hs.length
        · have h1' : (1 : Int) ≤ hs.length := by omega
          by_cases h2 : hs.length ≤ 8
          · have h2' : (hs.length : Int) ≤ 8 := by omega
            have e1 := isn_c1 (x0 := some (.val (.tuple [.tuple hs, tl]))) (x2 := some (.val tl)) (x3 := none) (c := .val (.tuple hs)) hs sh
            have ab := all_boolsD (hs.map nameB)
            have ek : (hs.map nameB).all id = hs.all nameB := by simp
            rw [ek] at ab
            cases q : hs.all nameB with
            | false =>
              rw [q] at ab
              simp [isTy_tup, neD_int, h1', h2', plainAt, wipeE, restore, e1, ab, netB, q, -List.map_map]
            | true =>
              rw [q] at ab
              have es := all_strs q
              have hn := txs hs
              have r1 := is_rising_tup (ds := hs) (by omega) (by rw [es]; exact keysB_strs _)
              cases q2 : risB hs with
              | false =>
                rw [q2] at r1
                simp [isTy_tup, neD_int, h1', h2', plainAt, wipeE, restore, e1, ab, r1, netB, q, q2, -List.map_map]
              | true =>
                rw [q2] at r1
                cases tl with
                | tuple ts =>
                  obtain ⟨_, st⟩ := S.s1 _ rfl (.tuple ts) (by simp) ts rfl
                  by_cases h3 : ts.length ≤ 16
                  · have h3' : ¬ (16 : Int) < ts.length := by omega
                    have e2 := isn_c2 (x0 := some (.val (.tuple [.tuple hs, .tuple ts]))) (x2 := some (.val (.tuple ts))) (x4 := none) (xs := txs hs) ts st
                    rw [← es] at e2
                    have ab2 := all_boolsD (ts.map (tieB (txs hs)))
                    have ek2 : (ts.map (tieB (txs hs))).all id = ts.all (tieB (txs hs)) := by simp
                    rw [ek2] at ab2
                    cases q3 : ts.all (tieB (txs hs)) with
                    | false =>
                      rw [q3] at ab2
                      simp [isTy_tup, neD_int, h1', h2', h3', plainAt, wipeE, restore, e1, ab, r1, e2, ab2, netB, tiesB, q, q2, q3, -List.map_map]
                    | true =>
                      rw [q3] at ab2
                      have e3 := isn_c3 (x0 := some (.val (.tuple [.tuple hs, .tuple ts]))) (x1 := some (.val (.tuple hs))) (x2 := some (.val (.tuple ts))) (x4 := none) ts q3
                      obtain ⟨ps, ep⟩ := all_heads q3
                      have r2 := is_rising_lst (ds := ts.map headD) (by rw [List.length_map]; omega) (by rw [ep]; exact keysB_prs _)
                      simp [isTy_tup, neD_int, h1', h2', h3', plainAt, wipeE, restore, e1, ab, r1, e2, ab2, e3, r2, netB, tiesB, q, q2, q3, h1, h2, h3, -List.map_map]
                  · have h3' : (16 : Int) < ts.length := by omega
                    simp [isTy_tup, neD_int, h1', h2', h3', plainAt, wipeE, restore, e1, ab, r1, netB, tiesB, h3, -List.map_map]
                | _ => simp [isTy, neD_int, h1', h2', plainAt, wipeE, restore, e1, ab, r1, netB, tiesB, -List.map_map]
          · have h2' : ¬ (hs.length : Int) ≤ 8 := by omega
            simp [isTy_tup, neD_int, h1', h2', netB, h2]
        · have h1' : ¬ (1 : Int) ≤ hs.length := by omega
          simp [isTy_tup, neD_int, h1', netB, h1]
      | _ => simp [isTy, neD_int, netB]
    · have hl' : ¬ (ds.length : Int) = 2 := by omega
      rw [netB_len hl]
      simp [isTy_tup, neD_int, hl']
  | _ => simp [isTy, netB]
end Lw

namespace Lw
open PySem L2 Nd TL
/-! ### number_in, both ways -/
theorem neD_strs (a b : Str) : neD (.str a) (.str b) = some (!decide (a = b)) := by
  rw [neD_str (by simp [PyData.depth]), eqv_str]
theorem figures_mem (c : Nat) : decide (c ∈ ("0123456789" : Str).cps.toList) = digB c := by
  have e : ("0123456789" : Str).cps.toList = (List.range 10).map (48 + ·) := by decide +kernel
  rw [e, digB]
  congr 1
  rw [List.mem_map, eq_iff_iff]
  exact ⟨fun ⟨a, h1, h2⟩ => by have := List.mem_range.mp h1; omega, fun h => ⟨c - 48, List.mem_range.mpr (by omega), by omega⟩⟩
theorem in_figures (c : Nat) : inD (.str ⟨#[c]⟩) (.str "0123456789") = some (digB c) := by
  rw [← figures_mem]
  simp [inD, sgn1]
theorem nin_comp {w : C} : ∀ (cs : List Nat), compL none (.nm 1) [1] (G.ret true) e1_number_in (cs.map fun c => .str ⟨#[c]⟩) [some w, none] = .ok ((cs.map digB).map .bool) [some w, none]
  | [] => by simp [compL_nil]
  | c :: cs => by
    have ih := nin_comp (w := w) cs
    rw [List.map_map] at ih
    rw [List.map_cons, compL_cons]
    simp [e1_number_in_at, in_figures, wipeE, ih]
theorem le_one (c d : Nat) : leA (.str ⟨#[c]⟩) (.str ⟨#[d]⟩) = some (decide (c ≤ d)) := by
  show some (!strLt ⟨#[d]⟩ ⟨#[c]⟩) = _
  rw [strLt_one]
  congr 1
  by_cases h : d < c
  · have : ¬ c ≤ d := by omega
    simp [h, this]
  · have : c ≤ d := by omega
    simp [h, this]
theorem lnin_comp {w : C} : ∀ (cs : List Nat), compL none (.nm 1) [1] t1__law_number e2__law_number (cs.map fun c => .str ⟨#[c]⟩) [some w, none] = .ok ((cs.filter fun c => !digB c).map fun c => .str ⟨#[c]⟩) [some w, none]
  | [] => by simp [compL_nil]
  | c :: cs => by
    have ih := lnin_comp (w := w) cs
    rw [List.map_cons, compL_cons]
    have ea : leA (.str "0") (.str ⟨#[c]⟩) = some (decide (48 ≤ c)) := le_one 48 c
    have ez : leA (.str ⟨#[c]⟩) (.str "9") = some (decide (c ≤ 57)) := le_one c 57
    by_cases h1 : 48 ≤ c
    · by_cases h2 : c ≤ 57
      · have q : digB c = true := decide_eq_true ⟨h1, h2⟩
        simp [t1__law_number_at, e2__law_number_at, ea, ez, h1, h2, wipeE, ih, q]
      · have q : digB c = false := decide_eq_false fun z => h2 z.2
        simp [t1__law_number_at, e2__law_number_at, ea, ez, h1, h2, wipeE, ih, q]
    · have q : digB c = false := decide_eq_false fun z => h1 z.1
      simp [t1__law_number_at, e2__law_number_at, ea, h1, wipeE, ih, q]
theorem numD_no {z : Str} (h : digsB z = false) : numD z = .none := by simp [numD, numS, h]
theorem number_in_ok {z : Str} (ok : TxtOk 100000 z) : fn_number_in [.val (.str z)] = .ok (.val (numD z)) [.val (.str z)] := by
  have hs := ok.len
  have szl := sizeL
  have e1 := lenD_str1 (z := z) (by omega)
  have e2 := items_str1 (z := z) (by omega)
  have e3 := nin_comp (w := .val (.str z)) z.cps.toList
  have e4 := all_boolsD (z.cps.toList.map digB)
  have e5 : (z.cps.toList.map digB).all id = z.cps.toList.all digB := by simp
  rw [e5] at e4
  unfold fn_number_in g_number_in
  rw [fnOf_eq]
  by_cases h1 : 1 ≤ z.length
  · have h1' : (1 : Int) ≤ z.length := by omega
    by_cases h2 : z.length ≤ 3
    · have h2' : (z.length : Int) ≤ 3 := by omega
      cases q : z.cps.toList.all digB with
      | false =>
        have hd : digsB z = false := by simp [digsB, tl, q]
        rw [q] at e4
        simp [e1, e2, e3, e4, h1', h2', plainAt, wipeE, restore, numD_no hd, -List.map_map]
      | true =>
        have hd : digsB z = true := by simp [digsB, tl, q, h1, h2]
        rw [q] at e4
        obtain ⟨n, hn, en, ei⟩ := intD_digs hd
        have es := strD_1000 hn
        have nd : numD z = if (Str.ofString (toString ((n : Nat) : Int))) = z then .int n else .none := by
          simp only [numD, numS, hd, if_true, en, Option.bind_some]
          split <;> rename_i h
          · split at h
            · rename_i h'; cases h; rw [if_pos h']
            · cases h
          · split at h
            · cases h
            · rename_i h'; rw [if_neg h']
        rw [nd]
        generalize Str.ofString (toString ((n : Nat) : Int)) = y at es
        by_cases hy : y = z
        · simp [e1, e2, e3, e4, h1', h2', plainAt, wipeE, restore, ei, es, neD_strs, hy, -List.map_map]
        · simp [e1, e2, e3, e4, h1', h2', plainAt, wipeE, restore, ei, es, neD_strs, hy, -List.map_map]
    · have h2' : ¬ (z.length : Int) ≤ 3 := by omega
      have hd : digsB z = false := by simp [digsB, h2]
      simp [e1, h1', h2', numD_no hd]
  · have h1' : ¬ (1 : Int) ≤ z.length := by omega
    have hd : digsB z = false := by simp [digsB, h1]
    simp [e1, h1', numD_no hd]
theorem str_nil {z : Str} : z = "" ↔ z.length = 0 := by
  constructor
  · intro h; rw [h]; rfl
  · intro h
    apply ext_tl
    rw [len_tl] at h
    rw [List.length_eq_zero_iff.mp h]
    rfl
theorem law_number_ok {z : Str} (ok : TxtOk 100000 z) : fn__law_number [.val (.str z)] = .ok (.val (numD z)) [.val (.str z)] := by
  have hs := ok.len
  have szl := sizeL
  have e1 := lenD_str1 (z := z) (by omega)
  have e2 := items_str1 (z := z) (by omega)
  have e3 := lnin_comp (w := .val (.str z)) z.cps.toList
  have e4 := eq_nil (((z.cps.toList.filter fun c => !digB c).map fun c => (⟨#[c]⟩ : Str)).map .str) (by rw [depth_strs]; omega)
  rw [List.map_map] at e4
  have e4 : neD (.list ((z.cps.toList.filter fun c => !digB c).map fun c => .str ⟨#[c]⟩)) (.list []) = some (!z.cps.toList.all digB) := by
    have e5 : eqD (.list ((z.cps.toList.filter fun c => !digB c).map fun c => .str ⟨#[c]⟩)) (.list []) = some (z.cps.toList.all digB) := by
      refine e4.trans ?_
      congr 1
      rw [Bool.eq_iff_iff, List.isEmpty_iff, List.map_eq_nil_iff, List.filter_eq_nil_iff, List.all_eq_true]
      simp
    simp only [neD, e5]
    rfl
  unfold fn__law_number g__law_number
  rw [fnOf_eq]
  by_cases h0 : z = ""
  · have hl := str_nil.mp h0
    have hd : digsB z = false := by simp [digsB, hl]
    rw [numD_no hd]
    subst h0
    simp [eqD_str]
  · have h1 : 1 ≤ z.length := by
      have : z.length ≠ 0 := fun h => h0 (str_nil.mpr h)
      omega
    by_cases h2 : z.length ≤ 3
    · have h2' : ¬ (3 : Int) < z.length := by omega
      cases q : z.cps.toList.all digB with
      | false =>
        have hd : digsB z = false := by simp [digsB, tl, q]
        rw [q] at e4
        simp [eqD_str, h0, e1, e2, e3, e4, gtA, ltA, h2', plainAt, wipeE, restore, numD_no hd]
      | true =>
        have hd : digsB z = true := by simp [digsB, tl, q, h1, h2]
        rw [q] at e4
        obtain ⟨n, hn, en, ei⟩ := intD_digs hd
        have es := strD_1000 hn
        have nd : numD z = if (Str.ofString (toString ((n : Nat) : Int))) = z then .int n else .none := by
          simp only [numD, numS, hd, if_true, en, Option.bind_some]
          split <;> rename_i h
          · split at h
            · rename_i h'; cases h; rw [if_pos h']
            · cases h
          · split at h
            · cases h
            · rename_i h'; rw [if_neg h']
        rw [nd]
        generalize Str.ofString (toString ((n : Nat) : Int)) = y at es
        by_cases hy : y = z
        · simp [eqD_str, h0, e1, e2, e3, e4, gtA, ltA, h2', plainAt, wipeE, restore, ei, es, hy]
        · simp [eqD_str, h0, e1, e2, e3, e4, gtA, ltA, h2', plainAt, wipeE, restore, ei, es, hy]
    · have h2' : (3 : Int) < z.length := by omega
      have hd : digsB z = false := by simp [digsB, h2]
      simp [eqD_str, h0, e1, gtA, ltA, h2', numD_no hd]
/-! ### what a row writes -/
def tieIn (r : Str) : PyData := match Txt.split r " " with
  | [t, a, b, w] => if t = "tie" then .tuple [.str a, .str b, numD w] else .none
  | _ => .none
theorem tieIn_len {r : Str} (h : (Txt.split r " ").length ≠ 4) : tieIn r = .none := by
  unfold tieIn
  split
  · rename_i e; rw [e] at h; exact absurd rfl h
  · rfl
theorem tie_in_ok {r : Str} (ok : TxtOk 100000 r) : fn_tie_in [.val (.str r)] = .ok (.val (tieIn r)) [.val (.str r)] := by
  have sp := splitSp ok
  have C := cutSp r
  have cn := C.count (by decide +kernel) ok
  have szl := sizeL
  unfold fn_tie_in g_tie_in
  rw [fnOf_eq]
  by_cases hl : (Txt.split r " ").length = 4
  · obtain ⟨t, a, b, w, e⟩ : ∃ t a b w, Txt.split r " " = [t, a, b, w] := by
      match Txt.split r " ", hl with
      | [t, a, b, w], _ => exact ⟨t, a, b, w, rfl⟩
    have hw := number_in_ok (C.part ok (p := w) (by rw [e]; simp))
    rw [e] at sp
    have ti : tieIn r = if t = "tie" then .tuple [.str a, .str b, numD w] else .none := by unfold tieIn; rw [e]
    rw [ti]
    simp only [List.map_cons, List.map_nil] at sp
    by_cases ht : t = "tie"
    · simp [sp, neD_int, atI, ixN, neD_strs, ht, hw]
    · simp [sp, neD_int, atI, ixN, neD_strs, ht]
  · have hl' : ¬ ((Txt.split r " ").length : Int) = 4 := by omega
    have lz : (Txt.split r " ").length ≤ sizeLine := by omega
    rw [tieIn_len hl]
    simp [sp, neD_int, hl', lz]
end Lw

namespace Lw
open PySem L2 Nd TL
/-! ### a net read, both ways -/
def netOf (ws rs : List Str) : PyData := .tuple [.tuple (ws.map .str), .tuple (rs.map tieIn)]
noncomputable def rdOf (w0 : Str) (ws rs : List Str) : Option PyData := if w0 = "hands" ∧ netB (netOf ws rs) = true then some (netOf ws rs) else none
theorem numD_cases (z : Str) : numD z = .none ∨ ∃ n, numD z = .int n ∧ Str.ofString (toString n) = z := by
  unfold numD
  cases h : numS z with
  | none => exact .inl rfl
  | some n =>
    refine .inr ⟨n, rfl, ?_⟩
    unfold numS at h
    split at h
    · cases e : PySem.intText? z with
      | none => rw [e] at h; cases h
      | some m =>
        rw [e] at h
        simp only [Option.bind_some] at h
        split at h
        · cases h; assumption
        · cases h
    · cases h
theorem tieIn_some {r : Str} {ds : List PyData} (h : tieIn r = .tuple ds) : ∃ a b w, Txt.split r " " = [("tie" : Str), a, b, w] ∧ ds = [.str a, .str b, numD w] := by
  unfold tieIn at h
  split at h
  · rename_i t a b w e
    split at h
    · rename_i ht
      cases h
      exact ⟨a, b, w, by rw [e, ht], rfl⟩
    · cases h
  · cases h
theorem tieIn_short {r : Str} (ok : TxtOk 100000 r) {ds : List PyData} (h : tieIn r = .tuple ds) : ∀ y ∈ ds, Short y := by
  obtain ⟨a, b, w, e, rfl⟩ := tieIn_some h
  have C := cutSp r
  rw [e] at C
  intro y hy
  simp only [List.mem_cons, List.not_mem_nil, or_false] at hy
  rcases hy with rfl | rfl | rfl
  · intro s hs; cases hs; exact (C.part ok (by simp)).len
  · intro s hs; cases hs; exact (C.part ok (by simp)).len
  · intro s hs
    rcases numD_cases w with q | ⟨n, q, _⟩ <;> (rw [q] at hs; cases hs)
theorem tieIn_kind (r : Str) : tieIn r = .none ∨ ∃ ds, tieIn r = .tuple ds := by
  unfold tieIn
  split
  · split
    · exact .inr ⟨_, rfl⟩
    · exact .inl rfl
  · exact .inl rfl
theorem tieIn_depth (r : Str) : (tieIn r).depth ≤ 1 := by
  rcases tieIn_kind r with q | ⟨ds, q⟩
  · rw [q]; simp [PyData.depth]
  · obtain ⟨a, b, w, _, rfl⟩ := tieIn_some q
    rw [q]
    rcases numD_cases w with q | ⟨n, q, _⟩ <;> (rw [q]; simp [PyData.depth, PyData.depthAll])
theorem depthAll_ties (rs : List Str) : PyData.depthAll (rs.map tieIn) ≤ 1 := by
  induction rs with
  | nil => simp [PyData.depthAll]
  | cons r rs ih =>
    have := tieIn_depth r
    simp only [List.map_cons, PyData.depthAll]
    omega
theorem netOf_sm {ws rs : List Str} (hw : ∀ w ∈ ws, TxtOk 100000 w) (hr : ∀ r ∈ rs, TxtOk 100000 r) : Sm (netOf ws rs) := by
  refine ⟨?_, fun ds e x hx es ex => ?_⟩
  · have h1 := depthAll_ties rs
    have h2 := depth_strs ws
    simp only [netOf, PyData.depth, PyData.depthAll]
    omega
  · cases e
    simp only [List.mem_cons, List.not_mem_nil, or_false] at hx
    rcases hx with rfl | rfl
    · cases ex
      refine ⟨fun y hy => ?_, fun y hy fs ey => ?_⟩
      · obtain ⟨w, hw', rfl⟩ := List.mem_map.mp hy
        intro s hs; cases hs; exact (hw _ hw').len
      · obtain ⟨w, hw', rfl⟩ := List.mem_map.mp hy
        cases ey
    · cases ex
      refine ⟨fun y hy => ?_, fun y hy fs ey => ?_⟩
      · obtain ⟨r, hr', rfl⟩ := List.mem_map.mp hy
        intro s hs
        rcases tieIn_kind r with q | ⟨ds, q⟩ <;> (rw [q] at hs; cases hs)
      · obtain ⟨r, hr', rfl⟩ := List.mem_map.mp hy
        exact tieIn_short (hr r hr') ey
/-! ### what is a net is written so -/
theorem rows_ties {xs : List Str} : ∀ {rs : List Str}, (rs.map tieIn).all (tieB xs) = true → ∃ ts : List Tie, rs.map tieIn = ts.map tieD ∧ rs = ts.map tieT ∧ ∀ t ∈ ts, t.1 ∈ xs ∧ t.2.1 ∈ xs ∧ 1 ≤ t.2.2 ∧ t.2.2 ≤ 100
  | [], _ => ⟨[], rfl, rfl, by simp⟩
  | r :: rs, h => by
    rw [List.map_cons, List.all_cons, Bool.and_eq_true] at h
    obtain ⟨ts, e1, e2, h3⟩ := rows_ties h.2
    obtain ⟨a, b, w, q⟩ := tieB_head h.1
    obtain ⟨a', b', w', sp, e⟩ := tieIn_some q
    have hb := h.1
    rw [q, e] at hb
    have q := q.trans (congrArg PyData.tuple e)
    rcases numD_cases w' with qn | ⟨n, qn, hn⟩
    · rw [qn] at hb
      simp [tieB, wtB] at hb
    · rw [qn] at hb q
      simp only [tieB, inN, wtB, Bool.and_eq_true, decide_eq_true_eq] at hb
      have er : r = tieT (a', b', n) := by
        have C := cutSp r
        rw [sp] at C
        rw [tieT_join]
        show r = Txt.join " " ["tie", a', b', Str.ofString (toString n)]
        rw [hn]
        exact C.eq.symm
      refine ⟨(a', b', n) :: ts, by rw [List.map_cons, List.map_cons, q, e1]; rfl, by rw [List.map_cons, ← er, e2.symm], fun t ht => ?_⟩
      rcases List.mem_cons.mp ht with rfl | ht
      · exact ⟨hb.2.1.1, hb.2.1.2.1, hb.2.2⟩
      · exact h3 t ht
theorem txs_strs (ws : List Str) : txs (ws.map .str) = ws := by
  induction ws with
  | nil => rfl
  | cons w r ih => rw [List.map_cons, txs, ih]
theorem net_good {ws rs : List Str} (hb : netB (netOf ws rs) = true) : ∃ ts, Good ws ts ∧ netOf ws rs = netD ws ts ∧ rs = ts.map tieT := by
  unfold netOf netB tiesB at hb
  simp only [Bool.and_eq_true, decide_eq_true_eq] at hb
  obtain ⟨⟨⟨l1, l2⟩, hn⟩, _, l3, ht, _⟩ := hb
  rw [List.length_map] at l1 l2 l3
  rw [txs_strs] at ht
  obtain ⟨ts, e1, e2, h3⟩ := rows_ties ht
  refine ⟨ts, ⟨l2, fun z => by rw [z] at l1; simp at l1, fun h hh => ?_, ?_, h3⟩, ?_, e2⟩
  · have := List.all_eq_true.mp hn (.str h) (List.mem_map_of_mem hh)
    simp only [nameB, Bool.and_eq_true, decide_eq_true_eq] at this
    exact this
  · rw [e2, List.length_map] at l3; exact l3
  · unfold netOf netD; rw [e1]
/-! ### the program's -/
theorem rd_comp {x0 x1 x2 x3 : Option C} : ∀ (rs : List Str), (∀ r ∈ rs, TxtOk 100000 r) → compL none (.nm 4) [4] (G.ret true) e1_read_net (rs.map .str) [x0, x1, x2, x3, none] = .ok (rs.map tieIn) [x0, x1, x2, x3, none]
  | [], _ => by simp [compL_nil]
  | r :: rs, hm => by
    have n1 := tie_in_ok (hm r List.mem_cons_self)
    have ih := rd_comp (x0 := x0) (x1 := x1) (x2 := x2) (x3 := x3) rs fun q hq => hm q (List.mem_cons_of_mem _ hq)
    rw [List.map_cons, compL_cons]
    simp [e1_read_net_at, n1, wipeE, ih]
noncomputable def rdE (o : Option PyData) (cs : List C) : RF := match o with
  | some d => .ok (.val d) cs
  | none => .ex (.plain "NoText") cs
theorem read_net_ok {z r0 w0 : Str} {rs ws : List Str} (ok : TxtOk 100000 z) (er : Txt.split z "\n" = r0 :: rs) (ew : Txt.split r0 " " = w0 :: ws) :
    fn_read_net [.val (.str z)] = rdE (rdOf w0 ws rs) [.val (.str z)] := by
  have szl := sizeL
  have C1 := cutNl z
  have s1 := splitNl ok
  rw [er] at C1 s1
  have ok0 := C1.part ok (p := r0) List.mem_cons_self
  have C2 := cutSp r0
  have s2 := splitSp ok0
  rw [ew] at C2 s2
  have ll1 := C1.count (by decide +kernel) ok
  have ll2 := C2.count (by decide +kernel) ok0
  simp only [List.length_cons] at ll1 ll2
  have hrs : ∀ r ∈ rs, TxtOk 100000 r := fun r hr => C1.part ok (List.mem_cons_of_mem _ hr)
  have hws : ∀ w ∈ ws, TxtOk 100000 w := fun w hw => C2.part ok0 (List.mem_cons_of_mem _ hw)
  have n1 := is_net_ok (netOf_sm hws hrs)
  have e1 := rd_comp (x0 := some (.val (.str z))) (x1 := some (.val (.list (.str r0 :: rs.map .str)))) (x2 := some (.val (.list (.str w0 :: ws.map .str)))) (x3 := none) rs hrs
  have c1 : cutD (PyData.str w0 :: ws.map .str) (some 1) none = ws.map .str := by rw [cutD_drop _ (by omega)]; rfl
  have c2 : cutD (PyData.str r0 :: rs.map .str) (some 1) none = rs.map .str := by rw [cutD_drop _ (by omega)]; rfl
  simp only [List.map_cons] at s1 s2
  unfold fn_read_net g_read_net
  rw [fnOf_eq]
  have lz1 : rs.length + 1 ≤ sizeLine := by omega
  have lz2 : ws.length + 1 ≤ sizeLine := by omega
  by_cases hw : w0 = "hands"
  · subst hw
    cases q : netB (netOf ws rs) with
    | false =>
      rw [q] at n1
      have rd : rdOf "hands" ws rs = none := by simp [rdOf, q]
      rw [rd]
      unfold netOf at n1
      simp [isTy, s1, s2, atI, ixN, c1, c2, plainAt, wipeE, restore, e1, neD_strs, n1, rdE, -List.map_map]
    | true =>
      rw [q] at n1
      obtain ⟨ts, g, en, et⟩ := net_good q
      have n2 := net_text_ok g
      have ez : netT ws ts = z := by
        unfold netT
        rw [← et]
        have := C2.eq
        rw [this]
        exact C1.eq
      rw [← en, ez] at n2
      have rd : rdOf "hands" ws rs = some (netOf ws rs) := by simp [rdOf, q]
      rw [rd]
      unfold netOf at n1 n2
      simp [isTy, s1, s2, atI, ixN, c1, c2, plainAt, wipeE, restore, e1, neD_strs, n1, n2, rdE, netOf, -List.map_map]
  · have rd : rdOf w0 ws rs = none := by simp [rdOf, hw]
    rw [rd]
    simp [isTy, s1, s2, atI, ixN, c1, c2, plainAt, wipeE, restore, e1, neD_strs, hw, rdE, -List.map_map]
theorem read_net_other {x : PyData} (hx : ∀ s, x ≠ .str s) : fn_read_net [.val x] = .ex (.plain "NoText") [.val x] := by
  have ok : TxtOk 100000 "" := ⟨by decide +kernel, by decide +kernel⟩
  have s2 := splitSp ok
  have e0 : Txt.split "" " " = [("" : Str)] := by decide +kernel
  rw [e0] at s2
  simp only [List.map_cons, List.map_nil] at s2
  have ne : ¬ ("" : Str) = "hands" := by decide +kernel
  have hi : isTy .str x = some false := by
    cases x <;> first | rfl | exact absurd rfl (hx _)
  unfold fn_read_net g_read_net
  rw [fnOf_eq]
  simp [hi, s2, atI, ixN, cutD, HT.sIx, plainAt, wipeE, restore, neD_strs, ne, compL_nil]
/-! ### the law's -/
theorem lrn_comp {x0 x1 x2 x3 x4 : Option C} : ∀ (rs : List Str), (∀ r ∈ rs, TxtOk 100000 r) → compL none (.nm 5) [5] (G.ret true) e1__law_read_net (rs.map .str) [x0, x1, x2, x3, x4, none] = .ok (rs.map fun r => .list ((Txt.split r " ").map .str)) [x0, x1, x2, x3, x4, none]
  | [], _ => by simp [compL_nil]
  | r :: rs, hm => by
    have n1 := splitSp (hm r List.mem_cons_self)
    have ih := lrn_comp (x0 := x0) (x1 := x1) (x2 := x2) (x3 := x3) (x4 := x4) rs fun q hq => hm q (List.mem_cons_of_mem _ hq)
    rw [List.map_cons, compL_cons]
    simp [e1__law_read_net_at, n1, wipeE, ih]
def okRow (r : Str) : Bool := match Txt.split r " " with
  | [t, _, _, _] => decide (t = "tie")
  | _ => false
theorem okRow_no {r : Str} (h : okRow r = false) : tieIn r = .none := by
  unfold okRow at h
  unfold tieIn
  generalize Txt.split r " " = l at h ⊢
  match l, h with
  | [], _ => rfl
  | [_], _ => rfl
  | [_, _], _ => rfl
  | [_, _, _], _ => rfl
  | [t, a, b, w], h => exact if_neg (of_decide_eq_false h)
  | _ :: _ :: _ :: _ :: _ :: _, _ => rfl
theorem lrn_loop {x0 x1 x4 x5 : Option C} : ∀ (rs : List Str) {acc : List PyData} {x3 : Option C}, (∀ r ∈ rs, TxtOk 100000 r) → acc.length + rs.length < 500000 →
    ∃ (y2 : C) (y3 : Option C), forL none (.nm 3) b2__law_read_net (rs.map fun r => .list ((Txt.split r " ").map .str)) [x0, x1, some (mkL acc), x3, x4, x5] = .ok (if rs.all okRow = true then .next else .ret (.val .none)) [x0, x1, some y2, y3, x4, x5] ∧ (rs.all okRow = true → y2 = mkL (acc ++ rs.map tieIn))
  | [], acc, x3, _, _ => ⟨mkL acc, x3, by simp [forL_nil], fun _ => by simp⟩
  | r :: rs, acc, x3, hm, hl => by
    have okr := hm r List.mem_cons_self
    have C := cutSp r
    have cn := C.count (by decide +kernel) okr
    have szl := sizeL
    simp only [List.length_cons] at hl
    by_cases h4 : (Txt.split r " ").length = 4
    · obtain ⟨t, a, b, w, e⟩ : ∃ t a b w, Txt.split r " " = [t, a, b, w] := by
        match Txt.split r " ", h4 with
        | [t, a, b, w], _ => exact ⟨t, a, b, w, rfl⟩
      have hw := law_number_ok (C.part okr (p := w) (by rw [e]; simp))
      by_cases ht : t = "tie"
      · have ti : tieIn r = .tuple [.str a, .str b, numD w] := by unfold tieIn; simp only [e]; rw [if_pos ht]
        have ko : okRow r = true := by unfold okRow; simp only [e]; exact decide_eq_true ht
        obtain ⟨y2, y3, e1, h1⟩ := lrn_loop (x0 := x0) (x1 := x1) (x4 := x4) (x5 := x5) rs (acc := acc ++ [tieIn r]) (x3 := some (.val (.list ((Txt.split r " ").map .str)))) (fun q hq => hm q (List.mem_cons_of_mem _ hq)) (by simp; omega)
        refine ⟨y2, y3, ?_, fun h => ?_⟩
        · rw [e, ti] at e1
          have la : acc.length < sizeLine := by omega
          rw [List.map_cons, forL_cons, e]
          simp only [List.map_cons, List.map_nil] at e1 ⊢
          simp [b2__law_read_net_at, neD_int, atI, ixN, neD_strs, ht, hw, la, ko]
          simpa [mkL, ht] using e1
        · have := h1 (by simpa [ko] using h)
          rw [this]; simp
      · have ko : okRow r = false := by unfold okRow; simp only [e]; exact decide_eq_false ht
        refine ⟨mkL acc, some (.val (.list ((Txt.split r " ").map .str))), ?_, fun h => by simp [ko] at h⟩
        rw [List.map_cons, forL_cons, e]
        simp [b2__law_read_net_at, neD_int, atI, ixN, neD_strs, ht, ko]
    · have ko : okRow r = false := by
        unfold okRow
        split
        · rename_i e; rw [e] at h4; exact absurd rfl h4
        · rfl
      have h4' : ¬ ((Txt.split r " ").length : Int) = 4 := by omega
      have lz : (Txt.split r " ").length ≤ sizeLine := by omega
      refine ⟨mkL acc, some (.val (.list ((Txt.split r " ").map .str))), ?_, fun h => by simp [ko] at h⟩
      rw [List.map_cons, forL_cons]
      simp [b2__law_read_net_at, neD_int, h4', lz, ko]
noncomputable def optD : Option PyData → PyData
  | some d => d
  | none => .none
theorem not_rows {ws rs : List Str} (h : rs.all okRow = false) : netB (netOf ws rs) = false := by
  cases q : netB (netOf ws rs) with
  | false => rfl
  | true =>
    exfalso
    unfold netOf netB tiesB at q
    simp only [Bool.and_eq_true, decide_eq_true_eq] at q
    have ht := q.2.2.2.1
    have : rs.all okRow = true := List.all_eq_true.mpr fun r hr => by
      cases k : okRow r with
      | true => rfl
      | false =>
        have z := List.all_eq_true.mp ht _ (List.mem_map_of_mem hr)
        rw [okRow_no k] at z
        cases z
    rw [this] at h
    cases h
theorem law_read_net_ok {z r0 w0 : Str} {rs ws : List Str} (ok : TxtOk 100000 z) (er : Txt.split z "\n" = r0 :: rs) (ew : Txt.split r0 " " = w0 :: ws) :
    fn__law_read_net [.val (.str z)] = .ok (.val (optD (rdOf w0 ws rs))) [.val (.str z)] := by
  have szl := sizeL
  have C1 := cutNl z
  have s1 := splitNl ok
  rw [er] at C1 s1
  have ok0 := C1.part ok (p := r0) List.mem_cons_self
  have C2 := cutSp r0
  rw [ew] at C2
  have ll1 := C1.count (by decide +kernel) ok
  have ll2 := C2.count (by decide +kernel) ok0
  simp only [List.length_cons] at ll1 ll2
  have hrs : ∀ r ∈ r0 :: rs, TxtOk 100000 r := fun r hr => C1.part ok hr
  have hws : ∀ w ∈ ws, TxtOk 100000 w := fun w hw => C2.part ok0 (List.mem_cons_of_mem _ hw)
  have n1 := is_net_ok (netOf_sm hws fun r hr => hrs r (List.mem_cons_of_mem _ hr))
  have e1 := lrn_comp (x0 := some (.val (.str z))) (x1 := none) (x2 := none) (x3 := none) (x4 := none) (r0 :: rs) hrs
  rw [List.map_cons (f := fun r => PyData.list ((Txt.split r " ").map .str)), ew] at e1
  obtain ⟨y2, y3, e2, h2⟩ := lrn_loop (x0 := some (.val (.str z))) (x1 := some (mkL (.list ((w0 :: ws).map .str) :: rs.map fun r => .list ((Txt.split r " ").map .str)))) (x4 := none) (x5 := none) rs (acc := []) (x3 := none) (fun r hr => hrs r (List.mem_cons_of_mem _ hr)) (by simp; omega)
  have c1 : cutD (PyData.str w0 :: ws.map .str) (some 1) none = ws.map .str := by rw [cutD_drop _ (by omega)]; rfl
  have c2 : ∀ x, cutD (x :: rs.map fun r => PyData.list ((Txt.split r " ").map .str)) (some 1) none = rs.map fun r => PyData.list ((Txt.split r " ").map .str) := fun x => by rw [cutD_drop _ (by omega)]; rfl
  simp only [List.map_cons] at s1 e1 e2
  unfold fn__law_read_net g__law_read_net
  rw [fnOf_eq]
  cases q : rs.all okRow with
  | false =>
    rw [q] at e2
    have rd : rdOf w0 ws rs = none := by simp [rdOf, not_rows q]
    rw [rd]
    simp [isTy, s1, atI, ixN, c2, plainAt, wipeE, restore, e1, e2, optD, -List.map_map]
  | true =>
    rw [q] at e2
    have hy := h2 q
    subst hy
    rw [List.nil_append] at e2
    by_cases hw : w0 = "hands"
    · subst hw
      cases q2 : netB (netOf ws rs) with
      | false =>
        rw [q2] at n1
        have rd : rdOf "hands" ws rs = none := by simp [rdOf, q2]
        rw [rd]
        unfold netOf at n1
        simp [isTy, s1, atI, ixN, c1, c2, plainAt, wipeE, restore, e1, e2, eqD_str, n1, optD, -List.map_map]
      | true =>
        rw [q2] at n1
        have rd : rdOf "hands" ws rs = some (netOf ws rs) := by simp [rdOf, q2]
        rw [rd]
        unfold netOf at n1
        simp [isTy, s1, atI, ixN, c1, c2, plainAt, wipeE, restore, e1, e2, eqD_str, n1, optD, netOf, -List.map_map]
    · have rd : rdOf w0 ws rs = none := by simp [rdOf, hw]
      rw [rd]
      simp [isTy, s1, atI, ixN, c1, c2, plainAt, wipeE, restore, e1, e2, eqD_str, hw, optD, -List.map_map]
theorem law_read_net_other {x : PyData} (hx : ∀ s, x ≠ .str s) : fn__law_read_net [.val x] = .ok (.val .none) [.val x] := by
  have hi : isTy .str x = some false := by
    cases x <;> first | rfl | exact absurd rfl (hx _)
  unfold fn__law_read_net g__law_read_net
  rw [fnOf_eq]
  simp [hi]
end Lw

namespace Lw
open PySem L2 Nd
/-! ### what a state is -/
def rowB (nb : Str → List Str) (h : Str) : PyData → Bool
  | .tuple [.str a, .none] => decide (a = h)
  | .tuple [.str a, .str s] => decide (a = h) && decide (s ∈ nb h)
  | _ => false
theorem notInD_strs (xs : List Str) (s : Str) : notInD (.str s) (.list (xs.map .str)) = some (!decide (s ∈ xs)) := by simp [notInD, inD_strs]
theorem row_ok {hs : List Str} {ts : List Tie} {h : Str} {th : C} {row : PyData} (hf : ts.length ≤ 16) (hd : row.depth ≤ 60) :
    b1_is_state [some (.val (netD hs ts)), some th, some (.val (.str h)), some (.val row)] = (if rowB (nbrP ts) h row = true then .ok .next [some (.val (netD hs ts)), some th, some (.val (.str h)), some (.val row)] else .ok (.ret (.val (.bool false))) [some (.val (netD hs ts)), some th, some (.val (.str h)), some (.val row)]) := by
  rw [b1_is_state_at]
  have nb := nbr_ok (hs := hs) (h := h) hf
  cases row with
  | tuple ds =>
    by_cases h2 : (ds.length : Int) = 2
    · obtain ⟨a, b, rfl⟩ : ∃ a b, ds = [a, b] := by
        match ds, h2 with
        | [a, b], _ => exact ⟨a, b, rfl⟩
        | [], h => simp at h
        | [_], h => simp at h
        | _ :: _ :: _ :: _, h => simp at h; omega
      have da : a.depth ≤ 64 := by simp [PyData.depth, PyData.depthAll] at hd; omega
      cases a with
      | str a =>
        by_cases ea : a = h
        · subst ea
          cases b with
          | none => simp [isTy, neD_int, neD_str da, atI, ixN, eqv_str, rowB]
          | str s =>
            by_cases es : s ∈ nbrP ts a
            · simp [isTy, neD_int, neD_str da, atI, ixN, eqv_str, rowB, nb, notInD_strs, es]
            · simp [isTy, neD_int, neD_str da, atI, ixN, eqv_str, rowB, nb, notInD_strs, es]
          | _ => simp [isTy, neD_int, neD_str da, atI, ixN, eqv_str, rowB, isNone]
        · cases b <;> simp [isTy, neD_int, neD_str da, atI, ixN, eqv_str, rowB, ea]
      | _ => simp [isTy, neD_int, atI, ixN, rowB]
    · have rb : rowB (nbrP ts) h (.tuple ds) = false := by
        match ds, h2 with
        | [a, b], h => simp at h
        | [], _ => rfl
        | [_], _ => simp [rowB]
        | _ :: _ :: _ :: _, _ => simp [rowB]
      simp [isTy, neD_int, h2, rb]
  | _ => simp [isTy, rowB]
def rowsB (nb : Str → List Str) : List Str → List PyData → Bool
  | h :: hs, r :: rs => rowB nb h r && rowsB nb hs rs
  | _, _ => true
theorem rows_loop {b : G Fl} {net th : C} {nb : Str → List Str} (hb : ∀ (h : Str) (row : PyData), row.depth ≤ 60 → b [some net, some th, some (.val (.str h)), some (.val row)] = (if rowB nb h row = true then .ok .next [some net, some th, some (.val (.str h)), some (.val row)] else .ok (.ret (.val (.bool false))) [some net, some th, some (.val (.str h)), some (.val row)])) :
    ∀ (hs : List Str) (rs : List PyData) {x2 x3 : Option C}, (∀ r ∈ rs, r.depth ≤ 60) → ∃ y2 y3 : Option C, forL none (.tu [.nm 2, .nm 3]) b (zipP (hs.map .str) rs) [some net, some th, x2, x3] = (if rowsB nb hs rs = true then .ok .next [some net, some th, y2, y3] else .ok (.ret (.val (.bool false))) [some net, some th, y2, y3])
  | [], rs, x2, x3, _ => ⟨x2, x3, by simp [zipP, forL_nil, rowsB]⟩
  | _ :: _, [], x2, x3, _ => ⟨x2, x3, by simp [zipP, forL_nil, rowsB]⟩
  | h :: hs, r :: rs, x2, x3, hd => by
    obtain ⟨y2, y3, e⟩ := rows_loop hb hs rs (x2 := some (.val (.str h))) (x3 := some (.val r)) fun q hq => hd q (List.mem_cons_of_mem _ hq)
    have hb' := hb h r (hd r List.mem_cons_self)
    have ez : zipP ((h :: hs).map PyData.str) (r :: rs) = .tuple [.str h, r] :: zipP (hs.map .str) rs := rfl
    by_cases hr : rowB nb h r = true
    · refine ⟨y2, y3, ?_⟩
      rw [if_pos hr] at hb'
      rw [ez, forL_cons]
      simp only [asg_tu, asgs_cons, asgs_nil, asg_nm]
      simp [hb', e, rowsB, hr]
    · refine ⟨some (.val (.str h)), some (.val r), ?_⟩
      rw [if_neg hr] at hb'
      rw [ez, forL_cons]
      simp only [asg_tu, asgs_cons, asgs_nil, asg_nm]
      simp [hb', rowsB, hr]
def stateB (hs : List Str) (ts : List Tie) : PyData → Bool
  | .tuple rs => decide (rs.length = hs.length) && rowsB (nbrP ts) hs rs
  | _ => false
theorem depthAll_le {ds : List PyData} {k : Nat} (h : PyData.depthAll ds ≤ k) : ∀ d ∈ ds, d.depth ≤ k := by
  induction ds with
  | nil => intro d hd; cases hd
  | cons x r ih =>
    simp only [PyData.depthAll] at h
    intro d hd
    rcases List.mem_cons.mp hd with q | q
    · subst q; omega
    · exact ih (by omega) d q
theorem is_state_ok {hs : List Str} {ts : List Tie} {x : PyData} (h8 : hs.length ≤ 8) (hf : ts.length ≤ 16) (hd : x.depth ≤ 60) : fn_is_state [.val (netD hs ts), .val x] = .ok (.val (.bool (stateB hs ts x))) [.val (netD hs ts), .val x] := by
  unfold fn_is_state g_is_state
  rw [fnOf_eq]
  cases x with
  | tuple rs =>
    by_cases hl : (rs.length : Int) = (hs.length : Int)
    · have hl' : rs.length = hs.length := by omega
      obtain ⟨y2, y3, e⟩ := rows_loop (net := .val (netD hs ts)) (th := .val (.tuple rs)) (nb := nbrP ts) (b := b1_is_state) (fun h row hr => row_ok hf hr) hs rs (x2 := none) (x3 := none) (depthAll_le (by simp only [PyData.depth] at hd; omega))
      have szl := sizeL
      have a1 : szOk (zipP (hs.map .str) rs) = true := by
        unfold szOk
        rw [zipP_length, List.length_map]
        exact decide_eq_true (by omega)
      unfold netD at e ⊢
      by_cases hr : rowsB (nbrP ts) hs rs = true
      · rw [if_pos hr] at e
        simp [isTy, neD_int, hl, hl', atI, ixN, zipI, a1, e, stateB, hr]
      · rw [if_neg hr] at e
        simp [isTy, neD_int, hl, hl', atI, ixN, zipI, a1, e, stateB, hr]
    · have hl' : ¬ rs.length = hs.length := by omega
      unfold netD
      simp [isTy, neD_int, hl, hl', atI, ixN, stateB]
  | _ => simp [isTy, stateB]
end Lw

namespace Lw
open PySem L2 Nd TL
/-! ### a state as a text -/
def atT : Option Str → Str
  | none => "-"
  | some s => s
def rowT (p : Str × Option Str) : Str := p.1 ++ ">" ++ atT p.2
def stT (ps : List (Str × Option Str)) : Str := Txt.join " " (ps.map rowT)
structure GoodS (ps : List (Str × Option Str)) : Prop where
  ne : ps ≠ []
  few : ps.length ≤ 8
  nm : ∀ p ∈ ps, NmOk p.1
  at_ : ∀ p ∈ ps, ∀ s, p.2 = some s → NmOk s
theorem nbr_names {hs : List Str} {ts : List Tie} (g : Good hs ts) {h s : Str} (hm : s ∈ nbrP ts h) : NmOk s := by
  rw [nbrP, mem_sortS] at hm
  simp only [nbrL, List.mem_append, List.mem_map, List.mem_filter] at hm
  rcases hm with ⟨t, ⟨ht, _⟩, rfl⟩ | ⟨t, ⟨ht, _⟩, rfl⟩
  · exact g.nm _ (g.tie t ht).2.1
  · exact g.nm _ (g.tie t ht).1
theorem StOk.good {hs : List Str} {ts : List Tie} {ps : List (Str × Option Str)} (g : Good hs ts) (ok : StOk hs ts ps) : GoodS ps := by
  have hl : ps.length = hs.length := by rw [← ok.fst, List.length_map]
  refine ⟨fun e => g.ne (by rw [← ok.fst, e]; rfl), by have := g.few; omega, fun p hp => g.nm _ (by rw [← ok.fst]; exact List.mem_map_of_mem hp), fun p hp s hs => nbr_names g (ok.at_ p hp s hs)⟩
theorem at_facts {ps : List (Str × Option Str)} (g : GoodS ps) {p : Str × Option Str} (hp : p ∈ ps) : 1 ≤ (atT p.2).length ∧ (atT p.2).length ≤ 8 ∧ layS (atT p.2) = true ∧ 32 ∉ tl (atT p.2) := by
  cases h : p.2 with
  | none => exact ⟨by decide +kernel, by decide +kernel, by decide +kernel, by decide +kernel⟩
  | some s =>
    have hn := g.at_ p hp s h
    obtain ⟨a, b, c, _⟩ := name_facts s hn
    exact ⟨by show 1 ≤ s.length; omega, b, c, name_free hn (by omega)⟩
theorem row_facts {ps : List (Str × Option Str)} (g : GoodS ps) {p : Str × Option Str} (hp : p ∈ ps) : (rowT p).length ≤ 20 ∧ layS (rowT p) = true ∧ 32 ∉ tl (rowT p) := by
  obtain ⟨a, b, c, _⟩ := name_facts _ (g.nm p hp)
  obtain ⟨a', b', c', d'⟩ := at_facts g hp
  have hs1 : (">" : Str).length = 1 := by decide +kernel
  refine ⟨by unfold rowT; simp only [len_app]; omega, layS_app (layS_app c (by decide +kernel)) c', free_app (free_app (name_free (g.nm p hp) (by omega)) (by decide +kernel)) d'⟩
theorem st_facts {ps : List (Str × Option Str)} (g : GoodS ps) : joinD (.str " ") [.list ((ps.map rowT).map .str)] = some (.val (.str (stT ps))) ∧ (stT ps).length ≤ 1000 ∧ layS (stT ps) = true := by
  have hs1 : (" " : Str).length = 1 := by decide +kernel
  have h8 := g.few
  have hsum : ((ps.map rowT).map (·.length)).sum ≤ 8 * 20 := join_len " " _ (n := 8) (k := 20) (by simpa using h8) fun q hq => by
    obtain ⟨p, hp, rfl⟩ := List.mem_map.mp hq
    exact (row_facts g hp).1
  have hb : ((ps.map rowT).map (·.length)).sum + (ps.map rowT).length * (" " : Str).length ≤ 1000 := by
    rw [List.length_map, hs1]; omega
  have lay : layS (stT ps) = true := layS_join (by decide +kernel) fun q hq => by
    obtain ⟨p, hp, rfl⟩ := List.mem_map.mp hq
    exact (row_facts g hp).2.1
  exact ⟨joinD_ok (by omega) lay, Nat.le_trans (join_length _ _) hb, lay⟩
end Lw

namespace Lw
open PySem L2 Nd TL
theorem tx_at {a : Option Str} {c h : C} (h1 : 1 ≤ (atT a).length) (h3 : (atT a).length ≤ 8) : gTx (gFz (gOrX (gSlot 2) (gC (.str "-")))) [some c, some h, some (.val (atD a))] = .ok (atT a) [some c, some h, some (.val (atD a))] := by
  have szl := sizeL
  have l1 : (atT a).length ≤ sizeLine := by omega
  cases a with
  | none =>
    have l2 : ("-" : Str).length ≤ sizeLine := l1
    simp [atD, truD, atT, l2]
  | some s =>
    have l2 : s.length ≤ sizeLine := l1
    have l3 : ¬ (s.length : Int) = 0 := by have : 1 ≤ s.length := h1; omega
    have l4 : truD (.str s) = some true := by
      simp only [truD]
      rw [if_pos (decide_eq_true l2)]
      simp only [Option.some.injEq, bne_iff_ne, ne_eq]
      exact l3
    simp [atD, atT, l2, l4]
theorem stt_comp {c : C} {all : List (Str × Option Str)} (g : GoodS all) : ∀ (ps : List (Str × Option Str)), (∀ p ∈ ps, p ∈ all) → compL none (.tu [.nm 1, .nm 2]) [1, 2] (G.ret true) e1_state_text (ps.map rowD) [some c, none, none] = .ok ((ps.map rowT).map .str) [some c, none, none]
  | [], _ => by simp [compL_nil]
  | p :: ps, hm => by
    have ih := stt_comp (c := c) g ps fun q hq => hm q (List.mem_cons_of_mem _ hq)
    have hp := hm p List.mem_cons_self
    obtain ⟨a, b, _, _⟩ := name_facts _ (g.nm p hp)
    obtain ⟨a', b', _, _⟩ := at_facts g hp
    have ly := (row_facts g hp).2.1
    have szl := sizeL
    have hs1 : (">" : Str).length = 1 := by decide +kernel
    have ej : gJ [gTx (gSlot 1), gTc ">", gTx (gFz (gOrX (gSlot 2) (gC (.str "-"))))] Str.empty [some c, some (.val (.str p.1)), some (.val (atD p.2))] = .ok (rowT p) [some c, some (.val (.str p.1)), some (.val (atD p.2))] := by
      have q := gJ_ok (ρ := [some c, some (.val (.str p.1)), some (.val (atD p.2))]) (gs := [gTx (gSlot 1), gTc ">", gTx (gFz (gOrX (gSlot 2) (gC (.str "-"))))]) (ys := [p.1, ">", atT p.2]) (acc := Str.empty) (by
        have l1 : p.1.length ≤ sizeLine := by omega
        refine ⟨?_, rfl, tx_at a' b', trivial⟩
        simp [l1]) (by
        have h0 : Str.empty.length = 0 := rfl
        simp only [List.map_cons, List.map_nil, List.sum_cons, List.sum_nil]
        omega)
      rw [q]
      simp only [List.foldl_cons, List.foldl_nil, empty_app]
      rfl
    rw [List.map_cons, compL_cons]
    simp [e1_state_text_at, rowD, ej, ly, wipeE, -List.map_map]
    rw [ih]
    simp
theorem state_text_ok {ps : List (Str × Option Str)} (g : GoodS ps) : fn_state_text [.val (stD ps)] = .ok (.val (.str (stT ps))) [.val (stD ps)] := by
  have j := (st_facts g).1
  have e := stt_comp (c := .val (stD ps)) g ps fun p hp => hp
  unfold stD at e
  unfold fn_state_text g_state_text stD
  rw [fnOf_eq]
  simp [plainAt, wipeE, restore, e, j, -List.map_map]
theorem lstt_comp {c : C} {all : List (Str × Option Str)} (g : GoodS all) : ∀ (ps : List (Str × Option Str)), (∀ p ∈ ps, p ∈ all) → compL none (.tu [.nm 1, .nm 2]) [1, 2] (G.ret true) e1__law_state_text (ps.map rowD) [some c, none, none] = .ok ((ps.map rowT).map .str) [some c, none, none]
  | [], _ => by simp [compL_nil]
  | p :: ps, hm => by
    have ih := lstt_comp (c := c) g ps fun q hq => hm q (List.mem_cons_of_mem _ hq)
    have hp := hm p List.mem_cons_self
    obtain ⟨a, b, _, _⟩ := name_facts _ (g.nm p hp)
    obtain ⟨a', b', _, _⟩ := at_facts g hp
    have szl := sizeL
    have hs1 : (">" : Str).length = 1 := by decide +kernel
    have d1 := addD_str' (a := p.1) (b := ">") (by omega)
    have d2 := addD_str' (a := p.1 ++ ">") (b := atT p.2) (by rw [len_app]; omega)
    rw [List.map_cons, compL_cons]
    cases h : p.2 with
    | none =>
      rw [h] at d2
      simp only [atT] at d2
      have er : rowT p = p.1 ++ ">" ++ "-" := by unfold rowT; rw [h]; rfl
      simp [e1__law_state_text_at, rowD, h, atD, d1, d2, wipeE, er, -List.map_map]
      rw [ih]
      simp
    | some s =>
      rw [h] at d2
      simp only [atT] at d2
      have er : rowT p = p.1 ++ ">" ++ s := by unfold rowT; rw [h]; rfl
      simp [e1__law_state_text_at, rowD, h, atD, d1, d2, wipeE, er, -List.map_map]
      rw [ih]
      simp
theorem lstate_text_ok {ps : List (Str × Option Str)} (g : GoodS ps) : fn__law_state_text [.val (stD ps)] = .ok (.val (.str (stT ps))) [.val (stD ps)] := by
  have j := (st_facts g).1
  have e := lstt_comp (c := .val (stD ps)) g ps fun p hp => hp
  unfold stD at e
  unfold fn__law_state_text g__law_state_text stD
  rw [fnOf_eq]
  simp [plainAt, wipeE, restore, e, j, -List.map_map]
end Lw

namespace Lw
open PySem L2 Nd TL
/-! ### a state read, both ways -/
def rowOf (w : Str) : PyData := .tuple [.str (Txt.partition w ">").1, if (Txt.partition w ">").2.2 = "-" then .none else .str (Txt.partition w ">").2.2]
def stOf (ws : List Str) : PyData := .tuple (ws.map rowOf)
theorem part_cases (w : Str) : (∃ a, Txt.split w ">" = [a] ∧ Txt.partition w ">" = (a, Str.empty, Str.empty)) ∨ ∃ a b r, Txt.split w ">" = a :: b :: r ∧ Txt.partition w ">" = (a, (">" : Str), Txt.join ">" (b :: r)) ∧ w = a ++ ">" ++ Txt.join ">" (b :: r) := by
  have C := cutGt w
  cases h : Txt.split w ">" with
  | nil => exact absurd h C.ne
  | cons a r =>
    rw [h] at C
    cases r with
    | nil =>
      have e : a = w := C.eq
      subst e
      exact .inl ⟨a, rfl, partition_none (s := 62) (S := []) (by decide +kernel) (C.free a List.mem_cons_self)⟩
    | cons b r =>
      have e : a ++ ">" ++ Txt.join ">" (b :: r) = w := by
        have := C.eq
        rw [join_eq] at this ⊢
        exact this
      refine .inr ⟨a, b, r, rfl, ?_, e.symm⟩
      have := partition_app (y := ">") (s := 62) (S := []) (by decide +kernel) (a := a) (b := Txt.join ">" (b :: r)) (C.free a List.mem_cons_self)
      rw [e] at this
      exact this
theorem pointer_ok {w : Str} (ok : TxtOk 100000 w) : fn_pointer_in [.val (.str w)] = .ok (.val (rowOf w)) [.val (.str w)] := by
  have szl := sizeL
  have hl := ok.len
  have C := cutGt w
  have lay : layS (Txt.partition w ">").1 = true ∧ layS (Txt.partition w ">").2.1 = true ∧ layS (Txt.partition w ">").2.2 = true := by
    rcases part_cases w with ⟨a, e1, e2⟩ | ⟨a, b, r, e1, e2, _⟩
    · rw [e1] at C
      rw [e2]
      exact ⟨(C.part ok List.mem_cons_self).lay, by show layS Str.empty = true; decide +kernel, by show layS Str.empty = true; decide +kernel⟩
    · rw [e1] at C
      rw [e2]
      exact ⟨(C.part ok List.mem_cons_self).lay, by show layS ">" = true; decide +kernel, layS_join (by decide +kernel) fun p hp => (C.part ok (List.mem_cons_of_mem _ hp)).lay⟩
  have hd : partD (.str w) [.str ">"] = some (.val (.tuple [.str (Txt.partition w ">").1, .str (Txt.partition w ">").2.1, .str (Txt.partition w ">").2.2])) := by
    simp only [partD]
    rw [if_pos]
    rw [Bool.and_eq_true]
    refine ⟨decide_eq_true ⟨by decide +kernel, by omega⟩, decide_eq_true (lay_mem.mpr fun d hd => ?_)⟩
    simp only [List.mem_cons, List.not_mem_nil, or_false] at hd
    rcases hd with rfl | rfl | rfl
    · exact lay.1
    · exact lay.2.1
    · exact lay.2.2
  unfold fn_pointer_in g_pointer_in
  rw [fnOf_eq]
  unfold rowOf
  generalize Txt.partition w ">" = p at hd
  by_cases h : p.2.2 = "-"
  · rw [h] at hd
    simp [hd, eqD_str, h]
  · simp [hd, eqD_str, h]
theorem rst_comp {x0 x1 x2 : Option C} : ∀ (ws : List Str), (∀ w ∈ ws, TxtOk 100000 w) → compL none (.nm 3) [3] (G.ret true) e1_read_state (ws.map .str) [x0, x1, x2, none] = .ok (ws.map rowOf) [x0, x1, x2, none]
  | [], _ => by simp [compL_nil]
  | w :: ws, hm => by
    have n1 := pointer_ok (hm w List.mem_cons_self)
    have ih := rst_comp (x0 := x0) (x1 := x1) (x2 := x2) ws fun q hq => hm q (List.mem_cons_of_mem _ hq)
    rw [List.map_cons, compL_cons]
    simp [e1_read_state_at, n1, wipeE, ih]
theorem stOf_depth (ws : List Str) : (stOf ws).depth ≤ 60 := by
  have key : ∀ ws : List Str, PyData.depthAll (ws.map rowOf) ≤ 1 := by
    intro ws
    induction ws with
    | nil => simp [PyData.depthAll]
    | cons w r ih =>
      have : (rowOf w).depth ≤ 1 := by
        unfold rowOf
        split <;> simp [PyData.depth, PyData.depthAll]
      simp only [List.map_cons, PyData.depthAll]
      omega
  have := key ws
  simp only [stOf, PyData.depth]
  omega
theorem gt_free {b : Str} {r : List Str} (h : 62 ∉ tl (Txt.join ">" (b :: r))) : r = [] := by
  cases r with
  | nil => rfl
  | cons c r =>
    exfalso
    apply h
    rw [join_eq]
    show 62 ∈ tl (b ++ ">" ++ Str.join ">" (c :: r))
    rw [tl_append, tl_append]
    have : 62 ∈ tl (">" : Str) := by decide +kernel
    simp [this]
theorem row_of {nb : Str → List Str} {h w : Str} (hn : ∀ s ∈ nb h, NmOk s) (hr : rowB nb h (rowOf w) = true) : ∃ a : Option Str, w = rowT (h, a) ∧ rowOf w = rowD (h, a) ∧ (∀ s, a = some s → s ∈ nb h) ∧ (Txt.split w ">").length = 2 := by
  rcases part_cases w with ⟨a, e1, e2⟩ | ⟨a, b, r, e1, e2, e3⟩
  · exfalso
    have n1 : ¬ Str.empty = "-" := by decide +kernel
    unfold rowOf at hr
    rw [e2] at hr
    simp only [if_neg n1] at hr
    simp only [rowB, Bool.and_eq_true, decide_eq_true_eq] at hr
    have := (hn _ hr.2).1.1
    exact absurd this (by decide +kernel)
  · unfold rowOf at hr
    rw [e2] at hr
    by_cases hd : Txt.join ">" (b :: r) = "-"
    · simp only [if_pos hd] at hr
      simp only [rowB, decide_eq_true_eq] at hr
      have hr0 : r = [] := gt_free (b := b) (by rw [hd]; decide +kernel)
      refine ⟨none, ?_, ?_, fun s hs => (by cases hs), by rw [e1, hr0]; rfl⟩
      · rw [e3, hd, hr]; rfl
      · unfold rowOf
        rw [e2]
        simp only [if_pos hd]
        rw [hr]; rfl
    · simp only [if_neg hd] at hr
      simp only [rowB, Bool.and_eq_true, decide_eq_true_eq] at hr
      have hr0 : r = [] := gt_free (b := b) (name_free (hn _ hr.2) (by omega))
      refine ⟨some (Txt.join ">" (b :: r)), ?_, ?_, fun s hs => (by cases hs; exact hr.2), by rw [e1, hr0]; rfl⟩
      · rw [e3, hr.1]; rfl
      · unfold rowOf
        rw [e2]
        simp only [if_neg hd]
        rw [hr.1]; rfl
theorem rows_of {nb : Str → List Str} : ∀ {hs ws : List Str}, (∀ h ∈ hs, ∀ s ∈ nb h, NmOk s) → ws.length = hs.length → rowsB nb hs (ws.map rowOf) = true → ∃ ps : List (Str × Option Str), ws = ps.map rowT ∧ ws.map rowOf = ps.map rowD ∧ ps.map (·.1) = hs ∧ (∀ p ∈ ps, ∀ s, p.2 = some s → s ∈ nb p.1) ∧ ∀ w ∈ ws, (Txt.split w ">").length = 2
  | [], [], _, _, _ => ⟨[], rfl, rfl, rfl, by simp, by simp⟩
  | [], _ :: _, _, hl, _ => by simp at hl
  | _ :: _, [], _, hl, _ => by simp at hl
  | h :: hs, w :: ws, hn, hl, hr => by
    rw [List.map_cons, rowsB, Bool.and_eq_true] at hr
    obtain ⟨a, e1, e2, h3, h4⟩ := row_of (hn h List.mem_cons_self) hr.1
    obtain ⟨ps, f1, f2, f3, f4, f5⟩ := rows_of (hs := hs) (ws := ws) (fun x hx => hn x (List.mem_cons_of_mem _ hx)) (by simpa using hl) hr.2
    refine ⟨(h, a) :: ps, by rw [List.map_cons, ← e1, ← f1], by rw [List.map_cons, List.map_cons, e2, f2], by rw [List.map_cons, f3], fun p hp => ?_, fun x hx => ?_⟩
    · rcases List.mem_cons.mp hp with rfl | hp
      · exact h3
      · exact f4 p hp
    · rcases List.mem_cons.mp hx with rfl | hx
      · exact h4
      · exact f5 x hx
theorem st_good {hs : List Str} {ts : List Tie} (g : Good hs ts) {ws : List Str} (hb : stateB hs ts (stOf ws) = true) : ∃ ps, GoodS ps ∧ stOf ws = stD ps ∧ ws = ps.map rowT ∧ ∀ w ∈ ws, (Txt.split w ">").length = 2 := by
  unfold stOf stateB at hb
  simp only [Bool.and_eq_true, decide_eq_true_eq, List.length_map] at hb
  obtain ⟨ps, e1, e2, e3, e4, e5⟩ := rows_of (fun h hh s hs => nbr_names g hs) hb.1 hb.2
  have hl : ps.length = hs.length := by rw [← e3, List.length_map]
  refine ⟨ps, ⟨fun z => g.ne (by rw [← e3, z]; rfl), by have := g.few; omega, fun p hp => g.nm _ (by rw [← e3]; exact List.mem_map_of_mem hp), fun p hp s hs => nbr_names g (e4 p hp s hs)⟩, ?_, e1, e5⟩
  unfold stOf stD
  rw [e2]
noncomputable def rdS (hs : List Str) (ts : List Tie) (ws : List Str) : Option PyData := if stateB hs ts (stOf ws) = true then some (stOf ws) else none
theorem read_state_ok {hs : List Str} {ts : List Tie} (g : Good hs ts) {z : Str} (ok : TxtOk 100000 z) :
    fn_read_state [.val (netD hs ts), .val (.str z)] = rdE (rdS hs ts (Txt.split z " ")) [.val (netD hs ts), .val (.str z)] := by
  have szl := sizeL
  have C := cutSp z
  have s1 := splitSp ok
  have ll := C.count (by decide +kernel) ok
  have e1 := rst_comp (x0 := some (.val (netD hs ts))) (x1 := some (.val (.str z))) (x2 := none) (Txt.split z " ") fun p hp => C.part ok hp
  have n1 := is_state_ok (hs := hs) (ts := ts) g.few g.tfew (stOf_depth (Txt.split z " "))
  unfold fn_read_state g_read_state
  rw [fnOf_eq]
  cases q : stateB hs ts (stOf (Txt.split z " ")) with
  | false =>
    rw [q] at n1
    have rd : rdS hs ts (Txt.split z " ") = none := by simp [rdS, q]
    rw [rd]
    unfold stOf at n1
    simp [isTy, s1, plainAt, wipeE, restore, e1, n1, rdE, -List.map_map]
  | true =>
    rw [q] at n1
    obtain ⟨ps, gs, en, et, _⟩ := st_good g q
    have n2 := state_text_ok gs
    have ez : stT ps = z := by
      unfold stT
      rw [← et]
      exact C.eq
    rw [← en, ez] at n2
    have rd : rdS hs ts (Txt.split z " ") = some (stOf (Txt.split z " ")) := by simp [rdS, q]
    rw [rd]
    unfold stOf at n1 n2
    simp [isTy, s1, plainAt, wipeE, restore, e1, neD_strs, n1, n2, rdE, stOf, -List.map_map]
theorem read_state_other {hs : List Str} {ts : List Tie} (g : Good hs ts) {x : PyData} (hx : ∀ s, x ≠ .str s) : fn_read_state [.val (netD hs ts), .val x] = .ex (.plain "NoText") [.val (netD hs ts), .val x] := by
  have n1 := is_state_ok (hs := hs) (ts := ts) (x := .none) g.few g.tfew (by simp [PyData.depth])
  have hi : isTy .str x = some false := by
    cases x <;> first | rfl | exact absurd rfl (hx _)
  have q : stateB hs ts .none = false := rfl
  rw [q] at n1
  unfold fn_read_state g_read_state
  rw [fnOf_eq]
  simp [hi, n1]
/-! ### the law's -/
def ok2 (w : Str) : Bool := decide ((Txt.split w ">").length = 2)
theorem lrs_loop {x0 x1 : Option C} : ∀ (ws : List Str) {acc : List PyData} {x3 x4 : Option C}, (∀ w ∈ ws, TxtOk 100000 w) → acc.length + ws.length < 500000 →
    ∃ (y2 : C) (y3 y4 : Option C), forL none (.nm 3) b1__law_read_state (ws.map .str) [x0, x1, some (mkL acc), x3, x4] = .ok (if ws.all ok2 = true then .next else .ret (.val .none)) [x0, x1, some y2, y3, y4] ∧ (ws.all ok2 = true → y2 = mkL (acc ++ ws.map rowOf))
  | [], acc, x3, x4, _, _ => ⟨mkL acc, x3, x4, by simp [forL_nil], fun _ => by simp⟩
  | w :: ws, acc, x3, x4, hm, hl => by
    have okw := hm w List.mem_cons_self
    have C := cutGt w
    have cn := C.count (by decide +kernel) okw
    have sp := splitGt okw
    have szl := sizeL
    simp only [List.length_cons] at hl
    by_cases h2 : (Txt.split w ">").length = 2
    · obtain ⟨a, b, e⟩ : ∃ a b, Txt.split w ">" = [a, b] := by
        match Txt.split w ">", h2 with
        | [a, b], _ => exact ⟨a, b, rfl⟩
      have ko : ok2 w = true := decide_eq_true h2
      have er : rowOf w = .tuple [.str a, if b = "-" then .none else .str b] := by
        rcases part_cases w with ⟨a', e1, e2⟩ | ⟨a', b', r, e1, e2, e3⟩
        · rw [e] at e1; cases e1
        · rw [e] at e1
          cases e1
          have eb : Txt.join ">" [b] = b := rfl
          unfold rowOf
          rw [e2, eb]
      obtain ⟨y2, y3, y4, e1, h1⟩ := lrs_loop (x0 := x0) (x1 := x1) ws (acc := acc ++ [rowOf w]) (x3 := some (.val (.str w))) (x4 := some (.val (.list [.str a, .str b]))) (fun q hq => hm q (List.mem_cons_of_mem _ hq)) (by simp; omega)
      rw [e] at sp
      simp only [List.map_cons, List.map_nil] at sp
      have la : acc.length < sizeLine := by omega
      refine ⟨y2, y3, y4, ?_, fun h => by rw [h1 (by simpa [ko] using h)]; simp⟩
      rw [List.map_cons, forL_cons]
      by_cases hb : b = "-"
      · rw [if_pos hb] at er
        rw [er] at e1
        simp [b1__law_read_state_at, sp, neD_int, atI, ixN, eqD_str, hb, la, ko]
        simpa [mkL, hb] using e1
      · rw [if_neg hb] at er
        rw [er] at e1
        simp [b1__law_read_state_at, sp, neD_int, atI, ixN, eqD_str, hb, la, ko]
        simpa [mkL] using e1
    · have ko : ok2 w = false := decide_eq_false h2
      have h2' : ¬ ((Txt.split w ">").length : Int) = 2 := by omega
      have lz : (Txt.split w ">").length ≤ sizeLine := by omega
      refine ⟨mkL acc, some (.val (.str w)), some (.val (.list ((Txt.split w ">").map .str))), ?_, fun h => by simp [ko] at h⟩
      rw [List.map_cons, forL_cons]
      simp [b1__law_read_state_at, sp, neD_int, h2', lz, ko]
theorem law_read_state_ok {hs : List Str} {ts : List Tie} (g : Good hs ts) {z : Str} (ok : TxtOk 100000 z) :
    fn__law_read_state [.val (netD hs ts), .val (.str z)] = .ok (.val (optD (rdS hs ts (Txt.split z " ")))) [.val (netD hs ts), .val (.str z)] := by
  have szl := sizeL
  have C := cutSp z
  have s1 := splitSp ok
  have ll := C.count (by decide +kernel) ok
  have n1 := is_state_ok (hs := hs) (ts := ts) g.few g.tfew (stOf_depth (Txt.split z " "))
  obtain ⟨y2, y3, y4, e2, h2⟩ := lrs_loop (x0 := some (.val (netD hs ts))) (x1 := some (.val (.str z))) (Txt.split z " ") (acc := []) (x3 := none) (x4 := none) (fun p hp => C.part ok hp) (by simp; omega)
  unfold fn__law_read_state g__law_read_state
  rw [fnOf_eq]
  cases q : (Txt.split z " ").all ok2 with
  | false =>
    rw [q] at e2
    have rd : rdS hs ts (Txt.split z " ") = none := by
      unfold rdS
      rw [if_neg]
      intro hb
      obtain ⟨ps, _, _, _, h5⟩ := st_good g hb
      have : (Txt.split z " ").all ok2 = true := List.all_eq_true.mpr fun w hw => decide_eq_true (h5 w hw)
      rw [this] at q
      cases q
    rw [rd]
    simp [isTy, s1, e2, optD, -List.map_map]
  | true =>
    rw [q] at e2
    have hy := h2 q
    subst hy
    rw [List.nil_append] at e2
    cases q2 : stateB hs ts (stOf (Txt.split z " ")) with
    | false =>
      rw [q2] at n1
      have rd : rdS hs ts (Txt.split z " ") = none := by simp [rdS, q2]
      rw [rd]
      unfold stOf at n1
      simp [isTy, s1, e2, n1, optD, -List.map_map]
    | true =>
      rw [q2] at n1
      have rd : rdS hs ts (Txt.split z " ") = some (stOf (Txt.split z " ")) := by simp [rdS, q2]
      rw [rd]
      unfold stOf at n1
      simp [isTy, s1, e2, n1, optD, stOf, -List.map_map]
theorem law_read_state_other {nt x : PyData} (hx : ∀ s, x ≠ .str s) : fn__law_read_state [.val nt, .val x] = .ok (.val .none) [.val nt, .val x] := by
  have hi : isTy .str x = some false := by
    cases x <;> first | rfl | exact absurd rfl (hx _)
  unfold fn__law_read_state g__law_read_state
  rw [fnOf_eq]
  simp [hi]
end Lw

namespace Lw
open PySem L2 Nd TL
/-! ### sums of lengths -/
abbrev lens (ps : List Str) : Nat := (ps.map (·.length)).sum
theorem lens_cons (p : Str) (ps : List Str) : lens (p :: ps) = p.length + lens ps := by simp [lens]
theorem lens_app (ps qs : List Str) : lens (ps ++ qs) = lens ps + lens qs := by simp [lens]
theorem lens_drop (ps : List Str) (k : Nat) : lens (ps.drop k) ≤ lens ps := by
  have e := lens_app (ps.take k) (ps.drop k)
  rw [List.take_append_drop] at e
  omega
theorem lens_take (ps : List Str) (k : Nat) : lens (ps.take k) ≤ lens ps := by
  have e := lens_app (ps.take k) (ps.drop k)
  rw [List.take_append_drop] at e
  omega
theorem lens_cut (ps : List Str) (lo hi : Option Int) : lens (cutD ps lo hi) ≤ lens ps := by
  unfold cutD
  exact Nat.le_trans (lens_take _ _) (lens_drop _ _)
theorem lens_set : ∀ {ps : List Str} {j : Nat} {p q : Str}, ps[j]? = some p → lens (ps.set j q) + p.length = lens ps + q.length
  | [], j, p, q, h => by simp at h
  | x :: ps, 0, p, q, h => by
    simp at h
    subst h
    rw [List.set_cons_zero, lens_cons, lens_cons]
    omega
  | x :: ps, j + 1, p, q, h => by
    have ih := lens_set (ps := ps) (j := j) (p := p) (q := q) (by simpa using h)
    rw [List.set_cons_succ, lens_cons, lens_cons]
    omega
theorem lens_join (y : Str) : ∀ ps : List Str, lens ps ≤ (Str.join y ps).length
  | [] => Nat.zero_le _
  | [p] => by show p.length + 0 ≤ p.length; omega
  | p :: q :: r => by
    have ih := lens_join y (q :: r)
    rw [lens_cons]
    show _ ≤ (p ++ y ++ Str.join y (q :: r)).length
    rw [len_app, len_app]
    omega
theorem Cut.sum {y : Str} {s n : Nat} {z : Str} {ps : List Str} (C : Cut y s z ps) (ok : TxtOk n z) : lens ps ≤ n := by
  have h := lens_join y ps
  rw [← join_eq, C.eq] at h
  have := ok.len
  omega
theorem cutD_map {α β : Type} (f : α → β) (xs : List α) (lo hi : Option Int) : cutD (xs.map f) lo hi = (cutD xs lo hi).map f := by
  unfold cutD
  rw [List.length_map, List.map_take, List.map_drop]
/-- parts joined anew -/
theorem join_ok {y : Str} {n : Nat} (hn : n ≤ 20000) (hy : y.length = 1) (ly : layS y = true) {qs : List Str} (hl : lens qs ≤ 2 * n) (hc : qs.length ≤ 2 * n + 2) (lay : ∀ p ∈ qs, layS p = true) :
    joinD (.str y) [.list (qs.map .str)] = some (.val (.str (Txt.join y qs))) ∧ TxtOk (4 * n + 2) (Txt.join y qs) := by
  have l1 := layS_join ly lay
  have l2 := join_length y qs
  rw [hy] at l2
  have hl' : (qs.map (·.length)).sum ≤ 2 * n := hl
  exact ⟨joinD_ok (by rw [hy]; omega) l1, ⟨by omega, l1⟩⟩
theorem cutS_len (z : Str) (lo hi : Option Int) : (cutS z lo hi).length ≤ z.length := by
  rw [len_tl, len_tl]
  show ((z.cps.toList.drop _).take _).length ≤ z.cps.toList.length
  rw [List.length_take, List.length_drop]
  omega
theorem slD_str {z : Str} {n : Nat} (ok : TxtOk n z) (hn : n ≤ 20000) (lo hi : Option Int) : slD (.str z) lo hi = some (.val (.str (cutS z lo hi))) := by
  have szl := sizeL
  have := ok.len
  simp only [slD]
  rw [if_pos (show lenOk _ = true from decide_eq_true (by omega))]
def signs : Str := "abotdn0123 >-\nX"
theorem sign_ok : ∀ r : Nat, r < 15 → ∃ y : Str, ixD (.str "abotdn0123 >-\nX") (.int (r : Int)) = some (.val (.str y)) ∧ y.length = 1 ∧ layS y = true := by
  intro r hr
  have szl := sizeL
  have e : ("abotdn0123 >-\nX" : Str).cps.toList = [97, 98, 111, 116, 100, 110, 48, 49, 50, 51, 32, 62, 45, 10, 88] := by decide +kernel
  have hl : ("abotdn0123 >-\nX" : Str).length = 15 := by decide +kernel
  have key : ∀ r : Nat, r < 15 → ∃ c, ([97, 98, 111, 116, 100, 110, 48, 49, 50, 51, 32, 62, 45, 10, 88] : List Nat)[r]? = some c ∧ c < 200 := by
    intro r hr
    have : r = 0 ∨ r = 1 ∨ r = 2 ∨ r = 3 ∨ r = 4 ∨ r = 5 ∨ r = 6 ∨ r = 7 ∨ r = 8 ∨ r = 9 ∨ r = 10 ∨ r = 11 ∨ r = 12 ∨ r = 13 ∨ r = 14 := by omega
    rcases this with rfl | rfl | rfl | rfl | rfl | rfl | rfl | rfl | rfl | rfl | rfl | rfl | rfl | rfl | rfl <;> exact ⟨_, rfl, by decide⟩
  obtain ⟨c, hc, c2⟩ := key r hr
  refine ⟨⟨#[c]⟩, ?_, rfl, layS_iff.mpr fun x hx => ?_⟩
  · simp only [ixD, e, hl]
    rw [if_pos (show lenOk _ = true from decide_eq_true (by omega))]
    have : atI ([97, 98, 111, 116, 100, 110, 48, 49, 50, 51, 32, 62, 45, 10, 88] : List Nat) (r : Int) = some c := by
      unfold atI ixN
      rw [if_pos (by omega), if_pos (by simp; omega)]
      simpa using hc
    rw [this]
    rfl
  · have hx' : x ∈ [c] := hx
    rw [List.mem_singleton] at hx'
    omega
structure Mark (y : Str) : Prop where
  len : y.length = 1
  lay : layS y = true
  split : ∀ {z : Str} {n : Nat}, TxtOk n z → n ≤ 20000 → splitD (.str z) [.str y] = some (mkL ((Txt.split z y).map .str)) ∧ (Txt.split z y) ≠ [] ∧ lens (Txt.split z y) ≤ n ∧ (Txt.split z y).length ≤ n + 1 ∧ ∀ p ∈ Txt.split z y, layS p = true
theorem mark_of {y : Str} {s : Nat} (ey : tl y = [s]) (hk : y.cps.all (· < 256) = true) (ly : layS y = true) : Mark y := by
  refine ⟨by rw [len_tl, ey]; rfl, ly, fun {z n} ok hn => ?_⟩
  have C := cutAll ey hk z
  exact ⟨C.split ey hk (ok.mono (by omega)), C.ne, C.sum ok, C.count ey ok, fun p hp => (C.part ok hp).lay⟩
theorem mark_ok {x : PyData} (h : x ∈ ([.str "\n", .str " ", .str " ", .str ">"] : List PyData)) : ∃ y, x = .str y ∧ Mark y := by
  simp only [List.mem_cons, List.not_mem_nil, or_false] at h
  rcases h with rfl | rfl | rfl | rfl
  · exact ⟨_, rfl, mark_of (s := 10) (by decide +kernel) (by decide +kernel) (by decide +kernel)⟩
  · exact ⟨_, rfl, mark_of (s := 32) (by decide +kernel) (by decide +kernel) (by decide +kernel)⟩
  · exact ⟨_, rfl, mark_of (s := 32) (by decide +kernel) (by decide +kernel) (by decide +kernel)⟩
  · exact ⟨_, rfl, mark_of (s := 62) (by decide +kernel) (by decide +kernel) (by decide +kernel)⟩
theorem gSwap_at {i : Nat} {ga gb : G Op} {g : G C} {ρ ρ' : Nd.Env} {a b : PyData} (h : gFz g ρ = .ok (.d (.tuple [a, b])) ρ') : gSwap i ga gb g ρ = gSeq (gPut i ga a) (gPut i gb b) ρ' := by
  unfold gSwap
  show (gFz g ρ).bind _ = _
  rw [h]
  rfl
theorem gPut_at {i : Nat} {gi : G Op} {d : PyData} {ρ : Nd.Env} : gPut i gi d ρ = (gHas i ρ).bind fun _ => G.bind gi (storeAt i d) := rfl
theorem atI_str {ps : List Str} {r : Int} (h0 : 0 ≤ r) (h1 : r < ps.length) : ∃ p, ps[r.toNat]? = some p ∧ atI (ps.map PyData.str) r = some (.str p) ∧ ixN ps.length r = some r.toNat ∧ p ∈ ps := by
  have hl : r.toNat < ps.length := by omega
  refine ⟨ps[r.toNat], List.getElem?_eq_getElem hl, ?_, ?_, List.getElem_mem hl⟩
  · unfold atI ixN
    rw [List.length_map, if_pos h0, if_pos h1]
    simp [hl]
  · unfold ixN
    rw [if_pos h0, if_pos h1]
theorem bent_ok {m : Int} {d : C} (h : Dk m d) (hm : m < 900000) {n : Nat} {z : Str} (ok : TxtOk n z) (hn : n ≤ 20000) :
    ∃ (d' : C) (z' : Str), fn__law_bent_text [d, .val (.str z)] = .ok (.val (.str z')) [d', .val (.str z)] ∧ Dk (m + 10) d' ∧ TxtOk (4 * n + 2) z' := by
  have szl := sizeL
  have hz := ok.len
  have l0 : lenD [.str z] = some (.val (.int z.length)) := by
    simp only [lenD]
    rw [if_pos (show lenOk _ = true from decide_eq_true (by omega))]
  have hl : ("abotdn0123 >-\nX" : Str).length = 15 := by decide +kernel
  have l1 : lenD [.str "abotdn0123 >-\nX"] = some (.val (.int 15)) := by
    simp only [lenD, hl]
    rw [if_pos (show lenOk _ = true from decide_eq_true (by omega))]
    rfl
  obtain ⟨r1, d1, f1, hd1, a1, b1⟩ := pick_ok h (by omega) (n := (z.length : Int) + 1) (by omega) (by omega)
  obtain ⟨r2, d2, f2, hd2, a2, b2⟩ := pick_ok hd1 (by omega) (n := 15) (by omega) (by omega)
  obtain ⟨r3, d3, f3, hd3, a3, b3⟩ := pick_ok hd2 (by omega) (n := 7) (by omega) (by omega)
  obtain ⟨y, ys, yl, yy⟩ := sign_ok r2.toNat (by omega)
  have e2 : ((r2.toNat : Nat) : Int) = r2 := Int.toNat_of_nonneg a2
  rw [e2] at ys
  have sl := fun lo hi => slD_str ok hn lo hi
  have cl := fun lo hi => cutS_len z lo hi
  have cy : ∀ lo hi, layS (cutS z lo hi) = true := fun lo hi => lay_cutS ok.lay
  have w7 : r3 = 0 ∨ r3 = 1 ∨ r3 = 2 ∨ (3 ≤ r3 ∧ r3 < 5) ∨ r3 = 5 ∨ r3 = 6 := by omega
  unfold fn__law_bent_text g__law_bent_text
  rw [fnOf_eq]
  by_cases q0 : r3 = 0
  · subst q0
    have s1 := addD_str' (a := cutS z none (some r1)) (b := y) (by have := cl none (some r1); omega)
    have s2 := addD_str' (a := cutS z none (some r1) ++ y) (b := cutS z (some r1) none) (by rw [len_app]; have := cl none (some r1); have := cl (some r1) none; omega)
    refine ⟨d3, cutS z none (some r1) ++ y ++ cutS z (some r1) none, ?_, hd3.mono (by omega), ⟨?_, layS_app (layS_app (cy _ _) yy) (cy _ _)⟩⟩
    · simp [l0, f1, l1, f2, ys, f3, eqD_int, sl, s1, s2]
    · rw [len_app, len_app]
      have := cl none (some r1); have := cl (some r1) none; omega
  by_cases q1 : r3 = 1
  · subst q1
    have s1 := addD_str' (a := cutS z none (some r1)) (b := cutS z (some (r1 + 1)) none) (by have := cl none (some r1); have := cl (some (r1 + 1)) none; omega)
    refine ⟨d3, cutS z none (some r1) ++ cutS z (some (r1 + 1)) none, ?_, hd3.mono (by omega), ⟨?_, layS_app (cy _ _) (cy _ _)⟩⟩
    · simp [l0, f1, l1, f2, ys, f3, eqD_int, sl, s1]
    · rw [len_app]
      have := cl none (some r1); have := cl (some (r1 + 1)) none; omega
  by_cases q2 : r3 = 2
  · subst q2
    have s1 := addD_str' (a := cutS z none (some r1)) (b := y) (by have := cl none (some r1); omega)
    have s2 := addD_str' (a := cutS z none (some r1) ++ y) (b := cutS z (some (r1 + 1)) none) (by rw [len_app]; have := cl none (some r1); have := cl (some (r1 + 1)) none; omega)
    refine ⟨d3, cutS z none (some r1) ++ y ++ cutS z (some (r1 + 1)) none, ?_, hd3.mono (by omega), ⟨?_, layS_app (layS_app (cy _ _) yy) (cy _ _)⟩⟩
    · simp [l0, f1, l1, f2, ys, f3, eqD_int, sl, s1, s2]
    · rw [len_app, len_app]
      have := cl none (some r1); have := cl (some (r1 + 1)) none; omega
  obtain ⟨x, d4, f4, hd4, hx⟩ := one_ok (c := .val (.list [.str "\n", .str " ", .str " ", .str ">"])) (ds := [.str "\n", .str " ", .str " ", .str ">"]) hd3 (by omega) rfl (by simp) (by simp)
  obtain ⟨k, rfl, M⟩ := mark_ok hx
  obtain ⟨sp, pne, psum, pcnt, play⟩ := M.split ok hn
  generalize Txt.split z k = ps at sp pne psum pcnt play
  have pl : 0 < ps.length := List.length_pos_iff.mpr pne
  obtain ⟨r5, d5, f5, hd5, a5, b5⟩ := pick_ok hd4 (by omega) (n := (ps.length : Int)) (by omega) (by omega)
  have lp : ps.length ≤ sizeLine := by omega
  by_cases q3 : r3 < 5
  · have jo := join_ok hn M.len M.lay (qs := cutD ps none (some r5) ++ cutD ps (some (r5 + 1)) none) (by
      rw [lens_app]; have := lens_cut ps none (some r5); have := lens_cut ps (some (r5 + 1)) none; omega) (by
      rw [List.length_append]; have := cutD_le ps none (some r5); have := cutD_le ps (some (r5 + 1)) none; omega) (fun p hp => play p ((List.mem_append.mp hp).elim cutD_mem cutD_mem))
    have la : (cutD ps none (some r5)).length + (cutD ps (some (r5 + 1)) none).length ≤ sizeLine := by have := cutD_le ps none (some r5); have := cutD_le ps (some (r5 + 1)) none; omega
    have jo1 := jo.1
    rw [List.map_append] at jo1
    refine ⟨d5, _, ?_, hd5.mono (by omega), jo.2⟩
    simp [l0, f1, l1, f2, ys, f3, eqD_int, q0, q1, q2, f4, sp, lp, f5, q3, cutD_map, la, jo1]
  by_cases q5 : r3 = 5
  · subst q5
    have jo := join_ok hn M.len M.lay (qs := cutD ps none (some (r5 + 1)) ++ cutD ps (some r5) none) (by
      rw [lens_app]; have := lens_cut ps none (some (r5 + 1)); have := lens_cut ps (some r5) none; omega) (by
      rw [List.length_append]; have := cutD_le ps none (some (r5 + 1)); have := cutD_le ps (some r5) none; omega) (fun p hp => play p ((List.mem_append.mp hp).elim cutD_mem cutD_mem))
    have la : (cutD ps none (some (r5 + 1))).length + (cutD ps (some r5) none).length ≤ sizeLine := by have := cutD_le ps none (some (r5 + 1)); have := cutD_le ps (some r5) none; omega
    have jo1 := jo.1
    rw [List.map_append] at jo1
    refine ⟨d5, _, ?_, hd5.mono (by omega), jo.2⟩
    simp [l0, f1, l1, f2, ys, f3, eqD_int, f4, sp, lp, f5, cutD_map, la, jo1]
  have q6 : r3 = 6 := by omega
  subst q6
  obtain ⟨r6, d6, f6, hd6, a6, b6⟩ := pick_ok hd5 (by omega) (n := (ps.length : Int)) (by omega) (by omega)
  obtain ⟨p5, g5, i5, x5, m5⟩ := atI_str a5 b5
  obtain ⟨p6, g6, i6, x6, m6⟩ := atI_str a6 b6
  have t1 := lens_set (q := p6) g5
  have g6' : (ps.set r5.toNat p6)[r6.toNat]? = some p6 := by
    rw [List.getElem?_set]
    split
    · rename_i hh
      rw [if_pos (by rw [hh]; exact (List.getElem?_eq_some_iff.mp g6).1)]
    · exact g6
  have t2 := lens_set (q := p5) g6'
  have jo := join_ok hn M.len M.lay (qs := (ps.set r5.toNat p6).set r6.toNat p5) (by omega) (by rw [List.length_set, List.length_set]; omega) (fun p hp => by
    rcases List.mem_or_eq_of_mem_set hp with hp | rfl
    · rcases List.mem_or_eq_of_mem_set hp with hp | rfl
      · exact play p hp
      · exact play _ m6
    · exact play _ m5)
  have jo1 := jo.1
  rw [List.map_set, List.map_set] at jo1
  refine ⟨d6, _, ?_, hd6.mono (by omega), jo.2⟩
  have sw : ∀ (ρ' : Nd.Env), gFz (Nd.gTup [(gVal (gFz (gOp2 ixD (gSlot 7) (gSlot 8)))), (gVal (gFz (gOp2 ixD (gSlot 7) (gSlot 2))))]) [some d6, some (.val (.str z)), some (.val (.int r5)), some (.val (.str "abotdn0123 >-\nX")), some (.val (.str y)), some (.val (.int 6)), some (.val (.str k)), some (mkL (ps.map .str)), some (.val (.int r6))] =
      .ok (.d (.tuple [.str p6, .str p5])) [some d6, some (.val (.str z)), some (.val (.int r5)), some (.val (.str "abotdn0123 >-\nX")), some (.val (.str y)), some (.val (.int 6)), some (.val (.str k)), some (mkL (ps.map .str)), some (.val (.int r6))] := fun _ => by
    simp [i5, i6]
  have sw := gSwap_at (i := 7) (ga := gSlot 2) (gb := gSlot 8) (sw [])
  simp [l0, f1, l1, f2, ys, f3, eqD_int, f4, sp, lp, f5, f6, sw, gPut_at, x5, x6, jo1]
end Lw

namespace Lw
open PySem L2 Nd TL
theorem nice_net {hs : List Str} {ts : List Tie} (g : Good hs ts) : Nice 3 (netD hs ts) := by
  have h8 := g.few
  have h16 := g.tfew
  simp only [netD, Nice]
  refine ⟨by simp, fun x hx => ?_⟩
  simp only [List.mem_cons, List.not_mem_nil, or_false] at hx
  rcases hx with rfl | rfl
  · simp only [Nice]
    refine ⟨by rw [List.length_map]; omega, fun y hy => ?_⟩
    obtain ⟨z, _, rfl⟩ := List.mem_map.mp hy
    simp [Nice]
  · simp only [Nice]
    refine ⟨by rw [List.length_map]; omega, fun y hy => ?_⟩
    obtain ⟨z, _, rfl⟩ := List.mem_map.mp hy
    simp only [tieD, Nice]
    refine ⟨by simp, fun q hq => ?_⟩
    simp only [List.mem_cons, List.not_mem_nil, or_false] at hq
    rcases hq with rfl | rfl | rfl <;> simp [Nice]
theorem nice_state {ps : List (Str × Option Str)} (g : GoodS ps) : Nice 2 (stD ps) := by
  have h8 := g.few
  simp only [stD, Nice]
  refine ⟨by rw [List.length_map]; omega, fun y hy => ?_⟩
  obtain ⟨z, _, rfl⟩ := List.mem_map.mp hy
  simp only [rowD, Nice]
  refine ⟨by simp, fun q hq => ?_⟩
  simp only [List.mem_cons, List.not_mem_nil, or_false] at hq
  rcases hq with rfl | rfl
  · simp [Nice]
  · cases z.2 <;> simp [atD, Nice]
theorem told_nice {k : Nat} {x : PyData} (h : Nice k x) (hk : k ≤ 3) : Nice 4 (.tuple [.str "told", x]) := by
  have : ∀ {k : Nat} {x : PyData}, Nice k x → Nice (k + 1) x := fun {k x} => by
    induction k generalizing x with
    | zero => cases x <;> simp [Nice]
    | succ k ih =>
      cases x with
      | list ds => exact fun h => ⟨h.1, fun y hy => ih (h.2 y hy)⟩
      | tuple ds => exact fun h => ⟨h.1, fun y hy => ih (h.2 y hy)⟩
      | dict ds => simp [Nice]
      | _ => simp [Nice]
  have h3 : Nice 3 x := by
    have h0 : k = 0 ∨ k = 1 ∨ k = 2 ∨ k = 3 := by omega
    rcases h0 with rfl | rfl | rfl | rfl
    · exact this (this (this h))
    · exact this (this h)
    · exact this h
    · exact h
  refine ⟨by simp, fun z hz => ?_⟩
  simp only [List.mem_cons, List.not_mem_nil, or_false] at hz
  rcases hz with rfl | rfl
  · trivial
  · exact h3
/-! ### what may be read -/
def RdOk (x : PyData) : Prop := ∀ s, x = .str s → TxtOk 100000 s
theorem splits (z : Str) : ∃ r0 rs w0 ws, Txt.split z "\n" = r0 :: rs ∧ Txt.split r0 " " = w0 :: ws := by
  cases h : Txt.split z "\n" with
  | nil => exact absurd h (cutNl z).ne
  | cons r0 rs =>
    cases h2 : Txt.split r0 " " with
    | nil => exact absurd h2 (cutSp r0).ne
    | cons w0 ws => exact ⟨r0, rs, w0, ws, rfl, h2⟩
theorem net_reads {x : PyData} (hx : RdOk x) : ∃ o : Option PyData, fn_read_net [.val x] = rdE o [.val x] ∧ fn__law_read_net [.val x] = .ok (.val (optD o)) [.val x] ∧ ∀ d, o = some d → Nice 3 d ∧ d ≠ .none := by
  by_cases h : ∃ s, x = .str s
  · obtain ⟨z, rfl⟩ := h
    obtain ⟨r0, rs, w0, ws, er, ew⟩ := splits z
    refine ⟨_, read_net_ok (hx z rfl) er ew, law_read_net_ok (hx z rfl) er ew, fun d hd => ?_⟩
    unfold rdOf at hd
    split at hd
    · rename_i hb
      cases hd
      obtain ⟨ts, g, e, _⟩ := net_good hb.2
      rw [e]
      exact ⟨nice_net g, fun z => by cases z⟩
    · cases hd
  · have h' : ∀ s, x ≠ .str s := fun s e => h ⟨s, e⟩
    exact ⟨none, read_net_other h', law_read_net_other h', fun d hd => by cases hd⟩
theorem state_reads {hs : List Str} {ts : List Tie} (g : Good hs ts) {x : PyData} (hx : RdOk x) : ∃ o : Option PyData, fn_read_state [.val (netD hs ts), .val x] = rdE o [.val (netD hs ts), .val x] ∧ fn__law_read_state [.val (netD hs ts), .val x] = .ok (.val (optD o)) [.val (netD hs ts), .val x] ∧ ∀ d, o = some d → Nice 3 d ∧ d ≠ .none := by
  by_cases h : ∃ s, x = .str s
  · obtain ⟨z, rfl⟩ := h
    refine ⟨_, read_state_ok g (hx z rfl), law_read_state_ok g (hx z rfl), fun d hd => ?_⟩
    unfold rdS at hd
    split at hd
    · rename_i hb
      cases hd
      obtain ⟨ps, gs, e, _⟩ := st_good g hb
      rw [e]
      refine ⟨?_, fun z => by cases z⟩
      have := nice_state gs
      exact ⟨this.1, fun y hy => by
        have q := this.2 y hy
        cases y with
        | list ds => exact ⟨q.1, fun y hy => by have := q.2 y hy; cases y <;> simp_all [Nice]⟩
        | tuple ds => exact ⟨q.1, fun y hy => by have := q.2 y hy; cases y <;> simp_all [Nice]⟩
        | dict ds => simp [Nice] at q
        | _ => trivial⟩
    · cases hd
  · have h' : ∀ s, x ≠ .str s := fun s e => h ⟨s, e⟩
    exact ⟨none, read_state_other g h', law_read_state_other h', fun d hd => by cases hd⟩
theorem isN_no {d : PyData} (h : d ≠ .none) : isND d .none = some false := by
  cases d <;> first | exact absurd rfl h | rfl
theorem right_ok {hs : List Str} {ts : List Tie} (g : Good hs ts) {x : PyData} (hx : RdOk x) : fn__law_right_reads [.val (netD hs ts), .val x] = .ok (.val (.bool true)) [.val (netD hs ts), .val x] := by
  obtain ⟨o, p1, q1, n1⟩ := net_reads hx
  obtain ⟨o', p2, q2, n2⟩ := state_reads g hx
  have n0 : isND .none .none = some true := rfl
  have n3 : (Xc.plain "NoText").nm ++ "+" = ("NoText+" : Str) := by decide +kernel
  have s1 := same_ok 6 (x := .str "NoText+") (k := 0) trivial (by omega)
  have t1 : ∀ du : Option C, gTry l1__law_right_reads [some (.val (netD hs ts)), some (.val x), du] = .ok (.val (match o with | some d => .tuple [.str "told", d] | none => .str "NoText+")) [some (.val (netD hs ts)), some (.val x), du] := fun du => by
    cases o with
    | none =>
      have := gTry_ex (gl := l1__law_right_reads) (ρ := [some (.val (netD hs ts)), some (.val x), du]) (x := .plain "NoText") (ρ' := [some (.val (netD hs ts)), some (.val x), du]) (by simp [l1__law_right_reads_at, p1, rdE]) (by decide)
      rw [n3] at this
      exact this
    | some d => exact gTry_ok (gl := l1__law_right_reads) (ρ := [some (.val (netD hs ts)), some (.val x), du]) (ρ' := [some (.val (netD hs ts)), some (.val x), du]) (d := d) (by simp [l1__law_right_reads_at, p1, rdE])
  have t2 : ∀ du : Option C, gTry l2__law_right_reads [some (.val (netD hs ts)), some (.val x), du] = .ok (.val (match o' with | some d => .tuple [.str "told", d] | none => .str "NoText+")) [some (.val (netD hs ts)), some (.val x), du] := fun du => by
    cases o' with
    | none =>
      have := gTry_ex (gl := l2__law_right_reads) (ρ := [some (.val (netD hs ts)), some (.val x), du]) (x := .plain "NoText") (ρ' := [some (.val (netD hs ts)), some (.val x), du]) (by simp [l2__law_right_reads_at, p2, rdE]) (by decide)
      rw [n3] at this
      exact this
    | some d => exact gTry_ok (gl := l2__law_right_reads) (ρ := [some (.val (netD hs ts)), some (.val x), du]) (ρ' := [some (.val (netD hs ts)), some (.val x), du]) (d := d) (by simp [l2__law_right_reads_at, p2, rdE])
  unfold fn__law_right_reads g__law_right_reads
  rw [fnOf_eq]
  cases o with
  | none =>
    simp only at t1
    cases o' with
    | none =>
      simp only at t2
      simp [q1, optD, n0, t1, s1, q2, t2]
    | some d' =>
      simp only at t2
      have s3 := same_ok 6 (told_nice (n2 d' rfl).1 (by omega)) (by omega)
      have i3 := isN_no (n2 d' rfl).2
      simp [q1, optD, n0, t1, s1, q2, t2, s3, i3]
  | some d =>
    simp only at t1
    have s2 := same_ok 6 (told_nice (n1 d rfl).1 (by omega)) (by omega)
    have i2 := isN_no (n1 d rfl).2
    cases o' with
    | none =>
      simp only at t2
      simp [q1, optD, n0, t1, s1, s2, i2, q2, t2]
    | some d' =>
      simp only at t2
      have s3 := same_ok 6 (told_nice (n2 d' rfl).1 (by omega)) (by omega)
      have i3 := isN_no (n2 d' rfl).2
      simp [q1, optD, n0, t1, s1, s2, i2, q2, t2, s3, i3]
/-! ### drawn things -/
def rdB : PyData → Bool
  | .str s => decide (s.length ≤ 1000) && layS s
  | _ => true
theorem rdB_ok {x : PyData} (h : rdB x = true) : ∀ s, x = .str s → TxtOk 1000 s := fun s e => by
  subst e
  simp only [rdB, Bool.and_eq_true, decide_eq_true_eq] at h
  exact ⟨h.1, h.2⟩
theorem odd_ok {m : Int} {d : C} (h : Dk m d) (hm : m < 1000000) : ∃ (x : PyData) (d' : C), fn__law_odd [d] = .ok (.val x) [d'] ∧ Dk (m + 1) d' ∧ RdOk x := by
  obtain ⟨x, d', e, hd, hx⟩ := one_ok h hm (c := .val (.list ([.none, .bool true, .bool false, .int 0, .int 1, .int (-1), .int 7, .int 101, .int (10 ^ 39), .str "", .str "ann", .str "abcdefghi", .str "A", .tuple [], .list [], .tuple [.tuple []], .tuple [.str "ann"]] ++ [.list [.str "ann"], .tuple [.str "ann", .str "bo"], .tuple [.str "ann", .none], .tuple [.str "bo", .str "ann", .int 5], .tuple [.str "settle"], .str "zz"]))) rfl (by simp) (by simp)
  refine ⟨x, d', ?_, hd, ?_⟩
  · unfold fn__law_odd g__law_odd
    rw [fnOf_eq]
    have hs : (17 : Nat) + 6 ≤ sizeLine := Nat.le_trans (by decide) sizeL
    simp at e
    simp [hs, e]
  · have key : rdB x = true := by
      simp only [List.cons_append, List.nil_append, List.mem_cons, List.not_mem_nil, or_false] at hx
      rcases hx with rfl | rfl | rfl | rfl | rfl | rfl | rfl | rfl | rfl | rfl | rfl | rfl | rfl | rfl | rfl | rfl | rfl | rfl | rfl | rfl | rfl | rfl | rfl <;> first | rfl | decide +kernel
    exact fun s e => (rdB_ok key s e).mono (by omega)
/-! ### the law -/
def someL : List Str := [
  "",
  "hands",
  "hands ",
  "hands ann ann",
  "hands bo ann",
  "hands ann bo\ntie bo ann 1",
  "hands  ann",
  "hands ann bo\ntie ann bo 0",
  "hands ann bo\ntie ann bo 01",
  "hands ann\n",
  "hands ann\ntie ann ann 1",
  "hand ann",
  "hands ann bo\ntie ann bo 101",
  "hands ann bo\nties ann bo 1",
  "hands Ann"]
noncomputable def noNet (z : Str) : Bool := match Txt.split z "\n" with
  | r0 :: rs => match Txt.split r0 " " with
    | w0 :: ws => !(decide (w0 = "hands") && netB (netOf ws rs))
    | [] => false
  | [] => false
theorem some_no : someL.all noNet = true := by decide +kernel
theorem some_rd : ∀ z ∈ someL, TxtOk 1000 z := fun z hz => by
  have k : someL.all (fun z => rdB (.str z)) = true := by decide +kernel
  exact rdB_ok (List.all_eq_true.mp k z hz) z rfl
theorem no_read {z : Str} (hz : z ∈ someL) : fn_read_net [.val (.str z)] = .ex (.plain "NoText") [.val (.str z)] := by
  obtain ⟨r0, rs, w0, ws, er, ew⟩ := splits z
  have k := List.all_eq_true.mp some_no z hz
  have e := read_net_ok ((some_rd z hz).mono (by omega)) er ew
  have q : rdOf w0 ws rs = none := by
    unfold noNet at k
    rw [er] at k
    simp only [ew] at k
    unfold rdOf
    rw [if_neg]
    intro hb
    rw [hb.2, decide_eq_true hb.1] at k
    cases k
  rw [e, q]
  rfl
abbrev L41 (x so cl dk nt st tx k th be : Option C) : Nd.Env := [x, so, cl, dk, nt, st, tx, k, th, be]
variable {x so cl dk st tx k th be : Option C}
theorem b1_ok {hs : List Str} {ts : List Tie} (g : Good hs ts) {y : PyData} (hy : RdOk y) : b1_law (L41 x so cl dk (some (.val (netD hs ts))) st tx k (some (.val y)) be) = .ok .next (L41 x so cl dk (some (.val (netD hs ts))) st tx k (some (.val y)) be) := by
  have e := right_ok g hy
  rw [b1_law_at]
  unfold L41
  simp [e]
theorem b4_ok {hs : List Str} {ts : List Tie} (g : Good hs ts) {z : Str} (hz : z ∈ someL) : b4_law (L41 x so cl dk (some (.val (netD hs ts))) st tx k (some (.val (.str z))) be) = .ok .next (L41 x so cl dk (some (.val (netD hs ts))) st tx k (some (.val (.str z))) be) := by
  have e := right_ok g (x := .str z) fun s e => by cases e; exact (some_rd z hz).mono (by omega)
  have n3 : (Xc.plain "NoText").nm ++ "+" = ("NoText+" : Str) := by decide +kernel
  have t := gTry_ex (gl := l3_law) (ρ := L41 x so cl dk (some (.val (netD hs ts))) st tx k (some (.val (.str z))) be) (x := .plain "NoText") (ρ' := L41 x so cl dk (some (.val (netD hs ts))) st tx k (some (.val (.str z))) be) (by
    have := no_read hz
    unfold L41
    simp [l3_law_at, this]) (by decide)
  rw [n3] at t
  rw [b4_law_at]
  unfold L41 at t ⊢
  simp [t, neD_strs, e]
theorem b4_loop {hs : List Str} {ts : List Tie} (g : Good hs ts) {c0 : C} : ∀ (zs : List Str), (∀ z ∈ zs, z ∈ someL) → ∀ th : Option C, ∃ th', forL (some (1, c0)) (.nm 8) b4_law (zs.map .str) (L41 x (some c0) cl dk (some (.val (netD hs ts))) st tx k th be) = .ok .next (L41 x (some c0) cl dk (some (.val (netD hs ts))) st tx k th' be)
  | [], _, th => ⟨th, forS_nil rfl⟩
  | z :: zs, hm, th => by
    have e1 := b4_ok (x := x) (so := some c0) (cl := cl) (dk := dk) (st := st) (tx := tx) (k := k) (be := be) g (hm z List.mem_cons_self)
    obtain ⟨th', e2⟩ := b4_loop g (c0 := c0) zs (fun y hy => hm y (List.mem_cons_of_mem _ hy)) (some (.val (.str z)))
    refine ⟨th', ?_⟩
    rw [List.map_cons, forS_cons rfl]
    unfold L41 at e1 e2 ⊢
    simp [e1, e2]
theorem b2_ok {hs : List Str} {ts : List Tie} (g : Good hs ts) {m : Int} {d : C} (hd : Dk m d) (hm : m < 800000) {txs : List PyData} (hne : txs ≠ []) (hl : txs.length < 1000) (hx : ∀ y ∈ txs, ∃ z, y = .str z ∧ TxtOk 1000 z) :
    ∃ (d' : C) (th' be' : Option C), b2_law (L41 x so cl (some d) (some (.val (netD hs ts))) st (some (.val (.list txs))) k th be) = .ok .next (L41 x so cl (some d') (some (.val (netD hs ts))) st (some (.val (.list txs))) k th' be') ∧ Dk (m + 30) d' := by
  obtain ⟨y, d1, f1, hd1, hy⟩ := one_ok hd (by omega) (c := .val (.list txs)) rfl hne (by omega)
  obtain ⟨z, rfl, okz⟩ := hx y hy
  obtain ⟨d2, z2, f2, hd2, ok2⟩ := bent_ok hd1 (by omega) okz (by omega)
  obtain ⟨d3, z3, f3, hd3, ok3⟩ := bent_ok hd2 (by omega) ok2 (by omega)
  obtain ⟨y4, d4, f4, hd4, ok4⟩ := odd_ok hd3 (by omega)
  refine ⟨d4, some (.val (.list [.str z2])), some (.val (.str z2)), ?_, hd4.mono (by omega)⟩
  have e1 := fun be : Option C => b1_ok (x := x) (so := so) (cl := cl) (dk := some d4) (st := st) (tx := some (.val (.list txs))) (k := k) (be := be) g (y := .str z2) fun s e => by cases e; exact ok2.mono (by omega)
  have e2 := fun be : Option C => b1_ok (x := x) (so := so) (cl := cl) (dk := some d4) (st := st) (tx := some (.val (.list txs))) (k := k) (be := be) g (y := .str z3) fun s e => by cases e; exact ok3.mono (by omega)
  have e3 := fun be : Option C => b1_ok (x := x) (so := so) (cl := cl) (dk := some d4) (st := st) (tx := some (.val (.list txs))) (k := k) (be := be) g (y := y4) ok4
  have e4 := fun be : Option C => b1_ok (x := x) (so := so) (cl := cl) (dk := some d4) (st := st) (tx := some (.val (.list txs))) (k := k) (be := be) g (y := .list [.str z2]) fun s e => by cases e
  rw [b2_law_at]
  unfold L41 at e1 e2 e3 e4 ⊢
  simp [f1, f2, f3, f4, forL_cons, forL_nil, e1, e2, e3, e4]
theorem b2_loop {hs : List Str} {ts : List Tie} (g : Good hs ts) {txs : List PyData} (hne : txs ≠ []) (hl : txs.length < 1000) (hx : ∀ y ∈ txs, ∃ z, y = .str z ∧ TxtOk 1000 z) : ∀ (is : List PyData) {m : Int} {d : C} (k th be : Option C), Dk m d → m + 30 * is.length < 800000 →
    ∃ (d' : C) (k' th' be' : Option C), forL none (.nm 7) b2_law is (L41 x so cl (some d) (some (.val (netD hs ts))) st (some (.val (.list txs))) k th be) = .ok .next (L41 x so cl (some d') (some (.val (netD hs ts))) st (some (.val (.list txs))) k' th' be') ∧ Dk (m + 30 * is.length) d'
  | [], m, d, k, th, be, hd, hm => ⟨d, k, th, be, forL_nil, by simpa using hd⟩
  | i :: is, m, d, k, th, be, hd, hm => by
    simp only [List.length_cons] at hm ⊢
    obtain ⟨d1, th1, be1, e1, hd1⟩ := b2_ok (x := x) (so := so) (cl := cl) (st := st) (k := some (.val i)) (th := th) (be := be) g hd (by omega) hne hl hx
    obtain ⟨d2, k2, th2, be2, e2, hd2⟩ := b2_loop g hne hl hx is (some (.val i)) th1 be1 hd1 (by omega)
    refine ⟨d2, k2, th2, be2, ?_, hd2.mono (by omega)⟩
    rw [forL_cons]
    unfold L41 at e1 e2 ⊢
    simp [e1, e2]
theorem b5_ok {nt : Option C} (c : Int) (dk : Option C) : ∃ (dk' nt' st' tx' k' th' be' : Option C), b5_law (L41 x (some (mkL (someL.map .str))) (some (.val (.int c))) dk nt st tx k th be) = .ok .next (L41 x (some (mkL (someL.map .str))) (some (.val (.int c))) dk' nt' st' tx' k' th' be') := by
  obtain ⟨d0, f0, hd0⟩ := deck_ok c (t := 41) (by omega)
  obtain ⟨hs, ts, d1, f1, hd1, N⟩ := net_ok hd0 (by omega) (M := 6) (by omega) (by omega)
  have g := N.good (by decide)
  have t2 := lnet_text_ok g
  obtain ⟨d2, ps, f2, hd2, ok⟩ := state_ok g.few g.tfew N.ne hd1 (by omega)
  have gs := ok.good g
  have t3 := lstate_text_ok gs
  obtain ⟨y, d3, f3, hd3, hy⟩ := one_ok hd2 (by omega) (c := mkL (someL.map .str)) (ds := someL.map .str) (by simp) (by simp [someL]) (by simp [someL])
  obtain ⟨zy, hzy, rfl⟩ := List.mem_map.mp hy
  obtain ⟨d4, k4, th4, be4, e4, hd4⟩ := b2_loop (x := x) (so := some (mkL (someL.map .str))) (cl := some (.val (.int c))) (st := some (.val (stD ps))) g (txs := [.str (netT hs ts), .str (stT ps), .str zy]) (by simp) (by simp) (fun y hy => by
    simp only [List.mem_cons, List.not_mem_nil, or_false] at hy
    rcases hy with rfl | rfl | rfl
    · exact ⟨_, rfl, (j2_ok g).2.1, (j2_ok g).2.2⟩
    · exact ⟨_, rfl, (st_facts gs).2.1, (st_facts gs).2.2⟩
    · exact ⟨_, rfl, some_rd _ hzy⟩) (rng 6 0) k th be hd3 (by simp [rng])
  obtain ⟨th5, e5⟩ := b4_loop (x := x) (c0 := mkL (someL.map .str)) (cl := some (.val (.int c))) (dk := some d4) (st := some (.val (stD ps))) (tx := some (.val (.list [.str (netT hs ts), .str (stT ps), .str zy]))) (k := k4) (be := be4) g someL (fun z hz => hz) th4
  refine ⟨some d4, some (.val (netD hs ts)), some (.val (stD ps)), some (.val (.list [.str (netT hs ts), .str (stT ps), .str zy])), k4, th5, be4, ?_⟩
  have c6 : ((6 : Nat) : Int) = 6 := rfl
  rw [c6] at f1
  rw [b5_law_at]
  unfold L41 at e4 e5 ⊢
  simp [f0, f1, f2, f3, t2, t3, rng1, e4]
  exact e5
theorem b5_loop : ∀ (is : List Int) (cl dk nt st tx k th be : Option C), ∃ (cl' dk' nt' st' tx' k' th' be' : Option C), forL none (.nm 2) b5_law (is.map .int) (L41 x (some (mkL (someL.map .str))) cl dk nt st tx k th be) = .ok .next (L41 x (some (mkL (someL.map .str))) cl' dk' nt' st' tx' k' th' be')
  | [], cl, dk, nt, st, tx, k, th, be => ⟨cl, dk, nt, st, tx, k, th, be, forL_nil⟩
  | i :: is, cl, dk, nt, st, tx, k, th, be => by
    obtain ⟨d1, n1, s1, t1, k1, h1, b1, e1⟩ := b5_ok (x := x) (nt := nt) (st := st) (tx := tx) (k := k) (th := th) (be := be) i dk
    obtain ⟨c2, d2, n2, s2, t2, k2, h2, b2, e2⟩ := b5_loop is (some (.val (.int i))) d1 n1 s1 t1 k1 h1 b1
    refine ⟨c2, d2, n2, s2, t2, k2, h2, b2, ?_⟩
    rw [List.map_cons, forL_cons]
    unfold L41 at e1 e2 ⊢
    simp [e1, e2]
theorem good (ns : List Int) (hn : ns.length ≤ 63) : ∃ cs, fn_law [.val (.list (ns.map .int))] = .ok (.val (.bool true)) cs := by
  have e0 : cutD (.int 0 :: ns.map PyData.int) none (some 12) = ((0 :: ns).take 12).map .int := by
    rw [cutD_take _ (by omega), List.map_take]; rfl
  obtain ⟨c2, d2, n2, s2, t2, k2, h2, b2, e2⟩ := b5_loop (x := some (.val (.list (ns.map .int)))) ((0 :: ns).take 12) none none none none none none none none
  have szl := sizeL
  have a1 : 1 + ns.length ≤ sizeLine := by omega
  have a2 : (7 : Nat) + 3 ≤ sizeLine := by omega
  have a3 : (11 : Nat) + 4 ≤ sizeLine := by omega
  have a4 : (10 : Nat) < sizeLine := by omega
  refine ⟨[.val (.list (ns.map .int))], ?_⟩
  unfold fn_law g_law
  rw [fnOf_eq]
  unfold L41 someL at e2
  simp only [List.map_cons, List.map_nil] at e2
  simp [a1, a2, a3, a4, e0, -List.map_take, -List.take_succ_cons]
  rw [e2]
  simp
end Lw

namespace Lw
open PySem L2 Nd
instance tfI : TF := ⟨[((("_law_right_reads" : Str), none), (("_law_right_reads" : Str) ++ ".<locals>.") ++ "<lambda>"), ((("law" : Str), none), (("law" : Str) ++ ".<locals>.") ++ "<lambda>")]⟩
def top (i : Nat) : Stmt := PySem.Challenge.pw_nearpair_k41_texts_spoilt.main.body.getD i (.Pass ⟨0, 0, 0, 0⟩)
abbrev st__law_deck : Stmt := top 42
abbrev ps__law_deck : List Str := ["_law_cell", "_law_turn"]
theorem sc__law_deck : FnScope N__law_deck ps__law_deck (defScope st__law_deck) := ⟨rfl, rfl, rfl, by decide +kernel, rfl, by decide +kernel, by decide +kernel⟩
abbrev st__law_pick : Stmt := top 43
abbrev ps__law_pick : List Str := ["_law_deck_here", "_law_size"]
theorem sc__law_pick : FnScope N__law_pick ps__law_pick (defScope st__law_pick) := ⟨rfl, rfl, rfl, by decide +kernel, rfl, by decide +kernel, by decide +kernel⟩
abbrev st__law_one : Stmt := top 44
abbrev ps__law_one : List Str := ["_law_deck_here", "_law_some"]
theorem sc__law_one : FnScope N__law_one ps__law_one (defScope st__law_one) := ⟨rfl, rfl, rfl, by decide +kernel, rfl, by decide +kernel, by decide +kernel⟩
abbrev st__law_net : Stmt := top 50
abbrev ps__law_net : List Str := ["_law_deck_here", "_law_most"]
theorem sc__law_net : FnScope N__law_net ps__law_net (defScope st__law_net) := ⟨rfl, rfl, rfl, by decide +kernel, rfl, by decide +kernel, by decide +kernel⟩
abbrev st__law_near : Stmt := top 51
abbrev ps__law_near : List Str := ["_law_net_here", "_law_hand"]
theorem sc__law_near : FnScope N__law_near ps__law_near (defScope st__law_near) := ⟨rfl, rfl, rfl, by decide +kernel, rfl, by decide +kernel, by decide +kernel⟩
abbrev st__law_state : Stmt := top 52
abbrev ps__law_state : List Str := ["_law_deck_here", "_law_net_here"]
theorem sc__law_state : FnScope N__law_state ps__law_state (defScope st__law_state) := ⟨rfl, rfl, rfl, by decide +kernel, rfl, by decide +kernel, by decide +kernel⟩
abbrev st__law_net_text : Stmt := top 53
abbrev ps__law_net_text : List Str := ["_law_net_here"]
theorem sc__law_net_text : FnScope N__law_net_text ps__law_net_text (defScope st__law_net_text) := ⟨rfl, rfl, rfl, by decide +kernel, rfl, by decide +kernel, by decide +kernel⟩
abbrev st__law_state_text : Stmt := top 54
abbrev ps__law_state_text : List Str := ["_law_state_here"]
theorem sc__law_state_text : FnScope N__law_state_text ps__law_state_text (defScope st__law_state_text) := ⟨rfl, rfl, rfl, by decide +kernel, rfl, by decide +kernel, by decide +kernel⟩
abbrev st__law_bent_text : Stmt := top 55
abbrev ps__law_bent_text : List Str := ["_law_deck_here", "_law_text"]
theorem sc__law_bent_text : FnScope N__law_bent_text ps__law_bent_text (defScope st__law_bent_text) := ⟨rfl, rfl, rfl, by decide +kernel, rfl, by decide +kernel, by decide +kernel⟩
abbrev st__law_odd : Stmt := top 49
abbrev ps__law_odd : List Str := ["_law_deck_here"]
theorem sc__law_odd : FnScope N__law_odd ps__law_odd (defScope st__law_odd) := ⟨rfl, rfl, rfl, by decide +kernel, rfl, by decide +kernel, by decide +kernel⟩
abbrev st_is_rising : Stmt := top 26
abbrev ps_is_rising : List Str := ["things"]
theorem sc_is_rising : FnScope N_is_rising ps_is_rising (defScope st_is_rising) := ⟨rfl, rfl, rfl, by decide +kernel, rfl, by decide +kernel, by decide +kernel⟩
abbrev st_is_from : Stmt := top 24
abbrev ps_is_from : List Str := ["thing", "low", "high"]
theorem sc_is_from : FnScope N_is_from ps_is_from (defScope st_is_from) := ⟨rfl, rfl, rfl, by decide +kernel, rfl, by decide +kernel, by decide +kernel⟩
abbrev st_is_name : Stmt := top 25
abbrev ps_is_name : List Str := ["thing"]
theorem sc_is_name : FnScope N_is_name ps_is_name (defScope st_is_name) := ⟨rfl, rfl, rfl, by decide +kernel, rfl, by decide +kernel, by decide +kernel⟩
abbrev st_is_tie : Stmt := top 27
abbrev ps_is_tie : List Str := ["hands", "thing"]
theorem sc_is_tie : FnScope N_is_tie ps_is_tie (defScope st_is_tie) := ⟨rfl, rfl, rfl, by decide +kernel, rfl, by decide +kernel, by decide +kernel⟩
abbrev st_is_net : Stmt := top 28
abbrev ps_is_net : List Str := ["thing"]
theorem sc_is_net : FnScope N_is_net ps_is_net (defScope st_is_net) := ⟨rfl, rfl, rfl, by decide +kernel, rfl, by decide +kernel, by decide +kernel⟩
abbrev st__law_number : Stmt := top 56
abbrev ps__law_number : List Str := ["_law_word"]
theorem sc__law_number : FnScope N__law_number ps__law_number (defScope st__law_number) := ⟨rfl, rfl, rfl, by decide +kernel, rfl, by decide +kernel, by decide +kernel⟩
abbrev st__law_read_net : Stmt := top 57
abbrev ps__law_read_net : List Str := ["_law_thing"]
theorem sc__law_read_net : FnScope N__law_read_net ps__law_read_net (defScope st__law_read_net) := ⟨rfl, rfl, rfl, by decide +kernel, rfl, by decide +kernel, by decide +kernel⟩
abbrev st_neighbours : Stmt := top 29
abbrev ps_neighbours : List Str := ["net", "hand"]
theorem sc_neighbours : FnScope N_neighbours ps_neighbours (defScope st_neighbours) := ⟨rfl, rfl, rfl, by decide +kernel, rfl, by decide +kernel, by decide +kernel⟩
abbrev st_is_state : Stmt := top 31
abbrev ps_is_state : List Str := ["net", "thing"]
theorem sc_is_state : FnScope N_is_state ps_is_state (defScope st_is_state) := ⟨rfl, rfl, rfl, by decide +kernel, rfl, by decide +kernel, by decide +kernel⟩
abbrev st__law_read_state : Stmt := top 58
abbrev ps__law_read_state : List Str := ["_law_net_here", "_law_thing"]
theorem sc__law_read_state : FnScope N__law_read_state ps__law_read_state (defScope st__law_read_state) := ⟨rfl, rfl, rfl, by decide +kernel, rfl, by decide +kernel, by decide +kernel⟩
abbrev st__law_sort : Stmt := top 47
abbrev ps__law_sort : List Str := ["_law_thing"]
theorem sc__law_sort : FnScope N__law_sort ps__law_sort (defScope st__law_sort) := ⟨rfl, rfl, rfl, by decide +kernel, rfl, by decide +kernel, by decide +kernel⟩
abbrev st__law_same : Stmt := top 48
abbrev ps__law_same : List Str := ["_law_told", "_law_due"]
theorem sc__law_same : FnScope N__law_same ps__law_same (defScope st__law_same) := ⟨rfl, rfl, rfl, by decide +kernel, rfl, by decide +kernel, by decide +kernel⟩
abbrev st__law_kin : Stmt := top 45
abbrev ps__law_kin : List Str := ["_law_e"]
theorem sc__law_kin : FnScope N__law_kin ps__law_kin (defScope st__law_kin) := ⟨rfl, rfl, rfl, by decide +kernel, rfl, by decide +kernel, by decide +kernel⟩
abbrev st_state_text : Stmt := top 35
abbrev ps_state_text : List Str := ["state"]
theorem sc_state_text : FnScope N_state_text ps_state_text (defScope st_state_text) := ⟨rfl, rfl, rfl, by decide +kernel, rfl, by decide +kernel, by decide +kernel⟩
abbrev st_pointer_in : Stmt := top 39
abbrev ps_pointer_in : List Str := ["word"]
theorem sc_pointer_in : FnScope N_pointer_in ps_pointer_in (defScope st_pointer_in) := ⟨rfl, rfl, rfl, by decide +kernel, rfl, by decide +kernel, by decide +kernel⟩
abbrev st_read_state : Stmt := top 40
abbrev ps_read_state : List Str := ["net", "text"]
theorem sc_read_state : FnScope N_read_state ps_read_state (defScope st_read_state) := ⟨rfl, rfl, rfl, by decide +kernel, rfl, by decide +kernel, by decide +kernel⟩
abbrev st_net_text : Stmt := top 34
abbrev ps_net_text : List Str := ["net"]
theorem sc_net_text : FnScope N_net_text ps_net_text (defScope st_net_text) := ⟨rfl, rfl, rfl, by decide +kernel, rfl, by decide +kernel, by decide +kernel⟩
abbrev st_number_in : Stmt := top 36
abbrev ps_number_in : List Str := ["word"]
theorem sc_number_in : FnScope N_number_in ps_number_in (defScope st_number_in) := ⟨rfl, rfl, rfl, by decide +kernel, rfl, by decide +kernel, by decide +kernel⟩
abbrev st_tie_in : Stmt := top 37
abbrev ps_tie_in : List Str := ["row"]
theorem sc_tie_in : FnScope N_tie_in ps_tie_in (defScope st_tie_in) := ⟨rfl, rfl, rfl, by decide +kernel, rfl, by decide +kernel, by decide +kernel⟩
abbrev st_read_net : Stmt := top 38
abbrev ps_read_net : List Str := ["text"]
theorem sc_read_net : FnScope N_read_net ps_read_net (defScope st_read_net) := ⟨rfl, rfl, rfl, by decide +kernel, rfl, by decide +kernel, by decide +kernel⟩
abbrev st__law_right_reads : Stmt := top 59
abbrev ps__law_right_reads : List Str := ["_law_net_here", "_law_thing"]
theorem sc__law_right_reads : FnScope N__law_right_reads ps__law_right_reads (defScope st__law_right_reads) := ⟨rfl, rfl, rfl, by decide +kernel, rfl, by decide +kernel, by decide +kernel⟩
abbrev st_law : Stmt := top 60
abbrev ps_law : List Str := ["_law_script"]
theorem sc_law : FnScope N_law ps_law (defScope st_law) := ⟨rfl, rfl, rfl, by decide +kernel, rfl, by decide +kernel, by decide +kernel⟩
abbrev st__law_try : Stmt := top 46
theorem sct__law_try : TryScope st__law_try := ⟨⟨rfl, rfl, rfl, by decide +kernel, rfl, by decide +kernel, by decide +kernel⟩, ⟨_, _, _, _, _, _, _, _, _, _, _, _, _, _, _, _, _, _, _, _, _, _, rfl⟩, rfl, rfl, rfl, rfl, rfl⟩
structure Txt (K : Frag) (mg : Str → Option Value) : Prop where
  d__law_deck : DefAt K mg "_law_deck" st__law_deck ps__law_deck
  d__law_pick : DefAt K mg "_law_pick" st__law_pick ps__law_pick
  d__law_one : DefAt K mg "_law_one" st__law_one ps__law_one
  d__law_net : DefAt K mg "_law_net" st__law_net ps__law_net
  d__law_near : DefAt K mg "_law_near" st__law_near ps__law_near
  d__law_state : DefAt K mg "_law_state" st__law_state ps__law_state
  d__law_net_text : DefAt K mg "_law_net_text" st__law_net_text ps__law_net_text
  d__law_state_text : DefAt K mg "_law_state_text" st__law_state_text ps__law_state_text
  d__law_bent_text : DefAt K mg "_law_bent_text" st__law_bent_text ps__law_bent_text
  d__law_odd : DefAt K mg "_law_odd" st__law_odd ps__law_odd
  d_is_rising : DefAt K mg "is_rising" st_is_rising ps_is_rising
  d_is_from : DefAt K mg "is_from" st_is_from ps_is_from
  d_is_name : DefAt K mg "is_name" st_is_name ps_is_name
  d_is_tie : DefAt K mg "is_tie" st_is_tie ps_is_tie
  d_is_net : DefAt K mg "is_net" st_is_net ps_is_net
  d__law_number : DefAt K mg "_law_number" st__law_number ps__law_number
  d__law_read_net : DefAt K mg "_law_read_net" st__law_read_net ps__law_read_net
  d_neighbours : DefAt K mg "neighbours" st_neighbours ps_neighbours
  d_is_state : DefAt K mg "is_state" st_is_state ps_is_state
  d__law_read_state : DefAt K mg "_law_read_state" st__law_read_state ps__law_read_state
  d__law_sort : DefAt K mg "_law_sort" st__law_sort ps__law_sort
  d__law_same : DefAt K mg "_law_same" st__law_same ps__law_same
  d__law_kin : DefAt K mg "_law_kin" st__law_kin ps__law_kin
  d_state_text : DefAt K mg "state_text" st_state_text ps_state_text
  d_pointer_in : DefAt K mg "pointer_in" st_pointer_in ps_pointer_in
  d_read_state : DefAt K mg "read_state" st_read_state ps_read_state
  d_net_text : DefAt K mg "net_text" st_net_text ps_net_text
  d_number_in : DefAt K mg "number_in" st_number_in ps_number_in
  d_tie_in : DefAt K mg "tie_in" st_tie_in ps_tie_in
  d_read_net : DefAt K mg "read_net" st_read_net ps_read_net
  d__law_right_reads : DefAt K mg "_law_right_reads" st__law_right_reads ps__law_right_reads
  d_law : DefAt K mg "law" st_law ps_law
  d__law_try : DefAt K mg "_law_try" st__law_try ["_law_door"]
  ex : ExAll K mg
  b_ValueError : mg "ValueError" = none
  b_all : mg "all" = none
  b_bool : mg "bool" = none
  b_enumerate : mg "enumerate" = none
  b_int : mg "int" = none
  b_isinstance : mg "isinstance" = none
  b_len : mg "len" = none
  b_list : mg "list" = none
  b_range : mg "range" = none
  b_sorted : mg "sorted" = none
  b_str : mg "str" = none
  b_tuple : mg "tuple" = none
  b_zip : mg "zip" = none
  v_FIGURES : ∃ t, mg "FIGURES" = some (.str "0123456789" t)
  v_LETTERS : ∃ t, mg "LETTERS" = some (.str "abcdefghijklmnopqrstuvwxyz" t)
  v_MOST_HANDS : ∃ t, mg "MOST_HANDS" = some (.int 8 t)
  v_MOST_TIES : ∃ t, mg "MOST_TIES" = some (.int 16 t)
  v_MOST_WEIGHT : ∃ t, mg "MOST_WEIGHT" = some (.int 100 t)
structure TxtL [TF] (K : Frag) (mg : Str → Option Value) (base : Heap) : Prop where
  l__law_right_reads : Lm K mg base "_law_right_reads" ((("_law_right_reads" : Str) ++ ".<locals>.") ++ "<lambda>")
  l_law : Lm K mg base "law" ((("law" : Str) ++ ".<locals>.") ++ "<lambda>")
end Lw

namespace Lw
open PySem L2 Nd
section
variable {Pg : Program} {w : World} {K : Frag} {mg : Str → Option Value} {base : Heap}
theorem hP__law_deck : ∀ i : Nat, ([true, true] : List Bool)[i]? = some true → i ∈ ([0, 1] : List Nat) := hP_of (by decide)
theorem cal__law_deck [TF] (T : Txt K mg) : Cal Pg w K mg base "_law_deck" 2 1 fn__law_deck :=
  T.d__law_deck.cal (k := 0) sc__law_deck [0, 1] [true, true] (g := g__law_deck) (by decide) rfl hP__law_deck fun f cdv hc hf A outer s H E hr => by
    have tk := L2N.takes_of (X := cxOf (L2N.CX Pg w) Pg w K mg base N__law_deck "_law_deck" (defScope st__law_deck) f cdv A outer s H E) rfl rfl rfl rfl
    exact (s_cons (s_if (t_cmp o_geA (o_name 0) (o_of (e_bin o_pow o_int o_int)) (nomark _))
  (s_one (s_ret (e_lst (es_cons (e_val (o_of (e_bin o_sub (o_name 0) (o_of (e_bin o_pow o_int o_int))))) (es_cons (e_val (o_of (e_bin o_mod (o_name 0) o_int))) (es_cons (e_name 1) es_nil))))))
  s_nil)
  (s_one (s_ret (e_lst (es_cons e_int (es_cons (e_val (o_of (e_bin o_mod (o_name 0) o_int))) (es_cons (e_name 1) es_nil)))))))
theorem hP__law_pick : ∀ i : Nat, ([true, true] : List Bool)[i]? = some true → i ∈ ([0, 1] : List Nat) := hP_of (by decide)
theorem cal__law_pick [TF] (T : Txt K mg) : Cal Pg w K mg base "_law_pick" 2 1 fn__law_pick :=
  T.d__law_pick.cal (k := 0) sc__law_pick [0, 1] [true, true] (g := g__law_pick) (by decide) rfl hP__law_pick fun f cdv hc hf A outer s H E hr => by
    have tk := L2N.takes_of (X := cxOf (L2N.CX Pg w) Pg w K mg base N__law_pick "_law_pick" (defScope st__law_pick) f cdv A outer s H E) rfl rfl rfl rfl
    exact (s_cons (s_if (t_cmp o_gtA (o_of (e_ix (o_name 0) o_int (fun _ _ => rfl))) o_int (nomark _))
  (s_cons (s_asg (by decide) (o_of (e_bin o_mod (o_of (e_ix (o_name 0) o_int (fun _ _ => rfl))) (o_name 1))) (g_name sc__law_pick.nd rfl (by first | exact Or.inl rfl | exact Or.inr rfl)))
  (s_cons (s_store 0 (e_bin o_fdiv (o_of (e_ix (o_name 0) o_int (fun _ _ => rfl))) (o_name 1)) o_int)
  (s_one (s_ret (e_name 3)))))
  s_nil)
  (s_cons (s_store 0 (e_bin o_add (o_of (e_ix (o_name 0) o_int (fun _ _ => rfl))) o_int) o_int)
  (s_cons (s_asg (by decide) (o_of (e_bin o_mod (o_of (e_bin o_pow (o_of (e_bin o_add (o_of (e_ix (o_name 0) o_int (fun _ _ => rfl))) (o_of (e_bin o_mul o_int (o_of (e_ix (o_name 0) o_int (fun _ _ => rfl))))))) o_int)) o_int)) (g_name sc__law_pick.nd rfl (by first | exact Or.inl rfl | exact Or.inr rfl)))
  (s_cons (s_asg (by decide) (o_of (e_bin o_fdiv (o_of (e_bin o_mod (o_of (e_bin o_pow (o_of (e_bin o_add (o_name 2) (o_of (e_bin o_mul o_int (o_of (e_ix (o_name 0) o_int (fun _ _ => rfl))))))) o_int)) o_int)) o_int)) (g_name sc__law_pick.nd rfl (by first | exact Or.inl rfl | exact Or.inr rfl)))
  (s_one (s_ret (e_bin o_mod (o_name 3) (o_name 1))))))))
theorem hP__law_one : ∀ i : Nat, ([true, true] : List Bool)[i]? = some true → i ∈ ([0, 1] : List Nat) := hP_of (by decide)
theorem cal__law_one [TF] (T : Txt K mg) : Cal Pg w K mg base "_law_one" 2 2 fn__law_one :=
  T.d__law_one.cal (k := 1) sc__law_one [0, 1] [true, true] (g := g__law_one) (by decide) rfl hP__law_one fun f cdv hc hf A outer s H E hr => by
    have tk := L2N.takes_of (X := cxOf (L2N.CX Pg w) Pg w K mg base N__law_one "_law_one" (defScope st__law_one) f cdv A outer s H E) rfl rfl rfl rfl
    exact (s_one (s_ret (e_ix (o_name 1) (o_of (e_call (cal__law_pick T) (hr.mono (by decide)) tk (by rfl) (as_lent 0 (as_val (e_val (o_of (e_callB c_len (by rfl) T.b_len PySem.boot_len (os_cons (o_name 1) os_nil)))) as_nil)))) (fun _ _ => rfl))))
theorem hP__law_net : ∀ i : Nat, ([true, true] : List Bool)[i]? = some true → i ∈ ([0, 1] : List Nat) := hP_of (by decide)
theorem cal__law_net [TF] (T : Txt K mg) : Cal Pg w K mg base "_law_net" 2 3 fn__law_net :=
  T.d__law_net.cal (k := 2) sc__law_net [0, 1] [true, true] (g := g__law_net) (by decide) rfl hP__law_net fun f cdv hc hf A outer s H E hr => by
    have tk := L2N.takes_of (X := cxOf (L2N.CX Pg w) Pg w K mg base N__law_net "_law_net" (defScope st__law_net) f cdv A outer s H E) rfl rfl rfl rfl
    exact (s_cons (s_asg (by decide) (o_of (e_sl (o_of (e_lst (es_cons (e_str (by decide +kernel)) (es_cons (e_str (by decide +kernel)) (es_cons (e_str (by decide +kernel)) (es_cons (e_str (by decide +kernel)) (es_cons (e_str (by decide +kernel)) (es_cons (e_str (by decide +kernel)) (es_cons (e_str (by decide +kernel)) (es_cons (e_str (by decide +kernel)) es_nil)))))))))) p_none (p_some (o_of (e_bin o_add o_int (o_of (e_call (cal__law_pick T) (hr.mono (by decide)) tk (by rfl) (as_lent 0 (as_val (e_name 1) as_nil))))))))) (g_name sc__law_net.nd rfl (by first | exact Or.inl rfl | exact Or.inr rfl)))
  (s_cons (s_set (i := 3) (by decide) sc__law_net.nd rfl (by first | exact Or.inl rfl | exact Or.inr rfl) (e_lst es_nil))
  (s_cons (s_for (P' := [0, 1]) (by decide) (by decide) (src_enumA (T := fun s => srcIn s [0, 1]) trivial) (passes_of rfl) rfl (i_enumA (by rfl) T.b_enumerate (o_name 2)) (g_tup rfl rfl rfl (gs_cons (g_name sc__law_net.nd rfl (by first | exact Or.inl rfl | exact Or.inr rfl)) (gs_cons (g_name sc__law_net.nd rfl (by first | exact Or.inl rfl | exact Or.inr rfl)) gs_nil)))
  (s_one (s_for (P' := [0, 1]) (by decide) (by decide) (src_fz (T := fun s => srcIn s [0, 1]) trivial) (passes_of rfl) rfl (i_op (o_of (e_sl (o_name 2) (p_some (o_of (e_bin o_add (o_name 4) o_int))) p_none))) (g_name sc__law_net.nd rfl (by first | exact Or.inl rfl | exact Or.inr rfl))
  (s_one (s_if ((w_and (t_cmp o_ltA (o_of (e_call (cal__law_pick T) (hr.mono (by decide)) tk (by rfl) (as_lent 0 (as_val e_int as_nil)))) o_int (nomark _)) (w_and1 (t_cmp o_ltA (o_of (e_callB c_len (by rfl) T.b_len PySem.boot_len (os_cons (o_name 3) os_nil))) o_int (nomark _))))).pt
  (s_one (s_app 3 (e_tup (es_cons (e_name 5) (es_cons (e_name 6) (es_cons (e_val (o_of (e_bin o_add o_int (o_of (e_call (cal__law_pick T) (hr.mono (by decide)) tk (by rfl) (as_lent 0 (as_val (e_val (o_of (e_call (cal__law_one T) (hr.mono (by decide)) tk (by rfl) (as_lent 0 (as_val (e_val (o_of (e_lst (es_cons e_int (es_cons e_int (es_cons e_int es_nil)))))) as_nil))))) as_nil))))))) es_nil))))))
  s_nil)))))
  (s_one (s_ret (e_tup (es_cons (e_val (o_of (e_callTy c_tuple (by rfl) T.b_tuple (by decide +kernel) (os_cons (o_name 2) os_nil)))) (es_cons (e_val (o_of (e_callTy c_tuple (by rfl) T.b_tuple (by decide +kernel) (os_cons (o_name 3) os_nil)))) es_nil))))))))
theorem hP__law_near : ∀ i : Nat, ([true, true] : List Bool)[i]? = some true → i ∈ ([0, 1] : List Nat) := hP_of (by decide)
theorem cal__law_near [TF] (T : Txt K mg) : Cal Pg w K mg base "_law_near" 2 1 fn__law_near :=
  T.d__law_near.cal (k := 0) sc__law_near [0, 1] [true, true] (g := g__law_near) (by decide) rfl hP__law_near fun f cdv hc hf A outer s H E hr => by
    have tk := L2N.takes_of (X := cxOf (L2N.CX Pg w) Pg w K mg base N__law_near "_law_near" (defScope st__law_near) f cdv A outer s H E) rfl rfl rfl rfl
    exact (s_cons (s_set (i := 2) (by decide) sc__law_near.nd rfl (by first | exact Or.inl rfl | exact Or.inr rfl) (e_lst es_nil))
  (s_cons (s_for (P' := [0, 1]) (by decide) (by decide) (src_fz (T := fun s => srcIn s [0, 1]) trivial) (passes_of rfl) rfl (i_op (o_of (e_ix (o_name 0) o_int (fun _ _ => rfl)))) (g_tup rfl rfl rfl (gs_cons (g_name sc__law_near.nd rfl (by first | exact Or.inl rfl | exact Or.inr rfl)) (gs_cons (g_name sc__law_near.nd rfl (by first | exact Or.inl rfl | exact Or.inr rfl)) (gs_cons (g_name sc__law_near.nd rfl (by first | exact Or.inl rfl | exact Or.inr rfl)) gs_nil))))
  (s_one (s_if (t_cmp (o_in hr.u65) (o_name 1) (o_of (e_tup (es_cons (e_name 3) (es_cons (e_name 4) es_nil)))) (by with_unfolding_all rfl))
  (s_one (s_app 2 (e_if (t_cmp (o_eq hr.u65) (o_name 1) (o_name 3) (nomark _)) (e_name 4) (e_name 3))))
  s_nil)))
  (s_one (s_ret (e_callB (c_sortDD hr.u65) (by rfl) T.b_sorted (by decide +kernel) (os_cons (o_name 2) os_nil))))))
theorem hP__law_state : ∀ i : Nat, ([true, true] : List Bool)[i]? = some true → i ∈ ([0, 1] : List Nat) := hP_of (by decide)
theorem cal__law_state [TF] (T : Txt K mg) : Cal Pg w K mg base "_law_state" 2 3 fn__law_state :=
  T.d__law_state.cal (k := 2) sc__law_state [0, 1] [true, true] (g := g__law_state) (by decide) rfl hP__law_state fun f cdv hc hf A outer s H E hr => by
    have tk := L2N.takes_of (X := cxOf (L2N.CX Pg w) Pg w K mg base N__law_state "_law_state" (defScope st__law_state) f cdv A outer s H E) rfl rfl rfl rfl
    exact (s_one (s_ret (e_callTy c_tuple (by rfl) T.b_tuple (by decide +kernel) (os_cons (o_of (e_comp (own := [("_law_hand", 2)]) rfl sc__law_state.nd (i_op (o_of (e_ix (o_name 1) o_int (fun _ _ => rfl)))) (blkOk_by (own := [("_law_hand", 2)]) (N := N__law_state) (sc := defScope st__law_state) (by decide +kernel)) (fun _ _ _ _ _ => (g_name sc__law_state.nd rfl (by first | exact Or.inl rfl | exact Or.inr rfl))) (fun _ _ _ _ _ => ts_nil) (fun _ _ _ _ _ => (o_of (e_tup (es_cons (e_name 2) (es_cons (e_val (o_of (e_call (cal__law_one T) (hr.mono (by decide)) takes0N (by rfl) (as_lent 0 (as_val (e_val (o_of (e_bin o_add (o_of (e_lst (es_cons e_non es_nil))) (o_of (e_call (cal__law_near T) (hr.mono (by decide)) takes0N (by rfl) (as_val (e_name 1) (as_val (e_name 2) as_nil))))))) as_nil))))) es_nil))))) (by decide) (src_fz (T := fun s => srcOut s [2]) trivial))) os_nil))))
theorem hP__law_net_text : ∀ i : Nat, ([true] : List Bool)[i]? = some true → i ∈ ([0] : List Nat) := hP_of (by decide)
theorem cal__law_net_text [TF] (T : Txt K mg) : Cal Pg w K mg base "_law_net_text" 1 1 fn__law_net_text :=
  T.d__law_net_text.cal (k := 0) sc__law_net_text [0] [true] (g := g__law_net_text) (by decide) rfl hP__law_net_text fun f cdv hc hf A outer s H E hr => by
    have tk := L2N.takes_of (X := cxOf (L2N.CX Pg w) Pg w K mg base N__law_net_text "_law_net_text" (defScope st__law_net_text) f cdv A outer s H E) rfl rfl rfl rfl
    exact (s_cons (s_set (i := 1) (by decide) sc__law_net_text.nd rfl (by first | exact Or.inl rfl | exact Or.inr rfl) (e_lst (es_cons (e_val (o_of (e_bin o_add (o_str (by decide +kernel)) (o_of (e_mtS PySem.F.slot_str_join PySem.F.type_str_join m_join (o_str (by decide +kernel)) (os_cons (o_of (e_ix (o_name 0) o_int (fun _ _ => rfl))) os_nil)))))) es_nil)))
  (s_cons (s_for (P' := [0]) (by decide) (by decide) (src_fz (T := fun s => srcIn s [0]) trivial) (passes_of rfl) rfl (i_op (o_of (e_ix (o_name 0) o_int (fun _ _ => rfl)))) (g_tup rfl rfl rfl (gs_cons (g_name sc__law_net_text.nd rfl (by first | exact Or.inl rfl | exact Or.inr rfl)) (gs_cons (g_name sc__law_net_text.nd rfl (by first | exact Or.inl rfl | exact Or.inr rfl)) (gs_cons (g_name sc__law_net_text.nd rfl (by first | exact Or.inl rfl | exact Or.inr rfl)) gs_nil))))
  (s_one (s_app 1 (e_bin o_add (o_of (e_bin o_add (o_of (e_bin o_add (o_of (e_bin o_add (o_of (e_bin o_add (o_str (by decide +kernel)) (o_name 2))) (o_str (by decide +kernel)))) (o_name 3))) (o_str (by decide +kernel)))) (o_of (e_callTy c_str (by rfl) T.b_str (by decide +kernel) (os_cons (o_name 4) os_nil)))))))
  (s_one (s_ret (e_mtS PySem.F.slot_str_join PySem.F.type_str_join m_join (o_str (by decide +kernel)) (os_cons (o_name 1) os_nil))))))
theorem hP__law_state_text : ∀ i : Nat, ([true] : List Bool)[i]? = some true → i ∈ ([0] : List Nat) := hP_of (by decide)
theorem cal__law_state_text [TF] (T : Txt K mg) : Cal Pg w K mg base "_law_state_text" 1 1 fn__law_state_text :=
  T.d__law_state_text.cal (k := 0) sc__law_state_text [0] [true] (g := g__law_state_text) (by decide) rfl hP__law_state_text fun f cdv hc hf A outer s H E hr => by
    have tk := L2N.takes_of (X := cxOf (L2N.CX Pg w) Pg w K mg base N__law_state_text "_law_state_text" (defScope st__law_state_text) f cdv A outer s H E) rfl rfl rfl rfl
    exact (s_one (s_ret (e_mtS PySem.F.slot_str_join PySem.F.type_str_join m_join (o_str (by decide +kernel)) (os_cons (o_of (e_comp (own := [("_law_hand", 1), ("_law_at", 2)]) rfl sc__law_state_text.nd (i_op (o_of (e_name 0))) (blkOk_by (own := [("_law_hand", 1), ("_law_at", 2)]) (N := N__law_state_text) (sc := defScope st__law_state_text) (by decide +kernel)) (fun _ _ _ _ _ => (g_tup rfl rfl rfl (gs_cons (g_name sc__law_state_text.nd rfl (by first | exact Or.inl rfl | exact Or.inr rfl)) (gs_cons (g_name sc__law_state_text.nd rfl (by first | exact Or.inl rfl | exact Or.inr rfl)) gs_nil)))) (fun _ _ _ _ _ => ts_nil) (fun _ _ _ _ _ => (o_of (e_bin o_add (o_of (e_bin o_add (o_name 1) (o_str (by decide +kernel)))) (o_of (e_if (t_cmp o_isN (o_name 2) o_non (nomark _)) (e_str (by decide +kernel)) (e_name 2)))))) (by decide) (src_fz (T := fun s => srcOut s [1, 2]) trivial))) os_nil))))
theorem hP__law_bent_text : ∀ i : Nat, ([true, true] : List Bool)[i]? = some true → i ∈ ([0, 1] : List Nat) := hP_of (by decide)
theorem cal__law_bent_text [TF] (T : Txt K mg) : Cal Pg w K mg base "_law_bent_text" 2 3 fn__law_bent_text :=
  T.d__law_bent_text.cal (k := 2) sc__law_bent_text [0, 1] [true, true] (g := g__law_bent_text) (by decide) rfl hP__law_bent_text fun f cdv hc hf A outer s H E hr => by
    have tk := L2N.takes_of (X := cxOf (L2N.CX Pg w) Pg w K mg base N__law_bent_text "_law_bent_text" (defScope st__law_bent_text) f cdv A outer s H E) rfl rfl rfl rfl
    exact (s_cons (s_asg (by decide) (o_of (e_call (cal__law_pick T) (hr.mono (by decide)) tk (by rfl) (as_lent 0 (as_val (e_val (o_of (e_bin o_add (o_of (e_callB c_len (by rfl) T.b_len PySem.boot_len (os_cons (o_name 1) os_nil))) o_int))) as_nil)))) (g_name sc__law_bent_text.nd rfl (by first | exact Or.inl rfl | exact Or.inr rfl)))
  (s_cons (s_set (i := 3) (by decide) sc__law_bent_text.nd rfl (by first | exact Or.inl rfl | exact Or.inr rfl) (e_str (by decide +kernel)))
  (s_cons (s_asg (by decide) (o_of (e_ix (o_name 3) (o_of (e_call (cal__law_pick T) (hr.mono (by decide)) tk (by rfl) (as_lent 0 (as_val (e_val (o_of (e_callB c_len (by rfl) T.b_len PySem.boot_len (os_cons (o_name 3) os_nil)))) as_nil)))) (fun _ _ => rfl))) (g_name sc__law_bent_text.nd rfl (by first | exact Or.inl rfl | exact Or.inr rfl)))
  (s_cons (s_asg (by decide) (o_of (e_call (cal__law_pick T) (hr.mono (by decide)) tk (by rfl) (as_lent 0 (as_val e_int as_nil)))) (g_name sc__law_bent_text.nd rfl (by first | exact Or.inl rfl | exact Or.inr rfl)))
  (s_cons (s_if (t_cmp (o_eq hr.u65) (o_name 5) o_int (nomark _))
  (s_one (s_ret (e_bin o_add (o_of (e_bin o_add (o_of (e_sl (o_name 1) p_none (p_some (o_name 2)))) (o_name 4))) (o_of (e_sl (o_name 1) (p_some (o_name 2)) p_none)))))
  s_nil)
  (s_cons (s_if (t_cmp (o_eq hr.u65) (o_name 5) o_int (nomark _))
  (s_one (s_ret (e_bin o_add (o_of (e_sl (o_name 1) p_none (p_some (o_name 2)))) (o_of (e_sl (o_name 1) (p_some (o_of (e_bin o_add (o_name 2) o_int))) p_none)))))
  s_nil)
  (s_cons (s_if (t_cmp (o_eq hr.u65) (o_name 5) o_int (nomark _))
  (s_one (s_ret (e_bin o_add (o_of (e_bin o_add (o_of (e_sl (o_name 1) p_none (p_some (o_name 2)))) (o_name 4))) (o_of (e_sl (o_name 1) (p_some (o_of (e_bin o_add (o_name 2) o_int))) p_none)))))
  s_nil)
  (s_cons (s_asg (by decide) (o_of (e_call (cal__law_one T) (hr.mono (by decide)) tk (by rfl) (as_lent 0 (as_val (e_val (o_of (e_lst (es_cons (e_str (by decide +kernel)) (es_cons (e_str (by decide +kernel)) (es_cons (e_str (by decide +kernel)) (es_cons (e_str (by decide +kernel)) es_nil))))))) as_nil)))) (g_name sc__law_bent_text.nd rfl (by first | exact Or.inl rfl | exact Or.inr rfl)))
  (s_cons (s_set (i := 7) (by decide) sc__law_bent_text.nd rfl (by first | exact Or.inl rfl | exact Or.inr rfl) (e_mtS PySem.F.slot_str_split PySem.F.type_str_split m_split (o_name 1) (os_cons (o_name 6) os_nil)))
  (s_cons (s_asg (by decide) (o_of (e_call (cal__law_pick T) (hr.mono (by decide)) tk (by rfl) (as_lent 0 (as_val (e_val (o_of (e_callB c_len (by rfl) T.b_len PySem.boot_len (os_cons (o_name 7) os_nil)))) as_nil)))) (g_name sc__law_bent_text.nd rfl (by first | exact Or.inl rfl | exact Or.inr rfl)))
  (s_cons (s_if (t_cmp o_ltA (o_name 5) o_int (nomark _))
  (s_one (s_ret (e_mtS PySem.F.slot_str_join PySem.F.type_str_join m_join (o_name 6) (os_cons (o_of (e_bin o_add (o_of (e_sl (o_name 7) p_none (p_some (o_name 2)))) (o_of (e_sl (o_name 7) (p_some (o_of (e_bin o_add (o_name 2) o_int))) p_none)))) os_nil))))
  s_nil)
  (s_cons (s_if (t_cmp (o_eq hr.u65) (o_name 5) o_int (nomark _))
  (s_one (s_ret (e_mtS PySem.F.slot_str_join PySem.F.type_str_join m_join (o_name 6) (os_cons (o_of (e_bin o_add (o_of (e_sl (o_name 7) p_none (p_some (o_of (e_bin o_add (o_name 2) o_int))))) (o_of (e_sl (o_name 7) (p_some (o_name 2)) p_none)))) os_nil))))
  s_nil)
  (s_cons (s_asg (by decide) (o_of (e_call (cal__law_pick T) (hr.mono (by decide)) tk (by rfl) (as_lent 0 (as_val (e_val (o_of (e_callB c_len (by rfl) T.b_len PySem.boot_len (os_cons (o_name 7) os_nil)))) as_nil)))) (g_name sc__law_bent_text.nd rfl (by first | exact Or.inl rfl | exact Or.inr rfl)))
  (s_cons (s_swap 7 rfl (e_tup (es_cons (e_val (o_of (e_ix (o_name 7) (o_name 8) (fun _ _ => rfl)))) (es_cons (e_val (o_of (e_ix (o_name 7) (o_name 2) (fun _ _ => rfl)))) es_nil))) (o_name 2) (o_name 8))
  (s_one (s_ret (e_mtS PySem.F.slot_str_join PySem.F.type_str_join m_join (o_name 6) (os_cons (o_name 7) os_nil))))))))))))))))))
theorem hP__law_odd : ∀ i : Nat, ([true] : List Bool)[i]? = some true → i ∈ ([0] : List Nat) := hP_of (by decide)
theorem cal__law_odd [TF] (T : Txt K mg) : Cal Pg w K mg base "_law_odd" 1 3 fn__law_odd :=
  T.d__law_odd.cal (k := 2) sc__law_odd [0] [true] (g := g__law_odd) (by decide) rfl hP__law_odd fun f cdv hc hf A outer s H E hr => by
    have tk := L2N.takes_of (X := cxOf (L2N.CX Pg w) Pg w K mg base N__law_odd "_law_odd" (defScope st__law_odd) f cdv A outer s H E) rfl rfl rfl rfl
    exact (s_cons (s_asg (by decide) (o_of (e_lst (es_cons e_non (es_cons e_bl (es_cons e_bl (es_cons e_int (es_cons e_int (es_cons (e_val (o_of (e_neg o_int))) (es_cons e_int (es_cons e_int (es_cons (e_val (o_of (e_bin o_pow o_int o_int))) (es_cons (e_str (by decide +kernel)) (es_cons (e_str (by decide +kernel)) (es_cons (e_str (by decide +kernel)) (es_cons (e_str (by decide +kernel)) (es_cons (e_val (o_of (e_tup es_nil))) (es_cons (e_val (o_of (e_lst es_nil))) (es_cons (e_val (o_of (e_tup (es_cons (e_val (o_of (e_tup es_nil))) es_nil)))) (es_cons (e_val (o_of (e_tup (es_cons (e_str (by decide +kernel)) es_nil)))) es_nil))))))))))))))))))) (g_name sc__law_odd.nd rfl (by first | exact Or.inl rfl | exact Or.inr rfl)))
  (s_one (s_ret (e_call (cal__law_one T) (hr.mono (by decide)) tk (by rfl) (as_lent 0 (as_val (e_val (o_of (e_bin o_add (o_name 1) (o_of (e_lst (es_cons (e_val (o_of (e_lst (es_cons (e_str (by decide +kernel)) es_nil)))) (es_cons (e_val (o_of (e_tup (es_cons (e_str (by decide +kernel)) (es_cons (e_str (by decide +kernel)) es_nil))))) (es_cons (e_val (o_of (e_tup (es_cons (e_str (by decide +kernel)) (es_cons e_non es_nil))))) (es_cons (e_val (o_of (e_tup (es_cons (e_str (by decide +kernel)) (es_cons (e_str (by decide +kernel)) (es_cons e_int es_nil)))))) (es_cons (e_val (o_of (e_tup (es_cons (e_str (by decide +kernel)) es_nil)))) (es_cons (e_str (by decide +kernel)) es_nil))))))))))) as_nil))))))
theorem hP_is_rising : ∀ i : Nat, ([true] : List Bool)[i]? = some true → i ∈ ([0] : List Nat) := hP_of (by decide)
theorem cal_is_rising [TF] (T : Txt K mg) : Cal Pg w K mg base "is_rising" 1 1 fn_is_rising :=
  T.d_is_rising.cal (k := 0) sc_is_rising [0] [true] (g := g_is_rising) (by decide) rfl hP_is_rising fun f cdv hc hf A outer s H E hr => by
    have tk := L2N.takes_of (X := cxOf (L2N.CX Pg w) Pg w K mg base N_is_rising "is_rising" (defScope st_is_rising) f cdv A outer s H E) rfl rfl rfl rfl
    exact (s_one (s_ret (e_callB (c_all rfl) (by rfl) T.b_all (by decide +kernel) (os_cons (o_of (e_comp (own := [("one", 1), ("other", 2)]) rfl sc_is_rising.nd (i_zip (by rfl) T.b_zip (o_name 0) (o_of (e_sl (o_name 0) (p_some o_int) p_none))) (blkOk_by (own := [("one", 1), ("other", 2)]) (N := N_is_rising) (sc := defScope st_is_rising) (by decide +kernel)) (fun _ _ _ _ _ => (g_tup rfl rfl rfl (gs_cons (g_name sc_is_rising.nd rfl (by first | exact Or.inl rfl | exact Or.inr rfl)) (gs_cons (g_name sc_is_rising.nd rfl (by first | exact Or.inl rfl | exact Or.inr rfl)) gs_nil)))) (fun _ _ _ _ _ => ts_nil) (fun _ _ _ _ _ => (o_of (e_cmp (o_ltD hr.u65) (o_name 1) (o_name 2) (nomark _)))) (by decide) (src_zip (T := fun s => srcOut s [1, 2]) trivial))) os_nil))))
theorem hP_is_from : ∀ i : Nat, ([true, true, true] : List Bool)[i]? = some true → i ∈ ([0, 1, 2] : List Nat) := hP_of (by decide)
theorem cal_is_from [TF] (T : Txt K mg) : Cal Pg w K mg base "is_from" 3 1 fn_is_from :=
  T.d_is_from.cal (k := 0) sc_is_from [0, 1, 2] [true, true, true] (g := g_is_from) (by decide) rfl hP_is_from fun f cdv hc hf A outer s H E hr => by
    have tk := L2N.takes_of (X := cxOf (L2N.CX Pg w) Pg w K mg base N_is_from "is_from" (defScope st_is_from) f cdv A outer s H E) rfl rfl rfl rfl
    exact (s_one (s_ret (e_and (e_isi .int (by rfl) T.b_isinstance (o_name 0) (pe_tyN (by rfl) T.b_int (by decide +kernel))) (e_and (e_not (e_isi .bool (by rfl) T.b_isinstance (o_name 0) (pe_tyN (by rfl) T.b_bool (by decide +kernel)))) (e_one (e_chain o_leA o_leA (o_name 1) (o_name 0) (o_name 2)))))))
theorem hP_is_name : ∀ i : Nat, ([true] : List Bool)[i]? = some true → i ∈ ([0] : List Nat) := hP_of (by decide)
theorem cal_is_name [TF] (T : Txt K mg) : Cal Pg w K mg base "is_name" 1 1 fn_is_name :=
  T.d_is_name.cal (k := 0) sc_is_name [0] [true] (g := g_is_name) (by decide) rfl hP_is_name fun f cdv hc hf A outer s H E hr => by
    have tk := L2N.takes_of (X := cxOf (L2N.CX Pg w) Pg w K mg base N_is_name "is_name" (defScope st_is_name) f cdv A outer s H E) rfl rfl rfl rfl
    exact (s_one (s_ret (e_and (e_isi .str (by rfl) T.b_isinstance (o_name 0) (pe_tyN (by rfl) T.b_str (by decide +kernel))) (e_and (e_chain o_leA o_leA o_int (o_of (e_callB c_len (by rfl) T.b_len PySem.boot_len (os_cons (o_name 0) os_nil))) o_int) (e_one (e_callB (c_all rfl) (by rfl) T.b_all (by decide +kernel) (os_cons (o_of (e_comp (own := [("sign", 1)]) rfl sc_is_name.nd (i_op (o_of (e_name 0))) (blkOk_by (own := [("sign", 1)]) (N := N_is_name) (sc := defScope st_is_name) (by decide +kernel)) (fun _ _ _ _ _ => (g_name sc_is_name.nd rfl (by first | exact Or.inl rfl | exact Or.inr rfl))) (fun _ _ _ _ _ => ts_nil) (fun _ _ _ _ _ => (o_of (e_cmp (o_in hr.u65) (o_name 1) (o_globS (by decide +kernel) (by rfl) T.v_LETTERS) (by with_unfolding_all rfl)))) (by decide) (src_fz (T := fun s => srcOut s [1]) trivial))) os_nil)))))))
theorem hP_is_tie : ∀ i : Nat, ([true, true] : List Bool)[i]? = some true → i ∈ ([0, 1] : List Nat) := hP_of (by decide)
theorem cal_is_tie [TF] (T : Txt K mg) : Cal Pg w K mg base "is_tie" 2 2 fn_is_tie :=
  T.d_is_tie.cal (k := 1) sc_is_tie [0, 1] [true, true] (g := g_is_tie) (by decide) rfl hP_is_tie fun f cdv hc hf A outer s H E hr => by
    have tk := L2N.takes_of (X := cxOf (L2N.CX Pg w) Pg w K mg base N_is_tie "is_tie" (defScope st_is_tie) f cdv A outer s H E) rfl rfl rfl rfl
    exact (s_cons (s_if ((w_or (t_not (t_val (e_isi .tuple (by rfl) T.b_isinstance (o_name 1) (pe_tyN (by rfl) T.b_tuple (by decide +kernel))))) (w_or (t_cmp (o_ne hr.u65) (o_of (e_callB c_len (by rfl) T.b_len PySem.boot_len (os_cons (o_name 1) os_nil))) o_int (nomark _)) (w_or (t_not (t_val (e_call (cal_is_name T) (hr.mono (by decide)) tk (by rfl) (as_val (e_val (o_of (e_ix (o_name 1) o_int (fun _ _ => rfl)))) as_nil)))) (w_or1 (t_not (t_val (e_call (cal_is_name T) (hr.mono (by decide)) tk (by rfl) (as_val (e_val (o_of (e_ix (o_name 1) o_int (fun _ _ => rfl)))) as_nil))))))))).pt
  (s_one (s_ret e_bl))
  s_nil)
  (s_cons (s_if ((w_or (t_cmp (o_notIn hr.u65) (o_of (e_ix (o_name 1) o_int (fun _ _ => rfl))) (o_name 0) (by with_unfolding_all rfl)) (w_or (t_cmp (o_notIn hr.u65) (o_of (e_ix (o_name 1) o_int (fun _ _ => rfl))) (o_name 0) (by with_unfolding_all rfl)) (w_or1 (t_not (t_cmp o_ltA (o_of (e_ix (o_name 1) o_int (fun _ _ => rfl))) (o_of (e_ix (o_name 1) o_int (fun _ _ => rfl))) (nomark _))))))).pt
  (s_one (s_ret e_bl))
  s_nil)
  (s_one (s_ret (e_call (cal_is_from T) (hr.mono (by decide)) tk (by rfl) (as_val (e_val (o_of (e_ix (o_name 1) o_int (fun _ _ => rfl)))) (as_val e_int (as_val (e_globI (by rfl) T.v_MOST_WEIGHT) as_nil))))))))
theorem hP_is_net : ∀ i : Nat, ([true] : List Bool)[i]? = some true → i ∈ ([0] : List Nat) := hP_of (by decide)
theorem cal_is_net [TF] (T : Txt K mg) : Cal Pg w K mg base "is_net" 1 3 fn_is_net :=
  T.d_is_net.cal (k := 2) sc_is_net [0] [true] (g := g_is_net) (by decide) rfl hP_is_net fun f cdv hc hf A outer s H E hr => by
    have tk := L2N.takes_of (X := cxOf (L2N.CX Pg w) Pg w K mg base N_is_net "is_net" (defScope st_is_net) f cdv A outer s H E) rfl rfl rfl rfl
    exact (s_cons (s_if ((w_or (t_not (t_val (e_isi .tuple (by rfl) T.b_isinstance (o_name 0) (pe_tyN (by rfl) T.b_tuple (by decide +kernel))))) (w_or1 (t_cmp (o_ne hr.u65) (o_of (e_callB c_len (by rfl) T.b_len PySem.boot_len (os_cons (o_name 0) os_nil))) o_int (nomark _))))).pt
  (s_one (s_ret e_bl))
  s_nil)
  (s_cons (s_asg (by decide) (o_of (e_name 0)) (g_tup rfl rfl rfl (gs_cons (g_name sc_is_net.nd rfl (by first | exact Or.inl rfl | exact Or.inr rfl)) (gs_cons (g_name sc_is_net.nd rfl (by first | exact Or.inl rfl | exact Or.inr rfl)) gs_nil))))
  (s_cons (s_if ((w_or (t_not (t_val (e_isi .tuple (by rfl) T.b_isinstance (o_name 1) (pe_tyN (by rfl) T.b_tuple (by decide +kernel))))) (w_or (t_not (t_chain o_leA o_leA o_int (o_of (e_callB c_len (by rfl) T.b_len PySem.boot_len (os_cons (o_name 1) os_nil))) (o_globI (by rfl) T.v_MOST_HANDS))) (w_or1 (t_not (t_val (e_callB (c_all rfl) (by rfl) T.b_all (by decide +kernel) (os_cons (o_of (e_comp (own := [("one", 4)]) rfl sc_is_net.nd (i_op (o_of (e_name 1))) (blkOk_by (own := [("one", 4)]) (N := N_is_net) (sc := defScope st_is_net) (by decide +kernel)) (fun _ _ _ _ _ => (g_name sc_is_net.nd rfl (by first | exact Or.inl rfl | exact Or.inr rfl))) (fun _ _ _ _ _ => ts_nil) (fun _ _ _ _ _ => (o_of (e_call (cal_is_name T) (hr.mono (by decide)) takes0N (by rfl) (as_val (e_name 4) as_nil)))) (by decide) (src_fz (T := fun s => srcOut s [4]) trivial))) os_nil)))))))).pt
  (s_one (s_ret e_bl))
  s_nil)
  (s_cons (s_if ((w_or (t_not (t_val (e_call (cal_is_rising T) (hr.mono (by decide)) tk (by rfl) (as_val (e_name 1) as_nil)))) (w_or (t_not (t_val (e_isi .tuple (by rfl) T.b_isinstance (o_name 2) (pe_tyN (by rfl) T.b_tuple (by decide +kernel))))) (w_or1 (t_cmp o_gtA (o_of (e_callB c_len (by rfl) T.b_len PySem.boot_len (os_cons (o_name 2) os_nil))) (o_globI (by rfl) T.v_MOST_TIES) (nomark _)))))).pt
  (s_one (s_ret e_bl))
  s_nil)
  (s_one (s_ret (e_and (e_callB (c_all rfl) (by rfl) T.b_all (by decide +kernel) (os_cons (o_of (e_comp (own := [("tie", 3)]) rfl sc_is_net.nd (i_op (o_of (e_name 2))) (blkOk_by (own := [("tie", 3)]) (N := N_is_net) (sc := defScope st_is_net) (by decide +kernel)) (fun _ _ _ _ _ => (g_name sc_is_net.nd rfl (by first | exact Or.inl rfl | exact Or.inr rfl))) (fun _ _ _ _ _ => ts_nil) (fun _ _ _ _ _ => (o_of (e_call (cal_is_tie T) (hr.mono (by decide)) takes0N (by rfl) (as_val (e_name 1) (as_val (e_name 3) as_nil))))) (by decide) (src_fz (T := fun s => srcOut s [3]) trivial))) os_nil)) (e_one (e_call (cal_is_rising T) (hr.mono (by decide)) tk (by rfl) (as_val (e_val (o_of (e_comp (own := [("tie", 3)]) rfl sc_is_net.nd (i_op (o_of (e_name 2))) (blkOk_by (own := [("tie", 3)]) (N := N_is_net) (sc := defScope st_is_net) (by decide +kernel)) (fun _ _ _ _ _ => (g_name sc_is_net.nd rfl (by first | exact Or.inl rfl | exact Or.inr rfl))) (fun _ _ _ _ _ => ts_nil) (fun _ _ _ _ _ => (o_of (e_sl (o_name 3) p_none (p_some o_int)))) (by decide) (src_fz (T := fun s => srcOut s [3]) trivial)))) as_nil))))))))))
theorem hP__law_number : ∀ i : Nat, ([true] : List Bool)[i]? = some true → i ∈ ([0] : List Nat) := hP_of (by decide)
theorem cal__law_number [TF] (T : Txt K mg) : Cal Pg w K mg base "_law_number" 1 1 fn__law_number :=
  T.d__law_number.cal (k := 0) sc__law_number [0] [true] (g := g__law_number) (by decide) rfl hP__law_number fun f cdv hc hf A outer s H E hr => by
    have tk := L2N.takes_of (X := cxOf (L2N.CX Pg w) Pg w K mg base N__law_number "_law_number" (defScope st__law_number) f cdv A outer s H E) rfl rfl rfl rfl
    exact (s_cons (s_if ((w_or (t_cmp (o_eq hr.u65) (o_name 0) (o_str (by decide +kernel)) (nomark _)) (w_or (t_cmp o_gtA (o_of (e_callB c_len (by rfl) T.b_len PySem.boot_len (os_cons (o_name 0) os_nil))) o_int (nomark _)) (w_or1 (t_cmp (o_ne hr.u65) (o_of (e_comp (own := [("_law_sign", 1)]) rfl sc__law_number.nd (i_op (o_of (e_name 0))) (blkOk_by (own := [("_law_sign", 1)]) (N := N__law_number) (sc := defScope st__law_number) (by decide +kernel)) (fun _ _ _ _ _ => (g_name sc__law_number.nd rfl (by first | exact Or.inl rfl | exact Or.inr rfl))) (fun _ _ _ _ _ => (ts_one (t_not (t_chain o_leA o_leA (o_str (by decide +kernel)) (o_name 1) (o_str (by decide +kernel)))))) (fun _ _ _ _ _ => (o_of (e_name 1))) (by decide) (src_fz (T := fun s => srcOut s [1]) trivial))) (o_of (e_lst es_nil)) (nomark _)))))).pt
  (s_one (s_ret e_non))
  s_nil)
  (s_one (s_ret (e_if (t_cmp (o_eq hr.u65) (o_of (e_callTy c_str (by rfl) T.b_str (by decide +kernel) (os_cons (o_of (e_callTy c_int (by rfl) T.b_int (by decide +kernel) (os_cons (o_name 0) os_nil))) os_nil))) (o_name 0) (nomark _)) (e_callTy c_int (by rfl) T.b_int (by decide +kernel) (os_cons (o_name 0) os_nil)) e_non))))
theorem hP__law_read_net : ∀ i : Nat, ([true] : List Bool)[i]? = some true → i ∈ ([0] : List Nat) := hP_of (by decide)
theorem cal__law_read_net [TF] (T : Txt K mg) : Cal Pg w K mg base "_law_read_net" 1 4 fn__law_read_net :=
  T.d__law_read_net.cal (k := 3) sc__law_read_net [0] [true] (g := g__law_read_net) (by decide) rfl hP__law_read_net fun f cdv hc hf A outer s H E hr => by
    have tk := L2N.takes_of (X := cxOf (L2N.CX Pg w) Pg w K mg base N__law_read_net "_law_read_net" (defScope st__law_read_net) f cdv A outer s H E) rfl rfl rfl rfl
    exact (s_cons (s_if (t_not (t_val (e_isi .str (by rfl) T.b_isinstance (o_name 0) (pe_tyN (by rfl) T.b_str (by decide +kernel)))))
  (s_one (s_ret e_non))
  s_nil)
  (s_cons (s_setComp (i := 1) (own := [("_law_row", 5)]) (by decide) rfl sc__law_read_net.nd rfl rfl (sw_true rfl rfl rfl (by decide +kernel)) (i_op (o_of (e_mtS PySem.F.slot_str_split PySem.F.type_str_split m_split (o_name 0) (os_cons (o_str (by decide +kernel)) os_nil)))) (blkOk_by (own := [("_law_row", 5)]) (N := N__law_read_net) (sc := defScope st__law_read_net) (by decide +kernel)) (fun _ _ _ _ _ => (g_name sc__law_read_net.nd rfl (by first | exact Or.inl rfl | exact Or.inr rfl))) (fun _ _ _ _ _ => ts_nil) (fun _ _ _ _ _ => (o_of (e_mtS PySem.F.slot_str_split PySem.F.type_str_split m_split (o_name 5) (os_cons (o_str (by decide +kernel)) os_nil)))) (by decide) (src_fz (T := fun s => srcOut s [5]) trivial))
  (s_cons (s_set (i := 2) (by decide) sc__law_read_net.nd rfl (by first | exact Or.inl rfl | exact Or.inr rfl) (e_lst es_nil))
  (s_cons (s_for (P' := [0]) (by decide) (by decide) (src_fz (T := fun s => srcIn s [0]) trivial) (passes_of rfl) rfl (i_op (o_of (e_sl (o_name 1) (p_some o_int) p_none))) (g_name sc__law_read_net.nd rfl (by first | exact Or.inl rfl | exact Or.inr rfl))
  (s_cons (s_if ((w_or (t_cmp (o_ne hr.u65) (o_of (e_callB c_len (by rfl) T.b_len PySem.boot_len (os_cons (o_name 3) os_nil))) o_int (nomark _)) (w_or1 (t_cmp (o_ne hr.u65) (o_of (e_ix (o_name 3) o_int (fun _ _ => rfl))) (o_str (by decide +kernel)) (nomark _))))).pt
  (s_one (s_ret e_non))
  s_nil)
  (s_one (s_app 2 (e_tup (es_cons (e_val (o_of (e_ix (o_name 3) o_int (fun _ _ => rfl)))) (es_cons (e_val (o_of (e_ix (o_name 3) o_int (fun _ _ => rfl)))) (es_cons (e_val (o_of (e_call (cal__law_number T) (hr.mono (by decide)) tk (by rfl) (as_val (e_val (o_of (e_ix (o_name 3) o_int (fun _ _ => rfl)))) as_nil)))) es_nil))))))))
  (s_cons (s_asg (by decide) (o_of (e_tup (es_cons (e_val (o_of (e_callTy c_tuple (by rfl) T.b_tuple (by decide +kernel) (os_cons (o_of (e_sl (o_of (e_ix (o_name 1) o_int (fun _ _ => rfl))) (p_some o_int) p_none)) os_nil)))) (es_cons (e_val (o_of (e_callTy c_tuple (by rfl) T.b_tuple (by decide +kernel) (os_cons (o_name 2) os_nil)))) es_nil)))) (g_name sc__law_read_net.nd rfl (by first | exact Or.inl rfl | exact Or.inr rfl)))
  (s_one (s_ret (e_if ((w_and (t_cmp (o_eq hr.u65) (o_of (e_ix (o_of (e_ix (o_name 1) o_int (fun _ _ => rfl))) o_int (fun _ _ => rfl))) (o_str (by decide +kernel)) (nomark _)) (w_and1 (t_val (e_call (cal_is_net T) (hr.mono (by decide)) tk (by rfl) (as_val (e_name 4) as_nil)))))).pt (e_name 4) e_non))))))))
theorem hP_neighbours : ∀ i : Nat, ([true, true] : List Bool)[i]? = some true → i ∈ ([0, 1] : List Nat) := hP_of (by decide)
theorem cal_neighbours [TF] (T : Txt K mg) : Cal Pg w K mg base "neighbours" 2 1 fn_neighbours :=
  T.d_neighbours.cal (k := 0) sc_neighbours [0, 1] [true, true] (g := g_neighbours) (by decide) rfl hP_neighbours fun f cdv hc hf A outer s H E hr => by
    have tk := L2N.takes_of (X := cxOf (L2N.CX Pg w) Pg w K mg base N_neighbours "neighbours" (defScope st_neighbours) f cdv A outer s H E) rfl rfl rfl rfl
    exact (s_cons (s_asg (by decide) (o_of (e_bin o_add (o_of (e_comp (own := [("tie", 3)]) rfl sc_neighbours.nd (i_op (o_of (e_ix (o_name 0) o_int (fun _ _ => rfl)))) (blkOk_by (own := [("tie", 3)]) (N := N_neighbours) (sc := defScope st_neighbours) (by decide +kernel)) (fun _ _ _ _ _ => (g_name sc_neighbours.nd rfl (by first | exact Or.inl rfl | exact Or.inr rfl))) (fun _ _ _ _ _ => (ts_one (t_cmp (o_eq hr.u65) (o_of (e_ix (o_name 3) o_int (fun _ _ => rfl))) (o_name 1) (nomark _)))) (fun _ _ _ _ _ => (o_of (e_ix (o_name 3) o_int (fun _ _ => rfl)))) (by decide) (src_fz (T := fun s => srcOut s [3]) trivial))) (o_of (e_comp (own := [("tie", 3)]) rfl sc_neighbours.nd (i_op (o_of (e_ix (o_name 0) o_int (fun _ _ => rfl)))) (blkOk_by (own := [("tie", 3)]) (N := N_neighbours) (sc := defScope st_neighbours) (by decide +kernel)) (fun _ _ _ _ _ => (g_name sc_neighbours.nd rfl (by first | exact Or.inl rfl | exact Or.inr rfl))) (fun _ _ _ _ _ => (ts_one (t_cmp (o_eq hr.u65) (o_of (e_ix (o_name 3) o_int (fun _ _ => rfl))) (o_name 1) (nomark _)))) (fun _ _ _ _ _ => (o_of (e_ix (o_name 3) o_int (fun _ _ => rfl)))) (by decide) (src_fz (T := fun s => srcOut s [3]) trivial))))) (g_name sc_neighbours.nd rfl (by first | exact Or.inl rfl | exact Or.inr rfl)))
  (s_one (s_ret (e_callB (c_sortDD hr.u65) (by rfl) T.b_sorted (by decide +kernel) (os_cons (o_name 2) os_nil)))))
theorem hP_is_state : ∀ i : Nat, ([true, true] : List Bool)[i]? = some true → i ∈ ([0, 1] : List Nat) := hP_of (by decide)
theorem cal_is_state [TF] (T : Txt K mg) : Cal Pg w K mg base "is_state" 2 2 fn_is_state :=
  T.d_is_state.cal (k := 1) sc_is_state [0, 1] [true, true] (g := g_is_state) (by decide) rfl hP_is_state fun f cdv hc hf A outer s H E hr => by
    have tk := L2N.takes_of (X := cxOf (L2N.CX Pg w) Pg w K mg base N_is_state "is_state" (defScope st_is_state) f cdv A outer s H E) rfl rfl rfl rfl
    exact (s_cons (s_if ((w_or (t_not (t_val (e_isi .tuple (by rfl) T.b_isinstance (o_name 1) (pe_tyN (by rfl) T.b_tuple (by decide +kernel))))) (w_or1 (t_cmp (o_ne hr.u65) (o_of (e_callB c_len (by rfl) T.b_len PySem.boot_len (os_cons (o_name 1) os_nil))) (o_of (e_callB c_len (by rfl) T.b_len PySem.boot_len (os_cons (o_of (e_ix (o_name 0) o_int (fun _ _ => rfl))) os_nil))) (nomark _))))).pt
  (s_one (s_ret e_bl))
  s_nil)
  (s_cons (s_for (P' := [0, 1]) (by decide) (by decide) (src_zip (T := fun s => srcIn s [0, 1]) trivial) (passes_of rfl) rfl (i_zip (by rfl) T.b_zip (o_of (e_ix (o_name 0) o_int (fun _ _ => rfl))) (o_name 1)) (g_tup rfl rfl rfl (gs_cons (g_name sc_is_state.nd rfl (by first | exact Or.inl rfl | exact Or.inr rfl)) (gs_cons (g_name sc_is_state.nd rfl (by first | exact Or.inl rfl | exact Or.inr rfl)) gs_nil)))
  (s_cons (s_if ((w_or (t_not (t_val (e_isi .tuple (by rfl) T.b_isinstance (o_name 3) (pe_tyN (by rfl) T.b_tuple (by decide +kernel))))) (w_or (t_cmp (o_ne hr.u65) (o_of (e_callB c_len (by rfl) T.b_len PySem.boot_len (os_cons (o_name 3) os_nil))) o_int (nomark _)) (w_or (t_not (t_val (e_isi .str (by rfl) T.b_isinstance (o_of (e_ix (o_name 3) o_int (fun _ _ => rfl))) (pe_tyN (by rfl) T.b_str (by decide +kernel))))) (w_or1 (t_cmp (o_ne hr.u65) (o_of (e_ix (o_name 3) o_int (fun _ _ => rfl))) (o_name 2) (nomark _))))))).pt
  (s_one (s_ret e_bl))
  s_nil)
  (s_one (s_if ((w_and (t_cmp o_notN (o_of (e_ix (o_name 3) o_int (fun _ _ => rfl))) o_non (nomark _)) (w_and1 ((w_or (t_not (t_val (e_isi .str (by rfl) T.b_isinstance (o_of (e_ix (o_name 3) o_int (fun _ _ => rfl))) (pe_tyN (by rfl) T.b_str (by decide +kernel))))) (w_or1 (t_cmp (o_notIn hr.u65) (o_of (e_ix (o_name 3) o_int (fun _ _ => rfl))) (o_of (e_call (cal_neighbours T) (hr.mono (by decide)) tk (by rfl) (as_val (e_name 0) (as_val (e_name 2) as_nil)))) (by with_unfolding_all rfl))))).pt))).pt
  (s_one (s_ret e_bl))
  s_nil))))
  (s_one (s_ret e_bl))))
theorem hP__law_read_state : ∀ i : Nat, ([true, true] : List Bool)[i]? = some true → i ∈ ([0, 1] : List Nat) := hP_of (by decide)
theorem cal__law_read_state [TF] (T : Txt K mg) : Cal Pg w K mg base "_law_read_state" 2 3 fn__law_read_state :=
  T.d__law_read_state.cal (k := 2) sc__law_read_state [0, 1] [true, true] (g := g__law_read_state) (by decide) rfl hP__law_read_state fun f cdv hc hf A outer s H E hr => by
    have tk := L2N.takes_of (X := cxOf (L2N.CX Pg w) Pg w K mg base N__law_read_state "_law_read_state" (defScope st__law_read_state) f cdv A outer s H E) rfl rfl rfl rfl
    exact (s_cons (s_if (t_not (t_val (e_isi .str (by rfl) T.b_isinstance (o_name 1) (pe_tyN (by rfl) T.b_str (by decide +kernel)))))
  (s_one (s_ret e_non))
  s_nil)
  (s_cons (s_set (i := 2) (by decide) sc__law_read_state.nd rfl (by first | exact Or.inl rfl | exact Or.inr rfl) (e_lst es_nil))
  (s_cons (s_for (P' := [0, 1]) (by decide) (by decide) (src_fz (T := fun s => srcIn s [0, 1]) trivial) (passes_of rfl) rfl (i_op (o_of (e_mtS PySem.F.slot_str_split PySem.F.type_str_split m_split (o_name 1) (os_cons (o_str (by decide +kernel)) os_nil)))) (g_name sc__law_read_state.nd rfl (by first | exact Or.inl rfl | exact Or.inr rfl))
  (s_cons (s_asg (by decide) (o_of (e_mtS PySem.F.slot_str_split PySem.F.type_str_split m_split (o_name 3) (os_cons (o_str (by decide +kernel)) os_nil))) (g_name sc__law_read_state.nd rfl (by first | exact Or.inl rfl | exact Or.inr rfl)))
  (s_cons (s_if (t_cmp (o_ne hr.u65) (o_of (e_callB c_len (by rfl) T.b_len PySem.boot_len (os_cons (o_name 4) os_nil))) o_int (nomark _))
  (s_one (s_ret e_non))
  s_nil)
  (s_one (s_app 2 (e_tup (es_cons (e_val (o_of (e_ix (o_name 4) o_int (fun _ _ => rfl)))) (es_cons (e_val (o_of (e_if (t_cmp (o_eq hr.u65) (o_of (e_ix (o_name 4) o_int (fun _ _ => rfl))) (o_str (by decide +kernel)) (nomark _)) e_non (e_ix (o_name 4) o_int (fun _ _ => rfl))))) es_nil))))))))
  (s_one (s_ret (e_if (t_val (e_call (cal_is_state T) (hr.mono (by decide)) tk (by rfl) (as_val (e_name 0) (as_val (e_val (o_of (e_callTy c_tuple (by rfl) T.b_tuple (by decide +kernel) (os_cons (o_name 2) os_nil)))) as_nil)))) (e_callTy c_tuple (by rfl) T.b_tuple (by decide +kernel) (os_cons (o_name 2) os_nil)) e_non))))))
theorem hP__law_sort : ∀ i : Nat, ([true] : List Bool)[i]? = some true → i ∈ ([0] : List Nat) := hP_of (by decide)
theorem cal__law_sort [TF] (T : Txt K mg) : Cal Pg w K mg base "_law_sort" 1 1 fn__law_sort :=
  T.d__law_sort.cal (k := 0) sc__law_sort [0] [true] (g := g__law_sort) (by decide) rfl hP__law_sort fun f cdv hc hf A outer s H E hr => by
    have tk := L2N.takes_of (X := cxOf (L2N.CX Pg w) Pg w K mg base N__law_sort "_law_sort" (defScope st__law_sort) f cdv A outer s H E) rfl rfl rfl rfl
    exact (s_cons (s_if (t_val (e_isi .bool (by rfl) T.b_isinstance (o_name 0) (pe_tyN (by rfl) T.b_bool (by decide +kernel))))
  (s_one (s_ret (e_str (by decide +kernel))))
  s_nil)
  (s_cons (s_if (t_val (e_isi .int (by rfl) T.b_isinstance (o_name 0) (pe_tyN (by rfl) T.b_int (by decide +kernel))))
  (s_one (s_ret (e_str (by decide +kernel))))
  s_nil)
  (s_cons (s_if (t_val (e_isi .tuple (by rfl) T.b_isinstance (o_name 0) (pe_tyN (by rfl) T.b_tuple (by decide +kernel))))
  (s_one (s_ret (e_str (by decide +kernel))))
  s_nil)
  (s_one (s_ret (e_if (t_val (e_isi .list (by rfl) T.b_isinstance (o_name 0) (pe_tyN (by rfl) T.b_list (by decide +kernel)))) (e_str (by decide +kernel)) (e_str (by decide +kernel))))))))
theorem hP__law_same : ∀ i : Nat, ([true, true] : List Bool)[i]? = some true → i ∈ ([0, 1] : List Nat) := hP_of (by decide)
theorem cal__law_same_n [TF] (T : Txt K mg) : ∀ k0, Cal Pg w K mg base "_law_same" 2 (1 + k0) (fn__law_same k0)
  | 0 => T.d__law_same.none
  | k0 + 1 => by
    have Hrec := cal__law_same_n T k0
    exact T.d__law_same.cal (k := 1 + k0) sc__law_same [0, 1] [true, true] (g := g__law_same (fn__law_same k0)) (by decide) rfl hP__law_same fun f cdv hc hf A outer s H E hr => by
      have tk := L2N.takes_of (X := cxOf (L2N.CX Pg w) Pg w K mg base N__law_same "_law_same" (defScope st__law_same) f cdv A outer s H E) rfl rfl rfl rfl
      exact (s_cons (s_if (t_cmp (o_ne hr.u65) (o_of (e_call (cal__law_sort T) (hr.mono (by omega)) tk (by rfl) (as_val (e_name 0) as_nil))) (o_of (e_call (cal__law_sort T) (hr.mono (by omega)) tk (by rfl) (as_val (e_name 1) as_nil))) (nomark _))
  (s_one (s_ret e_bl))
  s_nil)
  (s_cons (s_if (t_not (t_val (e_isi2 .tuple .list (by rfl) T.b_isinstance (o_name 0) (pe_tyN (by rfl) T.b_tuple (by decide +kernel)) (pe_tyN (by rfl) T.b_list (by decide +kernel)))))
  (s_one (s_ret (e_cmp (o_eq hr.u65) (o_name 0) (o_name 1) (nomark _))))
  s_nil)
  (s_cons (s_if (t_cmp (o_ne hr.u65) (o_of (e_callB c_len (by rfl) T.b_len PySem.boot_len (os_cons (o_name 0) os_nil))) (o_of (e_callB c_len (by rfl) T.b_len PySem.boot_len (os_cons (o_name 1) os_nil))) (nomark _))
  (s_one (s_ret e_bl))
  s_nil)
  (s_one (s_ret (e_cmp (o_eq hr.u65) (o_of (e_comp (own := [("_law_k", 2), ("_law_part", 3)]) rfl sc__law_same.nd (i_enumA (by rfl) T.b_enumerate (o_name 0)) (blkOk_by (own := [("_law_k", 2), ("_law_part", 3)]) (N := N__law_same) (sc := defScope st__law_same) (by decide +kernel)) (fun _ _ _ _ _ => (g_tup rfl rfl rfl (gs_cons (g_name sc__law_same.nd rfl (by first | exact Or.inl rfl | exact Or.inr rfl)) (gs_cons (g_name sc__law_same.nd rfl (by first | exact Or.inl rfl | exact Or.inr rfl)) gs_nil)))) (fun _ _ _ _ _ => (ts_one (t_not (t_val (e_call Hrec hr takes0N (by rfl) (as_val (e_name 3) (as_val (e_val (o_of (e_ix (o_name 1) (o_name 2) (fun _ _ => rfl)))) as_nil))))))) (fun _ _ _ _ _ => (o_of (e_name 2))) (by decide) (src_enumA (T := fun s => srcOut s [2, 3]) trivial))) (o_of (e_lst es_nil)) (nomark _)))))))
theorem cal__law_same [TF] (T : Txt K mg) : Cal Pg w K mg base "_law_same" 2 7 (fn__law_same 6) := cal__law_same_n T 6
theorem kin__law_kin [TF] (T : Txt K mg) : KinAt Pg w K mg base "_law_kin" 1 fn__law_kin := by
  obtain ⟨f, fd, F, hm, hk, hbi⟩ := T.d__law_kin.ex
  refine ⟨⟨f, fd, ps__law_kin, fn_kOk (k := 0) (ι := RfK × Str) (g := g__law_kin) F sc__law_kin [0] [true] (PreK mg) (by decide) rfl (hP_of (by decide)) (fun cdv hc A outer s H p i pre hot hr => ?_), hm, hk, hbi⟩, kin_told⟩
  have tk := takes0N (X := cxK Pg w K mg base N__law_kin "_law_kin" (defScope st__law_kin) f cdv A outer s H p)
  exact (s_cons (s_asg (by decide) (o_of (e_lst (es_cons (e_val (o_of (e_isX 0 T.ex.kin List.mem_cons_self pre (by rfl) T.b_isinstance (by decide) (by rfl)))) (es_cons (e_val (o_of (e_isX 0 T.ex.kin List.mem_cons_self pre (by rfl) T.b_isinstance (by decide) (by rfl)))) (es_cons (e_val (o_of (e_isX 0 T.ex.kin List.mem_cons_self pre (by rfl) T.b_isinstance (by decide) (by rfl)))) (es_cons (e_val (o_of (e_isX 0 T.ex.kin List.mem_cons_self pre (by rfl) T.b_isinstance (by decide) (by rfl)))) es_nil)))) (show (4 : Nat) ≤ 1000 by decide))) (g_name sc__law_kin.nd rfl (by first | exact Or.inl rfl | exact Or.inr rfl)))
  (s_cons (s_asg (by decide) (o_of (e_bin o_add (o_name 1) (o_of (e_lst (es_cons (e_val (o_of (e_isX 0 T.ex.kin List.mem_cons_self pre (by rfl) T.b_isinstance (by decide) (by rfl)))) (es_cons (e_val (o_of (e_isX 0 T.ex.kin List.mem_cons_self pre (by rfl) T.b_isinstance (by decide) (by rfl)))) (es_cons (e_val (o_of (e_isX 0 T.ex.kin List.mem_cons_self pre (by rfl) T.b_isinstance (by decide) (by rfl)))) (es_cons (e_val (o_of (e_isX 0 T.ex.kin List.mem_cons_self pre (by rfl) T.b_isinstance (by decide) (by rfl)))) es_nil)))) (show (4 : Nat) ≤ 1000 by decide))))) (g_name sc__law_kin.nd rfl (by first | exact Or.inl rfl | exact Or.inr rfl)))
  (s_cons (s_asg (by decide) (o_of (e_bin o_add (o_name 1) (o_of (e_lst (es_cons (e_val (o_of (e_isX 0 T.ex.kin List.mem_cons_self pre (by rfl) T.b_isinstance (by decide) (by rfl)))) (es_cons (e_val (o_of (e_isX 0 T.ex.kin List.mem_cons_self pre (by rfl) T.b_isinstance (by decide) (by rfl)))) (es_cons (e_val (o_of (e_isX 0 T.ex.kin List.mem_cons_self pre (by rfl) T.b_isinstance (by decide) (by rfl)))) (es_cons (e_val (o_of (e_isX 0 T.ex.kin List.mem_cons_self pre (by rfl) T.b_isinstance (by decide) (by rfl)))) es_nil)))) (show (4 : Nat) ≤ 1000 by decide))))) (g_name sc__law_kin.nd rfl (by first | exact Or.inl rfl | exact Or.inr rfl)))
  (s_cons (s_asg (by decide) (o_of (e_bin o_add (o_name 1) (o_of (e_lst (es_cons (e_val (o_of (e_isX 0 T.ex.kin List.mem_cons_self pre (by rfl) T.b_isinstance (by decide) (by rfl)))) (es_cons (e_val (o_of (e_isX 0 T.ex.kin List.mem_cons_self pre (by rfl) T.b_isinstance (by decide) (by rfl)))) (es_cons (e_val (o_of (e_isX 0 T.ex.kin List.mem_cons_self pre (by rfl) T.b_isinstance (by decide) (by rfl)))) (es_cons (e_val (o_of (e_isX 0 T.ex.kin List.mem_cons_self pre (by rfl) T.b_isinstance (by decide) (by rfl)))) es_nil)))) (show (4 : Nat) ≤ 1000 by decide))))) (g_name sc__law_kin.nd rfl (by first | exact Or.inl rfl | exact Or.inr rfl)))
  (s_cons (s_asg (by decide) (o_of (e_bin o_add (o_name 1) (o_of (e_lst (es_cons (e_val (o_of (e_isX 0 T.ex.kin List.mem_cons_self pre (by rfl) T.b_isinstance (by decide) (by rfl)))) (es_cons (e_val (o_of (e_isVE 0 T.ex.kin List.mem_cons_self pre (by rfl) T.b_isinstance (by rfl) T.b_ValueError))) es_nil)) (show (2 : Nat) ≤ 1000 by decide))))) (g_name sc__law_kin.nd rfl (by first | exact Or.inl rfl | exact Or.inr rfl)))
  (s_cons (s_asg (by decide) (o_of (e_lst (es_cons (e_str (by decide +kernel)) (es_cons (e_str (by decide +kernel)) (es_cons (e_str (by decide +kernel)) (es_cons (e_str (by decide +kernel)) (es_cons (e_str (by decide +kernel)) (es_cons (e_str (by decide +kernel)) (es_cons (e_str (by decide +kernel)) (es_cons (e_str (by decide +kernel)) (es_cons (e_str (by decide +kernel)) (es_cons (e_str (by decide +kernel)) es_nil)))))))))) (show (10 : Nat) ≤ 1000 by decide))) (g_name sc__law_kin.nd rfl (by first | exact Or.inl rfl | exact Or.inr rfl)))
  (s_cons (s_asg (by decide) (o_of (e_bin o_add (o_name 2) (o_of (e_lst (es_cons (e_str (by decide +kernel)) (es_cons (e_str (by decide +kernel)) (es_cons (e_str (by decide +kernel)) (es_cons (e_str (by decide +kernel)) (es_cons (e_str (by decide +kernel)) (es_cons (e_str (by decide +kernel)) (es_cons (e_str (by decide +kernel)) (es_cons (e_str (by decide +kernel)) es_nil)))))))) (show (8 : Nat) ≤ 1000 by decide))))) (g_name sc__law_kin.nd rfl (by first | exact Or.inl rfl | exact Or.inr rfl)))
  (s_one (s_ret (e_mtS PySem.F.slot_str_join PySem.F.type_str_join m_join (o_str (by decide +kernel)) (os_cons (o_of (e_compH (own := [("_law_name", 3), ("_law_kind", 4)]) ⟨p, ⟨hot.1, hot.2⟩, List.mem_cons_self⟩ sc__law_kin.nd (i_zipH (by rfl) T.b_zip (o_name 2) (o_name 1)) (blkOk_by (own := [("_law_name", 3), ("_law_kind", 4)]) (N := N__law_kin) (sc := defScope st__law_kin) (by decide +kernel)) (fun _ _ _ _ _ => (g_tupH ⟨p, ⟨hot.1, hot.2⟩, List.mem_cons_self⟩ rfl rfl (gs_cons (g_name sc__law_kin.nd rfl (by first | exact Or.inl rfl | exact Or.inr rfl)) (gs_cons (g_name sc__law_kin.nd rfl (by first | exact Or.inl rfl | exact Or.inr rfl)) gs_nil)))) (fun _ _ _ _ _ => (ts_one (t_val (e_name 4)))) (fun _ _ _ _ _ => (o_of (e_name 3))) (by decide) (src_zipL (T := fun s => srcOut s [3, 4]) trivial))) os_nil)))))))))))
theorem hP_state_text : ∀ i : Nat, ([true] : List Bool)[i]? = some true → i ∈ ([0] : List Nat) := hP_of (by decide)
theorem cal_state_text [TF] (T : Txt K mg) : Cal Pg w K mg base "state_text" 1 1 fn_state_text :=
  T.d_state_text.cal (k := 0) sc_state_text [0] [true] (g := g_state_text) (by decide) rfl hP_state_text fun f cdv hc hf A outer s H E hr => by
    have tk := L2N.takes_of (X := cxOf (L2N.CX Pg w) Pg w K mg base N_state_text "state_text" (defScope st_state_text) f cdv A outer s H E) rfl rfl rfl rfl
    exact (s_one (s_ret (e_mtS PySem.F.slot_str_join PySem.F.type_str_join m_join (o_str (by decide +kernel)) (os_cons (o_of (e_comp (own := [("hand", 1), ("at", 2)]) rfl sc_state_text.nd (i_op (o_of (e_name 0))) (blkOk_by (own := [("hand", 1), ("at", 2)]) (N := N_state_text) (sc := defScope st_state_text) (by decide +kernel)) (fun _ _ _ _ _ => (g_tup rfl rfl rfl (gs_cons (g_name sc_state_text.nd rfl (by first | exact Or.inl rfl | exact Or.inr rfl)) (gs_cons (g_name sc_state_text.nd rfl (by first | exact Or.inl rfl | exact Or.inr rfl)) gs_nil)))) (fun _ _ _ _ _ => ts_nil) (fun _ _ _ _ _ => (o_of (e_js (gs := [(gTx (gSlot 1)), (gTc ">"), (gTx (gFz (gOrX (gSlot 2) (gC (.str "-")))))]) (j_cons (j_fmt (o_name 1)) (j_cons j_str (j_cons (j_fmt (o_of (e_orX (o_name 2) (e_one (e_str (by decide +kernel)))))) j_nil)))))) (by decide) (src_fz (T := fun s => srcOut s [1, 2]) trivial))) os_nil))))
theorem hP_pointer_in : ∀ i : Nat, ([true] : List Bool)[i]? = some true → i ∈ ([0] : List Nat) := hP_of (by decide)
theorem cal_pointer_in [TF] (T : Txt K mg) : Cal Pg w K mg base "pointer_in" 1 1 fn_pointer_in :=
  T.d_pointer_in.cal (k := 0) sc_pointer_in [0] [true] (g := g_pointer_in) (by decide) rfl hP_pointer_in fun f cdv hc hf A outer s H E hr => by
    have tk := L2N.takes_of (X := cxOf (L2N.CX Pg w) Pg w K mg base N_pointer_in "pointer_in" (defScope st_pointer_in) f cdv A outer s H E) rfl rfl rfl rfl
    exact (s_cons (s_asg (by decide) (o_of (e_mtS PySem.F.slot_str_partition PySem.F.type_str_partition m_part (o_name 0) (os_cons (o_str (by decide +kernel)) os_nil))) (g_tup rfl rfl rfl (gs_cons (g_name sc_pointer_in.nd rfl (by first | exact Or.inl rfl | exact Or.inr rfl)) (gs_cons (g_name sc_pointer_in.nd rfl (by first | exact Or.inl rfl | exact Or.inr rfl)) (gs_cons (g_name sc_pointer_in.nd rfl (by first | exact Or.inl rfl | exact Or.inr rfl)) gs_nil)))))
  (s_one (s_ret (e_tup (es_cons (e_name 1) (es_cons (e_val (o_of (e_if (t_cmp (o_eq hr.u65) (o_name 3) (o_str (by decide +kernel)) (nomark _)) e_non (e_name 3)))) es_nil))))))
theorem hP_read_state : ∀ i : Nat, ([true, true] : List Bool)[i]? = some true → i ∈ ([0, 1] : List Nat) := hP_of (by decide)
theorem cal_read_state [TF] (T : Txt K mg) : Cal Pg w K mg base "read_state" 2 3 fn_read_state :=
  T.d_read_state.cal (k := 2) sc_read_state [0, 1] [true, true] (g := g_read_state) (by decide) rfl hP_read_state fun f cdv hc hf A outer s H E hr => by
    have tk := L2N.takes_of (X := cxOf (L2N.CX Pg w) Pg w K mg base N_read_state "read_state" (defScope st_read_state) f cdv A outer s H E) rfl rfl rfl rfl
    exact (s_cons (s_asg (by decide) (o_of (e_if (t_val (e_isi .str (by rfl) T.b_isinstance (o_name 1) (pe_tyN (by rfl) T.b_str (by decide +kernel)))) (e_callTy c_tuple (by rfl) T.b_tuple (by decide +kernel) (os_cons (o_of (e_comp (own := [("word", 3)]) rfl sc_read_state.nd (i_op (o_of (e_mtS PySem.F.slot_str_split PySem.F.type_str_split m_split (o_name 1) (os_cons (o_str (by decide +kernel)) os_nil)))) (blkOk_by (own := [("word", 3)]) (N := N_read_state) (sc := defScope st_read_state) (by decide +kernel)) (fun _ _ _ _ _ => (g_name sc_read_state.nd rfl (by first | exact Or.inl rfl | exact Or.inr rfl))) (fun _ _ _ _ _ => ts_nil) (fun _ _ _ _ _ => (o_of (e_call (cal_pointer_in T) (hr.mono (by decide)) takes0N (by rfl) (as_val (e_name 3) as_nil)))) (by decide) (src_fz (T := fun s => srcOut s [3]) trivial))) os_nil)) e_non)) (g_name sc_read_state.nd rfl (by first | exact Or.inl rfl | exact Or.inr rfl)))
  (s_cons (s_if ((w_or (t_not (t_val (e_call (cal_is_state T) (hr.mono (by decide)) tk (by rfl) (as_val (e_name 0) (as_val (e_name 2) as_nil))))) (w_or1 (t_cmp (o_ne hr.u65) (o_of (e_call (cal_state_text T) (hr.mono (by decide)) tk (by rfl) (as_val (e_name 2) as_nil))) (o_name 1) (nomark _))))).pt
  (s_one (s_raise (T.ex.at_ "NoText" (by decide) (by decide)) rfl tk (by rfl)))
  s_nil)
  (s_one (s_ret (e_name 2)))))
theorem hP_net_text : ∀ i : Nat, ([true] : List Bool)[i]? = some true → i ∈ ([0] : List Nat) := hP_of (by decide)
theorem cal_net_text [TF] (T : Txt K mg) : Cal Pg w K mg base "net_text" 1 1 fn_net_text :=
  T.d_net_text.cal (k := 0) sc_net_text [0] [true] (g := g_net_text) (by decide) rfl hP_net_text fun f cdv hc hf A outer s H E hr => by
    have tk := L2N.takes_of (X := cxOf (L2N.CX Pg w) Pg w K mg base N_net_text "net_text" (defScope st_net_text) f cdv A outer s H E) rfl rfl rfl rfl
    exact (s_cons (s_asg (by decide) (o_of (e_lst (es_cons (e_val (o_of (e_mtS PySem.F.slot_str_join PySem.F.type_str_join m_join (o_str (by decide +kernel)) (os_cons (o_of (e_bin o_add (o_of (e_lst (es_cons (e_str (by decide +kernel)) es_nil))) (o_of (e_callTy c_list (by rfl) T.b_list (by decide +kernel) (os_cons (o_of (e_ix (o_name 0) o_int (fun _ _ => rfl))) os_nil))))) os_nil)))) es_nil))) (g_name sc_net_text.nd rfl (by first | exact Or.inl rfl | exact Or.inr rfl)))
  (s_one (s_ret (e_mtS PySem.F.slot_str_join PySem.F.type_str_join m_join (o_str (by decide +kernel)) (os_cons (o_of (e_bin o_add (o_name 1) (o_of (e_comp (own := [("one", 2), ("other", 3), ("weight", 4)]) rfl sc_net_text.nd (i_op (o_of (e_ix (o_name 0) o_int (fun _ _ => rfl)))) (blkOk_by (own := [("one", 2), ("other", 3), ("weight", 4)]) (N := N_net_text) (sc := defScope st_net_text) (by decide +kernel)) (fun _ _ _ _ _ => (g_tup rfl rfl rfl (gs_cons (g_name sc_net_text.nd rfl (by first | exact Or.inl rfl | exact Or.inr rfl)) (gs_cons (g_name sc_net_text.nd rfl (by first | exact Or.inl rfl | exact Or.inr rfl)) (gs_cons (g_name sc_net_text.nd rfl (by first | exact Or.inl rfl | exact Or.inr rfl)) gs_nil))))) (fun _ _ _ _ _ => ts_nil) (fun _ _ _ _ _ => (o_of (e_js (gs := [(gTc "tie "), (gTx (gSlot 2)), (gTc " "), (gTx (gSlot 3)), (gTc " "), (gTx (gSlot 4))]) (j_cons j_str (j_cons (j_fmt (o_name 2)) (j_cons j_str (j_cons (j_fmt (o_name 3)) (j_cons j_str (j_cons (j_fmt (o_name 4)) j_nil))))))))) (by decide) (src_fz (T := fun s => srcOut s [2, 3, 4]) trivial))))) os_nil)))))
theorem hP_number_in : ∀ i : Nat, ([true] : List Bool)[i]? = some true → i ∈ ([0] : List Nat) := hP_of (by decide)
theorem cal_number_in [TF] (T : Txt K mg) : Cal Pg w K mg base "number_in" 1 1 fn_number_in :=
  T.d_number_in.cal (k := 0) sc_number_in [0] [true] (g := g_number_in) (by decide) rfl hP_number_in fun f cdv hc hf A outer s H E hr => by
    have tk := L2N.takes_of (X := cxOf (L2N.CX Pg w) Pg w K mg base N_number_in "number_in" (defScope st_number_in) f cdv A outer s H E) rfl rfl rfl rfl
    exact (s_cons (s_if ((w_or (t_not (t_chain o_leA o_leA o_int (o_of (e_callB c_len (by rfl) T.b_len PySem.boot_len (os_cons (o_name 0) os_nil))) o_int)) (w_or (t_not (t_val (e_callB (c_all rfl) (by rfl) T.b_all (by decide +kernel) (os_cons (o_of (e_comp (own := [("sign", 1)]) rfl sc_number_in.nd (i_op (o_of (e_name 0))) (blkOk_by (own := [("sign", 1)]) (N := N_number_in) (sc := defScope st_number_in) (by decide +kernel)) (fun _ _ _ _ _ => (g_name sc_number_in.nd rfl (by first | exact Or.inl rfl | exact Or.inr rfl))) (fun _ _ _ _ _ => ts_nil) (fun _ _ _ _ _ => (o_of (e_cmp (o_in hr.u65) (o_name 1) (o_globS (by decide +kernel) (by rfl) T.v_FIGURES) (by with_unfolding_all rfl)))) (by decide) (src_fz (T := fun s => srcOut s [1]) trivial))) os_nil)))) (w_or1 (t_cmp (o_ne hr.u65) (o_of (e_callTy c_str (by rfl) T.b_str (by decide +kernel) (os_cons (o_of (e_callTy c_int (by rfl) T.b_int (by decide +kernel) (os_cons (o_name 0) os_nil))) os_nil))) (o_name 0) (nomark _)))))).pt
  (s_one (s_ret e_non))
  s_nil)
  (s_one (s_ret (e_callTy c_int (by rfl) T.b_int (by decide +kernel) (os_cons (o_name 0) os_nil)))))
theorem hP_tie_in : ∀ i : Nat, ([true] : List Bool)[i]? = some true → i ∈ ([0] : List Nat) := hP_of (by decide)
theorem cal_tie_in [TF] (T : Txt K mg) : Cal Pg w K mg base "tie_in" 1 2 fn_tie_in :=
  T.d_tie_in.cal (k := 1) sc_tie_in [0] [true] (g := g_tie_in) (by decide) rfl hP_tie_in fun f cdv hc hf A outer s H E hr => by
    have tk := L2N.takes_of (X := cxOf (L2N.CX Pg w) Pg w K mg base N_tie_in "tie_in" (defScope st_tie_in) f cdv A outer s H E) rfl rfl rfl rfl
    exact (s_cons (s_asg (by decide) (o_of (e_mtS PySem.F.slot_str_split PySem.F.type_str_split m_split (o_name 0) (os_cons (o_str (by decide +kernel)) os_nil))) (g_name sc_tie_in.nd rfl (by first | exact Or.inl rfl | exact Or.inr rfl)))
  (s_cons (s_if ((w_or (t_cmp (o_ne hr.u65) (o_of (e_callB c_len (by rfl) T.b_len PySem.boot_len (os_cons (o_name 1) os_nil))) o_int (nomark _)) (w_or1 (t_cmp (o_ne hr.u65) (o_of (e_ix (o_name 1) o_int (fun _ _ => rfl))) (o_str (by decide +kernel)) (nomark _))))).pt
  (s_one (s_ret e_non))
  s_nil)
  (s_one (s_ret (e_tup (es_cons (e_val (o_of (e_ix (o_name 1) o_int (fun _ _ => rfl)))) (es_cons (e_val (o_of (e_ix (o_name 1) o_int (fun _ _ => rfl)))) (es_cons (e_val (o_of (e_call (cal_number_in T) (hr.mono (by decide)) tk (by rfl) (as_val (e_val (o_of (e_ix (o_name 1) o_int (fun _ _ => rfl)))) as_nil)))) es_nil))))))))
theorem hP_read_net : ∀ i : Nat, ([true] : List Bool)[i]? = some true → i ∈ ([0] : List Nat) := hP_of (by decide)
theorem cal_read_net [TF] (T : Txt K mg) : Cal Pg w K mg base "read_net" 1 4 fn_read_net :=
  T.d_read_net.cal (k := 3) sc_read_net [0] [true] (g := g_read_net) (by decide) rfl hP_read_net fun f cdv hc hf A outer s H E hr => by
    have tk := L2N.takes_of (X := cxOf (L2N.CX Pg w) Pg w K mg base N_read_net "read_net" (defScope st_read_net) f cdv A outer s H E) rfl rfl rfl rfl
    exact (s_cons (s_asg (by decide) (o_of (e_if (t_val (e_isi .str (by rfl) T.b_isinstance (o_name 0) (pe_tyN (by rfl) T.b_str (by decide +kernel)))) (e_mtS PySem.F.slot_str_split PySem.F.type_str_split m_split (o_name 0) (os_cons (o_str (by decide +kernel)) os_nil)) (e_lst (es_cons (e_str (by decide +kernel)) es_nil)))) (g_name sc_read_net.nd rfl (by first | exact Or.inl rfl | exact Or.inr rfl)))
  (s_cons (s_asg (by decide) (o_of (e_mtS PySem.F.slot_str_split PySem.F.type_str_split m_split (o_of (e_ix (o_name 1) o_int (fun _ _ => rfl))) (os_cons (o_str (by decide +kernel)) os_nil))) (g_name sc_read_net.nd rfl (by first | exact Or.inl rfl | exact Or.inr rfl)))
  (s_cons (s_asg (by decide) (o_of (e_tup (es_cons (e_val (o_of (e_callTy c_tuple (by rfl) T.b_tuple (by decide +kernel) (os_cons (o_of (e_sl (o_name 2) (p_some o_int) p_none)) os_nil)))) (es_cons (e_val (o_of (e_callTy c_tuple (by rfl) T.b_tuple (by decide +kernel) (os_cons (o_of (e_comp (own := [("row", 4)]) rfl sc_read_net.nd (i_op (o_of (e_sl (o_name 1) (p_some o_int) p_none))) (blkOk_by (own := [("row", 4)]) (N := N_read_net) (sc := defScope st_read_net) (by decide +kernel)) (fun _ _ _ _ _ => (g_name sc_read_net.nd rfl (by first | exact Or.inl rfl | exact Or.inr rfl))) (fun _ _ _ _ _ => ts_nil) (fun _ _ _ _ _ => (o_of (e_call (cal_tie_in T) (hr.mono (by decide)) takes0N (by rfl) (as_val (e_name 4) as_nil)))) (by decide) (src_fz (T := fun s => srcOut s [4]) trivial))) os_nil)))) es_nil)))) (g_name sc_read_net.nd rfl (by first | exact Or.inl rfl | exact Or.inr rfl)))
  (s_cons (s_if ((w_or (t_cmp (o_ne hr.u65) (o_of (e_ix (o_name 2) o_int (fun _ _ => rfl))) (o_str (by decide +kernel)) (nomark _)) (w_or (t_not (t_val (e_call (cal_is_net T) (hr.mono (by decide)) tk (by rfl) (as_val (e_name 3) as_nil)))) (w_or1 (t_cmp (o_ne hr.u65) (o_of (e_call (cal_net_text T) (hr.mono (by decide)) tk (by rfl) (as_val (e_name 3) as_nil))) (o_name 0) (nomark _)))))).pt
  (s_one (s_raise (T.ex.at_ "NoText" (by decide) (by decide)) rfl tk (by rfl)))
  s_nil)
  (s_one (s_ret (e_name 3)))))))
theorem hP__law_right_reads : ∀ i : Nat, ([true, true] : List Bool)[i]? = some true → i ∈ ([0, 1] : List Nat) := hP_of (by decide)
theorem cal__law_right_reads (T : Txt K mg) (TL : TxtL K mg base) : Cal Pg w K mg base "_law_right_reads" 2 8 fn__law_right_reads :=
  T.d__law_right_reads.cal (k := 7) sc__law_right_reads [0, 1] [true, true] (g := g__law_right_reads) (by decide) rfl hP__law_right_reads fun f cdv hc hf A outer s H E hr => by
    have tk := L2N.takes_of (X := cxOf (L2N.CX Pg w) Pg w K mg base N__law_right_reads "_law_right_reads" (defScope st__law_right_reads) f cdv A outer s H E) rfl rfl rfl rfl
    exact (s_cons (s_asg (by decide) (o_of (e_call (cal__law_read_net T) (hr.mono (by decide)) tk (by rfl) (as_val (e_name 1) as_nil))) (g_name sc__law_right_reads.nd rfl (by first | exact Or.inl rfl | exact Or.inr rfl)))
  (s_cons (s_if (t_not (t_val (e_call (cal__law_same T) (hr.mono (by decide)) tk (by rfl) (as_val (e_val (o_of (e_tryL (k := 4) sct__law_try T.d__law_try (kin__law_kin T) T.ex.facts.choose_spec (TL.l__law_right_reads f cdv hf hc) (by rfl) (hr.mono (by decide)) (hr.mono (by decide)) (by with_unfolding_all rfl) ⟨LamX.lamS_by (by with_unfolding_all rfl), fun _ _ _ => rfl, fun A outer s H E f0 c0 hr => (e_call (cal_read_net T) (hr.mono (by decide)) takes_lam (by rfl) (as_val (e_name 1) as_nil))⟩))) (as_val (e_val (o_of (e_if (t_cmp o_isN (o_name 2) o_non (nomark _)) (e_str (by decide +kernel)) (e_tup (es_cons (e_str (by decide +kernel)) (es_cons (e_name 2) es_nil)))))) as_nil)))))
  (s_one (s_ret e_bl))
  s_nil)
  (s_cons (s_asg (by decide) (o_of (e_call (cal__law_read_state T) (hr.mono (by decide)) tk (by rfl) (as_val (e_name 0) (as_val (e_name 1) as_nil)))) (g_name sc__law_right_reads.nd rfl (by first | exact Or.inl rfl | exact Or.inr rfl)))
  (s_one (s_ret (e_call (cal__law_same T) (hr.mono (by decide)) tk (by rfl) (as_val (e_val (o_of (e_tryL (k := 3) sct__law_try T.d__law_try (kin__law_kin T) T.ex.facts.choose_spec (TL.l__law_right_reads f cdv hf hc) (by rfl) (hr.mono (by decide)) (hr.mono (by decide)) (by with_unfolding_all rfl) ⟨LamX.lamS_by (by with_unfolding_all rfl), fun _ _ _ => rfl, fun A outer s H E f0 c0 hr => (e_call (cal_read_state T) (hr.mono (by decide)) takes_lam (by rfl) (as_val (e_name 0) (as_val (e_name 1) as_nil)))⟩))) (as_val (e_val (o_of (e_if (t_cmp o_isN (o_name 2) o_non (nomark _)) (e_str (by decide +kernel)) (e_tup (es_cons (e_str (by decide +kernel)) (es_cons (e_name 2) es_nil)))))) as_nil))))))))
theorem hP_law : ∀ i : Nat, ([true] : List Bool)[i]? = some true → i ∈ ([0] : List Nat) := hP_of (by decide)
theorem ok_law {f : Addr} {fd : FuncData} (F : Fun K "law" "law" st_law f fd) (hf : mg "law" = some (.ref f)) (T : Txt K mg) (TL : TxtL K mg base) : FnOk Pg w K mg base (L2N.CX Pg w) 9 f fd ps_law (SpOf K mg 1 fn_law) :=
  fn_ok (k := 8) F sc_law [0] [true] (g := g_law) (by decide) rfl hP_law fun cdv hc A outer s H E hr => by
    have tk := L2N.takes_of (X := cxOf (L2N.CX Pg w) Pg w K mg base N_law "law" (defScope st_law) f cdv A outer s H E) rfl rfl rfl rfl
    exact (s_cons (s_set (i := 1) (by decide) sc_law.nd rfl (by first | exact Or.inl rfl | exact Or.inr rfl) (e_lst (es_cons (e_str (by decide +kernel)) (es_cons (e_str (by decide +kernel)) (es_cons (e_str (by decide +kernel)) (es_cons (e_str (by decide +kernel)) (es_cons (e_str (by decide +kernel)) (es_cons (e_str (by decide +kernel)) (es_cons (e_str (by decide +kernel)) es_nil)))))))))
  (s_cons (s_set (i := 1) (by decide) sc_law.nd rfl (by first | exact Or.inl rfl | exact Or.inr rfl) (e_bin o_add (o_name 1) (o_of (e_lst (es_cons (e_str (by decide +kernel)) (es_cons (e_str (by decide +kernel)) (es_cons (e_str (by decide +kernel)) es_nil)))))))
  (s_cons (s_app 1 (e_str (by decide +kernel)))
  (s_cons (s_set (i := 1) (by decide) sc_law.nd rfl (by first | exact Or.inl rfl | exact Or.inr rfl) (e_bin o_add (o_name 1) (o_of (e_lst (es_cons (e_str (by decide +kernel)) (es_cons (e_str (by decide +kernel)) (es_cons (e_str (by decide +kernel)) (es_cons (e_str (by decide +kernel)) es_nil))))))))
  (s_cons (s_for (P' := [0]) (by decide) (by decide) (src_fz (T := fun s => srcIn s [0]) trivial) (passes_of rfl) rfl (i_op (o_of (e_sl (o_of (e_bin o_add (o_of (e_lst (es_cons e_int es_nil))) (o_name 0))) p_none (p_some o_int)))) (g_name sc_law.nd rfl (by first | exact Or.inl rfl | exact Or.inr rfl))
  (s_cons (s_set (i := 3) (by decide) sc_law.nd rfl (by first | exact Or.inl rfl | exact Or.inr rfl) (e_call (cal__law_deck T) (hr.mono (by decide)) tk (by rfl) (as_val (e_name 2) (as_val e_int as_nil))))
  (s_cons (s_asg (by decide) (o_of (e_call (cal__law_net T) (hr.mono (by decide)) tk (by rfl) (as_lent 3 (as_val e_int as_nil)))) (g_name sc_law.nd rfl (by first | exact Or.inl rfl | exact Or.inr rfl)))
  (s_cons (s_asg (by decide) (o_of (e_call (cal__law_state T) (hr.mono (by decide)) tk (by rfl) (as_lent 3 (as_val (e_name 4) as_nil)))) (g_name sc_law.nd rfl (by first | exact Or.inl rfl | exact Or.inr rfl)))
  (s_cons (s_asg (by decide) (o_of (e_lst (es_cons (e_val (o_of (e_call (cal__law_net_text T) (hr.mono (by decide)) tk (by rfl) (as_val (e_name 4) as_nil)))) (es_cons (e_val (o_of (e_call (cal__law_state_text T) (hr.mono (by decide)) tk (by rfl) (as_val (e_name 5) as_nil)))) (es_cons (e_val (o_of (e_call (cal__law_one T) (hr.mono (by decide)) tk (by rfl) (as_lent 3 (as_lent 1 as_nil))))) es_nil))))) (g_name sc_law.nd rfl (by first | exact Or.inl rfl | exact Or.inr rfl)))
  (s_cons (s_for (P' := [0]) (by decide) (by decide) (src_rng1 (T := fun s => srcIn s [0]) trivial) (passes_of rfl) rfl (i_range1 (by rfl) T.b_range (os_cons o_int os_nil)) (g_name sc_law.nd rfl (by first | exact Or.inl rfl | exact Or.inr rfl))
  (s_cons (s_asg (by decide) (o_of (e_call (cal__law_bent_text T) (hr.mono (by decide)) tk (by rfl) (as_lent 3 (as_val (e_val (o_of (e_call (cal__law_one T) (hr.mono (by decide)) tk (by rfl) (as_lent 3 (as_val (e_name 6) as_nil))))) as_nil)))) (g_name sc_law.nd rfl (by first | exact Or.inl rfl | exact Or.inr rfl)))
  (s_one (s_for (P' := [0]) (by decide) (by decide) (src_fz (T := fun s => srcIn s [0]) trivial) (passes_of rfl) rfl (i_op (o_of (e_lst (es_cons (e_name 9) (es_cons (e_val (o_of (e_call (cal__law_bent_text T) (hr.mono (by decide)) tk (by rfl) (as_lent 3 (as_val (e_name 9) as_nil))))) (es_cons (e_val (o_of (e_call (cal__law_odd T) (hr.mono (by decide)) tk (by rfl) (as_lent 3 as_nil)))) (es_cons (e_val (o_of (e_lst (es_cons (e_name 9) es_nil)))) es_nil))))))) (g_name sc_law.nd rfl (by first | exact Or.inl rfl | exact Or.inr rfl))
  (s_one (s_if (t_not (t_val (e_call (cal__law_right_reads T TL) (hr.mono (by decide)) tk (by rfl) (as_val (e_name 4) (as_val (e_name 8) as_nil)))))
  (s_one (s_ret e_bl))
  s_nil))))))
  (s_one (s_for (P' := [0, 1]) (by decide) (by decide) (src_slot (T := fun s => srcIn s [0, 1]) trivial (fun _ => (by decide : 1 ∈ [0, 1]))) (passes_of rfl) rfl (i_op (o_name 1)) (g_name sc_law.nd rfl (by first | exact Or.inl rfl | exact Or.inr rfl))
  (s_one (s_if ((w_or (t_cmp (o_ne hr.u65) (o_of (e_tryL (k := 4) sct__law_try T.d__law_try (kin__law_kin T) T.ex.facts.choose_spec (TL.l_law f cdv hf hc) (by rfl) (hr.mono (by decide)) (hr.mono (by decide)) (by with_unfolding_all rfl) ⟨LamX.lamS_by (by with_unfolding_all rfl), fun _ _ _ => rfl, fun A outer s H E f0 c0 hr => (e_call (cal_read_net T) (hr.mono (by decide)) takes_lam (by rfl) (as_val (e_name 8) as_nil))⟩)) (o_str (by decide +kernel)) (nomark _)) (w_or1 (t_not (t_val (e_call (cal__law_right_reads T TL) (hr.mono (by decide)) tk (by rfl) (as_val (e_name 4) (as_val (e_name 8) as_nil)))))))).pt
  (s_one (s_ret e_bl))
  s_nil))))))))))
  (s_one (s_ret e_bl)))))))
end
end Lw

namespace Lw
open PySem L2 Nd
def fns : List He.DefD := [dd "_law_deck" st__law_deck, dd "_law_pick" st__law_pick, dd "_law_one" st__law_one, dd "_law_net" st__law_net, dd "_law_near" st__law_near, dd "_law_state" st__law_state, dd "_law_net_text" st__law_net_text, dd "_law_state_text" st__law_state_text, dd "_law_bent_text" st__law_bent_text, dd "_law_odd" st__law_odd, dd "is_rising" st_is_rising, dd "is_from" st_is_from, dd "is_name" st_is_name, dd "is_tie" st_is_tie, dd "is_net" st_is_net, dd "_law_number" st__law_number, dd "_law_read_net" st__law_read_net, dd "neighbours" st_neighbours, dd "is_state" st_is_state, dd "_law_read_state" st__law_read_state, dd "_law_sort" st__law_sort, dd "_law_same" st__law_same, dd "_law_kin" st__law_kin, dd "state_text" st_state_text, dd "pointer_in" st_pointer_in, dd "read_state" st_read_state, dd "net_text" st_net_text, dd "number_in" st_number_in, dd "tie_in" st_tie_in, dd "read_net" st_read_net, dd "_law_right_reads" st__law_right_reads, dd "law" st_law, dd "_law_try" st__law_try]
def fas : List He.Fa := [.glo "_law_deck", .glo "_law_pick", .glo "_law_one", .glo "_law_net", .glo "_law_near", .glo "_law_state", .glo "_law_net_text", .glo "_law_state_text", .glo "_law_bent_text", .glo "_law_odd", .glo "is_rising", .glo "is_from", .glo "is_name", .glo "is_tie", .glo "is_net", .glo "_law_number", .glo "_law_read_net", .glo "neighbours", .glo "is_state", .glo "_law_read_state", .glo "_law_sort", .glo "_law_same", .glo "_law_kin", .glo "state_text", .glo "pointer_in", .glo "read_state", .glo "net_text", .glo "number_in", .glo "tie_in", .glo "read_net", .glo "_law_right_reads", .glo "law", .glo "_law_try", .free "ValueError", .free "all", .free "bool", .free "enumerate", .free "int", .free "isinstance", .free "len", .free "list", .free "range", .free "sorted", .free "str", .free "tuple", .free "zip", .str "FIGURES" "0123456789", .str "LETTERS" "abcdefghijklmnopqrstuvwxyz", .int "MOST_HANDS" 8, .int "MOST_TIES" 16, .int "MOST_WEIGHT" 100]
open PySem.Spec PyProof.Rows in
theorem txt {K : Frag} {h : Heap} {mg : Str → Option Value} (X : K.In h) (G : h.Ns mainGlobals mg) (c : He.SaysD fas fns K) (exA : ExAll K mg) : Txt K mg :=
  ⟨defAt X G c 0 0 rfl rfl (fun _ _ _ _ _ _ us hl => match us, hl with | [_, _], _ => rfl),
   defAt X G c 1 1 rfl rfl (fun _ _ _ _ _ _ us hl => match us, hl with | [_, _], _ => rfl),
   defAt X G c 2 2 rfl rfl (fun _ _ _ _ _ _ us hl => match us, hl with | [_, _], _ => rfl),
   defAt X G c 3 3 rfl rfl (fun _ _ _ _ _ _ us hl => match us, hl with | [_, _], _ => rfl),
   defAt X G c 4 4 rfl rfl (fun _ _ _ _ _ _ us hl => match us, hl with | [_, _], _ => rfl),
   defAt X G c 5 5 rfl rfl (fun _ _ _ _ _ _ us hl => match us, hl with | [_, _], _ => rfl),
   defAt X G c 6 6 rfl rfl (fun _ _ _ _ _ _ us hl => match us, hl with | [_], _ => rfl),
   defAt X G c 7 7 rfl rfl (fun _ _ _ _ _ _ us hl => match us, hl with | [_], _ => rfl),
   defAt X G c 8 8 rfl rfl (fun _ _ _ _ _ _ us hl => match us, hl with | [_, _], _ => rfl),
   defAt X G c 9 9 rfl rfl (fun _ _ _ _ _ _ us hl => match us, hl with | [_], _ => rfl),
   defAt X G c 10 10 rfl rfl (fun _ _ _ _ _ _ us hl => match us, hl with | [_], _ => rfl),
   defAt X G c 11 11 rfl rfl (fun _ _ _ _ _ _ us hl => match us, hl with | [_, _, _], _ => rfl),
   defAt X G c 12 12 rfl rfl (fun _ _ _ _ _ _ us hl => match us, hl with | [_], _ => rfl),
   defAt X G c 13 13 rfl rfl (fun _ _ _ _ _ _ us hl => match us, hl with | [_, _], _ => rfl),
   defAt X G c 14 14 rfl rfl (fun _ _ _ _ _ _ us hl => match us, hl with | [_], _ => rfl),
   defAt X G c 15 15 rfl rfl (fun _ _ _ _ _ _ us hl => match us, hl with | [_], _ => rfl),
   defAt X G c 16 16 rfl rfl (fun _ _ _ _ _ _ us hl => match us, hl with | [_], _ => rfl),
   defAt X G c 17 17 rfl rfl (fun _ _ _ _ _ _ us hl => match us, hl with | [_, _], _ => rfl),
   defAt X G c 18 18 rfl rfl (fun _ _ _ _ _ _ us hl => match us, hl with | [_, _], _ => rfl),
   defAt X G c 19 19 rfl rfl (fun _ _ _ _ _ _ us hl => match us, hl with | [_, _], _ => rfl),
   defAt X G c 20 20 rfl rfl (fun _ _ _ _ _ _ us hl => match us, hl with | [_], _ => rfl),
   defAt X G c 21 21 rfl rfl (fun _ _ _ _ _ _ us hl => match us, hl with | [_, _], _ => rfl),
   defAt X G c 22 22 rfl rfl (fun _ _ _ _ _ _ us hl => match us, hl with | [_], _ => rfl),
   defAt X G c 23 23 rfl rfl (fun _ _ _ _ _ _ us hl => match us, hl with | [_], _ => rfl),
   defAt X G c 24 24 rfl rfl (fun _ _ _ _ _ _ us hl => match us, hl with | [_], _ => rfl),
   defAt X G c 25 25 rfl rfl (fun _ _ _ _ _ _ us hl => match us, hl with | [_, _], _ => rfl),
   defAt X G c 26 26 rfl rfl (fun _ _ _ _ _ _ us hl => match us, hl with | [_], _ => rfl),
   defAt X G c 27 27 rfl rfl (fun _ _ _ _ _ _ us hl => match us, hl with | [_], _ => rfl),
   defAt X G c 28 28 rfl rfl (fun _ _ _ _ _ _ us hl => match us, hl with | [_], _ => rfl),
   defAt X G c 29 29 rfl rfl (fun _ _ _ _ _ _ us hl => match us, hl with | [_], _ => rfl),
   defAt X G c 30 30 rfl rfl (fun _ _ _ _ _ _ us hl => match us, hl with | [_, _], _ => rfl),
   defAt X G c 31 31 rfl rfl (fun _ _ _ _ _ _ us hl => match us, hl with | [_], _ => rfl),
   defAt X G c 32 32 rfl rfl (fun _ _ _ _ _ _ us hl => match us, hl with | [_], _ => rfl),
   exA,
   He.free_ok X G (c.fact 33 (f := .free "ValueError") rfl),
   He.free_ok X G (c.fact 34 (f := .free "all") rfl),
   He.free_ok X G (c.fact 35 (f := .free "bool") rfl),
   He.free_ok X G (c.fact 36 (f := .free "enumerate") rfl),
   He.free_ok X G (c.fact 37 (f := .free "int") rfl),
   He.free_ok X G (c.fact 38 (f := .free "isinstance") rfl),
   He.free_ok X G (c.fact 39 (f := .free "len") rfl),
   He.free_ok X G (c.fact 40 (f := .free "list") rfl),
   He.free_ok X G (c.fact 41 (f := .free "range") rfl),
   He.free_ok X G (c.fact 42 (f := .free "sorted") rfl),
   He.free_ok X G (c.fact 43 (f := .free "str") rfl),
   He.free_ok X G (c.fact 44 (f := .free "tuple") rfl),
   He.free_ok X G (c.fact 45 (f := .free "zip") rfl),
   He.str_ok X G (c.fact 46 (f := .str "FIGURES" "0123456789") rfl),
   He.str_ok X G (c.fact 47 (f := .str "LETTERS" "abcdefghijklmnopqrstuvwxyz") rfl),
   He.int_ok X G (c.fact 48 (f := .int "MOST_HANDS" 8) rfl),
   He.int_ok X G (c.fact 49 (f := .int "MOST_TIES" 16) rfl),
   He.int_ok X G (c.fact 50 (f := .int "MOST_WEIGHT" 100) rfl)⟩
def exB (K : Frag) : Bool := decide ((TF.tf.map fun p => (He.cT K p.1).2).Nodup) && exkB K
theorem txtL {K : Frag} {h base : Heap} {mg : Str → Option Value} {w : World} (X : K.In h) (G : h.Ns mainGlobals mg) (c : He.SaysX fas fns [] (TF.tf.map (·.1)) exB w h K) (TB : ∀ p ∈ TF.tf, LamX.TabB base mg (He.cT K p.1).1 (He.cT K p.1).2) : TxtL K mg base :=
  ⟨lm_of (He.glo_ok X G (c.t.d.fact 30 (f := .glo "_law_right_reads") rfl)) (codeFd c.t.d 30 rfl) (by decide +kernel) (of_decide_eq_true (Bool.and_eq_true_iff.mp c.more).1) TB,
   lm_of (He.glo_ok X G (c.t.d.fact 31 (f := .glo "law") rfl)) (codeFd c.t.d 31 rfl) (by decide +kernel) (of_decide_eq_true (Bool.and_eq_true_iff.mp c.more).1) TB⟩
abbrev looseN : List PySem.Str := (["PairError", "NoMove", "TooMany", "NoHand", "NoLetter", "NothingLeft", "NoNet", "NoName", "Taken", "Last", "Same", "Tied", "NotTied", "NoWeight", "NoState", "NoDeeds", "NoText", "NoRow", "LETTERS", "MOST_HANDS", "MOST_TIES", "MOST_WEIGHT", "is_from", "is_name", "is_rising", "is_tie", "is_net", "neighbours", "is_state", "FIGURES"] : List PySem.Str) ++ (["net_text", "state_text", "number_in", "tie_in", "read_net", "pointer_in", "read_state", "_law_deck", "_law_pick", "_law_one", "_law_kin", "_law_try", "_law_sort", "_law_same", "_law_odd", "_law_net", "_law_near", "_law_state", "_law_net_text", "_law_state_text", "_law_bent_text", "_law_number", "_law_read_net", "_law_read_state", "_law_right_reads"] : List PySem.Str)
abbrev Rr : PySem.W.OpenRow := PySem.W.OpenLaw.row PySem.Challenge.rw_nearpair_k41_texts_spoilt
abbrev hk : PySem.W.Hook := He.hookX 4 fas fns [] (TF.tf.map (·.1)) exB
def ob (s : PySem.W.SharedT) : He.AlX := He.obsX 4 fas fns [] (TF.tf.map (·.1)) exB (HandSHeadRun.getT s)
theorem ob_eq (s : PySem.W.SharedT) : ob s = hk.obs s.abs := He.obsX_eq (HandSHeadRun.getT_eq s)
theorem run (w : World) : HandSHeadRun.RunEq Rr (PySem.W.view Rr.prog [60]) hk ob 30000 Lw.looseN w := by
  intro os
  kernel_rfl
end Lw

namespace Lw
open PySem L2 Nd
open PySem.Spec PyProof.Rows in
theorem facts (good : ∀ ns : List Int, ns.length ≤ 63 → ∃ cs, fn_law [.val (.list (ns.map .int))] = .ok (.val (.bool true)) cs) {P : Program} {w : World} {K : Frag} {h : Heap} {mg : Str → Option Value} {f : Addr} (X : K.In h) (G : h.Ns mainGlobals mg) (hfa : mg ("law" : Str) = some (.ref f)) (c : He.SaysX fas fns [] (TF.tf.map (·.1)) exB w h K) :
    ∃ fd : FuncData, (∀ (s : Shared) (v : Value), BindsTo s fd ⟨[v], []⟩ [("_law_script", v)]) ∧ ∀ base : Heap, K.In base → base.Ns mainGlobals mg → (∀ p ∈ TF.tf, LamX.TabB base mg (He.cT K p.1).1 (He.cT K p.1).2) → FnOk P w K mg base (L2.CX P w) 9 f fd ["_law_script"] (spLaw K) := by
  obtain ⟨fd, F⟩ := c.t.d.def_ 31 (d := dd "law" st_law) rfl
  have e := hfa.symm.trans (He.glo_ok X G (c.t.d.fact 31 (f := .glo "law") rfl))
  have e2 : f = He.ga K "law" := by
    have := Option.some.inj e
    injection this
  subst e2
  have b := FunD.bindsA (ps := ["_law_script"]) F fun _ _ _ _ _ _ us hl => match us, hl with | [_], _ => rfl
  exact ⟨fd, fun s v => b s [v] rfl, fun base _ _ TB => law_imp (ok_law (fun_of F) hfa (txt X G c.t.d (exAll_ok X G (Bool.and_eq_true_iff.mp c.more).2)) (txtL X G c TB)) good⟩
end Lw
open PySem PySem.W PySem.Calls PyProof.Rows in
set_option maxHeartbeats 0 in
theorem holds_of (good : ∀ ns : List Int, ns.length ≤ 63 → ∃ cs, Lw.fn_law [.val (.list (ns.map .int))] = .ok (.val (.bool true)) cs) : PySem.Challenge.rw_nearpair_k41_texts_spoilt.Holds := by
  w_on; o_law
  refine HandSHeadRun.head_any (r := OpenLaw.row PySem.Challenge.rw_nearpair_k41_texts_spoilt) (q := view (OpenLaw.row PySem.Challenge.rw_nearpair_k41_texts_spoilt).prog [60]) (H := Lw.hk) (ob := Lw.ob) (M := 30000) (loose := Lw.looseN) (d := HandSHeadRun.topDef (OpenLaw.row PySem.Challenge.rw_nearpair_k41_texts_spoilt).prog 60) (kwd := []) Lw.ob_eq
    (by kernel_rfl) (fun s => by kernel_rfl) Lw.run (by kernel_rfl) (by kernel_rfl) (by kernel_rfl) (by rfl) (by first | assumption | decide +kernel) (by decide +kernel) ⟨rfl, rfl, rfl, rfl, rfl, by decide +kernel⟩ ?hw ?hc
  case hw => w_witness2
  case hc =>
    refine Nd.walkW (l := PySem.Challenge.rw_nearpair_k41_texts_spoilt) (k := 9) (x := "_law_script") rfl (by kernel_rfl) ⟨rfl, by decide, by decide⟩ ?F
    intro w mg fa h Y G hmg0
    obtain ⟨K, KX, c⟩ := Y
    have hmg : mg ("law" : PySem.Str) = some (.ref fa) := by
      have e : (HandSHeadRun.topDef (OpenLaw.row PySem.Challenge.rw_nearpair_k41_texts_spoilt).prog 60).name = ("law" : PySem.Str) := by kernel_rfl
      rw [← e]
      exact hmg0
    obtain ⟨fd, hb, hF⟩ := Lw.facts good (P := (PySem.Challenge.rw_nearpair_k41_texts_spoilt).prog) (w := w) KX G hmg c
    refine ⟨K, fd, KX, fun p hp => ⟨c.empty _ (List.mem_map.mpr ⟨p, hp, rfl⟩), c.out _ (List.mem_map.mpr ⟨p, hp, rfl⟩), PySem.W.codeHd_of_K KX (c.hd _ (List.mem_map.mpr ⟨p, hp, rfl⟩))⟩, hb, hF⟩

theorem PySem.Challenge.cw_nearpair_k41_texts_spoilt_holds : PySem.Challenge.rw_nearpair_k41_texts_spoilt.Holds :=
  holds_of Lw.good
#print axioms PySem.Challenge.cw_nearpair_k41_texts_spoilt_holds
