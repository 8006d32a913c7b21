import PyProof.Rows.All
import Wide.All
import OpenK.AllK
import Wide.FinOn
import PySem.Challenge.RW_holewebs_k28_whole_turned_pairs_and_exch
import HandS.ForMost
import HandS.TupAny
import HandS.Deep
import HandS.IsInst
import HandS.SortInts
import PyProof.ReprRoads
import HandS.Conv
import HandS.Style
import HandS.Strs
import HandS.SetFor
import HandS.HeadEnd
import HandS.HeadHook2
import HandS.HeadHook4
import PyProof.ReprLen
import HandS.Zip
import HandS.TupSets
import KE.GoesEnum
import HandS.Iter
import HandS.Remove
import HandS.Head2
set_option Elab.async false
set_option linter.all false
set_option maxRecDepth 100000
/-! Dv: a layer of data over HandS. A def is walked once; what it means is a transformer of data.
Here: new tuples are tracked with their object, so that their methods can be called. -/
namespace Dv
open PySem PySem.Spec L2
def TupO (o : Obj) : Prop := o.cls = .type "tuple" ∧ o.dict = none
/-- a tuple: tracked with its object, or one of the module -/
def FT (K : PySem.W.Frag) (H : Hp) (a : Addr) (xs : List V) : Prop :=
  (∃ o, H a = some (.frz o (.tup xs)) ∧ TupO o) ∨
    ∃ (o : Obj) (its : Array Value) (n : Nat), K.lookup a = some o ∧ TupO o ∧ o.data = .seq its n ∧ its.size ≤ sizeLine ∧ Vals xs its.toList
theorem FT.sq {K : PySem.W.Frag} {H : Hp} {a : Addr} {xs : List V} (h : FT K H a xs) : SqT K H a xs := by
  rcases h with ⟨o, h, _⟩ | ⟨o, its, n, h, t, r⟩
  · exact .inl (.inr ⟨o, h⟩)
  · exact .inr ⟨o, its, n, h, t.1, r⟩
theorem FT.mono {K : PySem.W.Frag} {H H' : Hp} {a : Addr} {xs : List V} (e : Same H H') (h : FT K H a xs) : FT K H' a xs := by
  rcases h with ⟨o, h, t⟩ | h
  · exact .inl ⟨o, e _ _ h, t⟩
  · exact .inr h
section
variable {X : Cx} {pins : List (Addr × Obj)} {σ : L2.St} {H : Hp} {s : Shared}
abbrev tupObj (us : List Value) : Obj := { cls := .type "tuple", data := .seq us.toArray }
theorem tupO_new (us : List Value) : TupO (tupObj us) := ⟨rfl, rfl⟩
theorem lay_tup (I : Inv X pins σ H s) {ys : List V} {us : List Value} (r : Vals ys us) (z : ys.length ≤ sizeLine) :
    Inv X pins σ (upd H s.heap.objs.size (.frz (tupObj us) (.tup ys))) { s with heap := s.heap.push (tupObj us) } :=
  I.laid (t' := s.toks) (fun b u e => Heap.get?_push_of_some _ e) (Nat.le_refl _) ⟨Heap.get?_push_size _ rfl, z, us, r, ⟨_, Heap.get?_push_size _ rfl, rfl, _, rfl⟩⟩
theorem FT.there (I : Inv X pins σ H s) {a : Addr} {xs : List V} (h : FT X.K H a xs) : ∃ (o : Obj) (its : List Value) (n : Nat), Vals xs its ∧ s.heap.get? a = some o ∧ TupO o ∧ o.data = .seq its.toArray n := by
  rcases h with ⟨o, h, t⟩ | ⟨o, its, n, h, t, d, z, r⟩
  · obtain ⟨e, _, its, r, o', e', _, n, d⟩ := I.hok a _ h
    rw [e] at e'; cases e'
    exact ⟨o, its, n, r, e, t, d⟩
  · exact ⟨o, its.toList, n, r, I.kIn a o h, t, by simpa using d⟩
/-- what holds of any new tuple -/
abbrev NewT (H : Hp) (ys : List V) (Q : VK) : Prop := ∀ (p : Addr) (o : Obj), H p = none → TupO o → Q (.ref p) (upd H p (.frz o (.tup ys)))
def tTupF (t : TA) : TE := fun σ H Q => t σ H fun xs H1 => xs.length ≤ sizeLine ∧ NewT H1 xs Q
theorem pe_tupF {es : List Expr} {t : TA} {k : Nat} {pos : Pos} (h : PA X es t) : PE X (.Tuple es k pos) (tTupF t) := by
  refine ⟨fun pins s σ H Q I hq => ?_⟩
  refine wpAny_Tuple_spliced (thn (h.run pos pins s σ H _ I hq) fun us s1 ⟨xs, H1, I1, r, z, q⟩ => ⟨by rw [← r.length]; exact z, ?_⟩)
  exact ⟨.ref _, _, lay_tup I1 r z, rfl, q _ _ (I1.hok.fresh (Nat.le_refl _)) (tupO_new us)⟩
/-- t + u -/
def rCatF (K : PySem.W.Frag) : R2 := fun x y H Q => ∃ a b xs ys, x = .ref a ∧ y = .ref b ∧ SqT K H a xs ∧ SqT K H b ys ∧ xs.length + ys.length ≤ sizeLine ∧
  (xs = [] → Q (.ref b) H) ∧ (xs ≠ [] → ys = [] → Q (.ref a) H) ∧ (xs ≠ [] → ys ≠ [] → NewT H (xs ++ ys) Q)
theorem op_catF : OpR X (binaryOp .Add) (rCatF X.K) := by
  rintro pins s σ H x y v u Q I rx ry ⟨a, b, xs, ys, rfl, rfl, ha, hb, hz, q0, q1, q2⟩
  cases rx; cases ry
  obtain ⟨us, r1, p1, _⟩ := I.tuple ha
  obtain ⟨ws, r2, p2, _⟩ := I.tuple hb
  by_cases hx : xs = []
  · subst hx
    cases r1
    exact cat_tup0 p1 p2 ⟨.ref b, H, I, rfl, q0 rfl⟩
  · refine HT.cat_tup p1 p2 (fun e => hx (r1.nil_iff.mp e)) (fun e => ⟨.ref a, H, I, rfl, q1 hx (r2.nil_iff.mp e)⟩) (fun e => ?_) (by rw [← r1.length, ← r2.length]; exact hz)
    exact ⟨.ref _, _, lay_tup I (r1.append r2) (by rw [List.length_append]; exact hz), rfl, q2 hx (fun w => e (r2.nil_iff.mpr w)) _ _ (I.hok.fresh (Nat.le_refl _)) (tupO_new _)⟩
/-- t[lo:hi] -/
def rSlF (K : PySem.W.Frag) : V → Option Int → Option Int → Hp → VK → Prop := fun x lo hi H Q => ∃ a xs, x = .ref a ∧ SqT K H a xs ∧
  (HT.sIx xs.length 0 lo = 0 ∧ HT.sIx xs.length xs.length hi = xs.length → Q (.ref a) H) ∧ (¬ (HT.sIx xs.length 0 lo = 0 ∧ HT.sIx xs.length xs.length hi = xs.length) → NewT H (cutV xs lo hi) Q)
theorem sl_tupF : SlR X (rSlF X.K) := by
  rintro pins s σ H x v vl vu lo hi sl Q I rx hs pl pu ⟨a, xs, rfl, hx, q1, q2⟩
  cases rx
  obtain ⟨us, r, ht, hz⟩ := I.tuple hx
  have hl : us.toArray.size = xs.length := by rw [List.size_toArray]; exact r.length.symm
  refine ⟨"tuple", _, PyProof.Rows.slot_tuple_getitem.lookup, ht.typeIs, ?_⟩
  by_cases hw : HT.sIx xs.length 0 lo = 0 ∧ HT.sIx xs.length xs.length hi = xs.length
  · exact getItem_tuple_whole ht hs pl pu (by rw [hl]; exact hw) ⟨.ref a, H, I, rfl, q1 hw⟩
  · refine HT.getItem_tuple_cut ht hs pl pu (by rw [hl]; exact hw) ?_ (by rw [hl]; exact hz)
    rw [hl]
    exact ⟨.ref _, _, lay_tup I ((r.drop (HT.sIx xs.length 0 lo)).take _) (Nat.le_trans (cutV_length xs lo hi) hz), rfl, q2 hw _ _ (I.hok.fresh (Nat.le_refl _)) (tupO_new _)⟩
/-- tuple(x) -/
def rTupF (K : PySem.W.Frag) : List V → Hp → VK → Prop := fun xs H Q => ∃ p ys, xs = [.ref p] ∧ ((SqL K H p ys ∧ NewT H ys Q) ∨ (SqT K H p ys ∧ Q (.ref p) H))
theorem call_tupF : CallR X (.type "tuple") (rTupF X.K) := by
  rintro pins s σ H xs us Q I r ⟨p, ys, rfl, h⟩
  rw [Vals.ref1 r]
  rcases h with ⟨hq, q⟩ | ⟨hq, q⟩
  · obtain ⟨its, r', pl, hz⟩ := I.list hq
    refine call_tuple_list pl.isList (fun g kp => ?_) (by rw [List.size_toArray, ← r'.length]; exact hz)
    have I1 : Inv X pins σ H { s with heap := g } := I.kept (t' := s.toks) kp
    exact ⟨.ref _, _, lay_tup I1 r' hz, rfl, q _ _ (I1.hok.fresh (Nat.le_refl _)) (tupO_new _)⟩
  · obtain ⟨its, r', pl, hz⟩ := I.tuple hq
    exact call_tuple_same pl ⟨.ref p, H, I, rfl, q⟩
/-- a method of a tuple, called -/
def tTM (K : PySem.W.Frag) (r : V → List V → Hp → VK → Prop) (to : TE) (t : TA) : TE := fun σ H Q => to σ H fun x H1 => (∃ a ys, x = .ref a ∧ FT K H1 a ys) ∧ t σ H1 fun xs H2 => r x xs H2 Q
theorem pe_tm {o e : Expr} {es : List Expr} {to : TE} {t : TA} {name : Str} {ap cp : Pos} {id : String} {r : V → List V → Hp → VK → Prop}
    (slot : Slot "tuple" name id) (hty : typeOf (.builtin id) = pure (.type "method_descriptor")) (hm : MtR X id r) (ho : PE X o to) (ha : PA X (e :: es) t)
    (hb : attributeBase o name X.env (eval o X.env) = eval o X.env := by rfl)
    (hf : ((backTo cp (starEach (e :: es) X.env)).all (fun z => !z.1) && (backToKw cp (keywordEach [] X.env)).all (fun z => z.1.isSome)
      && decide ((e :: es).length + ([] : List Keyword).length + (if ([] : List Keyword).isEmpty then 0 else 1) < 30)) = true := by rfl)
    (hl : (ap.endLine == cp.line) = true := by rfl) (hs : starEach (e :: es) X.env = (false, eval e X.env) :: starEach es X.env := by rfl)
    (hp : (backTo cp (starEach es X.env)).any (·.1) = false := by rfl) :
    PE X (.Call (.Attribute o name ap) (e :: es) [] cp) (tTM X.K r to t) := by
  refine ⟨fun pins s σ H Q I h => ?_⟩
  refine wpAny_Call_method_late hb hf hl rfl (thn (ho.run pins s σ H _ I h) fun v s1 hv => ?_)
  obtain ⟨x, H1, I1, r1, ⟨a, ys, rfl, ft⟩, q1⟩ := hv
  cases r1
  obtain ⟨ob, its, n, rv, g, tp, d⟩ := ft.there I1
  refine ⟨"tuple", id, PySem.F.plainAttrs_tuple, slot, hty, ⟨ob, g, tp.1⟩, fun b e => by cases e; exact ⟨ob, g, tp.2⟩, ?_⟩
  have hA := ha.run cp pins s1 σ H1 _ I1 q1
  rw [hs] at hA ⊢
  have hpl : ((false, eval e X.env) :: backTo cp (starEach es X.env)).any (·.1) = false := by
    rw [List.any_cons, hp, Bool.or_false]
  refine Calls.callWith_builtin hpl (Calls.evalArgs_plain (thn hA fun us s2 hu => ?_))
  obtain ⟨vs, H2, I2, r2, q2⟩ := hu
  exact hm pins s2 σ H2 (.ref a) vs _ us Q I2 rfl r2 q2
end
end Dv
namespace Dv
open PySem PySem.Spec L2

abbrev D := PyData

/-! ### the heap without hidden addresses -/
def cut (U : List Addr) (H : Hp) : Hp := fun a => if a ∈ U then none else H a
theorem cut_some {U : List Addr} {H : Hp} {a : Addr} {o : HO} (h : cut U H a = some o) : a ∉ U ∧ H a = some o := by
  unfold cut at h
  split at h
  · cases h
  · rename_i n; exact ⟨n, h⟩
theorem cut_of {U : List Addr} {H : Hp} {a : Addr} {o : HO} (n : a ∉ U) (h : H a = some o) : cut U H a = some o := by
  unfold cut; rw [if_neg n]; exact h
theorem cut_le {U : List Addr} {H : Hp} : Same (cut U H) H := fun _ _ h => (cut_some h).2
theorem cut_mono {U U' : List Addr} {H H' : Hp} (hu : ∀ a ∈ U', a ∈ U ∨ H a = none) (hh : ∀ a o, a ∉ U → H a = some o → H' a = some o) : Same (cut U H) (cut U' H') := fun a o h => by
  obtain ⟨n, e⟩ := cut_some h
  refine cut_of (fun m => ?_) (hh a o n e)
  rcases hu a m with z | z
  · exact n z
  · rw [z] at e; cases e

mutual
/-- data at any depth: lists are tracked, tuples tracked or of the module -/
inductive Dq (K : PySem.W.Frag) (H : Hp) : V → D → Prop
  | non : Dq K H .non .none
  | bl (b : Bool) : Dq K H (.bl b) (.bool b)
  | int (i : Int) : Dq K H (.int i) (.int i)
  | str (x : Str) : Dq K H (.str x) (.str x)
  | lst {a : Addr} {xs : List V} {ds : List D} : H a = some (.lst xs) → DqAll K H xs ds → Dq K H (.ref a) (.list ds)
  | tup {a : Addr} {xs : List V} {ds : List D} : FT K H a xs → DqAll K H xs ds → Dq K H (.ref a) (.tuple ds)
inductive DqAll (K : PySem.W.Frag) (H : Hp) : List V → List D → Prop
  | nil : DqAll K H [] []
  | cons {v : V} {vs : List V} {d : D} {ds : List D} : Dq K H v d → DqAll K H vs ds → DqAll K H (v :: vs) (d :: ds)
end
mutual
theorem Dq.dp {K : PySem.W.Frag} {H : Hp} : ∀ {v : V} {d : D}, Dq K H v d → Dp K H v d
  | _, _, .non => .non
  | _, _, .bl b => .bl b
  | _, _, .int i => .int i
  | _, _, .str x => .str x
  | _, _, .lst h t => .lst (SqL.of h) (DqAll.dp t)
  | _, _, .tup h t => .tup h.sq (DqAll.dp t)
theorem DqAll.dp {K : PySem.W.Frag} {H : Hp} : ∀ {vs : List V} {ds : List D}, DqAll K H vs ds → DpAll K H vs ds
  | _, _, .nil => .nil
  | _, _, .cons h t => .cons (Dq.dp h) (DqAll.dp t)
end
mutual
theorem dp_mono {K : PySem.W.Frag} {H H' : Hp} (e : Same H H') : ∀ {v : V} {d : D}, Dq K H v d → Dq K H' v d
  | _, _, .non => .non
  | _, _, .bl b => .bl b
  | _, _, .int i => .int i
  | _, _, .str x => .str x
  | _, _, .lst h t => .lst (e _ _ h) (dpAll_mono e t)
  | _, _, .tup h t => .tup (h.mono e) (dpAll_mono e t)
theorem dpAll_mono {K : PySem.W.Frag} {H H' : Hp} (e : Same H H') : ∀ {vs : List V} {ds : List D}, DqAll K H vs ds → DqAll K H' vs ds
  | _, _, .nil => .nil
  | _, _, .cons h t => .cons (dp_mono e h) (dpAll_mono e t)
end
theorem dpAll_len {K : PySem.W.Frag} {H : Hp} : ∀ {vs : List V} {ds : List D}, DqAll K H vs ds → vs.length = ds.length
  | _, _, .nil => rfl
  | _, _, .cons _ t => congrArg (· + 1) (dpAll_len t)
theorem dpAll_get {K : PySem.W.Frag} {H : Hp} : ∀ {vs : List V} {ds : List D} {i : Nat} {d : D}, DqAll K H vs ds → ds[i]? = some d → ∃ v, vs[i]? = some v ∧ Dq K H v d
  | _, _, _, _, .nil, e => by simp at e
  | _, _, 0, _, .cons h _, e => by simp at e; subst e; exact ⟨_, rfl, h⟩
  | _, _, i + 1, _, .cons _ t, e => by
    obtain ⟨v, a, b⟩ := dpAll_get (i := i) t (by simpa using e)
    exact ⟨v, by simpa using a, b⟩
theorem dpAll_getV {K : PySem.W.Frag} {H : Hp} {vs : List V} {ds : List D} {i : Nat} {v : V} (h : DqAll K H vs ds) (e : vs[i]? = some v) : ∃ d, ds[i]? = some d ∧ Dq K H v d := by
  have hi : i < vs.length := (List.getElem?_eq_some_iff.mp e).1
  have hj : i < ds.length := by rw [← dpAll_len h]; exact hi
  obtain ⟨w, a, b⟩ := dpAll_get h (List.getElem?_eq_getElem hj)
  rw [e] at a; cases a
  exact ⟨_, List.getElem?_eq_getElem hj, b⟩
theorem dpAll_append {K : PySem.W.Frag} {H : Hp} : ∀ {vs ws : List V} {ds es : List D}, DqAll K H vs ds → DqAll K H ws es → DqAll K H (vs ++ ws) (ds ++ es)
  | _, _, _, _, .nil, s => s
  | _, _, _, _, .cons h t, s => .cons h (dpAll_append t s)
theorem dpAll_take {K : PySem.W.Frag} {H : Hp} : ∀ {vs : List V} {ds : List D} (n : Nat), DqAll K H vs ds → DqAll K H (vs.take n) (ds.take n)
  | _, _, 0, _ => .nil
  | _, _, _ + 1, .nil => .nil
  | _, _, n + 1, .cons h t => .cons h (dpAll_take n t)
theorem dpAll_drop {K : PySem.W.Frag} {H : Hp} : ∀ {vs : List V} {ds : List D} (n : Nat), DqAll K H vs ds → DqAll K H (vs.drop n) (ds.drop n)
  | _, _, 0, h => h
  | _, _, _ + 1, .nil => .nil
  | _, _, n + 1, .cons _ t => dpAll_drop n t
theorem dpAll_set {K : PySem.W.Frag} {H : Hp} {v : V} {d : D} (hv : Dq K H v d) : ∀ {vs : List V} {ds : List D} (i : Nat), DqAll K H vs ds → DqAll K H (vs.set i v) (ds.set i d)
  | _, _, _, .nil => .nil
  | _, _, 0, .cons _ t => .cons hv t
  | _, _, i + 1, .cons h t => .cons h (dpAll_set hv i t)
theorem dpAll_erase {K : PySem.W.Frag} {H : Hp} : ∀ {vs : List V} {ds : List D} (i : Nat), DqAll K H vs ds → DqAll K H (vs.eraseIdx i) (ds.eraseIdx i)
  | _, _, _, .nil => .nil
  | _, _, 0, .cons _ t => t
  | _, _, i + 1, .cons h t => .cons h (dpAll_erase i t)

/-! ### what a name holds -/
/-- an object that this def owns, nobody else has it: a list of data, a list of own lists -/
inductive OO where
  | lst (xs : List D) | ll (xss : List (List D))
/-- own lists at ps -/
def Sub (K : PySem.W.Frag) (U : List Addr) (H : Hp) : List Addr → List (List D) → Prop
  | [], [] => True
  | p :: ps, xs :: xss => (∃ vs, H p = some (.lst vs) ∧ DqAll K (cut U H) vs xs) ∧ Sub K U H ps xss
  | _, _ => False
def OR (K : PySem.W.Frag) (U : List Addr) (H : Hp) : OO → HO → List Addr → Prop
  | .lst xs, h, ps => ps = [] ∧ ∃ vs, h = .lst vs ∧ DqAll K (cut U H) vs xs
  | .ll xss, h, ps => h = .lst (ps.map .ref) ∧ Sub K U H ps xss
theorem Sub.mono {K : PySem.W.Frag} {U U' : List Addr} {H H' : Hp} (c : Same (cut U H) (cut U' H')) : ∀ {ps : List Addr} {xss : List (List D)}, (∀ a ∈ ps, ∀ o, H a = some o → H' a = some o) → Sub K U H ps xss → Sub K U' H' ps xss
  | [], [], _, h => h
  | p :: ps, xs :: xss, k, ⟨⟨vs, e, t⟩, r⟩ => ⟨⟨vs, k p List.mem_cons_self _ e, dpAll_mono c t⟩, Sub.mono c (fun a m => k a (List.mem_cons_of_mem _ m)) r⟩
  | [], _ :: _, _, h => h.elim
  | _ :: _, [], _, h => h.elim
theorem OR.mono {K : PySem.W.Frag} {U U' : List Addr} {H H' : Hp} (c : Same (cut U H) (cut U' H')) : ∀ {o : OO} {h : HO} {ps : List Addr}, (∀ a ∈ ps, ∀ o, H a = some o → H' a = some o) → OR K U H o h ps → OR K U' H' o h ps
  | .lst _, _, _, _, ⟨e, vs, a, b⟩ => ⟨e, vs, a, dpAll_mono c b⟩
  | .ll _, _, _, k, ⟨e, r⟩ => ⟨e, Sub.mono c k r⟩
/-- a slot: nothing known, shared data, an own object, the pot -/
inductive Sl where
  | un | sh (d : D) | ow (o : OO) | pot | scr (ns : List Int)
/-- a pot: a list of two ints from 0 on -/
def PotAt (H : Hp) (a : Addr) : Prop := ∃ i j : Int, H a = some (.lst [.int i, .int j]) ∧ 0 ≤ i ∧ 0 ≤ j ∧ j < 2 ^ 62
/-- what stands around: Z must stay, what was not in V0 remains seen, U0 remains hidden, Pi the pots -/
structure Bs where
  Z : Hp
  V0 : List Addr
  U0 : List Addr
  Pi : List Addr
/-- a slot and the addresses that it owns -/
def SlF (K : PySem.W.Frag) (Pi U W : List Addr) (H : Hp) : Sl → Option V → List Addr → Prop
  | .un, _, F => F = []
  | .sh d, x, F => F = [] ∧ ∃ v, x = some v ∧ Dq K (cut U H) v d
  | .pot, x, F => F = [] ∧ ∃ a, x = some (.ref a) ∧ a ∈ Pi
  | .scr ns, x, F => F = [] ∧ ∃ a, x = some (.ref a) ∧ SqL K (cut U H) a (ns.map V.int)
  | .ow o, x, F => ∃ a h ps, F = a :: ps ∧ F.Nodup ∧ (∀ b ∈ F, b ∈ W ∧ b ∉ Pi) ∧ x = some (.ref a) ∧ H a = some h ∧ OR K U H o h ps
abbrev En := List Sl
/-- the slots, and what they own apart -/
structure Own (K : PySem.W.Frag) (Pi U W : List Addr) (H : Hp) (ρ : En) (σ : St) (fp : Nat → List Addr) : Prop where
  sl : ∀ (i : Nat) (s : Sl), ρ[i]? = some s → SlF K Pi U W H s (σ[i]?.join) (fp i)
  dj : ∀ (i j : Nat) (s s' : Sl) (a : Addr), ρ[i]? = some s → ρ[j]? = some s' → a ∈ fp i → a ∈ fp j → i = j
structure RS (K : PySem.W.Frag) (B : Bs) (U W : List Addr) (ρ : En) (σ : St) (H : Hp) : Prop where
  len : ρ.length = σ.length
  own : ∃ fp, Own K B.Pi U W H ρ σ fp
  live : ∀ a ∈ U, ∃ o, H a = some o
  wu : ∀ a ∈ W, a ∈ U
  wz : ∀ a ∈ W, B.Z a = none
  stay : ∀ a o, B.Z a = some o → H a = some o
  wn : ∀ a ∈ W, a ∈ B.Pi ∨ a ∉ B.U0
  vis : ∀ a ∈ U, a ∈ B.V0 ∨ B.Z a = none
  u0 : ∀ a ∈ B.U0, a ∈ U
  pw : ∀ a ∈ B.Pi, a ∈ W
  pots : ∀ a ∈ B.Pi, PotAt H a
theorem slot_of {l : St} {i : Nat} {v : V} (h : (l[i]?).join = some v) : l[i]? = some (some v) := by
  cases w : l[i]? with
  | none => rw [w] at h; cases h
  | some x => rw [w] at h; exact congrArg some h
/-- what is owned is writable, and no pot -/
theorem SlF.own {K : PySem.W.Frag} {Pi U W : List Addr} {H : Hp} {s : Sl} {x : Option V} {F : List Addr} (h : SlF K Pi U W H s x F) : ∀ b ∈ F, b ∈ W ∧ b ∉ Pi := fun b m => by
  cases s with
  | un => have e : F = [] := h; rw [e] at m; cases m
  | sh d => rw [h.1] at m; cases m
  | pot => rw [h.1] at m; cases m
  | scr ns => rw [h.1] at m; cases m
  | ow o => obtain ⟨a, hh, ps, _, _, z, _⟩ := h; exact z b m
/-- the heap turns, the slots do not -/
theorem SlF.mono {K : PySem.W.Frag} {Pi U U' W W' : List Addr} {H H' : Hp} (c : Same (cut U H) (cut U' H')) (w : ∀ a ∈ W, a ∉ Pi → a ∈ W') (k : ∀ a ∈ W, a ∉ Pi → ∀ o, H a = some o → H' a = some o) :
    ∀ {s : Sl} {x : Option V} {F : List Addr}, SlF K Pi U W H s x F → SlF K Pi U' W' H' s x F
  | .un, _, _, h => h
  | .sh _, _, _, ⟨e, v, a, b⟩ => ⟨e, v, a, dp_mono c b⟩
  | .pot, _, _, h => h
  | .scr _, _, _, ⟨e, a, b, q⟩ => ⟨e, a, b, c.seq q⟩
  | .ow o, _, _, ⟨a, h, ps, e1, e2, e3, e4, e5, e6⟩ => by
    subst e1
    have at_ : ∀ b ∈ a :: ps, ∀ o, H b = some o → H' b = some o := fun b m => k b (e3 b m).1 (e3 b m).2
    exact ⟨a, h, ps, rfl, e2, fun b m => ⟨w b (e3 b m).1 (e3 b m).2, (e3 b m).2⟩, e4, at_ a List.mem_cons_self _ e5, e6.mono c fun b m => at_ b (List.mem_cons_of_mem _ m)⟩
theorem Own.mono {K : PySem.W.Frag} {Pi U U' W W' : List Addr} {H H' : Hp} {ρ : En} {σ : St} {fp : Nat → List Addr} (h : Own K Pi U W H ρ σ fp) (c : Same (cut U H) (cut U' H')) (w : ∀ a ∈ W, a ∉ Pi → a ∈ W')
    (k : ∀ a ∈ W, a ∉ Pi → ∀ o, H a = some o → H' a = some o) : Own K Pi U' W' H' ρ σ fp := ⟨fun i s q => (h.sl i s q).mono c w k, h.dj⟩
/-- all but the writable is as it was -/
def Adv (W : List Addr) (H H' : Hp) : Prop := ∀ a o, H a = some o → a ∈ W ∨ H' a = some o
theorem Adv.refl {W : List Addr} {H : Hp} : Adv W H H := fun _ _ h => .inr h
theorem Adv.trans {W : List Addr} {H H1 H2 : Hp} (a : Adv W H H1) (b : Adv W H1 H2) : Adv W H H2 := fun x o h => by
  rcases a x o h with z | z
  · exact .inl z
  · exact b x o z
theorem Adv.same {W : List Addr} {H H' : Hp} (h : Same H H') : Adv W H H' := fun a o e => .inr (h a o e)
theorem same_new {H : Hp} {p : Addr} {o : HO} (h : H p = none) : Same H (upd H p o) := fun b x e => by
  rw [upd_ne (ne_of_none e h)]; exact e

section
variable {K : PySem.W.Frag} {B : Bs} {U W : List Addr} {ρ ρ' : En} {σ : St} {H H' H1 H2 : Hp}
theorem RS.cut (R : RS K B U W ρ σ H) (a : Adv W H H') : Same (cut U H) (cut U H') :=
  cut_mono (fun _ h => .inl h) fun x o n e => by
    rcases a x o e with z | z
    · exact absurd (R.wu x z) n
    · exact z
theorem RS.nu (R : RS K B U W ρ σ H) {p : Addr} (h : H p = none) : p ∉ U := fun m => by
  obtain ⟨o, e⟩ := R.live p m
  rw [e] at h; cases h
/-- fresh later is fresh before -/
theorem RS.back (R : RS K B U W ρ σ H) (R' : RS K B U W ρ' σ H') (a : Adv W H H') {p : Addr} (h : H' p = none) : H p = none := by
  cases e : H p with
  | none => rfl
  | some o =>
    rcases a p o e with z | z
    · exact absurd (R'.wu p z) (R'.nu h)
    · rw [z] at h; cases h
theorem RS.shAt (R : RS K B U W ρ σ H) {i : Nat} {d : D} (q : ρ[i]? = some (.sh d)) : ∃ v, σ[i]? = some (some v) ∧ Dq K (Dv.cut U H) v d := by
  obtain ⟨fp, O⟩ := R.own
  obtain ⟨_, v, e1, e2⟩ := O.sl i _ q
  exact ⟨v, slot_of e1, e2⟩
theorem RS.potAt (R : RS K B U W ρ σ H) {i : Nat} (q : ρ[i]? = some .pot) : ∃ a, σ[i]? = some (some (.ref a)) ∧ a ∈ B.Pi := by
  obtain ⟨fp, O⟩ := R.own
  obtain ⟨_, a, e1, e2⟩ := O.sl i _ q
  exact ⟨a, slot_of e1, e2⟩
theorem RS.scrAt (R : RS K B U W ρ σ H) {i : Nat} {ns : List Int} (q : ρ[i]? = some (.scr ns)) : ∃ a, σ[i]? = some (some (.ref a)) ∧ SqL K (Dv.cut U H) a (ns.map V.int) := by
  obtain ⟨fp, O⟩ := R.own
  obtain ⟨_, a, e1, e2⟩ := O.sl i _ q
  exact ⟨a, slot_of e1, e2⟩
theorem RS.owAt (R : RS K B U W ρ σ H) {i : Nat} {o : OO} (q : ρ[i]? = some (.ow o)) : ∃ a h ps, σ[i]? = some (some (.ref a)) ∧ (∀ b ∈ a :: ps, b ∈ W ∧ b ∉ B.Pi) ∧ H a = some h ∧ OR K U H o h ps := by
  obtain ⟨fp, O⟩ := R.own
  obtain ⟨a, h, ps, e1, e2, e3, e4, e5, e6⟩ := O.sl i _ q
  rw [e1] at e3
  exact ⟨a, h, ps, slot_of e4, e3, e5, e6⟩
theorem RS.lstAt (R : RS K B U W ρ σ H) {i : Nat} {xs : List D} (q : ρ[i]? = some (.ow (.lst xs))) : ∃ a vs, σ[i]? = some (some (.ref a)) ∧ a ∈ W ∧ a ∉ B.Pi ∧ H a = some (.lst vs) ∧ DqAll K (Dv.cut U H) vs xs := by
  obtain ⟨a, h, ps, e1, e2, e3, _, vs, rfl, e4⟩ := R.owAt q
  exact ⟨a, vs, e1, (e2 a List.mem_cons_self).1, (e2 a List.mem_cons_self).2, e3, e4⟩
theorem PotAt.mono {a : Addr} (e : Same H H') (h : PotAt H a) : PotAt H' a := by
  obtain ⟨i, j, h1, h2⟩ := h; exact ⟨i, j, e _ _ h1, h2⟩
/-- the heap grows -/
theorem RS.ext (R : RS K B U W ρ σ H) (e : Same H H') : RS K B U W ρ σ H' :=
  ⟨R.len, let ⟨fp, O⟩ := R.own; ⟨fp, O.mono (cut_mono (fun _ h => .inl h) fun x o _ q => e x o q) (fun _ m _ => m) fun a _ _ o q => e a o q⟩, fun a m => let ⟨o, q⟩ := R.live a m; ⟨o, e _ _ q⟩, R.wu, R.wz, fun a o q => e _ _ (R.stay a o q), R.wn, R.vis, R.u0, R.pw, fun a m => (R.pots a m).mono e⟩
theorem RS.new (R : RS K B U W ρ σ H) {p : Addr} {o : HO} (h : H p = none) : RS K B U W ρ σ (upd H p o) := R.ext (same_new h)
end

/-! ### results -/
/-- shared data, a new list that nobody else has, an own object read at its slot -/
inductive Rv where
  | sh (d : D) | fr (xs : List D) | bw (i : Nat)
def RvOk (K : PySem.W.Frag) (U : List Addr) (σ : St) (H H' : Hp) : Rv → V → Prop
  | .sh d, v => Dq K (cut U H') v d
  | .fr xs, v => ∃ p vs, v = .ref p ∧ H p = none ∧ H' p = some (.lst vs) ∧ DqAll K (cut (p :: U) H') vs xs
  | .bw i, v => ∃ a, v = .ref a ∧ σ[i]? = some (some (.ref a))
def Rv.dat (ρ : En) : Rv → Option D
  | .sh d => some d
  | .fr xs => some (.list xs)
  | .bw i => match ρ[i]? with
    | some (.ow (.lst xs)) => some (.list xs)
    | _ => none
/-- a value as it is read: shared, or an own list of shared things -/
inductive Dt (K : PySem.W.Frag) (U : List Addr) (H : Hp) : V → D → Prop where
  | sh {v : V} {d : D} (h : Dq K (cut U H) v d) : Dt K U H v d
  | bw {a : Addr} {vs : List V} {xs : List D} (e : H a = some (.lst vs)) (h : DqAll K (cut U H) vs xs) : Dt K U H (.ref a) (.list xs)
section
variable {K : PySem.W.Frag} {B : Bs} {U W : List Addr} {ρ ρ' : En} {σ : St} {H H' H1 H2 : Hp} {v : V} {r : Rv} {d : D}
theorem Dt.dq (h : Dt K U H v d) : Dq K H v d := by
  cases h with
  | sh h => exact dp_mono cut_le h
  | bw e h => exact .lst e (dpAll_mono cut_le h)
/-- the items of a list -/
theorem Dt.list {xs : List D} (h : Dt K U H v (.list xs)) : ∃ a vs, v = .ref a ∧ H a = some (.lst vs) ∧ DqAll K (cut U H) vs xs := by
  cases h with
  | sh h =>
    cases h with
    | lst h t => exact ⟨_, _, rfl, cut_le _ _ h, t⟩
  | bw e h => exact ⟨_, _, rfl, e, h⟩
theorem Dt.tupleF {xs : List D} (h : Dt K U H v (.tuple xs)) : ∃ a vs, v = .ref a ∧ FT K H a vs ∧ DqAll K (cut U H) vs xs := by
  cases h with
  | sh h =>
    cases h with
    | tup h t => exact ⟨_, _, rfl, h.mono cut_le, t⟩
theorem Dt.tuple {xs : List D} (h : Dt K U H v (.tuple xs)) : ∃ a vs, v = .ref a ∧ SqT K H a vs ∧ DqAll K (cut U H) vs xs :=
  let ⟨a, vs, e, f, t⟩ := h.tupleF
  ⟨a, vs, e, f.sq, t⟩
theorem Dt.int {i : Int} (h : Dt K U H v (.int i)) : v = .int i := by
  cases h with
  | sh h => cases h; rfl
theorem Dt.str {i : Str} (h : Dt K U H v (.str i)) : v = .str i := by
  cases h with
  | sh h => cases h; rfl
theorem Dt.bool {i : Bool} (h : Dt K U H v (.bool i)) : v = .bl i := by
  cases h with
  | sh h => cases h; rfl
theorem Dt.non (h : Dt K U H v .none) : v = .non := by
  cases h with
  | sh h => cases h; rfl
theorem RvOk.dt (R : RS K B U W ρ σ H') (h : RvOk K U σ H H' r v) (e : r.dat ρ = some d) : Dt K U H' v d := by
  cases r with
  | sh d' => cases e; exact .sh h
  | fr xs =>
    cases e
    obtain ⟨p, vs, rfl, n, q, t⟩ := h
    exact .bw q (dpAll_mono (cut_mono (fun a m => .inl (List.mem_cons_of_mem _ m)) fun _ _ _ q => q) t)
  | bw i =>
    obtain ⟨a, rfl, s⟩ := h
    dsimp only [Rv.dat] at e
    split at e
    · rename_i xs q
      cases e
      obtain ⟨a', vs, e1, e2, e3, e4, e5⟩ := R.lstAt q
      rw [s] at e1; cases e1
      exact .bw e4 e5
    · cases e
/-- a result stays while what is behind it runs -/
theorem RvOk.adv (R : RS K B U W ρ σ H) (R1 : RS K B U W ρ' σ H1) (a0 : Adv W H H1) (a : Adv W H1 H2) (h : RvOk K U σ H H1 r v) : RvOk K U σ H H2 r v := by
  cases r with
  | sh d => exact dp_mono (R1.cut a) h
  | fr xs =>
    obtain ⟨p, vs, e, n, q, t⟩ := h
    have np : p ∉ U := R.nu n
    have q2 : H2 p = some (.lst vs) := by
      rcases a p _ q with z | z
      · exact absurd (R.wu p z) np
      · exact z
    refine ⟨p, vs, e, n, q2, dpAll_mono (cut_mono (fun _ h => .inl h) fun x o m e => ?_) t⟩
    rcases a x o e with z | z
    · exact absurd (List.mem_cons_of_mem _ (R.wu x z)) m
    · exact z
  | bw i => exact h
theorem RvOk.start {r : Rv} (hb : ∀ {p}, H1 p = none → H p = none) (h : RvOk K U σ H1 H2 r v) : RvOk K U σ H H2 r v := by
  cases r with
  | sh d => exact h
  | fr xs =>
    obtain ⟨p, vs, e, n, q, t⟩ := h
    exact ⟨p, vs, e, hb n, q, t⟩
  | bw i => exact h
/-- a new list is shared data too -/
theorem RvOk.share (R : RS K B U W ρ σ H) {xs : List D} (h : RvOk K U σ H H' (.fr xs) v) : Dq K (Dv.cut U H') v (.list xs) := by
  obtain ⟨p, vs, rfl, n, q, t⟩ := h
  exact .lst (cut_of (R.nu n) q) (dpAll_mono (cut_mono (fun a m => .inl (List.mem_cons_of_mem _ m)) fun _ _ _ q => q) t)
end

/-! ### expressions -/
/-- what an expression means: from the slots, its result and the slots behind it -/
abbrev ME := En → (Rv → En → Prop) → Prop
/-- a new list is in no slot -/
def Hid (K : PySem.W.Frag) (B : Bs) (U W : List Addr) (ρ : En) (σ : St) (H : Hp) : Rv → V → Prop
  | .fr _, v => ∀ p, v = .ref p → RS K B (p :: U) W ρ σ H
  | _, _ => True
section
variable {K : PySem.W.Frag} {B : Bs} {U W : List Addr} {ρ : En} {σ : St} {H H' : Hp}
/-- what is new is hidden -/
theorem RS.hide (R : RS K B U W ρ σ H) (sm : Same H H') {p : Addr} {o : HO} (n : H p = none) (h : H' p = some o) : RS K B (p :: U) W ρ σ H' := by
  have R' := R.ext sm
  have c : Same (Dv.cut U H) (Dv.cut (p :: U) H') := cut_mono (fun a m => by
    rcases List.mem_cons.mp m with e | m
    · subst e; exact .inr n
    · exact .inl m) fun a x _ e => sm a x e
  obtain ⟨fp, O⟩ := R.own
  refine ⟨R.len, ⟨fp, O.mono c (fun _ m _ => m) fun a _ _ o q => sm a o q⟩, fun a m => ?_, fun a m => List.mem_cons_of_mem _ (R.wu a m), R.wz, R'.stay, R.wn, fun a m => ?_, fun a m => List.mem_cons_of_mem _ (R.u0 a m), R.pw, R'.pots⟩
  · rcases List.mem_cons.mp m with e | m
    · subst e; exact ⟨_, h⟩
    · exact R'.live a m
  · rcases List.mem_cons.mp m with e | m
    · subst e
      cases q : B.Z a with
      | none => exact .inr rfl
      | some x =>
        have := R.stay a x q
        rw [n] at this; cases this
    · exact R.vis a m
theorem hid_of (R : RS K B U W ρ σ H) (sm : Same H H') {r : Rv} {v : V} (k : RvOk K U σ H H' r v) : Hid K B U W ρ σ H' r v := by
  cases r with
  | sh d => trivial
  | bw i => trivial
  | fr xs =>
    obtain ⟨p, vs, rfl, n, h, t⟩ := k
    intro p' e
    cases e
    exact R.hide sm n h
end
def rd (K : PySem.W.Frag) (B : Bs) (m : ME) : TE := fun σ H Q => ∃ (U W : List Addr) (ρ : En) (P : Rv → En → Prop), RS K B U W ρ σ H ∧ m ρ P ∧
  ∀ r ρ' v H', P r ρ' → RS K B U W ρ' σ H' → Adv W H H' → RvOk K U σ H H' r v → Hid K B U W ρ' σ H' r v → Q v H'
structure DE (X : Cx) (e : Expr) (m : ME) : Prop where
  run : ∀ B, PE X e (rd X.K B m)
theorem pe_imp {X : Cx} {e : Expr} {t t' : TE} (h : PE X e t) (i : ∀ σ H Q, t' σ H Q → t σ H Q) : PE X e t' :=
  ⟨fun pins s σ H Q I q => h.run pins s σ H Q I (i σ H Q q)⟩
theorem pt_imp {X : Cx} {e : Expr} {t t' : TT} (h : PT X e t) (i : ∀ σ H Q, t' σ H Q → t σ H Q) : PT X e t' :=
  ⟨fun pins s σ H Q I q => h.run pins s σ H Q I (i σ H Q q)⟩
def mC (d : D) : ME := fun ρ P => P (.sh d) ρ
section
variable {X : Cx} {e a b : Expr} {pos : Pos} {m ma mb : ME}
theorem de_c {v : V} {d : D} (h : PE X e (tC v)) (hd : ∀ H, Dq X.K H v d) : DE X e (mC d) := ⟨fun B => pe_imp h fun σ H Q ⟨U, W, ρ, P, R, p, q⟩ => q _ _ v H p R Adv.refl (hd _) trivial⟩
theorem de_int {i : Int} {j} : DE X (.Constant (.int i) j pos) (mC (.int i)) := de_c pe_int fun _ => .int i
theorem de_bl {i : Bool} {j} : DE X (.Constant (.bool i) j pos) (mC (.bool i)) := de_c pe_bl fun _ => .bl i
theorem de_non {j} : DE X (.Constant .none j pos) (mC .none) := de_c pe_non fun _ => .non
theorem de_str {x : Str} {j} : DE X (.Constant (.str x) j pos) (mC (.str x)) := de_c pe_str fun _ => .str x
def mVar (i : Nat) : ME := fun ρ P => match ρ[i]? with
  | some (.sh d) => P (.sh d) ρ
  | some (.ow _) => P (.bw i) ρ
  | _ => False
theorem de_var {i : Nat} (h : PE X e (tVar i)) : DE X e (mVar i) := ⟨fun B => pe_imp h fun σ H Q ⟨U, W, ρ, P, R, p, q⟩ => by
  unfold mVar at p
  split at p
  · rename_i d hd
    obtain ⟨v, e1, e2⟩ := R.shAt hd
    exact ⟨v, e1, q _ _ v H p R Adv.refl e2 trivial⟩
  · rename_i o hd
    obtain ⟨a, hh, ps, e1, _⟩ := R.owAt hd
    exact ⟨.ref a, e1, q _ _ (.ref a) H p R Adv.refl ⟨a, rfl, e1⟩ trivial⟩
  · exact p.elim⟩
/-- two parts, then an operation on their data -/
def OpD (K : PySem.W.Frag) (r : R2) (f : D → D → (Rv → Prop) → Prop) : Prop :=
  ∀ (U : List Addr) (σ : St) (H : Hp) (x y : V) (d e : D) (P : Rv → Prop) (Q : VK), (∀ a ∈ U, ∃ o, H a = some o) → Dt K U H x d → Dt K U H y e → f d e P →
    (∀ rv v H', P rv → Same H H' → RvOk K U σ H H' rv v → (∀ i, rv ≠ .bw i) → Q v H') → r x y H Q
def mBin (f : D → D → (Rv → Prop) → Prop) (ma mb : ME) : ME := fun ρ P => ma ρ fun r1 ρ1 => mb ρ1 fun r2 ρ2 => ∃ d e, r1.dat ρ2 = some d ∧ r2.dat ρ2 = some e ∧ f d e fun r => P r ρ2
theorem de_bin {r : R2} {f : D → D → (Rv → Prop) → Prop} (h : ∀ {ta tb : TE}, PE X a ta → PE X b tb → PE X e (tOp r ta tb)) (ho : OpD X.K r f) (ha : DE X a ma) (hb : DE X b mb) : DE X e (mBin f ma mb) :=
  ⟨fun B => pe_imp (h (ha.run B) (hb.run B)) fun σ H Q ⟨U, W, ρ, P, R, p, q⟩ =>
    ⟨U, W, ρ, _, R, p, fun r1 ρ1 x H1 p1 R1 a1 k1 _ => ⟨U, W, ρ1, _, R1, p1, fun r2 ρ2 y H2 p2 R2 a2 k2 _ => by
      obtain ⟨d, e, e1, e2, p3⟩ := p2
      refine ho U σ H2 x y d e _ Q R2.live ((k1.adv R R1 a1 a2).dt R2 e1) (k2.dt R2 e2) p3 fun rv v H' pr sm k nb => ?_
      have a3 : Adv W H H2 := a1.trans a2
      exact q rv ρ2 v H' pr (R2.ext sm) (a3.trans (Adv.same sm)) (k.start fun h => R.back R2 a3 h) (hid_of R2 sm k)⟩⟩⟩
end
end Dv
namespace Dv
open PySem PySem.Spec L2
/-! ### operations on data -/
theorem bigLine {n : Nat} (h : n ≤ 100000) : n ≤ sizeLine := Nat.le_trans h (by decide)
theorem bigLt {n : Nat} (h : n < 100000) : n < sizeLine := Nat.lt_of_lt_of_le h (by decide)
abbrev pI (P : Rv → Prop) (i : Int) : Prop := P (.sh (.int i))
abbrev pB (P : Rv → Prop) (b : Bool) : Prop := P (.sh (.bool b))
section
variable {K : PySem.W.Frag} {U : List Addr} {σ : L2.St} {H : Hp} {P : Rv → Prop} {Q : VK} {d : D} {v : V}
theorem rv_scal (p : P (.sh d)) (hd : ∀ H, Dq K H v d) (q : ∀ rv v H', P rv → Same H H' → RvOk K U σ H H' rv v → (∀ i, rv ≠ .bw i) → Q v H') : Q v H :=
  q _ v H p (Same.refl H) (hd _) fun _ h => nomatch h
theorem nuL (lv : ∀ a ∈ U, ∃ o, H a = some o) {p : Addr} (h : H p = none) : p ∉ U := fun m => by
  obtain ⟨o, e⟩ := lv p m
  rw [e] at h; cases h
theorem cut_new (lv : ∀ a ∈ U, ∃ o, H a = some o) {p : Addr} {o : HO} (h : H p = none) : Same (cut U H) (cut U (upd H p o)) := cut_mono (fun _ h => .inl h) fun a x _ e => by
  rw [upd_ne (ne_of_none e h)]; exact e
theorem cut_new2 (lv : ∀ a ∈ U, ∃ o, H a = some o) {p : Addr} {o : HO} (h : H p = none) : Same (cut U H) (cut (p :: U) (upd H p o)) := cut_mono (fun a m => by
  rcases List.mem_cons.mp m with e | m
  · subst e; exact .inr h
  · exact .inl m) fun a x _ e => by
  rw [upd_ne (ne_of_none e h)]; exact e
/-- a new tuple of shared things -/
theorem rv_tup (lv : ∀ a ∈ U, ∃ o, H a = some o) {vs : List V} {ds : List D} (p : P (.sh (.tuple ds))) (h : DqAll K (cut U H) vs ds) (q : ∀ rv v H', P rv → Same H H' → RvOk K U σ H H' rv v → (∀ i, rv ≠ .bw i) → Q v H') :
    NewT H vs Q := fun a o n t =>
  q _ _ _ p (same_new n) (Dq.tup (.inl ⟨o, cut_of (nuL lv n) upd_same, t⟩) (dpAll_mono (cut_new lv n) h)) fun _ h => nomatch h
/-- a new list of shared things -/
theorem rv_lst (lv : ∀ a ∈ U, ∃ o, H a = some o) {vs : List V} {ds : List D} (p : P (.fr ds)) (h : DqAll K (cut U H) vs ds) (q : ∀ rv v H', P rv → Same H H' → RvOk K U σ H H' rv v → (∀ i, rv ≠ .bw i) → Q v H') :
    ∀ a, H a = none → Q (.ref a) (upd H a (.lst vs)) := fun a n =>
  q _ _ _ p (same_new n) ⟨a, vs, rfl, n, upd_same, dpAll_mono (cut_new2 lv n) h⟩ fun _ h => nomatch h
/-- a tuple as it stands -/
theorem Dt.tupS {ds : List D} (h : Dt K U H v (.tuple ds)) : Dq K (cut U H) v (.tuple ds) := by
  cases h with
  | sh h => exact h
end
def fAdd (d e : D) (P : Rv → Prop) : Prop := match d, e with
  | .int i, .int j => pI P (i + j)
  | .tuple xs, .tuple ys => xs.length + ys.length ≤ 100000 ∧ P (.sh (.tuple (xs ++ ys)))
  | .list xs, .list ys => xs.length + ys.length ≤ 100000 ∧ P (.fr (xs ++ ys))
  | .str x, .str y => x.length + y.length ≤ 100000 ∧ P (.sh (.str (x ++ y)))
  | _, _ => False
def rAddA (K : PySem.W.Frag) : R2 := fun x y H Q => (rI0 fun i j => .int (i + j)) x y H Q ∨ rCatF K x y H Q ∨ rCat x y H Q ∨ ∃ i j, x = .str i ∧ y = .str j ∧ i.length + j.length ≤ sizeLine ∧ Q (.str (i ++ j)) H
theorem op_addA {X : Cx} : OpR X (binaryOp .Add) (rAddA X.K) := op_add.or (op_catF.or (op_cat.or op_add_str))
theorem d_add {K : PySem.W.Frag} : OpD K (rAddA K) fAdd := fun U σ H x y d e P Q lv hx hy p q => by
  unfold fAdd at p
  split at p
  · rw [hx.int, hy.int]
    exact .inl ⟨_, _, rfl, rfl, rv_scal p (fun _ => .int _) q⟩
  · rename_i xs ys
    obtain ⟨hl, p⟩ := p
    obtain ⟨a, vs, rfl, h1, h2⟩ := hx.tuple
    obtain ⟨b, ws, rfl, h3, h4⟩ := hy.tuple
    have l1 := dpAll_len h2
    have l2 := dpAll_len h4
    refine .inr (.inl ⟨a, b, vs, ws, rfl, rfl, h1, h3, bigLine (by omega), fun e0 => ?_, fun _ e1 => ?_, fun _ _ => rv_tup lv p (dpAll_append h2 h4) q⟩)
    · have e : xs = [] := List.eq_nil_of_length_eq_zero (by rw [← l1, e0]; rfl)
      subst e
      exact q _ _ _ p (Same.refl H) hy.tupS fun _ h => nomatch h
    · have e : ys = [] := List.eq_nil_of_length_eq_zero (by rw [← l2, e1]; rfl)
      subst e
      rw [List.append_nil] at p
      exact q _ _ _ p (Same.refl H) hx.tupS fun _ h => nomatch h
  · obtain ⟨hl, p⟩ := p
    obtain ⟨a, vs, rfl, h1, h2⟩ := hx.list
    obtain ⟨b, ws, rfl, h3, h4⟩ := hy.list
    have l1 := dpAll_len h2
    have l2 := dpAll_len h4
    exact .inr (.inr (.inl ⟨a, b, vs, ws, rfl, rfl, h1, h3, bigLine (by omega), rv_lst lv p (dpAll_append h2 h4) q⟩))
  · obtain ⟨hl, p⟩ := p
    rw [hx.str, hy.str]
    exact .inr (.inr (.inr ⟨_, _, rfl, rfl, bigLine hl, rv_scal p (fun _ => .str _) q⟩))
  · exact p.elim
def fSub (d e : D) (P : Rv → Prop) : Prop := match d, e with
  | .int i, .int j => pI P (i - j)
  | _, _ => False
theorem d_sub {K : PySem.W.Frag} : OpD K (rI0 fun i j => .int (i - j)) fSub := fun U σ H x y d e P Q lv hx hy p q => by
  unfold fSub at p
  split at p
  · rw [hx.int, hy.int]
    exact ⟨_, _, rfl, rfl, rv_scal p (fun _ => .int _) q⟩
  · exact p.elim
def fMul (d e : D) (P : Rv → Prop) : Prop := match d, e with
  | .int i, .int j => ((-(2 ^ 64) < i ∧ i < 2 ^ 64) ∨ (-(2 ^ 64) < j ∧ j < 2 ^ 64)) ∧ pI P (i * j)
  | .list xs, .int k => k ≤ 100000 ∧ -100000 ≤ k ∧ xs.length * k.toNat ≤ 100000 ∧ P (.fr (List.replicate k.toNat xs).flatten)
  | _, _ => False
def rMulA (K : PySem.W.Frag) : R2 := fun x y H Q => (rI CMul fun i j => .int (i * j)) x y H Q ∨ rRep x y H Q
theorem op_mulA {X : Cx} : OpR X (binaryOp .Mult) (rMulA X.K) := op_mul.or op_rep
theorem dpAll_rep {K : PySem.W.Frag} {H : Hp} {vs : List V} {ds : List D} (h : DqAll K H vs ds) : ∀ n : Nat, DqAll K H (List.replicate n vs).flatten (List.replicate n ds).flatten
  | 0 => .nil
  | n + 1 => by
    rw [List.replicate_succ, List.replicate_succ, List.flatten_cons, List.flatten_cons]
    exact dpAll_append h (dpAll_rep h n)
theorem d_mul {K : PySem.W.Frag} : OpD K (rMulA K) fMul := fun U σ H x y d e P Q lv hx hy p q => by
  unfold fMul at p
  split at p
  · rw [hx.int, hy.int]
    exact .inl ⟨_, _, rfl, rfl, p.1, rv_scal p.2 (fun _ => .int _) q⟩
  · obtain ⟨k1, k2, k3, p⟩ := p
    obtain ⟨a, vs, rfl, h1, h2⟩ := hx.list
    rw [hy.int]
    exact .inr ⟨a, _, vs, rfl, rfl, h1, by omega, by omega, bigLine (by rw [dpAll_len h2]; exact k3), rv_lst lv p (dpAll_rep h2 _) q⟩
  · exact p.elim
def fDiv (d e : D) (P : Rv → Prop) : Prop := match d, e with
  | .int i, .int j => (0 < j ∧ j < 1073741824) ∧ pI P (i / j)
  | _, _ => False
theorem d_div {K : PySem.W.Frag} : OpD K (rI CDiv fun i j => .int (i / j)) fDiv := fun U σ H x y d e P Q lv hx hy p q => by
  unfold fDiv at p
  split at p
  · rw [hx.int, hy.int]
    exact ⟨_, _, rfl, rfl, p.1, rv_scal p.2 (fun _ => .int _) q⟩
  · exact p.elim
def fMod (d e : D) (P : Rv → Prop) : Prop := match d, e with
  | .int i, .int j => 0 < j ∧ pI P (i % j)
  | _, _ => False
theorem d_mod {K : PySem.W.Frag} : OpD K (rI (fun _ j => 0 < j) fun i j => .int (i % j)) fMod := fun U σ H x y d e P Q lv hx hy p q => by
  unfold fMod at p
  split at p
  · rw [hx.int, hy.int]
    exact ⟨_, _, rfl, rfl, p.1, rv_scal p.2 (fun _ => .int _) q⟩
  · exact p.elim
def fPow (d e : D) (P : Rv → Prop) : Prop := match d, e with
  | .int i, .int j => (0 ≤ j ∧ j ≤ 1000000 ∧ i.natAbs < 2 ^ 64) ∧ pI P (i ^ j.toNat)
  | _, _ => False
theorem d_pow {K : PySem.W.Frag} : OpD K (rI CPow fun i j => .int (i ^ j.toNat)) fPow := fun U σ H x y d e P Q lv hx hy p q => by
  unfold fPow at p
  split at p
  · rw [hx.int, hy.int]
    exact ⟨_, _, rfl, rfl, p.1, rv_scal p.2 (fun _ => .int _) q⟩
  · exact p.elim
/-! ### comparisons -/
def fCmp (g : Int → Int → Bool) (d e : D) (P : Rv → Prop) : Prop := match d, e with
  | .int i, .int j => pB P (g i j)
  | _, _ => False
theorem d_cmp {K : PySem.W.Frag} {g : Int → Int → Bool} : OpD K (rI0 fun i j => .bl (g i j)) (fCmp g) := fun U σ H x y d e P Q lv hx hy p q => by
  unfold fCmp at p
  split at p
  · rw [hx.int, hy.int]
    exact ⟨_, _, rfl, rfl, rv_scal p (fun _ => .bl _) q⟩
  · exact p.elim
abbrev gLt : Int → Int → Bool := fun i j => decide (i < j)
abbrev gLe : Int → Int → Bool := fun i j => decide (i ≤ j)
abbrev gGt : Int → Int → Bool := fun i j => decide (j < i)
abbrev gGe : Int → Int → Bool := fun i j => decide (j ≤ i)
def eqD (d e : D) : Bool := PyData.eqv d e
def fEq (neg : Bool) (d e : D) (P : Rv → Prop) : Prop := match d, e with
  | .str x, .str y => pB P (if neg then !decide (x = y) else decide (x = y))
  | d, e => SeqAt.shaped d = true ∧ SeqAt.shaped e = true ∧ pB P (if neg then !PyData.eqv d e else PyData.eqv d e)
def rEqA (K : PySem.W.Frag) : R2 := fun x y H Q => rEqD K x y H Q ∨ rEq x y H Q
def rNeA (K : PySem.W.Frag) : R2 := fun x y H Q => rNeD K x y H Q ∨ rNe x y H Q
theorem op_eqA {X : Cx} (hu : X.A.units + 64 < cLine) : OpR X (compareOp .Eq) (rEqA X.K) := (op_eqD hu).or op_eq
theorem op_neA {X : Cx} (hu : X.A.units + 64 < cLine) : OpR X (compareOp .NotEq) (rNeA X.K) := (op_neD hu).or op_ne
theorem d_eq {K : PySem.W.Frag} : OpD K (rEqA K) (fEq false) := fun U σ H x y d e P Q lv hx hy p q => by
  unfold fEq at p
  split at p
  · rename_i a b
    rw [hx.str, hy.str]
    refine .inr ⟨rfl, ?_⟩
    rw [show decide (V.str a = V.str b) = decide (a = b) by simp]
    exact rv_scal p (fun _ => .bl _) q
  · exact .inl ⟨d, e, hx.dq.dp, hy.dq.dp, p.1, p.2.1, rv_scal p.2.2 (fun _ => .bl _) q⟩
theorem d_ne {K : PySem.W.Frag} : OpD K (rNeA K) (fEq true) := fun U σ H x y d e P Q lv hx hy p q => by
  unfold fEq at p
  split at p
  · rename_i a b
    rw [hx.str, hy.str]
    refine .inr ⟨rfl, ?_⟩
    rw [show decide (V.str a = V.str b) = decide (a = b) by simp]
    exact rv_scal p (fun _ => .bl _) q
  · exact .inl ⟨d, e, hx.dq.dp, hy.dq.dp, p.1, p.2.1, rv_scal p.2.2 (fun _ => .bl _) q⟩
/-- is None, is not None -/
def isNone : D → Bool
  | .none => true
  | _ => false
def fIsN (neg : Bool) (d e : D) (P : Rv → Prop) : Prop := e = .none ∧ pB P (if neg then !isNone d else isNone d)
theorem isNone_v {K : PySem.W.Frag} {H : Hp} {v : V} {d : D} (h : Dq K H v d) : decide (v = .non) = isNone d := by
  cases h <;> simp [isNone]
theorem d_isN {K : PySem.W.Frag} : OpD K (fun x y H Q => y = .non ∧ Q (.bl (decide (x = .non))) H) (fIsN false) := fun U σ H x y d e P Q lv hx hy p q => by
  obtain ⟨rfl, p⟩ := p
  refine ⟨hy.non, ?_⟩
  rw [isNone_v hx.dq]
  exact rv_scal p (fun _ => .bl _) q
theorem d_notN {K : PySem.W.Frag} : OpD K (fun x y H Q => y = .non ∧ Q (.bl (!decide (x = .non))) H) (fIsN true) := fun U σ H x y d e P Q lv hx hy p q => by
  obtain ⟨rfl, p⟩ := p
  refine ⟨hy.non, ?_⟩
  rw [isNone_v hx.dq]
  exact rv_scal p (fun _ => .bl _) q
/-- in, not in -/
def flatD : D → Bool
  | .none => true
  | .bool _ => true
  | .int _ => true
  | .str _ => true
  | _ => false
def fIn (neg : Bool) (d e : D) (P : Rv → Prop) : Prop := match e with
  | .list ds => SeqAt.shaped d = true ∧ SeqAt.shaped (.list ds) = true ∧ pB P (if neg then !ds.any (fun z => PyData.eqv z d) else ds.any fun z => PyData.eqv z d)
  | .tuple ds => flatD d = true ∧ ds.all flatD = true ∧ pB P (if neg then !ds.any (fun z => PyData.eqv z d) else ds.any fun z => PyData.eqv z d)
  | _ => False
theorem flat_v {K : PySem.W.Frag} {H : Hp} {v : V} {d : D} (h : Dq K H v d) (f : flatD d = true) : flatV v = true := by
  cases h with
  | lst _ _ => exact absurd (show false = true from f) Bool.false_ne_true
  | tup _ _ => exact absurd (show false = true from f) Bool.false_ne_true
  | _ => rfl
theorem flat_vs {K : PySem.W.Frag} {H : Hp} : ∀ {vs : List V} {ds : List D}, DqAll K H vs ds → ds.all flatD = true → vs.all flatV = true
  | _, _, .nil, _ => rfl
  | _, _, .cons h t, f => by
    simp only [List.all_cons, Bool.and_eq_true] at f ⊢
    exact ⟨flat_v h f.1, flat_vs t f.2⟩
theorem eqv_flat {K : PySem.W.Frag} {H H' : Hp} {v w : V} {d e : D} (h : Dq K H v d) (h' : Dq K H' w e) (f : flatD d = true) (f' : flatD e = true) : eqV v w = PyData.eqv d e := by
  cases h with
  | lst _ _ => exact absurd (show false = true from f) Bool.false_ne_true
  | tup _ _ => exact absurd (show false = true from f) Bool.false_ne_true
  | _ => cases h' with
    | lst _ _ => exact absurd (show false = true from f') Bool.false_ne_true
    | tup _ _ => exact absurd (show false = true from f') Bool.false_ne_true
    | _ => simp only [eqV, PyData.eqv]
theorem any_flat {K : PySem.W.Frag} {H H' : Hp} {w : V} {e : D} (h' : Dq K H' w e) (f' : flatD e = true) : ∀ {vs : List V} {ds : List D}, DqAll K H vs ds → ds.all flatD = true → inV w vs = ds.any fun z => PyData.eqv z e
  | _, _, .nil, _ => rfl
  | _, _, .cons h t, f => by
    simp only [List.all_cons, Bool.and_eq_true] at f
    have ih := any_flat h' f' t f.2
    unfold inV at ih ⊢
    rw [List.any_cons, List.any_cons, eqv_flat h h' f.1 f', ih]
def rInA (K : PySem.W.Frag) : R2 := fun x y H Q => rInD K x y H Q ∨ rIn K false x y H Q
def rNotInA (K : PySem.W.Frag) : R2 := fun x y H Q => rNotInD K x y H Q ∨ rIn K true x y H Q
theorem op_inA {X : Cx} (hu : X.A.units + 65 < cLine) : OpR X (compareOp .In) (rInA X.K) := (op_inD hu).or op_in_seq
theorem op_notInA {X : Cx} (hu : X.A.units + 65 < cLine) : OpR X (compareOp .NotIn) (rNotInA X.K) := (op_notInD hu).or op_notIn_seq
theorem d_in {K : PySem.W.Frag} : OpD K (rInA K) (fIn false) := fun U σ H x y d e P Q lv hx hy p q => by
  unfold fIn at p
  split at p
  · exact .inl ⟨d, _, hx.dq.dp, hy.dq.dp, p.1, p.2.1, rv_scal p.2.2 (fun _ => .bl _) q⟩
  · obtain ⟨f1, f2, p⟩ := p
    obtain ⟨b, ws, rfl, h3, h4⟩ := hy.tuple
    refine .inr ⟨b, ws, rfl, .inr h3, flat_v hx.dq f1, flat_vs h4 f2, ?_⟩
    rw [any_flat hx.dq f1 h4 f2]
    exact rv_scal p (fun _ => .bl _) q
  · exact p.elim
theorem d_notIn {K : PySem.W.Frag} : OpD K (rNotInA K) (fIn true) := fun U σ H x y d e P Q lv hx hy p q => by
  unfold fIn at p
  split at p
  · exact .inl ⟨d, _, hx.dq.dp, hy.dq.dp, p.1, p.2.1, rv_scal p.2.2 (fun _ => .bl _) q⟩
  · obtain ⟨f1, f2, p⟩ := p
    obtain ⟨b, ws, rfl, h3, h4⟩ := hy.tuple
    refine .inr ⟨b, ws, rfl, .inr h3, flat_v hx.dq f1, flat_vs h4 f2, ?_⟩
    rw [any_flat hx.dq f1 h4 f2]
    exact rv_scal p (fun _ => .bl _) q
  · exact p.elim
/-! ### an item -/
def fIx (d e : D) (P : Rv → Prop) : Prop := match d, e with
  | .list xs, .int i => ∃ z, atI xs i = some z ∧ P (.sh z)
  | .tuple xs, .int i => ∃ z, atI xs i = some z ∧ P (.sh z)
  | _, _ => False
theorem atI_dq {K : PySem.W.Frag} {H : Hp} {vs : List V} {ds : List D} {i : Int} {z : D} (h : DqAll K H vs ds) (e : atI ds i = some z) : ∃ v, atI vs i = some v ∧ Dq K H v z := by
  unfold atI at e ⊢
  rw [dpAll_len h]
  cases q : ixN ds.length i with
  | none => rw [q] at e; cases e
  | some j =>
    rw [q] at e
    exact dpAll_get h e
theorem d_ix {K : PySem.W.Frag} : OpD K (rIx K) fIx := fun U σ H x y d e P Q lv hx hy p q => by
  unfold fIx at p
  split at p
  · obtain ⟨z, hz, p⟩ := p
    obtain ⟨a, vs, rfl, h1, h2⟩ := hx.list
    obtain ⟨v, e1, e2⟩ := atI_dq h2 hz
    rw [hy.int]
    exact .inl ⟨a, vs, _, v, rfl, rfl, SqL.of h1, e1, q _ _ _ p (Same.refl H) e2 fun _ h => nomatch h⟩
  · obtain ⟨z, hz, p⟩ := p
    obtain ⟨a, vs, rfl, h1, h2⟩ := hx.tuple
    obtain ⟨v, e1, e2⟩ := atI_dq h2 hz
    rw [hy.int]
    exact .inr (.inl ⟨a, vs, _, v, rfl, rfl, h1, e1, q _ _ _ p (Same.refl H) e2 fun _ h => nomatch h⟩)
  · exact p.elim
section
variable {X : Cx} {a b : Expr} {pos : Pos} {ma mb : ME}
theorem de_add (ha : DE X a ma) (hb : DE X b mb) : DE X (.BinOp a .Add b pos) (mBin fAdd ma mb) := de_bin (fun h k => pe_op op_addA h k) d_add ha hb
theorem de_sub (ha : DE X a ma) (hb : DE X b mb) : DE X (.BinOp a .Sub b pos) (mBin fSub ma mb) := de_bin (fun h k => pe_op op_sub h k) d_sub ha hb
theorem de_mul (ha : DE X a ma) (hb : DE X b mb) : DE X (.BinOp a .Mult b pos) (mBin fMul ma mb) := de_bin (fun h k => pe_op op_mulA h k) d_mul ha hb
theorem de_div (ha : DE X a ma) (hb : DE X b mb) : DE X (.BinOp a .FloorDiv b pos) (mBin fDiv ma mb) := de_bin (fun h k => pe_op op_fdiv h k) d_div ha hb
theorem de_mod (ha : DE X a ma) (hb : DE X b mb) : DE X (.BinOp a .Mod b pos) (mBin fMod ma mb) := de_bin (fun h k => pe_op op_mod h k) d_mod ha hb
theorem de_pow (ha : DE X a ma) (hb : DE X b mb) : DE X (.BinOp a .Pow b pos) (mBin fPow ma mb) := de_bin (fun h k => pe_op op_pow h k) d_pow ha hb
theorem de_lt (ha : DE X a ma) (hb : DE X b mb) : DE X (.Compare a [.Lt] [b] pos) (mBin (fCmp gLt) ma mb) := de_bin (fun h k => pe_cmpR op_lt h k (nomark _)) d_cmp ha hb
theorem de_le (ha : DE X a ma) (hb : DE X b mb) : DE X (.Compare a [.LtE] [b] pos) (mBin (fCmp gLe) ma mb) := de_bin (fun h k => pe_cmpR op_le h k (nomark _)) d_cmp ha hb
theorem de_gt (ha : DE X a ma) (hb : DE X b mb) : DE X (.Compare a [.Gt] [b] pos) (mBin (fCmp gGt) ma mb) := de_bin (fun h k => pe_cmpR op_gt h k (nomark _)) d_cmp ha hb
theorem de_ge (ha : DE X a ma) (hb : DE X b mb) : DE X (.Compare a [.GtE] [b] pos) (mBin (fCmp gGe) ma mb) := de_bin (fun h k => pe_cmpR op_ge h k (nomark _)) d_cmp ha hb
theorem de_eq (hu : X.A.units + 65 < cLine) (ha : DE X a ma) (hb : DE X b mb) : DE X (.Compare a [.Eq] [b] pos) (mBin (fEq false) ma mb) := de_bin (fun h k => pe_cmpR (op_eqA (by omega)) h k (nomark _)) d_eq ha hb
theorem de_ne (hu : X.A.units + 65 < cLine) (ha : DE X a ma) (hb : DE X b mb) : DE X (.Compare a [.NotEq] [b] pos) (mBin (fEq true) ma mb) := de_bin (fun h k => pe_cmpR (op_neA (by omega)) h k (nomark _)) d_ne ha hb
theorem de_isN (ha : DE X a ma) (hb : DE X b mb) : DE X (.Compare a [.Is] [b] pos) (mBin (fIsN false) ma mb) := de_bin (fun h k => pe_cmpR op_isN h k (nomark _)) d_isN ha hb
theorem de_notN (ha : DE X a ma) (hb : DE X b mb) : DE X (.Compare a [.IsNot] [b] pos) (mBin (fIsN true) ma mb) := de_bin (fun h k => pe_cmpR op_notN h k (nomark _)) d_notN ha hb
theorem de_in (hu : X.A.units + 65 < cLine) (ha : DE X a ma) (hb : DE X b mb) (hm : behindInMarks .In b = false) : DE X (.Compare a [.In] [b] pos) (mBin (fIn false) ma mb) := de_bin (fun h k => pe_cmpR (op_inA hu) h k hm) d_in ha hb
theorem de_notIn (hu : X.A.units + 65 < cLine) (ha : DE X a ma) (hb : DE X b mb) (hm : behindInMarks .NotIn b = false) : DE X (.Compare a [.NotIn] [b] pos) (mBin (fIn true) ma mb) := de_bin (fun h k => pe_cmpR (op_notInA hu) h k hm) d_notIn ha hb
theorem de_ix (ha : DE X a ma) (hb : DE X b mb) (hs : PlainIx b) : DE X (.Subscript a b pos) (mBin fIx ma mb) := de_bin (fun h k => pe_ix ix_seq h k hs) d_ix ha hb
end
end Dv
namespace Dv
open PySem PySem.Spec L2
/-! ### tests -/
abbrev MT := En → (Bool → En → Prop) → Prop
def rdT (K : PySem.W.Frag) (B : Bs) (m : MT) : TT := fun σ H Q => ∃ (U W : List Addr) (ρ : En) (P : Bool → En → Prop), RS K B U W ρ σ H ∧ m ρ P ∧
  ∀ b ρ' H', P b ρ' → RS K B U W ρ' σ H' → Adv W H H' → Q b H'
structure DT (X : Cx) (e : Expr) (m : MT) : Prop where
  run : ∀ B, PT X e (rdT X.K B m)
structure DW (X : Cx) (e : Expr) (m : MT) : Prop where
  run : ∀ B, PW X e (rdT X.K B m)
theorem pw_imp {X : Cx} {e : Expr} {t t' : TT} (h : PW X e t) (i : ∀ σ H Q, t' σ H Q → t σ H Q) : PW X e t' :=
  ⟨fun wh pins s σ H Q I q => h.run wh pins s σ H Q I (i σ H Q q)⟩
/-- a bool as a test -/
def mTest (m : ME) : MT := fun ρ P => m ρ fun r ρ' => ∃ b, r = .sh (.bool b) ∧ P b ρ'
/-- any value as a test -/
def truD : D → Option Bool
  | .none => some false
  | .bool b => some b
  | .int i => some (i != 0)
  | .str x => if x.length ≤ 100000 then some ((x.length : Int) != 0) else none
  | .list xs => some (!xs.isEmpty)
  | .tuple xs => some (!xs.isEmpty)
  | _ => none
def mTru (m : ME) : MT := fun ρ P => m ρ fun r ρ' => ∃ d b, r.dat ρ' = some d ∧ truD d = some b ∧ P b ρ'
theorem tru_v {K : PySem.W.Frag} {U : List Addr} {H : Hp} {v : V} {d : D} {b : Bool} (h : Dt K U H v d) (e : truD d = some b) : TruV K v H b := by
  have emp : ∀ {vs : List V} {ds : List D}, vs.length = ds.length → (!ds.isEmpty) = !vs.isEmpty := fun {vs ds} e => by
    cases vs <;> cases ds <;> simp_all
  cases d with
  | none => cases e; rw [h.non]; exact rfl
  | bool x => cases e; rw [h.bool]; exact rfl
  | int i => cases e; rw [h.int]; exact rfl
  | str x =>
    dsimp only [truD] at e
    split at e
    · rename_i hz; cases e; rw [h.str]; exact ⟨bigLine hz, rfl⟩
    · cases e
  | list xs => cases e; obtain ⟨a, vs, rfl, h1, h2⟩ := h.list; exact .inl ⟨vs, SqL.of h1, emp (dpAll_len h2)⟩
  | tuple xs => cases e; obtain ⟨a, vs, rfl, h1, h2⟩ := h.tuple; exact .inr (.inl ⟨vs, h1, emp (dpAll_len h2)⟩)
  | dict xs => cases e
section
variable {X : Cx} {e a b c : Expr} {pos : Pos} {m ma mb mc : ME} {t u : MT} {rest : List Expr}
theorem dt_val (h : ∀ {te : TE}, PE X e te → PT X e (tB te)) (ha : DE X e m) : DT X e (mTest m) := ⟨fun B => pt_imp (h (ha.run B)) fun σ H Q ⟨U, W, ρ, P, R, p, q⟩ =>
  ⟨U, W, ρ, _, R, p, fun r ρ' v H' p' R' a' k kh => by
    obtain ⟨b, rfl, p'⟩ := p'
    have e : v = .bl b := by cases k; rfl
    exact ⟨b, e, q b ρ' H' p' R' a'⟩⟩⟩
theorem dt_bin {r : R2} {f : D → D → (Rv → Prop) → Prop} (h : ∀ {ta tb : TE}, PE X a ta → PE X b tb → PT X e (tTest (tOp r ta tb))) (ho : OpD X.K r f) (ha : DE X a ma) (hb : DE X b mb) : DT X e (mTest (mBin f ma mb)) :=
  ⟨fun B => pt_imp (h (ha.run B) (hb.run B)) fun σ H Q ⟨U, W, ρ, P, R, p, q⟩ =>
    ⟨U, W, ρ, _, R, p, fun r1 ρ1 x H1 p1 R1 a1 k1 _ => ⟨U, W, ρ1, _, R1, p1, fun r2 ρ2 y H2 p2 R2 a2 k2 _ => by
      obtain ⟨d, e, e1, e2, p3⟩ := p2
      refine ho U σ H2 x y d e _ _ R2.live ((k1.adv R R1 a1 a2).dt R2 e1) (k2.dt R2 e2) p3 fun rv v H' pr sm k nb => ?_
      obtain ⟨b, rfl, p'⟩ := pr
      have e : v = .bl b := by cases k; rfl
      exact ⟨b, e, q b ρ2 H' p' (R2.ext sm) ((a1.trans a2).trans (Adv.same sm))⟩⟩⟩⟩
theorem dt_tru (he : ∀ whole, isTrue e X.env whole = (do let v ← whole; standAt e.pos; holding [v] (truthy v))) (ha : DE X e m) : DT X e (mTru m) := ⟨fun B => pt_imp (pt_truth (ha.run B) he) fun σ H Q ⟨U, W, ρ, P, R, p, q⟩ =>
  ⟨U, W, ρ, _, R, p, fun r ρ' v H' p' R' a' k kh => by
    obtain ⟨d, b, e1, e2, p'⟩ := p'
    exact ⟨b, tru_v (k.dt R' e1) e2, q b ρ' H' p' R' a'⟩⟩⟩
def mAnd (t u : MT) : MT := fun ρ P => t ρ fun b ρ' => if b = true then u ρ' P else P false ρ'
def mOr (t u : MT) : MT := fun ρ P => t ρ fun b ρ' => if b = true then P true ρ' else u ρ' P
def mNot (t : MT) : MT := fun ρ P => t ρ fun b ρ' => P (!b) ρ'
theorem dt_not (h : DT X a t) : DT X (.UnaryOp .Not a pos) (mNot t) := ⟨fun B => pt_imp (pt_not (h.run B)) fun σ H Q ⟨U, W, ρ, P, R, p, q⟩ =>
  ⟨U, W, ρ, _, R, p, fun b ρ' H' p' R' a' => q _ ρ' H' p' R' a'⟩⟩
theorem dw_and1 (h : DT X a t) : DW X (.BoolOp .And [a] pos) t := ⟨fun B => pw_and1 (h.run B)⟩
theorem dw_or1 (h : DT X a t) : DW X (.BoolOp .Or [a] pos) t := ⟨fun B => pw_or1 (h.run B)⟩
theorem dw_and (h : DT X a t) (k : DW X (.BoolOp .And (b :: rest) pos) u) : DW X (.BoolOp .And (a :: b :: rest) pos) (mAnd t u) := ⟨fun B => pw_imp (pw_and (h.run B) (k.run B)) fun σ H Q ⟨U, W, ρ, P, R, p, q⟩ =>
  ⟨U, W, ρ, _, R, p, fun b ρ' H' p' R' a' => by
    cases b with
    | true =>
      rw [if_pos rfl] at p' ⊢
      exact ⟨U, W, ρ', P, R', p', fun b2 ρ2 H2 p2 R2 a2 => q _ _ _ p2 R2 (a'.trans a2)⟩
    | false =>
      rw [if_neg Bool.false_ne_true] at p' ⊢
      exact q _ _ _ p' R' a'⟩⟩
theorem dw_or (h : DT X a t) (k : DW X (.BoolOp .Or (b :: rest) pos) u) : DW X (.BoolOp .Or (a :: b :: rest) pos) (mOr t u) := ⟨fun B => pw_imp (pw_or (h.run B) (k.run B)) fun σ H Q ⟨U, W, ρ, P, R, p, q⟩ =>
  ⟨U, W, ρ, _, R, p, fun b ρ' H' p' R' a' => by
    cases b with
    | false =>
      rw [if_neg Bool.false_ne_true] at p' ⊢
      exact ⟨U, W, ρ', P, R', p', fun b2 ρ2 H2 p2 R2 a2 => q _ _ _ p2 R2 (a'.trans a2)⟩
    | true =>
      rw [if_pos rfl] at p' ⊢
      exact q _ _ _ p' R' a'⟩⟩
theorem dt_w (h : DW X e t) : DT X e t := ⟨fun B => (h.run B).pt⟩
/-! .. as values -/
def mAndV (ma mb : ME) : ME := fun ρ P => ma ρ fun r ρ' => ∃ b, r = .sh (.bool b) ∧ if b = true then mb ρ' P else P (.sh (.bool false)) ρ'
def mOrV (ma mb : ME) : ME := fun ρ P => ma ρ fun r ρ' => ∃ b, r = .sh (.bool b) ∧ if b = true then P (.sh (.bool true)) ρ' else mb ρ' P
def mNotV (ma : ME) : ME := fun ρ P => ma ρ fun r ρ' => ∃ b, r = .sh (.bool b) ∧ P (.sh (.bool (!b))) ρ'
theorem de_one {op} (h : DE X a m) : DE X (.BoolOp op [a] pos) m := ⟨fun B => pe_one (h.run B)⟩
theorem rvOk_from {K : PySem.W.Frag} {B : Bs} {U W : List Addr} {ρ ρ' : En} {σ : L2.St} {H H1 H2 : Hp} {r : Rv} {v : V} (R : RS K B U W ρ σ H) (R1 : RS K B U W ρ' σ H1) (a : Adv W H H1) (k : RvOk K U σ H1 H2 r v) : RvOk K U σ H H2 r v :=
  k.start fun h => R.back R1 a h
theorem de_and (ha : DE X a ma) (hb : DE X (.BoolOp .And (b :: rest) pos) mb) : DE X (.BoolOp .And (a :: b :: rest) pos) (mAndV ma mb) := ⟨fun B => pe_imp (pe_and (ha.run B) (hb.run B)) fun σ H Q ⟨U, W, ρ, P, R, p, q⟩ =>
  ⟨U, W, ρ, _, R, p, fun r ρ' v H' p' R' a' k kh => by
    obtain ⟨b, rfl, p'⟩ := p'
    have e : v = .bl b := by cases k; rfl
    refine ⟨b, e, ?_⟩
    cases b with
    | true =>
      rw [if_pos rfl] at p' ⊢
      exact ⟨U, W, ρ', P, R', p', fun r2 ρ2 v2 H2 p2 R2 a2 k2 kh => q _ _ _ _ p2 R2 (a'.trans a2) (rvOk_from R R' a' k2) kh⟩
    | false =>
      rw [if_neg Bool.false_ne_true] at p' ⊢
      exact q _ _ _ _ p' R' a' (Dq.bl _) trivial⟩⟩
theorem de_or (ha : DE X a ma) (hb : DE X (.BoolOp .Or (b :: rest) pos) mb) : DE X (.BoolOp .Or (a :: b :: rest) pos) (mOrV ma mb) := ⟨fun B => pe_imp (pe_or (ha.run B) (hb.run B)) fun σ H Q ⟨U, W, ρ, P, R, p, q⟩ =>
  ⟨U, W, ρ, _, R, p, fun r ρ' v H' p' R' a' k kh => by
    obtain ⟨b, rfl, p'⟩ := p'
    have e : v = .bl b := by cases k; rfl
    refine ⟨b, e, ?_⟩
    cases b with
    | false =>
      rw [if_neg Bool.false_ne_true] at p' ⊢
      exact ⟨U, W, ρ', P, R', p', fun r2 ρ2 v2 H2 p2 R2 a2 k2 kh => q _ _ _ _ p2 R2 (a'.trans a2) (rvOk_from R R' a' k2) kh⟩
    | true =>
      rw [if_pos rfl] at p' ⊢
      exact q _ _ _ _ p' R' a' (Dq.bl _) trivial⟩⟩
theorem de_not (ha : DE X a ma) : DE X (.UnaryOp .Not a pos) (mNotV ma) := ⟨fun B => pe_imp (pe_not (ha.run B)) fun σ H Q ⟨U, W, ρ, P, R, p, q⟩ =>
  ⟨U, W, ρ, _, R, p, fun r ρ' v H' p' R' a' k kh => by
    obtain ⟨b, rfl, p'⟩ := p'
    have e : v = .bl b := by cases k; rfl
    exact ⟨b, e, q _ _ _ _ p' R' a' (Dq.bl _) trivial⟩⟩⟩
def mIf (t : MT) (ma mb : ME) : ME := fun ρ P => t ρ fun b ρ' => if b = true then ma ρ' P else mb ρ' P
theorem de_if (hc : DT X c t) (ha : DE X a ma) (hb : DE X b mb) : DE X (.IfExp c a b pos) (mIf t ma mb) := ⟨fun B => pe_imp (pe_ifExp (hc.run B) (ha.run B) (hb.run B)) fun σ H Q ⟨U, W, ρ, P, R, p, q⟩ =>
  ⟨U, W, ρ, _, R, p, fun b ρ' H' p' R' a' => by
    cases b with
    | true =>
      rw [if_pos rfl] at p' ⊢
      exact ⟨U, W, ρ', P, R', p', fun r2 ρ2 v2 H2 p2 R2 a2 k2 kh => q _ _ _ _ p2 R2 (a'.trans a2) (rvOk_from R R' a' k2) kh⟩
    | false =>
      rw [if_neg Bool.false_ne_true] at p' ⊢
      exact ⟨U, W, ρ', P, R', p', fun r2 ρ2 v2 H2 p2 R2 a2 k2 kh => q _ _ _ _ p2 R2 (a'.trans a2) (rvOk_from R R' a' k2) kh⟩⟩⟩
/-- a one-place operator -/
def mNeg (ma : ME) : ME := fun ρ P => ma ρ fun r ρ' => ∃ i, r = .sh (.int i) ∧ P (.sh (.int (-i))) ρ'
theorem de_neg (ha : DE X a ma) : DE X (.UnaryOp .USub a pos) (mNeg ma) := ⟨fun B => pe_imp (pe_un un_neg (ha.run B)) fun σ H Q ⟨U, W, ρ, P, R, p, q⟩ =>
  ⟨U, W, ρ, _, R, p, fun r ρ' v H' p' R' a' k kh => by
    obtain ⟨i, rfl, p'⟩ := p'
    have e : v = .int i := by cases k; rfl
    exact ⟨i, e, q _ _ _ _ p' R' a' (Dq.int _) trivial⟩⟩⟩
/-- a op1 b op2 c -/
def mChain (f g : D → D → (Rv → Prop) → Prop) (ma mb mc : ME) : ME := fun ρ P => ma ρ fun r1 ρ1 => mb ρ1 fun r2 ρ2 => ∃ d e, r1.dat ρ2 = some d ∧ r2.dat ρ2 = some e ∧
  f d e fun r => ∃ b, r = .sh (.bool b) ∧ if b = true then mc ρ2 fun r3 ρ3 => ∃ e' d', r2.dat ρ3 = some e' ∧ r3.dat ρ3 = some d' ∧ g e' d' fun r' => P r' ρ3 else P (.sh (.bool false)) ρ2
theorem chain_core {K : PySem.W.Frag} {B : Bs} {r r' : R2} {f g : D → D → (Rv → Prop) → Prop} (ho : OpD K r f) (hg : OpD K r' g) {σ : L2.St} {H : Hp} {Q : VK}
    (h : rd K B (mChain f g ma mb mc) σ H Q) : tChain r r' (rd K B ma) (rd K B mb) (rd K B mc) σ H Q := by
  obtain ⟨U, W, ρ, P, R, p, q⟩ := h
  refine ⟨U, W, ρ, _, R, p, fun r1 ρ1 x H1 p1 R1 a1 k1 _ => ⟨U, W, ρ1, _, R1, p1, fun r2 ρ2 y H2 p2 R2 a2 k2 _ => ?_⟩⟩
  obtain ⟨d, e, e1, e2, p3⟩ := p2
  refine ho U σ H2 x y d e _ _ R2.live ((k1.adv R R1 a1 a2).dt R2 e1) (k2.dt R2 e2) p3 fun rv v H' pr sm k nb => ?_
  obtain ⟨b, rfl, p'⟩ := pr
  have ev : v = .bl b := by cases k; rfl
  have R3 := R2.ext sm
  have a3 : Adv W H H' := (a1.trans a2).trans (Adv.same sm)
  refine ⟨b, ev, ?_⟩
  cases b with
  | true =>
    rw [if_pos rfl] at p' ⊢
    refine ⟨U, W, ρ2, _, R3, p', fun r3 ρ3 z H3 p4 R4 a4 k4 _ => ?_⟩
    obtain ⟨e', d', e5, e6, p5⟩ := p4
    refine hg U σ H3 y z e' d' _ _ R4.live ((k2.adv R1 R2 a2 ((Adv.same sm).trans a4)).dt R4 e5) (k4.dt R4 e6) p5 fun rv v H' pr sm' k nb => ?_
    exact q _ _ _ _ pr (R4.ext sm') ((a3.trans a4).trans (Adv.same sm')) (k.start fun h => R.back R4 (a3.trans a4) h) (hid_of R4 sm' k)
  | false =>
    rw [if_neg Bool.false_ne_true] at p' ⊢
    exact q _ _ _ _ p' R3 a3 (Dq.bl _) trivial
theorem de_chain {op op' : CmpOp} {r r' : R2} {f g : D → D → (Rv → Prop) → Prop} (o1 : OpR X (compareOp op) r) (o2 : OpR X (compareOp op') r') (d1 : OpD X.K r f) (d2 : OpD X.K r' g) (ha : DE X a ma) (hb : DE X b mb) (hc : DE X c mc)
    (hm : lastMarks [op, op'] [b, c] = false := by with_unfolding_all rfl) : DE X (.Compare a [op, op'] [b, c] pos) (mChain f g ma mb mc) :=
  ⟨fun B => pe_imp (pe_chain o1 o2 (ha.run B) (hb.run B) (hc.run B) hm) fun σ H Q h => chain_core d1 d2 h⟩
theorem dt_chain {op op' : CmpOp} {r r' : R2} {f g : D → D → (Rv → Prop) → Prop} (o1 : OpR X (compareOp op) r) (o2 : OpR X (compareOp op') r') (d1 : OpD X.K r f) (d2 : OpD X.K r' g) (ha : DE X a ma) (hb : DE X b mb) (hc : DE X c mc)
    (hm : lastMarks [op, op'] [b, c] = false := by with_unfolding_all rfl) : DT X (.Compare a [op, op'] [b, c] pos) (mTest (mChain f g ma mb mc)) :=
  ⟨fun B => pt_imp (pt_chain o1 o2 (ha.run B) (hb.run B) (hc.run B) hm) fun σ H Q ⟨U, W, ρ, P, R, p, q⟩ =>
    chain_core (B := B) d1 d2 ⟨U, W, ρ, _, R, p, fun r ρ' v H' p' R' a' k kh => by
      obtain ⟨b, rfl, p'⟩ := p'
      have e : v = .bl b := by cases k; rfl
      exact ⟨b, e, q b ρ' H' p' R' a'⟩⟩⟩
end
/-! ### argument lists -/
abbrev MA := En → (List Rv → En → Prop) → Prop
def RvAll (K : PySem.W.Frag) (U : List Addr) (σ : L2.St) (H H' : Hp) : List Rv → List V → Prop
  | [], [] => True
  | r :: rs, v :: vs => RvOk K U σ H H' r v ∧ RvAll K U σ H H' rs vs
  | _, _ => False
def rdA (K : PySem.W.Frag) (B : Bs) (m : MA) : TA := fun σ H Q => ∃ (U W : List Addr) (ρ : En) (P : List Rv → En → Prop), RS K B U W ρ σ H ∧ m ρ P ∧
  ∀ rs ρ' vs H', P rs ρ' → RS K B U W ρ' σ H' → Adv W H H' → RvAll K U σ H H' rs vs → Q vs H'
structure DA (X : Cx) (es : List Expr) (m : MA) : Prop where
  run : ∀ B, PA X es (rdA X.K B m)
theorem pa_imp {X : Cx} {e : List Expr} {t t' : TA} (h : PA X e t) (i : ∀ σ H Q, t' σ H Q → t σ H Q) : PA X e t' :=
  ⟨fun pos pins s σ H Q I q => h.run pos pins s σ H Q I (i σ H Q q)⟩
def mNil : MA := fun ρ P => P [] ρ
def mCons (ma : ME) (mr : MA) : MA := fun ρ P => ma ρ fun r ρ1 => mr ρ1 fun rs ρ2 => P (r :: rs) ρ2
section
variable {X : Cx} {e a b : Expr} {es : List Expr} {pos : Pos} {m ma mb : ME} {mr : MA}
theorem RvAll.start {K : PySem.W.Frag} {B : Bs} {U W : List Addr} {ρ ρ' : En} {σ : L2.St} {H H1 H2 : Hp} (R : RS K B U W ρ σ H) (R1 : RS K B U W ρ' σ H1) (a : Adv W H H1) : ∀ {rs : List Rv} {vs : List V}, RvAll K U σ H1 H2 rs vs → RvAll K U σ H H2 rs vs
  | [], [], _ => trivial
  | r :: rs, v :: vs, ⟨k, t⟩ => ⟨rvOk_from R R1 a k, RvAll.start R R1 a t⟩
  | [], _ :: _, h => h.elim
  | _ :: _, [], h => h.elim
theorem da_nil : DA X [] mNil := ⟨fun B => pa_imp pa_nil fun σ H Q ⟨U, W, ρ, P, R, p, q⟩ => q _ _ _ _ p R Adv.refl trivial⟩
theorem da_cons (ha : DE X e m) (hr : DA X es mr) (hs : starEach (e :: es) X.env = (false, eval e X.env) :: starEach es X.env := by rfl) : DA X (e :: es) (mCons m mr) :=
  ⟨fun B => pa_imp (pa_cons (ha.run B) (hr.run B) hs) fun σ H Q ⟨U, W, ρ, P, R, p, q⟩ => ⟨U, W, ρ, _, R, p, fun r1 ρ1 x H1 p1 R1 a1 k1 _ => ⟨U, W, ρ1, _, R1, p1, fun r2 ρ2 y H2 p2 R2 a2 k2 =>
    q _ _ _ _ p2 R2 (a1.trans a2) ⟨k1.adv R R1 a1 a2, RvAll.start R R1 a1 k2⟩⟩⟩⟩
/-- shared data of a result -/
def Rv.shd : Rv → Option D
  | .sh d => some d
  | .fr xs => some (.list xs)
  | .bw _ => none
def shdAll : List Rv → Option (List D)
  | [] => some []
  | r :: rs => match r.shd, shdAll rs with
    | some d, some ds => some (d :: ds)
    | _, _ => none
def datAll (ρ : En) : List Rv → Option (List D)
  | [] => some []
  | r :: rs => match r.dat ρ, datAll ρ rs with
    | some d, some ds => some (d :: ds)
    | _, _ => none
theorem RvOk.shared {K : PySem.W.Frag} {B : Bs} {U W : List Addr} {ρ : En} {σ : L2.St} {H H1 : Hp} {r : Rv} {v : V} {d : D} (R : RS K B U W ρ σ H) (k : RvOk K U σ H H1 r v) (e : r.shd = some d) : Dq K (cut U H1) v d := by
  cases r with
  | sh d' => cases e; exact k
  | fr xs => cases e; exact RvOk.share R k
  | bw i => cases e
theorem RvAll.shared {K : PySem.W.Frag} {B : Bs} {U W : List Addr} {ρ : En} {σ : L2.St} {H H1 : Hp} (R : RS K B U W ρ σ H) : ∀ {rs : List Rv} {vs : List V} {ds : List D}, RvAll K U σ H H1 rs vs → shdAll rs = some ds → DqAll K (cut U H1) vs ds
  | [], [], _, _, e => by cases e; exact .nil
  | r :: rs, v :: vs, ds, ⟨k, t⟩, e => by
    unfold shdAll at e
    split at e
    · rename_i d ds' e1 e2
      cases e
      exact .cons (k.shared R e1) (RvAll.shared R t e2)
    · cases e
  | [], _ :: _, _, h, _ => h.elim
  | _ :: _, [], _, h, _ => h.elim
def DtAll (K : PySem.W.Frag) (U : List Addr) (H : Hp) : List V → List D → Prop
  | [], [] => True
  | v :: vs, d :: ds => Dt K U H v d ∧ DtAll K U H vs ds
  | _, _ => False
theorem RvAll.dt {K : PySem.W.Frag} {B : Bs} {U W : List Addr} {ρ : En} {σ : L2.St} {H H1 : Hp} (R : RS K B U W ρ σ H1) : ∀ {rs : List Rv} {vs : List V} {ds : List D}, RvAll K U σ H H1 rs vs → datAll ρ rs = some ds → DtAll K U H1 vs ds
  | [], [], _, _, e => by cases e; exact trivial
  | r :: rs, v :: vs, ds, ⟨k, t⟩, e => by
    unfold datAll at e
    split at e
    · rename_i d ds' e1 e2
      cases e
      exact ⟨k.dt R e1, RvAll.dt R t e2⟩
    · cases e
  | [], _ :: _, _, h, _ => h.elim
  | _ :: _, [], _, h, _ => h.elim
/-- displays -/
def mTup (m : MA) : ME := fun ρ P => m ρ fun rs ρ' => ∃ ds, shdAll rs = some ds ∧ ds.length ≤ 100000 ∧ P (.sh (.tuple ds)) ρ'
def mLst (m : MA) : ME := fun ρ P => m ρ fun rs ρ' => ∃ ds, shdAll rs = some ds ∧ ds.length ≤ 100000 ∧ P (.fr ds) ρ'
theorem de_tup {k} (h : DA X es mr) : DE X (.Tuple es k pos) (mTup mr) := ⟨fun B => pe_imp (pe_tupF (h.run B)) fun σ H Q ⟨U, W, ρ, P, R, p, q⟩ =>
  ⟨U, W, ρ, _, R, p, fun rs ρ' vs H' p' R' a' k => by
    obtain ⟨ds, e, hz, p'⟩ := p'
    have t := k.shared R e
    refine ⟨bigLine (by rw [dpAll_len t]; exact hz), rv_tup (K := X.K) (U := U) (σ := σ) (P := fun r => P r ρ') R'.live p' t fun rv v H2 p2 sm k2 _ => ?_⟩
    exact q _ _ _ _ p2 (R'.ext sm) (a'.trans (Adv.same sm)) (rvOk_from R R' a' k2) (hid_of R' sm k2)⟩⟩
theorem de_lst (h : DA X es mr) : DE X (.List es pos) (mLst mr) := ⟨fun B => pe_imp (pe_lst (h.run B)) fun σ H Q ⟨U, W, ρ, P, R, p, q⟩ =>
  ⟨U, W, ρ, _, R, p, fun rs ρ' vs H' p' R' a' k => by
    obtain ⟨ds, e, hz, p'⟩ := p'
    have t := k.shared R e
    refine ⟨bigLine (by rw [dpAll_len t]; exact hz), rv_lst (K := X.K) (U := U) (σ := σ) (P := fun r => P r ρ') R'.live p' t fun rv v H2 p2 sm k2 _ => ?_⟩
    exact q _ _ _ _ p2 (R'.ext sm) (a'.trans (Adv.same sm)) (rvOk_from R R' a' k2) (hid_of R' sm k2)⟩⟩
/-- a built-in over data -/
def OpDC (K : PySem.W.Frag) (r : List V → Hp → VK → Prop) (f : List D → (Rv → Prop) → Prop) : Prop :=
  ∀ (U : List Addr) (σ : L2.St) (H : Hp) (xs : List V) (ds : List D) (P : Rv → Prop) (Q : VK), (∀ a ∈ U, ∃ o, H a = some o) → DtAll K U H xs ds → f ds P →
    (∀ rv v H', P rv → Same H H' → RvOk K U σ H H' rv v → (∀ i, rv ≠ .bw i) → Q v H') → r xs H Q
def mCB (f : List D → (Rv → Prop) → Prop) (m : MA) : ME := fun ρ P => m ρ fun rs ρ' => ∃ ds, datAll ρ' rs = some ds ∧ f ds fun r => P r ρ'
theorem de_cb {r : List V → Hp → VK → Prop} {f : List D → (Rv → Prop) → Prop} (h : ∀ {t : TA}, PA X es t → PE X e (tCB r t)) (ho : OpDC X.K r f) (ha : DA X es mr) : DE X e (mCB f mr) := ⟨fun B => pe_imp (h (ha.run B)) fun σ H Q ⟨U, W, ρ, P, R, p, q⟩ =>
  ⟨U, W, ρ, _, R, p, fun rs ρ' vs H' p' R' a' k => by
    obtain ⟨ds, e, p'⟩ := p'
    refine ho U σ H' vs ds _ Q R'.live (k.dt R' e) p' fun rv v H2 p2 sm k2 _ => ?_
    exact q _ _ _ _ p2 (R'.ext sm) (a'.trans (Adv.same sm)) (rvOk_from R R' a' k2) (hid_of R' sm k2)⟩⟩
end
end Dv
namespace Dv
open PySem PySem.Spec L2
section
variable {K : PySem.W.Frag} {U : List Addr} {H : Hp}
theorem dtAll1 {vs : List V} {d : D} (h : DtAll K U H vs [d]) : ∃ v, vs = [v] ∧ Dt K U H v d := by
  match vs, h with
  | [v], ⟨h, _⟩ => exact ⟨v, rfl, h⟩
theorem dtAll2 {vs : List V} {d e : D} (h : DtAll K U H vs [d, e]) : ∃ v w, vs = [v, w] ∧ Dt K U H v d ∧ Dt K U H w e := by
  match vs, h with
  | [v, w], ⟨h, k, _⟩ => exact ⟨v, w, rfl, h, k⟩
end
def rLenA (K : PySem.W.Frag) : List V → Hp → VK → Prop := fun xs H Q => ∃ x n, xs = [x] ∧ LenV K x H n ∧ Q (.int (n : Nat)) H
def fLen (ds : List D) (P : Rv → Prop) : Prop := match ds with
  | [.list xs] => pI P (xs.length : Int)
  | [.tuple xs] => pI P (xs.length : Int)
  | [.str x] => x.length ≤ 100000 ∧ pI P (x.length : Int)
  | _ => False
theorem d_len {K : PySem.W.Frag} : OpDC K (rLenA K) fLen := fun U σ H xs ds P Q lv hx p q => by
  unfold fLen at p
  split at p
  · obtain ⟨v, rfl, h⟩ := dtAll1 hx
    obtain ⟨a, vs, rfl, h1, h2⟩ := h.list
    refine ⟨_, vs.length, rfl, .inl ⟨vs, SqL.of h1, rfl⟩, ?_⟩
    rw [dpAll_len h2]
    exact rv_scal p (fun _ => .int _) q
  · obtain ⟨v, rfl, h⟩ := dtAll1 hx
    obtain ⟨a, vs, rfl, h1, h2⟩ := h.tuple
    refine ⟨_, vs.length, rfl, .inr ⟨vs, h1, rfl⟩, ?_⟩
    rw [dpAll_len h2]
    exact rv_scal p (fun _ => .int _) q
  · obtain ⟨v, rfl, h⟩ := dtAll1 hx
    rw [h.str]
    exact ⟨_, _, rfl, ⟨bigLine p.1, rfl⟩, rv_scal p.2 (fun _ => .int _) q⟩
  · exact p.elim
def fAbs (ds : List D) (P : Rv → Prop) : Prop := match ds with
  | [.int i] => pI P (if i < 0 then -i else i)
  | _ => False
theorem d_abs {K : PySem.W.Frag} : OpDC K (fun xs H Q => ∃ i, xs = [V.int i] ∧ Q (.int (if i < 0 then -i else i)) H) fAbs := fun U σ H xs ds P Q lv hx p q => by
  unfold fAbs at p
  split at p
  · obtain ⟨v, rfl, h⟩ := dtAll1 hx
    rw [h.int]
    exact ⟨_, rfl, rv_scal p (fun _ => .int _) q⟩
  · exact p.elim
def fMax2 (ds : List D) (P : Rv → Prop) : Prop := match ds with
  | [.int i, .int j] => pI P (if j > i then j else i)
  | _ => False
theorem d_max2 {K : PySem.W.Frag} : OpDC K (fun xs H Q => ∃ i j, xs = [V.int i, V.int j] ∧ Q (.int (if j > i then j else i)) H) fMax2 := fun U σ H xs ds P Q lv hx p q => by
  unfold fMax2 at p
  split at p
  · obtain ⟨v, w, rfl, h, k⟩ := dtAll2 hx
    rw [h.int, k.int]
    exact ⟨_, _, rfl, rv_scal p (fun _ => .int _) q⟩
  · exact p.elim
def fMin2 (ds : List D) (P : Rv → Prop) : Prop := match ds with
  | [.int i, .int j] => pI P (if j < i then j else i)
  | _ => False
theorem d_min2 {K : PySem.W.Frag} : OpDC K (fun xs H Q => ∃ i j, xs = [V.int i, V.int j] ∧ Q (.int (if j < i then j else i)) H) fMin2 := fun U σ H xs ds P Q lv hx p q => by
  unfold fMin2 at p
  split at p
  · obtain ⟨v, w, rfl, h, k⟩ := dtAll2 hx
    rw [h.int, k.int]
    exact ⟨_, _, rfl, rv_scal p (fun _ => .int _) q⟩
  · exact p.elim
def fInt (ds : List D) (P : Rv → Prop) : Prop := match ds with
  | [.int i] => pI P i
  | [.bool b] => pI P (if b then 1 else 0)
  | _ => False
theorem d_int {K : PySem.W.Frag} : OpDC K (fun xs H Q => (∃ i, xs = [V.int i] ∧ Q (.int i) H) ∨ ∃ k, xs = [V.bl k] ∧ Q (.int (if k then 1 else 0)) H) fInt := fun U σ H xs ds P Q lv hx p q => by
  unfold fInt at p
  split at p
  · obtain ⟨v, rfl, h⟩ := dtAll1 hx
    rw [h.int]
    exact .inl ⟨_, rfl, rv_scal p (fun _ => .int _) q⟩
  · obtain ⟨v, rfl, h⟩ := dtAll1 hx
    rw [h.bool]
    exact .inr ⟨_, rfl, rv_scal p (fun _ => .int _) q⟩
  · exact p.elim
def fList (ds : List D) (P : Rv → Prop) : Prop := match ds with
  | [.list xs] => P (.fr xs)
  | [.tuple xs] => P (.fr xs)
  | _ => False
theorem d_list {K : PySem.W.Frag} : OpDC K (fun xs H Q => ∃ p ys, xs = [V.ref p] ∧ (SqL K H p ys ∨ SqT K H p ys) ∧ ∀ l, H l = none → Q (.ref l) (upd H l (.lst ys))) fList := fun U σ H xs ds P Q lv hx p q => by
  unfold fList at p
  split at p
  · obtain ⟨v, rfl, h⟩ := dtAll1 hx
    obtain ⟨a, vs, rfl, h1, h2⟩ := h.list
    exact ⟨a, vs, rfl, .inl (SqL.of h1), rv_lst lv p h2 q⟩
  · obtain ⟨v, rfl, h⟩ := dtAll1 hx
    obtain ⟨a, vs, rfl, h1, h2⟩ := h.tuple
    exact ⟨a, vs, rfl, .inr h1, rv_lst lv p h2 q⟩
  · exact p.elim
def fTuple (ds : List D) (P : Rv → Prop) : Prop := match ds with
  | [.list xs] => P (.sh (.tuple xs))
  | [.tuple xs] => P (.sh (.tuple xs))
  | _ => False
theorem d_tuple {K : PySem.W.Frag} : OpDC K (rTupF K) fTuple := fun U σ H xs ds P Q lv hx p q => by
  unfold fTuple at p
  split at p
  · obtain ⟨v, rfl, h⟩ := dtAll1 hx
    obtain ⟨a, vs, rfl, h1, h2⟩ := h.list
    exact ⟨a, vs, rfl, .inl ⟨SqL.of h1, rv_tup lv p h2 q⟩⟩
  · obtain ⟨v, rfl, h⟩ := dtAll1 hx
    obtain ⟨a, vs, rfl, h1, h2⟩ := h.tuple
    exact ⟨a, vs, rfl, .inr ⟨h1, q _ _ _ p (Same.refl H) h.tupS fun _ h => nomatch h⟩⟩
  · exact p.elim
/-! lists of ints, of bools -/
def intsD : List D → Option (List Int)
  | [] => some []
  | .int i :: r => (intsD r).map (i :: ·)
  | _ => none
theorem intsD_v {K : PySem.W.Frag} {H : Hp} : ∀ {ds : List D} {ns : List Int} {vs : List V}, DqAll K H vs ds → intsD ds = some ns → vs = ns.map V.int
  | [], _, _, h, e => by cases e; cases h; rfl
  | .int i :: r, ns, _, h, e => by
    unfold intsD at e
    obtain ⟨ms, e1, rfl⟩ := Option.map_eq_some_iff.mp e
    cases h with
    | cons h t => cases h; rw [intsD_v t e1]; rfl
  | .none :: _, _, _, _, e => by cases e
  | .bool _ :: _, _, _, _, e => by cases e
  | .str _ :: _, _, _, _, e => by cases e
  | .list _ :: _, _, _, _, e => by cases e
  | .tuple _ :: _, _, _, _, e => by cases e
  | .dict _ :: _, _, _, _, e => by cases e
theorem intsD_map : ∀ ns : List Int, intsD (ns.map .int) = some ns
  | [] => rfl
  | i :: r => by show (intsD (r.map .int)).map (i :: ·) = _; rw [intsD_map r]; rfl
theorem dq_ints {K : PySem.W.Frag} {H : Hp} : ∀ ns : List Int, DqAll K H (ns.map V.int) (ns.map PyData.int)
  | [] => .nil
  | i :: r => .cons (.int i) (dq_ints r)
def bolsD : List D → Option (List Bool)
  | [] => some []
  | .bool i :: r => (bolsD r).map (i :: ·)
  | _ => none
theorem bolsD_v {K : PySem.W.Frag} {H : Hp} : ∀ {ds : List D} {ns : List Bool} {vs : List V}, DqAll K H vs ds → bolsD ds = some ns → vs = ns.map V.bl
  | [], _, _, h, e => by cases e; cases h; rfl
  | .bool i :: r, ns, _, h, e => by
    unfold bolsD at e
    obtain ⟨ms, e1, rfl⟩ := Option.map_eq_some_iff.mp e
    cases h with
    | cons h t => cases h; rw [bolsD_v t e1]; rfl
  | .none :: _, _, _, _, e => by cases e
  | .int _ :: _, _, _, _, e => by cases e
  | .str _ :: _, _, _, _, e => by cases e
  | .list _ :: _, _, _, _, e => by cases e
  | .tuple _ :: _, _, _, _, e => by cases e
  | .dict _ :: _, _, _, _, e => by cases e
theorem bolsD_map : ∀ ns : List Bool, bolsD (ns.map .bool) = some ns
  | [] => rfl
  | i :: r => by show (bolsD (r.map .bool)).map (i :: ·) = _; rw [bolsD_map r]; rfl
def fAll (ds : List D) (P : Rv → Prop) : Prop := match ds with
  | [.list xs] => ∃ bs, bolsD xs = some bs ∧ pB P (bs.all id)
  | _ => False
theorem d_all {K : PySem.W.Frag} : OpDC K (rAll K) fAll := fun U σ H xs ds P Q lv hx p q => by
  unfold fAll at p
  split at p
  · obtain ⟨bs, e, p⟩ := p
    obtain ⟨v, rfl, h⟩ := dtAll1 hx
    obtain ⟨a, vs, rfl, h1, h2⟩ := h.list
    have ev := bolsD_v h2 e
    exact ⟨a, bs, rfl, by rw [← ev]; exact SqL.of h1, rv_scal p (fun _ => .bl _) q⟩
  · exact p.elim
def fAny (ds : List D) (P : Rv → Prop) : Prop := match ds with
  | [.list xs] => ∃ bs, bolsD xs = some bs ∧ pB P (bs.any id)
  | _ => False
theorem d_any {K : PySem.W.Frag} : OpDC K (rAny K) fAny := fun U σ H xs ds P Q lv hx p q => by
  unfold fAny at p
  split at p
  · obtain ⟨bs, e, p⟩ := p
    obtain ⟨v, rfl, h⟩ := dtAll1 hx
    obtain ⟨a, vs, rfl, h1, h2⟩ := h.list
    have ev := bolsD_v h2 e
    exact ⟨a, bs, rfl, by rw [← ev]; exact SqL.of h1, rv_scal p (fun _ => .bl _) q⟩
  · exact p.elim
def fSum (ds : List D) (P : Rv → Prop) : Prop := match ds with
  | [.list xs] => ∃ ns, intsD xs = some ns ∧ pI P ns.sum
  | _ => False
theorem d_sum {K : PySem.W.Frag} : OpDC K (rSum K) fSum := fun U σ H xs ds P Q lv hx p q => by
  unfold fSum at p
  split at p
  · obtain ⟨bs, e, p⟩ := p
    obtain ⟨v, rfl, h⟩ := dtAll1 hx
    obtain ⟨a, vs, rfl, h1, h2⟩ := h.list
    have ev := intsD_v h2 e
    exact ⟨a, bs, rfl, by rw [← ev]; exact SqL.of h1, rv_scal p (fun _ => .int _) q⟩
  · exact p.elim
/-- the greatest, the least of a list of ints -/
def maxI : List Int → Option Int
  | [] => none
  | i :: r => some (r.foldl max i)
def minI : List Int → Option Int
  | [] => none
  | i :: r => some (r.foldl min i)
theorem foldl_max : ∀ (r : List Int) (i : Int), (r.foldl max i ∈ i :: r) ∧ (∀ y ∈ i :: r, y ≤ r.foldl max i)
  | [], i => ⟨List.mem_cons_self, fun y h => by rcases List.mem_cons.mp h with e | e; exact Int.le_of_eq e; cases e⟩
  | j :: r, i => by
    obtain ⟨h1, h2⟩ := foldl_max r (max i j)
    rw [List.foldl_cons]
    refine ⟨?_, fun y hy => ?_⟩
    · rcases List.mem_cons.mp h1 with e | e
      · rw [e]
        by_cases hij : i ≤ j
        · rw [Int.max_eq_right hij]; simp
        · rw [Int.max_eq_left (by omega)]; simp
      · exact List.mem_cons_of_mem _ (List.mem_cons_of_mem _ e)
    · have hm := h2 (max i j) List.mem_cons_self
      rcases List.mem_cons.mp hy with e | e
      · subst e; omega
      · rcases List.mem_cons.mp e with e | e
        · subst e; omega
        · exact h2 y (List.mem_cons_of_mem _ e)
theorem foldl_min : ∀ (r : List Int) (i : Int), (r.foldl min i ∈ i :: r) ∧ (∀ y ∈ i :: r, r.foldl min i ≤ y)
  | [], i => ⟨List.mem_cons_self, fun y h => by rcases List.mem_cons.mp h with e | e; exact Int.le_of_eq e.symm; cases e⟩
  | j :: r, i => by
    obtain ⟨h1, h2⟩ := foldl_min r (min i j)
    rw [List.foldl_cons]
    refine ⟨?_, fun y hy => ?_⟩
    · rcases List.mem_cons.mp h1 with e | e
      · rw [e]
        by_cases hij : i ≤ j
        · rw [Int.min_eq_left hij]; simp
        · rw [Int.min_eq_right (by omega)]; simp
      · exact List.mem_cons_of_mem _ (List.mem_cons_of_mem _ e)
    · have hm := h2 (min i j) List.mem_cons_self
      rcases List.mem_cons.mp hy with e | e
      · subst e; omega
      · rcases List.mem_cons.mp e with e | e
        · subst e; omega
        · exact h2 y (List.mem_cons_of_mem _ e)
def fMaxL (ds : List D) (P : Rv → Prop) : Prop := match ds with
  | [.list xs] => ∃ ns m, intsD xs = some ns ∧ maxI ns = some m ∧ pI P m
  | _ => False
theorem d_maxL {K : PySem.W.Frag} : OpDC K (rMax K) fMaxL := fun U σ H xs ds P Q lv hx p q => by
  unfold fMaxL at p
  split at p
  · obtain ⟨bs, m, e, em, p⟩ := p
    obtain ⟨v, rfl, h⟩ := dtAll1 hx
    obtain ⟨a, vs, rfl, h1, h2⟩ := h.list
    have ev := intsD_v h2 e
    match bs, em with
    | i :: r, em =>
      cases em
      obtain ⟨f1, f2⟩ := foldl_max r i
      refine ⟨a, i :: r, rfl, by rw [← ev]; exact SqL.of h1, Nat.succ_pos _, fun m hm hy => ?_⟩
      have e : m = r.foldl max i := Int.le_antisymm (f2 m hm) (hy _ f1)
      rw [e]
      exact rv_scal p (fun _ => .int _) q
  · exact p.elim
def fMinL (ds : List D) (P : Rv → Prop) : Prop := match ds with
  | [.list xs] => ∃ ns m, intsD xs = some ns ∧ minI ns = some m ∧ pI P m
  | _ => False
theorem d_minL {K : PySem.W.Frag} : OpDC K (rMin K) fMinL := fun U σ H xs ds P Q lv hx p q => by
  unfold fMinL at p
  split at p
  · obtain ⟨bs, m, e, em, p⟩ := p
    obtain ⟨v, rfl, h⟩ := dtAll1 hx
    obtain ⟨a, vs, rfl, h1, h2⟩ := h.list
    have ev := intsD_v h2 e
    match bs, em with
    | i :: r, em =>
      cases em
      obtain ⟨f1, f2⟩ := foldl_min r i
      refine ⟨a, i :: r, rfl, by rw [← ev]; exact SqL.of h1, Nat.succ_pos _, fun m hm hy => ?_⟩
      have e : m = r.foldl min i := Int.le_antisymm (hy _ f1) (f2 m hm)
      rw [e]
      exact rv_scal p (fun _ => .int _) q
  · exact p.elim
/-! sorted, of ints -/
def insI (i : Int) : List Int → List Int
  | [] => [i]
  | j :: r => if i ≤ j then i :: j :: r else j :: insI i r
def isort : List Int → List Int
  | [] => []
  | i :: r => insI i (isort r)
theorem insI_perm (i : Int) : ∀ l : List Int, (insI i l).Perm (i :: l)
  | [] => .refl _
  | j :: r => by
    unfold insI
    split
    · exact .refl _
    · exact ((insI_perm i r).cons j).trans (.swap i j r)
theorem isort_perm : ∀ l : List Int, (isort l).Perm l
  | [] => .refl _
  | i :: r => (insI_perm i _).trans ((isort_perm r).cons i)
theorem insI_sorted (i : Int) : ∀ l : List Int, l.Pairwise (· ≤ ·) → (insI i l).Pairwise (· ≤ ·)
  | [], _ => by simp [insI]
  | j :: r, h => by
    have h' := List.pairwise_cons.mp h
    unfold insI
    split
    · rename_i hij
      refine List.pairwise_cons.mpr ⟨fun y hy => ?_, h⟩
      rcases List.mem_cons.mp hy with e | e
      · rw [e]; exact hij
      · exact Int.le_trans hij (h'.1 y e)
    · rename_i hij
      refine List.pairwise_cons.mpr ⟨fun y hy => ?_, insI_sorted i r h'.2⟩
      rcases List.mem_cons.mp ((insI_perm i r).mem_iff.mp hy) with e | e
      · rw [e]; omega
      · exact h'.1 y e
theorem isort_sorted : ∀ l : List Int, (isort l).Pairwise (· ≤ ·)
  | [] => .nil
  | i :: r => insI_sorted i _ (isort_sorted r)
theorem sorted_unique {l m : List Int} (p : l.Perm m) (h : l.Pairwise (· ≤ ·)) (k : m.Pairwise (· ≤ ·)) : l = m :=
  p.eq_of_pairwise (fun a b _ _ h1 h2 => Int.le_antisymm h1 h2) h k
theorem isort_eq {l m : List Int} (p : l.Perm m) (h : l.Pairwise (· ≤ ·)) : l = isort m := sorted_unique (p.trans (isort_perm m).symm) h (isort_sorted m)
theorem isort_of_perm {l m : List Int} (p : l.Perm m) : isort l = isort m := isort_eq ((isort_perm l).trans p) (isort_sorted l)
theorem isort_id {l : List Int} (h : l.Pairwise (· ≤ ·)) : isort l = l := (isort_eq (.refl l) h).symm
end Dv
namespace Dv
open PySem PySem.Spec
section
open PyProof.Rows
variable {prog : Program} {w : World} {A : Around} {E : Value → Shared → Prop} {s : Shared}
abbrev grown (g : Heap) (us : List Value) : Heap := (g.push (seqObj "list" #[] 0)).update g.objs.size (Obj.mapSeq fun z => z ++ us.toArray)
/-- a tuple's items are collected -/
theorem gather_tup {tp : Addr} {us : List Value} {R : List Value → Shared → Prop} (ht : s.heap.IsTuple tp us.toArray) (hz : us.length ≤ sizeLine) (k : R us { s with heap := grown s.heap us }) :
    wpAny (model prog w) A (collect (.ref tp)) R E s := by
  obtain ⟨ob, h1, h2, n, h3⟩ := id ht
  have g1 : (s.heap.push (seqObj "list" #[] 0)).get? tp = some ob := Heap.get?_push_of_some _ h1
  have g2 : (s.heap.push (seqObj "list" #[] 0)).get? s.heap.objs.size = some (seqObj "list" #[] 0) := Heap.get?_push_size _ rfl
  unfold collect
  refine wpAny_bind (wpAny_runValue (codeAny_builtin entry_proto_collect' ?_))
  show wpAny _ _ (do
    again (.builtin "list.__iadd__" ⟨[← newList [], .ref tp], []⟩)) _ _ s
  refine wpAny_bind (wpAny_newList (wpAny_pure ⟨Code.quiet_builtin _ (by decide +kernel), ?_⟩))
  refine codeAny_builtin entry_list_iadd' ?_
  show wpAny _ _ (Builtin.List.listExtendWith (.ref s.heap.objs.size)
    (.ref tp) (.ref s.heap.objs.size)) _ _ _
  unfold Builtin.List.listExtendWith
  refine wpAny_bind (wpAny_typeOf (T := "tuple") ⟨ob, g1, h2⟩ ?_)
  have c : (Builtin.List.listSameRef (.ref s.heap.objs.size) (.ref tp) || Value.type "tuple" == Value.type "list" ||
      Value.type "tuple" == Value.type "tuple") = true := by
    rw [show (Value.type "tuple" == Value.type "tuple") = true from rfl, Bool.or_true]
  rw [if_pos c]
  refine wpAny_bind (listItems_at g1 h3 (wpAny_bind (listItems_at g2 rfl ?_)))
  rw [if_neg (by simp)]
  have z2 : (#[] ++ us.toArray : Array Value).size ≤ sizeLine + 1 := by
    rw [Array.size_append, List.size_toArray]
    show 0 + us.length ≤ _
    omega
  refine wpAny_bind (listUpdate_at g2 rfl (wpAny_pure ?_) (Nat.zero_le _) z2)
  show wpAny (model prog w) A (do
      let ob ← load s.heap.objs.size
      match ob.data with
      | .seq zs _ => pure zs.toList
      | _ => unsupported "internal:collect") R E { s with heap := grown s.heap us }
  refine wpAny_bind (wpAny_load (get?_update_seq g2 _) ?_)
  show wpAny _ _ (pure ((#[] : Array Value) ++ us.toArray).toList) R E _
  have e : ((#[] : Array Value) ++ us.toArray).toList = us := by simp
  rw [e]
  exact wpAny_pure k
/-- sorted of a tuple -/
theorem sorted_tup {tp : Addr} {us : List Value} {lt : Value → Value → Bool} {R : Value → Shared → Prop} (O : SrtO.Swo lt) (ht : s.heap.IsTuple tp us.toArray) (hz : us.length ≤ sizeLine)
    (hS : 2 ≤ us.length → ∀ (g : Heap) (a : Addr), g.get? a = some (seqObj "list" us.toArray 0) → (∀ b o, s.heap.get? b = some o → b ≠ a ∧ g.get? b = some o) →
      SrtO.SortableO prog w A.in1.in1 { s with heap := g } a us lt)
    (k : ∀ zs : List Value, SrtO.Srtd lt zs → SrtO.Stb lt zs us → R (.ref (s.heap.objs.size + 1)) { s with heap := sortedAll s.heap us zs.toArray }) :
    wpAny (model prog w) A (call (.builtin "sorted") [.ref tp]) R E s := by
  refine Calls.call_function_entry kind_sorted plain_sorted entry_sorted (args_sorted1 _) ?_
  unfold Builtin.«sorted»
  refine wpAny_bind (m := checkCount "sorted" 1 1 _) (wpAny_pure (wpAny_bind (gather_tup ht hz (wpAny_bind (wpAny_newList ?_ hz)))))
  have z1 : (grown s.heap us).objs.size = s.heap.objs.size + 1 := by rw [Heap.size_update, size_push']
  have at1 : ((grown s.heap us).push (seqObj "list" us.toArray 0)).get? (s.heap.objs.size + 1) = some (seqObj "list" us.toArray 0) := by
    rw [← z1]
    exact Heap.get?_push_size _ rfl
  have old : ∀ b o, s.heap.get? b = some o → b ≠ s.heap.objs.size + 1 ∧ ((grown s.heap us).push (seqObj "list" us.toArray 0)).get? b = some o := fun b o e => by
    have l1 : b < s.heap.objs.size := Heap.lt_size e
    refine ⟨Nat.ne_of_lt (Nat.lt_succ_of_lt l1), Heap.get?_push_of_some _ ?_⟩
    unfold grown
    rw [Heap.get?_update_ne _ _ _ _ (Nat.ne_of_lt l1)]
    exact Heap.get?_push_of_some _ e
  show wpAny _ _ _ _ _ { s with heap := (grown s.heap us).push (seqObj "list" us.toArray 0) }
  rw [z1]
  refine wpAny_bind (wpAny_holding (wpAny_call_entry slot_list_sort ⟨_, at1, rfl⟩ entry_list_sort (SrtO.list_sort_ord O at1 hz (fun h2 => hS h2 _ _ at1 old) fun zs q1 q2 => ⟨_, rfl, ?_⟩) (args_list_sort _)))
  exact wpAny_pure ⟨_, rfl, k zs q1 q2⟩
end
open L2
/-- sorted(x): a list or a tuple of ints -/
def rSrtA (K : PySem.W.Frag) : List V → Hp → VK → Prop := fun vs H Q => ∃ (a : Addr) (ns : List Int), vs = [V.ref a] ∧ (SqL K H a (ns.map V.int) ∨ SqT K H a (ns.map V.int)) ∧
  ∀ p, H p = none → Q (.ref p) (upd H p (.lst ((isort ns).map V.int)))
theorem call_srtA {X : Cx} : CallR X (.builtin "sorted") (rSrtA X.K) := by
  intro pins s σ H vs us Q I r h
  obtain ⟨a, ns, rfl, hs | hs, q⟩ := h
  · exact cr_sortedI pins s σ H _ us Q I r ⟨a, ns, rfl, hs, fun ns' p h1 h2 h3 => by
      rw [isort_eq h1 h2]; exact q p h3⟩
  · obtain ⟨its, rv, ht, hz⟩ := I.tuple hs
    rw [Vals.ref1 r]
    have hi := rv.ints
    refine sorted_tup SrtO.swo_int ht (by rw [← rv.length]; exact hz) (fun h2 g a' _ _ => SrtO.ints_sortable hi h2) fun out h1 h2 => ?_
    obtain ⟨k1, k2, k3⟩ := SrtO.ints_out hi h1 h2
    obtain ⟨ep, he'⟩ := PyProof.Rows.sortedAll_at s.heap its out.toArray
    have e : out.map SrtO.iv = isort ns := isort_eq k2 k3
    have hlen : ((isort ns).map V.int).length ≤ sizeLine := by
      rw [List.length_map, (isort_perm ns).length_eq]
      rw [List.length_map] at hz
      exact hz
    rw [e] at k1
    have fr : H (s.heap.objs.size + 1) = none := I.hok.fresh (Nat.le_succ _)
    exact ⟨.ref _, upd H (s.heap.objs.size + 1) (.lst ((isort ns).map V.int)), I.laid (t' := s.toks) (fun _ _ => PyProof.Rows.sortedAll_old) (Nat.le_succ _) ⟨hlen, out, ep, vals_of_ints k1, he'⟩, rfl, q _ fr⟩
def fSrt (ds : List D) (P : Rv → Prop) : Prop := match ds with
  | [.list xs] => ∃ ns, intsD xs = some ns ∧ P (.fr ((isort ns).map .int))
  | [.tuple xs] => ∃ ns, intsD xs = some ns ∧ P (.fr ((isort ns).map .int))
  | _ => False
theorem d_srt {K : PySem.W.Frag} : OpDC K (rSrtA K) fSrt := fun U σ H xs ds P Q lv hx p q => by
  unfold fSrt at p
  split at p
  · obtain ⟨ns, e, p⟩ := p
    obtain ⟨v, rfl, h⟩ := dtAll1 hx
    obtain ⟨a, vs, rfl, h1, h2⟩ := h.list
    have ev := intsD_v h2 e
    exact ⟨a, ns, rfl, .inl (by rw [← ev]; exact SqL.of h1), rv_lst lv p (dq_ints _) q⟩
  · obtain ⟨ns, e, p⟩ := p
    obtain ⟨v, rfl, h⟩ := dtAll1 hx
    obtain ⟨a, vs, rfl, h1, h2⟩ := h.tuple
    have ev := intsD_v h2 e
    exact ⟨a, ns, rfl, .inr (by rw [← ev]; exact h1), rv_lst lv p (dq_ints _) q⟩
  · exact p.elim
/-! ### repr -/
def rReprA (K : PySem.W.Frag) : List V → Hp → VK → Prop := fun xs H Q => ∃ x d, xs = [x] ∧ Dp K H x d ∧ d.showable = true ∧ SeqAt.shaped d = true ∧ d.shown.length ≤ sizeLine ∧ Q (.str d.shown) H
theorem call_reprA {X : Cx} (hg : X.A.guards = some []) (hu : X.A.units + 66 < cLine) : CallR X (.builtin "repr") (rReprA X.K) := by
  intro pins s σ H vs us Q I r h
  obtain ⟨x, d, rfl, hd, sh, sp, hz, q⟩ := h
  obtain ⟨u, rfl, ru⟩ := vals1 r
  have dep := SeqAt.depth_of_shaped sp
  have nd := PyData.hasDict_of_canLay d (SeqAt.canLay_of_shaped sp)
  have big : ∀ {a : Addr}, x = .ref a → wpAny (model X.prog X.w) X.A (call (.builtin "repr") [u]) (EP X pins σ Q) X.xe s := fun {a} e => by
    obtain ⟨as, rd⟩ := Dp.reads I d x u hd ru
    subst e
    cases ru
    exact repr_of_reads' rd sh (PyData.noDict_hsm nd) hg (by omega) (fun _ _ e => e) (fun h' u' tk k => ⟨.str _, H, I.kept k, ⟨_, rfl⟩, q⟩) hz
  cases hd with
  | non => cases ru; exact PySem.P.repr_of_none ⟨.str _, H, I.tok _, ⟨_, rfl⟩, q⟩
  | bl b => cases ru; exact PySem.P.repr_of_bool ⟨.str _, H, I.tok _, ⟨_, rfl⟩, q⟩
  | int i => obtain ⟨t, rfl⟩ := ru; exact PySem.P.repr_of_int (of_decide_eq_true sh) ⟨.str _, H, I.tok _, ⟨_, rfl⟩, q⟩
  | str y => obtain ⟨t, rfl⟩ := ru; exact PySem.P.repr_of_str ⟨.str _, H, I.tok _, ⟨_, rfl⟩, q⟩ hz
  | lst _ _ => exact big rfl
  | tup _ _ => exact big rfl
def fRepr (ds : List D) (P : Rv → Prop) : Prop := match ds with
  | [d] => d.showable = true ∧ SeqAt.shaped d = true ∧ d.shown.length ≤ 1000000 ∧ P (.sh (.str d.shown))
  | _ => False
theorem d_repr {K : PySem.W.Frag} : OpDC K (rReprA K) fRepr := fun U σ H xs ds P Q lv hx p q => by
  unfold fRepr at p
  split at p
  · obtain ⟨p1, p2, p3, p⟩ := p
    obtain ⟨v, rfl, h⟩ := dtAll1 hx
    exact ⟨_, _, rfl, h.dq.dp, p1, p2, Nat.le_trans p3 (by decide), rv_scal p (fun _ => .str _) q⟩
  · exact p.elim
/-! ### isinstance -/
def tyD : D → String
  | .none => "NoneType"
  | .bool _ => "bool"
  | .int _ => "int"
  | .str _ => "str"
  | .list _ => "list"
  | .tuple _ => "tuple"
  | .dict _ => "dict"
def isT (t T : String) : Bool := t == T || (t == "bool" && T == "int")
theorem tyx_of {K : PySem.W.Frag} {H : Hp} {v : V} {d : D} (h : Dq K H v d) : TyX K H v (.type (tyD d)) := by
  cases h with
  | non => exact .base .non
  | bl b => exact .base (.bl b)
  | int i => exact .base (.int i)
  | str x => exact .base (.str x)
  | lst h _ => exact .base (.lst h)
  | tup h _ =>
    rcases h with ⟨o, h, _⟩ | ⟨o, its, n, h, c, _⟩
    · exact .fTuple h
    · exact .kTuple h c.1
abbrev tysK : List String := ["int", "bool", "tuple", "list", "str", "dict"]
theorem kit_all {K : PySem.W.Frag} {d : D} {T : String} (hT : T ∈ tysK) : PySem.W.kitOne K (.type (tyD d)) (.type T) = some (isT (tyD d) T) := by
  refine kit_ty ?_
  have all : ∀ t ∈ ["NoneType", "bool", "int", "str", "list", "tuple", "dict"], ∀ T ∈ tysK, kitB t T = some (isT t T) := by decide +kernel
  exact all _ (by cases d <;> simp [tyD]) _ hT
def mIsi (T : String) (m : ME) : ME := fun ρ P => m ρ fun r ρ' => ∃ d, r.dat ρ' = some d ∧ P (.sh (.bool (isT (tyD d) T))) ρ'
section
variable {X : Cx} {e a b : Expr} {es : List Expr} {pos : Pos} {m ma mb : ME}
theorem de_isi {T : String} {ts : TA} (hT : T ∈ tysK) (ht : PA X es ts) (hts : ∀ σ H Q, Q [V.ty T] H → ts σ H Q) (h : ∀ {t : TA}, PA X (a :: es) t → PE X e (tCB (rIsi X.K) t)) (ha : DE X a m)
    (hs : starEach (a :: es) X.env = (false, eval a X.env) :: starEach es X.env := by rfl) : DE X e (mIsi T m) := ⟨fun B => pe_imp (h (pa_cons (ha.run B) ht hs)) fun σ H Q ⟨U, W, ρ, P, R, p, q⟩ =>
  ⟨U, W, ρ, _, R, p, fun r ρ' v H' p' R' a' k kh => hts _ _ _ (by
    obtain ⟨d, e, p'⟩ := p'
    exact ⟨v, .ty T, _, _, _, rfl, .ty T, tyx_of (k.dt R' e).dq, kit_all hT, q _ _ _ _ p' R' a' (Dq.bl _) trivial⟩)⟩⟩
/-- isinstance(x, (T, S)) -/
def mIsi2 (T S : String) (m : ME) : ME := fun ρ P => m ρ fun r ρ' => ∃ d, r.dat ρ' = some d ∧ P (.sh (.bool (isT (tyD d) T || isT (tyD d) S))) ρ'
theorem de_isi2 {T S : String} {ts : TA} (hT : T ∈ tysK) (hS : S ∈ tysK) (ht : PA X es ts) (hts : ∀ σ H Q, (∀ p, H p = none → Q [V.ref p] (upd H p (.tup [V.ty T, V.ty S]))) → ts σ H Q) (h : ∀ {t : TA}, PA X (a :: es) t → PE X e (tCB (rIsiT X.K) t)) (ha : DE X a m)
    (hs : starEach (a :: es) X.env = (false, eval a X.env) :: starEach es X.env := by rfl) : DE X e (mIsi2 T S m) := ⟨fun B => pe_imp (h (pa_cons (ha.run B) ht hs)) fun σ H Q ⟨U, W, ρ, P, R, p, q⟩ =>
  ⟨U, W, ρ, _, R, p, fun r ρ' v H' p' R' a' k kh => hts _ _ _ fun n hn => by
    obtain ⟨d, e, p'⟩ := p'
    have k1 := kit_all (K := X.K) (d := d) hT
    have k2 := kit_all (K := X.K) (d := d) hS
    have sm : Same H' (upd H' n (.tup [V.ty T, V.ty S])) := same_new hn
    refine ⟨v, n, _, _, _, (isT (tyD d) T || isT (tyD d) S), rfl, upd_same, .cons (.ty T) (.cons (.ty S) .nil), tyx_of (dp_mono sm (k.dt R' e).dq), ?_, q _ _ _ _ p' (R'.ext sm) (a'.trans (Adv.same sm)) (Dq.bl _) trivial⟩
    refine kitAny_cons k1 (fun z => ?_) fun z => by rw [z]; rfl
    rw [z, Bool.false_or]
    exact kitAny_cons k2 (fun z => by rw [z]; exact kitAny_nil) fun z => z⟩⟩
/-! ### slices -/
abbrev MO := En → (Option Int → En → Prop) → Prop
def rdO (K : PySem.W.Frag) (B : Bs) (m : MO) : TO := fun σ H Q => ∃ (U W : List Addr) (ρ : En) (P : Option Int → En → Prop), RS K B U W ρ σ H ∧ m ρ P ∧
  ∀ o ρ' H', P o ρ' → RS K B U W ρ' σ H' → Adv W H H' → Q o H'
structure DO (X : Cx) (e : Option Expr) (m : MO) : Prop where
  run : ∀ B, PO X e (rdO X.K B m)
theorem po_imp {e : Option Expr} {t t' : TO} (h : PO X e t) (i : ∀ σ H Q, t' σ H Q → t σ H Q) : PO X e t' :=
  ⟨fun pins s σ H Q I q => h.run pins s σ H Q I (i σ H Q q)⟩
def mO0 : MO := fun ρ P => P none ρ
def mO1 (m : ME) : MO := fun ρ P => m ρ fun r ρ' => ∃ i, r = .sh (.int i) ∧ P (some i) ρ'
theorem do_none : DO X none mO0 := ⟨fun B => po_imp po_none fun σ H Q ⟨U, W, ρ, P, R, p, q⟩ => q _ _ _ p R Adv.refl⟩
theorem do_some (ha : DE X a m) : DO X (some a) (mO1 m) := ⟨fun B => po_imp (po_some (ha.run B)) fun σ H Q ⟨U, W, ρ, P, R, p, q⟩ => ⟨U, W, ρ, _, R, p, fun r ρ' v H' p' R' a' k kh => by
  obtain ⟨i, rfl, p'⟩ := p'
  have e : v = .int i := by cases k; rfl
  exact ⟨i, e, q _ _ _ p' R' a'⟩⟩⟩
def cutD (xs : List D) (lo hi : Option Int) : List D := (xs.drop (HT.sIx xs.length 0 lo)).take (HT.sIx xs.length xs.length hi - HT.sIx xs.length 0 lo)
theorem cut_dq {K : PySem.W.Frag} {H : Hp} {vs : List V} {ds : List D} (h : DqAll K H vs ds) (lo hi : Option Int) : DqAll K H (cutV vs lo hi) (cutD ds lo hi) := by
  unfold cutV cutD
  rw [dpAll_len h]
  exact dpAll_take _ (dpAll_drop _ h)
theorem cut_whole {vs : List V} {xs : List D} {lo hi : Option Int} (l : vs.length = xs.length) (z1 : HT.sIx vs.length 0 lo = 0) (z2 : HT.sIx vs.length vs.length hi = vs.length) : cutD xs lo hi = xs := by
  unfold cutD
  rw [← l, z1, z2, List.drop_zero, Nat.sub_zero, l, List.take_length]
def fSl (d : D) (lo hi : Option Int) (P : Rv → Prop) : Prop := match d with
  | .list xs => P (.fr (cutD xs lo hi))
  | .tuple xs => P (.sh (.tuple (cutD xs lo hi)))
  | _ => False
def mSl (m : ME) (l h : MO) : ME := fun ρ P => m ρ fun r ρ1 => l ρ1 fun lo ρ2 => h ρ2 fun hi ρ3 => ∃ d, r.dat ρ3 = some d ∧ fSl d lo hi fun r => P r ρ3
theorem de_sl {lo hi : Option Expr} {l h : MO} {p2 : Pos} (ha : DE X a m) (hl : DO X lo l) (hh : DO X hi h) : DE X (.Subscript a (.Slice lo hi none p2) pos) (mSl m l h) :=
  ⟨fun B => pe_imp (pe_slice (sl_list.or sl_tupF) (ha.run B) (hl.run B) (hh.run B)) fun σ H Q ⟨U, W, ρ, P, R, p, q⟩ =>
    ⟨U, W, ρ, _, R, p, fun r ρ1 v H1 p1 R1 a1 k1 _ => ⟨U, W, ρ1, _, R1, p1, fun lo ρ2 H2 p2 R2 a2 => ⟨U, W, ρ2, _, R2, p2, fun hi ρ3 H3 p3 R3 a3 => by
      obtain ⟨d, e, p4⟩ := p3
      have kt := (k1.adv R R1 a1 (a2.trans a3)).dt R3 e
      have aa : Adv W H H3 := (a1.trans a2).trans a3
      have fin : ∀ rv v H', P rv ρ3 → Same H3 H' → RvOk X.K U σ H3 H' rv v → (∀ i, rv ≠ .bw i) → Q v H' := fun rv v H' p' sm k _ =>
        q _ _ _ _ p' (R3.ext sm) (aa.trans (Adv.same sm)) (rvOk_from R R3 aa k) (hid_of R3 sm k)
      unfold fSl at p4
      split at p4
      · obtain ⟨a, vs, rfl, h1, h2⟩ := kt.list
        exact .inl ⟨a, vs, rfl, SqL.of h1, rv_lst (P := fun r => P r ρ3) R3.live p4 (cut_dq h2 lo hi) fin⟩
      · obtain ⟨a, vs, rfl, h1, h2⟩ := kt.tuple
        refine .inr ⟨a, vs, rfl, h1, fun zz => ?_, fun _ => rv_tup (P := fun r => P r ρ3) R3.live p4 (cut_dq h2 lo hi) fin⟩
        rw [cut_whole (dpAll_len h2) zz.1 zz.2] at p4
        exact fin _ _ _ p4 (Same.refl _) kt.tupS fun _ h => nomatch h
      · exact p4.elim⟩⟩⟩⟩
end
end Dv
namespace Dv
open PySem PySem.Spec L2
/-! ### the state behind a step -/
theorem set_get {α : Type} {l : List α} {i j : Nat} {x y : α} (h : (l.set i x)[j]? = some y) : (j = i ∧ i < l.length ∧ y = x) ∨ (j ≠ i ∧ l[j]? = some y) := by
  rw [List.getElem?_set] at h
  by_cases e : i = j
  · subst e
    rw [if_pos rfl] at h
    by_cases hl : i < l.length
    · rw [if_pos hl] at h; cases h; exact .inl ⟨rfl, hl, rfl⟩
    · rw [if_neg hl] at h; cases h
  · rw [if_neg e] at h
    exact .inr ⟨fun z => e z.symm, h⟩
theorem set_ne {α : Type} {l : List α} {i j : Nat} {x : α} (h : j ≠ i) : (l.set i x)[j]? = l[j]? := List.getElem?_set_ne fun e => h e.symm
section
variable {K : PySem.W.Frag} {B : Bs} {U W : List Addr} {ρ ρ' : En} {σ σ' : L2.St} {H H' H1 H2 : Hp} {i : Nat} {v : V} {d : D}
/-- one slot anew: its addresses are F -/
theorem Own.set {Pi : List Addr} {fp : Nat → List Addr} (h : Own K Pi U W H ρ σ fp) {s : Sl} {x : Option V} {F : List Addr} (k : SlF K Pi U W H s x F) (l : ρ.length = σ.length) (ap : ∀ j s' a, j ≠ i → ρ[j]? = some s' → a ∈ fp j → a ∉ F) :
    Own K Pi U W H (List.set ρ i s) (List.set σ i x) (fun j => if j = i then F else fp j) := by
  refine ⟨fun j t q => ?_, fun j m t t' a q1 q2 m1 m2 => ?_⟩
  · rcases set_get q with ⟨rfl, hl, rfl⟩ | ⟨hj, q⟩
    · rw [List.getElem?_set_self (by rw [← l]; exact hl), if_pos rfl]
      exact k
    · rw [set_ne hj, if_neg hj]
      exact h.sl j t q
  · rcases set_get q1 with ⟨e1, _, _⟩ | ⟨n1, q1⟩
    · rcases set_get q2 with ⟨e2, _, _⟩ | ⟨n2, q2⟩
      · exact e1.trans e2.symm
      · rw [if_pos e1] at m1
        rw [if_neg n2] at m2
        exact absurd m1 (ap m _ a n2 q2 m2)
    · rw [if_neg n1] at m1
      rcases set_get q2 with ⟨e2, _, _⟩ | ⟨n2, q2⟩
      · rw [if_pos e2] at m2
        exact absurd m2 (ap j _ a n1 q1 m1)
      · rw [if_neg n2] at m2
        exact h.dj j m _ _ a q1 q2 m1 m2
/-- .. where σ stays -/
theorem Own.set' {Pi : List Addr} {fp : Nat → List Addr} (h : Own K Pi U W H ρ σ fp) {s : Sl} {F : List Addr} (k : SlF K Pi U W H s (σ[i]?.join) F) (ap : ∀ j s' a, j ≠ i → ρ[j]? = some s' → a ∈ fp j → a ∉ F) :
    Own K Pi U W H (List.set ρ i s) σ (fun j => if j = i then F else fp j) := by
  refine ⟨fun j t q => ?_, fun j m t t' a q1 q2 m1 m2 => ?_⟩
  · rcases set_get q with ⟨rfl, hl, rfl⟩ | ⟨hj, q⟩
    · rw [if_pos rfl]
      exact k
    · rw [if_neg hj]
      exact h.sl j t q
  · rcases set_get q1 with ⟨e1, _, _⟩ | ⟨n1, q1⟩
    · rcases set_get q2 with ⟨e2, _, _⟩ | ⟨n2, q2⟩
      · exact e1.trans e2.symm
      · rw [if_pos e1] at m1
        rw [if_neg n2] at m2
        exact absurd m1 (ap m _ a n2 q2 m2)
    · rw [if_neg n1] at m1
      rcases set_get q2 with ⟨e2, _, _⟩ | ⟨n2, q2⟩
      · rw [if_pos e2] at m2
        exact absurd m2 (ap j _ a n1 q1 m1)
      · rw [if_neg n2] at m2
        exact h.dj j m _ _ a q1 q2 m1 m2
theorem RS.setSh (R : RS K B U W ρ σ H) (h : Dq K (Dv.cut U H) v d) : RS K B U W (List.set ρ i (.sh d)) (σ.set i (some v)) H :=
  ⟨by rw [List.length_set, List.length_set, R.len], let ⟨fp, O⟩ := R.own; ⟨_, O.set (F := []) ⟨rfl, v, rfl, h⟩ R.len fun _ _ _ _ _ _ => List.not_mem_nil⟩, R.live, R.wu, R.wz, R.stay, R.wn, R.vis, R.u0, R.pw, R.pots⟩
theorem RS.setUn (R : RS K B U W ρ σ H) {x : Option V} : RS K B U W (List.set ρ i .un) (List.set σ i x) H :=
  ⟨by rw [List.length_set, List.length_set, R.len], let ⟨fp, O⟩ := R.own; ⟨_, O.set (F := []) rfl R.len fun _ _ _ _ _ _ => List.not_mem_nil⟩, R.live, R.wu, R.wz, R.stay, R.wn, R.vis, R.u0, R.pw, R.pots⟩
/-- an address that no one has -/
structure Loose (B : Bs) (W : List Addr) (p : Addr) : Prop where
  z : B.Z p = none
  pi : p ∉ B.Pi
  u0 : p ∉ B.U0
  w : p ∉ W
theorem RS.loose (R : RS K B U W ρ σ H) {p : Addr} (n : H p = none) : Loose B W p := by
  have nu := R.nu n
  refine ⟨?_, fun m => ?_, fun m => nu (R.u0 p m), fun m => nu (R.wu p m)⟩
  · cases q : B.Z p with
    | none => rfl
    | some o => have := R.stay p o q; rw [n] at this; cases this
  · obtain ⟨x, y, q, _⟩ := R.pots p m
    rw [n] at q; cases q
/-- loose addresses become writable, one slot owns them -/
theorem RS.setNew (R : RS K B U W ρ σ H) {p : Addr} {h : HO} {o : OO} {ps : List Addr} (l : ∀ a ∈ p :: ps, Loose B W a) (mu : ∀ a ∈ p :: ps, a ∈ U) (nd : (p :: ps).Nodup) (e : H p = some h) (k : OR K U H o h ps) :
    RS K B U (p :: ps ++ W) (List.set ρ i (Sl.ow o)) (List.set σ i (some (.ref p))) H := by
  obtain ⟨fp, O⟩ := R.own
  have c : Same (Dv.cut U H) (Dv.cut U H) := Same.refl _
  have O2 := O.mono (W' := p :: ps ++ W) c (fun a m _ => List.mem_append_right _ m) fun _ _ _ _ q => q
  have O3 := O2.set (i := i) (s := .ow o) (x := some (.ref p)) (F := p :: ps) ⟨p, h, ps, rfl, nd, fun b m => ⟨List.mem_append_left _ m, (l b m).pi⟩, rfl, e, k⟩ R.len (fun j s' a _ q m z =>
    (l a z).w ((O.sl j s' q).own a m).1)
  refine ⟨by rw [List.length_set, List.length_set, R.len], ⟨_, O3⟩, R.live, fun a m => ?_, fun a m => ?_, R.stay, fun a m => ?_, R.vis, R.u0, fun a m => List.mem_append_right _ (R.pw a m), R.pots⟩
  · exact (List.mem_append.mp m).elim (mu a) (R.wu a)
  · exact (List.mem_append.mp m).elim (fun z => (l a z).z) (R.wz a)
  · exact (List.mem_append.mp m).elim (fun z => .inr (l a z).u0) (R.wn a)
/-- a loose list comes into a slot: from now on it is owned -/
theorem RS.setLoose (R : RS K B U W ρ σ H) {p : Addr} {vs : List V} {xs : List D} (l : Loose B W p) (mu : p ∈ U) (e : H p = some (.lst vs)) (t : DqAll K (Dv.cut U H) vs xs) :
    RS K B U (p :: W) (List.set ρ i (Sl.ow (.lst xs))) (List.set σ i (some (.ref p))) H :=
  R.setNew (ps := []) (fun a m => by rw [List.mem_singleton.mp m]; exact l) (fun a m => by rw [List.mem_singleton.mp m]; exact mu) (List.nodup_cons.mpr ⟨List.not_mem_nil, List.nodup_nil⟩) e ⟨rfl, vs, rfl, t⟩
/-- a new list comes into a slot -/
theorem RS.setOw (R0 : RS K B U W ρ' σ' H') {xs : List D} (k : RvOk K U σ' H' H (.fr xs) v) (h : Hid K B U W ρ σ H (.fr xs) v) : ∃ U' W', RS K B U' W' (List.set ρ i (Sl.ow (.lst xs))) (List.set σ i (some v)) H := by
  obtain ⟨p, vs, rfl, n, e, t⟩ := k
  exact ⟨p :: U, p :: W, (h p rfl).setLoose (R0.loose n) List.mem_cons_self e t⟩
/-- an own object changes at one of its addresses -/
theorem RS.updAt (R : RS K B U W ρ σ H) {a q : Addr} {o o' : OO} {h0 h h' : HO} {ps : List Addr} (qi : ρ[i]? = some (Sl.ow o)) (e : σ[i]? = some (some (V.ref a))) (k0 : ∀ b ∈ a :: ps, b ∈ W ∧ b ∉ B.Pi) (hq : q ∈ a :: ps)
    (fpi : ∀ fp, Own K B.Pi U W H ρ σ fp → fp i = a :: ps ∧ (a :: ps).Nodup) (ha : upd H q h a = some h') (k : Same (Dv.cut U H) (Dv.cut U (upd H q h)) → OR K U (upd H q h) o' h' ps) :
    RS K B U W (List.set ρ i (Sl.ow o')) σ (upd H q h) ∧ Adv W H (upd H q h) ∧ Same (Dv.cut U H) (Dv.cut U (upd H q h)) := by
  have mW := (k0 q hq).1
  have nP := (k0 q hq).2
  have mU := R.wu q mW
  have c : Same (Dv.cut U H) (Dv.cut U (upd H q h)) := cut_mono (fun _ h => .inl h) fun b x n z => by
    rw [upd_ne (show b ≠ q from fun w => n (w ▸ mU))]; exact z
  obtain ⟨fp, O⟩ := R.own
  obtain ⟨ef, nd⟩ := fpi fp O
  have O2 : Own K B.Pi U W (upd H q h) (List.set ρ i (Sl.ow o')) σ fp := by
    refine ⟨fun j t z => ?_, fun j m t t' b q1 q2 m1 m2 => ?_⟩
    · rcases set_get z with ⟨rfl, hl, rfl⟩ | ⟨hj, z⟩
      · rw [ef, e]
        exact ⟨a, h', ps, rfl, nd, k0, rfl, ha, k c⟩
      · have y := O.sl j t z
        cases t with
        | un => exact y
        | sh d => obtain ⟨y1, v, y2, y3⟩ := y; exact ⟨y1, v, y2, dp_mono c y3⟩
        | pot => exact y
        | scr ns => obtain ⟨y1, b, y2, y3⟩ := y; exact ⟨y1, b, y2, c.seq y3⟩
        | ow o2 =>
          obtain ⟨b, hb, bs, y1, y2, y3, y4, y5, y6⟩ := y
          have nb : ∀ x ∈ b :: bs, x ≠ q := fun x mx w => hj (O.dj j i _ _ x z qi (by rw [y1]; exact mx) (by rw [ef, w]; exact hq))
          have nb' : ∀ x ∈ b :: bs, ∀ o, H x = some o → upd H q h x = some o := fun x mx o eo => by rw [upd_ne (nb x mx)]; exact eo
          exact ⟨b, hb, bs, y1, y2, y3, y4, nb' b List.mem_cons_self _ y5, y6.mono c fun x mx => nb' x (List.mem_cons_of_mem _ mx)⟩
    · have old : ∀ {j : Nat} {s : Sl}, (List.set ρ i (Sl.ow o'))[j]? = some s → ∃ s2 : Sl, ρ[j]? = some s2 := fun {j s} q' => by
        rcases set_get q' with ⟨z, _, _⟩ | ⟨_, z⟩
        · exact ⟨_, z ▸ qi⟩
        · exact ⟨_, z⟩
      obtain ⟨_, r1⟩ := old q1
      obtain ⟨_, r2⟩ := old q2
      exact O.dj j m _ _ b r1 r2 m1 m2
  refine ⟨⟨by rw [List.length_set, R.len], ⟨fp, O2⟩, fun b m' => ?_, R.wu, R.wz, fun b x z => ?_, R.wn, R.vis, R.u0, R.pw, fun b m' => ?_⟩, fun b x z => ?_, c⟩
  · by_cases w : b = q
    · subst w; exact ⟨_, upd_same⟩
    · rw [upd_ne w]; exact R.live b m'
  · have nb : b ≠ q := fun w => by
      rw [w, R.wz q mW] at z; cases z
    rw [upd_ne nb]; exact R.stay b x z
  · have nb : b ≠ q := fun w => nP (w ▸ m')
    obtain ⟨x, y, z, r⟩ := R.pots b m'
    exact ⟨x, y, by rw [upd_ne nb]; exact z, r⟩
  · by_cases w : b = q
    · subst w; exact .inl mW
    · right; rw [upd_ne w]; exact z
theorem RS.owFp (R : RS K B U W ρ σ H) {o : OO} (qi : ρ[i]? = some (Sl.ow o)) : ∃ a h ps, σ[i]? = some (some (.ref a)) ∧ (∀ b ∈ a :: ps, b ∈ W ∧ b ∉ B.Pi) ∧ H a = some h ∧ OR K U H o h ps ∧
    ∃ fp, Own K B.Pi U W H ρ σ fp ∧ fp i = a :: ps ∧ (a :: ps).Nodup := by
  obtain ⟨fp, O⟩ := R.own
  obtain ⟨a, h, ps, e1, e2, e3, e4, e5, e6⟩ := O.sl i _ qi
  rw [e1] at e2 e3
  exact ⟨a, h, ps, slot_of e4, e3, e5, e6, fp, O, e1, e2⟩
/-- an own list changes -/
theorem RS.updOw (R : RS K B U W ρ σ H) {a : Addr} {xs ys : List D} {ws : List V} (q : ρ[i]? = some (Sl.ow (.lst xs))) (e : σ[i]? = some (some (V.ref a))) (k : DqAll K (Dv.cut U H) ws ys) :
    RS K B U W (List.set ρ i (Sl.ow (.lst ys))) σ (upd H a (.lst ws)) ∧ Adv W H (upd H a (.lst ws)) ∧ Same (Dv.cut U H) (Dv.cut U (upd H a (.lst ws))) := by
  have fa : ∀ fp, Own K B.Pi U W H ρ σ fp → fp i = [a] ∧ [a].Nodup := fun fp O => by
    obtain ⟨a', h, ps, e1, e2, e3, e4, e5, e6, _⟩ := O.sl i _ q
    rw [e] at e4; cases e4
    subst e6
    exact ⟨e1, e1 ▸ e2⟩
  obtain ⟨a', vs, e1, m, np, ha, _⟩ := R.lstAt q
  rw [e] at e1; cases e1
  exact R.updAt (ps := []) (h0 := .lst vs) q e (fun b mb => by rw [List.mem_singleton.mp mb]; exact ⟨m, np⟩) List.mem_cons_self fa upd_same fun c => ⟨rfl, ws, rfl, dpAll_mono c k⟩
/-- an own list becomes shared data -/
theorem RS.free (R : RS K B U W ρ σ H) {xs : List D} (q : ρ[i]? = some (Sl.ow (.lst xs))) : ∃ U' W', RS K B U' W' (List.set ρ i (Sl.sh (.list xs))) σ H := by
  obtain ⟨a, h, ps, e, k0, ha, ⟨rfl, vs, rfl, t⟩, fp, O, ef, _⟩ := R.owFp q
  have m := (k0 a List.mem_cons_self).1
  have np := (k0 a List.mem_cons_self).2
  refine ⟨U.filter (fun b => decide (b ≠ a)), W.filter (fun b => decide (b ≠ a)), ?_⟩
  have fm : ∀ {L : List Addr} {b : Addr}, b ∈ L.filter (fun b => decide (b ≠ a)) ↔ b ∈ L ∧ b ≠ a := fun {L b} => by
    rw [List.mem_filter, decide_eq_true_iff]
  have n0 : a ∉ B.U0 := (R.wn a m).resolve_left np
  have c : Same (Dv.cut U H) (Dv.cut (U.filter (fun b => decide (b ≠ a))) H) := cut_mono (fun b m => .inl (fm.mp m).1) fun _ _ _ z => z
  have O2 : Own K B.Pi (U.filter (fun b => decide (b ≠ a))) (W.filter (fun b => decide (b ≠ a))) H (List.set ρ i (Sl.sh (.list xs))) σ (fun j => if j = i then [] else fp j) := by
    refine ⟨fun j t z => ?_, fun j l t t' b q1 q2 m1 m2 => ?_⟩
    · rcases set_get z with ⟨rfl, hl, rfl⟩ | ⟨hj, z⟩
      · rw [if_pos rfl, e]
        exact ⟨rfl, .ref a, rfl, .lst (cut_of (fun w => (fm.mp w).2 rfl) ha) (dpAll_mono c t)⟩
      · rw [if_neg hj]
        have y := O.sl j t z
        cases t with
        | un => exact y
        | sh d => obtain ⟨y1, v, y2, y3⟩ := y; exact ⟨y1, v, y2, dp_mono c y3⟩
        | pot => exact y
        | scr ns => obtain ⟨y1, b, y2, y3⟩ := y; exact ⟨y1, b, y2, c.seq y3⟩
        | ow o2 =>
          obtain ⟨b, hb, bs, y1, y2, y3, y4, y5, y6⟩ := y
          refine ⟨b, hb, bs, y1, y2, fun x mx => ⟨fm.mpr ⟨(y3 x mx).1, fun w => ?_⟩, (y3 x mx).2⟩, y4, y5, y6.mono c fun _ _ _ z => z⟩
          exact hj (O.dj j i _ _ x z q mx (by rw [ef, w]; exact List.mem_cons_self))
    · rcases set_get q1 with ⟨z, _, _⟩ | ⟨n1, q1⟩
      · rw [if_pos z] at m1; cases m1
      rcases set_get q2 with ⟨z, _, _⟩ | ⟨n2, q2⟩
      · rw [if_pos z] at m2; cases m2
      rw [if_neg n1] at m1
      rw [if_neg n2] at m2
      exact O.dj j l _ _ b q1 q2 m1 m2
  exact ⟨by rw [List.length_set, R.len], ⟨_, O2⟩, fun b m' => R.live b (fm.mp m').1, fun b m' => fm.mpr ⟨R.wu b (fm.mp m').1, (fm.mp m').2⟩, fun b m' => R.wz b (fm.mp m').1, R.stay,
    fun b m' => R.wn b (fm.mp m').1, fun b m' => R.vis b (fm.mp m').1, fun b m' => fm.mpr ⟨R.u0 b m', fun w => n0 (w ▸ m')⟩, fun b m' => fm.mpr ⟨R.pw b m', fun w => np (w ▸ m')⟩, R.pots⟩
/-- what stands ahead of a loop must stay through it -/
def Bs.inner (B : Bs) (U W : List Addr) (H : Hp) : Bs := ⟨Dv.cut W H, U, B.U0, B.Pi⟩
theorem RS.enter (R : RS K B U W ρ σ H) : RS K (B.inner U W H) U W ρ σ H :=
  ⟨R.len, R.own, R.live, R.wu, fun a m => if_pos m, fun a o q => (cut_some q).2, R.wn, fun a m => .inl m, R.u0, R.pw, R.pots⟩
theorem RS.leave {U1 W1 : List Addr} (R : RS K B U W ρ σ H) (R1 : RS K (B.inner U W H) U1 W1 ρ' σ' H1) : RS K B U1 W1 ρ' σ' H1 := by
  have key : ∀ {a o}, B.Z a = some o → (B.inner U W H).Z a = some o := fun {a o} q => cut_of (fun m => by rw [R.wz a m] at q; cases q) (R.stay a o q)
  refine ⟨R1.len, R1.own, R1.live, R1.wu, fun a m => ?_, fun a o q => R1.stay a o (key q), R1.wn, fun a m => ?_, R1.u0, R1.pw, R1.pots⟩
  · cases q : B.Z a with
    | none => rfl
    | some o => have := R1.wz a m; rw [key q] at this; cases this
  · rcases R1.vis a m with z | z
    · exact R.vis a z
    · right
      cases q : B.Z a with
      | none => rfl
      | some o => rw [key q] at z; cases z
theorem RS.seen {U1 W1 : List Addr} (R : RS K B U W ρ σ H) (R1 : RS K (B.inner U W H) U1 W1 ρ' σ' H1) : Same (Dv.cut U H) (Dv.cut U1 H1) := fun a o q => by
  obtain ⟨n, e⟩ := cut_some q
  have z : (B.inner U W H).Z a = some o := cut_of (fun m => n (R.wu a m)) e
  refine cut_of (fun m => ?_) (R1.stay a o z)
  rcases R1.vis a m with w | w
  · exact n w
  · rw [z] at w; cases w
end

/-! ### statements -/
structure DEnds where
  nx : En → Prop
  rt : Rv → Prop
  bk : En → Prop := fun _ => False
  ct : En → Prop := fun _ => False
abbrev MS := DEnds → En → Prop
/-- a result as the caller sees it -/
def RtOk (K : PySem.W.Frag) (B : Bs) (U : List Addr) (H : Hp) : Rv → V → Prop
  | .sh d, v => Dq K (cut U H) v d
  | .fr xs, v => ∃ p vs, v = .ref p ∧ B.Z p = none ∧ p ∉ B.Pi ∧ H p = some (.lst vs) ∧ DqAll K (cut (p :: U) H) vs xs
  | .bw _, _ => False
structure EndsOk (K : PySem.W.Frag) (B : Bs) (P : DEnds) (D : Ends) : Prop where
  nx : ∀ U W ρ σ H, RS K B U W ρ σ H → P.nx ρ → D.nx σ H
  bk : ∀ U W ρ σ H, RS K B U W ρ σ H → P.bk ρ → D.bk σ H
  ct : ∀ U W ρ σ H, RS K B U W ρ σ H → P.ct ρ → D.ct σ H
  rt : ∀ U W ρ σ H r v, RS K B U W ρ σ H → P.rt r → RtOk K B U H r v → D.rt v H
def rdS (K : PySem.W.Frag) (B : Bs) (m : MS) : TS := fun D σ H => ∃ (U W : List Addr) (ρ : En) (P : DEnds), RS K B U W ρ σ H ∧ m P ρ ∧ EndsOk K B P D
structure DS (X : Cx) (st : Stmt) (m : MS) : Prop where
  run : ∀ B, PS X st (rdS X.K B m)
structure DSs (X : Cx) (st : List Stmt) (m : MS) : Prop where
  run : ∀ B, PSs X st (rdS X.K B m)
theorem ps_imp {X : Cx} {e : Stmt} {t t' : TS} (h : PS X e t) (i : ∀ D σ H, t' D σ H → t D σ H) : PS X e t' :=
  ⟨fun pins s σ H D I q => h.run pins s σ H D I (i D σ H q)⟩
theorem pss_imp {X : Cx} {e : List Stmt} {t t' : TS} (h : PSs X e t) (i : ∀ D σ H, t' D σ H → t D σ H) : PSs X e t' :=
  ⟨fun pins s σ H D I q => h.run pins s σ H D I (i D σ H q)⟩
def mNext : MS := fun P ρ => P.nx ρ
def mSeq (a b : MS) : MS := fun P ρ => a { P with nx := fun ρ' => b P ρ' } ρ
section
variable {X : Cx} {st : Stmt} {rest body els : List Stmt} {e a b c : Expr} {pos : Pos} {m ma mb : ME} {s t : MS} {u : MT}
theorem dss_nil : DSs X [] mNext := ⟨fun B => pss_imp pss_nil fun D σ H ⟨U, W, ρ, P, R, p, q⟩ => q.nx _ _ _ _ _ R p⟩
theorem dss_one (h : DS X st s) : DSs X [st] s := ⟨fun B => pss_one (h.run B)⟩
theorem dss_cons (h : DS X st s) (k : DSs X rest t) : DSs X (st :: rest) (mSeq s t) := ⟨fun B => pss_imp (pss_cons (h.run B) (k.run B)) fun D σ H ⟨U, W, ρ, P, R, p, q⟩ =>
  ⟨U, W, ρ, _, R, p, ⟨fun U' W' ρ' σ' H' R' p' => ⟨U', W', ρ', P, R', p', q⟩, q.bk, q.ct, q.rt⟩⟩⟩
theorem ds_pass : DS X (.Pass pos) mNext := ⟨fun B => ps_imp ps_pass fun D σ H ⟨U, W, ρ, P, R, p, q⟩ => q.nx _ _ _ _ _ R p⟩
theorem ds_break : DS X (.Break pos) (fun P ρ => P.bk ρ) := ⟨fun B => ps_imp ps_break fun D σ H ⟨U, W, ρ, P, R, p, q⟩ => q.bk _ _ _ _ _ R p⟩
theorem ds_cont : DS X (.Continue pos) (fun P ρ => P.ct ρ) := ⟨fun B => ps_imp ps_continue fun D σ H ⟨U, W, ρ, P, R, p, q⟩ => q.ct _ _ _ _ _ R p⟩
/-- never reached -/
def mNever : MS := fun _ _ => False
theorem ds_never : DS X st mNever := ⟨fun B => ps_imp ps_never fun D σ H ⟨U, W, ρ, P, R, p, q⟩ => p⟩
theorem dss_never : DSs X body mNever := ⟨fun B => pss_imp pss_never fun D σ H ⟨U, W, ρ, P, R, p, q⟩ => p⟩
def mExpr (m : ME) : MS := fun P ρ => m ρ fun _ ρ' => P.nx ρ'
theorem ds_expr (h : DE X e m) (hs : swapsWith e none pos.line X.env = pure false := by rfl) : DS X (.Expr e pos) (mExpr m) := ⟨fun B => ps_imp (ps_expr (h.run B) hs) fun D σ H ⟨U, W, ρ, P, R, p, q⟩ =>
  ⟨U, W, ρ, _, R, p, fun r ρ' v H' p' R' _ _ _ => q.nx _ _ _ _ _ R' p'⟩⟩
def retR (ρ : En) (P : DEnds) : Rv → Prop
  | .sh d => P.rt (.sh d)
  | .fr xs => P.rt (.fr xs)
  | .bw i => match ρ[i]? with
    | some (.ow (.lst xs)) => P.rt (.fr xs)
    | _ => False
def mRet (m : ME) : MS := fun P ρ => m ρ fun r ρ' => retR ρ' P r
theorem ret_ok {K : PySem.W.Frag} {B : Bs} {P : DEnds} {D : Ends} {U W : List Addr} {ρ ρ' : En} {σ : L2.St} {H H' : Hp} {r : Rv} {v : V} (q : EndsOk K B P D) (R : RS K B U W ρ σ H) (R' : RS K B U W ρ' σ H') (k : RvOk K U σ H H' r v) (p : retR ρ' P r) : D.rt v H' := by
  cases r with
  | sh d => exact q.rt _ _ _ _ _ _ _ R' p k
  | fr xs =>
    obtain ⟨a, vs, rfl, n, e, t⟩ := k
    refine q.rt _ _ _ _ _ _ _ R' p ⟨a, vs, rfl, ?_, fun m => ?_, e, t⟩
    · cases z : B.Z a with
      | none => rfl
      | some o => have := R.stay a o z; rw [n] at this; cases this
    · obtain ⟨x, y, z, _⟩ := R.pots a m
      rw [n] at z; cases z
  | bw i =>
    obtain ⟨a, rfl, e⟩ := k
    unfold retR at p
    dsimp only at p
    split at p
    · rename_i xs z
      obtain ⟨a', vs, e1, m, np, ha, t⟩ := R'.lstAt z
      rw [e] at e1; cases e1
      refine q.rt _ _ _ _ _ _ _ R' p ⟨a, vs, rfl, R'.wz a m, np, ha, dpAll_mono (cut_mono (fun b m' => ?_) fun _ _ _ z => z) t⟩
      rcases List.mem_cons.mp m' with w | m'
      · subst w; exact .inl (R'.wu _ m)
      · exact .inl m'
    · exact p.elim
theorem ds_ret (h : DE X e m) : DS X (.Return (some e) pos) (mRet m) := ⟨fun B => ps_imp (ps_ret (h.run B)) fun D σ H ⟨U, W, ρ, P, R, p, q⟩ =>
  ⟨U, W, ρ, _, R, p, fun r ρ' v H' p' R' a' k _ => ret_ok q R R' k p'⟩⟩
def mRetN : MS := fun P _ => P.rt (.sh .none)
theorem ds_retN : DS X (.Return none pos) mRetN := ⟨fun B => ps_imp ps_retN fun D σ H ⟨U, W, ρ, P, R, p, q⟩ => q.rt _ _ _ _ _ _ _ R p Dq.non⟩
def mIfS (u : MT) (s t : MS) : MS := fun P ρ => u ρ fun b ρ' => if b = true then s P ρ' else t P ρ'
theorem ds_if (h : DT X c u) (hs : DSs X body s) (ht : DSs X els t) : DS X (.If c body els pos) (mIfS u s t) := ⟨fun B => ps_imp (ps_if (h.run B) (hs.run B) (ht.run B)) fun D σ H ⟨U, W, ρ, P, R, p, q⟩ =>
  ⟨U, W, ρ, _, R, p, fun b ρ' H' p' R' a' => by
    cases b with
    | true => rw [if_pos rfl] at p' ⊢; exact ⟨U, W, ρ', P, R', p', q⟩
    | false => rw [if_neg Bool.false_ne_true] at p' ⊢; exact ⟨U, W, ρ', P, R', p', q⟩⟩⟩
/-- a name is stored -/
def setR (i : Nat) (ρ : En) (Q : En → Prop) : Rv → Prop
  | .sh d => Q (ρ.set i (.sh d))
  | .fr xs => Q (ρ.set i (.ow (.lst xs)))
  | .bw _ => False
theorem set_ok {K : PySem.W.Frag} {B : Bs} {U W : List Addr} {ρ ρ' : En} {σ : L2.St} {H H' : Hp} {r : Rv} {v : V} {i : Nat} {Q : En → Prop} (R : RS K B U W ρ σ H) (R' : RS K B U W ρ' σ H') (k : RvOk K U σ H H' r v) (h : Hid K B U W ρ' σ H' r v) (p : setR i ρ' Q r) :
    ∃ U1 W1 ρ1, RS K B U1 W1 ρ1 (σ.set i (some v)) H' ∧ Q ρ1 := by
  cases r with
  | sh d => exact ⟨_, _, _, R'.setSh k, p⟩
  | fr xs =>
    obtain ⟨U1, W1, R1⟩ := RS.setOw (i := i) R k h
    exact ⟨U1, W1, _, R1, p⟩
  | bw j => exact p.elim
def mSet (i : Nat) (m : ME) : MS := fun P ρ => m ρ fun r ρ' => setR i ρ' P.nx r
theorem ds_set {i : Nat} {st : Stmt} (hp : ∀ {te : TE}, PE X e te → PS X st (tAsg te (gName i))) (h : DE X e m) : DS X st (mSet i m) := ⟨fun B => ps_imp (hp (h.run B)) fun D σ H ⟨U, W, ρ, P, R, p, q⟩ =>
  ⟨U, W, ρ, _, R, p, fun r ρ' v H' p' R' a' k kh => by
    obtain ⟨U1, W1, ρ1, R1, p1⟩ := set_ok R R' k kh p'
    exact q.nx _ _ _ _ _ R1 p1⟩⟩
/-- a list that was its own becomes data -/
def mFree (i : Nat) (s : MS) : MS := fun P ρ => match ρ[i]? with
  | some (.ow (.lst xs)) => s P (ρ.set i (.sh (.list xs)))
  | _ => s P ρ
theorem ds_free {i : Nat} (h : DS X st s) : DS X st (mFree i s) := ⟨fun B => ps_imp (h.run B) fun D σ H ⟨U, W, ρ, P, R, p, q⟩ => by
  unfold mFree at p
  split at p
  · rename_i xs z
    obtain ⟨U1, W1, R1⟩ := R.free z
    exact ⟨U1, W1, _, P, R1, p, q⟩
  · exact ⟨U, W, ρ, P, R, p, q⟩⟩
end
end Dv
namespace Dv
open PySem PySem.Spec L2
/-! ### several parts held side by side, then stored -/
/-- what is held: shared data, or new lists at F -/
def Held (K : PySem.W.Frag) (B : Bs) (U W : List Addr) (H : Hp) : List Rv → List V → List Addr → Prop
  | [], [], F => F = []
  | .sh d :: rs, v :: vs, F => Dq K (cut U H) v d ∧ Held K B U W H rs vs F
  | .fr xs :: rs, v :: vs, F => ∃ p ws F', v = .ref p ∧ F = p :: F' ∧ p ∉ F' ∧ Loose B W p ∧ p ∈ U ∧ H p = some (.lst ws) ∧ DqAll K (cut U H) ws xs ∧ Held K B U W H rs vs F'
  | _, _, _ => False
def rdH (K : PySem.W.Frag) (B : Bs) (m : MA) : TA := fun σ H Q => ∃ (U W : List Addr) (ρ : En) (P : List Rv → En → Prop), RS K B U W ρ σ H ∧ m ρ P ∧
  ∀ rs ρ' vs H' U' F, P rs ρ' → RS K B U' W ρ' σ H' → (∀ a ∈ U, a ∈ U') → (∀ a ∈ U', a ∈ U ∨ H a = none) → Adv W H H' → (∀ p ∈ F, H p = none) → Held K B U' W H' rs vs F → Q vs H'
structure DH (X : Cx) (es : List Expr) (m : MA) : Prop where
  run : ∀ B, PA X es (rdH X.K B m)
def noBw : Rv → Prop
  | .bw _ => False
  | _ => True
def mConsH (ma : ME) (mr : MA) : MA := fun ρ P => ma ρ fun r ρ1 => noBw r ∧ mr ρ1 fun rs ρ2 => P (r :: rs) ρ2
theorem held_ext {K : PySem.W.Frag} {B : Bs} {U W : List Addr} {H H' : Hp} (sm : Same H H') : ∀ {rs : List Rv} {vs : List V} {F : List Addr}, Held K B U W H rs vs F → Held K B U W H' rs vs F
  | [], [], _, h => h
  | .sh d :: rs, v :: vs, F, ⟨h, t⟩ => ⟨dp_mono (cut_mono (fun _ m => .inl m) fun a o _ e => sm a o e) h, held_ext sm t⟩
  | .fr xs :: rs, v :: vs, F, ⟨p, ws, F', e1, e2, e3, e4, e5, e6, e7, t⟩ => ⟨p, ws, F', e1, e2, e3, e4, e5, sm _ _ e6, dpAll_mono (cut_mono (fun _ m => .inl m) fun a o _ e => sm a o e) e7, held_ext sm t⟩
  | .bw _ :: _, _, _, h => h.elim
  | [], _ :: _, _, h => h.elim
  | .sh _ :: _, [], _, h => h.elim
  | .fr _ :: _, [], _, h => h.elim
section
variable {X : Cx} {e : Expr} {es : List Expr} {m : ME} {mr : MA} {st : Stmt}
theorem dh_nil : DH X [] mNil := ⟨fun B => pa_imp pa_nil fun σ H Q ⟨U, W, ρ, P, R, p, q⟩ => q [] _ _ _ U [] p R (fun _ m => m) (fun _ m => .inl m) Adv.refl (fun _ h => nomatch h) rfl⟩
theorem dh_cons (ha : DE X e m) (hr : DH X es mr) (hs : starEach (e :: es) X.env = (false, eval e X.env) :: starEach es X.env := by rfl) : DH X (e :: es) (mConsH m mr) :=
  ⟨fun B => pa_imp (pa_cons (ha.run B) (hr.run B) hs) fun σ H Q ⟨U, W, ρ, P, R, p, q⟩ => ⟨U, W, ρ, _, R, p, fun r ρ1 v H1 p1 R1 a1 k1 h1 => by
    obtain ⟨nb, p1⟩ := p1
    cases r with
    | bw i => exact nb.elim
    | sh d =>
      refine ⟨U, W, ρ1, _, R1, p1, fun rs ρ2 vs H2 U2 F p2 R2 i1 i2 a2 f2 hd => ?_⟩
      refine q _ _ _ _ U2 F p2 R2 i1 (fun a m => ?_) (a1.trans a2) (fun a m => R.back R1 a1 (f2 a m)) ⟨?_, hd⟩
      · rcases i2 a m with z | z
        · exact .inl z
        · exact .inr (R.back R1 a1 z)
      · refine dp_mono (cut_mono i2 fun a o n e => ?_) k1
        rcases a2 a o e with z | z
        · exact absurd (R1.wu a z) n
        · exact z
    | fr xs =>
      obtain ⟨pp, ws, rfl, n, e, t⟩ := k1
      have R1' := h1 pp rfl
      have lo := R.loose n
      refine ⟨pp :: U, W, ρ1, _, R1', p1, fun rs ρ2 vs H2 U2 F p2 R2 i1 i2 a2 f2 hd => ?_⟩
      have e2 : H2 pp = some (.lst ws) := by
        rcases a2 pp _ e with z | z
        · exact absurd z lo.w
        · exact z
      have npF : pp ∉ F := fun m => by
        have := f2 pp m
        rw [e] at this; cases this
      refine q _ _ _ _ U2 (pp :: F) p2 R2 (fun a m => i1 a (List.mem_cons_of_mem _ m)) (fun a m => ?_) (a1.trans a2) (fun a m => ?_)
        ⟨pp, ws, F, rfl, rfl, npF, lo, i1 pp List.mem_cons_self, e2, dpAll_mono (cut_mono i2 fun a o n e => ?_) t, hd⟩
      · rcases i2 a m with z | z
        · rcases List.mem_cons.mp z with w | w
          · subst w; exact .inr n
          · exact .inl w
        · exact .inr (R.back R1 a1 z)
      · rcases List.mem_cons.mp m with w | w
        · subst w; exact n
        · exact R.back R1 a1 (f2 a w)
      · rcases a2 a o e with z | z
        · exact absurd (R1'.wu a z) n
        · exact z⟩⟩
def setN : List Nat → List V → L2.St → L2.St
  | i :: is, v :: vs, σ => setN is vs (σ.set i (some v))
  | _, _, σ => σ
def setAll : List Nat → List Rv → En → (En → Prop) → Prop
  | i :: is, r :: rs, ρ, Q => setR i ρ (fun ρ1 => setAll is rs ρ1 Q) r
  | [], [], ρ, Q => Q ρ
  | _, _, _, _ => False
theorem set_held {K : PySem.W.Frag} {B : Bs} {U : List Addr} {H : Hp} {Q : En → Prop} : ∀ {is : List Nat} {rs : List Rv} {vs : List V} {F W : List Addr} {ρ : En} {σ : L2.St},
    RS K B U W ρ σ H → Held K B U W H rs vs F → setAll is rs ρ Q → ∃ W' ρ', RS K B U W' ρ' (setN is vs σ) H ∧ Q ρ'
  | [], [], [], F, W, ρ, σ, R, _, p => ⟨W, ρ, R, p⟩
  | i :: is, .sh d :: rs, v :: vs, F, W, ρ, σ, R, ⟨h, t⟩, p => set_held (is := is) (R.setSh h) t p
  | i :: is, .fr xs :: rs, v :: vs, F, W, ρ, σ, R, ⟨pp, ws, F', e1, e2, e3, lo, mu, e5, e6, t⟩, p => by
    subst e1
    refine set_held (is := is) (F := F') (R.setLoose lo mu e5 e6) ?_ p
    -- what is held stays held, one address more is written
    have up : ∀ {rs : List Rv} {vs : List V} {F : List Addr}, pp ∉ F → Held K B U W H rs vs F → Held K B U (pp :: W) H rs vs F := by
      intro rs
      induction rs with
      | nil => intro vs F _ h; cases vs with
        | nil => exact h
        | cons _ _ => exact h.elim
      | cons r rs ih =>
        intro vs F nf h
        cases vs with
        | nil => cases r <;> exact h.elim
        | cons v vs =>
          cases r with
          | sh d => exact ⟨h.1, ih nf h.2⟩
          | bw _ => exact h.elim
          | fr ys =>
            obtain ⟨p2, w2, F2, z1, z2, z3, z4, z5, z6, z7, z8⟩ := h
            subst z2
            refine ⟨p2, w2, F2, z1, rfl, z3, ⟨z4.z, z4.pi, z4.u0, fun m => ?_⟩, z5, z6, z7, ih (fun m => nf (List.mem_cons_of_mem _ m)) z8⟩
            rcases List.mem_cons.mp m with w | w
            · subst w; exact nf List.mem_cons_self
            · exact z4.w w
    exact up e3 t
  | _ :: _, .bw _ :: _, _, _, _, _, _, _, h, _ => h.elim
  | [], _ :: _, _, _, _, _, _, _, _, p => p.elim
  | _ :: _, [], _, _, _, _, _, _, _, p => p.elim
  | [], [], _ :: _, _, _, _, _, _, h, _ => h.elim
  | _ :: _, .sh _ :: _, [], _, _, _, _, _, h, _ => h.elim
  | _ :: _, .fr _ :: _, [], _, _, _, _, _, h, _ => h.elim
def mSetN (is : List Nat) (m : MA) : MS := fun P ρ => m ρ fun rs ρ' => rs.length = is.length ∧ setAll is rs ρ' P.nx
theorem held_len {K : PySem.W.Frag} {B : Bs} {U W : List Addr} {H : Hp} : ∀ {rs : List Rv} {vs : List V} {F : List Addr}, Held K B U W H rs vs F → vs.length = rs.length
  | [], [], _, _ => rfl
  | .sh d :: rs, v :: vs, F, ⟨_, t⟩ => congrArg (· + 1) (held_len t)
  | .fr xs :: rs, v :: vs, F, ⟨p, ws, F', e1, e2, e3, e4, e5, e6, e7, t⟩ => congrArg (· + 1) (held_len t)
  | .bw _ :: _, _, _, h => h.elim
  | [], _ :: _, _, h => h.elim
  | .sh _ :: _, [], _, h => h.elim
  | .fr _ :: _, [], _, h => h.elim
theorem rdH_mono {K : PySem.W.Frag} {B : Bs} {m : MA} {σ : L2.St} {H : Hp} {Q Q' : List V → Hp → Prop} (h : rdH K B m σ H Q) (i : ∀ vs H, Q vs H → Q' vs H) : rdH K B m σ H Q' := by
  obtain ⟨U, W, ρ, P, R, p, q⟩ := h
  exact ⟨U, W, ρ, P, R, p, fun rs ρ' vs H' U' F a b c d e f g => i _ _ (q rs ρ' vs H' U' F a b c d e f g)⟩
theorem setN_core {K : PySem.W.Frag} {B : Bs} {is : List Nat} {D : Ends} {σ : L2.St} {H : Hp} (h : rdS K B (mSetN is mr) D σ H) : rdH K B mr σ H fun vs H1 => vs.length = is.length ∧ ∀ H2, Same H1 H2 → D.nx (setN is vs σ) H2 := by
  obtain ⟨U, W, ρ, P, R, p, q⟩ := h
  refine ⟨U, W, ρ, _, R, p, fun rs ρ' vs H' U' F p' R' _ _ a' _ hd => ⟨(held_len hd).trans p'.1, fun H2 sm => ?_⟩⟩
  obtain ⟨W2, ρ2, R2, p2⟩ := set_held (is := is) (R'.ext sm) (held_ext sm hd) p'.2
  exact q.nx _ _ _ _ _ R2 p2
theorem len2 {vs : List V} (h : vs.length = 2) : ∃ v w, vs = [v, w] := match vs, h with
  | [v, w], _ => ⟨v, w, rfl⟩
theorem len3 {vs : List V} (h : vs.length = 3) : ∃ v w x, vs = [v, w, x] := match vs, h with
  | [v, w, x], _ => ⟨v, w, x, rfl⟩
theorem ds_par2 {i j : Nat} (hp : ∀ {t : TA}, PA X es t → PS X st (tPar i j t)) (h : DH X es mr) : DS X st (mSetN [i, j] mr) := ⟨fun B => ps_imp (hp (h.run B)) fun D σ H q =>
  rdH_mono (setN_core q) fun vs H1 ⟨l, k⟩ => by
    obtain ⟨v, w, rfl⟩ := len2 l
    exact ⟨v, w, rfl, k H1 (Same.refl H1)⟩⟩
theorem ds_par3 {i j l : Nat} (hp : ∀ {t : TA}, PA X es t → PS X st (tPar3 i j l t)) (h : DH X es mr) : DS X st (mSetN [i, j, l] mr) := ⟨fun B => ps_imp (hp (h.run B)) fun D σ H q =>
  rdH_mono (setN_core q) fun vs H1 ⟨l, k⟩ => by
    obtain ⟨v, w, x, rfl⟩ := len3 l
    exact ⟨v, w, x, rfl, k H1 (Same.refl H1)⟩⟩
/-- by a tuple that is unpacked -/
def gNames : List Nat → TGs
  | [] => gNil
  | i :: is => gCons (gName i) (gNames is)
theorem gNames_set : ∀ {is : List Nat} {vs : List V} {σ : L2.St} {H : Hp} {Q : L2.St → Hp → Prop}, vs.length = is.length → Q (setN is vs σ) H → gNames is vs σ H Q
  | [], [], _, _, _, _, q => ⟨rfl, q⟩
  | i :: is, v :: vs, σ, H, Q, l, q => ⟨v, vs, rfl, gNames_set (is := is) (Nat.succ.inj l) q⟩
theorem ds_parT {is : List Nat} (hp : ∀ {t : TA}, PA X es t → PS X st (tAsg (tTup t) (gTup X.K is.length (gNames is)))) (hz : is.length ≤ 100000) (h : DH X es mr) : DS X st (mSetN is mr) := ⟨fun B => ps_imp (hp (h.run B)) fun D σ H q =>
  rdH_mono (setN_core q) fun vs H1 ⟨l, k⟩ => ⟨bigLine (by omega), fun p n => ⟨p, vs, rfl, SqT.of upd_same, l, gNames_set l (k _ (same_new n))⟩⟩⟩
end
/-! ### what is walked -/
/-- an item as a walk gives it: data, or a tuple of data that is made on the way -/
inductive Yd (K : PySem.W.Frag) (Hs : Hp) : V → D → Prop where
  | sh {v : V} {d : D} (h : Dq K Hs v d) : Yd K Hs v d
  | tp {a : Addr} {vs : List V} {ds : List D} (h : SqT K Hs a vs) (t : DqAll K Hs vs ds) : Yd K Hs (.ref a) (.tuple ds)
/-- the walk J over the items ds; w: they may be tuples on the way -/
structure ItOk (K : PySem.W.Frag) (w : Bool) (U : List Addr) (H1 : Hp) (J : It) (ds : List D) : Prop where
  go : ∀ U' H, Same (cut U H1) (cut U' H) → (∀ a ∈ U', ∃ o, H a = some o) → ∀ i, i < ds.length → J.go i H
  yld : ∀ U' H, Same (cut U H1) (cut U' H) → (∀ a ∈ U', ∃ o, H a = some o) → ∀ i d x H', ds[i]? = some d → J.yld i H x H' → Same H H' ∧ if w = true then Yd K (cut U' H') x d else Dq K (cut U' H') x d
  stop : ∀ U' H, Same (cut U H1) (cut U' H) → (∀ a ∈ U', ∃ o, H a = some o) → J.stop ds.length H
abbrev MI := En → (List D → En → Prop) → Prop
def rdI (K : PySem.W.Frag) (B : Bs) (w : Bool) (m : MI) : TI := fun σ H R => ∃ (U W : List Addr) (ρ : En) (P : List D → En → Prop), RS K B U W ρ σ H ∧ m ρ P ∧
  ∀ ds ρ' J H', P ds ρ' → RS K B U W ρ' σ H' → Adv W H H' → ItOk K w U H' J ds → R J H'
structure DI (X : Cx) (tg iter : Expr) (w : Bool) (m : MI) : Prop where
  run : ∀ B, PI X tg iter (rdI X.K B w m)
theorem pi_imp {X : Cx} {tg it : Expr} {t t' : TI} (h : PI X tg it t) (i : ∀ σ H R, t' σ H R → t σ H R) : PI X tg it t' :=
  ⟨fun pins s σ H R I q => h.run pins s σ H R I (i σ H R q)⟩
/-- the items of shared data -/
def itemsD (w : D) : Option (List D) := match w with
  | .list xs => some xs
  | .tuple xs => some xs
  | _ => none
def mItL (m : ME) : MI := fun ρ P => m ρ fun r ρ' => ∃ xs, r.shd = some (.list xs) ∧ P xs ρ'
def mItT (m : ME) : MI := fun ρ P => m ρ fun r ρ' => ∃ xs, r = .sh (.tuple xs) ∧ P xs ρ'
section
variable {X : Cx} {tg e a b : Expr} {es : List Expr} {m ma mb : ME} {mr : MA} {pos p : Pos}
theorem itl_ok {K : PySem.W.Frag} {U : List Addr} {H : Hp} {a : Addr} {vs : List V} {xs : List D} (n : a ∉ U) (h : H a = some (.lst vs)) (t : DqAll K (cut U H) vs xs) : ItOk K false U H (Itl K a) xs := by
  have at_ : ∀ {U' H'}, Same (cut U H) (cut U' H') → SqL K H' a vs := fun {U' H'} s => SqL.of (cut_le _ _ (s _ _ (cut_of n h)))
  refine ⟨fun U' H' s lv i hi => ?_, fun U' H' s lv i d x H2 hd y => ?_, fun U' H' s lv => ⟨vs, at_ s, Nat.le_of_eq (dpAll_len t)⟩⟩
  · have hi' : i < vs.length := by rw [dpAll_len t]; exact hi
    exact ⟨vs, vs[i], at_ s, List.getElem?_eq_getElem hi'⟩
  · obtain ⟨rfl, y⟩ := y
    obtain ⟨v, e1, e2⟩ := dpAll_get t hd
    have := y vs (at_ s)
    rw [e1] at this; cases this
    exact ⟨Same.refl _, dp_mono s e2⟩
theorem itt_ok {K : PySem.W.Frag} {U : List Addr} {H : Hp} {a : Addr} {vs : List V} {xs : List D} (h : FT K (cut U H) a vs) (t : DqAll K (cut U H) vs xs) : ItOk K false U H (Itt K a) xs := by
  have at_ : ∀ {U' H'}, Same (cut U H) (cut U' H') → SqT K H' a vs := fun {U' H'} s => ((h.mono s).mono cut_le).sq
  refine ⟨fun U' H' s lv i hi => ?_, fun U' H' s lv i d x H2 hd y => ?_, fun U' H' s lv => ⟨vs, at_ s, Nat.le_of_eq (dpAll_len t)⟩⟩
  · have hi' : i < vs.length := by rw [dpAll_len t]; exact hi
    exact ⟨vs, vs[i], at_ s, List.getElem?_eq_getElem hi'⟩
  · obtain ⟨rfl, y⟩ := y
    obtain ⟨v, e1, e2⟩ := dpAll_get t hd
    have := y vs (at_ s)
    rw [e1] at this; cases this
    exact ⟨Same.refl _, dp_mono s e2⟩
theorem di_list (h : DE X e m) : DI X tg e false (mItL m) := ⟨fun B => pi_imp (pi_list (h.run B)) fun σ H R ⟨U, W, ρ, P, S, p, q⟩ => ⟨U, W, ρ, _, S, p, fun r ρ' v H' p' R' a' k kh => by
  obtain ⟨xs, e, p'⟩ := p'
  have k2 := k.shared S e
  cases k2 with
  | lst z t =>
    obtain ⟨n, z⟩ := cut_some z
    exact ⟨_, rfl, ⟨_, SqL.of z⟩, q _ _ _ _ p' R' a' (itl_ok n z t)⟩⟩⟩
theorem di_tup (h : DE X e m) : DI X tg e false (mItT m) := ⟨fun B => pi_imp (pi_tup (h.run B)) fun σ H R ⟨U, W, ρ, P, S, p, q⟩ => ⟨U, W, ρ, _, S, p, fun r ρ' v H' p' R' a' k kh => by
  obtain ⟨xs, rfl, p'⟩ := p'
  have k2 : Dq X.K (cut U H') v (.tuple xs) := k
  cases k2 with
  | tup z t => exact ⟨_, rfl, ⟨_, (z.mono cut_le).sq⟩, q _ _ _ _ p' R' a' (itt_ok z t)⟩⟩⟩
/-- ranges -/
def rngD (lo : Int) (n : Nat) : List D := (List.range n).map fun (i : Nat) => PyData.int (lo + (i : Int))
theorem rngD_len (lo : Int) (n : Nat) : (rngD lo n).length = n := by unfold rngD; rw [List.length_map, List.length_range]
theorem rngD_get {lo : Int} {n i : Nat} {d : D} (h : (rngD lo n)[i]? = some d) : d = .int (lo + (i : Int)) := by
  unfold rngD at h
  rw [List.getElem?_map] at h
  obtain ⟨j, h1, rfl⟩ := Option.map_eq_some_iff.mp h
  have hi : i < n := by
    have := (List.getElem?_eq_some_iff.mp h1).1
    rwa [List.length_range] at this
  rw [List.getElem?_range hi] at h1
  cases h1; rfl
theorem itr_ok {K : PySem.W.Frag} {U : List Addr} {H : Hp} (lo : Int) (n : Nat) : ItOk K false U H (Itr lo n) (rngD lo n) :=
  ⟨fun U' H' s lv i hi => by rw [rngD_len] at hi; exact hi, fun U' H' s lv i d x H2 hd y => by
    obtain ⟨rfl, rfl⟩ := y
    rw [rngD_get hd]
    exact ⟨Same.refl _, .int _⟩, fun U' H' s lv => by rw [rngD_len]; exact Nat.le_refl n⟩
def mRng1 (m : MA) : MI := fun ρ P => m ρ fun rs ρ' => ∃ j, rs = [.sh (.int j)] ∧ (-1000000 ≤ j ∧ j ≤ 1000000) ∧ P (rngD 0 j.toNat) ρ'
def mRng2 (m : MA) : MI := fun ρ P => m ρ fun rs ρ' => ∃ i j, rs = [.sh (.int i), .sh (.int j)] ∧ (-1000000 ≤ i ∧ i ≤ 1000000 ∧ -1000000 ≤ j ∧ j ≤ 1000000) ∧ P (rngD i (j - i).toNat) ρ'
theorem di_rng1 (h : ∀ {t : TA}, PA X es t → PI X tg e (iRng1 t)) (ha : DA X es mr) : DI X tg e false (mRng1 mr) := ⟨fun B => pi_imp (h (ha.run B)) fun σ H R ⟨U, W, ρ, P, S, p, q⟩ => ⟨U, W, ρ, _, S, p, fun rs ρ' vs H' p' R' a' k => by
  obtain ⟨j, rfl, ⟨h1, h2⟩, p'⟩ := p'
  match vs, k with
  | [v], ⟨k, _⟩ =>
    have e : v = .int j := by cases k; rfl
    exact ⟨j, by rw [e], by omega, by omega, q _ _ _ _ p' R' a' (itr_ok 0 _)⟩⟩⟩
theorem di_rng2 (h : ∀ {t : TA}, PA X es t → PI X tg e (iRng2 t)) (ha : DA X es mr) : DI X tg e false (mRng2 mr) := ⟨fun B => pi_imp (h (ha.run B)) fun σ H R ⟨U, W, ρ, P, S, p, q⟩ => ⟨U, W, ρ, _, S, p, fun rs ρ' vs H' p' R' a' k => by
  obtain ⟨i, j, rfl, ⟨h1, h2, h3, h4⟩, p'⟩ := p'
  match vs, k with
  | [v, w], ⟨k, k2, _⟩ =>
    have e : v = .int i := by cases k; rfl
    have e2 : w = .int j := by cases k2; rfl
    exact ⟨i, j, by rw [e, e2], ⟨by omega, by omega, by omega, by omega⟩, q _ _ _ _ p' R' a' (itr_ok i _)⟩⟩⟩
end
/-! ### targets -/
abbrev MG := D → En → (En → Prop) → Prop
/-- σ and σ' part at most at the slots vs -/
def Off (vs : List Nat) (σ σ' : L2.St) : Prop := σ.length = σ'.length ∧ ∀ j, j ∉ vs → σ'[j]? = σ[j]?
def rdG (K : PySem.W.Frag) (B : Bs) (w : Bool) (vs : List Nat) (g : MG) : TG := fun v σ H Q => ∃ (U W : List Addr) (ρ : En) (d : D) (P : En → Prop), RS K B U W ρ σ H ∧ (if w = true then Yd K (cut U H) v d else Dq K (cut U H) v d) ∧ g d ρ P ∧
  ∀ ρ' σ', P ρ' → RS K B U W ρ' σ' H → Off vs σ σ' → Q σ' H
structure DG (X : Cx) (tg : Expr) (w : Bool) (vs : List Nat) (g : MG) : Prop where
  run : ∀ B, PG X tg (rdG X.K B w vs g)
theorem pg_imp {X : Cx} {tg : Expr} {t t' : TG} (h : PG X tg t) (i : ∀ v σ H Q, t' v σ H Q → t v σ H Q) : PG X tg t' :=
  ⟨fun pins s σ H v u Q I r q => h.run pins s σ H v u Q I r (i v σ H Q q)⟩
def gSetN (i : Nat) : MG := fun d ρ Q => Q (ρ.set i (.sh d))
def gSetT (is : List Nat) : MG := fun d ρ Q => ∃ ds, d = .tuple ds ∧ ds.length = is.length ∧ setAll is (ds.map .sh) ρ Q
section
variable {X : Cx} {tg e : Expr}
theorem off_set {i : Nat} {σ : L2.St} {x : Option V} : Off [i] σ (σ.set i x) := ⟨(List.length_set).symm, fun j h => set_ne fun e => h (by rw [e]; exact List.mem_cons_self)⟩
theorem dg_name {i : Nat} (h : PG X tg (gName i)) : DG X tg false [i] (gSetN i) := ⟨fun B => pg_imp h fun v σ H Q ⟨U, W, ρ, d, P, R, k, p, q⟩ => q _ _ p (R.setSh k) off_set⟩
theorem off_setN : ∀ {is : List Nat} {vs : List V} {σ : L2.St}, Off is σ (setN is vs σ)
  | [], _, _ => ⟨rfl, fun _ _ => rfl⟩
  | _ :: _, [], _ => ⟨rfl, fun _ _ => rfl⟩
  | i :: is, v :: vs, σ => by
    obtain ⟨l, o⟩ := off_setN (is := is) (vs := vs) (σ := σ.set i (some v))
    refine ⟨(List.length_set (as := σ)).symm.trans l, fun j h => ?_⟩
    show (setN is vs (σ.set i (some v)))[j]? = _
    rw [o j fun m => h (List.mem_cons_of_mem _ m), set_ne fun e => h (by rw [e]; exact List.mem_cons_self)]
theorem set_shs {K : PySem.W.Frag} {B : Bs} {U W : List Addr} {H : Hp} {Q : En → Prop} : ∀ {is : List Nat} {vs : List V} {ds : List D} {ρ : En} {σ : L2.St}, RS K B U W ρ σ H → DqAll K (cut U H) vs ds → setAll is (ds.map .sh) ρ Q → ∃ ρ', RS K B U W ρ' (setN is vs σ) H ∧ Q ρ'
  | [], [], [], ρ, _, R, _, p => ⟨ρ, R, p⟩
  | i :: is, _, _, ρ, σ, R, .cons h t, p => set_shs (is := is) (R.setSh h) t p
  | [], _ :: _, _ :: _, _, _, _, _, p => p.elim
  | _ :: _, [], [], _, _, _, _, p => p.elim
theorem dg_tup {w : Bool} {is : List Nat} (h : PG X tg (gTup X.K is.length (gNames is))) : DG X tg w is (gSetT is) := ⟨fun B => pg_imp h fun v σ H Q ⟨U, W, ρ, d, P, R, k, p, q⟩ => by
  obtain ⟨ds, rfl, l, p⟩ := p
  have key : ∃ a vs, v = .ref a ∧ SqT X.K H a vs ∧ DqAll X.K (cut U H) vs ds := by
    cases w with
    | false =>
      rw [if_neg Bool.false_ne_true] at k
      cases k with
      | tup z t => exact ⟨_, _, rfl, (z.mono cut_le).sq, t⟩
    | true =>
      rw [if_pos rfl] at k
      cases k with
      | sh k => cases k with
        | tup z t => exact ⟨_, _, rfl, (z.mono cut_le).sq, t⟩
      | tp z t =>
        refine ⟨_, _, rfl, ?_, t⟩
        rcases z with (z | ⟨o, z⟩) | z
        · exact .inl (.inl (cut_le _ _ z))
        · exact .inl (.inr ⟨o, cut_le _ _ z⟩)
        · exact .inr z
  obtain ⟨a, vs, rfl, sq, t⟩ := key
  obtain ⟨ρ2, R2, p2⟩ := set_shs (is := is) R t p
  have l2 : vs.length = is.length := (dpAll_len t).trans l
  refine ⟨a, vs, rfl, sq, l2, gNames_set l2 (q ρ2 _ p2 R2 off_setN)⟩⟩
end
end Dv
namespace Dv
open PySem PySem.Spec L2
/-! ### loops -/
def mLoop (g : MG) (body : MS) (P : DEnds) : List D → En → Prop
  | [], ρ => P.nx ρ
  | d :: ds, ρ => g d ρ fun ρ1 => body { nx := mLoop g body P ds, rt := P.rt, bk := P.nx, ct := mLoop g body P ds } ρ1
def mFor (mi : MI) (g : MG) (body : MS) : MS := fun P ρ => mi ρ fun ds ρ' => mLoop g body P ds ρ'
theorem RtOk.leave {K : PySem.W.Frag} {B : Bs} {U W U1 : List Addr} {ρ : En} {σ : L2.St} {H H1 : Hp} {r : Rv} {v : V} (R : RS K B U W ρ σ H) (k : RtOk K (B.inner U W H) U1 H1 r v) : RtOk K B U1 H1 r v := by
  cases r with
  | sh d => exact k
  | bw i => exact k
  | fr xs =>
    obtain ⟨p, vs, e, z, np, h, t⟩ := k
    refine ⟨p, vs, e, ?_, np, h, t⟩
    cases q : B.Z p with
    | none => rfl
    | some o =>
      have : (B.inner U W H).Z p = some o := cut_of (fun m => by rw [R.wz p m] at q; cases q) (R.stay p o q)
      rw [z] at this; cases this
theorem EndsOk.leave {K : PySem.W.Frag} {B : Bs} {U W : List Addr} {ρ : En} {σ : L2.St} {H : Hp} {P : DEnds} {D : Ends} (R : RS K B U W ρ σ H) (q : EndsOk K B P D) : EndsOk K (B.inner U W H) P D :=
  ⟨fun _ _ _ _ _ R1 p => q.nx _ _ _ _ _ (R.leave R1) p, fun _ _ _ _ _ R1 p => q.bk _ _ _ _ _ (R.leave R1) p, fun _ _ _ _ _ R1 p => q.ct _ _ _ _ _ (R.leave R1) p, fun _ _ _ _ _ _ _ R1 p k => q.rt _ _ _ _ _ _ _ (R.leave R1) p (k.leave R)⟩
section
variable {X : Cx} {tg it c : Expr} {body : List Stmt} {w : Bool} {vs : List Nat} {mi : MI} {g : MG} {s : MS} {u : MT} {pos : Pos}
theorem DSs.ex {st : List Stmt} (h : DSs X st s) : PSs X st (fun D σ H => ∃ B, rdS X.K B s D σ H) := ⟨fun pins st σ H D I ⟨B, q⟩ => (h.run B).run pins st σ H D I q⟩
theorem DG.ex (h : DG X tg w vs g) : PG X tg (fun v σ H Q => ∃ B, rdG X.K B w vs g v σ H Q) := ⟨fun pins st σ H v u Q I r ⟨B, q⟩ => (h.run B).run pins st σ H v u Q I r q⟩
theorem DT.ex (h : DT X c u) : PT X c (fun σ H Q => ∃ B, rdT X.K B u σ H Q) := ⟨fun pins st σ H Q I ⟨B, q⟩ => (h.run B).run pins st σ H Q I q⟩
theorem DE.ex {e : Expr} {m : ME} (h : DE X e m) : PE X e (fun σ H Q => ∃ B, rd X.K B m σ H Q) := ⟨fun pins st σ H Q I ⟨B, q⟩ => (h.run B).run pins st σ H Q I q⟩
theorem ds_for (hp : PassesOwn (model X.prog X.w) X.A X.env X.xe) (hc : X.calm = true) (hi : DI X tg it w mi) (hg : DG X tg w vs g) (hb : DSs X body s)
    (hs : ∀ x, foldedSetIterable it X.env x = pure x := by intro _; rfl) : DS X (.For tg it body [] pos) (mFor mi g s) :=
  ⟨fun B => ps_imp (ps_for hp hc (hi.run B) hg.ex hb.ex hs) fun D σ H ⟨U, W, ρ, P, R, p, q⟩ => ⟨U, W, ρ, _, R, p, fun ds ρ1 J H1 p1 R1 a1 ok => by
    refine ⟨fun i m σ2 H2 => m = ds.length - i ∧ i ≤ ds.length ∧ ∃ U2 W2 ρ2, RS X.K (B.inner U W H1) U2 W2 ρ2 σ2 H2 ∧ mLoop g s P (ds.drop i) ρ2, ⟨_, rfl, Nat.zero_le _, U, W, ρ1, R1.enter, p1⟩, ?_⟩
    rintro i m σ2 H2 ⟨rfl, hi, U2, W2, ρ2, R2, p2⟩
    have sm := R1.seen R2
    by_cases hl : i < ds.length
    · have hd : ds[i]? = some ds[i] := List.getElem?_eq_getElem hl
      rw [List.drop_eq_getElem_cons hl] at p2
      refine .inr ⟨ok.go U2 H2 sm R2.live i hl, fun σ3 H3 => ∃ U3 W3 ρ3, RS X.K (B.inner U W H1) U3 W3 ρ3 σ3 H3 ∧ mLoop g s P (ds.drop (i + 1)) ρ3, fun σ3 H3 h3 => ⟨ds.length - (i + 1), by omega, rfl, hl, h3⟩, fun x H3 y => ?_⟩
      obtain ⟨s3, k3⟩ := ok.yld U2 H2 sm R2.live i _ x H3 hd y
      refine ⟨B.inner U W H1, U2, W2, ρ2, ds[i], _, R2.ext s3, k3, p2, fun ρ4 σ4 p4 R4 _ => ⟨B.inner U W H1, U2, W2, ρ4, _, R4, p4, ?_⟩⟩
      exact ⟨fun U5 W5 ρ5 σ5 H5 R5 p5 => ⟨U5, W5, ρ5, R5, p5⟩, fun U5 W5 ρ5 σ5 H5 R5 p5 => q.nx _ _ _ _ _ (R1.leave R5) p5, fun U5 W5 ρ5 σ5 H5 R5 p5 => ⟨U5, W5, ρ5, R5, p5⟩,
        fun U5 W5 ρ5 σ5 H5 r v R5 p5 k5 => q.rt _ _ _ _ _ _ _ (R1.leave R5) p5 (k5.leave R1)⟩
    · have e : i = ds.length := by omega
      subst e
      rw [List.drop_length] at p2
      exact .inl ⟨ok.stop U2 H2 sm R2.live, q.nx _ _ _ _ _ (R1.leave R2) p2⟩⟩⟩
/-- while -/
def mWhileN (u : MT) (s : MS) (P : DEnds) : Nat → En → Prop
  | 0, _ => False
  | n + 1, ρ => u ρ fun b ρ1 => if b = true then s { nx := mWhileN u s P n, rt := P.rt, bk := P.nx, ct := mWhileN u s P n } ρ1 else P.nx ρ1
def mWhile (u : MT) (s : MS) : MS := fun P ρ => ∃ n, mWhileN u s P n ρ
theorem ds_while (hp : PassesOwn (model X.prog X.w) X.A X.env X.xe) (hc : DT X c u) (hb : DSs X body s) : DS X (.While c body [] pos) (mWhile u s) :=
  ⟨fun B => ps_imp (ps_while hp (hc.run B) hb.ex) fun D σ H ⟨U, W, ρ, P, R, ⟨n, p⟩, q⟩ => by
    refine ⟨fun m σ2 H2 => ∃ U2 W2 ρ2, RS X.K B U2 W2 ρ2 σ2 H2 ∧ mWhileN u s P m ρ2, ⟨n, U, W, ρ, R, p⟩, ?_⟩
    rintro m σ2 H2 ⟨U2, W2, ρ2, R2, p2⟩
    cases m with
    | zero => exact p2.elim
    | succ m =>
      refine ⟨U2, W2, ρ2, _, R2, p2, fun b ρ3 H3 p3 R3 _ => ?_⟩
      cases b with
      | false =>
        rw [if_neg Bool.false_ne_true] at p3 ⊢
        exact q.nx _ _ _ _ _ R3 p3
      | true =>
        rw [if_pos rfl] at p3 ⊢
        refine ⟨fun σ4 H4 => ∃ U4 W4 ρ4, RS X.K B U4 W4 ρ4 σ4 H4 ∧ mWhileN u s P m ρ4, fun σ4 H4 h4 => ⟨m, Nat.lt_succ_self m, h4⟩, B, U2, W2, ρ3, _, R3, p3, ?_⟩
        exact ⟨fun U5 W5 ρ5 σ5 H5 R5 p5 => ⟨U5, W5, ρ5, R5, p5⟩, q.nx, fun U5 W5 ρ5 σ5 H5 R5 p5 => ⟨U5, W5, ρ5, R5, p5⟩, q.rt⟩⟩
end
/-! ### comprehensions -/
def wipeE (ρ : En) : List Nat → En
  | [] => ρ
  | v :: vs => (wipeE ρ vs).set v .un
theorem RS.wiped {K : PySem.W.Frag} {B : Bs} {U W : List Addr} {ρ : En} {σ : L2.St} {H : Hp} (R : RS K B U W ρ σ H) : ∀ vs : List Nat, RS K B U W (wipeE ρ vs) (wipe σ vs) H
  | [] => R
  | v :: vs => (R.wiped vs).setUn
theorem wipe_off {vs : List Nat} {σ σ' : L2.St} (o : Off vs σ σ') : wipe σ' vs = wipe σ vs := by
  have at_ : ∀ (ws : List Nat) (τ : L2.St) (j : Nat), (wipe τ ws)[j]? = if j ∈ ws ∧ j < τ.length then some none else τ[j]? := by
    intro ws
    induction ws with
    | nil => intro τ j; simp [wipe]
    | cons v ws ih =>
      intro τ j
      show ((wipe τ ws).set v none)[j]? = _
      rw [List.getElem?_set, wipe_length]
      by_cases e : v = j
      · subst e
        rw [if_pos rfl]
        by_cases hl : v < τ.length
        · rw [if_pos hl, if_pos ⟨List.mem_cons_self, hl⟩]
        · rw [if_neg hl, if_neg (fun z => hl z.2), List.getElem?_eq_none (by omega)]
      · rw [if_neg e, ih]
        have : (j ∈ v :: ws ∧ j < τ.length) ↔ (j ∈ ws ∧ j < τ.length) := by
          rw [List.mem_cons]
          exact ⟨fun z => ⟨z.1.resolve_left fun w => e w.symm, z.2⟩, fun z => ⟨.inr z.1, z.2⟩⟩
        by_cases c : j ∈ ws ∧ j < τ.length
        · rw [if_pos c, if_pos (this.mpr c)]
        · rw [if_neg c, if_neg (fun z => c (this.mp z))]
  refine List.ext_getElem? fun j => ?_
  rw [at_, at_, o.1]
  by_cases c : j ∈ vs ∧ j < σ'.length
  · rw [if_pos c, if_pos c]
  · rw [if_neg c, if_neg c]
    by_cases m : j ∈ vs
    · have : ¬ j < σ'.length := fun z => c ⟨m, z⟩
      rw [List.getElem?_eq_none (by omega), List.getElem?_eq_none (by rw [o.1]; omega)]
    · exact o.2 j m
/-- the slots behind: the block's own names as they were, if they held data -/
def keepE (ρ0 ρ : En) : List Nat → En
  | [] => ρ
  | v :: vs => (keepE ρ0 ρ vs).set v (match ρ0[v]? with
    | some (.sh d) => .sh d
    | _ => .un)
theorem wipe_get {σ : L2.St} {vs : List Nat} {j : Nat} (h : j ∉ vs) : (wipe σ vs)[j]? = σ[j]? := by
  induction vs with
  | nil => rfl
  | cons v vs ih =>
    show ((wipe σ vs).set v none)[j]? = _
    rw [set_ne fun e => h (by rw [e]; exact List.mem_cons_self)]
    exact ih fun m => h (List.mem_cons_of_mem _ m)
theorem keepE_len (ρ0 ρ : En) : ∀ vs : List Nat, (keepE ρ0 ρ vs).length = ρ.length
  | [] => rfl
  | v :: vs => by
    show ((keepE ρ0 ρ vs).set v _).length = _
    rw [List.length_set, keepE_len ρ0 ρ vs]
theorem keepE_get {ρ0 ρ : En} {s : Sl} {j : Nat} : ∀ {vs : List Nat}, (keepE ρ0 ρ vs)[j]? = some s → (j ∉ vs ∧ ρ[j]? = some s) ∨ (j ∈ vs ∧ (s = .un ∨ ∃ d, s = .sh d ∧ ρ0[j]? = some (.sh d)))
  | [], h => .inl ⟨List.not_mem_nil, h⟩
  | v :: vs, h => by
    rcases set_get h with ⟨e, _, z⟩ | ⟨e, h⟩
    · subst e
      refine .inr ⟨List.mem_cons_self, ?_⟩
      rw [z]
      split
      · rename_i d q; exact .inr ⟨d, rfl, q⟩
      · exact .inl rfl
    · rcases keepE_get h with ⟨n, q⟩ | ⟨m, q⟩
      · exact .inl ⟨fun m => (List.mem_cons.mp m).elim e n, q⟩
      · exact .inr ⟨List.mem_cons_of_mem _ m, q⟩
/-- back from a block -/
theorem RS.back_blk {K : PySem.W.Frag} {B : Bs} {U U' W : List Addr} {ρ0 ρ : En} {σ : L2.St} {H0 H : Hp} {vs : List Nat} (R0 : RS K B U W ρ0 σ H0) (R : RS K B U' W ρ (wipe σ vs) H) (c : Same (Dv.cut U H0) (Dv.cut U' H)) :
    RS K B U' W (keepE ρ0 ρ vs) σ H := by
  obtain ⟨fp, O⟩ := R.own
  refine ⟨by rw [keepE_len, R.len, wipe_length], ⟨fun j => if j ∈ vs then [] else fp j, fun j s q => ?_, fun i j s s' a q1 q2 m1 m2 => ?_⟩, R.live, R.wu, R.wz, R.stay, R.wn, R.vis, R.u0, R.pw, R.pots⟩
  · rcases keepE_get q with ⟨n, q⟩ | ⟨m, z | ⟨d, z, q⟩⟩
    · have z := O.sl j s q
      rw [wipe_get n] at z
      rw [if_neg n]; exact z
    · rw [z, if_pos m]; exact rfl
    · obtain ⟨v, e1, e2⟩ := R0.shAt q
      rw [z, if_pos m, e1]
      exact ⟨rfl, v, rfl, dp_mono c e2⟩
  · by_cases n1 : i ∈ vs
    · rw [if_pos n1] at m1; cases m1
    · by_cases n2 : j ∈ vs
      · rw [if_pos n2] at m2; cases m2
      · rw [if_neg n1] at m1
        rw [if_neg n2] at m2
        have r1 : ρ[i]? = some s := by
          rcases keepE_get q1 with ⟨_, z⟩ | ⟨m, _⟩
          · exact z
          · exact absurd m n1
        have r2 : ρ[j]? = some s' := by
          rcases keepE_get q2 with ⟨_, z⟩ | ⟨m, _⟩
          · exact z
          · exact absurd m n2
        exact O.dj i j s s' a r1 r2 m1 m2
/-- an address comes into sight -/
theorem RS.unhide {K : PySem.W.Frag} {B : Bs} {U W : List Addr} {ρ : En} {σ : L2.St} {H : Hp} {p : Addr} (R : RS K B (p :: U) W ρ σ H) (wu : ∀ a ∈ W, a ∈ U) (u0 : ∀ a ∈ B.U0, a ∈ U) : RS K B U W ρ σ H := by
  have c : Same (Dv.cut (p :: U) H) (Dv.cut U H) := cut_mono (fun a m => .inl (List.mem_cons_of_mem _ m)) fun _ _ _ e => e
  obtain ⟨fp, O⟩ := R.own
  exact ⟨R.len, ⟨fp, O.mono c (fun _ m _ => m) fun _ _ _ _ e => e⟩, fun a m => R.live a (List.mem_cons_of_mem _ m), wu, R.wz, R.stay, R.wn, fun a m => R.vis a (List.mem_cons_of_mem _ m), u0, R.pw, R.pots⟩
/-- an object that is hidden and in no slot changes -/
theorem RS.updH {K : PySem.W.Frag} {B : Bs} {U W : List Addr} {ρ ρ1 : En} {σ σ1 : L2.St} {H H1 : Hp} {p : Addr} {o : HO} (R : RS K B (p :: U) W ρ σ H) (nw : p ∉ W) (st : H1 p = none ∧ p ∉ U ∧ Adv W H1 H ∧ RS K B U W ρ1 σ1 H1) : RS K B (p :: U) W ρ σ (upd H p o) := by
  obtain ⟨n, nu, a1, R1⟩ := st
  have lo := R1.loose n
  have c : Same (Dv.cut (p :: U) H) (Dv.cut (p :: U) (upd H p o)) := cut_mono (fun _ m => .inl m) fun a x n e => by
    rw [upd_ne (show a ≠ p from fun z => n (z ▸ List.mem_cons_self))]; exact e
  obtain ⟨fp, O⟩ := R.own
  refine ⟨R.len, ⟨fp, O.mono c (fun _ m _ => m) fun a m _ x e => ?_⟩, fun a m => ?_, R.wu, R.wz, fun a x e => ?_, R.wn, R.vis, R.u0, R.pw, fun a m => ?_⟩
  · rw [upd_ne (show a ≠ p from fun z => nw (z ▸ m))]; exact e
  · by_cases z : a = p
    · subst z; exact ⟨_, upd_same⟩
    · rw [upd_ne z]; exact R.live a m
  · have z : a ≠ p := fun z => by rw [z, lo.z] at e; cases e
    rw [upd_ne z]; exact R.stay a x e
  · obtain ⟨x, y, e, r⟩ := R.pots a m
    exact ⟨x, y, by rw [upd_ne (show a ≠ p from fun z => lo.pi (z ▸ m))]; exact e, r⟩
/-- the turns of a comprehension -/
def mLcGo (g : MG) (tt : MT) (te : ME) (vs : List Nat) (P : List D → En → Prop) : List D → List D → En → Prop
  | [], acc, ρ => P acc ρ
  | d :: ds, acc, ρ => g d ρ fun ρ1 => tt ρ1 fun b ρ2 => if b = true then te ρ2 fun r ρ3 => ∃ e, r.shd = some e ∧ acc.length < 100000 ∧ mLcGo g tt te vs P ds (acc ++ [e]) (wipeE ρ3 vs) else mLcGo g tt te vs P ds acc (wipeE ρ2 vs)
def mLc (mi : MI) (g : MG) (tt : MT) (te : ME) (vs : List Nat) : ME := fun ρ P => mi ρ fun ds ρ' => mLcGo g tt te vs (fun xs ρ2 => P (.fr xs) (keepE ρ' ρ2 vs)) ds [] (wipeE ρ' vs)
theorem lc_core {K : PySem.W.Frag} {B : Bs} {w : Bool} {vs ws : List Nat} {mi : MI} {g : MG} {tt : MT} {te : ME} (sub : ∀ i ∈ ws, i ∈ vs) {σ : L2.St} {H : Hp} {Q : VK} (h : rd K B (mLc mi g tt te vs) σ H Q) :
    tLc (rdI K B w mi) (fun v σ H Q => ∃ B, rdG K B w ws g v σ H Q) (fun σ H Q => ∃ B, rdT K B tt σ H Q) (fun σ H Q => ∃ B, rd K B te σ H Q) vs σ H Q := by
  obtain ⟨U, W, ρ, P, R, p, q⟩ := h
  refine ⟨U, W, ρ, _, R, p, fun ds ρ1 J H1 p1 R1 a1 ok C nC => ?_⟩
  have nu := R1.nu nC
  have sm0 : Same H1 (upd H1 C (.lst [])) := same_new nC
  have R2 : RS K B (C :: U) W (wipeE ρ1 vs) (wipe σ vs) (upd H1 C (.lst [])) := (R1.hide sm0 nC upd_same).wiped vs
  refine ⟨fun i m H2 => m = ds.length - i ∧ i ≤ ds.length ∧ ∃ ρ2 acc accD, RS K B (C :: U) W ρ2 (wipe σ vs) H2 ∧ H2 C = some (.lst acc) ∧ DqAll K (cut (C :: U) H2) acc accD ∧ Adv W H1 H2 ∧
    mLcGo g tt te vs (fun xs ρ2 => P (.fr xs) (keepE ρ1 ρ2 vs)) (ds.drop i) accD ρ2, ⟨_, rfl, Nat.zero_le _, _, [], [], R2, upd_same, .nil, Adv.same sm0, p1⟩, ?_⟩
  rintro i m H2 ⟨rfl, hi, ρ2, acc, accD, R3, hC, hA, a3, p3⟩
  have sm : Same (cut U H1) (cut (C :: U) H2) := cut_mono (fun a m => by
    rcases List.mem_cons.mp m with e | m
    · subst e; exact .inr nC
    · exact .inl m) fun a o n e => by
      rcases a3 a o e with z | z
      · exact absurd (R1.wu a z) n
      · exact z
  by_cases hl : i < ds.length
  · have hd : ds[i]? = some ds[i] := List.getElem?_eq_getElem hl
    rw [List.drop_eq_getElem_cons hl] at p3
    refine .inr ⟨ok.go _ H2 sm R3.live i hl, fun H4 => ∃ ρ2 acc accD, RS K B (C :: U) W ρ2 (wipe σ vs) H4 ∧ H4 C = some (.lst acc) ∧ DqAll K (cut (C :: U) H4) acc accD ∧ Adv W H1 H4 ∧
      mLcGo g tt te vs (fun xs ρ2 => P (.fr xs) (keepE ρ1 ρ2 vs)) (ds.drop (i + 1)) accD ρ2, fun H4 h4 => ⟨ds.length - (i + 1), by omega, rfl, hl, h4⟩, fun x H4 y => ?_⟩
    obtain ⟨s4, k4⟩ := ok.yld _ H2 sm R3.live i _ x H4 hd y
    refine ⟨B, C :: U, W, ρ2, ds[i], _, R3.ext s4, k4, p3, fun ρ5 σ5 p5 R5 o5 => ?_⟩
    have e5 : wipe σ5 vs = wipe (wipe σ vs) vs := wipe_off ⟨o5.1, fun j n => o5.2 j fun m => n (sub j m)⟩
    have e6 : wipe (wipe σ vs) vs = wipe σ vs := wipe_off ⟨(wipe_length σ vs).symm, fun j n => wipe_get n⟩
    have e7 := e5.trans e6
    have a4 : Adv W H1 H4 := a3.trans (Adv.same s4)
    have nCW : C ∉ W := fun m => nu (R1.wu C m)
    refine ⟨e7, B, C :: U, W, ρ5, _, R5, p5, fun b ρ6 H6 p6 R6 a6 => ?_⟩
    have at_ : ∀ {H7}, Adv W H4 H7 → H7 C = some (.lst acc) := fun {H7} a7 => by
      rcases a7 C _ (s4 _ _ hC) with z | z
      · exact absurd z nCW
      · exact z
    have item : ∀ {H7}, Adv W H4 H7 → DqAll K (cut (C :: U) H7) acc accD := fun {H7} a7 => dpAll_mono (cut_mono (fun _ m => .inl m) fun a o n e => by
      rcases a7 a o (s4 _ _ e) with z | z
      · exact absurd (List.mem_cons_of_mem _ (R1.wu a z)) n
      · exact z) hA
    cases b with
    | false =>
      rw [if_neg Bool.false_ne_true] at p6
      refine iteF ?_
      exact ⟨_, acc, accD, e7 ▸ R6.wiped vs, at_ a6, item a6, a4.trans a6, p6⟩
    | true =>
      rw [if_pos rfl] at p6
      refine iteT ?_
      refine ⟨B, C :: U, W, ρ6, _, R6, p6, fun r ρ7 v H7 p7 R7 a7 k7 _ => ?_⟩
      obtain ⟨e, er, hz, p7⟩ := p7
      have kv := k7.shared R6 er
      have a67 := a6.trans a7
      refine ⟨acc, at_ a67, bigLt (by rw [dpAll_len (item a67)]; exact hz), ?_⟩
      have c7 : Same (cut (C :: U) H7) (cut (C :: U) (upd H7 C (.lst (acc ++ [v])))) := cut_mono (fun _ m => .inl m) fun a o n e => by
        rw [upd_ne (show a ≠ C from fun z => n (z ▸ List.mem_cons_self))]; exact e
      refine ⟨_, acc ++ [v], accD ++ [e], e7 ▸ RS.wiped (R7.updH nCW ⟨nC, nu, a4.trans a67, R1⟩) vs, upd_same, dpAll_mono c7 (dpAll_append (item a67) (.cons kv .nil)), fun a o e => ?_, p7⟩
      · by_cases z : a = C
        · subst z; rw [nC] at e; cases e
        · rw [upd_ne z]; exact (a4.trans a67) a o e
  · have e : i = ds.length := by omega
    subst e
    rw [List.drop_length] at p3
    have Rb : RS K B (C :: U) W (keepE ρ1 ρ2 vs) σ H2 := R1.back_blk R3 sm
    refine .inl ⟨ok.stop _ H2 sm R3.live, ?_⟩
    refine q _ _ _ _ p3 (Rb.unhide R1.wu R1.u0) (a1.trans a3) ⟨C, acc, rfl, R.back R1 a1 nC, hC, hA⟩ fun p' e => by cases e; exact Rb
end Dv
namespace Dv
open PySem PySem.Spec L2
/-! ### comprehensions, the rules -/
structure DTs (X : Cx) (ifs : List Expr) (m : MT) : Prop where
  run : ∀ B, PTs X ifs (rdT X.K B m)
def mYes : MT := fun ρ P => P true ρ
section
variable {X : Cx} {tg it elt : Expr} {ifs : List Expr} {scope : Scope} {own : List (Str × Nat)} {w : Bool} {ws : List Nat} {mi : MI} {g : MG} {tt : MT} {te : ME} {pos : Pos}
theorem dts_nil : DTs X [] mYes := ⟨fun B => ⟨fun pins s σ H Q I ⟨U, W, ρ, P, R, p, q⟩ => pts_nil.run pins s σ H Q I (q _ _ _ p R Adv.refl)⟩⟩
theorem dts_one {c : Expr} {t : MT} (h : DT X c t) : DTs X [c] t := ⟨fun B => pts_one (h.run B)⟩
abbrev Blk (X : Cx) (scope : Scope) (p : Cx → Prop) : Prop := ∀ (s : Shared) (H : Hp) (C : Addr) (cl : List (Str × Addr)) (fp : List Addr), p (X.blk s H scope (compEnvC scope cl C X.env) fp)
theorem DTs.ex {X : Cx} (h : DTs X ifs tt) : PTs X ifs (fun σ H Q => ∃ B, rdT X.K B tt σ H Q) := ⟨fun pins st σ H Q I ⟨B, q⟩ => (h.run B).run pins st σ H Q I q⟩
theorem de_lc (hc : X.calm = true) (hN : X.N.Nodup) (hi : DI X tg it w mi) (ok : BlkOk X.N X.env.scope scope own)
    (hg : Blk X scope fun Y => DG Y tg w ws g) (ht : Blk X scope fun Y => DTs Y ifs tt) (he : Blk X scope fun Y => DE Y elt te) (sub : ∀ i ∈ ws, i ∈ own.map (·.2) := by decide)
    (hs : ∀ x, foldedSetIterable it X.env x = pure x := by intro _; rfl) : DE X (.ListComp elt [⟨tg, it, ifs, 0⟩] scope pos) (mLc mi g tt te (own.map (·.2))) :=
  ⟨fun B => pe_imp (pe_lc hc hN (hi.run B) ok (fun s H C cl fp => (hg s H C cl fp).ex) (fun s H C cl fp => (ht s H C cl fp).ex) (fun s H C cl fp => (he s H C cl fp).ex) hs) fun σ H Q h => lc_core sub h⟩
theorem ds_setLc {i : Nat} {y : Str} {py spos : Pos} (hc : X.calm = true) (hN : X.N.Nodup) (hy : X.N[i]? = some y) (hyl : X.env.scope.names.lookup y = some .local)
    (hsw : swapsWith (.ListComp elt [⟨tg, it, ifs, 0⟩] scope pos) (some (.Name y py)) spos.line X.env = pure true) (hi : DI X tg it w mi) (ok : BlkOk X.N X.env.scope scope own)
    (hg : Blk X scope fun Y => DG Y tg w ws g) (ht : Blk X scope fun Y => DTs Y ifs tt) (he : Blk X scope fun Y => DE Y elt te) (sub : ∀ i ∈ ws, i ∈ own.map (·.2) := by decide)
    (hs : ∀ x, foldedSetIterable it X.env x = pure x := by intro _; rfl) : DS X (.Assign [.Name y py] (.ListComp elt [⟨tg, it, ifs, 0⟩] scope pos) spos) (mSet i (mLc mi g tt te (own.map (·.2)))) :=
  ⟨fun B => ps_imp (ps_setLc hc hN hy hyl hsw (hi.run B) ok (fun s H C cl fp => (hg s H C cl fp).ex) (fun s H C cl fp => (ht s H C cl fp).ex) (fun s H C cl fp => (he s H C cl fp).ex) hs) fun D σ H ⟨U, W, ρ, P, R, p, q⟩ => by
    refine lc_core (Q := fun x H1 => gName i x σ H1 D.nx) sub ⟨U, W, ρ, _, R, p, fun r ρ' v H' p' R' a' k kh => ?_⟩
    obtain ⟨U1, W1, ρ1, R1, p1⟩ := set_ok R R' k kh p'
    exact q.nx _ _ _ _ _ R1 p1⟩
end
/-! ### the methods of a list of one's own -/
/-- the list at a slot -/
def ownL (ρ : En) (i : Nat) (k : List D → Prop) : Prop := match ρ[i]? with
  | some (.ow (.lst xs)) => k xs
  | _ => False
theorem ownL_at {K : PySem.W.Frag} {B : Bs} {U W : List Addr} {ρ : En} {σ : L2.St} {H : Hp} {i : Nat} {k : List D → Prop} (R : RS K B U W ρ σ H) (h : ownL ρ i k) :
    ∃ xs a vs, k xs ∧ ρ[i]? = some (.ow (.lst xs)) ∧ σ[i]? = some (some (.ref a)) ∧ H a = some (.lst vs) ∧ DqAll K (cut U H) vs xs := by
  unfold ownL at h
  split at h
  · rename_i xs q
    obtain ⟨a, vs, e1, m, np, ha, t⟩ := R.lstAt q
    exact ⟨xs, a, vs, h, q, e1, ha, t⟩
  · exact h.elim
def mApp (i : Nat) (m : ME) : ME := fun ρ P => ownL ρ i fun _ => m ρ fun r ρ' => ownL ρ' i fun xs => ∃ d, r.shd = some d ∧ xs.length < 100000 ∧ P (.sh .none) (ρ'.set i (.ow (.lst (xs ++ [d]))))
def mExt (i : Nat) (m : ME) : ME := fun ρ P => ownL ρ i fun _ => m ρ fun r ρ' => ownL ρ' i fun xs => ∃ ys, r.dat ρ' = some (.list ys) ∧ xs.length + ys.length ≤ 100000 ∧ P (.sh .none) (ρ'.set i (.ow (.lst (xs ++ ys))))
def mPopAt (i : Nat) (m : ME) : ME := fun ρ P => ownL ρ i fun _ => m ρ fun r ρ' => ownL ρ' i fun xs => ∃ k j z, r = .sh (.int k) ∧ xs.length ≤ 100000 ∧ ixN xs.length k = some j ∧ xs[j]? = some z ∧ P (.sh z) (ρ'.set i (.ow (.lst (xs.eraseIdx j))))
def mPop (i : Nat) : ME := fun ρ P => ownL ρ i fun xs => ∃ z, xs[xs.length - 1]? = some z ∧ P (.sh z) (ρ.set i (.ow (.lst xs.dropLast)))
section
variable {X : Cx} {e a : Expr} {m mb ma : ME}
/-- one argument -/
abbrev one (te : TE) : TA := tCons te tNil
theorem shd_ok {K : PySem.W.Frag} {B : Bs} {U W : List Addr} {ρ : En} {σ : L2.St} {H H' : Hp} {r : Rv} {v : V} {d : D} (R : RS K B U W ρ σ H) (k : RvOk K U σ H H' r v) (e : r.shd = some d) : Dq K (cut U H') v d := k.shared R e
theorem de_app {i : Nat} (h : ∀ {te : TE}, PE X a te → PE X e (tBM X.K "list" rAppend (tVar i) (one te))) (ha : DE X a m) : DE X e (mApp i m) := ⟨fun B => pe_imp (h (ha.run B)) fun σ H Q ⟨U, W, ρ, P, R, p, q⟩ => by
  obtain ⟨xs0, l, vs0, p, q0, s0, h0, t0⟩ := ownL_at R p
  refine ⟨.ref l, s0, .inl ⟨rfl, vs0, SqL.of h0⟩, U, W, ρ, _, R, p, fun r ρ' v H' p' R' a' k _ => ?_⟩
  obtain ⟨xs, l2, vs, ⟨d, er, hz, p2⟩, q2, s2, h2, t2⟩ := ownL_at R' p'
  rw [s0] at s2; cases s2
  have kd := k.shared R er
  obtain ⟨R3, a3, c3⟩ := R'.updOw (ws := vs ++ [v]) (ys := xs ++ [d]) q2 s0 (dpAll_append t2 (.cons kd .nil))
  exact ⟨l, vs, v, rfl, rfl, h2, bigLt (by rw [dpAll_len t2]; exact hz), q _ _ _ _ p2 R3 (a'.trans a3) Dq.non trivial⟩⟩
theorem de_ext {i : Nat} (h : ∀ {te : TE}, PE X a te → PE X e (tBM X.K "list" rExtend (tVar i) (one te))) (ha : DE X a m) : DE X e (mExt i m) := ⟨fun B => pe_imp (h (ha.run B)) fun σ H Q ⟨U, W, ρ, P, R, p, q⟩ => by
  obtain ⟨xs0, l, vs0, p, q0, s0, h0, t0⟩ := ownL_at R p
  refine ⟨.ref l, s0, .inl ⟨rfl, vs0, SqL.of h0⟩, U, W, ρ, _, R, p, fun r ρ' v H' p' R' a' k _ => ?_⟩
  obtain ⟨xs, l2, vs, ⟨ys, er, hz, p2⟩, q2, s2, h2, t2⟩ := ownL_at R' p'
  rw [s0] at s2; cases s2
  obtain ⟨b, ws, rfl, h3, t3⟩ := (k.dt R' er).list
  obtain ⟨R3, a3, c3⟩ := R'.updOw (ws := vs ++ ws) (ys := xs ++ ys) q2 s0 (dpAll_append t2 t3)
  exact ⟨l, b, vs, ws, rfl, rfl, h2, h3, bigLine (by rw [dpAll_len t2, dpAll_len t3]; exact hz), q _ _ _ _ p2 R3 (a'.trans a3) Dq.non trivial⟩⟩
theorem de_popAt {i : Nat} (h : ∀ {te : TE}, PE X a te → PE X e (tBM X.K "list" rPopAt (tVar i) (one te))) (ha : DE X a m) : DE X e (mPopAt i m) := ⟨fun B => pe_imp (h (ha.run B)) fun σ H Q ⟨U, W, ρ, P, R, p, q⟩ => by
  obtain ⟨xs0, l, vs0, p, q0, s0, h0, t0⟩ := ownL_at R p
  refine ⟨.ref l, s0, .inl ⟨rfl, vs0, SqL.of h0⟩, U, W, ρ, _, R, p, fun r ρ' v H' p' R' a' k _ => ?_⟩
  obtain ⟨xs, l2, vs, ⟨kk, j, z, rfl, hz, hj, hx, p2⟩, q2, s2, h2, t2⟩ := ownL_at R' p'
  rw [s0] at s2; cases s2
  have ev : v = .int kk := by cases k; rfl
  obtain ⟨s1, jl, lo, hi⟩ := ixN_seq hj
  obtain ⟨y, e1, e2⟩ := dpAll_get t2 hx
  obtain ⟨R3, a3, c3⟩ := R'.updOw (ws := vs.eraseIdx j) (ys := xs.eraseIdx j) q2 s0 (dpAll_erase j t2)
  exact ⟨l, vs, kk, j, y, rfl, by rw [ev], h2, by omega, by omega, by rw [dpAll_len t2]; exact s1, e1, q _ _ _ _ p2 R3 (a'.trans a3) (dp_mono c3 e2) trivial⟩⟩
theorem de_pop {i : Nat} (h : PE X e (tBM0 X.K "list" rPop (tVar i))) : DE X e (mPop i) := ⟨fun B => pe_imp h fun σ H Q ⟨U, W, ρ, P, R, p, q⟩ => by
  obtain ⟨xs, l, vs, ⟨z, hx, p⟩, q0, s0, h0, t0⟩ := ownL_at R p
  obtain ⟨y, e1, e2⟩ := dpAll_get t0 hx
  have td : DqAll X.K (cut U H) vs.dropLast xs.dropLast := by
    rw [List.dropLast_eq_take, List.dropLast_eq_take, dpAll_len t0]
    exact dpAll_take _ t0
  obtain ⟨R3, a3, c3⟩ := R.updOw (ws := vs.dropLast) (ys := xs.dropLast) q0 s0 (td)
  exact ⟨.ref l, s0, .inl ⟨rfl, vs, SqL.of h0⟩, l, vs, y, rfl, rfl, h0, by rw [dpAll_len t0]; exact e1, q _ _ _ _ p R3 a3 (dp_mono c3 e2) trivial⟩⟩
/-! index -/
def rTupIx (K : PySem.W.Frag) : V → List V → Hp → VK → Prop := fun x xs H Q => ∃ (p : Addr) (ys : List V) (y : V) (j : Nat) (z : V), x = .ref p ∧ xs = [y] ∧ SqT K H p ys ∧ flatV y = true ∧ ys.all flatV = true ∧ ys[j]? = some z ∧ eqV z y = true ∧
  (∀ (m : Nat) (z' : V), m < j → ys[m]? = some z' → eqV z' y = false) ∧ Q (.int (j : Nat)) H
theorem mt_tupIx : MtR X "tuple.index" (rTupIx X.K) := by
  rintro pins s σ H x xs v us Q I rx rs ⟨p, ys, y, j, z, rfl, rfl, hq, fy, fs, hy, hz, hno, q⟩
  cases rx
  obtain ⟨uy, rfl, ry⟩ := vals1 rs
  obtain ⟨its, r, ⟨⟨cls, dd, dt, sl⟩, ho, hc, n, hd⟩, hl⟩ := I.tuple hq
  simp only at hc hd
  subst hc hd
  have sz : its.toArray.size = ys.length := by rw [List.size_toArray, ← r.length]
  have hj : j < its.toArray.size := by rw [sz]; exact (List.getElem?_eq_some_iff.mp hy).1
  have item : ∀ (m : Nat) (hm : m < its.toArray.size), ∃ y', ys[m]? = some y' ∧ eqU y its.toArray[m] = eqV y' y := fun m hm => by
    have hm' : m < ys.length := by rw [← sz]; exact hm
    obtain ⟨u2, g2, r2⟩ := r.get (i := m) (x := ys[m]) (List.getElem?_eq_getElem hm')
    have e := (List.getElem?_eq_some_iff.mp g2).2
    refine ⟨ys[m], List.getElem?_eq_getElem hm', ?_⟩
    have e2 : its.toArray[m] = u2 := by rw [← e]; simp
    rw [e2]
    exact eqU_of r2 (flat_at fs (List.getElem?_eq_getElem hm'))
  refine call_meets PySem.F.slot_tuple_index ⟨_, ho, rfl⟩ PySem.F.entry_tuple_index (PySem.F.args_tuple_index_2 _ _) (TI.tuple_indexAt p its.toArray n dd sl uy (eqU y) j hj ?_ ?_)
    ⟨ho, fun w hw => mem_eqAt ry fy r fs w (by simpa using hw), ⟨.int (j : Nat), H, I.tok _, ⟨_, rfl⟩, q⟩⟩
  · obtain ⟨y', h1, h2⟩ := item j hj
    rw [hy] at h1; cases h1
    rw [h2]; exact hz
  · intro m hm hmj
    obtain ⟨y', h1, h2⟩ := item m hm
    rw [h2]; exact hno m y' hmj h1
def idxD (ds : List D) (d : D) : Option Nat := ds.findIdx? fun z => PyData.eqv z d
theorem idxD_some {ds : List D} {d : D} {j : Nat} (h : idxD ds d = some j) : ∃ z, ds[j]? = some z ∧ PyData.eqv z d = true ∧ ∀ m z', m < j → ds[m]? = some z' → PyData.eqv z' d = false := by
  unfold idxD at h
  obtain ⟨hj, h1, h2⟩ := List.findIdx?_eq_some_iff_getElem.mp h
  refine ⟨ds[j], List.getElem?_eq_getElem hj, h1, fun m z' hm e => ?_⟩
  have hm' : m < ds.length := by omega
  rw [List.getElem?_eq_getElem hm'] at e
  cases e
  have := h2 m hm
  simpa using this
/-- t.index(x), t a tuple of flat things -/
def mIdxT (ma mb : ME) : ME := fun ρ P => ma ρ fun r ρ1 => ∃ ds, r = .sh (.tuple ds) ∧ mb ρ1 fun r2 ρ2 => ∃ d j, r2 = .sh d ∧ flatD d = true ∧ ds.all flatD = true ∧ idxD ds d = some j ∧ P (.sh (.int (j : Nat))) ρ2
theorem de_idxT {b : Expr} (h : ∀ {to te : TE}, PE X a to → PE X b te → PE X e (tTM X.K (rTupIx X.K) to (one te))) (ha : DE X a ma) (hb : DE X b mb) : DE X e (mIdxT ma mb) := ⟨fun B => pe_imp (h (ha.run B) (hb.run B)) fun σ H Q ⟨U, W, ρ, P, R, p, q⟩ =>
  ⟨U, W, ρ, _, R, p, fun r ρ1 v H1 p1 R1 a1 k1 _ => by
    obtain ⟨ds, rfl, p1⟩ := p1
    have kq : Dq X.K (cut U H1) v (.tuple ds) := k1
    obtain ⟨a, vs, rfl, ft, t⟩ := (Dt.sh kq).tupleF
    refine ⟨⟨a, vs, rfl, ft⟩, U, W, ρ1, _, R1, p1, fun r2 ρ2 w H2 p2 R2 a2 k2 _ => ?_⟩
    obtain ⟨d, j, rfl, f1, f2, ej, p3⟩ := p2
    obtain ⟨z, z1, z2, z3⟩ := idxD_some ej
    have c := R1.cut a2
    have kq2 : Dq X.K (cut U H2) (.ref a) (.tuple ds) := dp_mono c kq
    obtain ⟨a', ws, e, ft2, t2⟩ := (Dt.sh kq2).tupleF
    cases e
    have kd : Dq X.K (cut U H2) w d := k2
    obtain ⟨y, y1, y2⟩ := dpAll_get t2 z1
    refine ⟨a, ws, w, j, y, rfl, rfl, ft2.sq, flat_v kd f1, flat_vs t2 f2, y1, ?_, fun m z' hm e' => ?_, q _ _ _ _ p3 R2 (a1.trans a2) (Dq.int _) trivial⟩
    · rw [eqv_flat y2 kd (List.all_eq_true.mp f2 z (List.mem_of_getElem? z1)) f1]; exact z2
    · obtain ⟨d', d1, d2⟩ := dpAll_getV t2 e'
      rw [eqv_flat d2 kd (List.all_eq_true.mp f2 d' (List.mem_of_getElem? d1)) f1]
      exact z3 m d' hm d1⟩⟩
/-- l.index(x), l a list of flat things -/
def mIdxL (ma mb : ME) : ME := fun ρ P => ma ρ fun r ρ1 => (∃ ds, r.dat ρ1 = some (.list ds)) ∧ mb ρ1 fun r2 ρ2 => ∃ ds d j, r.dat ρ2 = some (.list ds) ∧ r2 = .sh d ∧ flatD d = true ∧ ds.all flatD = true ∧ idxD ds d = some j ∧ P (.sh (.int (j : Nat))) ρ2
theorem de_idxL {b : Expr} (h : ∀ {to te : TE}, PE X a to → PE X b te → PE X e (tBM X.K "list" (rIndex X.K) to (one te))) (ha : DE X a ma) (hb : DE X b mb) : DE X e (mIdxL ma mb) := ⟨fun B => pe_imp (h (ha.run B) (hb.run B)) fun σ H Q ⟨U, W, ρ, P, R, p, q⟩ =>
  ⟨U, W, ρ, _, R, p, fun r ρ1 v H1 p1 R1 a1 k1 _ => by
    obtain ⟨⟨ds0, e0⟩, p1⟩ := p1
    obtain ⟨a, vs, rfl, h1, t1⟩ := (k1.dt R1 e0).list
    refine ⟨.inl ⟨rfl, vs, SqL.of h1⟩, U, W, ρ1, _, R1, p1, fun r2 ρ2 w H2 p2 R2 a2 k2 _ => ?_⟩
    obtain ⟨ds, d, j, e1, rfl, f1, f2, ej, p3⟩ := p2
    obtain ⟨z, z1, z2, z3⟩ := idxD_some ej
    obtain ⟨a', ws, e, h2, t2⟩ := ((k1.adv R R1 a1 a2).dt R2 e1).list
    cases e
    have kd : Dq X.K (cut U H2) w d := k2
    obtain ⟨y, y1, y2⟩ := dpAll_get t2 z1
    refine ⟨a, ws, w, j, y, rfl, rfl, SqL.of h2, flat_v kd f1, flat_vs t2 f2, y1, ?_, fun m z' hm e' => ?_, q _ _ _ _ p3 R2 (a1.trans a2) (Dq.int _) trivial⟩
    · rw [eqv_flat y2 kd (List.all_eq_true.mp f2 z (List.mem_of_getElem? z1)) f1]; exact z2
    · obtain ⟨d', d1, d2⟩ := dpAll_getV t2 e'
      rw [eqv_flat d2 kd (List.all_eq_true.mp f2 d' (List.mem_of_getElem? d1)) f1]
      exact z3 m d' hm d1⟩⟩
end
end Dv
namespace Dv
open PySem PySem.Spec L2
/-! ### defs -/
/-- what a def means: from its arguments' data, the result -/
abbrev DF := List D → (Rv → Prop) → Prop
def RvF (K : PySem.W.Frag) (U : List Addr) (H H' : Hp) : Rv → V → Prop
  | .sh d, v => Dq K (cut U H') v d
  | .fr xs, v => ∃ p vs, v = .ref p ∧ H p = none ∧ H' p = some (.lst vs) ∧ DqAll K (cut (p :: U) H') vs xs
  | .bw _, _ => False
/-- the promise of a def: Pi the pot's address, if it has one (its first argument) -/
def spD (K : PySem.W.Frag) (pt : Bool) (G : DF) : Sp := fun vs H Q _ => ∃ (U Pi : List Addr) (ws : List V) (ds : List D) (P : Rv → Prop),
  (∀ a ∈ U, ∃ o, H a = some o) ∧ (if pt = true then ∃ π, Pi = [π] ∧ vs = .ref π :: ws else Pi = [] ∧ vs = ws) ∧ (∀ a ∈ Pi, a ∈ U ∧ PotAt H a) ∧ DqAll K (cut U H) ws ds ∧ G ds P ∧
  ∀ r v H', P r → (∀ a o, H a = some o → a ∈ Pi ∨ H' a = some o) → (∀ a ∈ Pi, PotAt H' a) → RvF K U H H' r v → Q v H'
structure FnG (P : Program) (w : World) (K : PySem.W.Frag) (mg : Str → Option Value) (base : Heap) (k : Nat) (f : Addr) (fd : FuncData) (ps : List Str) (sp : Sp) : Prop where
  len : ∀ vs H Q E, sp vs H Q E → vs.length = ps.length
  go : ∀ (A : Around) (outer : List Env) (s : Shared) (H : Hp) (args : Args) (us : List Value) (vs : List V) (Q : VK), A.guards = some [] → Room k A → Env0 P w K mg base A outer s H →
    BindsTo s fd args (ps.zip us) → Vals vs us → sp vs H Q E0 → codeAny (model P w) A (.call (.ref f) args) (CR CX0 outer P w H s Q E0) s
theorem FnG.mono {P : Program} {w : World} {K : PySem.W.Frag} {mg : Str → Option Value} {base : Heap} {j k : Nat} {f : Addr} {fd : FuncData} {ps : List Str} {sp : Sp} (F : FnG P w K mg base j f fd ps sp) (h : j ≤ k) : FnG P w K mg base k f fd ps sp :=
  ⟨F.len, fun A outer s H args us vs Q hg hr => F.go A outer s H args us vs Q hg (hr.mono h)⟩
/-- the context of a def's body -/
abbrev Body (P : Program) (w : World) (K : PySem.W.Frag) (mg : Str → Option Value) (base : Heap) (N : List Str) (qual : Str) (st : Stmt) (f : Addr) (cdv : Value) (A : Around) (outer : List Env) (s : Shared) (H : Hp) : Cx :=
  (cxOf CX0 P w K mg base N qual (defScope st) f cdv A outer s H E0).nox
section
variable {P : Program} {w : World} {K : PySem.W.Frag} {mg : Str → Option Value} {base : Heap}
/-- a def that stands in the text keeps a promise -/
theorem fnG_of {x qual : Str} {st : Stmt} {f : Addr} {fd : FuncData} {N ps : List Str} {k : Nat} {sp : Sp} (F : Fun K x qual st f fd) (S : FnScope N ps (defScope st)) (len : ∀ vs H Q E, sp vs H Q E → vs.length = ps.length)
    (hb : ∀ (cdv : Value) (A : Around) (outer : List Env) (s : Shared) (H : Hp) (vs : List V) (Q : VK), A.guards = some [] → Room k (A.deeper (PyProof.Rows.envOfC qual (defScope st) s.heap.objs.size f cdv)) → sp vs H Q E0 →
      ∃ t, PSs (Body P w K mg base N qual st f cdv A outer s H) (defBody st) t ∧ t { nx := fun _ H' => Q .non H', rt := Q } (L2.start N vs) H) : FnG P w K mg base (k + 1) f fd ps sp := by
  obtain ⟨oc, od, kV, doc, pm, an, cdv, ct, osl, rfl, lk, hcd⟩ := F.ex
  refine ⟨len, fun A outer s H args us vs Q hgd hr e0 hbi r hsp => ?_⟩
  have hl := len _ _ _ _ hsp
  have bk : ∀ b o, base.get? b = some o → s.heap.get? b = some o := fun b o e => (e0.bs b o e).1
  have KX : K.In s.heap := e0.mod.kin.keeps bk
  have lim : s.heap.NoLimit := e0.mod.nolimit.keeps bk
  have kinds : ∀ y ∈ ps.zip us, (defScope st).names.lookup y.1 = some .local ∨ ((defScope st).names.lookup y.1 = some .cell ∧ ((cellsFrom (s.heap.objs.size + 1) (defScope st).names []).lookup y.1).isSome = true) := by
    rintro ⟨n, v⟩ hy
    rcases S.par n (List.of_mem_zip hy).1 with q | q
    · exact .inl q
    · exact .inr ⟨q, PySem.W.cellsFrom_some _ _ _ (.inl q)⟩
  refine codeAny_call_function hr.depth (KX _ _ lk) rfl S.co S.gen rfl (PySem.W.codeRec_of KX hcd) (hbi _ _ _ _ ?_)
  refine wpAny_newFunctionEnv_cells S.kind kinds fun env he s1 x => ?_
  subst he
  refine ⟨lim.keeps x.toInCall.keep, codeAny_func ?_⟩
  obtain ⟨t, ht, hq⟩ := hb cdv A outer s H vs Q hgd (hr.deeper _) hsp
  have I : Inv (cxOf CX0 P w K mg base N qual (defScope st) f cdv A outer s H E0) [] (L2.start N vs) H s1 := inv_start S hr.hd e0 hl r x
  refine wpAny_mono (ht.nox.run [] s1 (L2.start N vs) H _ I hq) (fun fl s' hs => ?_) fun e s' hs => hs
  have fin : ∀ {σ' : L2.St} {H' : Hp} {v : V} {u : Value}, Inv (cxOf CX0 P w K mg base N qual (defScope st) f cdv A outer s H E0) [] σ' H' s' → RelV v u → Q v H' → CE outer P w H s Q u s' :=
    fun {σ' H' v u} J rv q => ⟨v, H', J.os, J.bare, J.base, J.hok, rv, q⟩
  cases fl with
  | ret u =>
    obtain ⟨v, σ', H', J, rv, q⟩ := hs
    exact fin J rv q
  | next =>
    obtain ⟨σ', H', J, q⟩ := hs
    exact fin (v := V.non) (u := Value.none) J rfl q
  | brk =>
    obtain ⟨_, _, _, q⟩ := hs
    exact q.elim
  | cont =>
    obtain ⟨_, _, _, q⟩ := hs
    exact q.elim
/-- what a body means as a def: n parameters (with the pot), l names -/
def dfN (pt : Bool) (n l : Nat) (m : MS) : DF := fun ds P => ds.length + (if pt = true then 1 else 0) = n ∧
  m { nx := fun _ => P (.sh .none), rt := P } ((if pt = true then [Sl.pot] else []) ++ ds.map .sh ++ List.replicate (l - n) .un)
theorem spD_len {pt : Bool} {n l : Nat} {m : MS} {vs : List V} {H : Hp} {Q : VK} {E : XK} (h : spD K pt (dfN pt n l m) vs H Q E) : vs.length = n := by
  obtain ⟨U, Pi, ws, ds, P, lv, hp, _, t, ⟨hl, _⟩, _⟩ := h
  have := dpAll_len t
  cases pt with
  | true =>
    rw [if_pos rfl] at hp hl
    obtain ⟨π, _, rfl⟩ := hp
    rw [List.length_cons]; omega
  | false =>
    rw [if_neg Bool.false_ne_true] at hp hl
    rw [hp.2]; omega
theorem start_shs {vs : List V} {ds : List D} {Hs : Hp} (t : DqAll K Hs vs ds) : ∀ (i : Nat) (s : Sl), (ds.map Sl.sh)[i]? = some s → ∃ d v, s = .sh d ∧ vs[i]? = some v ∧ Dq K Hs v d := fun i s h => by
  rw [List.getElem?_map] at h
  obtain ⟨d, e, rfl⟩ := Option.map_eq_some_iff.mp h
  obtain ⟨v, a, b⟩ := dpAll_get t e
  exact ⟨d, v, rfl, a, b⟩
theorem fnG_body {pt : Bool} {x qual : Str} {st : Stmt} {f : Addr} {fd : FuncData} {N ps : List Str} {k : Nat} {m : MS} (F : Fun K x qual st f fd) (S : FnScope N ps (defScope st)) (hN : ps.length ≤ N.length := by decide)
    (hb : ∀ (cdv : Value) (A : Around) (outer : List Env) (s : Shared) (H : Hp), A.guards = some [] → Room k (A.deeper (PyProof.Rows.envOfC qual (defScope st) s.heap.objs.size f cdv)) → DSs (Body P w K mg base N qual st f cdv A outer s H) (defBody st) m) :
    FnG P w K mg base (k + 1) f fd ps (spD K pt (dfN pt ps.length N.length m)) := by
  refine fnG_of F S (fun vs H Q E h => spD_len h) fun cdv A outer s H vs Q hg hr h => ?_
  have hlen := spD_len h
  obtain ⟨U, Pi, ws, ds, P', lv, hp, hpi, t, ⟨hl, hm⟩, q⟩ := h
  have l1 := dpAll_len t
  refine ⟨_, ((hb cdv A outer s H hg hr).run ⟨cut Pi H, U, U, Pi⟩), U, Pi, _, _, ?_, hm, ?_⟩
  · -- the state at the entry
    have es : L2.start N vs = vs.map some ++ List.replicate (N.length - ps.length) none := by unfold L2.start; rw [hlen]
    have av : ∀ (i : Nat) (v : V), vs[i]? = some v → (L2.start N vs)[i]? = some (some v) := fun i v e => by
      rw [es, List.getElem?_append_left (by rw [List.length_map]; exact (List.getElem?_eq_some_iff.mp e).1), List.getElem?_map, e]; rfl
    have kinds : ∀ (i : Nat) (sl : Sl), ((if pt = true then [Sl.pot] else []) ++ ds.map Sl.sh ++ List.replicate (N.length - ps.length) Sl.un)[i]? = some sl →
        sl = .un ∨ (∃ d v, sl = .sh d ∧ vs[i]? = some v ∧ Dq K (cut U H) v d) ∨ (sl = .pot ∧ ∃ π, Pi = [π] ∧ vs[i]? = some (.ref π)) := fun i sl e => by
      rw [List.append_assoc] at e
      have tailC : ∀ (j : Nat), (ds.map Sl.sh ++ List.replicate (N.length - ps.length) Sl.un)[j]? = some sl → sl = .un ∨ ∃ d v, sl = .sh d ∧ ws[j]? = some v ∧ Dq K (cut U H) v d := fun j e => by
        by_cases hj : j < (ds.map Sl.sh).length
        · rw [List.getElem?_append_left hj] at e
          exact .inr (start_shs t j sl e)
        · rw [List.getElem?_append_right (by omega)] at e
          exact .inl (List.eq_of_mem_replicate (List.mem_of_getElem? e))
      cases pt with
      | false =>
        rw [if_neg Bool.false_ne_true] at e hp
        obtain ⟨_, rfl⟩ := hp
        rcases tailC i e with z | z
        · exact .inl z
        · exact .inr (.inl z)
      | true =>
        rw [if_pos rfl] at e hp
        obtain ⟨π, e1, rfl⟩ := hp
        cases i with
        | zero =>
          have e' : some Sl.pot = some sl := e
          cases e'
          exact .inr (.inr ⟨rfl, π, e1, rfl⟩)
        | succ j =>
          have e' : (ds.map Sl.sh ++ List.replicate (N.length - ps.length) Sl.un)[j]? = some sl := e
          rcases tailC j e' with z | z
          · exact .inl z
          · exact .inr (.inl z)
    refine ⟨?_, ⟨fun _ => [], fun i sl e => ?_, fun i j s1 s2 a q1 q2 m1 _ => nomatch m1⟩, lv, fun a ma => (hpi a ma).1, fun a ma => if_pos ma, fun a o e => (cut_some e).2, fun a ma => .inl ma, fun a ma => .inl ma, fun a ma => ma, fun a ma => ma, fun a ma => (hpi a ma).2⟩
    · rw [es]
      simp only [List.length_append, List.length_map, List.length_replicate]
      cases pt with
      | true => rw [if_pos rfl] at hl ⊢; simp only [List.length_cons, List.length_nil]; omega
      | false => rw [if_neg Bool.false_ne_true] at hl ⊢; simp only [List.length_nil]; omega
    · rcases kinds i sl e with rfl | ⟨d, v, rfl, e1, e2⟩ | ⟨rfl, π, e1, e2⟩
      · exact rfl
      · rw [av i v e1]; exact ⟨rfl, v, rfl, e2⟩
      · rw [av i _ e2]; exact ⟨rfl, π, rfl, by rw [e1]; exact List.mem_cons_self⟩
  · have keep : ∀ {U1 W1 ρ1 σ1 H1}, RS K ⟨cut Pi H, U, U, Pi⟩ U1 W1 ρ1 σ1 H1 → ∀ a o, H a = some o → a ∈ Pi ∨ H1 a = some o := fun {U1 W1 ρ1 σ1 H1} R a o e => by
      by_cases z : a ∈ Pi
      · exact .inl z
      · exact .inr (R.stay a o (cut_of z e))
    have res : ∀ {U1 W1 ρ1 σ1 H1 r v}, RS K ⟨cut Pi H, U, U, Pi⟩ U1 W1 ρ1 σ1 H1 → P' r → RtOk K ⟨cut Pi H, U, U, Pi⟩ U1 H1 r v → Q v H1 := fun {U1 W1 ρ1 σ1 H1 r v} R p k => by
      refine q r v H1 p (keep R) (fun a ma => R.pots a ma) ?_
      cases r with
      | sh d => exact dp_mono (cut_mono (fun a m => .inl (R.u0 a m)) fun _ _ _ e => e) k
      | bw i => exact k.elim
      | fr xs =>
        obtain ⟨p0, vs0, e, z, np, h1, t1⟩ := k
        refine ⟨p0, vs0, e, ?_, h1, dpAll_mono (cut_mono (fun a m => .inl ?_) fun _ _ _ e => e) t1⟩
        · cases e0 : H p0 with
          | none => rfl
          | some o =>
            have : cut Pi H p0 = some o := cut_of np e0
            rw [show cut Pi H p0 = none from z] at this; cases this
        · rcases List.mem_cons.mp m with w1 | w1
          · subst w1; exact List.mem_cons_self
          · exact List.mem_cons_of_mem _ (R.u0 a w1)
    exact ⟨fun U1 W1 ρ1 σ1 H1 R p => res R p Dq.non, fun _ _ _ _ _ _ p => p.elim, fun _ _ _ _ _ _ p => p.elim, fun U1 W1 ρ1 σ1 H1 r v R p k => res R p k⟩
end
/-! ### calls -/
mutual
/-- no list within -/
def lf : D → Bool
  | .list _ => false
  | .tuple xs => lfAll xs
  | .dict _ => false
  | _ => true
def lfAll : List D → Bool
  | [] => true
  | d :: ds => lf d && lfAll ds
end
def lfR : Rv → Bool
  | .sh d => lf d
  | .fr xs => lfAll xs
  | .bw _ => false
section
variable {K : PySem.W.Frag} {U U1 : List Addr} {H : Hp}
mutual
theorem lf_dq (h : ∀ a ∈ U, a ∉ U1 → ∃ vs, H a = some (.lst vs)) : ∀ {v : V} {d : D}, Dq K (cut U1 H) v d → lf d = true → Dq K (cut U H) v d
  | _, _, .non, _ => .non
  | _, _, .bl b, _ => .bl b
  | _, _, .int i, _ => .int i
  | _, _, .str x, _ => .str x
  | _, _, .lst _ _, f => by simp [lf] at f
  | _, _, .tup (a := a) (xs := xs) z t, f => by
    refine .tup ?_ (lf_all h t (by simpa [lf] using f))
    rcases z with ⟨o, z, to⟩ | z
    · obtain ⟨n, z⟩ := cut_some z
      refine .inl ⟨o, cut_of (fun m => ?_) z, to⟩
      obtain ⟨ws, e⟩ := h a m n
      rw [z] at e; cases e
    · exact .inr z
theorem lf_all (h : ∀ a ∈ U, a ∉ U1 → ∃ vs, H a = some (.lst vs)) : ∀ {vs : List V} {ds : List D}, DqAll K (cut U1 H) vs ds → lfAll ds = true → DqAll K (cut U H) vs ds
  | _, _, .nil, _ => .nil
  | _, _, .cons (d := d) (ds := ds) a t, f => by
    have f' : lf d = true ∧ lfAll ds = true := by simpa [lfAll] using f
    exact .cons (lf_dq h a f'.1) (lf_all h t f'.2)
end
end
def isBw : Rv → Bool
  | .bw _ => true
  | _ => false
/-- the addresses of what is lent -/
def lent (σ : L2.St) : List Rv → List Addr
  | [] => []
  | .bw i :: rs => (match σ[i]? with
    | some (some (.ref a)) => [a]
    | _ => []) ++ lent σ rs
  | _ :: rs => lent σ rs
/-- f(..): data go in, what is own is lent; then no list may come out that might be the lent one -/
def mCall (G : DF) (m : MA) : ME := fun ρ P => m ρ fun rs ρ' => ∃ ds, datAll ρ' rs = some ds ∧ G ds fun r => isBw r = false ∧ (rs.any isBw = true → lfR r = true) ∧ P r ρ'
/-- f(pot, ..) -/
def mCallP (i : Nat) (G : DF) (m : MA) : ME := fun ρ P => ρ[i]? = some .pot ∧ m ρ fun rs ρ' => ∃ ds, datAll ρ' rs = some ds ∧ G ds fun r => isBw r = false ∧ (rs.any isBw = true → lfR r = true) ∧ P r ρ'
section
variable {K : PySem.W.Frag} {B : Bs} {U W : List Addr} {ρ : En} {σ : L2.St} {H H' : Hp}
theorem lent_at (R : RS K B U W ρ σ H) : ∀ {rs : List Rv} {ds : List D}, datAll ρ rs = some ds → ∀ a ∈ lent σ rs, ∃ vs, H a = some (.lst vs) ∧ a ∉ B.Pi
  | [], _, _, a, m => nomatch m
  | .sh _ :: rs, ds, e, a, m => by
    unfold datAll at e
    split at e
    · rename_i e1 e2; exact lent_at R e2 a m
    · cases e
  | .fr _ :: rs, ds, e, a, m => by
    unfold datAll at e
    split at e
    · rename_i e1 e2; exact lent_at R e2 a m
    · cases e
  | .bw i :: rs, ds, e, a, m => by
    unfold datAll at e
    split at e
    · rename_i d ds' e1 e2
      rcases List.mem_append.mp m with m | m
      · dsimp only [Rv.dat] at e1
        split at e1
        · rename_i xs q
          obtain ⟨b, vs, z1, z2, z3, z4, _⟩ := R.lstAt q
          rw [z1] at m
          have : a = b := by simpa using m
          subst this
          exact ⟨vs, z4, z3⟩
        · cases e1
      · exact lent_at R e2 a m
    · cases e
theorem args_dq {ρ0 : En} {H0 : Hp} {U1 : List Addr} (sub : ∀ a ∈ U1, a ∈ U) (R0 : RS K B U W ρ0 σ H0) (R : RS K B U W ρ σ H) : ∀ {rs : List Rv} {vs : List V} {ds : List D}, RvAll K U σ H0 H rs vs → datAll ρ rs = some ds → (∀ a ∈ lent σ rs, a ∉ U1) → DqAll K (cut U1 H) vs ds
  | [], [], _, _, e, _ => by cases e; exact .nil
  | r :: rs, v :: vs, ds, ⟨k, t⟩, e, n => by
    unfold datAll at e
    split at e
    · rename_i d ds' e1 e2
      cases e
      have c : Same (cut U H) (cut U1 H) := cut_mono (fun a m => .inl (sub a m)) fun _ _ _ z => z
      have nt : ∀ a ∈ lent σ rs, a ∉ U1 := fun a m => n a (by
        cases r with
        | bw i => exact List.mem_append_right _ m
        | _ => exact m)
      refine .cons ?_ (args_dq sub R0 R t e2 nt)
      cases r with
      | sh d => cases e1; exact dp_mono c k
      | fr xs => cases e1; exact dp_mono c (RvOk.share R0 k)
      | bw i =>
        obtain ⟨a, rfl, s⟩ := k
        have na : a ∉ U1 := n a (List.mem_append_left _ (by rw [s]; exact List.mem_cons_self))
        dsimp only [Rv.dat] at e1
        split at e1
        · rename_i xs q
          cases e1
          obtain ⟨b, vs, z1, z2, z3, z4, z5⟩ := R.lstAt q
          rw [s] at z1; cases z1
          exact .lst (cut_of na z4) (dpAll_mono c z5)
        · cases e1
    · cases e
  | [], _ :: _, _, h, _, _ => h.elim
  | _ :: _, [], _, h, _, _ => h.elim
/-- behind a call: all is as it was but the pots; what is new may be hidden -/
theorem RS.call {F : List Addr} (R : RS K B U W ρ σ H) (k : ∀ a o, H a = some o → a ∈ B.Pi ∨ H' a = some o) (pk : ∀ a ∈ B.Pi, PotAt H' a) (fr : ∀ a ∈ F, H a = none) (fr2 : ∀ a ∈ F, ∃ o, H' a = some o) : RS K B (F ++ U) W ρ σ H' := by
  have c : Same (Dv.cut U H) (Dv.cut (F ++ U) H') := cut_mono (fun a m => by
    rcases List.mem_append.mp m with z | z
    · exact .inr (fr a z)
    · exact .inl z) fun a o n e => by
      rcases k a o e with z | z
      · exact absurd (R.wu a (R.pw a z)) n
      · exact z
  obtain ⟨fp, O⟩ := R.own
  refine ⟨R.len, ⟨fp, O.mono c (fun _ m _ => m) fun a m np x e => (k a x e).resolve_left np⟩, fun a m => ?_, fun a m => List.mem_append_right _ (R.wu a m), R.wz, fun a o e => ?_, R.wn, fun a m => ?_, fun a m => List.mem_append_right _ (R.u0 a m), R.pw, pk⟩
  · rcases List.mem_append.mp m with z | z
    · exact fr2 a z
    · obtain ⟨o, e⟩ := R.live a z
      rcases k a o e with w | w
      · obtain ⟨x, y, e, _⟩ := pk a w; exact ⟨_, e⟩
      · exact ⟨o, w⟩
  · rcases k a o (R.stay a o e) with z | z
    · rw [R.wz a (R.pw a z)] at e; cases e
    · exact z
  · rcases List.mem_append.mp m with z | z
    · exact .inr (R.loose (fr a z)).z
    · exact R.vis a z
/-- the call's result, for the caller -/
theorem call_end {X : Cx} {Q : VK} {P : Rv → En → Prop} {rs : List Rv} {ρ' : En} {H0 H1 H2 : Hp} {Pi : List Addr} {r : Rv} {v : V} {ds : List D} (R0 : RS X.K B U W ρ σ H0) (R1 : RS X.K B U W ρ' σ H1) (a1 : Adv W H0 H1) (ed : datAll ρ' rs = some ds)
    (q : ∀ r ρ' v H', P r ρ' → RS X.K B U W ρ' σ H' → Adv W H0 H' → RvOk X.K U σ H0 H' r v → Hid X.K B U W ρ' σ H' r v → Q v H')
    (pi : ∀ a ∈ Pi, a ∈ B.Pi) (pr : isBw r = false ∧ (rs.any isBw = true → lfR r = true) ∧ P r ρ') (k : ∀ a o, H1 a = some o → a ∈ Pi ∨ H2 a = some o) (pk : ∀ a ∈ Pi, PotAt H2 a)
    (kv : RvF X.K (U.filter fun b => decide (b ∉ lent σ rs)) H1 H2 r v) : Q v H2 := by
  obtain ⟨nb, hl, p⟩ := pr
  have kB : ∀ a o, H1 a = some o → a ∈ B.Pi ∨ H2 a = some o := fun a o e => (k a o e).imp_left (pi a)
  have pB : ∀ a ∈ B.Pi, PotAt H2 a := fun a m => by
    by_cases z : a ∈ Pi
    · exact pk a z
    · obtain ⟨i, j, e, h⟩ := R1.pots a m
      exact ⟨i, j, (k a _ e).resolve_left z, h⟩
  have R2 : RS X.K B U W ρ' σ H2 := R1.call (F := []) kB pB (fun _ m => nomatch m) (fun _ m => nomatch m)
  have a2 : Adv W H1 H2 := fun a o e => (kB a o e).imp_left (R1.pw a)
  have fm : ∀ {b : Addr}, b ∈ U.filter (fun b => decide (b ∉ lent σ rs)) ↔ b ∈ U ∧ b ∉ lent σ rs := fun {b} => by rw [List.mem_filter, decide_eq_true_iff]
  have ln : ∀ a, a ∈ U → a ∉ U.filter (fun b => decide (b ∉ lent σ rs)) → a ∈ lent σ rs := fun a m n => Classical.byContradiction fun z => n (fm.mpr ⟨m, z⟩)
  have no : rs.any isBw = false → lent σ rs = [] := by
    clear fm ln kv hl ed
    induction rs with
    | nil => intro _; rfl
    | cons r rs ih =>
      intro h
      rw [List.any_cons, Bool.or_eq_false_iff] at h
      cases r with
      | bw i => cases h.1
      | sh d => exact ih h.2
      | fr xs => exact ih h.2
  have lst : ∀ a ∈ lent σ rs, ∃ vs, H2 a = some (.lst vs) := fun a m => by
    obtain ⟨vs, e, np⟩ := lent_at R1 ed a m
    exact ⟨vs, (kB a _ e).resolve_left np⟩
  cases r with
  | bw i => cases nb
  | sh d =>
    refine q _ _ _ _ p R2 (a1.trans a2) ?_ trivial
    by_cases hb : rs.any isBw = true
    · exact lf_dq (fun a m n => lst a (ln a m n)) kv (hl hb)
    · have := no (by simpa using hb)
      refine dp_mono (cut_mono (fun a m => .inl ?_) fun _ _ _ z => z) kv
      exact fm.mpr ⟨m, by rw [this]; exact List.not_mem_nil⟩
  | fr xs =>
    obtain ⟨pp, vs, rfl, n, h2, t⟩ := kv
    have t2 : DqAll X.K (cut (pp :: U) H2) vs xs := by
      by_cases hb : rs.any isBw = true
      · refine lf_all (fun a m n' => ?_) t (hl hb)
        rcases List.mem_cons.mp m with w | w
        · subst w; exact absurd List.mem_cons_self n'
        · exact lst a (ln a w fun z => n' (List.mem_cons_of_mem _ z))
      · have := no (by simpa using hb)
        refine dpAll_mono (cut_mono (fun a m => .inl ?_) fun _ _ _ z => z) t
        rcases List.mem_cons.mp m with w | w
        · subst w; exact List.mem_cons_self
        · exact List.mem_cons_of_mem _ (fm.mpr ⟨w, by rw [this]; exact List.not_mem_nil⟩)
    refine q _ _ _ _ p R2 (a1.trans a2) ⟨pp, vs, rfl, R0.back R1 a1 n, h2, t2⟩ fun p' e => ?_
    cases e
    exact R1.call (F := [pp]) kB pB (fun a m => by rw [List.mem_singleton.mp m]; exact n) (fun a m => by rw [List.mem_singleton.mp m]; exact ⟨_, h2⟩)
end
section
variable {X : Cx} {k : Nat} {f : Addr} {fd : FuncData} {ps : List Str} {sp : Sp} {x : Str} {p pos : Pos} {e : Expr} {es : List Expr} {t : TA} {G : DF} {m : MA}
/-- the callee runs -/
theorem run_G {pins : List (Addr × Obj)} {σ : L2.St} {H : Hp} {s : Shared} {Q : VK} {args : Args} {us : List Value} {vs : List V} (F : FnG X.prog X.w X.K X.mg X.base k f fd ps sp) (hA : X.A.guards = some []) (hr : Room k X.A)
    (I : Inv X pins σ H s) (hb : BindsTo s fd args (ps.zip us)) (r : Vals vs us) (h : sp vs H Q E0) {kw : List (Str × Value)} (ha : args.kw = kw) : wpAny (model X.prog X.w) X.A (call (.ref f) args.pos kw) (EP X pins σ Q) X.xe s := by
  subst ha
  refine wpAny_call (codeAny_mono (F.go X.A X.stack s H args us vs Q hA hr I.env0 hb r h) fun r s' hq => ?_)
  cases r with
  | error e => exact hq.elim
  | ok fl =>
    cases fl with
    | ret u => exact I.after hq
    | next => exact hq.elim
    | brk => exact hq.elim
    | cont => exact hq.elim
def tCallG (sp : Sp) (t : TA) : TE := fun σ H Q => t σ H fun vs H1 => sp vs H1 Q E0
theorem pe_callG (F : FnG X.prog X.w X.K X.mg X.base k f fd ps sp) (hA : X.A.guards = some []) (hr : Room k X.A) (hg : Gl X x) (hm : X.mg x = some (.ref f)) (hk : PySem.W.keepIn X.K (.ref f) = true) (hb : Binds X.K fd ps [])
    (ha : PA X (e :: es) t) (hdb : (x == ("__debug__" : Str)) = false := by decide) (he : starEach (e :: es) X.env = (false, eval e X.env) :: starEach es X.env := by rfl) (hpl : (backTo pos (starEach es X.env)).any (·.1) = false := by rfl) :
    PE X (.Call (.Name x p) (e :: es) [] pos) (tCallG sp t) := by
  refine ⟨fun pins s σ H Q I h => ?_⟩
  refine wpAny_Call_Name_kw (ld_glob I hg hm ?_ hdb)
  refine PySem.W.callWith_K (h₀ := X.base) I.ok.mod.kin hk (thn (ha.run pos pins s σ H _ I h) fun us s1 hu => ?_) he hpl
  obtain ⟨vs, H1, I1, r, q⟩ := hu
  refine ⟨I1.kIn, ?_⟩
  have hl : (us ++ []).length = ps.length := by rw [List.append_nil, ← r.length]; exact F.len _ _ _ _ q
  have bt := hb s1 us I1.kIn hl
  rw [List.append_nil] at bt
  exact run_G F hA hr I1 bt r q rfl
theorem pe_callG0 (F : FnG X.prog X.w X.K X.mg X.base k f fd ps sp) (hA : X.A.guards = some []) (hr : Room k X.A) (hg : Gl X x) (hm : X.mg x = some (.ref f)) (hk : PySem.W.keepIn X.K (.ref f) = true) (hb : Binds X.K fd ps [])
    (hdb : (x == ("__debug__" : Str)) = false := by decide) : PE X (.Call (.Name x p) [] [] pos) (tCallG sp tNil) := by
  refine ⟨fun pins s σ H Q I h => ?_⟩
  refine wpAny_Call_Name_kw (ld_glob I hg hm ?_ hdb)
  have hl : (([] : List Value) ++ []).length = ps.length := F.len _ _ _ _ h
  exact PySem.W.callWith_K0 I.kIn hk (run_G (args := ⟨[], []⟩) F hA hr I (hb s [] I.kIn hl) .nil h rfl)
/-- f(k = v, ..): pm tells which keyword stands at each parameter -/
def perm {α : Type} (pm : List Nat) (us : List α) : List α := pm.filterMap fun i => us[i]?
def BindK (fd : FuncData) (ps ks : List Str) (pm : List Nat) : Prop := ∀ (s : Shared) (us : List Value), us.length = ks.length → BindsTo s fd ⟨[], ks.zip us⟩ (ps.zip (perm pm us))
theorem vals_perm {vs : List V} {us : List Value} (r : Vals vs us) : ∀ pm : List Nat, Vals (perm pm vs) (perm pm us)
  | [] => .nil
  | i :: pm => by
    unfold perm
    rw [List.filterMap_cons, List.filterMap_cons]
    cases e : vs[i]? with
    | none => rw [r.none_of e]; exact vals_perm r pm
    | some v =>
      obtain ⟨u, e2, ru⟩ := r.get e
      rw [e2]
      exact .cons ru (vals_perm r pm)
theorem dq_perm {K : PySem.W.Frag} {H : Hp} {vs : List V} {ds : List D} (r : DqAll K H vs ds) : ∀ pm : List Nat, DqAll K H (perm pm vs) (perm pm ds)
  | [] => .nil
  | i :: pm => by
    unfold perm
    rw [List.filterMap_cons, List.filterMap_cons]
    cases e : ds[i]? with
    | none =>
      have : vs[i]? = none := List.getElem?_eq_none (by rw [dpAll_len r]; exact List.getElem?_eq_none_iff.mp e)
      rw [this]; exact dq_perm r pm
    | some d =>
      obtain ⟨v, e2, ru⟩ := dpAll_get r e
      rw [e2]
      exact .cons ru (dq_perm r pm)
def tCallGK (sp : Sp) (n : Nat) (pm : List Nat) (t : TA) : TE := fun σ H Q => t σ H fun vs H1 => vs.length = n ∧ sp (perm pm vs) H1 Q E0
theorem pe_callGK {kws : List Keyword} {ks : List Str} {pm : List Nat} (F : FnG X.prog X.w X.K X.mg X.base k f fd ps sp) (hA : X.A.guards = some []) (hr : Room k X.A) (hg : Gl X x) (hm : X.mg x = some (.ref f)) (hk : PySem.W.keepIn X.K (.ref f) = true) (hb : BindK fd ps ks pm)
    (hkw : PK X kws t) (hall : (backToKw pos (keywordEach kws X.env)).all (·.1.isSome) = true := by rfl) (hks : (backToKw pos (keywordEach kws X.env)).filterMap (·.1) = ks := by rfl)
    (hdb : (x == ("__debug__" : Str)) = false := by decide) (hpl : ((backTo pos (starEach [] X.env)).any (·.1) || (backToKw pos (keywordEach kws X.env)).any (·.1.isNone)) = false := by rfl) :
    PE X (.Call (.Name x p) [] kws pos) (tCallGK sp ks.length pm t) := by
  refine ⟨fun pins s σ H Q I h => ?_⟩
  refine wpAny_Call_Name_kw (ld_glob I hg hm ?_ hdb)
  refine PySem.W.callWith_KW0 (h₀ := X.base) I.ok.mod.kin hk hall (thn (hkw.run pos pins s σ H _ I h) fun us s1 hu => ?_) hpl
  obtain ⟨vs, H1, I1, r, l, q⟩ := hu
  rw [hks]
  exact ⟨I1.kIn, run_G (args := ⟨[], ks.zip us⟩) F hA hr I1 (hb s1 us (by rw [← r.length]; exact l)) (vals_perm r pm) q rfl⟩
/-! over data -/
theorem de_call (h : ∀ {t : TA}, PA X (e :: es) t → PE X (.Call (.Name x p) (e :: es) [] pos) (tCallG (spD X.K false G) t)) (ha : DA X (e :: es) m) : DE X (.Call (.Name x p) (e :: es) [] pos) (mCall G m) := ⟨fun B => pe_imp (h (ha.run B)) fun σ H Q ⟨U, W, ρ, P, R, p, q⟩ =>
  ⟨U, W, ρ, _, R, p, fun rs ρ' vs H' p' R' a' kk => by
    obtain ⟨ds, ed, g⟩ := p'
    refine ⟨U.filter fun b => decide (b ∉ lent σ rs), [], vs, ds, _, fun a ma => R'.live a (List.mem_filter.mp ma).1, by rw [if_neg Bool.false_ne_true]; exact ⟨rfl, rfl⟩, fun a ma => absurd ma List.not_mem_nil,
      args_dq (fun a ma => (List.mem_filter.mp ma).1) R R' kk ed (fun a ma z => absurd ma (of_decide_eq_true (p := a ∉ lent σ rs) (List.mem_filter.mp z).2)), g, fun r v H2 pr k pk kv => ?_⟩
    exact call_end R R' a' ed q (fun a ma => absurd ma List.not_mem_nil) pr k pk kv⟩⟩
theorem de_callK {kws : List Keyword} {n : Nat} {pm : List Nat} (h : ∀ {t : TA}, PK X kws t → PE X (.Call (.Name x p) [] kws pos) (tCallGK (spD X.K false G) n pm t)) (ha : ∀ B, PK X kws (rdA X.K B m)) :
    DE X (.Call (.Name x p) [] kws pos) (fun ρ P => m ρ fun rs ρ' => rs.length = n ∧ ∃ ds, datAll ρ' rs = some ds ∧ G (perm pm ds) fun r => isBw r = false ∧ (rs.any isBw = true → lfR r = true) ∧ P r ρ') := ⟨fun B => pe_imp (h (ha B)) fun σ H Q ⟨U, W, ρ, P, R, p, q⟩ =>
  ⟨U, W, ρ, _, R, p, fun rs ρ' vs H' p' R' a' kk => by
    obtain ⟨ln, ds, ed, g⟩ := p'
    have lv : vs.length = rs.length := by
      clear p q ed g ln
      induction rs generalizing vs with
      | nil => cases vs with
        | nil => rfl
        | cons _ _ => exact kk.elim
      | cons r rs ih => cases vs with
        | nil => exact kk.elim
        | cons v vs => exact congrArg (· + 1) (ih vs kk.2)
    refine ⟨lv.trans ln, U.filter fun b => decide (b ∉ lent σ rs), [], perm pm vs, perm pm ds, _, fun a ma => R'.live a (List.mem_filter.mp ma).1, by rw [if_neg Bool.false_ne_true]; exact ⟨rfl, rfl⟩, fun a ma => absurd ma List.not_mem_nil,
      dq_perm (args_dq (fun a ma => (List.mem_filter.mp ma).1) R R' kk ed (fun a ma z => absurd ma (of_decide_eq_true (p := a ∉ lent σ rs) (List.mem_filter.mp z).2))) pm, g, fun r v H2 pr k pk kv => ?_⟩
    exact call_end R R' a' ed q (fun a ma => absurd ma List.not_mem_nil) pr k pk kv⟩⟩
theorem dk_nil : ∀ B, PK X [] (rdA X.K B mNil) := fun B => ⟨fun pos pins s σ H Q I ⟨U, W, ρ, P, R, p, q⟩ => pk_nil.run pos pins s σ H Q I (q _ _ _ _ p R Adv.refl trivial)⟩
theorem dk_cons {nm : Option Str} {kp : Pos} {kws : List Keyword} {me : ME} {mr : MA} (ha : DE X e me) (hr : ∀ B, PK X kws (rdA X.K B mr)) : ∀ B, PK X (⟨nm, e, kp⟩ :: kws) (rdA X.K B (mCons me mr)) :=
  fun B => ⟨fun pos pins s σ H Q I ⟨U, W, ρ, P, R, p, q⟩ => (pk_cons (ha.run B) (hr B)).run pos pins s σ H Q I ⟨U, W, ρ, _, R, p, fun r1 ρ1 x H1 p1 R1 a1 k1 _ => ⟨U, W, ρ1, _, R1, p1, fun r2 ρ2 y H2 p2 R2 a2 k2 =>
    q _ _ _ _ p2 R2 (a1.trans a2) ⟨k1.adv R R1 a1 a2, RvAll.start R R1 a1 k2⟩⟩⟩⟩
/-- f(pot, ..) -/
theorem de_callP {i : Nat} (h : ∀ {t : TA}, PA X es t → PE X (.Call (.Name x p) (e :: es) [] pos) (tCallG (spD X.K true G) (tCons (tVar i) t))) (ha : DA X es m) : DE X (.Call (.Name x p) (e :: es) [] pos) (mCallP i G m) := ⟨fun B => pe_imp (h (ha.run B)) fun σ H Q ⟨U, W, ρ, P, R, p, q⟩ => by
  obtain ⟨ip, p⟩ := p
  obtain ⟨π, e1, mp⟩ := R.potAt ip
  refine ⟨.ref π, e1, U, W, ρ, _, R, p, fun rs ρ' vs H' p' R' a' kk => ?_⟩
  obtain ⟨ds, ed, g⟩ := p'
  have nl : π ∉ lent σ rs := fun ma => by
    obtain ⟨_, _, n⟩ := lent_at R' ed π ma
    exact n mp
  refine ⟨U.filter fun b => decide (b ∉ lent σ rs), [π], vs, ds, _, fun a ma => R'.live a (List.mem_filter.mp ma).1, by rw [if_pos rfl]; exact ⟨π, rfl, rfl⟩, fun a ma => ?_,
    args_dq (fun a ma => (List.mem_filter.mp ma).1) R R' kk ed (fun a ma z => absurd ma (of_decide_eq_true (p := a ∉ lent σ rs) (List.mem_filter.mp z).2)), g, fun r v H2 pr k pk kv => ?_⟩
  · rw [List.mem_singleton.mp ma]
    exact ⟨List.mem_filter.mpr ⟨R'.wu π (R'.pw π mp), decide_eq_true nl⟩, R'.pots π mp⟩
  · exact call_end R R' a' ed q (fun a ma => by rw [List.mem_singleton.mp ma]; exact mp) pr k pk kv⟩
end
end Dv
namespace Dv
open PySem PySem.Spec L2
/-! ### len(set(t)), t a tuple of ints -/
def dedupI : List Int → List Int
  | [] => []
  | x :: xs => if x ∈ xs then dedupI xs else x :: dedupI xs
theorem dedupI_mem {x : Int} : ∀ {l : List Int}, x ∈ dedupI l ↔ x ∈ l
  | [] => Iff.rfl
  | y :: ys => by
    unfold dedupI
    split
    · rename_i h
      rw [dedupI_mem, List.mem_cons]
      exact ⟨.inr, fun z => z.elim (fun e => e ▸ h) id⟩
    · rw [List.mem_cons, List.mem_cons, dedupI_mem]
theorem dedupI_nodup : ∀ l : List Int, (dedupI l).Nodup
  | [] => List.nodup_nil
  | y :: ys => by
    unfold dedupI
    split
    · exact dedupI_nodup ys
    · rename_i h
      exact List.nodup_cons.mpr ⟨fun m => h (dedupI_mem.mp m), dedupI_nodup ys⟩
theorem dedupI_id : ∀ {l : List Int}, l.Nodup → dedupI l = l
  | [], _ => rfl
  | y :: ys, h => by
    obtain ⟨h1, h2⟩ := List.nodup_cons.mp h
    unfold dedupI
    rw [if_neg h1, dedupI_id h2]
theorem dedupI_le : ∀ l : List Int, (dedupI l).length ≤ l.length
  | [] => Nat.le_refl _
  | y :: ys => by
    unfold dedupI
    split
    · exact Nat.le_succ_of_le (dedupI_le ys)
    · exact Nat.succ_le_succ (dedupI_le ys)
theorem dedupI_eq : ∀ {l : List Int}, (dedupI l).length = l.length → l.Nodup
  | [], _ => List.nodup_nil
  | y :: ys, h => by
    unfold dedupI at h
    split at h
    · have := dedupI_le ys
      rw [List.length_cons] at h; omega
    · rename_i n
      exact List.nodup_cons.mpr ⟨n, dedupI_eq (Nat.succ.inj h)⟩
theorem setR_count {w : World} {h : Heap} {a : Addr} {ns : List Int} {n : Nat} (R : SetR w h a (fun j => decide (j ∈ ns)) n) : n = (dedupI ns).length := by
  obtain ⟨o, es, ep, t, ho, hx, hd, g, nd, hm, hb, hf, hn, _⟩ := R
  have p : (es.toList.map keyOf).Perm (dedupI ns) := (List.perm_ext_iff_of_nodup nd (dedupI_nodup ns)).mpr fun k => by
    rw [← hm k, decide_eq_true_iff, dedupI_mem]
  have := p.length_eq
  rw [List.length_map, Array.length_toList] at this
  omega
def rLenSetT (K : PySem.W.Frag) : List V → Hp → VK → Prop := fun xs H Q => ∃ (a : Addr) (ns : List Int), xs = [V.ref a] ∧ SqT K H a (ns.map V.int) ∧ ns.length ≤ 4000 ∧ Q (.int ((dedupI ns).length : Nat)) H
section
variable {X : Cx} {a : Expr} {ma : ME}
theorem pe_lenSetT {ta : TE} {p p2 q pos : Pos} (hc : X.calm = true) (hg : Gl X "len") (hm : X.mg "len" = none) (hg2 : Gl X "set") (hm2 : X.mg "set" = none) (ha : PE X a ta)
    (na : starEach [a] X.env = (false, eval a X.env) :: starEach [] X.env := by rfl) : PE X (.Call (.Name "len" p) [.Call (.Name "set" p2) [a] [] q] [] pos) (tCB (rLenSetT X.K) (tCons ta tNil)) := by
  refine ⟨fun pins s σ H Q I h => ?_⟩
  refine PyProof.Rows.Call_ (ld_blt I hg hm PySem.boot_len ?_)
  refine PyProof.Rows.callWith_builtin1 (PyProof.Rows.args_cons ?_ rfl) rfl rfl
  refine PyProof.Rows.Call_ (ld_blt I hg2 hm2 PyProof.Rows.boot_set ?_)
  refine PyProof.Rows.callWith_type1 (PyProof.Rows.args_cons (thn (ha.run pins s σ H _ I h) fun v s1 ⟨x, H1, I1, r1, q1⟩ => PyProof.Rows.args_nil ?_) na) na rfl
  obtain ⟨l, ns, e, hq, hl, q1⟩ := q1
  obtain ⟨rfl, _⟩ := List.cons.inj e
  cases r1
  obtain ⟨its, r, pl, hz⟩ := I1.tuple hq
  refine call_set_tupI (P := X.prog) (w := X.w) ns (I1.ok.hd hc) pl (by simpa using r.ints) (by unfold scanBound; omega) fun h' tk c R cl k => ?_
  refine PyProof.Rows.args_nil ?_
  have hcn := setR_count R
  obtain ⟨o, es, ep, t, ho, hx, hd, _, _, _, _, hf, hn, _⟩ := R
  have I2 : Inv X pins σ H1 { s1 with heap := h', toks := tk } := I1.kept k
  exact call_len_set ho hx hd hf (by rw [hn] <;> omega) ⟨.int ((dedupI ns).length : Nat), H1, I2.tok _, ⟨_, by rw [hn, hcn]⟩, q1⟩
def fLenSet (ds : List D) (P : Rv → Prop) : Prop := match ds with
  | [.tuple xs] => ∃ ns, intsD xs = some ns ∧ ns.length ≤ 4000 ∧ pI P ((dedupI ns).length : Nat)
  | _ => False
theorem d_lenSet {K : PySem.W.Frag} : OpDC K (rLenSetT K) fLenSet := fun U σ H xs ds P Q lv hx p q => by
  unfold fLenSet at p
  split at p
  · obtain ⟨ns, e, hz, p⟩ := p
    obtain ⟨v, rfl, h⟩ := dtAll1 hx
    obtain ⟨a, vs, rfl, h1, h2⟩ := h.tuple
    have ev := intsD_v h2 e
    exact ⟨a, ns, rfl, by rw [← ev]; exact h1, hz, rv_scal p (fun _ => .int _) q⟩
  · exact p.elim
theorem de_lenSet {p p2 q pos : Pos} (hc : X.calm = true) (hg : Gl X "len") (hm : X.mg "len" = none) (hg2 : Gl X "set") (hm2 : X.mg "set" = none) (ha : DE X a ma)
    (na : starEach [a] X.env = (false, eval a X.env) :: starEach [] X.env := by rfl) : DE X (.Call (.Name "len" p) [.Call (.Name "set" p2) [a] [] q] [] pos) (mCB fLenSet (mCons ma mNil)) := by
  refine ⟨fun B => pe_imp (pe_lenSetT hc hg hm hg2 hm2 (ha.run B) na) fun σ H Q ⟨U, W, ρ, P, R, p, q⟩ => ?_⟩
  refine ⟨U, W, ρ, _, R, p, fun r ρ' v H' p' R' a' k _ => ?_⟩
  obtain ⟨ds, ed, g⟩ := p'
  refine d_lenSet U σ H' [v] ds _ Q R'.live (RvAll.dt R' (rs := [r]) ⟨k, trivial⟩ ed) g fun rv w H2 pr sm kv nb => ?_
  exact q rv ρ' w H2 pr (R'.ext sm) (a'.trans (Adv.same sm)) (kv.start fun h => R.back R' a' h) (hid_of R' sm kv)
end
/-! ### targets that write -/
def rdP (K : PySem.W.Frag) (B : Bs) (g : MG) : TG := fun v σ H Q => ∃ (U W : List Addr) (ρ : En) (d : D) (P : En → Prop), RS K B U W ρ σ H ∧ Dq K (cut U H) v d ∧ g d ρ P ∧
  ∀ ρ' σ' H', P ρ' → RS K B U W ρ' σ' H' → Adv W H H' → Q σ' H'
structure DP (X : Cx) (tg : Expr) (g : MG) : Prop where
  run : ∀ B, PG X tg (rdP X.K B g)
abbrev MGs := List D → En → (En → Prop) → Prop
def rdPs (K : PySem.W.Frag) (B : Bs) (g : MGs) : TGs := fun vs σ H Q => ∃ (U W : List Addr) (ρ : En) (ds : List D) (P : En → Prop), RS K B U W ρ σ H ∧ DqAll K (cut U H) vs ds ∧ g ds ρ P ∧
  ∀ ρ' σ' H', P ρ' → RS K B U W ρ' σ' H' → Adv W H H' → Q σ' H'
structure DPs (X : Cx) (ts : List Expr) (g : MGs) : Prop where
  run : ∀ B, PGs X ts (rdPs X.K B g)
theorem pgs_imp {X : Cx} {ts : List Expr} {t t' : TGs} (h : PGs X ts t) (i : ∀ v σ H Q, t' v σ H Q → t v σ H Q) : PGs X ts t' :=
  ⟨fun pins s σ H v u Q I r q => h.run pins s σ H v u Q I r (i v σ H Q q)⟩
def gsNil : MGs := fun ds ρ Q => ds = [] ∧ Q ρ
def gsCons (g : MG) (gs : MGs) : MGs := fun ds ρ Q => ∃ d r, ds = d :: r ∧ g d ρ fun ρ' => gs r ρ' Q
def gPut (i : Nat) (m : ME) : MG := fun d ρ Q => ownL ρ i fun _ => m ρ fun r ρ' => ownL ρ' i fun xs => ∃ k j, r = .sh (.int k) ∧ ixN xs.length k = some j ∧ Q (ρ'.set i (.ow (.lst (xs.set j d))))
def gTupS (gs : MGs) (n : Nat) : MG := fun d ρ Q => ∃ ds, d = .tuple ds ∧ ds.length = n ∧ gs ds ρ Q
section
variable {X : Cx} {tg e ix : Expr} {es : List Expr} {m : ME} {g : MG} {gs : MGs} {pos : Pos} {i : Nat}
theorem dps_nil : DPs X [] gsNil := ⟨fun B => pgs_imp pgs_nil fun vs σ H Q ⟨U, W, ρ, ds, P, R, k, ⟨e, p⟩, q⟩ => by
  subst e; cases k
  exact ⟨rfl, q _ _ _ p R Adv.refl⟩⟩
theorem dps_cons (h : DP X e g) (k : DPs X es gs) (hs : (assignEach (e :: es) X.env).map (·.2) = assign e X.env :: (assignEach es X.env).map (·.2) := by rfl) : DPs X (e :: es) (gsCons g gs) :=
  ⟨fun B => pgs_imp (pgs_cons (h.run B) (k.run B) hs) fun vs σ H Q ⟨U, W, ρ, ds, P, R, t, ⟨d, r, e, p⟩, q⟩ => by
    subst e
    cases t with
    | cons t1 t2 => exact ⟨_, _, rfl, U, W, ρ, d, _, R, t1, p, fun ρ1 σ1 H1 p1 R1 a1 => ⟨U, W, ρ1, r, P, R1, dpAll_mono (R.cut a1) t2, p1, fun ρ2 σ2 H2 p2 R2 a2 => q _ _ _ p2 R2 (a1.trans a2)⟩⟩⟩
theorem dp_name (h : PG X tg (gName i)) : DP X tg (gSetN i) := ⟨fun B => pg_imp h fun v σ H Q ⟨U, W, ρ, d, P, R, k, p, q⟩ => q _ _ _ p (R.setSh k) Adv.refl⟩
theorem dp_put (h : ∀ {ti : TE}, PE X ix ti → PG X tg (gSub (tVar i) ti rSetL)) (hi : DE X ix m) : DP X tg (gPut i m) := ⟨fun B => pg_imp (h (hi.run B)) fun v σ H Q ⟨U, W, ρ, d, P, R, k, p, q⟩ => by
  obtain ⟨xs0, l, vs0, p, q0, s0, h0, t0⟩ := ownL_at R p
  refine ⟨.ref l, s0, U, W, ρ, _, R, p, fun r ρ' w H' p' R' a' kr _ => ?_⟩
  obtain ⟨xs, l2, vs, ⟨kk, j, rfl, hj, p2⟩, q2, s2, h2, t2⟩ := ownL_at R' p'
  rw [s0] at s2; cases s2
  have ew : w = .int kk := by cases kr; rfl
  obtain ⟨R3, a3, c3⟩ := R'.updOw (ws := vs.set j v) (ys := xs.set j d) q2 s0 (dpAll_set (dp_mono (R.cut a') k) j t2)
  exact ⟨l, vs, kk, j, rfl, by rw [ew], h2, by rw [dpAll_len t2]; exact hj, q _ _ _ p2 R3 (a'.trans a3)⟩⟩
theorem dp_tup {n : Nat} (h : ∀ {t : TGs}, PGs X es t → PG X tg (gTup X.K n t)) (hs : DPs X es gs) : DP X tg (gTupS gs n) := ⟨fun B => pg_imp (h (hs.run B)) fun v σ H Q ⟨U, W, ρ, d, P, R, k, ⟨ds, e, l, p⟩, q⟩ => by
  subst e
  cases k with
  | tup z t => exact ⟨_, _, rfl, (z.mono cut_le).sq, (dpAll_len t).trans l, U, W, ρ, ds, P, R, t, p, q⟩⟩
def mAsg (m : ME) (g : MG) : MS := fun P ρ => m ρ fun r ρ1 => ∃ d, r.shd = some d ∧ g d ρ1 P.nx
theorem ds_asg {st : Stmt} (h : ∀ {te : TE} {tg : TG}, PE X e te → PG X tgt tg → PS X st (tAsg te tg)) (he : DE X e m) (hg : DP X tgt g) : DS X st (mAsg m g) := ⟨fun B => ps_imp (h (he.run B) (hg.run B)) fun D σ H ⟨U, W, ρ, P, R, p, q⟩ =>
  ⟨U, W, ρ, _, R, p, fun r ρ1 v H1 p1 R1 a1 k _ => by
    obtain ⟨d, er, p1⟩ := p1
    exact ⟨U, W, ρ1, d, _, R1, k.shared R er, p1, fun ρ2 σ2 H2 p2 R2 _ => q.nx _ _ _ _ _ R2 p2⟩⟩⟩
end
/-! ### lists of own lists -/
def ownLL (ρ : En) (i : Nat) (k : List (List D) → Prop) : Prop := match ρ[i]? with
  | some (.ow (.ll xss)) => k xss
  | _ => False
section
variable {K : PySem.W.Frag} {B : Bs} {U W : List Addr} {ρ ρ' : En} {σ : L2.St} {H H' : Hp}
theorem Sub.len : ∀ {ps : List Addr} {xss : List (List D)}, Sub K U H ps xss → ps.length = xss.length
  | [], [], _ => rfl
  | _ :: _, _ :: _, ⟨_, t⟩ => congrArg (· + 1) (Sub.len t)
  | [], _ :: _, h => h.elim
  | _ :: _, [], h => h.elim
theorem Sub.get : ∀ {ps : List Addr} {xss : List (List D)} {j : Nat} {xs : List D}, Sub K U H ps xss → xss[j]? = some xs → ∃ p vs, ps[j]? = some p ∧ H p = some (.lst vs) ∧ DqAll K (cut U H) vs xs
  | [], [], _, _, _, e => by simp at e
  | p :: _, _ :: _, 0, _, ⟨⟨vs, a, b⟩, _⟩, e => by simp at e; subst e; exact ⟨p, vs, rfl, a, b⟩
  | _ :: ps, _ :: xss, j + 1, xs, ⟨_, t⟩, e => by
    obtain ⟨p, vs, a, b⟩ := Sub.get (j := j) t (by simpa using e)
    exact ⟨p, vs, by simpa using a, b⟩
  | [], _ :: _, _, _, h, _ => h.elim
  | _ :: _, [], _, _, h, _ => h.elim
theorem Sub.set {q : Addr} {ws : List V} {ys : List D} {h' : HO} (c : Same (cut U H) (cut U (upd H q h'))) (e : h' = .lst ws) (k : DqAll K (cut U (upd H q h')) ws ys) : ∀ {ps : List Addr} {xss : List (List D)} {j : Nat}, ps.Nodup → ps[j]? = some q → Sub K U H ps xss → Sub K U (upd H q h') ps (xss.set j ys)
  | [], [], _, _, e, _ => by simp at e
  | p :: ps, xs :: xss, 0, nd, e0, ⟨_, t⟩ => by
    simp at e0; subst e0; subst e
    refine ⟨⟨ws, upd_same, k⟩, Sub.mono c (fun a m o q => ?_) t⟩
    rw [upd_ne (show a ≠ p from fun z => (List.nodup_cons.mp nd).1 (z ▸ m))]; exact q
  | p :: ps, xs :: xss, j + 1, nd, e0, ⟨⟨vs, a, b⟩, t⟩ => by
    have e1 : ps[j]? = some q := by simpa using e0
    have ne : p ≠ q := fun z => (List.nodup_cons.mp nd).1 (z ▸ List.mem_of_getElem? e1)
    exact ⟨⟨vs, by rw [upd_ne ne]; exact a, dpAll_mono c b⟩, Sub.set c e k (List.nodup_cons.mp nd).2 e1 t⟩
  | [], _ :: _, _, _, _, h => h.elim
  | _ :: _, [], _, _, _, h => h.elim
theorem ownLL_at {i : Nat} {k : List (List D) → Prop} (R : RS K B U W ρ σ H) (h : ownLL ρ i k) : ∃ xss a ps, k xss ∧ ρ[i]? = some (.ow (.ll xss)) ∧ σ[i]? = some (some (.ref a)) ∧ H a = some (.lst (ps.map .ref)) ∧ Sub K U H ps xss := by
  unfold ownLL at h
  split at h
  · rename_i xss q
    obtain ⟨a, hh, ps, e1, e2, e3, e4, e5⟩ := R.owAt q
    subst e4
    exact ⟨xss, a, ps, h, q, e1, e3, e5⟩
  · exact h.elim
end
/-- an expression that is read without a change of the heap that is seen -/
structure DPe (X : Cx) (e : Expr) (f : En → Option D) : Prop where
  ex : ∃ te, PE X e te ∧ ∀ (B : Bs) (U W : List Addr) (ρ : En) (σ : L2.St) (H : Hp) (d : D) (Q : VK), RS X.K B U W ρ σ H → f ρ = some d → (∀ v H', Same H H' → Dq X.K (cut U H') v d → Q v H') → te σ H Q
def mAppLL (i : Nat) (mx : ME) (f : En → Option D) : ME := fun ρ P => ownLL ρ i fun _ => mx ρ fun r ρ1 => ∃ k, r = .sh (.int k) ∧ ownLL ρ1 i fun xss => ∃ j xs d, ixN xss.length k = some j ∧ xss[j]? = some xs ∧ f ρ1 = some d ∧ xs.length < 100000 ∧
  P (.sh .none) (ρ1.set i (.ow (.ll (xss.set j (xs ++ [d])))))
def shAtE (i : Nat) (ρ : En) : Option D := match ρ[i]? with
  | some (.sh d) => some d
  | _ => none
section
variable {X : Cx} {e a ix : Expr} {m mx : ME} {f : En → Option D} {i : Nat} {pos : Pos}
theorem dpe_var {j : Nat} (h : PE X e (tVar j)) : DPe X e (shAtE j) := ⟨tVar j, h, fun B U W ρ σ H d Q R e q => by
  unfold shAtE at e
  split at e
  · rename_i d' z
    cases e
    obtain ⟨v, e1, e2⟩ := R.shAt z
    exact ⟨v, e1, q v H (Same.refl H) e2⟩
  · cases e⟩
theorem dpe_unit {k : Nat} : DPe X (.Tuple [] k pos) (fun _ => some (.tuple [])) := ⟨_, pe_tupF pa_nil, fun B U W ρ σ H d Q R e q => by
  cases e
  exact ⟨Nat.zero_le _, fun p o n t => q _ _ (same_new n) (.tup (.inl ⟨o, cut_of (R.nu n) upd_same, t⟩) .nil)⟩⟩
theorem atI_ixN {α : Type} {xs : List α} {k : Int} {j : Nat} {x : α} (h : ixN xs.length k = some j) (e : xs[j]? = some x) : atI xs k = some x := by
  unfold atI
  rw [h]; exact e
theorem de_appLL (h : ∀ {te to : TE}, PE X ix to → PE X a te → PE X e (tBM X.K "list" rAppend (tOp (rIx X.K) (tVar i) to) (one te))) (hx : DE X ix mx) (ha : DPe X a f) : DE X e (mAppLL i mx f) := by
  obtain ⟨te, hte, ht⟩ := ha.ex
  refine ⟨fun B => pe_imp (h (hx.run B) hte) fun σ H Q ⟨U, W, ρ, P, R, p, q⟩ => ?_⟩
  obtain ⟨xss0, l, ps0, p, q0, s0, h0, t0⟩ := ownLL_at R p
  refine ⟨.ref l, s0, U, W, ρ, _, R, p, fun r ρ' w H' p' R' a' kr _ => ?_⟩
  obtain ⟨k, rfl, p'⟩ := p'
  obtain ⟨xss, l2, ps, ⟨j, xs, d, hj, hx', ed, hz, p2⟩, q2, s2, h2, t2⟩ := ownLL_at R' p'
  rw [s0] at s2; cases s2
  have ew : w = .int k := by cases kr; rfl
  obtain ⟨pj, vs, e1, e2, e3⟩ := t2.get hx'
  have hj2 : ixN (ps.map V.ref).length k = some j := by rw [List.length_map, t2.len]; exact hj
  have ej : (ps.map V.ref)[j]? = some (V.ref pj) := by rw [List.getElem?_map, e1]; rfl
  refine .inl ⟨l, ps.map .ref, k, .ref pj, rfl, by rw [ew], SqL.of h2, atI_ixN hj2 ej, .inl ⟨rfl, vs, SqL.of e2⟩, ?_⟩
  refine ht B U W ρ' σ H' d _ R' ed fun v H3 sm dv => ?_
  have R3 := R'.ext sm
  obtain ⟨a4, h4, ps4, z1, z2, z3, z4, fp, O, ef, nd⟩ := R3.owFp q2
  rw [s0] at z1; cases z1
  obtain ⟨z4, z5⟩ := z4
  subst z4
  have eps : ps4 = ps := by
    have e0 := sm _ _ h2
    rw [z3] at e0
    have e1 : ps4.map V.ref = ps.map V.ref := by injection e0 with e0; injection e0
    exact (List.map_inj_right (fun a b e => by injection e)).mp e1
  subst eps
  have mj : pj ∈ l :: ps4 := List.mem_cons_of_mem _ (List.mem_of_getElem? e1)
  have nl : l ≠ pj := fun z => (List.nodup_cons.mp nd).1 (z ▸ List.mem_of_getElem? e1)
  have e3' : DqAll X.K (cut U H3) vs xs := dpAll_mono (cut_mono (fun _ m => .inl m) fun a o _ z => sm a o z) e3
  have fpi : ∀ fp, Own X.K B.Pi U W H3 ρ' σ fp → fp i = l :: ps4 ∧ (l :: ps4).Nodup := fun fp O => by
    obtain ⟨a', h', ps', f1, f2, f3, f4, f5, f6⟩ := O.sl i _ q2
    rw [s0] at f4; cases f4
    rw [z3] at f5; cases f5
    obtain ⟨g1, g2⟩ := f6
    have eps : ps' = ps4 := by
      have e1 : ps4.map V.ref = ps'.map V.ref := by injection g1
      exact ((List.map_inj_right (fun a b e => by injection e)).mp e1).symm
    subst eps
    exact ⟨f1, f1 ▸ f2⟩
  obtain ⟨R4, a4, c4⟩ := R3.updAt (h := .lst (vs ++ [v])) (h0 := .lst vs) (o' := .ll (xss.set j (xs ++ [d]))) q2 s0 z2 mj fpi (by rw [upd_ne nl]; exact z3)
    fun c => ⟨rfl, z5.set c rfl (dpAll_append (dpAll_mono c e3') (.cons (dp_mono c dv) .nil)) (List.nodup_cons.mp nd).2 e1⟩
  exact ⟨pj, vs, v, rfl, rfl, sm _ _ e2, bigLt (by rw [dpAll_len e3]; exact hz), q _ _ _ _ p2 R4 ((a'.trans (Adv.same sm)).trans a4) Dq.non trivial⟩
/-- repr(name), a list of own lists -/
def mReprLL (i : Nat) : ME := fun ρ P => ownLL ρ i fun xss => fRepr [.list (xss.map .list)] fun r => P r ρ
theorem sub_dq {K : PySem.W.Frag} {U : List Addr} {H : Hp} : ∀ {ps : List Addr} {xss : List (List D)}, Sub K U H ps xss → DqAll K H (ps.map V.ref) (xss.map PyData.list)
  | [], [], _ => .nil
  | _ :: _, _ :: _, ⟨⟨vs, a, b⟩, t⟩ => .cons (.lst a (dpAll_mono cut_le b)) (sub_dq t)
  | [], _ :: _, h => h.elim
  | _ :: _, [], h => h.elim
theorem de_reprLL (h : PE X e (tCB (rReprA X.K) (one (tVar i)))) : DE X e (mReprLL i) := ⟨fun B => pe_imp h fun σ H Q ⟨U, W, ρ, P, R, p, q⟩ => by
  obtain ⟨xss, l, ps, p, q0, s0, h0, t0⟩ := ownLL_at R p
  obtain ⟨p1, p2, p3, p⟩ := p
  exact ⟨.ref l, s0, .ref l, _, rfl, Dp.lst (SqL.of h0) (DqAll.dp (sub_dq t0)), p1, p2, Nat.le_trans p3 (by decide), q _ _ _ _ p R Adv.refl (Dq.str _) trivial⟩⟩
/-- what is held, all of it new -/
theorem held_ll {K : PySem.W.Frag} {B : Bs} {U W : List Addr} {H : Hp} : ∀ {xss : List (List D)} {vs : List V} {F : List Addr}, Held K B U W H (xss.map .fr) vs F → vs = F.map .ref ∧ F.Nodup ∧ (∀ p ∈ F, Loose B W p ∧ p ∈ U) ∧ Sub K U H F xss
  | [], [], _, h => by
    have e : _ = [] := h
    subst e
    exact ⟨rfl, List.nodup_nil, fun p m => (nomatch m), trivial⟩
  | xs :: xss, v :: vs, F, ⟨p, ws, F', e1, e2, e3, e4, e5, e6, e7, t⟩ => by
    obtain ⟨i1, i2, i3, i4⟩ := held_ll t
    subst e1 e2 i1
    refine ⟨rfl, List.nodup_cons.mpr ⟨e3, i2⟩, fun q m => ?_, ⟨ws, e6, e7⟩, i4⟩
    rcases List.mem_cons.mp m with z | z
    · subst z; exact ⟨e4, e5⟩
    · exact i3 q z
  | [], _ :: _, _, h => h.elim
  | _ :: _, [], _, h => h.elim
def frAll : List Rv → Option (List (List D))
  | [] => some []
  | .fr xs :: rs => (frAll rs).map (xs :: ·)
  | _ => none
theorem frAll_eq : ∀ {rs : List Rv} {xss : List (List D)}, frAll rs = some xss → rs = xss.map .fr
  | [], xss, e => by cases e; rfl
  | .fr xs :: rs, xss, e => by
    unfold frAll at e
    obtain ⟨yss, e1, e2⟩ := Option.map_eq_some_iff.mp e
    subst e2
    rw [frAll_eq e1, List.map_cons]
  | .sh _ :: _, _, e => by cases e
  | .bw _ :: _, _, e => by cases e
def mSetLL (i : Nat) (m : MA) : MS := fun P ρ => m ρ fun rs ρ' => ∃ xss, frAll rs = some xss ∧ xss.length ≤ 100000 ∧ P.nx (ρ'.set i (.ow (.ll xss)))
theorem ds_setLL {st : Stmt} {es : List Expr} {mr : MA} (h : ∀ {t : TA}, PA X es t → PS X st (tAsg (tLst t) (gName i))) (ha : DH X es mr) : DS X st (mSetLL i mr) := ⟨fun B => ps_imp (h (ha.run B)) fun D σ H ⟨U, W, ρ, P, R, p, q⟩ =>
  ⟨U, W, ρ, _, R, p, fun rs ρ' vs H' U' F p' R' s1 s2 a' f0 hd => by
    obtain ⟨xss, er, hz, p'⟩ := p'
    have er := frAll_eq er
    subst er
    obtain ⟨i1, i2, i3, i4⟩ := held_ll hd
    subst i1
    refine ⟨bigLine (by rw [List.length_map, i4.len]; exact hz), fun p n => ?_⟩
    have np := R'.nu n
    have sm : Same H' (upd H' p (.lst (F.map .ref))) := same_new n
    have R2 := R'.hide sm n upd_same
    have lo := R'.loose n
    have c : Same (cut U' H') (cut (p :: U') (upd H' p (.lst (F.map .ref)))) := cut_new2 R'.live n
    have nF : p ∉ F := fun m => np (i3 p m).2
    have R3 := R2.setNew (i := i) (o := .ll xss) (ps := F) (h := .lst (F.map .ref)) (p := p) (fun b m => by
      rcases List.mem_cons.mp m with z | z
      · subst z; exact lo
      · exact (i3 b z).1) (fun b m => by
      rcases List.mem_cons.mp m with z | z
      · subst z; exact List.mem_cons_self
      · exact List.mem_cons_of_mem _ (i3 b z).2) (List.nodup_cons.mpr ⟨nF, i2⟩) upd_same ⟨rfl, i4.mono c fun b m o z => sm b o z⟩
    exact q.nx _ _ _ _ _ R3 p'⟩⟩
end
/-- a list of own lists becomes data -/
theorem RS.freeLL {K : PySem.W.Frag} {B : Bs} {U W : List Addr} {ρ : En} {σ : L2.St} {H : Hp} {i : Nat} (R : RS K B U W ρ σ H) {xss : List (List D)} (q : ρ[i]? = some (Sl.ow (.ll xss))) : ∃ U' W', RS K B U' W' (List.set ρ i (Sl.sh (.list (xss.map .list)))) σ H := by
  obtain ⟨a, h, ps, e, k0, ha, ⟨rfl, t⟩, fp, O, ef, nd⟩ := R.owFp q
  refine ⟨U.filter (fun b => decide (b ∉ a :: ps)), W.filter (fun b => decide (b ∉ a :: ps)), ?_⟩
  have fm : ∀ {L : List Addr} {b : Addr}, b ∈ L.filter (fun b => decide (b ∉ a :: ps)) ↔ b ∈ L ∧ b ∉ a :: ps := fun {L b} => by
    rw [List.mem_filter, decide_eq_true_iff]
  have c : Same (Dv.cut U H) (Dv.cut (U.filter (fun b => decide (b ∉ a :: ps))) H) := cut_mono (fun b m => .inl (fm.mp m).1) fun _ _ _ z => z
  have all : ∀ {ps' : List Addr} {yss : List (List D)}, (∀ b ∈ ps', b ∈ a :: ps) → Sub K U H ps' yss → DqAll K (Dv.cut (U.filter (fun b => decide (b ∉ a :: ps))) H) (ps'.map V.ref) (yss.map PyData.list) := by
    intro ps'
    induction ps' with
    | nil => intro yss _ h; cases yss with
      | nil => exact .nil
      | cons _ _ => exact h.elim
    | cons p ps' ih => intro yss m h; cases yss with
      | nil => exact h.elim
      | cons ys yss =>
        obtain ⟨⟨vs, z1, z2⟩, z3⟩ := h
        exact .cons (.lst (cut_of (fun w => (fm.mp w).2 (m p List.mem_cons_self)) z1) (dpAll_mono c z2)) (ih (fun b mb => m b (List.mem_cons_of_mem _ mb)) z3)
  have O2 : Own K B.Pi (U.filter (fun b => decide (b ∉ a :: ps))) (W.filter (fun b => decide (b ∉ a :: ps))) H (List.set ρ i (Sl.sh (.list (xss.map .list)))) σ (fun j => if j = i then [] else fp j) := by
    refine ⟨fun j t' z => ?_, fun j l t t' b q1 q2 m1 m2 => ?_⟩
    · rcases set_get z with ⟨rfl, hl, rfl⟩ | ⟨hj, z⟩
      · rw [if_pos rfl, e]
        exact ⟨rfl, .ref a, rfl, .lst (cut_of (fun w => (fm.mp w).2 List.mem_cons_self) ha) (all (fun b m => List.mem_cons_of_mem _ m) t)⟩
      · rw [if_neg hj]
        have y := O.sl j t' z
        cases t' with
        | un => exact y
        | sh d => obtain ⟨y1, v, y2, y3⟩ := y; exact ⟨y1, v, y2, dp_mono c y3⟩
        | pot => exact y
        | scr ns => obtain ⟨y1, b, y2, y3⟩ := y; exact ⟨y1, b, y2, c.seq y3⟩
        | ow o2 =>
          obtain ⟨b, hb, bs, y1, y2, y3, y4, y5, y6⟩ := y
          refine ⟨b, hb, bs, y1, y2, fun x mx => ⟨fm.mpr ⟨(y3 x mx).1, fun w => ?_⟩, (y3 x mx).2⟩, y4, y5, y6.mono c fun _ _ _ z => z⟩
          exact hj (O.dj j i _ _ x z q mx (by rw [ef]; exact w))
    · rcases set_get q1 with ⟨z, _, _⟩ | ⟨n1, q1⟩
      · rw [if_pos z] at m1; cases m1
      rcases set_get q2 with ⟨z, _, _⟩ | ⟨n2, q2⟩
      · rw [if_pos z] at m2; cases m2
      rw [if_neg n1] at m1
      rw [if_neg n2] at m2
      exact O.dj j l _ _ b q1 q2 m1 m2
  have np : ∀ b ∈ B.Pi, b ∉ a :: ps := fun b m w => (k0 b w).2 m
  exact ⟨by rw [List.length_set, R.len], ⟨_, O2⟩, fun b m' => R.live b (fm.mp m').1, fun b m' => fm.mpr ⟨R.wu b (fm.mp m').1, (fm.mp m').2⟩, fun b m' => R.wz b (fm.mp m').1, R.stay,
    fun b m' => R.wn b (fm.mp m').1, fun b m' => R.vis b (fm.mp m').1, fun b m' => fm.mpr ⟨R.u0 b m', fun w => (R.wn b (k0 b w).1).elim (fun z => (k0 b w).2 z) (fun z => z m')⟩, fun b m' => fm.mpr ⟨R.pw b m', np b m'⟩, R.pots⟩
def mFreeL (i : Nat) (s : MS) : MS := fun P ρ => match ρ[i]? with
  | some (.ow (.ll xss)) => s P (ρ.set i (.sh (.list (xss.map .list))))
  | _ => s P ρ
theorem ds_freeL {X : Cx} {st : Stmt} {s : MS} {i : Nat} (h : DS X st s) : DS X st (mFreeL i s) := ⟨fun B => ps_imp (h.run B) fun D σ H ⟨U, W, ρ, P, R, p, q⟩ => by
  unfold mFreeL at p
  split at p
  · rename_i xs z
    obtain ⟨U1, W1, R1⟩ := R.freeLL z
    exact ⟨U1, W1, _, P, R1, p, q⟩
  · exact ⟨U, W, ρ, P, R, p, q⟩⟩
end Dv
namespace Dv
open PySem PySem.Spec L2
/-! ### divmod -/
def rDivmodF : List V → Hp → VK → Prop := fun xs H Q => ∃ i j, xs = [V.int i, V.int j] ∧ CDiv i j ∧ NewT H [.int (i / j), .int (i % j)] Q
theorem call_divmodF {X : Cx} : CallR X (.builtin "divmod") rDivmodF := by
  intro pins s σ H xs us Q I r h
  obtain ⟨i, j, rfl, ⟨h1, h2⟩, q⟩ := h
  obtain ⟨u, w', rfl, ⟨t, rfl⟩, ⟨t', rfl⟩⟩ := vals2 r
  refine PyProof.Rows.divmod_int (by omega) ?_ (.inl (PyProof.noPylong_small (by omega)))
  rw [Int.fdiv_eq_ediv_of_nonneg i (by omega), Int.fmod_eq_emod_of_nonneg i (by omega)]
  have hn : H s.heap.objs.size = none := I.hok.fresh (Nat.le_refl _)
  have r' : Vals [V.int (i / j), V.int (i % j)] [.int (i / j) s.toks, .int (i % j) (s.toks + 1)] := .cons ⟨_, rfl⟩ (.cons ⟨_, rfl⟩ .nil)
  refine ⟨.ref s.heap.objs.size, upd H s.heap.objs.size (.frz (tupObj [.int (i / j) s.toks, .int (i % j) (s.toks + 1)]) (.tup [.int (i / j), .int (i % j)])), ?_, rfl, q _ _ hn (tupO_new _)⟩
  exact I.laid (fun b o e => Heap.get?_push_of_some _ e) (Nat.le_refl _) ⟨Heap.get?_push_size _ rfl, by simp only [List.length_cons, List.length_nil]; rw [sizeLine_eq]; decide, _, r', ⟨_, Heap.get?_push_size _ rfl, rfl, _, rfl⟩⟩
def fDivmod (ds : List D) (P : Rv → Prop) : Prop := match ds with
  | [.int i, .int j] => 0 < j ∧ j < 1073741824 ∧ P (.sh (.tuple [.int (i / j), .int (i % j)]))
  | _ => False
theorem d_divmod {K : PySem.W.Frag} : OpDC K rDivmodF fDivmod := fun U σ H xs ds P Q lv hx p q => by
  unfold fDivmod at p
  split at p
  · obtain ⟨p1, p2, p⟩ := p
    obtain ⟨v, w, rfl, h1, h2⟩ := dtAll2 hx
    rw [h1.int, h2.int]
    refine ⟨_, _, rfl, ⟨p1, p2⟩, fun a o n t => ?_⟩
    exact q _ _ _ p (same_new n) (.tup (.inl ⟨o, cut_of (nuL lv n) upd_same, t⟩) (.cons (.int _) (.cons (.int _) .nil))) fun _ h => nomatch h
  · exact p.elim
/-! ### the pot -/
def mPotIx (i : Nat) (j : Nat) : ME := fun ρ P => ρ[i]? = some .pot ∧ ((j = 0 ∧ ∀ k : Int, 0 ≤ k → P (.sh (.int k)) ρ) ∨ (j = 1 ∧ ∀ k : Int, 0 ≤ k → k < 2 ^ 62 → P (.sh (.int k)) ρ))
def gPot (i : Nat) (j : Nat) : MG := fun d ρ Q => ρ[i]? = some .pot ∧ ∃ k : Int, d = .int k ∧ 0 ≤ k ∧ (j = 0 ∨ (j = 1 ∧ k < 2 ^ 62)) ∧ Q ρ
theorem RS.updPot {K : PySem.W.Frag} {B : Bs} {U W : List Addr} {ρ : En} {σ : L2.St} {H : Hp} {a : Addr} {i j : Int} (R : RS K B U W ρ σ H) (m : a ∈ B.Pi) (h1 : 0 ≤ i) (h2 : 0 ≤ j) (h3 : j < 2 ^ 62) :
    RS K B U W ρ σ (upd H a (.lst [.int i, .int j])) ∧ Adv W H (upd H a (.lst [.int i, .int j])) := by
  have mW := R.pw a m
  have mU := R.wu a mW
  have c : Same (Dv.cut U H) (Dv.cut U (upd H a (.lst [.int i, .int j]))) := cut_mono (fun _ h => .inl h) fun b x n z => by
    rw [upd_ne (show b ≠ a from fun w => n (w ▸ mU))]; exact z
  obtain ⟨fp, O⟩ := R.own
  refine ⟨⟨R.len, ⟨fp, O.mono c (fun _ m _ => m) fun b _ np x z => by rw [upd_ne (show b ≠ a from fun w => np (w ▸ m))]; exact z⟩, fun b mb => ?_, R.wu, R.wz, fun b x z => ?_, R.wn, R.vis, R.u0, R.pw, fun b mb => ?_⟩, fun b x z => ?_⟩
  · by_cases w : b = a
    · subst w; exact ⟨_, upd_same⟩
    · rw [upd_ne w]; exact R.live b mb
  · have nb : b ≠ a := fun w => by rw [w, R.wz a mW] at z; cases z
    rw [upd_ne nb]; exact R.stay b x z
  · by_cases w : b = a
    · subst w; exact ⟨i, j, upd_same, h1, h2, h3⟩
    · obtain ⟨x, y, z, r⟩ := R.pots b mb
      exact ⟨x, y, by rw [upd_ne w]; exact z, r⟩
  · by_cases w : b = a
    · subst w; exact .inl mW
    · right; rw [upd_ne w]; exact z
section
variable {X : Cx} {e ix tg : Expr} {i : Nat} {m : ME}
theorem de_pot {j : Nat} (h : PE X e (tOp (rIx X.K) (tVar i) (tC (.int (j : Nat))))) : DE X e (mPotIx i j) := ⟨fun B => pe_imp h fun σ H Q ⟨U, W, ρ, P, R, ⟨ip, p⟩, q⟩ => by
  obtain ⟨a, e1, m⟩ := R.potAt ip
  obtain ⟨x, y, ha, h1, h2, h3⟩ := R.pots a m
  rcases p with ⟨rfl, p⟩ | ⟨rfl, p⟩
  · exact ⟨.ref a, e1, .inl ⟨a, _, _, .int x, rfl, rfl, SqL.of ha, rfl, q _ _ _ _ (p x h1) R Adv.refl (Dq.int _) trivial⟩⟩
  · exact ⟨.ref a, e1, .inl ⟨a, _, _, .int y, rfl, rfl, SqL.of ha, rfl, q _ _ _ _ (p y h2 h3) R Adv.refl (Dq.int _) trivial⟩⟩⟩
theorem dp_pot {j : Nat} (h : PG X tg (gSub (tVar i) (tC (.int (j : Nat))) rSetL)) : DP X tg (gPot i j) := ⟨fun B => pg_imp h fun v σ H Q ⟨U, W, ρ, d, P, R, k, ⟨ip, z, ez, z1, z2, p⟩, q⟩ => by
  subst ez
  obtain ⟨a, e1, m⟩ := R.potAt ip
  obtain ⟨x, y, ha, h1, h2, h3⟩ := R.pots a m
  have ev : v = .int z := by cases k; rfl
  subst ev
  rcases z2 with rfl | ⟨rfl, z3⟩
  · obtain ⟨R2, a2⟩ := R.updPot m z1 h2 h3
    exact ⟨.ref a, e1, a, _, 0, 0, rfl, rfl, ha, rfl, q _ _ _ p R2 a2⟩
  · obtain ⟨R2, a2⟩ := R.updPot m h1 z1 z3
    exact ⟨.ref a, e1, a, _, 1, 1, rfl, rfl, ha, rfl, q _ _ _ p R2 a2⟩⟩
end
/-! ### a list of one's own as the pot -/
def potD : List D → Prop
  | [.int i, .int j] => 0 ≤ i ∧ 0 ≤ j ∧ j < 2 ^ 62
  | _ => False
def mCallPO (i : Nat) (G : DF) (m : MA) : ME := fun ρ P => ownL ρ i potD ∧ m ρ fun rs ρ' => ownL ρ' i potD ∧ rs.any isBw = false ∧ ∃ ds, datAll ρ' rs = some ds ∧ G ds fun r => isBw r = false ∧ ∀ k l : Int, potD [.int k, .int l] → P r (ρ'.set i (.ow (.lst [.int k, .int l])))
/-- f(a new pot, ..) -/
def mCallPF (G : DF) (me : ME) (m : MA) : ME := fun ρ P => me ρ fun r ρ1 => ∃ xs, r = .fr xs ∧ potD xs ∧ m ρ1 fun rs ρ' => rs.any isBw = false ∧ ∃ ds, datAll ρ' rs = some ds ∧ G ds fun r => isBw r = false ∧ P r ρ'
theorem potD_of {xs : List D} (h : potD xs) : ∃ i j, xs = [.int i, .int j] ∧ 0 ≤ i ∧ 0 ≤ j ∧ j < 2 ^ 62 := by
  unfold potD at h
  split at h
  · exact ⟨_, _, rfl, h⟩
  · exact h.elim
theorem noBw_lent {σ : L2.St} : ∀ {rs : List Rv}, rs.any isBw = false → lent σ rs = []
  | [], _ => rfl
  | .bw i :: rs, h => by rw [List.any_cons] at h; cases h
  | .sh _ :: rs, h => noBw_lent (rs := rs) h
  | .fr _ :: rs, h => noBw_lent (rs := rs) h
section
variable {X : Cx} {e a : Expr} {es : List Expr} {i : Nat} {m : MA} {me : ME} {x : Str} {p pos : Pos} {G : DF}
theorem dq_ii {K : PySem.W.Frag} {H : Hp} {vs : List V} {i j : Int} (h : DqAll K H vs [.int i, .int j]) : vs = [.int i, .int j] := by
  cases h with
  | cons h1 t => cases t with
    | cons h2 t => cases t; cases h1; cases h2; rfl
theorem de_callPO (h : ∀ {t : TA}, PA X es t → PE X (.Call (.Name x p) (e :: es) [] pos) (tCallG (spD X.K true G) (tCons (tVar i) t))) (ha : DA X es m) : DE X (.Call (.Name x p) (e :: es) [] pos) (mCallPO i G m) := ⟨fun B => pe_imp (h (ha.run B)) fun σ H Q ⟨U, W, ρ, P, R, ⟨ip, p⟩, q⟩ => by
  obtain ⟨xs0, π, vs0, _, q0, e1, h0, t0⟩ := ownL_at R ip
  refine ⟨.ref π, e1, U, W, ρ, _, R, p, fun rs ρ' vs H' p' R' a' kk => ?_⟩
  obtain ⟨ip2, nb, ds, ed, g⟩ := p'
  obtain ⟨xs, π2, vs2, pd, q2, e2, h2, t2⟩ := ownL_at R' ip2
  rw [e1] at e2; cases e2
  obtain ⟨x0, y0, rfl, b1, b2, b3⟩ := potD_of pd
  have := dq_ii t2
  subst this
  obtain ⟨_, _, e3, mW, mP, h3, _⟩ := R'.lstAt q2
  rw [e1] at e3; cases e3
  have ln := noBw_lent (σ := σ) nb
  have dq := args_dq (U1 := U) (fun a ma => ma) R R' kk ed (fun a ma => by rw [ln] at ma; cases ma)
  refine ⟨U, [π], vs, ds, _, fun a ma => R'.live a ma, by rw [if_pos rfl]; exact ⟨π, rfl, rfl⟩, fun a ma => ?_, dq, g, fun r v H2 pr k pk kv => ?_⟩
  · rw [List.mem_singleton.mp ma]; exact ⟨R'.wu π mW, x0, y0, h2, b1, b2, b3⟩
  obtain ⟨nbr, pr⟩ := pr
  obtain ⟨x1, y1, h4, c1, c2, c3⟩ := pk π List.mem_cons_self
  obtain ⟨R3, a3, _⟩ := R'.updOw (ws := [.int x1, .int y1]) (ys := [.int x1, .int y1]) q2 e1 (.cons (.int _) (.cons (.int _) .nil))
  have sm : Same (upd H' π (.lst [.int x1, .int y1])) H2 := fun b o z => by
    by_cases w : b = π
    · subst w; rw [upd_same] at z; cases z; exact h4
    · rw [upd_ne w] at z
      exact (k b o z).resolve_left fun w' => w (List.mem_singleton.mp w')
  have R4 := R3.ext sm
  have a4 : Adv W H' H2 := a3.trans (Adv.same sm)
  have fin := pr x1 y1 ⟨c1, c2, c3⟩
  cases r with
  | bw j => cases nbr
  | sh d => exact q _ _ _ _ fin R4 (a'.trans a4) kv trivial
  | fr zs =>
    obtain ⟨pp, ws, rfl, n, f1, f2⟩ := kv
    refine q _ _ _ _ fin R4 (a'.trans a4) ⟨pp, ws, rfl, R.back R' a' n, f1, f2⟩ fun p' e => ?_
    cases e
    have ne : pp ≠ π := fun w => by rw [w, h2] at n; cases n
    exact R3.hide sm (by rw [upd_ne ne]; exact n) f1⟩
theorem de_callPF (h : ∀ {te : TE} {t : TA}, PE X e te → PA X es t → PE X (.Call (.Name x p) (e :: es) [] pos) (tCallG (spD X.K true G) (tCons te t))) (he : DE X e me) (ha : DA X es m) : DE X (.Call (.Name x p) (e :: es) [] pos) (mCallPF G me m) := ⟨fun B => pe_imp (h (he.run B) (ha.run B)) fun σ H Q ⟨U, W, ρ, P, R, p, q⟩ => by
  refine ⟨U, W, ρ, _, R, p, fun r ρ1 v0 H1 p1 R1 a1 k1 hd1 => ?_⟩
  obtain ⟨xs, rfl, pd, p1⟩ := p1
  obtain ⟨π, vs0, rfl, n0, h0, t0⟩ := k1
  have R1' := hd1 π rfl
  obtain ⟨x0, y0, rfl, b1, b2, b3⟩ := potD_of pd
  have := dq_ii t0
  subst this
  refine ⟨π :: U, W, ρ1, _, R1', p1, fun rs ρ' vs H' p' R' a' kk => ?_⟩
  obtain ⟨nb, ds, ed, g⟩ := p'
  have ln := noBw_lent (σ := σ) nb
  have nW : π ∉ W := (R.loose n0).w
  have h2 : H' π = some (.lst [.int x0, .int y0]) := (a' _ _ h0).resolve_left nW
  have dq := args_dq (U1 := π :: U) (fun a ma => ma) R1' R' kk ed (fun a ma => by rw [ln] at ma; cases ma)
  refine ⟨π :: U, [π], vs, ds, _, fun a ma => R'.live a ma, by rw [if_pos rfl]; exact ⟨π, rfl, rfl⟩, fun a ma => ?_, dq, g, fun r v H2 pr k pk kv => ?_⟩
  · rw [List.mem_singleton.mp ma]; exact ⟨List.mem_cons_self, x0, y0, h2, b1, b2, b3⟩
  obtain ⟨nbr, pr⟩ := pr
  obtain ⟨x1, y1, h4, c1, c2, c3⟩ := pk π List.mem_cons_self
  have R3 : RS X.K B (π :: U) W ρ' σ (upd H' π (.lst [.int x1, .int y1])) := R'.updH nW ⟨n0, R.nu n0, a1.trans a', R⟩
  have sm : Same (upd H' π (.lst [.int x1, .int y1])) H2 := fun b o z => by
    by_cases w : b = π
    · subst w; rw [upd_same] at z; cases z; exact h4
    · rw [upd_ne w] at z
      exact (k b o z).resolve_left fun w' => w (List.mem_singleton.mp w')
  have R4 := R3.ext sm
  have R5 := R4.unhide R.wu R.u0
  have a4 : Adv W H H2 := fun b o z => by
    rcases (a1.trans a') b o z with w | w
    · exact .inl w
    · have nb : b ≠ π := fun w' => by rw [w', n0] at z; cases z
      exact .inr (sm b o (by rw [upd_ne nb]; exact w))
  have c5 : Same (cut (π :: U) H2) (cut U H2) := cut_mono (fun a m => .inl (List.mem_cons_of_mem _ m)) fun _ _ _ e => e
  cases r with
  | bw j => cases nbr
  | sh d => exact q _ _ _ _ pr R5 a4 (dp_mono c5 kv) trivial
  | fr zs =>
    obtain ⟨pp, ws, rfl, n, f1, f2⟩ := kv
    have n1 : H1 pp = none := R1'.back R' a' n
    refine q _ _ _ _ pr R5 a4 ⟨pp, ws, rfl, R.back R1 a1 n1, f1, dpAll_mono (cut_mono (fun a m => .inl ?_) fun _ _ _ e => e) f2⟩ fun p' e => ?_
    · rcases List.mem_cons.mp m with w | w
      · subst w; exact List.mem_cons_self
      · exact List.mem_cons_of_mem _ (List.mem_cons_of_mem _ w)
    · cases e
      have ne : pp ≠ π := fun w => by rw [w, h2] at n; cases n
      have R6 : RS X.K B (pp :: π :: U) W ρ' σ H2 := R3.hide sm (by rw [upd_ne ne]; exact n) f1
      have R7 : RS X.K B (π :: pp :: U) W ρ' σ H2 := by
        obtain ⟨fp, O⟩ := R6.own
        have sw : ∀ b, b ∈ π :: pp :: U ↔ b ∈ pp :: π :: U := fun b => by simp only [List.mem_cons]; exact ⟨fun h => by rcases h with h | h | h <;> simp [h], fun h => by rcases h with h | h | h <;> simp [h]⟩
        have c : Same (cut (pp :: π :: U) H2) (cut (π :: pp :: U) H2) := cut_mono (fun b mb => .inl ((sw b).mp mb)) fun _ _ _ e => e
        exact ⟨R6.len, ⟨fp, O.mono c (fun _ m _ => m) fun _ _ _ _ e => e⟩, fun b mb => R6.live b ((sw b).mp mb), fun b mb => (sw b).mpr (R6.wu b mb), R6.wz, R6.stay, R6.wn, fun b mb => R6.vis b ((sw b).mp mb), fun b mb => (sw b).mpr (R6.u0 b mb), R6.pw, R6.pots⟩
      exact R7.unhide (fun a m => List.mem_cons_of_mem _ (R.wu a m)) (fun a m => List.mem_cons_of_mem _ (R.u0 a m))⟩
end
end Dv
namespace Dv
open PySem PySem.Spec L2
/-! ### the script: a list of ints that is only read -/
def mScrLen (i : Nat) : ME := fun ρ P => match ρ[i]? with
  | some (.scr ns) => P (.sh (.int (ns.length : Nat))) ρ
  | _ => False
def mScrIx (i : Nat) (m : ME) : ME := fun ρ P => match ρ[i]? with
  | some (.scr ns) => m ρ fun r ρ' => ∃ k z, r = .sh (.int k) ∧ atI ns k = some z ∧ P (.sh (.int z)) ρ'
  | _ => False
def mCallS (i : Nat) (G : List Int → DF) (m : MA) : ME := fun ρ P => match ρ[i]? with
  | some (.scr ns) => m ρ fun rs ρ' => rs.any isBw = false ∧ ∃ ds, datAll ρ' rs = some ds ∧ G ns ds fun r => isBw r = false ∧ P r ρ'
  | _ => False
/-- the promise of a def whose first argument is the script -/
def spS (K : PySem.W.Frag) (G : List Int → DF) : Sp := fun vs H Q _ => ∃ (U : List Addr) (a : Addr) (ns : List Int) (ws : List V) (ds : List D) (P : Rv → Prop),
  (∀ a ∈ U, ∃ o, H a = some o) ∧ vs = .ref a :: ws ∧ SqL K (cut U H) a (ns.map V.int) ∧ DqAll K (cut U H) ws ds ∧ G ns ds P ∧
  ∀ r v H', P r → Same H H' → RvF K U H H' r v → Q v H'
def dfS (n l : Nat) (m : MS) (ns : List Int) : DF := fun ds P => ds.length + 1 = n ∧ m { nx := fun _ => P (.sh .none), rt := P } (Sl.scr ns :: ds.map .sh ++ List.replicate (l - n) .un)
section
variable {P : Program} {w : World} {K : PySem.W.Frag} {mg : Str → Option Value} {base : Heap}
theorem atI_map {α β : Type} {f : α → β} {xs : List α} {k : Int} {x : α} (h : atI xs k = some x) : atI (xs.map f) k = some (f x) := by
  unfold atI at h ⊢
  rw [List.length_map]
  cases e : ixN xs.length k with
  | none => rw [e] at h; cases h
  | some j =>
    rw [e] at h
    have h' : xs[j]? = some x := h
    show (xs.map f)[j]? = _
    rw [List.getElem?_map, h']; rfl
theorem fnG_bodyS {x qual : Str} {st : Stmt} {f : Addr} {fd : FuncData} {N ps : List Str} {k : Nat} {m : MS} (F : Fun K x qual st f fd) (S : FnScope N ps (defScope st)) (hN : ps.length ≤ N.length := by decide)
    (hb : ∀ (cdv : Value) (A : Around) (outer : List Env) (s : Shared) (H : Hp), A.guards = some [] → Room k (A.deeper (PyProof.Rows.envOfC qual (defScope st) s.heap.objs.size f cdv)) → DSs (Body P w K mg base N qual st f cdv A outer s H) (defBody st) m) :
    FnG P w K mg base (k + 1) f fd ps (spS K (dfS ps.length N.length m)) := by
  have len : ∀ vs H Q E, spS K (dfS ps.length N.length m) vs H Q E → vs.length = ps.length := fun vs H Q E ⟨U, a, ns, ws, ds, P', lv, e, _, t, ⟨hl, _⟩, _⟩ => by
    have := dpAll_len t
    rw [e, List.length_cons]; omega
  refine fnG_of F S len fun cdv A outer s H vs Q hg hr h => ?_
  have hlen := len _ _ _ E0 h
  obtain ⟨U, a, ns, ws, ds, P', lv, rfl, sq, t, ⟨hl, hm⟩, q⟩ := h
  have l1 := dpAll_len t
  refine ⟨_, ((hb cdv A outer s H hg hr).run ⟨H, U, U, []⟩), U, [], _, _, ?_, hm, ?_⟩
  · have es : L2.start N (.ref a :: ws) = (V.ref a :: ws).map some ++ List.replicate (N.length - ps.length) none := by unfold L2.start; rw [hlen]
    refine ⟨?_, ⟨fun _ => [], fun i sl e => ?_, fun i j s1 s2 b q1 q2 m1 _ => nomatch m1⟩, lv, fun b mb => (nomatch mb), fun b mb => (nomatch mb), fun b o e => e, fun b mb => (nomatch mb), fun b mb => .inl mb, fun b mb => mb, fun b mb => (nomatch mb), fun b mb => (nomatch mb)⟩
    · rw [es]
      simp only [List.length_append, List.length_map, List.length_replicate, List.length_cons]
      omega
    · cases i with
      | zero =>
        have e' : some (Sl.scr ns) = some sl := e
        cases e'
        exact ⟨rfl, a, by rw [es]; rfl, sq⟩
      | succ j =>
        have e' : (ds.map Sl.sh ++ List.replicate (N.length - ps.length) Sl.un)[j]? = some sl := e
        by_cases hj : j < (ds.map Sl.sh).length
        · rw [List.getElem?_append_left hj] at e'
          obtain ⟨d, v, rfl, e1, e2⟩ := start_shs t j sl e'
          refine ⟨rfl, v, ?_, e2⟩
          rw [es, List.map_cons, List.cons_append, List.getElem?_cons_succ, List.getElem?_append_left (by rw [List.length_map]; exact (List.getElem?_eq_some_iff.mp e1).1), List.getElem?_map, e1]; rfl
        · rw [List.getElem?_append_right (by omega)] at e'
          rw [List.eq_of_mem_replicate (List.mem_of_getElem? e')]
          exact rfl
  · have res : ∀ {U1 W1 ρ1 σ1 H1 r v}, RS K ⟨H, U, U, []⟩ U1 W1 ρ1 σ1 H1 → P' r → RtOk K ⟨H, U, U, []⟩ U1 H1 r v → Q v H1 := fun {U1 W1 ρ1 σ1 H1 r v} R p k => by
      refine q r v H1 p (fun a o e => R.stay a o e) ?_
      cases r with
      | sh d => exact dp_mono (cut_mono (fun a m => .inl (R.u0 a m)) fun _ _ _ e => e) k
      | bw i => exact k.elim
      | fr xs =>
        obtain ⟨p0, vs0, e, z, np, h1, t1⟩ := k
        refine ⟨p0, vs0, e, z, h1, dpAll_mono (cut_mono (fun a m => .inl ?_) fun _ _ _ e => e) t1⟩
        rcases List.mem_cons.mp m with w1 | w1
        · subst w1; exact List.mem_cons_self
        · exact List.mem_cons_of_mem _ (R.u0 a w1)
    exact ⟨fun U1 W1 ρ1 σ1 H1 R p => res R p Dq.non, fun _ _ _ _ _ _ p => p.elim, fun _ _ _ _ _ _ p => p.elim, fun U1 W1 ρ1 σ1 H1 r v R p k => res R p k⟩
end
section
variable {X : Cx} {e a : Expr} {es : List Expr} {i : Nat} {m : MA} {me : ME} {x : Str} {p pos : Pos} {G : List Int → DF}
theorem de_scrLen (h : PE X e (tCB (rLenA X.K) (one (tVar i)))) : DE X e (mScrLen i) := ⟨fun B => pe_imp h fun σ H Q ⟨U, W, ρ, P, R, p, q⟩ => by
  unfold mScrLen at p
  split at p
  · rename_i ns z
    obtain ⟨a, e1, e2⟩ := R.scrAt z
    refine ⟨.ref a, e1, .ref a, ns.length, rfl, .inl ⟨_, Same.seq cut_le e2, by rw [List.length_map]⟩, q _ _ _ _ p R Adv.refl (Dq.int _) trivial⟩
  · exact p.elim⟩
theorem de_scrIx (h : ∀ {t : TE}, PE X a t → PE X e (tOp (rIx X.K) (tVar i) t)) (ha : DE X a me) : DE X e (mScrIx i me) := ⟨fun B => pe_imp (h (ha.run B)) fun σ H Q ⟨U, W, ρ, P, R, p, q⟩ => by
  unfold mScrIx at p
  split at p
  · rename_i ns z
    obtain ⟨b, e1, e2⟩ := R.scrAt z
    refine ⟨.ref b, e1, U, W, ρ, _, R, p, fun r ρ' v H' p' R' a' k _ => ?_⟩
    obtain ⟨j, y, rfl, hy, p'⟩ := p'
    have ev : v = .int j := by cases k; rfl
    exact .inl ⟨b, _, j, .int y, rfl, ev, Same.seq cut_le (Same.seq (R.cut a') e2), atI_map hy, q _ _ _ _ p' R' a' (Dq.int _) trivial⟩
  · exact p.elim⟩
theorem de_callS (h : ∀ {t : TA}, PA X es t → PE X (.Call (.Name x p) (e :: es) [] pos) (tCallG (spS X.K G) (tCons (tVar i) t))) (ha : DA X es m) : DE X (.Call (.Name x p) (e :: es) [] pos) (mCallS i G m) := ⟨fun B => pe_imp (h (ha.run B)) fun σ H Q ⟨U, W, ρ, P, R, p, q⟩ => by
  unfold mCallS at p
  split at p
  · rename_i ns z
    obtain ⟨b, e1, e2⟩ := R.scrAt z
    refine ⟨.ref b, e1, U, W, ρ, _, R, p, fun rs ρ' vs H' p' R' a' kk => ?_⟩
    obtain ⟨nb, ds, ed, g⟩ := p'
    have ln := noBw_lent (σ := σ) nb
    have dq := args_dq (U1 := U) (fun a ma => ma) R R' kk ed (fun a ma => by rw [ln] at ma; cases ma)
    refine ⟨U, b, ns, vs, ds, _, fun a ma => R'.live a ma, rfl, Same.seq (R.cut a') e2, dq, g, fun r v H2 pr sm kv => ?_⟩
    obtain ⟨nbr, pr⟩ := pr
    have R2 := R'.ext sm
    have a2 := a'.trans (Adv.same (W := W) sm)
    cases r with
    | bw j => cases nbr
    | sh d => exact q _ _ _ _ pr R2 a2 kv trivial
    | fr zs =>
      obtain ⟨pp, ws, rfl, n, f1, f2⟩ := kv
      refine q _ _ _ _ pr R2 a2 ⟨pp, ws, rfl, R.back R' a' n, f1, f2⟩ fun p' e => ?_
      cases e
      exact R'.hide sm n f1
  · exact p.elim⟩
/-- for .. in script -/
def mItS (i : Nat) : MI := fun ρ P => match ρ[i]? with
  | some (.scr ns) => P (ns.map .int) ρ
  | _ => False
theorem itS_ok {K : PySem.W.Frag} {U : List Addr} {H : Hp} {a : Addr} {ns : List Int} (h : SqL K (cut U H) a (ns.map V.int)) : ItOk K false U H (Itl K a) (ns.map .int) := by
  have at_ : ∀ {U' H'}, Same (cut U H) (cut U' H') → SqL K H' a (ns.map V.int) := fun {U' H'} s => Same.seq cut_le (Same.seq s h)
  refine ⟨fun U' H' s lv i hi => ?_, fun U' H' s lv i d x H2 hd y => ?_, fun U' H' s lv => ⟨_, at_ s, by rw [List.length_map, List.length_map]; exact Nat.le_refl _⟩⟩
  · have hi' : i < ns.length := by rw [List.length_map] at hi; exact hi
    exact ⟨_, .int ns[i], at_ s, by rw [List.getElem?_map, List.getElem?_eq_getElem hi']; rfl⟩
  · obtain ⟨rfl, y⟩ := y
    rw [List.getElem?_map] at hd
    obtain ⟨z, z1, rfl⟩ := Option.map_eq_some_iff.mp hd
    have := y _ (at_ s)
    rw [List.getElem?_map, z1] at this
    cases this
    exact ⟨Same.refl _, .int z⟩
theorem di_scr {tg : Expr} (h : PE X e (tVar i)) : DI X tg e false (mItS i) := ⟨fun B => pi_imp (pi_list h) fun σ H R ⟨U, W, ρ, P, S, p, q⟩ => by
  unfold mItS at p
  split at p
  · rename_i ns z
    obtain ⟨b, e1, e2⟩ := S.scrAt z
    exact ⟨.ref b, e1, b, rfl, ⟨_, Same.seq cut_le e2⟩, q _ _ _ _ p S Adv.refl (itS_ok e2)⟩
  · exact p.elim⟩
end
/-! ### the end: the law is called -/
section
variable {P : Program} {w : World} {K : PySem.W.Frag}
/-- the script alone is tracked, and only if it is none of the module's own objects -/
def scrH (K : PySem.W.Frag) (a : Addr) (o : Obj) (ns : List Int) : Hp := fun b => if b = a ∧ (K.lookup a).isNone = true then some (.frz o (.lst (ns.map V.int))) else none
theorem scrH_some {a b : Addr} {o : Obj} {ns : List Int} {u : HO} (h : scrH K a o ns b = some u) : b = a ∧ K.lookup a = none ∧ u = .frz o (.lst (ns.map V.int)) := by
  unfold scrH at h
  split at h
  · rename_i c
    cases h
    exact ⟨c.1, Option.isNone_iff_eq_none.mp c.2, rfl⟩
  · cases h
theorem end_call {mg mb : Str → Option Value} {k : Nat} {fa a : Addr} {fd : FuncData} {x : Str} {G : List Int → DF} {s : Shared} {us : List Value} {ns : List Int} (kin : K.In s.heap) (nsm : s.heap.Ns mainGlobals mg) (nsb : s.heap.Ns builtinsNs mb)
    (blt : ∀ y : Str, y ≠ "__name__" → mb y = bootBuiltins y) (nol : s.heap.NoLimit) (gn : s.gens = #[]) (at_ : s.heap.get? a = some { cls := .type "list", data := .seq us.toArray }) (hints : PyProof.Rows.IntsAre us ns) (few : ns.length ≤ sizeLine)
    (room : Room k callerA) (fn : ∀ base : Heap, K.In base → base.Ns mainGlobals mg → FnG P w K mg base k fa fd [x] (spS K G)) (bnd : ∀ (s : Shared) (u : Value), BindsTo s fd ⟨[u], []⟩ [(x, u)]) (g : G ns [] fun r => r = .sh (.bool true)) :
    codeAny (model P w) callerA (.call (.ref fa) ⟨[.ref a], []⟩) (fun r s' => r = .ok (.ret (.bool true)) ∧ OldK s.heap s'.heap ∧ s'.os = s.os ∧ PyProof.Rows.AllBare s'.gens) s := by
  have vals := vals_ints hints
  have cnt := hints.length
  let o : Obj := { cls := .type "list", data := .seq us.toArray }
  let T : Hp := scrH K a o ns
  have sq : SqL K T a (ns.map V.int) := by
    cases e : K.lookup a with
    | none => exact .inl (.inr ⟨o, if_pos ⟨rfl, by rw [e]; rfl⟩⟩)
    | some o' =>
      have e' := kin a o' e
      rw [at_] at e'
      cases e'
      exact .inr ⟨_, us.toArray, _, e, rfl, rfl, rfl, by rw [List.size_toArray, cnt]; exact few, by simpa using vals⟩
  have ok : HOk P w T s.heap := fun b u e => by
    obtain ⟨rfl, _, rfl⟩ := scrH_some e
    exact ⟨at_, by rw [List.length_map]; exact few, us, _, vals, at_⟩
  have seen : ∀ {b : Addr} {z : Obj}, s.heap.get? b = some z → T b = none → (hidT s.heap T).get? b = some z := fun e n => hidT_get e n
  have dict_ : ∀ {b : Addr} {z : Obj} {es : Array DictEntry} {ep : Nat}, s.heap.get? b = some z → z.data = .dict es ep → T b = none := fun {b z es ep} e d => by
    cases q : T b with
    | none => rfl
    | some u =>
      obtain ⟨rfl, _⟩ := scrH_some q
      rw [at_] at e
      cases e
      cases d
  have names : ∀ {b : Addr} {m : Str → Option Value}, s.heap.Ns b m → (hidT s.heap T).Ns b m := by
    rintro b m ⟨z, es, ep, e, d, r⟩
    exact ⟨z, es, ep, seen e (dict_ e d), d, r⟩
  have kb : K.In (hidT s.heap T) := fun b z e => seen (kin b z e) (by
    cases q : T b with
    | none => rfl
    | some u =>
      obtain ⟨rfl, n, _⟩ := scrH_some q
      rw [n] at e; cases e)
  have md : Mod K mg (hidT s.heap T) := by
    obtain ⟨mc, l1, l2⟩ := nol
    exact ⟨kb, names nsm, ⟨mb, names nsb, blt⟩, mc, names l1, l2⟩
  have nob : ∀ b ∈ frs ([] : List Env), T b = none := fun b m => absurd (show b ∈ ([] : List Addr) from m) List.not_mem_nil
  have env : Env0 P w K mg (hidT s.heap T) callerA [] s T := { frames := rfl, mod := md, bs := fun b z e => of_hidT e, bsz := Nat.le_of_eq (hidT_size _ _), funs := trivial, frf := nob, hok := ok, bare := .of_eq gn }
  have pre : spS K G [.ref a] T (fun v _ => v = .bl true) E0 := by
    refine ⟨[], a, ns, [], [], _, fun b m => (nomatch m), rfl, Same.seq (fun b z e => ?_) sq, .nil, g, fun r v H' p _ kv => ?_⟩
    · exact cut_of List.not_mem_nil e
    · subst p
      cases kv; rfl
  refine codeAny_mono ((fn _ kb (names nsm)).go callerA [] s T ⟨[.ref a], []⟩ [.ref a] [.ref a] _ rfl room env (bnd s (.ref a)) (.cons rfl .nil) pre) fun r s' h => ?_
  match r, h with
  | .error _, h => exact h.elim
  | .ok .next, h => exact h.elim
  | .ok .brk, h => exact h.elim
  | .ok .cont, h => exact h.elim
  | .ok (.ret u), ⟨v, H', os, bare, un, ok', rel, q⟩ =>
    have q' : v = .bl true := q
    subst q'
    have eu : u = Value.bool true := rel
    subst eu
    refine ⟨rfl, OldK.of_keep fun b z e => ?_, os, bare⟩
    cases q : T b with
    | none => exact un.keep b z e q (fun m => absurd (show b ∈ ([] : List Addr) from m) List.not_mem_nil) List.not_mem_nil
    | some u =>
      obtain ⟨rfl, _, rfl⟩ := scrH_some q
      have hz := (ok' b _ (un.frzs b _ _ q)).1
      rw [at_] at e
      cases e
      exact hz
end
/-- a law's walk -/
theorem walk_G {l : PySem.W.OpenLaw} {n k : Nat} {q : Program} {loose : List Str} {XP : (Str → Option Value) → Heap → Prop} {YP : World → Heap → Prop} {d : DefRec} {x : Str}
    (hn : l.most = some n) (hn2 : n ≤ sizeLine) (hdf : d.params.defaults = []) (hr : Room k callerA)
    (F : ∀ (w : World) (mg : Str → Option Value) (fa : Addr) (h : Heap), YP w h → h.Ns mainGlobals mg → mg d.name = some (.ref fa) →
      ∃ (K : PySem.W.Frag) (fd : FuncData) (G : List Int → DF), K.In h ∧ (∀ (s : Shared) (u : Value), BindsTo s fd ⟨[u], []⟩ [(x, u)]) ∧ (∀ ns : List Int, ns.length ≤ n → G ns [] fun r => r = .sh (.bool true)) ∧
        ∀ base : Heap, K.In base → base.Ns mainGlobals mg → FnG l.prog w K mg base k fa fd [x] (spS K G)) :
    PySem.W.WalkO q loose XP YP l.row.toRowW d [] (fun f vs => PySem.call f vs) := by
  refine Att.attach_call hn hdf fun w s₀ s₁ mg mb fa o pm cd doc a vs ns G Y ho hd hcd hmg hobj hints hlen hg => ?_
  obtain ⟨K, fd, G', kin, bnd, gg, fn⟩ := F w mg fa _ Y G.T.g hmg
  exact end_call kin G.T.g G.T.b G.T.builtins G.T.nolimit hg hobj hints (Nat.le_trans hlen hn2) hr fn bnd (gg ns hlen)
end Dv
namespace Dv
open PySem PySem.Spec L2
/-! ### words: one for each form of the text -/
theorem room_u {k : Nat} {A : Around} (r : Room k A) : A.units + 66 < cLine := by have := r.un; omega
theorem room_u' {k : Nat} {A : Around} (r : Room k A) : A.units + 65 < cLine := by have := r.un; omega
abbrev FunS (K : PySem.W.Frag) (x : Str) (st : Stmt) (f : Addr) (fd : FuncData) : Prop := FunD K x x (defArgs st) (defBody st) (defScope st) [] [] f fd
theorem fun_of {K : PySem.W.Frag} {x : Str} {st : Stmt} {f : Addr} {fd : FuncData} (F : FunS K x st f fd) : Fun K x x st f fd := by
  obtain ⟨oc, od, dV, kV, doc, pm, an, cdv, ct, osl, e, lk, hcd, hD, _⟩ := F.ex
  rcases hD with ⟨_, hd⟩ | ⟨n, _⟩
  · subst hd
    exact ⟨⟨oc, od, kV, doc, pm, an, cdv, ct, osl, e, lk, hcd⟩, F.kp⟩
  · exact absurd rfl n
theorem bindK_of {K : PySem.W.Frag} {x : Str} {st : Stmt} {f : Addr} {fd : FuncData} (F : Fun K x x st f fd) {ps ks : List Str} {pm : List Nat}
    (h : ∀ (kV doc pm' : Value) (an : Option Addr) (cdv ct : Value) (us : List Value), us.length = ks.length → bindArgs (PySem.W.fnOf x x (defArgs st) (defBody st) (defScope st) .none kV doc pm' an cdv ct) ⟨[], ks.zip us⟩ = pure (ps.zip (perm pm us))) : BindK fd ps ks pm := by
  obtain ⟨oc, od, kV, doc, pm', an, cdv, ct, osl, rfl, lk, hcd⟩ := F.ex
  exact fun s us hl => .of_eq (h kV doc pm' an cdv ct us hl)
theorem bindA_of {K : PySem.W.Frag} {x : Str} {st : Stmt} {f : Addr} {fd : FuncData} (F : Fun K x x st f fd) {ps : List Str}
    (h : ∀ (kV doc pm' : Value) (an : Option Addr) (cdv ct : Value) (us : List Value), us.length = ps.length → bindArgs (PySem.W.fnOf x x (defArgs st) (defBody st) (defScope st) .none kV doc pm' an cdv ct) ⟨us, []⟩ = pure (ps.zip us)) (s : Shared) (us : List Value) (hl : us.length = ps.length) : BindsTo s fd ⟨us, []⟩ (ps.zip us) := by
  obtain ⟨oc, od, kV, doc, pm', an, cdv, ct, osl, rfl, lk, hcd⟩ := F.ex
  exact .of_eq (h kV doc pm' an cdv ct us hl)
/-- a def's facts: where it stands, what its name says -/
structure DefF (K : PySem.W.Frag) (mg : Str → Option Value) (x : Str) (st : Stmt) where
  f : Addr
  fd : FuncData
  F : Fun K x x st f fd
  g : mg x = some (.ref f)
section
variable {X : Cx} {e a b c tg it elt v : Expr} {es : List Expr} {m ma mb mc : ME} {mr : MA} {t u : MT} {pos p p2 q pn : Pos} {x y : Str} {id T : String} {i j : Nat}
theorem w_v (i : Nat) (h : PE X e (tVar i) := by exact pv _) : DE X e (mVar i) := de_var h
theorem w_b {r : List V → Hp → VK → Prop} {f : List D → (Rv → Prop) → Prop} (hc : CallR X (.builtin id) r) (ho : OpDC X.K r f) (hv : bootBuiltins x = some (.builtin id)) (hm : X.mg x = none) (ha : DA X (e :: es) mr) (hg : Gl X x := by rfl) (hn : x ≠ "__name__" := by decide) (hdb : (x == ("__debug__" : Str)) = false := by decide)
    (he : starEach (e :: es) X.env = (false, eval e X.env) :: starEach es X.env := by rfl) (hpl : (backTo pos (starEach es X.env)).any (·.1) = false := by rfl) : DE X (.Call (.Name x p) (e :: es) [] pos) (mCB f mr) := de_cb (fun h => pe_callB hc hg hm hv h hn hdb he hpl) ho ha
theorem w_t {r : List V → Hp → VK → Prop} {f : List D → (Rv → Prop) → Prop} (hc : CallR X (.type T) r) (ho : OpDC X.K r f) (hv : bootBuiltins x = some (.type T)) (hm : X.mg x = none) (ha : DA X (e :: es) mr) (hg : Gl X x := by rfl) (hn : x ≠ "__name__" := by decide) (hdb : (x == ("__debug__" : Str)) = false := by decide)
    (he : starEach (e :: es) X.env = (false, eval e X.env) :: starEach es X.env := by rfl) (hpl : (backTo pos (starEach es X.env)).any (·.1) = false := by rfl) : DE X (.Call (.Name x p) (e :: es) [] pos) (mCB f mr) := de_cb (fun h => pe_callTy hc hg hm hv h hn hdb he hpl) ho ha
theorem w_isi (T : String) (hT : T ∈ tysK) (hx : bootBuiltins x = some (.type T)) (hi : bootBuiltins "isinstance" = some (.builtin "isinstance")) (z : X.mg "isinstance" = none) (zx : X.mg x = none) (ha : DE X a m) (hg : Gl X "isinstance" := by rfl) (hgx : Gl X x := by rfl) (hn : x ≠ "__name__" := by decide) (hdb : (x == ("__debug__" : Str)) = false := by decide)
    (h1 : starEach [a, .Name x pn] X.env = (false, eval a X.env) :: starEach [.Name x pn] X.env := by rfl) (h2 : starEach [.Name x pn] X.env = (false, eval (.Name x pn) X.env) :: starEach [] X.env := by rfl) (hpl : (backTo pos (starEach [.Name x pn] X.env)).any (·.1) = false := by rfl) :
    DE X (.Call (.Name "isinstance" p) [a, .Name x pn] [] pos) (mIsi T m) :=
  de_isi hT (pa_cons (pe_bltn hgx zx hx (v := .ty T) rfl hn hdb) pa_nil h2) (fun σ H Q q => q) (fun h => pe_callB call_isi hg z hi h (by decide) (by decide) h1 hpl) ha h1
/-- a constant of the module -/
theorem w_gi {i : Int} (h : ∃ t, X.mg x = some (.int i t)) (hg : Gl X x := by rfl) (hdb : (x == ("__debug__" : Str)) = false := by decide) : DE X (.Name x p) (mC (.int i)) := by
  obtain ⟨t, h⟩ := h
  exact de_c (pe_glob hg h (v := .int i) ⟨t, rfl⟩ hdb) fun _ => .int i
theorem w_gs {z : Str} (h : ∃ t, X.mg x = some (.str z t)) (hg : Gl X x := by rfl) (hdb : (x == ("__debug__" : Str)) = false := by decide) : DE X (.Name x p) (mC (.str z)) := by
  obtain ⟨t, h⟩ := h
  exact de_c (pe_glob hg h (v := .str z) ⟨t, rfl⟩ hdb) fun _ => .str z
/-- a call -/
theorem w_call {k j : Nat} {f : Addr} {fd : FuncData} {ps : List Str} {G : DF} (F : FnG X.prog X.w X.K X.mg X.base j f fd ps (spD X.K false G)) (hj : j ≤ k) (hA : X.A.guards = some []) (hr : Room k X.A) (hm : X.mg x = some (.ref f)) (hk : PySem.W.keepIn X.K (.ref f) = true) (hb : Binds X.K fd ps [])
    (ha : DA X (e :: es) mr) (hg : Gl X x := by rfl) (hdb : (x == ("__debug__" : Str)) = false := by decide) (he : starEach (e :: es) X.env = (false, eval e X.env) :: starEach es X.env := by rfl) (hpl : (backTo pos (starEach es X.env)).any (·.1) = false := by rfl) :
    DE X (.Call (.Name x p) (e :: es) [] pos) (mCall G mr) := de_call (fun h => pe_callG (F.mono hj) hA hr hg hm hk hb h hdb he hpl) ha
theorem w_callS {k j i : Nat} {f : Addr} {fd : FuncData} {ps : List Str} {G : List Int → DF} (F : FnG X.prog X.w X.K X.mg X.base j f fd ps (spS X.K G)) (hj : j ≤ k) (hA : X.A.guards = some []) (hr : Room k X.A) (hm : X.mg x = some (.ref f)) (hk : PySem.W.keepIn X.K (.ref f) = true) (hb : Binds X.K fd ps [])
    (hp : PE X e (tVar i)) (ha : DA X es mr) (hg : Gl X x := by rfl) (hdb : (x == ("__debug__" : Str)) = false := by decide) (he : starEach (e :: es) X.env = (false, eval e X.env) :: starEach es X.env := by rfl) (hpl : (backTo pos (starEach es X.env)).any (·.1) = false := by rfl) :
    DE X (.Call (.Name x p) (e :: es) [] pos) (mCallS i G mr) := de_callS (fun h => pe_callG (F.mono hj) hA hr hg hm hk hb (pa_cons hp h he) hdb he hpl) ha
theorem w_callP {k j i : Nat} {f : Addr} {fd : FuncData} {ps : List Str} {G : DF} (F : FnG X.prog X.w X.K X.mg X.base j f fd ps (spD X.K true G)) (hj : j ≤ k) (hA : X.A.guards = some []) (hr : Room k X.A) (hm : X.mg x = some (.ref f)) (hk : PySem.W.keepIn X.K (.ref f) = true) (hb : Binds X.K fd ps [])
    (hp : PE X e (tVar i)) (ha : DA X es mr) (hg : Gl X x := by rfl) (hdb : (x == ("__debug__" : Str)) = false := by decide) (he : starEach (e :: es) X.env = (false, eval e X.env) :: starEach es X.env := by rfl) (hpl : (backTo pos (starEach es X.env)).any (·.1) = false := by rfl) :
    DE X (.Call (.Name x p) (e :: es) [] pos) (mCallP i G mr) := de_callP (fun h => pe_callG (F.mono hj) hA hr hg hm hk hb (pa_cons hp h he) hdb he hpl) ha
theorem w_callPO {k j i : Nat} {f : Addr} {fd : FuncData} {ps : List Str} {G : DF} (F : FnG X.prog X.w X.K X.mg X.base j f fd ps (spD X.K true G)) (hj : j ≤ k) (hA : X.A.guards = some []) (hr : Room k X.A) (hm : X.mg x = some (.ref f)) (hk : PySem.W.keepIn X.K (.ref f) = true) (hb : Binds X.K fd ps [])
    (hp : PE X e (tVar i)) (ha : DA X es mr) (hg : Gl X x := by rfl) (hdb : (x == ("__debug__" : Str)) = false := by decide) (he : starEach (e :: es) X.env = (false, eval e X.env) :: starEach es X.env := by rfl) (hpl : (backTo pos (starEach es X.env)).any (·.1) = false := by rfl) :
    DE X (.Call (.Name x p) (e :: es) [] pos) (mCallPO i G mr) := de_callPO (fun h => pe_callG (F.mono hj) hA hr hg hm hk hb (pa_cons hp h he) hdb he hpl) ha
theorem w_callPF {k j : Nat} {f : Addr} {fd : FuncData} {ps : List Str} {G : DF} (F : FnG X.prog X.w X.K X.mg X.base j f fd ps (spD X.K true G)) (hj : j ≤ k) (hA : X.A.guards = some []) (hr : Room k X.A) (hm : X.mg x = some (.ref f)) (hk : PySem.W.keepIn X.K (.ref f) = true) (hb : Binds X.K fd ps [])
    (hp : DE X e m) (ha : DA X es mr) (hg : Gl X x := by rfl) (hdb : (x == ("__debug__" : Str)) = false := by decide) (he : starEach (e :: es) X.env = (false, eval e X.env) :: starEach es X.env := by rfl) (hpl : (backTo pos (starEach es X.env)).any (·.1) = false := by rfl) :
    DE X (.Call (.Name x p) (e :: es) [] pos) (mCallPF G m mr) := de_callPF (fun h1 h => pe_callG (F.mono hj) hA hr hg hm hk hb (pa_cons h1 h he) hdb he hpl) hp ha
def mCallK (n : Nat) (pm : List Nat) (G : DF) (m : MA) : ME := fun ρ P => m ρ fun rs ρ' => rs.length = n ∧ ∃ ds, datAll ρ' rs = some ds ∧ G (perm pm ds) fun r => isBw r = false ∧ (rs.any isBw = true → lfR r = true) ∧ P r ρ'
theorem w_callK {k j : Nat} {f : Addr} {fd : FuncData} {ps ks : List Str} {pm : List Nat} {G : DF} {kws : List Keyword} (F : FnG X.prog X.w X.K X.mg X.base j f fd ps (spD X.K false G)) (hj : j ≤ k) (hA : X.A.guards = some []) (hr : Room k X.A) (hm : X.mg x = some (.ref f)) (hk : PySem.W.keepIn X.K (.ref f) = true) (hb : BindK fd ps ks pm)
    (ha : ∀ B, PK X kws (rdA X.K B mr)) (hg : Gl X x := by rfl) (hall : (backToKw pos (keywordEach kws X.env)).all (·.1.isSome) = true := by rfl) (hks : (backToKw pos (keywordEach kws X.env)).filterMap (·.1) = ks := by rfl)
    (hdb : (x == ("__debug__" : Str)) = false := by decide) (hpl : ((backTo pos (starEach [] X.env)).any (·.1) || (backToKw pos (keywordEach kws X.env)).any (·.1.isNone)) = false := by rfl) :
    DE X (.Call (.Name x p) [] kws pos) (mCallK ks.length pm G mr) := de_callK (fun h => pe_callGK (F.mono hj) hA hr hg hm hk hb h hall hks hdb hpl) ha
/-- what pe_bm asks of the text -/
structure M1 (X : Cx) (o a : Expr) (name : Str) (ap cp : Pos) : Prop where
  h1 : attributeBase o name X.env (eval o X.env) = eval o X.env
  h2 : ((backTo cp (starEach [a] X.env)).all (fun x => !x.1) && (backToKw cp (keywordEach [] X.env)).all (fun x => x.1.isSome) && decide ([a].length + ([] : List Keyword).length + (if ([] : List Keyword).isEmpty then 0 else 1) < 30)) = true
  h3 : (ap.endLine == cp.line) = true
  h4 : starEach [a] X.env = (false, eval a X.env) :: starEach [] X.env
  h5 : (backTo cp (starEach [] X.env)).any (·.1) = false
theorem pe_bm1 {o : Expr} {te to : TE} {name : Str} {ap : Pos} {r : V → List V → Hp → VK → Prop} (S : M1 X o a name ap pos) (pa : PySem.PlainAttrs T) (slot : PySem.Slot T name id) (hty : typeOf (.builtin id) = pure (.type "method_descriptor")) (hm : MtR X id r) (ho : PE X o to) (ha : PE X a te) :
    PE X (.Call (.Attribute o name ap) [a] [] pos) (tBM X.K T r to (one te)) := pe_bm pa slot hty hm ho (pa_cons ha pa_nil S.h4) S.h1 S.h2 S.h3 S.h4 S.h5
theorem w_app (i : Nat) {ap : Pos} (ha : DE X a m) (S : M1 X e a "append" ap pos := by exact ⟨by rfl, by rfl, by rfl, by rfl, by rfl⟩) (hp : PE X e (tVar i) := by exact pv _) : DE X (.Call (.Attribute e "append" ap) [a] [] pos) (mApp i m) :=
  de_app (fun h => pe_bm1 S PySem.F.plainAttrs_list PySem.F.slot_list_append PySem.F.type_list_append mt_append hp h) ha
theorem w_ext (i : Nat) {ap : Pos} (ha : DE X a m) (S : M1 X e a "extend" ap pos := by exact ⟨by rfl, by rfl, by rfl, by rfl, by rfl⟩) (hp : PE X e (tVar i) := by exact pv _) : DE X (.Call (.Attribute e "extend" ap) [a] [] pos) (mExt i m) :=
  de_ext (fun h => pe_bm1 S PySem.F.plainAttrs_list PySem.F.slot_list_extend PySem.F.type_list_extend mt_extend hp h) ha
theorem w_popAt (i : Nat) {ap : Pos} (ha : DE X a m) (S : M1 X e a "pop" ap pos := by exact ⟨by rfl, by rfl, by rfl, by rfl, by rfl⟩) (hp : PE X e (tVar i) := by exact pv _) : DE X (.Call (.Attribute e "pop" ap) [a] [] pos) (mPopAt i m) :=
  de_popAt (fun h => pe_bm1 S PySem.F.plainAttrs_list PySem.F.slot_list_pop PySem.F.type_list_pop mt_popAt hp h) ha
theorem w_appLL (i : Nat) {ap sp : Pos} {ix : Expr} {f : En → Option D} (hx : DE X ix m) (ha : DPe X a f) (hs : PlainIx ix) (S : M1 X (.Subscript e ix sp) a "append" ap pos := by exact ⟨by rfl, by rfl, by rfl, by rfl, by rfl⟩) (hp : PE X e (tVar i) := by exact pv _) : DE X (.Call (.Attribute (.Subscript e ix sp) "append" ap) [a] [] pos) (mAppLL i m f) :=
  de_appLL (fun h k => pe_bm1 S PySem.F.plainAttrs_list PySem.F.slot_list_append PySem.F.type_list_append mt_append (pe_ix ix_seq hp h hs) k) hx ha
theorem w_idxT {ap : Pos} (ha : DE X e ma) (hb : DE X a mb) (S : M1 X e a "index" ap pos := by exact ⟨by rfl, by rfl, by rfl, by rfl, by rfl⟩) : DE X (.Call (.Attribute e "index" ap) [a] [] pos) (mIdxT ma mb) :=
  de_idxT (fun h k => pe_tm PySem.F.slot_tuple_index PySem.F.type_tuple_index mt_tupIx h (pa_cons k pa_nil S.h4) S.h1 S.h2 S.h3 S.h4 S.h5) ha hb
theorem w_idxL {ap : Pos} (ha : DE X e ma) (hb : DE X a mb) (S : M1 X e a "index" ap pos := by exact ⟨by rfl, by rfl, by rfl, by rfl, by rfl⟩) : DE X (.Call (.Attribute e "index" ap) [a] [] pos) (mIdxL ma mb) :=
  de_idxL (fun h k => pe_bm1 S PySem.F.plainAttrs_list PySem.F.slot_list_index PySem.F.type_list_index mt_index h k) ha hb
theorem w_lenSet (hm : X.mg "len" = none) (hm2 : X.mg "set" = none) (ha : DE X a ma) (hc : X.calm = true := by rfl) (hg : Gl X "len" := by rfl) (hg2 : Gl X "set" := by rfl) (na : starEach [a] X.env = (false, eval a X.env) :: starEach [] X.env := by rfl) :
    DE X (.Call (.Name "len" p) [.Call (.Name "set" p2) [a] [] q] [] pos) (mCB fLenSet (mCons ma mNil)) := de_lenSet hc hg hm hg2 hm2 ha na
theorem w_ix (ha : DE X a ma) (hb : DE X b mb) (hs : PlainIx b := by exact fun _ _ => rfl) : DE X (.Subscript a b pos) (mBin fIx ma mb) := de_ix ha hb hs
theorem w_pot (i j : Nat) {k : Nat} {p3 : Pos} (hp : PE X e (tVar i) := by exact pv _) : DE X (.Subscript e (.Constant (.int (j : Nat)) k p3) pos) (mPotIx i j) := de_pot (pe_ix ix_seq hp pe_int (fun _ _ => rfl))
theorem w_scrIx (i : Nat) (hb : DE X b mb) (hp : PE X e (tVar i) := by exact pv _) (hs : PlainIx b := by exact fun _ _ => rfl) : DE X (.Subscript e b pos) (mScrIx i mb) := de_scrIx (fun h => pe_ix ix_seq hp h hs) hb
theorem w_scrLen (i : Nat) (hm : X.mg "len" = none) (hp : PE X e (tVar i) := by exact pv _) (hg : Gl X "len" := by rfl) (he : starEach [e] X.env = (false, eval e X.env) :: starEach [] X.env := by rfl) (hpl : (backTo pos (starEach [] X.env)).any (·.1) = false := by rfl) :
    DE X (.Call (.Name "len" p) [e] [] pos) (mScrLen i) := de_scrLen (pe_callB call_len hg hm PySem.boot_len (pa_cons hp pa_nil he) (by decide) (by decide) he hpl)
theorem w_in (hu : X.A.units + 65 < cLine) (ha : DE X a ma) (hb : DE X b mb) (hm : behindInMarks .In b = false := by rfl) : DE X (.Compare a [.In] [b] pos) (mBin (fIn false) ma mb) := de_in hu ha hb hm
theorem w_notIn (hu : X.A.units + 65 < cLine) (ha : DE X a ma) (hb : DE X b mb) (hm : behindInMarks .NotIn b = false := by rfl) : DE X (.Compare a [.NotIn] [b] pos) (mBin (fIn true) ma mb) := de_notIn hu ha hb hm
/-! tests -/
theorem wt_lt (ha : DE X a ma) (hb : DE X b mb) : DT X (.Compare a [.Lt] [b] pos) (mTest (mBin (fCmp gLt) ma mb)) := dt_bin (fun h k => pt_cmpR op_lt h k (nomark _)) d_cmp ha hb
theorem wt_le (ha : DE X a ma) (hb : DE X b mb) : DT X (.Compare a [.LtE] [b] pos) (mTest (mBin (fCmp gLe) ma mb)) := dt_bin (fun h k => pt_cmpR op_le h k (nomark _)) d_cmp ha hb
theorem wt_gt (ha : DE X a ma) (hb : DE X b mb) : DT X (.Compare a [.Gt] [b] pos) (mTest (mBin (fCmp gGt) ma mb)) := dt_bin (fun h k => pt_cmpR op_gt h k (nomark _)) d_cmp ha hb
theorem wt_ge (ha : DE X a ma) (hb : DE X b mb) : DT X (.Compare a [.GtE] [b] pos) (mTest (mBin (fCmp gGe) ma mb)) := dt_bin (fun h k => pt_cmpR op_ge h k (nomark _)) d_cmp ha hb
theorem wt_eq (hu : X.A.units + 65 < cLine) (ha : DE X a ma) (hb : DE X b mb) : DT X (.Compare a [.Eq] [b] pos) (mTest (mBin (fEq false) ma mb)) := dt_bin (fun h k => pt_cmpR (op_eqA (by omega)) h k (nomark _)) d_eq ha hb
theorem wt_ne (hu : X.A.units + 65 < cLine) (ha : DE X a ma) (hb : DE X b mb) : DT X (.Compare a [.NotEq] [b] pos) (mTest (mBin (fEq true) ma mb)) := dt_bin (fun h k => pt_cmpR (op_neA (by omega)) h k (nomark _)) d_ne ha hb
theorem wt_isN (ha : DE X a ma) (hb : DE X b mb) : DT X (.Compare a [.Is] [b] pos) (mTest (mBin (fIsN false) ma mb)) := dt_bin (fun h k => pt_cmpR op_isN h k (nomark _)) d_isN ha hb
theorem wt_notN (ha : DE X a ma) (hb : DE X b mb) : DT X (.Compare a [.IsNot] [b] pos) (mTest (mBin (fIsN true) ma mb)) := dt_bin (fun h k => pt_cmpR op_notN h k (nomark _)) d_notN ha hb
theorem wt_in (hu : X.A.units + 65 < cLine) (ha : DE X a ma) (hb : DE X b mb) (hm : behindInMarks .In b = false := by rfl) : DT X (.Compare a [.In] [b] pos) (mTest (mBin (fIn false) ma mb)) := dt_bin (fun h k => pt_cmpR (op_inA hu) h k hm) d_in ha hb
theorem wt_notIn (hu : X.A.units + 65 < cLine) (ha : DE X a ma) (hb : DE X b mb) (hm : behindInMarks .NotIn b = false := by rfl) : DT X (.Compare a [.NotIn] [b] pos) (mTest (mBin (fIn true) ma mb)) := dt_bin (fun h k => pt_cmpR (op_notInA hu) h k hm) d_notIn ha hb
theorem wt (ha : DE X e m) (he : ∀ whole, isTrue e X.env whole = (do let v ← whole; standAt e.pos; holding [v] (truthy v)) := by intro _; rfl) : DT X e (mTru m) := dt_tru he ha
/-! statements -/
theorem w_set (i : Nat) (nd : X.N.Nodup) (ha : DE X e m) (hi : X.N[i]? = some x := by rfl) (hx : Loc X.env.scope x := by first | exact Or.inl rfl | exact Or.inr rfl) (hs : swapsWith e (some (.Name x p)) pos.line X.env = pure false := by rfl)
    (hf : X.fn x = true ∨ X.env.scope.names.lookup x = some .local := by first | exact Or.inl rfl | exact Or.inr rfl) : DS X (.Assign [.Name x p] e pos) (mSet i m) := ds_set (fun h => ps_set nd hi hx h hs hf) ha
theorem w_par2 (i j : Nat) {px py pt p2 : Pos} {kt k2 : Nat} (nd : X.N.Nodup) (hij : i ≠ j) (ha : DH X [a, b] mr) (hc : X.calm = true := by rfl) (hi : X.N[i]? = some x := by rfl) (hj : X.N[j]? = some y := by rfl) (hx : X.env.scope.names.lookup x = some .local := by rfl) (hy : X.env.scope.names.lookup y = some .local := by rfl)
    (hw : swappedStores [.Tuple [.Name x px, .Name y py] kt pt] (.Tuple [a, b] k2 p2) X.env = pure (some [x, y]) := by rfl) (hs : swapsWithSole [.Tuple [.Name x px, .Name y py] kt pt] (.Tuple [a, b] k2 p2) pos.line X.env = pure false := by rfl) :
    DS X (.Assign [.Tuple [.Name x px, .Name y py] kt pt] (.Tuple [a, b] k2 p2) pos) (mSetN [i, j] mr) := ds_par2 (fun h => ps_par hc nd hi hj hij hx hy h hw hs) ha
theorem w_par3 (i j l : Nat) {z : Str} {px py pz pt p2 : Pos} {kt k2 : Nat} (nd : X.N.Nodup) (hij : i ≠ j) (hil : i ≠ l) (hjl : j ≠ l) (ha : DH X [a, b, c] mr) (hc : X.calm = true := by rfl) (hi : X.N[i]? = some x := by rfl) (hj : X.N[j]? = some y := by rfl) (hl : X.N[l]? = some z := by rfl)
    (hx : X.env.scope.names.lookup x = some .local := by rfl) (hy : X.env.scope.names.lookup y = some .local := by rfl) (hz : X.env.scope.names.lookup z = some .local := by rfl)
    (hw : swappedStores [.Tuple [.Name x px, .Name y py, .Name z pz] kt pt] (.Tuple [a, b, c] k2 p2) X.env = pure (some [x, y, z]) := by rfl) (hs : swapsWithSole [.Tuple [.Name x px, .Name y py, .Name z pz] kt pt] (.Tuple [a, b, c] k2 p2) pos.line X.env = pure false := by rfl) :
    DS X (.Assign [.Tuple [.Name x px, .Name y py, .Name z pz] kt pt] (.Tuple [a, b, c] k2 p2) pos) (mSetN [i, j, l] mr) := ds_par3 (fun h => ps_par3 hc nd hi hj hl hij hil hjl hx hy hz h hw hs) ha
/-- names in a tuple target -/
structure GN (X : Cx) (es : List Expr) (is : List Nat) : Prop where
  g : PGs X es (gNames is)
theorem gn_nil : GN X [] [] := ⟨pgs_nil⟩
theorem gn_cons (i : Nat) {is : List Nat} (nd : X.N.Nodup) (h : GN X es is) (hi : X.N[i]? = some x := by rfl) (hx : Loc X.env.scope x := by first | exact Or.inl rfl | exact Or.inr rfl) (hf : X.fn x = true ∨ X.env.scope.names.lookup x = some .local := by first | exact Or.inl rfl | exact Or.inr rfl)
    (hs : (assignEach (.Name x p :: es) X.env).map (·.2) = assign (.Name x p) X.env :: (assignEach es X.env).map (·.2) := by rfl) : GN X (.Name x p :: es) (i :: is) := ⟨pgs_cons (pg_name nd hi hx hf) h.g hs⟩
theorem w_parT {is : List Nat} {ts : List Expr} {pt p2 : Pos} {kt k2 : Nat} (g : GN X ts is) (hz : is.length ≤ 100000) (ha : DH X es mr) (hc : X.calm = true := by rfl) (hn : (assignEach ts X.env).length = is.length := by rfl) (hst : (assignEach ts X.env).findIdx? (·.1) = none := by rfl)
    (hs : swapsWithSole [.Tuple ts kt pt] (.Tuple es k2 p2) pos.line X.env = pure false := by rfl) (hw : swappedStores [.Tuple ts kt pt] (.Tuple es k2 p2) X.env = pure none := by rfl) (h1 : (assignEach [.Tuple ts kt pt] X.env).map (·.2) = [assign (.Tuple ts kt pt) X.env] := by rfl) :
    DS X (.Assign [.Tuple ts kt pt] (.Tuple es k2 p2) pos) (mSetN is mr) := ds_parT (fun h => ps_asg (pe_tup h) (pg_tup hc g.g hn hst) hs hw h1) hz ha
theorem w_asg {g : MG} (ha : DE X e m) (hg : DP X tg g) (hs : swapsWithSole [tg] e pos.line X.env = pure false := by rfl) (hw : swappedStores [tg] e X.env = pure none := by rfl) (h1 : (assignEach [tg] X.env).map (·.2) = [assign tg X.env] := by rfl) :
    DS X (.Assign [tg] e pos) (mAsg m g) := ds_asg (fun h k => ps_asg h k hs hw h1) ha hg
theorem wp_name (i : Nat) (nd : X.N.Nodup) (hi : X.N[i]? = some x := by rfl) (hx : Loc X.env.scope x := by first | exact Or.inl rfl | exact Or.inr rfl) (hf : X.fn x = true ∨ X.env.scope.names.lookup x = some .local := by first | exact Or.inl rfl | exact Or.inr rfl) : DP X (.Name x p) (gSetN i) := dp_name (pg_name nd hi hx hf)
theorem wp_put (i : Nat) (hi : DE X b m) (hp : PE X e (tVar i) := by exact pv _)
    (ha : ∀ v, assign (.Subscript e b pos) X.env v = (do let ov ← holding [v] (eval e X.env); let iv ← holding [v, ov] (eval b X.env); standAt pos; holding [v, ov, iv] (setItem ov iv v); release [v, ov, iv] []) := by intro _; rfl) : DP X (.Subscript e b pos) (gPut i m) := dp_put (fun h => pg_sub hp h set_list ha) hi
theorem wp_pot (i j : Nat) {k : Nat} {p3 : Pos} (hp : PE X e (tVar i) := by exact pv _)
    (ha : ∀ v, assign (.Subscript e (.Constant (.int (j : Nat)) k p3) pos) X.env v = (do let ov ← holding [v] (eval e X.env); let iv ← holding [v, ov] (eval (.Constant (.int (j : Nat)) k p3) X.env); standAt pos; holding [v, ov, iv] (setItem ov iv v); release [v, ov, iv] []) := by intro _; rfl) :
    DP X (.Subscript e (.Constant (.int (j : Nat)) k p3) pos) (gPot i j) := dp_pot (pg_sub hp pe_int set_list ha)
theorem wp_tup {ts : List Expr} {n kt : Nat} {gs : MGs} (h : DPs X ts gs) (hc : X.calm = true := by rfl) (hn : (assignEach ts X.env).length = n := by rfl) (hst : (assignEach ts X.env).findIdx? (·.1) = none := by rfl) : DP X (.Tuple ts kt pos) (gTupS gs n) := dp_tup (fun h => pg_tup hc h hn hst) h
theorem w_setLL (i : Nat) {p2 : Pos} (nd : X.N.Nodup) (ha : DH X es mr) (hi : X.N[i]? = some x := by rfl) (hx : Loc X.env.scope x := by first | exact Or.inl rfl | exact Or.inr rfl) (hf : X.fn x = true ∨ X.env.scope.names.lookup x = some .local := by first | exact Or.inl rfl | exact Or.inr rfl)
    (hs : swapsWithSole [.Name x p] (.List es p2) pos.line X.env = pure false := by rfl) (hw : swappedStores [.Name x p] (.List es p2) X.env = pure none := by rfl) (h1 : (assignEach [.Name x p] X.env).map (·.2) = [assign (.Name x p) X.env] := by rfl) :
    DS X (.Assign [.Name x p] (.List es p2) pos) (mSetLL i mr) := ds_setLL (fun h => ps_asg (pe_lst h) (pg_name nd hi hx hf) hs hw h1) ha
theorem w_reprLL (i : Nat) (hA : X.A.guards = some []) (hu : X.A.units + 66 < cLine) (hm : X.mg "repr" = none) (hp : PE X e (tVar i) := by exact pv _) (hg : Gl X "repr" := by rfl) (he : starEach [e] X.env = (false, eval e X.env) :: starEach [] X.env := by rfl) (hpl : (backTo pos (starEach [] X.env)).any (·.1) = false := by rfl) :
    DE X (.Call (.Name "repr" p) [e] [] pos) (mReprLL i) := de_reprLL (pe_callB (call_reprA hA hu) hg hm PyProof.Rows.boot_repr (pa_cons hp pa_nil he) (by decide) (by decide) he hpl)
/-! walks -/
theorem wi_rng1 (hm : X.mg "range" = none) (ha : DA X [a] mr) (hg : Gl X "range" := by rfl) (hs : starEach [a] X.env = [(false, eval a X.env)] := by rfl) : DI X tg (.Call (.Name "range" p) [a] [] pos) false (mRng1 mr) := di_rng1 (fun h => pi_range1 hg hm h hs) ha
theorem wi_rng2 (hm : X.mg "range" = none) (ha : DA X [a, b] mr) (hg : Gl X "range" := by rfl) (hs : starEach [a, b] X.env = [(false, eval a X.env), (false, eval b X.env)] := by rfl) (hs2 : starEach [b] X.env = [(false, eval b X.env)] := by rfl) : DI X tg (.Call (.Name "range" p) [a, b] [] pos) false (mRng2 mr) := di_rng2 (fun h => pi_range2 hg hm h hs hs2) ha
/-- a list or a tuple, as the value says -/
def iAny (K : PySem.W.Frag) (te : TE) : TI := fun σ H R => te σ H fun x J => ∃ a, x = .ref a ∧ ((∃ xs, SqL K J a xs) ∧ R (Itl K a) J ∨ (∃ xs, SqT K J a xs) ∧ R (Itt K a) J)
theorem pi_any {te : TE} (h : PE X e te) : PI X tg e (iAny X.K te) := ⟨fun pins s σ H R I w => thn (h.run pins s σ H _ I w) fun v s' ⟨x, J, I', rel, a, ex, q⟩ => by
  subst ex
  cases rel
  have kept := fun (o : Obj) => I'.kept (t' := s'.toks) (h' := s'.heap.push o) fun b u eb => Heap.get?_push_of_some _ eb
  have fresh : ∀ b ∈ [s'.heap.objs.size], FpOk X pins J b := fun b m => by
    rw [List.mem_singleton.mp m]
    exact I'.fpOk (Nat.le_refl _) (I'.hok.fresh (Nat.le_refl _))
  rcases q with ⟨⟨xs, sq⟩, q⟩ | ⟨⟨xs, sq⟩, q⟩
  · obtain ⟨us, _, pl, _⟩ := I'.list sq
    exact wpAny_pyIter_list pl.isList ⟨_, [s'.heap.objs.size], _, _, J, rfl, kept _, turn_list a _, ⟨_, Heap.get?_push_size _ rfl, rfl, rfl⟩, fresh, q⟩
  · obtain ⟨us, _, pl, _⟩ := I'.tuple sq
    exact wpAny_pyIter_tuple (show s'.heap.IsTuple a us.toArray from pl) ⟨_, [s'.heap.objs.size], _, _, J, rfl, kept _, turn_tuple a _, ⟨_, Heap.get?_push_size _ rfl, rfl, rfl⟩, fresh, q⟩⟩
/-- what is walked: a list, a tuple -/
def wIt (r : Rv) (k : List D → Prop) : Prop := (∃ xs, r.shd = some (.list xs) ∧ k xs) ∨ ∃ xs, r = .sh (.tuple xs) ∧ k xs
def mItA (m : ME) : MI := fun ρ P => m ρ fun r ρ' => wIt r fun xs => P xs ρ'
theorem wi (h : DE X e m) : DI X tg e false (mItA m) := ⟨fun B => pi_imp (pi_any (h.run B)) fun σ H R ⟨U, W, ρ, P, S, p, q⟩ => ⟨U, W, ρ, _, S, p, fun r ρ' v H' p' R' a' k kh => by
  rcases p' with ⟨xs, e, p'⟩ | ⟨xs, e, p'⟩
  · have k2 := k.shared S e
    cases k2 with
    | lst z t =>
      obtain ⟨n, z⟩ := cut_some z
      exact ⟨_, rfl, .inl ⟨⟨_, SqL.of z⟩, q _ _ _ _ p' R' a' (itl_ok n z t)⟩⟩
  · subst e
    have k2 : Dq X.K (cut U H') v (.tuple xs) := k
    cases k2 with
    | tup z t => exact ⟨_, rfl, .inr ⟨⟨_, (z.mono cut_le).sq⟩, q _ _ _ _ p' R' a' (itt_ok z t)⟩⟩⟩⟩
theorem wi_scr (i : Nat) (h : PE X e (tVar i) := by exact pv _) : DI X tg e false (mItS i) := di_scr h
theorem wg (i : Nat) (nd : X.N.Nodup) (hi : X.N[i]? = some x := by rfl) (hx : Loc X.env.scope x := by first | exact Or.inl rfl | exact Or.inr rfl) (hf : X.fn x = true ∨ X.env.scope.names.lookup x = some .local := by first | exact Or.inl rfl | exact Or.inr rfl) : DG X (.Name x p) false [i] (gSetN i) := dg_name (pg_name nd hi hx hf)
theorem wgT {w : Bool} {is : List Nat} {ts : List Expr} {kt : Nat} (g : GN X ts is) (hc : X.calm = true := by rfl) (hn : (assignEach ts X.env).length = is.length := by rfl) (hst : (assignEach ts X.env).findIdx? (·.1) = none := by rfl) : DG X (.Tuple ts kt pos) w is (gSetT is) := dg_tup (pg_tup hc g.g hn hst)
theorem w_for {w : Bool} {vs : List Nat} {mi : MI} {g : MG} {s : MS} {body : List Stmt} (hi : DI X tg it w mi) (hg : DG X tg w vs g) (hb : DSs X body s) (hp : PassesOwn (model X.prog X.w) X.A X.env X.xe := by exact PassesOwn.never) (hc : X.calm = true := by rfl)
    (hs : ∀ x, foldedSetIterable it X.env x = pure x := by intro _; rfl) : DS X (.For tg it body [] pos) (mFor mi g s) := ds_for hp hc hi hg hb hs
theorem w_while {s : MS} {body : List Stmt} (hc : DT X c t) (hb : DSs X body s) (hp : PassesOwn (model X.prog X.w) X.A X.env X.xe := by exact PassesOwn.never) : DS X (.While c body [] pos) (mWhile t s) := ds_while hp hc hb
/-! comprehensions -/
theorem w_lc (own : List (Str × Nat)) {ifs : List Expr} {scope : Scope} {w : Bool} {ws : List Nat} {mi : MI} {g : MG} {tt : MT} {te : ME} (nd : X.N.Nodup) (hi : DI X tg it w mi) (hg : Blk X scope fun Y => DG Y tg w ws g) (ht : Blk X scope fun Y => DTs Y ifs tt) (he : Blk X scope fun Y => DE Y elt te)
    (ok : blkC X.N X.env.scope scope own = true := by kernel_rfl) (sub : ∀ i ∈ ws, i ∈ own.map (·.2) := by decide) (hc : X.calm = true := by rfl) (hs : ∀ x, foldedSetIterable it X.env x = pure x := by intro _; rfl) : DE X (.ListComp elt [⟨tg, it, ifs, 0⟩] scope pos) (mLc mi g tt te (own.map (·.2))) :=
  de_lc hc nd hi (blkOk_by ok) hg ht he sub hs
theorem w_setLc (i : Nat) (own : List (Str × Nat)) {ifs : List Expr} {scope : Scope} {w : Bool} {ws : List Nat} {mi : MI} {g : MG} {tt : MT} {te : ME} (nd : X.N.Nodup) (hi : DI X tg it w mi) (hg : Blk X scope fun Y => DG Y tg w ws g) (ht : Blk X scope fun Y => DTs Y ifs tt) (he : Blk X scope fun Y => DE Y elt te)
    (hy : X.N[i]? = some y := by rfl) (hyl : X.env.scope.names.lookup y = some .local := by rfl) (hsw : swapsWith (.ListComp elt [⟨tg, it, ifs, 0⟩] scope p2) (some (.Name y p)) pos.line X.env = pure true := by exact sw_true rfl rfl rfl (by decide +kernel))
    (ok : blkC X.N X.env.scope scope own = true := by kernel_rfl) (sub : ∀ i ∈ ws, i ∈ own.map (·.2) := by decide) (hc : X.calm = true := by rfl) (hs : ∀ x, foldedSetIterable it X.env x = pure x := by intro _; rfl) : DS X (.Assign [.Name y p] (.ListComp elt [⟨tg, it, ifs, 0⟩] scope p2) pos) (mSet i (mLc mi g tt te (own.map (·.2)))) :=
  ds_setLc hc nd hy hyl hsw hi (blkOk_by ok) hg ht he sub hs
end
end Dv
namespace Dv
open PySem PySem.Spec L2
/-! ### list(range(n)), tuple(range(n)) -/
def mRgL1 (m : ME) : ME := fun ρ P => m ρ fun r ρ' => ∃ j, r = .sh (.int j) ∧ (-100000 ≤ j ∧ j ≤ 100000) ∧ P (.fr (rngD 0 j.toNat)) ρ'
def mRgL2 (ma mb : ME) : ME := fun ρ P => ma ρ fun r1 ρ1 => mb ρ1 fun r ρ' => ∃ i j, r1 = .sh (.int i) ∧ r = .sh (.int j) ∧ (-10000 ≤ i ∧ i ≤ 10000 ∧ -10000 ≤ j ∧ j ≤ 10000) ∧ P (.fr (rngD i (j - i).toNat)) ρ'
def mRgT1 (m : ME) : ME := fun ρ P => m ρ fun r ρ' => ∃ j, r = .sh (.int j) ∧ (-100000 ≤ j ∧ j ≤ 100000) ∧ P (.sh (.tuple (rngD 0 j.toNat))) ρ'
theorem rgV_dq {K : PySem.W.Frag} {H : Hp} (a b : Int) : DqAll K H (rgV a b) (rngD a (b - a).toNat) := by
  have key : ∀ (l : List Nat), DqAll K H (l.map fun (i : Nat) => V.int (a + (i : Int))) (l.map fun (i : Nat) => PyData.int (a + (i : Int))) := fun l => by
    induction l with
    | nil => exact .nil
    | cons x l ih => exact .cons (.int _) ih
  exact key _
section
variable {X : Cx} {e a b : Expr} {m ma mb : ME} {p pos p2 pos2 : Pos} {x : Str} {i : Nat}
theorem w_listRg (hm : X.mg "list" = none) (hm2 : X.mg "range" = none) (ha : DE X a m) (hc : X.calm = true := by rfl) (hg : Gl X "list" := by rfl) (hg2 : Gl X "range" := by rfl) (na : starEach [a] X.env = (false, eval a X.env) :: starEach [] X.env := by rfl)
    (nb : starEach [.Call (.Name "range" p2) [a] [] pos2] X.env = (false, eval (.Call (.Name "range" p2) [a] [] pos2) X.env) :: starEach [] X.env := by rfl) : DE X (.Call (.Name "list" p) [.Call (.Name "range" p2) [a] [] pos2] [] pos) (mRgL1 m) :=
  ⟨fun B => pe_imp (pe_listRg hc hg hm (prg_1 hg2 hm2 (ha.run B) na) nb) fun σ H Q ⟨U, W, ρ, P, R, p, q⟩ => ⟨U, W, ρ, _, R, p, fun r ρ' v H' p' R' a' k _ => by
    obtain ⟨j, rfl, ⟨h1, h2⟩, p'⟩ := p'
    have ev : v = .int j := by cases k; rfl
    subst ev
    refine ⟨j, rfl, ⟨by omega, by omega, by omega, by omega, by omega⟩, fun o n => ?_⟩
    refine rv_lst (K := X.K) (U := U) (σ := σ) (P := fun r => P r ρ') R'.live ?_ (rgV_dq 0 j) (fun rv w H2 p2 sm k2 _ => ?_) o n
    · rw [Int.sub_zero]; exact p'
    · exact q _ _ _ _ p2 (R'.ext sm) (a'.trans (Adv.same sm)) (rvOk_from R R' a' k2) (hid_of R' sm k2)⟩⟩
/-! ### name += .. -/
def fAddI (d e : D) (P : Rv → Prop) : Prop := match d, e with
  | .int i, .int j => pI P (i + j)
  | _, _ => False
def mAug (i : Nat) (f : D → D → (Rv → Prop) → Prop) (m : ME) : MS := fun P ρ => match ρ[i]? with
  | some (.sh d) => m ρ fun r ρ' => ∃ d2, r = .sh d2 ∧ f d d2 fun r => ∃ d3, r = .sh d3 ∧ P.nx (ρ'.set i (.sh d3))
  | _ => False
theorem w_augI (i : Nat) (nd : X.N.Nodup) (ha : DE X e m) (hi : X.N[i]? = some x := by rfl) (hx : Loc X.env.scope x := by first | exact Or.inl rfl | exact Or.inr rfl) (hf : X.fn x = true ∨ X.env.scope.names.lookup x = some .local := by first | exact Or.inl rfl | exact Or.inr rfl) :
    DS X (.AugAssign (.Name x p) .Add e pos) (mAug i fAddI m) := ⟨fun B => ps_imp (ps_aug nd hi hx (ha.run B) ip_add hf) fun D σ H ⟨U, W, ρ, P, R, p, q⟩ => by
  unfold mAug at p
  split at p
  · rename_i d z
    obtain ⟨v, e1, e2⟩ := R.shAt z
    refine ⟨v, e1, U, W, ρ, _, R, p, fun r ρ' w H' p' R' a' k kh => ?_⟩
    obtain ⟨d2, rfl, p'⟩ := p'
    unfold fAddI at p'
    split at p'
    · rename_i i1 i2
      obtain ⟨d3, e3, p'⟩ := p'
      cases e3
      have ev : v = .int i1 := by cases e2; rfl
      have ew : w = .int i2 := by cases k; rfl
      exact ⟨i1, i2, ev, ew, q.nx _ _ _ _ _ (R'.setSh (Dq.int _)) p'⟩
    · exact p'.elim
  · exact p.elim⟩
end
end Dv
namespace Dv
open PySem PySem.Spec
open L2 (atI ixN)
/-! ### meanings are worked out: from the head on, one part after another -/
/-- with what an option holds -/
def wS {α : Type} (o : Option α) (k : α → Prop) : Prop := ∃ d, o = some d ∧ k d
@[simp ↓] theorem wS_some {α : Type} (d : α) (k : α → Prop) : wS (some d) k = k d := by
  refine propext ⟨fun ⟨x, e, h⟩ => ?_, fun h => ⟨d, rfl, h⟩⟩
  cases e; exact h
@[simp ↓] theorem wS_none {α : Type} (k : α → Prop) : wS (none : Option α) k = False := propext ⟨fun ⟨_, e, _⟩ => (nomatch e), fun h => h.elim⟩
/-- a result that is shared data -/
def wSh (r : Rv) (k : D → Prop) : Prop := ∃ d, r = .sh d ∧ k d
@[simp ↓] theorem wSh_sh (d : D) (k : D → Prop) : wSh (.sh d) k = k d := by
  refine propext ⟨fun ⟨x, e, h⟩ => ?_, fun h => ⟨d, rfl, h⟩⟩
  cases e; exact h
def wB (d : D) (k : Bool → Prop) : Prop := ∃ b, d = .bool b ∧ k b
@[simp ↓] theorem wB_b (d : Bool) (k : Bool → Prop) : wB (.bool d) k = k d := by
  refine propext ⟨fun ⟨x, e, h⟩ => ?_, fun h => ⟨d, rfl, h⟩⟩
  cases e; exact h
def wI (d : D) (k : Int → Prop) : Prop := ∃ b, d = .int b ∧ k b
@[simp ↓] theorem wI_i (d : Int) (k : Int → Prop) : wI (.int d) k = k d := by
  refine propext ⟨fun ⟨x, e, h⟩ => ?_, fun h => ⟨d, rfl, h⟩⟩
  cases e; exact h
theorem ex_shb (r : Rv) (K : Bool → Prop) : (∃ b, r = .sh (.bool b) ∧ K b) = wSh r fun x => wB x K :=
  propext ⟨fun ⟨b, e, h⟩ => ⟨_, e, b, rfl, h⟩, fun ⟨d, e, b, e2, h⟩ => ⟨b, e.trans (by rw [e2]), h⟩⟩
theorem ex_2 (o1 o2 : Option D) (K : D → D → Prop) : (∃ d e, o1 = some d ∧ o2 = some e ∧ K d e) = wS o1 fun d => wS o2 fun e => K d e :=
  propext ⟨fun ⟨d, e, a, b, c⟩ => ⟨d, a, e, b, c⟩, fun ⟨d, a, e, b, c⟩ => ⟨d, e, a, b, c⟩⟩
/-- one of two ways -/
def wIf (b : Bool) (p q : Prop) : Prop := if b = true then p else q
@[simp ↓] theorem wIf_t (p q : Prop) : wIf true p q = p := if_pos rfl
@[simp ↓] theorem wIf_f (p q : Prop) : wIf false p q = q := if_neg Bool.false_ne_true
theorem wIf_of {b : Bool} {p q : Prop} (hp : b = true → p) (hq : b = false → q) : wIf b p q := by
  cases b with
  | true => rw [wIf_t]; exact hp rfl
  | false => rw [wIf_f]; exact hq rfl
theorem wIf_dec {c p q : Prop} [Decidable c] (hp : c → p) (hq : ¬ c → q) : wIf (decide c) p q := wIf_of (fun h => hp (of_decide_eq_true h)) fun h => hq (of_decide_eq_false h)
section
variable {ρ : En} {P : Rv → En → Prop} {PB : Bool → En → Prop} {PA : List Rv → En → Prop} {E : DEnds} {Q : En → Prop} {ma mb mc m : ME} {t u : MT} {a : MA} {s s' : MS} {f g : D → D → (Rv → Prop) → Prop} {k : Rv → Prop} {kB : Bool → Prop}
@[simp ↓] theorem mC_ap {d : D} : mC d ρ P = P (.sh d) ρ := rfl
/-- a name -/
def wV (s : Option Sl) (i : Nat) (k : Rv → Prop) : Prop := match s with
  | some (.sh d) => k (.sh d)
  | some (.ow _) => k (.bw i)
  | _ => False
@[simp ↓] theorem wV_sh {d : D} {i : Nat} : wV (some (.sh d)) i k = k (.sh d) := rfl
@[simp ↓] theorem wV_ow {o : OO} {i : Nat} : wV (some (.ow o)) i k = k (.bw i) := rfl
@[simp ↓] theorem mVar_ap {i : Nat} : mVar i ρ P = wV ρ[i]? i fun r => P r ρ := by
  unfold mVar
  generalize ρ[i]? = s
  cases s with
  | none => rfl
  | some s => cases s <;> rfl
@[simp] theorem dat_sh {d : D} : (Rv.sh d).dat ρ = some d := rfl
@[simp] theorem dat_fr {xs : List D} : (Rv.fr xs).dat ρ = some (.list xs) := rfl
def wDt (s : Option Sl) : Option D := match s with
  | some (.ow (.lst xs)) => some (.list xs)
  | _ => none
@[simp] theorem wDt_ow {xs : List D} : wDt (some (.ow (.lst xs))) = some (.list xs) := rfl
@[simp] theorem dat_bw {i : Nat} : (Rv.bw i).dat ρ = wDt ρ[i]? := rfl
@[simp] theorem shd_sh {d : D} : (Rv.sh d).shd = some d := rfl
@[simp] theorem shd_fr {xs : List D} : (Rv.fr xs).shd = some (.list xs) := rfl
def wC (a : D) (r : Option (List D)) : Option (List D) := match r with
  | some ds => some (a :: ds)
  | _ => none
@[simp] theorem wC_s {a : D} {ds : List D} : wC a (some ds) = some (a :: ds) := rfl
@[simp] theorem datAll_nil : datAll ρ [] = some [] := rfl
def wC2 (a : Option D) (r : Option (List D)) : Option (List D) := match a, r with
  | some d, some ds => some (d :: ds)
  | _, _ => none
@[simp] theorem wC2_s {a : D} {ds : List D} : wC2 (some a) (some ds) = some (a :: ds) := rfl
@[simp] theorem datAll_cons {r : Rv} {rs : List Rv} : datAll ρ (r :: rs) = wC2 (r.dat ρ) (datAll ρ rs) := by
  rw [datAll]; unfold wC2
  split <;> simp_all
@[simp] theorem shdAll_nil : shdAll [] = some [] := rfl
@[simp] theorem shdAll_cons {r : Rv} {rs : List Rv} : shdAll (r :: rs) = wC2 r.shd (shdAll rs) := by
  rw [shdAll]; unfold wC2
  split <;> simp_all
@[simp ↓] theorem mBin_ap : mBin f ma mb ρ P = ma ρ fun r1 ρ1 => mb ρ1 fun r2 ρ2 => wS (r1.dat ρ2) fun d => wS (r2.dat ρ2) fun e => f d e fun r => P r ρ2 := by
  unfold mBin wS
  congr; funext r1 ρ1; congr; funext r2 ρ2
  exact propext ⟨fun ⟨d, e, a, b, c⟩ => ⟨d, a, e, b, c⟩, fun ⟨d, a, e, b, c⟩ => ⟨d, e, a, b, c⟩⟩
@[simp ↓] theorem mTest_ap : mTest m ρ PB = m ρ fun r ρ' => wSh r fun d => wB d fun b => PB b ρ' := by
  unfold mTest wSh wB
  congr; funext r ρ'
  exact propext ⟨fun ⟨b, e, h⟩ => ⟨_, e, b, rfl, h⟩, fun ⟨d, e, b, e2, h⟩ => ⟨b, e.trans (by rw [e2]), h⟩⟩
@[simp ↓] theorem mTru_ap : mTru m ρ PB = m ρ fun r ρ' => wS (r.dat ρ') fun d => wS (truD d) fun b => PB b ρ' := by
  unfold mTru wS
  congr; funext r ρ'
  exact propext ⟨fun ⟨d, b, e, e2, h⟩ => ⟨d, e, b, e2, h⟩, fun ⟨d, e, b, e2, h⟩ => ⟨d, b, e, e2, h⟩⟩
@[simp] theorem truD_b {b : Bool} : truD (.bool b) = some b := rfl
@[simp] theorem truD_n : truD .none = some false := rfl
@[simp ↓] theorem mAnd_ap : mAnd t u ρ PB = t ρ fun b ρ' => wIf b (u ρ' PB) (PB false ρ') := rfl
@[simp ↓] theorem mOr_ap : mOr t u ρ PB = t ρ fun b ρ' => wIf b (PB true ρ') (u ρ' PB) := rfl
@[simp ↓] theorem mNot_ap : mNot t ρ PB = t ρ fun b ρ' => PB (!b) ρ' := rfl
@[simp ↓] theorem mAndV_ap : mAndV ma mb ρ P = ma ρ fun r ρ' => wSh r fun d => wB d fun b => wIf b (mb ρ' P) (P (.sh (.bool false)) ρ') := by
  unfold mAndV wSh wB wIf
  congr; funext r ρ'
  exact propext ⟨fun ⟨b, e, h⟩ => ⟨_, e, b, rfl, h⟩, fun ⟨d, e, b, e2, h⟩ => ⟨b, e.trans (by rw [e2]), h⟩⟩
@[simp ↓] theorem mOrV_ap : mOrV ma mb ρ P = ma ρ fun r ρ' => wSh r fun d => wB d fun b => wIf b (P (.sh (.bool true)) ρ') (mb ρ' P) := by
  unfold mOrV wSh wB wIf
  congr; funext r ρ'
  exact propext ⟨fun ⟨b, e, h⟩ => ⟨_, e, b, rfl, h⟩, fun ⟨d, e, b, e2, h⟩ => ⟨b, e.trans (by rw [e2]), h⟩⟩
@[simp ↓] theorem mNotV_ap : mNotV ma ρ P = ma ρ fun r ρ' => wSh r fun d => wB d fun b => P (.sh (.bool (!b))) ρ' := by
  unfold mNotV wSh wB
  congr; funext r ρ'
  exact propext ⟨fun ⟨b, e, h⟩ => ⟨_, e, b, rfl, h⟩, fun ⟨d, e, b, e2, h⟩ => ⟨b, e.trans (by rw [e2]), h⟩⟩
@[simp ↓] theorem mNeg_ap : mNeg ma ρ P = ma ρ fun r ρ' => wSh r fun d => wI d fun i => P (.sh (.int (-i))) ρ' := by
  unfold mNeg wSh wI
  congr; funext r ρ'
  exact propext ⟨fun ⟨b, e, h⟩ => ⟨_, e, b, rfl, h⟩, fun ⟨d, e, b, e2, h⟩ => ⟨b, e.trans (by rw [e2]), h⟩⟩
@[simp ↓] theorem mIf_ap : mIf t ma mb ρ P = t ρ fun b ρ' => wIf b (ma ρ' P) (mb ρ' P) := rfl
@[simp ↓] theorem mChain_ap : mChain f g ma mb mc ρ P = ma ρ fun r1 ρ1 => mb ρ1 fun r2 ρ2 => wS (r1.dat ρ2) fun d => wS (r2.dat ρ2) fun e => f d e fun r => wSh r fun x => wB x fun b => wIf b (mc ρ2 fun r3 ρ3 => wS (r2.dat ρ3) fun e => wS (r3.dat ρ3) fun d' => g e d' fun r => P r ρ3) (P (.sh (.bool false)) ρ2) := by
  simp only [mChain, ex_shb, ex_2]
  rfl
@[simp ↓] theorem mNil_ap : mNil ρ PA = PA [] ρ := rfl
@[simp ↓] theorem mCons_ap : mCons m a ρ PA = m ρ fun r ρ1 => a ρ1 fun rs ρ2 => PA (r :: rs) ρ2 := rfl
def noBwB : Rv → Bool
  | .bw _ => false
  | _ => true
@[simp] theorem noBwB_sh {d : D} : noBwB (.sh d) = true := rfl
@[simp] theorem noBwB_fr {d : List D} : noBwB (.fr d) = true := rfl
@[simp ↓] theorem mConsH_ap : mConsH m a ρ PA = m ρ fun r ρ1 => wIf (noBwB r) (a ρ1 fun rs ρ2 => PA (r :: rs) ρ2) False := by
  unfold mConsH
  congr; funext r ρ1
  cases r
  all_goals first | exact propext ⟨fun h => h.2, fun h => ⟨trivial, h⟩⟩ | exact propext ⟨fun h => h.1, fun h => ⟨h, False.elim h⟩⟩
/-! displays, built-ins -/
@[simp ↓] theorem mTup_ap : mTup a ρ P = a ρ fun rs ρ' => wS (shdAll rs) fun ds => ds.length ≤ 100000 ∧ P (.sh (.tuple ds)) ρ' := rfl
@[simp ↓] theorem mLst_ap : mLst a ρ P = a ρ fun rs ρ' => wS (shdAll rs) fun ds => ds.length ≤ 100000 ∧ P (.fr ds) ρ' := rfl
@[simp ↓] theorem mCB_ap {F : List D → (Rv → Prop) → Prop} : mCB F a ρ P = a ρ fun rs ρ' => wS (datAll ρ' rs) fun ds => F ds fun r => P r ρ' := rfl
@[simp ↓] theorem mIsi_ap {T : String} : mIsi T m ρ P = m ρ fun r ρ' => wS (r.dat ρ') fun d => P (.sh (.bool (isT (tyD d) T))) ρ' := rfl
@[simp ↓] theorem mO0_ap {PO : Option Int → En → Prop} : mO0 ρ PO = PO none ρ := rfl
@[simp ↓] theorem mO1_ap {PO : Option Int → En → Prop} : mO1 m ρ PO = m ρ fun r ρ' => wSh r fun d => wI d fun i => PO (some i) ρ' := by
  unfold mO1 wSh wI
  congr; funext r ρ'
  exact propext ⟨fun ⟨b, e, h⟩ => ⟨_, e, b, rfl, h⟩, fun ⟨d, e, b, e2, h⟩ => ⟨b, e.trans (by rw [e2]), h⟩⟩
@[simp ↓] theorem mSl_ap {l h : MO} : mSl m l h ρ P = m ρ fun r ρ1 => l ρ1 fun lo ρ2 => h ρ2 fun hi ρ3 => wS (r.dat ρ3) fun d => fSl d lo hi fun r => P r ρ3 := rfl
@[simp ↓] theorem fSl_l {xs : List D} {lo hi : Option Int} : fSl (.list xs) lo hi k = k (.fr (cutD xs lo hi)) := rfl
@[simp ↓] theorem fSl_t {xs : List D} {lo hi : Option Int} : fSl (.tuple xs) lo hi k = k (.sh (.tuple (cutD xs lo hi))) := rfl
/-! operations -/
@[simp ↓] theorem fAdd_i {i j : Int} : fAdd (.int i) (.int j) k = k (.sh (.int (i + j))) := rfl
@[simp ↓] theorem fSub_i {i j : Int} : fSub (.int i) (.int j) k = k (.sh (.int (i - j))) := rfl
@[simp ↓] theorem fMul_i {i j : Int} : fMul (.int i) (.int j) k = (((-(2 ^ 64) < i ∧ i < 2 ^ 64) ∨ (-(2 ^ 64) < j ∧ j < 2 ^ 64)) ∧ k (.sh (.int (i * j)))) := rfl
@[simp ↓] theorem fDiv_i {i j : Int} : fDiv (.int i) (.int j) k = ((0 < j ∧ j < 1073741824) ∧ k (.sh (.int (i / j)))) := rfl
@[simp ↓] theorem fMod_i {i j : Int} : fMod (.int i) (.int j) k = (0 < j ∧ k (.sh (.int (i % j)))) := rfl
@[simp ↓] theorem fCmp_i {i j : Int} {g : Int → Int → Bool} : fCmp g (.int i) (.int j) k = k (.sh (.bool (g i j))) := rfl
@[simp ↓] theorem fAbs_i {i : Int} : fAbs [.int i] k = k (.sh (.int (if i < 0 then -i else i))) := rfl
@[simp ↓] theorem fLen_l {xs : List D} : fLen [.list xs] k = k (.sh (.int (xs.length : Int))) := rfl
@[simp ↓] theorem fLen_t {xs : List D} : fLen [.tuple xs] k = k (.sh (.int (xs.length : Int))) := rfl
@[simp ↓] theorem fInt_i {i : Int} : fInt [.int i] k = k (.sh (.int i)) := rfl
@[simp ↓] theorem fMax2_i {i j : Int} : fMax2 [.int i, .int j] k = k (.sh (.int (if j > i then j else i))) := rfl
@[simp ↓] theorem fMin2_i {i j : Int} : fMin2 [.int i, .int j] k = k (.sh (.int (if j < i then j else i))) := rfl
@[simp ↓] theorem fList_l {xs : List D} : fList [.list xs] k = k (.fr xs) := rfl
@[simp ↓] theorem fList_t {xs : List D} : fList [.tuple xs] k = k (.fr xs) := rfl
@[simp ↓] theorem fTuple_l {xs : List D} : fTuple [.list xs] k = k (.sh (.tuple xs)) := rfl
@[simp ↓] theorem fTuple_t {xs : List D} : fTuple [.tuple xs] k = k (.sh (.tuple xs)) := rfl
@[simp ↓] theorem fDivmod_i {i j : Int} : fDivmod [.int i, .int j] k = (0 < j ∧ j < 1073741824 ∧ k (.sh (.tuple [.int (i / j), .int (i % j)]))) := rfl
@[simp ↓] theorem fIx_l {xs : List D} {i : Int} : fIx (.list xs) (.int i) k = wS (atI xs i) fun z => k (.sh z) := rfl
@[simp ↓] theorem fIx_t {xs : List D} {i : Int} : fIx (.tuple xs) (.int i) k = wS (atI xs i) fun z => k (.sh z) := rfl
/-! statements -/
@[simp ↓] theorem mSeq_ap : mSeq s s' E ρ = s { E with nx := fun ρ' => s' E ρ' } ρ := rfl
@[simp ↓] theorem mNext_ap : mNext E ρ = E.nx ρ := rfl
@[simp ↓] theorem mExpr_ap : mExpr m E ρ = m ρ fun _ ρ' => E.nx ρ' := rfl
def wRet (ρ : En) (P : Rv → Prop) (r : Rv) : Prop := match r with
  | .sh d => P (.sh d)
  | .fr xs => P (.fr xs)
  | .bw i => wS (wDt ρ[i]?) fun d => match d with
    | .list xs => P (.fr xs)
    | _ => False
@[simp ↓] theorem wRet_sh {d : D} {P : Rv → Prop} : wRet ρ P (.sh d) = P (.sh d) := rfl
@[simp ↓] theorem wRet_fr {d : List D} {P : Rv → Prop} : wRet ρ P (.fr d) = P (.fr d) := rfl
def wL (s : Option Sl) (k : List D → Prop) : Prop := match s with
  | some (.ow (.lst xs)) => k xs
  | _ => False
@[simp ↓] theorem wL_ow {xs : List D} {k : List D → Prop} : wL (some (.ow (.lst xs))) k = k xs := rfl
@[simp ↓] theorem wRet_bw {i : Nat} {P : Rv → Prop} : wRet ρ P (.bw i) = wL ρ[i]? fun xs => P (.fr xs) := by
  show wS (wDt ρ[i]?) _ = _
  generalize ρ[i]? = s
  unfold wS wDt wL
  split
  · exact propext ⟨fun ⟨d, e, h⟩ => by cases e; exact h, fun h => ⟨_, rfl, h⟩⟩
  · exact propext ⟨fun ⟨d, e, h⟩ => (nomatch e), fun h => h.elim⟩
theorem retR_w {r : Rv} : retR ρ E r = wRet ρ E.rt r := by
  cases r with
  | sh d => rfl
  | fr xs => rfl
  | bw i =>
    rw [wRet_bw]
    rfl
@[simp ↓] theorem mRet_ap : mRet m E ρ = m ρ fun r ρ' => wRet ρ' E.rt r := by
  unfold mRet
  congr; funext r ρ'
  exact retR_w
@[simp ↓] theorem mRetN_ap : mRetN E ρ = E.rt (.sh .none) := rfl
@[simp ↓] theorem mIfS_ap : mIfS t s s' E ρ = t ρ fun b ρ' => wIf b (s E ρ') (s' E ρ') := rfl
@[simp ↓] theorem mNever_ap : mNever E ρ = False := rfl
def wSet (i : Nat) (ρ : En) (Q : En → Prop) (r : Rv) : Prop := match r with
  | .sh d => Q (ρ.set i (.sh d))
  | .fr xs => Q (ρ.set i (.ow (.lst xs)))
  | .bw _ => False
@[simp ↓] theorem wSet_sh {i : Nat} {d : D} : wSet i ρ Q (.sh d) = Q (ρ.set i (.sh d)) := rfl
@[simp ↓] theorem wSet_fr {i : Nat} {d : List D} : wSet i ρ Q (.fr d) = Q (ρ.set i (.ow (.lst d))) := rfl
@[simp ↓] theorem mSet_ap {i : Nat} : mSet i m E ρ = m ρ fun r ρ' => wSet i ρ' E.nx r := by
  unfold mSet
  congr
@[simp ↓] theorem mSetN_ap {is : List Nat} : mSetN is a E ρ = a ρ fun rs ρ' => rs.length = is.length ∧ setAll is rs ρ' E.nx := rfl
@[simp ↓] theorem setAll_nil : setAll [] [] ρ Q = Q ρ := rfl
@[simp ↓] theorem setAll_sh {i : Nat} {is : List Nat} {d : D} {rs : List Rv} : setAll (i :: is) (.sh d :: rs) ρ Q = setAll is rs (ρ.set i (.sh d)) Q := rfl
@[simp ↓] theorem setAll_fr {i : Nat} {is : List Nat} {d : List D} {rs : List Rv} : setAll (i :: is) (.fr d :: rs) ρ Q = setAll is rs (ρ.set i (.ow (.lst d))) Q := rfl
def wFree (x : Option Sl) (i : Nat) (ρ : En) : En := match x with
  | some (.ow (.lst xs)) => ρ.set i (.sh (.list xs))
  | _ => ρ
@[simp] theorem wFree_l {xs : List D} {i : Nat} : wFree (some (.ow (.lst xs))) i ρ = ρ.set i (.sh (.list xs)) := rfl
@[simp] theorem wFree_s {d : D} {i : Nat} : wFree (some (.sh d)) i ρ = ρ := rfl
@[simp] theorem wFree_u {i : Nat} : wFree (some .un) i ρ = ρ := rfl
@[simp ↓] theorem mFree_ap {i : Nat} : mFree i s E ρ = s E (wFree ρ[i]? i ρ) := by
  unfold mFree
  generalize ρ[i]? = x
  cases x with
  | none => rfl
  | some x =>
    cases x with
    | ow o => cases o <;> rfl
    | _ => rfl
@[simp ↓] theorem mAsg_ap {g : MG} : mAsg m g E ρ = m ρ fun r ρ1 => wS r.shd fun d => g d ρ1 E.nx := rfl
@[simp ↓] theorem gSetN_ap {i : Nat} {d : D} : gSetN i d ρ Q = Q (ρ.set i (.sh d)) := rfl
def wT (d : D) (k : List D → Prop) : Prop := ∃ ds, d = .tuple ds ∧ k ds
@[simp ↓] theorem wT_t (d : List D) (k : List D → Prop) : wT (.tuple d) k = k d := by
  refine propext ⟨fun ⟨x, e, h⟩ => ?_, fun h => ⟨d, rfl, h⟩⟩
  cases e; exact h
@[simp ↓] theorem gSetT_ap {is : List Nat} {d : D} : gSetT is d ρ Q = wT d fun ds => ds.length = is.length ∧ setAll is (ds.map .sh) ρ Q := rfl
@[simp ↓] theorem gTupS_ap {gs : MGs} {n : Nat} {d : D} : gTupS gs n d ρ Q = wT d fun ds => ds.length = n ∧ gs ds ρ Q := rfl
@[simp ↓] theorem gsNil_ap : gsNil [] ρ Q = Q ρ := propext ⟨fun h => h.2, fun h => ⟨rfl, h⟩⟩
@[simp ↓] theorem gsCons_ap {g : MG} {gs : MGs} {d : D} {ds : List D} : gsCons g gs (d :: ds) ρ Q = g d ρ fun ρ' => gs ds ρ' Q := propext ⟨fun ⟨_, _, e, h⟩ => by cases e; exact h, fun h => ⟨_, _, rfl, h⟩⟩
@[simp ↓] theorem ownL_ap {i : Nat} {k : List D → Prop} : ownL ρ i k = wL ρ[i]? k := rfl
@[simp ↓] theorem gPut_ap {i : Nat} {d : D} : gPut i m d ρ Q = wL ρ[i]? fun _ => m ρ fun r ρ' => wL ρ'[i]? fun xs => wSh r fun x => wI x fun k => wS (ixN xs.length k) fun j => Q (ρ'.set i (.ow (.lst (xs.set j d)))) := by
  unfold gPut wSh wI wS
  show wL ρ[i]? _ = _
  congr; funext _; congr; funext r ρ'
  show wL ρ'[i]? _ = _
  congr; funext xs
  exact propext ⟨fun ⟨k, j, e, h1, h2⟩ => ⟨_, e, k, rfl, j, h1, h2⟩, fun ⟨x, e, k, e2, j, h1, h2⟩ => ⟨k, j, e.trans (by rw [e2]), h1, h2⟩⟩
@[simp ↓] theorem mApp_ap {i : Nat} : mApp i m ρ P = wL ρ[i]? fun _ => m ρ fun r ρ' => wL ρ'[i]? fun xs => wS r.shd fun d => xs.length < 100000 ∧ P (.sh .none) (ρ'.set i (.ow (.lst (xs ++ [d])))) := rfl
def wLs (d : D) (k : List D → Prop) : Prop := ∃ ds, d = .list ds ∧ k ds
@[simp ↓] theorem wLs_l (d : List D) (k : List D → Prop) : wLs (.list d) k = k d := by
  refine propext ⟨fun ⟨x, e, h⟩ => ?_, fun h => ⟨d, rfl, h⟩⟩
  cases e; exact h
@[simp ↓] theorem mExt_ap {i : Nat} : mExt i m ρ P = wL ρ[i]? fun _ => m ρ fun r ρ' => wL ρ'[i]? fun xs => wS (r.dat ρ') fun d => wLs d fun ys => xs.length + ys.length ≤ 100000 ∧ P (.sh .none) (ρ'.set i (.ow (.lst (xs ++ ys)))) := by
  unfold mExt wS wLs
  show wL ρ[i]? _ = _
  congr; funext _; congr; funext r ρ'
  show wL ρ'[i]? _ = _
  congr; funext xs
  exact propext ⟨fun ⟨k, e, h1, h2⟩ => ⟨_, e, k, rfl, h1, h2⟩, fun ⟨x, e, k, e2, h1, h2⟩ => ⟨k, e.trans (by rw [e2]), h1, h2⟩⟩
@[simp ↓] theorem mPopAt_ap {i : Nat} : mPopAt i m ρ P = wL ρ[i]? fun _ => m ρ fun r ρ' => wL ρ'[i]? fun xs => wSh r fun x => wI x fun k => xs.length ≤ 100000 ∧ wS (ixN xs.length k) fun j => wS xs[j]? fun z => P (.sh z) (ρ'.set i (.ow (.lst (xs.eraseIdx j)))) := by
  unfold mPopAt wS wSh wI
  show wL ρ[i]? _ = _
  congr; funext _; congr; funext r ρ'
  show wL ρ'[i]? _ = _
  congr; funext xs
  exact propext ⟨fun ⟨k, j, z, e, h1, h2, h3, h4⟩ => ⟨_, e, k, rfl, h1, j, h2, z, h3, h4⟩, fun ⟨x, e, k, e2, h1, j, h2, z, h3, h4⟩ => ⟨k, j, z, e.trans (by rw [e2]), h1, h2, h3, h4⟩⟩
@[simp ↓] theorem mIdxT_ap : mIdxT ma mb ρ P = ma ρ fun r ρ1 => wSh r fun x => wT x fun ds => mb ρ1 fun r2 ρ2 => wSh r2 fun d => flatD d = true ∧ ds.all flatD = true ∧ wS (idxD ds d) fun j => P (.sh (.int (j : Nat))) ρ2 := by
  unfold mIdxT wS wSh wT
  congr; funext r ρ1
  refine propext ⟨fun ⟨ds, e, h⟩ => ⟨_, e, ds, rfl, ?_⟩, fun ⟨x, e, ds, e2, h⟩ => ⟨ds, e.trans (by rw [e2]), ?_⟩⟩
  · exact (congrArg (mb ρ1) (funext fun r2 => funext fun ρ2 => propext ⟨fun ⟨d, j, e, a, b, c, h⟩ => ⟨d, e, a, b, j, c, h⟩, fun ⟨d, e, a, b, j, c, h⟩ => ⟨d, j, e, a, b, c, h⟩⟩)).mp h
  · exact (congrArg (mb ρ1) (funext fun r2 => funext fun ρ2 => propext ⟨fun ⟨d, e, a, b, j, c, h⟩ => ⟨d, j, e, a, b, c, h⟩, fun ⟨d, j, e, a, b, c, h⟩ => ⟨d, e, a, b, j, c, h⟩⟩)).mp h
/-! calls: what goes in; behind it the goal is the def's own meaning -/
@[simp ↓] theorem mCall_ap {G : DF} : mCall G a ρ P = a ρ fun rs ρ' => wS (datAll ρ' rs) fun ds => G ds fun r => isBw r = false ∧ (rs.any isBw = true → lfR r = true) ∧ P r ρ' := rfl
@[simp ↓] theorem mCallK_ap {n : Nat} {pm : List Nat} {G : DF} : mCallK n pm G a ρ P = a ρ fun rs ρ' => rs.length = n ∧ wS (datAll ρ' rs) fun ds => G (perm pm ds) fun r => isBw r = false ∧ (rs.any isBw = true → lfR r = true) ∧ P r ρ' := rfl
@[simp ↓] theorem mCallP_ap {i : Nat} {G : DF} : mCallP i G a ρ P = (ρ[i]? = some .pot ∧ a ρ fun rs ρ' => wS (datAll ρ' rs) fun ds => G ds fun r => isBw r = false ∧ (rs.any isBw = true → lfR r = true) ∧ P r ρ') := rfl
@[simp] theorem isBw_sh {d : D} : isBw (.sh d) = false := rfl
@[simp] theorem isBw_fr {d : List D} : isBw (.fr d) = false := rfl
@[simp] theorem isBw_bw {i : Nat} : isBw (.bw i) = true := rfl
@[simp] theorem lfR_sh {d : D} : lfR (.sh d) = lf d := rfl
@[simp] theorem lfR_fr {d : List D} : lfR (.fr d) = lfAll d := rfl
/-- one int that is handed on -/
def w1 (rs : List Rv) (k : Int → Prop) : Prop := ∃ j, rs = [.sh (.int j)] ∧ k j
@[simp ↓] theorem w1_1 {j : Int} {k : Int → Prop} : w1 [.sh (.int j)] k = k j := propext ⟨fun ⟨x, e, h⟩ => by cases e; exact h, fun h => ⟨j, rfl, h⟩⟩
def w2 (rs : List Rv) (k : Int → Int → Prop) : Prop := ∃ i j, rs = [.sh (.int i), .sh (.int j)] ∧ k i j
@[simp ↓] theorem w2_2 {i j : Int} {k : Int → Int → Prop} : w2 [.sh (.int i), .sh (.int j)] k = k i j := propext ⟨fun ⟨x, y, e, h⟩ => by cases e; exact h, fun h => ⟨i, j, rfl, h⟩⟩
@[simp ↓] theorem mRng1_ap {PI : List D → En → Prop} : mRng1 a ρ PI = a ρ fun rs ρ' => w1 rs fun j => (-1000000 ≤ j ∧ j ≤ 1000000) ∧ PI (rngD 0 j.toNat) ρ' := rfl
@[simp ↓] theorem mRng2_ap {PI : List D → En → Prop} : mRng2 a ρ PI = a ρ fun rs ρ' => w2 rs fun i j => (-1000000 ≤ i ∧ i ≤ 1000000 ∧ -1000000 ≤ j ∧ j ≤ 1000000) ∧ PI (rngD i (j - i).toNat) ρ' := rfl
@[simp ↓] theorem mItS_ap {i : Nat} {PI : List D → En → Prop} {ns : List Int} (h : ρ[i]? = some (.scr ns)) : mItS i ρ PI = PI (ns.map .int) ρ := by
  unfold mItS; rw [h]
@[simp ↓] theorem mRgL1_ap : mRgL1 m ρ P = m ρ fun r ρ' => wSh r fun d => wI d fun j => (-100000 ≤ j ∧ j ≤ 100000) ∧ P (.fr (rngD 0 j.toNat)) ρ' := by
  unfold mRgL1 wSh wI
  congr; funext r ρ'
  exact propext ⟨fun ⟨b, e, h⟩ => ⟨_, e, b, rfl, h⟩, fun ⟨d, e, b, e2, h⟩ => ⟨b, e.trans (by rw [e2]), h⟩⟩
@[simp ↓] theorem wIt_t {xs : List D} {k : List D → Prop} : wIt (.sh (.tuple xs)) k = k xs := by
  refine propext ⟨fun h => ?_, fun h => .inr ⟨xs, rfl, h⟩⟩
  rcases h with ⟨x, e, h⟩ | ⟨x, e, h⟩
  · cases e
  · cases e; exact h
@[simp ↓] theorem wIt_l {xs : List D} {k : List D → Prop} : wIt (.sh (.list xs)) k = k xs := by
  refine propext ⟨fun h => ?_, fun h => .inl ⟨xs, rfl, h⟩⟩
  rcases h with ⟨x, e, h⟩ | ⟨x, e, h⟩
  · cases e; exact h
  · cases e
@[simp ↓] theorem wIt_f {xs : List D} {k : List D → Prop} : wIt (.fr xs) k = k xs := by
  refine propext ⟨fun h => ?_, fun h => .inl ⟨xs, rfl, h⟩⟩
  rcases h with ⟨x, e, h⟩ | ⟨x, e, h⟩
  · cases e; exact h
  · cases e
@[simp ↓] theorem mItA_ap {PI : List D → En → Prop} : mItA m ρ PI = m ρ fun r ρ' => wIt r fun xs => PI xs ρ' := rfl
@[simp ↓] theorem mFor_ap {mi : MI} {g : MG} : mFor mi g s E ρ = mi ρ fun ds ρ' => mLoop g s E ds ρ' := rfl
@[simp ↓] theorem mLc_ap {mi : MI} {g : MG} {vs : List Nat} : mLc mi g t m vs ρ P = mi ρ fun ds ρ' => mLcGo g t m vs (fun xs ρ2 => P (.fr xs) (keepE ρ' ρ2 vs)) ds [] (wipeE ρ' vs) := rfl
@[simp ↓] theorem mYes_ap : mYes ρ PB = PB true ρ := rfl
end
/-! ### loops -/
theorem loop_inv {g : MG} {body : MS} {E : DEnds} (I : Nat → En → Prop) {ds : List D} {ρ : En} (h0 : I 0 ρ)
    (hs : ∀ i d ρ1 (Q : En → Prop), ds[i]? = some d → I i ρ1 → (∀ ρ2, I (i + 1) ρ2 → Q ρ2) → g d ρ1 fun ρ2 => body { nx := Q, rt := E.rt, bk := E.nx, ct := Q } ρ2) (he : ∀ ρ1, I ds.length ρ1 → E.nx ρ1) : mLoop g body E ds ρ := by
  have key : ∀ (l : List D) (k : Nat) (ρ1 : En), ds.drop k = l → k + l.length = ds.length → I k ρ1 → mLoop g body E l ρ1 := by
    intro l
    induction l with
    | nil =>
      intro k ρ1 e n h
      have n' : k = ds.length := by simpa using n
      exact he ρ1 (n' ▸ h)
    | cons d l ih =>
      intro k ρ1 e n h
      have hd : ds[k]? = some d := by
        have := congrArg (·[0]?) e
        simpa using this
      refine hs k d ρ1 _ hd h fun ρ2 h2 => ih (k + 1) ρ2 ?_ (by rw [List.length_cons] at n; omega) h2
      rw [← List.drop_drop, e]; rfl
  exact key ds 0 ρ rfl (by simp) h0
/-- over the numbers lo, lo + 1, .. -/
theorem loop_rng {g : MG} {body : MS} {E : DEnds} (I : Nat → En → Prop) {lo : Int} {n : Nat} {ρ : En} (h0 : I 0 ρ)
    (hs : ∀ i ρ1 (Q : En → Prop), i < n → I i ρ1 → (∀ ρ2, I (i + 1) ρ2 → Q ρ2) → g (.int (lo + (i : Nat))) ρ1 fun ρ2 => body { nx := Q, rt := E.rt, bk := E.nx, ct := Q } ρ2) (he : ∀ ρ1, I n ρ1 → E.nx ρ1) : mLoop g body E (rngD lo n) ρ :=
  loop_inv I h0 (fun i d ρ1 Q hd hI k => by
    have hi : i < n := by
      have := (List.getElem?_eq_some_iff.mp hd).1
      rwa [rngD_len] at this
    rw [rngD_get hd]
    exact hs i ρ1 Q hi hI k) fun ρ1 h => he ρ1 (by rw [rngD_len] at h; exact h)
/-! ### comprehensions -/
theorem lc_inv {g : MG} {tt : MT} {te : ME} {vs : List Nat} {P : List D → En → Prop} (I : Nat → List D → En → Prop) {ds : List D} {ρ : En} (h0 : I 0 [] ρ)
    (hs : ∀ i d acc ρ1 (Q : List D → En → Prop), ds[i]? = some d → I i acc ρ1 → (∀ acc2 ρ2, I (i + 1) acc2 ρ2 → Q acc2 ρ2) →
      g d ρ1 fun ρ2 => tt ρ2 fun b ρ3 => wIf b (te ρ3 fun r ρ4 => wS r.shd fun e => acc.length < 100000 ∧ Q (acc ++ [e]) (wipeE ρ4 vs)) (Q acc (wipeE ρ3 vs))) (he : ∀ acc ρ1, I ds.length acc ρ1 → P acc ρ1) : mLcGo g tt te vs P ds [] ρ := by
  have key : ∀ (l : List D) (k : Nat) (acc : List D) (ρ1 : En), ds.drop k = l → k + l.length = ds.length → I k acc ρ1 → mLcGo g tt te vs P l acc ρ1 := by
    intro l
    induction l with
    | nil =>
      intro k acc ρ1 e n h
      have n' : k = ds.length := by simpa using n
      exact he acc ρ1 (n' ▸ h)
    | cons d l ih =>
      intro k acc ρ1 e n h
      have hd : ds[k]? = some d := by
        have := congrArg (·[0]?) e
        simpa using this
      refine hs k d acc ρ1 (fun acc2 ρ2 => mLcGo g tt te vs P l acc2 ρ2) hd h fun acc2 ρ2 h2 => ih (k + 1) acc2 ρ2 ?_ (by rw [List.length_cons] at n; omega) h2
      rw [← List.drop_drop, e]; rfl
  exact key ds 0 [] ρ rfl (by simp) h0
/-- each item's value, the names as they were -/
theorem lc_map {g : MG} {te : ME} {vs : List Nat} {P : List D → En → Prop} (f : Nat → D) {ds : List D} {ρ : En} (hz : ds.length ≤ 100000)
    (hs : ∀ i d acc (Q : List D → En → Prop), ds[i]? = some d → acc.length < 100000 → Q (acc ++ [f i]) ρ → g d ρ fun ρ2 => te ρ2 fun r ρ4 => wS r.shd fun e => acc.length < 100000 ∧ Q (acc ++ [e]) (wipeE ρ4 vs)) (he : P ((List.range ds.length).map f) ρ) : mLcGo g mYes te vs P ds [] ρ := by
  refine lc_inv (fun i acc ρ1 => acc = (List.range i).map f ∧ ρ1 = ρ) ⟨rfl, rfl⟩ ?_ ?_
  · rintro i d acc ρ1 Q hd ⟨rfl, rfl⟩ k
    have hi := (List.getElem?_eq_some_iff.mp hd).1
    have := hs i d ((List.range i).map f) Q hd (by rw [List.length_map, List.length_range]; omega) (k _ _ ⟨by rw [List.range_succ, List.map_append]; rfl, rfl⟩)
    exact this
  · rintro acc ρ1 ⟨rfl, rfl⟩
    exact he
/-- .. with a test -/
theorem lc_filter {g : MG} {tt : MT} {te : ME} {vs : List Nat} {P : List D → En → Prop} (p : Nat → Bool) (f : Nat → D) {ds : List D} {ρ : En} (hz : ds.length ≤ 100000)
    (hs : ∀ i d acc (Q : List D → En → Prop), ds[i]? = some d → acc.length < 100000 → (p i = true → Q (acc ++ [f i]) ρ) → (p i = false → Q acc ρ) →
      g d ρ fun ρ2 => tt ρ2 fun b ρ3 => wIf b (te ρ3 fun r ρ4 => wS r.shd fun e => acc.length < 100000 ∧ Q (acc ++ [e]) (wipeE ρ4 vs)) (Q acc (wipeE ρ3 vs))) (he : P (((List.range ds.length).filter p).map f) ρ) : mLcGo g tt te vs P ds [] ρ := by
  refine lc_inv (fun i acc ρ1 => acc = ((List.range i).filter p).map f ∧ ρ1 = ρ) ⟨rfl, rfl⟩ ?_ ?_
  · rintro i d acc ρ1 Q hd ⟨rfl, rfl⟩ k
    have hi := (List.getElem?_eq_some_iff.mp hd).1
    refine hs i d _ Q hd ?_ (fun hp => k _ _ ⟨?_, rfl⟩) (fun hp => k _ _ ⟨?_, rfl⟩)
    · rw [List.length_map]
      have := List.length_filter_le p (List.range i)
      rw [List.length_range] at this; omega
    · rw [List.range_succ, List.filter_append, List.map_append, List.filter_cons_of_pos hp]; rfl
    · rw [List.range_succ, List.filter_append, List.map_append, List.filter_cons_of_neg (by rw [hp]; exact Bool.false_ne_true)]
      simp
  · rintro acc ρ1 ⟨rfl, rfl⟩
    exact he
end Dv
namespace Dv
open PySem PySem.Spec
open L2 (atI ixN)
theorem wIf_ndec {c p q : Prop} [Decidable c] (hp : ¬ c → p) (hq : c → q) : wIf (!decide c) p q := by
  by_cases h : c
  · rw [decide_eq_true h]; exact hq h
  · rw [decide_eq_false h]; exact hp h
/-! ### data that is shown and compared -/
/-- of a weight of at most c, k deep -/
structure Fit (c k : Nat) (d : D) : Prop where
  lay : d.canLay0 = true
  sml : d.intsShort 13 = true
  shw : d.showable = true
  wt : d.weight ≤ c
  dp : d.depth ≤ k
theorem Fit.mono {c k c' k' : Nat} {d : D} (h : Fit c k d) (hc : c ≤ c') (hk : k ≤ k') : Fit c' k' d := ⟨h.lay, h.sml, h.shw, Nat.le_trans h.wt hc, Nat.le_trans h.dp hk⟩
theorem Fit.none {k : Nat} : Fit 0 k .none := ⟨rfl, rfl, rfl, Nat.zero_le _, Nat.zero_le _⟩
theorem Fit.bool {k : Nat} {b : Bool} : Fit 0 k (.bool b) := ⟨rfl, rfl, rfl, Nat.zero_le _, Nat.zero_le _⟩
theorem Fit.int {k : Nat} {i : Int} (h : i.natAbs < 1000000000000) : Fit 40 k (.int i) := by
  have e : (10 : Nat) ^ 12 = 1000000000000 := by decide
  have hl : i.natAbs.log2 < 40 := by
    by_cases h0 : i.natAbs = 0
    · rw [h0]; decide
    · exact (Nat.log2_lt h0).mpr (Nat.lt_trans h (by decide))
  refine ⟨rfl, ?_, ?_, ?_, Nat.zero_le _⟩
  · simp only [PyData.intsShort, decide_eq_true_eq]
    exact PyData.shown_int_le (by omega)
  · simp only [PyData.showable, decide_eq_true_eq]; omega
  · simp only [PyData.weight]
    split
    · omega
    · omega
theorem Fit.str {k : Nat} {x : Str} (h : PyData.strOk x = true) : Fit x.length k (.str x) := ⟨by simpa [PyData.canLay0] using h, rfl, rfl, Nat.le_refl _, Nat.zero_le _⟩
structure FitAll (c k : Nat) (xs : List D) : Prop where
  lay : PyData.canLayAll0 xs = true
  sml : PyData.intsShortAll 13 xs = true
  shw : PyData.showableAll xs = true
  wt : PyData.weightAll xs ≤ c
  dp : PyData.depthAll xs ≤ k
theorem FitAll.nil {k : Nat} : FitAll 0 k [] := ⟨rfl, rfl, rfl, Nat.le_refl _, Nat.zero_le _⟩
theorem FitAll.cons {c c' k : Nat} {x : D} {xs : List D} (h : Fit c k x) (t : FitAll c' k xs) : FitAll (c + 1 + c') k (x :: xs) := by
  refine ⟨?_, ?_, ?_, ?_, ?_⟩
  · simp only [PyData.canLayAll0, h.lay, t.lay, Bool.and_self]
  · simp only [PyData.intsShortAll, h.sml, t.sml, Bool.and_self]
  · simp only [PyData.showableAll, h.shw, t.shw, Bool.and_self]
  · simp only [PyData.weightAll]
    have := h.wt; have := t.wt; omega
  · simp only [PyData.depthAll]
    exact Nat.max_le.mpr ⟨h.dp, t.dp⟩
theorem FitAll.of {c k : Nat} : ∀ {xs : List D}, (∀ x ∈ xs, Fit c k x) → FitAll (xs.length * (c + 1)) k xs
  | [], _ => by
    have := FitAll.nil (k := k)
    simpa using this
  | x :: xs, h => by
    have := (h x List.mem_cons_self).wt
    have r := FitAll.cons (h x List.mem_cons_self) (FitAll.of fun y m => h y (List.mem_cons_of_mem _ m))
    have e : c + 1 + xs.length * (c + 1) = (x :: xs).length * (c + 1) := by rw [List.length_cons, Nat.succ_mul, Nat.add_comm]
    rwa [e] at r
theorem FitAll.list {c k : Nat} {xs : List D} (h : FitAll c k xs) : Fit c (k + 1) (.list xs) := by
  refine ⟨?_, ?_, ?_, ?_, ?_⟩
  · simp only [PyData.canLay0, h.lay]
  · simp only [PyData.intsShort, h.sml]
  · simp only [PyData.showable, h.shw]
  · simp only [PyData.weight]; exact h.wt
  · simp only [PyData.depth]; exact Nat.succ_le_succ h.dp
theorem FitAll.tuple {c k : Nat} {xs : List D} (h : FitAll c k xs) : Fit c (k + 1) (.tuple xs) := by
  refine ⟨?_, ?_, ?_, ?_, ?_⟩
  · simp only [PyData.canLay0, h.lay]
  · simp only [PyData.intsShort, h.sml]
  · simp only [PyData.showable, h.shw]
  · simp only [PyData.weight]; exact h.wt
  · simp only [PyData.depth]; exact Nat.succ_le_succ h.dp
theorem FitAll.mono {c k c' k' : Nat} {d : List D} (h : FitAll c k d) (hc : c ≤ c') (hk : k ≤ k') : FitAll c' k' d := ⟨h.lay, h.sml, h.shw, Nat.le_trans h.wt hc, Nat.le_trans h.dp hk⟩
theorem Fit.shaped {c k : Nat} {d : D} (h : Fit c k d) (hk : k ≤ 64) : SeqAt.shaped d = true := by
  unfold SeqAt.shaped
  rw [h.lay, Bool.true_and]
  exact decide_eq_true (Nat.le_trans h.dp hk)
theorem Fit.len {c k : Nat} {d : D} (h : Fit c k d) (hc : c ≤ 60000) : d.shown.length ≤ 1000000 := by
  have l := PyData.shown_le 13 (by decide) d (PyData.leavesShort_of_canLay0 13 d h.lay h.sml)
  have := h.wt
  omega
theorem fRepr_of {c k : Nat} {d : D} {P : Rv → Prop} (h : Fit c k d) (hc : c ≤ 60000) (hk : k ≤ 64) (p : P (.sh (.str d.shown))) : fRepr [d] P := ⟨h.shw, h.shaped hk, h.len hc, p⟩
section
variable {k : Rv → Prop} {neg : Bool}
@[simp ↓] theorem fEq_s {x y : Str} : fEq neg (.str x) (.str y) k = k (.sh (.bool (if neg then !decide (x = y) else decide (x = y)))) := rfl
@[simp ↓] theorem fEq_i {i j : Int} : fEq neg (.int i) (.int j) k = k (.sh (.bool (if neg then !decide (i = j) else decide (i = j)))) := by
  have e : PyData.eqv (.int i) (.int j) = decide (i = j) := by simp only [PyData.eqv]; rfl
  show (SeqAt.shaped (.int i) = true ∧ SeqAt.shaped (.int j) = true ∧ _) = _
  rw [e]
  exact propext ⟨fun h => h.2.2, fun h => ⟨rfl, rfl, h⟩⟩
@[simp ↓] theorem fEq_b {i j : Bool} : fEq neg (.bool i) (.bool j) k = k (.sh (.bool (if neg then !decide (i = j) else decide (i = j)))) := by
  have e : PyData.eqv (.bool i) (.bool j) = decide (i = j) := by cases i <;> cases j <;> rfl
  show (SeqAt.shaped (.bool i) = true ∧ SeqAt.shaped (.bool j) = true ∧ _) = _
  rw [e]
  exact propext ⟨fun h => h.2.2, fun h => ⟨rfl, rfl, h⟩⟩
theorem fEq_of {d e : D} (hn : ∀ x y, d = .str x → e = .str y → False) (h1 : SeqAt.shaped d = true) (h2 : SeqAt.shaped e = true) (h : k (.sh (.bool (if neg then !PyData.eqv d e else PyData.eqv d e)))) : fEq neg d e k := by
  unfold fEq
  split
  · exact (hn _ _ rfl rfl).elim
  · exact ⟨h1, h2, h⟩
theorem fEq_tt {xs ys : List D} (h1 : SeqAt.shaped (.tuple xs) = true) (h2 : SeqAt.shaped (.tuple ys) = true) (h : k (.sh (.bool (if neg then !PyData.eqvAll xs ys else PyData.eqvAll xs ys)))) : fEq neg (.tuple xs) (.tuple ys) k := by
  refine fEq_of (fun _ _ e => nomatch e) h1 h2 ?_
  simp only [PyData.eqv]; exact h
theorem fEq_ll {xs ys : List D} (h1 : SeqAt.shaped (.list xs) = true) (h2 : SeqAt.shaped (.list ys) = true) (h : k (.sh (.bool (if neg then !PyData.eqvAll xs ys else PyData.eqvAll xs ys)))) : fEq neg (.list xs) (.list ys) k := by
  refine fEq_of (fun _ _ e => nomatch e) h1 h2 ?_
  simp only [PyData.eqv]; exact h
end
theorem eqvAll_ints : ∀ ns ms : List Int, PyData.eqvAll (ns.map .int) (ms.map .int) = decide (ns = ms)
  | [], [] => by simp [PyData.eqvAll]
  | [], _ :: _ => by simp [PyData.eqvAll]
  | _ :: _, [] => by simp [PyData.eqvAll]
  | n :: ns, m :: ms => by
    rw [List.map_cons, List.map_cons, PyData.eqvAll, eqvAll_ints ns ms]
    have e : PyData.eqv (.int n) (.int m) = decide (n = m) := by simp only [PyData.eqv]; rfl
    rw [e, ← Bool.decide_and]
    exact decide_eq_decide.mpr (by rw [List.cons.injEq])
/-- few ints -/
structure Few (ns : List Int) : Prop where
  len : ns.length ≤ 300
  sml : ∀ x ∈ ns, x.natAbs < 1000000000000
theorem Few.fitAll {ns : List Int} (h : Few ns) {k : Nat} : FitAll (ns.length * 41) k (ns.map .int) := by
  have := FitAll.of (c := 40) (k := k) (xs := ns.map .int) fun x m => by
    obtain ⟨i, mi, rfl⟩ := List.mem_map.mp m
    exact .int (h.sml i mi)
  rwa [List.length_map] at this
theorem Few.tup {ns : List Int} (h : Few ns) : Fit (ns.length * 41) 1 (.tuple (ns.map .int)) := h.fitAll.tuple
theorem Few.lst {ns : List Int} (h : Few ns) : Fit (ns.length * 41) 1 (.list (ns.map .int)) := h.fitAll.list
theorem Few.shT {ns : List Int} (h : Few ns) : SeqAt.shaped (.tuple (ns.map .int)) = true := h.tup.shaped (by decide)
theorem Few.shL {ns : List Int} (h : Few ns) : SeqAt.shaped (.list (ns.map .int)) = true := h.lst.shaped (by decide)
theorem fEq_ti {neg : Bool} {k : Rv → Prop} {ns ms : List Int} (h1 : Few ns) (h2 : Few ms) (h : k (.sh (.bool (if neg then !decide (ns = ms) else decide (ns = ms))))) : fEq neg (.tuple (ns.map .int)) (.tuple (ms.map .int)) k :=
  fEq_tt h1.shT h2.shT (by rw [eqvAll_ints]; exact h)
theorem fEq_li {neg : Bool} {k : Rv → Prop} {ns ms : List Int} (h1 : Few ns) (h2 : Few ms) (h : k (.sh (.bool (if neg then !decide (ns = ms) else decide (ns = ms))))) : fEq neg (.list (ns.map .int)) (.list (ms.map .int)) k :=
  fEq_ll h1.shL h2.shL (by rw [eqvAll_ints]; exact h)
/-! ### more of the meanings worked out -/
section
variable {k : Rv → Prop} {neg : Bool} {ρ : En} {P : Rv → En → Prop} {Q : En → Prop}
@[simp] theorem tyD_n : tyD .none = "NoneType" := rfl
@[simp] theorem tyD_b {b : Bool} : tyD (.bool b) = "bool" := rfl
@[simp] theorem tyD_i {b : Int} : tyD (.int b) = "int" := rfl
@[simp] theorem tyD_s {b : Str} : tyD (.str b) = "str" := rfl
@[simp] theorem tyD_l {b : List D} : tyD (.list b) = "list" := rfl
@[simp] theorem tyD_t {b : List D} : tyD (.tuple b) = "tuple" := rfl
@[simp] theorem isT_ap {t T : String} : isT t T = (t == T || (t == "bool" && T == "int")) := rfl
@[simp] theorem gLt_ap {i j : Int} : gLt i j = decide (i < j) := rfl
@[simp] theorem gLe_ap {i j : Int} : gLe i j = decide (i ≤ j) := rfl
@[simp] theorem gGt_ap {i j : Int} : gGt i j = decide (j < i) := rfl
@[simp] theorem gGe_ap {i j : Int} : gGe i j = decide (j ≤ i) := rfl
@[simp] theorem wipeE_nil : wipeE ρ [] = ρ := rfl
@[simp] theorem wipeE_cons {v : Nat} {vs : List Nat} : wipeE ρ (v :: vs) = (wipeE ρ vs).set v .un := rfl
def wK (s : Option Sl) : Sl := match s with
  | some (.sh d) => .sh d
  | _ => .un
@[simp] theorem wK_sh {d : D} : wK (some (.sh d)) = .sh d := rfl
@[simp] theorem wK_un : wK (some .un) = .un := rfl
@[simp] theorem wK_ow {o : OO} : wK (some (.ow o)) = .un := rfl
@[simp] theorem keepE_nil {ρ0 : En} : keepE ρ0 ρ [] = ρ := rfl
@[simp] theorem keepE_cons {ρ0 : En} {v : Nat} {vs : List Nat} : keepE ρ0 ρ (v :: vs) = (keepE ρ0 ρ vs).set v (wK ρ0[v]?) := rfl
@[simp ↓] theorem fAll_l {xs : List D} : fAll [.list xs] k = wS (bolsD xs) fun bs => k (.sh (.bool (bs.all id))) := rfl
@[simp ↓] theorem fAny_l {xs : List D} : fAny [.list xs] k = wS (bolsD xs) fun bs => k (.sh (.bool (bs.any id))) := rfl
@[simp ↓] theorem fSum_l {xs : List D} : fSum [.list xs] k = wS (intsD xs) fun bs => k (.sh (.int bs.sum)) := rfl
@[simp ↓] theorem fSrt_l {xs : List D} : fSrt [.list xs] k = wS (intsD xs) fun ns => k (.fr ((isort ns).map .int)) := rfl
@[simp ↓] theorem fSrt_t {xs : List D} : fSrt [.tuple xs] k = wS (intsD xs) fun ns => k (.fr ((isort ns).map .int)) := rfl
@[simp ↓] theorem fLenSet_t {xs : List D} : fLenSet [.tuple xs] k = wS (intsD xs) fun ns => ns.length ≤ 4000 ∧ k (.sh (.int ((dedupI ns).length : Nat))) := rfl
@[simp] theorem intsD_ints {ns : List Int} : intsD (ns.map .int) = some ns := intsD_map ns
@[simp] theorem bolsD_bools {ns : List Bool} : bolsD (ns.map .bool) = some ns := bolsD_map ns
@[simp] theorem bolsD_rep {n : Nat} {b : Bool} : bolsD (List.replicate n (.bool b)) = some (List.replicate n b) := by
  have := bolsD_map (List.replicate n b)
  rwa [List.map_replicate] at this
@[simp ↓] theorem fAdd_t {xs ys : List D} : fAdd (.tuple xs) (.tuple ys) k = (xs.length + ys.length ≤ 100000 ∧ k (.sh (.tuple (xs ++ ys)))) := rfl
@[simp ↓] theorem fAdd_l {xs ys : List D} : fAdd (.list xs) (.list ys) k = (xs.length + ys.length ≤ 100000 ∧ k (.fr (xs ++ ys))) := rfl
@[simp ↓] theorem mPotIx_0 {i : Nat} : mPotIx i 0 ρ P = (ρ[i]? = some .pot ∧ ∀ x : Int, 0 ≤ x → P (.sh (.int x)) ρ) := by
  unfold mPotIx
  exact propext ⟨fun ⟨h, g⟩ => ⟨h, g.elim (fun z => z.2) fun z => absurd z.1 (by decide)⟩, fun ⟨h, g⟩ => ⟨h, .inl ⟨rfl, g⟩⟩⟩
@[simp ↓] theorem mPotIx_1 {i : Nat} : mPotIx i 1 ρ P = (ρ[i]? = some .pot ∧ ∀ x : Int, 0 ≤ x → x < 2 ^ 62 → P (.sh (.int x)) ρ) := by
  unfold mPotIx
  exact propext ⟨fun ⟨h, g⟩ => ⟨h, g.elim (fun z => absurd z.1 (by decide)) fun z => z.2⟩, fun ⟨h, g⟩ => ⟨h, .inr ⟨rfl, g⟩⟩⟩
@[simp ↓] theorem gPot_0 {i : Nat} {x : Int} : gPot i 0 (.int x) ρ Q = (ρ[i]? = some .pot ∧ 0 ≤ x ∧ Q ρ) := by
  unfold gPot
  exact propext ⟨fun ⟨h, y, e, a, b, c⟩ => by cases e; exact ⟨h, a, c⟩, fun ⟨h, a, c⟩ => ⟨h, x, rfl, a, .inl rfl, c⟩⟩
@[simp ↓] theorem gPot_1 {i : Nat} {x : Int} : gPot i 1 (.int x) ρ Q = (ρ[i]? = some .pot ∧ 0 ≤ x ∧ x < 2 ^ 62 ∧ Q ρ) := by
  unfold gPot
  exact propext ⟨fun ⟨h, y, e, a, b, c⟩ => by cases e; exact ⟨h, a, b.elim (fun z => absurd z (by decide)) (fun z => z.2), c⟩, fun ⟨h, a, b, c⟩ => ⟨h, x, rfl, a, .inr ⟨rfl, b⟩, c⟩⟩
@[simp] theorem flatD_i {i : Int} : flatD (.int i) = true := rfl
@[simp] theorem flatD_s {i : Str} : flatD (.str i) = true := rfl
@[simp] theorem flatD_n : flatD .none = true := rfl
@[simp] theorem flatD_b {i : Bool} : flatD (.bool i) = true := rfl
@[simp] theorem flat_ints {ns : List Int} : (ns.map PyData.int).all flatD = true := by
  rw [List.all_eq_true]
  intro x m
  obtain ⟨i, _, rfl⟩ := List.mem_map.mp m
  rfl
theorem idxD_ints {ns : List Int} {x : Int} (h : x ∈ ns) : idxD (ns.map .int) (.int x) = some (ns.idxOf x) := by
  unfold idxD
  rw [List.findIdx?_map]
  have e : ((fun z => PyData.eqv z (.int x)) ∘ PyData.int) = fun z => z == x := by
    funext z; simp [PyData.eqv]
  rw [e, List.findIdx?_eq_some_iff_findIdx_eq]
  exact ⟨List.idxOf_lt_length_iff.mpr h, rfl⟩
theorem atI_ints {ns : List Int} {i : Int} : atI (ns.map PyData.int) i = (atI ns i).map .int := by
  unfold atI
  rw [List.length_map]
  cases ixN ns.length i with
  | none => rfl
  | some j => exact List.getElem?_map
theorem atI_n {α : Type} {xs : List α} {j : Nat} : atI xs (j : Int) = xs[j]? := by
  by_cases h : j < xs.length
  · exact L2.atI_nat (List.getElem?_eq_getElem h) |>.trans (List.getElem?_eq_getElem h).symm
  · rw [List.getElem?_eq_none (by omega)]
    unfold atI
    have e : ixN xs.length (j : Int) = none := by
      unfold ixN
      rw [if_pos (by omega), if_neg (by omega)]
    rw [e]; rfl
theorem fIn_l {d : D} {ds : List D} : fIn neg d (.list ds) k = (SeqAt.shaped d = true ∧ SeqAt.shaped (.list ds) = true ∧ k (.sh (.bool (if neg then !ds.any (fun z => PyData.eqv z d) else ds.any fun z => PyData.eqv z d)))) := rfl
theorem fIn_t {d : D} {ds : List D} : fIn neg d (.tuple ds) k = (flatD d = true ∧ ds.all flatD = true ∧ k (.sh (.bool (if neg then !ds.any (fun z => PyData.eqv z d) else ds.any fun z => PyData.eqv z d)))) := rfl
@[simp] theorem shaped_i {i : Int} : SeqAt.shaped (.int i) = true := rfl
@[simp] theorem shaped_n : SeqAt.shaped .none = true := rfl
@[simp] theorem shaped_b {i : Bool} : SeqAt.shaped (.bool i) = true := rfl
theorem any_ints {ns : List Int} {x : Int} : ((ns.map PyData.int).any fun z => PyData.eqv z (.int x)) = decide (x ∈ ns) := by
  induction ns with
  | nil => rfl
  | cons n ns ih =>
    rw [List.map_cons, List.any_cons, ih]
    have e : PyData.eqv (.int n) (.int x) = decide (x = n) := by
      have e0 : PyData.eqv (.int n) (.int x) = decide (n = x) := by simp only [PyData.eqv]; rfl
      rw [e0]
      exact decide_eq_decide.mpr ⟨Eq.symm, Eq.symm⟩
    rw [e, ← Bool.decide_or]
    exact decide_eq_decide.mpr List.mem_cons.symm
/-- x in a list of ints -/
theorem fIn_ints {ns : List Int} {x : Int} (h : Few ns) (q : k (.sh (.bool (if neg then !decide (x ∈ ns) else decide (x ∈ ns))))) : fIn neg (.int x) (.list (ns.map .int)) k :=
  ⟨rfl, h.shL, by rw [any_ints]; exact q⟩
theorem fIn_intsT {ns : List Int} {x : Int} (q : k (.sh (.bool (if neg then !decide (x ∈ ns) else decide (x ∈ ns))))) : fIn neg (.int x) (.tuple (ns.map .int)) k :=
  ⟨rfl, flat_ints, by rw [any_ints]; exact q⟩
end
/-! ### while -/
@[simp ↓] theorem mWhile_ap {u : MT} {s : MS} {E : DEnds} {ρ : En} : mWhile u s E ρ = ∃ n, mWhileN u s E n ρ := rfl
theorem while_n {u : MT} {s : MS} {E : DEnds} (I : Nat → En → Prop) (hs : ∀ k ρ, I k ρ → ∀ Q : En → Prop, (∀ j, k = j + 1 → ∀ ρ', I j ρ' → Q ρ') → u ρ fun b ρ1 => wIf b (s { nx := Q, rt := E.rt, bk := E.nx, ct := Q } ρ1) (E.nx ρ1)) : ∀ k ρ, I k ρ → mWhileN u s E (k + 1) ρ
  | 0, ρ, h => hs 0 ρ h _ fun j e => (nomatch e)
  | k + 1, ρ, h => hs (k + 1) ρ h _ fun j e ρ' h' => by
    have e' : j = k := (Nat.succ.inj e).symm
    subst e'
    exact while_n I hs j ρ' h'
theorem while_of {u : MT} {s : MS} {E : DEnds} {ρ : En} (I : Nat → En → Prop) (k : Nat) (h : I k ρ) (hs : ∀ k ρ, I k ρ → ∀ Q : En → Prop, (∀ j, k = j + 1 → ∀ ρ', I j ρ' → Q ρ') → u ρ fun b ρ1 => wIf b (s { nx := Q, rt := E.rt, bk := E.nx, ct := Q } ρ1) (E.nx ρ1)) : ∃ n, mWhileN u s E n ρ := ⟨k + 1, while_n I hs k ρ h⟩
end Dv
namespace Dv
open PySem PySem.Spec
open L2 (atI ixN)
def wScr (s : Option Sl) (k : List Int → Prop) : Prop := match s with
  | some (.scr ns) => k ns
  | _ => False
@[simp ↓] theorem wScr_s {ns : List Int} {k : List Int → Prop} : wScr (some (.scr ns)) k = k ns := rfl
def wFr (r : Rv) (k : List D → Prop) : Prop := ∃ d, r = .fr d ∧ k d
@[simp ↓] theorem wFr_f (d : List D) (k : List D → Prop) : wFr (.fr d) k = k d := by
  refine propext ⟨fun ⟨x, e, h⟩ => ?_, fun h => ⟨d, rfl, h⟩⟩
  cases e; exact h
def wLL (s : Option Sl) (k : List (List D) → Prop) : Prop := match s with
  | some (.ow (.ll xss)) => k xss
  | _ => False
@[simp ↓] theorem wLL_l {xss : List (List D)} {k : List (List D) → Prop} : wLL (some (.ow (.ll xss))) k = k xss := rfl
section
variable {ρ : En} {P : Rv → En → Prop} {E : DEnds} {m : ME} {a : MA} {k : Rv → Prop} {i : Nat}
@[simp ↓] theorem mScrLen_ap : mScrLen i ρ P = wScr ρ[i]? fun ns => P (.sh (.int (ns.length : Nat))) ρ := by
  unfold mScrLen
  generalize ρ[i]? = s
  cases s with
  | none => rfl
  | some s => cases s <;> rfl
@[simp ↓] theorem mScrIx_ap : mScrIx i m ρ P = wScr ρ[i]? fun ns => m ρ fun r ρ' => wSh r fun x => wI x fun j => wS (atI ns j) fun z => P (.sh (.int z)) ρ' := by
  unfold mScrIx
  generalize ρ[i]? = s
  cases s with
  | none => rfl
  | some s =>
    cases s with
    | scr ns =>
      show m ρ _ = m ρ _
      congr; funext r ρ'
      unfold wSh wI wS
      exact propext ⟨fun ⟨j, z, e, h1, h2⟩ => ⟨_, e, j, rfl, z, h1, h2⟩, fun ⟨x, e, j, e2, z, h1, h2⟩ => ⟨j, z, e.trans (by rw [e2]), h1, h2⟩⟩
    | _ => rfl
@[simp ↓] theorem mCallS_ap {G : List Int → DF} : mCallS i G a ρ P = wScr ρ[i]? fun ns => a ρ fun rs ρ' => rs.any isBw = false ∧ wS (datAll ρ' rs) fun ds => G ns ds fun r => isBw r = false ∧ P r ρ' := by
  unfold mCallS
  generalize ρ[i]? = s
  cases s with
  | none => rfl
  | some s => cases s <;> rfl
@[simp ↓] theorem mItS_ap' {PI : List D → En → Prop} : mItS i ρ PI = wScr ρ[i]? fun ns => PI (ns.map .int) ρ := by
  unfold mItS
  generalize ρ[i]? = s
  cases s with
  | none => rfl
  | some s => cases s <;> rfl
@[simp ↓] theorem mCallPF_ap {G : DF} : mCallPF G m a ρ P = m ρ fun r ρ1 => wFr r fun xs => potD xs ∧ a ρ1 fun rs ρ' => rs.any isBw = false ∧ wS (datAll ρ' rs) fun ds => G ds fun r => isBw r = false ∧ P r ρ' := rfl
@[simp ↓] theorem mCallPO_ap {G : DF} : mCallPO i G a ρ P = (wL ρ[i]? potD ∧ a ρ fun rs ρ' => wL ρ'[i]? potD ∧ rs.any isBw = false ∧ wS (datAll ρ' rs) fun ds => G ds fun r => isBw r = false ∧ ∀ k l : Int, potD [.int k, .int l] → P r (ρ'.set i (.ow (.lst [.int k, .int l])))) := rfl
@[simp] theorem potD_i {x y : Int} : potD [.int x, .int y] = (0 ≤ x ∧ 0 ≤ y ∧ y < 2 ^ 62) := rfl
@[simp] theorem frAll_nil : frAll [] = some [] := rfl
@[simp] theorem frAll_cons {xs : List D} {rs : List Rv} : frAll (.fr xs :: rs) = (frAll rs).map (xs :: ·) := rfl
@[simp ↓] theorem mSetLL_ap : mSetLL i a E ρ = a ρ fun rs ρ' => wS (frAll rs) fun xss => xss.length ≤ 100000 ∧ E.nx (ρ'.set i (.ow (.ll xss))) := rfl
@[simp ↓] theorem mReprLL_ap : mReprLL i ρ P = wLL ρ[i]? fun xss => fRepr [.list (xss.map .list)] fun r => P r ρ := by
  unfold mReprLL ownLL
  generalize ρ[i]? = s
  cases s with
  | none => rfl
  | some s => cases s with
    | ow o => cases o <;> rfl
    | _ => rfl
theorem ownLL_w {k : List (List D) → Prop} : ownLL ρ i k = wLL ρ[i]? k := by
  unfold ownLL
  generalize ρ[i]? = s
  cases s with
  | none => rfl
  | some s => cases s with
    | ow o => cases o <;> rfl
    | _ => rfl
@[simp ↓] theorem mAppLL_ap {mx : ME} {f : En → Option D} : mAppLL i mx f ρ P = wLL ρ[i]? fun _ => mx ρ fun r ρ1 => wSh r fun x => wI x fun k => wLL ρ1[i]? fun xss => wS (ixN xss.length k) fun j => wS xss[j]? fun xs => wS (f ρ1) fun d => xs.length < 100000 ∧ P (.sh .none) (ρ1.set i (.ow (.ll (xss.set j (xs ++ [d]))))) := by
  unfold mAppLL
  rw [ownLL_w]
  congr; funext _; congr; funext r ρ1
  unfold wSh wI wS
  refine propext ⟨fun ⟨k, e, h⟩ => ⟨_, e, k, rfl, ?_⟩, fun ⟨x, e, k, e2, h⟩ => ⟨k, e.trans (by rw [e2]), ?_⟩⟩
  · rw [ownLL_w] at h
    refine (congrArg (wLL ρ1[i]?) (funext fun xss => propext ⟨fun ⟨j, xs, d, h1, h2, h3, h4⟩ => ⟨j, h1, xs, h2, d, h3, h4⟩, fun ⟨j, h1, xs, h2, d, h3, h4⟩ => ⟨j, xs, d, h1, h2, h3, h4⟩⟩)).mp h
  · rw [ownLL_w]
    refine (congrArg (wLL ρ1[i]?) (funext fun xss => propext ⟨fun ⟨j, h1, xs, h2, d, h3, h4⟩ => ⟨j, xs, d, h1, h2, h3, h4⟩, fun ⟨j, xs, d, h1, h2, h3, h4⟩ => ⟨j, h1, xs, h2, d, h3, h4⟩⟩)).mp h
@[simp ↓] theorem fPow_i {x y : Int} : fPow (.int x) (.int y) k = ((0 ≤ y ∧ y ≤ 1000000 ∧ x.natAbs < 2 ^ 64) ∧ k (.sh (.int (x ^ y.toNat)))) := rfl
@[simp] theorem isNone_n : isNone .none = true := rfl
@[simp] theorem isNone_i {x : Int} : isNone (.int x) = false := rfl
@[simp] theorem isNone_t {x : List D} : isNone (.tuple x) = false := rfl
@[simp] theorem isNone_l {x : List D} : isNone (.list x) = false := rfl
@[simp ↓] theorem fIsN_ap {neg : Bool} {d : D} : fIsN neg d .none k = k (.sh (.bool (if neg then !isNone d else isNone d))) := propext ⟨fun h => h.2, fun h => ⟨rfl, h⟩⟩
theorem cut_from (xs : List D) (n : Nat) : cutD xs (some (n : Int)) none = xs.drop n := by
  unfold cutD
  rw [HT.sIx_none, HT.sIx_nat]
  by_cases h : n ≤ xs.length
  · rw [Nat.min_eq_left h, List.take_of_length_le (by rw [List.length_drop]; exact Nat.le_refl _)]
  · rw [Nat.min_eq_right (by omega), List.drop_eq_nil_of_le (Nat.le_refl _), List.drop_eq_nil_of_le (by omega)]; simp
theorem cut_to (xs : List D) (n : Nat) : cutD xs none (some (n : Int)) = xs.take n := by
  unfold cutD
  rw [HT.sIx_none, HT.sIx_nat, List.drop_zero, Nat.sub_zero]
  by_cases h : n ≤ xs.length
  · rw [Nat.min_eq_left h]
  · rw [Nat.min_eq_right (by omega), List.take_of_length_le (Nat.le_refl _), List.take_of_length_le (by omega)]
@[simp] theorem atI_0 {α : Type} {x : α} {xs : List α} : atI (x :: xs) 0 = some x := atI_n (j := 0)
@[simp] theorem atI_1 {α : Type} {x y : α} {xs : List α} : atI (x :: y :: xs) 1 = some y := atI_n (j := 1)
@[simp] theorem atI_2 {α : Type} {x y z : α} {xs : List α} : atI (x :: y :: z :: xs) 2 = some z := atI_n (j := 2)
@[simp] theorem bolsD_nil : bolsD [] = some [] := rfl
@[simp] theorem bolsD_cons {b : Bool} {ds : List D} : bolsD (.bool b :: ds) = (bolsD ds).map (b :: ·) := rfl
@[simp] theorem intsD_nil : intsD [] = some [] := rfl
@[simp] theorem intsD_cons {b : Int} {ds : List D} : intsD (.int b :: ds) = (intsD ds).map (b :: ·) := rfl
end
end Dv
namespace Dv
open PySem PySem.Spec L2
/-! ### zip -/
def zipD (xs ys : List D) : List D := List.zipWith (fun x y => PyData.tuple [x, y]) xs ys
theorem zipD_len (xs ys : List D) : (zipD xs ys).length = min xs.length ys.length := by unfold zipD; rw [List.length_zipWith]
theorem zipD_get {xs ys : List D} {i : Nat} {d : D} (h : (zipD xs ys)[i]? = some d) : ∃ x y, xs[i]? = some x ∧ ys[i]? = some y ∧ d = .tuple [x, y] := by
  unfold zipD at h
  rw [List.getElem?_zipWith] at h
  cases e1 : xs[i]? with
  | none => rw [e1] at h; cases h
  | some x =>
    cases e2 : ys[i]? with
    | none => rw [e1, e2] at h; cases h
    | some y => rw [e1, e2] at h; cases h; exact ⟨x, y, rfl, rfl, rfl⟩
def wZ (rs : List Rv) (k : List D → List D → Prop) : Prop := (∃ xs ys, rs = [.sh (.tuple xs), .sh (.tuple ys)] ∧ k xs ys) ∨ ∃ xs ys, shdAll rs = some [.list xs, .list ys] ∧ k xs ys
def mZip (m : MA) : MI := fun ρ P => m ρ fun rs ρ' => wZ rs fun xs ys => P (zipD xs ys) ρ'
section
variable {K : PySem.W.Frag} {U : List Addr} {H : Hp} {a b : Addr} {vs ws : List V} {xs ys : List D}
theorem yd_new {U' : List Addr} {H' : Hp} {T : Addr} {v w : V} {x y : D} (lv : ∀ a ∈ U', ∃ o, H' a = some o) (n : H' T = none) (h1 : Dq K (cut U' H') v x) (h2 : Dq K (cut U' H') w y) : Same H' (upd H' T (.tup [v, w])) ∧ Yd K (cut U' (upd H' T (.tup [v, w]))) (.ref T) (.tuple [x, y]) := by
  have c := cut_new (o := .tup [v, w]) lv n
  exact ⟨same_new n, .tp (SqT.of (cut_of (nuL lv n) upd_same)) (.cons (dp_mono c h1) (.cons (dp_mono c h2) .nil))⟩
theorem sqt_cut {H : Hp} (h : SqT K (cut U H) a vs) : SqT K H a vs := by
  rcases h with (z | ⟨o, z⟩) | z
  · exact .inl (.inl (cut_le _ _ z))
  · exact .inl (.inr ⟨o, cut_le _ _ z⟩)
  · exact .inr z
theorem sqt_same {H H' : Hp} (s : Same H H') (h : SqT K H a vs) : SqT K H' a vs := by
  rcases h with (z | ⟨o, z⟩) | z
  · exact .inl (.inl (s _ _ z))
  · exact .inl (.inr ⟨o, s _ _ z⟩)
  · exact .inr z
theorem zipT_ok (h1 : SqT K (cut U H) a vs) (t1 : DqAll K (cut U H) vs xs) (h2 : SqT K (cut U H) b ws) (t2 : DqAll K (cut U H) ws ys) : ItOk K true U H (RZ.ItzT K a b) (zipD xs ys) := by
  have p1 : ∀ {U' H'}, Same (cut U H) (cut U' H') → SqT K H' a vs := fun {U' H'} s => sqt_cut (sqt_same s h1)
  have p2 : ∀ {U' H'}, Same (cut U H) (cut U' H') → SqT K H' b ws := fun {U' H'} s => sqt_cut (sqt_same s h2)
  refine ⟨fun U' H' s lv i hi => ?_, fun U' H' s lv i d x H2 hd y => ?_, fun U' H' s lv => ⟨vs, ws, p1 s, p2 s, ?_⟩⟩
  · rw [zipD_len] at hi
    have l1 : i < vs.length := by rw [dpAll_len t1]; omega
    have l2 : i < ws.length := by rw [dpAll_len t2]; omega
    exact ⟨vs, ws, _, _, p1 s, p2 s, List.getElem?_eq_getElem l1, List.getElem?_eq_getElem l2⟩
  · obtain ⟨T, v, w, rfl, n, rfl, q1, q2⟩ := y
    obtain ⟨d1, d2, e1, e2, rfl⟩ := zipD_get hd
    obtain ⟨v', g1, k1⟩ := dpAll_get t1 e1
    obtain ⟨w', g2, k2⟩ := dpAll_get t2 e2
    have r1 := q1 vs (p1 s)
    have r2 := q2 ws (p2 s)
    rw [g1] at r1; cases r1
    rw [g2] at r2; cases r2
    exact yd_new lv n (dp_mono s k1) (dp_mono s k2)
  · rw [zipD_len, dpAll_len t1, dpAll_len t2]
    omega
theorem zipL_ok (h1 : SqL K (cut U H) a vs) (t1 : DqAll K (cut U H) vs xs) (h2 : SqL K (cut U H) b ws) (t2 : DqAll K (cut U H) ws ys) : ItOk K true U H (Itz K a b) (zipD xs ys) := by
  have p1 : ∀ {U' H'}, Same (cut U H) (cut U' H') → SqL K H' a vs := fun {U' H'} s => Same.seq cut_le (Same.seq s h1)
  have p2 : ∀ {U' H'}, Same (cut U H) (cut U' H') → SqL K H' b ws := fun {U' H'} s => Same.seq cut_le (Same.seq s h2)
  refine ⟨fun U' H' s lv i hi => ?_, fun U' H' s lv i d x H2 hd y => ?_, fun U' H' s lv => ⟨vs, ws, p1 s, p2 s, ?_⟩⟩
  · rw [zipD_len] at hi
    have l1 : i < vs.length := by rw [dpAll_len t1]; omega
    have l2 : i < ws.length := by rw [dpAll_len t2]; omega
    exact ⟨vs, ws, _, _, p1 s, p2 s, List.getElem?_eq_getElem l1, List.getElem?_eq_getElem l2⟩
  · obtain ⟨T, v, w, rfl, n, rfl, q1, q2⟩ := y
    obtain ⟨d1, d2, e1, e2, rfl⟩ := zipD_get hd
    obtain ⟨v', g1, k1⟩ := dpAll_get t1 e1
    obtain ⟨w', g2, k2⟩ := dpAll_get t2 e2
    have r1 := q1 vs (p1 s)
    have r2 := q2 ws (p2 s)
    rw [g1] at r1; cases r1
    rw [g2] at r2; cases r2
    exact yd_new lv n (dp_mono s k1) (dp_mono s k2)
  · rw [zipD_len, dpAll_len t1, dpAll_len t2]
    omega
end
section
variable {X : Cx} {e e2 : Expr} {mr : MA} {p pos tpos : Pos} {elts : List Expr} {kk : Nat}
theorem wi_zip (hm : X.mg "zip" = none) (ha : DA X [e, e2] mr) (hg : Gl X "zip" := by rfl) (hs : starEach [e, e2] X.env = (false, eval e X.env) :: starEach [e2] X.env := by rfl) (hpl : (backTo pos (starEach [e2] X.env)).any (·.1) = false := by rfl) :
    DI X (.Tuple elts kk tpos) (.Call (.Name "zip" p) [e, e2] [] pos) true (mZip mr) := ⟨fun B => pi_imp (RZ.pi_zipA hg hm (ha.run B) hs hpl) fun σ H R ⟨U, W, ρ, P, S, p, q⟩ => ⟨U, W, ρ, _, S, p, fun rs ρ' vs H' p' R' a' k => by
  rcases p' with ⟨xs, ys, rfl, p'⟩ | ⟨xs, ys, er, p'⟩
  · match vs, k with
    | [v, w], ⟨k1, k2, _⟩ =>
      have d1 : Dq X.K (cut U H') v (.tuple xs) := k1
      have d2 : Dq X.K (cut U H') w (.tuple ys) := k2
      cases d1 with
      | tup z1 t1 => cases d2 with
        | tup z2 t2 => exact ⟨_, _, _, _, rfl, .inr ⟨(z1.mono cut_le).sq, (z2.mono cut_le).sq, q _ _ _ _ p' R' a' (zipT_ok z1.sq t1 z2.sq t2)⟩⟩
  · have t := k.shared S er
    cases t with
    | cons d1 t => cases t with
      | cons d2 t =>
        cases t
        cases d1 with
        | lst z1 t1 => cases d2 with
          | lst z2 t2 => exact ⟨_, _, _, _, rfl, .inl ⟨SqL.of (cut_le _ _ z1), SqL.of (cut_le _ _ z2), q _ _ _ _ p' R' a' (zipL_ok (SqL.of z1) t1 (SqL.of z2) t2)⟩⟩⟩⟩
end
@[simp ↓] theorem mZip_ap {a : MA} {ρ : En} {PI : List D → En → Prop} : mZip a ρ PI = a ρ fun rs ρ' => wZ rs fun xs ys => PI (zipD xs ys) ρ' := rfl
@[simp ↓] theorem wZ_t {xs ys : List D} {k : List D → List D → Prop} : wZ [.sh (.tuple xs), .sh (.tuple ys)] k = k xs ys := by
  refine propext ⟨fun h => ?_, fun h => .inl ⟨xs, ys, rfl, h⟩⟩
  rcases h with ⟨x, y, e, h⟩ | ⟨x, y, e, h⟩
  · cases e; exact h
  · cases e
end Dv
namespace Dv
open PySem PySem.Spec L2
/-! ### < of ints, of tuples of ints -/
def fLt (d e : D) (P : Rv → Prop) : Prop := match d, e with
  | .int i, .int j => pB P (decide (i < j))
  | .tuple xs, .tuple ys => ∃ ns ms, intsD xs = some ns ∧ intsD ys = some ms ∧ pB P (HT.lexLt ns ms)
  | _, _ => False
def rLtA (K : PySem.W.Frag) : R2 := fun x y H Q => (rI0 fun i j => .bl (decide (i < j))) x y H Q ∨ rLtT K x y H Q
theorem op_ltA {X : Cx} (hu : X.A.units + 65 < cLine) : OpR X (compareOp .Lt) (rLtA X.K) := op_lt.or (op_ltT (by omega))
theorem d_ltA {K : PySem.W.Frag} : OpD K (rLtA K) fLt := fun U σ H x y d e P Q lv hx hy p q => by
  unfold fLt at p
  split at p
  · rw [hx.int, hy.int]
    exact .inl ⟨_, _, rfl, rfl, rv_scal p (fun _ => .bl _) q⟩
  · obtain ⟨ns, ms, e1, e2, p⟩ := p
    obtain ⟨a, vs, rfl, h1, h2⟩ := hx.tuple
    obtain ⟨b, ws, rfl, h3, h4⟩ := hy.tuple
    have v1 := intsD_v h2 e1
    have v2 := intsD_v h4 e2
    exact .inr ⟨a, b, ns, ms, rfl, rfl, by rw [← v1]; exact h1, by rw [← v2]; exact h3, rv_scal p (fun _ => .bl _) q⟩
  · exact p.elim
section
variable {X : Cx} {a b : Expr} {pos : Pos} {ma mb : ME}
theorem w_ltA (hu : X.A.units + 65 < cLine) (ha : DE X a ma) (hb : DE X b mb) : DE X (.Compare a [.Lt] [b] pos) (mBin fLt ma mb) := de_bin (fun h k => pe_cmpR (op_ltA hu) h k (nomark _)) d_ltA ha hb
theorem wt_ltA (hu : X.A.units + 65 < cLine) (ha : DE X a ma) (hb : DE X b mb) : DT X (.Compare a [.Lt] [b] pos) (mTest (mBin fLt ma mb)) := dt_bin (fun h k => pt_cmpR (op_ltA hu) h k (nomark _)) d_ltA ha hb
end
@[simp ↓] theorem fLt_i {i j : Int} {k : Rv → Prop} : fLt (.int i) (.int j) k = k (.sh (.bool (decide (i < j)))) := rfl
theorem fLt_t {ns ms : List Int} {k : Rv → Prop} (q : k (.sh (.bool (HT.lexLt ns ms)))) : fLt (.tuple (ns.map .int)) (.tuple (ms.map .int)) k := ⟨ns, ms, intsD_map ns, intsD_map ms, q⟩
/-! ### sorted(set(pairs)) -/
def pcode (p : Int × Int) : Int := p.1 * 64 + p.2
def pdec (n : Int) : Int × Int := (n / 64, n % 64)
def pairD (p : Int × Int) : D := .tuple [.int p.1, .int p.2]
def srtP (ps : List (Int × Int)) : List (Int × Int) := (isort (dedupI (ps.map pcode))).map pdec
def InP (p : Int × Int) : Prop := 0 ≤ p.1 ∧ p.1 < 64 ∧ 0 ≤ p.2 ∧ p.2 < 64
theorem pdec_code {p : Int × Int} (h : InP p) : pdec (pcode p) = p := by
  obtain ⟨h1, h2, h3, h4⟩ := h
  unfold pdec pcode
  ext
  · show (p.1 * 64 + p.2) / 64 = p.1
    omega
  · show (p.1 * 64 + p.2) % 64 = p.2
    omega
def rSS (K : PySem.W.Frag) (P : Program) (w : World) : List V → Hp → VK → Prop := fun xs H Q => rSetOfT K P w xs H fun y H2 => rSortedT K P w [y] H2 Q
def k2 : List Int → Int × Int
  | [x, y] => (x, y)
  | _ => (0, 0)
theorem pcode_code {x y : Int} : TS.code 64 [x, y] = pcode (x, y) := by rw [code_pair]; rfl
theorem pcode_inj {p q : Int × Int} (h : InP p) (k : InP q) (e : pcode p = pcode q) : p = q := by rw [← pdec_code h, ← pdec_code k, e]
theorem pairs_at {K : PySem.W.Frag} {Hs : Hp} : ∀ {vs : List V} {ps : List (Int × Int)}, DqAll K Hs vs (ps.map pairD) → ∃ ks : List (Addr × List Int), vs = ks.map (fun p => V.ref p.1) ∧ ks.map (·.2) = ps.map (fun p => [p.1, p.2]) ∧ ∀ p ∈ ks, FT K Hs p.1 (p.2.map V.int)
  | [], [], _ => ⟨[], rfl, rfl, fun _ m => nomatch m⟩
  | v :: vs, p :: ps, h => by
    cases h with
    | cons h t =>
      obtain ⟨ks, e1, e2, f⟩ := pairs_at t
      cases h with
      | tup z t2 =>
        have := dq_ii t2
        subst this
        refine ⟨(_, [p.1, p.2]) :: ks, by rw [List.map_cons, ← e1], by rw [List.map_cons, List.map_cons, e2], fun q m => ?_⟩
        rcases List.mem_cons.mp m with e | m
        · subst e; exact z
        · exact f q m
  | [], _ :: _, h => nomatch h
  | _ :: _, [], h => nomatch h
/-- the sorted distinct ones, by their codes -/
theorem srt_keys {ps : List (Int × Int)} {L : List (List Int)} (hp : ∀ p ∈ ps, InP p) (h1 : ∀ k ∈ L, ∃ p ∈ ps, k = [p.1, p.2]) (h2 : ∀ p ∈ ps, [p.1, p.2] ∈ L) (nd : L.Nodup) (so : L.Pairwise fun q r => TS.code 64 q ≤ TS.code 64 r) : L.map k2 = srtP ps := by
  have ck : ∀ k ∈ L, TS.code 64 k = pcode (k2 k) := fun k m => by
    obtain ⟨p, _, rfl⟩ := h1 k m
    rw [pcode_code]; rfl
  have dk : ∀ k ∈ L, pdec (TS.code 64 k) = k2 k := fun k m => by
    obtain ⟨p, mp, rfl⟩ := h1 k m
    rw [pcode_code]
    exact pdec_code (hp p mp)
  have pm : (L.map (TS.code 64)).Perm (dedupI (ps.map pcode)) := by
    refine (List.perm_ext_iff_of_nodup ?_ (dedupI_nodup _)).mpr fun c => ?_
    · refine List.pairwise_map.mpr (List.Pairwise.imp_of_mem (fun {k l} mk ml n e => n ?_) nd)
      obtain ⟨p, mp, rfl⟩ := h1 k mk
      obtain ⟨q, mq, rfl⟩ := h1 l ml
      rw [pcode_code, pcode_code] at e
      have := pcode_inj (hp p mp) (hp q mq) e
      rw [this]
    · rw [dedupI_mem]
      constructor
      · intro m
        obtain ⟨k, mk, rfl⟩ := List.mem_map.mp m
        obtain ⟨p, mp, rfl⟩ := h1 k mk
        exact List.mem_map.mpr ⟨p, mp, pcode_code.symm⟩
      · intro m
        obtain ⟨p, mp, rfl⟩ := List.mem_map.mp m
        exact List.mem_map.mpr ⟨_, h2 p mp, pcode_code⟩
  have es : L.map (TS.code 64) = isort (dedupI (ps.map pcode)) := isort_eq pm (List.pairwise_map.mpr so)
  unfold srtP
  rw [← es, List.map_map]
  exact List.map_congr_left fun k m => (dk k m).symm
theorem pairs_dq {K : PySem.W.Frag} {Hs Hs' : Hp} (c : Same Hs Hs') : ∀ {L : List (Addr × List Int)}, (∀ q ∈ L, FT K Hs q.1 (q.2.map V.int) ∧ ∃ z : Int × Int, q.2 = [z.1, z.2]) → DqAll K Hs' (L.map fun q => V.ref q.1) ((L.map (k2 ∘ fun q => q.2)).map pairD)
  | [], _ => .nil
  | q :: L, h => by
    obtain ⟨f, z, e⟩ := h q List.mem_cons_self
    have f' := f.mono c
    rw [e] at f'
    refine .cons ?_ (pairs_dq c fun r m => h r (List.mem_cons_of_mem _ m))
    show Dq K Hs' (.ref q.1) (pairD (k2 q.2))
    rw [e]
    exact .tup f' (.cons (.int _) (.cons (.int _) .nil))
def fSortSetP (ds : List D) (P : Rv → Prop) : Prop := match ds with
  | [.list xs] => ∃ ps : List (Int × Int), xs = ps.map pairD ∧ ps.length < 64 ∧ (∀ p ∈ ps, InP p) ∧ P (.fr ((srtP ps).map pairD))
  | _ => False
theorem d_sortSetP {K : PySem.W.Frag} {P : Program} {w : World} : OpDC K (rSS K P w) fSortSetP := fun U σ H xs ds Pr Q lv hx p q => by
  unfold fSortSetP at p
  split at p
  · obtain ⟨ps, rfl, hl, hin, p⟩ := p
    obtain ⟨v, rfl, h⟩ := dtAll1 hx
    obtain ⟨a, vs, rfl, h1, h2⟩ := h.list
    obtain ⟨ks, e1, e2, ft⟩ := pairs_at h2
    subst e1
    have lk : ks.length = ps.length := by
      have := congrArg List.length e2
      rwa [List.length_map, List.length_map] at this
    have key : ∀ p ∈ ks, ∃ z ∈ ps, p.2 = [z.1, z.2] := fun p m => by
      have : p.2 ∈ ps.map fun p => [p.1, p.2] := e2 ▸ List.mem_map_of_mem m
      obtain ⟨z, mz, e⟩ := List.mem_map.mp this
      exact ⟨z, mz, e.symm⟩
    refine ⟨a, ks, rfl, SqL.of h1, fun p m => ((ft p m).mono cut_le).sq, by omega, fun b L nb sub cov => ?_⟩
    have sm : Same H (upd H b (SetTO P w b L)) := same_new nb
    refine ⟨b, L, 2, 64, rfl, upd_same, fun p m => sqt_same sm ((ft p (sub p m)).mono cut_le).sq, by omega, fun p m => ?_, fun L' c pm nd _ so nc => ?_⟩
    · obtain ⟨z, mz, e⟩ := key p (sub p m)
      have := hin z mz
      unfold InP at this
      refine ⟨by rw [e]; rfl, fun y my => ?_⟩
      rw [e] at my
      rcases List.mem_cons.mp my with e | my
      · omega
      · rcases List.mem_cons.mp my with e | my
        · omega
        · cases my
    · have inK : ∀ p ∈ L', p ∈ ks := fun p m => sub p (pm.mem_iff.mp m)
      have sk := srt_keys (ps := ps) (L := L'.map (·.2)) hin (fun k mk => by
        obtain ⟨p, mp, rfl⟩ := List.mem_map.mp mk
        exact key p (inK p mp)) (fun z mz => by
        have : [z.1, z.2] ∈ ks.map (·.2) := e2 ▸ List.mem_map_of_mem (f := fun p : Int × Int => [p.1, p.2]) mz
        obtain ⟨p, mp, e⟩ := List.mem_map.mp this
        have c := cov p mp
        rw [e] at c
        exact (pm.map (·.2)).mem_iff.mpr c) nd (List.pairwise_map.mpr so)
      have sm2 : Same H (upd (upd H b (SetTO P w b L)) c (.lst (L'.map fun q => V.ref q.1))) := sm.trans (same_new nc)
      have nH : H c = none := by
        cases z : H c with
        | none => rfl
        | some o => rw [sm _ _ z] at nc; cases nc
      refine q _ _ _ p sm2 ⟨c, _, rfl, nH, upd_same, ?_⟩ fun _ h => nomatch h
      have cc : Same (cut U H) (cut (c :: U) (upd (upd H b (SetTO P w b L)) c (.lst (L'.map fun q => V.ref q.1)))) := cut_mono (fun y m => by
        rcases List.mem_cons.mp m with e | m
        · subst e; exact .inr nH
        · exact .inl m) fun y o _ e => sm2 y o e
      rw [← sk, List.map_map (l := L')]
      exact pairs_dq cc fun q m => ⟨ft q (inK q m), let ⟨z, _, e⟩ := key q (inK q m); ⟨z, e⟩⟩
  · exact p.elim
section
variable {X : Cx} {a : Expr} {es : List Expr} {mr : MA} {p p2 pos pos2 : Pos}
theorem pe_sortSet {t : TA} (hu : X.A.units + 65 < cLine) (hm : X.mg "sorted" = none) (hm2 : X.mg "set" = none) (hg : Gl X "sorted") (hg2 : Gl X "set") (ha : PA X [a] t) (n1 : starEach [a] X.env = (false, eval a X.env) :: starEach [] X.env)
    (n2 : starEach [.Call (.Name "set" p2) [a] [] pos2] X.env = (false, eval (.Call (.Name "set" p2) [a] [] pos2) X.env) :: starEach [] X.env) (hc : X.calm = true) (h1 : (backTo pos2 (starEach [] X.env)).any (·.1) = false) (h2 : (backTo pos (starEach [] X.env)).any (·.1) = false) :
    PE X (.Call (.Name "sorted" p) [.Call (.Name "set" p2) [a] [] pos2] [] pos) (tCB (rSS X.K X.prog X.w) t) :=
  have h := pe_callB (cr_sortedT hc) hg hm PyProof.Rows.boot_sorted (pa_cons (pe_callTy (cr_setOfT hc (by omega)) hg2 hm2 PyProof.Rows.boot_set ha (by decide) (by decide) n1 h1) pa_nil n2) (by decide) (by decide) n2 h2
  pe_imp h fun σ H Q q => q
theorem w_sortSetP (hu : X.A.units + 65 < cLine) (hm : X.mg "sorted" = none) (hm2 : X.mg "set" = none) (ha : DA X [a] mr) (hg : Gl X "sorted" := by rfl) (hg2 : Gl X "set" := by rfl) (n1 : starEach [a] X.env = (false, eval a X.env) :: starEach [] X.env := by rfl)
    (n2 : starEach [.Call (.Name "set" p2) [a] [] pos2] X.env = (false, eval (.Call (.Name "set" p2) [a] [] pos2) X.env) :: starEach [] X.env := by rfl) (hc : X.calm = true := by rfl) (h1 : (backTo pos2 (starEach [] X.env)).any (·.1) = false := by rfl) (h2 : (backTo pos (starEach [] X.env)).any (·.1) = false := by rfl) :
    DE X (.Call (.Name "sorted" p) [.Call (.Name "set" p2) [a] [] pos2] [] pos) (mCB fSortSetP mr) := de_cb (fun h => pe_sortSet hu hm hm2 hg hg2 h n1 n2 hc h1 h2) d_sortSetP ha
end
theorem fSortSetP_l {ps : List (Int × Int)} {k : Rv → Prop} (hl : ps.length < 64) (hp : ∀ p ∈ ps, InP p) : fSortSetP [.list (ps.map pairD)] k ↔ ∃ ps', ps.map pairD = ps'.map pairD ∧ ps'.length < 64 ∧ (∀ p ∈ ps', InP p) ∧ k (.fr ((srtP ps').map pairD)) := Iff.rfl
theorem fSortSetP_of {ps : List (Int × Int)} {k : Rv → Prop} (hl : ps.length < 64) (hp : ∀ p ∈ ps, InP p) (q : k (.fr ((srtP ps).map pairD))) : fSortSetP [.list (ps.map pairD)] k := ⟨ps, rfl, hl, hp, q⟩
end Dv
namespace Dv
open PySem PySem.Spec L2
/-! ### enumerate of a tuple -/
/-- the pairs of enumerate -/
def enuD (xs : List D) : List D := zipD (rngD 0 xs.length) xs
/-- an iterator of a tuple that has come to its end -/
theorem drawsEnd {prog : Program} {w : World} {A : Around} (hh : A.handled = none) {it t : Addr} {its : Array Value} {i : Nat} (hx : its[i]? = none) :
    Draws prog w A it [it, t] i (fun _ _ => False) (fun j h => j = i ∧ h.IsTupleIter it t i ∧ h.IsTuple t its) where
  live := fun _ _ ⟨_, ⟨o, ho, _⟩, _⟩ => ⟨o, ho⟩
  frame := fun _ _ _ ⟨e, s1, s2⟩ hk => ⟨e, s1.at fun o e => hk it (by simp) o e, s2.at fun o e => hk t (by simp) o e⟩
  item := fun j s Q E hi st hQ => absurd hi (by have := st.1; omega)
  done := fun s Q E ⟨_, s1, s2⟩ hE => wpAny_nextOf_tuple_end hh s1 s2 hx hE
def IteT (K : PySem.W.Frag) (a : Addr) : It where
  go i H := ∃ (xs : List V) (x : V), SqT K H a xs ∧ xs[i]? = some x
  yld i H v H' := ∃ T x, v = .ref T ∧ H T = none ∧ H' = upd H T (.tup [.int (i : Nat), x]) ∧ ∀ xs, SqT K H a xs → xs[i]? = some x
  stop i H := ∃ xs : List V, SqT K H a xs ∧ xs.length ≤ i
theorem turn_enumT {P : Program} {w : World} {K : PySem.W.Frag} {elts : List Expr} {kk : Nat} {tpos : Pos} (a e it : Addr) :
    Turn P w K (.Tuple elts kk tpos) (IteT K a) [e, it] e fun i h => (∃ old, IsEnum h e it (i : Nat) old) ∧ h.IsTupleIter it a i ∧ e ≠ it where
  mem := by simp
  obj := fun i h st b hb => by
    obtain ⟨⟨old, he⟩, ⟨o, ho, hc, hd⟩, _⟩ := st
    rcases (show b = e ∨ b = it by simpa using hb) with rfl | rfl
    · exact ⟨_, he, fun v q => nomatch q⟩
    · exact ⟨o, ho, fun v q => by rw [hd] at q; cases q⟩
  keep := fun i h h' st k => by
    obtain ⟨⟨old, he⟩, hi, hne⟩ := st
    exact ⟨⟨old, k e (by simp) _ he⟩, hi.at (fun o q => k it (by simp) o q), hne⟩
  item := by
    intro X hP hw hK hc i pins s σ H E I hf st hg
    subst hP hw hK
    obtain ⟨⟨old, he⟩, hit, hne⟩ := st
    obtain ⟨xs, x, hq, hx⟩ := hg
    obtain ⟨its, rv, p, _⟩ := I.tuple hq
    have tup : s.heap.IsTuple a its.toArray := p
    obtain ⟨u, hu, ru⟩ := rv.get hx
    have hil : i < its.toArray.size := by
      have := (List.getElem?_eq_some_iff.mp hu).1
      simpa using this
    have nai : a ≠ it := fun z => by
      subst z
      obtain ⟨o1, e1, c1, _⟩ := tup
      obtain ⟨o2, e2, c2, _⟩ := hit
      rw [e1] at e2; cases e2
      rw [c1] at c2
      exact absurd (Value.type.inj c2) (by decide)
    have nae : a ≠ e := fun z => by
      subst z
      obtain ⟨o1, e1, c1, _⟩ := tup
      have e2 : s.heap.get? a = some _ := he
      rw [e1] at e2
      rw [Option.some.inj e2] at c1
      exact absurd (Value.type.inj c1) (by decide)
    have hel : e < s.heap.objs.size := Heap.lt_size he
    have itl : it < s.heap.objs.size := by obtain ⟨_, q, _⟩ := hit; exact Heap.lt_size q
    have D := Draws.tuple (prog := X.prog) (w := X.w) (A := X.A.in1) (I.ok.hd hc) it a nai its.toArray
    refine wpAny_pyNext_enum_itemD D he ⟨hit, tup⟩ hil hne (by simp [hne, Ne.symm nae]) fun y h' tk hP ho st' hT hsz hk => ?_
    have ey : y = u := by
      have : its.toArray[i]? = some u := by simpa using hu
      rw [this] at hP
      exact (Option.some.inj hP).symm
    subst ey
    refine ⟨_, rfl, wpAny_letOwnedTupleGo_enum (s := { s with heap := h', toks := tk + 1 }) ho (fun h'' he' sb => ?_)⟩
    have hT2 : h''.get? s.heap.objs.size = some { cls := .type "tuple", data := .seq #[.int i tk, y] } := (sb.2 _ (Nat.ne_of_gt hel)).trans hT
    have new : ObjOk X.prog X.w (upd H s.heap.objs.size (.tup [.int (i : Nat), x])) h'' s.heap.objs.size (.tup [.int (i : Nat), x]) :=
      ⟨(by decide : 2 ≤ sizeLine), [.int i tk, y], .cons ⟨_, rfl⟩ (.cons ru .nil), ⟨_, hT2, rfl, _, rfl⟩⟩
    have I1 : Inv X pins σ (upd H s.heap.objs.size (.tup [.int (i : Nat), x])) { s with heap := h'', toks := tk + 1 } :=
      I.turnedNew (ch := [e, it]) (fun b ob hb q => (sb.2 b fun z => hb (by simp [z])).trans (hk b ob (fun z => hb (by simp [z])) (fun z => hb (by simp [z])) q)) hf (Nat.le_refl _) new
    refine ⟨.ref s.heap.objs.size, _, I1, rfl, ⟨_, x, rfl, I.hok.fresh (Nat.le_refl _), rfl, fun ys hy => I.tuple_inj hy hq ▸ hx⟩, ⟨⟨y, ?_⟩, st'.1.at fun o q => (sb.2 it (Ne.symm hne)).trans q, hne⟩, fun b hb => ?_⟩
    · rw [show ((i + 1 : Nat) : Int) = (i : Int) + 1 from by omega]
      exact he'
    · have lb : b < s.heap.objs.size := by
        rcases (show b = e ∨ b = it by simpa using hb) with rfl | rfl
        · exact hel
        · exact itl
      rw [upd_ne (Nat.ne_of_lt lb)]
      exact (hf b hb).1
  done := by
    intro X hP hw hK hc i pins s σ H E I hf st hg
    subst hP hw hK
    obtain ⟨⟨old, he⟩, hit, hne⟩ := st
    obtain ⟨xs, hq, hx⟩ := hg
    obtain ⟨its, rv, p, _⟩ := I.tuple hq
    obtain ⟨f0, f1, f2, f3, f4, f5⟩ := hf it (by simp)
    have hl := rv.length
    have tup : s.heap.IsTuple a its.toArray := p
    have no : its.toArray[i]? = none := by simp; omega
    exact wpAny_pyNext_enum_endD (drawsEnd (prog := X.prog) (w := X.w) (A := X.A.in1) (I.ok.hd hc) (it := it) (t := a) no) he ⟨rfl, hit, tup⟩ fun h' eb => ⟨rfl, I.turned (t' := s.toks) (fun b o hb q => eb b o hb q) f0 f1 f3 f4 f5⟩
  self := fun A i s Q E ⟨⟨_, he⟩, _⟩ h => wpAny_pyIter_enum he h
end Dv
namespace Dv
open PySem PySem.Spec L2 PyProof.Rows
/-- the new enumerate, over the iterator at i -/
abbrev enuObj (i : Addr) : Obj := { cls := .type "enumerate", data := .fields #[.none, .bool false, .ref i, rawInt 0, .none, .none] }
set_option maxHeartbeats 1000000 in
theorem meets_enu {v : Value} {o : Obj} {G : Heap → Prop} (B : Begins v o G) :
    Meets (Builtin.«enumerate.__new__» ⟨[.type "enumerate", v], []⟩) fun _ R s => G s.heap ∧ R (.ok (.ret (.ref (s.heap.push o).objs.size))) { s with heap := (s.heap.push o).push (enuObj s.heap.objs.size) } :=
  Meets.of_wp fun prog w A R s h => by
    obtain ⟨hp, g, d, tk, os⟩ := s
    obtain ⟨h1, h⟩ := h
    have hsub := sub_enumerate
    have go : ∀ {A' : Around} {E Q : Value → Shared → Prop}, Q (.ref hp.objs.size) ⟨hp.push o, g, d, tk, os⟩ → wpAny (model prog w) A' (pyIter v) Q E ⟨hp, g, d, tk, os⟩ :=
      fun {A' E Q} q => B.iter prog w A' E ⟨hp, g, d, tk, os⟩ Q h1 q
    wp_walk using go
    refine wpAny_stack_any fun st => wpAny_pure ?_
    split
    · rename_i c _ _ _ _ _
      cases (c == Value.type "enumerate") <;> (wp_walk using go; exact ⟨_, rfl, h⟩)
    · wp_walk using go
      exact ⟨_, rfl, h⟩
section
variable {prog : Program} {w : World} {A : Around} {E : Value → Shared → Prop} {s : Shared}
theorem call_enu {v : Value} {o : Obj} {G : Heap → Prop} {Q : Value → Shared → Prop} (B : Begins v o G) (h1 : G s.heap)
    (h : ∀ h', IsEnum h' (s.heap.objs.size + 1) s.heap.objs.size 0 .none → h'.get? s.heap.objs.size = some o → (∀ b ob, s.heap.get? b = some ob → h'.get? b = some ob) → Q (.ref (s.heap.objs.size + 1)) { s with heap := h' }) :
    wpAny (model prog w) A (call (.type "enumerate") [v]) Q E s := by
  refine callType_new F.called_enumerate (by decide) (F.typeCall_enumerate_1 _) (F.newCall_enumerate_1 _) (fun obj => F.args_object_init_2 obj _) F.entry_enumerate_new (meets_enu B) ⟨h1, ?_⟩
  have hz : (s.heap.push o).objs.size = s.heap.objs.size + 1 := Heap.size_push ..
  show _ ∧ _
  rw [hz]
  have he : IsEnum ((s.heap.push o).push (enuObj s.heap.objs.size)) (s.heap.objs.size + 1) s.heap.objs.size 0 .none := by
    have := Heap.get?_push_size (s.heap.push o) (o := enuObj s.heap.objs.size) rfl
    rw [hz] at this
    exact this
  exact ⟨⟨_, he, rfl⟩, h _ he (Heap.get?_push_of_some _ (Heap.get?_push_size _ B.free)) fun b ob x => Heap.get?_push_of_some _ (Heap.get?_push_of_some _ x)⟩
end
/-- enumerate(e), e a list or a tuple -/
def iEnuA (K : PySem.W.Frag) (ta : TA) : TI := fun σ H R => ta σ H fun vs H1 => ∃ a xs, vs = [.ref a] ∧ ((SqL K H1 a xs ∧ R (Ite K a) H1) ∨ (SqT K H1 a xs ∧ R (IteT K a) H1))
theorem pi_enuA {X : Cx} {e : Expr} {ta : TA} {p pos tpos : Pos} {elts : List Expr} {kk : Nat} (hg : Gl X "enumerate") (hm : X.mg "enumerate" = none) (ha : PA X [e] ta) (hs : starEach [e] X.env = [(false, eval e X.env)]) :
    PI X (.Tuple elts kk tpos) (.Call (.Name "enumerate" p) [e] [] pos) (iEnuA X.K ta) := by
  refine ⟨fun pins s σ H R I h => ?_⟩
  refine Call_ (ld_blt I hg hm PyProof.Rows.boot_enumerate (PyProof.Rows.callWith_type1 (thn (ha.run pos pins s σ H _ I h) fun us s1 ⟨vs, H1, I1, r1, q1⟩ => ?_) hs rfl))
  obtain ⟨a, xs, rfl, q1⟩ := q1
  obtain ⟨u, rfl, r⟩ := vals1 r1
  cases (show u = .ref a from r)
  have two : ∀ b, b ∈ [s1.heap.objs.size + 1, s1.heap.objs.size] → FpOk X pins H1 b := fun b hb => by
    have hle : s1.heap.objs.size ≤ b := by
      rcases (show b = s1.heap.objs.size + 1 ∨ b = s1.heap.objs.size by simpa using hb) with z | z <;> (rw [z]; first | exact Nat.le_refl _ | exact Nat.le_add_right _ _)
    exact I1.fpOk hle (I1.hok.fresh hle)
  rcases q1 with ⟨hq, q⟩ | ⟨hq, q⟩
  · obtain ⟨its, rv, p1, _⟩ := I1.list hq
    refine call_enu (begins_list a its.toArray) p1.isList fun h' he hit hk => wpAny_pyIter_enum he ?_
    exact ⟨s1.heap.objs.size + 1, [s1.heap.objs.size + 1, s1.heap.objs.size], _, _, H1, rfl, I1.kept (t' := s1.toks) hk, turn_enum a (s1.heap.objs.size + 1) s1.heap.objs.size, ⟨⟨.none, he⟩, ⟨_, hit, rfl, rfl⟩, Nat.succ_ne_self _⟩, two, q⟩
  · obtain ⟨its, rv, p1, _⟩ := I1.tuple hq
    refine call_enu (begins_tuple a its.toArray) (show s1.heap.IsTuple a its.toArray from p1) fun h' he hit hk => wpAny_pyIter_enum he ?_
    exact ⟨s1.heap.objs.size + 1, [s1.heap.objs.size + 1, s1.heap.objs.size], _, _, H1, rfl, I1.kept (t' := s1.toks) hk, turn_enumT a (s1.heap.objs.size + 1) s1.heap.objs.size, ⟨⟨.none, he⟩, ⟨_, hit, rfl, rfl⟩, Nat.succ_ne_self _⟩, two, q⟩
/-! ### its words -/
theorem enuD_len (xs : List D) : (enuD xs).length = xs.length := by unfold enuD; rw [zipD_len, rngD_len, Nat.min_self]
theorem enuD_get {xs : List D} {i : Nat} {d : D} (h : (enuD xs)[i]? = some d) : ∃ x, xs[i]? = some x ∧ d = .tuple [.int (i : Nat), x] := by
  unfold enuD at h
  obtain ⟨x, y, h1, h2, rfl⟩ := zipD_get h
  rw [rngD_get h1, Int.zero_add]
  exact ⟨y, h2, rfl⟩
section
variable {K : PySem.W.Frag} {U : List Addr} {H : Hp} {a : Addr} {vs : List V} {xs : List D}
theorem yd_enu {U' : List Addr} {H' : Hp} {T : Addr} {i : Nat} {w : V} {y : D} (lv : ∀ a ∈ U', ∃ o, H' a = some o) (n : H' T = none) (h2 : Dq K (cut U' H') w y) :
    Same H' (upd H' T (.tup [.int (i : Nat), w])) ∧ Yd K (cut U' (upd H' T (.tup [.int (i : Nat), w]))) (.ref T) (.tuple [.int (i : Nat), y]) := yd_new lv n (.int _) h2
theorem enuT_ok (h1 : SqT K (cut U H) a vs) (t1 : DqAll K (cut U H) vs xs) : ItOk K true U H (IteT K a) (enuD xs) := by
  have p1 : ∀ {U' H'}, Same (cut U H) (cut U' H') → SqT K H' a vs := fun {U' H'} s => sqt_cut (sqt_same s h1)
  refine ⟨fun U' H' s lv i hi => ?_, fun U' H' s lv i d x H2 hd y => ?_, fun U' H' s lv => ⟨vs, p1 s, ?_⟩⟩
  · rw [enuD_len, ← dpAll_len t1] at hi
    exact ⟨vs, _, p1 s, List.getElem?_eq_getElem hi⟩
  · obtain ⟨T, w, rfl, n, rfl, q⟩ := y
    obtain ⟨z, e, rfl⟩ := enuD_get hd
    obtain ⟨v', g, k⟩ := dpAll_get t1 e
    have r := q vs (p1 s)
    rw [g] at r; cases r
    exact yd_enu lv n (dp_mono s k)
  · rw [enuD_len, dpAll_len t1]; exact Nat.le_refl _
theorem enuL_ok (h1 : SqL K (cut U H) a vs) (t1 : DqAll K (cut U H) vs xs) : ItOk K true U H (Ite K a) (enuD xs) := by
  have p1 : ∀ {U' H'}, Same (cut U H) (cut U' H') → SqL K H' a vs := fun {U' H'} s => Same.seq cut_le (Same.seq s h1)
  refine ⟨fun U' H' s lv i hi => ?_, fun U' H' s lv i d x H2 hd y => ?_, fun U' H' s lv => ⟨vs, p1 s, ?_⟩⟩
  · rw [enuD_len, ← dpAll_len t1] at hi
    exact ⟨vs, _, p1 s, List.getElem?_eq_getElem hi⟩
  · obtain ⟨T, w, rfl, n, rfl, q⟩ := y
    obtain ⟨z, e, rfl⟩ := enuD_get hd
    obtain ⟨v', g, k⟩ := dpAll_get t1 e
    have r := q vs (p1 s)
    rw [g] at r; cases r
    exact yd_enu lv n (dp_mono s k)
  · rw [enuD_len, dpAll_len t1]; exact Nat.le_refl _
end
def wE (r : Rv) (k : List D → Prop) : Prop := (∃ xs, r = .sh (.tuple xs) ∧ k xs) ∨ ∃ xs, r.shd = some (.list xs) ∧ k xs
def mEnu (m : ME) : MI := fun ρ P => m ρ fun r ρ' => wE r fun xs => P (enuD xs) ρ'
section
variable {X : Cx} {e : Expr} {m : ME} {p pos tpos : Pos} {elts : List Expr} {kk : Nat}
theorem wi_enu (hm : X.mg "enumerate" = none) (h : DE X e m) (hg : Gl X "enumerate" := by rfl) (hs : starEach [e] X.env = [(false, eval e X.env)] := by rfl) :
    DI X (.Tuple elts kk tpos) (.Call (.Name "enumerate" p) [e] [] pos) true (mEnu m) := ⟨fun B => pi_imp (pi_enuA hg hm (pa_cons (h.run B) pa_nil hs) hs) fun σ H R ⟨U, W, ρ, P, S, p, q⟩ => ⟨U, W, ρ, _, S, p, fun r ρ' v H' p' R' a' k _ => by
  rcases p' with ⟨xs, rfl, p'⟩ | ⟨xs, er, p'⟩
  · have d1 : Dq X.K (cut U H') v (.tuple xs) := k
    cases d1 with
    | tup z t => exact ⟨_, _, rfl, .inr ⟨(z.mono cut_le).sq, q _ _ _ _ p' R' a' (enuT_ok z.sq t)⟩⟩
  · have d1 := k.shared S er
    cases d1 with
    | lst z t => exact ⟨_, _, rfl, .inl ⟨SqL.of (cut_le _ _ z), q _ _ _ _ p' R' a' (enuL_ok (SqL.of z) t)⟩⟩⟩⟩
end
@[simp ↓] theorem mEnu_ap {a : ME} {ρ : En} {PI : List D → En → Prop} : mEnu a ρ PI = a ρ fun r ρ' => wE r fun xs => PI (enuD xs) ρ' := rfl
@[simp ↓] theorem wE_t {xs : List D} {k : List D → Prop} : wE (.sh (.tuple xs)) k = k xs := by
  refine propext ⟨fun h => ?_, fun h => .inl ⟨xs, rfl, h⟩⟩
  rcases h with ⟨x, e, h⟩ | ⟨x, e, h⟩
  · cases e; exact h
  · cases e
end Dv
namespace Dv
open PySem PySem.Spec L2
/-! ### xs.remove(k), of whole numbers, that is there -/
def mRem (i : Nat) (m : ME) : ME := fun ρ P => ownL ρ i fun _ => m ρ fun r ρ' => ownL ρ' i fun xs => ∃ k ns, r = .sh (.int k) ∧ intsD xs = some ns ∧ k ∈ ns ∧ P (.sh .none) (ρ'.set i (.ow (.lst ((ns.erase k).map .int))))
theorem takesNo {X : Cx} : Takes X (fun _ _ _ _ => False) := fun _ _ ⟨_, _, _, _, _, _, _, _, _, _, _, _, _, _, _, _, x⟩ => False.elim x
section
variable {X : Cx} {e a : Expr} {m : ME} {pos : Pos}
theorem de_rem {i : Nat} (h : ∀ {te : TE}, PE X a te → PE X e (tRemX X.K (fun _ _ _ _ => False) (tVar i) te)) (ha : DE X a m) : DE X e (mRem i m) := ⟨fun B => pe_imp (h (ha.run B)) fun σ H Q ⟨U, W, ρ, P, R, p, q⟩ => by
  obtain ⟨xs0, l, vs0, p, q0, s0, h0, t0⟩ := ownL_at R p
  refine ⟨.ref l, s0, .inl ⟨rfl, vs0, SqL.of h0⟩, U, W, ρ, _, R, p, fun r ρ' v H' p' R' a' k _ => ?_⟩
  obtain ⟨xs, l2, vs, ⟨kk, ns, rfl, e1, hk, p2⟩, q2, s2, h2, t2⟩ := ownL_at R' p'
  rw [s0] at s2; cases s2
  have ev : v = .int kk := by cases k; rfl
  obtain ⟨R3, a3, c3⟩ := R'.updOw (ws := (ns.erase kk).map V.int) (ys := (ns.erase kk).map .int) q2 s0 (dq_ints _)
  exact ⟨l, ns, kk, rfl, ev, by rw [h2, intsD_v t2 e1], fun _ => q _ _ _ _ p2 R3 (a'.trans a3) Dq.non trivial, fun n => absurd hk n⟩⟩
theorem w_rem (i : Nat) {ap : Pos} (ha : DE X a m) (hc : X.calm = true := by rfl) (S : M1 X e a "remove" ap pos := by exact ⟨by rfl, by rfl, by rfl, by rfl, by rfl⟩) (hp : PE X e (tVar i) := by exact pv _) : DE X (.Call (.Attribute e "remove" ap) [a] [] pos) (mRem i m) :=
  de_rem (fun h => pe_remX hc takesNo hp h S.h1 S.h2 S.h3 S.h4 S.h5) ha
end
@[simp ↓] theorem mRem_ap {i : Nat} {m : ME} {ρ : En} {P : Rv → En → Prop} : mRem i m ρ P = wL ρ[i]? fun _ => m ρ fun r ρ' => wL ρ'[i]? fun xs => wSh r fun x => wI x fun k => wS (intsD xs) fun ns => k ∈ ns ∧ P (.sh .none) (ρ'.set i (.ow (.lst ((ns.erase k).map .int)))) := by
  unfold mRem wS wSh wI
  show wL ρ[i]? _ = _
  congr; funext _; congr; funext r ρ'
  show wL ρ'[i]? _ = _
  congr; funext xs
  exact propext ⟨fun ⟨k, ns, e, h1, h2, h3⟩ => ⟨_, e, k, rfl, ns, h1, h2, h3⟩, fun ⟨x, e, k, e2, ns, h1, h2, h3⟩ => ⟨k, ns, e.trans (by rw [e2]), h1, h2, h3⟩⟩
end Dv
namespace Dv
open PySem PySem.Spec L2 PyProof.Rows
/-! ### tuple(range(n)) -/
/-- the tuple of a range, new and for good -/
def tTupRgF (te : L2.St → Hp → (Int → Int → Hp → Prop) → Prop) : TE := fun σ H Q => te σ H fun a b H1 => RgOk a b ∧ NewT H1 (rgV a b) Q
section
variable {X : Cx} {e a : Expr} {m : ME} {te : L2.St → Hp → (Int → Int → Hp → Prop) → Prop} {p pos p2 pos2 : Pos}
theorem pe_tupRgF (hc : X.calm = true) (hg : Gl X "tuple") (hm : X.mg "tuple" = none) (he : PRg X e te) (na : starEach [e] X.env = (false, eval e X.env) :: starEach [] X.env) : PE X (.Call (.Name "tuple" p) [e] [] pos) (tTupRgF te) := by
  refine ⟨fun pins s σ H Q I h => ?_⟩
  refine Call_ (ld_blt I hg hm boot_tuple (PyProof.Rows.callWith_type1 (args_cons (thn (he pins s σ H _ I h) fun x s1 hv => args_nil ?_) na) na))
  obtain ⟨r, a, b, t, u, v, H1, rfl, hr, I1, ⟨b1, b2, b3, b4, b5⟩, q⟩ := hv
  refine call_tuple_range (n := (b - a).toNat) (I1.ok.hd hc) hr (small_one b1 b2 b3 b4) (rangeSize_nat a b) b5 fun h' tk acc hk hi => ?_
  have I2 : Inv X pins σ H1 { s1 with heap := h', toks := tk } := I1.kept hk
  have z : (rgV a b).length ≤ sizeLine := by rw [rgV_length, sizeLine_eq]; omega
  have l := lay_tup I2 (vals_rg hi) z
  exact ⟨.ref _, _, l, rfl, q _ _ (I2.hok.fresh (Nat.le_refl _)) (tupO_new acc.toList)⟩
theorem w_tupRg (hm : X.mg "tuple" = none) (hm2 : X.mg "range" = none) (ha : DE X a m) (hc : X.calm = true := by rfl) (hg : Gl X "tuple" := by rfl) (hg2 : Gl X "range" := by rfl) (na : starEach [a] X.env = (false, eval a X.env) :: starEach [] X.env := by rfl)
    (nb : starEach [.Call (.Name "range" p2) [a] [] pos2] X.env = (false, eval (.Call (.Name "range" p2) [a] [] pos2) X.env) :: starEach [] X.env := by rfl) : DE X (.Call (.Name "tuple" p) [.Call (.Name "range" p2) [a] [] pos2] [] pos) (mRgT1 m) :=
  ⟨fun B => pe_imp (pe_tupRgF hc hg hm (prg_1 hg2 hm2 (ha.run B) na) nb) fun σ H Q ⟨U, W, ρ, P, R, p, q⟩ => ⟨U, W, ρ, _, R, p, fun r ρ' v H' p' R' a' k _ => by
    obtain ⟨j, rfl, ⟨h1, h2⟩, p'⟩ := p'
    have ev : v = .int j := by cases k; rfl
    subst ev
    refine ⟨j, rfl, ⟨by omega, by omega, by omega, by omega, by omega⟩, ?_⟩
    refine rv_tup (K := X.K) (U := U) (σ := σ) (P := fun r => P r ρ') R'.live ?_ (rgV_dq 0 j) (fun rv w H2 p2 sm k2 _ => ?_)
    · rw [Int.sub_zero]; exact p'
    · exact q _ _ _ _ p2 (R'.ext sm) (a'.trans (Adv.same sm)) (rvOk_from R R' a' k2) (hid_of R' sm k2)⟩⟩
end
@[simp ↓] theorem mRgT1_ap {m : ME} {ρ : En} {P : Rv → En → Prop} : mRgT1 m ρ P = m ρ fun r ρ' => wSh r fun d => wI d fun j => (-100000 ≤ j ∧ j ≤ 100000) ∧ P (.sh (.tuple (rngD 0 j.toNat))) ρ' := by
  unfold mRgT1 wSh wI
  congr; funext r ρ'
  exact propext ⟨fun ⟨j, e, h1, h2⟩ => ⟨_, e, j, rfl, h1, h2⟩, fun ⟨x, e, j, e2, h1, h2⟩ => ⟨j, e.trans (by rw [e2]), h1, h2⟩⟩
end Dv
namespace K28
open PySem PySem.Spec L2 Dv
def topS (i : Nat) : Stmt := PySem.Challenge.pw_holewebs_k28_whole_turned_pairs_and_exch.main.body.getD i (.Pass ⟨0, 0, 0, 0⟩)
abbrev s_is_integer : Stmt := topS 5
theorem sc_is_integer : FnScope ["value"] ["value"] (defScope s_is_integer) := ⟨rfl, rfl, rfl, by decide +kernel, rfl, by decide +kernel, by decide +kernel⟩
abbrev s_is_row : Stmt := topS 8
theorem sc_is_row : FnScope ["value", "many"] ["value", "many"] (defScope s_is_row) := ⟨rfl, rfl, rfl, by decide +kernel, rfl, by decide +kernel, by decide +kernel⟩
abbrev s_turned_of : Stmt := topS 17
theorem sc_turned_of : FnScope ["sequence", "other", "places", "found", "near", "one", "far"] ["sequence", "other"] (defScope s_turned_of) := ⟨rfl, rfl, rfl, by decide +kernel, rfl, by decide +kernel, by decide +kernel⟩
abbrev s_cycles_of : Stmt := topS 19
theorem sc_cycles_of : FnScope ["sequence", "other", "found", "seen", "start", "cycle", "here"] ["sequence", "other"] (defScope s_cycles_of) := ⟨rfl, rfl, rfl, by decide +kernel, rfl, by decide +kernel, by decide +kernel⟩
abbrev s_exchanged_by : Stmt := topS 20
theorem sc_exchanged_by : FnScope ["sequence", "exchanges", "found", "one", "other"] ["sequence", "exchanges"] (defScope s_exchanged_by) := ⟨rfl, rfl, rfl, by decide +kernel, rfl, by decide +kernel, by decide +kernel⟩
abbrev s_exchanges_of : Stmt := topS 21
theorem sc_exchanges_of : FnScope ["sequence", "other", "here", "found", "at", "one", "far"] ["sequence", "other"] (defScope s_exchanges_of) := ⟨rfl, rfl, rfl, by decide +kernel, rfl, by decide +kernel, by decide +kernel⟩
abbrev s__law_pot : Stmt := topS 31
theorem sc__law_pot : FnScope ["script", "k", "cell"] ["script", "k"] (defScope s__law_pot) := ⟨rfl, rfl, rfl, by decide +kernel, rfl, by decide +kernel, by decide +kernel⟩
abbrev s__law_draw : Stmt := topS 32
theorem sc__law_draw : FnScope ["pot", "many", "digit"] ["pot", "many"] (defScope s__law_draw) := ⟨rfl, rfl, rfl, by decide +kernel, rfl, by decide +kernel, by decide +kernel⟩
abbrev s__law_rest : Stmt := topS 33
theorem sc__law_rest : FnScope ["number", "modulus"] ["number", "modulus"] (defScope s__law_rest) := ⟨rfl, rfl, rfl, by decide +kernel, rfl, by decide +kernel, by decide +kernel⟩
abbrev s__law_turned : Stmt := topS 37
theorem sc__law_turned : FnScope ["near", "far", "found", "one", "other"] ["near", "far"] (defScope s__law_turned) := ⟨rfl, rfl, rfl, by decide +kernel, rfl, by decide +kernel, by decide +kernel⟩
abbrev s__law_done : Stmt := topS 39
theorem sc__law_done : FnScope ["counts", "pairs", "found", "one", "other"] ["counts", "pairs"] (defScope s__law_done) := ⟨rfl, rfl, rfl, by decide +kernel, rfl, by decide +kernel, by decide +kernel⟩
abbrev s__law_lots : Stmt := topS 40
theorem sc__law_lots : FnScope ["near", "far", "left", "many", "one", "here", "turn"] ["near", "far"] (defScope s__law_lots) := ⟨rfl, rfl, rfl, by decide +kernel, rfl, by decide +kernel, by decide +kernel⟩
abbrev s__law_is_sequence : Stmt := topS 41
theorem sc__law_is_sequence : FnScope ["value", "one"] ["value"] (defScope s__law_is_sequence) := ⟨rfl, rfl, rfl, by decide +kernel, rfl, by decide +kernel, by decide +kernel⟩
abbrev s_is_count : Stmt := topS 6
theorem sc_is_count : FnScope ["value"] ["value"] (defScope s_is_count) := ⟨rfl, rfl, rfl, by decide +kernel, rfl, by decide +kernel, by decide +kernel⟩
abbrev s_is_even_order : Stmt := topS 18
theorem sc_is_even_order : FnScope ["sequence", "other"] ["sequence", "other"] (defScope s_is_even_order) := ⟨rfl, rfl, rfl, by decide +kernel, rfl, by decide +kernel, by decide +kernel⟩
abbrev s__law_sequence : Stmt := topS 34
theorem sc__law_sequence : FnScope ["pot", "many", "left", "found", "turn"] ["pot", "many"] (defScope s__law_sequence) := ⟨rfl, rfl, rfl, by decide +kernel, rfl, by decide +kernel, by decide +kernel⟩
abbrev s__law_counts : Stmt := topS 35
theorem sc__law_counts : FnScope ["pot", "many", "left", "turn"] ["pot", "many"] (defScope s__law_counts) := ⟨rfl, rfl, rfl, by decide +kernel, rfl, by decide +kernel, by decide +kernel⟩
abbrev s__law_is_even : Stmt := topS 38
theorem sc__law_is_even : FnScope ["near", "far"] ["near", "far"] (defScope s__law_is_even) := ⟨rfl, rfl, rfl, by decide +kernel, rfl, by decide +kernel, by decide +kernel⟩
abbrev s_is_below : Stmt := topS 7
theorem sc_is_below : FnScope ["value", "many"] ["value", "many"] (defScope s_is_below) := ⟨rfl, rfl, rfl, by decide +kernel, rfl, by decide +kernel, by decide +kernel⟩
abbrev s__law_led : Stmt := topS 36
theorem sc__law_led : FnScope ["pot", "counts", "at"] ["pot", "counts"] (defScope s__law_led) := ⟨rfl, rfl, rfl, by decide +kernel, rfl, by decide +kernel, by decide +kernel⟩
abbrev s_is_sequence_of : Stmt := topS 13
theorem sc_is_sequence_of : FnScope ["value", "one"] ["value"] (defScope s_is_sequence_of) := ⟨rfl, rfl, rfl, by decide +kernel, rfl, by decide +kernel, by decide +kernel⟩
abbrev s_is_exchange : Stmt := topS 15
theorem sc_is_exchange : FnScope ["sequence", "value", "at"] ["sequence", "value"] (defScope s_is_exchange) := ⟨rfl, rfl, rfl, by decide +kernel, rfl, by decide +kernel, by decide +kernel⟩
abbrev s_is_fitting : Stmt := topS 14
theorem sc_is_fitting : FnScope ["sequence", "value"] ["sequence", "value"] (defScope s_is_fitting) := ⟨rfl, rfl, rfl, by decide +kernel, rfl, by decide +kernel, by decide +kernel⟩
abbrev s_are_exchanges : Stmt := topS 16
theorem sc_are_exchanges : FnScope ["sequence", "value", "one"] ["sequence", "value"] (defScope s_are_exchanges) := ⟨rfl, rfl, rfl, by decide +kernel, rfl, by decide +kernel, by decide +kernel⟩
abbrev s_want_sequence : Stmt := topS 22
theorem sc_want_sequence : FnScope ["value"] ["value"] (defScope s_want_sequence) := ⟨rfl, rfl, rfl, by decide +kernel, rfl, by decide +kernel, by decide +kernel⟩
abbrev s_is_sequence : Stmt := topS 24
theorem sc_is_sequence : FnScope ["value"] ["value"] (defScope s_is_sequence) := ⟨rfl, rfl, rfl, by decide +kernel, rfl, by decide +kernel, by decide +kernel⟩
abbrev s_want_both : Stmt := topS 23
theorem sc_want_both : FnScope ["sequence", "other_sequence"] ["sequence", "other_sequence"] (defScope s_want_both) := ⟨rfl, rfl, rfl, by decide +kernel, rfl, by decide +kernel, by decide +kernel⟩
abbrev s_exchanged : Stmt := topS 29
theorem sc_exchanged : FnScope ["sequence", "exchanges"] ["sequence", "exchanges"] (defScope s_exchanged) := ⟨rfl, rfl, rfl, by decide +kernel, rfl, by decide +kernel, by decide +kernel⟩
abbrev s_turned_pairs : Stmt := topS 25
theorem sc_turned_pairs : FnScope ["sequence", "other_sequence"] ["sequence", "other_sequence"] (defScope s_turned_pairs) := ⟨rfl, rfl, rfl, by decide +kernel, rfl, by decide +kernel, by decide +kernel⟩
abbrev s_is_even : Stmt := topS 26
theorem sc_is_even : FnScope ["sequence", "other_sequence"] ["sequence", "other_sequence"] (defScope s_is_even) := ⟨rfl, rfl, rfl, by decide +kernel, rfl, by decide +kernel, by decide +kernel⟩
abbrev s_fewest_exchanges : Stmt := topS 27
theorem sc_fewest_exchanges : FnScope ["sequence", "other_sequence"] ["sequence", "other_sequence"] (defScope s_fewest_exchanges) := ⟨rfl, rfl, rfl, by decide +kernel, rfl, by decide +kernel, by decide +kernel⟩
abbrev s_exchanges : Stmt := topS 28
theorem sc_exchanges : FnScope ["sequence", "other_sequence"] ["sequence", "other_sequence"] (defScope s_exchanges) := ⟨rfl, rfl, rfl, by decide +kernel, rfl, by decide +kernel, by decide +kernel⟩
abbrev s__law_right : Stmt := topS 42
theorem sc__law_right : FnScope ["pot", "counts", "near", "far", "due", "told", "others", "fewest", "some", "pairs", "turn", "one", "late", "value"] ["pot"] (defScope s__law_right) := ⟨rfl, rfl, rfl, by decide +kernel, rfl, by decide +kernel, by decide +kernel⟩
abbrev s_law : Stmt := topS 43
theorem sc_law : FnScope ["script", "k"] ["script"] (defScope s_law) := ⟨rfl, rfl, rfl, by decide +kernel, rfl, by decide +kernel, by decide +kernel⟩
/-- what the top has written -/
structure T (K : PySem.W.Frag) (mg : PySem.Str → Option Value) where
  is_integer : DefF K mg "is_integer" s_is_integer
  is_row : DefF K mg "is_row" s_is_row
  turned_of : DefF K mg "turned_of" s_turned_of
  cycles_of : DefF K mg "cycles_of" s_cycles_of
  exchanged_by : DefF K mg "exchanged_by" s_exchanged_by
  exchanges_of : DefF K mg "exchanges_of" s_exchanges_of
  _law_pot : DefF K mg "_law_pot" s__law_pot
  _law_draw : DefF K mg "_law_draw" s__law_draw
  _law_rest : DefF K mg "_law_rest" s__law_rest
  _law_turned : DefF K mg "_law_turned" s__law_turned
  _law_done : DefF K mg "_law_done" s__law_done
  _law_lots : DefF K mg "_law_lots" s__law_lots
  _law_is_sequence : DefF K mg "_law_is_sequence" s__law_is_sequence
  is_count : DefF K mg "is_count" s_is_count
  is_even_order : DefF K mg "is_even_order" s_is_even_order
  _law_sequence : DefF K mg "_law_sequence" s__law_sequence
  _law_counts : DefF K mg "_law_counts" s__law_counts
  _law_is_even : DefF K mg "_law_is_even" s__law_is_even
  is_below : DefF K mg "is_below" s_is_below
  _law_led : DefF K mg "_law_led" s__law_led
  is_sequence_of : DefF K mg "is_sequence_of" s_is_sequence_of
  is_exchange : DefF K mg "is_exchange" s_is_exchange
  is_fitting : DefF K mg "is_fitting" s_is_fitting
  are_exchanges : DefF K mg "are_exchanges" s_are_exchanges
  want_sequence : DefF K mg "want_sequence" s_want_sequence
  is_sequence : DefF K mg "is_sequence" s_is_sequence
  want_both : DefF K mg "want_both" s_want_both
  exchanged : DefF K mg "exchanged" s_exchanged
  turned_pairs : DefF K mg "turned_pairs" s_turned_pairs
  is_even : DefF K mg "is_even" s_is_even
  fewest_exchanges : DefF K mg "fewest_exchanges" s_fewest_exchanges
  exchanges : DefF K mg "exchanges" s_exchanges
  _law_right : DefF K mg "_law_right" s__law_right
  law : DefF K mg "law" s_law
  c_MOST_COUNT : ∃ t, mg "MOST_COUNT" = some (.int 16 t)
  c_MOST_EXCHANGES : ∃ t, mg "MOST_EXCHANGES" = some (.int 200 t)
  c_MOST_LONG : ∃ t, mg "MOST_LONG" = some (.int 16 t)
  z_abs : mg "abs" = none
  z_all : mg "all" = none
  z_bool : mg "bool" = none
  z_divmod : mg "divmod" = none
  z_enumerate : mg "enumerate" = none
  z_int : mg "int" = none
  z_isinstance : mg "isinstance" = none
  z_len : mg "len" = none
  z_list : mg "list" = none
  z_max : mg "max" = none
  z_min : mg "min" = none
  z_range : mg "range" = none
  z_repr : mg "repr" = none
  z_set : mg "set" = none
  z_sorted : mg "sorted" = none
  z_tuple : mg "tuple" = none
section
variable {P : Program} {w : World} {K : PySem.W.Frag} {mg : PySem.Str → Option Value} {base : Heap}
theorem b_is_integer (T : T K mg) : Binds K T.is_integer.fd ["value"] [] := T.is_integer.F.binds fun _ _ _ _ _ _ us hl => match us, hl with | [_], _ => rfl
theorem b_is_row (T : T K mg) : Binds K T.is_row.fd ["value", "many"] [] := T.is_row.F.binds fun _ _ _ _ _ _ us hl => match us, hl with | [_, _], _ => rfl
theorem b_turned_of (T : T K mg) : Binds K T.turned_of.fd ["sequence", "other"] [] := T.turned_of.F.binds fun _ _ _ _ _ _ us hl => match us, hl with | [_, _], _ => rfl
theorem b_cycles_of (T : T K mg) : Binds K T.cycles_of.fd ["sequence", "other"] [] := T.cycles_of.F.binds fun _ _ _ _ _ _ us hl => match us, hl with | [_, _], _ => rfl
theorem b_exchanged_by (T : T K mg) : Binds K T.exchanged_by.fd ["sequence", "exchanges"] [] := T.exchanged_by.F.binds fun _ _ _ _ _ _ us hl => match us, hl with | [_, _], _ => rfl
theorem b_exchanges_of (T : T K mg) : Binds K T.exchanges_of.fd ["sequence", "other"] [] := T.exchanges_of.F.binds fun _ _ _ _ _ _ us hl => match us, hl with | [_, _], _ => rfl
theorem b__law_pot (T : T K mg) : Binds K T._law_pot.fd ["script", "k"] [] := T._law_pot.F.binds fun _ _ _ _ _ _ us hl => match us, hl with | [_, _], _ => rfl
theorem b__law_draw (T : T K mg) : Binds K T._law_draw.fd ["pot", "many"] [] := T._law_draw.F.binds fun _ _ _ _ _ _ us hl => match us, hl with | [_, _], _ => rfl
theorem b__law_rest (T : T K mg) : Binds K T._law_rest.fd ["number", "modulus"] [] := T._law_rest.F.binds fun _ _ _ _ _ _ us hl => match us, hl with | [_, _], _ => rfl
theorem b__law_turned (T : T K mg) : Binds K T._law_turned.fd ["near", "far"] [] := T._law_turned.F.binds fun _ _ _ _ _ _ us hl => match us, hl with | [_, _], _ => rfl
theorem b__law_done (T : T K mg) : Binds K T._law_done.fd ["counts", "pairs"] [] := T._law_done.F.binds fun _ _ _ _ _ _ us hl => match us, hl with | [_, _], _ => rfl
theorem b__law_lots (T : T K mg) : Binds K T._law_lots.fd ["near", "far"] [] := T._law_lots.F.binds fun _ _ _ _ _ _ us hl => match us, hl with | [_, _], _ => rfl
theorem b__law_is_sequence (T : T K mg) : Binds K T._law_is_sequence.fd ["value"] [] := T._law_is_sequence.F.binds fun _ _ _ _ _ _ us hl => match us, hl with | [_], _ => rfl
theorem b_is_count (T : T K mg) : Binds K T.is_count.fd ["value"] [] := T.is_count.F.binds fun _ _ _ _ _ _ us hl => match us, hl with | [_], _ => rfl
theorem b_is_even_order (T : T K mg) : Binds K T.is_even_order.fd ["sequence", "other"] [] := T.is_even_order.F.binds fun _ _ _ _ _ _ us hl => match us, hl with | [_, _], _ => rfl
theorem b__law_sequence (T : T K mg) : Binds K T._law_sequence.fd ["pot", "many"] [] := T._law_sequence.F.binds fun _ _ _ _ _ _ us hl => match us, hl with | [_, _], _ => rfl
theorem b__law_counts (T : T K mg) : Binds K T._law_counts.fd ["pot", "many"] [] := T._law_counts.F.binds fun _ _ _ _ _ _ us hl => match us, hl with | [_, _], _ => rfl
theorem b__law_is_even (T : T K mg) : Binds K T._law_is_even.fd ["near", "far"] [] := T._law_is_even.F.binds fun _ _ _ _ _ _ us hl => match us, hl with | [_, _], _ => rfl
theorem b_is_below (T : T K mg) : Binds K T.is_below.fd ["value", "many"] [] := T.is_below.F.binds fun _ _ _ _ _ _ us hl => match us, hl with | [_, _], _ => rfl
theorem b__law_led (T : T K mg) : Binds K T._law_led.fd ["pot", "counts"] [] := T._law_led.F.binds fun _ _ _ _ _ _ us hl => match us, hl with | [_, _], _ => rfl
theorem b_is_sequence_of (T : T K mg) : Binds K T.is_sequence_of.fd ["value"] [] := T.is_sequence_of.F.binds fun _ _ _ _ _ _ us hl => match us, hl with | [_], _ => rfl
theorem b_is_exchange (T : T K mg) : Binds K T.is_exchange.fd ["sequence", "value"] [] := T.is_exchange.F.binds fun _ _ _ _ _ _ us hl => match us, hl with | [_, _], _ => rfl
theorem b_is_fitting (T : T K mg) : Binds K T.is_fitting.fd ["sequence", "value"] [] := T.is_fitting.F.binds fun _ _ _ _ _ _ us hl => match us, hl with | [_, _], _ => rfl
theorem b_are_exchanges (T : T K mg) : Binds K T.are_exchanges.fd ["sequence", "value"] [] := T.are_exchanges.F.binds fun _ _ _ _ _ _ us hl => match us, hl with | [_, _], _ => rfl
theorem b_want_sequence (T : T K mg) : Binds K T.want_sequence.fd ["value"] [] := T.want_sequence.F.binds fun _ _ _ _ _ _ us hl => match us, hl with | [_], _ => rfl
theorem b_is_sequence (T : T K mg) : Binds K T.is_sequence.fd ["value"] [] := T.is_sequence.F.binds fun _ _ _ _ _ _ us hl => match us, hl with | [_], _ => rfl
theorem b_want_both (T : T K mg) : Binds K T.want_both.fd ["sequence", "other_sequence"] [] := T.want_both.F.binds fun _ _ _ _ _ _ us hl => match us, hl with | [_, _], _ => rfl
theorem b_exchanged (T : T K mg) : Binds K T.exchanged.fd ["sequence", "exchanges"] [] := T.exchanged.F.binds fun _ _ _ _ _ _ us hl => match us, hl with | [_, _], _ => rfl
theorem b_turned_pairs (T : T K mg) : Binds K T.turned_pairs.fd ["sequence", "other_sequence"] [] := T.turned_pairs.F.binds fun _ _ _ _ _ _ us hl => match us, hl with | [_, _], _ => rfl
theorem b_is_even (T : T K mg) : Binds K T.is_even.fd ["sequence", "other_sequence"] [] := T.is_even.F.binds fun _ _ _ _ _ _ us hl => match us, hl with | [_, _], _ => rfl
theorem b_fewest_exchanges (T : T K mg) : Binds K T.fewest_exchanges.fd ["sequence", "other_sequence"] [] := T.fewest_exchanges.F.binds fun _ _ _ _ _ _ us hl => match us, hl with | [_, _], _ => rfl
theorem b_exchanges (T : T K mg) : Binds K T.exchanges.fd ["sequence", "other_sequence"] [] := T.exchanges.F.binds fun _ _ _ _ _ _ us hl => match us, hl with | [_, _], _ => rfl
theorem b__law_right (T : T K mg) : Binds K T._law_right.fd ["pot"] [] := T._law_right.F.binds fun _ _ _ _ _ _ us hl => match us, hl with | [_], _ => rfl
theorem b_law (T : T K mg) : Binds K T.law.fd ["script"] [] := T.law.F.binds fun _ _ _ _ _ _ us hl => match us, hl with | [_], _ => rfl
theorem bk_is_sequence_0 (T : T K mg) : BindK T.is_sequence.fd ["value"] ["value"] [0] := bindK_of T.is_sequence.F fun _ _ _ _ _ _ us hl => match us, hl with | [_], _ => rfl
theorem bk_exchanged_1_0 (T : T K mg) : BindK T.exchanged.fd ["sequence", "exchanges"] ["exchanges", "sequence"] [1, 0] := bindK_of T.exchanged.F fun _ _ _ _ _ _ us hl => match us, hl with | [_, _], _ => rfl
theorem bk_exchanges_1_0 (T : T K mg) : BindK T.exchanges.fd ["sequence", "other_sequence"] ["other_sequence", "sequence"] [1, 0] := bindK_of T.exchanges.F fun _ _ _ _ _ _ us hl => match us, hl with | [_, _], _ => rfl
theorem bk_fewest_exchanges_1_0 (T : T K mg) : BindK T.fewest_exchanges.fd ["sequence", "other_sequence"] ["other_sequence", "sequence"] [1, 0] := bindK_of T.fewest_exchanges.F fun _ _ _ _ _ _ us hl => match us, hl with | [_, _], _ => rfl
theorem bk_is_even_1_0 (T : T K mg) : BindK T.is_even.fd ["sequence", "other_sequence"] ["other_sequence", "sequence"] [1, 0] := bindK_of T.is_even.F fun _ _ _ _ _ _ us hl => match us, hl with | [_, _], _ => rfl
theorem bk_turned_pairs_1_0 (T : T K mg) : BindK T.turned_pairs.fd ["sequence", "other_sequence"] ["other_sequence", "sequence"] [1, 0] := bindK_of T.turned_pairs.F fun _ _ _ _ _ _ us hl => match us, hl with | [_, _], _ => rfl
def G_is_integer : DF := dfN false 1 1 (
  mRet (mAndV (mIsi "int" (mVar 0)) (mNotV (mIsi "bool" (mVar 0)))))
theorem ok_is_integer (T : T K mg) : FnG P w K mg base 1 T.is_integer.f T.is_integer.fd ["value"] (spD K false G_is_integer) := fnG_body T.is_integer.F sc_is_integer (by decide) fun cdv A outer s H hA hr =>
  have hu := room_u' hr; have hu2 := room_u hr
  dss_one (ds_ret (de_and (w_isi "int" (by decide) PyProof.Rows.boot_int PyProof.Rows.boot_isinstance T.z_isinstance T.z_int (w_v 0)) (de_one (de_not (w_isi "bool" (by decide) PyProof.Rows.boot_bool PyProof.Rows.boot_isinstance T.z_isinstance T.z_bool (w_v 0))))))
def G_is_row : DF := dfN false 2 2 (
  mRet (mAndV (mIsi "tuple" (mVar 0)) (mBin (fEq false) (mCB fLen (mCons (mVar 0) (mNil))) (mVar 1))))
theorem ok_is_row (T : T K mg) : FnG P w K mg base 1 T.is_row.f T.is_row.fd ["value", "many"] (spD K false G_is_row) := fnG_body T.is_row.F sc_is_row (by decide) fun cdv A outer s H hA hr =>
  have hu := room_u' hr; have hu2 := room_u hr
  dss_one (ds_ret (de_and (w_isi "tuple" (by decide) PyProof.Rows.boot_tuple PyProof.Rows.boot_isinstance T.z_isinstance T.z_tuple (w_v 0)) (de_one (de_eq hu (w_b call_len d_len PySem.boot_len T.z_len (da_cons (w_v 0) (da_nil))) (w_v 1)))))
def G_turned_of : DF := dfN false 2 7 (
  mSeq (mSetN [2, 3] (mConsH (mLc (mItA (mVar 0)) (gSetN 5) (mYes) (mIdxT (mVar 1) (mVar 5)) [5]) (mConsH (mLst (mNil)) (mNil)))) (mSeq (mFor (mRng1 (mCons (mCB fLen (mCons (mVar 2) (mNil))) (mNil))) (gSetN 4) (mExpr (mExt 3 (mLc (mRng2 (mCons (mBin fAdd (mVar 4) (mC (.int 1))) (mCons (mCB fLen (mCons (mVar 2) (mNil))) (mNil)))) (gSetN 6) (mTest (mBin (fCmp gGt) (mBin fIx (mVar 2) (mVar 4)) (mBin fIx (mVar 2) (mVar 6)))) (mTup (mCons (mVar 4) (mCons (mVar 6) (mNil)))) [6])))) (mRet (mVar 3))))
theorem ok_turned_of (T : T K mg) : FnG P w K mg base 1 T.turned_of.f T.turned_of.fd ["sequence", "other"] (spD K false G_turned_of) := fnG_body T.turned_of.F sc_turned_of (by decide) fun cdv A outer s H hA hr =>
  have hu := room_u' hr; have hu2 := room_u hr
  dss_cons (w_parT (is := [2, 3]) (gn_cons 2 sc_turned_of.nd (gn_cons 3 sc_turned_of.nd (gn_nil))) (by decide) (dh_cons (w_lc [("one", 5)] sc_turned_of.nd (wi (w_v 0)) (fun _ _ _ _ _ => wg 5 sc_turned_of.nd) (fun _ _ _ _ _ => dts_nil) (fun _ _ _ _ _ => w_idxT (w_v 1) (w_v 5))) (dh_cons (de_lst (da_nil)) (dh_nil)))) (
    dss_cons (w_for (wi_rng1 T.z_range (da_cons (w_b call_len d_len PySem.boot_len T.z_len (da_cons (w_v 2) (da_nil))) (da_nil))) (wg 4 sc_turned_of.nd) (dss_one (ds_expr (w_ext 3 (w_lc [("far", 6)] sc_turned_of.nd (wi_rng2 T.z_range (da_cons (de_add (w_v 4) (de_int)) (da_cons (w_b call_len d_len PySem.boot_len T.z_len (da_cons (w_v 2) (da_nil))) (da_nil)))) (fun _ _ _ _ _ => wg 6 sc_turned_of.nd) (fun _ _ _ _ _ => dts_one (wt_gt (w_ix (w_v 2) (w_v 4)) (w_ix (w_v 2) (w_v 6)))) (fun _ _ _ _ _ => de_tup (da_cons (w_v 4) (da_cons (w_v 6) (da_nil))))))))) (
    dss_one (ds_ret (w_v 3))))
def G_cycles_of : DF := dfN false 2 7 (
  mSeq (mSetN [2, 3] (mConsH (mLst (mNil)) (mConsH (mLst (mNil)) (mNil)))) (mSeq (mFor (mRng1 (mCons (mCB fLen (mCons (mVar 0) (mNil))) (mNil))) (gSetN 4) (mIfS (mTest (mBin (fIn true) (mVar 4) (mVar 3))) (mSeq (mSetN [5, 6] (mConsH (mLst (mCons (mVar 4) (mNil))) (mConsH (mIdxT (mVar 1) (mBin fIx (mVar 0) (mVar 4))) (mNil)))) (mSeq (mWhile (mTest (mBin (fEq true) (mVar 6) (mVar 4))) (mSeq (mExpr (mApp 5 (mVar 6))) (mSet 6 (mIdxT (mVar 1) (mBin fIx (mVar 0) (mVar 6)))))) (mSeq (mExpr (mApp 2 (mCB fTuple (mCons (mVar 5) (mNil))))) (mExpr (mExt 3 (mVar 5)))))) (mNext))) (mRet (mVar 2))))
theorem ok_cycles_of (T : T K mg) : FnG P w K mg base 1 T.cycles_of.f T.cycles_of.fd ["sequence", "other"] (spD K false G_cycles_of) := fnG_body T.cycles_of.F sc_cycles_of (by decide) fun cdv A outer s H hA hr =>
  have hu := room_u' hr; have hu2 := room_u hr
  dss_cons (w_par2 2 3 sc_cycles_of.nd (by decide) (dh_cons (de_lst (da_nil)) (dh_cons (de_lst (da_nil)) (dh_nil)))) (
    dss_cons (w_for (wi_rng1 T.z_range (da_cons (w_b call_len d_len PySem.boot_len T.z_len (da_cons (w_v 0) (da_nil))) (da_nil))) (wg 4 sc_cycles_of.nd) (dss_one (ds_if (wt_notIn hu (w_v 4) (w_v 3)) (dss_cons (w_par2 5 6 sc_cycles_of.nd (by decide) (dh_cons (de_lst (da_cons (w_v 4) (da_nil))) (dh_cons (w_idxT (w_v 1) (w_ix (w_v 0) (w_v 4))) (dh_nil)))) (
    dss_cons (w_while (wt_ne hu (w_v 6) (w_v 4)) (dss_cons (ds_expr (w_app 5 (w_v 6))) (
    dss_one (w_set 6 sc_cycles_of.nd (w_idxT (w_v 1) (w_ix (w_v 0) (w_v 6))))))) (
    dss_cons (ds_expr (w_app 2 (w_t call_tupF d_tuple PyProof.Rows.boot_tuple T.z_tuple (da_cons (w_v 5) (da_nil))))) (
    dss_one (ds_expr (w_ext 3 (w_v 5))))))) (dss_nil)))) (
    dss_one (ds_ret (w_v 2))))
def G_exchanged_by : DF := dfN false 2 5 (
  mSeq (mSet 2 (mCB fList (mCons (mVar 0) (mNil)))) (mSeq (mFor (mItA (mVar 1)) (gSetT [3, 4]) (mAsg (mTup (mCons (mBin fIx (mVar 2) (mVar 4)) (mCons (mBin fIx (mVar 2) (mVar 3)) (mNil)))) (gTupS (gsCons (gPut 2 (mVar 3)) (gsCons (gPut 2 (mVar 4)) (gsNil))) 2))) (mRet (mCB fTuple (mCons (mVar 2) (mNil))))))
theorem ok_exchanged_by (T : T K mg) : FnG P w K mg base 1 T.exchanged_by.f T.exchanged_by.fd ["sequence", "exchanges"] (spD K false G_exchanged_by) := fnG_body T.exchanged_by.F sc_exchanged_by (by decide) fun cdv A outer s H hA hr =>
  have hu := room_u' hr; have hu2 := room_u hr
  dss_cons (w_set 2 sc_exchanged_by.nd (w_t call_list_of d_list PyProof.Rows.boot_list T.z_list (da_cons (w_v 0) (da_nil)))) (
    dss_cons (w_for (wi (w_v 1)) (wgT (gn_cons 3 sc_exchanged_by.nd (gn_cons 4 sc_exchanged_by.nd (gn_nil)))) (dss_one (w_asg (de_tup (da_cons (w_ix (w_v 2) (w_v 4)) (da_cons (w_ix (w_v 2) (w_v 3)) (da_nil)))) (wp_tup (dps_cons (wp_put 2 (w_v 3)) (dps_cons (wp_put 2 (w_v 4)) (dps_nil))))))) (
    dss_one (ds_ret (w_t call_tupF d_tuple PyProof.Rows.boot_tuple T.z_tuple (da_cons (w_v 2) (da_nil))))))
def G_exchanges_of : DF := dfN false 2 7 (
  mSeq (mSetN [2, 3] (mConsH (mCB fList (mCons (mVar 0) (mNil))) (mConsH (mLst (mNil)) (mNil)))) (mSeq (mFor (mEnu (mVar 1)) (gSetT [4, 5]) (mSeq (mSet 6 (mIdxL (mVar 2) (mVar 5))) (mIfS (mTest (mBin (fEq true) (mVar 6) (mVar 4))) (mSeq (mExpr (mApp 3 (mTup (mCons (mVar 4) (mCons (mVar 6) (mNil)))))) (mAsg (mTup (mCons (mBin fIx (mVar 2) (mVar 6)) (mCons (mBin fIx (mVar 2) (mVar 4)) (mNil)))) (gTupS (gsCons (gPut 2 (mVar 4)) (gsCons (gPut 2 (mVar 6)) (gsNil))) 2))) (mNext)))) (mRet (mCB fTuple (mCons (mVar 3) (mNil))))))
theorem ok_exchanges_of (T : T K mg) : FnG P w K mg base 1 T.exchanges_of.f T.exchanges_of.fd ["sequence", "other"] (spD K false G_exchanges_of) := fnG_body T.exchanges_of.F sc_exchanges_of (by decide) fun cdv A outer s H hA hr =>
  have hu := room_u' hr; have hu2 := room_u hr
  dss_cons (w_par2 2 3 sc_exchanges_of.nd (by decide) (dh_cons (w_t call_list_of d_list PyProof.Rows.boot_list T.z_list (da_cons (w_v 0) (da_nil))) (dh_cons (de_lst (da_nil)) (dh_nil)))) (
    dss_cons (w_for (wi_enu T.z_enumerate (w_v 1)) (wgT (gn_cons 4 sc_exchanges_of.nd (gn_cons 5 sc_exchanges_of.nd (gn_nil)))) (dss_cons (w_set 6 sc_exchanges_of.nd (w_idxL (w_v 2) (w_v 5))) (
    dss_one (ds_if (wt_ne hu (w_v 6) (w_v 4)) (dss_cons (ds_expr (w_app 3 (de_tup (da_cons (w_v 4) (da_cons (w_v 6) (da_nil)))))) (
    dss_one (w_asg (de_tup (da_cons (w_ix (w_v 2) (w_v 6)) (da_cons (w_ix (w_v 2) (w_v 4)) (da_nil)))) (wp_tup (dps_cons (wp_put 2 (w_v 4)) (dps_cons (wp_put 2 (w_v 6)) (dps_nil))))))) (dss_nil))))) (
    dss_one (ds_ret (w_t call_tupF d_tuple PyProof.Rows.boot_tuple T.z_tuple (da_cons (w_v 3) (da_nil))))))
def G__law_pot : List Int → DF := dfS 2 3 (
  mSeq (mSet 2 (mIf (mTest (mBin (fCmp gLt) (mVar 1) (mScrLen 0))) (mCB fAbs (mCons (mScrIx 0 (mVar 1)) (mNil))) (mBin fAdd (mBin fMul (mC (.int 3359)) (mVar 1)) (mC (.int 2153))))) (mRet (mLst (mCons (mCB fMax2 (mCons (mC (.int 0)) (mCons (mBin fSub (mVar 2) (mBin fPow (mC (.int 10)) (mC (.int 18)))) (mNil)))) (mCons (mBin fAdd (mBin fMod (mCB fInt (mCons (mBin fAdd (mBin fAdd (mBin fMul (mBin fMod (mCB fInt (mCons (mVar 2) (mNil))) (mC (.int 2147483549))) (mC (.int 40014))) (mBin fMul (mC (.int 2543)) (mVar 1))) (mC (.int 2927))) (mNil))) (mC (.int 2147483563))) (mC (.int 1))) (mNil))))))
theorem ok__law_pot (T : T K mg) : FnG P w K mg base 1 T._law_pot.f T._law_pot.fd ["script", "k"] (spS K G__law_pot) := fnG_bodyS T._law_pot.F sc__law_pot (by decide) fun cdv A outer s H hA hr =>
  have hu := room_u' hr; have hu2 := room_u hr
  dss_cons (w_set 2 sc__law_pot.nd (de_if (wt_lt (w_v 1) (w_scrLen 0 T.z_len)) (w_b call_abs d_abs PyProof.Rows.boot_abs T.z_abs (da_cons (w_scrIx 0 (w_v 1)) (da_nil))) (de_add (de_mul (de_int) (w_v 1)) (de_int)))) (
    dss_one (ds_ret (de_lst (da_cons (w_b (call_max2 rfl) d_max2 PyProof.Rows.boot_max T.z_max (da_cons (de_int) (da_cons (de_sub (w_v 2) (de_pow (de_int) (de_int))) (da_nil)))) (da_cons (de_add (de_mod (w_t call_int1 d_int PyProof.Rows.boot_int T.z_int (da_cons (de_add (de_add (de_mul (de_mod (w_t call_int1 d_int PyProof.Rows.boot_int T.z_int (da_cons (w_v 2) (da_nil))) (de_int)) (de_int)) (de_mul (de_int) (w_v 1))) (de_int)) (da_nil))) (de_int)) (de_int)) (da_nil))))))
def G__law_draw : DF := dfN true 2 3 (
  mSeq (mIfS (mTest (mBin (fCmp gGt) (mPotIx 0 0) (mC (.int 0)))) (mSeq (mAsg (mCB fDivmod (mCons (mPotIx 0 0) (mCons (mVar 1) (mNil)))) (gTupS (gsCons (gPot 0 0) (gsCons (gSetN 2) (gsNil))) 2)) (mRet (mVar 2))) (mNext)) (mSeq (mAsg (mBin fMod (mCB fInt (mCons (mBin fAdd (mBin fMul (mPotIx 0 1) (mC (.int 40692))) (mC (.int 6287))) (mNil))) (mC (.int 2147483587))) (gPot 0 1)) (mRet (mBin fMod (mCB fInt (mCons (mBin fDiv (mBin fMod (mCB fInt (mCons (mBin fMul (mPotIx 0 1) (mPotIx 0 1)) (mNil))) (mC (.int 2147483549))) (mC (.int 17))) (mNil))) (mVar 1)))))
theorem ok__law_draw (T : T K mg) : FnG P w K mg base 1 T._law_draw.f T._law_draw.fd ["pot", "many"] (spD K true G__law_draw) := fnG_body T._law_draw.F sc__law_draw (by decide) fun cdv A outer s H hA hr =>
  have hu := room_u' hr; have hu2 := room_u hr
  dss_cons (ds_if (wt_gt (w_pot 0 0) (de_int)) (dss_cons (w_asg (w_b call_divmodF d_divmod PyProof.Rows.boot_divmod T.z_divmod (da_cons (w_pot 0 0) (da_cons (w_v 1) (da_nil)))) (wp_tup (dps_cons (wp_pot 0 0) (dps_cons (wp_name 2 sc__law_draw.nd) (dps_nil))))) (
    dss_one (ds_ret (w_v 2)))) (dss_nil)) (
    dss_cons (w_asg (de_mod (w_t call_int1 d_int PyProof.Rows.boot_int T.z_int (da_cons (de_add (de_mul (w_pot 0 1) (de_int)) (de_int)) (da_nil))) (de_int)) (wp_pot 0 1)) (
    dss_one (ds_ret (de_mod (w_t call_int1 d_int PyProof.Rows.boot_int T.z_int (da_cons (de_div (de_mod (w_t call_int1 d_int PyProof.Rows.boot_int T.z_int (da_cons (de_mul (w_pot 0 1) (w_pot 0 1)) (da_nil))) (de_int)) (de_int)) (da_nil))) (w_v 1)))))
def G__law_rest : DF := dfN false 2 2 (
  mRet (mBin fSub (mVar 0) (mBin fMul (mBin fDiv (mVar 0) (mVar 1)) (mVar 1))))
theorem ok__law_rest (T : T K mg) : FnG P w K mg base 1 T._law_rest.f T._law_rest.fd ["number", "modulus"] (spD K false G__law_rest) := fnG_body T._law_rest.F sc__law_rest (by decide) fun cdv A outer s H hA hr =>
  have hu := room_u' hr; have hu2 := room_u hr
  dss_one (ds_ret (de_sub (w_v 0) (de_mul (de_div (w_v 0) (w_v 1)) (w_v 1))))
def G__law_turned : DF := dfN false 2 5 (
  mSeq (mSet 2 (mLst (mNil))) (mSeq (mFor (mRng1 (mCons (mCB fLen (mCons (mVar 0) (mNil))) (mNil))) (gSetN 3) (mFor (mRng2 (mCons (mBin fAdd (mVar 3) (mC (.int 1))) (mCons (mCB fLen (mCons (mVar 0) (mNil))) (mNil)))) (gSetN 4) (mExpr (mExt 2 (mIf (mTest (mBin (fCmp gGt) (mIdxT (mVar 1) (mBin fIx (mVar 0) (mVar 3))) (mIdxT (mVar 1) (mBin fIx (mVar 0) (mVar 4))))) (mLst (mCons (mTup (mCons (mVar 3) (mCons (mVar 4) (mNil)))) (mNil))) (mLst (mNil))))))) (mRet (mVar 2))))
theorem ok__law_turned (T : T K mg) : FnG P w K mg base 1 T._law_turned.f T._law_turned.fd ["near", "far"] (spD K false G__law_turned) := fnG_body T._law_turned.F sc__law_turned (by decide) fun cdv A outer s H hA hr =>
  have hu := room_u' hr; have hu2 := room_u hr
  dss_cons (w_set 2 sc__law_turned.nd (de_lst (da_nil))) (
    dss_cons (w_for (wi_rng1 T.z_range (da_cons (w_b call_len d_len PySem.boot_len T.z_len (da_cons (w_v 0) (da_nil))) (da_nil))) (wg 3 sc__law_turned.nd) (dss_one (w_for (wi_rng2 T.z_range (da_cons (de_add (w_v 3) (de_int)) (da_cons (w_b call_len d_len PySem.boot_len T.z_len (da_cons (w_v 0) (da_nil))) (da_nil)))) (wg 4 sc__law_turned.nd) (dss_one (ds_expr (w_ext 2 (de_if (wt_gt (w_idxT (w_v 1) (w_ix (w_v 0) (w_v 3))) (w_idxT (w_v 1) (w_ix (w_v 0) (w_v 4)))) (de_lst (da_cons (de_tup (da_cons (w_v 3) (da_cons (w_v 4) (da_nil)))) (da_nil))) (de_lst (da_nil))))))))) (
    dss_one (ds_ret (w_v 2))))
def G__law_done : DF := dfN false 2 5 (
  mSeq (mSet 2 (mCB fList (mCons (mVar 0) (mNil)))) (mSeq (mFor (mItA (mVar 1)) (gSetT [3, 4]) (mAsg (mTup (mCons (mBin fIx (mVar 2) (mVar 4)) (mCons (mBin fIx (mVar 2) (mVar 3)) (mNil)))) (gTupS (gsCons (gPut 2 (mVar 3)) (gsCons (gPut 2 (mVar 4)) (gsNil))) 2))) (mRet (mCB fTuple (mCons (mVar 2) (mNil))))))
theorem ok__law_done (T : T K mg) : FnG P w K mg base 1 T._law_done.f T._law_done.fd ["counts", "pairs"] (spD K false G__law_done) := fnG_body T._law_done.F sc__law_done (by decide) fun cdv A outer s H hA hr =>
  have hu := room_u' hr; have hu2 := room_u hr
  dss_cons (w_set 2 sc__law_done.nd (w_t call_list_of d_list PyProof.Rows.boot_list T.z_list (da_cons (w_v 0) (da_nil)))) (
    dss_cons (w_for (wi (w_v 1)) (wgT (gn_cons 3 sc__law_done.nd (gn_cons 4 sc__law_done.nd (gn_nil)))) (dss_one (w_asg (de_tup (da_cons (w_ix (w_v 2) (w_v 4)) (da_cons (w_ix (w_v 2) (w_v 3)) (da_nil)))) (wp_tup (dps_cons (wp_put 2 (w_v 3)) (dps_cons (wp_put 2 (w_v 4)) (dps_nil))))))) (
    dss_one (ds_ret (w_t call_tupF d_tuple PyProof.Rows.boot_tuple T.z_tuple (da_cons (w_v 2) (da_nil))))))
def G__law_lots : DF := dfN false 2 7 (
  mSeq (mSetN [2, 3] (mConsH (mCB fList (mCons (mVar 0) (mNil))) (mConsH (mC (.int 0)) (mNil)))) (mSeq (mFor (mItA (mVar 0)) (gSetN 4) (mIfS (mTest (mBin (fIn false) (mVar 4) (mVar 2))) (mSeq (mSetN [5, 3] (mConsH (mVar 4) (mConsH (mBin fAdd (mVar 3) (mC (.int 1))) (mNil)))) (mFor (mRng1 (mCons (mCB fLen (mCons (mVar 0) (mNil))) (mNil))) (gSetN 6) (mIfS (mTest (mBin (fIn false) (mVar 5) (mVar 2))) (mSeq (mExpr (mRem 2 (mVar 5))) (mSet 5 (mBin fIx (mVar 0) (mIdxT (mVar 1) (mVar 5))))) (mNext)))) (mNext))) (mRet (mVar 3))))
theorem ok__law_lots (T : T K mg) : FnG P w K mg base 1 T._law_lots.f T._law_lots.fd ["near", "far"] (spD K false G__law_lots) := fnG_body T._law_lots.F sc__law_lots (by decide) fun cdv A outer s H hA hr =>
  have hu := room_u' hr; have hu2 := room_u hr
  dss_cons (w_par2 2 3 sc__law_lots.nd (by decide) (dh_cons (w_t call_list_of d_list PyProof.Rows.boot_list T.z_list (da_cons (w_v 0) (da_nil))) (dh_cons (de_int) (dh_nil)))) (
    dss_cons (w_for (wi (w_v 0)) (wg 4 sc__law_lots.nd) (dss_one (ds_if (wt_in hu (w_v 4) (w_v 2)) (dss_cons (w_par2 5 3 sc__law_lots.nd (by decide) (dh_cons (w_v 4) (dh_cons (de_add (w_v 3) (de_int)) (dh_nil)))) (
    dss_one (w_for (wi_rng1 T.z_range (da_cons (w_b call_len d_len PySem.boot_len T.z_len (da_cons (w_v 0) (da_nil))) (da_nil))) (wg 6 sc__law_lots.nd) (dss_one (ds_if (wt_in hu (w_v 5) (w_v 2)) (dss_cons (ds_expr (w_rem 2 (w_v 5))) (
    dss_one (w_set 5 sc__law_lots.nd (w_ix (w_v 0) (w_idxT (w_v 1) (w_v 5)))))) (dss_nil)))))) (dss_nil)))) (
    dss_one (ds_ret (w_v 3))))
def G__law_is_sequence : DF := dfN false 1 2 (
  mSeq (mIfS (mOr (mNot (mTru (mIsi "tuple" (mVar 0)))) (mOr (mTest (mBin (fCmp gGt) (mCB fLen (mCons (mVar 0) (mNil))) (mC (.int 16)))) (mNot (mTru (mCB fAll (mCons (mLc (mItA (mVar 0)) (gSetN 1) (mYes) (mAndV (mIsi "int" (mVar 1)) (mAndV (mNotV (mIsi "bool" (mVar 1))) (mChain (fCmp gLe) (fCmp gLt) (mC (.int 0)) (mVar 1) (mC (.int 16))))) [1]) (mNil))))))) (mRet (mC (.bool false))) (mNext)) (mRet (mBin (fEq false) (mCB fLenSet (mCons (mVar 0) mNil)) (mCB fLen (mCons (mVar 0) (mNil))))))
theorem ok__law_is_sequence (T : T K mg) : FnG P w K mg base 1 T._law_is_sequence.f T._law_is_sequence.fd ["value"] (spD K false G__law_is_sequence) := fnG_body T._law_is_sequence.F sc__law_is_sequence (by decide) fun cdv A outer s H hA hr =>
  have hu := room_u' hr; have hu2 := room_u hr
  dss_cons (ds_if (dt_w (dw_or (dt_not (wt (w_isi "tuple" (by decide) PyProof.Rows.boot_tuple PyProof.Rows.boot_isinstance T.z_isinstance T.z_tuple (w_v 0)))) (dw_or (wt_gt (w_b call_len d_len PySem.boot_len T.z_len (da_cons (w_v 0) (da_nil))) (de_int)) (dw_or1 (dt_not (wt (w_b (cr_all rfl) d_all (by decide +kernel) T.z_all (da_cons (w_lc [("one", 1)] sc__law_is_sequence.nd (wi (w_v 0)) (fun _ _ _ _ _ => wg 1 sc__law_is_sequence.nd) (fun _ _ _ _ _ => dts_nil) (fun _ _ _ _ _ => de_and (w_isi "int" (by decide) PyProof.Rows.boot_int PyProof.Rows.boot_isinstance T.z_isinstance T.z_int (w_v 1)) (de_and (de_not (w_isi "bool" (by decide) PyProof.Rows.boot_bool PyProof.Rows.boot_isinstance T.z_isinstance T.z_bool (w_v 1))) (de_one (de_chain op_le op_lt d_cmp d_cmp (de_int) (w_v 1) (de_int)))))) (da_nil))))))))) (dss_one (ds_ret (de_bl))) (dss_nil)) (
    dss_one (ds_ret (de_eq hu (w_lenSet T.z_len T.z_set (w_v 0)) (w_b call_len d_len PySem.boot_len T.z_len (da_cons (w_v 0) (da_nil))))))
def G_is_count : DF := dfN false 1 1 (
  mRet (mAndV (mCall G_is_integer (mCons (mVar 0) (mNil))) (mBin (fCmp gGe) (mVar 0) (mC (.int 0)))))
theorem ok_is_count (T : T K mg) : FnG P w K mg base 2 T.is_count.f T.is_count.fd ["value"] (spD K false G_is_count) := fnG_body T.is_count.F sc_is_count (by decide) fun cdv A outer s H hA hr =>
  have hu := room_u' hr; have hu2 := room_u hr
  dss_one (ds_ret (de_and (w_call (ok_is_integer T) (by decide) hA hr T.is_integer.g T.is_integer.F.kp (b_is_integer T) (da_cons (w_v 0) (da_nil))) (de_one (de_ge (w_v 0) (de_int)))))
def G_is_even_order : DF := dfN false 2 2 (
  mRet (mBin (fEq false) (mBin fMod (mCB fLen (mCons (mCall G_turned_of (mCons (mVar 0) (mCons (mVar 1) (mNil)))) (mNil))) (mC (.int 2))) (mC (.int 0))))
theorem ok_is_even_order (T : T K mg) : FnG P w K mg base 2 T.is_even_order.f T.is_even_order.fd ["sequence", "other"] (spD K false G_is_even_order) := fnG_body T.is_even_order.F sc_is_even_order (by decide) fun cdv A outer s H hA hr =>
  have hu := room_u' hr; have hu2 := room_u hr
  dss_one (ds_ret (de_eq hu (de_mod (w_b call_len d_len PySem.boot_len T.z_len (da_cons (w_call (ok_turned_of T) (by decide) hA hr T.turned_of.g T.turned_of.F.kp (b_turned_of T) (da_cons (w_v 0) (da_cons (w_v 1) (da_nil)))) (da_nil))) (de_int)) (de_int)))
def G__law_sequence : DF := dfN true 2 5 (
  mSeq (mSetN [2, 3] (mConsH (mRgL1 (mVar 1)) (mConsH (mLst (mNil)) (mNil)))) (mSeq (mFor (mRng1 (mCons (mVar 1) (mNil))) (gSetN 4) (mExpr (mApp 3 (mPopAt 2 (mCallP 0 G__law_draw (mCons (mCB fLen (mCons (mVar 2) (mNil))) (mNil))))))) (mRet (mVar 3))))
theorem ok__law_sequence (T : T K mg) : FnG P w K mg base 2 T._law_sequence.f T._law_sequence.fd ["pot", "many"] (spD K true G__law_sequence) := fnG_body T._law_sequence.F sc__law_sequence (by decide) fun cdv A outer s H hA hr =>
  have hu := room_u' hr; have hu2 := room_u hr
  dss_cons (w_par2 2 3 sc__law_sequence.nd (by decide) (dh_cons (w_listRg T.z_list T.z_range (w_v 1)) (dh_cons (de_lst (da_nil)) (dh_nil)))) (
    dss_cons (w_for (wi_rng1 T.z_range (da_cons (w_v 1) (da_nil))) (wg 4 sc__law_sequence.nd) (dss_one (ds_expr (w_app 3 (w_popAt 2 (w_callP (ok__law_draw T) (by decide) hA hr T._law_draw.g T._law_draw.F.kp (b__law_draw T) (pv 0) (da_cons (w_b call_len d_len PySem.boot_len T.z_len (da_cons (w_v 2) (da_nil))) (da_nil)))))))) (
    dss_one (ds_ret (w_v 3))))
def G__law_counts : DF := dfN true 2 4 (
  mSeq (mSet 2 (mRgL1 (mC (.int 16)))) (mRet (mCB fTuple (mCons (mLc (mRng1 (mCons (mVar 1) (mNil))) (gSetN 3) (mYes) (mPopAt 2 (mCallP 0 G__law_draw (mCons (mCB fLen (mCons (mVar 2) (mNil))) (mNil)))) [3]) (mNil)))))
theorem ok__law_counts (T : T K mg) : FnG P w K mg base 2 T._law_counts.f T._law_counts.fd ["pot", "many"] (spD K true G__law_counts) := fnG_body T._law_counts.F sc__law_counts (by decide) fun cdv A outer s H hA hr =>
  have hu := room_u' hr; have hu2 := room_u hr
  dss_cons (w_set 2 sc__law_counts.nd (w_listRg T.z_list T.z_range (de_int))) (
    dss_one (ds_ret (w_t call_tupF d_tuple PyProof.Rows.boot_tuple T.z_tuple (da_cons (w_lc [("turn", 3)] sc__law_counts.nd (wi_rng1 T.z_range (da_cons (w_v 1) (da_nil))) (fun _ _ _ _ _ => wg 3 sc__law_counts.nd) (fun _ _ _ _ _ => dts_nil) (fun _ _ _ _ _ => w_popAt 2 (w_callP (ok__law_draw T) (by decide) hA hr T._law_draw.g T._law_draw.F.kp (b__law_draw T) (pv 0) (da_cons (w_b call_len d_len PySem.boot_len T.z_len (da_cons (w_v 2) (da_nil))) (da_nil))))) (da_nil)))))
def G__law_is_even : DF := dfN false 2 2 (
  mRet (mBin (fEq false) (mCall G__law_rest (mCons (mCB fLen (mCons (mCall G__law_turned (mCons (mVar 0) (mCons (mVar 1) (mNil)))) (mNil))) (mCons (mC (.int 2)) (mNil)))) (mC (.int 0))))
theorem ok__law_is_even (T : T K mg) : FnG P w K mg base 2 T._law_is_even.f T._law_is_even.fd ["near", "far"] (spD K false G__law_is_even) := fnG_body T._law_is_even.F sc__law_is_even (by decide) fun cdv A outer s H hA hr =>
  have hu := room_u' hr; have hu2 := room_u hr
  dss_one (ds_ret (de_eq hu (w_call (ok__law_rest T) (by decide) hA hr T._law_rest.g T._law_rest.F.kp (b__law_rest T) (da_cons (w_b call_len d_len PySem.boot_len T.z_len (da_cons (w_call (ok__law_turned T) (by decide) hA hr T._law_turned.g T._law_turned.F.kp (b__law_turned T) (da_cons (w_v 0) (da_cons (w_v 1) (da_nil)))) (da_nil))) (da_cons (de_int) (da_nil)))) (de_int)))
def G_is_below : DF := dfN false 2 2 (
  mRet (mAndV (mCall G_is_count (mCons (mVar 0) (mNil))) (mBin (fCmp gLt) (mVar 0) (mVar 1))))
theorem ok_is_below (T : T K mg) : FnG P w K mg base 3 T.is_below.f T.is_below.fd ["value", "many"] (spD K false G_is_below) := fnG_body T.is_below.F sc_is_below (by decide) fun cdv A outer s H hA hr =>
  have hu := room_u' hr; have hu2 := room_u hr
  dss_one (ds_ret (de_and (w_call (ok_is_count T) (by decide) hA hr T.is_count.g T.is_count.F.kp (b_is_count T) (da_cons (w_v 0) (da_nil))) (de_one (de_lt (w_v 0) (w_v 1)))))
def G__law_led : DF := dfN true 2 3 (
  mRet (mCB fTuple (mCons (mLc (mItA (mCallP 0 G__law_sequence (mCons (mCB fLen (mCons (mVar 1) (mNil))) (mNil)))) (gSetN 2) (mYes) (mBin fIx (mVar 1) (mVar 2)) [2]) (mNil))))
theorem ok__law_led (T : T K mg) : FnG P w K mg base 3 T._law_led.f T._law_led.fd ["pot", "counts"] (spD K true G__law_led) := fnG_body T._law_led.F sc__law_led (by decide) fun cdv A outer s H hA hr =>
  have hu := room_u' hr; have hu2 := room_u hr
  dss_one (ds_ret (w_t call_tupF d_tuple PyProof.Rows.boot_tuple T.z_tuple (da_cons (w_lc [("at", 2)] sc__law_led.nd (wi (w_callP (ok__law_sequence T) (by decide) hA hr T._law_sequence.g T._law_sequence.F.kp (b__law_sequence T) (pv 0) (da_cons (w_b call_len d_len PySem.boot_len T.z_len (da_cons (w_v 1) (da_nil))) (da_nil)))) (fun _ _ _ _ _ => wg 2 sc__law_led.nd) (fun _ _ _ _ _ => dts_nil) (fun _ _ _ _ _ => w_ix (w_v 1) (w_v 2))) (da_nil))))
def G_is_sequence_of : DF := dfN false 1 2 (
  mSeq (mIfS (mOr (mNot (mTru (mIsi "tuple" (mVar 0)))) (mOr (mTest (mBin (fCmp gGt) (mCB fLen (mCons (mVar 0) (mNil))) (mC (.int 16)))) (mNot (mTru (mCB fAll (mCons (mLc (mItA (mVar 0)) (gSetN 1) (mYes) (mCall G_is_below (mCons (mVar 1) (mCons (mC (.int 16)) (mNil)))) [1]) (mNil))))))) (mRet (mC (.bool false))) (mNext)) (mRet (mBin (fEq false) (mCB fLenSet (mCons (mVar 0) mNil)) (mCB fLen (mCons (mVar 0) (mNil))))))
theorem ok_is_sequence_of (T : T K mg) : FnG P w K mg base 4 T.is_sequence_of.f T.is_sequence_of.fd ["value"] (spD K false G_is_sequence_of) := fnG_body T.is_sequence_of.F sc_is_sequence_of (by decide) fun cdv A outer s H hA hr =>
  have hu := room_u' hr; have hu2 := room_u hr
  dss_cons (ds_if (dt_w (dw_or (dt_not (wt (w_isi "tuple" (by decide) PyProof.Rows.boot_tuple PyProof.Rows.boot_isinstance T.z_isinstance T.z_tuple (w_v 0)))) (dw_or (wt_gt (w_b call_len d_len PySem.boot_len T.z_len (da_cons (w_v 0) (da_nil))) (w_gi T.c_MOST_LONG)) (dw_or1 (dt_not (wt (w_b (cr_all rfl) d_all (by decide +kernel) T.z_all (da_cons (w_lc [("one", 1)] sc_is_sequence_of.nd (wi (w_v 0)) (fun _ _ _ _ _ => wg 1 sc_is_sequence_of.nd) (fun _ _ _ _ _ => dts_nil) (fun _ _ _ _ _ => w_call (ok_is_below T) (by decide) hA hr T.is_below.g T.is_below.F.kp (b_is_below T) (da_cons (w_v 1) (da_cons (w_gi T.c_MOST_COUNT) (da_nil))))) (da_nil))))))))) (dss_one (ds_ret (de_bl))) (dss_nil)) (
    dss_one (ds_ret (de_eq hu (w_lenSet T.z_len T.z_set (w_v 0)) (w_b call_len d_len PySem.boot_len T.z_len (da_cons (w_v 0) (da_nil))))))
def G_is_exchange : DF := dfN false 2 3 (
  mSeq (mIfS (mOr (mNot (mTru (mCall G_is_row (mCons (mVar 1) (mCons (mC (.int 2)) (mNil)))))) (mNot (mTru (mCB fAll (mCons (mLc (mItA (mVar 1)) (gSetN 2) (mYes) (mCall G_is_below (mCons (mVar 2) (mCons (mCB fLen (mCons (mVar 0) (mNil))) (mNil)))) [2]) (mNil)))))) (mRet (mC (.bool false))) (mNext)) (mRet (mBin (fCmp gLt) (mBin fIx (mVar 1) (mC (.int 0))) (mBin fIx (mVar 1) (mC (.int 1))))))
theorem ok_is_exchange (T : T K mg) : FnG P w K mg base 4 T.is_exchange.f T.is_exchange.fd ["sequence", "value"] (spD K false G_is_exchange) := fnG_body T.is_exchange.F sc_is_exchange (by decide) fun cdv A outer s H hA hr =>
  have hu := room_u' hr; have hu2 := room_u hr
  dss_cons (ds_if (dt_w (dw_or (dt_not (wt (w_call (ok_is_row T) (by decide) hA hr T.is_row.g T.is_row.F.kp (b_is_row T) (da_cons (w_v 1) (da_cons (de_int) (da_nil)))))) (dw_or1 (dt_not (wt (w_b (cr_all rfl) d_all (by decide +kernel) T.z_all (da_cons (w_lc [("at", 2)] sc_is_exchange.nd (wi (w_v 1)) (fun _ _ _ _ _ => wg 2 sc_is_exchange.nd) (fun _ _ _ _ _ => dts_nil) (fun _ _ _ _ _ => w_call (ok_is_below T) (by decide) hA hr T.is_below.g T.is_below.F.kp (b_is_below T) (da_cons (w_v 2) (da_cons (w_b call_len d_len PySem.boot_len T.z_len (da_cons (w_v 0) (da_nil))) (da_nil))))) (da_nil)))))))) (dss_one (ds_ret (de_bl))) (dss_nil)) (
    dss_one (ds_ret (de_lt (w_ix (w_v 1) (de_int)) (w_ix (w_v 1) (de_int)))))
def G_is_fitting : DF := dfN false 2 2 (
  mRet (mAndV (mCall G_is_sequence_of (mCons (mVar 1) (mNil))) (mBin (fEq false) (mCB fSrt (mCons (mVar 1) (mNil))) (mCB fSrt (mCons (mVar 0) (mNil))))))
theorem ok_is_fitting (T : T K mg) : FnG P w K mg base 5 T.is_fitting.f T.is_fitting.fd ["sequence", "value"] (spD K false G_is_fitting) := fnG_body T.is_fitting.F sc_is_fitting (by decide) fun cdv A outer s H hA hr =>
  have hu := room_u' hr; have hu2 := room_u hr
  dss_one (ds_ret (de_and (w_call (ok_is_sequence_of T) (by decide) hA hr T.is_sequence_of.g T.is_sequence_of.F.kp (b_is_sequence_of T) (da_cons (w_v 1) (da_nil))) (de_one (de_eq hu (w_b call_srtA d_srt PyProof.Rows.boot_sorted T.z_sorted (da_cons (w_v 1) (da_nil))) (w_b call_srtA d_srt PyProof.Rows.boot_sorted T.z_sorted (da_cons (w_v 0) (da_nil)))))))
def G_are_exchanges : DF := dfN false 2 3 (
  mSeq (mIfS (mOr (mNot (mTru (mIsi "tuple" (mVar 1)))) (mTest (mBin (fCmp gGt) (mCB fLen (mCons (mVar 1) (mNil))) (mC (.int 200))))) (mRet (mC (.bool false))) (mNext)) (mRet (mCB fAll (mCons (mLc (mItA (mVar 1)) (gSetN 2) (mYes) (mCall G_is_exchange (mCons (mVar 0) (mCons (mVar 2) (mNil)))) [2]) (mNil)))))
theorem ok_are_exchanges (T : T K mg) : FnG P w K mg base 5 T.are_exchanges.f T.are_exchanges.fd ["sequence", "value"] (spD K false G_are_exchanges) := fnG_body T.are_exchanges.F sc_are_exchanges (by decide) fun cdv A outer s H hA hr =>
  have hu := room_u' hr; have hu2 := room_u hr
  dss_cons (ds_if (dt_w (dw_or (dt_not (wt (w_isi "tuple" (by decide) PyProof.Rows.boot_tuple PyProof.Rows.boot_isinstance T.z_isinstance T.z_tuple (w_v 1)))) (dw_or1 (wt_gt (w_b call_len d_len PySem.boot_len T.z_len (da_cons (w_v 1) (da_nil))) (w_gi T.c_MOST_EXCHANGES))))) (dss_one (ds_ret (de_bl))) (dss_nil)) (
    dss_one (ds_ret (w_b (cr_all rfl) d_all (by decide +kernel) T.z_all (da_cons (w_lc [("one", 2)] sc_are_exchanges.nd (wi (w_v 1)) (fun _ _ _ _ _ => wg 2 sc_are_exchanges.nd) (fun _ _ _ _ _ => dts_nil) (fun _ _ _ _ _ => w_call (ok_is_exchange T) (by decide) hA hr T.is_exchange.g T.is_exchange.F.kp (b_is_exchange T) (da_cons (w_v 0) (da_cons (w_v 2) (da_nil))))) (da_nil)))))
def G_want_sequence : DF := dfN false 1 1 (
  mSeq (mIfS (mNot (mTru (mCall G_is_sequence_of (mCons (mVar 0) (mNil))))) (mNever) (mNext)) (mRet (mVar 0)))
theorem ok_want_sequence (T : T K mg) : FnG P w K mg base 5 T.want_sequence.f T.want_sequence.fd ["value"] (spD K false G_want_sequence) := fnG_body T.want_sequence.F sc_want_sequence (by decide) fun cdv A outer s H hA hr =>
  have hu := room_u' hr; have hu2 := room_u hr
  dss_cons (ds_if (dt_not (wt (w_call (ok_is_sequence_of T) (by decide) hA hr T.is_sequence_of.g T.is_sequence_of.F.kp (b_is_sequence_of T) (da_cons (w_v 0) (da_nil))))) (dss_one (ds_never)) (dss_nil)) (
    dss_one (ds_ret (w_v 0)))
def G_is_sequence : DF := dfN false 1 1 (
  mRet (mCall G_is_sequence_of (mCons (mVar 0) (mNil))))
theorem ok_is_sequence (T : T K mg) : FnG P w K mg base 5 T.is_sequence.f T.is_sequence.fd ["value"] (spD K false G_is_sequence) := fnG_body T.is_sequence.F sc_is_sequence (by decide) fun cdv A outer s H hA hr =>
  have hu := room_u' hr; have hu2 := room_u hr
  dss_one (ds_ret (w_call (ok_is_sequence_of T) (by decide) hA hr T.is_sequence_of.g T.is_sequence_of.F.kp (b_is_sequence_of T) (da_cons (w_v 0) (da_nil))))
def G_want_both : DF := dfN false 2 2 (
  mIfS (mNot (mTru (mCall G_is_fitting (mCons (mCall G_want_sequence (mCons (mVar 0) (mNil))) (mCons (mVar 1) (mNil)))))) (mNever) (mNext))
theorem ok_want_both (T : T K mg) : FnG P w K mg base 6 T.want_both.f T.want_both.fd ["sequence", "other_sequence"] (spD K false G_want_both) := fnG_body T.want_both.F sc_want_both (by decide) fun cdv A outer s H hA hr =>
  have hu := room_u' hr; have hu2 := room_u hr
  dss_one (ds_if (dt_not (wt (w_call (ok_is_fitting T) (by decide) hA hr T.is_fitting.g T.is_fitting.F.kp (b_is_fitting T) (da_cons (w_call (ok_want_sequence T) (by decide) hA hr T.want_sequence.g T.want_sequence.F.kp (b_want_sequence T) (da_cons (w_v 0) (da_nil))) (da_cons (w_v 1) (da_nil)))))) (dss_one (ds_never)) (dss_nil))
def G_exchanged : DF := dfN false 2 2 (
  mSeq (mIfS (mNot (mTru (mCall G_are_exchanges (mCons (mCall G_want_sequence (mCons (mVar 0) (mNil))) (mCons (mVar 1) (mNil)))))) (mNever) (mNext)) (mRet (mCall G_exchanged_by (mCons (mVar 0) (mCons (mVar 1) (mNil))))))
theorem ok_exchanged (T : T K mg) : FnG P w K mg base 6 T.exchanged.f T.exchanged.fd ["sequence", "exchanges"] (spD K false G_exchanged) := fnG_body T.exchanged.F sc_exchanged (by decide) fun cdv A outer s H hA hr =>
  have hu := room_u' hr; have hu2 := room_u hr
  dss_cons (ds_if (dt_not (wt (w_call (ok_are_exchanges T) (by decide) hA hr T.are_exchanges.g T.are_exchanges.F.kp (b_are_exchanges T) (da_cons (w_call (ok_want_sequence T) (by decide) hA hr T.want_sequence.g T.want_sequence.F.kp (b_want_sequence T) (da_cons (w_v 0) (da_nil))) (da_cons (w_v 1) (da_nil)))))) (dss_one (ds_never)) (dss_nil)) (
    dss_one (ds_ret (w_call (ok_exchanged_by T) (by decide) hA hr T.exchanged_by.g T.exchanged_by.F.kp (b_exchanged_by T) (da_cons (w_v 0) (da_cons (w_v 1) (da_nil))))))
def G_turned_pairs : DF := dfN false 2 2 (
  mSeq (mExpr (mCall G_want_both (mCons (mVar 0) (mCons (mVar 1) (mNil))))) (mRet (mCall G_turned_of (mCons (mVar 0) (mCons (mVar 1) (mNil))))))
theorem ok_turned_pairs (T : T K mg) : FnG P w K mg base 7 T.turned_pairs.f T.turned_pairs.fd ["sequence", "other_sequence"] (spD K false G_turned_pairs) := fnG_body T.turned_pairs.F sc_turned_pairs (by decide) fun cdv A outer s H hA hr =>
  have hu := room_u' hr; have hu2 := room_u hr
  dss_cons (ds_expr (w_call (ok_want_both T) (by decide) hA hr T.want_both.g T.want_both.F.kp (b_want_both T) (da_cons (w_v 0) (da_cons (w_v 1) (da_nil))))) (
    dss_one (ds_ret (w_call (ok_turned_of T) (by decide) hA hr T.turned_of.g T.turned_of.F.kp (b_turned_of T) (da_cons (w_v 0) (da_cons (w_v 1) (da_nil))))))
def G_is_even : DF := dfN false 2 2 (
  mSeq (mExpr (mCall G_want_both (mCons (mVar 0) (mCons (mVar 1) (mNil))))) (mRet (mCall G_is_even_order (mCons (mVar 0) (mCons (mVar 1) (mNil))))))
theorem ok_is_even (T : T K mg) : FnG P w K mg base 7 T.is_even.f T.is_even.fd ["sequence", "other_sequence"] (spD K false G_is_even) := fnG_body T.is_even.F sc_is_even (by decide) fun cdv A outer s H hA hr =>
  have hu := room_u' hr; have hu2 := room_u hr
  dss_cons (ds_expr (w_call (ok_want_both T) (by decide) hA hr T.want_both.g T.want_both.F.kp (b_want_both T) (da_cons (w_v 0) (da_cons (w_v 1) (da_nil))))) (
    dss_one (ds_ret (w_call (ok_is_even_order T) (by decide) hA hr T.is_even_order.g T.is_even_order.F.kp (b_is_even_order T) (da_cons (w_v 0) (da_cons (w_v 1) (da_nil))))))
def G_fewest_exchanges : DF := dfN false 2 2 (
  mSeq (mExpr (mCall G_want_both (mCons (mVar 0) (mCons (mVar 1) (mNil))))) (mRet (mBin fSub (mCB fLen (mCons (mVar 0) (mNil))) (mCB fLen (mCons (mCall G_cycles_of (mCons (mVar 0) (mCons (mVar 1) (mNil)))) (mNil))))))
theorem ok_fewest_exchanges (T : T K mg) : FnG P w K mg base 7 T.fewest_exchanges.f T.fewest_exchanges.fd ["sequence", "other_sequence"] (spD K false G_fewest_exchanges) := fnG_body T.fewest_exchanges.F sc_fewest_exchanges (by decide) fun cdv A outer s H hA hr =>
  have hu := room_u' hr; have hu2 := room_u hr
  dss_cons (ds_expr (w_call (ok_want_both T) (by decide) hA hr T.want_both.g T.want_both.F.kp (b_want_both T) (da_cons (w_v 0) (da_cons (w_v 1) (da_nil))))) (
    dss_one (ds_ret (de_sub (w_b call_len d_len PySem.boot_len T.z_len (da_cons (w_v 0) (da_nil))) (w_b call_len d_len PySem.boot_len T.z_len (da_cons (w_call (ok_cycles_of T) (by decide) hA hr T.cycles_of.g T.cycles_of.F.kp (b_cycles_of T) (da_cons (w_v 0) (da_cons (w_v 1) (da_nil)))) (da_nil))))))
def G_exchanges : DF := dfN false 2 2 (
  mSeq (mExpr (mCall G_want_both (mCons (mVar 0) (mCons (mVar 1) (mNil))))) (mRet (mCall G_exchanges_of (mCons (mVar 0) (mCons (mVar 1) (mNil))))))
theorem ok_exchanges (T : T K mg) : FnG P w K mg base 7 T.exchanges.f T.exchanges.fd ["sequence", "other_sequence"] (spD K false G_exchanges) := fnG_body T.exchanges.F sc_exchanges (by decide) fun cdv A outer s H hA hr =>
  have hu := room_u' hr; have hu2 := room_u hr
  dss_cons (ds_expr (w_call (ok_want_both T) (by decide) hA hr T.want_both.g T.want_both.F.kp (b_want_both T) (da_cons (w_v 0) (da_cons (w_v 1) (da_nil))))) (
    dss_one (ds_ret (w_call (ok_exchanges_of T) (by decide) hA hr T.exchanges_of.g T.exchanges_of.F.kp (b_exchanges_of T) (da_cons (w_v 0) (da_cons (w_v 1) (da_nil))))))
def tl__law_right_11 : MS :=
  mSeq (mFor (mItA (mLst (mCons (mVar 1) (mCons (mCB fList (mCons (mVar 1) (mNil))) (mCons (mBin fAdd (mVar 1) (mSl (mVar 1) (mO0) (mO1 (mC (.int 1))))) (mCons (mBin fAdd (mVar 1) (mTup (mCons (mC (.int 16)) (mNil)))) (mCons (mBin fAdd (mVar 1) (mTup (mCons (mNeg (mC (.int 1))) (mNil)))) (mCons (mBin fAdd (mSl (mVar 1) (mO0) (mO1 (mC (.int 1)))) (mTup (mCons (mC (.bool true)) (mNil)))) (mCons (mC .none) (mCons (mC (.int 0)) (mCons (mTup (mNil)) (mCons (mC (.str "01")) (mCons (mRgT1 (mC (.int 16))) (mCons (mRgT1 (mC (.int 17))) (mCons (mTup (mCons (mC .none) (mNil))) (mCons (mTup (mCons (mC (.int 0)) (mCons (mC (.str "1")) (mNil)))) (mNil))))))))))))))))) (gSetN 13) (mIfS (mTest (mBin (fEq true) (mCB fRepr (mCons (mLst (mCons (mCall G_is_sequence (mCons (mVar 13) (mNil))) (mCons (mCallK 1 [0] G_is_sequence (mCons (mVar 13) (mNil))) (mNil)))) (mNil))) (mCB fRepr (mCons (mBin fMul (mLst (mCons (mCall G__law_is_sequence (mCons (mVar 13) (mNil))) (mNil))) (mC (.int 2))) (mNil))))) (mRet (mC (.bool false))) (mNext))) (mRet (mC (.bool true)))
def tl__law_right_10 : MS :=
  mSeq (mIfS (mTest (mBin (fCmp gGt) (mCB fLen (mCons (mVar 1) (mNil))) (mC (.int 1)))) (mSeq (mSet 9 (mLst (mNil))) (mSeq (mFor (mRng1 (mCons (mCallP 0 G__law_draw (mCons (mC (.int 21)) (mNil))) (mNil))) (gSetN 10) (mSeq (mSet 11 (mCallP 0 G__law_draw (mCons (mBin fSub (mCB fLen (mCons (mVar 1) (mNil))) (mC (.int 1))) (mNil)))) (mExpr (mApp 9 (mTup (mCons (mVar 11) (mCons (mBin fAdd (mBin fAdd (mVar 11) (mC (.int 1))) (mCallP 0 G__law_draw (mCons (mBin fSub (mBin fSub (mCB fLen (mCons (mVar 1) (mNil))) (mC (.int 1))) (mVar 11)) (mNil)))) (mNil)))))))) (mSeq (mSet 12 (mCall G__law_done (mCons (mVar 1) (mCons (mVar 9) (mNil))))) (mIfS (mOr (mTest (mBin (fEq true) (mCB fRepr (mCons (mLst (mCons (mCall G_exchanged (mCons (mVar 1) (mCons (mCB fTuple (mCons (mVar 9) (mNil))) (mNil)))) (mCons (mCallK 2 [1, 0] G_exchanged (mCons (mCB fTuple (mCons (mVar 9) (mNil))) (mCons (mVar 1) (mNil)))) (mNil)))) (mNil))) (mCB fRepr (mCons (mLst (mCons (mVar 12) (mCons (mVar 12) (mNil)))) (mNil))))) (mTest (mBin (fEq true) (mCall G_is_even (mCons (mVar 1) (mCons (mVar 12) (mNil)))) (mBin (fEq false) (mCall G__law_rest (mCons (mCB fLen (mCons (mVar 9) (mNil))) (mCons (mC (.int 2)) (mNil)))) (mC (.int 0)))))) (mRet (mC (.bool false))) (mNext))))) (mNext)) (tl__law_right_11)
def G__law_right : DF := dfN true 1 14 (
  mSeq (mSet 1 (mCallP 0 G__law_counts (mCons (mCallP 0 G__law_draw (mCons (mC (.int 10)) (mNil))) (mNil)))) (mSeq (mSetN [2, 3] (mConsH (mCallP 0 G__law_led (mCons (mVar 1) (mNil))) (mConsH (mCallP 0 G__law_led (mCons (mVar 1) (mNil))) (mNil)))) (mSeq (mSet 4 (mCall G__law_turned (mCons (mVar 1) (mCons (mVar 2) (mNil))))) (mSeq (mFree 4 (mIfS (mOr (mTest (mBin (fEq true) (mCB fRepr (mCons (mLst (mCons (mCall G_turned_pairs (mCons (mVar 1) (mCons (mVar 2) (mNil)))) (mCons (mCallK 2 [1, 0] G_turned_pairs (mCons (mVar 2) (mCons (mVar 1) (mNil)))) (mNil)))) (mNil))) (mCB fRepr (mCons (mLst (mCons (mVar 4) (mCons (mVar 4) (mNil)))) (mNil))))) (mTest (mBin (fEq true) (mCB fLen (mCons (mCall G_turned_pairs (mCons (mVar 2) (mCons (mVar 1) (mNil)))) (mNil))) (mCB fLen (mCons (mVar 4) (mNil)))))) (mRet (mC (.bool false))) (mNext))) (mSeq (mSetN [5, 6] (mConsH (mCall G__law_is_even (mCons (mVar 1) (mCons (mVar 2) (mNil)))) (mConsH (mLst (mCons (mCall G__law_is_even (mCons (mVar 2) (mCons (mVar 3) (mNil)))) (mCons (mCall G__law_is_even (mCons (mVar 1) (mCons (mVar 3) (mNil)))) (mNil)))) (mNil)))) (mSeq (mIfS (mOr (mTest (mBin (fEq true) (mCB fRepr (mCons (mLst (mCons (mCall G_is_even (mCons (mVar 1) (mCons (mVar 2) (mNil)))) (mCons (mCallK 2 [1, 0] G_is_even (mCons (mVar 2) (mCons (mVar 1) (mNil)))) (mCons (mCall G_is_even (mCons (mVar 2) (mCons (mVar 1) (mNil)))) (mNil))))) (mNil))) (mCB fRepr (mCons (mBin fMul (mLst (mCons (mVar 5) (mNil))) (mC (.int 3))) (mNil))))) (mTest (mBin (fEq true) (mBin (fEq false) (mVar 5) (mBin fIx (mVar 6) (mC (.int 0)))) (mBin fIx (mVar 6) (mC (.int 1)))))) (mRet (mC (.bool false))) (mNext)) (mSeq (mIfS (mOr (mTest (mBin (fEq true) (mCall G_is_even (mCons (mVar 2) (mCons (mVar 3) (mNil)))) (mBin fIx (mVar 6) (mC (.int 0))))) (mTest (mBin (fEq true) (mCall G_is_even (mCons (mVar 1) (mCons (mVar 3) (mNil)))) (mBin fIx (mVar 6) (mC (.int 1)))))) (mRet (mC (.bool false))) (mNext)) (mSeq (mSet 7 (mBin fSub (mCB fLen (mCons (mVar 1) (mNil))) (mCall G__law_lots (mCons (mVar 1) (mCons (mVar 2) (mNil)))))) (mSeq (mIfS (mOr (mTest (mBin (fEq true) (mCB fRepr (mCons (mLst (mCons (mCall G_fewest_exchanges (mCons (mVar 1) (mCons (mVar 2) (mNil)))) (mCons (mCallK 2 [1, 0] G_fewest_exchanges (mCons (mVar 2) (mCons (mVar 1) (mNil)))) (mNil)))) (mNil))) (mCB fRepr (mCons (mLst (mCons (mVar 7) (mCons (mVar 7) (mNil)))) (mNil))))) (mTest (mBin (fEq true) (mBin (fEq false) (mCall G__law_rest (mCons (mVar 7) (mCons (mC (.int 2)) (mNil)))) (mC (.int 0))) (mVar 5)))) (mRet (mC (.bool false))) (mNext)) (mSeq (mFor (mItA (mLst (mCons (mCall G_exchanges (mCons (mVar 1) (mCons (mVar 2) (mNil)))) (mCons (mCallK 2 [1, 0] G_exchanges (mCons (mVar 2) (mCons (mVar 1) (mNil)))) (mNil))))) (gSetN 8) (mIfS (mOr (mNot (mTru (mIsi "tuple" (mVar 8)))) (mOr (mTest (mBin (fEq true) (mCB fLen (mCons (mVar 8) (mNil))) (mVar 7))) (mOr (mTest (mBin (fEq true) (mCall G__law_done (mCons (mVar 1) (mCons (mVar 8) (mNil)))) (mVar 2))) (mTest (mBin (fEq true) (mCall G_exchanged (mCons (mVar 1) (mCons (mVar 8) (mNil)))) (mVar 2)))))) (mRet (mC (.bool false))) (mNext))) (tl__law_right_10)))))))))))
theorem ok__law_right (T : T K mg) : FnG P w K mg base 8 T._law_right.f T._law_right.fd ["pot"] (spD K true G__law_right) := fnG_body T._law_right.F sc__law_right (by decide) fun cdv A outer s H hA hr =>
  have hu := room_u' hr; have hu2 := room_u hr
  dss_cons (w_set 1 sc__law_right.nd (w_callP (ok__law_counts T) (by decide) hA hr T._law_counts.g T._law_counts.F.kp (b__law_counts T) (pv 0) (da_cons (w_callP (ok__law_draw T) (by decide) hA hr T._law_draw.g T._law_draw.F.kp (b__law_draw T) (pv 0) (da_cons (de_int) (da_nil))) (da_nil)))) (
    dss_cons (w_par2 2 3 sc__law_right.nd (by decide) (dh_cons (w_callP (ok__law_led T) (by decide) hA hr T._law_led.g T._law_led.F.kp (b__law_led T) (pv 0) (da_cons (w_v 1) (da_nil))) (dh_cons (w_callP (ok__law_led T) (by decide) hA hr T._law_led.g T._law_led.F.kp (b__law_led T) (pv 0) (da_cons (w_v 1) (da_nil))) (dh_nil)))) (
    dss_cons (w_set 4 sc__law_right.nd (w_call (ok__law_turned T) (by decide) hA hr T._law_turned.g T._law_turned.F.kp (b__law_turned T) (da_cons (w_v 1) (da_cons (w_v 2) (da_nil))))) (
    dss_cons (ds_free (i := 4) (ds_if (dt_w (dw_or (wt_ne hu (w_b (call_reprA hA hu2) d_repr PyProof.Rows.boot_repr T.z_repr (da_cons (de_lst (da_cons (w_call (ok_turned_pairs T) (by decide) hA hr T.turned_pairs.g T.turned_pairs.F.kp (b_turned_pairs T) (da_cons (w_v 1) (da_cons (w_v 2) (da_nil)))) (da_cons (w_callK (ok_turned_pairs T) (by decide) hA hr T.turned_pairs.g T.turned_pairs.F.kp (bk_turned_pairs_1_0 T) (dk_cons (w_v 2) (dk_cons (w_v 1) (dk_nil)))) (da_nil)))) (da_nil))) (w_b (call_reprA hA hu2) d_repr PyProof.Rows.boot_repr T.z_repr (da_cons (de_lst (da_cons (w_v 4) (da_cons (w_v 4) (da_nil)))) (da_nil)))) (dw_or1 (wt_ne hu (w_b call_len d_len PySem.boot_len T.z_len (da_cons (w_call (ok_turned_pairs T) (by decide) hA hr T.turned_pairs.g T.turned_pairs.F.kp (b_turned_pairs T) (da_cons (w_v 2) (da_cons (w_v 1) (da_nil)))) (da_nil))) (w_b call_len d_len PySem.boot_len T.z_len (da_cons (w_v 4) (da_nil))))))) (dss_one (ds_ret (de_bl))) (dss_nil))) (
    dss_cons (w_par2 5 6 sc__law_right.nd (by decide) (dh_cons (w_call (ok__law_is_even T) (by decide) hA hr T._law_is_even.g T._law_is_even.F.kp (b__law_is_even T) (da_cons (w_v 1) (da_cons (w_v 2) (da_nil)))) (dh_cons (de_lst (da_cons (w_call (ok__law_is_even T) (by decide) hA hr T._law_is_even.g T._law_is_even.F.kp (b__law_is_even T) (da_cons (w_v 2) (da_cons (w_v 3) (da_nil)))) (da_cons (w_call (ok__law_is_even T) (by decide) hA hr T._law_is_even.g T._law_is_even.F.kp (b__law_is_even T) (da_cons (w_v 1) (da_cons (w_v 3) (da_nil)))) (da_nil)))) (dh_nil)))) (
    dss_cons (ds_if (dt_w (dw_or (wt_ne hu (w_b (call_reprA hA hu2) d_repr PyProof.Rows.boot_repr T.z_repr (da_cons (de_lst (da_cons (w_call (ok_is_even T) (by decide) hA hr T.is_even.g T.is_even.F.kp (b_is_even T) (da_cons (w_v 1) (da_cons (w_v 2) (da_nil)))) (da_cons (w_callK (ok_is_even T) (by decide) hA hr T.is_even.g T.is_even.F.kp (bk_is_even_1_0 T) (dk_cons (w_v 2) (dk_cons (w_v 1) (dk_nil)))) (da_cons (w_call (ok_is_even T) (by decide) hA hr T.is_even.g T.is_even.F.kp (b_is_even T) (da_cons (w_v 2) (da_cons (w_v 1) (da_nil)))) (da_nil))))) (da_nil))) (w_b (call_reprA hA hu2) d_repr PyProof.Rows.boot_repr T.z_repr (da_cons (de_mul (de_lst (da_cons (w_v 5) (da_nil))) (de_int)) (da_nil)))) (dw_or1 (wt_ne hu (de_eq hu (w_v 5) (w_ix (w_v 6) (de_int))) (w_ix (w_v 6) (de_int)))))) (dss_one (ds_ret (de_bl))) (dss_nil)) (
    dss_cons (ds_if (dt_w (dw_or (wt_ne hu (w_call (ok_is_even T) (by decide) hA hr T.is_even.g T.is_even.F.kp (b_is_even T) (da_cons (w_v 2) (da_cons (w_v 3) (da_nil)))) (w_ix (w_v 6) (de_int))) (dw_or1 (wt_ne hu (w_call (ok_is_even T) (by decide) hA hr T.is_even.g T.is_even.F.kp (b_is_even T) (da_cons (w_v 1) (da_cons (w_v 3) (da_nil)))) (w_ix (w_v 6) (de_int)))))) (dss_one (ds_ret (de_bl))) (dss_nil)) (
    dss_cons (w_set 7 sc__law_right.nd (de_sub (w_b call_len d_len PySem.boot_len T.z_len (da_cons (w_v 1) (da_nil))) (w_call (ok__law_lots T) (by decide) hA hr T._law_lots.g T._law_lots.F.kp (b__law_lots T) (da_cons (w_v 1) (da_cons (w_v 2) (da_nil)))))) (
    dss_cons (ds_if (dt_w (dw_or (wt_ne hu (w_b (call_reprA hA hu2) d_repr PyProof.Rows.boot_repr T.z_repr (da_cons (de_lst (da_cons (w_call (ok_fewest_exchanges T) (by decide) hA hr T.fewest_exchanges.g T.fewest_exchanges.F.kp (b_fewest_exchanges T) (da_cons (w_v 1) (da_cons (w_v 2) (da_nil)))) (da_cons (w_callK (ok_fewest_exchanges T) (by decide) hA hr T.fewest_exchanges.g T.fewest_exchanges.F.kp (bk_fewest_exchanges_1_0 T) (dk_cons (w_v 2) (dk_cons (w_v 1) (dk_nil)))) (da_nil)))) (da_nil))) (w_b (call_reprA hA hu2) d_repr PyProof.Rows.boot_repr T.z_repr (da_cons (de_lst (da_cons (w_v 7) (da_cons (w_v 7) (da_nil)))) (da_nil)))) (dw_or1 (wt_ne hu (de_eq hu (w_call (ok__law_rest T) (by decide) hA hr T._law_rest.g T._law_rest.F.kp (b__law_rest T) (da_cons (w_v 7) (da_cons (de_int) (da_nil)))) (de_int)) (w_v 5))))) (dss_one (ds_ret (de_bl))) (dss_nil)) (
    dss_cons (w_for (wi (de_lst (da_cons (w_call (ok_exchanges T) (by decide) hA hr T.exchanges.g T.exchanges.F.kp (b_exchanges T) (da_cons (w_v 1) (da_cons (w_v 2) (da_nil)))) (da_cons (w_callK (ok_exchanges T) (by decide) hA hr T.exchanges.g T.exchanges.F.kp (bk_exchanges_1_0 T) (dk_cons (w_v 2) (dk_cons (w_v 1) (dk_nil)))) (da_nil))))) (wg 8 sc__law_right.nd) (dss_one (ds_if (dt_w (dw_or (dt_not (wt (w_isi "tuple" (by decide) PyProof.Rows.boot_tuple PyProof.Rows.boot_isinstance T.z_isinstance T.z_tuple (w_v 8)))) (dw_or (wt_ne hu (w_b call_len d_len PySem.boot_len T.z_len (da_cons (w_v 8) (da_nil))) (w_v 7)) (dw_or (wt_ne hu (w_call (ok__law_done T) (by decide) hA hr T._law_done.g T._law_done.F.kp (b__law_done T) (da_cons (w_v 1) (da_cons (w_v 8) (da_nil)))) (w_v 2)) (dw_or1 (wt_ne hu (w_call (ok_exchanged T) (by decide) hA hr T.exchanged.g T.exchanged.F.kp (b_exchanged T) (da_cons (w_v 1) (da_cons (w_v 8) (da_nil)))) (w_v 2))))))) (dss_one (ds_ret (de_bl))) (dss_nil)))) (
    dss_cons (ds_if (wt_gt (w_b call_len d_len PySem.boot_len T.z_len (da_cons (w_v 1) (da_nil))) (de_int)) (dss_cons (w_set 9 sc__law_right.nd (de_lst (da_nil))) (
    dss_cons (w_for (wi_rng1 T.z_range (da_cons (w_callP (ok__law_draw T) (by decide) hA hr T._law_draw.g T._law_draw.F.kp (b__law_draw T) (pv 0) (da_cons (de_int) (da_nil))) (da_nil))) (wg 10 sc__law_right.nd) (dss_cons (w_set 11 sc__law_right.nd (w_callP (ok__law_draw T) (by decide) hA hr T._law_draw.g T._law_draw.F.kp (b__law_draw T) (pv 0) (da_cons (de_sub (w_b call_len d_len PySem.boot_len T.z_len (da_cons (w_v 1) (da_nil))) (de_int)) (da_nil)))) (
    dss_one (ds_expr (w_app 9 (de_tup (da_cons (w_v 11) (da_cons (de_add (de_add (w_v 11) (de_int)) (w_callP (ok__law_draw T) (by decide) hA hr T._law_draw.g T._law_draw.F.kp (b__law_draw T) (pv 0) (da_cons (de_sub (de_sub (w_b call_len d_len PySem.boot_len T.z_len (da_cons (w_v 1) (da_nil))) (de_int)) (w_v 11)) (da_nil)))) (da_nil))))))))) (
    dss_cons (w_set 12 sc__law_right.nd (w_call (ok__law_done T) (by decide) hA hr T._law_done.g T._law_done.F.kp (b__law_done T) (da_cons (w_v 1) (da_cons (w_v 9) (da_nil))))) (
    dss_one (ds_if (dt_w (dw_or (wt_ne hu (w_b (call_reprA hA hu2) d_repr PyProof.Rows.boot_repr T.z_repr (da_cons (de_lst (da_cons (w_call (ok_exchanged T) (by decide) hA hr T.exchanged.g T.exchanged.F.kp (b_exchanged T) (da_cons (w_v 1) (da_cons (w_t call_tupF d_tuple PyProof.Rows.boot_tuple T.z_tuple (da_cons (w_v 9) (da_nil))) (da_nil)))) (da_cons (w_callK (ok_exchanged T) (by decide) hA hr T.exchanged.g T.exchanged.F.kp (bk_exchanged_1_0 T) (dk_cons (w_t call_tupF d_tuple PyProof.Rows.boot_tuple T.z_tuple (da_cons (w_v 9) (da_nil))) (dk_cons (w_v 1) (dk_nil)))) (da_nil)))) (da_nil))) (w_b (call_reprA hA hu2) d_repr PyProof.Rows.boot_repr T.z_repr (da_cons (de_lst (da_cons (w_v 12) (da_cons (w_v 12) (da_nil)))) (da_nil)))) (dw_or1 (wt_ne hu (w_call (ok_is_even T) (by decide) hA hr T.is_even.g T.is_even.F.kp (b_is_even T) (da_cons (w_v 1) (da_cons (w_v 12) (da_nil)))) (de_eq hu (w_call (ok__law_rest T) (by decide) hA hr T._law_rest.g T._law_rest.F.kp (b__law_rest T) (da_cons (w_b call_len d_len PySem.boot_len T.z_len (da_cons (w_v 9) (da_nil))) (da_cons (de_int) (da_nil)))) (de_int)))))) (dss_one (ds_ret (de_bl))) (dss_nil)))))) (dss_nil)) (
    dss_cons (w_for (wi (de_lst (da_cons (w_v 1) (da_cons (w_t call_list_of d_list PyProof.Rows.boot_list T.z_list (da_cons (w_v 1) (da_nil))) (da_cons (de_add (w_v 1) (de_sl (w_v 1) (do_none) (do_some (de_int)))) (da_cons (de_add (w_v 1) (de_tup (da_cons (de_int) (da_nil)))) (da_cons (de_add (w_v 1) (de_tup (da_cons (de_neg (de_int)) (da_nil)))) (da_cons (de_add (de_sl (w_v 1) (do_none) (do_some (de_int))) (de_tup (da_cons (de_bl) (da_nil)))) (da_cons (de_non) (da_cons (de_int) (da_cons (de_tup (da_nil)) (da_cons (de_str) (da_cons (w_tupRg T.z_tuple T.z_range (de_int)) (da_cons (w_tupRg T.z_tuple T.z_range (de_int)) (da_cons (de_tup (da_cons (de_non) (da_nil))) (da_cons (de_tup (da_cons (de_int) (da_cons (de_str) (da_nil)))) (da_nil))))))))))))))))) (wg 13 sc__law_right.nd) (dss_one (ds_if (wt_ne hu (w_b (call_reprA hA hu2) d_repr PyProof.Rows.boot_repr T.z_repr (da_cons (de_lst (da_cons (w_call (ok_is_sequence T) (by decide) hA hr T.is_sequence.g T.is_sequence.F.kp (b_is_sequence T) (da_cons (w_v 13) (da_nil))) (da_cons (w_callK (ok_is_sequence T) (by decide) hA hr T.is_sequence.g T.is_sequence.F.kp (bk_is_sequence_0 T) (dk_cons (w_v 13) (dk_nil))) (da_nil)))) (da_nil))) (w_b (call_reprA hA hu2) d_repr PyProof.Rows.boot_repr T.z_repr (da_cons (de_mul (de_lst (da_cons (w_call (ok__law_is_sequence T) (by decide) hA hr T._law_is_sequence.g T._law_is_sequence.F.kp (b__law_is_sequence T) (da_cons (w_v 13) (da_nil))) (da_nil))) (de_int)) (da_nil)))) (dss_one (ds_ret (de_bl))) (dss_nil)))) (
    dss_one (ds_ret (de_bl))))))))))))))
def G_law : List Int → DF := dfS 1 2 (
  mRet (mCB fAll (mCons (mLc (mRng1 (mCons (mCB fMax2 (mCons (mC (.int 1)) (mCons (mCB fMin2 (mCons (mC (.int 2)) (mCons (mScrLen 0) (mNil)))) (mNil)))) (mNil))) (gSetN 1) (mYes) (mCallPF G__law_right (mCallS 0 G__law_pot (mCons (mVar 1) (mNil))) (mNil)) [1]) (mNil))))
theorem ok_law (T : T K mg) : FnG P w K mg base 9 T.law.f T.law.fd ["script"] (spS K G_law) := fnG_bodyS T.law.F sc_law (by decide) fun cdv A outer s H hA hr =>
  have hu := room_u' hr; have hu2 := room_u hr
  dss_one (ds_ret (w_b (cr_all rfl) d_all (by decide +kernel) T.z_all (da_cons (w_lc [("k", 1)] sc_law.nd (wi_rng1 T.z_range (da_cons (w_b (call_max2 rfl) d_max2 PyProof.Rows.boot_max T.z_max (da_cons (de_int) (da_cons (w_b (call_min2 rfl) d_min2 (by decide +kernel) T.z_min (da_cons (de_int) (da_cons (w_scrLen 0 T.z_len) (da_nil)))) (da_nil)))) (da_nil))) (fun _ _ _ _ _ => wg 1 sc_law.nd) (fun _ _ _ _ _ => dts_nil) (fun _ _ _ _ _ => w_callPF (ok__law_right T) (by decide) hA hr T._law_right.g T._law_right.F.kp (b__law_right T) (w_callS (ok__law_pot T) (by decide) hA hr T._law_pot.g T._law_pot.F.kp (b__law_pot T) (pv 0) (da_cons (w_v 1) (da_nil))) (da_nil))) (da_nil))))
end
end K28
namespace K28
open PySem Dv
open L2 (atI ixN)
abbrev tI (ns : List Int) : D := .tuple (ns.map .int)
/-- a sequence: few different counts -/
structure Sq (ns : List Int) : Prop where
  len : ns.length ≤ 16
  nd : ns.Nodup
  lo : ∀ x ∈ ns, 0 ≤ x
  hi : ∀ x ∈ ns, x < 16
theorem Sq.few {ns : List Int} (h : Sq ns) : Few ns := ⟨Nat.le_trans h.len (by decide), fun x m => by have := h.lo x m; have := h.hi x m; omega⟩
theorem g_is_integer (i : Int) (P : Rv → Prop) : G_is_integer [.int i] P = P (.sh (.bool true)) := by
  simp [G_is_integer, dfN]
theorem g_is_count (i : Int) (P : Rv → Prop) : G_is_count [.int i] P = P (.sh (.bool (decide (0 ≤ i)))) := by
  simp [G_is_count, dfN, g_is_integer]
theorem g_is_below (i n : Int) (P : Rv → Prop) : G_is_below [.int i, .int n] P = P (.sh (.bool (decide (0 ≤ i) && decide (i < n)))) := by
  simp [G_is_below, dfN, g_is_count]
  cases h : decide (0 ≤ i) <;> simp
theorem g_draw {n : Int} (h0 : 0 < n) (h1 : n < 1000000000) {P : Rv → Prop} (h : ∀ i : Int, 0 ≤ i → i < n → P (.sh (.int i))) : G__law_draw [.int n] P := by
  simp [G__law_draw, dfN]
  intro x hx
  refine wIf_dec (fun hp => fun y hy => ⟨h0, by omega, Int.ediv_nonneg hy (by omega), h _ (Int.emod_nonneg _ (by omega)) (Int.emod_lt_of_pos _ h0)⟩) fun hp => fun y hy hy2 => ?_
  have := Int.emod_lt_of_pos (y * 40692 + 6277) (show (0 : Int) < 2147483587 by omega)
  exact ⟨Int.emod_nonneg _ (by omega), by omega, fun z hz hz2 u hu hu2 => ⟨.inl ⟨by omega, by omega⟩, h0, h _ (Int.emod_nonneg _ (by omega)) (Int.emod_lt_of_pos _ h0)⟩⟩
theorem g_is_sequence_of {ns : List Int} (h : Sq ns) {P : Rv → Prop} (q : P (.sh (.bool true))) : G_is_sequence_of [tI ns] P := by
  have hl := h.len
  simp [G_is_sequence_of, dfN]
  refine wIf_dec (fun hp => by omega) fun _ => ?_
  refine lc_map (fun _ => .bool true) (by rw [List.length_map]; omega) (fun i d acc Q hd hz k => ?_) ?_
  · rw [List.getElem?_map] at hd
    obtain ⟨x, hx, rfl⟩ := Option.map_eq_some_iff.mp hd
    have m := List.mem_of_getElem? hx
    simp [g_is_below, h.lo x m, h.hi x m, hz]
    exact k
  · have e : (List.range (ns.map PyData.int).length).map (fun _ => PyData.bool true) = (List.replicate ns.length true).map .bool := by
      rw [List.map_const', List.length_range, List.length_map, List.map_replicate]
    rw [e]
    simp [dedupI_id h.nd]
    exact ⟨by omega, q⟩
theorem g_is_fitting {ns ms : List Int} (h : Sq ns) (h' : Sq ms) (p : ns.Perm ms) {P : Rv → Prop} (q : P (.sh (.bool true))) : G_is_fitting [tI ns, tI ms] P := by
  simp [G_is_fitting, dfN]
  refine g_is_sequence_of h' ?_
  simp
  have fw : ∀ {l : List Int}, Sq l → Few (isort l) := fun {l} s => ⟨by rw [(isort_perm l).length_eq]; have := s.len; omega, fun x m => by
    have m' := (isort_perm l).mem_iff.mp m
    have := s.lo x m'; have := s.hi x m'; omega⟩
  refine fEq_li (fw h') (fw h) ?_
  rw [isort_of_perm p]
  simpa using q
theorem g_want_sequence {ns : List Int} (h : Sq ns) {P : Rv → Prop} (q : P (.sh (tI ns))) : G_want_sequence [tI ns] P := by
  simp [G_want_sequence, dfN]
  refine g_is_sequence_of h ?_
  simpa using q
theorem g_want_both {ns ms : List Int} (h : Sq ns) (h' : Sq ms) (p : ns.Perm ms) {P : Rv → Prop} (q : P (.sh .none)) : G_want_both [tI ns, tI ms] P := by
  simp [G_want_both, dfN]
  refine g_want_sequence h ?_
  simp
  refine g_is_fitting h h' p ?_
  simpa using q
theorem g_law_rest {a b : Int} (hb : 0 < b) (h1 : b < 1000000) {P : Rv → Prop} (q : P (.sh (.int (a % b)))) : G__law_rest [.int a, .int b] P := by
  simp [G__law_rest, dfN]
  have e : a - a / b * b = a % b := by
    have := Int.mul_ediv_add_emod a b
    rw [Int.mul_comm]; omega
  rw [e]
  exact ⟨⟨hb, by omega⟩, .inr ⟨by omega, by omega⟩, q⟩
end K28
namespace Pm
/-! ### permutations by lists -/
/-- the pairs that stand the wrong way round -/
def inv : List Nat → Nat
  | [] => 0
  | x :: xs => xs.countP (fun y => decide (y < x)) + inv xs
theorem map_range_get (xs : List Nat) : (List.range xs.length).map (fun i => xs.getD i 0) = xs := by
  refine List.ext_getElem (by rw [List.length_map, List.length_range]) fun i h1 h2 => ?_
  rw [List.getElem_map, List.getElem_range, List.getD_eq_getElem?_getD, List.getElem?_eq_getElem h2]
  rfl
theorem countP_range (xs : List Nat) (q : Nat → Bool) : ((List.range xs.length).filter fun i => q (xs.getD i 0)).length = xs.countP q := by
  rw [← List.countP_eq_length_filter]
  have e : xs.countP q = ((List.range xs.length).map fun i => xs.getD i 0).countP q := by rw [map_range_get]
  rw [e, List.countP_map]
  rfl
theorem inv_le (xs : List Nat) : inv xs ≤ xs.length * xs.length := by
  induction xs with
  | nil => exact Nat.le_refl _
  | cons x xs ih =>
    have := List.countP_le_length (p := fun y => decide (y < x)) (l := xs)
    show xs.countP (fun y => decide (y < x)) + inv xs ≤ (xs.length + 1) * (xs.length + 1)
    have e : (xs.length + 1) * (xs.length + 1) = xs.length * xs.length + xs.length + xs.length + 1 := by
      rw [Nat.add_mul, Nat.mul_add]; omega
    omega
theorem inv_drop {xs : List Nat} {i x : Nat} (h : xs[i]? = some x) : inv (xs.drop i) = (xs.drop (i + 1)).countP (fun y => decide (y < x)) + inv (xs.drop (i + 1)) := by
  obtain ⟨hi, e⟩ := List.getElem?_eq_some_iff.mp h
  rw [List.drop_eq_getElem_cons hi, e]
  rfl
/-! rotations -/
theorem inv_append (xs ys : List Nat) : inv (xs ++ ys) = inv xs + inv ys + (xs.map fun x => ys.countP fun y => decide (y < x)).sum := by
  induction xs with
  | nil => simp [inv]
  | cons x xs ih =>
    show (xs ++ ys).countP _ + inv (xs ++ ys) = _
    rw [List.countP_append, ih, List.map_cons, List.sum_cons]
    show _ = xs.countP _ + inv xs + inv ys + (ys.countP _ + _)
    omega
theorem inv_sorted {xs : List Nat} (h : xs.Pairwise (· < ·)) : inv xs = 0 := by
  induction xs with
  | nil => rfl
  | cons x xs ih =>
    obtain ⟨h1, h2⟩ := List.pairwise_cons.mp h
    show xs.countP _ + inv xs = 0
    rw [ih h2, List.countP_eq_zero.mpr fun y m => by have := h1 y m; simp; omega]
theorem sum_const {α : Type} (xs : List α) (c : Nat) : (xs.map fun _ => c).sum = xs.length * c := by
  induction xs with
  | nil => simp
  | cons x xs ih => rw [List.map_cons, List.sum_cons, ih, List.length_cons, Nat.succ_mul]; omega
/-- b numbers from a on, then a numbers from 0 on -/
theorem inv_rot (a b : Nat) : inv ((List.range b).map (a + ·) ++ List.range a) = b * a := by
  have s1 : ((List.range b).map (a + ·)).Pairwise (· < ·) := List.pairwise_map.mpr (List.pairwise_lt_range.imp fun h => by omega)
  rw [inv_append, inv_sorted s1, inv_sorted List.pairwise_lt_range]
  have e : ((List.range b).map (a + ·)).map (fun x => (List.range a).countP fun y => decide (y < x)) = ((List.range b).map (a + ·)).map fun _ => a := by
    refine List.map_congr_left fun x m => ?_
    obtain ⟨i, _, rfl⟩ := List.mem_map.mp m
    have : (List.range a).countP (fun y => decide (y < a + i)) = (List.range a).length := List.countP_eq_length.mpr fun y hy => by
      have := List.mem_range.mp hy; simp; omega
    rw [this, List.length_range]
  rw [e, sum_const, List.length_map, List.length_range]
  omega
/-! two values change places: the parity turns -/
def sw (v w x : Nat) : Nat := if x = v then w else if x = w then v else x
def bt (v w x : Nat) : Bool := decide (v < x ∧ x < w)
def c1 (v : Nat) (xs : List Nat) : Nat := xs.countP fun x => decide (x = v)
theorem c1_cons (v x : Nat) (xs : List Nat) : c1 v (x :: xs) = c1 v xs + if x = v then 1 else 0 := by
  unfold c1
  rw [List.countP_cons]
  by_cases h : x = v
  · simp [h]
  · simp [h]
theorem cnt_cons (q : Nat → Bool) (x : Nat) (xs : List Nat) : (x :: xs).countP q = xs.countP q + if q x = true then 1 else 0 := List.countP_cons
/-- how many are below x behind the change -/
theorem cnt_out {v w x : Nat} (hvw : v < w) (h : x < v ∨ w < x) (xs : List Nat) : (xs.map (sw v w)).countP (fun y => decide (y < x)) = xs.countP fun y => decide (y < x) := by
  rw [List.countP_map]
  refine List.countP_congr fun y _ => ?_
  simp only [Function.comp, decide_eq_true_eq]
  unfold sw
  split
  · subst_vars; omega
  · split
    · subst_vars; omega
    · exact Iff.rfl
theorem cnt_in {v w x : Nat} (h1 : v < x) (h2 : x < w) : ∀ (xs : List Nat), (xs.map (sw v w)).countP (fun y => decide (y < x)) + c1 v xs = xs.countP (fun y => decide (y < x)) + c1 w xs
  | [] => rfl
  | y :: ys => by
    have ih := cnt_in h1 h2 ys
    rw [List.map_cons, cnt_cons, cnt_cons, c1_cons, c1_cons]
    generalize List.countP (fun y => decide (y < x)) (List.map (sw v w) ys) = A at ih ⊢
    generalize List.countP (fun y => decide (y < x)) ys = B at ih ⊢
    generalize c1 v ys = C at ih ⊢
    generalize c1 w ys = F at ih ⊢
    unfold sw
    by_cases e1 : y = v
    · subst e1
      have : ¬ (y = w) := by omega
      have h3 : ¬ w < x := by omega
      simp [this, h1, h3]; omega
    · by_cases e2 : y = w
      · subst e2
        have : ¬ (y < x) := by omega
        simp [e1, this, h1]; omega
      · simp [e1, e2]; omega
/-- w ahead, where v stood -/
theorem cnt_w {v w : Nat} (hvw : v < w) : ∀ (xs : List Nat), c1 v xs = 0 → (xs.map (sw v w)).countP (fun y => decide (y < w)) = xs.countP (fun y => decide (y < v)) + c1 w xs + xs.countP (bt v w)
  | [], _ => rfl
  | y :: ys, h => by
    rw [c1_cons] at h
    have e1 : ¬ y = v := fun e => by rw [if_pos e] at h; omega
    have ih := cnt_w hvw ys (by omega)
    rw [List.map_cons, cnt_cons, cnt_cons, cnt_cons, c1_cons]
    generalize List.countP (fun y => decide (y < w)) (List.map (sw v w) ys) = A at ih ⊢
    generalize List.countP (fun y => decide (y < v)) ys = B at ih ⊢
    generalize List.countP (bt v w) ys = C at ih ⊢
    generalize c1 w ys = F at ih ⊢
    unfold sw bt
    by_cases e2 : y = w
    · subst e2
      have h3 : ¬ y < v := by omega
      simp [e1, hvw, h3]; omega
    · by_cases e3 : y < v
      · have h4 : y < w := by omega
        have h5 : ¬ v < y := by omega
        simp [e1, e2, e3, h4, h5]; omega
      · have h5 : v < y := by omega
        by_cases e4 : y < w
        · simp [e1, e2, e3, e4, h5]; omega
        · simp [e1, e2, e3, e4]; omega
/-- v ahead, where w stood -/
theorem cnt_v {v w : Nat} (hvw : v < w) : ∀ (xs : List Nat), c1 w xs = 0 → (xs.map (sw v w)).countP (fun y => decide (y < v)) + c1 v xs + xs.countP (bt v w) = xs.countP (fun y => decide (y < w))
  | [], _ => rfl
  | y :: ys, h => by
    rw [c1_cons] at h
    have e1 : ¬ y = w := fun e => by rw [if_pos e] at h; omega
    have ih := cnt_v hvw ys (by omega)
    rw [List.map_cons, cnt_cons, cnt_cons, cnt_cons, c1_cons]
    generalize List.countP (fun y => decide (y < v)) (List.map (sw v w) ys) = A at ih ⊢
    generalize List.countP (fun y => decide (y < w)) ys = B at ih ⊢
    generalize List.countP (bt v w) ys = C at ih ⊢
    generalize c1 v ys = F at ih ⊢
    unfold sw bt
    by_cases e2 : y = v
    · subst e2
      have h3 : ¬ w < y := by omega
      simp [hvw, h3]; omega
    · by_cases e3 : y < v
      · have h4 : y < w := by omega
        have h5 : ¬ v < y := by omega
        simp [e1, e2, e3, h4, h5]; omega
      · have h5 : v < y := by omega
        by_cases e4 : y < w
        · simp [e1, e2, e3, e4, h5]; omega
        · simp [e1, e2, e3, e4]; omega
theorem inv_sw {v w : Nat} (hvw : v < w) : ∀ {xs : List Nat}, xs.Nodup → (inv (xs.map (sw v w)) + inv xs + c1 v xs * c1 w xs + xs.countP (bt v w) * (c1 v xs + c1 w xs)) % 2 = 0
  | [], _ => rfl
  | x :: xs, h => by
    obtain ⟨h1, h2⟩ := List.nodup_cons.mp h
    have ih := inv_sw hvw h2
    rw [List.map_cons]
    show ((xs.map (sw v w)).countP (fun y => decide (y < sw v w x)) + inv (xs.map (sw v w)) + (xs.countP (fun y => decide (y < x)) + inv xs) + c1 v (x :: xs) * c1 w (x :: xs) + (x :: xs).countP (bt v w) * (c1 v (x :: xs) + c1 w (x :: xs))) % 2 = 0
    rw [c1_cons, c1_cons, cnt_cons]
    have z : ∀ u, x = u → c1 u xs = 0 := fun u e => List.countP_eq_zero.mpr fun y m => by
      simp only [decide_eq_true_eq]
      intro e2; exact h1 (by rw [e, ← e2]; exact m)
    by_cases e1 : x = v
    · have hz := z v e1
      have hb : bt v w x = false := by unfold bt; simp; omega
      have c := cnt_w hvw xs hz
      have hs : sw v w x = w := if_pos e1
      have ne : ¬ x = w := by omega
      rw [hs, if_pos e1, if_neg ne, hz, hb]
      rw [e1] at *
      rw [hz] at ih
      simp only [Nat.zero_mul, Nat.zero_add, Nat.add_zero, Nat.one_mul, Bool.false_eq_true, if_false, Nat.mul_add, Nat.mul_one] at ih ⊢
      omega
    · by_cases e2 : x = w
      · have hz := z w e2
        have hb : bt v w x = false := by unfold bt; simp; omega
        have c := cnt_v hvw xs hz
        have hs : sw v w x = v := by unfold sw; rw [if_neg e1, if_pos e2]
        rw [hs, if_neg e1, if_pos e2, hz, hb]
        rw [e2] at *
        rw [hz] at ih
        simp only [Nat.mul_zero, Nat.zero_add, Nat.add_zero, Nat.mul_one, Bool.false_eq_true, if_false, Nat.mul_add] at ih ⊢
        omega
      · have hs : sw v w x = x := by unfold sw; rw [if_neg e1, if_neg e2]
        rw [hs, if_neg e1, if_neg e2]
        by_cases hb : v < x ∧ x < w
        · have hb' : bt v w x = true := decide_eq_true hb
          have c := cnt_in hb.1 hb.2 xs
          rw [hb', if_pos rfl]
          simp only [Nat.add_zero, Nat.add_mul, Nat.one_mul] at ih ⊢
          omega
        · have hb' : bt v w x = false := decide_eq_false hb
          have c := cnt_out hvw (x := x) (by omega) xs
          rw [hb', c]
          simp only [Nat.add_zero, Bool.false_eq_true, if_false] at ih ⊢
          omega
theorem c1_mem {v : Nat} {xs : List Nat} (h : xs.Nodup) (m : v ∈ xs) : c1 v xs = 1 := by
  induction xs with
  | nil => cases m
  | cons x xs ih =>
    obtain ⟨h1, h2⟩ := List.nodup_cons.mp h
    rw [c1_cons]
    rcases List.mem_cons.mp m with e | m
    · subst e
      have : c1 v xs = 0 := List.countP_eq_zero.mpr fun y my => by
        simp only [decide_eq_true_eq]
        intro e; exact h1 (e ▸ my)
      rw [this, if_pos rfl]
    · have ne : ¬ x = v := fun e => h1 (e ▸ m)
      rw [ih h2 m, if_neg ne]
theorem parity_sw {v w : Nat} (hvw : v < w) {xs : List Nat} (h : xs.Nodup) (hv : v ∈ xs) (hw : w ∈ xs) : (inv (xs.map (sw v w)) + inv xs) % 2 = 1 := by
  have := inv_sw hvw h
  rw [c1_mem h hv, c1_mem h hw] at this
  omega
end Pm
namespace Pm
/-! ### cycles -/
def it (f : Nat → Nat) : Nat → Nat → Nat
  | 0, x => x
  | k + 1, x => f (it f k x)
theorem it_add (f : Nat → Nat) (j : Nat) : ∀ k x, it f (k + j) x = it f k (it f j x)
  | 0, x => by rw [Nat.zero_add]; rfl
  | k + 1, x => by
    rw [show k + 1 + j = (k + j) + 1 by omega]
    show f (it f (k + j) x) = f (it f k (it f j x))
    rw [it_add f j k x]
structure Cyc (f : Nat → Nat) (r : List Nat) : Prop where
  ne : r ≠ []
  eq : r.map f = r.drop 1 ++ r.take 1
theorem cyc_cons {f : Nat → Nat} {x : Nat} {xs : List Nat} (h : Cyc f (x :: xs)) : Cyc f (xs ++ [x]) := by
  have e := h.eq
  rw [List.map_cons] at e
  have e' : f x :: xs.map f = xs ++ [x] := e
  refine ⟨by simp, ?_⟩
  rw [List.map_append, ← e']
  rfl
theorem cyc_rot {f : Nat → Nat} : ∀ {a b : List Nat}, Cyc f (a ++ b) → Cyc f (b ++ a)
  | [], b, h => by rw [List.append_nil]; exact h
  | x :: a, b, h => by
    have h2 : Cyc f (a ++ (b ++ [x])) := by
      rw [← List.append_assoc]; exact cyc_cons h
    have := cyc_rot h2
    rwa [List.append_assoc] at this
theorem cyc_perm {f : Nat → Nat} {r : List Nat} (h : Cyc f r) : (r.map f).Perm r := by
  rw [h.eq]
  have := (List.perm_append_comm (l₁ := r.take 1) (l₂ := r.drop 1)).symm
  rwa [List.take_append_drop] at this
theorem cyc_closed {f : Nat → Nat} {r : List Nat} (h : Cyc f r) {x : Nat} (m : x ∈ r) : f x ∈ r := (cyc_perm h).mem_iff.mp (List.mem_map_of_mem m)
theorem cyc_it {f : Nat → Nat} {r : List Nat} (h : Cyc f r) {x : Nat} (m : x ∈ r) : ∀ k, it f k x ∈ r
  | 0 => m
  | k + 1 => cyc_closed h (cyc_it h m k)
theorem cyc_get {f : Nat → Nat} {x : Nat} {xs : List Nat} (h : Cyc f (x :: xs)) : ∀ i (hi : i < (x :: xs).length), it f i x = (x :: xs)[i]
  | 0, _ => rfl
  | i + 1, hi => by
    have ih := cyc_get h i (by omega)
    show f (it f i x) = _
    rw [ih]
    have e := h.eq
    have e1 : ((x :: xs).map f)[i]'(by rw [List.length_map]; omega) = ((x :: xs).drop 1 ++ (x :: xs).take 1)[i]'(by rw [← e, List.length_map]; omega) := by
      simp only [e]
    rw [List.getElem_map] at e1
    rw [e1, List.getElem_append_left (by simp at hi ⊢; omega)]
    simp
theorem cyc_reach {f : Nat → Nat} {r : List Nat} (h : Cyc f r) {x y : Nat} (mx : x ∈ r) (my : y ∈ r) : ∃ k, it f k x = y := by
  obtain ⟨a, b, rfl⟩ := List.append_of_mem mx
  have h2 : Cyc f (x :: b ++ a) := cyc_rot h
  have my2 : y ∈ x :: (b ++ a) := by
    simp only [List.mem_append, List.mem_cons] at my ⊢
    rcases my with h | h | h <;> simp [h]
  obtain ⟨i, hi, e⟩ := List.getElem_of_mem my2
  exact ⟨i, (cyc_get (xs := b ++ a) h2 i hi).trans e⟩
/-- the range in cycles -/
structure Dec (f : Nat → Nat) (m : Nat) (R : List (List Nat)) : Prop where
  cyc : ∀ r ∈ R, Cyc f r
  all : R.flatten.Perm (List.range m)
noncomputable def isMin (f : Nat → Nat) (x : Nat) : Bool := @decide (∀ k, x ≤ it f k x) (Classical.propDecidable _)
theorem isMin_iff {f : Nat → Nat} {x : Nat} : isMin f x = true ↔ ∀ k, x ≤ it f k x := by
  unfold isMin
  exact @decide_eq_true_iff _ (Classical.propDecidable _)
theorem min_of : ∀ {r : List Nat}, r ≠ [] → ∃ a ∈ r, ∀ x ∈ r, a ≤ x
  | [], h => (h rfl).elim
  | [x], _ => ⟨x, List.mem_cons_self, fun y m => by rw [List.mem_singleton.mp m]; exact Nat.le_refl _⟩
  | x :: y :: r, _ => by
    obtain ⟨a, m, h⟩ := min_of (r := y :: r) (by simp)
    by_cases c : x ≤ a
    · refine ⟨x, List.mem_cons_self, fun z mz => ?_⟩
      rcases List.mem_cons.mp mz with e | mz
      · rw [e]; exact Nat.le_refl _
      · exact Nat.le_trans c (h z mz)
    · refine ⟨a, List.mem_cons_of_mem _ m, fun z mz => ?_⟩
      rcases List.mem_cons.mp mz with e | mz
      · rw [e]; omega
      · exact h z mz
theorem cyc_one {f : Nat → Nat} {r : List Nat} (h : Cyc f r) (nd : r.Nodup) : r.countP (isMin f) = 1 := by
  obtain ⟨a, m, hm⟩ := min_of h.ne
  have e : r.countP (isMin f) = c1 a r := by
    unfold c1
    refine List.countP_congr fun x mx => ?_
    rw [isMin_iff, decide_eq_true_iff]
    constructor
    · intro hx
      obtain ⟨k, hk⟩ := cyc_reach h mx m
      have h1 := hx k
      rw [hk] at h1
      exact Nat.le_antisymm h1 (hm x mx)
    · rintro rfl k
      exact hm _ (cyc_it h m k)
  rw [e, c1_mem nd m]
theorem countP_flatten_one {q : Nat → Bool} : ∀ {R : List (List Nat)}, (∀ r ∈ R, r.countP q = 1) → R.flatten.countP q = R.length
  | [], _ => rfl
  | r :: R, h => by
    rw [List.flatten_cons, List.countP_append, h r List.mem_cons_self, countP_flatten_one fun s m => h s (List.mem_cons_of_mem _ m), List.length_cons]
    omega
theorem nodup_of_flatten {R : List (List Nat)} (h : R.flatten.Nodup) {r : List Nat} (m : r ∈ R) : r.Nodup := by
  obtain ⟨a, b, rfl⟩ := List.append_of_mem m
  rw [List.flatten_append, List.flatten_cons] at h
  exact (List.nodup_append.mp (List.nodup_append.mp h).2.1).1
theorem Dec.count {f : Nat → Nat} {m : Nat} {R : List (List Nat)} (h : Dec f m R) : R.length = (List.range m).countP (isMin f) := by
  have nd : R.flatten.Nodup := h.all.nodup_iff.mpr List.nodup_range
  rw [← h.all.countP_eq, countP_flatten_one fun r mr => cyc_one (h.cyc r mr) (nodup_of_flatten nd mr)]
theorem inj_of_nodup {f : Nat → Nat} : ∀ {l : List Nat}, (l.map f).Nodup → ∀ {x y}, x ∈ l → y ∈ l → f x = f y → x = y
  | [], _, _, _, m, _, _ => (nomatch m)
  | a :: l, h, x, y, mx, my, e => by
    rw [List.map_cons] at h
    obtain ⟨h1, h2⟩ := List.nodup_cons.mp h
    rcases List.mem_cons.mp mx with ex | mx0
    · rcases List.mem_cons.mp my with ey | my0
      · rw [ex, ey]
      · subst ex
        exact absurd (List.mem_map_of_mem (f := f) my0) (by rw [← e]; exact h1)
    · rcases List.mem_cons.mp my with ey | my
      · subst ey
        exact absurd (List.mem_map_of_mem (f := f) mx0) (by rw [e]; exact h1)
      · exact inj_of_nodup h2 mx0 my e
theorem flatten_map_perm {f : Nat → Nat} : ∀ {R : List (List Nat)}, (∀ r ∈ R, Cyc f r) → (R.flatten.map f).Perm R.flatten
  | [], _ => .refl _
  | r :: R, h => by
    rw [List.flatten_cons, List.map_append]
    exact (cyc_perm (h r List.mem_cons_self)).append (flatten_map_perm fun s m => h s (List.mem_cons_of_mem _ m))
theorem Dec.inj {f : Nat → Nat} {m : Nat} {R : List (List Nat)} (h : Dec f m R) {x y : Nat} (hx : x < m) (hy : y < m) (e : f x = f y) : x = y := by
  have nd : R.flatten.Nodup := h.all.nodup_iff.mpr List.nodup_range
  have nd2 := (flatten_map_perm h.cyc).nodup_iff.mpr nd
  exact inj_of_nodup nd2 (h.all.mem_iff.mpr (List.mem_range.mpr hx)) (h.all.mem_iff.mpr (List.mem_range.mpr hy)) e
/-! segments: u then p; f leads through u up to p -/
def Seg (f : Nat → Nat) (u : List Nat) (p : Nat) : Prop := u.map f = (u ++ [p]).drop 1
def hd (u : List Nat) (p : Nat) : Nat := u.headD p
theorem hd_drop (u : List Nat) (p : Nat) : hd u p :: (u ++ [p]).drop 1 = u ++ [p] := by cases u <;> rfl
theorem take_hd (u : List Nat) (p : Nat) : (u ++ [p]).take 1 = [hd u p] := by cases u <;> rfl
theorem cyc_seg {f : Nat → Nat} {u : List Nat} {p : Nat} : Cyc f (u ++ [p]) ↔ Seg f u p ∧ f p = hd u p := by
  constructor
  · intro h
    have e := h.eq
    rw [List.map_append, take_hd] at e
    have := List.append_inj' e rfl
    exact ⟨this.1, by simpa using this.2⟩
  · rintro ⟨h1, h2⟩
    refine ⟨by simp, ?_⟩
    rw [List.map_append, take_hd, ← h2]
    show u.map f ++ [f p] = _
    rw [show u.map f = _ from h1]
theorem seg_congr {f g : Nat → Nat} {u : List Nat} {p : Nat} (h : Seg f u p) (e : ∀ x ∈ u, g x = f x) : Seg g u p := (List.map_congr_left e).trans h
theorem drop1 (u v : List Nat) (p : Nat) : ((u ++ [p]) ++ v).drop 1 = (u ++ [p]).drop 1 ++ v := by cases u <;> rfl
theorem seg_join {f : Nat → Nat} {u u2 : List Nat} {p q : Nat} : Seg f (u ++ [p] ++ u2) q ↔ Seg f u p ∧ f p = hd u2 q ∧ Seg f u2 q := by
  unfold Seg
  rw [List.append_assoc (u ++ [p]) u2 [q], drop1, List.map_append, List.map_append]
  constructor
  · intro h
    rw [List.append_assoc] at h
    have l : (u.map f).length = ((u ++ [p]).drop 1).length := by simp
    obtain ⟨h1, h2⟩ := List.append_inj h l
    rw [← hd_drop u2 q] at h2
    have h3 : f p :: u2.map f = hd u2 q :: (u2 ++ [q]).drop 1 := h2
    injection h3 with h4 h5
    exact ⟨h1, h4, h5⟩
  · rintro ⟨h1, h2, h3⟩
    rw [h1, h3, List.append_assoc]
    show _ ++ (f p :: (u2 ++ [q]).drop 1) = _
    rw [h2, hd_drop]
theorem hd_app (u u2 : List Nat) (p q : Nat) : hd (u ++ [p] ++ u2) q = hd u p := by cases u <;> rfl
theorem flat_out (A B : List (List Nat)) (r : List Nat) : (A ++ r :: B).flatten.Perm (r ++ (A ++ B).flatten) := by
  rw [List.flatten_append, List.flatten_cons, List.flatten_append, ← List.append_assoc, ← List.append_assoc]
  exact List.Perm.append_right _ List.perm_append_comm
theorem end_rot {f : Nat → Nat} {r : List Nat} {p : Nat} (h : Cyc f r) (m : p ∈ r) : ∃ u, Cyc f (u ++ [p]) ∧ (u ++ [p]).Perm r := by
  obtain ⟨a, b, rfl⟩ := List.append_of_mem m
  refine ⟨b ++ a, ?_, ?_⟩
  · have h2 : Cyc f ((a ++ [p]) ++ b) := by simpa using h
    have := cyc_rot h2
    rwa [← List.append_assoc] at this
  · have := List.perm_append_comm (l₁ := b) (l₂ := a ++ [p])
    simpa using this
/-- two values exchanged: one cycle more or one fewer -/
theorem Dec.swap {f : Nat → Nat} {m v w : Nat} {R : List (List Nat)} (h : Dec f m R) (hvw : v ≠ w) (hv : v < m) (hw : w < m) : ∃ R', Dec (fun x => sw v w (f x)) m R' ∧ (R'.length = R.length + 1 ∨ R'.length + 1 = R.length) := by
  have nd : R.flatten.Nodup := h.all.nodup_iff.mpr List.nodup_range
  have pm := flatten_map_perm h.cyc
  have src : ∀ z, z < m → ∃ p, p ∈ R.flatten ∧ f p = z := fun z hz => by
    have : z ∈ R.flatten.map f := pm.mem_iff.mpr (h.all.mem_iff.mpr (List.mem_range.mpr hz))
    obtain ⟨p, a, b⟩ := List.mem_map.mp this
    exact ⟨p, a, b⟩
  obtain ⟨p, mp, ep⟩ := src v hv
  obtain ⟨q, mq, eq⟩ := src w hw
  have hpq : p ≠ q := fun e => hvw (by rw [← ep, ← eq, e])
  have lt : ∀ {z}, z ∈ R.flatten → z < m := fun {z} mz => List.mem_range.mp (h.all.mem_iff.mp mz)
  have off : ∀ x, x ∈ R.flatten → x ≠ p → x ≠ q → sw v w (f x) = f x := fun x mx n1 n2 => by
    unfold sw
    rw [if_neg (fun e => n1 (h.inj (lt mx) (lt mp) (e.trans ep.symm))), if_neg (fun e => n2 (h.inj (lt mx) (lt mq) (e.trans eq.symm)))]
  have fp : sw v w (f p) = w := by rw [ep]; exact if_pos rfl
  have fq : sw v w (f q) = v := by rw [eq]; unfold sw; rw [if_neg (Ne.symm hvw), if_pos rfl]
  obtain ⟨r1, mr1, pr1⟩ := List.mem_flatten.mp mq
  obtain ⟨A, B, rfl⟩ := List.append_of_mem mr1
  obtain ⟨u, cu, pu⟩ := end_rot (h.cyc r1 mr1) pr1
  have fl := flat_out A B r1
  have nd2 : (r1 ++ (A ++ B).flatten).Nodup := fl.nodup_iff.mp nd
  have ndr : (u ++ [q]).Nodup := pu.nodup_iff.mpr (List.nodup_append.mp nd2).1
  have inAB : ∀ r ∈ A ++ B, r ∈ A ++ r1 :: B := fun r mr => by
    rcases List.mem_append.mp mr with z | z
    · exact List.mem_append_left _ z
    · exact List.mem_append_right _ (List.mem_cons_of_mem _ z)
  have rest : ∀ r, r ∈ A ++ B → p ∉ r → q ∉ r → Cyc (fun x => sw v w (f x)) r := fun r mr n1 n2 => by
    have c := h.cyc r (inAB r mr)
    refine ⟨c.ne, ?_⟩
    rw [← c.eq]
    exact List.map_congr_left fun x mx => off x (List.mem_flatten.mpr ⟨r, inAB r mr, mx⟩) (fun e => n1 (e ▸ mx)) fun e => n2 (e ▸ mx)
  have qAB : ∀ r ∈ A ++ B, q ∉ r := fun r mr mq' => (List.nodup_append.mp nd2).2.2 q pr1 q (List.mem_flatten.mpr ⟨r, mr, mq'⟩) rfl
  obtain ⟨sg, hq⟩ := cyc_seg.mp cu
  have inR : ∀ {x}, x ∈ u ++ [q] → x ∈ (A ++ r1 :: B).flatten := fun {x} mx => List.mem_flatten.mpr ⟨r1, mr1, pu.mem_iff.mp mx⟩
  by_cases pin : p ∈ u
  · -- one cycle falls into two
    obtain ⟨u1, u2, rfl⟩ := List.append_of_mem pin
    have sg' : Seg f (u1 ++ [p] ++ u2) q := by simpa using sg
    obtain ⟨s1, s2, s3⟩ := seg_join.mp sg'
    have hq' : f q = hd u1 p := by
      have : f q = hd (u1 ++ [p] ++ u2) q := by simpa using hq
      rwa [hd_app] at this
    have ndu : (u1 ++ p :: (u2 ++ [q])).Nodup := by simpa using ndr
    have nu := List.nodup_append.mp ndu
    have nv := List.nodup_cons.mp nu.2.1
    have n1 : ∀ x ∈ u1, x ≠ p ∧ x ≠ q := fun x mx => ⟨nu.2.2 x mx p List.mem_cons_self, nu.2.2 x mx q (by simp)⟩
    have n2 : ∀ x ∈ u2, x ≠ p ∧ x ≠ q := fun x mx => ⟨fun e => nv.1 (by rw [← e]; simp [mx]), (List.nodup_append.mp nv.2).2.2 x mx q (by simp)⟩
    have in1 : ∀ x ∈ u1, x ∈ (A ++ r1 :: B).flatten := fun x mx => inR (by simp [mx])
    have in2 : ∀ x ∈ u2, x ∈ (A ++ r1 :: B).flatten := fun x mx => inR (by simp [mx])
    have pnAB : ∀ r ∈ A ++ B, p ∉ r := fun r mr mp' => (List.nodup_append.mp nd2).2.2 p (pu.mem_iff.mp (by simp)) p (List.mem_flatten.mpr ⟨r, mr, mp'⟩) rfl
    refine ⟨(u1 ++ [p]) :: (u2 ++ [q]) :: (A ++ B), ⟨fun r mr => ?_, ?_⟩, .inl ?_⟩
    · rcases List.mem_cons.mp mr with e | mr
      · rw [e]
        exact cyc_seg.mpr ⟨seg_congr s1 fun x mx => off x (in1 x mx) (n1 x mx).1 (n1 x mx).2, by rw [fp, ← eq, hq']⟩
      · rcases List.mem_cons.mp mr with e | mr
        · rw [e]
          exact cyc_seg.mpr ⟨seg_congr s3 fun x mx => off x (in2 x mx) (n2 x mx).1 (n2 x mx).2, by rw [fq, ← ep, s2]⟩
        · exact rest r mr (pnAB r mr) (qAB r mr)
    · refine List.Perm.trans ?_ (fl.symm.trans h.all)
      rw [List.flatten_cons, List.flatten_cons, ← List.append_assoc]
      refine List.Perm.append_right _ ?_
      refine List.Perm.trans ?_ pu
      simp
    · simp; omega
  · -- two cycles become one
    have pAB : ∃ r2 ∈ A ++ B, p ∈ r2 := by
      have : p ∈ r1 ++ (A ++ B).flatten := fl.mem_iff.mp mp
      rcases List.mem_append.mp this with z | z
      · have := pu.mem_iff.mpr z
        rcases List.mem_append.mp this with z | z
        · exact absurd z pin
        · exact absurd (List.mem_singleton.mp z) hpq
      · obtain ⟨r2, a, b⟩ := List.mem_flatten.mp z
        exact ⟨r2, a, b⟩
    obtain ⟨r2, mr2, pr2⟩ := pAB
    obtain ⟨u2, c2, pu2⟩ := end_rot (h.cyc r2 (inAB r2 mr2)) pr2
    obtain ⟨C, E, hCE⟩ := List.append_of_mem mr2
    obtain ⟨s2, hp⟩ := cyc_seg.mp c2
    rw [hCE] at nd2 fl
    have fl2 := flat_out C E r2
    have nd3 : (r1 ++ (r2 ++ (C ++ E).flatten)).Nodup := (List.Perm.append_left r1 fl2).nodup_iff.mp nd2
    have nd4 := List.nodup_append.mp nd3
    have nd5 := List.nodup_append.mp nd4.2.1
    have ndr2 : (u2 ++ [p]).Nodup := pu2.nodup_iff.mpr nd5.1
    have inR2 : ∀ {x}, x ∈ u2 ++ [p] → x ∈ (A ++ r1 :: B).flatten := fun {x} mx => List.mem_flatten.mpr ⟨r2, inAB r2 mr2, pu2.mem_iff.mp mx⟩
    have a1 : ∀ x ∈ u, sw v w (f x) = f x := fun x mx => off x (inR (by simp [mx])) (fun e => pin (e ▸ mx)) ((List.nodup_append.mp ndr).2.2 x mx q (by simp))
    have a2 : ∀ x ∈ u2, sw v w (f x) = f x := fun x mx => off x (inR2 (by simp [mx])) ((List.nodup_append.mp ndr2).2.2 x mx p (by simp)) (fun e => by
      have : q ∈ r2 := pu2.mem_iff.mp (by rw [← e]; simp [mx])
      exact qAB r2 mr2 this)
    refine ⟨((u2 ++ [p] ++ u) ++ [q]) :: (C ++ E), ⟨fun r mr => ?_, ?_⟩, .inr ?_⟩
    · rcases List.mem_cons.mp mr with e | mr
      · rw [e]
        refine cyc_seg.mpr ⟨seg_join.mpr ⟨seg_congr s2 a2, by rw [fp, ← eq, hq], seg_congr sg a1⟩, ?_⟩
        rw [hd_app, fq, ← ep, hp]
      · have mr' : r ∈ A ++ B := by
          rw [hCE]
          rcases List.mem_append.mp mr with z | z
          · exact List.mem_append_left _ z
          · exact List.mem_append_right _ (List.mem_cons_of_mem _ z)
        refine rest r mr' (fun mp' => ?_) (qAB r mr')
        exact nd5.2.2 p pr2 p (List.mem_flatten.mpr ⟨r, mr, mp'⟩) rfl
    · refine List.Perm.trans ?_ (fl.symm.trans h.all)
      refine List.Perm.trans ?_ (List.Perm.append_left r1 fl2.symm)
      rw [List.flatten_cons, ← List.append_assoc]
      refine List.Perm.append_right _ ?_
      have e1 : (u2 ++ [p] ++ u ++ [q]).Perm ((u ++ [q]) ++ (u2 ++ [p])) := by
        rw [List.append_assoc (u2 ++ [p])]
        exact List.perm_append_comm
      exact e1.trans (pu.append pu2)
    · have l1 : (A ++ B).length = (C ++ r2 :: E).length := by rw [hCE]
      simp at l1 ⊢; omega
end Pm
namespace Pm
structure Prm (f : Nat → Nat) (m : Nat) : Prop where
  lt : ∀ x, x < m → f x < m
  inj : ∀ x y, x < m → y < m → f x = f y → x = y
theorem len_le_of_nodup : ∀ (m : Nat) (l : List Nat), l.Nodup → (∀ x ∈ l, x < m) → l.length ≤ m
  | 0, [], _, _ => Nat.le_refl _
  | 0, x :: l, _, h => absurd (h x List.mem_cons_self) (Nat.not_lt_zero _)
  | m + 1, l, nd, h => by
    have r := len_le_of_nodup m (l.erase m) (nd.erase m) fun x mx => by
      obtain ⟨n, mx'⟩ := nd.mem_erase_iff.mp mx
      have := h x mx'
      omega
    have := List.le_length_erase (a := m) (l := l)
    omega
section
variable {f : Nat → Nat} {m : Nat} (P : Prm f m)
include P
theorem Prm.it_lt {x : Nat} (hx : x < m) : ∀ k, it f k x < m
  | 0 => hx
  | k + 1 => P.lt _ (Prm.it_lt hx k)
theorem Prm.it_inj {x y : Nat} (hx : x < m) (hy : y < m) : ∀ k, it f k x = it f k y → x = y
  | 0, e => e
  | k + 1, e => Prm.it_inj hx hy k (P.inj _ _ (P.it_lt hx k) (P.it_lt hy k) e)
theorem Prm.back {x : Nat} (hx : x < m) : ∃ c, c < m ∧ it f (c + 1) x = x := by
  refine Classical.byContradiction fun n => ?_
  have nd : ((List.range (m + 1)).map fun k => it f k x).Nodup := by
    refine List.pairwise_map.mpr (List.Pairwise.imp_of_mem (fun {i j} mi mj hij => ?_) List.pairwise_lt_range)
    intro e
    have hj := List.mem_range.mp mj
    refine n ⟨j - i - 1, by omega, ?_⟩
    have e2 : it f j x = it f i (it f (j - i) x) := by rw [← it_add, show i + (j - i) = j by omega]
    have := P.it_inj (P.it_lt hx (j - i)) hx i (e2.symm.trans e.symm)
    rw [show j - i - 1 + 1 = j - i by omega]
    exact this
  have := len_le_of_nodup m _ nd fun y my => by
    obtain ⟨k, _, rfl⟩ := List.mem_map.mp my
    exact P.it_lt hx k
  rw [List.length_map, List.length_range] at this
  omega
end
/-- the first return -/
def per (f : Nat → Nat) (m x : Nat) : Nat := ((List.range m).find? fun c => it f (c + 1) x == x).getD 0 + 1
theorem Prm.per {f : Nat → Nat} {m : Nat} (P : Prm f m) {x : Nat} (hx : x < m) : per f m x ≤ m ∧ it f (per f m x) x = x ∧ ∀ j, 0 < j → j < Pm.per f m x → it f j x ≠ x := by
  unfold Pm.per
  cases e : (List.range m).find? fun c => it f (c + 1) x == x with
  | none =>
    obtain ⟨c, hc, h⟩ := P.back hx
    have := List.find?_eq_none.mp e c (List.mem_range.mpr hc)
    rw [h] at this
    simp at this
  | some c =>
    obtain ⟨h1, h2, h3⟩ := List.find?_range_eq_some.mp e
    refine ⟨?_, ?_, fun j j0 jc => ?_⟩
    · have := List.mem_range.mp h2
      simp; omega
    · simpa using h1
    · have jc' : j < c + 1 := jc
      have := h3 (j - 1) (by omega)
      rw [show j - 1 + 1 = j by omega] at this
      intro e2
      rw [e2] at this
      simp at this
def orb (f : Nat → Nat) (x c : Nat) : List Nat := (List.range c).map fun k => it f k x
theorem orb_succ (f : Nat → Nat) (x c : Nat) : orb f x (c + 1) = orb f x c ++ [it f c x] := by
  unfold orb
  rw [List.range_succ, List.map_append]; rfl
theorem orb_len (f : Nat → Nat) (x c : Nat) : (orb f x c).length = c := by unfold orb; rw [List.length_map, List.length_range]
theorem orb_mem {f : Nat → Nat} {x c y : Nat} : y ∈ orb f x c ↔ ∃ k, k < c ∧ it f k x = y := by
  unfold orb
  rw [List.mem_map]
  exact ⟨fun ⟨k, a, b⟩ => ⟨k, List.mem_range.mp a, b⟩, fun ⟨k, a, b⟩ => ⟨k, List.mem_range.mpr a, b⟩⟩
theorem it_comm (f : Nat → Nat) (k x : Nat) : it f k (f x) = it f (k + 1) x := (it_add f 1 k x).symm
theorem orb_cyc {f : Nat → Nat} {x c : Nat} (h : it f (c + 1) x = x) : Cyc f (orb f x (c + 1)) := by
  have ne : orb f x (c + 1) ≠ [] := fun e => by
    have := orb_len f x (c + 1)
    rw [e] at this; cases this
  refine ⟨ne, ?_⟩
  have e1 : orb f x (c + 1) = x :: (List.range c).map fun k => it f (k + 1) x := by
    unfold orb
    rw [List.range_succ_eq_map, List.map_cons, List.map_map]
    rfl
  have e2 : (orb f x (c + 1)).map f = (List.range (c + 1)).map fun k => it f (k + 1) x := by
    unfold orb
    rw [List.map_map]
    rfl
  rw [e2, List.range_succ, List.map_append, e1]
  show _ ++ [it f (c + 1) x] = _
  rw [h]; rfl
theorem orb_nodup {f : Nat → Nat} {m x : Nat} (P : Prm f m) (hx : x < m) {c : Nat} (hc : c ≤ per f m x) : (orb f x c).Nodup := by
  refine List.pairwise_map.mpr (List.Pairwise.imp_of_mem (fun {i j} mi mj hij => ?_) List.pairwise_lt_range)
  intro e
  have hj := List.mem_range.mp mj
  have e2 : it f j x = it f i (it f (j - i) x) := by rw [← it_add, show i + (j - i) = j by omega]
  exact (P.per hx).2.2 (j - i) (by omega) (by omega) (P.it_inj (P.it_lt hx (j - i)) hx i (e2.symm.trans e.symm))
/-- the cycles as they are found -/
def step (f : Nat → Nat) (m : Nat) (R : List (List Nat)) (s : Nat) : List (List Nat) := if s ∈ R.flatten then R else R ++ [orb f s (per f m s)]
def rows (f : Nat → Nat) (m k : Nat) : List (List Nat) := (List.range k).foldl (step f m) []
theorem rows_succ (f : Nat → Nat) (m k : Nat) : rows f m (k + 1) = step f m (rows f m k) k := by
  unfold rows
  rw [List.range_succ, List.foldl_append]; rfl
structure Part (f : Nat → Nat) (m k : Nat) (R : List (List Nat)) : Prop where
  cyc : ∀ r ∈ R, Cyc f r
  nd : R.flatten.Nodup
  lt : ∀ x ∈ R.flatten, x < m
  all : ∀ x, x < k → x ∈ R.flatten
theorem rows_part {f : Nat → Nat} {m : Nat} (P : Prm f m) : ∀ k, k ≤ m → Part f m k (rows f m k)
  | 0, _ => ⟨fun _ h => (nomatch h), List.nodup_nil, fun _ h => (nomatch h), fun _ h => absurd h (Nat.not_lt_zero _)⟩
  | k + 1, hk => by
    have ih := rows_part P k (by omega)
    rw [rows_succ]
    unfold step
    by_cases c : k ∈ (rows f m k).flatten
    · rw [if_pos c]
      exact ⟨ih.cyc, ih.nd, ih.lt, fun x hx => by
        by_cases e : x = k
        · rw [e]; exact c
        · exact ih.all x (by omega)⟩
    · rw [if_neg c]
      have hkm : k < m := hk
      obtain ⟨p1, p2, p3⟩ := P.per hkm
      have cy : Cyc f (orb f k (per f m k)) := orb_cyc (c := ((List.range m).find? fun c => it f (c + 1) k == k).getD 0) p2
      have ef : (rows f m k ++ [orb f k (per f m k)]).flatten = (rows f m k).flatten ++ orb f k (per f m k) := by simp
      refine ⟨fun r mr => ?_, ?_, fun x mx => ?_, fun x hx => ?_⟩
      · rcases List.mem_append.mp mr with z | z
        · exact ih.cyc r z
        · rw [List.mem_singleton.mp z]; exact cy
      · rw [ef]
        refine List.nodup_append.mpr ⟨ih.nd, orb_nodup P hkm (Nat.le_refl _), fun a ma b mb e => ?_⟩
        subst e
        obtain ⟨r, mr, ma⟩ := List.mem_flatten.mp ma
        have mk : k ∈ orb f k (per f m k) := orb_mem.mpr ⟨0, Nat.succ_pos _, rfl⟩
        obtain ⟨j, hj⟩ := cyc_reach cy mb mk
        exact c (List.mem_flatten.mpr ⟨r, mr, hj ▸ cyc_it (ih.cyc r mr) ma j⟩)
      · rw [ef] at mx
        rcases List.mem_append.mp mx with z | z
        · exact ih.lt x z
        · obtain ⟨j, _, rfl⟩ := orb_mem.mp z
          exact P.it_lt hkm j
      · rw [ef]
        by_cases e : x = k
        · rw [e]; exact List.mem_append_right _ (orb_mem.mpr ⟨0, Nat.succ_pos _, rfl⟩)
        · exact List.mem_append_left _ (ih.all x (by omega))
theorem rows_dec {f : Nat → Nat} {m : Nat} (P : Prm f m) : Dec f m (rows f m m) := by
  have h := rows_part P m (Nat.le_refl _)
  exact ⟨h.cyc, (List.perm_ext_iff_of_nodup h.nd List.nodup_range).mpr fun x => ⟨fun mx => List.mem_range.mpr (h.lt x mx), fun mx => h.all x (List.mem_range.mp mx)⟩⟩
theorem rows_le {f : Nat → Nat} {m : Nat} (P : Prm f m) : (rows f m m).length ≤ m := by
  rw [(rows_dec P).count]
  have := List.countP_le_length (p := isMin f) (l := List.range m)
  rwa [List.length_range] at this
theorem Prm.swap {f : Nat → Nat} {m v w : Nat} (P : Prm f m) (hvw : v ≠ w) (hv : v < m) (hw : w < m) : Prm (fun x => sw v w (f x)) m := by
  refine ⟨fun x hx => ?_, fun x y hx hy e => ?_⟩
  · have := P.lt x hx
    unfold sw
    split
    · exact hw
    · split
      · exact hv
      · exact this
  · refine P.inj x y hx hy ?_
    have inv : ∀ z, sw v w (sw v w z) = z := fun z => by
      unfold sw
      by_cases e1 : z = v
      · subst e1
        simp
      · by_cases e2 : z = w
        · subst e2; simp [e1]
        · simp [e1, e2]
    have := congrArg (sw v w) e
    rwa [inv, inv] at this
theorem rows_swap {f : Nat → Nat} {m v w : Nat} (P : Prm f m) (hvw : v ≠ w) (hv : v < m) (hw : w < m) :
    (rows (fun x => sw v w (f x)) m m).length = (rows f m m).length + 1 ∨ (rows (fun x => sw v w (f x)) m m).length + 1 = (rows f m m).length := by
  obtain ⟨R', d, h⟩ := (rows_dec P).swap hvw hv hw
  rw [(rows_dec (P.swap hvw hv hw)).count, ← d.count]
  exact h
end Pm
namespace K28
open PySem Dv
open L2 (atI ixN)
/-- places, as data -/
def nD (pl : List Nat) : List D := pl.map fun (n : Nat) => PyData.int (n : Int)
@[simp] theorem nD_len (pl : List Nat) : (nD pl).length = pl.length := List.length_map _
theorem nD_get {pl : List Nat} {i : Nat} {x : Nat} (h : pl[i]? = some x) : atI (nD pl) ((i : Nat) : Int) = some (.int (x : Int)) := by
  rw [atI_n]; unfold nD; rw [List.getElem?_map, h]; rfl
theorem map_range_nD (pl : List Nat) : (List.range pl.length).map (fun i => PyData.int ((pl.getD i 0 : Nat) : Int)) = nD pl := by
  have := congrArg nD (Pm.map_range_get pl)
  rw [← this]
  simp [nD]
/-- the turned ones behind i -/
def trow (pl : List Nat) (i : Nat) : List (Nat × Nat) := ((List.range (pl.length - (i + 1))).filter fun j => decide (pl.getD (i + 1 + j) 0 < pl.getD i 0)).map fun j => (i, i + 1 + j)
def trn (pl : List Nat) (k : Nat) : List (Nat × Nat) := (List.range k).flatMap (trow pl)
theorem trn_succ (pl : List Nat) (k : Nat) : trn pl (k + 1) = trn pl k ++ trow pl k := by
  unfold trn
  rw [List.range_succ, List.flatMap_append]
  simp
theorem trow_len {pl : List Nat} {i x : Nat} (h : pl[i]? = some x) : (trow pl i).length = (pl.drop (i + 1)).countP fun y => decide (y < x) := by
  have e : pl.getD i 0 = x := by rw [List.getD_eq_getElem?_getD, h]; rfl
  unfold trow
  rw [List.length_map, e]
  have := Pm.countP_range (pl.drop (i + 1)) fun y => decide (y < x)
  rw [List.length_drop] at this
  rw [← this]
  congr 2
  funext j
  rw [List.getD_eq_getElem?_getD, List.getD_eq_getElem?_getD, List.getElem?_drop]
theorem trn_len {pl : List Nat} : ∀ k, k ≤ pl.length → (trn pl k).length + Pm.inv (pl.drop k) = Pm.inv pl
  | 0, _ => by simp [trn]
  | k + 1, h => by
    have ih := trn_len (pl := pl) k (by omega)
    have hx : pl[k]? = some pl[k] := List.getElem?_eq_getElem (by omega)
    have := Pm.inv_drop hx
    rw [trn_succ, List.length_append, trow_len hx]
    omega
theorem trn_all {pl : List Nat} : (trn pl pl.length).length = Pm.inv pl := by
  have := trn_len (pl := pl) pl.length (Nat.le_refl _)
  simpa [Pm.inv] using this
/-- pairs, as data -/
def pD (p : Nat × Nat) : D := .tuple [.int (p.1 : Int), .int (p.2 : Int)]
def tD (L : List (Nat × Nat)) : List D := L.map pD
@[simp] theorem tD_len (L : List (Nat × Nat)) : (tD L).length = L.length := List.length_map _
theorem tD_app (a b : List (Nat × Nat)) : tD a ++ tD b = tD (a ++ b) := by unfold tD; rw [List.map_append]
/-- the turned pairs of two sequences -/
def tp (ns ms : List Int) : List (Nat × Nat) := trn (ns.map ms.idxOf) ns.length
theorem tp_len (ns ms : List Int) : (tp ns ms).length = Pm.inv (ns.map ms.idxOf) := by
  have := trn_all (pl := ns.map ms.idxOf)
  rwa [List.length_map] at this
theorem row_dat {pl : List Nat} {i : Nat} : ((List.range (rngD ((i : Int) + 1) ((pl.length : Int) - ((i : Int) + 1)).toNat).length).filter fun j => decide (pl.getD (i + 1 + j) 0 < pl.getD i 0)).map (fun j => PyData.tuple [.int (i : Nat), .int ((i + 1 + j : Nat) : Int)]) = tD (trow pl i) := by
  have en : ((pl.length : Int) - ((i : Int) + 1)).toNat = pl.length - (i + 1) := by omega
  rw [rngD_len, en]
  unfold tD trow
  rw [List.map_map]
  rfl
theorem g_turned_of {ns ms : List Int} (h : Sq ns) (h' : Sq ms) (sub : ∀ x ∈ ns, x ∈ ms) {P : Rv → Prop} (q : P (.fr (tD (tp ns ms)))) : G_turned_of [tI ns, tI ms] P := by
  have hl := h.len
  simp [G_turned_of, dfN]
  have hpl : (ns.map ms.idxOf).length = ns.length := List.length_map _
  refine lc_map (fun i => .int (((ns.map ms.idxOf).getD i 0 : Nat) : Int)) (by rw [List.length_map]; omega) (fun i d acc Q hd hz k => ?_) ?_
  · rw [List.getElem?_map] at hd
    obtain ⟨x, hx, rfl⟩ := Option.map_eq_some_iff.mp hd
    have m := List.mem_of_getElem? hx
    simp [idxD_ints (sub x m), hz]
    have e : (ns.map ms.idxOf).getD i 0 = ms.idxOf x := by
      rw [List.getD_eq_getElem?_getD, List.getElem?_map, hx]; rfl
    rw [e] at k
    exact k
  · rw [show (ns.map PyData.int).length = (ns.map ms.idxOf).length by simp, map_range_nD]
    unfold tp at q
    rw [← hpl] at q
    generalize hp : ns.map ms.idxOf = pl at *
    have bound := Pm.inv_le pl
    have b2 : pl.length * pl.length ≤ 16 * 16 := Nat.mul_le_mul (by omega) (by omega)
    simp
    refine ⟨by omega, ?_⟩
    refine loop_rng (fun i ρ => ∃ (s : Sl), ρ = [.sh (tI ns), .sh (tI ms), .ow (.lst (nD pl)), .ow (.lst (tD (trn pl i))), s, .un, .un]) ⟨.un, rfl⟩ ?_ ?_
    · rintro i ρ1 Q hi ⟨s, rfl⟩ k
      have hi' : i < pl.length := hi
      have hx : pl[i]? = some pl[i] := List.getElem?_eq_getElem hi'
      have ex : pl.getD i 0 = pl[i] := by rw [List.getD_eq_getElem?_getD, hx]; rfl
      have t1 := trn_len (pl := pl) (i + 1) (by omega)
      rw [trn_succ] at k t1
      rw [List.length_append] at t1
      simp
      refine ⟨⟨by omega, by omega, by omega⟩, ?_⟩
      have en : ((pl.length : Int) - ((i : Int) + 1)).toNat = pl.length - (i + 1) := by omega
      refine lc_filter (fun j => decide (pl.getD (i + 1 + j) 0 < pl.getD i 0)) (fun j => .tuple [.int (i : Nat), .int ((i + 1 + j : Nat) : Int)]) (by rw [rngD_len]; omega) (fun j d acc Q' hd hz k1 k2 => ?_) ?_
      · have hj : j < pl.length - (i + 1) := by
          have := (List.getElem?_eq_some_iff.mp hd).1
          rw [rngD_len, en] at this; exact this
        rw [rngD_get hd]
        obtain ⟨u, hu⟩ : ∃ u, u = i + 1 + j := ⟨_, rfl⟩
        have ec : (i : Int) + 1 + (j : Int) = ((u : Nat) : Int) := by omega
        rw [ec]
        rw [← hu] at k1 k2
        have hu' : u < pl.length := by omega
        have hy : pl[u]? = some pl[u] := List.getElem?_eq_getElem hu'
        have eg : pl.getD u 0 = pl[u] := by rw [List.getD_eq_getElem?_getD, hy]; rfl
        rw [eg, ex] at k1 k2
        simp [nD_get hx, nD_get hy, hz]
        refine wIf_dec (fun c => ?_) fun c => ?_
        · exact k1 (decide_eq_true (by omega))
        · exact k2 (decide_eq_false (by omega))
      · rw [row_dat]
        simp
        exact ⟨by omega, k _ ⟨_, by rw [tD_app]⟩⟩
    · rintro ρ1 ⟨s, rfl⟩
      simpa using q
end K28
namespace K28
open PySem Dv
open L2 (atI ixN)
/-- where each of ns stands in ms -/
abbrev pf (ns ms : List Int) (i : Nat) : Nat := (ns.map ms.idxOf).getD i 0
theorem pf_at {ns ms : List Int} {i : Nat} (h : i < ns.length) : pf ns ms i = ms.idxOf ns[i] := by
  show (ns.map ms.idxOf).getD i 0 = _
  rw [List.getD_eq_getElem?_getD, List.getElem?_map, List.getElem?_eq_getElem h]; rfl
theorem idx_inj {l : List Int} {x y : Int} (hx : x ∈ l) (hy : y ∈ l) (e : l.idxOf x = l.idxOf y) : x = y := by
  have h1 := List.getElem_idxOf (List.idxOf_lt_length_iff.mpr hx)
  have h2 := List.getElem_idxOf (List.idxOf_lt_length_iff.mpr hy)
  rw [← h1, ← h2]
  congr 1
theorem nd_inj {α : Type} {l : List α} (h : l.Nodup) {i j : Nat} {hi : i < l.length} {hj : j < l.length} (e : l[i] = l[j]) : i = j := by
  rcases Nat.lt_trichotomy i j with c | c | c
  · exact absurd e (List.pairwise_iff_getElem.mp h i j hi hj c)
  · exact c
  · exact absurd e.symm (List.pairwise_iff_getElem.mp h j i hj hi c)
theorem pf_prm {ns ms : List Int} (h : Sq ns) (p : ns.Perm ms) : Pm.Prm (pf ns ms) ns.length := by
  refine ⟨fun x hx => ?_, fun x y hx hy e => ?_⟩
  · rw [pf_at hx, p.length_eq]
    exact List.idxOf_lt_length_iff.mpr (p.mem_iff.mp (List.getElem_mem hx))
  · rw [pf_at hx, pf_at hy] at e
    have := idx_inj (p.mem_iff.mp (List.getElem_mem hx)) (p.mem_iff.mp (List.getElem_mem hy)) e
    exact nd_inj h.nd this
def rD (R : List (List Nat)) : List D := R.map fun r => .tuple (nD r)
@[simp] theorem rD_len (R : List (List Nat)) : (rD R).length = R.length := List.length_map _
theorem rD_snoc (R : List (List Nat)) (r : List Nat) : rD R ++ [.tuple (nD r)] = rD (R ++ [r]) := by unfold rD; rw [List.map_append]; rfl
theorem nD_app (a b : List Nat) : nD a ++ nD b = nD (a ++ b) := by unfold nD; rw [List.map_append]
theorem nD_snoc (a : List Nat) (b : Nat) : nD a ++ [PyData.int ((b : Nat) : Int)] = nD (a ++ [b]) := nD_app a [b]
theorem nD_few {l : List Nat} {m : Nat} (hl : l.length ≤ 300) (h : ∀ x ∈ l, x < 1000) : Few (l.map fun (n : Nat) => (n : Int)) := ⟨by rw [List.length_map]; exact hl, fun x m => by
  obtain ⟨n, mn, rfl⟩ := List.mem_map.mp m
  have := h n mn
  omega⟩
theorem nD_ints (l : List Nat) : nD l = (l.map fun (n : Nat) => (n : Int)).map PyData.int := by unfold nD; rw [List.map_map]; rfl
theorem mem_cast {l : List Nat} {x : Nat} : ((x : Nat) : Int) ∈ l.map (fun (n : Nat) => (n : Int)) ↔ x ∈ l := by
  rw [List.mem_map]
  exact ⟨fun ⟨y, m, e⟩ => by have : y = x := by omega
                             rw [← this]; exact m, fun m => ⟨x, m, rfl⟩⟩
theorem fIn_nD {neg : Bool} {k : Rv → Prop} {l : List Nat} {x : Nat} (hl : l.length ≤ 300) (h : ∀ y ∈ l, y < 1000) (q : k (.sh (.bool (if neg then !decide (x ∈ l) else decide (x ∈ l))))) : fIn neg (.int ((x : Nat) : Int)) (.list (nD l)) k := by
  rw [nD_ints]
  refine fIn_ints (nD_few (m := 0) hl h) ?_
  have e : decide (((x : Nat) : Int) ∈ l.map fun (n : Nat) => (n : Int)) = decide (x ∈ l) := decide_eq_decide.mpr mem_cast
  rw [e]
  exact q
theorem ns_at {ns : List Int} {i : Nat} (h : i < ns.length) : atI (ns.map PyData.int) ((i : Nat) : Int) = some (.int ns[i]) := by
  rw [atI_n, List.getElem?_map, List.getElem?_eq_getElem h]; rfl
theorem rows_flat_le {f : Nat → Nat} {m k : Nat} (P : Pm.Prm f m) (hk : k ≤ m) : (Pm.rows f m k).flatten.length ≤ m := by
  have h := Pm.rows_part P k hk
  exact Pm.len_le_of_nodup m _ h.nd h.lt
theorem rows_k_le {f : Nat → Nat} {m : Nat} : ∀ k, (Pm.rows f m k).length ≤ k
  | 0 => Nat.le_refl _
  | k + 1 => by
    rw [Pm.rows_succ]
    unfold Pm.step
    have := rows_k_le (f := f) (m := m) k
    split
    · omega
    · rw [List.length_append]; simp; omega
theorem g_cycles_of {ns ms : List Int} (h : Sq ns) (h' : Sq ms) (p : ns.Perm ms) {P : Rv → Prop} (q : P (.fr (rD (Pm.rows (pf ns ms) ns.length ns.length)))) : G_cycles_of [tI ns, tI ms] P := by
  have hl := h.len
  have pr := pf_prm h p
  simp [G_cycles_of, dfN]
  refine ⟨by omega, ?_⟩
  have hidx0 : ∀ i (hi : i < ns.length), idxD (ms.map PyData.int) (.int ns[i]) = some (pf ns ms i) := fun i hi => by
    rw [idxD_ints (p.mem_iff.mp (List.getElem_mem hi)), pf_at hi]
  generalize hf : pf ns ms = f at *
  have hidx := hidx0
  refine loop_rng (fun k ρ => ∃ (s4 s5 s6 : Sl), ρ = [.sh (tI ns), .sh (tI ms), .ow (.lst (rD (Pm.rows f ns.length k))), .ow (.lst (nD (Pm.rows f ns.length k).flatten)), s4, s5, s6]) ⟨_, _, _, rfl⟩ ?_ ?_
  · rintro k ρ1 Q hk ⟨s4, s5, s6, rfl⟩ kQ
    have pk := Pm.rows_part pr k (by omega)
    have fl := rows_flat_le pr (show k ≤ ns.length by omega)
    simp
    refine fIn_nD (by omega) (fun y hy => by have := pk.lt y hy; omega) ?_
    simp
    refine wIf_of (fun c => ?_) fun c => ?_
    · have c' : k ∉ (Pm.rows f ns.length k).flatten := by simpa using c
      obtain ⟨p1, p2, p3⟩ := pr.per hk
      have hrow : Pm.rows f ns.length (k + 1) = Pm.rows f ns.length k ++ [Pm.orb f k (Pm.per f ns.length k)] := by
        rw [Pm.rows_succ]; unfold Pm.step; rw [if_neg c']
      simp [ns_at hk, hidx k hk]
      refine while_of (fun j ρ => ∃ n, n + j + 1 = Pm.per f ns.length k ∧ ρ = [.sh (tI ns), .sh (tI ms), .ow (.lst (rD (Pm.rows f ns.length k))), .ow (.lst (nD (Pm.rows f ns.length k).flatten)), .sh (.int k), .ow (.lst (nD (Pm.orb f k (n + 1)))), .sh (.int (Pm.it f (n + 1) k : Nat))])
        (Pm.per f ns.length k - 1) ⟨0, ?_, rfl⟩ ?_
      · have : 0 < Pm.per f ns.length k := Nat.succ_pos _
        omega
      · rintro j ρ ⟨n, hn, rfl⟩ Q' kk
        have itl := pr.it_lt hk (n + 1)
        simp
        refine wIf_ndec (fun b0 => ?_) fun b0 => ?_
        · have b' : Pm.it f (n + 1) k ≠ k := fun e => b0 (by rw [e])
          have hj : j ≠ 0 := fun e => b' (by rw [show n + 1 = Pm.per f ns.length k by omega]; exact p2)
          simp [ns_at itl, hidx _ itl]
          refine ⟨by rw [Pm.orb_len]; omega, kk (j - 1) (by omega) _ ⟨n + 1, by omega, ?_⟩⟩
          rw [nD_snoc, ← Pm.orb_succ]
          rfl
        · have b' : Pm.it f (n + 1) k = k := by omega
          have hj : j = 0 := Classical.byContradiction fun e => p3 (n + 1) (by omega) (by omega) b'
          have hn' : n + 1 = Pm.per f ns.length k := by omega
          rw [hn']
          have rk := rows_k_le (f := f) (m := ns.length) k
          refine ⟨by omega, by rw [Pm.orb_len]; simp at fl; omega, kQ _ ⟨.sh (.int k), .ow (.lst (nD (Pm.orb f k (Pm.per f ns.length k)))), .sh (.int (Pm.it f (Pm.per f ns.length k) k : Nat)), ?_⟩⟩
          rw [hrow, rD_snoc, nD_app]
          simp
    · have c' : k ∈ (Pm.rows f ns.length k).flatten := by simpa using c
      have hrow : Pm.rows f ns.length (k + 1) = Pm.rows f ns.length k := by
        rw [Pm.rows_succ]; unfold Pm.step; rw [if_pos c']
      exact kQ _ ⟨.sh (.int k), s5, s6, by rw [hrow]⟩
  · rintro ρ1 ⟨s4, s5, s6, rfl⟩
    simpa using q
end K28
namespace K28
open PySem Dv
open L2 (atI ixN)
theorem Sq.perm {ns ms : List Int} (h : Sq ns) (p : ns.Perm ms) : Sq ms := ⟨by rw [← p.length_eq]; exact h.len, p.nodup_iff.mp h.nd, fun x m => h.lo x (p.mem_iff.mpr m), fun x m => h.hi x (p.mem_iff.mpr m)⟩
def swp (ns : List Int) (i j : Nat) (x y : Int) : List Int := (ns.set i y).set j x
theorem ix_lt {n j : Nat} (h : j < n) : ixN n (j : Int) = some j := by
  unfold ixN
  rw [if_pos (by omega), if_pos (by omega)]; simp
theorem rngD_0 (m : Nat) : rngD 0 m = ((List.range m).map fun (i : Nat) => (i : Int)).map .int := by
  unfold rngD
  rw [List.map_map]
  refine List.map_congr_left fun i _ => ?_
  simp
theorem erase_perm {α : Type} : ∀ (l : List α) (k : Nat) (hk : k < l.length), (l[k] :: l.eraseIdx k).Perm l
  | x :: l, 0, _ => .refl _
  | x :: l, k + 1, hk => (List.Perm.swap x (l[k]'(by simpa using hk)) _).trans ((erase_perm l k (by simpa using hk)).cons x)
/-- one is taken out -/
theorem take_one {F L B : List Int} {k : Nat} (hk : k < L.length) (p : (F ++ L).Perm B) : ((F ++ [L[k]]) ++ L.eraseIdx k).Perm B := by
  refine List.Perm.trans ?_ p
  rw [List.append_assoc]
  exact List.Perm.append_left F (erase_perm L k hk)
theorem map_erase : ∀ (L : List Int) (k : Nat), (L.map PyData.int).eraseIdx k = (L.eraseIdx k).map .int
  | [], _ => rfl
  | _ :: _, 0 => rfl
  | x :: L, k + 1 => congrArg (PyData.int x :: ·) (map_erase L k)
theorem g__law_sequence {m : Nat} (hm : m ≤ 20) {P : Rv → Prop} (q : ∀ xs : List Int, xs.Perm ((List.range m).map fun (i : Nat) => (i : Int)) → P (.fr (xs.map .int))) : G__law_sequence [.int (m : Nat)] P := by
  simp [G__law_sequence, dfN]
  refine ⟨by omega, by omega, ?_⟩
  generalize hB : ((List.range m).map fun (i : Nat) => (i : Int)) = B at *
  have lB : B.length = m := by rw [← hB, List.length_map, List.length_range]
  have e0 : rngD 0 m = B.map PyData.int := by rw [rngD_0, hB]
  refine loop_rng (fun t ρ => ∃ (L F : List Int) (s : Sl), ρ = [.pot, .sh (.int (m : Nat)), .ow (.lst (L.map .int)), .ow (.lst (F.map .int)), s] ∧ (F ++ L).Perm B ∧ L.length + t = m) ⟨B, [], .un, by rw [← e0]; rfl, by simp, by omega⟩ ?_ ?_
  · rintro t ρ1 Q ht ⟨L, F, s, rfl, pB, hL⟩ kQ
    have pl := pB.length_eq
    rw [List.length_append] at pl
    simp
    refine g_draw (by omega) (by omega) fun i i0 i1 => ?_
    have hk : i.toNat < L.length := by omega
    have hi : ixN L.length i = some i.toNat := by
      have := ix_lt hk
      rwa [show ((i.toNat : Nat) : Int) = i by omega] at this
    simp [hi, List.getElem?_eq_getElem hk]
    refine ⟨by omega, by omega, ?_⟩
    have e1 : F.map PyData.int ++ [PyData.int L[i.toNat]] = (F ++ [L[i.toNat]]).map .int := by rw [List.map_append]; rfl
    rw [e1, map_erase]
    exact kQ _ ⟨_, _, _, rfl, take_one hk pB, by rw [List.length_eraseIdx_of_lt hk]; omega⟩
  · rintro ρ1 ⟨L, F, s, rfl, pB, hL⟩
    simp
    have : L = [] := List.eq_nil_of_length_eq_zero (by omega)
    subst this
    rw [List.append_nil] at pB
    exact q F pB
theorem g__law_counts {m : Nat} (hm : m ≤ 16) {P : Rv → Prop} (q : ∀ xs : List Int, Sq xs → xs.length = m → P (.sh (tI xs))) : G__law_counts [.int (m : Nat)] P := by
  simp [G__law_counts, dfN]
  refine ⟨by omega, ?_⟩
  generalize hB : ((List.range 16).map fun (i : Nat) => (i : Int)) = B
  have lB : B.length = 16 := by rw [← hB, List.length_map, List.length_range]
  have e0 : rngD 0 16 = B.map PyData.int := by rw [rngD_0, hB]
  refine lc_inv (fun t acc ρ => ∃ (L F : List Int), acc = F.map .int ∧ ρ = [.pot, .sh (.int (m : Nat)), .ow (.lst (L.map .int)), .un] ∧ (F ++ L).Perm B ∧ F.length = t) ⟨B, [], rfl, by rw [← e0], by simp, rfl⟩ ?_ ?_
  · rintro t d acc ρ1 Q hd ⟨L, F, rfl, rfl, pB, hF⟩ kQ
    have ht : t < m := by
      have := (List.getElem?_eq_some_iff.mp hd).1
      rwa [rngD_len] at this
    have pl := pB.length_eq
    rw [List.length_append] at pl
    simp
    refine g_draw (by omega) (by omega) fun i i0 i1 => ?_
    have hk : i.toNat < L.length := by omega
    have hi : ixN L.length i = some i.toNat := by
      have := ix_lt hk
      rwa [show ((i.toNat : Nat) : Int) = i by omega] at this
    simp [hi, List.getElem?_eq_getElem hk]
    refine ⟨by omega, by omega, ?_⟩
    have e1 : F.map PyData.int ++ [PyData.int L[i.toNat]] = (F ++ [L[i.toNat]]).map .int := by rw [List.map_append]; rfl
    rw [e1, map_erase]
    exact kQ _ _ ⟨_, _, rfl, rfl, take_one hk pB, by rw [List.length_append]; simp; omega⟩
  · rintro acc ρ1 ⟨L, F, rfl, rfl, pB, hF⟩
    rw [rngD_len] at hF
    have nB : B.Nodup := by
      rw [← hB]
      exact List.pairwise_map.mpr (List.nodup_range.imp fun h e => h (by omega))
    have nd := pB.nodup_iff.mpr nB
    have inB : ∀ x ∈ F, 0 ≤ x ∧ x < 16 := fun x mx => by
      have := pB.mem_iff.mp (List.mem_append_left _ mx)
      rw [← hB] at this
      obtain ⟨i, mi, rfl⟩ := List.mem_map.mp this
      have := List.mem_range.mp mi
      omega
    exact q F ⟨by omega, (List.nodup_append.mp nd).1, fun x m => (inB x m).1, fun x m => (inB x m).2⟩ hF
theorem atI_some {ns : List Int} {k : Int} (h0 : 0 ≤ k) (h : k < ns.length) : ∃ z, atI ns k = some z := by
  have e : k = ((k.toNat : Nat) : Int) := by omega
  rw [e, atI_n]
  exact ⟨_, List.getElem?_eq_getElem (by omega)⟩
theorem g__law_pot {ns : List Int} {k : Int} (h0 : 0 ≤ k) {P : Rv → Prop} (q : ∀ a b : Int, 0 ≤ a → 0 ≤ b → b < 2 ^ 62 → P (.fr [.int a, .int b])) : G__law_pot ns [.int k] P := by
  simp [G__law_pot, dfS]
  have fin : ∀ c x : Int, P (.fr [.int (if 1000000000000000000 < c then c - 1000000000000000000 else 0), .int (x % 2147483563 + 1)]) := fun c x => by
    have h1 := Int.emod_nonneg x (show (2147483563 : Int) ≠ 0 by omega)
    have h2 := Int.emod_lt_of_pos x (show (0 : Int) < 2147483563 by omega)
    refine q _ _ ?_ (by omega) (by omega)
    split <;> omega
  refine wIf_dec (fun c => ?_) fun c => fin _ _
  obtain ⟨z, hz⟩ := atI_some h0 c
  simp [hz]
  exact fin _ _
theorem idx_at {l : List Int} (nd : l.Nodup) {j : Nat} {x : Int} (h : l[j]? = some x) : l.idxOf x = j := by
  obtain ⟨hj, e⟩ := List.getElem?_eq_some_iff.mp h
  have m : x ∈ l := e ▸ List.getElem_mem hj
  have h1 := List.getElem_idxOf (List.idxOf_lt_length_iff.mpr m)
  exact nd_inj nd (hi := List.idxOf_lt_length_iff.mpr m) (hj := hj) (h1.trans e.symm)
theorem swp_perm {ms : List Int} {i j : Nat} (hi : i < ms.length) (hj : j < ms.length) : (swp ms i j ms[i] ms[j]).Perm ms := List.set_set_perm hi hj
theorem swp_len (ms : List Int) (i j : Nat) (x y : Int) : (swp ms i j x y).length = ms.length := by unfold swp; rw [List.length_set, List.length_set]
theorem idx_swp {ms : List Int} (nd : ms.Nodup) {i j : Nat} (hij : i < j) (hj : j < ms.length) {x : Int} (mx : x ∈ ms) : (swp ms i j (ms[i]'(by omega)) ms[j]).idxOf x = Pm.sw i j (ms.idxOf x) := by
  have hi : i < ms.length := by omega
  have nd2 : (swp ms i j ms[i] ms[j]).Nodup := (swp_perm hi hj).nodup_iff.mpr nd
  refine idx_at nd2 ?_
  have ha := List.idxOf_lt_length_iff.mpr mx
  have ea := List.getElem_idxOf ha
  generalize ms.idxOf x = a at ha ea
  unfold swp Pm.sw
  by_cases c1 : a = i
  · subst c1
    rw [if_pos rfl, List.getElem?_set_self (by rw [List.length_set]; exact hj), ea]
  · rw [if_neg c1]
    by_cases c2 : a = j
    · subst c2
      rw [if_pos rfl, List.getElem?_set, if_neg (by omega), List.getElem?_set_self hi, ea]
    · rw [if_neg c2, List.getElem?_set, if_neg (by omega), List.getElem?_set, if_neg (by omega), List.getElem?_eq_getElem ha, ea]
theorem places_swp {cs ms : List Int} (h : Sq ms) (p : cs.Perm ms) {i j : Nat} (hij : i < j) (hj : j < ms.length) : cs.map (swp ms i j (ms[i]'(by omega)) ms[j]).idxOf = (cs.map ms.idxOf).map (Pm.sw i j) := by
  rw [List.map_map]
  exact List.map_congr_left fun x mx => idx_swp h.nd hij hj (p.mem_iff.mp mx)
theorem inv_swp {cs ms : List Int} (hs : Sq cs) (p : cs.Perm ms) {i j : Nat} (hij : i < j) (hj : j < ms.length) : (Pm.inv (cs.map (swp ms i j (ms[i]'(by omega)) ms[j]).idxOf) + Pm.inv (cs.map ms.idxOf)) % 2 = 1 := by
  rw [places_swp (hs.perm p) p hij hj]
  have hm := (hs.perm p).nd
  have nd : (cs.map ms.idxOf).Nodup := by
    refine List.pairwise_map.mpr (List.Pairwise.imp_of_mem (fun {x y} mx my n e => n ?_) hs.nd)
    exact idx_inj (p.mem_iff.mp mx) (p.mem_iff.mp my) e
  have has : ∀ k, k < ms.length → k ∈ cs.map ms.idxOf := fun k hk => List.mem_map.mpr ⟨ms[k], p.mem_iff.mpr (List.getElem_mem hk), idx_at hm (List.getElem?_eq_getElem hk)⟩
  exact Pm.parity_sw hij nd (has i (by omega)) (has j hj)
theorem it_congr {f g : Nat → Nat} {m : Nat} (P : Pm.Prm f m) (e : ∀ x, x < m → f x = g x) {x : Nat} (hx : x < m) : ∀ k, Pm.it f k x = Pm.it g k x
  | 0 => rfl
  | k + 1 => by
    show f (Pm.it f k x) = g (Pm.it g k x)
    rw [← it_congr P e hx k]
    exact e _ (P.it_lt hx k)
theorem dec_congr {f g : Nat → Nat} {m : Nat} {R : List (List Nat)} (h : Pm.Dec f m R) (e : ∀ x, x < m → f x = g x) : Pm.Dec g m R := by
  refine ⟨fun r mr => ?_, h.all⟩
  have c := h.cyc r mr
  refine ⟨c.ne, ?_⟩
  rw [← c.eq]
  exact List.map_congr_left fun x mx => (e x (List.mem_range.mp (h.all.mem_iff.mp (List.mem_flatten.mpr ⟨r, mr, mx⟩)))).symm
theorem rows_swp {cs ms : List Int} (hs : Sq cs) (p : cs.Perm ms) {i j : Nat} (hij : i < j) (hj : j < ms.length) :
    (Pm.rows (pf cs (swp ms i j (ms[i]'(by omega)) ms[j])) cs.length cs.length).length = (Pm.rows (pf cs ms) cs.length cs.length).length + 1 ∨
    (Pm.rows (pf cs (swp ms i j (ms[i]'(by omega)) ms[j])) cs.length cs.length).length + 1 = (Pm.rows (pf cs ms) cs.length cs.length).length := by
  have hi : i < ms.length := by omega
  have pl : cs.Perm (swp ms i j ms[i] ms[j]) := p.trans (swp_perm hi hj).symm
  have P1 := pf_prm hs p
  have P2 := pf_prm hs pl
  have e : ∀ x, x < cs.length → Pm.sw i j (pf cs ms x) = pf cs (swp ms i j ms[i] ms[j]) x := fun x hx => by
    rw [pf_at hx, pf_at hx, idx_swp (hs.perm p).nd hij hj (p.mem_iff.mp (List.getElem_mem hx))]
  have P3 := P1.swap (v := i) (w := j) (by omega) (by rw [p.length_eq]; exact hi) (by rw [p.length_eq]; exact hj)
  have d := dec_congr (Pm.rows_dec P3) e
  have s := Pm.rows_swap P1 (v := i) (w := j) (by omega) (by rw [p.length_eq]; exact hi) (by rw [p.length_eq]; exact hj)
  rw [(Pm.rows_dec P2).count, ← d.count]
  exact s
end K28
namespace Pm
/-! pairs, counted -/
def ds {α : Type} (l k : List α) (w : α → α → Nat) : Nat := (l.map fun x => (k.map fun y => w x y).sum).sum
variable {α : Type}
theorem sum_add (l : List α) (u v : α → Nat) : (l.map fun x => u x + v x).sum = (l.map u).sum + (l.map v).sum := by
  induction l with
  | nil => rfl
  | cons a l ih => simp only [List.map_cons, List.sum_cons, ih]; omega
theorem sum_congr {l : List α} {u v : α → Nat} (h : ∀ x ∈ l, u x = v x) : (l.map u).sum = (l.map v).sum := by rw [List.map_congr_left h]
theorem ds_add (l k : List α) (w v : α → α → Nat) : ds l k (fun x y => w x y + v x y) = ds l k w + ds l k v := by
  unfold ds
  rw [← sum_add]
  exact sum_congr fun x _ => sum_add k _ _
theorem ds_congr {l k : List α} {w v : α → α → Nat} (h : ∀ x ∈ l, ∀ y ∈ k, w x y = v x y) : ds l k w = ds l k v := sum_congr fun x mx => sum_congr fun y my => h x mx y my
theorem sum_zero (l : List α) : (l.map fun _ => 0).sum = 0 := by
  induction l with
  | nil => rfl
  | cons a l ih => simp [ih]
theorem ds_swap (l k : List α) (w : α → α → Nat) : ds l k w = ds k l fun y x => w x y := by
  induction l with
  | nil => unfold ds; simp [sum_zero]
  | cons a l ih =>
    have : ds k (a :: l) (fun y x => w x y) = (k.map fun y => w a y).sum + ds k l fun y x => w x y := by
      unfold ds
      rw [← sum_add]
      exact sum_congr fun y _ => by simp
    rw [this, ← ih]
    unfold ds
    simp
theorem sum_perm {l l' : List Nat} (p : l.Perm l') : l.sum = l'.sum := p.sum_nat
theorem ds_perm {l l' : List α} (p : l.Perm l') (w : α → α → Nat) : ds l l w = ds l' l' w := by
  unfold ds
  rw [sum_perm (p.map _)]
  exact sum_congr fun x _ => sum_perm (p.map _)
theorem sum_even {l : List α} {u : α → Nat} (h : ∀ x ∈ l, u x % 2 = 0) : (l.map u).sum % 2 = 0 := by
  induction l with
  | nil => rfl
  | cons a l ih =>
    have h1 := h a List.mem_cons_self
    have h2 := ih fun x m => h x (List.mem_cons_of_mem _ m)
    rw [List.map_cons, List.sum_cons]
    omega
theorem ds_even {l k : List α} {w : α → α → Nat} (h : ∀ x ∈ l, ∀ y ∈ k, w x y % 2 = 0) : ds l k w % 2 = 0 := sum_even fun x mx => sum_even fun y my => h x mx y my
theorem countP_sum (l : List α) (q : α → Bool) : l.countP q = (l.map fun y => if q y = true then 1 else 0).sum := by
  induction l with
  | nil => rfl
  | cons a l ih => rw [cnt_cons', ih, List.map_cons, List.sum_cons, Nat.add_comm]
where cnt_cons' {q : α → Bool} {x : α} {xs : List α} : (x :: xs).countP q = xs.countP q + if q x = true then 1 else 0 := List.countP_cons
/-- a turned pair -/
def tu (f g : α → Nat) (x y : α) : Nat := if f x < f y ∧ g y < g x then 1 else 0
theorem inv_ds {f g : α → Nat} : ∀ {l : List α}, l.Pairwise (fun x y => f x < f y) → inv (l.map g) = ds l l (tu f g)
  | [], _ => rfl
  | a :: t, h => by
    obtain ⟨h1, h2⟩ := List.pairwise_cons.mp h
    have e0 : ds (a :: t) (a :: t) (tu f g) = (t.map fun y => tu f g a y).sum + ds t t (tu f g) := by
      unfold ds
      rw [List.map_cons, List.sum_cons, List.map_cons, List.sum_cons]
      have z : tu f g a a = 0 := by unfold tu; rw [if_neg (by omega)]
      rw [z, Nat.zero_add]
      congr 1
      refine sum_congr fun x mx => ?_
      have z : tu f g x a = 0 := by unfold tu; rw [if_neg (by have := h1 x mx; omega)]
      rw [List.map_cons, List.sum_cons, z, Nat.zero_add]
    rw [e0, ← inv_ds h2]
    show (t.map g).countP _ + inv (t.map g) = _
    rw [List.countP_map, countP_sum]
    congr 1
    refine sum_congr fun y my => ?_
    unfold tu
    have := h1 y my
    simp [this]
/-- the other way about -/
theorem tu_swap (l : List α) (f g : α → Nat) : ds l l (tu g f) = ds l l (tu f g) := by
  rw [ds_swap]
  refine ds_congr fun x _ y _ => ?_
  unfold tu
  congr 1
  exact propext And.comm
/-- one order behind another -/
theorem tu_par {l : List α} {f g h : α → Nat} (hf : ∀ x ∈ l, ∀ y ∈ l, f x = f y → x = y) (hg : ∀ x ∈ l, ∀ y ∈ l, g x = g y → x = y) (hh : ∀ x ∈ l, ∀ y ∈ l, h x = h y → x = y) :
    (ds l l (tu f g) + ds l l (tu g h) + ds l l (tu f h)) % 2 = 0 := by
  have e1 : ds l l (tu g h) = ds l l (fun x y => if f x < f y ∧ g x < g y ∧ h y < h x then 1 else 0) + ds l l (fun x y => if f y < f x ∧ g x < g y ∧ h y < h x then 1 else 0) := by
    rw [← ds_add]
    refine ds_congr fun x mx y my => ?_
    unfold tu
    by_cases e : f x = f y
    · have := hf x mx y my e
      subst this
      simp
    · split <;> split <;> split <;> omega
  rw [e1, ds_swap l l (fun x y => if f y < f x ∧ g x < g y ∧ h y < h x then 1 else 0), ← ds_add, ← ds_add, ← ds_add]
  refine ds_even fun x mx y my => ?_
  unfold tu
  by_cases e : x = y
  · subst e; simp
  · have n1 : g x ≠ g y := fun z => e (hg x mx y my z)
    have n2 : h x ≠ h y := fun z => e (hh x mx y my z)
    split <;> split <;> split <;> split <;> omega
end Pm
namespace Pm
theorem Dec.len_eq {f : Nat → Nat} {m : Nat} {R R' : List (List Nat)} (h : Dec f m R) (h' : Dec f m R') : R.length = R'.length := by rw [h.count, h'.count]
theorem cyc_head {f : Nat → Nat} {x : Nat} {xs : List Nat} : Cyc f (x :: xs) ↔ (x :: xs).map f = xs ++ [x] := ⟨fun h => h.eq, fun h => ⟨by simp, h⟩⟩
/-- one value is put in its place: one cycle more -/
theorem Dec.split {g : Nat → Nat} {m v w : Nat} {R : List (List Nat)} (h : Dec g m R) (hv : v < m) (e : g v = w) (n : v ≠ w) : ∃ R', Dec (fun x => sw v w (g x)) m R' ∧ R'.length = R.length + 1 := by
  have nd : R.flatten.Nodup := h.all.nodup_iff.mpr List.nodup_range
  have mv : v ∈ R.flatten := h.all.mem_iff.mpr (List.mem_range.mpr hv)
  obtain ⟨r, mr, pr⟩ := List.mem_flatten.mp mv
  obtain ⟨A, B, rfl⟩ := List.append_of_mem mr
  obtain ⟨a, b, hr⟩ := List.append_of_mem pr
  have c0 : Cyc g ((v :: b) ++ a) := cyc_rot (by rw [← hr]; exact h.cyc r mr)
  have ps : ((v :: b) ++ a).Perm r := by rw [hr]; exact List.perm_append_comm
  generalize hs : b ++ a = s at *
  have c1 : Cyc g (v :: s) := by rw [← hs]; exact c0
  have p1 : (v :: s).Perm r := by rw [← hs]; exact ps
  have q := cyc_head.mp c1
  cases s with
  | nil =>
    have : g v = v := by simpa using q
    exact absurd (this.symm.trans e) n
  | cons w' t =>
    have q' : g v :: (w' :: t).map g = w' :: (t ++ [v]) := q
    obtain ⟨q1, q2⟩ := List.cons.inj q'
    have ew : w' = w := q1.symm.trans e
    subst ew
    have pf1 : (A ++ r :: B).flatten.Perm ((v :: w' :: t) ++ (A ++ B).flatten) := (flat_out A B r).trans (p1.symm.append_right _)
    have nd2 := pf1.nodup_iff.mp nd
    obtain ⟨n1, n2, n3⟩ := List.nodup_append.mp nd2
    obtain ⟨nv, n4⟩ := List.nodup_cons.mp n1
    obtain ⟨nw, n5⟩ := List.nodup_cons.mp n4
    have nvt : v ∉ t := fun z => nv (List.mem_cons_of_mem _ z)
    have keep : ∀ {x}, x ≠ v → x ≠ w' → sw v w' x = x := fun {x} a1 a2 => by unfold sw; rw [if_neg a1, if_neg a2]
    have swv : sw v w' v = w' := by unfold sw; rw [if_pos rfl]
    have sww : sw v w' w' = v := by
      unfold sw
      by_cases z : w' = v
      · rw [if_pos z]; exact z
      · rw [if_neg z, if_pos rfl]
    refine ⟨[v] :: (w' :: t) :: (A ++ B), ⟨fun r' mr' => ?_, ?_⟩, by simp; omega⟩
    · rcases List.mem_cons.mp mr' with z | mr'
      · subst z
        refine cyc_head.mpr ?_
        show [sw v w' (g v)] = [v]
        rw [e, sww]
      · rcases List.mem_cons.mp mr' with z | mr'
        · subst z
          refine cyc_head.mpr ?_
          have : (w' :: t).map (fun x => sw v w' (g x)) = ((w' :: t).map g).map (sw v w') := by rw [List.map_map]; rfl
          rw [this, q2, List.map_append]
          have k : t.map (sw v w') = t := by
            conv => rhs; rw [← List.map_id t]
            exact List.map_congr_left fun x mx => keep (fun z => nvt (z ▸ mx)) fun z => nw (z ▸ mx)
          rw [k]
          show t ++ [sw v w' v] = _
          rw [swv]
        · have mr0 : r' ∈ A ++ r :: B := by
            rcases List.mem_append.mp mr' with z | z
            · exact List.mem_append_left _ z
            · exact List.mem_append_right _ (List.mem_cons_of_mem _ z)
          have c := h.cyc r' mr0
          refine ⟨c.ne, ?_⟩
          rw [← c.eq]
          refine List.map_congr_left fun x mx => ?_
          have mg := cyc_closed c mx
          have mf : g x ∈ (A ++ B).flatten := List.mem_flatten.mpr ⟨r', mr', mg⟩
          exact keep (fun z => n3 v List.mem_cons_self _ mf z.symm) fun z => n3 w' (List.mem_cons_of_mem _ List.mem_cons_self) _ mf z.symm
    · refine List.Perm.trans ?_ h.all
      refine List.Perm.trans ?_ pf1.symm
      exact List.Perm.refl _
/-- turned about -/
def flip (r : List Nat) : List Nat := r.take 1 ++ (r.drop 1).reverse
theorem flip_perm (r : List Nat) : (flip r).Perm r := by
  cases r with
  | nil => exact .refl _
  | cons x xs => exact (List.reverse_perm xs).cons x
theorem flat_flip : ∀ R : List (List Nat), (R.map flip).flatten.Perm R.flatten
  | [] => .refl _
  | r :: R => (flip_perm r).append (flat_flip R)
theorem Dec.inv {f g : Nat → Nat} {m : Nat} {R : List (List Nat)} (h : Dec f m R) (e : ∀ x, x < m → g (f x) = x) : Dec g m (R.map flip) := by
  refine ⟨fun r mr => ?_, (flat_flip R).trans h.all⟩
  obtain ⟨r0, m0, rfl⟩ := List.mem_map.mp mr
  have c := h.cyc r0 m0
  have lt : ∀ x ∈ r0, x < m := fun x mx => List.mem_range.mp (h.all.mem_iff.mp (List.mem_flatten.mpr ⟨r0, m0, mx⟩))
  cases r0 with
  | nil => exact absurd rfl c.ne
  | cons x xs =>
    have q := cyc_head.mp c
    have k := congrArg (List.map g) q
    have k0 : (x :: xs).map (g ∘ f) = (x :: xs).map id := List.map_congr_left fun y my => e y (lt y my)
    rw [List.map_map, k0, List.map_id, List.map_append] at k
    have k2 := congrArg List.reverse k
    show Cyc g (x :: xs.reverse)
    refine cyc_head.mpr ?_
    rw [List.reverse_append] at k2
    simp at k2
    simpa using k2.symm
theorem dec_id {f : Nat → Nat} {m : Nat} (e : ∀ x, x < m → f x = x) : Dec f m ((List.range m).map fun i => [i]) := by
  refine ⟨fun r mr => ?_, ?_⟩
  · obtain ⟨i, mi, rfl⟩ := List.mem_map.mp mr
    refine cyc_head.mpr ?_
    show [f i] = [i]
    rw [e i (List.mem_range.mp mi)]
  · have : ∀ l : List Nat, (l.map fun i => [i]).flatten = l := fun l => by
      induction l with
      | nil => rfl
      | cons a l ih => rw [List.map_cons, List.flatten_cons, ih]; rfl
    rw [this]
end Pm
namespace K28
open PySem Dv
open L2 (atI ixN)
theorem idx_sorted {l : List Int} (nd : l.Nodup) : l.Pairwise fun x y => l.idxOf x < l.idxOf y := by
  refine List.pairwise_iff_getElem.mpr fun i j hi hj hij => ?_
  rw [idx_at nd (List.getElem?_eq_getElem hi), idx_at nd (List.getElem?_eq_getElem hj)]
  exact hij
theorem inv_tu {ns ms : List Int} (nd : ns.Nodup) : Pm.inv (ns.map ms.idxOf) = Pm.ds ns ns (Pm.tu ns.idxOf ms.idxOf) := Pm.inv_ds (idx_sorted nd)
theorem inv_sym {ns ms : List Int} (nd : ns.Nodup) (p : ns.Perm ms) : Pm.inv (ms.map ns.idxOf) = Pm.inv (ns.map ms.idxOf) := by
  rw [inv_tu nd, inv_tu (p.nodup_iff.mp nd), ← Pm.ds_perm p, Pm.tu_swap]
theorem inv_par {cs ns ms : List Int} (nd : cs.Nodup) (p : cs.Perm ns) (p2 : cs.Perm ms) : (Pm.inv (cs.map ns.idxOf) + Pm.inv (ns.map ms.idxOf) + Pm.inv (cs.map ms.idxOf)) % 2 = 0 := by
  rw [inv_tu nd, inv_tu (p.nodup_iff.mp nd), inv_tu nd, ← Pm.ds_perm p]
  exact Pm.tu_par (fun x mx y my e => idx_inj mx my e) (fun x mx y my e => idx_inj (p.mem_iff.mp mx) (p.mem_iff.mp my) e) fun x mx y my e => idx_inj (p2.mem_iff.mp mx) (p2.mem_iff.mp my) e
theorem inv_self {cs : List Int} (nd : cs.Nodup) : Pm.inv (cs.map cs.idxOf) = 0 := by
  rw [inv_tu nd]
  have : Pm.ds cs cs (Pm.tu cs.idxOf cs.idxOf) = Pm.ds cs cs fun _ _ => 0 := Pm.ds_congr fun x _ y _ => by unfold Pm.tu; rw [if_neg (by omega)]
  rw [this]
  unfold Pm.ds
  simp [Pm.sum_zero]
/-- how many cycles -/
def cyc (ns ms : List Int) : Nat := (Pm.rows (pf ns ms) ns.length ns.length).length
theorem cyc_of {ns ms : List Int} (h : Sq ns) (p : ns.Perm ms) {f : Nat → Nat} {R : List (List Nat)} (d : Pm.Dec f ns.length R) (e : ∀ x, x < ns.length → f x = pf ns ms x) : cyc ns ms = R.length :=
  (Pm.rows_dec (pf_prm h p)).len_eq (dec_congr d e)
theorem pf_inv {ns ms : List Int} (h : Sq ns) (p : ns.Perm ms) {x : Nat} (hx : x < ns.length) : pf ms ns (pf ns ms x) = x := by
  have lt : pf ns ms x < ms.length := by rw [← p.length_eq]; exact (pf_prm h p).lt x hx
  rw [pf_at lt]
  have e : ms[pf ns ms x] = ns[x] := by
    have m := p.mem_iff.mp (List.getElem_mem hx)
    have g := List.getElem_idxOf (List.idxOf_lt_length_iff.mpr m)
    have e2 := pf_at (ms := ms) hx
    simp only [e2]
    exact g
  rw [e]
  exact idx_at h.nd (List.getElem?_eq_getElem hx)
theorem cyc_sym {ns ms : List Int} (h : Sq ns) (p : ns.Perm ms) : cyc ms ns = cyc ns ms := by
  have d := (Pm.rows_dec (pf_prm h p)).inv (g := pf ms ns) fun x hx => pf_inv h p hx
  have := cyc_of (h.perm p) p.symm (f := pf ms ns) (by rw [← p.length_eq]; exact d) fun _ _ => rfl
  rw [this, List.length_map]
  rfl
theorem cyc_self {ns : List Int} (h : Sq ns) : cyc ns ns = ns.length := by
  have d : Pm.Dec (pf ns ns) ns.length _ := Pm.dec_id fun x hx => by rw [pf_at hx]; exact idx_at h.nd (List.getElem?_eq_getElem hx)
  rw [cyc_of h (.refl _) d fun _ _ => rfl, List.length_map, List.length_range]
/-- one place put right -/
theorem cyc_step {os hs : List Int} (ho : Sq os) (p : os.Perm hs) {i j : Nat} (hij : i < j) (hj : j < hs.length) (e : os[i]? = hs[j]?) : cyc os (swp hs i j (hs[i]'(by omega)) hs[j]) = cyc os hs + 1 := by
  have hi : i < hs.length := by omega
  have pl : os.Perm (swp hs i j hs[i] hs[j]) := p.trans (swp_perm hi hj).symm
  have lo := p.length_eq
  have hio : i < os.length := by omega
  have eg : pf os hs i = j := by
    rw [pf_at hio]
    have : hs[j]? = some os[i] := by rw [← e]; exact List.getElem?_eq_getElem hio
    exact idx_at (ho.perm p).nd this
  obtain ⟨R', d, l⟩ := (Pm.rows_dec (pf_prm ho p)).split hio eg (by omega)
  rw [cyc_of ho pl d fun x hx => ?_, l]
  · rfl
  · show Pm.sw i j (pf os hs x) = _
    rw [pf_at hx, pf_at hx, idx_swp (ho.perm p).nd hij hj (p.mem_iff.mp (List.getElem_mem hx))]
end K28
namespace K28
open PySem Dv
open L2 (atI ixN)
/-- exchanges, done one behind the other -/
def one (l : List Int) (p : Nat × Nat) : List Int := swp l p.1 p.2 (l.getD p.1 0) (l.getD p.2 0)
def run (ns : List Int) (L : List (Nat × Nat)) : List Int := L.foldl one ns
def Ok (m : Nat) (L : List (Nat × Nat)) : Prop := ∀ p ∈ L, p.1 < p.2 ∧ p.2 < m
theorem run_snoc (ns : List Int) (L : List (Nat × Nat)) (p : Nat × Nat) : run ns (L ++ [p]) = one (run ns L) p := by unfold run; rw [List.foldl_append]; rfl
theorem one_eq {l : List Int} {p : Nat × Nat} (h1 : p.1 < l.length) (h2 : p.2 < l.length) : one l p = swp l p.1 p.2 l[p.1] l[p.2] := by
  unfold one
  rw [List.getD_eq_getElem?_getD, List.getD_eq_getElem?_getD, List.getElem?_eq_getElem h1, List.getElem?_eq_getElem h2]; rfl
theorem one_perm {l : List Int} {p : Nat × Nat} (h1 : p.1 < l.length) (h2 : p.2 < l.length) : (one l p).Perm l := by rw [one_eq h1 h2]; exact swp_perm h1 h2
theorem run_perm : ∀ (L : List (Nat × Nat)) {ns : List Int}, Ok ns.length L → (run ns L).Perm ns
  | [], ns, _ => .refl _
  | p :: L, ns, h => by
    have hp := h p List.mem_cons_self
    have h1 := one_perm (l := ns) (p := p) (by omega) hp.2
    show (run (one ns p) L).Perm ns
    exact (run_perm L fun q m => by rw [h1.length_eq]; exact h q (List.mem_cons_of_mem _ m)).trans h1
theorem tD_get {L : List (Nat × Nat)} {i : Nat} {d : D} (h : (tD L)[i]? = some d) : ∃ p, L[i]? = some p ∧ d = pD p := by
  unfold tD at h
  rw [List.getElem?_map] at h
  obtain ⟨p, hp, rfl⟩ := Option.map_eq_some_iff.mp h
  exact ⟨p, hp, rfl⟩
theorem take_snoc {α : Type} {L : List α} {i : Nat} {p : α} (h : L[i]? = some p) : L.take (i + 1) = L.take i ++ [p] := by
  rw [List.take_add_one, h]; rfl
theorem ok_take {m : Nat} {L : List (Nat × Nat)} (h : Ok m L) (i : Nat) : Ok m (L.take i) := fun p mp => h p (List.mem_of_mem_take mp)
theorem set_dat {l : List Int} {i j : Nat} (hi : i < l.length) (hj : j < l.length) : ((l.map PyData.int).set i (.int l[j])).set j (.int l[i]) = (swp l i j l[i] l[j]).map .int := by
  unfold swp
  rw [List.map_set, List.map_set]
theorem g_exchanged_by {ns : List Int} (h : Sq ns) {L : List (Nat × Nat)} (ok : Ok ns.length L) (hL : L.length ≤ 300) {P : Rv → Prop} (q : P (.sh (tI (run ns L)))) : G_exchanged_by [tI ns, .tuple (tD L)] P := by
  have hl := h.len
  simp [G_exchanged_by, dfN]
  refine loop_inv (fun k ρ => ∃ (s t : Sl), ρ = [.sh (tI ns), .sh (.tuple (tD L)), .ow (.lst ((run ns (L.take k)).map .int)), s, t]) ⟨.un, .un, by simp [run]⟩ ?_ ?_
  · rintro i d ρ1 Q hd ⟨s, t, rfl⟩ k
    obtain ⟨p, hp, rfl⟩ := tD_get hd
    obtain ⟨o1, o2⟩ := ok p (List.mem_of_getElem? hp)
    have lr := (run_perm (L.take i) (ok_take ok i)).length_eq
    rw [take_snoc hp, run_snoc] at k
    generalize run ns (L.take i) = r at k lr ⊢
    have h1 : p.1 < r.length := by omega
    have h2 : p.2 < r.length := by omega
    rw [one_eq h1 h2] at k
    simp [pD, ns_at h1, ns_at h2, ix_lt h1, ix_lt h2]
    rw [set_dat h1 h2]
    exact k _ ⟨_, _, rfl⟩
  · rintro ρ1 ⟨s, t, rfl⟩
    rw [tD_len, List.take_length]
    simpa using q
theorem g__law_done {ns : List Int} (h : Sq ns) {L : List (Nat × Nat)} (ok : Ok ns.length L) {d : D} (hd : d = .tuple (tD L) ∨ d = .list (tD L)) {P : Rv → Prop} (q : P (.sh (tI (run ns L)))) : G__law_done [tI ns, d] P := by
  have hl := h.len
  rcases hd with hd | hd <;> subst hd <;> simp [G__law_done, dfN]
  all_goals
    refine loop_inv (fun k ρ => ∃ (e : D) (s t : Sl), ρ = [.sh (tI ns), .sh e, .ow (.lst ((run ns (L.take k)).map .int)), s, t]) ⟨_, .un, .un, by simp [run]; rfl⟩ ?_ ?_
    · rintro i d ρ1 Q hd ⟨e, s, t, rfl⟩ k
      obtain ⟨p, hp, rfl⟩ := tD_get hd
      obtain ⟨o1, o2⟩ := ok p (List.mem_of_getElem? hp)
      have lr := (run_perm (L.take i) (ok_take ok i)).length_eq
      rw [take_snoc hp, run_snoc] at k
      generalize run ns (L.take i) = r at k lr ⊢
      have h1 : p.1 < r.length := by omega
      have h2 : p.2 < r.length := by omega
      rw [one_eq h1 h2] at k
      simp [pD, ns_at h1, ns_at h2, ix_lt h1, ix_lt h2]
      rw [set_dat h1 h2]
      exact k _ ⟨_, _, _, rfl⟩
    · rintro ρ1 ⟨e, s, t, rfl⟩
      rw [tD_len, List.take_length]
      simpa using q
end K28
namespace K28
open PySem Dv
open L2 (atI ixN)
theorem g_is_row2 (d e : D) (P : Rv → Prop) : G_is_row [.tuple [d, e], .int 2] P = P (.sh (.bool true)) := by
  simp [G_is_row, dfN]
theorem g_is_exchange {ns : List Int} {i j : Nat} (hij : i < j) (hj : j < ns.length) {P : Rv → Prop} (q : P (.sh (.bool true))) : G_is_exchange [tI ns, .tuple [.int (i : Nat), .int (j : Nat)]] P := by
  simp [G_is_exchange, dfN, g_is_row2, mLcGo, g_is_below]
  have h1 : i < ns.length := by omega
  simp [h1, hj, hij]
  exact q
theorem g_are_exchanges {ns : List Int} {L : List (Nat × Nat)} (ok : Ok ns.length L) (hL : L.length ≤ 200) {P : Rv → Prop} (q : P (.sh (.bool true))) : G_are_exchanges [tI ns, .tuple (tD L)] P := by
  simp [G_are_exchanges, dfN]
  refine wIf_dec (fun hp => by omega) fun _ => ?_
  refine lc_map (fun _ => .bool true) (by rw [tD_len]; omega) (fun i d acc Q hd hz k => ?_) ?_
  · obtain ⟨p, hp, rfl⟩ := tD_get hd
    obtain ⟨o1, o2⟩ := ok p (List.mem_of_getElem? hp)
    simp [pD]
    refine g_is_exchange o1 o2 ?_
    simp [hz]
    exact k
  · have e : (List.range (tD L).length).map (fun _ => PyData.bool true) = (List.replicate L.length true).map .bool := by
      rw [List.map_const', List.length_range, tD_len, List.map_replicate]
    rw [e]
    simp
    exact q
theorem g_exchanged {ns : List Int} (h : Sq ns) {L : List (Nat × Nat)} (ok : Ok ns.length L) (hL : L.length ≤ 200) {P : Rv → Prop} (q : P (.sh (tI (run ns L)))) : G_exchanged [tI ns, .tuple (tD L)] P := by
  simp [G_exchanged, dfN]
  refine g_want_sequence h ?_
  simp
  refine g_are_exchanges ok hL ?_
  simp
  refine g_exchanged_by h ok (by omega) ?_
  simp
  exact q
theorem g_turned_pairs {ns ms : List Int} (h : Sq ns) (p : ns.Perm ms) {P : Rv → Prop} (q : P (.fr (tD (tp ns ms)))) : G_turned_pairs [tI ns, tI ms] P := by
  simp [G_turned_pairs, dfN]
  refine g_want_both h (h.perm p) p ?_
  simp
  refine g_turned_of h (h.perm p) (fun x m => p.mem_iff.mp m) ?_
  simp
  exact q
theorem g_is_even {ns ms : List Int} (h : Sq ns) (p : ns.Perm ms) {P : Rv → Prop} (q : P (.sh (.bool (decide (Pm.inv (ns.map ms.idxOf) % 2 = 0))))) : G_is_even [tI ns, tI ms] P := by
  simp [G_is_even, dfN]
  refine g_want_both h (h.perm p) p ?_
  simp [G_is_even_order, dfN]
  refine g_turned_of h (h.perm p) (fun x m => p.mem_iff.mp m) ?_
  simp [tp_len]
  have e : decide (((Pm.inv (ns.map ms.idxOf) : Nat) : Int) % 2 = 0) = decide (Pm.inv (ns.map ms.idxOf) % 2 = 0) := decide_eq_decide.mpr (by omega)
  rw [e]
  exact q
theorem g_fewest_exchanges {ns ms : List Int} (h : Sq ns) (p : ns.Perm ms) {P : Rv → Prop} (q : P (.sh (.int ((ns.length : Int) - (cyc ns ms : Int))))) : G_fewest_exchanges [tI ns, tI ms] P := by
  simp [G_fewest_exchanges, dfN]
  refine g_want_both h (h.perm p) p ?_
  simp
  refine g_cycles_of h (h.perm p) p ?_
  simp
  exact q
/-- the told exchanges: each place put right -/
structure Led (cs os : List Int) (k : Nat) (L : List (Nat × Nat)) : Prop where
  ok : Ok cs.length L
  eq : ∀ i, i < k → os[i]? = (run cs L)[i]?
  cnt : cyc os (run cs L) = cyc os cs + L.length
  par : (Pm.inv (os.map (run cs L).idxOf) + Pm.inv (os.map cs.idxOf) + L.length) % 2 = 0
  few : L.length ≤ k
theorem Led.zero (cs os : List Int) : Led cs os 0 [] := ⟨fun _ m => (nomatch m), fun i h => absurd h (Nat.not_lt_zero _), rfl, by show (Pm.inv (os.map cs.idxOf) + Pm.inv (os.map cs.idxOf) + 0) % 2 = 0; omega, Nat.le_refl _⟩
end K28
namespace Dv
open PySem PySem.Spec L2
@[simp ↓] theorem mIdxL_ap {ma mb : ME} {ρ : En} {P : Rv → En → Prop} : mIdxL ma mb ρ P = ma ρ fun r ρ1 => wS (r.dat ρ1) fun d0 => wLs d0 fun _ => mb ρ1 fun r2 ρ2 => wS (r.dat ρ2) fun d1 => wLs d1 fun ds => wSh r2 fun d => flatD d = true ∧ ds.all flatD = true ∧ wS (idxD ds d) fun j => P (.sh (.int (j : Nat))) ρ2 := by
  have key : ∀ (r r2 : Rv) (ρ2 : En), (∃ ds d j, r.dat ρ2 = some (.list ds) ∧ r2 = .sh d ∧ flatD d = true ∧ ds.all flatD = true ∧ idxD ds d = some j ∧ P (.sh (.int (j : Nat))) ρ2) =
      wS (r.dat ρ2) fun d1 => wLs d1 fun ds => wSh r2 fun d => flatD d = true ∧ ds.all flatD = true ∧ wS (idxD ds d) fun j => P (.sh (.int (j : Nat))) ρ2 := fun r r2 ρ2 => by
    unfold wS wLs wSh
    exact propext ⟨fun ⟨ds, d, j, e, e2, a, b, c, h⟩ => ⟨_, e, ds, rfl, d, e2, a, b, j, c, h⟩, fun ⟨_, e, ds, e0, d, e2, a, b, j, c, h⟩ => ⟨ds, d, j, e.trans (by rw [e0]), e2, a, b, c, h⟩⟩
  unfold mIdxL
  congr; funext r ρ1
  have k2 : (fun (r2 : Rv) (ρ2 : En) => ∃ ds d j, r.dat ρ2 = some (.list ds) ∧ r2 = .sh d ∧ flatD d = true ∧ ds.all flatD = true ∧ idxD ds d = some j ∧ P (.sh (.int (j : Nat))) ρ2) = fun r2 ρ2 => wS (r.dat ρ2) fun d1 => wLs d1 fun ds => wSh r2 fun d => flatD d = true ∧ ds.all flatD = true ∧ wS (idxD ds d) fun j => P (.sh (.int (j : Nat))) ρ2 :=
    funext fun r2 => funext fun ρ2 => key r r2 ρ2
  rw [k2]
  conv => rhs; unfold wS wLs
  exact propext ⟨fun ⟨⟨ds, e⟩, h⟩ => ⟨_, e, ds, rfl, h⟩, fun ⟨_, e, ds, e0, h⟩ => ⟨⟨ds, e.trans (by rw [e0])⟩, h⟩⟩
end Dv
namespace K28
open PySem Dv
open L2 (atI ixN)
theorem Led.stay {cs os : List Int} {k : Nat} {L : List (Nat × Nat)} (l : Led cs os k L) (e : os[k]? = (run cs L)[k]?) : Led cs os (k + 1) L :=
  ⟨l.ok, fun i hi => by
    by_cases z : i = k
    · rw [z]; exact e
    · exact l.eq i (by omega), l.cnt, l.par, by have := l.few; omega⟩
theorem Led.go {cs os : List Int} (ho : Sq os) (p : os.Perm cs) {k j : Nat} {L : List (Nat × Nat)} (l : Led cs os k L) (hkj : k < j) (hj : j < cs.length) (e : os[k]? = (run cs L)[j]?) : Led cs os (k + 1) (L ++ [(k, j)]) := by
  have rp := run_perm L l.ok
  have lr := rp.length_eq
  have po : os.Perm (run cs L) := p.trans rp.symm
  have er := run_snoc cs L (k, j)
  rw [one_eq (show k < (run cs L).length by omega) (show j < (run cs L).length by omega)] at er
  have c := cyc_step ho po hkj (by omega) e
  have v := inv_swp ho po hkj (show j < (run cs L).length by omega)
  have l1 := l.par
  have l2 := l.cnt
  have l3 := l.eq
  have l4 := l.few
  refine ⟨fun q mq => ?_, fun i hi => ?_, ?_, ?_, ?_⟩
  · rcases List.mem_append.mp mq with z | z
    · exact l.ok q z
    · rw [List.mem_singleton.mp z]; exact ⟨hkj, hj⟩
  · rw [er]
    unfold swp
    rw [List.getElem?_set, List.getElem?_set]
    have n1 : ¬ j = i := by omega
    rw [if_neg n1]
    by_cases z : k = i
    · rw [if_pos z, if_pos (by omega), ← z, e]
      exact List.getElem?_eq_getElem (show j < (run cs L).length by omega)
    · rw [if_neg z]; exact l3 i (by omega)
  · rw [er, c, l2, List.length_append]
    simp; omega
  · rw [er, List.length_append]
    simp only [List.length_singleton]
    omega
  · rw [List.length_append]; simp; omega
theorem Led.end_ {cs os : List Int} (p : os.Perm cs) {L : List (Nat × Nat)} (l : Led cs os os.length L) : run cs L = os := by
  have lr := (run_perm L l.ok).length_eq
  refine (List.ext_getElem? fun i => ?_).symm
  by_cases h : i < os.length
  · exact l.eq i h
  · rw [List.getElem?_eq_none (by omega), List.getElem?_eq_none (by have := p.length_eq; omega)]
theorem g_exchanges_of {cs os : List Int} (h : Sq cs) (p : os.Perm cs) {P : Rv → Prop} (q : ∀ L, Led cs os os.length L → P (.sh (.tuple (tD L)))) : G_exchanges_of [tI cs, tI os] P := by
  have hl := h.len
  have ho := h.perm p.symm
  have lo := p.length_eq
  simp [G_exchanges_of, dfN]
  refine loop_inv (fun k ρ => ∃ (L : List (Nat × Nat)) (s t u : Sl), Led cs os k L ∧ ρ = [.sh (tI cs), .sh (tI os), .ow (.lst ((run cs L).map .int)), .ow (.lst (tD L)), s, t, u]) ⟨[], .un, .un, .un, Led.zero cs os, by simp [run, tD]⟩ ?_ ?_
  · rintro k d ρ1 Q hd ⟨L, s, t, u, l, rfl⟩ kQ
    obtain ⟨x, hx, rfl⟩ := enuD_get hd
    rw [List.getElem?_map] at hx
    obtain ⟨o, hO, rfl⟩ := Option.map_eq_some_iff.mp hx
    have hk : k < os.length := (List.getElem?_eq_some_iff.mp hO).1
    have rp := run_perm L l.ok
    have lr := rp.length_eq
    have mo : o ∈ run cs L := rp.mem_iff.mpr (p.mem_iff.mp (List.mem_of_getElem? hO))
    have lt := List.idxOf_lt_length_iff.mpr mo
    have at_ : (run cs L)[(run cs L).idxOf o]? = some o := by
      rw [List.getElem?_eq_getElem lt, List.getElem_idxOf]
    have ge : k ≤ (run cs L).idxOf o := Classical.byContradiction fun n => by
      have e1 := l.eq ((run cs L).idxOf o) (by omega)
      rw [at_, ← hO] at e1
      obtain ⟨z1, w1⟩ := List.getElem?_eq_some_iff.mp hO
      obtain ⟨z2, w2⟩ := List.getElem?_eq_some_iff.mp (e1.trans hO)
      have := nd_inj ho.nd (w1.trans w2.symm)
      omega
    have few := l.few
    have lgo := fun (h1 : k < (run cs L).idxOf o) => l.go ho p h1 (by omega) (by rw [at_, hO])
    have lst := fun (h1 : (run cs L).idxOf o = k) => l.stay (by rw [hO, ← at_, h1])
    simp [idxD_ints mo]
    generalize hf : (run cs L).idxOf o = far at *

    refine wIf_ndec (fun c => ?_) fun c => ?_
    · have hkf : k < far := by omega
      have e2 := run_snoc cs L (k, far)
      have lg := lgo hkf
      have w1 : k < (run cs L).length := by omega
      rw [one_eq (show k < (run cs L).length by omega) (show far < (run cs L).length by omega)] at e2
      simp [ns_at lt, ns_at w1, ix_lt lt, ix_lt w1]
      refine ⟨by omega, ?_⟩
      rw [set_dat w1 lt]
      have e3 : run cs (L ++ [(k, far)]) = swp (run cs L) k far (run cs L)[k] (run cs L)[far] := e2
      refine kQ _ ⟨L ++ [(k, far)], .sh (.int (k : Nat)), .sh (.int o), .sh (.int (far : Nat)), lg, ?_⟩
      rw [e3, ← tD_app]
      rfl
    · exact kQ _ ⟨L, _, _, _, lst (by omega), rfl⟩
  · rintro ρ1 ⟨L, s, t, u, l, rfl⟩
    rw [enuD_len, List.length_map] at l
    simp
    exact q L l
theorem g_exchanges {cs os : List Int} (h : Sq cs) (p : os.Perm cs) {P : Rv → Prop} (q : ∀ L, Led cs os os.length L → P (.sh (.tuple (tD L)))) : G_exchanges [tI cs, tI os] P := by
  simp [G_exchanges, dfN]
  refine g_want_both h (h.perm p.symm) p.symm ?_
  simp
  refine g_exchanges_of h p fun L l => ?_
  simp
  exact q L l
end K28
namespace K28
open PySem Dv
open L2 (atI ixN)
/-- the turned ones behind i, up to t -/
def tpre (pl : List Nat) (i t : Nat) : List (Nat × Nat) := ((List.range t).filter fun j => decide (pl.getD (i + 1 + j) 0 < pl.getD i 0)).map fun j => (i, i + 1 + j)
theorem tpre_succ (pl : List Nat) (i t : Nat) : tpre pl i (t + 1) = tpre pl i t ++ if pl.getD (i + 1 + t) 0 < pl.getD i 0 then [(i, i + 1 + t)] else [] := by
  unfold tpre
  rw [List.range_succ, List.filter_append, List.map_append]
  congr 1
  by_cases c : pl.getD (i + 1 + t) 0 < pl.getD i 0
  · rw [if_pos c, List.filter_cons_of_pos (by simpa using c)]; rfl
  · rw [if_neg c, List.filter_cons_of_neg (by simpa using c)]; rfl
theorem tpre_len (pl : List Nat) (i t : Nat) : (tpre pl i t).length ≤ t := by
  unfold tpre
  rw [List.length_map]
  have := List.length_filter_le (fun j => decide (pl.getD (i + 1 + j) 0 < pl.getD i 0)) (List.range t)
  rwa [List.length_range] at this
theorem g__law_turned {ns ms : List Int} (h : Sq ns) (h' : Sq ms) (sub : ∀ x ∈ ns, x ∈ ms) {P : Rv → Prop} (q : P (.fr (tD (tp ns ms)))) : G__law_turned [tI ns, tI ms] P := by
  have hl := h.len
  have hpl : (ns.map ms.idxOf).length = ns.length := List.length_map _
  have bound := Pm.inv_le (ns.map ms.idxOf)
  have b2 : ns.length * ns.length ≤ 16 * 16 := Nat.mul_le_mul hl hl
  rw [hpl] at bound
  have hat : ∀ i (hi : i < ns.length), idxD (ms.map PyData.int) (.int ns[i]) = some ((ns.map ms.idxOf).getD i 0) := fun i hi => by
    rw [idxD_ints (sub _ (List.getElem_mem hi)), ← pf_at hi]
  have tl : ∀ k, k ≤ ns.length → (trn (ns.map ms.idxOf) k).length ≤ 256 := fun k hk => by
    have := trn_len (pl := ns.map ms.idxOf) k (by omega)
    omega
  have ts := trn_succ (ns.map ms.idxOf)
  unfold tp at q
  have tr : ∀ i, trow (ns.map ms.idxOf) i = tpre (ns.map ms.idxOf) i (ns.length - (i + 1)) := fun i => by unfold trow tpre; rw [hpl]
  generalize ns.map ms.idxOf = pl at *
  simp [G__law_turned, dfN]
  refine ⟨by omega, ?_⟩
  refine loop_rng (fun i ρ => ∃ (s t : Sl), ρ = [.sh (tI ns), .sh (tI ms), .ow (.lst (tD (trn pl i))), s, t]) ⟨.un, .un, rfl⟩ ?_ ?_
  · rintro i ρ1 Q hi ⟨s, t, rfl⟩ k
    have en : ((ns.length : Int) - ((i : Int) + 1)).toNat = ns.length - (i + 1) := by omega
    simp
    refine ⟨⟨by omega, by omega, by omega⟩, ?_⟩
    rw [en]
    refine loop_rng (fun j ρ => ∃ (t : Sl), ρ = [.sh (tI ns), .sh (tI ms), .ow (.lst (tD (trn pl i ++ tpre pl i j))), .sh (.int (i : Nat)), t]) ⟨t, by simp [tpre]⟩ ?_ ?_
    · rintro j ρ2 Q2 hj ⟨t, rfl⟩ k2
      have hu' : i + 1 + j < ns.length := by omega
      have sc := tpre_succ pl i j
      have l1 := tl i (by omega)
      have l2 := tpre_len pl i j
      have ec : (i : Int) + 1 + (j : Int) = ((i + 1 + j : Nat) : Int) := by omega
      rw [ec]
      generalize hu : i + 1 + j = u at *
      have a1 := hat i hi
      have a2 := hat u hu'
      generalize pl.getD i 0 = x at *
      generalize pl.getD u 0 = y at *
      simp [ns_at hi, ns_at hu', a1, a2]
      refine wIf_dec (fun c => ?_) fun c => ?_
      · rw [if_pos (by omega)] at sc
        refine ⟨by omega, k2 _ ⟨.sh (.int (u : Nat)), ?_⟩⟩
        rw [sc, ← List.append_assoc, ← tD_app (trn pl i ++ tpre pl i j)]
        rfl
      · rw [if_neg (by omega), List.append_nil] at sc
        refine ⟨by omega, k2 _ ⟨.sh (.int (u : Nat)), ?_⟩⟩
        rw [sc]
    · rintro ρ2 ⟨t, rfl⟩
      rw [← tr, ← ts]
      exact k _ ⟨_, _, rfl⟩
  · rintro ρ1 ⟨s, t, rfl⟩
    simpa using q
end K28
namespace K28
open PySem Dv
open L2 (atI ixN)
theorem g__law_is_even {ns ms : List Int} (h : Sq ns) (p : ns.Perm ms) {P : Rv → Prop} (q : P (.sh (.bool (decide (Pm.inv (ns.map ms.idxOf) % 2 = 0))))) : G__law_is_even [tI ns, tI ms] P := by
  simp [G__law_is_even, dfN]
  refine g__law_turned h (h.perm p) (fun x m => p.mem_iff.mp m) ?_
  simp [tp_len]
  refine g_law_rest (by omega) (by omega) ?_
  simp
  have e : decide (((Pm.inv (ns.map ms.idxOf) : Nat) : Int) % 2 = 0) = decide (Pm.inv (ns.map ms.idxOf) % 2 = 0) := decide_eq_decide.mpr (by omega)
  rw [e]
  exact q
theorem g__law_led {cs : List Int} (h : Sq cs) {P : Rv → Prop} (q : ∀ ms, cs.Perm ms → P (.sh (tI ms))) : G__law_led [tI cs] P := by
  have hl := h.len
  simp [G__law_led, dfN]
  refine g__law_sequence (by omega) fun S pS => ?_
  have lS : S.length = cs.length := by rw [pS.length_eq, List.length_map, List.length_range]
  have inS : ∀ a ∈ S, 0 ≤ a ∧ a < cs.length := fun a ma => by
    obtain ⟨i, mi, rfl⟩ := List.mem_map.mp (pS.mem_iff.mp ma)
    have := List.mem_range.mp mi
    omega
  simp
  obtain ⟨other, ho⟩ : ∃ o, o = S.map fun a => cs.getD a.toNat 0 := ⟨_, rfl⟩
  have po : cs.Perm other := by
    rw [ho]
    refine List.Perm.trans ?_ (pS.symm.map _)
    rw [List.map_map]
    have : (List.range cs.length).map ((fun a : Int => cs.getD a.toNat 0) ∘ fun (i : Nat) => (i : Int)) = cs := by
      refine List.ext_getElem (by simp) fun i h1 h2 => ?_
      simp [List.getElem?_eq_getElem h2]
    rw [this]
  have lo : other.length = cs.length := po.length_eq.symm
  refine lc_map (fun i => .int (other.getD i 0)) (by rw [List.length_map]; omega) (fun i d acc Q hd hz k => ?_) ?_
  · rw [List.getElem?_map] at hd
    obtain ⟨a, ha, rfl⟩ := Option.map_eq_some_iff.mp hd
    have := inS a (List.mem_of_getElem? ha)
    have eg0 : other.getD i 0 = cs.getD a.toNat 0 := by
      rw [ho, List.getD_eq_getElem?_getD, List.getElem?_map, ha]; rfl
    have eg1 : cs.getD a.toNat 0 = cs[a.toNat]'(by omega) := by
      simp [List.getElem?_eq_getElem (show a.toNat < cs.length by omega)]
    rw [eg0, eg1] at k
    have hat := ns_at (ns := cs) (i := a.toNat) (by omega)
    rw [show ((a.toNat : Nat) : Int) = a by omega] at hat
    simp [hat, hz]
    exact k
  · have eo : (List.range (S.map PyData.int).length).map (fun i => PyData.int (other.getD i 0)) = other.map .int := by
      refine List.ext_getElem (by simp; omega) fun i h1 h2 => ?_
      simp at h2
      simp [List.getElem?_eq_getElem h2]
    rw [eo]
    exact q other po
end K28
namespace K28
open PySem Dv
open L2 (atI ixN)
/-! ### _law_lots: the cycles, by taking them out -/
/-- what is left: the places that no cycle yet holds -/
def lft (ns : List Int) (V : List Nat) : List Int := ns.filter fun x => decide (ns.idxOf x ∉ V)
theorem lft_mem {ns : List Int} (nd : ns.Nodup) {V : List Nat} {i : Nat} (hi : i < ns.length) : ns[i] ∈ lft ns V ↔ i ∉ V := by
  unfold lft
  rw [List.mem_filter, idx_at nd (List.getElem?_eq_getElem hi), decide_eq_true_iff]
  exact ⟨fun h => h.2, fun h => ⟨List.getElem_mem hi, h⟩⟩
theorem lft_erase {ns : List Int} (nd : ns.Nodup) {V : List Nat} {i : Nat} (hi : i < ns.length) : (lft ns V).erase ns[i] = lft ns (V ++ [i]) := by
  unfold lft
  rw [List.Nodup.erase_eq_filter (nd.filter _), List.filter_filter]
  refine List.filter_congr fun x mx => ?_
  have e : (x != ns[i]) = decide (ns.idxOf x ≠ i) := by
    rw [Bool.eq_iff_iff, bne_iff_ne, decide_eq_true_iff]
    refine not_congr ⟨fun z => ?_, fun z => ?_⟩
    · rw [z]; exact idx_at nd (List.getElem?_eq_getElem hi)
    · have := List.getElem_idxOf (List.idxOf_lt_length_iff.mpr mx)
      rw [← this]; congr 1
  rw [e, ← Bool.decide_and]
  exact decide_eq_decide.mpr (by simp [and_comm])
theorem lft_few {ns : List Int} (h : Sq ns) (V : List Nat) : Few (lft ns V) :=
  ⟨by have := List.length_filter_le (fun x => decide (ns.idxOf x ∉ V)) ns; have := h.len; unfold lft; omega, fun x m => by
    have mx : x ∈ ns := (List.mem_filter.mp m).1
    have := h.lo x mx; have := h.hi x mx; omega⟩
theorem lft_nil (ns : List Int) : lft ns [] = ns := by unfold lft; simp
end K28
namespace K28
open PySem Dv
open L2 (atI ixN)
theorem it_out {f : Nat → Nat} {m k : Nat} (P : Pm.Prm f m) (hk : k < m) {R : List (List Nat)} (pt : Pm.Part f m k R) (n : k ∉ R.flatten) (c : Nat) (hc : c ≤ Pm.per f m k) : Pm.it f c k ∉ R.flatten := fun z => by
  obtain ⟨r, mr, mx⟩ := List.mem_flatten.mp z
  obtain ⟨p1, p2, p3⟩ := P.per hk
  have := Pm.cyc_it (pt.cyc r mr) mx (Pm.per f m k - c)
  rw [← Pm.it_add, show Pm.per f m k - c + c = Pm.per f m k by omega, p2] at this
  exact n (List.mem_flatten.mpr ⟨r, mr, this⟩)
theorem g__law_lots {ns ms : List Int} (h : Sq ns) (p : ns.Perm ms) {P : Rv → Prop} (q : P (.sh (.int (cyc ns ms : Nat)))) : G__law_lots [tI ns, tI ms] P := by
  have hl := h.len
  have pr := pf_prm h p
  simp [G__law_lots, dfN]
  have hidx0 : ∀ i (hi : i < ns.length), idxD (ms.map PyData.int) (.int ns[i]) = some (pf ns ms i) := fun i hi => by
    rw [idxD_ints (p.mem_iff.mp (List.getElem_mem hi)), pf_at hi]
  unfold cyc at q
  generalize hf : pf ns ms = f at *
  have hidx := hidx0
  refine loop_inv (fun k ρ => ∃ (s4 s5 s6 : Sl), ρ = [.sh (tI ns), .sh (tI ms), .ow (.lst ((lft ns (Pm.rows f ns.length k).flatten).map .int)), .sh (.int ((Pm.rows f ns.length k).length : Nat)), s4, s5, s6]) ⟨.un, .un, .un, by rw [show Pm.rows f ns.length 0 = [] from rfl]; simp [lft_nil]⟩ ?_ ?_
  · rintro k d ρ1 Q hd ⟨s4, s5, s6, rfl⟩ kQ
    rw [List.getElem?_map] at hd
    obtain ⟨x, hx, rfl⟩ := Option.map_eq_some_iff.mp hd
    obtain ⟨hk, rfl⟩ := List.getElem?_eq_some_iff.mp hx
    have pk := Pm.rows_part pr k (by omega)
    simp
    refine fIn_ints (lft_few h _) ?_
    simp
    have mem := lft_mem h.nd (V := (Pm.rows f ns.length k).flatten) hk
    refine wIf_of (fun c => ?_) fun c => ?_
    · have c' : k ∉ (Pm.rows f ns.length k).flatten := mem.mp (by simpa using c)
      obtain ⟨p1, p2, p3⟩ := pr.per hk
      have p0 : 0 < Pm.per f ns.length k := Nat.succ_pos _
      have hrow : Pm.rows f ns.length (k + 1) = Pm.rows f ns.length k ++ [Pm.orb f k (Pm.per f ns.length k)] := by
        rw [Pm.rows_succ]; unfold Pm.step; rw [if_neg c']
      rw [hrow, List.flatten_append, List.flatten_singleton, List.length_append] at kQ
      have out := fun c hc => it_out pr hk pk c' c hc
      generalize (Pm.rows f ns.length k).flatten = V at *
      generalize (Pm.rows f ns.length k).length = cnt at *
      refine ⟨by omega, ?_⟩
      refine loop_rng (fun t ρ => ∃ (s6 : Sl), ρ = [.sh (tI ns), .sh (tI ms), .ow (.lst ((lft ns (V ++ Pm.orb f k (min t (Pm.per f ns.length k)))).map .int)), .sh (.int ((cnt : Nat) + 1)), .sh (.int ns[k]), .sh (.int (ns.getD (Pm.it f (min t (Pm.per f ns.length k)) k) 0)), s6]) ⟨s6, ?_⟩ ?_ ?_
      · rw [Nat.zero_min, show Pm.orb f k 0 = [] from rfl, List.append_nil, show Pm.it f 0 k = k from rfl, List.getD_eq_getElem?_getD, List.getElem?_eq_getElem hk]; rfl
      · rintro t ρ Q' ht ⟨s6, rfl⟩ kk
        generalize hc : min t (Pm.per f ns.length k) = c at *
        have itl := pr.it_lt hk c
        have eg : ns.getD (Pm.it f c k) 0 = ns[Pm.it f c k] := by rw [List.getD_eq_getElem?_getD, List.getElem?_eq_getElem itl]; rfl
        have mem := lft_mem h.nd (V := V ++ Pm.orb f k c) itl
        have er := lft_erase h.nd (V := V ++ Pm.orb f k c) itl
        rw [eg]
        simp
        refine fIn_ints (lft_few h _) ?_
        simp
        refine wIf_of (fun b => ?_) fun b => ?_
        · have b' : Pm.it f c k ∉ V ++ Pm.orb f k c := mem.mp (by simpa using b)
          have hc2 : c < Pm.per f ns.length k := Classical.byContradiction fun n => b' (List.mem_append_right _ (by
            have e : c = Pm.per f ns.length k := by omega
            rw [e, p2]
            exact Pm.orb_mem.mpr ⟨0, p0, rfl⟩))
          have em : min (t + 1) (Pm.per f ns.length k) = c + 1 := by omega
          have itl2 := pr.it_lt hk (c + 1)
          rw [em, Pm.orb_succ, ← List.append_assoc, ← er] at kk
          have eg2 : ns.getD (Pm.it f (c + 1) k) 0 = ns[Pm.it f (c + 1) k] := by rw [List.getD_eq_getElem?_getD, List.getElem?_eq_getElem itl2]; rfl
          rw [eg2] at kk
          have ix := hidx _ itl
          have e2 : f (Pm.it f c k) = Pm.it f (c + 1) k := rfl
          rw [e2] at ix
          simp [ix, ns_at itl2]
          exact ⟨mem.mpr b', kk _ ⟨_, rfl⟩⟩
        · have b' : ¬ Pm.it f c k ∉ V ++ Pm.orb f k c := fun z => by
            have := mem.mpr z
            simp [this] at b
          have hc2 : c = Pm.per f ns.length k := Classical.byContradiction fun n => b' fun z => by
            rcases List.mem_append.mp z with z | z
            · exact out c (by omega) z
            · have nd := Pm.orb_nodup pr hk (c := c + 1) (by omega)
              rw [Pm.orb_succ] at nd
              exact (List.nodup_append.mp nd).2.2 _ z _ List.mem_cons_self rfl
          have em : min (t + 1) (Pm.per f ns.length k) = c := by omega
          rw [em, eg] at kk
          exact kk _ ⟨_, rfl⟩
      · rintro ρ ⟨s6, rfl⟩
        rw [show min ns.length (Pm.per f ns.length k) = Pm.per f ns.length k by omega]
        exact kQ _ ⟨.sh (.int ns[k]), .sh (.int (ns.getD (Pm.it f (Pm.per f ns.length k) k) 0)), s6, by simp⟩
    · have c' : k ∈ (Pm.rows f ns.length k).flatten := Classical.byContradiction fun n => by
        have := mem.mpr n
        simp [this] at c
      have hrow : Pm.rows f ns.length (k + 1) = Pm.rows f ns.length k := by
        rw [Pm.rows_succ]; unfold Pm.step; rw [if_pos c']
      exact kQ _ ⟨_, s5, s6, by rw [hrow]⟩
  · rintro ρ1 ⟨s4, s5, s6, rfl⟩
    simpa using q
end K28
namespace K28
open PySem Dv
open L2 (atI ixN)
/-- one item that may stand in a sequence -/
def okD : D → Bool
  | .int i => decide (0 ≤ i) && decide (i < 16)
  | _ => false
/-- scalars -/
def isSc : D → Bool
  | .int _ => true
  | .bool _ => true
  | .none => true
  | .str _ => true
  | _ => false
theorem g_is_below16 {d : D} (h : isSc d = true) {P : Rv → Prop} (q : P (.sh (.bool (okD d)))) : G_is_below [d, .int 16] P := by
  cases d <;> first | (cases h; done) | skip
  all_goals simp [G_is_below, dfN, G_is_count, G_is_integer]
  case int i =>
    have q' : P (.sh (.bool (decide (0 ≤ i) && decide (i < 16)))) := q
    cases e : decide (0 ≤ i) <;> rw [e] at q' <;> simpa using q'
  all_goals exact q
/-- a sequence, by its items -/
def seqB (ds : List D) : Bool := decide (ds.length ≤ 16) && ds.all okD && (match intsD ds with
  | some ns => decide ((dedupI ns).length = ns.length)
  | none => false)
theorem ints_of_ok : ∀ {ds : List D}, ds.all okD = true → ∃ ns, intsD ds = some ns ∧ ds = ns.map .int
  | [], _ => ⟨[], rfl, rfl⟩
  | d :: ds, h => by
    rw [List.all_cons, Bool.and_eq_true] at h
    obtain ⟨ns, e1, e2⟩ := ints_of_ok h.2
    cases d with
    | int i => exact ⟨i :: ns, by simp [e1], by rw [e2]; rfl⟩
    | _ => cases h.1
end K28
namespace K28
open PySem Dv
open L2 (atI ixN)
theorem bools_of {ds : List D} : (List.range ds.length).map (fun i => PyData.bool (okD (ds.getD i .none))) = (ds.map okD).map .bool := by
  refine List.ext_getElem (by simp) fun i h1 h2 => ?_
  simp at h2
  simp [List.getElem?_eq_getElem h2]
theorem g_is_sequence_T {ds : List D} (hs : ds.all isSc = true) (hl : ds.length ≤ 100) {P : Rv → Prop} (q : P (.sh (.bool (seqB ds)))) : G_is_sequence_of [.tuple ds] P := by
  unfold seqB at q
  simp [G_is_sequence_of, dfN]
  refine wIf_dec (fun hp => ?_) fun hp => ?_
  · rw [decide_eq_false (by omega)] at q
    simpa using q
  · rw [decide_eq_true (by omega)] at q
    refine lc_map (fun i => .bool (okD (ds.getD i .none))) (by omega) (fun i d acc Q hd hz k => ?_) ?_
    · have e : ds.getD i .none = d := by rw [List.getD_eq_getElem?_getD, hd]; rfl
      rw [e] at k
      simp
      refine g_is_below16 (List.all_eq_true.mp hs d (List.mem_of_getElem? hd)) ?_
      simp [hz]
      exact k
    · rw [bools_of]
      rw [Bool.true_and] at q
      generalize hb : ds.map okD = bs
      have ea : bs.all id = ds.all okD := by rw [← hb, List.all_map]; rfl
      simp [ea]
      cases c : ds.all okD with
      | false => rw [c] at q; simpa using q
      | true =>
        obtain ⟨ns, e1, e2⟩ := ints_of_ok c
        have l : ds.length = ns.length := by rw [e2, List.length_map]
        rw [c, e1] at q
        simp [e1]
        refine ⟨by omega, ?_⟩
        have e : decide (((dedupI ns).length : Int) = (ds.length : Int)) = decide ((dedupI ns).length = ns.length) := decide_eq_decide.mpr (by omega)
        rw [e]
        simpa using q
end K28
namespace K28
open PySem Dv
open L2 (atI ixN)
theorem g__law_is_sequence_T {ds : List D} (hs : ds.all isSc = true) (hl : ds.length ≤ 100) {P : Rv → Prop} (q : P (.sh (.bool (seqB ds)))) : G__law_is_sequence [.tuple ds] P := by
  unfold seqB at q
  simp [G__law_is_sequence, dfN]
  refine wIf_dec (fun hp => ?_) fun hp => ?_
  · rw [decide_eq_false (by omega)] at q
    simpa using q
  · rw [decide_eq_true (by omega)] at q
    refine lc_map (fun i => .bool (okD (ds.getD i .none))) (by omega) (fun i d acc Q hd hz k => ?_) ?_
    · have e : ds.getD i .none = d := by rw [List.getD_eq_getElem?_getD, hd]; rfl
      rw [e] at k
      have h1 := List.all_eq_true.mp hs d (List.mem_of_getElem? hd)
      cases d <;> first | (cases h1; done) | skip
      case int j =>
        have k' : Q (acc ++ [.bool (decide (0 ≤ j) && decide (j < 16))]) _ := k
        simp [hz]
        cases e : decide (0 ≤ j) <;> rw [e] at k' <;> simpa [hz] using k'
      all_goals
        simp [hz]
        exact k
    · rw [bools_of]
      rw [Bool.true_and] at q
      generalize hb : ds.map okD = bs
      have ea : bs.all id = ds.all okD := by rw [← hb, List.all_map]; rfl
      simp [ea]
      cases c : ds.all okD with
      | false => rw [c] at q; simpa using q
      | true =>
        obtain ⟨ns, e1, e2⟩ := ints_of_ok c
        have l : ds.length = ns.length := by rw [e2, List.length_map]
        rw [c, e1] at q
        simp [e1]
        refine ⟨by omega, ?_⟩
        have e : decide (((dedupI ns).length : Int) = (ds.length : Int)) = decide ((dedupI ns).length = ns.length) := decide_eq_decide.mpr (by omega)
        rw [e]
        simpa using q
end K28
namespace K28
open PySem Dv
open L2 (atI ixN)
/-- what is a sequence, of any value -/
def isq : D → Bool
  | .tuple ds => seqB ds
  | _ => false
/-- the values that are looked at -/
def Odd : D → Prop
  | .tuple ds => ds.all isSc = true ∧ ds.length ≤ 100
  | .list _ => True
  | d => isSc d = true
theorem g_is_sequence_of_any {d : D} (h : Odd d) {P : Rv → Prop} (q : P (.sh (.bool (isq d)))) : G_is_sequence_of [d] P := by
  cases d with
  | tuple ds => exact g_is_sequence_T h.1 h.2 q
  | list ds => simp [G_is_sequence_of, dfN]; exact q
  | int i => simp [G_is_sequence_of, dfN]; exact q
  | bool i => simp [G_is_sequence_of, dfN]; exact q
  | none => simp [G_is_sequence_of, dfN]; exact q
  | str i => simp [G_is_sequence_of, dfN]; exact q
  | _ => cases h
theorem g__law_is_sequence_any {d : D} (h : Odd d) {P : Rv → Prop} (q : P (.sh (.bool (isq d)))) : G__law_is_sequence [d] P := by
  cases d with
  | tuple ds => exact g__law_is_sequence_T h.1 h.2 q
  | list ds => simp [G__law_is_sequence, dfN]; exact q
  | int i => simp [G__law_is_sequence, dfN]; exact q
  | bool i => simp [G__law_is_sequence, dfN]; exact q
  | none => simp [G__law_is_sequence, dfN]; exact q
  | str i => simp [G__law_is_sequence, dfN]; exact q
  | _ => cases h
theorem g_is_sequence {d : D} (h : Odd d) {P : Rv → Prop} (q : P (.sh (.bool (isq d)))) : G_is_sequence [d] P := by
  simp [G_is_sequence, dfN]
  refine g_is_sequence_of_any h ?_
  simp
  exact q
end K28
namespace K28
open PySem Dv
open L2 (atI ixN)
theorem sc_ints (ns : List Int) : (ns.map PyData.int).all isSc = true := by
  rw [List.all_map]; exact List.all_eq_true.mpr fun _ _ => rfl
theorem sc_rng (a : Int) (n : Nat) : (rngD a n).all isSc = true := by
  refine List.all_eq_true.mpr fun x m => ?_
  obtain ⟨i, e⟩ := List.mem_iff_getElem?.mp m
  rw [rngD_get e]; rfl
theorem tl11 {cs : List Int} (hs : Sq cs) (hl9 : cs.length ≤ 9) {E : DEnds} (q : E.rt (.sh (.bool true))) (s0 s2 s3 s4 s5 s6 s7 s8 s9 s10 s11 s12 s13 : Sl) : tl__law_right_11 E [s0, .sh (tI cs), s2, s3, s4, s5, s6, s7, s8, s9, s10, s11, s12, s13] := by
  have ec : cutD (cs.map PyData.int) none (some 1) = (cs.take 1).map .int := by
    rw [show (some (1 : Int)) = some ((1 : Nat) : Int) from rfl, cut_to, List.map_take]
  have lc : (cs.take 1).length ≤ 1 := by rw [List.length_take]; omega
  simp [tl__law_right_11, ec]
  have odd : ∀ d ∈ [tI cs, .list (cs.map PyData.int), .tuple (cs.map PyData.int ++ (cs.take 1).map .int), .tuple (cs.map PyData.int ++ [.int 16]), .tuple (cs.map PyData.int ++ [.int (-1)]), .tuple ((cs.take 1).map PyData.int ++ [.bool true]), .none, .int 0, .tuple [], .str (Str.ofString "01"), .tuple (rngD 0 16), .tuple (rngD 0 17), .tuple [.none], .tuple [.int 0, .str (Str.ofString "1")]], Odd d := by
    intro d m
    simp only [List.mem_cons, List.not_mem_nil, or_false] at m
    rcases m with rfl | rfl | rfl | rfl | rfl | rfl | rfl | rfl | rfl | rfl | rfl | rfl | rfl | rfl
    · exact ⟨sc_ints cs, by simp; omega⟩
    · trivial
    · exact ⟨by rw [List.all_append, sc_ints, sc_ints]; rfl, by simp; omega⟩
    · exact ⟨by rw [List.all_append, sc_ints]; rfl, by simp; omega⟩
    · exact ⟨by rw [List.all_append, sc_ints]; rfl, by simp; omega⟩
    · exact ⟨by rw [List.all_append, sc_ints]; rfl, by simp; omega⟩
    · rfl
    · rfl
    · exact ⟨rfl, by decide⟩
    · rfl
    · exact ⟨sc_rng _ _, by rw [rngD_len]; decide⟩
    · exact ⟨sc_rng _ _, by rw [rngD_len]; decide⟩
    · exact ⟨rfl, by decide⟩
    · exact ⟨rfl, by decide⟩
  rw [← List.map_take]
  refine ⟨by omega, by omega, by omega, ?_⟩
  refine loop_inv (fun k ρ => ∃ s : Sl, ρ = [s0, .sh (tI cs), s2, s3, s4, s5, s6, s7, s8, s9, s10, s11, s12, s]) ⟨_, rfl⟩ ?_ ?_
  · rintro k d ρ1 Q hd ⟨s, rfl⟩ kQ
    have o := odd d (List.mem_of_getElem? hd)
    simp
    refine g_is_sequence o ?_
    simp
    refine g_is_sequence o ?_
    simp [fMul]
    have fb : Fit (0 + 1 + (0 + 1 + 0)) 1 (.list [.bool (isq d), .bool (isq d)]) := (FitAll.cons (.bool (k := 0)) (FitAll.cons .bool .nil)).list
    refine fRepr_of fb (by decide) (by decide) ?_
    refine g__law_is_sequence_any o ?_
    simp
    refine fRepr_of fb (by decide) (by decide) ?_
    simp
    exact kQ _ ⟨_, rfl⟩
  · rintro ρ ⟨s, rfl⟩
    exact q
end K28
namespace K28
open PySem Dv
open L2 (atI ixN)
theorem tp_fit {cs ms : List Int} (hl : cs.length ≤ 9) : Fit 10000 3 (.list (tD (tp cs ms))) := by
  have hb := Pm.inv_le (cs.map ms.idxOf)
  rw [List.length_map] at hb
  have b2 : cs.length * cs.length ≤ 9 * 9 := Nat.mul_le_mul hl hl
  have lt : ∀ p ∈ tp cs ms, p.1 < 100 ∧ p.2 < 100 := fun p mp => by
    unfold tp trn at mp
    obtain ⟨i, mi, mp⟩ := List.mem_flatMap.mp mp
    unfold trow at mp
    obtain ⟨j, mj, rfl⟩ := List.mem_map.mp mp
    have := List.mem_range.mp mi
    have := List.mem_range.mp (List.mem_filter.mp mj).1
    rw [List.length_map] at this
    exact ⟨by show i < 100; omega, by show i + 1 + j < 100; omega⟩
  have all : ∀ x ∈ tD (tp cs ms), Fit 82 2 x := fun x mx => by
    obtain ⟨p, mp, rfl⟩ := List.mem_map.mp mx
    obtain ⟨l1, l2⟩ := lt p mp
    exact (FitAll.cons (Fit.int (k := 1) (by omega)) (FitAll.cons (Fit.int (k := 1) (by omega)) .nil)).tuple.mono (by omega) (by omega)
  refine (FitAll.of all).list.mono ?_ (Nat.le_refl _)
  rw [tD_len, tp_len]
  omega
theorem led_step {cs os : List Int} (h : Sq cs) (p : os.Perm cs) {k : Nat} {L : List (Nat × Nat)} (l : Led cs os k L) (hk : k < os.length) : ∃ L', Led cs os (k + 1) L' := by
  have ho := h.perm p.symm
  have lo := p.length_eq
  have rp := run_perm L l.ok
  have lr := rp.length_eq
  have hO : os[k]? = some os[k] := List.getElem?_eq_getElem hk
  have mo : os[k] ∈ run cs L := rp.mem_iff.mpr (p.mem_iff.mp (List.mem_of_getElem? hO))
  have lt := List.idxOf_lt_length_iff.mpr mo
  have at_ : (run cs L)[(run cs L).idxOf os[k]]? = some os[k] := by
    rw [List.getElem?_eq_getElem lt, List.getElem_idxOf]
  have ge : k ≤ (run cs L).idxOf os[k] := Classical.byContradiction fun n => by
    have e1 := l.eq ((run cs L).idxOf os[k]) (by omega)
    rw [at_, ← hO] at e1
    obtain ⟨z1, w1⟩ := List.getElem?_eq_some_iff.mp hO
    obtain ⟨z2, w2⟩ := List.getElem?_eq_some_iff.mp (e1.trans hO)
    have := nd_inj ho.nd (w1.trans w2.symm)
    omega
  by_cases c : k = (run cs L).idxOf os[k]
  · exact ⟨L, l.stay (by rw [hO, ← at_, ← c])⟩
  · exact ⟨_, l.go ho p (show k < (run cs L).idxOf os[k] by omega) (by omega) (by rw [at_, hO])⟩
theorem led_to {cs os : List Int} (h : Sq cs) (p : os.Perm cs) : ∀ k, k ≤ os.length → ∃ L, Led cs os k L
  | 0, _ => ⟨[], Led.zero cs os⟩
  | k + 1, hk => by
    obtain ⟨L, l⟩ := led_to h p k (by omega)
    exact led_step h p l (by omega)
theorem Led.sums {cs os : List Int} (h : Sq cs) (p : os.Perm cs) {L : List (Nat × Nat)} (l : Led cs os os.length L) : L.length + cyc cs os = cs.length ∧ (L.length + Pm.inv (cs.map fun a => os.idxOf a)) % 2 = 0 := by
  have ho := h.perm p.symm
  have e := l.end_ p
  have c := l.cnt
  have v := l.par
  rw [e, cyc_self ho, cyc_sym h p.symm] at c
  rw [e, inv_self ho.nd] at v
  have s := inv_sym (ns := cs) (ms := os) h.nd p.symm
  have lo := p.length_eq
  refine ⟨by omega, ?_⟩
  have v' : (0 + Pm.inv (os.map fun a => cs.idxOf a) + L.length) % 2 = 0 := v
  have s' : Pm.inv (os.map fun a => cs.idxOf a) = Pm.inv (cs.map fun a => os.idxOf a) := s
  omega
theorem lfAll_ints : ∀ ns : List Int, lfAll (ns.map PyData.int) = true
  | [] => rfl
  | n :: ns => by rw [List.map_cons, lfAll, lfAll_ints ns]; rfl
theorem lf_ints (ns : List Int) : lf (tI ns) = true := by rw [lf]; exact lfAll_ints ns
theorem tl10 {cs : List Int} (hs : Sq cs) (hl9 : cs.length ≤ 9) {E : DEnds} (q : E.rt (.sh (.bool true))) (s2 s3 s4 s5 s6 s7 s8 s9 s10 s11 s12 s13 : Sl) : tl__law_right_10 E [.pot, .sh (tI cs), s2, s3, s4, s5, s6, s7, s8, s9, s10, s11, s12, s13] := by
  simp [tl__law_right_10]
  refine wIf_dec (fun h1 => ?_) fun _ => tl11 hs hl9 q ..
  refine g_draw (by omega) (by omega) fun T t0 t1 => ?_
  simp
  refine ⟨by omega, ?_⟩
  have hT : T.toNat ≤ 20 := by omega
  refine loop_rng (fun t ρ => ∃ (L : List (Nat × Nat)) (s10 s11 : Sl), Ok cs.length L ∧ L.length = t ∧ (Pm.inv (cs.map fun a => (run cs L).idxOf a) + t) % 2 = 0 ∧ ρ = [.pot, .sh (tI cs), s2, s3, s4, s5, s6, s7, s8, .ow (.lst (tD L)), s10, s11, s12, s13]) ⟨[], _, _, fun _ m => (nomatch m), rfl, by rw [show run cs [] = cs from rfl]; have := inv_self hs.nd; have h2 : Pm.inv (cs.map fun a => cs.idxOf a) = 0 := this; omega, rfl⟩ ?_ ?_
  · rintro t ρ Q ht ⟨L, s10, s11, ok, lt, pa, rfl⟩ kQ
    simp
    refine g_draw (by omega) (by omega) fun i i0 i1 => ?_
    simp
    refine g_draw (by omega) (by omega) fun j j0 j1 => ?_
    simp
    obtain ⟨i, rfl⟩ : ∃ k : Nat, i = (k : Int) := ⟨i.toNat, by omega⟩
    obtain ⟨k, hk⟩ : ∃ k : Nat, (i : Int) + 1 + j = (k : Int) := ⟨((i : Int) + 1 + j).toNat, by omega⟩
    rw [hk]
    have hik : i < k := by omega
    have hkl : k < cs.length := by omega
    have rp := run_perm L ok
    have lr := rp.length_eq
    have er := run_snoc cs L (i, k)
    rw [one_eq (show i < (run cs L).length by omega) (show k < (run cs L).length by omega)] at er
    have v := inv_swp hs rp.symm hik (show k < (run cs L).length by omega)
    refine ⟨by omega, kQ _ ⟨L ++ [(i, k)], _, _, fun p mp => ?_, by rw [List.length_append, lt]; rfl, ?_, by rw [← tD_app]; rfl⟩⟩
    · rcases List.mem_append.mp mp with m | m
      · exact ok p m
      · rw [List.mem_singleton.mp m]; exact ⟨hik, hkl⟩
    · rw [er]
      have v' : (Pm.inv (cs.map fun a => (swp (run cs L) i k (run cs L)[i] (run cs L)[k]).idxOf a) + Pm.inv (cs.map fun a => (run cs L).idxOf a)) % 2 = 1 := v
      have pa' : (Pm.inv (cs.map fun a => (run cs L).idxOf a) + t) % 2 = 0 := pa
      have : ∀ a b : Nat, (a + b) % 2 = 1 → (b + t) % 2 = 0 → (a + (t + 1)) % 2 = 0 := fun a b h1 h2 => by omega
      exact this _ _ v' pa'
  · rintro ρ ⟨L, s10, s11, ok, lt, pa, rfl⟩
    have rp := run_perm L ok
    have sl := hs.perm rp.symm
    have nl : (tD L).length = L.length := by unfold tD; rw [List.length_map]
    simp
    refine g__law_done hs ok (.inr rfl) ?_
    simp
    refine ⟨lf_ints _, ?_⟩
    refine g_exchanged hs ok (by omega) ?_
    simp [perm]
    refine g_exchanged hs ok (by omega) ?_
    have ff := (FitAll.cons sl.few.tup (FitAll.cons sl.few.tup .nil)).list
    have lf := sl.few.len
    have ff := ff.mono (show _ ≤ 40000 by omega) (Nat.le_refl _)
    simp
    refine fRepr_of ff (by decide) (by decide) ?_
    refine fRepr_of ff (by decide) (by decide) ?_
    simp
    refine g_is_even hs rp.symm ?_
    simp
    refine g_law_rest (by omega) (by omega) ?_
    simp
    have e : decide (Pm.inv (cs.map fun a => (run cs L).idxOf a) % 2 = 0) = decide ((L.length : Int) % 2 = 0) := decide_eq_decide.mpr (by omega)
    exact wIf_ndec (fun c => absurd e c) fun _ => tl11 hs hl9 q ..
theorem g__law_right {P : Rv → Prop} (q : P (.sh (.bool true))) : G__law_right [] P := by
  simp [G__law_right, dfN]
  refine g_draw (by omega) (by omega) fun m m0 m1 => ?_
  simp
  obtain ⟨n, rfl⟩ : ∃ n : Nat, m = (n : Int) := ⟨m.toNat, by omega⟩
  refine g__law_counts (by omega) fun cs hs hl => ?_
  simp
  have hl9 : cs.length ≤ 9 := by omega
  refine g__law_led hs fun near pn => ?_
  simp
  refine g__law_led hs fun far pf_ => ?_
  simp
  have sn := hs.perm pn
  have sf := hs.perm pf_
  refine g__law_turned hs sn (fun x m => pn.mem_iff.mp m) ?_
  simp
  refine g_turned_pairs hs pn ?_
  simp [perm]
  refine g_turned_pairs hs pn ?_
  have f2 := (FitAll.cons (tp_fit (ms := near) hl9) (FitAll.cons (tp_fit (ms := near) hl9) .nil)).list
  have tl := tp_len cs near
  have tl2 := tp_len near cs
  generalize tp cs near = T at *
  simp
  refine fRepr_of f2 (by decide) (by decide) ?_
  refine fRepr_of f2 (by decide) (by decide) ?_
  simp
  refine g_turned_pairs sn pn.symm ?_
  simp
  rw [tl2, tl, inv_sym hs.nd pn]
  simp
  refine g__law_is_even hs pn ?_
  simp
  have pnf : near.Perm far := pn.symm.trans pf_
  refine g__law_is_even sn pnf ?_
  simp
  refine g__law_is_even hs pf_ ?_
  simp
  refine g_is_even hs pn ?_
  simp
  refine g_is_even hs pn ?_
  simp [perm]
  refine g_is_even sn pn.symm ?_
  simp
  rw [inv_sym hs.nd pn]
  have par := inv_par hs.nd pn pf_
  have ev := inv_sym hs.nd pn
  have cle := Pm.rows_le (pf_prm hs pn)
  have ccle : cyc cs near ≤ cs.length := cle
  generalize hA : Pm.inv (cs.map fun a => List.idxOf a near) = A at *
  generalize hB : Pm.inv (near.map fun a => List.idxOf a far) = B at *
  generalize hC : Pm.inv (cs.map fun a => List.idxOf a far) = C at *
  have fb : Fit (0 + 1 + (0 + 1 + (0 + 1 + 0))) 1 (.list [.bool (decide (A % 2 = 0)), .bool (decide (A % 2 = 0)), .bool (decide (A % 2 = 0))]) := (FitAll.cons (.bool (k := 0)) (FitAll.cons .bool (FitAll.cons .bool .nil))).list
  refine fRepr_of fb (by decide) (by decide) ?_
  simp [fMul]
  refine fRepr_of fb (by decide) (by decide) ?_
  simp
  have e3 : ((decide (A % 2 = 0) == decide (B % 2 = 0)) = decide (C % 2 = 0)) := by
    by_cases a : A % 2 = 0 <;> by_cases b : B % 2 = 0 <;> by_cases c : C % 2 = 0 <;> simp [a, b, c] <;> omega
  refine wIf_ndec (fun c => absurd e3 c) fun _ => ?_
  refine g_is_even sn pnf ?_
  simp
  rw [show Pm.inv (near.map fun a => List.idxOf a far) = B from hB]
  simp
  refine g_is_even hs pf_ ?_
  rw [show Pm.inv (cs.map (List.idxOf · far)) = C from hC]
  simp
  refine g__law_lots hs pn ?_
  simp
  refine g_fewest_exchanges hs pn ?_
  simp
  refine g_fewest_exchanges hs pn ?_
  simp
  obtain ⟨L0, l0⟩ := led_to hs pn.symm near.length (Nat.le_refl _)
  obtain ⟨m1, m2⟩ := l0.sums hs pn.symm
  rw [hA] at m2
  have ff : Fit (40 + 1 + (40 + 1 + 0)) 1 (.list [.int ((cs.length : Int) - (cyc cs near : Nat)), .int ((cs.length : Int) - (cyc cs near : Nat))]) := (FitAll.cons (.int (k := 0) (by omega)) (FitAll.cons (.int (by omega)) .nil)).list
  refine fRepr_of ff (by decide) (by decide) ?_
  refine fRepr_of ff (by decide) (by decide) ?_
  simp
  refine g_law_rest (by omega) (by omega) ?_
  simp
  have e4 : decide (((cs.length : Int) - (cyc cs near : Nat)) % 2 = 0) = decide (A % 2 = 0) := decide_eq_decide.mpr (by omega)
  refine wIf_ndec (fun c => absurd e4 c) fun _ => ?_
  refine g_exchanges hs pn.symm fun L1 l1 => ?_
  simp
  refine g_exchanges hs pn.symm fun L2 l2 => ?_
  simp
  generalize hT : Sl.sh (PyData.list (tD T)) = sT
  generalize hO : Sl.ow (OO.lst [PyData.bool (decide (B % 2 = 0)), PyData.bool (decide (C % 2 = 0))]) = sO
  refine loop_inv (fun k ρ => ∃ s8 : Sl, ρ = [.pot, .sh (tI cs), .sh (tI near), .sh (tI far), sT, .sh (.bool (decide (A % 2 = 0))), sO, .sh (.int ((cs.length : Int) - (cyc cs near : Nat))), s8, .un, .un, .un, .un, .un]) ⟨.un, rfl⟩ ?_ ?_
  · rintro k d ρ1 Q hd ⟨s8, rfl⟩ kQ
    have hd' : ∃ L, Led cs near near.length L ∧ d = .tuple (tD L) := by
      match k, hd with
      | 0, hd => exact ⟨L1, l1, by simpa using hd.symm⟩
      | 1, hd => exact ⟨L2, l2, by simpa using hd.symm⟩
    obtain ⟨L, l, rfl⟩ := hd'
    obtain ⟨n1, n2⟩ := l.sums hs pn.symm
    have ne := l.end_ pn.symm
    have nl : (tD L).length = L.length := by unfold tD; rw [List.length_map]
    simp
    refine wIf_ndec (fun c => absurd (show ((L.length : Nat) : Int) = _ by omega) c) fun _ => ?_
    refine g__law_done hs l.ok (.inl rfl) ?_
    rw [ne]
    simp
    refine fEq_ti sn.few sn.few ?_
    simp
    refine g_exchanged hs l.ok (by omega) ?_
    rw [ne]
    simp
    refine fEq_ti sn.few sn.few ?_
    simp
    exact kQ _ ⟨_, rfl⟩
  · rintro ρ ⟨s8, rfl⟩
    exact tl10 hs hl9 (E := { nx := _, rt := P, bk := _, ct := _ }) q ..
end K28
namespace K28
open PySem Dv
open L2 (atI ixN)
theorem pure (ns : List Int) (h : ns.length ≤ 63) : G_law ns [] fun r => r = .sh (.bool true) := by
  simp [G_law, dfS]
  have hM : ∃ M : Int, M = (if (1 : Int) < if (ns.length : Int) < 2 then (ns.length : Int) else 2 then if (ns.length : Int) < 2 then (ns.length : Int) else 2 else 1) ∧ 0 ≤ M ∧ M ≤ 2 := ⟨_, rfl, by split <;> split <;> omega, by split <;> split <;> omega⟩
  obtain ⟨M, e, M0, M2⟩ := hM
  rw [← e]
  refine ⟨by omega, ?_⟩
  refine lc_map (fun _ => .bool true) (by rw [rngD_len]; omega) (fun i d acc Q hd hz k => ?_) ?_
  · rw [rngD_get hd]
    simp
    refine g__law_pot (by omega) fun a b a0 b0 b1 => ?_
    simp [hz]
    refine ⟨⟨a0, b0, by omega⟩, ?_⟩
    refine g__law_right ?_
    simpa using k
  · rw [List.map_const']
    simp
end K28
namespace K28
open PySem PySem.Spec PyProof.Rows L2 Dv
def loose0 : List PySem.Str := ["HoleError", "InvalidExchanges", "InvalidSequence", "is_integer", "is_count", "is_below", "is_row", "MOST_LONG", "MOST_COUNT", "MOST_EXCHANGES", "is_sequence_of", "is_fitting", "is_exchange", "are_exchanges", "turned_of", "is_even_order", "cycles_of", "exchanged_by", "exchanges_of", "want_sequence", "want_both", "is_sequence", "turned_pairs", "is_even", "fewest_exchanges", "exchanges", "exchanged", "_law_pot", "_law_draw", "_law_rest"]
def loose1 : List PySem.Str := ["_law_sequence", "_law_counts", "_law_led", "_law_turned", "_law_is_even", "_law_done", "_law_lots", "_law_is_sequence", "_law_right"]
def loose : List PySem.Str := loose0 ++ loose1
abbrev FD (x : PySem.Str) (st : Stmt) : He.DefD := ⟨(x, none), x, x, defArgs st, defBody st, defScope st, [], []⟩
def fn0 : List He.DefD := [FD "is_integer" s_is_integer, FD "is_row" s_is_row, FD "turned_of" s_turned_of, FD "cycles_of" s_cycles_of, FD "exchanged_by" s_exchanged_by, FD "exchanges_of" s_exchanges_of, FD "_law_pot" s__law_pot, FD "_law_draw" s__law_draw, FD "_law_rest" s__law_rest, FD "_law_turned" s__law_turned, FD "_law_done" s__law_done, FD "_law_lots" s__law_lots, FD "_law_is_sequence" s__law_is_sequence, FD "is_count" s_is_count, FD "is_even_order" s_is_even_order, FD "_law_sequence" s__law_sequence, FD "_law_counts" s__law_counts, FD "_law_is_even" s__law_is_even, FD "is_below" s_is_below, FD "_law_led" s__law_led]
def fn1 : List He.DefD := [FD "is_sequence_of" s_is_sequence_of, FD "is_exchange" s_is_exchange, FD "is_fitting" s_is_fitting, FD "are_exchanges" s_are_exchanges, FD "want_sequence" s_want_sequence, FD "is_sequence" s_is_sequence, FD "want_both" s_want_both, FD "exchanged" s_exchanged, FD "turned_pairs" s_turned_pairs, FD "is_even" s_is_even, FD "fewest_exchanges" s_fewest_exchanges, FD "exchanges" s_exchanges, FD "_law_right" s__law_right, FD "law" s_law]
def fn : List He.DefD := fn0 ++ fn1
def fa0 : List He.Fa := [.glo "is_integer", .glo "is_row", .glo "turned_of", .glo "cycles_of", .glo "exchanged_by", .glo "exchanges_of", .glo "_law_pot", .glo "_law_draw", .glo "_law_rest", .glo "_law_turned", .glo "_law_done", .glo "_law_lots", .glo "_law_is_sequence", .glo "is_count", .glo "is_even_order", .glo "_law_sequence", .glo "_law_counts", .glo "_law_is_even", .glo "is_below", .glo "_law_led", .glo "is_sequence_of", .glo "is_exchange", .glo "is_fitting", .glo "are_exchanges", .glo "want_sequence", .glo "is_sequence", .glo "want_both", .glo "exchanged", .glo "turned_pairs", .glo "is_even"]
def fa1 : List He.Fa := [.glo "fewest_exchanges", .glo "exchanges", .glo "_law_right", .glo "law", .int "MOST_COUNT" 16, .int "MOST_EXCHANGES" 200, .int "MOST_LONG" 16, .free "abs", .free "all", .free "bool", .free "divmod", .free "enumerate", .free "int", .free "isinstance", .free "len", .free "list", .free "max", .free "min", .free "range", .free "repr", .free "set", .free "sorted", .free "tuple"]
def fa : List He.Fa := fa0 ++ fa1
abbrev R : PySem.W.OpenRow := PySem.W.OpenLaw.row PySem.Challenge.rw_holewebs_k28_whole_turned_pairs_and_exch
abbrev hk : PySem.W.Hook := He.hookD 4 fa fn
def ob (s : PySem.W.SharedT) : He.AlD := He.obsDG 4 fa fn (HandSHeadRun.getT s)
theorem ob_eq (s : PySem.W.SharedT) : ob s = hk.obs s.abs := He.obsDG_eq (HandSHeadRun.getT_eq s)
theorem head_run (w : World) : HandSHeadRun.RunEq R (PySem.W.view R.prog [43]) hk ob 3000 loose w := by
  intro os
  kernel_rfl
section
variable {K : PySem.W.Frag} {h : Heap} {mg : PySem.Str → Option Value}
theorem in_fa {f : He.Fa} (c : He.SaysD fa fn K) (i : Nat) (e : fa[i]? = some f := by rfl) : f.ok K = true := c.fact i e
noncomputable def mk (c : He.SaysD fa fn K) (X : K.In h) (G : h.Ns mainGlobals mg) (x : PySem.Str) (st : Stmt) (i : Nat) (e : fn[i]? = some (FD x st)) (e2 : fa[i]? = some (.glo x)) : DefF K mg x st :=
  ⟨He.fAd K (x, none), (c.def_ i e).choose, fun_of (c.def_ i e).choose_spec, He.glo_ok X G (c.fact i e2)⟩
noncomputable def facts (c : He.SaysD fa fn K) (X : K.In h) (G : h.Ns mainGlobals mg) : T K mg where
  is_integer := mk c X G "is_integer" s_is_integer 0 rfl rfl
  is_row := mk c X G "is_row" s_is_row 1 rfl rfl
  turned_of := mk c X G "turned_of" s_turned_of 2 rfl rfl
  cycles_of := mk c X G "cycles_of" s_cycles_of 3 rfl rfl
  exchanged_by := mk c X G "exchanged_by" s_exchanged_by 4 rfl rfl
  exchanges_of := mk c X G "exchanges_of" s_exchanges_of 5 rfl rfl
  _law_pot := mk c X G "_law_pot" s__law_pot 6 rfl rfl
  _law_draw := mk c X G "_law_draw" s__law_draw 7 rfl rfl
  _law_rest := mk c X G "_law_rest" s__law_rest 8 rfl rfl
  _law_turned := mk c X G "_law_turned" s__law_turned 9 rfl rfl
  _law_done := mk c X G "_law_done" s__law_done 10 rfl rfl
  _law_lots := mk c X G "_law_lots" s__law_lots 11 rfl rfl
  _law_is_sequence := mk c X G "_law_is_sequence" s__law_is_sequence 12 rfl rfl
  is_count := mk c X G "is_count" s_is_count 13 rfl rfl
  is_even_order := mk c X G "is_even_order" s_is_even_order 14 rfl rfl
  _law_sequence := mk c X G "_law_sequence" s__law_sequence 15 rfl rfl
  _law_counts := mk c X G "_law_counts" s__law_counts 16 rfl rfl
  _law_is_even := mk c X G "_law_is_even" s__law_is_even 17 rfl rfl
  is_below := mk c X G "is_below" s_is_below 18 rfl rfl
  _law_led := mk c X G "_law_led" s__law_led 19 rfl rfl
  is_sequence_of := mk c X G "is_sequence_of" s_is_sequence_of 20 rfl rfl
  is_exchange := mk c X G "is_exchange" s_is_exchange 21 rfl rfl
  is_fitting := mk c X G "is_fitting" s_is_fitting 22 rfl rfl
  are_exchanges := mk c X G "are_exchanges" s_are_exchanges 23 rfl rfl
  want_sequence := mk c X G "want_sequence" s_want_sequence 24 rfl rfl
  is_sequence := mk c X G "is_sequence" s_is_sequence 25 rfl rfl
  want_both := mk c X G "want_both" s_want_both 26 rfl rfl
  exchanged := mk c X G "exchanged" s_exchanged 27 rfl rfl
  turned_pairs := mk c X G "turned_pairs" s_turned_pairs 28 rfl rfl
  is_even := mk c X G "is_even" s_is_even 29 rfl rfl
  fewest_exchanges := mk c X G "fewest_exchanges" s_fewest_exchanges 30 rfl rfl
  exchanges := mk c X G "exchanges" s_exchanges 31 rfl rfl
  _law_right := mk c X G "_law_right" s__law_right 32 rfl rfl
  law := mk c X G "law" s_law 33 rfl rfl
  c_MOST_COUNT := He.int_ok X G (c.fact 34 rfl)
  c_MOST_EXCHANGES := He.int_ok X G (c.fact 35 rfl)
  c_MOST_LONG := He.int_ok X G (c.fact 36 rfl)
  z_abs := He.free_ok X G (c.fact 37 rfl)
  z_all := He.free_ok X G (c.fact 38 rfl)
  z_bool := He.free_ok X G (c.fact 39 rfl)
  z_divmod := He.free_ok X G (c.fact 40 rfl)
  z_enumerate := He.free_ok X G (c.fact 41 rfl)
  z_int := He.free_ok X G (c.fact 42 rfl)
  z_isinstance := He.free_ok X G (c.fact 43 rfl)
  z_len := He.free_ok X G (c.fact 44 rfl)
  z_list := He.free_ok X G (c.fact 45 rfl)
  z_max := He.free_ok X G (c.fact 46 rfl)
  z_min := He.free_ok X G (c.fact 47 rfl)
  z_range := He.free_ok X G (c.fact 48 rfl)
  z_repr := He.free_ok X G (c.fact 49 rfl)
  z_set := He.free_ok X G (c.fact 50 rfl)
  z_sorted := He.free_ok X G (c.fact 51 rfl)
  z_tuple := He.free_ok X G (c.fact 52 rfl)
end
end K28
open PySem PySem.W PySem.Calls PyProof.Rows
set_option maxHeartbeats 0 in
theorem PySem.Challenge.cw_holewebs_k28_whole_turned_pairs_and_exch_holds : PySem.Challenge.rw_holewebs_k28_whole_turned_pairs_and_exch.Holds := by
  w_on; o_law
  refine HandSHeadRun.head_any (r := OpenLaw.row PySem.Challenge.rw_holewebs_k28_whole_turned_pairs_and_exch) (q := view (OpenLaw.row PySem.Challenge.rw_holewebs_k28_whole_turned_pairs_and_exch).prog [43]) (H := K28.hk) (ob := K28.ob) (M := 3000) (loose := K28.loose) (d := HandSHeadRun.topDef (OpenLaw.row PySem.Challenge.rw_holewebs_k28_whole_turned_pairs_and_exch).prog 43) (kwd := []) K28.ob_eq
    (by kernel_rfl) (fun s => by kernel_rfl) K28.head_run (by kernel_rfl) (by kernel_rfl) (by kernel_rfl) (by rfl) (by first | assumption | decide +kernel) (by decide +kernel) ⟨rfl, rfl, rfl, rfl, rfl, by decide +kernel⟩ ?hw ?hc
  case hw => w_witness2
  case hc =>
    refine Dv.walk_G (l := PySem.Challenge.rw_holewebs_k28_whole_turned_pairs_and_exch) (n := 63) (k := 9) (x := "script") rfl (by decide) (by kernel_rfl) ⟨rfl, by decide, by decide⟩ ?F
    intro w mg fa h Y G hmg0
    obtain ⟨K, KX, c⟩ := Y
    have hmg : mg ("law" : PySem.Str) = some (.ref fa) := by
      have e : (HandSHeadRun.topDef (OpenLaw.row PySem.Challenge.rw_holewebs_k28_whole_turned_pairs_and_exch).prog 43).name = ("law" : PySem.Str) := by kernel_rfl
      rw [← e]
      exact hmg0
    let T := K28.facts c KX G
    have ea : T.law.f = fa := by
      have e := T.law.g.symm.trans hmg
      cases e; rfl
    refine ⟨K, T.law.fd, K28.G_law, KX, fun s v => Dv.bindA_of T.law.F (ps := ["script"]) (fun _ _ _ _ _ _ us hl => match us, hl with | [_], _ => rfl) s [v] rfl, fun ns hl => K28.pure ns hl, fun base hB hN => ?_⟩
    rw [← ea]
    exact K28.ok_law T
