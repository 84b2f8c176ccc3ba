import PyProof.Rows.All
import Wide.All
import OpenK.AllK
import Wide.FinOn
import Open.SpecLaws
import KE.OsGo
import HandS.ForSpec
import HandS.ForMost
import HandS.Nested
import HandS.NestedK
import HandS.Deep
import HandS.SortInts
import HandS.ExcInit
import HandS.ExcField
import HandS.HotCalls
import Zn78R7256fSpec
import KE.KStateDown
import KE.OsHead
import HandS.Head0
import HandS.Head1
import HandS.Head2
import HandS.Head3
import HandS.Head4
import HandS.HeadHook4
import HandS.More
import HandS.TupAny
import PyZn78
import HandS.Text
import PySem.Challenge.RW_trimlines_s01_answers
set_option Elab.async false
set_option linter.all false
set_option maxRecDepth 100000
set_option maxHeartbeats 4000000
/-! What lies below the layer: exceptions whose context is None; a comprehension over a text while an exception is handled. -/
namespace Tw
open PySem PySem.Spec PyProof.Rows L2
theorem passN {Y : Cx} : Passes (L2N.CX Y.prog Y.w) Y E0 := by
  intro _ _ _ _ _ _ _ ⟨_, _, _, _, _, _, _, _, _, _, _, _, no⟩
  exact no.elim
section
variable {P : Program} {w : World} {K : PySem.W.Frag} {mg : Str → Option Value} {base : Heap}
/-- a def that may raise, contexts told -/
theorem _root_.L2.Fun.okN {x qual : Str} {d : Stmt} {g : Addr} {fd : FuncData} {M ps : List Str} {lv : Nat} {sp : Sp} (F : Fun K x qual d g fd) (Sc : FnScope M ps (defScope d)) (ln : ∀ us H Q E, sp us H Q E → us.length = ps.length)
    (bd : ∀ (cdv : Value) (A : Around) (outer : List PySem.Env) (s : Shared) (H : Hp) (us : List V) (Q : VK) (E : XK), Room lv (A.deeper (envOfC qual (defScope d) s.heap.objs.size g cdv)) → sp us H Q E →
      ∃ t, PSs (cxOf (L2N.CX P w) P w K mg base M qual (defScope d) g cdv A outer s H E) (defBody d) t ∧ t { nx := fun _ H' => Q .non H', rt := Q } (start M us) H) : FnOk P w K mg base (L2N.CX P w) (lv + 1) g fd ps sp := by
  obtain ⟨_, _, _, _, _, _, cdv, _, _, rfl, look, code⟩ := F.ex
  exact fn_of look code Sc ln fun A outer s H us Q E room told => bd cdv A outer s H us Q E room told
end
/-- C(e, ..), the context told -/
theorem pmkN {Y : Cx} {CX : CXT} {x : Str} {e : Expr} {es : List Expr} {ta : TA} {p pos : Pos} {C fI : Addr} {lv : Nat} {fd : FuncData} {ps : List Str} {sp : Sp} (T : OexC Y.K C) (iC : PySem.W.findIn Y.K (.ref C) "__init__" = some (some (.ref fI))) (tI : PySem.W.typeIn Y.K (.ref fI) = some (.type "function"))
    (F1 : FnOk Y.prog Y.w Y.K Y.mg Y.base CX lv fI fd ps sp) (room : Room (lv + 1) Y.A) (bi : Binds Y.K fd ps []) (px : Passes CX Y (fun _ _ _ => False)) (gl : Gl Y x) (hm : Y.mg x = some (.ref C)) (ha : PA Y (e :: es) ta)
    (db : (x == ("__debug__" : Str)) = false := by decide) (st : starEach (e :: es) Y.env = (false, eval e Y.env) :: starEach es Y.env := by rfl) (pl : (backTo pos (starEach es Y.env)).any (·.1) = false := by rfl) :
    L2N.PMk Y (.Call (.Name x p) (e :: es) [] pos) (tMkO C sp [] ta) := by
  intro pins s τ G Q J told
  obtain ⟨_, _, _, _, bm, _, _, _, _, _, _, _, _, _, _, lookC, hbm⟩ := T.cls
  refine wpAny_Call_Name_kw (ld_glob J gl hm ?_ db)
  refine PySem.W.callWith_K (h₀ := Y.base) J.ok.mod.kin T.kC (thn (ha.run pos pins s τ G _ J told) fun us s1 ⟨vs, G1, J1, r1, small, want⟩ => ⟨J1.kIn, ?_⟩) st pl
  show wpAny _ _ (call (.ref C) us) _ _ _
  obtain ⟨hp, ge, dr, tk, os⟩ := s1
  have up1 : hp.objs.size ≤ hp.objs.size + 1 := Nat.le_succ _
  have now := want (hp.objs.size + 1) (J1.hok.fresh up1)
  have stay : ∀ b o, hp.get? b = some o → ((hp.push (PySem.W.kdv_tup us)).push (PySem.HandSPX.excO C hp.objs.size)).get? b = some o := fun b o z =>
    Heap.get?_push_of_some _ (Heap.get?_push_of_some _ z)
  have there : ((hp.push (PySem.W.kdv_tup us)).push (PySem.HandSPX.excO C hp.objs.size)).get? (hp.objs.size + 1) = some (PySem.HandSPX.excO C hp.objs.size) := (by heap_get)
  have J2 : Inv Y pins τ (upd G1 (hp.objs.size + 1) (exo (hp.objs.size + 1) C none)) ⟨(hp.push (PySem.W.kdv_tup us)).push (PySem.HandSPX.excO C hp.objs.size), ge, dr, tk, os⟩ :=
    J1.laid (a := hp.objs.size + 1) (t' := tk) (h' := (hp.push (PySem.W.kdv_tup us)).push (PySem.HandSPX.excO C hp.objs.size)) (o := exo (hp.objs.size + 1) C none) stay up1 (exo_ok there)
  have r2 : Vals (V.ref (hp.objs.size + 1) :: (vs ++ [])) (Value.ref (hp.objs.size + 1) :: (us ++ [])) := .cons rfl (r1.append .nil)
  have many : (Value.ref (hp.objs.size + 1) :: us ++ []).length = ps.length := r2.length.symm.trans (F1.len _ _ _ _ now)
  have few : us.length ≤ sizeLine := by rw [← Paired.length r1, sizeLine_eq]; omega
  refine wpAny_call (PySem.HandSPX.call_own F.excBase_ValueError (fun Z => PySem.HandSPX.refsVE_contains Z bm hbm) (J1.kIn _ _ lookC) (PySem.W.looks_findIn J1.kIn iC) (fun own => PySem.W.bind_fn J1.kIn own tI) few
    (codeAny_mono (F1.run _ Y.stack _ _ ⟨Value.ref (hp.objs.size + 1) :: us, []⟩ (Value.ref (hp.objs.size + 1) :: (us ++ [])) _ _ (fun _ _ _ => False) (room.make C us []) (J2.env0.make C us []) (by rw [← List.cons_append]; exact bi _ (Value.ref (hp.objs.size + 1) :: us) J2.kIn many) r2 now) fun r s' got => ?_))
  match r, got with
  | .error er, got => exact px pins τ _ _ er s' J2 got
  | .ok .next, got => exact False.elim got
  | .ok .brk, got => exact False.elim got
  | .ok .cont, got => exact False.elim got
  | .ok (.ret u), got =>
    obtain ⟨v, G2, os2, bare2, un2, ok2, rv, ev, d, fs, ea, ed, free1, last⟩ := got
    subst ev
    obtain ⟨h2, g2, d2, t2, os'⟩ := s'
    obtain ⟨_, G', J', kG, gone, here, na⟩ := mk_end0 (t2 := t2) (d2 := d2) J1 up1 stay un2 ok2 os2 bare2 ea ed free1
    refine ⟨rv, hp.objs.size + 1, _, _, ⟨G', g2, d2, t2, os'⟩, _, .ref C, some d, rfl, J', kG, gone, here, ⟨rfl, rfl, fun vs hv => ?_⟩, rfl, rfl, na, rfl, bare2, raises_own T.exC T.tyC, last⟩
    cases hv
    rfl
/-! ### while an exception is handled -/
/-- a text's iterator at its end -/
theorem ascii_end_hot {prog : Program} {w : World} {A : Around} {E : Value → Shared → Prop} {s : Shared} {jt x1 : Addr} {x : Str} {t : Tok} {i : Nat} {Q : Option Value → Shared → Prop} (hot : HotX.HotAt A x1 s.heap) (st : s.heap.IsStrIter jt "str_ascii_iterator" x t i) (none_ : x.cps[i]? = none)
    (k : ∀ h', (∀ b o, b ≠ jt → s.heap.get? b = some o → h'.get? b = some o) → Q none { s with heap := h' }) : wpAny (model prog w) A (pyNext (.ref jt)) Q E s := by
  obtain ⟨ho_, o1, vs1, h1, d1, c1⟩ := hot
  obtain ⟨ob, obG, obC, obD⟩ := id st
  have apart : x1 ≠ jt := fun z => by
    rw [z, obG] at h1
    cases h1
    rw [d1] at obD
    cases obD
    exact absurd c1 (by simp)
  unfold pyNext
  refine wpAny_bind (wpAny_attempt (wpAny_callSpecial?_slot (name := Str.ofString "__next__") st.typeIs F.slot_str_ascii_iterator_next (wpAny_call_entry F.slot_str_ascii_iterator_next st.typeIs F.entry_str_ascii_iterator_next ?_ (F.args_str_ascii_iterator_next_1 _))))
  show wpAny _ _ (field (.ref jt) 0 >>= _) _ _ s
  refine wpAny_bind (wpAny_field obG obD (x := .str x t) rfl ?_)
  show wpAny _ _ (field (.ref jt) 1 >>= _) _ _ s
  refine wpAny_bind (wpAny_field obG obD (x := .int i 0) rfl ?_)
  simp only [Int.toNat_natCast, none_]
  refine wpAny_bind (wpAny_rule (wpAny_bind (wpAny_setField obG obD (by simp) (wpAny_bind (wpAny_letGo ?_)))))
  show wpAny (model prog w) _ (newExc (.type "StopIteration") [] >>= _) _ _ _
  refine wpAny_bind (show wpAny (model prog w) _ (newExc (.type "StopIteration") []) _ _ _ from ?_)
  simp only [newTuple, newExc]
  refine wpAny_bind (wpAny_newObj_type (show wpAny (model prog w) _ _ _ _ _ from ?_) (by size_fits))
  refine wpAny_bind (m := firstArgMember _ _) (wpAny_of_eq (a := Value.none) (by first | rfl | (simp only [firstArgMember]; rfl)) (show wpAny (model prog w) _ _ _ _ _ from ?_))
  refine wpAny_newObj_type (show wpAny (model prog w) _ _ _ _ _ from ?_) (by size_fits)
  have far : ∀ b o, b ≠ jt → s.heap.get? b = some o → ∀ f, (s.heap.update jt f).get? b = some o := fun b o n z f => by
    rw [Heap.get?_update_other _ _ (Ne.symm n)]
    exact z
  refine HotX.raiseNew_hot (x1 := x1) ⟨ho_, o1, vs1, Heap.get?_push_of_some _ (Heap.get?_push_of_some _ (far _ _ apart h1 _)), d1, c1⟩ (Nat.ne_of_lt (Heap.lt_size (Heap.get?_push_of_some _ (far _ _ apart h1 _)))) (Heap.get?_push_size _ rfl) rfl (by first | (simp; done) | (simp; omega) | (simp only [Array.size_append]; simp; omega)) ?_
  refine wpAny_bind (wpAny_isInstance (b := true) (T := "StopIteration") ⟨_, Heap.get?_update_self _ (Heap.get?_push_size _ rfl) rfl, rfl⟩ isSubtype_stop ?_)
  refine wpAny_pure (k _ fun b o n z => ?_)
  have z2 := far b o n z
  rw [Heap.get?_update_other _ _ (Nat.ne_of_gt (Heap.lt_size (Heap.get?_push_of_some _ (z2 _))))]
  exact Heap.get?_push_of_some _ (Heap.get?_push_of_some _ (z2 _))
end Tw
/-! A layer of data over HandS: F the frozen part of the heap, H the whole; a slot holds data, an own list, or nothing known. -/
namespace Tw
open PySem PySem.Spec PyProof.Rows L2
abbrev Frag := PySem.W.Frag
abbrev NTab := NdefX.NTab
/-! ### data in a heap -/
mutual
def Dq (K : Frag) (F : Hp) : PyData → V → Prop
  | .none, v => v = .non
  | .bool b, v => v = .bl b
  | .int i, v => v = .int i
  | .str s, v => v = .str s
  | .list ds, v => ∃ a xs, v = .ref a ∧ F a = some (.lst xs) ∧ DqAll K F ds xs
  | .tuple ds, v => ∃ a xs, v = .ref a ∧ SqT K F a xs ∧ DqAll K F ds xs
  | .dict _, _ => False
def DqAll (K : Frag) (F : Hp) : List PyData → List V → Prop
  | [], xs => xs = []
  | d :: ds, xs => ∃ v vs, xs = v :: vs ∧ Dq K F d v ∧ DqAll K F ds vs
end
def Ex (F H : Hp) : Prop := ∀ a o, F a = some o → H a = some o ∨ ∃ ps ps', o = .tbl ps ∧ H a = some (.tbl ps')
theorem Ex.go {F H : Hp} (e : Ex F H) {a : Addr} {o : HO} (h : F a = some o) (n : ∀ ps, o ≠ .tbl ps := by exact fun ps z => by cases z) : H a = some o := by
  rcases e a o h with q | ⟨ps, _, q, _⟩
  · exact q
  · exact absurd q (n ps)
theorem Ex.of {F H : Hp} (h : ∀ a o, F a = some o → H a = some o) : Ex F H := fun a o q => .inl (h a o q)
theorem Ex.refl (F : Hp) : Ex F F := Ex.of fun _ _ h => h
theorem Ex.trans {F G H : Hp} (a : Ex F G) (b : Ex G H) : Ex F H := fun x o h => by
  rcases a x o h with q | ⟨ps, ps', rfl, q⟩
  · exact b x o q
  · rcases b x _ q with r | ⟨_, qs, _, r⟩
    · exact .inr ⟨ps, ps', rfl, r⟩
    · exact .inr ⟨ps, qs, rfl, r⟩
theorem Ex.new {F : Hp} {p : Addr} {o : HO} (h : F p = none) : Ex F (upd F p o) := Ex.of fun a u e => by
  rw [upd_ne (ne_of_none e h)]
  exact e
theorem Ex.free {F H : Hp} (e : Ex F H) {p : Addr} (h : H p = none) : F p = none := by
  cases q : F p with
  | none => rfl
  | some o => rcases e p o q with z | ⟨_, _, _, z⟩ <;> rw [h] at z <;> cases z
theorem Ex.tup {K : Frag} {F H : Hp} (e : Ex F H) {a : Addr} {xs : List V} (h : SqT K F a xs) : SqT K H a xs := by
  rcases h with (h | ⟨o, h⟩) | h
  · exact .inl (.inl (e.go h))
  · exact .inl (.inr ⟨o, e.go h⟩)
  · exact .inr h
mutual
theorem Dq.mono {K : Frag} {F H : Hp} (e : Ex F H) : ∀ (d : PyData) (v : V), Dq K F d v → Dq K H d v
  | .none, _, h => h
  | .bool _, _, h => h
  | .int _, _, h => h
  | .str _, _, h => h
  | .list ds, _, h => by
    obtain ⟨a, xs, h1, h2, h3⟩ := h
    exact ⟨a, xs, h1, e.go h2, DqAll.mono e ds xs h3⟩
  | .tuple ds, _, h => by
    obtain ⟨a, xs, h1, h2, h3⟩ := h
    exact ⟨a, xs, h1, e.tup h2, DqAll.mono e ds xs h3⟩
  | .dict _, _, h => h
theorem DqAll.mono {K : Frag} {F H : Hp} (e : Ex F H) : ∀ (ds : List PyData) (xs : List V), DqAll K F ds xs → DqAll K H ds xs
  | [], _, h => h
  | d :: ds, _, h => by
    obtain ⟨v, vs, h1, h2, h3⟩ := h
    exact ⟨v, vs, h1, Dq.mono e d v h2, DqAll.mono e ds vs h3⟩
end
mutual
theorem Dq.dp {K : Frag} {F : Hp} : ∀ (d : PyData) (v : V), Dq K F d v → Dp K F v d
  | .none, _, h => by
    have h : _ = V.non := h
    subst h
    exact .non
  | .bool b, _, h => by
    have h : _ = V.bl b := h
    subst h
    exact .bl b
  | .int i, _, h => by
    have h : _ = V.int i := h
    subst h
    exact .int i
  | .str s, _, h => by
    have h : _ = V.str s := h
    subst h
    exact .str s
  | .list ds, _, h => by
    obtain ⟨a, xs, rfl, h2, h3⟩ := h
    exact .lst (SqL.of h2) (DqAll.dp ds xs h3)
  | .tuple ds, _, h => by
    obtain ⟨a, xs, rfl, h2, h3⟩ := h
    exact .tup h2 (DqAll.dp ds xs h3)
  | .dict _, _, h => h.elim
theorem DqAll.dp {K : Frag} {F : Hp} : ∀ (ds : List PyData) (xs : List V), DqAll K F ds xs → DpAll K F xs ds
  | [], _, h => by
    have h : _ = [] := h
    subst h
    exact .nil
  | d :: ds, _, h => by
    obtain ⟨v, vs, rfl, h2, h3⟩ := h
    exact .cons (Dq.dp d v h2) (DqAll.dp ds vs h3)
end
section
variable {K : Frag} {F : Hp}
theorem DqAll.length : ∀ {ds : List PyData} {xs : List V}, DqAll K F ds xs → xs.length = ds.length
  | [], _, h => by
    have h : _ = [] := h
    rw [h]
    rfl
  | d :: ds, _, h => by
    obtain ⟨v, vs, rfl, _, h3⟩ := h
    show vs.length + 1 = ds.length + 1
    rw [DqAll.length h3]
theorem DqAll.get : ∀ {ds : List PyData} {xs : List V} {i : Nat} {d : PyData}, DqAll K F ds xs → ds[i]? = some d → ∃ v, xs[i]? = some v ∧ Dq K F d v
  | [], _, _, _, _, e => by simp at e
  | d :: ds, _, 0, _, h, e => by
    obtain ⟨v, vs, rfl, h2, _⟩ := h
    cases e
    exact ⟨v, rfl, h2⟩
  | d :: ds, _, i + 1, _, h, e => by
    obtain ⟨v, vs, rfl, _, h3⟩ := h
    exact DqAll.get (i := i) h3 e
theorem DqAll.get' : ∀ {ds : List PyData} {xs : List V} {i : Nat} {v : V}, DqAll K F ds xs → xs[i]? = some v → ∃ d, ds[i]? = some d ∧ Dq K F d v
  | [], _, _, _, h, e => by
    have h : _ = [] := h
    rw [h] at e
    simp at e
  | d :: ds, _, 0, _, h, e => by
    obtain ⟨v, vs, rfl, h2, _⟩ := h
    cases e
    exact ⟨d, rfl, h2⟩
  | d :: ds, _, i + 1, _, h, e => by
    obtain ⟨v, vs, rfl, _, h3⟩ := h
    exact DqAll.get' (i := i) h3 e
theorem DqAll.append : ∀ {ds es : List PyData} {xs ys : List V}, DqAll K F ds xs → DqAll K F es ys → DqAll K F (ds ++ es) (xs ++ ys)
  | [], _, _, _, h, h' => by
    have h : _ = [] := h
    rw [h]
    exact h'
  | d :: ds, _, _, _, h, h' => by
    obtain ⟨v, vs, rfl, h2, h3⟩ := h
    exact ⟨v, _, rfl, h2, DqAll.append h3 h'⟩
theorem DqAll.one {d : PyData} {v : V} (h : Dq K F d v) : DqAll K F [d] [v] := ⟨v, [], rfl, h, rfl⟩
theorem DqAll.take : ∀ {ds : List PyData} {xs : List V} (n : Nat), DqAll K F ds xs → DqAll K F (ds.take n) (xs.take n)
  | _, _, 0, _ => rfl
  | [], _, n + 1, h => by
    have h : _ = [] := h
    rw [h]
    rfl
  | d :: ds, _, n + 1, h => by
    obtain ⟨v, vs, rfl, h2, h3⟩ := h
    exact ⟨v, _, rfl, h2, DqAll.take n h3⟩
theorem DqAll.drop : ∀ {ds : List PyData} {xs : List V} (n : Nat), DqAll K F ds xs → DqAll K F (ds.drop n) (xs.drop n)
  | _, _, 0, h => h
  | [], _, n + 1, h => by
    have h : _ = [] := h
    rw [h]
    rfl
  | d :: ds, _, n + 1, h => by
    obtain ⟨v, vs, rfl, _, h3⟩ := h
    exact DqAll.drop n h3
theorem DqAll.ints : ∀ {ns : List Int} {xs : List V}, DqAll K F (ns.map .int) xs → xs = ns.map V.int
  | [], _, h => h
  | n :: ns, _, h => by
    obtain ⟨v, vs, rfl, h2, h3⟩ := h
    have h2 : v = .int n := h2
    rw [h2, DqAll.ints h3]
    rfl
theorem DqAll.of_ints : ∀ (ns : List Int), DqAll K F (ns.map .int) (ns.map V.int)
  | [] => rfl
  | n :: ns => ⟨.int n, _, rfl, rfl, DqAll.of_ints ns⟩
theorem DqAll.bools : ∀ {bs : List Bool} {xs : List V}, DqAll K F (bs.map .bool) xs → xs = bs.map V.bl
  | [], _, h => h
  | n :: ns, _, h => by
    obtain ⟨v, vs, rfl, h2, h3⟩ := h
    have h2 : v = .bl n := h2
    rw [h2, DqAll.bools h3]
    rfl
theorem DqAll.strs : ∀ {ss : List Str} {xs : List V}, DqAll K F (ss.map .str) xs → xs = ss.map V.str
  | [], _, h => h
  | n :: ns, _, h => by
    obtain ⟨v, vs, rfl, h2, h3⟩ := h
    have h2 : v = .str n := h2
    rw [h2, DqAll.strs h3]
    rfl
end
/-! ### what a value is known to be -/
structure Ty where
  p : V → Hp → Prop
  mono : ∀ {F H : Hp} {v : V}, Ex F H → p v F → p v H
def sh (K : Frag) (d : PyData) : Ty := ⟨fun v F => Dq K F d v, fun e h => Dq.mono e d _ h⟩
inductive Slot where
  | un
  | sh (P : Ty)
  | own (ds : List PyData)
abbrev Gm := List Slot
/-! ### how heaps grow -/
structure Grow (T : List NTab) (F H F2 H2 : Hp) : Prop where
  f : Ex F F2
  ex : Ex F2 H2
  h : ∀ a o, H a = some o → (∀ ps, o ≠ .tbl ps) → H2 a = some o
  own : ∀ a, F a = none → H a ≠ none → F2 a = none
  tab : NdefX.TabsN T H → NdefX.TabsN T H2
  free : ∀ a, H2 a = none → H a = none
theorem Grow.refl {T : List NTab} {F H : Hp} (e : Ex F H) : Grow T F H F H := ⟨Ex.refl _, e, fun _ _ h _ => h, fun _ h _ => h, fun h => h, fun _ h => h⟩
theorem Grow.trans {T : List NTab} {F H F1 H1 F2 H2 : Hp} (a : Grow T F H F1 H1) (b : Grow T F1 H1 F2 H2) : Grow T F H F2 H2 :=
  ⟨a.f.trans b.f, b.ex, fun c o h n => b.h c o (a.h c o h n) n, fun c h1 h2 => b.own c (a.own c h1 h2) fun z => h2 (a.free c z), fun t => b.tab (a.tab t), fun c h => a.free c (b.free c h)⟩
/-- a new object, frozen -/
theorem Grow.new {T : List NTab} {F H : Hp} {p : Addr} {o : HO} (e : Ex F H) (h : H p = none) : Grow T F H (upd F p o) (upd H p o) :=
  ⟨Ex.new (e.free h), fun a u q => by
    by_cases c : a = p
    · rw [c, upd_same] at q ⊢
      exact .inl q
    · rw [upd_ne c] at q ⊢
      exact e a u q, fun a u q _ => by
    rw [upd_ne (ne_of_none q h)]
    exact q, fun a h1 h2 => by
    rw [upd_ne (fun z => h2 (by rw [z]; exact h))]
    exact h1, fun t => t.ext fun b o q => by
    rw [upd_ne (ne_of_none q h)]
    exact q, fun a q => by
    by_cases c : a = p
    · rw [c]
      exact h
    · rw [upd_ne c] at q
      exact q⟩
/-- a new object, not frozen -/
theorem Grow.raw {T : List NTab} {F H : Hp} {p : Addr} {o : HO} (e : Ex F H) (h : H p = none) : Grow T F H F (upd H p o) :=
  ⟨Ex.refl _, fun a u q => by
    rw [upd_ne (ne_of_none q (e.free h))]
    exact e a u q, fun a u q _ => by
    rw [upd_ne (ne_of_none q h)]
    exact q, fun a h1 _ => h1, fun t => t.ext fun b o q => by
    rw [upd_ne (ne_of_none q h)]
    exact q, fun a q => by
    by_cases c : a = p
    · rw [c]
      exact h
    · rw [upd_ne c] at q
      exact q⟩
/-- what may be changed: a list, a dict, an instance -/
def Chg : HO → Prop
  | .lst _ => True
  | .dK _ => True
  | .ins _ _ _ => True
  | _ => False
theorem tabs_upd {T : List NTab} {H : Hp} {p : Addr} {o u : HO} (hp : H p = some o) (ho : Chg o) (t : NdefX.TabsN T H) : NdefX.TabsN T (upd H p u) := fun b hb => by
  obtain ⟨ps, h1, h2, h3⟩ := t b hb
  have ne : ∀ c w, H c = some w → ¬ Chg w → c ≠ p := fun c w e k z => by
    rw [z, hp] at e
    cases e
    exact k ho
  refine ⟨ps, by rw [upd_ne (ne _ _ h1 (fun z => z))]; exact h1, h2, fun pos cv hc => ?_⟩
  obtain ⟨c, e1, e2⟩ := h3 pos cv hc
  exact ⟨c, e1, by rw [upd_ne (ne _ _ e2 (fun z => z))]; exact e2⟩
/-- an own object that the start did not know is changed -/
theorem Grow.mut {T : List NTab} {F0 H0 F H : Hp} {p : Addr} {o u : HO} (g : Grow T F0 H0 F H) (h0 : H0 p = none) (hF : F p = none) (hp : H p = some o) (ho : Chg o) : Grow T F0 H0 F (upd H p u) :=
  ⟨g.f, fun a w q => by
    rw [upd_ne (ne_of_none q hF)]
    exact g.ex a w q, fun a w q n => by
    rw [upd_ne (ne_of_none q h0)]
    exact g.h a w q n, g.own, fun t => tabs_upd hp ho (g.tab t), fun a q => by
    by_cases c : a = p
    · rw [c]
      exact h0
    · rw [upd_ne c] at q
      exact g.free a q⟩
/-- an own object is frozen -/
theorem Grow.freeze {T : List NTab} {F0 H0 F H : Hp} {p : Addr} {o : HO} (g : Grow T F0 H0 F H) (h0 : H0 p = none) (hF : F p = none) (hp : H p = some o) : Grow T F0 H0 (upd F p o) H :=
  ⟨g.f.trans (Ex.new hF), fun a u q => by
    by_cases c : a = p
    · rw [c, upd_same] at q
      rw [c, hp]
      exact .inl q
    · rw [upd_ne c] at q
      exact g.ex a u q, g.h, fun a h1 h2 => by
    rw [upd_ne (fun z => h2 (by rw [z]; exact h0))]
    exact g.own a h1 h2, g.tab, g.free⟩
/-! ### environments -/
def Env (γ : Gm) (σ : L2.St) (F : Hp) : Prop := σ.length = γ.length ∧ ∀ (i : Nat) (P : Ty), γ[i]? = some (.sh P) → ∃ v, σ[i]? = some (some v) ∧ P.p v F
theorem Env.mono {γ : Gm} {σ : L2.St} {F F2 : Hp} (e : Ex F F2) (h : Env γ σ F) : Env γ σ F2 := ⟨h.1, fun i P hi => by
  obtain ⟨v, h1, h2⟩ := h.2 i P hi
  exact ⟨v, h1, P.mono e h2⟩⟩
theorem Env.set {γ : Gm} {σ : L2.St} {F : Hp} (h : Env γ σ F) {i : Nat} {P : Ty} {v : V} (p : P.p v F) : Env (γ.set i (.sh P)) (σ.set i (some v)) F := ⟨by rw [List.length_set, List.length_set]; exact h.1, fun j R hj => by
  by_cases c : i = j
  · subst c
    by_cases hl : i < γ.length
    · rw [List.getElem?_set_self hl] at hj
      cases hj
      exact ⟨v, by rw [List.getElem?_set_self (by rw [h.1]; exact hl)], p⟩
    · rw [List.getElem?_eq_none (by rw [List.length_set]; omega)] at hj
      cases hj
  · rw [List.getElem?_set_ne c] at hj ⊢
    exact h.2 j R hj⟩
theorem Env.blank {γ : Gm} {σ : L2.St} {F : Hp} (h : Env γ σ F) (i : Nat) (o : Option V) : Env (γ.set i .un) (σ.set i o) F := ⟨by rw [List.length_set, List.length_set]; exact h.1, fun j R hj => by
  by_cases c : i = j
  · subst c
    by_cases hl : i < γ.length
    · rw [List.getElem?_set_self hl] at hj
      cases hj
    · rw [List.getElem?_eq_none (by rw [List.length_set]; omega)] at hj
      cases hj
  · rw [List.getElem?_set_ne c] at hj ⊢
    exact h.2 j R hj⟩
theorem Env.setOwn {γ : Gm} {σ : L2.St} {F : Hp} (h : Env γ σ F) (i : Nat) (o : Option V) (ds : List PyData) : Env (γ.set i (.own ds)) (σ.set i o) F := ⟨by rw [List.length_set, List.length_set]; exact h.1, fun j R hj => by
  by_cases c : i = j
  · subst c
    by_cases hl : i < γ.length
    · rw [List.getElem?_set_self hl] at hj
      cases hj
    · rw [List.getElem?_eq_none (by rw [List.length_set]; omega)] at hj
      cases hj
  · rw [List.getElem?_set_ne c] at hj ⊢
    exact h.2 j R hj⟩
structure St0 (T : List NTab) (γ : Gm) (σ : L2.St) (F H : Hp) : Prop where
  ex : Ex F H
  env : Env γ σ F
  tab : NdefX.TabsN T H
theorem St0.grow {T : List NTab} {γ : Gm} {σ : L2.St} {F H F2 H2 : Hp} (s : St0 T γ σ F H) (g : Grow T F H F2 H2) : St0 T γ σ F2 H2 := ⟨g.ex, s.env.mono g.f, g.tab s.tab⟩
/-! ### expressions -/
def Post (T : List NTab) (F H : Hp) (P : Ty) (Q : VK) : Prop := ∀ v F2 H2, Grow T F H F2 H2 → P.p v F2 → Q v H2
def tEv (T : List NTab) (γ : Gm) (P : Ty) : TE := fun σ H Q => ∃ F, St0 T γ σ F H ∧ Post T F H P Q
abbrev Ev (X : Cx) (T : List NTab) (γ : Gm) (e : Expr) (P : Ty) : Prop := PE X e (tEv T γ P)
def tTs (T : List NTab) (γ : Gm) (b : Bool) : TT := fun σ H Q => ∃ F, St0 T γ σ F H ∧ ∀ F2 H2, Grow T F H F2 H2 → Q b H2
abbrev EvT (X : Cx) (T : List NTab) (γ : Gm) (e : Expr) (b : Bool) : Prop := PT X e (tTs T γ b)
abbrev EvW (X : Cx) (T : List NTab) (γ : Gm) (e : Expr) (b : Bool) : Prop := PW X e (tTs T γ b)
def AllP : List Ty → List V → Hp → Prop
  | [], xs, _ => xs = []
  | P :: Ps, xs, F => ∃ v vs, xs = v :: vs ∧ P.p v F ∧ AllP Ps vs F
theorem AllP.mono {F H : Hp} (e : Ex F H) : ∀ {Ps : List Ty} {xs : List V}, AllP Ps xs F → AllP Ps xs H
  | [], _, h => h
  | P :: Ps, _, h => by
    obtain ⟨v, vs, h1, h2, h3⟩ := h
    exact ⟨v, vs, h1, P.mono e h2, AllP.mono e h3⟩
theorem AllP.length {F : Hp} : ∀ {Ps : List Ty} {xs : List V}, AllP Ps xs F → xs.length = Ps.length
  | [], _, h => by
    have h : _ = [] := h
    rw [h]
    rfl
  | P :: Ps, _, h => by
    obtain ⟨v, vs, rfl, _, h3⟩ := h
    show vs.length + 1 = Ps.length + 1
    rw [AllP.length h3]
def tArgs (T : List NTab) (γ : Gm) (Ps : List Ty) : TA := fun σ H Q => ∃ F, St0 T γ σ F H ∧ ∀ vs F2 H2, Grow T F H F2 H2 → AllP Ps vs F2 → Q vs H2
abbrev EvA (X : Cx) (T : List NTab) (γ : Gm) (es : List Expr) (Ps : List Ty) : Prop := PA X es (tArgs T γ Ps)
/-- a new list, not frozen -/
def tNew (T : List NTab) (K : Frag) (γ : Gm) (ds : List PyData) : TE := fun σ H Q => ∃ F, St0 T γ σ F H ∧ ∀ a xs F2 H2, Grow T F H F2 H2 → H a = none → F2 a = none → H2 a = some (.lst xs) → DqAll K F2 ds xs → Q (.ref a) H2
abbrev EvN (X : Cx) (T : List NTab) (γ : Gm) (e : Expr) (ds : List PyData) : Prop := PE X e (tNew T X.K γ ds)
theorem PE.imp {X : Cx} {e : Expr} {t t' : TE} (h : PE X e t) (i : ∀ σ H Q, t' σ H Q → t σ H Q) : PE X e t' := ⟨fun pins s σ H Q I q => h.run pins s σ H Q I (i σ H Q q)⟩
theorem PT.imp {X : Cx} {e : Expr} {t t' : TT} (h : PT X e t) (i : ∀ σ H Q, t' σ H Q → t σ H Q) : PT X e t' := ⟨fun pins s σ H Q I q => h.run pins s σ H Q I (i σ H Q q)⟩
theorem PW.imp {X : Cx} {e : Expr} {t t' : TT} (h : PW X e t) (i : ∀ σ H Q, t' σ H Q → t σ H Q) : PW X e t' := ⟨fun wh pins s σ H Q I q => h.run wh pins s σ H Q I (i σ H Q q)⟩
theorem PA.imp {X : Cx} {es : List Expr} {t t' : TA} (h : PA X es t) (i : ∀ σ H Q, t' σ H Q → t σ H Q) : PA X es t' := ⟨fun pos pins s σ H Q I q => h.run pos pins s σ H Q I (i σ H Q q)⟩
section
variable {X : Cx} {T : List NTab} {γ : Gm} {P R : Ty} {pos : Pos} {a b c e : Expr} {es : List Expr}
theorem EvN.sh {ds : List PyData} (h : EvN X T γ e ds) : Ev X T γ e (sh X.K (.list ds)) := PE.imp h fun σ H Q ⟨F, s, k⟩ => ⟨F, s, fun a xs F2 H2 g h1 h2 h3 h4 => by
  have g2 := g.freeze h1 h2 h3
  refine k _ _ _ g2 ⟨a, xs, rfl, upd_same, DqAll.mono (Ex.new h2) ds xs h4⟩⟩
theorem Ev.cast {d d' : PyData} (h : Ev X T γ e (sh X.K d)) (q : d = d') : Ev X T γ e (sh X.K d') := q ▸ h
theorem EvN.cast {d d' : List PyData} (h : EvN X T γ e d) (q : d = d') : EvN X T γ e d' := q ▸ h
theorem EvT.cast {d d' : Bool} (h : EvT X T γ e d) (q : d = d') : EvT X T γ e d' := q ▸ h
theorem ev_var (i : Nat) {x : Str} (hi : γ[i]? = some (.sh P)) (hN : X.N[i]? = some x := by rfl) (hv : Vis X.env.scope x := by first | exact Or.inl rfl | exact Or.inr (Or.inl rfl) | exact Or.inr (Or.inr rfl)) (hd : (x == ("__debug__" : Str)) = false := by decide)
    (hcd : (x == ("__classdict__" : Str)) = false := by decide) : Ev X T γ (.Name x pos) P :=
  PE.imp (pe_var hN hv hd hcd) fun σ H Q ⟨F, s, k⟩ => let ⟨v, e, p⟩ := s.env.2 i P hi; ⟨v, e, k v F H (Grow.refl s.ex) p⟩
theorem ev_int {i : Int} {j : Nat} : Ev X T γ (.Constant (.int i) j pos) (sh X.K (.int i)) := PE.imp pe_int fun σ H Q ⟨F, s, k⟩ => k _ F H (Grow.refl s.ex) rfl
theorem ev_bl {i : Bool} {j : Nat} : Ev X T γ (.Constant (.bool i) j pos) (sh X.K (.bool i)) := PE.imp pe_bl fun σ H Q ⟨F, s, k⟩ => k _ F H (Grow.refl s.ex) rfl
theorem ev_non {j : Nat} : Ev X T γ (.Constant .none j pos) (sh X.K .none) := PE.imp pe_non fun σ H Q ⟨F, s, k⟩ => k _ F H (Grow.refl s.ex) rfl
theorem ev_str {i : Str} {j : Nat} : Ev X T γ (.Constant (.str i) j pos) (sh X.K (.str i)) := PE.imp pe_str fun σ H Q ⟨F, s, k⟩ => k _ F H (Grow.refl s.ex) rfl
/-- a constant of the module -/
theorem ev_glob {x : Str} {v : V} {u : Value} (hm : X.mg x = some u) (r : RelV v u) (hp : ∀ F, P.p v F) (hg : Gl X x := by rfl) (hd : (x == ("__debug__" : Str)) = false := by decide) : Ev X T γ (.Name x pos) P :=
  PE.imp (pe_glob hg hm r hd) fun σ H Q ⟨F, s, k⟩ => k _ F H (Grow.refl s.ex) (hp F)
/-! ### two operands, by values -/
def RuleD (T : List NTab) (r : R2) (A B C : Ty) : Prop := ∀ x y F H Q, Ex F H → A.p x F → B.p y F → Post T F H C Q → r x y H Q
theorem bin_imp {r : R2} {A B C : Ty} (hr : RuleD T r A B C) (σ : L2.St) (H : Hp) (Q : VK) (h : tEv T γ C σ H Q) : tOp r (tEv T γ A) (tEv T γ B) σ H Q := by
  obtain ⟨F, s, k⟩ := h
  refine ⟨F, s, fun x F1 H1 g1 p1 => ⟨F1, s.grow g1, fun y F2 H2 g2 p2 => ?_⟩⟩
  exact hr x y F2 H2 Q g2.ex (A.mono g2.f p1) p2 fun v F3 H3 g3 p3 => k v F3 H3 ((g1.trans g2).trans g3) p3
theorem ev_op {op : Operator} {r : R2} {A B C : Ty} (ho : OpR X (binaryOp op) r) (hr : RuleD T r A B C) (ha : Ev X T γ a A) (hb : Ev X T γ b B) : Ev X T γ (.BinOp a op b pos) C := PE.imp (pe_op ho ha hb) (bin_imp hr)
theorem ev_cmp {op : CmpOp} {r : R2} {A B C : Ty} (ho : OpR X (compareOp op) r) (hr : RuleD T r A B C) (ha : Ev X T γ a A) (hb : Ev X T γ b B) (hm : behindInMarks op b = false) : Ev X T γ (.Compare a [op] [b] pos) C := PE.imp (pe_cmpR ho ha hb hm) (bin_imp hr)
theorem evt_cmp {op : CmpOp} {r : R2} {A B : Ty} {k : Bool} (ho : OpR X (compareOp op) r) (hr : RuleD T r A B (sh X.K (.bool k))) (ha : Ev X T γ a A) (hb : Ev X T γ b B) (hm : behindInMarks op b = false) : EvT X T γ (.Compare a [op] [b] pos) k :=
  PT.imp (pt_cmpR ho ha hb hm) fun σ H Q ⟨F, s, h⟩ => by
    show tOp r (tEv T γ A) (tEv T γ B) σ H _
    exact bin_imp hr σ H _ ⟨F, s, fun v F2 H2 g p => ⟨k, p, h F2 H2 g⟩⟩
def ri0 (g : Int → Int → V) : R2 := rI0 g
theorem rd_int {K : Frag} {g : Int → Int → Int} {i j : Int} : RuleD T (rI0 fun i j => .int (g i j)) (sh K (.int i)) (sh K (.int j)) (sh K (.int (g i j))) := fun x y F H Q e p q k => ⟨i, j, p, q, k _ F H (Grow.refl e) rfl⟩
theorem rd_intC {K : Frag} {C : Int → Int → Prop} {g : Int → Int → Int} {i j : Int} (hc : C i j) : RuleD T (rI C fun i j => .int (g i j)) (sh K (.int i)) (sh K (.int j)) (sh K (.int (g i j))) := fun x y F H Q e p q k => ⟨i, j, p, q, hc, k _ F H (Grow.refl e) rfl⟩
theorem rd_cmp {K : Frag} {g : Int → Int → Bool} {i j : Int} : RuleD T (rI0 fun i j => .bl (g i j)) (sh K (.int i)) (sh K (.int j)) (sh K (.bool (g i j))) := fun x y F H Q e p q k => ⟨i, j, p, q, k _ F H (Grow.refl e) rfl⟩
theorem ev_add {i j : Int} (ha : Ev X T γ a (sh X.K (.int i))) (hb : Ev X T γ b (sh X.K (.int j))) : Ev X T γ (.BinOp a .Add b pos) (sh X.K (.int (i + j))) := ev_op op_add (rd_int (g := fun i j => i + j)) ha hb
theorem ev_sub {i j : Int} (ha : Ev X T γ a (sh X.K (.int i))) (hb : Ev X T γ b (sh X.K (.int j))) : Ev X T γ (.BinOp a .Sub b pos) (sh X.K (.int (i - j))) := ev_op op_sub (rd_int (g := fun i j => i - j)) ha hb
theorem ev_mul {i j : Int} (h : CMul i j) (ha : Ev X T γ a (sh X.K (.int i))) (hb : Ev X T γ b (sh X.K (.int j))) : Ev X T γ (.BinOp a .Mult b pos) (sh X.K (.int (i * j))) := ev_op op_mul (rd_intC (g := fun i j => i * j) h) ha hb
theorem ev_fdiv {i j : Int} (h : CDiv i j) (ha : Ev X T γ a (sh X.K (.int i))) (hb : Ev X T γ b (sh X.K (.int j))) : Ev X T γ (.BinOp a .FloorDiv b pos) (sh X.K (.int (i / j))) := ev_op op_fdiv (rd_intC (g := fun i j => i / j) h) ha hb
theorem ev_mod {i j : Int} (h : 0 < j) (ha : Ev X T γ a (sh X.K (.int i))) (hb : Ev X T γ b (sh X.K (.int j))) : Ev X T γ (.BinOp a .Mod b pos) (sh X.K (.int (i % j))) := ev_op op_mod (rd_intC (C := fun _ j => 0 < j) (g := fun i j => i % j) h) ha hb
theorem evt_lt {i j : Int} (ha : Ev X T γ a (sh X.K (.int i))) (hb : Ev X T γ b (sh X.K (.int j))) : EvT X T γ (.Compare a [.Lt] [b] pos) (decide (i < j)) := evt_cmp op_lt (rd_cmp (g := fun i j => decide (i < j))) ha hb (nomark _)
theorem evt_le {i j : Int} (ha : Ev X T γ a (sh X.K (.int i))) (hb : Ev X T γ b (sh X.K (.int j))) : EvT X T γ (.Compare a [.LtE] [b] pos) (decide (i ≤ j)) := evt_cmp op_le (rd_cmp (g := fun i j => decide (i ≤ j))) ha hb (nomark _)
theorem evt_gt {i j : Int} (ha : Ev X T γ a (sh X.K (.int i))) (hb : Ev X T γ b (sh X.K (.int j))) : EvT X T γ (.Compare a [.Gt] [b] pos) (decide (j < i)) := evt_cmp op_gt (rd_cmp (g := fun i j => decide (j < i))) ha hb (nomark _)
theorem evt_ge {i j : Int} (ha : Ev X T γ a (sh X.K (.int i))) (hb : Ev X T γ b (sh X.K (.int j))) : EvT X T γ (.Compare a [.GtE] [b] pos) (decide (j ≤ i)) := evt_cmp op_ge (rd_cmp (g := fun i j => decide (j ≤ i))) ha hb (nomark _)
theorem ev_lt {i j : Int} (ha : Ev X T γ a (sh X.K (.int i))) (hb : Ev X T γ b (sh X.K (.int j))) : Ev X T γ (.Compare a [.Lt] [b] pos) (sh X.K (.bool (decide (i < j)))) := ev_cmp op_lt (rd_cmp (g := fun i j => decide (i < j))) ha hb (nomark _)
theorem ev_le {i j : Int} (ha : Ev X T γ a (sh X.K (.int i))) (hb : Ev X T γ b (sh X.K (.int j))) : Ev X T γ (.Compare a [.LtE] [b] pos) (sh X.K (.bool (decide (i ≤ j)))) := ev_cmp op_le (rd_cmp (g := fun i j => decide (i ≤ j))) ha hb (nomark _)
theorem ev_gt {i j : Int} (ha : Ev X T γ a (sh X.K (.int i))) (hb : Ev X T γ b (sh X.K (.int j))) : Ev X T γ (.Compare a [.Gt] [b] pos) (sh X.K (.bool (decide (j < i)))) := ev_cmp op_gt (rd_cmp (g := fun i j => decide (j < i))) ha hb (nomark _)
end
end Tw
namespace Tw
open PySem PySem.Spec PyProof.Rows L2
section
variable {X : Cx} {T : List NTab} {γ : Gm} {P R : Ty} {pos : Pos} {a b c e : Expr} {es : List Expr}
/-! ### ==, != of numbers, texts; of data; is None -/
theorem rd_eqI {K : Frag} {i j : Int} : RuleD T rEq (sh K (.int i)) (sh K (.int j)) (sh K (.bool (decide (i = j)))) := fun x y F H Q e p q k => by
  have p : x = V.int i := p
  have q : y = V.int j := q
  subst p q
  refine ⟨rfl, k _ F H (Grow.refl e) ?_⟩
  show V.bl _ = V.bl _
  simp
theorem rd_neI {K : Frag} {i j : Int} : RuleD T rNe (sh K (.int i)) (sh K (.int j)) (sh K (.bool (!decide (i = j)))) := fun x y F H Q e p q k => by
  have p : x = V.int i := p
  have q : y = V.int j := q
  subst p q
  refine ⟨rfl, k _ F H (Grow.refl e) ?_⟩
  show V.bl _ = V.bl _
  simp
theorem rd_eqS {K : Frag} {i j : Str} : RuleD T rEq (sh K (.str i)) (sh K (.str j)) (sh K (.bool (decide (i = j)))) := fun x y F H Q e p q k => by
  have p : x = V.str i := p
  have q : y = V.str j := q
  subst p q
  refine ⟨rfl, k _ F H (Grow.refl e) ?_⟩
  show V.bl _ = V.bl _
  simp
/-- a number or None, beside a number -/
def optD : Option Int → PyData
  | none => .none
  | some i => .int i
theorem rd_eqO {K : Frag} {i : Option Int} {j : Int} : RuleD T rEq (sh K (optD i)) (sh K (.int j)) (sh K (.bool (decide (i = some j)))) := fun x y F H Q e p q k => by
  have q : y = V.int j := q
  subst q
  cases i with
  | none =>
    have p : x = V.non := p
    subst p
    refine ⟨rfl, k _ F H (Grow.refl e) ?_⟩
    show V.bl _ = V.bl _
    simp
  | some i =>
    have p : x = V.int i := p
    subst p
    refine ⟨rfl, k _ F H (Grow.refl e) ?_⟩
    show V.bl _ = V.bl _
    simp
theorem evt_eqI {i j : Int} (ha : Ev X T γ a (sh X.K (.int i))) (hb : Ev X T γ b (sh X.K (.int j))) : EvT X T γ (.Compare a [.Eq] [b] pos) (decide (i = j)) := evt_cmp op_eq rd_eqI ha hb (nomark _)
theorem evt_neI {i j : Int} (ha : Ev X T γ a (sh X.K (.int i))) (hb : Ev X T γ b (sh X.K (.int j))) : EvT X T γ (.Compare a [.NotEq] [b] pos) (!decide (i = j)) := evt_cmp op_ne rd_neI ha hb (nomark _)
theorem evt_eqS {i j : Str} (ha : Ev X T γ a (sh X.K (.str i))) (hb : Ev X T γ b (sh X.K (.str j))) : EvT X T γ (.Compare a [.Eq] [b] pos) (decide (i = j)) := evt_cmp op_eq rd_eqS ha hb (nomark _)
theorem evt_eqO {i : Option Int} {j : Int} (ha : Ev X T γ a (sh X.K (optD i))) (hb : Ev X T γ b (sh X.K (.int j))) : EvT X T γ (.Compare a [.Eq] [b] pos) (decide (i = some j)) := evt_cmp op_eq rd_eqO ha hb (nomark _)
theorem ev_eqI {i j : Int} (ha : Ev X T γ a (sh X.K (.int i))) (hb : Ev X T γ b (sh X.K (.int j))) : Ev X T γ (.Compare a [.Eq] [b] pos) (sh X.K (.bool (decide (i = j)))) := ev_cmp op_eq rd_eqI ha hb (nomark _)
theorem rd_eqD {K : Frag} {d d' : PyData} (s : SeqAt.shaped d = true) (s' : SeqAt.shaped d' = true) : RuleD T (rEqD K) (sh K d) (sh K d') (sh K (.bool (PyData.eqv d d'))) := fun x y F H Q e p q k =>
  ⟨d, d', Dq.dp d x (Dq.mono e d x p), Dq.dp d' y (Dq.mono e d' y q), s, s', k _ F H (Grow.refl e) rfl⟩
theorem rd_neD {K : Frag} {d d' : PyData} (s : SeqAt.shaped d = true) (s' : SeqAt.shaped d' = true) : RuleD T (rNeD K) (sh K d) (sh K d') (sh K (.bool (!PyData.eqv d d'))) := fun x y F H Q e p q k =>
  ⟨d, d', Dq.dp d x (Dq.mono e d x p), Dq.dp d' y (Dq.mono e d' y q), s, s', k _ F H (Grow.refl e) rfl⟩
theorem evt_eqD {d d' : PyData} (hu : X.A.units + 64 < cLine) (s : SeqAt.shaped d = true) (s' : SeqAt.shaped d' = true) (ha : Ev X T γ a (sh X.K d)) (hb : Ev X T γ b (sh X.K d')) : EvT X T γ (.Compare a [.Eq] [b] pos) (PyData.eqv d d') := evt_cmp (op_eqD hu) (rd_eqD s s') ha hb (nomark _)
theorem ev_eqD {d d' : PyData} (hu : X.A.units + 64 < cLine) (s : SeqAt.shaped d = true) (s' : SeqAt.shaped d' = true) (ha : Ev X T γ a (sh X.K d)) (hb : Ev X T γ b (sh X.K d')) : Ev X T γ (.Compare a [.Eq] [b] pos) (sh X.K (.bool (PyData.eqv d d'))) := ev_cmp (op_eqD hu) (rd_eqD s s') ha hb (nomark _)
theorem evt_neD {d d' : PyData} (hu : X.A.units + 64 < cLine) (s : SeqAt.shaped d = true) (s' : SeqAt.shaped d' = true) (ha : Ev X T γ a (sh X.K d)) (hb : Ev X T γ b (sh X.K d')) : EvT X T γ (.Compare a [.NotEq] [b] pos) (!PyData.eqv d d') := evt_cmp (op_neD hu) (rd_neD s s') ha hb (nomark _)
def isNo : PyData → Bool
  | .none => true
  | _ => false
theorem isNo_is {K : Frag} {F : Hp} {d : PyData} {v : V} (h : Dq K F d v) : decide (v = V.non) = isNo d := by
  cases d with
  | none =>
    have h : v = V.non := h
    rw [h]
    rfl
  | bool b =>
    have h : v = V.bl b := h
    rw [h]
    rfl
  | int b =>
    have h : v = V.int b := h
    rw [h]
    rfl
  | str b =>
    have h : v = V.str b := h
    rw [h]
    rfl
  | list b =>
    obtain ⟨p, xs, rfl, _⟩ := h
    rfl
  | tuple b =>
    obtain ⟨p, xs, rfl, _⟩ := h
    rfl
  | dict b => exact h.elim
theorem evt_isN {d : PyData} {j : Nat} {pos' : Pos} (ha : Ev X T γ a (sh X.K d)) : EvT X T γ (.Compare a [.Is] [.Constant .none j pos'] pos) (isNo d) :=
  evt_cmp (op_isN (X := X)) (B := sh X.K .none) (fun x y F H Q e p q k => ⟨q, k _ F H (Grow.refl e) (by
    show V.bl _ = V.bl _
    rw [isNo_is p])⟩) ha ev_non (nomark _)
theorem evt_notN {d : PyData} {j : Nat} {pos' : Pos} (ha : Ev X T γ a (sh X.K d)) : EvT X T γ (.Compare a [.IsNot] [.Constant .none j pos'] pos) (!isNo d) :=
  evt_cmp (op_notN (X := X)) (B := sh X.K .none) (fun x y F H Q e p q k => ⟨q, k _ F H (Grow.refl e) (by
    show V.bl _ = V.bl _
    rw [isNo_is p])⟩) ha ev_non (nomark _)
theorem ev_isN {d : PyData} {j : Nat} {pos' : Pos} (ha : Ev X T γ a (sh X.K d)) : Ev X T γ (.Compare a [.Is] [.Constant .none j pos'] pos) (sh X.K (.bool (isNo d))) :=
  ev_cmp (op_isN (X := X)) (B := sh X.K .none) (fun x y F H Q e p q k => ⟨q, k _ F H (Grow.refl e) (by
    show V.bl _ = V.bl _
    rw [isNo_is p])⟩) ha ev_non (nomark _)
/-! ### in -/
theorem rd_inS {K : Frag} {s : Str} {ss : List Str} : RuleD T (rIn K false) (sh K (.str s)) (sh K (.tuple (ss.map .str))) (sh K (.bool (ss.any fun z => z == s))) := fun x y F H Q e p q k => by
  have p : x = V.str s := p
  obtain ⟨b, xs, rfl, h2, h3⟩ := q
  have h4 := DqAll.strs h3
  subst p h4
  refine ⟨b, _, rfl, .inr (e.tup h2), rfl, ?_, k _ F H (Grow.refl e) ?_⟩
  · rw [List.all_map]
    exact List.all_eq_true.mpr fun _ _ => rfl
  · show V.bl (if false = true then _ else inV (.str s) (ss.map V.str)) = V.bl _
    rw [if_neg Bool.false_ne_true]
    unfold inV
    rw [List.any_map]
    rfl
theorem rd_inI {K : Frag} {s : Int} {ss : List Int} : RuleD T (rIn K false) (sh K (.int s)) (sh K (.tuple (ss.map .int))) (sh K (.bool (ss.any fun z => z == s))) := fun x y F H Q e p q k => by
  have p : x = V.int s := p
  obtain ⟨b, xs, rfl, h2, h3⟩ := q
  have h4 := DqAll.ints h3
  subst p h4
  refine ⟨b, _, rfl, .inr (e.tup h2), rfl, ?_, k _ F H (Grow.refl e) ?_⟩
  · rw [List.all_map]
    exact List.all_eq_true.mpr fun _ _ => rfl
  · show V.bl (if false = true then _ else inV (.int s) (ss.map V.int)) = V.bl _
    rw [if_neg Bool.false_ne_true]
    unfold inV
    rw [List.any_map]
    rfl
theorem evt_inS {s : Str} {ss : List Str} (ha : Ev X T γ a (sh X.K (.str s))) (hb : Ev X T γ b (sh X.K (.tuple (ss.map .str)))) (hm : behindInMarks .In b = false := by rfl) : EvT X T γ (.Compare a [.In] [b] pos) (ss.any fun z => z == s) := evt_cmp op_in_seq rd_inS ha hb hm
theorem ev_inI {s : Int} {ss : List Int} (ha : Ev X T γ a (sh X.K (.int s))) (hb : Ev X T γ b (sh X.K (.tuple (ss.map .int)))) (hm : behindInMarks .In b = false := by rfl) : Ev X T γ (.Compare a [.In] [b] pos) (sh X.K (.bool (ss.any fun z => z == s))) := ev_cmp op_in_seq rd_inI ha hb hm
theorem evt_inI {s : Int} {ss : List Int} (ha : Ev X T γ a (sh X.K (.int s))) (hb : Ev X T γ b (sh X.K (.tuple (ss.map .int)))) (hm : behindInMarks .In b = false := by rfl) : EvT X T γ (.Compare a [.In] [b] pos) (ss.any fun z => z == s) := evt_cmp op_in_seq rd_inI ha hb hm
/-- data in a written tuple of data -/
def rInT (K : Frag) (neg : Bool) : R2 := fun x y H Q => ∃ d ds, Dp K H x d ∧ Dp K H y (.tuple ds) ∧ SeqAt.shaped d = true ∧ SeqAt.shaped (.tuple ds) = true ∧ Q (.bl (if neg then !ds.any (fun z => PyData.eqv z d) else ds.any fun z => PyData.eqv z d)) H
theorem op_inT (hu : X.A.units + 65 < cLine) : OpR X (compareOp .In) (rInT X.K false) := by
  intro pins s σ H x y v u Q I rx ry ⟨d, ds, hd, he, sd, se, q⟩
  obtain ⟨as, r1⟩ := Dp.reads I d x v hd rx
  obtain ⟨bs, r2⟩ := Dp.reads I _ y u he ry
  exact SeqAt.in_tuple_reads r2 r1 (SeqAt.canLay_of_shaped se) (SeqAt.canLay_of_shaped sd) (room_in_shaped sd hu) ⟨.bl _, H, I, rfl, q⟩
theorem op_notInT (hu : X.A.units + 65 < cLine) : OpR X (compareOp .NotIn) (rInT X.K true) := by
  intro pins s σ H x y v u Q I rx ry ⟨d, ds, hd, he, sd, se, q⟩
  obtain ⟨as, r1⟩ := Dp.reads I d x v hd rx
  obtain ⟨bs, r2⟩ := Dp.reads I _ y u he ry
  exact SeqAt.notIn_tuple_reads r2 r1 (SeqAt.canLay_of_shaped se) (SeqAt.canLay_of_shaped sd) (room_in_shaped sd hu) ⟨.bl _, H, I, rfl, q⟩
theorem evt_notInT {d : PyData} {ds : List PyData} (hu : X.A.units + 65 < cLine) (s : SeqAt.shaped d = true) (s' : SeqAt.shaped (.tuple ds) = true) (ha : Ev X T γ a (sh X.K d)) (hb : Ev X T γ b (sh X.K (.tuple ds))) (hm : behindInMarks .NotIn b = false := by rfl) :
    EvT X T γ (.Compare a [.NotIn] [b] pos) (!ds.any fun z => PyData.eqv z d) :=
  evt_cmp (op_notInT hu) (fun x y F H Q e p q k => ⟨d, ds, Dq.dp d x (Dq.mono e d x p), Dq.dp _ y (Dq.mono e _ y q), s, s', k _ F H (Grow.refl e) rfl⟩) ha hb hm
theorem rd_inDL {K : Frag} {d : PyData} {ds : List PyData} (s : SeqAt.shaped d = true) (s' : SeqAt.shaped (.list ds) = true) : RuleD T (rInD K) (sh K d) (sh K (.list ds)) (sh K (.bool (ds.any fun z => PyData.eqv z d))) := fun x y F H Q e p q k =>
  ⟨d, ds, Dq.dp d x (Dq.mono e d x p), Dq.dp _ y (Dq.mono e _ y q), s, s', k _ F H (Grow.refl e) rfl⟩
theorem rd_notInDL {K : Frag} {d : PyData} {ds : List PyData} (s : SeqAt.shaped d = true) (s' : SeqAt.shaped (.list ds) = true) : RuleD T (rNotInD K) (sh K d) (sh K (.list ds)) (sh K (.bool (!ds.any fun z => PyData.eqv z d))) := fun x y F H Q e p q k =>
  ⟨d, ds, Dq.dp d x (Dq.mono e d x p), Dq.dp _ y (Dq.mono e _ y q), s, s', k _ F H (Grow.refl e) rfl⟩
theorem evt_inDL {d : PyData} {ds : List PyData} (hu : X.A.units + 65 < cLine) (s : SeqAt.shaped d = true) (s' : SeqAt.shaped (.list ds) = true) (ha : Ev X T γ a (sh X.K d)) (hb : Ev X T γ b (sh X.K (.list ds))) (hm : behindInMarks .In b = false := by rfl) :
    EvT X T γ (.Compare a [.In] [b] pos) (ds.any fun z => PyData.eqv z d) := evt_cmp (op_inD hu) (rd_inDL s s') ha hb hm
theorem ev_notInDL {d : PyData} {ds : List PyData} (hu : X.A.units + 65 < cLine) (s : SeqAt.shaped d = true) (s' : SeqAt.shaped (.list ds) = true) (ha : Ev X T γ a (sh X.K d)) (hb : Ev X T γ b (sh X.K (.list ds))) (hm : behindInMarks .NotIn b = false := by rfl) :
    Ev X T γ (.Compare a [.NotIn] [b] pos) (sh X.K (.bool (!ds.any fun z => PyData.eqv z d))) := ev_cmp (op_notInD hu) (rd_notInDL s s') ha hb hm
/-! ### tests -/
theorem evt_val {k : Bool} (h : Ev X T γ e (sh X.K (.bool k))) (he : ∀ whole, isTrue e X.env whole = (do let v ← whole; standAt e.pos; holding [v] (truthy v)) := by intro _; rfl) : EvT X T γ e k :=
  PT.imp (pt_val h he) fun σ H Q ⟨F, s, q⟩ => ⟨F, s, fun v F2 H2 g p => ⟨k, p, q F2 H2 g⟩⟩
theorem evt_not {k : Bool} (h : EvT X T γ e k) : EvT X T γ (.UnaryOp .Not e pos) (!k) := PT.imp (pt_not h) fun σ H Q ⟨F, s, q⟩ => ⟨F, s, fun F2 H2 g => q F2 H2 g⟩
theorem evw_and1 {k : Bool} (h : EvT X T γ a k) : EvW X T γ (.BoolOp .And [a] pos) k := pw_and1 h
theorem evw_or1 {k : Bool} (h : EvT X T γ a k) : EvW X T γ (.BoolOp .Or [a] pos) k := pw_or1 h
def tNoT : TT := fun _ _ _ => False
theorem evw_and {k l : Bool} {rest : List Expr} (ha : EvT X T γ a k) (hb : k = true → EvW X T γ (.BoolOp .And (b :: rest) pos) l) : EvW X T γ (.BoolOp .And (a :: b :: rest) pos) (k && l) := by
  cases k with
  | true =>
    refine PW.imp (pw_and ha (hb rfl)) fun σ H Q ⟨F, s, q⟩ => ⟨F, s, fun F2 H2 g => ?_⟩
    show (if true = true then _ else _)
    rw [if_pos rfl]
    exact ⟨F2, s.grow g, fun F3 H3 g3 => q F3 H3 (g.trans g3)⟩
  | false =>
    have nb : PW X (.BoolOp .And (b :: rest) pos) tNoT := ⟨fun _ _ _ _ _ _ _ z => z.elim⟩
    refine PW.imp (pw_and ha nb) fun σ H Q ⟨F, s, q⟩ => ⟨F, s, fun F2 H2 g => ?_⟩
    show (if false = true then _ else _)
    rw [if_neg Bool.false_ne_true]
    exact q F2 H2 g
theorem evw_or {k l : Bool} {rest : List Expr} (ha : EvT X T γ a k) (hb : k = false → EvW X T γ (.BoolOp .Or (b :: rest) pos) l) : EvW X T γ (.BoolOp .Or (a :: b :: rest) pos) (k || l) := by
  cases k with
  | false =>
    refine PW.imp (pw_or ha (hb rfl)) fun σ H Q ⟨F, s, q⟩ => ⟨F, s, fun F2 H2 g => ?_⟩
    show (if false = true then _ else _)
    rw [if_neg Bool.false_ne_true]
    exact ⟨F2, s.grow g, fun F3 H3 g3 => q F3 H3 (g.trans g3)⟩
  | true =>
    have nb : PW X (.BoolOp .Or (b :: rest) pos) tNoT := ⟨fun _ _ _ _ _ _ _ z => z.elim⟩
    refine PW.imp (pw_or ha nb) fun σ H Q ⟨F, s, q⟩ => ⟨F, s, fun F2 H2 g => ?_⟩
    show (if true = true then _ else _)
    rw [if_pos rfl]
    exact q F2 H2 g
theorem EvW.t {k : Bool} (h : EvW X T γ e k) : EvT X T γ e k := PW.pt h
/-- and, or, not as values -/
def tNoE : TE := fun _ _ _ => False
theorem ev_one {op : BoolOp} (h : Ev X T γ a P) : Ev X T γ (.BoolOp op [a] pos) P := pe_one h
theorem ev_and {k l : Bool} {rest : List Expr} (ha : Ev X T γ a (sh X.K (.bool k))) (hb : k = true → Ev X T γ (.BoolOp .And (b :: rest) pos) (sh X.K (.bool l))) : Ev X T γ (.BoolOp .And (a :: b :: rest) pos) (sh X.K (.bool (k && l))) := by
  cases k with
  | true =>
    refine PE.imp (pe_and ha (hb rfl)) fun σ H Q ⟨F, s, q⟩ => ⟨F, s, fun v F2 H2 g p => ⟨true, p, ?_⟩⟩
    rw [if_pos rfl]
    exact ⟨F2, s.grow g, fun v F3 H3 g3 p3 => q v F3 H3 (g.trans g3) p3⟩
  | false =>
    have nb : PE X (.BoolOp .And (b :: rest) pos) tNoE := ⟨fun _ _ _ _ _ _ z => z.elim⟩
    refine PE.imp (pe_and ha nb) fun σ H Q ⟨F, s, q⟩ => ⟨F, s, fun v F2 H2 g p => ⟨false, p, ?_⟩⟩
    rw [if_neg Bool.false_ne_true]
    exact q _ F2 H2 g rfl
theorem ev_not {k : Bool} (ha : Ev X T γ a (sh X.K (.bool k))) : Ev X T γ (.UnaryOp .Not a pos) (sh X.K (.bool (!k))) :=
  PE.imp (pe_not ha) fun σ H Q ⟨F, s, q⟩ => ⟨F, s, fun v F2 H2 g p => ⟨k, p, q _ F2 H2 g rfl⟩⟩
/-- a chain lo <= x <= hi -/
theorem evt_chain_le {i j k : Int} (ha : Ev X T γ a (sh X.K (.int i))) (hb : Ev X T γ b (sh X.K (.int j))) (hc : Ev X T γ c (sh X.K (.int k))) (hm : lastMarks [.LtE, .LtE] [b, c] = false := by rfl) : EvT X T γ (.Compare a [.LtE, .LtE] [b, c] pos) (decide (i ≤ j) && decide (j ≤ k)) := by
  refine PT.imp (pt_chain op_le op_le ha hb hc hm) fun σ H Q ⟨F, s, q⟩ => ⟨F, s, fun x F1 H1 g1 p1 => ⟨F1, s.grow g1, fun y F2 H2 g2 p2 => ⟨i, j, p1, p2, decide (i ≤ j), rfl, ?_⟩⟩⟩
  by_cases h : i ≤ j
  · rw [decide_eq_true h, if_pos rfl]
    refine ⟨F2, (s.grow g1).grow g2, fun z F3 H3 g3 p3 => ⟨j, k, p2, p3, decide (j ≤ k), rfl, ?_⟩⟩
    have := q F3 H3 ((g1.trans g2).trans g3)
    rw [decide_eq_true h] at this
    simpa using this
  · rw [decide_eq_false h, if_neg Bool.false_ne_true]
    have := q F2 H2 (g1.trans g2)
    rw [decide_eq_false h] at this
    first
      | exact this
      | exact ⟨false, rfl, this⟩
theorem ev_chain_le {i j k : Int} (ha : Ev X T γ a (sh X.K (.int i))) (hb : Ev X T γ b (sh X.K (.int j))) (hc : Ev X T γ c (sh X.K (.int k))) (hm : lastMarks [.LtE, .LtE] [b, c] = false := by rfl) : Ev X T γ (.Compare a [.LtE, .LtE] [b, c] pos) (sh X.K (.bool (decide (i ≤ j) && decide (j ≤ k)))) := by
  refine PE.imp (pe_chain op_le op_le ha hb hc hm) fun σ H Q ⟨F, s, q⟩ => ⟨F, s, fun x F1 H1 g1 p1 => ⟨F1, s.grow g1, fun y F2 H2 g2 p2 => ⟨i, j, p1, p2, decide (i ≤ j), rfl, ?_⟩⟩⟩
  by_cases h : i ≤ j
  · rw [decide_eq_true h, if_pos rfl]
    refine ⟨F2, (s.grow g1).grow g2, fun z F3 H3 g3 p3 => ⟨j, k, p2, p3, ?_⟩⟩
    refine q _ F3 H3 ((g1.trans g2).trans g3) ?_
    rw [decide_eq_true h, Bool.true_and]
    rfl
  · rw [decide_eq_false h, if_neg Bool.false_ne_true]
    refine q _ F2 H2 (g1.trans g2) ?_
    rw [decide_eq_false h, Bool.false_and]
    rfl
theorem ev_if {k : Bool} (hc : EvT X T γ c k) (ha : k = true → Ev X T γ a P) (hb : k = false → Ev X T γ b P) : Ev X T γ (.IfExp c a b pos) P := by
  have na : ∀ e, PE X e tNoE := fun e => ⟨fun _ _ _ _ _ _ z => z.elim⟩
  cases k with
  | true =>
    refine PE.imp (pe_ifExp hc (ha rfl) (na b)) fun σ H Q ⟨F, s, q⟩ => ⟨F, s, fun F2 H2 g => ?_⟩
    show (if true = true then _ else _)
    rw [if_pos rfl]
    exact ⟨F2, s.grow g, fun v F3 H3 g3 p3 => q v F3 H3 (g.trans g3) p3⟩
  | false =>
    refine PE.imp (pe_ifExp hc (na a) (hb rfl)) fun σ H Q ⟨F, s, q⟩ => ⟨F, s, fun F2 H2 g => ?_⟩
    show (if false = true then _ else _)
    rw [if_neg Bool.false_ne_true]
    exact ⟨F2, s.grow g, fun v F3 H3 g3 p3 => q v F3 H3 (g.trans g3) p3⟩
/-- .. of a new list -/
theorem evn_if {k : Bool} {ds : List PyData} (hc : EvT X T γ c k) (ha : k = true → EvN X T γ a ds) (hb : k = false → EvN X T γ b ds) : EvN X T γ (.IfExp c a b pos) ds := by
  have na : ∀ e, PE X e tNoE := fun e => ⟨fun _ _ _ _ _ _ z => z.elim⟩
  cases k with
  | true =>
    refine PE.imp (pe_ifExp hc (ha rfl) (na b)) fun σ H Q ⟨F, s, q⟩ => ⟨F, s, fun F2 H2 g => ?_⟩
    show (if true = true then _ else _)
    rw [if_pos rfl]
    exact ⟨F2, s.grow g, fun v xs F3 H3 g3 h1 h2 h3 h4 => q v xs F3 H3 (g.trans g3) (g.free _ h1) h2 h3 h4⟩
  | false =>
    refine PE.imp (pe_ifExp hc (na a) (hb rfl)) fun σ H Q ⟨F, s, q⟩ => ⟨F, s, fun F2 H2 g => ?_⟩
    show (if false = true then _ else _)
    rw [if_neg Bool.false_ne_true]
    exact ⟨F2, s.grow g, fun v xs F3 H3 g3 h1 h2 h3 h4 => q v xs F3 H3 (g.trans g3) (g.free _ h1) h2 h3 h4⟩
/-! ### argument lists, displays -/
theorem eva_nil : EvA X T γ [] [] := PA.imp pa_nil fun σ H Q ⟨F, s, q⟩ => q [] F H (Grow.refl s.ex) rfl
theorem eva_cons {Ps : List Ty} (h : Ev X T γ e P) (hr : EvA X T γ es Ps) (hs : starEach (e :: es) X.env = (false, eval e X.env) :: starEach es X.env := by rfl) : EvA X T γ (e :: es) (P :: Ps) :=
  PA.imp (pa_cons h hr hs) fun σ H Q ⟨F, s, q⟩ => ⟨F, s, fun v F1 H1 g1 p1 => ⟨F1, s.grow g1, fun vs F2 H2 g2 p2 => q (v :: vs) F2 H2 (g1.trans g2) ⟨v, vs, rfl, P.mono g2.f p1, p2⟩⟩⟩
theorem allP_data {K : Frag} {F : Hp} : ∀ {ds : List PyData} {xs : List V}, AllP (ds.map (sh K)) xs F → DqAll K F ds xs
  | [], _, h => h
  | d :: ds, _, h => by
    obtain ⟨v, vs, h1, h2, h3⟩ := h
    exact ⟨v, vs, h1, h2, allP_data h3⟩
theorem ev_tup {ds : List PyData} {x1 : Nat} (h : EvA X T γ es (ds.map (sh X.K))) (hl : Nat.ble ds.length sizeLine = true := by rfl) : Ev X T γ (.Tuple es x1 pos) (sh X.K (.tuple ds)) :=
  PE.imp (pe_tup h) fun σ H Q ⟨F, s, q⟩ => ⟨F, s, fun vs F1 H1 g1 p1 => by
    have p2 := allP_data p1
    refine ⟨by rw [p2.length]; exact Nat.le_of_ble_eq_true hl, fun p hp => ?_⟩
    have g2 := Grow.new (T := T) (o := .tup vs) g1.ex hp
    exact q _ _ _ (g1.trans g2) ⟨p, vs, rfl, SqT.of upd_same, DqAll.mono g2.f ds vs p2⟩⟩
theorem evn_lst {ds : List PyData} (h : EvA X T γ es (ds.map (sh X.K))) (hl : Nat.ble ds.length sizeLine = true := by rfl) : EvN X T γ (.List es pos) ds :=
  PE.imp (pe_lst h) fun σ H Q ⟨F, s, q⟩ => ⟨F, s, fun vs F1 H1 g1 p1 => by
    have p2 := allP_data p1
    refine ⟨by rw [p2.length]; exact Nat.le_of_ble_eq_true hl, fun p hp => ?_⟩
    have g2 := Grow.raw (T := T) (o := .lst vs) g1.ex hp
    exact q p vs _ _ (g1.trans g2) (g1.free _ hp) (g1.ex.free hp) upd_same p2⟩
/-- list + list -/
theorem evn_cat {ds es : List PyData} (ha : Ev X T γ a (sh X.K (.list ds))) (hb : Ev X T γ b (sh X.K (.list es))) (hl : ds.length + es.length ≤ sizeLine) : EvN X T γ (.BinOp a .Add b pos) (ds ++ es) :=
  PE.imp (pe_op op_cat ha hb) fun σ H Q ⟨F, s, q⟩ => ⟨F, s, fun v F1 H1 g1 p1 => ⟨F1, s.grow g1, fun u F2 H2 g2 p2 => by
    obtain ⟨a1, xs, rfl, h1, h2⟩ := p1
    obtain ⟨a2, ys, rfl, h3, h4⟩ := p2
    have h5 := DqAll.mono g2.f ds xs h2
    refine ⟨a1, a2, xs, ys, rfl, rfl, g2.ex.go (g2.f.go h1), g2.ex.go h3, by rw [h2.length, h4.length]; exact hl, fun p hp => ?_⟩
    have g3 := Grow.raw (T := T) (o := .lst (xs ++ ys)) g2.ex hp
    exact q p _ _ _ ((g1.trans g2).trans g3) ((g1.trans g2).free _ hp) (g2.ex.free hp) upd_same (h5.append h4)⟩⟩
/-! ### index, len, slices -/
theorem atI_data {K : Frag} {F : Hp} {ds : List PyData} {xs : List V} {i : Int} {d : PyData} (h : DqAll K F ds xs) (e : atI ds i = some d) : ∃ v, atI xs i = some v ∧ Dq K F d v := by
  unfold atI at e ⊢
  rw [h.length]
  cases hn : ixN ds.length i with
  | none =>
    rw [hn] at e
    cases e
  | some j =>
    rw [hn] at e
    exact DqAll.get h e
theorem ev_ixT {ds : List PyData} {i : Int} {d : PyData} (ha : Ev X T γ a (sh X.K (.tuple ds))) (hb : Ev X T γ b (sh X.K (.int i))) (h : atI ds i = some d := by rfl) (hx : PlainIx b := by exact fun _ _ => rfl) : Ev X T γ (.Subscript a b pos) (sh X.K d) :=
  PE.imp (pe_ix ix_tup ha hb hx) (bin_imp fun x y F H Q e p q k => by
    obtain ⟨a1, xs, rfl, h1, h2⟩ := p
    obtain ⟨v, h3, h4⟩ := atI_data h2 h
    exact ⟨a1, xs, i, v, rfl, q, e.tup h1, h3, k v F H (Grow.refl e) h4⟩)
theorem ev_ixL {ds : List PyData} {i : Int} {d : PyData} (ha : Ev X T γ a (sh X.K (.list ds))) (hb : Ev X T γ b (sh X.K (.int i))) (h : atI ds i = some d := by rfl) (hx : PlainIx b := by exact fun _ _ => rfl) : Ev X T γ (.Subscript a b pos) (sh X.K d) :=
  PE.imp (pe_ix ix_list ha hb hx) (bin_imp fun x y F H Q e p q k => by
    obtain ⟨a1, xs, rfl, h1, h2⟩ := p
    obtain ⟨v, h3, h4⟩ := atI_data h2 h
    exact ⟨a1, xs, i, v, rfl, q, SqL.of (e.go h1), h3, k v F H (Grow.refl e) h4⟩)
/-- a built-in function or type over its argument values -/
def RuleC (T : List NTab) (r : List V → Hp → VK → Prop) (Ps : List Ty) (C : Ty) : Prop := ∀ vs F H Q, Ex F H → AllP Ps vs F → Post T F H C Q → r vs H Q
theorem ev_callB {id : String} {r : List V → Hp → VK → Prop} {Ps : List Ty} {C : Ty} {x : Str} {p : Pos} (hc : CallR X (.builtin id) r) (hr : RuleC T r Ps C) (hm : X.mg x = none) (hv : bootBuiltins x = some (.builtin id)) (ha : EvA X T γ (e :: es) Ps) (hg : Gl X x := by rfl)
    (hn : x ≠ "__name__" := by decide) (hdb : (x == ("__debug__" : Str)) = false := by decide)
    (he : starEach (e :: es) X.env = (false, eval e X.env) :: starEach es X.env := by rfl) (hpl : (backTo pos (starEach es X.env)).any (·.1) = false := by rfl) : Ev X T γ (.Call (.Name x p) (e :: es) [] pos) C :=
  PE.imp (pe_callB hc hg hm hv ha hn hdb he hpl) fun σ H Q ⟨F, s, q⟩ => ⟨F, s, fun vs F1 H1 g1 p1 => hr vs F1 H1 Q g1.ex p1 fun v F2 H2 g2 p2 => q v F2 H2 (g1.trans g2) p2⟩
theorem ev_callTy {id : String} {r : List V → Hp → VK → Prop} {Ps : List Ty} {C : Ty} {x : Str} {p : Pos} (hc : CallR X (.type id) r) (hr : RuleC T r Ps C) (hm : X.mg x = none) (hv : bootBuiltins x = some (.type id)) (ha : EvA X T γ (e :: es) Ps) (hg : Gl X x := by rfl)
    (hn : x ≠ "__name__" := by decide) (hdb : (x == ("__debug__" : Str)) = false := by decide)
    (he : starEach (e :: es) X.env = (false, eval e X.env) :: starEach es X.env := by rfl) (hpl : (backTo pos (starEach es X.env)).any (·.1) = false := by rfl) : Ev X T γ (.Call (.Name x p) (e :: es) [] pos) C :=
  PE.imp (pe_callTy hc hg hm hv ha hn hdb he hpl) fun σ H Q ⟨F, s, q⟩ => ⟨F, s, fun vs F1 H1 g1 p1 => hr vs F1 H1 Q g1.ex p1 fun v F2 H2 g2 p2 => q v F2 H2 (g1.trans g2) p2⟩
/-- a sequence: list or tuple -/
def seqD (l : Bool) (ds : List PyData) : PyData := if l then .list ds else .tuple ds
theorem seq_is {K : Frag} {F H : Hp} {l : Bool} {ds : List PyData} {v : V} (e : Ex F H) (h : Dq K F (seqD l ds) v) : ∃ a xs, v = .ref a ∧ (SqL K H a xs ∨ SqT K H a xs) ∧ DqAll K F ds xs := by
  cases l with
  | true =>
    obtain ⟨a, xs, h1, h2, h3⟩ := h
    exact ⟨a, xs, h1, .inl (SqL.of (e.go h2)), h3⟩
  | false =>
    obtain ⟨a, xs, h1, h2, h3⟩ := h
    exact ⟨a, xs, h1, .inr (e.tup h2), h3⟩
theorem ev_len {ds : List PyData} {p : Pos} (l : Bool) (hm : X.mg "len" = none) (ha : Ev X T γ e (sh X.K (seqD l ds))) (hg : Gl X "len" := by rfl)
    (he : starEach [e] X.env = (false, eval e X.env) :: starEach [] X.env := by rfl) (hpl : (backTo pos (starEach [] X.env)).any (·.1) = false := by rfl) : Ev X T γ (.Call (.Name "len" p) [e] [] pos) (sh X.K (.int ds.length)) :=
  ev_callB call_len_seq (fun vs F H Q ex q k => by
    obtain ⟨v, us, rfl, h1, h2⟩ := q
    have h2 : us = [] := h2
    subst h2
    obtain ⟨a, xs, rfl, h3, h4⟩ := seq_is ex h1
    refine ⟨a, xs, rfl, h3, k _ F H (Grow.refl ex) ?_⟩
    show V.int _ = V.int _
    rw [h4.length]) hm PySem.boot_len (eva_cons ha eva_nil he) hg (by decide) (by decide) he hpl
theorem ev_min {i j : Int} {p : Pos} {x y : Expr} (hc : X.calm = true) (hm : X.mg "min" = none) (ha : Ev X T γ x (sh X.K (.int i))) (hb : Ev X T γ y (sh X.K (.int j))) (hg : Gl X "min" := by rfl)
    (he : starEach [x, y] X.env = (false, eval x X.env) :: starEach [y] X.env := by rfl) (he2 : starEach [y] X.env = (false, eval y X.env) :: starEach [] X.env := by rfl) (hpl : (backTo pos (starEach [y] X.env)).any (·.1) = false := by rfl) : Ev X T γ (.Call (.Name "min" p) [x, y] [] pos) (sh X.K (.int (min i j))) :=
  ev_callB (call_min2 hc) (fun vs F H Q ex q k => by
    obtain ⟨v, us, rfl, h1, v2, us2, rfl, h2, h3⟩ := q
    have h3 : us2 = [] := h3
    subst h3
    have h1 : v = V.int i := h1
    have h2 : v2 = V.int j := h2
    subst h1 h2
    refine ⟨i, j, rfl, k _ F H (Grow.refl ex) ?_⟩
    show V.int _ = V.int _
    congr 1
    split <;> omega) hm (by decide +kernel) (eva_cons ha (eva_cons hb eva_nil he2) he) hg (by decide) (by decide) he hpl
theorem ev_max {i j : Int} {p : Pos} {x y : Expr} (hc : X.calm = true) (hm : X.mg "max" = none) (ha : Ev X T γ x (sh X.K (.int i))) (hb : Ev X T γ y (sh X.K (.int j))) (hg : Gl X "max" := by rfl)
    (he : starEach [x, y] X.env = (false, eval x X.env) :: starEach [y] X.env := by rfl) (he2 : starEach [y] X.env = (false, eval y X.env) :: starEach [] X.env := by rfl) (hpl : (backTo pos (starEach [y] X.env)).any (·.1) = false := by rfl) : Ev X T γ (.Call (.Name "max" p) [x, y] [] pos) (sh X.K (.int (max i j))) :=
  ev_callB (call_max2 hc) (fun vs F H Q ex q k => by
    obtain ⟨v, us, rfl, h1, v2, us2, rfl, h2, h3⟩ := q
    have h3 : us2 = [] := h3
    subst h3
    have h1 : v = V.int i := h1
    have h2 : v2 = V.int j := h2
    subst h1 h2
    refine ⟨i, j, rfl, k _ F H (Grow.refl ex) ?_⟩
    show V.int _ = V.int _
    congr 1
    split <;> omega) hm (by decide +kernel) (eva_cons ha (eva_cons hb eva_nil he2) he) hg (by decide) (by decide) he hpl
end
end Tw
namespace Tw
open PySem PySem.Spec PyProof.Rows L2
/-! ### what a def promises -/
inductive Out where
  | ok (P : Ty)
  | err (o : Int) (m : Str)
/-- the dict of a refusal -/
def XdAt (H : Hp) (d : Addr) (o : Int) (m : Str) : Prop := ∃ fs : List (Str × V), H d = some (.xd fs) ∧ fs.lookup ("order" : Str) = some (V.int o) ∧ fs.lookup ("message" : Str) = some (V.str m)
/-- a case of a promise: what is asked, the arguments, how it ends -/
structure Pr where
  pre : Prop
  args : List Ty
  out : Out
def spF (T : List NTab) (C : Addr) {ι : Type} (S : ι → Pr) : Sp := fun vs H Q E => ∃ i F, (S i).pre ∧ Ex F H ∧ NdefX.TabsN T H ∧ AllP (S i).args vs F ∧ match (S i).out with
  | .ok P => Post T F H P Q
  | .err o m => ∀ d F2 H2, Grow T F H F2 H2 → H d = none → XdAt H2 d o m → E (.ref C) (some d) H2
/-- a def that may be called by its name -/
def Fn (P : Program) (w : World) (K : Frag) (mg : Str → Option Value) (base : Heap) (CX : CXT) (k : Nat) (x : Str) (ps : List Str) (sp : Sp) : Prop :=
  ∃ f fd, FnOk P w K mg base CX k f fd ps sp ∧ mg x = some (.ref f) ∧ PySem.W.keepIn K (.ref f) = true ∧ L2.Binds K fd ps []
/-- a method of the class at C -/
def Mt (P : Program) (w : World) (K : Frag) (mg : Str → Option Value) (base : Heap) (CX : CXT) (k : Nat) (C : Addr) (x : Str) (ps : List Str) (sp : Sp) : Prop :=
  ∃ f fd, FnOk P w K mg base CX k f fd ps sp ∧ Cls K C ∧ Meth K C x f ∧ L2.Binds K fd ps []
section
variable {X : Cx} {T : List NTab} {γ : Gm} {P R : Ty} {pos p apos : Pos} {a b c e : Expr} {es : List Expr} {ι : Type} {S : ι → Pr} {x : Str} {ps : List Str} {j k : Nat} {C CR : Addr} {E : XK} {o : Int} {m : Str}
/-- an expression that raises a refusal -/
def tErr (T : List NTab) (γ : Gm) (C : Addr) (E : XK) (o : Int) (m : Str) : TE := fun σ H _ => ∃ F, St0 T γ σ F H ∧ ∀ d F2 H2, Grow T F H F2 H2 → H d = none → XdAt H2 d o m → E (.ref C) (some d) H2
abbrev EvErr (X : Cx) (T : List NTab) (γ : Gm) (C : Addr) (E : XK) (e : Expr) (o : Int) (m : Str) : Prop := PE X e (tErr T γ C E o m)
def tErrA (T : List NTab) (γ : Gm) (C : Addr) (E : XK) (o : Int) (m : Str) : TA := fun σ H _ => ∃ F, St0 T γ σ F H ∧ ∀ d F2 H2, Grow T F H F2 H2 → H d = none → XdAt H2 d o m → E (.ref C) (some d) H2
abbrev EvErrA (X : Cx) (T : List NTab) (γ : Gm) (C : Addr) (E : XK) (es : List Expr) (o : Int) (m : Str) : Prop := PA X es (tErrA T γ C E o m)
theorem ev_call (h : Fn X.prog X.w X.K X.mg X.base CX0 k x ps (spF T CR S)) (hr : Room j X.A) (hk : k ≤ j) (i : ι) (hpre : (S i).pre) (hS : (S i).out = .ok P) (ha : EvA X T γ (e :: es) (S i).args) (hg : Gl X x := by rfl) (hdb : (x == ("__debug__" : Str)) = false := by decide)
    (he : starEach (e :: es) X.env = (false, eval e X.env) :: starEach es X.env := by rfl) (hpl : (backTo pos (starEach es X.env)).any (·.1) = false := by rfl) : Ev X T γ (.Call (.Name x p) (e :: es) [] pos) P := by
  obtain ⟨f, fd, h1, h2, h3, h4⟩ := h
  refine PE.imp (pe_call h1 (hr.mono hk) hg h2 h3 h4 .nil pass0 ha hdb he hpl) fun σ H Q ⟨F, s, q⟩ => ⟨F, s, fun vs F1 H1 g1 p1 => ?_⟩
  show spF T CR S (vs ++ []) H1 Q _
  rw [List.append_nil]
  refine ⟨i, F1, hpre, g1.ex, g1.tab s.tab, p1, ?_⟩
  rw [hS]
  exact fun v F2 H2 g2 p2 => q v F2 H2 (g1.trans g2) p2
theorem ev_callX (h : Fn X.prog X.w X.K X.mg X.base (L2N.CX X.prog X.w) k x ps (spF T CR S)) (hr : Room j X.A) (hk : k ≤ j) (i : ι) (hpre : (S i).pre) (hS : (S i).out = .ok P) (ha : EvA X T γ (e :: es) (S i).args) (hg : Gl X x := by rfl) (hdb : (x == ("__debug__" : Str)) = false := by decide)
    (he : starEach (e :: es) X.env = (false, eval e X.env) :: starEach es X.env := by rfl) (hpl : (backTo pos (starEach es X.env)).any (·.1) = false := by rfl) : Ev X T γ (.Call (.Name x p) (e :: es) [] pos) P := by
  obtain ⟨f, fd, h1, h2, h3, h4⟩ := h
  refine PE.imp (pe_call h1 (hr.mono hk) hg h2 h3 h4 .nil passN ha hdb he hpl) fun σ H Q ⟨F, s, q⟩ => ⟨F, s, fun vs F1 H1 g1 p1 => ?_⟩
  show spF T CR S (vs ++ []) H1 Q _
  rw [List.append_nil]
  refine ⟨i, F1, hpre, g1.ex, g1.tab s.tab, p1, ?_⟩
  rw [hS]
  exact fun v F2 H2 g2 p2 => q v F2 H2 (g1.trans g2) p2
theorem ev_callErr (h : Fn X.prog X.w X.K X.mg X.base (L2N.CX X.prog X.w) k x ps (spF T CR S)) (tk : L2N.Takes X fun cls d _ H => E cls d H) (hr : Room j X.A) (hk : k ≤ j) (i : ι) (hpre : (S i).pre) (hS : (S i).out = .err o m) (ha : EvA X T γ (e :: es) (S i).args) (hg : Gl X x := by rfl) (hdb : (x == ("__debug__" : Str)) = false := by decide)
    (he : starEach (e :: es) X.env = (false, eval e X.env) :: starEach es X.env := by rfl) (hpl : (backTo pos (starEach es X.env)).any (·.1) = false := by rfl) : EvErr X T γ CR E (.Call (.Name x p) (e :: es) [] pos) o m := by
  obtain ⟨f, fd, h1, h2, h3, h4⟩ := h
  refine PE.imp (pe_call h1 (hr.mono hk) hg h2 h3 h4 .nil (L2N.passes_call tk fun _ _ _ _ z => z) ha hdb he hpl) fun σ H Q ⟨F, s, q⟩ => ⟨F, s, fun vs F1 H1 g1 p1 => ?_⟩
  show spF T CR S (vs ++ []) H1 Q _
  rw [List.append_nil]
  refine ⟨i, F1, hpre, g1.ex, g1.tab s.tab, p1, ?_⟩
  rw [hS]
  exact fun d F2 H2 g2 h0 p2 => q d F2 H2 (g1.trans g2) (g1.free _ h0) p2
/-- an argument raises -/
theorem eva_err (h : EvErr X T γ C E e o m) (hs : starEach (e :: es) X.env = (false, eval e X.env) :: starEach es X.env := by rfl) : EvErrA X T γ C E (e :: es) o m := by
  have nb : PA X es (fun _ _ _ => False) := ⟨fun _ _ _ _ _ _ _ z => z.elim⟩
  exact PA.imp (pa_cons h nb hs) fun σ H Q ⟨F, s, q⟩ => ⟨F, s, q⟩
theorem eva_err2 (h1 : Ev X T γ a P) (h : EvErrA X T γ C E es o m) (hs : starEach (a :: es) X.env = (false, eval a X.env) :: starEach es X.env := by rfl) : EvErrA X T γ C E (a :: es) o m :=
  PA.imp (pa_cons h1 h hs) fun σ H Q ⟨F, s, q⟩ => ⟨F, s, fun v F1 H1 g1 p1 => ⟨F1, s.grow g1, fun d F2 H2 g2 h0 p2 => q d F2 H2 (g1.trans g2) (g1.free _ h0) p2⟩⟩
theorem err_args {CX : CXT} {sp : Sp} (h : Fn X.prog X.w X.K X.mg X.base CX k x ps sp) (hp : Passes CX X E0) (hr : Room j X.A) (hk : k ≤ j) (ha : EvErrA X T γ C E (e :: es) o m) (hg : Gl X x := by rfl) (hdb : (x == ("__debug__" : Str)) = false := by decide)
    (he : starEach (e :: es) X.env = (false, eval e X.env) :: starEach es X.env := by rfl) (hpl : (backTo pos (starEach es X.env)).any (·.1) = false := by rfl) : EvErr X T γ C E (.Call (.Name x p) (e :: es) [] pos) o m := by
  obtain ⟨f, fd, h1, h2, h3, h4⟩ := h
  exact PE.imp (pe_call h1 (hr.mono hk) hg h2 h3 h4 .nil hp ha hdb he hpl) fun σ H Q ⟨F, s, q⟩ => ⟨F, s, q⟩
/-- o.m(e, ..), o.m(): the object is the first of the promise's values -/
def IsIns (C : Addr) (x : Str) (P : Ty) : Prop := ∀ v F, P.p v F → ∃ a dx fs, v = .ref a ∧ F a = some (.ins C dx fs) ∧ fs.lookup x = none
theorem ev_meth {pl : Sem Bool} {Ps : List Ty} (h : Mt X.prog X.w X.K X.mg X.base CX0 k C x ps (spF T CR S)) (hr : Room j X.A) (hk : k ≤ j) (i : ι) (hpre : (S i).pre) (hS1 : (S i).args = R :: Ps) (hS : (S i).out = .ok P) (hI : IsIns C x R) (ho : Ev X T γ a R) (ha : EvA X T γ (e :: es) Ps)
    (hst : starEach (e :: es) X.env = (false, eval e X.env) :: starEach es X.env := by rfl) (hpl : (backTo pos (starEach es X.env)).any (·.1) = false := by rfl)
    (ht : eval (.Call (.Attribute a x apos) (e :: es) [] pos) X.env = (do
      let ov ← eval a X.env
      standAt apos.atName
      let (f, first) ← holding [ov] (getMethod ov x pl)
      callWith pos f first (backTo pos (starEach (e :: es) X.env)) (backToKw pos (keywordEach [] X.env))) := by rfl) : Ev X T γ (.Call (.Attribute a x apos) (e :: es) [] pos) P := by
  obtain ⟨f, fd, h1, h2, h3, h4⟩ := h
  refine PE.imp (pe_meth (pl := pl) ho h2 h3 h1 (hr.mono hk) h4 .nil pass0 ha hst hpl ht) fun σ H Q ⟨F, s, q⟩ => ⟨F, s, fun v F1 H1 g1 p1 => ?_⟩
  obtain ⟨b, dx, fs, rfl, hb, hl⟩ := hI v F1 p1
  refine ⟨b, dx, fs, rfl, g1.ex.go hb, hl, F1, s.grow g1, fun vs F2 H2 g2 p2 => ?_⟩
  show spF T CR S (.ref b :: (vs ++ [])) H2 Q _
  rw [List.append_nil]
  refine ⟨i, F2, hpre, g2.ex, g2.tab (g1.tab s.tab), ?_, ?_⟩
  · rw [hS1]
    exact ⟨_, vs, rfl, R.mono g2.f p1, p2⟩
  · rw [hS]
    exact fun v F3 H3 g3 p3 => q v F3 H3 ((g1.trans g2).trans g3) p3
theorem ev_meth0 {pl : Sem Bool} (h : Mt X.prog X.w X.K X.mg X.base CX0 k C x ps (spF T CR S)) (hr : Room j X.A) (hk : k ≤ j) (i : ι) (hpre : (S i).pre) (hS1 : (S i).args = [R]) (hS : (S i).out = .ok P) (hI : IsIns C x R) (ho : Ev X T γ a R)
    (ht : eval (.Call (.Attribute a x apos) [] [] pos) X.env = (do
      let ov ← eval a X.env
      standAt apos.atName
      let (f, first) ← holding [ov] (getMethod ov x pl)
      callWith pos f first (backTo pos (starEach [] X.env)) (backToKw pos (keywordEach [] X.env))) := by rfl) : Ev X T γ (.Call (.Attribute a x apos) [] [] pos) P := by
  obtain ⟨f, fd, h1, h2, h3, h4⟩ := h
  refine PE.imp (pe_meth0 (pl := pl) ho h2 h3 h1 (hr.mono hk) h4 .nil pass0 ht) fun σ H Q ⟨F, s, q⟩ => ⟨F, s, fun v F1 H1 g1 p1 => ?_⟩
  obtain ⟨b, dx, fs, rfl, hb, hl⟩ := hI v F1 p1
  refine ⟨b, dx, fs, rfl, g1.ex.go hb, hl, ?_⟩
  show spF T CR S (.ref b :: ([] ++ [])) H1 Q _
  refine ⟨i, F1, hpre, g1.ex, g1.tab s.tab, ?_, ?_⟩
  · rw [hS1]
    exact ⟨_, [], rfl, p1, rfl⟩
  · rw [hS]
    exact fun v F3 H3 g3 p3 => q v F3 H3 (g1.trans g3) p3
end
/-! ### objects whose fields are data, frozen -/
def FsOk (F : Hp) : List (Str × Ty) → List (Str × V) → Prop
  | [], vs => vs = []
  | (f, P) :: fs, vs => ∃ v r, vs = (f, v) :: r ∧ P.p v F ∧ FsOk F fs r
theorem FsOk.mono {F H : Hp} (e : Ex F H) : ∀ {fs : List (Str × Ty)} {vs : List (Str × V)}, FsOk F fs vs → FsOk H fs vs
  | [], _, h => h
  | (f, P) :: fs, _, h => by
    obtain ⟨v, r, h1, h2, h3⟩ := h
    exact ⟨v, r, h1, P.mono e h2, FsOk.mono e h3⟩
theorem FsOk.look {F : Hp} {f : Str} : ∀ {fs : List (Str × Ty)} {vs : List (Str × V)} {P : Ty}, FsOk F fs vs → fs.lookup f = some P → ∃ v, vs.lookup f = some v ∧ P.p v F
  | [], _, _, _, e => by simp at e
  | (g, R) :: fs, _, P, h, e => by
    obtain ⟨v, r, rfl, h2, h3⟩ := h
    rw [List.lookup_cons] at e ⊢
    cases q : f == g with
    | true =>
      rw [q] at e
      cases e
      exact ⟨v, rfl, h2⟩
    | false =>
      rw [q] at e
      exact FsOk.look h3 e
theorem FsOk.look_none {F : Hp} {f : Str} : ∀ {fs : List (Str × Ty)} {vs : List (Str × V)}, FsOk F fs vs → fs.lookup f = none → vs.lookup f = none
  | [], _, h, _ => by
    have h : _ = [] := h
    rw [h]
    rfl
  | (g, R) :: fs, _, h, e => by
    obtain ⟨v, r, rfl, h2, h3⟩ := h
    rw [List.lookup_cons] at e ⊢
    cases q : f == g with
    | true =>
      rw [q] at e
      cases e
    | false =>
      rw [q] at e
      exact FsOk.look_none h3 e
def obj (C : Addr) (fs : List (Str × Ty)) : Ty := ⟨fun v F => ∃ a dx vs, v = .ref a ∧ F a = some (.ins C dx vs) ∧ FsOk F fs vs, fun e h => by
  obtain ⟨a, dx, vs, h1, h2, h3⟩ := h
  exact ⟨a, dx, vs, h1, e.go h2, FsOk.mono e h3⟩⟩
theorem obj_ins {C : Addr} {fs : List (Str × Ty)} {x : Str} (h : fs.lookup x = none) : IsIns C x (obj C fs) := fun v F p => by
  obtain ⟨a, dx, vs, h1, h2, h3⟩ := p
  exact ⟨a, dx, vs, h1, h2, FsOk.look_none h3 h⟩
section
variable {X : Cx} {T : List NTab} {γ : Gm} {P R : Ty} {pos p apos : Pos} {a b c e lo hi : Expr} {es : List Expr} {x : Str} {C : Addr}
theorem ev_fld {fs : List (Str × Ty)} (hc : Cls X.K C) (hn : NoAttr X.K C x) (h : fs.lookup x = some P) (ho : Ev X T γ a (obj C fs)) (hb : attributeBase a x X.env (eval a X.env) = eval a X.env := by rfl) : Ev X T γ (.Attribute a x pos) P :=
  PE.imp (pe_fld ho hb) fun σ H Q ⟨F, s, q⟩ => ⟨F, s, fun v F1 H1 g1 p1 => by
    obtain ⟨b, dx, vs, rfl, h2, h3⟩ := p1
    obtain ⟨u, h4, h5⟩ := FsOk.look h3 h
    exact ⟨b, C, dx, vs, u, rfl, g1.ex.go h2, hc, hn, h4, q u F1 H1 g1 h5⟩⟩
/-! ### slices -/
def cutD (ds : List PyData) (lo hi : Option Int) : List PyData := (ds.drop (HT.sIx ds.length 0 lo)).take (HT.sIx ds.length ds.length hi - HT.sIx ds.length 0 lo)
theorem cut_data {K : Frag} {F : Hp} {ds : List PyData} {xs : List V} (h : DqAll K F ds xs) (lo hi : Option Int) : DqAll K F (cutD ds lo hi) (cutV xs lo hi) := by
  unfold cutD cutV
  rw [h.length]
  exact (h.drop _).take _
def tPrt (T : List NTab) (γ : Gm) (o : Option Int) : TO := fun σ H Q => ∃ F, St0 T γ σ F H ∧ ∀ F2 H2, Grow T F H F2 H2 → Q o H2
abbrev EvO (X : Cx) (T : List NTab) (γ : Gm) (e : Option Expr) (o : Option Int) : Prop := PO X e (tPrt T γ o)
theorem PO.imp {X : Cx} {e : Option Expr} {t t' : TO} (h : PO X e t) (i : ∀ σ H Q, t' σ H Q → t σ H Q) : PO X e t' := by
  first
    | exact ⟨fun pins s σ H Q I q => h.run pins s σ H Q I (i σ H Q q)⟩
    | exact ⟨fun sl pins s σ H Q I q => h.run sl pins s σ H Q I (i σ H Q q)⟩
    | exact fun pins s σ H Q I q => h pins s σ H Q I (i σ H Q q)
theorem evo_none : EvO X T γ none none := PO.imp po_none fun σ H Q ⟨F, s, q⟩ => q F H (Grow.refl s.ex)
theorem evo_some {i : Int} (h : Ev X T γ e (sh X.K (.int i))) : EvO X T γ (some e) (some i) := PO.imp (po_some h) fun σ H Q ⟨F, s, q⟩ => ⟨F, s, fun v F1 H1 g1 p1 => ⟨i, p1, q F1 H1 g1⟩⟩
theorem evn_slice {lo hi : Option Expr} {l h : Option Int} {ds : List PyData} {p2 : Pos} (ha : Ev X T γ a (sh X.K (.list ds))) (hl : EvO X T γ lo l) (hh : EvO X T γ hi h) : EvN X T γ (.Subscript a (.Slice lo hi none p2) pos) (cutD ds l h) :=
  PE.imp (pe_slice sl_list ha hl hh) fun σ H Q ⟨F, s, q⟩ => ⟨F, s, fun v F1 H1 g1 p1 => ⟨F1, s.grow g1, fun F2 H2 g2 => ⟨F2, (s.grow g1).grow g2, fun F3 H3 g3 => by
    obtain ⟨b, xs, rfl, h1, h2⟩ := p1
    have g := (g1.trans g2).trans g3
    refine ⟨b, xs, rfl, SqL.of (g3.ex.go (g3.f.go (g2.f.go h1))), fun p hp => ?_⟩
    have g4 := Grow.raw (T := T) (o := .lst (cutV xs l h)) g3.ex hp
    exact q p _ _ _ (g.trans g4) (g.free _ hp) (g3.ex.free hp) upd_same (cut_data (DqAll.mono (g2.f.trans g3.f) ds xs h2) l h)⟩⟩⟩
end
end Tw
namespace Tw
open PySem PySem.Spec PyProof.Rows L2
/-! ### the state of a def's body -/
structure StS (T : List NTab) (K : Frag) (F0 H0 : Hp) (γ : Gm) (σ : L2.St) (F H : Hp) : Prop where
  g : Grow T F0 H0 F H
  s : St0 T γ σ F H
  own : ∀ (i : Nat) (ds : List PyData), γ[i]? = some (.own ds) → ∃ a xs, σ[i]? = some (some (.ref a)) ∧ H a = some (.lst xs) ∧ F a = none ∧ H0 a = none ∧ DqAll K F ds xs
  uniq : ∀ (i j : Nat) (ds es : List PyData), γ[i]? = some (.own ds) → γ[j]? = some (.own es) → i = j
section
variable {T : List NTab} {K : Frag} {F0 H0 F H F2 H2 : Hp} {γ : Gm} {σ : L2.St}
theorem get_set {γ : Gm} {i j : Nat} {x y : Slot} (h : (γ.set i x)[j]? = some y) : (i = j ∧ x = y) ∨ (i ≠ j ∧ γ[j]? = some y) := by
  by_cases c : i = j
  · subst c
    by_cases hl : i < γ.length
    · rw [List.getElem?_set_self hl] at h
      exact .inl ⟨rfl, Option.some.inj h⟩
    · rw [List.getElem?_eq_none (by rw [List.length_set]; omega)] at h
      cases h
  · rw [List.getElem?_set_ne c] at h
    exact .inr ⟨c, h⟩
theorem set_same {α : Type} : ∀ {l : List α} {i : Nat} {x : α}, l[i]? = some x → l.set i x = l
  | [], _, _, h => by simp at h
  | a :: r, 0, x, h => by
    cases h
    rfl
  | a :: r, i + 1, x, h => congrArg (a :: ·) (set_same (l := r) (i := i) h)
theorem StS.grow (s : StS T K F0 H0 γ σ F H) (g : Grow T F H F2 H2) : StS T K F0 H0 γ σ F2 H2 :=
  ⟨s.g.trans g, s.s.grow g, fun i ds hi => by
    obtain ⟨a, xs, h1, h2, h3, h4, h5⟩ := s.own i ds hi
    exact ⟨a, xs, h1, g.h a _ h2 (fun ps z => by cases z), g.own a h3 (by rw [h2]; simp), h4, DqAll.mono g.f ds xs h5⟩, s.uniq⟩
theorem StS.set (s : StS T K F0 H0 γ σ F H) {P : Ty} {v : V} (i : Nat) (p : P.p v F) : StS T K F0 H0 (γ.set i (.sh P)) (σ.set i (some v)) F H :=
  ⟨s.g, ⟨s.s.ex, s.s.env.set p, s.s.tab⟩, fun j ds hj => by
    rcases get_set hj with ⟨_, z⟩ | ⟨c, hj⟩
    · cases z
    · obtain ⟨a, xs, h1, h⟩ := s.own j ds hj
      exact ⟨a, xs, by rw [List.getElem?_set_ne c]; exact h1, h⟩, fun j k ds es hj hk => by
    rcases get_set hj with ⟨_, z⟩ | ⟨_, hj⟩
    · cases z
    · rcases get_set hk with ⟨_, z⟩ | ⟨_, hk⟩
      · cases z
      · exact s.uniq j k ds es hj hk⟩
def noOwn (γ : Gm) : Bool := γ.all fun x => match x with
  | .own _ => false
  | _ => true
theorem noOwn_not {γ : Gm} (h : noOwn γ = true) {i : Nat} {ds : List PyData} (q : γ[i]? = some (.own ds)) : False := by
  have := List.all_eq_true.mp h _ (List.mem_of_getElem? q)
  cases this
/-- a new list in a slot -/
theorem StS.setOwn (s : StS T K F0 H0 γ σ F H) {a : Addr} {xs : List V} {ds : List PyData} (i : Nat) (n : noOwn (γ.set i .un) = true) (h2 : H a = some (.lst xs)) (h3 : F a = none) (h4 : H0 a = none) (h5 : DqAll K F ds xs) :
    StS T K F0 H0 (γ.set i (.own ds)) (σ.set i (some (.ref a))) F H := by
  have ne : ∀ j es, i ≠ j → γ[j]? = some (.own es) → False := fun j es c e => noOwn_not n (i := j) (ds := es) (by rw [List.getElem?_set_ne c]; exact e)
  refine ⟨s.g, ⟨s.s.ex, s.s.env.setOwn i _ ds, s.s.tab⟩, fun j es hj => ?_, fun j k es fs hj hk => ?_⟩
  · rcases get_set hj with ⟨c, z⟩ | ⟨c, hj⟩
    · cases z
      refine ⟨a, xs, ?_, h2, h3, h4, h5⟩
      subst c
      have hl : i < γ.length := by
        have := (List.getElem?_eq_some_iff.mp hj).1
        rwa [List.length_set] at this
      rw [List.getElem?_set_self (by rw [s.s.env.1]; exact hl)]
    · exact (ne j es c hj).elim
  · rcases get_set hj with ⟨c, _⟩ | ⟨c, hj⟩
    · rcases get_set hk with ⟨c', _⟩ | ⟨c', hk⟩
      · exact c.symm.trans c'
      · exact (ne k fs c' hk).elim
    · exact (ne j es c hj).elim
/-- an own list changes -/
theorem StS.change (s : StS T K F0 H0 γ σ F H) {i : Nat} {ds es : List PyData} {a : Addr} {xs ys : List V} (hi : γ[i]? = some (.own ds)) (hs : σ[i]? = some (some (.ref a))) (hH : H a = some (.lst xs)) (hF : F a = none) (h0 : H0 a = none) (h : DqAll K F es ys) :
    StS T K F0 H0 (γ.set i (.own es)) σ F (upd H a (.lst ys)) := by
  have g := s.g.mut (u := .lst ys) h0 hF hH trivial
  have lt := (List.getElem?_eq_some_iff.mp hi).1
  refine ⟨g, ⟨g.ex, ?_, tabs_upd hH trivial s.s.tab⟩, fun j fs hj => ?_, fun j k fs gs hj hk => ?_⟩
  · have e := s.s.env.setOwn i (some (.ref a)) es
    have e2 : σ.set i (some (.ref a)) = σ := set_same hs
    rwa [e2] at e
  · rcases get_set hj with ⟨c, z⟩ | ⟨c, hj⟩
    · cases z
      subst c
      exact ⟨a, ys, hs, upd_same, hF, h0, h⟩
    · exact (c (s.uniq i j ds fs hi hj)).elim
  · rcases get_set hj with ⟨c, _⟩ | ⟨c, hj⟩
    · rcases get_set hk with ⟨c', _⟩ | ⟨c', hk⟩
      · exact c.symm.trans c'
      · exact (c' (s.uniq i k ds gs hi hk)).elim
    · exact (c (s.uniq i j ds fs hi hj)).elim
/-- an own list is frozen -/
theorem StS.share (s : StS T K F0 H0 γ σ F H) {i : Nat} {ds : List PyData} (hi : γ[i]? = some (.own ds)) : ∃ F2, (∃ a o, F a = none ∧ H a = some o ∧ F2 = upd F a o) ∧ StS T K F0 H0 (γ.set i (.sh (sh K (.list ds)))) σ F2 H := by
  obtain ⟨a, xs, h1, h2, h3, h4, h5⟩ := s.own i ds hi
  have g := s.g.freeze h4 h3 h2
  have ex := Ex.new (F := F) (o := .lst xs) h3
  refine ⟨upd F a (.lst xs), ⟨a, _, h3, h2, rfl⟩, g, ⟨g.ex, ?_, s.s.tab⟩, fun j es hj => ?_, fun j k es fs hj hk => ?_⟩
  · have e := (s.s.env.mono ex).set (i := i) (P := sh K (.list ds)) (v := .ref a) ⟨a, xs, rfl, upd_same, DqAll.mono ex ds xs h5⟩
    have e2 : σ.set i (some (.ref a)) = σ := set_same h1
    rwa [e2] at e
  · rcases get_set hj with ⟨c, z⟩ | ⟨c, hj⟩
    · cases z
    · exact (c (s.uniq i j ds es hi hj)).elim
  · rcases get_set hj with ⟨c, z⟩ | ⟨c, hj⟩
    · cases z
    · exact (c (s.uniq i j ds es hi hj)).elim
/-- the start moved to here, what is own left out -/
theorem StS.rebase (s : StS T K F0 H0 γ σ F H) : ∃ H1, StS T K F H1 γ σ F H ∧ (∀ F' H', Grow T F H1 F' H' → Grow T F0 H0 F' H') ∧ (∀ a, H1 a = none → H0 a = none) := by
  have key : ∃ H1 : Hp, (∀ a, H1 a = H a ∨ H1 a = none) ∧ (∀ a, H1 a = none → H0 a = none) ∧ (∀ (i : Nat) (ds : List PyData) (a : Addr), γ[i]? = some (.own ds) → σ[i]? = some (some (.ref a)) → H1 a = none) ∧ (∀ a, (∀ xs, H a ≠ some (.lst xs)) → H1 a = H a) ∧ (∀ a, H0 a ≠ none → H1 a = H a) := by
    by_cases c : ∃ (i : Nat) (ds : List PyData), γ[i]? = some (.own ds)
    · obtain ⟨i, ds, hi⟩ := c
      obtain ⟨a, xs, h1, h2, h3, h4, h5⟩ := s.own i ds hi
      refine ⟨fun b => if b = a then none else H b, fun b => ?_, fun b hb => ?_, fun j es b hj hb => ?_, fun b hb => ?_, fun b hb => ?_⟩
      · by_cases e : b = a
        · exact .inr (if_pos e)
        · exact .inl (if_neg e)
      · by_cases e : b = a
        · rw [e]
          exact h4
        · have hb : (if b = a then none else H b) = none := hb
          rw [if_neg e] at hb
          exact s.g.free b hb
      · have := s.uniq i j ds es hi hj
        subst this
        rw [h1] at hb
        cases hb
        exact if_pos rfl
      · by_cases e : b = a
        · rw [e] at hb
          exact (hb xs h2).elim
        · exact if_neg e
      · by_cases e : b = a
        · rw [e] at hb
          exact (hb h4).elim
        · exact if_neg e
    · exact ⟨H, fun _ => .inl rfl, fun b hb => s.g.free b hb, fun i ds a hi _ => (c ⟨i, ds, hi⟩).elim, fun _ _ => rfl, fun _ _ => rfl⟩
  obtain ⟨H1, k1, k2, k3, k4, k5⟩ := key
  have le : ∀ a o, H1 a = some o → H a = some o := fun a o e => by
    rcases k1 a with z | z
    · rw [← z]
      exact e
    · rw [z] at e
      cases e
  have tb : NdefX.TabsN T H → NdefX.TabsN T H1 := fun t b hb => by
    obtain ⟨ps, q1, q2, q3⟩ := t b hb
    refine ⟨ps, by rw [k4 _ (fun xs z => by rw [q1] at z; cases z)]; exact q1, q2, fun pos cv hc => ?_⟩
    obtain ⟨c, e1, e2⟩ := q3 pos cv hc
    exact ⟨c, e1, by rw [k4 _ (fun xs z => by rw [e2] at z; cases z)]; exact e2⟩
  refine ⟨H1, ⟨⟨Ex.refl _, s.s.ex, fun a o e _ => le a o e, fun a h _ => h, fun t => t.ext le, fun a e => ?_⟩, s.s, fun i ds hi => ?_, s.uniq⟩, fun F' H' g => ⟨s.g.f.trans g.f, g.ex, fun a o e n => ?_, fun a e n => ?_, fun t => g.tab (tb (s.g.tab t)), fun a e => k2 a (g.free a e)⟩, k2⟩
  · rcases k1 a with z | z
    · rw [z]
      exact e
    · exact z
  · obtain ⟨a, xs, h1, h2, h3, h4, h5⟩ := s.own i ds hi
    exact ⟨a, xs, h1, h2, h3, k3 i ds a hi h1, h5⟩
  · exact g.h a o (by rw [k5 a (by rw [e]; simp)]; exact s.g.h a o e n) n
  · refine g.own a (s.g.own a e n) ?_
    rw [k5 a n]
    exact fun z => n (s.g.free a z)
end
/-! ### statements -/
structure Cfg where
  T : List NTab
  C : Addr
  E : XK
structure Po where
  nx : Gm → Prop
  bk : Gm → Prop
  ct : Gm → Prop
  R : Ty
  er : Int → Str → Prop
def tSJ (K : Frag) (c : Cfg) (γ : Gm) (po : Po) : TS := fun D σ H => ∃ F0 H0 F, StS c.T K F0 H0 γ σ F H ∧
  (∀ γ' σ' F' H', po.nx γ' → StS c.T K F0 H0 γ' σ' F' H' → D.nx σ' H') ∧ (∀ γ' σ' F' H', po.bk γ' → StS c.T K F0 H0 γ' σ' F' H' → D.bk σ' H') ∧ (∀ γ' σ' F' H', po.ct γ' → StS c.T K F0 H0 γ' σ' F' H' → D.ct σ' H') ∧
  (∀ v F' H', Grow c.T F0 H0 F' H' → po.R.p v F' → D.rt v H') ∧ (∀ o m d F' H', po.er o m → Grow c.T F0 H0 F' H' → H0 d = none → XdAt H' d o m → c.E (.ref c.C) (some d) H')
abbrev SJ (X : Cx) (c : Cfg) (γ : Gm) (st : Stmt) (po : Po) : Prop := PS X st (tSJ X.K c γ po)
abbrev SJs (X : Cx) (c : Cfg) (γ : Gm) (st : List Stmt) (po : Po) : Prop := PSs X st (tSJ X.K c γ po)
theorem PS.imp {X : Cx} {e : Stmt} {t t' : TS} (h : PS X e t) (i : ∀ D σ H, t' D σ H → t D σ H) : PS X e t' := ⟨fun pins s σ H D I q => h.run pins s σ H D I (i D σ H q)⟩
theorem PSs.imp {X : Cx} {e : List Stmt} {t t' : TS} (h : PSs X e t) (i : ∀ D σ H, t' D σ H → t D σ H) : PSs X e t' := ⟨fun pins s σ H D I q => h.run pins s σ H D I (i D σ H q)⟩
section
variable {X : Cx} {c : Cfg} {γ : Gm} {po : Po} {P : Ty} {pos pos' p : Pos} {a b e test iter : Expr} {es : List Expr} {st : Stmt} {sts body : List Stmt} {x : Str} {k : Bool}
theorem sj_nil (h : po.nx γ) : SJs X c γ [] po := PSs.imp pss_nil fun D σ H ⟨F0, H0, F, s, h1, _⟩ => h1 γ σ F H h s
theorem sj_any {u : TS} (hu : ∀ D σ H, u D σ H → ∃ γ po, SJs X c γ sts po ∧ tSJ X.K c γ po D σ H) : PSs X sts u := ⟨fun pins s σ H D I q => by
  obtain ⟨γ, po, h1, h2⟩ := hu D σ H q
  exact h1.run pins s σ H D I h2⟩
theorem sj_cons (h : SJ X c γ st { po with nx := fun γ' => SJs X c γ' sts po }) : SJs X c γ (st :: sts) po := by
  refine PSs.imp (pss_cons h (sj_any (u := fun D σ H => ∃ γ po, SJs X c γ sts po ∧ tSJ X.K c γ po D σ H) fun _ _ _ q => q)) fun D σ H ⟨F0, H0, F, s, h1, h2, h3, h4, h5⟩ => ?_
  exact ⟨F0, H0, F, s, fun γ' σ' F' H' hn s' => ⟨γ', po, hn, F0, H0, F', s', h1, h2, h3, h4, h5⟩, h2, h3, h4, h5⟩
theorem sj_last (h : SJ X c γ st po) : SJs X c γ [st] po := pss_one h
/-- an own list is data from here on -/
theorem sj_share (i : Nat) {ds : List PyData} (hi : γ[i]? = some (.own ds)) (h : SJs X c (γ.set i (.sh (sh X.K (.list ds)))) sts po) : SJs X c γ sts po :=
  PSs.imp h fun D σ H ⟨F0, H0, F, s, h1⟩ => by
    obtain ⟨F2, _, s2⟩ := s.share hi
    exact ⟨F0, H0, F2, s2, h1⟩
theorem sj_set (i : Nat) (he : Ev X c.T γ e P) (h : po.nx (γ.set i (.sh P))) (hN : X.N.Nodup) (hi : X.N[i]? = some x := by rfl) (hx : Loc X.env.scope x := by first | exact Or.inl rfl | exact Or.inr rfl) (hs : swapsWith e (some (.Name x pos')) pos.line X.env = pure false := by rfl)
    (hf : X.fn x = true ∨ X.env.scope.names.lookup x = some .local := by first | exact .inl rfl | exact .inr rfl) : SJ X c γ (.Assign [.Name x pos'] e pos) po :=
  PS.imp (ps_set hN hi hx he hs hf) fun D σ H ⟨F0, H0, F, s, h1, _⟩ => ⟨F, s.s, fun v F2 H2 g p => h1 _ _ F2 H2 h ((s.grow g).set i p)⟩
theorem sj_setN (i : Nat) {ds : List PyData} (he : EvN X c.T γ e ds) (h : po.nx (γ.set i (.own ds))) (hN : X.N.Nodup) (hn : noOwn (γ.set i .un) = true := by rfl) (hi : X.N[i]? = some x := by rfl) (hx : Loc X.env.scope x := by first | exact Or.inl rfl | exact Or.inr rfl) (hs : swapsWith e (some (.Name x pos')) pos.line X.env = pure false := by rfl)
    (hf : X.fn x = true ∨ X.env.scope.names.lookup x = some .local := by first | exact .inl rfl | exact .inr rfl) : SJ X c γ (.Assign [.Name x pos'] e pos) po :=
  PS.imp (ps_set hN hi hx he hs hf) fun D σ H ⟨F0, H0, F, s, h1, _⟩ => ⟨F, s.s, fun a xs F2 H2 g q1 q2 q3 q4 => h1 _ _ F2 H2 h ((s.grow g).setOwn i hn q3 q2 (s.g.free _ q1) q4)⟩
theorem sj_ret (he : Ev X c.T γ e po.R) : SJ X c γ (.Return (some e) pos) po :=
  PS.imp (ps_ret he) fun D σ H ⟨F0, H0, F, s, _, _, _, h4, _⟩ => ⟨F, s.s, fun v F2 H2 g p => h4 v F2 H2 (s.g.trans g) p⟩
theorem sj_ret' {d : PyData} (he : Ev X c.T γ e (sh X.K d)) (hR : po.R = sh X.K d) : SJ X c γ (.Return (some e) pos) po := sj_ret (hR ▸ he)
theorem sj_retN (h : ∀ F, po.R.p .non F) : SJ X c γ (.Return none pos) po :=
  PS.imp ps_retN fun D σ H ⟨F0, H0, F, s, _, _, _, h4, _⟩ => h4 _ F H s.g (h F)
theorem sj_retErr {o : Int} {m : Str} (he : EvErr X c.T γ c.C c.E e o m) (h : po.er o m) : SJ X c γ (.Return (some e) pos) po :=
  PS.imp (ps_ret he) fun D σ H ⟨F0, H0, F, s, _, _, _, _, h5⟩ => ⟨F, s.s, fun d F2 H2 g h0 q => h5 o m d F2 H2 h (s.g.trans g) (s.g.free _ h0) q⟩
theorem sj_setErr (i : Nat) {o : Int} {m : Str} (he : EvErr X c.T γ c.C c.E e o m) (h : po.er o m) (hN : X.N.Nodup) (hi : X.N[i]? = some x := by rfl) (hx : Loc X.env.scope x := by first | exact Or.inl rfl | exact Or.inr rfl) (hs : swapsWith e (some (.Name x pos')) pos.line X.env = pure false := by rfl)
    (hf : X.fn x = true ∨ X.env.scope.names.lookup x = some .local := by first | exact .inl rfl | exact .inr rfl) : SJ X c γ (.Assign [.Name x pos'] e pos) po :=
  PS.imp (ps_set hN hi hx he hs hf) fun D σ H ⟨F0, H0, F, s, _, _, _, _, h5⟩ => ⟨F, s.s, fun d F2 H2 g h0 q => h5 o m d F2 H2 h (s.g.trans g) (s.g.free _ h0) q⟩
theorem sj_exprErr {o : Int} {m : Str} (he : EvErr X c.T γ c.C c.E e o m) (h : po.er o m) (hs : swapsWith e none pos.line X.env = pure false := by rfl) : SJ X c γ (.Expr e pos) po :=
  PS.imp (ps_expr he hs) fun D σ H ⟨F0, H0, F, s, _, _, _, _, h5⟩ => ⟨F, s.s, fun d F2 H2 g h0 q => h5 o m d F2 H2 h (s.g.trans g) (s.g.free _ h0) q⟩
theorem sj_expr (he : Ev X c.T γ e P) (h : po.nx γ) (hs : swapsWith e none pos.line X.env = pure false := by rfl) : SJ X c γ (.Expr e pos) po :=
  PS.imp (ps_expr he hs) fun D σ H ⟨F0, H0, F, s, h1, _⟩ => ⟨F, s.s, fun v F2 H2 g p => h1 _ _ F2 H2 h (s.grow g)⟩
theorem sj_if {A B : List Stmt} (ht : EvT X c.T γ test k) (hA : k = true → SJs X c γ A po) (hB : k = false → SJs X c γ B po) : SJ X c γ (.If test A B pos) po := by
  have nb : ∀ sts, PSs X sts tNever := fun sts => pss_never
  cases k with
  | true =>
    refine PS.imp (ps_if ht (hA rfl) (nb B)) fun D σ H ⟨F0, H0, F, s, h1⟩ => ⟨F, s.s, fun F2 H2 g => ?_⟩
    show (if true = true then _ else _)
    rw [if_pos rfl]
    exact ⟨F0, H0, F2, s.grow g, h1⟩
  | false =>
    refine PS.imp (ps_if ht (nb A) (hB rfl)) fun D σ H ⟨F0, H0, F, s, h1⟩ => ⟨F, s.s, fun F2 H2 g => ?_⟩
    show (if false = true then _ else _)
    rw [if_neg Bool.false_ne_true]
    exact ⟨F0, H0, F2, s.grow g, h1⟩
theorem sj_pass (h : po.nx γ) : SJ X c γ (.Pass pos) po := PS.imp ps_pass fun D σ H ⟨F0, H0, F, s, h1, _⟩ => h1 γ σ F H h s
/-- x += e, numbers -/
theorem sj_aug (i : Nat) {n m : Int} (hi : γ[i]? = some (.sh (sh X.K (.int n)))) (he : Ev X c.T γ e (sh X.K (.int m))) (h : po.nx (γ.set i (.sh (sh X.K (.int (n + m)))))) (hN : X.N.Nodup) (hNi : X.N[i]? = some x := by rfl) (hx : Loc X.env.scope x := by first | exact Or.inl rfl | exact Or.inr rfl)
    (hf : X.fn x = true ∨ X.env.scope.names.lookup x = some .local := by first | exact .inl rfl | exact .inr rfl) : SJ X c γ (.AugAssign (.Name x p) .Add e pos) po :=
  PS.imp (ps_aug hN hNi hx he ip_add hf) fun D σ H ⟨F0, H0, F, s, h1, _⟩ => by
    obtain ⟨v, e1, p1⟩ := s.s.env.2 i _ hi
    refine ⟨v, e1, F, s.s, fun u F2 H2 g p2 => ⟨n, m, p1, p2, h1 _ _ F2 H2 h ((s.grow g).set i ?_)⟩⟩
    exact rfl
/-- x.append(e), x an own list -/
theorem sj_append (i : Nat) {ds : List PyData} {d : PyData} {p1 p2 p3 : Pos} (hi : γ[i]? = some (.own ds)) (he : Ev X c.T γ e (sh X.K d)) (hl : ds.length < sizeLine) (h : po.nx (γ.set i (.own (ds ++ [d]))))
    (hbm : ∀ t, PA X [e] t → PE X (.Call (.Attribute (.Name x p1) "append" p2) [e] [] p3) (tBM X.K "list" rAppend (tVar i) t) := by exact fun t ha => pe_bm PySem.F.plainAttrs_list PySem.F.slot_list_append PySem.F.type_list_append mt_append (pv _) ha)
    (hs : starEach [e] X.env = (false, eval e X.env) :: starEach [] X.env := by rfl)
    (hS : swapsWith (.Call (.Attribute (.Name x p1) "append" p2) [e] [] p3) none pos.line X.env = pure false := by rfl) : SJ X c γ (.Expr (.Call (.Attribute (.Name x p1) "append" p2) [e] [] p3) pos) po := by
  refine PS.imp (ps_expr (hbm _ (pa_cons he pa_nil hs)) hS) fun D σ H ⟨F0, H0, F, s, h1, _⟩ => ?_
  obtain ⟨a1, xs, q1, q2, q3, q4, q5⟩ := s.own i ds hi
  refine ⟨.ref a1, q1, .inl ⟨rfl, xs, SqL.of q2⟩, F, s.s, fun v F2 H2 g p2 => ?_⟩
  have s2 := s.grow g
  have r2 : H2 a1 = some (.lst xs) := g.h a1 _ q2 (fun ps z => by cases z)
  have r3 : F2 a1 = none := g.own a1 q3 (by rw [q2]; simp)
  refine ⟨a1, xs, v, rfl, rfl, r2, by rw [q5.length]; exact hl, h1 _ _ F2 _ h (s2.change hi q1 r2 r3 q4 ((DqAll.mono g.f ds xs q5).append (DqAll.one p2)))⟩
theorem sj_extend (i : Nat) {ds es : List PyData} {p1 p2 p3 : Pos} (hi : γ[i]? = some (.own ds)) (he : Ev X c.T γ e (sh X.K (.list es))) (hl : ds.length + es.length ≤ sizeLine) (h : po.nx (γ.set i (.own (ds ++ es))))
    (hbm : ∀ t, PA X [e] t → PE X (.Call (.Attribute (.Name x p1) "extend" p2) [e] [] p3) (tBM X.K "list" rExtend (tVar i) t) := by exact fun t ha => pe_bm PySem.F.plainAttrs_list PySem.F.slot_list_extend PySem.F.type_list_extend mt_extend (pv _) ha)
    (hs : starEach [e] X.env = (false, eval e X.env) :: starEach [] X.env := by rfl)
    (hS : swapsWith (.Call (.Attribute (.Name x p1) "extend" p2) [e] [] p3) none pos.line X.env = pure false := by rfl) : SJ X c γ (.Expr (.Call (.Attribute (.Name x p1) "extend" p2) [e] [] p3) pos) po := by
  refine PS.imp (ps_expr (hbm _ (pa_cons he pa_nil hs)) hS) fun D σ H ⟨F0, H0, F, s, h1, _⟩ => ?_
  obtain ⟨a1, xs, q1, q2, q3, q4, q5⟩ := s.own i ds hi
  refine ⟨.ref a1, q1, .inl ⟨rfl, xs, SqL.of q2⟩, F, s.s, fun v F2 H2 g p2 => ?_⟩
  obtain ⟨a2, ys, rfl, r4, r5⟩ := p2
  have s2 := s.grow g
  have r2 : H2 a1 = some (.lst xs) := g.h a1 _ q2 (fun ps z => by cases z)
  have r3 : F2 a1 = none := g.own a1 q3 (by rw [q2]; simp)
  refine ⟨a1, a2, xs, ys, rfl, rfl, r2, g.ex.go r4, by rw [q5.length, r5.length]; exact hl, h1 _ _ F2 _ h (s2.change hi q1 r2 r3 q4 ((DqAll.mono g.f ds xs q5).append r5))⟩
end
end Tw
namespace Tw
open PySem PySem.Spec PyProof.Rows L2
/-! ### targets: a name; a pair of names -/
/-- what a target does with data -/
def Tgt (K : Frag) (g : TG) (vs : List Nat) (good : PyData → Prop) (ug : PyData → Gm → Gm) : Prop :=
  ∀ (d : PyData) (v : V) (σ : L2.St) (F H : Hp), good d → Ex F H → Dq K F d v → ∃ σ', (∀ Q : L2.St → Hp → Prop, Q σ' H → g v σ H Q) ∧ (∀ γ, Env γ σ F → Env (ug d γ) σ' F) ∧
    (∀ T F0 H0 γ, StS T K F0 H0 γ σ F H → StS T K F0 H0 (ug d γ) σ' F H) ∧ wipe σ' vs = wipe σ vs
theorem wipe_set1 (σ : L2.St) (i : Nat) (v : Option V) : wipe (σ.set i v) [i] = wipe σ [i] := by
  show (σ.set i v).set i none = σ.set i none
  rw [List.set_set]
theorem wipe_set2 (σ : L2.St) (i j : Nat) (v u : Option V) : wipe ((σ.set i v).set j u) [i, j] = wipe σ [i, j] := by
  show (((σ.set i v).set j u).set j none).set i none = (σ.set j none).set i none
  rw [List.set_set]
  by_cases c : i = j
  · subst c
    simp [List.set_set]
  · rw [List.set_comm _ _ c, List.set_set]
def ugN (K : Frag) (i : Nat) : PyData → Gm → Gm := fun d γ => γ.set i (.sh (sh K d))
theorem tgt_name {K : Frag} (i : Nat) : Tgt K (gName i) [i] (fun _ => True) (ugN K i) := fun d v σ F H _ e p => ⟨σ.set i (some v), fun Q q => q, fun γ h => h.set (P := sh K d) p, fun T F0 H0 γ s => s.set (P := sh K d) i p, wipe_set1 σ i _⟩
def ugP (K : Frag) (i j : Nat) : PyData → Gm → Gm := fun d γ => match d with
  | .tuple [a, b] => (γ.set i (.sh (sh K a))).set j (.sh (sh K b))
  | _ => γ
def IsPr (d : PyData) : Prop := ∃ a b, d = .tuple [a, b]
def gPr (K : Frag) (i j : Nat) : TG := gTup K 2 (gCons (gName i) (gCons (gName j) gNil))
theorem tgt_pair {K : Frag} (i j : Nat) : Tgt K (gPr K i j) [i, j] IsPr (ugP K i j) := fun d v σ F H h e p => by
  obtain ⟨a, b, rfl⟩ := h
  obtain ⟨q, xs, rfl, h1, v1, vs1, rfl, h2, v2, vs2, rfl, h3, h4⟩ := p
  have h4 : vs2 = [] := h4
  subst h4
  exact ⟨(σ.set i (some v1)).set j (some v2), fun Q k => ⟨q, _, rfl, e.tup h1, rfl, v1, _, rfl, v2, _, rfl, rfl, k⟩, fun γ s => (s.set (P := sh K a) h2).set (P := sh K b) h3, fun T F0 H0 γ s => (s.set (P := sh K a) i h2).set (P := sh K b) j h3, wipe_set2 σ i j _ _⟩
/-- (a, b) as a target, both local names -/
theorem pg_two (X : Cx) (i j : Nat) {x y : Str} {p q r : Pos} {m : Nat} (hc : X.calm = true) (hN : X.N.Nodup) (hi : X.N[i]? = some x := by rfl) (hj : X.N[j]? = some y := by rfl) (hx : Loc X.env.scope x := by first | exact Or.inl rfl | exact Or.inr rfl) (hy : Loc X.env.scope y := by first | exact Or.inl rfl | exact Or.inr rfl)
    (hf : X.fn x = true ∨ X.env.scope.names.lookup x = some .local := by first | exact .inl rfl | exact .inr rfl) (hf2 : X.fn y = true ∨ X.env.scope.names.lookup y = some .local := by first | exact .inl rfl | exact .inr rfl) :
    PG X (.Tuple [.Name x p, .Name y q] m r) (gPr X.K i j) :=
  pg_tup hc (pgs_cons (pg_name hN hi hx hf) (pgs_cons (pg_name hN hj hy hf2) pgs_nil))
/-! ### list comprehensions over data -/
def wipeG (γ : Gm) : List Nat → Gm
  | [] => γ
  | v :: vs => (wipeG γ vs).set v .un
theorem env_wipe {γ : Gm} {σ : L2.St} {F : Hp} (h : Env γ σ F) : ∀ vs, Env (wipeG γ vs) (wipe σ vs) F
  | [] => h
  | v :: vs => (env_wipe h vs).blank v none
def tTst (T : List NTab) (γ : Gm) (b : Bool) : TT := tTs T γ b
abbrev EvTs (X : Cx) (T : List NTab) (γ : Gm) (ifs : List Expr) (b : Bool) : Prop := PTs X ifs (tTs T γ b)
theorem PTs.imp {X : Cx} {e : List Expr} {t t' : TT} (h : PTs X e t) (i : ∀ σ H Q, t' σ H Q → t σ H Q) : PTs X e t' := ⟨fun pins s σ H Q I q => h.run pins s σ H Q I (i σ H Q q)⟩
section
variable {X : Cx} {T : List NTab} {γ : Gm}
theorem evts_nil : EvTs X T γ [] true := PTs.imp pts_nil fun σ H Q ⟨F, s, q⟩ => q F H (Grow.refl s.ex)
theorem evts_one {t : Expr} {b : Bool} (h : EvT X T γ t b) : EvTs X T γ [t] b := pts_one h
end
/-- what the block asks, turn by turn -/
structure Blk (X : Cx) (T : List NTab) (γ : Gm) (elt : Expr) (ifs : List Expr) (scope : Scope) (vs : List Nat) (ug : PyData → Gm → Gm) (ds : List PyData) (f : PyData → Bool) (g : PyData → PyData) : Prop where
  t : ∀ d ∈ ds, ∀ (s : Shared) (H : Hp) (C : Addr) (cl : List (Str × Addr)) (fp : List Addr), EvTs (X.blk s H scope (compEnvC scope cl C X.env) fp) T (ug d (wipeG γ vs)) ifs (f d)
  e : ∀ d ∈ ds, f d = true → ∀ (s : Shared) (H : Hp) (C : Addr) (cl : List (Str × Addr)) (fp : List Addr), Ev (X.blk s H scope (compEnvC scope cl C X.env) fp) T (ug d (wipeG γ vs)) elt (sh X.K (g d))
/-- readings of the block: for some item that it may meet -/
def tBt (X : Cx) (T : List NTab) (γ : Gm) (vs : List Nat) (ug : PyData → Gm → Gm) (ds : List PyData) (f : PyData → Bool) : TT := fun σ H Q => ∃ d ∈ ds, tTs T (ug d (wipeG γ vs)) (f d) σ H Q
def tBe (X : Cx) (T : List NTab) (γ : Gm) (vs : List Nat) (ug : PyData → Gm → Gm) (ds : List PyData) (f : PyData → Bool) (g : PyData → PyData) : TE := fun σ H Q => ∃ d ∈ ds, f d = true ∧ tEv T (ug d (wipeG γ vs)) (sh X.K (g d)) σ H Q
theorem take_snoc {α : Type} : ∀ {l : List α} {i : Nat} {x : α}, l[i]? = some x → l.take (i + 1) = l.take i ++ [x]
  | [], _, _, h => by simp at h
  | a :: l, 0, x, h => by
    cases h
    rfl
  | a :: l, i + 1, x, h => congrArg (a :: ·) (take_snoc (l := l) (i := i) h)
section
variable {X : Cx} {T : List NTab} {γ : Gm} {elt tg iter : Expr} {ifs : List Expr} {scope : Scope} {vs : List Nat} {good : PyData → Prop} {ug : PyData → Gm → Gm} {ds : List PyData} {f : PyData → Bool} {g : PyData → PyData} {G : TG}
theorem wipe_get (σ : L2.St) (j : Nat) : ∀ vs : List Nat, (wipe σ vs)[j]? = if j ∈ vs ∧ j < σ.length then some none else σ[j]?
  | [] => by
    rw [if_neg (by simp)]
    rfl
  | v :: r => by
    have ih := wipe_get σ j r
    show ((wipe σ r).set v none)[j]? = _
    by_cases c : v = j
    · subst c
      by_cases h : v < σ.length
      · rw [List.getElem?_set_self (by rw [wipe_length]; exact h), if_pos ⟨List.mem_cons_self, h⟩]
      · rw [List.getElem?_eq_none (by rw [List.length_set, wipe_length]; omega), if_neg (fun z => h z.2), List.getElem?_eq_none (by omega)]
    · rw [List.getElem?_set_ne c, ih]
      by_cases h : j ∈ r ∧ j < σ.length
      · rw [if_pos h, if_pos ⟨List.mem_cons_of_mem _ h.1, h.2⟩]
      · rw [if_neg h, if_neg]
        rintro ⟨h1, h2⟩
        rcases List.mem_cons.mp h1 with z | z
        · exact c z.symm
        · exact h ⟨z, h2⟩
theorem wipe_wipe (σ : L2.St) (vs : List Nat) : wipe (wipe σ vs) vs = wipe σ vs := by
  apply List.ext_getElem?
  intro j
  rw [wipe_get, wipe_length, wipe_get]
  split <;> rfl
/-- one turn -/
theorem lc_turn (hT : Tgt X.K G vs good ug) (hgood : ∀ d ∈ ds, good d) (hl : ds.length < sizeLine)
    {σ : L2.St} {F1 H1 : Hp} (s : St0 T γ σ F1 H1) {D : Addr} (hD : H1 D = none) {i : Nat} {d : PyData} {x : V} {F' H' : Hp} {xs : List V} (hd : ds[i]? = some d) (hx : Dq X.K F1 d x) (gr : Grow T F1 H1 F' H') (hF : F' D = none) (hH : H' D = some (.lst xs)) (hxs : DqAll X.K F' (((ds.take i).filter f).map g) xs) :
    G x (wipe σ vs) H' fun σ2 H2 => wipe σ2 vs = wipe σ vs ∧ tBt X T γ vs ug ds f σ2 H2 fun b H3 => if b = true then tBe X T γ vs ug ds f g σ2 H3 fun y H4 => ∃ acc, H4 D = some (.lst acc) ∧ acc.length < sizeLine ∧
      (∃ F5 xs5, Grow T F1 H1 F5 (upd H4 D (.lst (acc ++ [y]))) ∧ F5 D = none ∧ (upd H4 D (.lst (acc ++ [y]))) D = some (.lst xs5) ∧ DqAll X.K F5 (((ds.take (i + 1)).filter f).map g) xs5) else (∃ F5 xs5, Grow T F1 H1 F5 H3 ∧ F5 D = none ∧ H3 D = some (.lst xs5) ∧ DqAll X.K F5 (((ds.take (i + 1)).filter f).map g) xs5) := by
  have mem := List.mem_of_getElem? hd
  have s' := s.grow gr
  have hw : Env (wipeG γ vs) (wipe σ vs) F' := env_wipe s'.env vs
  obtain ⟨σ', q1, q2, _, q4⟩ := hT d x (wipe σ vs) F' H' (hgood d mem) gr.ex (Dq.mono gr.f d x hx)
  refine q1 _ ⟨by rw [q4, wipe_wipe], d, mem, F', ⟨gr.ex, q2 _ hw, s'.tab⟩, fun F2 H2 g2 => ?_⟩
  have g12 := gr.trans g2
  have hF2 : F2 D = none := g2.own D hF (by rw [hH]; simp)
  have hH2 : H2 D = some (.lst xs) := g2.h D _ hH (fun ps z => by cases z)
  have len : xs.length ≤ ds.length := by
    rw [hxs.length, List.length_map]
    exact Nat.le_trans (List.length_filter_le _ _) (by rw [List.length_take]; omega)
  cases hf : f d with
  | true =>
    show (if true = true then _ else _)
    rw [if_pos rfl]
    refine ⟨d, mem, hf, F2, ⟨g2.ex, (q2 _ hw).mono g2.f, g2.tab s'.tab⟩, fun v F3 H3 g3 p3 => ?_⟩
    have hF3 : F3 D = none := g3.own D hF2 (by rw [hH2]; simp)
    have hH3 : H3 D = some (.lst xs) := g3.h D _ hH2 (fun ps z => by cases z)
    refine ⟨xs, hH3, by omega, F3, xs ++ [v], (g12.trans g3).mut hD hF3 hH3 trivial, hF3, upd_same, ?_⟩
    rw [take_snoc hd, List.filter_append, List.map_append]
    refine (DqAll.mono (g2.f.trans g3.f) _ _ hxs).append ?_
    rw [List.filter_cons, if_pos hf]
    exact DqAll.one p3
  | false =>
    show (if false = true then _ else _)
    rw [if_neg Bool.false_ne_true]
    refine ⟨F2, xs, g12, hF2, hH2, ?_⟩
    rw [take_snoc hd, List.filter_append, List.map_append]
    have e : List.filter f [d] = [] := by rw [List.filter_cons, if_neg (by rw [hf]; simp)]; rfl
    rw [e, List.map_nil, List.append_nil]
    exact DqAll.mono g2.f _ _ hxs
theorem lc_imp (l : Bool) (hT : Tgt X.K G vs good ug) (hgood : ∀ d ∈ ds, good d) (hl : ds.length < sizeLine)
    (σ : L2.St) (H : Hp) (Q : VK) (h : tNew T X.K γ ((ds.filter f).map g) σ H Q) :
    tLc (if l = true then iList X.K (tEv T γ (sh X.K (.list ds))) else iTup X.K (tEv T γ (sh X.K (.tuple ds)))) G (tBt X T γ vs ug ds f) (tBe X T γ vs ug ds f g) vs σ H Q := by
  obtain ⟨F, s, q⟩ := h
  have fin : ∀ {F1 H1 D H'}, Grow T F H F1 H1 → H1 D = none → (∃ F5 xs5, Grow T F1 H1 F5 H' ∧ F5 D = none ∧ H' D = some (.lst xs5) ∧ DqAll X.K F5 (((ds.take ds.length).filter f).map g) xs5) → Q (.ref D) H' := fun {F1 H1 D H'} g1 hD ⟨F5, xs5, k1, k2, k3, k4⟩ => by
    rw [List.take_length] at k4
    exact q D xs5 F5 H' (g1.trans k1) (g1.free _ hD) k2 k3 k4
  cases l with
  | true =>
    rw [if_pos rfl]
    refine ⟨F, s, fun v F1 H1 g1 p1 => ?_⟩
    obtain ⟨a, xs, rfl, h1, h2⟩ := p1
    refine ⟨a, rfl, ⟨xs, SqL.of (g1.ex.go h1)⟩, fun D hD => ?_⟩
    have g0 := Grow.raw (T := T) (o := .lst []) g1.ex hD
    refine lc_list (K := X.K) (a := a) (xs := xs) (fun i H' => ∃ F5 xs5, Grow T F1 H1 F5 H' ∧ F5 D = none ∧ H' D = some (.lst xs5) ∧ DqAll X.K F5 (((ds.take i).filter f).map g) xs5) ⟨F1, [], g0, g1.ex.free hD, upd_same, rfl⟩ (fun i H' _ ⟨F5, xs5, k1, _⟩ => SqL.of (k1.ex.go (k1.f.go h1))) (fun i x H' hi ⟨F5, xs5, k1, k2, k3, k4⟩ => ?_) fun H' k => fin g1 hD (by rw [← h2.length]; exact k)
    obtain ⟨d, hd, hx⟩ := h2.get' hi
    exact lc_turn hT hgood hl (s.grow g1) hD hd hx k1 k2 k3 k4
  | false =>
    rw [if_neg Bool.false_ne_true]
    refine ⟨F, s, fun v F1 H1 g1 p1 => ?_⟩
    obtain ⟨a, xs, rfl, h1, h2⟩ := p1
    refine ⟨a, rfl, ⟨xs, g1.ex.tup h1⟩, fun D hD => ?_⟩
    have g0 := Grow.raw (T := T) (o := .lst []) g1.ex hD
    refine lc_tup (K := X.K) (a := a) (xs := xs) (fun i H' => ∃ F5 xs5, Grow T F1 H1 F5 H' ∧ F5 D = none ∧ H' D = some (.lst xs5) ∧ DqAll X.K F5 (((ds.take i).filter f).map g) xs5) ⟨F1, [], g0, g1.ex.free hD, upd_same, rfl⟩ (fun i H' _ ⟨F5, xs5, k1, _⟩ => k1.ex.tup (k1.f.tup h1)) (fun i x H' hi ⟨F5, xs5, k1, k2, k3, k4⟩ => ?_) fun H' k => fin g1 hD (by rw [← h2.length]; exact k)
    obtain ⟨d, hd, hx⟩ := h2.get' hi
    exact lc_turn hT hgood hl (s.grow g1) hD hd hx k1 k2 k3 k4
/-- the source's walk -/
theorem pi_seq (l : Bool) (hi : Ev X T γ iter (sh X.K (seqD l ds))) : PI X tg iter (if l = true then iList X.K (tEv T γ (sh X.K (.list ds))) else iTup X.K (tEv T γ (sh X.K (.tuple ds)))) := by
  cases l with
  | true => exact pi_list hi
  | false => exact pi_tup hi
theorem evn_lc {pos : Pos} {own : List (Str × Nat)} (l : Bool) (hc : X.calm = true) (hN : X.N.Nodup) (hi : Ev X T γ iter (sh X.K (seqD l ds))) (ok : BlkOk X.N X.env.scope scope own)
    (hG : ∀ (s : Shared) (H : Hp) (C : Addr) (cl : List (Str × Addr)) (fp : List Addr), PG (X.blk s H scope (compEnvC scope cl C X.env) fp) tg G) (hT : Tgt X.K G (own.map (·.2)) good ug) (hgood : ∀ d ∈ ds, good d) (hl : ds.length < sizeLine)
    (B : Blk X T γ elt ifs scope (own.map (·.2)) ug ds f g) (hs : ∀ x, foldedSetIterable iter X.env x = pure x := by intro _; rfl) : EvN X T γ (.ListComp elt [⟨tg, iter, ifs, 0⟩] scope pos) ((ds.filter f).map g) :=
  PE.imp (pe_lc hc hN (pi_seq l hi) ok hG (fun s H C cl fp => ⟨fun pins st σ H' Q I ⟨d, hd, q⟩ => (B.t d hd s H C cl fp).run pins st σ H' Q I q⟩) (fun s H C cl fp => ⟨fun pins st σ H' Q I ⟨d, hd, hf, q⟩ => (B.e d hd hf s H C cl fp).run pins st σ H' Q I q⟩) hs) (lc_imp l hT hgood hl)
/-- name = [..], as data -/
theorem sj_setLc {c : Cfg} {po : Po} (i : Nat) {y : Str} {py pos spos : Pos} {own : List (Str × Nat)} (l : Bool) (hc : X.calm = true) (hN : X.N.Nodup) (hi : Ev X c.T γ iter (sh X.K (seqD l ds))) (ok : BlkOk X.N X.env.scope scope own)
    (hG : ∀ (s : Shared) (H : Hp) (C : Addr) (cl : List (Str × Addr)) (fp : List Addr), PG (X.blk s H scope (compEnvC scope cl C X.env) fp) tg G) (hT : Tgt X.K G (own.map (·.2)) good ug) (hgood : ∀ d ∈ ds, good d) (hl : ds.length < sizeLine)
    (B : Blk X c.T γ elt ifs scope (own.map (·.2)) ug ds f g) (h : po.nx (γ.set i (.sh (sh X.K (.list ((ds.filter f).map g)))))) (hy : X.N[i]? = some y := by rfl) (hyl : X.env.scope.names.lookup y = some .local := by rfl)
    (hsw : swapsWith (.ListComp elt [⟨tg, iter, ifs, 0⟩] scope pos) (some (.Name y py)) spos.line X.env = pure true := by exact sw_true rfl rfl rfl (by decide +kernel)) (hs : ∀ x, foldedSetIterable iter X.env x = pure x := by intro _; rfl) :
    SJ X c γ (.Assign [.Name y py] (.ListComp elt [⟨tg, iter, ifs, 0⟩] scope pos) spos) po :=
  PS.imp (ps_setLc hc hN hy hyl hsw (pi_seq l hi) ok hG (fun s H C cl fp => ⟨fun pins st σ H' Q I ⟨d, hd, q⟩ => (B.t d hd s H C cl fp).run pins st σ H' Q I q⟩) (fun s H C cl fp => ⟨fun pins st σ H' Q I ⟨d, hd, hf, q⟩ => (B.e d hd hf s H C cl fp).run pins st σ H' Q I q⟩) hs)
    fun D σ H ⟨F0, H0, F, s, h1, _⟩ => lc_imp l hT hgood hl σ H _ ⟨F, s.s, fun a xs F2 H2 g q1 q2 q3 q4 => by
      have g2 := g.freeze q1 q2 q3
      exact h1 _ _ _ H2 h ((s.grow g2).set i ⟨a, xs, rfl, upd_same, DqAll.mono (Ex.new q2) _ _ q4⟩)⟩
end
end Tw
namespace Tw
open PySem PySem.Spec PyProof.Rows L2
theorem StS.back {T : List NTab} {K : Frag} {F0 H0 F1 Hb F H : Hp} {γ : Gm} {σ : L2.St} (s : StS T K F1 Hb γ σ F H) (conv : ∀ F' H', Grow T F1 Hb F' H' → Grow T F0 H0 F' H') (fr : ∀ a, Hb a = none → H0 a = none) : StS T K F0 H0 γ σ F H :=
  ⟨conv _ _ s.g, s.s, fun i ds hi => by
    obtain ⟨a, xs, q1, q2, q3, q4, q5⟩ := s.own i ds hi
    exact ⟨a, xs, q1, q2, q3, fr a q4, q5⟩, s.uniq⟩
section
variable {X : Cx} {c : Cfg} {γ : Gm} {po : Po} {pos p : Pos} {a b e test iter tg : Expr} {es : List Expr} {st : Stmt} {sts body : List Stmt} {x : Str} {k : Bool} {G : TG} {vs : List Nat} {good : PyData → Prop} {ug : PyData → Gm → Gm} {ds : List PyData}
/-- what a loop's body is read as -/
def tBd (X : Cx) (c : Cfg) (body : List Stmt) : TS := fun D σ H => ∃ γ po, SJs X c γ body po ∧ tSJ X.K c γ po D σ H
theorem bd_ok : PSs X body (tBd X c body) := sj_any fun _ _ _ q => q
theorem sj_for (l : Bool) (hp : PassesOwn (model X.prog X.w) X.A X.env X.xe) (hc : X.calm = true) (hi : Ev X c.T γ iter (sh X.K (seqD l ds))) (hG : PG X tg G) (hT : Tgt X.K G vs good ug) (hgood : ∀ d ∈ ds, good d) (Iv : Nat → Gm → Prop) (h0 : Iv 0 γ)
    (hs : ∀ (k : Nat) (d : PyData) (γ' : Gm), ds[k]? = some d → Iv k γ' → SJs X c (ug d γ') body { po with nx := Iv (k + 1), ct := Iv (k + 1), bk := po.nx }) (hd : ∀ γ', Iv ds.length γ' → po.nx γ')
    (hf : ∀ x, foldedSetIterable iter X.env x = pure x := by intro _; rfl) : SJ X c γ (.For tg iter body [] pos) po := by
  refine PS.imp (ps_for hp hc (pi_seq (tg := tg) l hi) hG (bd_ok (c := c)) hf) fun D σ H ⟨F0, H0, F, s, h1, h2, h3, h4, h5⟩ => ?_
  cases l with
  | true =>
    rw [if_pos rfl]
    refine ⟨F, s.s, fun v F1 H1 g1 p1 => ?_⟩
    obtain ⟨a, xs, rfl, k1, k2⟩ := p1
    obtain ⟨Hb, sb, conv, fr⟩ := (s.grow g1).rebase
    refine ⟨a, rfl, ⟨xs, SqL.of (g1.ex.go k1)⟩, for_list (K := X.K) (a := a) (xs := xs) (fun i σ' H' => ∃ γ' F', Iv i γ' ∧ StS c.T X.K F1 Hb γ' σ' F' H') ⟨γ, F1, h0, sb⟩ (fun i σ' H' _ ⟨γ', F', _, s'⟩ => SqL.of (s'.s.ex.go (s'.g.f.go k1))) (fun i x σ' H' hi' ⟨γ', F', hI, s'⟩ => ?_) fun σ' H' ⟨γ', F', hI, s'⟩ => h1 γ' σ' F' H' (hd γ' (by rw [← k2.length]; exact hI)) (s'.back conv fr)⟩
    obtain ⟨d, hd', hx⟩ := k2.get' hi'
    obtain ⟨σ2, q1, _, q3, _⟩ := hT d x σ' F' H' (hgood d (List.mem_of_getElem? hd')) s'.s.ex (Dq.mono s'.g.f d x hx)
    exact q1 _ ⟨ug d γ', _, hs i d γ' hd' hI, F1, Hb, F', q3 _ _ _ _ s', fun γ'' σ'' F'' H'' hn s'' => ⟨γ'', F'', hn, s''⟩, fun γ'' σ'' F'' H'' hn s'' => h1 _ _ _ _ hn (s''.back conv fr), fun γ'' σ'' F'' H'' hn s'' => ⟨γ'', F'', hn, s''⟩,
      fun v F' H' g p => h4 v F' H' (conv _ _ g) p, fun o m d F' H' he g h0 xd => h5 o m d F' H' he (conv _ _ g) (fr d h0) xd⟩
  | false =>
    rw [if_neg Bool.false_ne_true]
    refine ⟨F, s.s, fun v F1 H1 g1 p1 => ?_⟩
    obtain ⟨a, xs, rfl, k1, k2⟩ := p1
    obtain ⟨Hb, sb, conv, fr⟩ := (s.grow g1).rebase
    refine ⟨a, rfl, ⟨xs, g1.ex.tup k1⟩, for_tup (K := X.K) (a := a) (xs := xs) (fun i σ' H' => ∃ γ' F', Iv i γ' ∧ StS c.T X.K F1 Hb γ' σ' F' H') ⟨γ, F1, h0, sb⟩ (fun i σ' H' _ ⟨γ', F', _, s'⟩ => s'.s.ex.tup (s'.g.f.tup k1)) (fun i x σ' H' hi' ⟨γ', F', hI, s'⟩ => ?_) fun σ' H' ⟨γ', F', hI, s'⟩ => h1 γ' σ' F' H' (hd γ' (by rw [← k2.length]; exact hI)) (s'.back conv fr)⟩
    obtain ⟨d, hd', hx⟩ := k2.get' hi'
    obtain ⟨σ2, q1, _, q3, _⟩ := hT d x σ' F' H' (hgood d (List.mem_of_getElem? hd')) s'.s.ex (Dq.mono s'.g.f d x hx)
    exact q1 _ ⟨ug d γ', _, hs i d γ' hd' hI, F1, Hb, F', q3 _ _ _ _ s', fun γ'' σ'' F'' H'' hn s'' => ⟨γ'', F'', hn, s''⟩, fun γ'' σ'' F'' H'' hn s'' => h1 _ _ _ _ hn (s''.back conv fr), fun γ'' σ'' F'' H'' hn s'' => ⟨γ'', F'', hn, s''⟩,
      fun v F' H' g p => h4 v F' H' (conv _ _ g) p, fun o m d F' H' he g h0 xd => h5 o m d F' H' he (conv _ _ g) (fr d h0) xd⟩
/-- for x in range(n) -/
theorem sj_forR (i : Nat) {n : Int} {p1 p2 : Pos} (hp : PassesOwn (model X.prog X.w) X.A X.env X.xe) (hc : X.calm = true) (hm : X.mg "range" = none) (hn : -(2 ^ 62) ≤ n ∧ n < 2 ^ 62) (he : Ev X c.T γ e (sh X.K (.int n))) (hN : X.N.Nodup) (Iv : Nat → Gm → Prop) (h0 : Iv 0 γ)
    (hs : ∀ (k : Nat) (γ' : Gm), k < n.toNat → Iv k γ' → SJs X c (γ'.set i (.sh (sh X.K (.int k)))) body { po with nx := Iv (k + 1), ct := Iv (k + 1), bk := po.nx }) (hd : ∀ γ', Iv n.toNat γ' → po.nx γ')
    (hg : Gl X "range" := by rfl) (hi : X.N[i]? = some x := by rfl) (hx : Loc X.env.scope x := by first | exact Or.inl rfl | exact Or.inr rfl) (hf : X.fn x = true ∨ X.env.scope.names.lookup x = some .local := by first | exact .inl rfl | exact .inr rfl)
    (hst : starEach [e] X.env = [(false, eval e X.env)] := by rfl) (hst2 : starEach [e] X.env = (false, eval e X.env) :: starEach [] X.env := by rfl) (hfs : ∀ y, foldedSetIterable (.Call (.Name "range" p1) [e] [] p2) X.env y = pure y := by intro _; rfl) : SJ X c γ (.For (.Name x p) (.Call (.Name "range" p1) [e] [] p2) body [] pos) po := by
  refine PS.imp (ps_for hp hc (pi_range1 hg hm (pa_cons he pa_nil hst2) hst) (pg_name hN hi hx hf) (bd_ok (c := c)) hfs) fun D σ H ⟨F0, H0, F, s, h1, h2, h3, h4, h5⟩ => ?_
  refine ⟨F, s.s, fun v F1 H1 g1 p1 => ⟨n, by rw [show v = V.int n from p1], hn.1, hn.2, ?_⟩⟩
  refine for_range (lo := 0) (n := n.toNat) (fun i σ' H' => ∃ γ' F', Iv i γ' ∧ StS c.T X.K F0 H0 γ' σ' F' H') ⟨γ, F1, h0, s.grow g1⟩ (fun k σ' H' hk ⟨γ', F', hI, s'⟩ => ?_) fun σ' H' ⟨γ', F', hI, s'⟩ => h1 γ' σ' F' H' (hd γ' hI) s'
  refine ⟨_, _, hs k γ' hk hI, F0, H0, F', s'.set (P := sh X.K (.int k)) i (show V.int (0 + k) = V.int k by rw [Int.zero_add]), fun γ'' σ'' F'' H'' hn s'' => ⟨γ'', F'', hn, s''⟩, fun γ'' σ'' F'' H'' hn s'' => h1 _ _ _ _ hn s'', fun γ'' σ'' F'' H'' hn s'' => ⟨γ'', F'', hn, s''⟩, h4, h5⟩
def tWt (X : Cx) (T : List NTab) (test : Expr) : TT := fun σ H Q => ∃ γ b, EvT X T γ test b ∧ tTs T γ b σ H Q
theorem sj_while (hp : PassesOwn (model X.prog X.w) X.A X.env X.xe) (Iv : Nat → Gm → Prop) (m0 : Nat) (h0 : Iv m0 γ)
    (hs : ∀ (m : Nat) (γ' : Gm), Iv m γ' → ∃ b, EvT X c.T γ' test b ∧ (b = true → SJs X c γ' body { po with nx := fun γ'' => ∃ m', m' < m ∧ Iv m' γ'', ct := fun γ'' => ∃ m', m' < m ∧ Iv m' γ'', bk := po.nx }) ∧ (b = false → po.nx γ')) : SJ X c γ (.While test body [] pos) po := by
  have ht : PT X test (tWt X c.T test) := ⟨fun pins st σ H Q I ⟨γ, b, h1, h2⟩ => h1.run pins st σ H Q I h2⟩
  refine PS.imp (ps_while hp ht (bd_ok (c := c))) fun D σ H ⟨F0, H0, F, s, h1, h2, h3, h4, h5⟩ => ?_
  refine ⟨fun m σ' H' => ∃ γ' F', Iv m γ' ∧ StS c.T X.K F0 H0 γ' σ' F' H', ⟨m0, γ, F, h0, s⟩, fun m σ' H' ⟨γ', F', hI, s'⟩ => ?_⟩
  obtain ⟨b, q1, q2, q3⟩ := hs m γ' hI
  refine ⟨γ', b, q1, F', s'.s, fun F2 H2 g2 => ?_⟩
  cases b with
  | true =>
    show (if true = true then _ else _)
    rw [if_pos rfl]
    exact ⟨fun σ'' H'' => ∃ m', m' < m ∧ ∃ γ'' F'', Iv m' γ'' ∧ StS c.T X.K F0 H0 γ'' σ'' F'' H'', fun _ _ n => n, γ', _, q2 rfl, F0, H0, F2, s'.grow g2, fun γ'' σ'' F'' H'' ⟨m', hm, hI'⟩ s'' => ⟨m', hm, γ'', F'', hI', s''⟩, fun γ'' σ'' F'' H'' hn s'' => h1 _ _ _ _ hn s'',
      fun γ'' σ'' F'' H'' ⟨m', hm, hI'⟩ s'' => ⟨m', hm, γ'', F'', hI', s''⟩, h4, h5⟩
  | false =>
    show (if false = true then _ else _)
    rw [if_neg Bool.false_ne_true]
    exact h1 _ _ F2 H2 (q3 rfl) (s'.grow g2)
/-- a, b = e, of data -/
theorem sj_set2 (i j : Nat) {d1 d2 : PyData} (he : Ev X c.T γ e (sh X.K (.tuple [d1, d2]))) (hG : PG X tg (gPr X.K i j)) (h : po.nx ((γ.set i (.sh (sh X.K d1))).set j (.sh (sh X.K d2)))) (hs : swapsWithSole [tg] e pos.line X.env = pure false := by rfl) (hw : swappedStores [tg] e X.env = pure none := by rfl)
    (h1 : (assignEach [tg] X.env).map (·.2) = [assign tg X.env] := by rfl) : SJ X c γ (.Assign [tg] e pos) po :=
  PS.imp (ps_asg he hG hs hw h1) fun D σ H ⟨F0, H0, F, s, h1, _⟩ => ⟨F, s.s, fun v F2 H2 g p => by
    obtain ⟨σ', q1, _, q3, _⟩ := tgt_pair (K := X.K) i j _ v σ F2 H2 ⟨d1, d2, rfl⟩ g.ex p
    exact q1 _ (h1 _ _ F2 H2 h (q3 _ _ _ _ (s.grow g)))⟩
end
/-! ### defs -/
def startG (Ps : List Ty) (n : Nat) : Gm := Ps.map .sh ++ List.replicate (n - Ps.length) .un
theorem allP_get : ∀ {Ps : List Ty} {vs : List V} {F : Hp} {i : Nat} {P : Ty}, AllP Ps vs F → Ps[i]? = some P → ∃ v, vs[i]? = some v ∧ P.p v F
  | [], _, _, _, _, _, e => by simp at e
  | P :: Ps, _, _, 0, _, h, e => by
    obtain ⟨v, vs, rfl, h2, _⟩ := h
    cases e
    exact ⟨v, rfl, h2⟩
  | P :: Ps, _, _, i + 1, _, h, e => by
    obtain ⟨v, vs, rfl, _, h3⟩ := h
    exact allP_get (i := i) h3 e
theorem start_get {Ps : List Ty} {n i : Nat} {x : Slot} (h : (startG Ps n)[i]? = some x) : (∃ P, Ps[i]? = some P ∧ x = .sh P) ∨ x = .un := by
  unfold startG at h
  by_cases c : i < Ps.length
  · rw [List.getElem?_append_left (by simpa using c), List.getElem?_map] at h
    cases e : Ps[i]? with
    | none => rw [e] at h; cases h
    | some P =>
      rw [e] at h
      cases h
      exact .inl ⟨P, rfl, rfl⟩
  · rw [List.getElem?_append_right (by simpa using c), List.getElem?_replicate] at h
    split at h
    · exact .inr (Option.some.inj h).symm
    · cases h
theorem start_st {T : List NTab} {K : Frag} {Ps : List Ty} {vs : List V} {N : List Str} {F H : Hp} (e : Ex F H) (t : NdefX.TabsN T H) (h : AllP Ps vs F) (hl : vs.length ≤ N.length) : StS T K F H (startG Ps N.length) (L2.start N vs) F H := by
  have len := h.length
  refine ⟨Grow.refl e, ⟨e, ⟨?_, fun i P hi => ?_⟩, t⟩, fun i ds hi => ?_, fun i j ds es hi _ => ?_⟩
  · unfold L2.start startG
    simp only [List.length_append, List.length_map, List.length_replicate]
    omega
  · rcases start_get hi with ⟨R, h1, h2⟩ | h2
    · cases h2
      obtain ⟨v, h3, h4⟩ := allP_get h h1
      refine ⟨v, ?_, h4⟩
      unfold L2.start
      have : i < vs.length := (List.getElem?_eq_some_iff.mp h3).1
      rw [List.getElem?_append_left (by simpa using this), List.getElem?_map, h3]
      rfl
    · cases h2
  · rcases start_get hi with ⟨R, _, h2⟩ | h2 <;> cases h2
  · rcases start_get hi with ⟨R, _, h2⟩ | h2 <;> cases h2
def never : Gm → Prop := fun _ => False
def noTy : Ty := ⟨fun _ _ => False, fun _ h => h⟩
def poOf : Out → Po
  | .ok P => ⟨fun _ => ∀ F, P.p .non F, never, never, P, fun _ _ => False⟩
  | .err o m => ⟨never, never, never, noTy, fun o' m' => o' = o ∧ m' = m⟩
section
variable {P : Program} {w : World} {K : Frag} {mg : Str → Option Value} {base : Heap} {T : List NTab} {C : Addr} {ι : Type} {S : ι → Pr}
theorem def_ok {x qual : Str} {st : Stmt} {f : Addr} {fd : FuncData} {N ps : List Str} {k : Nat} (F : Fun K x qual st f fd) (Sc : FnScope N ps (defScope st)) (hlen : ∀ i, (S i).args.length = ps.length)
    (body : ∀ (i : ι), (S i).pre → ∀ (cdv : Value) (A : Around) (outer : List PySem.Env) (s : Shared) (H : Hp) (E : XK), Room k (A.deeper (envOfC qual (defScope st) s.heap.objs.size f cdv)) →
      SJs (cxOf CX0 P w K mg base N qual (defScope st) f cdv A outer s H E).nox ⟨T, C, E⟩ (startG (S i).args N.length) (defBody st) (poOf (S i).out)) : FnOk P w K mg base CX0 (k + 1) f fd ps (spF T C S) := by
  refine F.ok Sc (fun vs H Q E ⟨i, F, _, _, _, h, _⟩ => by rw [h.length, hlen]) fun cdv A outer s H vs Q E hr ⟨i, F1, hp, e, t, h, hq⟩ => ⟨_, body i hp cdv A outer s H E hr, ?_⟩
  have hl : vs.length ≤ N.length := by
    rw [h.length, hlen, ← Sc.pre, List.length_take]
    omega
  refine ⟨F1, H, F1, start_st e t h hl, ?_⟩
  cases ho : (S i).out with
  | ok R =>
    rw [ho] at hq
    exact ⟨fun γ' σ' F' H' hn s' => hq _ F' H' s'.g (hn F'), fun _ _ _ _ z _ => z.elim, fun _ _ _ _ z _ => z.elim, fun v F' H' g p => hq v F' H' g p, fun _ _ _ _ _ z => z.elim⟩
  | err o m =>
    rw [ho] at hq
    exact ⟨fun _ _ _ _ z _ => z.elim, fun _ _ _ _ z _ => z.elim, fun _ _ _ _ z _ => z.elim, fun _ _ _ _ z => z.elim, fun o' m' d F' H' ⟨e1, e2⟩ g h0 xd => by
      subst e1 e2
      exact hq d F' H' g h0 xd⟩
/-- .. that may raise -/
theorem def_okX {x qual : Str} {st : Stmt} {f : Addr} {fd : FuncData} {N ps : List Str} {k : Nat} (F : Fun K x qual st f fd) (Sc : FnScope N ps (defScope st)) (hlen : ∀ i, (S i).args.length = ps.length)
    (body : ∀ (i : ι), (S i).pre → ∀ (cdv : Value) (A : Around) (outer : List PySem.Env) (s : Shared) (H : Hp) (E : XK), Room k (A.deeper (envOfC qual (defScope st) s.heap.objs.size f cdv)) → L2N.Takes (cxOf (L2N.CX P w) P w K mg base N qual (defScope st) f cdv A outer s H E) (fun cls d _ H => E cls d H) →
      SJs (cxOf (L2N.CX P w) P w K mg base N qual (defScope st) f cdv A outer s H E) ⟨T, C, E⟩ (startG (S i).args N.length) (defBody st) (poOf (S i).out)) : FnOk P w K mg base (L2N.CX P w) (k + 1) f fd ps (spF T C S) := by
  refine F.okN Sc (fun vs H Q E ⟨i, F, _, _, _, h, _⟩ => by rw [h.length, hlen]) fun cdv A outer s H vs Q E hr ⟨i, F1, hp, e, t, h, hq⟩ => ⟨_, body i hp cdv A outer s H E hr (L2N.takes_of rfl rfl rfl rfl), ?_⟩
  have hl : vs.length ≤ N.length := by
    rw [h.length, hlen, ← Sc.pre, List.length_take]
    omega
  refine ⟨F1, H, F1, start_st e t h hl, ?_⟩
  cases ho : (S i).out with
  | ok R =>
    rw [ho] at hq
    exact ⟨fun γ' σ' F' H' hn s' => hq _ F' H' s'.g (hn F'), fun _ _ _ _ z _ => z.elim, fun _ _ _ _ z _ => z.elim, fun v F' H' g p => hq v F' H' g p, fun _ _ _ _ _ z => z.elim⟩
  | err o m =>
    rw [ho] at hq
    exact ⟨fun _ _ _ _ z _ => z.elim, fun _ _ _ _ z _ => z.elim, fun _ _ _ _ z _ => z.elim, fun _ _ _ _ z => z.elim, fun o' m' d F' H' ⟨e1, e2⟩ g h0 xd => by
      subst e1 e2
      exact hq d F' H' g h0 xd⟩
end
end Tw
/-! Windows and forms: the mirror on natural numbers, and what the specification says. -/
namespace Tl
open R7256f.Spec
/-! ### keeps -/
/-- every count is positive -/
def Pos (l : List (Bool × Nat)) : Prop := ∀ e ∈ l, 0 < e.2
/-- strictly falling, kinds by turns -/
def Fall : List (Bool × Nat) → Prop
  | [] => True
  | [_] => True
  | a :: b :: r => b.2 < a.2 ∧ b.1 ≠ a.1 ∧ Fall (b :: r)
theorem Fall.tail {a : Bool × Nat} {r : List (Bool × Nat)} (h : Fall (a :: r)) : Fall r := by
  cases r with
  | nil => trivial
  | cons b r => exact h.2.2
theorem Fall.lt : ∀ {a : Bool × Nat} {r : List (Bool × Nat)}, Fall (a :: r) → ∀ e ∈ r, e.2 < a.2
  | a, [], _, e, he => by simp at he
  | a, b :: r, h, e, he => by
    rcases List.mem_cons.mp he with rfl | he
    · exact h.1
    · exact Nat.lt_trans (Fall.lt h.2.2 e he) h.1
theorem Pos.tail {a : Bool × Nat} {r : List (Bool × Nat)} (h : Pos (a :: r)) : Pos r := fun e he => h e (List.mem_cons_of_mem _ he)
theorem kept_le : ∀ (l : List (Bool × Nat)) (x : Nat), kept l x ≤ x
  | [], x => Nat.le_refl _
  | e :: r, x => by
    have := kept_le r (min x e.2)
    show kept r (min x e.2) ≤ x
    omega
theorem kept_le_of_mem : ∀ (l : List (Bool × Nat)) (x : Nat) (e : Bool × Nat), e ∈ l → kept l x ≤ e.2
  | a :: r, x, e, he => by
    show kept r (min x a.2) ≤ e.2
    rcases List.mem_cons.mp he with rfl | he
    · have := kept_le r (min x e.2)
      omega
    · exact kept_le_of_mem r _ e he
theorem kept_pos : ∀ (l : List (Bool × Nat)) (x : Nat), Pos l → 0 < x → 0 < kept l x
  | [], x, _, h => h
  | e :: r, x, hp, h => by
    have := hp e List.mem_cons_self
    exact kept_pos r (min x e.2) hp.tail (by omega)
theorem kept_zero : ∀ (l : List (Bool × Nat)), kept l 0 = 0 := fun l => Nat.le_zero.mp (kept_le l 0)
theorem shifted_zero : ∀ (l : List (Bool × Nat)), shifted l 0 = 0
  | [] => rfl
  | e :: r => by
    show shifted r (min 0 e.2) + (if e.1 then 0 else 0 - e.2) = 0
    rw [Nat.zero_min, shifted_zero r]
    split <;> omega
theorem kept_app : ∀ (l : List (Bool × Nat)) (e : Bool × Nat) (x : Nat), kept (l ++ [e]) x = min (kept l x) e.2
  | [], e, x => rfl
  | a :: r, e, x => kept_app r e (min x a.2)
theorem shifted_app : ∀ (l : List (Bool × Nat)) (e : Bool × Nat) (x : Nat), shifted (l ++ [e]) x = shifted l x + (if e.1 then 0 else kept l x - e.2)
  | [], e, x => by
    show 0 + (if e.1 then 0 else x - e.2) = 0 + _
    rfl
  | a :: r, e, x => by
    show shifted (r ++ [e]) (min x a.2) + (if a.1 then 0 else x - a.2) = shifted r (min x a.2) + (if a.1 then 0 else x - a.2) + (if e.1 then 0 else kept r (min x a.2) - e.2)
    rw [shifted_app r e]
    omega
theorem kept_low : ∀ (l : List (Bool × Nat)) (d x : Nat), (∀ e ∈ l, d < e.2) → kept (l.map fun e => (e.1, e.2 - d)) (x - d) = kept l x - d
  | [], d, x, _ => rfl
  | a :: r, d, x, h => by
    have ha := h a List.mem_cons_self
    show kept (r.map fun e => (e.1, e.2 - d)) (min (x - d) (a.2 - d)) = kept r (min x a.2) - d
    rw [show min (x - d) (a.2 - d) = min x a.2 - d by omega]
    exact kept_low r d _ fun e he => h e (List.mem_cons_of_mem _ he)
theorem shifted_low : ∀ (l : List (Bool × Nat)) (d x : Nat), (∀ e ∈ l, d < e.2) → shifted (l.map fun e => (e.1, e.2 - d)) (x - d) = shifted l x
  | [], d, x, _ => rfl
  | a :: r, d, x, h => by
    have ha := h a List.mem_cons_self
    show shifted (r.map fun e => (e.1, e.2 - d)) (min (x - d) (a.2 - d)) + (if a.1 then 0 else x - d - (a.2 - d)) = shifted r (min x a.2) + (if a.1 then 0 else x - a.2)
    rw [show min (x - d) (a.2 - d) = min x a.2 - d by omega, shifted_low r d _ fun e he => h e (List.mem_cons_of_mem _ he)]
    rw [show x - d - (a.2 - d) = x - a.2 by omega]
/-! ### well made forms -/
structure WF (t : Trim) : Prop where
  pos : Pos t.keeps
  fall : Fall t.keeps
def WFo (f : Form) : Prop := ∀ t, f = some t → WF t
theorem Fall.app : ∀ {l : List (Bool × Nat)} {e : Bool × Nat}, Fall l → (∀ z, l.getLast? = some z → e.2 < z.2 ∧ e.1 ≠ z.1) → Fall (l ++ [e])
  | [], e, _, _ => trivial
  | [a], e, _, h => ⟨(h a rfl).1, (h a rfl).2, trivial⟩
  | a :: b :: r, e, hf, h => ⟨hf.1, hf.2.1, Fall.app (l := b :: r) hf.2.2 fun z hz => h z (by rw [List.getLast?_cons_cons]; exact hz)⟩
theorem Fall.dropLast : ∀ {l : List (Bool × Nat)}, Fall l → Fall l.dropLast
  | [], _ => trivial
  | [_], _ => trivial
  | [_, _], _ => trivial
  | a :: b :: c :: r, h => ⟨h.1, h.2.1, Fall.dropLast (l := b :: c :: r) h.2.2⟩
theorem Fall.before : ∀ {l : List (Bool × Nat)} {y z : Bool × Nat}, Fall l → l.getLast? = some y → l.dropLast.getLast? = some z → y.2 < z.2 ∧ y.1 ≠ z.1
  | [], _, _, _, h, _ => by simp at h
  | [_], _, _, _, _, h => by simp at h
  | [a, b], y, z, hf, h1, h2 => by
    simp at h1 h2
    subst h1 h2
    exact ⟨hf.1, hf.2.1⟩
  | a :: b :: c :: r, y, z, hf, h1, h2 => by
    refine Fall.before (l := b :: c :: r) hf.2.2 ?_ ?_
    · rw [← h1, List.getLast?_cons_cons (a := a)]
    · rw [← h2]
      show (b :: (c :: r).dropLast).getLast? = (a :: b :: (c :: r).dropLast).getLast?
      rw [List.getLast?_cons_cons]
theorem Fall.low (d : Nat) : ∀ {l : List (Bool × Nat)}, Fall l → (∀ e ∈ l, d < e.2) → Fall (l.map fun e => (e.1, e.2 - d))
  | [], _, _ => trivial
  | [_], _, _ => trivial
  | a :: b :: r, h, hd => by
    refine ⟨?_, h.2.1, Fall.low d (l := b :: r) h.2.2 fun e he => hd e (List.mem_cons_of_mem _ he)⟩
    have h1 := hd a List.mem_cons_self
    have h2 := hd b (List.mem_cons_of_mem _ List.mem_cons_self)
    have h3 := h.1
    show b.2 - d < a.2 - d
    omega
theorem last_mem {α : Type} {l : List α} {y : α} (h : l.getLast? = some y) : y ∈ l := List.mem_of_getLast? h
theorem last_split {α : Type} : ∀ {l : List α} {y : α}, l.getLast? = some y → l = l.dropLast ++ [y]
  | [], _, h => by simp at h
  | [a], y, h => by
    simp at h
    subst h
    rfl
  | a :: b :: r, y, h => by
    rw [List.getLast?_cons_cons] at h
    have ih := last_split h
    show a :: (b :: r) = a :: ((b :: r).dropLast ++ [y])
    rw [← ih]
/-- the last count is the least -/
theorem Fall.least : ∀ {l : List (Bool × Nat)} {y : Bool × Nat}, Fall l → l.getLast? = some y → ∀ e ∈ l, y.2 ≤ e.2
  | [], _, _, h => by simp at h
  | [a], y, _, h => by
    simp at h
    subst h
    intro e he
    simp at he
    subst he
    exact Nat.le_refl _
  | a :: b :: r, y, hf, h => by
    rw [List.getLast?_cons_cons] at h
    intro e he
    have ih := Fall.least (l := b :: r) hf.2.2 h
    rcases List.mem_cons.mp he with rfl | he
    · exact Nat.le_trans (ih b List.mem_cons_self) (Nat.le_of_lt hf.1)
    · exact ih e he
theorem keep_wf {l : List (Bool × Nat)} {b : Bool} {m : Nat} (hp : Pos l) (hf : Fall l) (hm : 0 < m) : Pos (keep b m l) ∧ Fall (keep b m l) := by
  unfold keep
  cases h : l.getLast? with
  | none => exact ⟨fun e he => by simp at he; subst he; exact hm, trivial⟩
  | some y =>
    show Pos (if y.2 ≤ m then l else if y.1 == b then l.dropLast ++ [(b, m)] else l ++ [(b, m)]) ∧ Fall (if y.2 ≤ m then l else if y.1 == b then l.dropLast ++ [(b, m)] else l ++ [(b, m)])
    by_cases c : y.2 ≤ m
    · rw [if_pos c]
      exact ⟨hp, hf⟩
    · rw [if_neg c]
      by_cases k : (y.1 == b) = true
      · rw [if_pos k]
        refine ⟨fun e he => ?_, Fall.app hf.dropLast fun z hz => ?_⟩
        · rcases List.mem_append.mp he with he | he
          · exact hp e (List.dropLast_subset _ he)
          · simp at he
            subst he
            exact hm
        · have q := Fall.before hf h hz
          have k' : y.1 = b := by simpa using k
          exact ⟨Nat.lt_trans (by show m < y.2; omega) q.1, by rw [← k']; exact q.2⟩
      · rw [if_neg k]
        refine ⟨fun e he => ?_, Fall.app hf fun z hz => ?_⟩
        · rcases List.mem_append.mp he with he | he
          · exact hp e he
          · simp at he
            subst he
            exact hm
        · rw [h] at hz
          cases hz
          exact ⟨by show m < y.2; omega, fun e => k (by simp; exact e.symm)⟩
theorem lower_some {d : Nat} {l r : List (Bool × Nat)} (h : lower d l = some r) : (∀ e ∈ l, d < e.2) ∧ r = l.map fun e => (e.1, e.2 - d) := by
  unfold lower at h
  split at h
  · cases h
  · rename_i c
    refine ⟨fun e he => ?_, (Option.some.inj h).symm⟩
    have : ¬ (e.2 ≤ d) := fun q => c (List.any_eq_true.mpr ⟨e, he, by simpa using q⟩)
    omega
theorem lower_none {d : Nat} {l : List (Bool × Nat)} (h : lower d l = none) : ∃ e ∈ l, e.2 ≤ d := by
  unfold lower at h
  split at h
  · rename_i c
    obtain ⟨e, he, q⟩ := List.any_eq_true.mp c
    exact ⟨e, he, by simpa using q⟩
  · cases h
theorem low_pos {d : Nat} {l : List (Bool × Nat)} (h : ∀ e ∈ l, d < e.2) : Pos (l.map fun e => (e.1, e.2 - d)) := fun e he => by
  obtain ⟨a, ha, rfl⟩ := List.mem_map.mp he
  have := h a ha
  show 0 < a.2 - d
  omega
theorem addStep_wf {f : Form} (h : WFo f) (s : Step) : WFo (addStep f s) := by
  intro t ht
  cases f with
  | none => cases ht
  | some u =>
    obtain ⟨hp, hf⟩ := h u rfl
    obtain ⟨k, n⟩ := s
    cases k with
    | head =>
      change (if n = 0 then none else some { u with keeps := keep true n u.keeps }) = some t at ht
      split at ht
      · cases ht
      · rename_i c
        cases ht
        exact ⟨(keep_wf hp hf (by omega)).1, (keep_wf hp hf (by omega)).2⟩
    | tail =>
      change (if n = 0 then none else some { u with keeps := keep false n u.keeps }) = some t at ht
      split at ht
      · cases ht
      · rename_i c
        cases ht
        exact ⟨(keep_wf hp hf (by omega)).1, (keep_wf hp hf (by omega)).2⟩
    | skip =>
      change (lower n u.keeps).map (fun l => ({ u with skip := u.skip + n, keeps := l } : Trim)) = some t at ht
      cases e : lower n u.keeps with
      | none => rw [e] at ht; cases ht
      | some l =>
        rw [e] at ht
        cases ht
        obtain ⟨h1, rfl⟩ := lower_some e
        exact ⟨low_pos h1, hf.low n h1⟩
    | chop =>
      change (lower n u.keeps).map (fun l => ({ u with chop := u.chop + n, keeps := l } : Trim)) = some t at ht
      cases e : lower n u.keeps with
      | none => rw [e] at ht; cases ht
      | some l =>
        rw [e] at ht
        cases ht
        obtain ⟨h1, rfl⟩ := lower_some e
        exact ⟨low_pos h1, hf.low n h1⟩
theorem foldl_wf : ∀ (p : Pipeline) (f : Form), WFo f → WFo (p.foldl addStep f)
  | [], _, h => h
  | s :: r, f, h => foldl_wf r _ (addStep_wf h s)
theorem formOf_wf (p : Pipeline) : WFo (formOf p) := foldl_wf p start fun t h => by
  cases h
  exact ⟨fun e he => (by simp at he), trivial⟩
/-! ### window(steps, length) -/
def wstep (w : Nat × Nat) (s : Step) : Nat × Nat := match s.kind with
  | .head => (w.1, min w.2 (w.1 + s.count))
  | .tail => (max w.1 (w.2 - s.count), w.2)
  | .skip => (min w.2 (w.1 + s.count), w.2)
  | .chop => (w.1, max w.1 (w.2 - s.count))
def norm (w : Nat × Nat) : Nat × Nat := if w.1 < w.2 then w else (0, 0)
def pwin (p : Pipeline) (n : Nat) : Nat × Nat := norm (p.foldl wstep (0, n))
theorem wstep_le (w : Nat × Nat) (h : w.1 ≤ w.2) (s : Step) : (wstep w s).1 ≤ (wstep w s).2 := by
  obtain ⟨k, n⟩ := s
  cases k <;> simp only [wstep] <;> omega
theorem wstep_eq (w : Nat × Nat) (h : w.1 = w.2) (s : Step) : (wstep w s).1 = (wstep w s).2 := by
  obtain ⟨k, n⟩ := s
  cases k <;> simp only [wstep] <;> omega
theorem wstep_up (w : Nat × Nat) (n : Nat) (h : w.2 ≤ n) (s : Step) : (wstep w s).2 ≤ max w.1 n := by
  obtain ⟨k, m⟩ := s
  cases k <;> simp only [wstep] <;> omega
/-- what a state of the loop says of a form -/
def Rep (f : Form) (n : Nat) (w : Nat × Nat) : Prop := match f with
  | none => w.1 = w.2
  | some t => if middle t n = 0 then w.1 = w.2 else w.1 = startAt t n ∧ w.2 = endAt t n
theorem rep_some (t : Trim) (n : Nat) (w : Nat × Nat) : Rep (some t) n w = (if middle t n = 0 then w.1 = w.2 else w.1 = startAt t n ∧ w.2 = endAt t n) := rfl
theorem rep_step {f : Form} (hw : WFo f) {n : Nat} {w : Nat × Nat} (h : Rep f n w) (s : Step) : Rep (addStep f s) n (wstep w s) := by
  cases f with
  | none => exact wstep_eq w h s
  | some t =>
    obtain ⟨hp, hf⟩ := hw t rfl
    by_cases hm : middle t n = 0
    · -- empty already
      have h' : w.1 = w.2 := by
        have := h
        rw [rep_some] at this
        simpa [hm] using this
      have q := wstep_eq w h' s
      cases hf' : addStep (some t) s with
      | none => exact q
      | some u =>
        have hm' : middle u n = 0 := by
          obtain ⟨k, c⟩ := s
          unfold middle at hm ⊢
          cases k with
          | head =>
            change (if c = 0 then none else some { t with keeps := keep true c t.keeps }) = some u at hf'
            split at hf'
            · cases hf'
            · cases hf'
              exact hm
          | tail =>
            change (if c = 0 then none else some { t with keeps := keep false c t.keeps }) = some u at hf'
            split at hf'
            · cases hf'
            · cases hf'
              exact hm
          | skip =>
            change (lower c t.keeps).map (fun l => ({ t with skip := t.skip + c, keeps := l } : Trim)) = some u at hf'
            cases e : lower c t.keeps with
            | none => rw [e] at hf'; cases hf'
            | some l =>
              rw [e] at hf'
              cases hf'
              show n - (t.skip + c) - t.chop = 0
              omega
          | chop =>
            change (lower c t.keeps).map (fun l => ({ t with chop := t.chop + c, keeps := l } : Trim)) = some u at hf'
            cases e : lower c t.keeps with
            | none => rw [e] at hf'; cases hf'
            | some l =>
              rw [e] at hf'
              cases hf'
              show n - t.skip - (t.chop + c) = 0
              omega
        rw [rep_some]
        rw [if_pos hm']
        exact q
    · have h' : w.1 = startAt t n ∧ w.2 = endAt t n := by
        have := h
        rw [rep_some] at this
        simpa [hm] using this
      obtain ⟨h1, h2⟩ := h'
      unfold endAt at h2
      unfold startAt at h1 h2
      generalize hx : middle t n = x at *
      have hk := kept_pos t.keeps x hp (by omega)
      have hkx := kept_le t.keeps x
      obtain ⟨k, c⟩ := s
      -- head and tail
      have kp : ∀ b : Bool, c ≠ 0 → kept (keep b c t.keeps) x = min (kept t.keeps x) c ∧ shifted (keep b c t.keeps) x = shifted t.keeps x + (if b then 0 else kept t.keeps x - c) := by
        intro b hc
        unfold keep
        cases hl : t.keeps.getLast? with
        | none =>
          have e : t.keeps = [] := List.getLast?_eq_none_iff.mp hl
          rw [e]
          show min x c = min x c ∧ 0 + (if b then 0 else x - c) = 0 + (if b then 0 else x - c)
          exact ⟨rfl, rfl⟩
        | some y =>
          have hy := kept_le_of_mem t.keeps x y (last_mem hl)
          show kept (if y.2 ≤ c then t.keeps else if y.1 == b then t.keeps.dropLast ++ [(b, c)] else t.keeps ++ [(b, c)]) x = _ ∧ shifted (if y.2 ≤ c then t.keeps else if y.1 == b then t.keeps.dropLast ++ [(b, c)] else t.keeps ++ [(b, c)]) x = _
          by_cases c1 : y.2 ≤ c
          · rw [if_pos c1]
            cases b <;> simp <;> omega
          · rw [if_neg c1]
            by_cases c2 : (y.1 == b) = true
            · rw [if_pos c2]
              have c2' : y.1 = b := by simpa using c2
              have e := last_split hl
              have k1 := kept_app t.keeps.dropLast y x
              have s1 := shifted_app t.keeps.dropLast y x
              rw [← e] at k1 s1
              rw [kept_app, shifted_app, k1, s1, c2']
              cases b <;> simp <;> omega
            · rw [if_neg c2, kept_app, shifted_app]
              exact ⟨rfl, rfl⟩
      cases k with
      | head =>
        show Rep (if c = 0 then none else some { t with keeps := keep true c t.keeps }) n (w.1, min w.2 (w.1 + c))
        by_cases hc : c = 0
        · rw [if_pos hc]
          show w.1 = min w.2 (w.1 + c)
          omega
        · rw [if_neg hc]
          obtain ⟨k1, s1⟩ := kp true hc
          have hx' : middle { t with keeps := keep true c t.keeps } n = x := hx
          rw [rep_some]
          rw [if_neg (by rw [hx']; exact hm)]
          unfold endAt startAt
          rw [hx']
          show w.1 = t.skip + shifted (keep true c t.keeps) x ∧ min w.2 (w.1 + c) = t.skip + shifted (keep true c t.keeps) x + kept (keep true c t.keeps) x
          rw [k1, s1]
          simp
          omega
      | tail =>
        show Rep (if c = 0 then none else some { t with keeps := keep false c t.keeps }) n (max w.1 (w.2 - c), w.2)
        by_cases hc : c = 0
        · rw [if_pos hc]
          show max w.1 (w.2 - c) = w.2
          omega
        · rw [if_neg hc]
          obtain ⟨k1, s1⟩ := kp false hc
          have hx' : middle { t with keeps := keep false c t.keeps } n = x := hx
          rw [rep_some]
          rw [if_neg (by rw [hx']; exact hm)]
          unfold endAt startAt
          rw [hx']
          show max w.1 (w.2 - c) = t.skip + shifted (keep false c t.keeps) x ∧ w.2 = t.skip + shifted (keep false c t.keeps) x + kept (keep false c t.keeps) x
          rw [k1, s1]
          simp
          omega
      | skip =>
        show Rep ((lower c t.keeps).map fun l => ({ t with skip := t.skip + c, keeps := l } : Trim)) n (min w.2 (w.1 + c), w.2)
        cases e : lower c t.keeps with
        | none =>
          obtain ⟨y, hy, hyc⟩ := lower_none e
          have := kept_le_of_mem t.keeps x y hy
          show min w.2 (w.1 + c) = w.2
          omega
        | some l =>
          obtain ⟨hd, rfl⟩ := lower_some e
          have k1 := kept_low t.keeps c x hd
          have s1 := shifted_low t.keeps c x hd
          have hx' : middle { t with skip := t.skip + c, keeps := t.keeps.map fun e => (e.1, e.2 - c) } n = x - c := by
            show n - (t.skip + c) - t.chop = x - c
            unfold middle at hx
            omega
          show Rep (some { t with skip := t.skip + c, keeps := t.keeps.map fun e => (e.1, e.2 - c) }) n (min w.2 (w.1 + c), w.2)
          rw [rep_some]
          rw [hx']
          by_cases hxc : x - c = 0
          · rw [if_pos hxc]
            show min w.2 (w.1 + c) = w.2
            omega
          · rw [if_neg hxc]
            have k2 := kept_pos _ _ (low_pos hd) (Nat.pos_of_ne_zero hxc)
            unfold endAt startAt
            rw [hx']
            show min w.2 (w.1 + c) = t.skip + c + shifted (t.keeps.map fun e => (e.1, e.2 - c)) (x - c) ∧ w.2 = t.skip + c + shifted (t.keeps.map fun e => (e.1, e.2 - c)) (x - c) + kept (t.keeps.map fun e => (e.1, e.2 - c)) (x - c)
            rw [k1] at k2 ⊢
            rw [s1]
            omega
      | chop =>
        show Rep ((lower c t.keeps).map fun l => ({ t with chop := t.chop + c, keeps := l } : Trim)) n (w.1, max w.1 (w.2 - c))
        cases e : lower c t.keeps with
        | none =>
          obtain ⟨y, hy, hyc⟩ := lower_none e
          have := kept_le_of_mem t.keeps x y hy
          show w.1 = max w.1 (w.2 - c)
          omega
        | some l =>
          obtain ⟨hd, rfl⟩ := lower_some e
          have k1 := kept_low t.keeps c x hd
          have s1 := shifted_low t.keeps c x hd
          have hx' : middle { t with chop := t.chop + c, keeps := t.keeps.map fun e => (e.1, e.2 - c) } n = x - c := by
            show n - t.skip - (t.chop + c) = x - c
            unfold middle at hx
            omega
          show Rep (some { t with chop := t.chop + c, keeps := t.keeps.map fun e => (e.1, e.2 - c) }) n (w.1, max w.1 (w.2 - c))
          rw [rep_some]
          rw [hx']
          by_cases hxc : x - c = 0
          · rw [if_pos hxc]
            show w.1 = max w.1 (w.2 - c)
            omega
          · rw [if_neg hxc]
            have k2 := kept_pos _ _ (low_pos hd) (Nat.pos_of_ne_zero hxc)
            unfold endAt startAt
            rw [hx']
            show w.1 = t.skip + shifted (t.keeps.map fun e => (e.1, e.2 - c)) (x - c) ∧ max w.1 (w.2 - c) = t.skip + shifted (t.keeps.map fun e => (e.1, e.2 - c)) (x - c) + kept (t.keeps.map fun e => (e.1, e.2 - c)) (x - c)
            rw [k1] at k2 ⊢
            rw [s1]
            omega
theorem rep_fold : ∀ (p : Pipeline) (f : Form) (n : Nat) (w : Nat × Nat), WFo f → Rep f n w → Rep (p.foldl addStep f) n (p.foldl wstep w)
  | [], _, _, _, _, h => h
  | s :: r, f, n, w, hw, h => rep_fold r _ n _ (addStep_wf hw s) (rep_step hw h s)
theorem rep_win {f : Form} (hw : WFo f) {n : Nat} {w : Nat × Nat} (h : Rep f n w) : norm w = windowOf f n := by
  cases f with
  | none =>
    have h : w.1 = w.2 := h
    show (if w.1 < w.2 then w else (0, 0)) = (0, 0)
    rw [if_neg (by omega)]
  | some t =>
    rw [rep_some] at h
    show (if w.1 < w.2 then w else (0, 0)) = (if middle t n = 0 then (0, 0) else (startAt t n, endAt t n))
    by_cases hm : middle t n = 0
    · rw [if_pos hm] at h ⊢
      rw [if_neg (by omega)]
    · rw [if_neg hm] at h ⊢
      obtain ⟨h1, h2⟩ := h
      have := kept_pos t.keeps (middle t n) (hw t rfl).pos (Nat.pos_of_ne_zero hm)
      unfold endAt at h2
      rw [if_pos (by omega)]
      obtain ⟨a, b⟩ := w
      exact Prod.ext h1 h2
theorem start_wf : WFo start := fun t h => by
  cases h
  exact ⟨fun e he => (by simp at he), trivial⟩
theorem rep_start (n : Nat) : Rep start n (0, n) := by
  show (if n - 0 - 0 = 0 then (0 : Nat) = n else (0 : Nat) = 0 + 0 ∧ n = 0 + 0 + (n - 0 - 0))
  split <;> omega
/-- window(steps, length) is the specification's -/
theorem pwin_is (p : Pipeline) (n : Nat) : pwin p n = windowOf (formOf p) n := rep_win (formOf_wf p) (rep_fold p start n (0, n) start_wf (rep_start n))
/-! ### the normal pipeline -/
theorem keepStep_fold : ∀ (r l : List (Bool × Nat)) (sk ch : Nat), Fall (l ++ r) → Pos (l ++ r) → (r.map keepStep).foldl addStep (some ⟨sk, ch, l⟩) = some ⟨sk, ch, l ++ r⟩
  | [], l, sk, ch, _, _ => by simp
  | e :: r, l, sk, ch, hf, hp => by
    have e1 : l ++ e :: r = (l ++ [e]) ++ r := by simp
    rw [List.map_cons, List.foldl_cons]
    have key : addStep (some ⟨sk, ch, l⟩) (keepStep e) = some ⟨sk, ch, l ++ [e]⟩ := by
      have hpe : 0 < e.2 := hp e (List.mem_append_right _ List.mem_cons_self)
      have hk : keep e.1 e.2 l = l ++ [e] := by
        unfold keep
        cases hl : l.getLast? with
        | none =>
          have : l = [] := List.getLast?_eq_none_iff.mp hl
          rw [this]
          rfl
        | some y =>
          have hb : y.2 > e.2 ∧ e.1 ≠ y.1 := by
            have e2 := last_split hl
            rw [e2, List.append_assoc] at hf
            have : ∀ (a : List (Bool × Nat)), Fall (a ++ ([y] ++ e :: r)) → e.2 < y.2 ∧ e.1 ≠ y.1 := by
              intro a
              induction a with
              | nil => intro h; exact ⟨h.1, h.2.1⟩
              | cons z a ih => intro h; exact ih h.tail
            exact this _ hf
          show (if y.2 ≤ e.2 then l else if y.1 == e.1 then l.dropLast ++ [(e.1, e.2)] else l ++ [(e.1, e.2)]) = l ++ [e]
          rw [if_neg (by omega), if_neg (by simp; exact fun q => hb.2 q.symm)]
      obtain ⟨b, m⟩ := e
      cases b with
      | true =>
        show (if m = 0 then none else some { (⟨sk, ch, l⟩ : Trim) with keeps := keep true m l }) = _
        have hpe : 0 < m := hpe
        rw [if_neg (by omega)]
        have hk : keep true m l = l ++ [(true, m)] := hk
        rw [hk]
      | false =>
        show (if m = 0 then none else some { (⟨sk, ch, l⟩ : Trim) with keeps := keep false m l }) = _
        have hpe : 0 < m := hpe
        rw [if_neg (by omega)]
        have hk : keep false m l = l ++ [(false, m)] := hk
        rw [hk]
    rw [key, keepStep_fold r (l ++ [e]) sk ch (by rw [← e1]; exact hf) (by rw [← e1]; exact hp), e1]
theorem form_steps {f : Form} (h : WFo f) : formOf (stepsOf f) = f := by
  cases f with
  | none => rfl
  | some t =>
    obtain ⟨hp, hf⟩ := h t rfl
    obtain ⟨sk, ch, l⟩ := t
    unfold formOf stepsOf
    show (((if sk = 0 then [] else [⟨.skip, sk⟩]) ++ (if ch = 0 then [] else [⟨.chop, ch⟩]) ++ l.map keepStep : List Step)).foldl addStep start = _
    rw [List.foldl_append, List.foldl_append]
    have e1 : ((if sk = 0 then [] else [⟨.skip, sk⟩] : List Step)).foldl addStep start = some ⟨sk, 0, []⟩ := by
      by_cases c : sk = 0
      · rw [if_pos c, c]
        rfl
      · rw [if_neg c]
        show some (⟨0 + sk, 0, []⟩ : Trim) = _
        rw [Nat.zero_add]
    have e2 : ((if ch = 0 then [] else [⟨.chop, ch⟩] : List Step)).foldl addStep (some ⟨sk, 0, []⟩) = some ⟨sk, ch, []⟩ := by
      by_cases c : ch = 0
      · rw [if_pos c, c]
        rfl
      · rw [if_neg c]
        show some (⟨sk, 0 + ch, []⟩ : Trim) = _
        rw [Nat.zero_add]
    rw [e1, e2, keepStep_fold l [] sk ch hf hp]
    rfl
theorem win_steps {f : Form} (h : WFo f) (n : Nat) : pwin (stepsOf f) n = windowOf f n := by
  rw [pwin_is, form_steps h]
theorem steps_inj {f g : Form} (hf : WFo f) (hg : WFo g) (e : stepsOf f = stepsOf g) : f = g := by
  rw [← form_steps hf, ← form_steps hg, e]
theorem sameForm_iff (f g : Form) : sameForm f g = true ↔ f = g := by
  cases f with
  | none =>
    cases g with
    | none => simp [sameForm]
    | some u => simp [sameForm]
  | some t =>
    cases g with
    | none => simp [sameForm]
    | some u =>
      obtain ⟨a, b, c⟩ := t
      obtain ⟨a', b', c'⟩ := u
      simp [sameForm, Bool.and_eq_true]
      constructor
      · rintro ⟨⟨h1, h2⟩, h3⟩
        exact ⟨h1, h2, h3⟩
      · rintro ⟨h1, h2, h3⟩
        exact ⟨⟨h1, h2⟩, h3⟩
/-! ### apply -/
theorem take_drop_run {α : Type} (l : List α) : ∀ (p : Pipeline) (w : Nat × Nat), w.1 ≤ w.2 → w.2 ≤ l.length → ((p.foldl wstep w).1 ≤ (p.foldl wstep w).2 ∧ (p.foldl wstep w).2 ≤ l.length) ∧ p.foldl applyStep ((l.take w.2).drop w.1) = (l.take (p.foldl wstep w).2).drop (p.foldl wstep w).1
  | [], w, h1, h2 => ⟨⟨h1, h2⟩, rfl⟩
  | s :: r, w, h1, h2 => by
    rw [List.foldl_cons, List.foldl_cons]
    have key : applyStep ((l.take w.2).drop w.1) s = (l.take (wstep w s).2).drop (wstep w s).1 := by
      obtain ⟨k, c⟩ := s
      obtain ⟨a, b⟩ := w
      have hl : ((l.take b).drop a).length = b - a := by
        simp only [List.length_drop, List.length_take]
        show min b l.length - a = b - a
        have : b ≤ l.length := h2
        omega
      have h1 : a ≤ b := h1
      cases k with
      | head =>
        show ((l.take b).drop a).take c = (l.take (min b (a + c))).drop a
        rw [List.take_drop, List.take_take, Nat.min_comm]
      | tail =>
        show ((l.take b).drop a).drop (((l.take b).drop a).length - c) = (l.take b).drop (max a (b - c))
        rw [hl, List.drop_drop]
        congr 1
        omega
      | skip =>
        show ((l.take b).drop a).drop c = (l.take b).drop (min b (a + c))
        rw [List.drop_drop]
        by_cases q : a + c ≤ b
        · rw [Nat.min_eq_right q]
        · rw [Nat.min_eq_left (by omega)]
          have h3 : b ≤ l.length := h2
          rw [List.drop_eq_nil_of_le (by simp only [List.length_take]; omega), List.drop_eq_nil_of_le (by simp only [List.length_take]; omega)]
      | chop =>
        show ((l.take b).drop a).take (((l.take b).drop a).length - c) = (l.take (max a (b - c))).drop a
        rw [hl, List.take_drop, List.take_take]
        by_cases q : a ≤ b - c
        · rw [Nat.max_eq_right q]
          congr 2
          omega
        · rw [Nat.max_eq_left (by omega)]
          congr 2
          omega
    rw [key]
    have b2 : (wstep w s).2 ≤ l.length := by
      have := wstep_up w l.length h2 s
      omega
    exact take_drop_run l r (wstep w s) (wstep_le w h1 s) b2
/-- the result is the window's slice -/
theorem run_is {α : Type} (p : Pipeline) (l : List α) : run p l = (l.take (pwin p l.length).2).drop (pwin p l.length).1 := by
  obtain ⟨⟨h1, h2⟩, h3⟩ := take_drop_run l p (0, l.length) (Nat.zero_le _) (Nat.le_refl _)
  have e : (l.take l.length).drop 0 = l := by simp
  rw [e] at h3
  unfold run
  rw [h3]
  unfold pwin norm
  split
  · rfl
  · rename_i q
    show _ = (l.take 0).drop 0
    rw [List.drop_eq_nil_of_le (by simp only [List.length_take]; omega)]
    simp
end Tl
namespace Tl
open R7256f.Spec
/-! ### the normal pipeline as the program keeps it -/
structure NP where
  sk : Nat
  ch : Nat
  turns : List (Bool × Nat)
  emp : Bool
def NP.form (o : NP) : Form := if o.emp = true then none else some ⟨o.sk, o.ch, o.turns⟩
def NP.turn (o : NP) (b : Bool) (c : Nat) : NP :=
  if c = 0 then { o with emp := true } else match o.turns.getLast? with
    | none => { o with turns := o.turns ++ [(b, c)] }
    | some l => if c < l.2 then (if l.1 = b then { o with turns := o.turns.dropLast ++ [(b, c)] } else { o with turns := o.turns ++ [(b, c)] }) else o
def NP.lower (o : NP) (c : Nat) : NP := { o with turns := o.turns.map fun e => (e.1, e.2 - c) }
def NP.dead (o : NP) (c : Nat) : Bool := match o.turns.getLast? with
  | none => false
  | some l => decide (l.2 ≤ c)
def NP.take (o : NP) (s : Step) : NP := match s.kind with
  | .head => o.turn true s.count
  | .tail => o.turn false s.count
  | .skip => if o.dead s.count = true then { o with emp := true } else { o.lower s.count with sk := o.sk + s.count }
  | .chop => if o.dead s.count = true then { o with emp := true } else { o.lower s.count with ch := o.ch + s.count }
def NP.add (o : NP) (s : Step) : NP := if o.emp = true then o else o.take s
def NP.zero : NP := ⟨0, 0, [], false⟩
def nOf (p : Pipeline) : NP := p.foldl NP.add NP.zero
theorem turn_form {o : NP} (he : o.emp = false) (b : Bool) (c : Nat) : (o.turn b c).form = if c = 0 then none else some ⟨o.sk, o.ch, keep b c o.turns⟩ := by
  obtain ⟨sk, ch, l, em⟩ := o
  have he : em = false := he
  subst he
  unfold NP.turn
  by_cases hc : c = 0
  · rw [if_pos hc, if_pos hc]
    rfl
  · rw [if_neg hc, if_neg hc]
    unfold keep
    show NP.form (match l.getLast? with
      | none => _
      | some y => _) = _
    cases hl : l.getLast? with
    | none =>
      have e : l = [] := List.getLast?_eq_none_iff.mp hl
      subst e
      rfl
    | some y =>
      show NP.form (if c < y.2 then (if y.1 = b then (⟨sk, ch, l.dropLast ++ [(b, c)], false⟩ : NP) else ⟨sk, ch, l ++ [(b, c)], false⟩) else ⟨sk, ch, l, false⟩) = some ⟨sk, ch, if y.2 ≤ c then l else if y.1 == b then l.dropLast ++ [(b, c)] else l ++ [(b, c)]⟩
      by_cases h1 : c < y.2
      · rw [if_pos h1, if_neg (show ¬ y.2 ≤ c by omega)]
        by_cases h2 : y.1 = b
        · rw [if_pos h2, if_pos (by simpa using h2)]
          rfl
        · rw [if_neg h2, if_neg (by simpa using h2)]
          rfl
      · rw [if_neg h1, if_pos (show y.2 ≤ c by omega)]
        rfl
theorem dead_form {o : NP} (hw : Fall o.turns) (c : Nat) : R7256f.Spec.lower c o.turns = if o.dead c = true then none else some (o.turns.map fun e => (e.1, e.2 - c)) := by
  unfold NP.dead
  cases hl : o.turns.getLast? with
  | none =>
    have e : o.turns = [] := List.getLast?_eq_none_iff.mp hl
    rw [e]
    rfl
  | some y =>
    show _ = if decide (y.2 ≤ c) = true then none else some _
    unfold R7256f.Spec.lower
    by_cases h : y.2 ≤ c
    · rw [if_pos (List.any_eq_true.mpr ⟨y, last_mem hl, by simpa using h⟩), if_pos (by simpa using h)]
    · rw [if_neg, if_neg (by simpa using h)]
      intro q
      obtain ⟨e, he, q⟩ := List.any_eq_true.mp q
      have := Fall.least hw hl e he
      have q : e.2 ≤ c := by simpa using q
      omega
theorem take_form {o : NP} (he : o.emp = false) (hw : Fall o.turns) (s : Step) : (o.take s).form = addStep o.form s := by
  have hf : o.form = some ⟨o.sk, o.ch, o.turns⟩ := by
    unfold NP.form
    rw [he]
    rfl
  rw [hf]
  obtain ⟨k, c⟩ := s
  cases k with
  | head => exact turn_form he true c
  | tail => exact turn_form he false c
  | skip =>
    show NP.form (if o.dead c = true then { o with emp := true } else { o.lower c with sk := o.sk + c }) = (R7256f.Spec.lower c o.turns).map fun l => ({ skip := o.sk + c, chop := o.ch, keeps := l } : Trim)
    rw [dead_form hw]
    by_cases h : o.dead c = true
    · rw [if_pos h, if_pos h]
      rfl
    · rw [if_neg h, if_neg h]
      unfold NP.form NP.lower
      rw [he]
      rfl
  | chop =>
    show NP.form (if o.dead c = true then { o with emp := true } else { o.lower c with ch := o.ch + c }) = (R7256f.Spec.lower c o.turns).map fun l => ({ skip := o.sk, chop := o.ch + c, keeps := l } : Trim)
    rw [dead_form hw]
    by_cases h : o.dead c = true
    · rw [if_pos h, if_pos h]
      rfl
    · rw [if_neg h, if_neg h]
      unfold NP.form NP.lower
      rw [he]
      rfl
theorem form_live {o : NP} (he : o.emp = false) : o.form = some ⟨o.sk, o.ch, o.turns⟩ := by
  unfold NP.form
  rw [he]
  rfl
theorem form_dead {o : NP} (he : o.emp = true) : o.form = none := by
  unfold NP.form
  rw [he]
  rfl
theorem add_form {o : NP} (hw : WFo o.form) (s : Step) : (o.add s).form = addStep o.form s := by
  unfold NP.add
  cases he : o.emp with
  | true =>
    rw [if_pos rfl, form_dead he]
    rfl
  | false =>
    rw [if_neg (by simp)]
    exact take_form he (hw _ (form_live he)).fall s
theorem fold_form : ∀ (p : Pipeline) (o : NP), WFo o.form → (p.foldl NP.add o).form = p.foldl addStep o.form
  | [], _, _ => rfl
  | s :: r, o, h => by
    have h2 : WFo (o.add s).form := by
      rw [add_form h]
      exact addStep_wf h s
    rw [List.foldl_cons, List.foldl_cons, fold_form r _ h2, add_form h]
theorem nOf_form (p : Pipeline) : (nOf p).form = formOf p := fold_form p NP.zero start_wf
theorem nOf_wf (p : Pipeline) : WFo (nOf p).form := by
  rw [nOf_form]
  exact formOf_wf p
/-- the counts stay below a bound that the steps keep (for the walk) -/
def NP.steps (o : NP) : Pipeline := stepsOf o.form
def NP.win (o : NP) (n : Nat) : Nat × Nat := pwin o.steps n
theorem win_is {o : NP} (h : WFo o.form) (n : Nat) : o.win n = windowOf o.form n := win_steps h n
def NP.off (o : NP) : Nat := o.sk + o.ch
def NP.joints (o : NP) : List Nat := [0, o.sk, o.off] ++ o.turns.map fun e => o.off + e.2
def maxL (l : List Nat) : Nat := l.foldl max 0
theorem maxL_ge : ∀ (l : List Nat) (a : Nat), a ≤ l.foldl max a ∧ ∀ x ∈ l, x ≤ l.foldl max a
  | [], a => ⟨Nat.le_refl _, fun x h => by simp at h⟩
  | y :: r, a => by
    obtain ⟨h1, h2⟩ := maxL_ge r (max a y)
    rw [List.foldl_cons]
    refine ⟨by omega, fun x hx => ?_⟩
    rcases List.mem_cons.mp hx with rfl | hx
    · omega
    · exact h2 x hx
theorem maxL_mem : ∀ (l : List Nat) (a : Nat), l.foldl max a = a ∨ l.foldl max a ∈ l
  | [], a => .inl rfl
  | y :: r, a => by
    rw [List.foldl_cons]
    rcases maxL_mem r (max a y) with h | h
    · rw [h]
      by_cases c : a ≤ y
      · right
        rw [Nat.max_eq_right c]
        exact List.mem_cons_self
      · left
        omega
    · exact .inr (List.mem_cons_of_mem _ h)
/-- the greatest of a list, by its two facts -/
theorem maxL_of {l : List Nat} {m : Nat} (h1 : m ∈ l) (h2 : ∀ x ∈ l, x ≤ m) : m = maxL l := by
  have a := (maxL_ge l 0).2 m h1
  have b : maxL l ≤ m := by
    rcases maxL_mem l 0 with h | h
    · show l.foldl max 0 ≤ m
      omega
    · exact h2 _ h
  have a : m ≤ maxL l := a
  omega
def NP.beyond (o : NP) : Nat := maxL o.joints + 5
def NP.lastStart (o : NP) : Option Nat := if (o.win o.beyond).1 = (o.win (o.beyond + 1)).1 then some (o.win o.beyond).1 else none
def NP.lastEnd (o : NP) : Option Nat := if (o.win o.beyond).2 = (o.win (o.beyond + 1)).2 then some (o.win o.beyond).2 else none
/-! ### how keeps move -/
def ends (l : List (Bool × Nat)) (x : Nat) : Nat := shifted l x + kept l x
theorem shifted_cons (e : Bool × Nat) (r : List (Bool × Nat)) (x : Nat) : shifted (e :: r) x = shifted r (min x e.2) + (if e.1 then 0 else x - e.2) := rfl
theorem kept_cons (e : Bool × Nat) (r : List (Bool × Nat)) (x : Nat) : kept (e :: r) x = kept r (min x e.2) := rfl
theorem ends_cons (e : Bool × Nat) (r : List (Bool × Nat)) (x : Nat) : ends (e :: r) x = ends r (min x e.2) + (if e.1 then 0 else x - e.2) := by
  unfold ends
  rw [shifted_cons, kept_cons]
  omega
theorem shifted_step : ∀ (l : List (Bool × Nat)) (x y : Nat), x ≤ y → shifted l x ≤ shifted l y ∧ shifted l y ≤ shifted l x + (y - x)
  | [], x, y, _ => ⟨Nat.le_refl _, by show 0 ≤ 0 + (y - x); omega⟩
  | e :: r, x, y, h => by
    have ih := shifted_step r (min x e.2) (min y e.2) (by omega)
    rw [shifted_cons, shifted_cons]
    cases e.1 <;> simp <;> omega
theorem ends_step : ∀ (l : List (Bool × Nat)) (x y : Nat), x ≤ y → ends l x ≤ ends l y ∧ ends l y ≤ ends l x + (y - x)
  | [], x, y, h => by
    show 0 + x ≤ 0 + y ∧ 0 + y ≤ 0 + x + (y - x)
    omega
  | e :: r, x, y, h => by
    have ih := ends_step r (min x e.2) (min y e.2) (by omega)
    rw [ends_cons, ends_cons]
    cases e.1 <;> simp <;> omega
theorem ends_zero (l : List (Bool × Nat)) : ends l 0 = 0 := by
  unfold ends
  rw [shifted_zero, kept_zero]
/-- up to the last count all is kept -/
theorem shifted_small : ∀ (l : List (Bool × Nat)) (x : Nat), (∀ e ∈ l, x ≤ e.2) → shifted l x = 0
  | [], _, _ => rfl
  | e :: r, x, h => by
    have he := h e List.mem_cons_self
    rw [shifted_cons, Nat.min_eq_left he, shifted_small r x fun z hz => h z (List.mem_cons_of_mem _ hz)]
    split <;> omega
theorem kept_small : ∀ (l : List (Bool × Nat)) (x : Nat), (∀ e ∈ l, x ≤ e.2) → kept l x = x
  | [], _, _ => rfl
  | e :: r, x, h => by
    have he := h e List.mem_cons_self
    rw [kept_cons, Nat.min_eq_left he, kept_small r x fun z hz => h z (List.mem_cons_of_mem _ hz)]
theorem shifted_one {l : List (Bool × Nat)} (h : Pos l) : shifted l 1 = 0 := shifted_small l 1 fun e he => h e he
/-! ### lengths with an element -/
theorem pass_spec : ∀ (l : List (Bool × Nat)) (d : Nat), match passOf l d with
    | some y => d < ends l y ∧ (∀ x, x < y → ends l x ≤ d) ∧ (∀ M, (∀ e ∈ l, e.2 ≤ M) → y ≤ M + d + 1)
    | none => ∀ x, ends l x ≤ d
  | [], d => by
    show d < 0 + (d + 1) ∧ (∀ x, x < d + 1 → 0 + x ≤ d) ∧ _
    exact ⟨by omega, fun x h => by omega, fun M _ => by omega⟩
  | e :: r, d => by
    have ih := pass_spec r d
    unfold passOf
    cases hp : passOf r d with
    | some y =>
      rw [hp] at ih
      obtain ⟨i1, i2, i3⟩ := ih
      show match (if y ≤ e.2 then some y else if e.1 then none else some (e.2 + (d + 1 - (shifted r e.2 + kept r e.2)))) with
        | some y => _
        | none => _
      by_cases c : y ≤ e.2
      · rw [if_pos c]
        refine ⟨?_, fun x hx => ?_, fun M hM => ?_⟩
        · rw [ends_cons, Nat.min_eq_left c]
          omega
        · rw [ends_cons, Nat.min_eq_left (by omega)]
          have := i2 x hx
          have : x - e.2 = 0 := by omega
          split <;> omega
        · exact i3 M fun z hz => hM z (List.mem_cons_of_mem _ hz)
      · rw [if_neg c]
        have k : ends r e.2 ≤ d := i2 e.2 (by omega)
        cases hb : e.1 with
        | true =>
          show ∀ x, ends (e :: r) x ≤ d
          intro x
          rw [ends_cons, hb]
          have := (ends_step r (min x e.2) e.2 (by omega)).1
          simp
          omega
        | false =>
          show d < ends (e :: r) (e.2 + (d + 1 - (shifted r e.2 + kept r e.2))) ∧ _ ∧ _
          have k' : shifted r e.2 + kept r e.2 ≤ d := k
          refine ⟨?_, fun x hx => ?_, fun M hM => ?_⟩
          · rw [ends_cons, hb, Nat.min_eq_right (by omega)]
            unfold ends
            simp
            omega
          · rw [ends_cons, hb]
            by_cases q : x ≤ e.2
            · rw [Nat.min_eq_left q]
              have := (ends_step r x e.2 q).1
              simp
              omega
            · rw [Nat.min_eq_right (by omega)]
              unfold ends
              simp
              omega
          · have := hM e List.mem_cons_self
            omega
    | none =>
      rw [hp] at ih
      have ih : ∀ x, ends r x ≤ d := ih
      show match (if e.1 then none else some (e.2 + (d + 1 - (shifted r e.2 + kept r e.2)))) with
        | some y => _
        | none => _
      have k := ih e.2
      have k' : shifted r e.2 + kept r e.2 ≤ d := k
      cases hb : e.1 with
      | true =>
        show ∀ x, ends (e :: r) x ≤ d
        intro x
        rw [ends_cons, hb]
        have := ih (min x e.2)
        simp
        omega
      | false =>
        show d < ends (e :: r) (e.2 + (d + 1 - (shifted r e.2 + kept r e.2))) ∧ _ ∧ _
        refine ⟨?_, fun x hx => ?_, fun M hM => ?_⟩
        · rw [ends_cons, hb, Nat.min_eq_right (by omega)]
          unfold ends
          simp
          omega
        · rw [ends_cons, hb]
          by_cases q : x ≤ e.2
          · rw [Nat.min_eq_left q]
            have := ih x
            simp
            omega
          · rw [Nat.min_eq_right (by omega)]
            unfold ends
            simp
            omega
        · have := hM e List.mem_cons_self
          omega
theorem reach_spec : ∀ (l : List (Bool × Nat)) (d : Nat), match reachOf l d with
    | some y => shifted l y ≤ d ∧ (∀ x, y < x → d < shifted l x) ∧ (∀ M, (∀ e ∈ l, e.2 ≤ M) → y ≤ M + d)
    | none => ∀ x, shifted l x ≤ d
  | [], d => fun x => Nat.zero_le _
  | e :: r, d => by
    have ih := reach_spec r d
    unfold reachOf
    cases hp : reachOf r d with
    | some y =>
      rw [hp] at ih
      obtain ⟨i1, i2, i3⟩ := ih
      show match (if y < e.2 then some y else if e.1 then none else some (e.2 + (d - shifted r e.2))) with
        | some y => _
        | none => _
      by_cases c : y < e.2
      · rw [if_pos c]
        refine ⟨?_, fun x hx => ?_, fun M hM => ?_⟩
        · rw [shifted_cons, Nat.min_eq_left (by omega)]
          have : y - e.2 = 0 := by omega
          split <;> omega
        · rw [shifted_cons]
          have := i2 (min x e.2) (by omega)
          omega
        · exact i3 M fun z hz => hM z (List.mem_cons_of_mem _ hz)
      · rw [if_neg c]
        have k : shifted r e.2 ≤ d := Nat.le_trans (shifted_step r e.2 y (by omega)).1 i1
        cases hb : e.1 with
        | true =>
          show ∀ x, shifted (e :: r) x ≤ d
          intro x
          rw [shifted_cons, hb]
          have := (shifted_step r (min x e.2) e.2 (by omega)).1
          simp
          omega
        | false =>
          show shifted (e :: r) (e.2 + (d - shifted r e.2)) ≤ d ∧ _ ∧ _
          refine ⟨?_, fun x hx => ?_, fun M hM => ?_⟩
          · rw [shifted_cons, hb, Nat.min_eq_right (by omega)]
            simp
            omega
          · rw [shifted_cons, hb, Nat.min_eq_right (by omega)]
            simp
            omega
          · have := hM e List.mem_cons_self
            omega
    | none =>
      rw [hp] at ih
      have ih : ∀ x, shifted r x ≤ d := ih
      show match (if e.1 then none else some (e.2 + (d - shifted r e.2))) with
        | some y => _
        | none => _
      have k := ih e.2
      cases hb : e.1 with
      | true =>
        show ∀ x, shifted (e :: r) x ≤ d
        intro x
        rw [shifted_cons, hb]
        have := ih (min x e.2)
        simp
        omega
      | false =>
        show shifted (e :: r) (e.2 + (d - shifted r e.2)) ≤ d ∧ _ ∧ _
        refine ⟨?_, fun x hx => ?_, fun M hM => ?_⟩
        · rw [shifted_cons, hb, Nat.min_eq_right (by omega)]
          simp
          omega
        · rw [shifted_cons, hb, Nat.min_eq_right (by omega)]
          simp
          omega
        · have := hM e List.mem_cons_self
          omega
/-! ### far away -/
/-- where all has turned: the first keep says whether the start, the end move -/
theorem shifted_far {e : Bool × Nat} {r : List (Bool × Nat)} {x : Nat} (h : e.2 ≤ x) : shifted (e :: r) x = shifted r e.2 + (if e.1 then 0 else x - e.2) := by
  rw [shifted_cons, Nat.min_eq_right h]
theorem ends_far {e : Bool × Nat} {r : List (Bool × Nat)} {x : Nat} (h : e.2 ≤ x) : ends (e :: r) x = ends r e.2 + (if e.1 then 0 else x - e.2) := by
  rw [ends_cons, Nat.min_eq_right h]
theorem win_live {o : NP} (hw : WFo o.form) (he : o.emp = false) (n : Nat) : o.win n = if n ≤ o.off then (0, 0) else (o.sk + shifted o.turns (n - o.off), o.sk + ends o.turns (n - o.off)) := by
  rw [win_is hw, form_live he]
  show (if n - o.sk - o.ch = 0 then (0, 0) else (o.sk + shifted o.turns (n - o.sk - o.ch), o.sk + shifted o.turns (n - o.sk - o.ch) + kept o.turns (n - o.sk - o.ch))) = _
  unfold NP.off ends
  by_cases c : n ≤ o.sk + o.ch
  · rw [if_pos (by omega), if_pos c]
  · rw [if_neg (by omega), if_neg c, show n - o.sk - o.ch = n - (o.sk + o.ch) by omega, Nat.add_assoc]
theorem joint_le {o : NP} {j : Nat} (h : j ∈ o.joints) : j + 5 ≤ o.beyond := by
  have := (maxL_ge o.joints 0).2 j h
  unfold NP.beyond maxL
  omega
theorem off_le (o : NP) : o.off + 5 ≤ o.beyond := joint_le (by unfold NP.joints; simp)
theorem turn_le {o : NP} {e : Bool × Nat} (h : e ∈ o.turns) : o.off + e.2 + 5 ≤ o.beyond := joint_le (by
  unfold NP.joints
  exact List.mem_append_right _ (List.mem_map.mpr ⟨e, h, rfl⟩))
/-- the eventual start -/
def limS (l : List (Bool × Nat)) : Option Nat := match l with
  | [] => some 0
  | e :: r => if e.1 = true then some (shifted r e.2) else none
def limE (l : List (Bool × Nat)) : Option Nat := match l with
  | [] => none
  | e :: r => if e.1 = true then some (ends r e.2) else none
theorem lastStart_is {o : NP} (hw : WFo o.form) (he : o.emp = false) : o.lastStart = (limS o.turns).map fun s => o.sk + s := by
  unfold NP.lastStart
  have h1 := off_le o
  rw [win_live hw he o.beyond, win_live hw he (o.beyond + 1), if_neg (show ¬ o.beyond ≤ o.off by omega), if_neg (show ¬ o.beyond + 1 ≤ o.off by omega)]
  cases hl : o.turns with
  | nil =>
    show (if o.sk + 0 = o.sk + 0 then some (o.sk + 0) else none) = some (o.sk + 0)
    rw [if_pos rfl]
  | cons e r =>
    have h2 := turn_le (o := o) (e := e) (by rw [hl]; exact List.mem_cons_self)
    rw [shifted_far (by omega), shifted_far (by omega)]
    show _ = (if e.1 = true then some (shifted r e.2) else none).map fun s => o.sk + s
    cases hb : e.1 with
    | true => simp
    | false =>
      rw [if_neg (by simp; omega)]
      rfl
theorem lastEnd_is {o : NP} (hw : WFo o.form) (he : o.emp = false) : o.lastEnd = (limE o.turns).map fun s => o.sk + s := by
  unfold NP.lastEnd
  have h1 := off_le o
  rw [win_live hw he o.beyond, win_live hw he (o.beyond + 1), if_neg (show ¬ o.beyond ≤ o.off by omega), if_neg (show ¬ o.beyond + 1 ≤ o.off by omega)]
  cases hl : o.turns with
  | nil =>
    show (if o.sk + (0 + (o.beyond - o.off)) = o.sk + (0 + (o.beyond + 1 - o.off)) then some _ else none) = none
    rw [if_neg (by omega)]
  | cons e r =>
    have h2 := turn_le (o := o) (e := e) (by rw [hl]; exact List.mem_cons_self)
    rw [ends_far (by omega), ends_far (by omega)]
    show _ = (if e.1 = true then some (ends r e.2) else none).map fun s => o.sk + s
    cases hb : e.1 with
    | true => simp
    | false =>
      rw [if_neg (by simp; omega)]
      rfl
theorem lastEnd_dead {o : NP} (he : o.emp = true) : o.lastEnd = some 0 := by
  have w : ∀ n, o.win n = (0, 0) := fun n => by
    rw [win_is (by rw [form_dead he]; intro t h; cases h), form_dead he]
    rfl
  unfold NP.lastEnd
  rw [w, w]
  rfl
/-! ### lengths_of, lengths_with -/
def lengthsOfM (o : NP) (size : Nat) : Option (Nat × Option Nat) :=
  if o.emp = true then (if size = 0 then some (0, none) else none)
  else if size = 0 then some (0, some o.off)
  else match o.turns.getLast? with
    | none => some (o.off + size, some (o.off + size))
    | some l => if l.2 ≤ size then (if size = l.2 then some (o.off + size, none) else none) else some (o.off + size, some (o.off + size))
theorem lengthsOf_is (o : NP) (size : Nat) : lengthsOfM o size = lengthsOf o.form size := by
  unfold lengthsOfM
  cases he : o.emp with
  | true =>
    rw [if_pos rfl, form_dead he]
    rfl
  | false =>
    rw [if_neg (by simp), form_live he]
    show _ = if size = 0 then some (0, some (o.sk + o.ch)) else match limitOf o.turns with
      | none => some (o.sk + o.ch + size, some (o.sk + o.ch + size))
      | some m => if m < size then none else if size < m then some (o.sk + o.ch + size, some (o.sk + o.ch + size)) else some (o.sk + o.ch + m, none)
    by_cases hs : size = 0
    · rw [if_pos hs, if_pos hs]
      rfl
    · rw [if_neg hs, if_neg hs]
      unfold limitOf
      cases hl : o.turns.getLast? with
      | none => rfl
      | some l =>
        show (if l.2 ≤ size then (if size = l.2 then some (o.off + size, none) else none) else some (o.off + size, some (o.off + size))) = if l.2 < size then none else if size < l.2 then some (o.sk + o.ch + size, some (o.sk + o.ch + size)) else some (o.sk + o.ch + l.2, none)
        by_cases h1 : l.2 < size
        · rw [if_pos (by omega), if_neg (by omega), if_pos h1]
        · rw [if_neg h1]
          by_cases h2 : size < l.2
          · rw [if_neg (by omega), if_pos h2]
            rfl
          · have e : size = l.2 := by omega
            rw [if_neg h2, if_pos (by omega), if_pos e, e]
            rfl
/-- the binary search -/
def flen (r : Nat → Bool) (low high : Nat) : Nat :=
  if h : low < high then (if r ((low + high) / 2) = true then flen r low ((low + high) / 2) else flen r ((low + high) / 2 + 1) high) else low
termination_by high - low
theorem flen_step (r : Nat → Bool) (low high : Nat) : flen r low high = if low < high then (if r ((low + high) / 2) = true then flen r low ((low + high) / 2) else flen r ((low + high) / 2 + 1) high) else low := by
  rw [flen]
  split
  · rfl
  · rfl
theorem flen_spec (r : Nat → Bool) (mono : ∀ a b, a ≤ b → r a = true → r b = true) : ∀ (k low high : Nat), high - low ≤ k → low ≤ high → low ≤ flen r low high ∧ flen r low high ≤ high ∧ (∀ x, low ≤ x → x < flen r low high → r x = false) ∧ (flen r low high < high → r (flen r low high) = true)
  | 0, low, high, hk, hle => by
    rw [flen_step, if_neg (by omega)]
    exact ⟨Nat.le_refl _, hle, fun x h1 h2 => by omega, fun h => by omega⟩
  | k + 1, low, high, hk, hle => by
    rw [flen_step]
    by_cases h : low < high
    · rw [if_pos h]
      by_cases c : r ((low + high) / 2) = true
      · rw [if_pos c]
        obtain ⟨i1, i2, i3, i4⟩ := flen_spec r mono k low ((low + high) / 2) (by omega) (by omega)
        refine ⟨i1, by omega, i3, fun _ => ?_⟩
        by_cases q : flen r low ((low + high) / 2) < (low + high) / 2
        · exact i4 q
        · have e : flen r low ((low + high) / 2) = (low + high) / 2 := by omega
          rw [e]
          exact c
      · rw [if_neg c]
        obtain ⟨i1, i2, i3, i4⟩ := flen_spec r mono k ((low + high) / 2 + 1) high (by omega) (by omega)
        refine ⟨by omega, i2, fun x h1 h2 => ?_, i4⟩
        by_cases q : (low + high) / 2 + 1 ≤ x
        · exact i3 x q h2
        · cases e : r x with
          | false => rfl
          | true => exact absurd (mono x _ (by omega) e) c
    · rw [if_neg h]
      exact ⟨Nat.le_refl _, hle, fun x h1 h2 => by omega, fun h' => by omega⟩
/-- the least place at which r holds, if there is one within -/
theorem flen_least {r : Nat → Bool} (mono : ∀ a b, a ≤ b → r a = true → r b = true) {low high v : Nat} (h1 : low ≤ v) (h2 : v ≤ high) (hv : r v = true) (hl : ∀ x, low ≤ x → x < v → r x = false) : flen r low high = v := by
  obtain ⟨i1, i2, i3, i4⟩ := flen_spec r mono (high - low) low high (Nat.le_refl _) (by omega)
  by_cases a : flen r low high < v
  · have := hl _ i1 a
    rw [i4 (by omega)] at this
    cases this
  · by_cases b : v < flen r low high
    · have := i3 v h1 b
      rw [hv] at this
      cases this
    · omega
def NP.far (o : NP) (i : Nat) : Nat := i + o.beyond + o.off + (o.turns.map (·.2)).sum
def lengthsWithM (o : NP) (i : Nat) : Option (Nat × Option Nat) :=
  if o.emp = true then none else
    let first := flen (fun n => decide (i < (o.win n).2)) 0 (o.far i)
    if (o.win first).2 ≤ i ∨ i < (o.win first).1 then none else
      match o.lastStart with
      | some s => if s ≤ i then some (first, none) else some (first, some (flen (fun n => decide (i < (o.win n).1)) first (o.far i) - 1))
      | none => some (first, some (flen (fun n => decide (i < (o.win n).1)) first (o.far i) - 1))
theorem lengthsWith_is {o : NP} (hw : WFo o.form) (i : Nat) : lengthsWithM o i = lengthsWith o.form i := by
  unfold lengthsWithM
  cases he : o.emp with
  | true =>
    rw [if_pos rfl, form_dead he]
    rfl
  | false =>
    rw [if_neg (by simp)]
    rw [form_live he]
    obtain ⟨hp, hf⟩ := hw _ (form_live he)
    have hp : Pos o.turns := hp
    have W := win_live hw he
    have hb : ∀ e ∈ o.turns, e.2 + 5 ≤ o.far i - o.off - i := fun e h => by
      have := turn_le h
      unfold NP.far
      omega
    have hfar : o.off + i + 5 ≤ o.far i := by
      have := off_le o
      unfold NP.far
      omega
    have hM : ∀ e ∈ o.turns, e.2 ≤ o.far i - o.off - i - 5 := fun e h => by
      have := hb e h
      omega
    have monoE : ∀ a b, a ≤ b → decide (i < (o.win a).2) = true → decide (i < (o.win b).2) = true := fun a b h q => by
      have q : i < (o.win a).2 := of_decide_eq_true q
      refine decide_eq_true ?_
      rw [W] at q ⊢
      by_cases c : a ≤ o.off
      · rw [if_pos c] at q
        exact absurd q (Nat.not_lt_zero _)
      · rw [if_neg c] at q
        rw [if_neg (by omega)]
        have := (ends_step o.turns (a - o.off) (b - o.off) (by omega)).1
        have q : i < o.sk + ends o.turns (a - o.off) := q
        show i < o.sk + ends o.turns (b - o.off)
        omega
    have monoS : ∀ a b, a ≤ b → decide (i < (o.win a).1) = true → decide (i < (o.win b).1) = true := fun a b h q => by
      have q : i < (o.win a).1 := of_decide_eq_true q
      refine decide_eq_true ?_
      rw [W] at q ⊢
      by_cases c : a ≤ o.off
      · rw [if_pos c] at q
        exact absurd q (Nat.not_lt_zero _)
      · rw [if_neg c] at q
        rw [if_neg (by omega)]
        have := (shifted_step o.turns (a - o.off) (b - o.off) (by omega)).1
        have q : i < o.sk + shifted o.turns (a - o.off) := q
        show i < o.sk + shifted o.turns (b - o.off)
        omega
    show _ = if i < o.sk then none else match passOf o.turns (i - o.sk) with
      | none => none
      | some x => match reachOf o.turns (i - o.sk) with
        | none => some (o.sk + o.ch + x, none)
        | some y => if y < x then none else some (o.sk + o.ch + x, some (o.sk + o.ch + y))
    show (if (o.win (flen (fun n => decide (i < (o.win n).2)) 0 (o.far i))).2 ≤ i ∨ i < (o.win (flen (fun n => decide (i < (o.win n).2)) 0 (o.far i))).1 then none else _) = _
    by_cases hs : i < o.sk
    · rw [if_pos hs]
      have e1 : flen (fun n => decide (i < (o.win n).2)) 0 (o.far i) = o.off + 1 := by
        refine flen_least monoE (Nat.zero_le _) (by omega) (decide_eq_true ?_) fun x _ hx => decide_eq_false ?_
        · rw [W, if_neg (by omega)]
          show i < o.sk + _
          omega
        · rw [W, if_pos (by omega)]
          exact Nat.not_lt_zero _
      rw [e1, if_pos]
      right
      rw [W, if_neg (by omega)]
      show i < o.sk + _
      omega
    · rw [if_neg hs]
      have P := pass_spec o.turns (i - o.sk)
      have R := reach_spec o.turns (i - o.sk)
      cases hpass : passOf o.turns (i - o.sk) with
      | none =>
        rw [hpass] at P
        have P : ∀ x, ends o.turns x ≤ i - o.sk := P
        rw [if_pos]
        left
        rw [W]
        split
        · exact Nat.zero_le _
        · have := P ((flen (fun n => decide (i < (o.win n).2)) 0 (o.far i)) - o.off)
          show o.sk + _ ≤ i
          omega
      | some x =>
        rw [hpass] at P
        obtain ⟨p1, p2, p3⟩ := P
        have hx0 : 0 < x := by
          cases x with
          | zero =>
            rw [ends_zero] at p1
            omega
          | succ _ => omega
        have hxb : x ≤ o.far i - o.off := by
          have := p3 _ hM
          omega
        have e1 : flen (fun n => decide (i < (o.win n).2)) 0 (o.far i) = o.off + x := by
          refine flen_least monoE (Nat.zero_le _) (by omega) (decide_eq_true ?_) fun z _ hz => decide_eq_false ?_
          · rw [W, if_neg (by omega), show o.off + x - o.off = x by omega]
            show i < o.sk + ends o.turns x
            omega
          · rw [W]
            split
            · exact Nat.not_lt_zero _
            · have := p2 (z - o.off) (by omega)
              show ¬ i < o.sk + ends o.turns (z - o.off)
              omega
        rw [e1]
        have ew : o.win (o.off + x) = (o.sk + shifted o.turns x, o.sk + ends o.turns x) := by
          rw [W, if_neg (by omega), show o.off + x - o.off = x by omega]
        rw [ew]
        show (if o.sk + ends o.turns x ≤ i ∨ i < o.sk + shifted o.turns x then none else match o.lastStart with
          | some s => if s ≤ i then some (o.off + x, none) else some (o.off + x, some (flen (fun n => decide (i < (o.win n).1)) (o.off + x) (o.far i) - 1))
          | none => some (o.off + x, some (flen (fun n => decide (i < (o.win n).1)) (o.off + x) (o.far i) - 1))) = _
        -- the eventual start
        have LS := lastStart_is hw he
        have ebehind : ∀ y, x ≤ y → shifted o.turns y ≤ i - o.sk → (∀ z, y < z → i - o.sk < shifted o.turns z) → y + 1 ≤ o.far i - o.off → flen (fun n => decide (i < (o.win n).1)) (o.off + x) (o.far i) - 1 = o.off + y := fun y hxy hy hz hyb => by
          have e2 : flen (fun n => decide (i < (o.win n).1)) (o.off + x) (o.far i) = o.off + y + 1 := by
            refine flen_least monoS (by omega) (by omega) (decide_eq_true ?_) fun z hz1 hz2 => decide_eq_false ?_
            · have := hz (y + 1) (by omega)
              rw [W, if_neg (by omega), show o.off + y + 1 - o.off = y + 1 by omega]
              show i < o.sk + shifted o.turns (y + 1)
              omega
            · rw [W, if_neg (by omega)]
              have := (shifted_step o.turns (z - o.off) y (by omega)).1
              show ¬ i < o.sk + shifted o.turns (z - o.off)
              omega
          omega
        cases hreach : reachOf o.turns (i - o.sk) with
        | none =>
          rw [hreach] at R
          have R : ∀ x, shifted o.turns x ≤ i - o.sk := R
          rw [if_neg (by have := R x; omega)]
          cases hls : limS o.turns with
          | none =>
            exfalso
            cases hl : o.turns with
            | nil =>
              rw [hl] at hls
              cases hls
            | cons e r =>
              rw [hl] at hls
              cases hb1 : e.1 with
              | true =>
                have : (if e.1 = true then some (shifted r e.2) else none) = none := hls
                rw [hb1] at this
                cases this
              | false =>
                have := R (e.2 + (i - o.sk) + 1)
                rw [hl, shifted_far (by omega), hb1] at this
                simp at this
                omega
          | some s =>
            rw [LS, hls]
            have : s ≤ i - o.sk := by
              cases hl : o.turns with
              | nil =>
                rw [hl] at hls
                cases hls
                exact Nat.zero_le _
              | cons e r =>
                rw [hl] at hls
                have h5 : (if e.1 = true then some (shifted r e.2) else none) = some s := hls
                cases hb1 : e.1 with
                | true =>
                  rw [hb1] at h5
                  cases h5
                  have := R e.2
                  rw [hl, shifted_far (Nat.le_refl _), hb1] at this
                  simpa using this
                | false =>
                  rw [hb1] at h5
                  cases h5
            show (if o.sk + s ≤ i then some (o.off + x, none) else _) = some (o.sk + o.ch + x, none)
            rw [if_pos (by omega)]
            rfl
        | some y =>
          rw [hreach] at R
          obtain ⟨r1, r2, r3⟩ := R
          show _ = if y < x then none else some (o.sk + o.ch + x, some (o.sk + o.ch + y))
          by_cases hyx : y < x
          · rw [if_pos hyx, if_pos]
            have := r2 x hyx
            omega
          · rw [if_neg hyx]
            have hsx := (shifted_step o.turns x y (by omega)).1
            rw [if_neg (by omega)]
            have hyb : y + 1 ≤ o.far i - o.off := by
              have := r3 _ hM
              omega
            have eb := ebehind y (by omega) r1 r2 hyb
            rw [eb]
            have nos : ∀ s, o.lastStart = some s → ¬ s ≤ i := fun s hs1 hs2 => by
              rw [LS] at hs1
              cases hls : limS o.turns with
              | none =>
                rw [hls] at hs1
                cases hs1
              | some s' =>
                rw [hls] at hs1
                cases hs1
                have big : ∀ z, shifted o.turns z ≤ s' := fun z => by
                  cases hl : o.turns with
                  | nil =>
                    show 0 ≤ s'
                    exact Nat.zero_le _
                  | cons e r =>
                    rw [hl] at hls
                    have h5 : (if e.1 = true then some (shifted r e.2) else none) = some s' := hls
                    cases hb1 : e.1 with
                    | true =>
                      rw [hb1] at h5
                      cases h5
                      rw [shifted_cons, hb1]
                      have := (shifted_step r (min z e.2) e.2 (by omega)).1
                      simpa using this
                    | false =>
                      rw [hb1] at h5
                      cases h5
                have h6 := r2 (y + 1) (by omega)
                have h7 := big (y + 1)
                have hs2 : o.sk + s' ≤ i := hs2
                omega
            cases hls : o.lastStart with
            | none => rfl
            | some s =>
              show (if s ≤ i then _ else _) = _
              rw [if_neg (nos s hls)]
              rfl
end Tl
namespace Tl
open R7256f.Spec
/-! ### reading -/
theorem fall_next {e e' : Bool × Nat} {r : List (Bool × Nat)} (h : Fall (e :: e' :: r)) : e'.2 < e.2 ∧ e'.1 = !e.1 := by
  refine ⟨h.1, ?_⟩
  have := h.2.1
  cases h1 : e'.1 <;> cases h2 : e.1 <;> simp_all
theorem stable_iff {l : List (Bool × Nat)} (hf : Fall l) (x : Nat) : isStable l x = true ↔ limS l = some (shifted l x) := by
  match l, hf with
  | [], _ => exact ⟨fun _ => rfl, fun _ => rfl⟩
  | [e], _ =>
    show e.1 = true ↔ (if e.1 = true then some 0 else none) = some (0 + (if e.1 then 0 else x - e.2))
    cases e.1 <;> simp
  | e :: e' :: r, hf =>
    obtain ⟨h1, h2⟩ := fall_next hf
    show (e.1 && decide (e.2 ≤ x)) = true ↔ (if e.1 = true then some (shifted (e' :: r) e.2) else none) = some (shifted (e' :: r) (min x e.2) + (if e.1 then 0 else x - e.2))
    cases hb : e.1 with
    | false => simp
    | true =>
      have hb' : e'.1 = false := by rw [h2, hb]; rfl
      simp
      by_cases c : e.2 ≤ x
      · rw [Nat.min_eq_right c]
        exact ⟨fun _ => rfl, fun _ => c⟩
      · refine ⟨fun z => absurd z c, fun z => ?_⟩
        exfalso
        rw [Nat.min_eq_left (by omega), shifted_cons, shifted_cons, hb'] at z
        have := (shifted_step r (min x e'.2) (min e.2 e'.2) (by omega)).1
        simp at z
        omega
theorem stable_mono {l : List (Bool × Nat)} {x y : Nat} (h : x ≤ y) (s : isStable l x = true) : isStable l y = true := by
  match l, s with
  | [], _ => rfl
  | [e], s => exact s
  | e :: e' :: r, s =>
    have s : (e.1 && decide (e.2 ≤ x)) = true := s
    show (e.1 && decide (e.2 ≤ y)) = true
    simp at s ⊢
    exact ⟨s.1, by omega⟩
theorem ends_le (l : List (Bool × Nat)) (x : Nat) : ends l x ≤ x := by
  have := (ends_step l 0 x (Nat.zero_le _)).2
  rw [ends_zero] at this
  omega
theorem ends_pos {l : List (Bool × Nat)} (hp : Pos l) {x : Nat} (h : 0 < x) : shifted l x < ends l x := by
  have := kept_pos l x hp h
  unfold ends
  omega
def readingM (o : NP) (n : Nat) : (Nat × Nat) × (Nat × Nat) :=
  if o.emp = true then ((0, 0), (0, 0)) else
    let cert := if (o.win n).1 < (o.win n).2 ∧ o.lastStart = some (o.win n).1 then o.win n else (0, 0)
    let first := if 0 < cert.2 then cert.2 else (o.win (max n (o.off + 1))).1
    let behind := match o.lastEnd with
      | none => n
      | some l => min n l
    (cert, if first < behind then (first, behind) else (0, 0))
theorem ceiling_is {o : NP} (hw : WFo o.form) (he : o.emp = false) : o.lastEnd = ceilingOf ⟨o.sk, o.ch, o.turns⟩ := by
  rw [lastEnd_is hw he]
  show _ = match o.turns with
    | [] => none
    | e :: r => if e.1 then some (o.sk + shifted r e.2 + kept r e.2) else none
  cases hl : o.turns with
  | nil => rfl
  | cons e r =>
    show (if e.1 = true then some (ends r e.2) else none).map (fun s => o.sk + s) = if e.1 then some (o.sk + shifted r e.2 + kept r e.2) else none
    cases hb : e.1 with
    | true =>
      show some (o.sk + ends r e.2) = some (o.sk + shifted r e.2 + kept r e.2)
      unfold ends
      rw [Nat.add_assoc]
    | false => rfl
theorem reading_is {o : NP} (hw : WFo o.form) (n : Nat) : readingM o n = (certain o.form n, held o.form n) := by
  unfold readingM
  cases he : o.emp with
  | true =>
    rw [if_pos rfl, form_dead he]
    rfl
  | false =>
    rw [if_neg (by simp)]
    have W := win_live hw he
    have LS := lastStart_is hw he
    have LE := ceiling_is hw he
    obtain ⟨hp, hf⟩ := hw _ (form_live he)
    have hp : Pos o.turns := hp
    have hf : Fall o.turns := hf
    have hmid : middle ⟨o.sk, o.ch, o.turns⟩ n = n - o.off := by
      show n - o.sk - o.ch = n - (o.sk + o.ch)
      omega
    -- what is certain
    have C : (if (o.win n).1 < (o.win n).2 ∧ o.lastStart = some (o.win n).1 then o.win n else (0, 0)) = certain o.form n := by
      rw [form_live he]
      show _ = if isStable o.turns (middle ⟨o.sk, o.ch, o.turns⟩ n) then windowOf (some ⟨o.sk, o.ch, o.turns⟩) n else (0, 0)
      rw [← form_live he, ← win_is hw, hmid]
      rw [W]
      by_cases c : n ≤ o.off
      · rw [if_pos c]
        simp
      · rw [if_neg c]
        have h1 := ends_pos hp (show 0 < n - o.off by omega)
        have h2 : (o.lastStart = some (o.sk + shifted o.turns (n - o.off))) ↔ isStable o.turns (n - o.off) = true := by
          rw [LS, stable_iff hf]
          cases limS o.turns with
          | none => simp
          | some s => simp
        by_cases s : isStable o.turns (n - o.off) = true
        · rw [if_pos ⟨by show o.sk + _ < o.sk + _; omega, h2.mpr s⟩, if_pos s]
        · rw [if_neg (fun z => s (h2.mp z.2)), if_neg s]
    show ((if (o.win n).1 < (o.win n).2 ∧ o.lastStart = some (o.win n).1 then o.win n else (0, 0)), _) = _
    rw [C]
    refine Prod.ext rfl ?_
    show (if (if 0 < (certain o.form n).2 then (certain o.form n).2 else (o.win (max n (o.off + 1))).1) < (match o.lastEnd with
      | none => n
      | some l => min n l) then ((if 0 < (certain o.form n).2 then (certain o.form n).2 else (o.win (max n (o.off + 1))).1), (match o.lastEnd with
      | none => n
      | some l => min n l)) else (0, 0)) = held o.form n
    have hc2 : (certain o.form n).2 = if isStable o.turns (n - o.off) = true then (if n ≤ o.off then 0 else o.sk + ends o.turns (n - o.off)) else 0 := by
      rw [form_live he]
      show (if isStable o.turns (middle ⟨o.sk, o.ch, o.turns⟩ n) then windowOf (some ⟨o.sk, o.ch, o.turns⟩) n else (0, 0)).2 = _
      rw [← form_live he, ← win_is hw, hmid, W]
      by_cases s : isStable o.turns (n - o.off) = true
      · rw [if_pos s, if_pos s]
        split <;> rfl
      · rw [if_neg s, if_neg s]
    have A : (if 0 < (certain o.form n).2 then (certain o.form n).2 else (o.win (max n (o.off + 1))).1) = if isStable o.turns (n - o.off) = true then max o.sk (certain o.form n).2 else o.sk + shifted o.turns (n - o.off) := by
      rw [hc2, W (max n (o.off + 1)), if_neg (show ¬ max n (o.off + 1) ≤ o.off by omega)]
      show (if 0 < _ then _ else o.sk + shifted o.turns (max n (o.off + 1) - o.off)) = _
      by_cases c : n ≤ o.off
      · rw [show max n (o.off + 1) - o.off = 1 by omega, shifted_one hp, if_pos c, show n - o.off = 0 by omega, shifted_zero]
        split <;> simp
      · rw [show max n (o.off + 1) - o.off = n - o.off by omega, if_neg c]
        have h1 := ends_pos hp (show 0 < n - o.off by omega)
        split
        · rw [if_pos (by omega)]
          omega
        · rw [if_neg (by omega)]
    rw [A, LE]
    generalize hcert : (certain o.form n).2 = c2
    rw [form_live he] at hcert ⊢
    show _ = (if (if isStable o.turns (middle ⟨o.sk, o.ch, o.turns⟩ n) then max o.sk (certain (some ⟨o.sk, o.ch, o.turns⟩) n).2 else o.sk + shifted o.turns (middle ⟨o.sk, o.ch, o.turns⟩ n)) < (match ceilingOf ⟨o.sk, o.ch, o.turns⟩ with
      | none => n
      | some c => min n c) then ((if isStable o.turns (middle ⟨o.sk, o.ch, o.turns⟩ n) then max o.sk (certain (some ⟨o.sk, o.ch, o.turns⟩) n).2 else o.sk + shifted o.turns (middle ⟨o.sk, o.ch, o.turns⟩ n)), (match ceilingOf ⟨o.sk, o.ch, o.turns⟩ with
      | none => n
      | some c => min n c)) else (0, 0))
    rw [hcert, hmid]
/-! ### the least difference -/
theorem lin : ∀ (l : List (Bool × Nat)) (y : Nat), 2 ≤ y → (∀ e ∈ l, e.2 ≠ y - 1) → shifted l y + shifted l (y - 2) = 2 * shifted l (y - 1) ∧ ends l y + ends l (y - 2) = 2 * ends l (y - 1)
  | [], y, h, _ => by
    show 0 + 0 = 2 * 0 ∧ 0 + y + (0 + (y - 2)) = 2 * (0 + (y - 1))
    omega
  | e :: r, y, h, hn => by
    have he := hn e List.mem_cons_self
    rw [shifted_cons, shifted_cons, shifted_cons, ends_cons, ends_cons, ends_cons]
    by_cases c : y ≤ e.2
    · have ih := lin r y h fun z hz => hn z (List.mem_cons_of_mem _ hz)
      rw [Nat.min_eq_left c, Nat.min_eq_left (by omega), Nat.min_eq_left (by omega)]
      cases e.1 <;> simp <;> omega
    · rw [Nat.min_eq_right (by omega), Nat.min_eq_right (by omega), Nat.min_eq_right (by omega)]
      cases e.1 <;> simp <;> omega
theorem leastOf_spec : ∀ l : List Nat, match leastOf l with
    | none => l = []
    | some m => m ∈ l ∧ ∀ x ∈ l, m ≤ x
  | [] => rfl
  | a :: r => by
    have ih := leastOf_spec r
    unfold leastOf
    cases h : leastOf r with
    | none =>
      rw [h] at ih
      have ih : r = [] := ih
      subst ih
      show a ∈ [a] ∧ ∀ x ∈ [a], a ≤ x
      simp
    | some b =>
      rw [h] at ih
      obtain ⟨h1, h2⟩ := ih
      show min a b ∈ a :: r ∧ ∀ x ∈ a :: r, min a b ≤ x
      refine ⟨?_, fun x hx => ?_⟩
      · by_cases c : a ≤ b
        · rw [Nat.min_eq_left c]
          exact List.mem_cons_self
        · rw [Nat.min_eq_right (by omega)]
          exact List.mem_cons_of_mem _ h1
      · rcases List.mem_cons.mp hx with rfl | hx
        · omega
        · have := h2 x hx
          omega
theorem win_some {t : Trim} (n : Nat) : windowOf (some t) n = if n ≤ t.skip + t.chop then (0, 0) else (t.skip + shifted t.keeps (n - (t.skip + t.chop)), t.skip + ends t.keeps (n - (t.skip + t.chop))) := by
  show (if n - t.skip - t.chop = 0 then (0, 0) else (t.skip + shifted t.keeps (n - t.skip - t.chop), t.skip + shifted t.keeps (n - t.skip - t.chop) + kept t.keeps (n - t.skip - t.chop))) = _
  unfold ends
  by_cases c : n ≤ t.skip + t.chop
  · rw [if_pos (by omega), if_pos c]
  · rw [if_neg (by omega), if_neg c, show n - t.skip - t.chop = n - (t.skip + t.chop) by omega, Nat.add_assoc]
theorem corner_off (t : Trim) : t.skip + t.chop ∈ corners (some t) := List.mem_cons_self
theorem corner_turn {t : Trim} {e : Bool × Nat} (h : e ∈ t.keeps) : t.skip + t.chop + e.2 ∈ corners (some t) := List.mem_cons_of_mem _ (List.mem_map.mpr ⟨e, h, rfl⟩)
theorem after_of {f : Form} {c : Nat} (h : c ∈ corners f) : c ∈ cornersAfter f ∧ c + 1 ∈ cornersAfter f :=
  ⟨List.mem_flatMap.mpr ⟨c, h, by simp⟩, List.mem_flatMap.mpr ⟨c, h, by simp⟩⟩
theorem diff_half {t u : Trim} (ht : WF t) (hu : WF u) {n : Nat} (hd : windowOf (some t) n ≠ windowOf (some u) n) (hl : ∀ m, m < n → windowOf (some t) m = windowOf (some u) m)
    (hn : n ∉ cornersAfter (some t) ∧ n ∉ cornersAfter (some u)) (hgt : t.skip + t.chop < n) : False := by
  obtain ⟨hnt, hnu⟩ := hn
  have a1 := after_of (corner_off t)
  have b1 := after_of (corner_off u)
  have n1 : n ≠ t.skip + t.chop + 1 := fun z => hnt (by rw [z]; exact a1.2)
  have n2 : n ≠ u.skip + u.chop := fun z => hnu (by rw [z]; exact b1.1)
  have n3 : n ≠ u.skip + u.chop + 1 := fun z => hnu (by rw [z]; exact b1.2)
  have s1 : windowOf (some t) (t.skip + t.chop + 1) = (t.skip, t.skip + 1) := by
    rw [win_some, if_neg (by omega), show t.skip + t.chop + 1 - (t.skip + t.chop) = 1 by omega]
    unfold ends
    rw [shifted_one ht.pos, kept_small _ 1 fun e he => ht.pos e he]
    rfl
  have q1 := hl (t.skip + t.chop + 1) (by omega)
  rw [s1, win_some] at q1
  by_cases c1 : t.skip + t.chop + 1 ≤ u.skip + u.chop
  · rw [if_pos c1] at q1
    have q2 : t.skip + 1 = 0 := congrArg Prod.snd q1
    omega
  · -- the same length is left out
    have eo : t.skip + t.chop = u.skip + u.chop := by
      by_cases c2 : u.skip + u.chop < t.skip + t.chop
      · have q2 := hl (t.skip + t.chop) (by omega)
        rw [win_some, if_pos (Nat.le_refl _), win_some, if_neg (by omega)] at q2
        have h2 := ends_pos hu.pos (show 0 < t.skip + t.chop - (u.skip + u.chop) by omega)
        have h3 : 0 = u.skip + ends u.keeps (t.skip + t.chop - (u.skip + u.chop)) := congrArg Prod.snd q2
        omega
      · omega
    rw [if_neg c1, ← eo, show t.skip + t.chop + 1 - (t.skip + t.chop) = 1 by omega, shifted_one hu.pos] at q1
    have esk : t.skip = u.skip := congrArg Prod.fst q1
    have e1 := hl (n - 1) (by omega)
    rw [win_some, win_some, if_neg (by omega), if_neg (by omega), ← eo] at e1
    have e2 : shifted t.keeps (n - (t.skip + t.chop) - 2) = shifted u.keeps (n - (t.skip + t.chop) - 2) ∧ ends t.keeps (n - (t.skip + t.chop) - 2) = ends u.keeps (n - (t.skip + t.chop) - 2) := by
      by_cases c3 : n - (t.skip + t.chop) = 2
      · rw [c3]
        show shifted t.keeps 0 = shifted u.keeps 0 ∧ ends t.keeps 0 = ends u.keeps 0
        rw [shifted_zero, shifted_zero, ends_zero, ends_zero]
        exact ⟨rfl, rfl⟩
      · have e2 := hl (n - 2) (by omega)
        rw [win_some, win_some, if_neg (by omega), if_neg (by omega), ← eo, show n - 2 - (t.skip + t.chop) = n - (t.skip + t.chop) - 2 by omega] at e2
        have x1 : t.skip + _ = u.skip + _ := congrArg Prod.fst e2
        have x2 : t.skip + _ = u.skip + _ := congrArg Prod.snd e2
        constructor <;> omega
    rw [show n - 1 - (t.skip + t.chop) = n - (t.skip + t.chop) - 1 by omega] at e1
    have x1 : t.skip + _ = u.skip + _ := congrArg Prod.fst e1
    have x2 : t.skip + _ = u.skip + _ := congrArg Prod.snd e1
    have lt := lin t.keeps (n - (t.skip + t.chop)) (by omega) fun e he z => hnt (by
      have := (after_of (corner_turn he)).2
      rw [show n = t.skip + t.chop + e.2 + 1 by omega]
      exact this)
    have lu := lin u.keeps (n - (t.skip + t.chop)) (by omega) fun e he z => hnu (by
      have := (after_of (corner_turn he)).2
      rw [show n = u.skip + u.chop + e.2 + 1 by omega]
      exact this)
    apply hd
    rw [win_some, win_some, if_neg (by omega), if_neg (by omega), ← eo]
    refine Prod.ext ?_ ?_
    · show t.skip + _ = u.skip + _
      omega
    · show t.skip + _ = u.skip + _
      omega
theorem none_some {u : Trim} (hu : WF u) {n : Nat} (hd : (0, 0) ≠ windowOf (some u) n) (hl : ∀ m, m < n → (0, 0) = windowOf (some u) m) : n ∈ cornersAfter (some u) := by
  have h1 : u.skip + u.chop < n := by
    rw [win_some] at hd
    split at hd
    · exact absurd rfl hd
    · omega
  by_cases c : n = u.skip + u.chop + 1
  · rw [c]
    exact (after_of (corner_off u)).2
  · exfalso
    have := hl (u.skip + u.chop + 1) (by omega)
    rw [win_some, if_neg (by omega)] at this
    have h2 := ends_pos hu.pos (show 0 < u.skip + u.chop + 1 - (u.skip + u.chop) by omega)
    have h3 : 0 = u.skip + ends u.keeps (u.skip + u.chop + 1 - (u.skip + u.chop)) := congrArg Prod.snd this
    omega
/-- the least length at which the windows part is a corner, or the one behind -/
theorem diff_corner {f g : Form} (hf : WFo f) (hg : WFo g) {n : Nat} (hd : windowOf f n ≠ windowOf g n) (hl : ∀ m, m < n → windowOf f m = windowOf g m) : n ∈ cornersAfter f ++ cornersAfter g := by
  cases f with
  | none =>
    cases g with
    | none => exact absurd rfl hd
    | some u => exact List.mem_append_right _ (none_some (hg u rfl) hd hl)
  | some t =>
    cases g with
    | none => exact List.mem_append_left _ (none_some (hf t rfl) (fun z => hd z.symm) fun m hm => (hl m hm).symm)
    | some u =>
      apply Classical.byContradiction
      intro hn
      have hn1 : n ∉ cornersAfter (some t) := fun z => hn (List.mem_append_left _ z)
      have hn2 : n ∉ cornersAfter (some u) := fun z => hn (List.mem_append_right _ z)
      by_cases c : t.skip + t.chop < n
      · exact diff_half (hf t rfl) (hg u rfl) hd hl ⟨hn1, hn2⟩ c
      · by_cases c2 : u.skip + u.chop < n
        · exact diff_half (hg u rfl) (hf t rfl) (fun z => hd z.symm) (fun m hm => (hl m hm).symm) ⟨hn2, hn1⟩ c2
        · apply hd
          rw [win_some, win_some, if_pos (by omega), if_pos (by omega)]
/-- least of all that differ -/
theorem least_exists {p : Nat → Prop} (n : Nat) (h : p n) : ∃ m, p m ∧ m ≤ n ∧ ∀ k, k < m → ¬ p k := by
  induction n using Nat.strongRecOn with
  | ind n ih =>
    by_cases c : ∃ k, k < n ∧ p k
    · obtain ⟨k, hk, pk⟩ := c
      obtain ⟨m, h1, h2, h3⟩ := ih k hk pk
      exact ⟨m, h1, by omega, h3⟩
    · exact ⟨n, h, Nat.le_refl _, fun k hk pk => c ⟨k, hk, pk⟩⟩
/-- a rising list of lengths that holds all corners finds the difference -/
theorem difference_find {f g : Form} (hf : WFo f) (hg : WFo g) {A : List Nat} (hs : A.Pairwise (· ≤ ·)) (hA : ∀ x ∈ cornersAfter f ++ cornersAfter g, x ∈ A) (p : Nat → Bool) (hp : ∀ n, p n = true ↔ windowOf f n ≠ windowOf g n) : A.find? p = difference f g := by
  unfold difference
  have L := leastOf_spec ((cornersAfter f ++ cornersAfter g).filter (differs f g))
  have df : ∀ n, differs f g n = true ↔ windowOf f n ≠ windowOf g n := fun n => by
    unfold differs
    simp
  cases h : leastOf ((cornersAfter f ++ cornersAfter g).filter (differs f g)) with
  | none =>
    rw [h] at L
    have L : (cornersAfter f ++ cornersAfter g).filter (differs f g) = [] := L
    have all : ∀ n, windowOf f n = windowOf g n := fun n => by
      apply Classical.byContradiction
      intro hn
      obtain ⟨m, h1, _, h3⟩ := least_exists (p := fun n => windowOf f n ≠ windowOf g n) n hn
      have hm := diff_corner hf hg h1 fun k hk => Classical.byContradiction fun z => h3 k hk z
      have : m ∈ (cornersAfter f ++ cornersAfter g).filter (differs f g) := List.mem_filter.mpr ⟨hm, (df m).mpr h1⟩
      rw [L] at this
      simp at this
    rw [List.find?_eq_none]
    intro x _ hx
    exact (hp x).mp hx (all x)
  | some m =>
    rw [h] at L
    obtain ⟨l1, l2⟩ := L
    obtain ⟨l3, l4⟩ := List.mem_filter.mp l1
    have hm := (df m).mp l4
    -- m is least of all
    have ml : ∀ k, k < m → windowOf f k = windowOf g k := fun k hk => by
      apply Classical.byContradiction
      intro z
      obtain ⟨j, h1, h2, h3⟩ := least_exists (p := fun n => windowOf f n ≠ windowOf g n) k z
      have hj := diff_corner hf hg h1 fun i hi => Classical.byContradiction fun z => h3 i hi z
      have := l2 j (List.mem_filter.mpr ⟨hj, (df j).mpr h1⟩)
      omega
    have mA := hA m l3
    clear h l1 l2 l3 l4 hA
    induction A with
    | nil => simp at mA
    | cons a r ih =>
      obtain ⟨s1, s2⟩ := List.pairwise_cons.mp hs
      by_cases c : a = m
      · rw [List.find?_cons_of_pos (by rw [c]; exact (hp m).mpr hm), c]
      · have mr : m ∈ r := by
          rcases List.mem_cons.mp mA with e | e
          · exact absurd e.symm c
          · exact e
        have := s1 m mr
        have na : ¬ p a = true := fun z => (hp a).mp z (ml a (by omega))
        rw [List.find?_cons_of_neg na]
        exact ih s2 mr
/-! ### capacity -/
def hA (t : Trim) (n : Nat) : Nat := if isStable t.keeps (middle t n) then max t.skip (certain (some t) n).2 else startAt t n
def hB (t : Trim) (n : Nat) : Nat := match ceilingOf t with
  | none => n
  | some c => min n c
theorem heldCount_is (t : Trim) (n : Nat) : heldCount (some t) n = hB t n - hA t n := by
  show (if hA t n < hB t n then (hA t n, hB t n) else (0, 0)).2 - (if hA t n < hB t n then (hA t n, hB t n) else (0, 0)).1 = _
  split
  · rfl
  · show 0 - 0 = _
    omega
theorem hA_is (t : Trim) (n : Nat) : hA t n = if isStable t.keeps (n - (t.skip + t.chop)) = true then max t.skip (if n ≤ t.skip + t.chop then 0 else t.skip + ends t.keeps (n - (t.skip + t.chop))) else t.skip + shifted t.keeps (n - (t.skip + t.chop)) := by
  unfold hA
  have hm : middle t n = n - (t.skip + t.chop) := by
    unfold middle
    omega
  show (if isStable t.keeps (middle t n) then max t.skip (if isStable t.keeps (middle t n) then windowOf (some t) n else (0, 0)).2 else t.skip + shifted t.keeps (middle t n)) = _
  rw [hm]
  by_cases s : isStable t.keeps (n - (t.skip + t.chop)) = true
  · rw [if_pos s, if_pos s, if_pos s, win_some]
    split <;> rfl
  · rw [if_neg s, if_neg s]
theorem turning_corner {f : Form} {c : Nat} (h : c ∈ corners f) : c ∈ turning f ∧ c - 1 ∈ turning f :=
  ⟨List.mem_append_left _ (List.mem_flatMap.mpr ⟨c, h, by simp⟩), List.mem_append_left _ (List.mem_flatMap.mpr ⟨c, h, by simp⟩)⟩
theorem turning_ceiling {t : Trim} {c : Nat} (h : ceilingOf t = some c) : c ∈ turning (some t) := by
  unfold turning
  refine List.mem_append_right _ ?_
  show c ∈ match ceilingOf t with
    | none => []
    | some c => [c]
  rw [h]
  exact List.mem_cons_self
/-- some turning length holds as much -/
theorem held_turning {t : Trim} (hw : WF t) (n : Nat) : ∃ m ∈ turning (some t), heldCount (some t) n ≤ heldCount (some t) m := by
  obtain ⟨sk, ch, l⟩ := t
  have hp : Pos l := hw.pos
  have hf : Fall l := hw.fall
  have co := turning_corner (corner_off ⟨sk, ch, l⟩)
  have co1 : sk + ch ∈ turning (some ⟨sk, ch, l⟩) := co.1
  have HA := fun n => hA_is ⟨sk, ch, l⟩ n
  have HC := fun n => heldCount_is ⟨sk, ch, l⟩ n
  match l, hp, hf with
  | [], _, _ =>
    refine ⟨_, co1, ?_⟩
    rw [HC, HC, HA, HA]
    show n - (if true = true then max sk (if n ≤ sk + ch then 0 else sk + (0 + (n - (sk + ch)))) else _) ≤ sk + ch - (if true = true then max sk (if sk + ch ≤ sk + ch then 0 else _) else _)
    rw [if_pos rfl, if_pos rfl, if_pos (Nat.le_refl _)]
    split <;> omega
  | (false, m) :: r, hp, hf =>
    have cm := (turning_corner (corner_turn (t := ⟨sk, ch, (false, m) :: r⟩) (e := (false, m)) List.mem_cons_self)).1
    refine ⟨_, cm, ?_⟩
    have ns : ∀ x, isStable ((false, m) :: r) x = true → False := fun x => by
      cases r with
      | nil => intro h; exact Bool.noConfusion h
      | cons e' r' =>
        intro h
        have h : (false && decide (m ≤ x)) = true := h
        exact Bool.noConfusion h
    rw [HC, HC, HA, HA]
    rw [if_neg (ns _), if_neg (ns _)]
    show n - (sk + shifted ((false, m) :: r) (n - (sk + ch))) ≤ sk + ch + m - (sk + shifted ((false, m) :: r) (sk + ch + m - (sk + ch)))
    rw [show sk + ch + m - (sk + ch) = m by omega]
    by_cases c : n - (sk + ch) ≤ m
    · have := (shifted_step ((false, m) :: r) (n - (sk + ch)) m c).2
      omega
    · have e1 : shifted ((false, m) :: r) (n - (sk + ch)) = shifted r m + (n - (sk + ch) - m) := shifted_far (e := (false, m)) (by show m ≤ n - (sk + ch); omega)
      have e2 : shifted ((false, m) :: r) m = shifted r m + (m - m) := shifted_far (e := (false, m)) (Nat.le_refl _)
      rw [e1, e2]
      omega
  | [(true, m)], hp, hf =>
    refine ⟨_, co1, ?_⟩
    rw [HC, HC, HA, HA]
    have e : ∀ x, ends [(true, m)] x = min x m := fun x => by
      rw [ends_cons]
      show 0 + min x m + 0 = min x m
      omega
    show min n (sk + 0 + m) - (if true = true then max sk (if n ≤ sk + ch then 0 else sk + ends [(true, m)] (n - (sk + ch))) else _) ≤ min (sk + ch) (sk + 0 + m) - (if true = true then max sk (if sk + ch ≤ sk + ch then 0 else _) else _)
    rw [if_pos rfl, if_pos rfl, if_pos (Nat.le_refl _), e]
    split <;> omega
  | (true, m) :: e' :: r, hp, hf =>
    have hm : 0 < m := hp (true, m) List.mem_cons_self
    have cm := (turning_corner (corner_turn (t := ⟨sk, ch, (true, m) :: e' :: r⟩) (e := (true, m)) List.mem_cons_self)).2
    have cm : sk + ch + m - 1 ∈ turning (some ⟨sk, ch, (true, m) :: e' :: r⟩) := cm
    have cc := turning_ceiling (t := ⟨sk, ch, (true, m) :: e' :: r⟩) (c := sk + shifted (e' :: r) m + kept (e' :: r) m) rfl
    have st : ∀ x, isStable ((true, m) :: e' :: r) x = decide (m ≤ x) := fun x => by
      show (true && decide (m ≤ x)) = decide (m ≤ x)
      rfl
    have B : ∀ n, hB ⟨sk, ch, (true, m) :: e' :: r⟩ n = min n (sk + ends (e' :: r) m) := fun n => by
      show min n (sk + shifted (e' :: r) m + kept (e' :: r) m) = _
      unfold ends
      rw [Nat.add_assoc]
    have cc : sk + ends (e' :: r) m ∈ turning (some ⟨sk, ch, (true, m) :: e' :: r⟩) := by
      unfold ends
      rw [← Nat.add_assoc]
      exact cc
    have S : ∀ x, x ≤ m → shifted ((true, m) :: e' :: r) x = shifted (e' :: r) x := fun x hx => by
      rw [shifted_cons, Nat.min_eq_left hx]
      rfl
    have A0 : ∀ k, k - (sk + ch) < m → hA ⟨sk, ch, (true, m) :: e' :: r⟩ k = sk + shifted (e' :: r) (k - (sk + ch)) := fun k hk => by
      rw [HA]
      show (if isStable ((true, m) :: e' :: r) (k - (sk + ch)) = true then _ else sk + shifted ((true, m) :: e' :: r) (k - (sk + ch))) = _
      rw [st, if_neg (by simpa using hk), S _ (by omega)]
    by_cases c : m ≤ n - (sk + ch)
    · refine ⟨_, co1, ?_⟩
      rw [HC n, HA, B]
      show min n (sk + ends (e' :: r) m) - (if isStable ((true, m) :: e' :: r) (n - (sk + ch)) = true then max sk (if n ≤ sk + ch then 0 else sk + ends ((true, m) :: e' :: r) (n - (sk + ch))) else _) ≤ _
      rw [st, if_pos (by simpa using c), if_neg (by omega)]
      have e1 : ends ((true, m) :: e' :: r) (n - (sk + ch)) = ends (e' :: r) m + 0 := ends_far (e := (true, m)) c
      rw [e1]
      omega
    · have key : ∀ M, M ≤ sk + ends (e' :: r) m → M ≤ sk + ch + m - 1 → (M = sk + ends (e' :: r) m ∨ M = sk + ch + m - 1) → heldCount (some ⟨sk, ch, (true, m) :: e' :: r⟩) n ≤ heldCount (some ⟨sk, ch, (true, m) :: e' :: r⟩) M := fun M h1 h2 h3 => by
        rw [HC, HC, B, B, A0 n (by omega), A0 M (by omega), Nat.min_eq_left h1]
        by_cases q : n ≤ M
        · have := (shifted_step (e' :: r) (n - (sk + ch)) (M - (sk + ch)) (by omega)).2
          omega
        · have := (shifted_step (e' :: r) (M - (sk + ch)) (n - (sk + ch)) (by omega)).1
          omega
      by_cases q : sk + ends (e' :: r) m ≤ sk + ch + m - 1
      · exact ⟨_, cc, key _ (Nat.le_refl _) q (.inl rfl)⟩
      · exact ⟨_, cm, key _ (by omega) (Nat.le_refl _) (.inr rfl)⟩
theorem foldl_max_le : ∀ (l : List Nat) (a M : Nat), a ≤ M → (∀ x ∈ l, x ≤ M) → l.foldl max a ≤ M
  | [], _, _, h, _ => h
  | x :: r, a, M, h, hl => by
    rw [List.foldl_cons]
    have := hl x List.mem_cons_self
    exact foldl_max_le r _ M (by omega) fun y hy => hl y (List.mem_cons_of_mem _ hy)
/-- any list of lengths that holds the turning ones tells the capacity -/
theorem capacity_of {f : Form} (hw : WFo f) {A : List Nat} (hA : ∀ x ∈ turning f, x ∈ A) : (A.map (heldCount f)).foldl max 0 = capacity f := by
  unfold capacity
  refine Nat.le_antisymm ?_ ?_
  · refine foldl_max_le _ 0 _ (Nat.zero_le _) fun x hx => ?_
    obtain ⟨n, _, rfl⟩ := List.mem_map.mp hx
    cases f with
    | none =>
      show 0 - 0 ≤ _
      exact Nat.zero_le _
    | some t =>
      obtain ⟨m, hm, hle⟩ := held_turning (hw t rfl) n
      exact Nat.le_trans hle ((maxL_ge _ 0).2 _ (List.mem_map.mpr ⟨m, hm, rfl⟩))
  · refine foldl_max_le _ 0 _ (Nat.zero_le _) fun x hx => ?_
    obtain ⟨n, hn, rfl⟩ := List.mem_map.mp hx
    exact (maxL_ge _ 0).2 _ (List.mem_map.mpr ⟨n, hA n hn, rfl⟩)
/-- what around gives: rising, and all lengths at the joints and beside them -/
structure Around (J A : List Nat) : Prop where
  rises : A.Pairwise (· ≤ ·)
  mem : ∀ x, x ∈ A ↔ ∃ j ∈ J, x = j - 2 ∨ x = j - 1 ∨ x = j ∨ x = j + 1 ∨ x = j + 2
theorem corners_joints {o : NP} {c : Nat} (h : c ∈ corners o.form) : c ∈ o.joints := by
  cases he : o.emp with
  | true =>
    rw [form_dead he] at h
    cases h
  | false =>
    rw [form_live he] at h
    rcases List.mem_cons.mp h with e | e
    · unfold NP.joints NP.off
      rw [e]
      simp
    · obtain ⟨a, ha, rfl⟩ := List.mem_map.mp e
      exact List.mem_append_right _ (List.mem_map.mpr ⟨a, ha, rfl⟩)
theorem capacity_around {o : NP} (hw : WFo o.form) {J A : List Nat} (hJ : ∀ j ∈ o.joints, j ∈ J) (hL : ∀ l, o.lastEnd = some l → l ∈ J) (hA : Around J A) : (A.map (heldCount o.form)).foldl max 0 = capacity o.form := by
  refine capacity_of hw fun x hx => ?_
  rcases List.mem_append.mp hx with h | h
  · obtain ⟨c, hc, hx⟩ := List.mem_flatMap.mp h
    have hc := hJ _ (corners_joints hc)
    have hx : x = c - 1 ∨ x = c := by simpa using hx
    rcases hx with rfl | rfl
    · exact (hA.mem _).mpr ⟨c, hc, by simp⟩
    · exact (hA.mem _).mpr ⟨x, hc, by simp⟩
  · cases he : o.emp with
    | true =>
      rw [form_dead he] at h
      simp at h
    | false =>
      have e := ceiling_is hw he
      rw [form_live he] at h
      have h : x ∈ match ceilingOf ⟨o.sk, o.ch, o.turns⟩ with
        | none => []
        | some c => [c] := h
      rw [← e] at h
      cases hc : o.lastEnd with
      | none =>
        rw [hc] at h
        simp at h
      | some c =>
        rw [hc] at h
        have h : x = c := by simpa using h
        subst h
        exact (hA.mem _).mpr ⟨x, hL x hc, by simp⟩
theorem difference_around {a b : NP} (ha : WFo a.form) (hb : WFo b.form) {J A : List Nat} (hJ : ∀ j ∈ a.joints ++ b.joints, j ∈ J) (hA : Around J A) :
    A.find? (fun n => decide (a.win n ≠ b.win n)) = difference a.form b.form :=
  difference_find ha hb hA.rises (fun x hx => by
    rcases List.mem_append.mp hx with h | h <;>
    · obtain ⟨c, hc, hx⟩ := List.mem_flatMap.mp h
      have hc := corners_joints hc
      have hx : x = c ∨ x = c + 1 := by simpa using hx
      refine (hA.mem _).mpr ⟨c, hJ _ (by first | exact List.mem_append_left _ hc | exact List.mem_append_right _ hc), ?_⟩
      rcases hx with rfl | rfl <;> simp) (fun n => decide (a.win n ≠ b.win n)) (fun n => by rw [win_is ha, win_is hb]; simp)
theorem difference_same {a b : NP} (ha : WFo a.form) (hb : WFo b.form) (h : a.steps = b.steps) : difference a.form b.form = none := by
  have e : a.form = b.form := steps_inj ha hb h
  unfold difference
  rw [e]
  have : (cornersAfter b.form ++ cornersAfter b.form).filter (differs b.form b.form) = [] := by
    rw [List.filter_eq_nil_iff]
    intro x _
    unfold differs
    simp
  rw [this]
  rfl
/-! ### streams -/
/-- what stands behind n items: how many were given, where what was returned ends -/
def Given (f : Form) (n given returned : Nat) : Prop := ((certain f n).2 = 0 ∧ given = 0 ∧ returned = 0) ∨ (0 < (certain f n).2 ∧ returned = (certain f n).2 ∧ (certain f n).1 + given = (certain f n).2)
theorem certain_some {t : Trim} (n : Nat) : certain (some t) n = if isStable t.keeps (n - (t.skip + t.chop)) = true then windowOf (some t) n else (0, 0) := by
  show (if isStable t.keeps (n - t.skip - t.chop) = true then windowOf (some t) n else (0, 0)) = _
  rw [show n - t.skip - t.chop = n - (t.skip + t.chop) by omega]
theorem certain_next {f : Form} (hw : WFo f) {n : Nat} (h : 0 < (certain f n).2) : (certain f (n + 1)).1 = (certain f n).1 ∧ (certain f n).2 ≤ (certain f (n + 1)).2 := by
  cases f with
  | none => exact absurd h (Nat.lt_irrefl _)
  | some t =>
    obtain ⟨hp, hf⟩ := hw t rfl
    rw [certain_some] at h ⊢
    rw [certain_some]
    by_cases s : isStable t.keeps (n - (t.skip + t.chop)) = true
    · rw [if_pos s] at h ⊢
      have s2 := stable_mono (l := t.keeps) (x := n - (t.skip + t.chop)) (y := n + 1 - (t.skip + t.chop)) (by omega) s
      rw [if_pos s2]
      rw [win_some n] at h ⊢
      by_cases c : n ≤ t.skip + t.chop
      · rw [if_pos c] at h
        exact absurd h (Nat.lt_irrefl _)
      · rw [if_neg c, win_some (n + 1), if_neg (show ¬ n + 1 ≤ t.skip + t.chop by omega)]
        have a1 := (stable_iff hf _).mp s
        have a2 := (stable_iff hf _).mp s2
        rw [a1] at a2
        have a3 := Option.some.inj a2
        have a4 := (ends_step t.keeps (n - (t.skip + t.chop)) (n + 1 - (t.skip + t.chop)) (by omega)).1
        show t.skip + _ = t.skip + _ ∧ t.skip + _ ≤ t.skip + _
        omega
    · rw [if_neg s] at h
      exact absurd h (Nat.lt_irrefl _)
theorem win_le (f : Form) (n : Nat) : (windowOf f n).2 ≤ n := by
  cases f with
  | none => exact Nat.zero_le _
  | some t =>
    rw [win_some]
    split
    · exact Nat.zero_le _
    · have := ends_le t.keeps (n - (t.skip + t.chop))
      show t.skip + _ ≤ n
      omega
theorem win_fst {f : Form} (hw : WFo f) (n : Nat) : (windowOf f n).1 ≤ (windowOf f n).2 := by
  cases f with
  | none => exact Nat.le_refl _
  | some t =>
    rw [win_some]
    split
    · exact Nat.le_refl _
    · show t.skip + shifted t.keeps _ ≤ t.skip + (shifted t.keeps _ + kept t.keeps _)
      omega
theorem certain_win (f : Form) (n : Nat) : certain f n = windowOf f n ∨ certain f n = (0, 0) := by
  cases f with
  | none => exact .inr rfl
  | some t =>
    rw [certain_some]
    split
    · exact .inl rfl
    · exact .inr rfl
theorem certain_le (f : Form) (n : Nat) : (certain f n).2 ≤ n := by
  rcases certain_win f n with h | h <;> rw [h]
  · exact win_le f n
  · exact Nat.zero_le _
theorem certain_fst {f : Form} (hw : WFo f) (n : Nat) : (certain f n).1 ≤ (certain f n).2 := by
  rcases certain_win f n with h | h <;> rw [h]
  · exact win_fst hw n
  · exact Nat.le_refl _
theorem given_zero (f : Form) : Given f 0 0 0 := by
  refine .inl ⟨?_, rfl, rfl⟩
  have := certain_le f 0
  omega
/-- what next returns, and what stands behind -/
theorem given_next {α : Type} {f : Form} (hw : WFo f) {its : List α} {n g r : Nat} (hn : its.length = n + 1) (h : Given f n g r) :
    part ((certain f (n + 1)).1 + g, (certain f (n + 1)).2) its = (its.take (certain f (n + 1)).2).drop (max (certain f (n + 1)).1 r) ∧
      Given f (n + 1) (g + (part ((certain f (n + 1)).1 + g, (certain f (n + 1)).2) its).length) (if 0 < (certain f (n + 1)).2 then max r (certain f (n + 1)).2 else r) := by
  have c1 := certain_le f (n + 1)
  have c2 := certain_fst hw (n + 1)
  have hl : (part ((certain f (n + 1)).1 + g, (certain f (n + 1)).2) its).length = (certain f (n + 1)).2 - ((certain f (n + 1)).1 + g) := by
    unfold part
    simp only [List.length_drop, List.length_take]
    omega
  rw [hl]
  rcases h with ⟨h1, rfl, rfl⟩ | ⟨h1, h2, h3⟩
  · refine ⟨?_, ?_⟩
    · unfold part
      show (its.take _).drop ((certain f (n + 1)).1 + 0) = _
      congr 1
      omega
    · by_cases c : 0 < (certain f (n + 1)).2
      · rw [if_pos c]
        exact .inr ⟨c, by omega, by omega⟩
      · rw [if_neg c]
        exact .inl ⟨by omega, by omega, rfl⟩
  · obtain ⟨k1, k2⟩ := certain_next hw h1
    refine ⟨?_, ?_⟩
    · unfold part
      show (its.take _).drop ((certain f (n + 1)).1 + g) = _
      congr 1
      omega
    · rw [if_pos (by omega)]
      exact .inr ⟨by omega, by omega, by omega⟩
/-- what finish returns -/
theorem given_end {α : Type} {f : Form} {its : List α} {n g r : Nat} (h : Given f n g r) : part ((windowOf f n).1 + g, (windowOf f n).2) its = (its.take (windowOf f n).2).drop (max (windowOf f n).1 r) := by
  unfold part
  rcases h with ⟨h1, rfl, rfl⟩ | ⟨h1, h2, h3⟩
  · show (its.take _).drop ((windowOf f n).1 + 0) = _
    congr 1
    omega
  · have e : windowOf f n = certain f n := by
      rcases certain_win f n with h | h
      · exact h.symm
      · rw [h] at h1
        exact absurd h1 (Nat.lt_irrefl _)
    show (its.take _).drop ((windowOf f n).1 + g) = _
    rw [e]
    congr 1
    omega
end Tl
namespace Td
open PySem PySem.Spec PyProof.Rows L2 Tw
abbrev TKind := R7256f.Spec.Kind
abbrev TStep := R7256f.Spec.Step
abbrev Pipe := R7256f.Spec.Pipeline
open Tl (NP pwin wstep norm)
def top (i : Nat) : Stmt := PySem.Challenge.pw_trimlines_s01_answers.main.body.getD i (.Pass ⟨0, 0, 0, 0⟩)
abbrev s_window : Stmt := top 5
/-! ### data -/
theorem map_get {α β : Type} {f : α → β} {l : List α} {i : Nat} {y : β} (h : (l.map f)[i]? = some y) : ∃ x, l[i]? = some x ∧ y = f x := by
  rw [List.getElem?_map] at h
  cases e : l[i]? with
  | none => rw [e] at h; cases h
  | some x =>
    rw [e] at h
    exact ⟨x, rfl, (Option.some.inj h).symm⟩
def kS : TKind → Str
  | .head => "head"
  | .tail => "tail"
  | .skip => "skip"
  | .chop => "chop"
def stepD (s : TStep) : PyData := .tuple [.str (kS s.kind), .int s.count]
def stepsL (p : Pipe) : List PyData := p.map stepD
def winD (w : Nat × Nat) : PyData := .tuple [.int w.1, .int w.2]
def IsC (mg : Str → Option Value) (x v : Str) : Prop := ∃ t, mg x = some (.str v t)
def IsI (mg : Str → Option Value) (x : Str) (v : Int) : Prop := ∃ t, mg x = some (.int v t)
def IsTp (K : Frag) (mg : Str → Option Value) (x : Str) (vs : List V) : Prop := ∃ a, mg x = some (.ref a) ∧ ∀ H : Hp, SqT K H a vs
/-- what the top has written of constants, and the built-ins that no name hides -/
structure Txt (K : Frag) (mg : Str → Option Value) : Prop where
  HEAD : IsC mg "HEAD" "head"
  TAIL : IsC mg "TAIL" "tail"
  SKIP : IsC mg "SKIP" "skip"
  CHOP : IsC mg "CHOP" "chop"
  INTEGER : IsI mg "INTEGER" 4
  TEXT : IsI mg "TEXT" 6
  LIST : IsI mg "LIST" 7
  RECORD : IsI mg "RECORD" 8
  OCTETS : IsI mg "OCTETS" 10
  WORD : IsI mg "WORD" 18446744073709551616
  HALF : IsI mg "HALF" 9223372036854775808
  BAR : IsI mg "BAR" 124
  SPACE : IsI mg "SPACE" 32
  MOST_DIGITS : IsI mg "MOST_DIGITS" 7
  MOST_COUNT_texts : IsI mg "MOST_COUNT_texts" 1000000
  MOST_ARGUMENTS : IsI mg "MOST_ARGUMENTS" 2
  MOST_STEPS : IsI mg "MOST_STEPS" 20
  MOST_COUNT_desk : IsI mg "MOST_COUNT_desk" 1000000
  MOST_ITEMS : IsI mg "MOST_ITEMS" 1000
  MOST_LENGTH : IsI mg "MOST_LENGTH" 1000000000
  NOTHING : IsTp K mg "NOTHING" [.int 0]
  NULL : IsTp K mg "NULL" [.int 1]
  FALSE : IsTp K mg "FALSE" [.int 2]
  TRUE : IsTp K mg "TRUE" [.int 3]
  KINDS : IsTp K mg "KINDS" [.str "head", .str "tail", .str "skip", .str "chop"]
  min : mg "min" = none
  max : mg "max" = none
  len : mg "len" = none
  ord : mg "ord" = none
  tuple : mg "tuple" = none
  list : mg "list" = none
  range : mg "range" = none
  str : mg "str" = none
  sorted : mg "sorted" = none
  sum : mg "sum" = none
  all : mg "all" = none
theorem ev_cs {X : Cx} {T : List NTab} {γ : Gm} {x v : Str} {pos : Pos} (h : IsC X.mg x v) (hg : Gl X x := by rfl) (hd : (x == ("__debug__" : Str)) = false := by decide) : Ev X T γ (.Name x pos) (sh X.K (.str v)) := by
  obtain ⟨t, h⟩ := h
  exact ev_glob (v := .str v) h ⟨t, rfl⟩ (fun F => rfl) hg hd
theorem ev_ci {X : Cx} {T : List NTab} {γ : Gm} {x : Str} {v : Int} {pos : Pos} (h : IsI X.mg x v) (hg : Gl X x := by rfl) (hd : (x == ("__debug__" : Str)) = false := by decide) : Ev X T γ (.Name x pos) (sh X.K (.int v)) := by
  obtain ⟨t, h⟩ := h
  exact ev_glob (v := .int v) h ⟨t, rfl⟩ (fun F => rfl) hg hd
theorem ev_ct {X : Cx} {T : List NTab} {γ : Gm} {x : Str} {ds : List PyData} {vs : List V} {pos : Pos} (h : IsTp X.K X.mg x vs) (hv : ∀ F, DqAll X.K F ds vs) (hg : Gl X x := by rfl) (hd : (x == ("__debug__" : Str)) = false := by decide) : Ev X T γ (.Name x pos) (sh X.K (.tuple ds)) := by
  obtain ⟨a, h1, h2⟩ := h
  exact ev_glob (v := .ref a) h1 rfl (fun F => ⟨a, vs, rfl, h2 F, hv F⟩) hg hd
theorem ev_c1 {X : Cx} {T : List NTab} {γ : Gm} {x : Str} {n : Int} {pos : Pos} (h : IsTp X.K X.mg x [.int n]) (hg : Gl X x := by rfl) (hd : (x == ("__debug__" : Str)) = false := by decide) : Ev X T γ (.Name x pos) (sh X.K (.tuple [.int n])) := ev_ct h (fun F => ⟨_, _, rfl, rfl, rfl⟩) hg hd
section
variable {P : Program} {w : World} {K : Frag} {mg : Str → Option Value} {base : Heap} {T : List NTab} {C : Addr}
def S_window (K : Frag) : Pipe × Nat → Pr := fun i => ⟨True, [sh K (.list (stepsL i.1)), sh K (.int i.2)], .ok (sh K (winD (pwin i.1 i.2)))⟩
theorem sc_window : FnScope ["steps", "length", "start", "end", "kind", "count"] ["steps", "length"] (defScope s_window) := ⟨rfl, rfl, rfl, by decide +kernel, rfl, by decide +kernel, by decide +kernel⟩
theorem ok_window {f : Addr} {fd : FuncData} (F : Fun K "window" "window" s_window f fd) (X : Txt K mg) : FnOk P w K mg base CX0 1 f fd ["steps", "length"] (spF T C (S_window K)) := by
  refine def_ok F sc_window (fun _ => rfl) fun ⟨p, n⟩ _ cdv A outer s H E hr => ?_
  refine sj_cons (sj_set 2 ev_int ?_ sc_window.nd)
  refine sj_cons (sj_set 3 (ev_var 1 rfl) ?_ sc_window.nd)
  refine sj_cons (sj_for true PassesOwn.never rfl (ds := stepsL p) (ev_var 0 rfl) (pg_two _ 4 5 rfl sc_window.nd) (tgt_pair 4 5) (fun d hd => ?_)
    (fun k γ => ∃ x y, γ = [.sh (sh K (.list (stepsL p))), .sh (sh K (.int n)), .sh (sh K (.int ((p.take k).foldl wstep (0, n)).1)), .sh (sh K (.int ((p.take k).foldl wstep (0, n)).2)), x, y]) ⟨_, _, rfl⟩ ?_ ?_)
  · obtain ⟨s, _, rfl⟩ := List.mem_map.mp hd
    exact ⟨_, _, rfl⟩
  · rintro k d _ hd ⟨x, y, rfl⟩
    obtain ⟨st, hst, rfl⟩ := map_get hd
    have hw : ((p.take (k + 1)).foldl wstep (0, n)) = wstep ((p.take k).foldl wstep (0, n)) st := by
      rw [take_snoc hst, List.foldl_append]
      rfl
    rw [hw]
    generalize (p.take k).foldl wstep (0, n) = q
    obtain ⟨kd, c⟩ := st
    refine sj_last (sj_if (evt_eqS (ev_var 4 rfl) (ev_cs X.HEAD)) (fun h => ?_) fun h => ?_)
    · have h : kS kd = "head" := of_decide_eq_true h
      cases kd <;> first | (exact absurd h (by decide +kernel)) | skip
      refine sj_last (sj_set 3 ((ev_min rfl X.min (ev_var 3 rfl) (ev_add (ev_var 2 rfl) (ev_var 5 rfl))).cast (d' := .int (min q.2 (q.1 + c) : Nat)) (congrArg PyData.int (by dsimp only; omega))) ⟨_, _, rfl⟩ sc_window.nd)
    · refine sj_last (sj_if (evt_eqS (ev_var 4 rfl) (ev_cs X.TAIL)) (fun h2 => ?_) fun h2 => ?_)
      · have h2 : kS kd = "tail" := of_decide_eq_true h2
        cases kd <;> first | (exact absurd h2 (by decide +kernel)) | skip
        exact sj_last (sj_set 2 ((ev_max rfl X.max (ev_var 2 rfl) (ev_sub (ev_var 3 rfl) (ev_var 5 rfl))).cast (d' := .int (max q.1 (q.2 - c) : Nat)) (congrArg PyData.int (by dsimp only; omega))) ⟨_, _, rfl⟩ sc_window.nd)
      · refine sj_last (sj_if (evt_eqS (ev_var 4 rfl) (ev_cs X.SKIP)) (fun h3 => ?_) fun h3 => ?_)
        · have h3 : kS kd = "skip" := of_decide_eq_true h3
          cases kd <;> first | (exact absurd h3 (by decide +kernel)) | skip
          exact sj_last (sj_set 2 ((ev_min rfl X.min (ev_var 3 rfl) (ev_add (ev_var 2 rfl) (ev_var 5 rfl))).cast (d' := .int (min q.2 (q.1 + c) : Nat)) (congrArg PyData.int (by dsimp only; omega))) ⟨_, _, rfl⟩ sc_window.nd)
        · have h : ¬ kS kd = "head" := of_decide_eq_false h
          have h2 : ¬ kS kd = "tail" := of_decide_eq_false h2
          have h3 : ¬ kS kd = "skip" := of_decide_eq_false h3
          cases kd <;> first | (exact absurd rfl h) | (exact absurd rfl h2) | (exact absurd rfl h3) | skip
          exact sj_last (sj_set 3 ((ev_max rfl X.max (ev_var 2 rfl) (ev_sub (ev_var 3 rfl) (ev_var 5 rfl))).cast (d' := .int (max q.1 (q.2 - c) : Nat)) (congrArg PyData.int (by dsimp only; omega))) ⟨_, _, rfl⟩ sc_window.nd)
  · rintro _ ⟨x, y, rfl⟩
    have e : p.take (stepsL p).length = p := by
      rw [stepsL, List.length_map, List.take_length]
    rw [e]
    show SJs _ _ _ _ _
    refine sj_last (sj_ret (ev_if (evt_lt (ev_var 2 rfl) (ev_var 3 rfl)) (fun h => ?_) fun h => ?_))
    · have h := of_decide_eq_true h
      refine (ev_tup (ds := [_, _]) (eva_cons (ev_var 2 rfl) (eva_cons (ev_var 3 rfl) eva_nil))).cast ?_
      show _ = winD (norm (p.foldl wstep (0, n)))
      unfold norm
      rw [if_pos (by omega)]
      rfl
    · have h := of_decide_eq_false h
      refine (ev_tup (ds := [_, _]) (eva_cons ev_int (eva_cons ev_int eva_nil))).cast ?_
      show _ = winD (norm (p.foldl wstep (0, n)))
      unfold norm
      rw [if_neg (by omega)]
      rfl
end
end Td
set_option maxHeartbeats 0
/-! What the head looks at (printed by gen_end.py). -/
namespace Tk
open PySem PySem.W PySem.Calls PyProof.Rows
open Td (top)
abbrev R : OpenSpec := PySem.Challenge.rw_trimlines_s01_answers
abbrev qv : Program := view R.prog [75]
def names0 : List PySem.Str := ["HEAD", "TAIL", "SKIP", "CHOP", "window", "window_pipelines", "Normal", "around", "first_difference", "lengths_of", "first_length", "lengths_with", "reading", "capacity", "NOTHING", "NULL", "FALSE", "TRUE", "INTEGER", "TEXT", "LIST", "RECORD", "OCTETS", "WORD", "HALF"]
def names1 : List PySem.Str := ["codes_of", "integer", "text", "truth", "listed", "integers", "record", "low_first", "octets_of", "Request", "Refused", "wrong_kind", "out_of_range", "BAR", "SPACE", "MOST_DIGITS", "MOST_COUNT_texts", "split_at", "number_in", "step_in", "steps_in", "step_text", "MOST_ARGUMENTS", "MOST_STEPS", "MOST_COUNT_desk"]
def names2 : List PySem.Str := ["MOST_ITEMS", "MOST_LENGTH", "KINDS", "member", "step_of", "need_few", "need_pipeline", "need_number", "told_steps", "told_window", "told_lengths", "parsed", "applied", "compared", "commuting", "told_reading", "on_pipeline", "answer", "Stream", "Desk", "answered"]
def names : List PySem.Str := names0 ++ (names1 ++ (names2))
def d_t5 : He.DefD := ⟨("window_pipelines", none), "window", "window", L2.defArgs (top 5), L2.defBody (top 5), L2.defScope (top 5), [], []⟩
def d_c7_0 : He.DefD := ⟨("Normal", some "__init__"), "__init__", "Normal.__init__", L2.defArgs (L2.inClass (top 7) 0), L2.defBody (L2.inClass (top 7) 0), L2.defScope (L2.inClass (top 7) 0), [], []⟩
def d_c7_1 : He.DefD := ⟨("Normal", some "last"), "last", "Normal.last", L2.defArgs (L2.inClass (top 7) 1), L2.defBody (L2.inClass (top 7) 1), L2.defScope (L2.inClass (top 7) 1), [], []⟩
def d_c7_2 : He.DefD := ⟨("Normal", some "take"), "take", "Normal.take", L2.defArgs (L2.inClass (top 7) 2), L2.defBody (L2.inClass (top 7) 2), L2.defScope (L2.inClass (top 7) 2), [], []⟩
def d_c7_3 : He.DefD := ⟨("Normal", some "steps"), "steps", "Normal.steps", L2.defArgs (L2.inClass (top 7) 3), L2.defBody (L2.inClass (top 7) 3), L2.defScope (L2.inClass (top 7) 3), [], []⟩
def d_c7_4 : He.DefD := ⟨("Normal", some "off"), "off", "Normal.off", L2.defArgs (L2.inClass (top 7) 4), L2.defBody (L2.inClass (top 7) 4), L2.defScope (L2.inClass (top 7) 4), [], []⟩
def d_c7_5 : He.DefD := ⟨("Normal", some "joints"), "joints", "Normal.joints", L2.defArgs (L2.inClass (top 7) 5), L2.defBody (L2.inClass (top 7) 5), L2.defScope (L2.inClass (top 7) 5), [], []⟩
def d_c7_6 : He.DefD := ⟨("Normal", some "beyond"), "beyond", "Normal.beyond", L2.defArgs (L2.inClass (top 7) 6), L2.defBody (L2.inClass (top 7) 6), L2.defScope (L2.inClass (top 7) 6), [], []⟩
def d_c7_7 : He.DefD := ⟨("Normal", some "window"), "window", "Normal.window", L2.defArgs (L2.inClass (top 7) 7), L2.defBody (L2.inClass (top 7) 7), L2.defScope (L2.inClass (top 7) 7), [], []⟩
def d_c7_8 : He.DefD := ⟨("Normal", some "last_start"), "last_start", "Normal.last_start", L2.defArgs (L2.inClass (top 7) 8), L2.defBody (L2.inClass (top 7) 8), L2.defScope (L2.inClass (top 7) 8), [], []⟩
def d_c7_9 : He.DefD := ⟨("Normal", some "last_end"), "last_end", "Normal.last_end", L2.defArgs (L2.inClass (top 7) 9), L2.defBody (L2.inClass (top 7) 9), L2.defScope (L2.inClass (top 7) 9), [], []⟩
def d_t8 : He.DefD := ⟨("around", none), "around", "around", L2.defArgs (top 8), L2.defBody (top 8), L2.defScope (top 8), [], []⟩
def d_t9 : He.DefD := ⟨("first_difference", none), "first_difference", "first_difference", L2.defArgs (top 9), L2.defBody (top 9), L2.defScope (top 9), [], []⟩
def d_t10 : He.DefD := ⟨("lengths_of", none), "lengths_of", "lengths_of", L2.defArgs (top 10), L2.defBody (top 10), L2.defScope (top 10), [], []⟩
def d_t11 : He.DefD := ⟨("first_length", none), "first_length", "first_length", L2.defArgs (top 11), L2.defBody (top 11), L2.defScope (top 11), [], []⟩
def d_t12 : He.DefD := ⟨("lengths_with", none), "lengths_with", "lengths_with", L2.defArgs (top 12), L2.defBody (top 12), L2.defScope (top 12), [], []⟩
def d_t13 : He.DefD := ⟨("reading", none), "reading", "reading", L2.defArgs (top 13), L2.defBody (top 13), L2.defScope (top 13), [], []⟩
def d_t14 : He.DefD := ⟨("capacity", none), "capacity", "capacity", L2.defArgs (top 14), L2.defBody (top 14), L2.defScope (top 14), [], []⟩
def d_t27 : He.DefD := ⟨("codes_of", none), "codes_of", "codes_of", L2.defArgs (top 27), L2.defBody (top 27), L2.defScope (top 27), [], []⟩
def d_t28 : He.DefD := ⟨("integer", none), "integer", "integer", L2.defArgs (top 28), L2.defBody (top 28), L2.defScope (top 28), [], []⟩
def d_t29 : He.DefD := ⟨("text", none), "text", "text", L2.defArgs (top 29), L2.defBody (top 29), L2.defScope (top 29), [], []⟩
def d_t30 : He.DefD := ⟨("truth", none), "truth", "truth", L2.defArgs (top 30), L2.defBody (top 30), L2.defScope (top 30), [], []⟩
def d_t31 : He.DefD := ⟨("listed", none), "listed", "listed", L2.defArgs (top 31), L2.defBody (top 31), L2.defScope (top 31), [], []⟩
def d_t32 : He.DefD := ⟨("integers", none), "integers", "integers", L2.defArgs (top 32), L2.defBody (top 32), L2.defScope (top 32), [], []⟩
def d_t33 : He.DefD := ⟨("record", none), "record", "record", L2.defArgs (top 33), L2.defBody (top 33), L2.defScope (top 33), [], []⟩
def d_t34 : He.DefD := ⟨("low_first", none), "low_first", "low_first", L2.defArgs (top 34), L2.defBody (top 34), L2.defScope (top 34), [], []⟩
def d_t35 : He.DefD := ⟨("octets_of", none), "octets_of", "octets_of", L2.defArgs (top 35), L2.defBody (top 35), L2.defScope (top 35), [], []⟩
def d_c36_0 : He.DefD := ⟨("Request", some "__init__"), "__init__", "Request.__init__", L2.defArgs (L2.inClass (top 36) 0), L2.defBody (L2.inClass (top 36) 0), L2.defScope (L2.inClass (top 36) 0), [], []⟩
def d_c36_1 : He.DefD := ⟨("Request", some "number"), "number", "Request.number", L2.defArgs (L2.inClass (top 36) 1), L2.defBody (L2.inClass (top 36) 1), L2.defScope (L2.inClass (top 36) 1), [], []⟩
def d_c36_2 : He.DefD := ⟨("Request", some "plain"), "plain", "Request.plain", L2.defArgs (L2.inClass (top 36) 2), L2.defBody (L2.inClass (top 36) 2), L2.defScope (L2.inClass (top 36) 2), [], []⟩
def d_c36_3 : He.DefD := ⟨("Request", some "value"), "value", "Request.value", L2.defArgs (L2.inClass (top 36) 3), L2.defBody (L2.inClass (top 36) 3), L2.defScope (L2.inClass (top 36) 3), [], []⟩
def d_c36_4 : He.DefD := ⟨("Request", some "whole"), "whole", "Request.whole", L2.defArgs (L2.inClass (top 36) 4), L2.defBody (L2.inClass (top 36) 4), L2.defScope (L2.inClass (top 36) 4), [], []⟩
def d_c37_0 : He.DefD := ⟨("Refused", some "__init__"), "__init__", "Refused.__init__", L2.defArgs (L2.inClass (top 37) 0), L2.defBody (L2.inClass (top 37) 0), L2.defScope (L2.inClass (top 37) 0), [], []⟩
def d_t38 : He.DefD := ⟨("wrong_kind", none), "wrong_kind", "wrong_kind", L2.defArgs (top 38), L2.defBody (top 38), L2.defScope (top 38), [], []⟩
def d_t39 : He.DefD := ⟨("out_of_range", none), "out_of_range", "out_of_range", L2.defArgs (top 39), L2.defBody (top 39), L2.defScope (top 39), [], []⟩
def d_t45 : He.DefD := ⟨("split_at", none), "split_at", "split_at", L2.defArgs (top 45), L2.defBody (top 45), L2.defScope (top 45), [], []⟩
def d_t46 : He.DefD := ⟨("number_in", none), "number_in", "number_in", L2.defArgs (top 46), L2.defBody (top 46), L2.defScope (top 46), [], []⟩
def d_t47 : He.DefD := ⟨("step_in", none), "step_in", "step_in", L2.defArgs (top 47), L2.defBody (top 47), L2.defScope (top 47), [], []⟩
def d_t48 : He.DefD := ⟨("steps_in", none), "steps_in", "steps_in", L2.defArgs (top 48), L2.defBody (top 48), L2.defScope (top 48), [], []⟩
def d_t49 : He.DefD := ⟨("step_text", none), "step_text", "step_text", L2.defArgs (top 49), L2.defBody (top 49), L2.defScope (top 49), [], []⟩
def d_t57 : He.DefD := ⟨("member", none), "member", "member", L2.defArgs (top 57), L2.defBody (top 57), L2.defScope (top 57), [], []⟩
def d_t58 : He.DefD := ⟨("step_of", none), "step_of", "step_of", L2.defArgs (top 58), L2.defBody (top 58), L2.defScope (top 58), [], []⟩
def d_t59 : He.DefD := ⟨("need_few", none), "need_few", "need_few", L2.defArgs (top 59), L2.defBody (top 59), L2.defScope (top 59), [], []⟩
def d_t60 : He.DefD := ⟨("need_pipeline", none), "need_pipeline", "need_pipeline", L2.defArgs (top 60), L2.defBody (top 60), L2.defScope (top 60), [], []⟩
def d_t61 : He.DefD := ⟨("need_number", none), "need_number", "need_number", L2.defArgs (top 61), L2.defBody (top 61), L2.defScope (top 61), [], []⟩
def d_t62 : He.DefD := ⟨("told_steps", none), "told_steps", "told_steps", L2.defArgs (top 62), L2.defBody (top 62), L2.defScope (top 62), [], []⟩
def d_t63 : He.DefD := ⟨("told_window", none), "told_window", "told_window", L2.defArgs (top 63), L2.defBody (top 63), L2.defScope (top 63), [], []⟩
def d_t64 : He.DefD := ⟨("told_lengths", none), "told_lengths", "told_lengths", L2.defArgs (top 64), L2.defBody (top 64), L2.defScope (top 64), [], []⟩
def d_t65 : He.DefD := ⟨("parsed", none), "parsed", "parsed", L2.defArgs (top 65), L2.defBody (top 65), L2.defScope (top 65), [], []⟩
def d_t66 : He.DefD := ⟨("applied", none), "applied", "applied", L2.defArgs (top 66), L2.defBody (top 66), L2.defScope (top 66), [], []⟩
def d_t67 : He.DefD := ⟨("compared", none), "compared", "compared", L2.defArgs (top 67), L2.defBody (top 67), L2.defScope (top 67), [], []⟩
def d_t68 : He.DefD := ⟨("commuting", none), "commuting", "commuting", L2.defArgs (top 68), L2.defBody (top 68), L2.defScope (top 68), [], []⟩
def d_t69 : He.DefD := ⟨("told_reading", none), "told_reading", "told_reading", L2.defArgs (top 69), L2.defBody (top 69), L2.defScope (top 69), [], []⟩
def d_t70 : He.DefD := ⟨("on_pipeline", none), "on_pipeline", "on_pipeline", L2.defArgs (top 70), L2.defBody (top 70), L2.defScope (top 70), [], []⟩
def d_t71 : He.DefD := ⟨("answer", none), "answer", "answer", L2.defArgs (top 71), L2.defBody (top 71), L2.defScope (top 71), [], []⟩
def d_c72_0 : He.DefD := ⟨("Stream", some "__init__"), "__init__", "Stream.__init__", L2.defArgs (L2.inClass (top 72) 0), L2.defBody (L2.inClass (top 72) 0), L2.defScope (L2.inClass (top 72) 0), [], []⟩
def d_c72_1 : He.DefD := ⟨("Stream", some "up_to"), "up_to", "Stream.up_to", L2.defArgs (L2.inClass (top 72) 1), L2.defBody (L2.inClass (top 72) 1), L2.defScope (L2.inClass (top 72) 1), [], []⟩
def d_c72_2 : He.DefD := ⟨("Stream", some "step"), "step", "Stream.step", L2.defArgs (L2.inClass (top 72) 2), L2.defBody (L2.inClass (top 72) 2), L2.defScope (L2.inClass (top 72) 2), [], []⟩
def d_c72_3 : He.DefD := ⟨("Stream", some "end"), "end", "Stream.end", L2.defArgs (L2.inClass (top 72) 3), L2.defBody (L2.inClass (top 72) 3), L2.defScope (L2.inClass (top 72) 3), [], []⟩
def d_c73_0 : He.DefD := ⟨("Desk", some "__init__"), "__init__", "Desk.__init__", L2.defArgs (L2.inClass (top 73) 0), L2.defBody (L2.inClass (top 73) 0), L2.defScope (L2.inClass (top 73) 0), [], []⟩
def d_c73_1 : He.DefD := ⟨("Desk", some "call"), "call", "Desk.call", L2.defArgs (L2.inClass (top 73) 1), L2.defBody (L2.inClass (top 73) 1), L2.defScope (L2.inClass (top 73) 1), [], []⟩
def d_t74 : He.DefD := ⟨("answered", none), "answered", "answered", L2.defArgs (top 74), L2.defBody (top 74), L2.defScope (top 74), [], []⟩
def d_t75 : He.DefD := ⟨("answers", none), "answers", "answers", L2.defArgs (top 75), L2.defBody (top 75), L2.defScope (top 75), [], []⟩
def fn0 : List He.DefD := [d_t5, d_c7_0, d_c7_1, d_c7_2, d_c7_3, d_c7_4, d_c7_5, d_c7_6, d_c7_7, d_c7_8, d_c7_9, d_t8, d_t9, d_t10, d_t11, d_t12, d_t13, d_t14, d_t27, d_t28, d_t29, d_t30, d_t31, d_t32, d_t33]
def fn1 : List He.DefD := [d_t34, d_t35, d_c36_0, d_c36_1, d_c36_2, d_c36_3, d_c36_4, d_c37_0, d_t38, d_t39, d_t45, d_t46, d_t47, d_t48, d_t49, d_t57, d_t58, d_t59, d_t60, d_t61, d_t62, d_t63, d_t64, d_t65, d_t66]
def fn2 : List He.DefD := [d_t67, d_t68, d_t69, d_t70, d_t71, d_c72_0, d_c72_1, d_c72_2, d_c72_3, d_c73_0, d_c73_1, d_t74, d_t75]
def fn : List He.DefD := fn0 ++ (fn1 ++ (fn2))
def fa0 : List He.Fa := [.glo "window_pipelines", .meth "Normal" "last", .meth "Normal" "take", .meth "Normal" "steps", .meth "Normal" "off", .meth "Normal" "joints", .meth "Normal" "beyond", .meth "Normal" "window", .meth "Normal" "last_start", .meth "Normal" "last_end", .glo "around", .glo "first_difference", .glo "lengths_of", .glo "first_length", .glo "lengths_with", .glo "reading", .glo "capacity", .glo "codes_of", .glo "integer", .glo "text", .glo "truth", .glo "listed", .glo "integers", .glo "record", .glo "low_first"]
def fa1 : List He.Fa := [.glo "octets_of", .meth "Request" "number", .meth "Request" "plain", .meth "Request" "value", .meth "Request" "whole", .glo "wrong_kind", .glo "out_of_range", .glo "split_at", .glo "number_in", .glo "step_in", .glo "steps_in", .glo "step_text", .glo "member", .glo "step_of", .glo "need_few", .glo "need_pipeline", .glo "need_number", .glo "told_steps", .glo "told_window", .glo "told_lengths", .glo "parsed", .glo "applied", .glo "compared", .glo "commuting", .glo "told_reading"]
def fa2 : List He.Fa := [.glo "on_pipeline", .glo "answer", .meth "Stream" "up_to", .meth "Stream" "step", .meth "Stream" "end", .meth "Desk" "call", .glo "answered", .glo "answers", .glo "Normal", .cls "Normal", .mkr "Normal", .noat "Normal" "skipped", .noat "Normal" "chopped", .noat "Normal" "turns", .noat "Normal" "is_empty", .glo "Stream", .cls "Stream", .mkr "Stream", .noat "Stream" "normal", .noat "Stream" "read_items", .noat "Stream" "returned", .noat "Stream" "is_started", .noat "Stream" "is_closed", .glo "Desk", .cls "Desk"]
def fa3 : List He.Fa := [.mkr "Desk", .noat "Desk" "streams", .glo "Request", .cls "Request", .mkr "Request", .noat "Request" "octets", .noat "Request" "at", .glo "Refused", .exm "Refused" "Refused" true, .noat "Refused" "order", .noat "Refused" "message", .noat "Refused" "further", .int "INTEGER" 4, .int "TEXT" 6, .int "LIST" 7, .int "RECORD" 8, .int "OCTETS" 10, .int "WORD" 18446744073709551616, .int "HALF" 9223372036854775808, .int "BAR" 124, .int "SPACE" 32, .int "MOST_DIGITS" 7, .int "MOST_COUNT_texts" 1000000, .int "MOST_ARGUMENTS" 2, .int "MOST_STEPS" 20]
def fa4 : List He.Fa := [.int "MOST_COUNT_desk" 1000000, .int "MOST_ITEMS" 1000, .int "MOST_LENGTH" 1000000000, .str "HEAD" "head", .str "TAIL" "tail", .str "SKIP" "skip", .str "CHOP" "chop", .glo "NOTHING", .glo "NULL", .glo "FALSE", .glo "TRUE", .glo "KINDS", .free "min", .free "max", .free "len", .free "ord", .free "tuple", .free "list", .free "range", .free "str", .free "sorted", .free "sum", .free "all"]
def fa : List He.Fa := fa0 ++ (fa1 ++ (fa2 ++ (fa3 ++ (fa4))))
def tf : List He.Defn := [("lengths_with", none)]
/-- the own error's class as the top has made it -/
def oexB (K : Frag) (C : Addr) : Bool := match K.lookup C with
  | some ⟨.type "type", _, .cls cd, sl⟩ => (match cd.mro, sl.toList with
    | .ref C' :: bm, [_, _, _, _, some (.builtin n), _] => decide (C' = C) && (decide (n = "ValueError.__new__") && (!cd.hasDel && (cd.hasDict && PySem.HandSPX.refsVE bm)))
    | _, _ => false)
  | _ => false
theorem oexB_ok {K : Frag} {C : Addr} (h : oexB K C = true) : ∃ nm q N bs bm sn sub ab col dd k0 k1 k2 k3 k5, K.lookup C = some (excClassObj nm q C N bs bm true sn sub ab col dd k0 k1 k2 k3 k5 "ValueError.__new__") ∧ PySem.HandSPX.refsVE bm = true := by
  unfold oexB at h
  split at h
  · rename_i dd cd sl look
    split at h
    · rename_i C' bm k0 k1 k2 k3 n k5 hm hs
      obtain ⟨h1, h⟩ := He.ba h
      obtain ⟨h2, h⟩ := He.ba h
      obtain ⟨h3, h⟩ := He.ba h
      obtain ⟨h4, h5⟩ := He.ba h
      have h1 := of_decide_eq_true h1
      have h2 := of_decide_eq_true h2
      have h3 : cd.hasDel = false := by simpa using h3
      obtain ⟨nm, bs, mro, ns, qn, hd, sn, sub, ab, col, del⟩ := cd
      dsimp only at hm h3 h4
      subst h1 h2 h3 h4 hm
      have hsl : sl = #[k0, k1, k2, k3, some (.builtin "ValueError.__new__"), k5] := by
        obtain ⟨l⟩ := sl
        simp only at hs
        rw [hs]
      subst hsl
      exact ⟨nm, qn, ns, bs, bm, sn, sub, ab, col, dd, k0, k1, k2, k3, k5, look, h5⟩
    · cases h
  · cases h
/-- what else is looked at -/
def ex (K : Frag) : Bool := oexB K (He.ga K "Refused") && (He.eqO (findIn K (.ref (He.ga K "Refused")) "__setattr__") (some (some (.builtin "object.__setattr__"))) && (decide (subIn K (.ref (He.ga K "Refused")) (.type "BaseException") = some true) && (decide (typeIn K (.ref (He.ga K "Refused")) = some (.type "type")) && (keepIn K (.ref (He.ga K "Refused")) && (L2.xfB K (He.ga K "Refused") &&
  (He.eqO (findIn K (.ref (He.ga K "Refused")) "__init__") (some (some (.ref (He.ma K (He.ga K "Refused") "__init__")))) && (decide (typeIn K (.ref (He.ma K (He.ga K "Refused") "__init__")) = some (.type "function")) &&
  (He.tupB K "NOTHING" [.int 0] && (He.tupB K "NULL" [.int 1] && (He.tupB K "FALSE" [.int 2] && (He.tupB K "TRUE" [.int 3] && (He.tupB K "KINDS" [.str "head", .str "tail", .str "skip", .str "chop"]))))))))))))
abbrev hk : Hook := He.hookX 6 fa fn [] tf ex
def ob (s : SharedT) : He.AlX := He.obsX 6 fa fn [] tf ex (HandSHeadRun.getT s)
theorem ob_eq (s : SharedT) : ob s = hk.obs s.abs := He.obsX_eq (HandSHeadRun.getT_eq s)
theorem run (w : World) : HandSHeadRun.RunEqS R qv hk ob 6000 names w := by
  intro os
  kernel_rfl
end Tk
set_option maxHeartbeats 4000000
namespace Tw
open PySem PySem.Spec PyProof.Rows L2
/-! ### methods that change their object -/
inductive Fd where
  | ty (P : Ty)
  | ol (ds : List PyData)
abbrev Fds := List (Str × Fd)
mutual
/-- no list lies within -/
def noL : PyData → Bool
  | .none => true
  | .bool _ => true
  | .int _ => true
  | .str _ => true
  | .tuple ds => noLs ds
  | .list _ => false
  | .dict _ => false
def noLs : List PyData → Bool
  | [] => true
  | d :: ds => noL d && noLs ds
end
/-- F without the changeable p and t -/
def less (F : Hp) (p t : Addr) : Hp := fun b => if b = p ∨ b = t then none else F b
theorem less_at {F : Hp} {p t b : Addr} {o : HO} (h : less F p t b = some o) : F b = some o := by
  unfold less at h
  split at h
  · cases h
  · exact h
/-- what stands at p and t, if anything, may be changed -/
def ChgAt (F : Hp) (p t : Addr) : Prop := ∀ b, b = p ∨ b = t → ∀ u, F b = some u → Chg u
theorem less_of {F : Hp} {p t b : Addr} {o : HO} (c : ChgAt F p t) (h : F b = some o) (n : ¬ Chg o) : less F p t b = some o := by
  unfold less
  rw [if_neg (fun z => n (c b z o h))]
  exact h
section
variable {K : Frag} {F : Hp} {p t : Addr}
theorem less_tup (c : ChgAt F p t) {a : Addr} {xs : List V} (h : SqT K F a xs) : SqT K (less F p t) a xs := by
  rcases h with (h | ⟨o, h⟩) | h
  · exact .inl (.inl (less_of c h (fun z => z)))
  · exact .inl (.inr ⟨o, less_of c h (fun z => z)⟩)
  · exact .inr h
mutual
theorem noL_less (c : ChgAt F p t) : ∀ (d : PyData) (v : V), noL d = true → Dq K F d v → Dq K (less F p t) d v
  | .none, _, _, h => h
  | .bool _, _, _, h => h
  | .int _, _, _, h => h
  | .str _, _, _, h => h
  | .tuple ds, _, n, h => by
    obtain ⟨a, xs, h1, h2, h3⟩ := h
    exact ⟨a, xs, h1, less_tup c h2, noLs_less c ds xs n h3⟩
  | .list _, _, n, _ => by cases n
  | .dict _, _, n, _ => by cases n
theorem noLs_less (c : ChgAt F p t) : ∀ (ds : List PyData) (xs : List V), noLs ds = true → DqAll K F ds xs → DqAll K (less F p t) ds xs
  | [], _, _, h => h
  | d :: ds, _, n, h => by
    obtain ⟨v, us, h1, h2, h3⟩ := h
    have n' : (noL d && noLs ds) = true := n
    rw [Bool.and_eq_true] at n'
    exact ⟨v, us, h1, noL_less c d v n'.1 h2, noLs_less c ds us n'.2 h3⟩
end
end
theorem noLs_app {a b : List PyData} (h : noLs a = true) (h' : noLs b = true) : noLs (a ++ b) = true := by
  induction a with
  | nil => exact h'
  | cons d r ih =>
    have h : (noL d && noLs r) = true := h
    rw [Bool.and_eq_true] at h
    show (noL d && noLs (r ++ b)) = true
    rw [Bool.and_eq_true]
    exact ⟨h.1, ih h.2⟩
theorem noLs_all {ds : List PyData} (h : ∀ d ∈ ds, noL d = true) : noLs ds = true := by
  induction ds with
  | nil => rfl
  | cons d r ih =>
    show (noL d && noLs r) = true
    rw [Bool.and_eq_true]
    exact ⟨h d List.mem_cons_self, ih fun x hx => h x (List.mem_cons_of_mem _ hx)⟩
/-! ### the object's fields: data, and one list of its own at t -/
def FdOk (K : Frag) (F H : Hp) (t : Addr) : Fd → V → Prop
  | .ty P, v => P.p v F
  | .ol ds, v => v = .ref t ∧ ∃ xs, H t = some (.lst xs) ∧ DqAll K F ds xs
def FdsOk (K : Frag) (F H : Hp) (t : Addr) : Fds → List (Str × V) → Prop
  | [], vs => vs = []
  | (f, x) :: fs, vs => ∃ v r, vs = (f, v) :: r ∧ FdOk K F H t x v ∧ FdsOk K F H t fs r
theorem FdOk.mono {K : Frag} {F H F2 H2 : Hp} {t : Addr} (e : Ex F F2) (h : ∀ xs, H t = some (.lst xs) → H2 t = some (.lst xs)) : ∀ {x : Fd} {v : V}, FdOk K F H t x v → FdOk K F2 H2 t x v
  | .ty P, _, q => P.mono e q
  | .ol ds, _, ⟨q1, xs, q2, q3⟩ => ⟨q1, xs, h xs q2, DqAll.mono e _ _ q3⟩
theorem FdsOk.mono {K : Frag} {F H F2 H2 : Hp} {t : Addr} (e : Ex F F2) (h : ∀ xs, H t = some (.lst xs) → H2 t = some (.lst xs)) : ∀ {fs : Fds} {vs : List (Str × V)}, FdsOk K F H t fs vs → FdsOk K F2 H2 t fs vs
  | [], _, q => q
  | (f, x) :: fs, _, ⟨v, r, q1, q2, q3⟩ => ⟨v, r, q1, q2.mono e h, FdsOk.mono e h q3⟩
theorem FdsOk.length {K : Frag} {F H : Hp} {t : Addr} : ∀ {fs : Fds} {vs : List (Str × V)}, FdsOk K F H t fs vs → vs.length = fs.length
  | [], _, q => by
    have q : _ = [] := q
    rw [q]
    rfl
  | (f, x) :: fs, _, ⟨v, r, q1, _, q3⟩ => by
    subst q1
    exact congrArg (· + 1) q3.length
theorem FdsOk.look {K : Frag} {F H : Hp} {t : Addr} {f : Str} : ∀ {fs : Fds} {vs : List (Str × V)} {x : Fd}, FdsOk K F H t fs vs → fs.lookup f = some x → ∃ v, vs.lookup f = some v ∧ FdOk K F H t x v
  | [], _, _, _, e => by simp at e
  | (g, y) :: fs, _, x, ⟨v, r, q1, q2, q3⟩, e => by
    subst q1
    rw [List.lookup_cons] at e ⊢
    cases q : f == g with
    | true =>
      rw [q] at e
      cases e
      exact ⟨v, rfl, q2⟩
    | false =>
      rw [q] at e
      exact FdsOk.look q3 e
theorem FdsOk.look_none {K : Frag} {F H : Hp} {t : Addr} {f : Str} : ∀ {fs : Fds} {vs : List (Str × V)}, FdsOk K F H t fs vs → fs.lookup f = none → vs.lookup f = none
  | [], _, q, _ => by
    have q : _ = [] := q
    rw [q]
    rfl
  | (g, y) :: fs, _, ⟨v, r, q1, q2, q3⟩, e => by
    subst q1
    rw [List.lookup_cons] at e ⊢
    cases q : f == g with
    | true =>
      rw [q] at e
      cases e
    | false =>
      rw [q] at e
      exact FdsOk.look_none q3 e
def putFd (f : Str) (x : Fd) : Fds → Fds
  | [] => [(f, x)]
  | (g, y) :: r => if g = f then (g, x) :: r else (g, y) :: putFd f x r
theorem FdsOk.put {K : Frag} {F H : Hp} {t : Addr} {f : Str} {x : Fd} {v : V} (h : FdOk K F H t x v) : ∀ {fs : Fds} {vs : List (Str × V)}, FdsOk K F H t fs vs → FdsOk K F H t (putFd f x fs) (putF f v vs)
  | [], _, q => by
    have q : _ = [] := q
    rw [q]
    exact ⟨v, [], rfl, h, rfl⟩
  | (g, y) :: fs, _, ⟨u, r, q1, q2, q3⟩ => by
    subst q1
    show FdsOk K F H t (if g = f then (g, x) :: fs else (g, y) :: putFd f x fs) (if g = f then (g, v) :: r else (g, u) :: putF f v r)
    by_cases c : g = f
    · rw [if_pos c, if_pos c]
      exact ⟨v, r, rfl, h, q3⟩
    · rw [if_neg c, if_neg c]
      exact ⟨u, _, rfl, q2, FdsOk.put h q3⟩
/-- frozen, the fields are these -/
def fsT (K : Frag) : Fds → List (Str × Ty)
  | [] => []
  | (f, .ty P) :: r => (f, P) :: fsT K r
  | (f, .ol ds) :: r => (f, sh K (.list ds)) :: fsT K r
theorem FdsOk.frozen {K : Frag} {F H F2 : Hp} {t : Addr} (e : Ex F F2) (h : ∀ xs, H t = some (.lst xs) → F2 t = some (.lst xs)) : ∀ {fs : Fds} {vs : List (Str × V)}, FdsOk K F H t fs vs → FsOk F2 (fsT K fs) vs
  | [], _, q => q
  | (f, .ty P) :: fs, _, ⟨v, r, q1, q2, q3⟩ => ⟨v, r, q1, P.mono e q2, FdsOk.frozen e h q3⟩
  | (f, .ol ds) :: fs, _, ⟨v, r, q1, ⟨q4, xs, q5, q6⟩, q3⟩ => ⟨v, r, q1, ⟨t, xs, q4, h xs q5, DqAll.mono e _ _ q6⟩, FdsOk.frozen e h q3⟩
/-- the object at p, own, from the start (F0, H0); t: where its list stands (or p, if it has none) -/
structure ObE (T : List NTab) (K : Frag) (C : Addr) (F0 H0 : Hp) (fs : Fds) (p : Addr) (F H : Hp) : Prop where
  g : Grow T F0 H0 F H
  h0 : H0 p = none
  fp : F p = none
  ob : ∃ dx vs t, H p = some (.ins C dx vs) ∧ (t = p ∨ ∃ xs, H t = some (.lst xs)) ∧ F t = none ∧ H0 t = none ∧ FdsOk K F H t fs vs
section
variable {T : List NTab} {K : Frag} {C : Addr} {F0 H0 F H F2 H2 : Hp} {fs : Fds} {p : Addr}
theorem ObE.ex (o : ObE T K C F0 H0 fs p F H) : Ex F H := o.g.ex
theorem ObE.grow (o : ObE T K C F0 H0 fs p F H) (g : Grow T F H F2 H2) : ObE T K C F0 H0 fs p F2 H2 := by
  obtain ⟨dx, vs, t, h1, h2, h3, h4, h5⟩ := o.ob
  have k : ∀ xs, H t = some (.lst xs) → H2 t = some (.lst xs) := fun xs q => g.h t _ q (fun ps z => by cases z)
  have ne : H t ≠ none := by
    rcases h2 with rfl | ⟨xs, q⟩
    · rw [h1]; simp
    · rw [q]; simp
  exact ⟨o.g.trans g, o.h0, g.own p o.fp (by rw [h1]; simp), dx, vs, t, g.h p _ h1 (fun ps z => by cases z), h2.imp id fun ⟨xs, q⟩ => ⟨xs, k xs q⟩, g.own t h3 ne, h4, h5.mono g.f k⟩
/-- the start moved to here -/
theorem ObE.rebase (o : ObE T K C F0 H0 fs p F H) : ∃ Hm, ObE T K C F Hm fs p F H ∧ (∀ F' H', Grow T F Hm F' H' → Grow T F0 H0 F' H') ∧ (∀ a, Hm a = none → H0 a = none) ∧ (NdefX.TabsN T H → NdefX.TabsN T Hm) := by
  obtain ⟨dx, vs, t, h1, h2, h3, h4, h5⟩ := o.ob
  have chg : ∀ b, b = p ∨ b = t → ∃ u, H b = some u ∧ Chg u := fun b hb => by
    rcases hb with rfl | rfl
    · exact ⟨_, h1, trivial⟩
    · rcases h2 with rfl | ⟨xs, q⟩
      · exact ⟨_, h1, trivial⟩
      · exact ⟨_, q, trivial⟩
  have lp : less H p t p = none := if_pos (.inl rfl)
  have lt : less H p t t = none := if_pos (.inr rfl)
  have le : ∀ b u, less H p t b = some u → H b = some u := fun b u q => less_at q
  have out : ∀ b, H0 b ≠ none → less H p t b = H b := fun b q => if_neg (by
    rintro (rfl | rfl)
    · exact q o.h0
    · exact q h4)
  have fr : ∀ a, less H p t a = none → H0 a = none := fun a q => by
    cases e : H0 a with
    | none => rfl
    | some u =>
      rw [out a (by rw [e]; simp)] at q
      rw [o.g.free a q] at e
      cases e
  have tb : NdefX.TabsN T H → NdefX.TabsN T (less H p t) := fun tt b hb => by
    obtain ⟨ps, q1, q2, q3⟩ := tt b hb
    have keep : ∀ c u, H c = some u → ¬ Chg u → less H p t c = some u := fun c u q n => by
      unfold less
      rw [if_neg]
      · exact q
      · intro z
        obtain ⟨u', e1, e2⟩ := chg c z
        rw [q] at e1
        cases e1
        exact n e2
    refine ⟨ps, keep _ _ q1 (fun z => z), q2, fun pos cv hc => ?_⟩
    obtain ⟨c, e1, e2⟩ := q3 pos cv hc
    exact ⟨c, e1, keep _ _ e2 (fun z => z)⟩
  refine ⟨less H p t, ⟨⟨Ex.refl _, o.g.ex, fun a u q _ => le a u q, fun a q _ => q, fun tt => tt.ext le, fun a q => ?_⟩, lp, o.fp, dx, vs, t, h1, h2, h3, lt, h5⟩, fun F' H' g => ⟨o.g.f.trans g.f, g.ex, fun a u q n => ?_, fun a q n => ?_, fun tt => g.tab (tb (o.g.tab tt)), fun a q => fr a (g.free a q)⟩, fr, tb⟩
  · unfold less
    split
    · rfl
    · exact q
  · exact g.h a u (by rw [out a (by rw [q]; simp)]; exact o.g.h a u q n) n
  · refine g.own a (o.g.own a q n) ?_
    rw [out a n]
    exact fun z => n (o.g.free a z)
theorem ObE.back {F1 Hm : Hp} (o : ObE T K C F1 Hm fs p F H) (conv : ∀ F' H', Grow T F1 Hm F' H' → Grow T F0 H0 F' H') (fr : ∀ a, Hm a = none → H0 a = none) : ObE T K C F0 H0 fs p F H := by
  obtain ⟨dx, vs, t, h1, h2, h3, h4, h5⟩ := o.ob
  exact ⟨conv _ _ o.g, fr _ o.h0, o.fp, dx, vs, t, h1, h2, h3, fr _ h4, h5⟩
/-- frozen for a while: what is evaluated then goes back -/
theorem ObE.freeze (o : ObE T K C F0 H0 fs p F H) : ∃ F1 t, Ex F F1 ∧ Ex F1 H ∧ Grow T F0 H0 F1 H ∧ (obj C (fsT K fs)).p (.ref p) F1 ∧
    (∀ F2 H2, Grow T F1 H F2 H2 → Grow T F H (less F2 p t) H2 ∧ ObE T K C F0 H0 fs p (less F2 p t) H2 ∧ (∀ d v, noL d = true → Dq K F2 d v → Dq K (less F2 p t) d v) ∧ (∀ ds xs, noLs ds = true → DqAll K F2 ds xs → DqAll K (less F2 p t) ds xs)) := by
  obtain ⟨dx, vs, t, h1, h2, h3, h4, h5⟩ := o.ob
  have key : ∃ F1, Ex F F1 ∧ Ex F1 H ∧ Grow T F0 H0 F1 H ∧ F1 p = some (.ins C dx vs) ∧ (∀ xs, H t = some (.lst xs) → F1 t = some (.lst xs)) ∧ (F1 t = none ∨ (∃ xs, F1 t = some (.lst xs)) ∨ t = p) ∧ (∀ b, b ≠ p → b ≠ t → F1 b = F b) := by
    have g1 := o.g.freeze o.h0 o.fp h1
    have e1 := Ex.new (F := F) (o := .ins C dx vs) o.fp
    rcases h2 with rfl | ⟨xs, q⟩
    · refine ⟨_, e1, g1.ex, g1, upd_same, fun xs z => ?_, .inr (.inr rfl), fun b n _ => upd_ne n⟩
      rw [h1] at z
      cases z
    · have npt : t ≠ p := fun z => by
        rw [z, h1] at q
        cases q
      have h3' : upd F p (.ins C dx vs) t = none := by
        rw [upd_ne npt]
        exact h3
      have g2 := g1.freeze h4 h3' q
      refine ⟨_, e1.trans (Ex.new h3'), g2.ex, g2, ?_, fun ys z => ?_, .inr (.inl ⟨xs, upd_same⟩), fun b n m => ?_⟩
      · rw [upd_ne (Ne.symm npt)]
        exact upd_same
      · rw [q] at z
        cases z
        exact upd_same
      · rw [upd_ne m, upd_ne n]
  obtain ⟨F1, k1, k2, k3, k4, k5, k6, k7⟩ := key
  refine ⟨F1, t, k1, k2, k3, ⟨p, dx, vs, rfl, k4, h5.frozen k1 k5⟩, fun F2 H2 g => ?_⟩
  have cg : ChgAt F2 p t := fun b hb u q => by
    rcases hb with rfl | rfl
    · rw [g.f.go k4] at q
      cases q
      trivial
    · rcases h2 with rfl | ⟨xs, z⟩
      · rw [g.f.go k4] at q
        cases q
        trivial
      · rw [g.f.go (k5 xs z)] at q
        cases q
        trivial
  have Hne : ∀ b, b = p ∨ b = t → H b ≠ none := fun b hb => by
    rcases hb with rfl | rfl
    · rw [h1]; simp
    · rcases h2 with rfl | ⟨xs, z⟩
      · rw [h1]; simp
      · rw [z]; simp
  have Fn : ∀ b, b = p ∨ b = t → F b = none := fun b hb => by
    rcases hb with rfl | rfl
    · exact o.fp
    · exact h3
  have G : Grow T F H (less F2 p t) H2 := ⟨fun a u q => by
    unfold less
    rw [if_neg (fun z => by rw [Fn a z] at q; cases q)]
    exact (k1.trans g.f) a u q, fun a u q => g.ex a u (less_at q), g.h, fun a q n => by
    unfold less
    by_cases z : a = p ∨ a = t
    · exact if_pos z
    · rw [if_neg z]
      refine g.own a ?_ n
      rw [k7 a (fun y => z (.inl y)) (fun y => z (.inr y))]
      exact q, g.tab, g.free⟩
  exact ⟨G, o.grow G, fun d v n q => noL_less cg d v n q, fun ds xs n q => noLs_less cg ds xs n q⟩
end
/-! ### the judgement for a method's body: slot 0 is the object, changed by it -/
structure ObS (T : List NTab) (K : Frag) (C : Addr) (F0 H0 : Hp) (γ : Gm) (fs : Fds) (p : Addr) (σ : L2.St) (F H : Hp) : Prop where
  e : ObE T K C F0 H0 fs p F H
  s : St0 T γ σ F H
  self : σ[0]? = some (some (.ref p))
  own : noOwn γ = true
structure OPo where
  nx : Gm → Fds → Prop
  rt : Fds → PyData → Prop
def tOJ (K : Frag) (c : Cfg) (C p : Addr) (γ : Gm) (fs : Fds) (po : OPo) : TS := fun D σ H => ∃ F0 H0 F, ObS c.T K C F0 H0 γ fs p σ F H ∧
  (∀ γ' fs' σ' F' H', po.nx γ' fs' → ObS c.T K C F0 H0 γ' fs' p σ' F' H' → D.nx σ' H') ∧ (∀ fs' d v F' H', po.rt fs' d → ObE c.T K C F0 H0 fs' p F' H' → Dq K F' d v → D.rt v H')
abbrev OJ (X : Cx) (c : Cfg) (C p : Addr) (γ : Gm) (fs : Fds) (st : Stmt) (po : OPo) : Prop := PS X st (tOJ X.K c C p γ fs po)
abbrev OJs (X : Cx) (c : Cfg) (C p : Addr) (γ : Gm) (fs : Fds) (st : List Stmt) (po : OPo) : Prop := PSs X st (tOJ X.K c C p γ fs po)
/-- the environment while the object is frozen -/
def frG (K : Frag) (C : Addr) (γ : Gm) (fs : Fds) : Gm := γ.set 0 (.sh (obj C (fsT K fs)))
section
variable {T : List NTab} {K : Frag} {C p : Addr} {F0 H0 F H : Hp} {γ : Gm} {fs : Fds} {σ : L2.St}
theorem ObS.grow {F2 H2 : Hp} (s : ObS T K C F0 H0 γ fs p σ F H) (g : Grow T F H F2 H2) : ObS T K C F0 H0 γ fs p σ F2 H2 := ⟨s.e.grow g, s.s.grow g, s.self, s.own⟩
theorem ObS.st {F1 : Hp} (s : ObS T K C F0 H0 γ fs p σ F H) (e : Ex F F1) (e1 : Ex F1 H) (h : (obj C (fsT K fs)).p (.ref p) F1) : St0 T (frG K C γ fs) σ F1 H := by
  refine ⟨e1, ?_, s.s.tab⟩
  have q := (s.s.env.mono e).set (i := 0) (P := obj C (fsT K fs)) (v := .ref p) h
  rwa [set_same s.self] at q
theorem ObS.set (s : ObS T K C F0 H0 γ fs p σ F H) {P : Ty} {v : V} (i : Nat) (hi : i ≠ 0) (q : P.p v F) : ObS T K C F0 H0 (γ.set i (.sh P)) fs p (σ.set i (some v)) F H :=
  ⟨s.e, ⟨s.s.ex, s.s.env.set q, s.s.tab⟩, by rw [List.getElem?_set_ne hi]; exact s.self, List.all_eq_true.mpr fun x hx => by
    rcases List.mem_or_eq_of_mem_set hx with z | rfl
    · exact List.all_eq_true.mp s.own x z
    · rfl⟩
end
section
variable {X : Cx} {c : Cfg} {C p : Addr} {γ : Gm} {fs : Fds} {po : OPo} {P : Ty} {pos pos' q1 q2 q3 : Pos} {e test iter tg : Expr} {st : Stmt} {sts body A B : List Stmt} {x f : Str} {k : Bool}
theorem oj_nil (h : po.nx γ fs) : OJs X c C p γ fs [] po := PSs.imp pss_nil fun D σ H ⟨F0, H0, F, s, h1, _⟩ => h1 γ fs σ F H h s
theorem oj_any {u : TS} (hu : ∀ D σ H, u D σ H → ∃ γ fs po, OJs X c C p γ fs sts po ∧ tOJ X.K c C p γ fs po D σ H) : PSs X sts u := ⟨fun pins s σ H D I q => by
  obtain ⟨γ, fs, po, h1, h2⟩ := hu D σ H q
  exact h1.run pins s σ H D I h2⟩
theorem oj_cons (h : OJ X c C p γ fs st { po with nx := fun γ' fs' => OJs X c C p γ' fs' sts po }) : OJs X c C p γ fs (st :: sts) po := by
  refine PSs.imp (pss_cons h (oj_any (u := fun D σ H => ∃ γ fs po, OJs X c C p γ fs sts po ∧ tOJ X.K c C p γ fs po D σ H) fun _ _ _ q => q)) fun D σ H ⟨F0, H0, F, s, h1, h2⟩ => ?_
  exact ⟨F0, H0, F, s, fun γ' fs' σ' F' H' hn s' => ⟨γ', fs', po, hn, F0, H0, F', s', h1, h2⟩, h2⟩
theorem oj_last (h : OJ X c C p γ fs st po) : OJs X c C p γ fs [st] po := pss_one h
theorem oj_if (ht : EvT X c.T (frG X.K C γ fs) test k) (hA : k = true → OJs X c C p γ fs A po) (hB : k = false → OJs X c C p γ fs B po) : OJ X c C p γ fs (.If test A B pos) po := by
  have nb : ∀ sts, PSs X sts tNever := fun sts => pss_never
  cases k with
  | true =>
    refine PS.imp (ps_if ht (hA rfl) (nb B)) fun D σ H ⟨F0, H0, F, s, h1⟩ => ?_
    obtain ⟨F1, t, k1, k2, _, k4, k5⟩ := s.e.freeze
    refine ⟨F1, s.st k1 k2 k4, fun F2 H2 g => ?_⟩
    show (if true = true then _ else _)
    rw [if_pos rfl]
    exact ⟨F0, H0, _, s.grow (k5 F2 H2 g).1, h1⟩
  | false =>
    refine PS.imp (ps_if ht (nb A) (hB rfl)) fun D σ H ⟨F0, H0, F, s, h1⟩ => ?_
    obtain ⟨F1, t, k1, k2, _, k4, k5⟩ := s.e.freeze
    refine ⟨F1, s.st k1 k2 k4, fun F2 H2 g => ?_⟩
    show (if false = true then _ else _)
    rw [if_neg Bool.false_ne_true]
    exact ⟨F0, H0, _, s.grow (k5 F2 H2 g).1, h1⟩
theorem oj_set (i : Nat) {d : PyData} (he : Ev X c.T (frG X.K C γ fs) e (sh X.K d)) (hd : noL d = true) (h : po.nx (γ.set i (.sh (sh X.K d))) fs) (hN : X.N.Nodup) (hi0 : i ≠ 0 := by decide) (hi : X.N[i]? = some x := by rfl) (hx : Loc X.env.scope x := by first | exact Or.inl rfl | exact Or.inr rfl) (hs : swapsWith e (some (.Name x pos')) pos.line X.env = pure false := by rfl)
    (hf : X.fn x = true ∨ X.env.scope.names.lookup x = some .local := by first | exact .inl rfl | exact .inr rfl) : OJ X c C p γ fs (.Assign [.Name x pos'] e pos) po :=
  PS.imp (ps_set hN hi hx he hs hf) fun D σ H ⟨F0, H0, F, s, h1, _⟩ => by
    obtain ⟨F1, t, k1, k2, _, k4, k5⟩ := s.e.freeze
    refine ⟨F1, s.st k1 k2 k4, fun v F2 H2 g q => ?_⟩
    obtain ⟨g2, _, n, _⟩ := k5 F2 H2 g
    exact h1 _ _ _ _ H2 h ((s.grow g2).set (P := sh X.K d) i hi0 (n d v hd q))
/-- x = a new list of data -/
theorem oj_setL (i : Nat) {ds : List PyData} (he : EvN X c.T (frG X.K C γ fs) e ds) (hd : noLs ds = true) (h : po.nx (γ.set i (.sh (sh X.K (.list ds)))) fs) (hN : X.N.Nodup) (hi0 : i ≠ 0 := by decide) (hi : X.N[i]? = some x := by rfl) (hx : Loc X.env.scope x := by first | exact Or.inl rfl | exact Or.inr rfl) (hs : swapsWith e (some (.Name x pos')) pos.line X.env = pure false := by rfl)
    (hf : X.fn x = true ∨ X.env.scope.names.lookup x = some .local := by first | exact .inl rfl | exact .inr rfl) : OJ X c C p γ fs (.Assign [.Name x pos'] e pos) po :=
  PS.imp (ps_set hN hi hx he hs hf) fun D σ H ⟨F0, H0, F, s, h1, _⟩ => by
    obtain ⟨F1, t, k1, k2, _, k4, k5⟩ := s.e.freeze
    refine ⟨F1, s.st k1 k2 k4, fun a xs F2 H2 g q1 q2 q3 q4 => ?_⟩
    obtain ⟨g2, _, _, n⟩ := k5 F2 H2 g
    have l0 : less F2 p t a = none := by
      unfold less
      split
      · rfl
      · exact q2
    have g3 := g2.freeze q1 l0 q3
    exact h1 _ _ _ _ H2 h ((s.grow g3).set (P := sh X.K (.list ds)) i hi0 ⟨a, xs, rfl, upd_same, DqAll.mono (Ex.new l0) _ _ (n ds xs hd q4)⟩)
theorem oj_ret {d : PyData} (he : Ev X c.T (frG X.K C γ fs) e (sh X.K d)) (hd : noL d = true) (h : po.rt fs d) : OJ X c C p γ fs (.Return (some e) pos) po :=
  PS.imp (ps_ret he) fun D σ H ⟨F0, H0, F, s, _, h2⟩ => by
    obtain ⟨F1, t, k1, k2, _, k4, k5⟩ := s.e.freeze
    refine ⟨F1, s.st k1 k2 k4, fun v F2 H2 g q => ?_⟩
    obtain ⟨g2, _, n, _⟩ := k5 F2 H2 g
    exact h2 fs d v _ H2 h (s.e.grow g2) (n d v hd q)
theorem oj_retN (h : po.rt fs .none) : OJ X c C p γ fs (.Return none pos) po := PS.imp ps_retN fun D σ H ⟨F0, H0, F, s, _, h2⟩ => h2 fs .none .non F H h s.e rfl
theorem ObS.field {T : List NTab} {K : Frag} {C p : Addr} {F0 H0 F H : Hp} {γ : Gm} {fs : Fds} {σ : L2.St} {f : Str} {P : Ty} {v : V} (s : ObS T K C F0 H0 γ fs p σ F H) (q : P.p v F) : ∃ dx vs, H p = some (.ins C dx vs) ∧ vs.length = fs.length ∧ ObS T K C F0 H0 γ (putFd f (.ty P) fs) p σ F (upd H p (.ins C dx (putF f v vs))) := by
  obtain ⟨dx, vs, t, h1, h2, h3, h4, h5⟩ := s.e.ob
  refine ⟨dx, vs, h1, h5.length, ⟨s.e.g.mut s.e.h0 s.e.fp h1 trivial, s.e.h0, s.e.fp, dx, _, t, upd_same, ?_, h3, h4, ?_⟩, ⟨fun a u z => by rw [upd_ne (ne_of_none z s.e.fp)]; exact s.s.ex a u z, s.s.env, tabs_upd h1 trivial s.s.tab⟩, s.self, s.own⟩
  · rcases h2 with rfl | ⟨xs, z⟩
    · exact .inl rfl
    · exact .inr ⟨xs, by rw [upd_ne (fun y => by rw [y, h1] at z; cases z)]; exact z⟩
  · refine FdsOk.put (x := .ty P) q (h5.mono (Ex.refl _) fun xs z => ?_)
    rw [upd_ne (fun y => by rw [y, h1] at z; cases z)]
    exact z
/-- self.f = e -/
theorem oj_fld {d : PyData} {i : Nat} (hc : Cls X.K C) (hn : NoAttr X.K C f) (hl : Nat.ble fs.length 900 = true) (he : Ev X c.T (frG X.K C γ fs) e (sh X.K d)) (hd : noL d = true) (h : po.nx γ (putFd f (.ty (sh X.K d)) fs)) (hv : PE X (.Name x q1) (tVar 0) := by exact pv 0)
    (hs : swapsWith e (some (.Attribute (.Name x q1) f q2)) pos.line X.env = pure false := by rfl) : OJ X c C p γ fs (.Assign [.Attribute (.Name x q1) f q2] e pos) po :=
  PS.imp (ps_fld hv he hs) fun D σ H ⟨F0, H0, F, s, h1, _⟩ => by
    obtain ⟨F1, t, k1, k2, _, k4, k5⟩ := s.e.freeze
    refine ⟨F1, s.st k1 k2 k4, fun v F2 H2 g q => ?_⟩
    obtain ⟨g2, _, n, _⟩ := k5 F2 H2 g
    obtain ⟨dx, vs, r1, r2, r3⟩ := (s.grow g2).field (f := f) (P := sh X.K d) (n d v hd q)
    exact ⟨_, s.self, p, C, dx, vs, rfl, r1, hc, hn, by rw [r2]; exact Nat.lt_of_le_of_lt (Nat.le_of_ble_eq_true hl) (by decide), h1 _ _ _ _ _ h r3⟩
/-- self.f = e, e known without the object -/
theorem oj_fldT (hc : Cls X.K C) (hn : NoAttr X.K C f) (hl : Nat.ble fs.length 900 = true) (he : Ev X c.T γ e P) (h : po.nx γ (putFd f (.ty P) fs)) (hv : PE X (.Name x q1) (tVar 0) := by exact pv 0)
    (hs : swapsWith e (some (.Attribute (.Name x q1) f q2)) pos.line X.env = pure false := by rfl) : OJ X c C p γ fs (.Assign [.Attribute (.Name x q1) f q2] e pos) po :=
  PS.imp (ps_fld hv he hs) fun D σ H ⟨F0, H0, F, s, h1, _⟩ => ⟨F, s.s, fun v F2 H2 g q => by
    obtain ⟨dx, vs, r1, r2, r3⟩ := (s.grow g).field (f := f) (P := P) q
    exact ⟨_, s.self, p, C, dx, vs, rfl, r1, hc, hn, by rw [r2]; exact Nat.lt_of_le_of_lt (Nat.le_of_ble_eq_true hl) (by decide), h1 _ _ _ _ _ h r3⟩⟩
/-- self.f += e -/
theorem oj_aug {n m : Int} (hc : Cls X.K C) (hn : NoAttr X.K C f) (hl : Nat.ble fs.length 900 = true) (hk : fs.lookup f = some (.ty (sh X.K (.int n)))) (he : Ev X c.T (frG X.K C γ fs) e (sh X.K (.int m))) (h : po.nx γ (putFd f (.ty (sh X.K (.int (n + m)))) fs)) (hv : PE X (.Name x q1) (tVar 0) := by exact pv 0) : OJ X c C p γ fs (.AugAssign (.Attribute (.Name x q1) f q2) .Add e pos) po :=
  PS.imp (ps_fldaug hv he in_add) fun D σ H ⟨F0, H0, F, s, h1, _⟩ => by
    obtain ⟨dx, vs, t, r1, r2, r3, r4, r5⟩ := s.e.ob
    obtain ⟨u, r6, r7⟩ := r5.look hk
    have r7 : u = V.int n := r7
    subst r7
    refine ⟨_, s.self, p, C, dx, vs, _, rfl, r1, hc, hn, r6, ?_⟩
    obtain ⟨F1, t', k1, k2, _, k4, k5⟩ := s.e.freeze
    refine ⟨F1, s.st k1 k2 k4, fun v F2 H2 g q => ⟨n, m, rfl, q, ?_⟩⟩
    obtain ⟨g2, _, _, _⟩ := k5 F2 H2 g
    obtain ⟨dx', vs', w1, w2, w3⟩ := (s.grow g2).field (f := f) (P := sh X.K (.int (n + m))) (v := .int (n + m)) rfl
    exact ⟨dx', vs', w1, by rw [w2]; exact Nat.lt_of_le_of_lt (Nat.le_of_ble_eq_true hl) (by decide), h1 _ _ _ _ _ h w3⟩
end
end Tw
namespace Tw
open PySem PySem.Spec PyProof.Rows L2
/-- every field but f is data -/
def olOnly (f : Str) : Fds → Bool
  | [] => true
  | (g, .ty _) :: r => olOnly f r
  | (g, .ol _) :: r => decide (g = f) && olOnly f r
theorem FdsOk.putOl {K : Frag} {F H H2 : Hp} {t t2 : Addr} {f : Str} {ds : List PyData} {v : V} (h : FdOk K F H2 t2 (.ol ds) v) : ∀ {fs : Fds} {vs : List (Str × V)}, olOnly f fs = true → (fs.map (·.1)).Nodup → FdsOk K F H t fs vs → FdsOk K F H2 t2 (putFd f (.ol ds) fs) (putF f v vs)
  | [], _, _, _, q => by
    have q : _ = [] := q
    rw [q]
    exact ⟨v, [], rfl, h, rfl⟩
  | (g, y) :: fs, _, ho, nd, ⟨u, r, q1, q2, q3⟩ => by
    subst q1
    obtain ⟨n1, n2⟩ := List.nodup_cons.mp nd
    show FdsOk K F H2 t2 (if g = f then (g, .ol ds) :: fs else (g, y) :: putFd f (.ol ds) fs) (if g = f then (g, v) :: r else (g, u) :: putF f v r)
    have tl : olOnly f fs = true := by
      cases y with
      | ty P => exact ho
      | ol es => exact (Bool.and_eq_true_iff.mp ho).2
    by_cases c : g = f
    · rw [if_pos c, if_pos c]
      refine ⟨v, r, rfl, h, ?_⟩
      -- the rest is data
      have rest : ∀ {fs : Fds} {r : List (Str × V)}, olOnly f fs = true → f ∉ fs.map (·.1) → FdsOk K F H t fs r → FdsOk K F H2 t2 fs r := by
        intro fs
        induction fs with
        | nil => intro r _ _ q; exact q
        | cons a fs ih =>
          intro r ho hn q
          obtain ⟨g', y'⟩ := a
          obtain ⟨u', r', e1, e2, e3⟩ := q
          cases y' with
          | ty P => exact ⟨u', r', e1, e2, ih ho (fun z => hn (List.mem_cons_of_mem _ z)) e3⟩
          | ol es => exact absurd (of_decide_eq_true (Bool.and_eq_true_iff.mp ho).1) (fun z => hn (by rw [← z]; exact List.mem_cons_self))
      exact rest tl (by rw [← c]; exact n1) q3
    · rw [if_neg c, if_neg c]
      refine ⟨u, _, rfl, ?_, FdsOk.putOl h tl n2 q3⟩
      cases y with
      | ty P => exact q2
      | ol es => exact absurd (of_decide_eq_true (Bool.and_eq_true_iff.mp ho).1) c
theorem DqAll.dropLast {K : Frag} {F : Hp} {ds : List PyData} {xs : List V} (h : DqAll K F ds xs) : DqAll K F ds.dropLast xs.dropLast := by
  rw [List.dropLast_eq_take, List.dropLast_eq_take, h.length]
  exact h.take _
section
variable {X : Cx} {c : Cfg} {C p : Addr} {γ : Gm} {fs : Fds} {po : OPo} {P : Ty} {pos pos' q1 q2 q3 q4 : Pos} {e test iter tg : Expr} {es : List Expr} {st : Stmt} {sts body A B : List Stmt} {x f : Str} {k : Bool}
/-- self.f = a new list -/
theorem oj_olset {ds : List PyData} (hc : Cls X.K C) (hn : NoAttr X.K C f) (hl : Nat.ble fs.length 900 = true) (ho : olOnly f fs = true) (nd : (fs.map (·.1)).Nodup) (he : EvN X c.T (frG X.K C γ fs) e ds) (hd : noLs ds = true) (h : po.nx γ (putFd f (.ol ds) fs)) (hv : PE X (.Name x q1) (tVar 0) := by exact pv 0)
    (hs : swapsWith e (some (.Attribute (.Name x q1) f q2)) pos.line X.env = pure false := by rfl) : OJ X c C p γ fs (.Assign [.Attribute (.Name x q1) f q2] e pos) po :=
  PS.imp (ps_fld hv he hs) fun D σ H ⟨F0, H0, F, s, h1, _⟩ => by
    obtain ⟨F1, t, k1, k2, _, k4, k5⟩ := s.e.freeze
    refine ⟨F1, s.st k1 k2 k4, fun a xs F2 H2 g r1 r2 r3 r4 => ?_⟩
    obtain ⟨g2, _, _, n⟩ := k5 F2 H2 g
    have l0 : less F2 p t a = none := by
      unfold less
      split
      · rfl
      · exact r2
    have s2 := s.grow g2
    obtain ⟨dx, vs, t', w1, w2, w3, w4, w5⟩ := s2.e.ob
    have ap : a ≠ p := fun z => by
      obtain ⟨dx0, vs0, _, y1, _⟩ := s.e.ob
      rw [z, y1] at r1
      cases r1
    have ne : ∀ {b u}, H2 b = some u → b ≠ p → upd H2 p (.ins C dx (putF f (.ref a) vs)) b = some u := fun {b u} q z => by rw [upd_ne z]; exact q
    refine ⟨_, s.self, p, C, dx, vs, rfl, w1, hc, hn, by rw [w5.length]; exact Nat.lt_of_le_of_lt (Nat.le_of_ble_eq_true hl) (by decide), h1 _ _ _ _ _ h ⟨⟨s2.e.g.mut s.e.h0 s2.e.fp w1 trivial, s.e.h0, s2.e.fp, dx, _, a, upd_same, .inr ⟨xs, ne r3 ap⟩, l0, s.e.g.free _ r1, ?_⟩, ⟨fun b u z => by rw [upd_ne (ne_of_none z s2.e.fp)]; exact s2.s.ex b u z, s2.s.env, tabs_upd w1 trivial s2.s.tab⟩, s2.self, s2.own⟩⟩
    exact FdsOk.putOl (H := H2) (t := t') ⟨rfl, xs, ne r3 ap, n ds xs hd r4⟩ ho nd w5
theorem ol_at {T : List NTab} {K : Frag} {F0 H0 F H : Hp} {ds : List PyData} (o : ObE T K C F0 H0 fs p F H) (hk : fs.lookup f = some (.ol ds)) : ∃ dx vs t xs, H p = some (.ins C dx vs) ∧ vs.lookup f = some (.ref t) ∧ H t = some (.lst xs) ∧ F t = none ∧ H0 t = none ∧ DqAll K F ds xs ∧ FdsOk K F H t fs vs := by
  obtain ⟨dx, vs, t, r1, r2, r3, r4, r5⟩ := o.ob
  obtain ⟨v, r6, r7, xs, r8, r9⟩ := r5.look hk
  subst r7
  exact ⟨dx, vs, t, xs, r1, r6, r8, r3, r4, r9, r5⟩
/-- the object's own list changes -/
theorem ol_change {T : List NTab} {K : Frag} {F0 H0 F H : Hp} {ds es : List PyData} {σ : L2.St} {t : Addr} {xs ys : List V} {dx : Addr} {vs : List (Str × V)} (s : ObS T K C F0 H0 γ fs p σ F H) (ho : olOnly f fs = true) (nd : (fs.map (·.1)).Nodup) (hk : fs.lookup f = some (.ol ds)) (hp : H p = some (.ins C dx vs)) (hv : vs.lookup f = some (.ref t)) (ht : H t = some (.lst xs)) (hF : F t = none) (h0 : H0 t = none)
    (h5 : FdsOk K F H t fs vs) (hy : DqAll K F es ys) : ObS T K C F0 H0 γ (putFd f (.ol es) fs) p σ F (upd H t (.lst ys)) := by
  have pt : p ≠ t := fun z => by
    rw [z, ht] at hp
    cases hp
  refine ⟨⟨s.e.g.mut h0 hF ht trivial, s.e.h0, s.e.fp, dx, vs, t, by rw [upd_ne pt]; exact hp, .inr ⟨ys, upd_same⟩, hF, h0, ?_⟩, ⟨fun b u z => by rw [upd_ne (ne_of_none z hF)]; exact s.s.ex b u z, s.s.env, tabs_upd ht trivial s.s.tab⟩, s.self, s.own⟩
  have e : putF f (.ref t) vs = vs := by
    have aux : ∀ {vs : List (Str × V)} {v : V}, vs.lookup f = some v → putF f v vs = vs := by
      intro vs
      induction vs with
      | nil => intro v h; simp at h
      | cons a r ih =>
        obtain ⟨g, u⟩ := a
        intro v h
        rw [List.lookup_cons] at h
        show (if g = f then (g, v) :: r else (g, u) :: putF f v r) = (g, u) :: r
        by_cases z : g = f
        · have : (f == g) = true := by rw [z]; exact beq_self_eq_true f
          rw [this] at h
          cases h
          rw [if_pos z]
        · have : (f == g) = false := beq_eq_false_iff_ne.mpr fun y => z y.symm
          rw [this] at h
          rw [if_neg z, ih h]
    exact aux hv
  rw [← e]
  exact FdsOk.putOl (H := H) (t := t) ⟨rfl, ys, upd_same, hy⟩ ho nd h5
/-- self.f.append(e) -/
theorem oj_append {ds : List PyData} {d : PyData} (hc : Cls X.K C) (hn : NoAttr X.K C f) (ho : olOnly f fs = true) (nd : (fs.map (·.1)).Nodup) (hk : fs.lookup f = some (.ol ds)) (hl : ds.length < sizeLine) (he : Ev X c.T (frG X.K C γ fs) e (sh X.K d)) (hd : noL d = true) (h : po.nx γ (putFd f (.ol (ds ++ [d])) fs))
    (hbm : ∀ t, PA X [e] t → PE X (.Call (.Attribute (.Attribute (.Name x q1) f q2) "append" q3) [e] [] q4) (tBM X.K "list" rAppend (tFld X.K (tVar 0) f) t) := by exact fun t ha => pe_bm PySem.F.plainAttrs_list PySem.F.slot_list_append PySem.F.type_list_append mt_append (pe_fld (pv 0) rfl) ha)
    (hs : starEach [e] X.env = (false, eval e X.env) :: starEach [] X.env := by rfl)
    (hS : swapsWith (.Call (.Attribute (.Attribute (.Name x q1) f q2) "append" q3) [e] [] q4) none pos.line X.env = pure false := by rfl) : OJ X c C p γ fs (.Expr (.Call (.Attribute (.Attribute (.Name x q1) f q2) "append" q3) [e] [] q4) pos) po :=
  PS.imp (ps_expr (hbm _ (pa_cons he pa_nil hs)) hS) fun D σ H ⟨F0, H0, F, s, h1, _⟩ => by
    obtain ⟨dx, vs, t, xs, w1, w2, w3, w4, w5, w6, w7⟩ := ol_at s.e hk
    refine ⟨_, s.self, p, C, dx, vs, _, rfl, w1, hc, hn, w2, .inl ⟨rfl, xs, SqL.of w3⟩, ?_⟩
    obtain ⟨F1, t', k1, k2, _, k4, k5⟩ := s.e.freeze
    refine ⟨F1, s.st k1 k2 k4, fun v F2 H2 g q => ?_⟩
    obtain ⟨g2, _, n, _⟩ := k5 F2 H2 g
    have s2 := s.grow g2
    have v1 : H2 p = some (.ins C dx vs) := g2.h p _ w1 (fun ps z => by cases z)
    have v3 : H2 t = some (.lst xs) := g2.h t _ w3 (fun ps z => by cases z)
    have v4 := g2.own t w4 (by rw [w3]; simp)
    have v6 := DqAll.mono g2.f ds xs w6
    exact ⟨t, xs, v, rfl, rfl, v3, by rw [w6.length]; exact hl, h1 _ _ _ _ _ h (ol_change s2 ho nd hk v1 w2 v3 v4 w5 (w7.mono g2.f fun ys z => g2.h t _ z (fun ps y => by cases y)) (v6.append (DqAll.one (n d v hd q))))⟩
/-- self.f.pop() -/
theorem oj_pop {ds : List PyData} (hc : Cls X.K C) (hn : NoAttr X.K C f) (ho : olOnly f fs = true) (nd : (fs.map (·.1)).Nodup) (hk : fs.lookup f = some (.ol ds)) (hl : 0 < ds.length) (h : po.nx γ (putFd f (.ol ds.dropLast) fs))
    (hbm : PE X (.Call (.Attribute (.Attribute (.Name x q1) f q2) "pop" q3) [] [] q4) (tBM0 X.K "list" rPop (tFld X.K (tVar 0) f)) := by exact pe_bm0 PySem.F.plainAttrs_list PySem.F.slot_list_pop PySem.F.type_list_pop mt_pop (pe_fld (pv 0) rfl))
    (hS : swapsWith (.Call (.Attribute (.Attribute (.Name x q1) f q2) "pop" q3) [] [] q4) none pos.line X.env = pure false := by rfl) : OJ X c C p γ fs (.Expr (.Call (.Attribute (.Attribute (.Name x q1) f q2) "pop" q3) [] [] q4) pos) po :=
  PS.imp (ps_expr hbm hS) fun D σ H ⟨F0, H0, F, s, h1, _⟩ => by
    obtain ⟨dx, vs, t, xs, w1, w2, w3, w4, w5, w6, w7⟩ := ol_at s.e hk
    have lx : 0 < xs.length := by rw [w6.length]; exact hl
    exact ⟨_, s.self, p, C, dx, vs, _, rfl, w1, hc, hn, w2, .inl ⟨rfl, xs, SqL.of w3⟩, t, xs, xs[xs.length - 1], rfl, rfl, w3, by simp, h1 _ _ _ _ _ h (ol_change s ho nd hk w1 w2 w3 w4 w5 w7 w6.dropLast)⟩
end
/-! ### promises of methods that change their object -/
structure OPr where
  pre : Prop
  fs : Fds
  args : List Ty
  fs' : Fds
  out : PyData
def spO (T : List NTab) (K : Frag) (C : Addr) {ι : Type} (S : ι → OPr) : Sp := fun vs H Q _ => ∃ i F Hm p rest, vs = .ref p :: rest ∧ (S i).pre ∧ ObE T K C F Hm (S i).fs p F H ∧ NdefX.TabsN T H ∧ AllP (S i).args rest F ∧
  ∀ v F2 H2, ObE T K C F Hm (S i).fs' p F2 H2 → Dq K F2 (S i).out v → Q v H2
section
variable {P : Program} {w : World} {K : Frag} {mg : Str → Option Value} {base : Heap} {T : List NTab} {C CR : Addr} {ι : Type} {S : ι → OPr}
theorem def_okO {x qual : Str} {st : Stmt} {f : Addr} {fd : FuncData} {N ps : List Str} {k : Nat} (F : Fun K x qual st f fd) (Sc : FnScope N ps (defScope st)) (hlen : ∀ i, (S i).args.length + 1 = ps.length)
    (body : ∀ (i : ι), (S i).pre → ∀ (p : Addr) (cdv : Value) (A : Around) (outer : List PySem.Env) (s : Shared) (H : Hp) (E : XK), Room k (A.deeper (envOfC qual (defScope st) s.heap.objs.size f cdv)) →
      OJs (cxOf CX0 P w K mg base N qual (defScope st) f cdv A outer s H E).nox ⟨T, CR, E⟩ C p (.un :: startG (S i).args (N.length - 1)) (S i).fs (defBody st) ⟨fun _ fs => fs = (S i).fs' ∧ (S i).out = .none, fun fs d => fs = (S i).fs' ∧ d = (S i).out⟩) : FnOk P w K mg base CX0 (k + 1) f fd ps (spO T K C S) := by
  have hl0 : ps.length ≤ N.length := by
    rw [← Sc.pre, List.length_take]
    omega
  refine F.ok Sc (fun vs H Q E ⟨i, F, Hm, p, rest, e, _, _, _, h, _⟩ => by rw [e, List.length_cons, h.length, hlen]) fun cdv A outer s H vs Q E hr ⟨i, F1, Hm, p, rest, e, hp, o, t, h, hq⟩ => ⟨_, body i hp p cdv A outer s H E hr, ?_⟩
  subst e
  have lr : rest.length + 1 ≤ N.length := by
    rw [h.length, hlen]
    exact hl0
  refine ⟨F1, Hm, F1, ⟨o, ⟨o.ex, ?_, t⟩, rfl, ?_⟩, fun γ' fs' σ' F' H' ⟨e1, e2⟩ s' => ?_, fun fs' d v F' H' ⟨e1, e2⟩ o' q => ?_⟩
  · have q := (start_st (T := T) (K := K) (N := N.drop 1) o.ex t h (by rw [List.length_drop]; omega)).s.env
    refine ⟨?_, fun m R hi => ?_⟩
    · have := q.1
      unfold L2.start startG at *
      simp only [List.length_append, List.length_map, List.length_replicate, List.length_cons, List.length_drop] at this ⊢
      omega
    · cases m with
      | zero => cases hi
      | succ m =>
        have hi' : (startG (S i).args (N.drop 1).length)[m]? = some (.sh R) := by
          rw [List.length_drop]
          exact hi
        obtain ⟨v, h1, h2⟩ := q.2 m R hi'
        refine ⟨v, ?_, h2⟩
        rw [← h1]
        show (L2.start N (.ref p :: rest))[m + 1]? = (L2.start (N.drop 1) rest)[m]?
        unfold L2.start
        rw [List.map_cons, List.cons_append, List.getElem?_cons_succ, List.length_cons, List.length_drop]
        congr 3
        omega
  · refine List.all_eq_true.mpr fun x hx => ?_
    rcases List.mem_cons.mp hx with rfl | hx
    · rfl
    · unfold startG at hx
      rcases List.mem_append.mp hx with hx | hx
      · obtain ⟨_, _, rfl⟩ := List.mem_map.mp hx
        rfl
      · rw [(List.mem_replicate.mp hx).2]
  · subst e1
    exact hq .non F' H' s'.e (by rw [e2]; rfl)
  · subst e1 e2
    exact hq v F' H' o' q
end
section
variable {X : Cx} {c : Cfg} {T : List NTab} {C p : Addr} {γ : Gm} {fs : Fds} {po : OPo} {P : Ty} {pos pos' q1 q2 q3 q4 : Pos} {e test iter tg : Expr} {es : List Expr} {st : Stmt} {sts body A B : List Stmt} {x f : Str} {k : Bool} {ι : Type} {S : ι → OPr} {ps : List Str} {j n : Nat}
/-- C(..): a new object, frozen -/
theorem ev_make {kx : Nat} {nm : Str} (M : ∃ fi fd, Mk X.K C fi ∧ FnOk X.prog X.w X.K X.mg X.base CX0 kx fi fd ps (spO T X.K C S) ∧ L2.Binds X.K fd ps []) (hm : X.mg nm = some (.ref C)) (hr : Room j X.A) (hk : kx + 1 ≤ j) (i : ι) (hp : (S i).pre) (h0 : (S i).fs = []) (ho : (S i).out = .none) (ha : EvA X T γ (e :: es) (S i).args)
    (hg : Gl X nm := by rfl) (hdb : (nm == ("__debug__" : Str)) = false := by decide) (he : starEach (e :: es) X.env = (false, eval e X.env) :: starEach es X.env := by rfl) (hpl : (backTo pos (starEach es X.env)).any (·.1) = false := by rfl) : Ev X T γ (.Call (.Name nm q1) (e :: es) [] pos) (obj C (fsT X.K (S i).fs')) := by
  obtain ⟨fi, fd, m1, m2, m3⟩ := M
  refine PE.imp (pe_make m1 m2 (hr.mono hk) hg hm m3 .nil pass0 ha hdb he hpl) fun σ H Q ⟨F, s, q⟩ => ⟨F, s, fun vs F1 H1 g1 p1 x dx nx nd ne => ?_⟩
  show spO T X.K C S (.ref x :: (vs ++ [])) _ _ _
  rw [List.append_nil]
  have ga := Grow.raw (T := T) (o := .own x) g1.ex nd
  have nx' : upd H1 dx (.own x) x = none := by rw [upd_ne (Ne.symm ne)]; exact nx
  have gb := ga.trans (Grow.raw (T := T) (o := .ins C dx []) ga.ex nx')
  have fx : F1 x = none := g1.ex.free nx
  refine ⟨i, F1, H1, x, vs, rfl, hp, ⟨gb, nx, fx, dx, [], x, upd_same, .inl rfl, fx, nx, by rw [h0]; rfl⟩, gb.tab (g1.tab s.tab), p1, fun v F2 H2 o r => ⟨by rw [ho] at r; exact r, ?_⟩⟩
  obtain ⟨F3, t, k1, k2, k3, k4, _⟩ := o.freeze
  exact q _ F3 H2 (g1.trans k3) k4
/-- self.m(e, ..) as a statement -/
theorem oj_meth {pl : Sem Bool} (h : Mt X.prog X.w X.K X.mg X.base CX0 n C f ps (spO c.T X.K C S)) (hr : Room j X.A) (hk : n ≤ j) (i : ι) (hp : (S i).pre) (hfs : (S i).fs = fs) (hl : fs.lookup f = none) (ha : EvA X c.T γ (e :: es) (S i).args) (hn : po.nx γ (S i).fs') (hv : PE X (.Name x q1) (tVar 0) := by exact pv 0)
    (hst : starEach (e :: es) X.env = (false, eval e X.env) :: starEach es X.env := by rfl) (hpl : (backTo q3 (starEach es X.env)).any (·.1) = false := by rfl)
    (ht : eval (.Call (.Attribute (.Name x q1) f q2) (e :: es) [] q3) X.env = (do
      let ov ← eval (.Name x q1) X.env
      standAt q2.atName
      let (f, first) ← holding [ov] (getMethod ov f pl)
      callWith q3 f first (backTo q3 (starEach (e :: es) X.env)) (backToKw q3 (keywordEach [] X.env))) := by rfl)
    (hS : swapsWith (.Call (.Attribute (.Name x q1) f q2) (e :: es) [] q3) none pos.line X.env = pure false := by rfl) : OJ X c C p γ fs (.Expr (.Call (.Attribute (.Name x q1) f q2) (e :: es) [] q3) pos) po := by
  obtain ⟨g, fd, h1, h2, h3, h4⟩ := h
  refine PS.imp (ps_expr (pe_meth (pl := pl) hv h2 h3 h1 (hr.mono hk) h4 .nil pass0 ha hst hpl ht) hS) fun D σ H ⟨F0, H0, F, s, k1, _⟩ => ?_
  obtain ⟨dx, vs, t, r1, r2, r3, r4, r5⟩ := s.e.ob
  refine ⟨_, s.self, p, dx, vs, rfl, r1, r5.look_none hl, F, s.s, fun us F2 H2 g2 p2 => ?_⟩
  show spO c.T X.K C S (.ref p :: (us ++ [])) H2 _ _
  rw [List.append_nil]
  have s2 := s.grow g2
  obtain ⟨Hm, o2, conv, fr, tb⟩ := s2.e.rebase
  refine ⟨i, F2, Hm, p, us, rfl, hp, hfs ▸ o2, s2.s.tab, p2, fun v F3 H3 o3 _ => k1 _ _ _ _ H3 hn ⟨o3.back conv fr, ⟨o3.ex, s2.s.env.mono o3.g.f, ?_⟩, s2.self, s2.own⟩⟩
  exact o3.g.tab (tb s2.s.tab)
end
end Tw
namespace Tw
open PySem PySem.Spec PyProof.Rows L2
section
variable {X : Cx} {c : Cfg} {C p : Addr} {γ : Gm} {fs : Fds} {po : OPo} {pos : Pos} {iter tg : Expr} {body : List Stmt} {ds : List PyData}
def tOB (X : Cx) (c : Cfg) (C p : Addr) (body : List Stmt) : TS := fun D σ H => ∃ γ fs po, OJs X c C p γ fs body po ∧ tOJ X.K c C p γ fs po D σ H
/-- for a, b in a list of pairs -/
theorem oj_forP (i j : Nat) (hi0 : i ≠ 0) (hj0 : j ≠ 0) (hp : PassesOwn (model X.prog X.w) X.A X.env X.xe) (hc : X.calm = true) (hi : Ev X c.T γ iter (sh X.K (.list ds))) (hG : PG X tg (gPr X.K i j)) (hgood : ∀ d ∈ ds, IsPr d) (Iv : Nat → Gm → Fds → Prop) (h0 : Iv 0 γ fs)
    (hs : ∀ (k : Nat) (d : PyData) (γ' : Gm) (fs' : Fds), ds[k]? = some d → Iv k γ' fs' → OJs X c C p (ugP X.K i j d γ') fs' body { po with nx := Iv (k + 1) }) (hd : ∀ γ' fs', Iv ds.length γ' fs' → po.nx γ' fs')
    (hf : ∀ x, foldedSetIterable iter X.env x = pure x := by intro _; rfl) : OJ X c C p γ fs (.For tg iter body [] pos) po := by
  refine PS.imp (ps_for hp hc (pi_list (tg := tg) hi) hG (oj_any (u := tOB X c C p body) fun _ _ _ q => q) hf) fun D σ H ⟨F0, H0, F, s, h1, h2⟩ => ?_
  refine ⟨F, s.s, fun v F1 H1 g1 p1 => ?_⟩
  obtain ⟨a, xs, rfl, k1, k2⟩ := p1
  have s1 := s.grow g1
  obtain ⟨Hm, sb, conv, fr, _⟩ := s1.e.rebase
  refine ⟨a, rfl, ⟨xs, SqL.of (g1.ex.go k1)⟩, for_list (K := X.K) (a := a) (xs := xs) (fun i σ' H' => ∃ γ' fs' F', Iv i γ' fs' ∧ ObS c.T X.K C F1 Hm γ' fs' p σ' F' H') ⟨γ, fs, F1, h0, sb, s1.s, s1.self, s1.own⟩ (fun i σ' H' _ ⟨γ', fs', F', _, s'⟩ => SqL.of (s'.s.ex.go (s'.e.g.f.go k1))) (fun m x σ' H' hm ⟨γ', fs', F', hI, s'⟩ => ?_)
    fun σ' H' ⟨γ', fs', F', hI, s'⟩ => h1 γ' fs' σ' F' H' (hd γ' fs' (by rw [← k2.length]; exact hI)) ⟨s'.e.back conv fr, s'.s, s'.self, s'.own⟩⟩
  obtain ⟨d, hd', hx⟩ := k2.get' hm
  obtain ⟨da, db, rfl⟩ := hgood d (List.mem_of_getElem? hd')
  obtain ⟨q, ys, rfl, w1, v1, vs1, rfl, w2, v2, vs2, rfl, w3, w4⟩ := Dq.mono s'.e.g.f _ _ hx
  have w4 : vs2 = [] := w4
  subst w4
  refine ⟨q, _, rfl, s'.s.ex.tup w1, rfl, v1, _, rfl, v2, _, rfl, rfl, ?_⟩
  refine ⟨_, fs', _, hs m _ γ' fs' hd' hI, F1, Hm, F', (s'.set (P := sh X.K da) i hi0 w2).set (P := sh X.K db) j hj0 w3, fun γ'' fs'' σ'' F'' H'' hn s'' => ⟨γ'', fs'', F'', hn, s''⟩, fun fs'' d v F'' H'' hr o q => h2 fs'' d v F'' H'' hr (o.back conv fr) q⟩
end
end Tw
namespace Td
open PySem PySem.Spec PyProof.Rows L2 Tw
open Tl (NP pwin wstep norm maxL)
abbrev s_N (j : Nat) : Stmt := inClass (top 7) j
def bS (b : Bool) : Str := if b then "head" else "tail"
def turnD (e : Bool × Nat) : PyData := .tuple [.str (bS e.1), .int e.2]
def turnsL (l : List (Bool × Nat)) : List PyData := l.map turnD
def nrm (K : Frag) (CN : Addr) (o : NP) : Ty := obj CN [("skipped", sh K (.int o.sk)), ("chopped", sh K (.int o.ch)), ("turns", sh K (.list (turnsL o.turns))), ("is_empty", sh K (.bool o.emp))]
structure TxtN (K : Frag) (CN : Addr) : Prop where
  cl : Cls K CN
  nS : NoAttr K CN "skipped"
  nC : NoAttr K CN "chopped"
  nT : NoAttr K CN "turns"
  nE : NoAttr K CN "is_empty"
def lastD (o : NP) : PyData := match o.turns.getLast? with
  | none => .none
  | some t => turnD t
def natsL (l : List Nat) : List PyData := l.map fun (n : Nat) => PyData.int (n : Int)
def optN (o : Option Nat) : PyData := optD (o.map Int.ofNat)
section
variable {X : Cx} {T : List NTab} {γ : Gm} {e : Expr} {pos p : Pos} {CN : Addr} {o : NP}
theorem fS (t : TxtN X.K CN) (ho : Ev X T γ e (nrm X.K CN o)) (hb : attributeBase e "skipped" X.env (eval e X.env) = eval e X.env := by rfl) : Ev X T γ (.Attribute e "skipped" pos) (sh X.K (.int o.sk)) := ev_fld t.cl t.nS rfl ho hb
theorem fC (t : TxtN X.K CN) (ho : Ev X T γ e (nrm X.K CN o)) (hb : attributeBase e "chopped" X.env (eval e X.env) = eval e X.env := by rfl) : Ev X T γ (.Attribute e "chopped" pos) (sh X.K (.int o.ch)) := ev_fld t.cl t.nC rfl ho hb
theorem fT (t : TxtN X.K CN) (ho : Ev X T γ e (nrm X.K CN o)) (hb : attributeBase e "turns" X.env (eval e X.env) = eval e X.env := by rfl) : Ev X T γ (.Attribute e "turns" pos) (sh X.K (.list (turnsL o.turns))) := ev_fld t.cl t.nT rfl ho hb
theorem fE (t : TxtN X.K CN) (ho : Ev X T γ e (nrm X.K CN o)) (hb : attributeBase e "is_empty" X.env (eval e X.env) = eval e X.env := by rfl) : Ev X T γ (.Attribute e "is_empty" pos) (sh X.K (.bool o.emp)) := ev_fld t.cl t.nE rfl ho hb
theorem ev_maxL {js : List Nat} (hc : X.calm = true) (hm : X.mg "max" = none) (hl : 0 < js.length) (ha : Ev X T γ e (sh X.K (.list (natsL js)))) (hg : Gl X "max" := by rfl)
    (he : starEach [e] X.env = (false, eval e X.env) :: starEach [] X.env := by rfl) (hpl : (backTo pos (starEach [] X.env)).any (·.1) = false := by rfl) : Ev X T γ (.Call (.Name "max" p) [e] [] pos) (sh X.K (.int (maxL js))) :=
  ev_callB (cr_max hc) (fun vs F H Q ex q k => by
    obtain ⟨v, us, rfl, h1, h2⟩ := q
    have h2 : us = [] := h2
    subst h2
    obtain ⟨a, xs, rfl, h3, h4⟩ := h1
    have e1 : natsL js = (js.map Int.ofNat).map PyData.int := by
      unfold natsL
      rw [List.map_map]
      rfl
    rw [e1] at h4
    have e2 := DqAll.ints h4
    subst e2
    refine ⟨a, _, rfl, SqL.of (ex.go h3), by rw [List.length_map]; exact hl, fun m hm hle => k _ F H (Grow.refl ex) ?_⟩
    obtain ⟨j, hj, rfl⟩ := List.mem_map.mp hm
    show V.int _ = V.int _
    congr 1
    have := Tl.maxL_of hj (fun x hx => by
      have := hle (Int.ofNat x) (List.mem_map.mpr ⟨x, hx, rfl⟩)
      exact Int.ofNat_le.mp this)
    rw [← this]
    rfl) hm (by decide +kernel) (eva_cons ha eva_nil he) hg (by decide) (by decide) he hpl
end
theorem atI_lastD {α : Type} {l : List α} {d : α} (h : l.getLast? = some d) : atI l ((l.length : Int) - 1) = some d := by
  have hl : 0 < l.length := by
    cases l with
    | nil => simp at h
    | cons _ _ => simp
  rw [show (l.length : Int) - 1 = ((l.length - 1 : Nat) : Int) by omega]
  refine atI_nat ?_
  rw [← h, List.getLast?_eq_getElem?]
section
variable {P : Program} {w : World} {K : Frag} {mg : Str → Option Value} {base : Heap} {T : List NTab} {C CN : Addr}
def S_last (K : Frag) (CN : Addr) : NP → Pr := fun o => ⟨o.turns.length ≤ 60, [nrm K CN o], .ok (sh K (lastD o))⟩
theorem sc_last : FnScope ["self"] ["self"] (defScope (s_N 1)) := ⟨rfl, rfl, rfl, by decide +kernel, rfl, by decide +kernel, by decide +kernel⟩
theorem ok_last {f : Addr} {fd : FuncData} (F : Fun K "last" "Normal.last" (s_N 1) f fd) (X : Txt K mg) (t : TxtN K CN) : FnOk P w K mg base CX0 1 f fd ["self"] (spF T C (S_last K CN)) := by
  refine def_ok F sc_last (fun _ => rfl) fun o ho cdv A outer s H E hr => ?_
  have ho : o.turns.length ≤ 60 := ho
  refine sj_last (sj_ret (ev_if (evt_gt (ev_len true X.len (fT t (ev_var 0 rfl))) ev_int) (fun h => ?_) fun h => ?_))
  · have h : 0 < (turnsL o.turns).length := by have := of_decide_eq_true h; omega
    cases hl : o.turns.getLast? with
    | none =>
      rw [List.getLast?_eq_none_iff.mp hl] at h
      exact absurd h (Nat.lt_irrefl _)
    | some y =>
      refine Ev.cast (ev_ixL (d := turnD y) (fT t (ev_var 0 rfl)) (ev_sub (ev_len true X.len (fT t (ev_var 0 rfl))) ev_int) (atI_lastD ?_)) ?_
      · rw [turnsL, List.getLast?_map, hl]
        rfl
      · show _ = lastD o
        unfold lastD
        rw [hl]
  · have h : ¬ (0 : Int) < (turnsL o.turns).length := of_decide_eq_false h
    refine ev_non.cast ?_
    show _ = lastD o
    have : o.turns = [] := by
      cases e : o.turns with
      | nil => rfl
      | cons a r =>
        rw [e] at h
        exact absurd (by show (0 : Int) < ((turnsL (a :: r)).length : Int); rw [turnsL, List.length_map, List.length_cons]; omega) h
    unfold lastD
    rw [this]
    rfl
def S_steps (K : Frag) (CN : Addr) : NP → Pr := fun o => ⟨o.turns.length ≤ 60, [nrm K CN o], .ok (sh K (.list (stepsL o.steps)))⟩
theorem sc_steps : FnScope ["self", "found"] ["self"] (defScope (s_N 3)) := ⟨rfl, rfl, rfl, by decide +kernel, rfl, by decide +kernel, by decide +kernel⟩
theorem turns_steps : ∀ l : List (Bool × Nat), stepsL (l.map R7256f.Spec.keepStep) = turnsL l := fun l => by
  unfold stepsL turnsL
  rw [List.map_map]
  congr 1
  funext e
  obtain ⟨b, m⟩ := e
  cases b <;> rfl
theorem ok_steps {f : Addr} {fd : FuncData} (F : Fun K "steps" "Normal.steps" (s_N 3) f fd) (X : Txt K mg) (t : TxtN K CN) : FnOk P w K mg base CX0 1 f fd ["self"] (spF T C (S_steps K CN)) := by
  refine def_ok F sc_steps (fun _ => rfl) fun o ho cdv A outer s H E hr => ?_
  have ho : o.turns.length ≤ 60 := ho
  refine sj_cons (sj_if (evt_val (fE t (ev_var 0 rfl))) (fun h => ?_) fun h => ?_)
  · refine sj_last (sj_ret (Ev.cast (EvN.sh (evn_lst (ds := [_]) (eva_cons (ev_tup (ds := [_, _]) (eva_cons (ev_cs X.HEAD) (eva_cons ev_int eva_nil))) eva_nil))) ?_))
    show _ = PyData.list (stepsL o.steps)
    unfold NP.steps
    rw [Tl.form_dead h]
    rfl
  · refine sj_nil ?_
    have fin : ∀ ds : List PyData, ds.length ≤ 2 → ds ++ turnsL o.turns = stepsL o.steps → SJs (cxOf CX0 P w K mg base ["self", "found"] "Normal.steps" (defScope (s_N 3)) f cdv A outer s H E).nox ⟨T, C, E⟩ [.sh (nrm K CN o), .own ds] ((defBody (s_N 3)).drop 3) (poOf (.ok (sh K (.list (stepsL o.steps))))) := fun ds hl e => by
      refine sj_share 1 rfl ?_
      refine sj_last (sj_ret (Ev.cast (EvN.sh (evn_cat (ev_var 1 rfl) (fT t (ev_var 0 rfl)) ?_)) (congrArg PyData.list e)))
      have : (turnsL o.turns).length ≤ 60 := by rw [turnsL, List.length_map]; exact ho
      rw [sizeLine_eq]
      omega
    have es : stepsL o.steps = (if o.sk = 0 then [] else [stepD ⟨.skip, o.sk⟩]) ++ (if o.ch = 0 then [] else [stepD ⟨.chop, o.ch⟩]) ++ turnsL o.turns := by
      unfold NP.steps
      rw [Tl.form_live h]
      show stepsL ((if o.sk = 0 then [] else [⟨.skip, o.sk⟩]) ++ (if o.ch = 0 then [] else [⟨.chop, o.ch⟩]) ++ o.turns.map R7256f.Spec.keepStep) = _
      rw [← turns_steps]
      unfold stepsL
      rw [List.map_append, List.map_append]
      congr 2 <;> split <;> rfl
    refine sj_cons (sj_setN 1 (ds := if o.sk = 0 then [] else [stepD ⟨.skip, o.sk⟩]) (evn_if (evt_gt (fS t (ev_var 0 rfl)) ev_int) (fun h1 => ?_) fun h1 => ?_) ?_ sc_steps.nd)
    · have h1 := of_decide_eq_true h1
      rw [if_neg (by omega)]
      exact evn_lst (ds := [_]) (eva_cons (ev_tup (ds := [_, _]) (eva_cons (ev_cs X.SKIP) (eva_cons (fS t (ev_var 0 rfl)) eva_nil))) eva_nil)
    · have h1 := of_decide_eq_false h1
      rw [if_pos (by omega)]
      exact evn_lst (ds := []) eva_nil
    · have l1 : (if o.sk = 0 then [] else [stepD ⟨.skip, o.sk⟩]).length ≤ 1 := by split <;> simp
      generalize (if o.sk = 0 then [] else [stepD ⟨.skip, o.sk⟩]) = ds at es l1
      refine sj_cons (sj_if (evt_gt (fC t (ev_var 0 rfl)) ev_int) (fun h2 => ?_) fun h2 => ?_)
      · have h2 := of_decide_eq_true h2
        rw [if_neg (by omega)] at es
        refine sj_last (sj_append 1 rfl (ev_tup (ds := [_, _]) (eva_cons (ev_cs X.CHOP) (eva_cons (fC t (ev_var 0 rfl)) eva_nil))) (by rw [sizeLine_eq]; omega) ?_)
        exact fin _ (by rw [List.length_append]; simp; omega) es.symm
      · have h2 := of_decide_eq_false h2
        rw [if_pos (by omega), List.append_nil] at es
        exact sj_nil (fin _ (by omega) es.symm)
def S_off (K : Frag) (CN : Addr) : NP → Pr := fun o => ⟨o.turns.length ≤ 60, [nrm K CN o], .ok (sh K (.int o.off))⟩
theorem sc_off : FnScope ["self"] ["self"] (defScope (s_N 4)) := ⟨rfl, rfl, rfl, by decide +kernel, rfl, by decide +kernel, by decide +kernel⟩
theorem ok_off {f : Addr} {fd : FuncData} (F : Fun K "off" "Normal.off" (s_N 4) f fd) (t : TxtN K CN) : FnOk P w K mg base CX0 1 f fd ["self"] (spF T C (S_off K CN)) := by
  refine def_ok F sc_off (fun _ => rfl) fun o ho cdv A outer s H E hr => ?_
  have ho : o.turns.length ≤ 60 := ho
  exact sj_last (sj_ret (Ev.cast (ev_add (fS t (ev_var 0 rfl)) (fC t (ev_var 0 rfl))) (congrArg PyData.int (by unfold NP.off; show _ = ((o.sk + o.ch : Nat) : Int); omega))))

/-- joints -/
def S_joints (K : Frag) (CN : Addr) : NP → Pr := fun o => ⟨o.turns.length ≤ 60, [nrm K CN o], .ok (sh K (.list (natsL o.joints)))⟩
theorem sc_joints : FnScope ["self", "kind", "count"] ["self"] (defScope (s_N 5)) := ⟨rfl, rfl, rfl, by decide +kernel, rfl, by decide +kernel, by decide +kernel⟩
theorem small_of {n m : Nat} (h : n ≤ m) (hm : Nat.ble m 1000000 = true) : n < sizeLine := by
  have := Nat.le_of_ble_eq_true hm
  rw [sizeLine_eq]
  omega
theorem turns_pr {l : List (Bool × Nat)} : ∀ d ∈ turnsL l, IsPr d := fun d hd => by
  obtain ⟨e, _, rfl⟩ := List.mem_map.mp hd
  exact ⟨_, _, rfl⟩
theorem filter_all {α : Type} (l : List α) : l.filter (fun _ => true) = l := List.filter_eq_self.mpr fun _ _ => rfl
/-- the second of a pair, if it is a number -/
def sndI : PyData → Int
  | .tuple [_, .int n] => n
  | _ => 0
theorem ok_joints {f : Addr} {fd : FuncData} (F : Fun K "joints" "Normal.joints" (s_N 5) f fd) (t : TxtN K CN) (m_off : Mt P w K mg base CX0 1 CN "off" ["self"] (spF T C (S_off K CN))) : FnOk P w K mg base CX0 2 f fd ["self"] (spF T C (S_joints K CN)) := by
  refine def_ok F sc_joints (fun _ => rfl) fun o ho cdv A outer s H E hr => ?_
  have ho : o.turns.length ≤ 60 := ho
  refine sj_last (sj_ret (Ev.cast (EvN.sh (evn_cat (ds := [.int 0, .int o.sk, .int o.off]) (es := o.turns.map fun e => .int (o.off + e.2 : Nat)) (EvN.sh (evn_lst (eva_cons ev_int (eva_cons (fS t (ev_var 0 rfl)) (eva_cons (ev_meth0 m_off hr (by decide) o ho rfl rfl (obj_ins rfl) (ev_var 0 rfl)) eva_nil))))) ?_ ?_)) ?_))
  · refine Ev.cast (EvN.sh (evn_lc (own := [("kind", 1), ("count", 2)]) (f := fun _ => true) (g := fun d => .int (o.off + sndI d)) true rfl sc_joints.nd (fT t (ev_var 0 rfl)) (blkOk_by (N := ["self", "kind", "count"]) (sc := defScope (s_N 5)) (by decide +kernel)) (fun _ _ _ _ _ => pg_two _ 1 2 rfl sc_joints.nd) (tgt_pair 1 2) turns_pr ?_ ⟨fun d hd s H C cl fp => evts_nil, fun d hd _ s H C cl fp => ?_⟩)) ?_
    · rw [turnsL, List.length_map]
      exact small_of ho rfl
    · obtain ⟨e, _, rfl⟩ := List.mem_map.mp hd
      exact ev_add (ev_meth0 m_off hr (by decide) o ho rfl rfl (obj_ins rfl) (ev_var 0 rfl)) (ev_var 2 rfl)
    · rw [filter_all, turnsL, List.map_map]
      congr 1
  · rw [List.length_map]
    exact Nat.le_of_lt (small_of (n := 3 + o.turns.length) (m := 63) (by omega) rfl)
  · show _ = PyData.list (natsL o.joints)
    unfold NP.joints natsL
    rw [List.map_append, List.map_map]
    rfl
def S_beyond (K : Frag) (CN : Addr) : NP → Pr := fun o => ⟨o.turns.length ≤ 60, [nrm K CN o], .ok (sh K (.int o.beyond))⟩
theorem sc_beyond : FnScope ["self"] ["self"] (defScope (s_N 6)) := ⟨rfl, rfl, rfl, by decide +kernel, rfl, by decide +kernel, by decide +kernel⟩
theorem ok_beyond {f : Addr} {fd : FuncData} (F : Fun K "beyond" "Normal.beyond" (s_N 6) f fd) (X : Txt K mg) (m_joints : Mt P w K mg base CX0 2 CN "joints" ["self"] (spF T C (S_joints K CN))) : FnOk P w K mg base CX0 3 f fd ["self"] (spF T C (S_beyond K CN)) := by
  refine def_ok F sc_beyond (fun _ => rfl) fun o ho cdv A outer s H E hr => ?_
  have ho : o.turns.length ≤ 60 := ho
  exact sj_last (sj_ret (Ev.cast (ev_add (ev_maxL rfl X.max (js := o.joints) (by unfold NP.joints; simp) (ev_meth0 m_joints hr (by decide) o ho rfl rfl (obj_ins rfl) (ev_var 0 rfl))) ev_int) (congrArg PyData.int (by unfold NP.beyond; omega))))
def S_nwin (K : Frag) (CN : Addr) : NP × Nat → Pr := fun i => ⟨i.1.turns.length ≤ 60, [nrm K CN i.1, sh K (.int i.2)], .ok (sh K (winD (i.1.win i.2)))⟩
theorem sc_nwin : FnScope ["self", "length"] ["self", "length"] (defScope (s_N 7)) := ⟨rfl, rfl, rfl, by decide +kernel, rfl, by decide +kernel, by decide +kernel⟩
theorem ok_nwin {f : Addr} {fd : FuncData} (F : Fun K "window" "Normal.window" (s_N 7) f fd) (f_window : Fn P w K mg base CX0 1 "window_pipelines" ["steps", "length"] (spF T C (S_window K))) (m_steps : Mt P w K mg base CX0 1 CN "steps" ["self"] (spF T C (S_steps K CN))) : FnOk P w K mg base CX0 2 f fd ["self", "length"] (spF T C (S_nwin K CN)) := by
  refine def_ok F sc_nwin (fun _ => rfl) fun ⟨o, n⟩ ho cdv A outer s H E hr => ?_
  exact sj_last (sj_ret (ev_call f_window hr (by decide) (o.steps, n) trivial rfl (eva_cons (ev_meth0 m_steps hr (by decide) o ho rfl rfl (obj_ins rfl) (ev_var 0 rfl)) (eva_cons (ev_var 1 rfl) eva_nil))))
def S_lastStart (K : Frag) (CN : Addr) : NP → Pr := fun o => ⟨o.turns.length ≤ 60, [nrm K CN o], .ok (sh K (optN o.lastStart))⟩
def S_lastEnd (K : Frag) (CN : Addr) : NP → Pr := fun o => ⟨o.turns.length ≤ 60, [nrm K CN o], .ok (sh K (optN o.lastEnd))⟩
theorem sc_lastStart : FnScope ["self", "far", "one"] ["self"] (defScope (s_N 8)) := ⟨rfl, rfl, rfl, by decide +kernel, rfl, by decide +kernel, by decide +kernel⟩
theorem sc_lastEnd : FnScope ["self", "far", "one"] ["self"] (defScope (s_N 9)) := ⟨rfl, rfl, rfl, by decide +kernel, rfl, by decide +kernel, by decide +kernel⟩
theorem ok_lastStart {f : Addr} {fd : FuncData} (F : Fun K "last_start" "Normal.last_start" (s_N 8) f fd) (m_beyond : Mt P w K mg base CX0 3 CN "beyond" ["self"] (spF T C (S_beyond K CN))) (m_win : Mt P w K mg base CX0 2 CN "window" ["self", "length"] (spF T C (S_nwin K CN))) : FnOk P w K mg base CX0 4 f fd ["self"] (spF T C (S_lastStart K CN)) := by
  refine def_ok F sc_lastStart (fun _ => rfl) fun o ho cdv A outer s H E hr => ?_
  have ho : o.turns.length ≤ 60 := ho
  refine sj_cons (sj_set 1 (ev_meth0 m_beyond hr (by decide) o ho rfl rfl (obj_ins rfl) (ev_var 0 rfl)) ?_ sc_lastStart.nd)
  refine sj_cons (sj_set 2 (ev_ixT (d := .int (o.win o.beyond).1) (ev_meth m_win hr (by decide) (o, o.beyond) ho rfl rfl (obj_ins rfl) (ev_var 0 rfl) (eva_cons (ev_var 1 rfl) eva_nil)) ev_int) ?_ sc_lastStart.nd)
  refine sj_last (sj_ret (ev_if (evt_eqI (ev_var 2 rfl) (ev_ixT (d := .int (o.win (o.beyond + 1)).1) (ev_meth m_win hr (by decide) (o, o.beyond + 1) ho rfl rfl (obj_ins rfl) (ev_var 0 rfl) (eva_cons (Ev.cast (ev_add (ev_var 1 rfl) ev_int) (congrArg PyData.int (Int.natCast_succ _).symm)) eva_nil)) ev_int)) (fun h => ?_) fun h => ?_))
  · have h := of_decide_eq_true h
    refine Ev.cast (ev_var 2 rfl) ?_
    show _ = optN o.lastStart
    unfold NP.lastStart
    rw [if_pos (by omega)]
    rfl
  · have h := of_decide_eq_false h
    refine ev_non.cast ?_
    show _ = optN o.lastStart
    unfold NP.lastStart
    rw [if_neg (by omega)]
    rfl
theorem ok_lastEnd {f : Addr} {fd : FuncData} (F : Fun K "last_end" "Normal.last_end" (s_N 9) f fd) (m_beyond : Mt P w K mg base CX0 3 CN "beyond" ["self"] (spF T C (S_beyond K CN))) (m_win : Mt P w K mg base CX0 2 CN "window" ["self", "length"] (spF T C (S_nwin K CN))) : FnOk P w K mg base CX0 4 f fd ["self"] (spF T C (S_lastEnd K CN)) := by
  refine def_ok F sc_lastEnd (fun _ => rfl) fun o ho cdv A outer s H E hr => ?_
  have ho : o.turns.length ≤ 60 := ho
  refine sj_cons (sj_set 1 (ev_meth0 m_beyond hr (by decide) o ho rfl rfl (obj_ins rfl) (ev_var 0 rfl)) ?_ sc_lastEnd.nd)
  refine sj_cons (sj_set 2 (ev_ixT (d := .int (o.win o.beyond).2) (ev_meth m_win hr (by decide) (o, o.beyond) ho rfl rfl (obj_ins rfl) (ev_var 0 rfl) (eva_cons (ev_var 1 rfl) eva_nil)) ev_int) ?_ sc_lastEnd.nd)
  refine sj_last (sj_ret (ev_if (evt_eqI (ev_var 2 rfl) (ev_ixT (d := .int (o.win (o.beyond + 1)).2) (ev_meth m_win hr (by decide) (o, o.beyond + 1) ho rfl rfl (obj_ins rfl) (ev_var 0 rfl) (eva_cons (Ev.cast (ev_add (ev_var 1 rfl) ev_int) (congrArg PyData.int (Int.natCast_succ _).symm)) eva_nil)) ev_int)) (fun h => ?_) fun h => ?_))
  · have h := of_decide_eq_true h
    refine Ev.cast (ev_var 2 rfl) ?_
    show _ = optN o.lastEnd
    unfold NP.lastEnd
    rw [if_pos (by omega)]
    rfl
  · have h := of_decide_eq_false h
    refine ev_non.cast ?_
    show _ = optN o.lastEnd
    unfold NP.lastEnd
    rw [if_neg (by omega)]
    rfl
end
end Td
namespace Td
open PySem PySem.Spec PyProof.Rows L2 Tw
open Tl (NP pwin wstep norm maxL)
/-- the fields of a normal pipeline that is being made -/
def nFs (K : Frag) (o : NP) : Fds := [("skipped", .ty (sh K (.int o.sk))), ("chopped", .ty (sh K (.int o.ch))), ("turns", .ol (turnsL o.turns)), ("is_empty", .ty (sh K (.bool o.emp)))]
theorem nFs_frozen (K : Frag) (CN : Addr) (o : NP) : obj CN (fsT K (nFs K o)) = nrm K CN o := rfl
theorem turns_noL (l : List (Bool × Nat)) : noLs (turnsL l) = true := noLs_all fun d hd => by
  obtain ⟨e, _, rfl⟩ := List.mem_map.mp hd
  rfl
theorem last_noL (o : NP) : noL (lastD o) = true := by
  unfold lastD
  cases o.turns.getLast? <;> rfl
section
variable {P : Program} {w : World} {K : Frag} {mg : Str → Option Value} {base : Heap} {T : List NTab} {C CN : Addr}
def S_take (K : Frag) : NP × TStep → OPr := fun i => ⟨i.1.turns.length ≤ 59 ∧ i.1.emp = false ∧ Tl.WFo i.1.form, nFs K i.1, [sh K (.str (kS i.2.kind)), sh K (.int i.2.count)], nFs K (i.1.take i.2), .none⟩
theorem sc_take : FnScope ["self", "kind", "count", "last", "own", "many"] ["self", "kind", "count"] (defScope (s_N 2)) := ⟨rfl, rfl, rfl, by decide +kernel, rfl, by decide +kernel, by decide +kernel⟩
theorem nFs_emp (K : Frag) (o : NP) : putFd "is_empty" (.ty (sh K (.bool true))) (nFs K o) = nFs K { o with emp := true } := rfl
theorem nFs_turns (K : Frag) (o : NP) (l : List (Bool × Nat)) : putFd "turns" (.ol (turnsL l)) (nFs K o) = nFs K { o with turns := l } := rfl
theorem nFs_nd (K : Frag) (o : NP) : ((nFs K o).map (·.1)).Nodup := by
  show (["skipped", "chopped", "turns", "is_empty"] : List Str).Nodup
  decide +kernel
theorem turnsL_app (l : List (Bool × Nat)) (e : Bool × Nat) : turnsL l ++ [turnD e] = turnsL (l ++ [e]) := by
  unfold turnsL
  rw [List.map_append]
  rfl
theorem turnsL_drop (l : List (Bool × Nat)) : (turnsL l).dropLast = turnsL l.dropLast := by
  unfold turnsL
  rw [List.map_dropLast]
theorem bS_inj {a b : Bool} : bS a = bS b ↔ a = b := by
  cases a <;> cases b <;> decide +kernel
theorem ok_take {f : Addr} {fd : FuncData} (F : Fun K "take" "Normal.take" (s_N 2) f fd) (X : Txt K mg) (t : TxtN K CN) (m_last : Mt P w K mg base CX0 1 CN "last" ["self"] (spF T C (S_last K CN))) : FnOk P w K mg base CX0 2 f fd ["self", "kind", "count"] (spO T K CN (S_take K)) := by
  refine def_okO (CR := C) F sc_take (fun _ => rfl) fun ⟨o, st⟩ ho p cdv A outer s H E hr => ?_
  obtain ⟨ho, he, hw⟩ : o.turns.length ≤ 59 ∧ o.emp = false ∧ Tl.WFo o.form := ho
  obtain ⟨kd, n⟩ := st
  refine oj_cons (oj_set 3 (d := lastD o) (ev_meth0 m_last hr (by decide) o (by show o.turns.length ≤ 60; omega) rfl rfl (obj_ins rfl) (ev_var 0 rfl)) (last_noL o) ?_ sc_take.nd)
  have fin : ∀ γ fs nx, fs = nFs K (o.take ⟨kd, n⟩) → ∀ pos : Pos, OJs (cxOf CX0 P w K mg base ["self", "kind", "count", "last", "own", "many"] "Normal.take" (defScope (s_N 2)) f cdv A outer s H E).nox ⟨T, C, E⟩ CN p γ fs [.Return none pos] ⟨nx, fun fs d => fs = nFs K (o.take ⟨kd, n⟩) ∧ d = .none⟩ := fun γ fs nx e pos => oj_last (oj_retN ⟨e, rfl⟩)
  have hsm : (turnsL o.turns).length < sizeLine := by
    rw [turnsL, List.length_map]
    exact small_of ho rfl
  have inT : ∀ k : TKind, (["head", "tail"] : List Str).any (fun z => z == kS k) = match k with
    | .head => true
    | .tail => true
    | _ => false := fun k => by cases k <;> decide +kernel
  -- head and tail
  have A1 : ∀ b : Bool, kS kd = bS b → o.take ⟨kd, n⟩ = o.turn b n → (["head", "tail"] : List Str).any (fun z => z == kS kd) = true → OJs (cxOf CX0 P w K mg base ["self", "kind", "count", "last", "own", "many"] "Normal.take" (defScope (s_N 2)) f cdv A outer s H E).nox ⟨T, C, E⟩ CN p
      [.un, .sh (sh K (.str (kS kd))), .sh (sh K (.int n)), .sh (sh K (lastD o)), .un, .un] (nFs K o) ((defBody (s_N 2)).drop 1) ⟨fun _ fs => fs = nFs K (o.take ⟨kd, n⟩) ∧ PyData.none = .none, fun fs d => fs = nFs K (o.take ⟨kd, n⟩) ∧ d = .none⟩ := by
    intro b hb hk hin
    refine oj_cons (oj_if (evt_inS (ss := ["head", "tail"]) (ev_var 1 rfl) (ev_tup (ds := [_, _]) (eva_cons (ev_cs X.HEAD) (eva_cons (ev_cs X.TAIL) eva_nil)))) (fun _ => ?_) fun h => ?_)
    · refine oj_cons (oj_if (evt_eqI (ev_var 2 rfl) ev_int) (fun h0 => ?_) fun h0 => ?_)
      · have h0 : n = 0 := by have := of_decide_eq_true h0; omega
        refine oj_last (oj_fld (i := 0) (d := .bool true) t.cl t.nE rfl ev_bl rfl ?_)
        refine fin _ _ _ ((nFs_emp K o).trans (congrArg (nFs K) ?_)) _
        rw [hk]
        unfold NP.turn
        rw [if_pos h0]
      · have h0 : ¬ n = 0 := by have := of_decide_eq_false h0; omega
        cases hl : o.turns.getLast? with
        | none =>
          have hL : lastD o = .none := by
            unfold lastD
            rw [hl]
          rw [hL]
          refine oj_last (oj_if (EvW.t (evw_or (l := false) (evt_isN (ev_var 3 rfl)) (fun h => by cases h))) (fun _ => ?_) fun h => by cases h)
          refine oj_cons (oj_if (EvW.t (evw_and (l := false) (evt_notN (ev_var 3 rfl)) (fun h => by cases h))) (fun h => by cases h) fun _ => ?_)
          refine oj_nil ?_
          refine oj_last (oj_append (ds := turnsL o.turns) (d := turnD (b, n)) t.cl t.nT rfl (nFs_nd K o) rfl hsm (Ev.cast (ev_tup (ds := [_, _]) (eva_cons (ev_var 1 rfl) (eva_cons (ev_var 2 rfl) eva_nil))) (by rw [hb]; rfl)) rfl ?_)
          refine fin _ _ _ ?_ _
          rw [turnsL_app, nFs_turns, hk]
          unfold NP.turn
          rw [if_neg h0, hl]
        | some y =>
          have hL : lastD o = turnD y := by
            unfold lastD
            rw [hl]
          rw [hL]
          refine oj_last (oj_if (EvW.t (evw_or (evt_isN (ev_var 3 rfl)) (fun _ => evw_or1 (evt_lt (ev_var 2 rfl) (ev_ixT (d := .int y.2) (ev_var 3 rfl) ev_int))))) (fun h => ?_) fun h => ?_)
          · have h : n < y.2 := by
              have := of_decide_eq_true (show decide ((n : Int) < y.2) = true from h)
              omega
            refine oj_cons (oj_if (EvW.t (evw_and (evt_notN (ev_var 3 rfl)) (fun _ => evw_and1 (evt_eqS (ev_ixT (d := .str (bS y.1)) (ev_var 3 rfl) ev_int) (ev_var 1 rfl))))) (fun h2 => ?_) fun h2 => ?_)
            · have h2 : y.1 = b := by
                have := of_decide_eq_true (show decide (bS y.1 = kS kd) = true from h2)
                rw [hb] at this
                exact bS_inj.mp this
              refine oj_last (oj_pop (ds := turnsL o.turns) t.cl t.nT rfl (nFs_nd K o) rfl ?_ ?_)
              · rw [turnsL, List.length_map]
                cases e : o.turns with
                | nil => rw [e] at hl; cases hl
                | cons _ _ => simp
              · rw [turnsL_drop, nFs_turns]
                refine oj_last (oj_append (ds := turnsL o.turns.dropLast) (d := turnD (b, n)) t.cl t.nT rfl (nFs_nd K _) rfl ?_ (Ev.cast (ev_tup (ds := [_, _]) (eva_cons (ev_var 1 rfl) (eva_cons (ev_var 2 rfl) eva_nil))) (by rw [hb]; rfl)) rfl ?_)
                · rw [turnsL, List.length_map, List.length_dropLast]
                  exact small_of (m := 59) (by omega) rfl
                · refine fin _ _ _ ?_ _
                  rw [turnsL_app, nFs_turns, hk]
                  unfold NP.turn
                  rw [if_neg h0, hl]
                  show _ = nFs K (if n < y.2 then _ else _)
                  rw [if_pos h, if_pos h2]
            · have h2 : ¬ y.1 = b := by
                have := of_decide_eq_false (show decide (bS y.1 = kS kd) = false from h2)
                rw [hb] at this
                exact fun z => this (bS_inj.mpr z)
              refine oj_nil ?_
              refine oj_last (oj_append (ds := turnsL o.turns) (d := turnD (b, n)) t.cl t.nT rfl (nFs_nd K o) rfl hsm (Ev.cast (ev_tup (ds := [_, _]) (eva_cons (ev_var 1 rfl) (eva_cons (ev_var 2 rfl) eva_nil))) (by rw [hb]; rfl)) rfl ?_)
              refine fin _ _ _ ?_ _
              rw [turnsL_app, nFs_turns, hk]
              unfold NP.turn
              rw [if_neg h0, hl]
              show _ = nFs K (if n < y.2 then _ else _)
              rw [if_pos h, if_neg h2]
          · have h : ¬ n < y.2 := by
              have := of_decide_eq_false (show decide ((n : Int) < y.2) = false from h)
              omega
            refine oj_nil ?_
            refine fin _ _ _ ?_ _
            rw [hk]
            unfold NP.turn
            rw [if_neg h0, hl]
            show _ = nFs K (if n < y.2 then _ else _)
            rw [if_neg h]
    · rw [hin] at h
      cases h
  -- skip and chop
  have A2 : ∀ b : Bool, (kd = if b then .skip else .chop) → (["head", "tail"] : List Str).any (fun z => z == kS kd) = false → OJs (cxOf CX0 P w K mg base ["self", "kind", "count", "last", "own", "many"] "Normal.take" (defScope (s_N 2)) f cdv A outer s H E).nox ⟨T, C, E⟩ CN p
      [.un, .sh (sh K (.str (kS kd))), .sh (sh K (.int n)), .sh (sh K (lastD o)), .un, .un] (nFs K o) ((defBody (s_N 2)).drop 1) ⟨fun _ fs => fs = nFs K (o.take ⟨kd, n⟩) ∧ PyData.none = .none, fun fs d => fs = nFs K (o.take ⟨kd, n⟩) ∧ d = .none⟩ := by
    intro b hb hin
    have tk : o.take ⟨kd, n⟩ = if o.dead n = true then { o with emp := true } else if b then { o.lower n with sk := o.sk + n } else { o.lower n with ch := o.ch + n } := by
      rw [hb]
      cases b <;> rfl
    refine oj_cons (oj_if (evt_inS (ss := ["head", "tail"]) (ev_var 1 rfl) (ev_tup (ds := [_, _]) (eva_cons (ev_cs X.HEAD) (eva_cons (ev_cs X.TAIL) eva_nil)))) (fun h => by rw [hin] at h; cases h) fun _ => ?_)
    refine oj_nil ?_
    have rest : o.dead n = false → OJs (cxOf CX0 P w K mg base ["self", "kind", "count", "last", "own", "many"] "Normal.take" (defScope (s_N 2)) f cdv A outer s H E).nox ⟨T, C, E⟩ CN p
      [.un, .sh (sh K (.str (kS kd))), .sh (sh K (.int n)), .sh (sh K (lastD o)), .un, .un] (nFs K o) ((defBody (s_N 2)).drop 3) ⟨fun _ fs => fs = nFs K (o.take ⟨kd, n⟩) ∧ PyData.none = .none, fun fs d => fs = nFs K (o.take ⟨kd, n⟩) ∧ d = .none⟩ := by
      intro hd
      have hlow : ∀ e ∈ o.turns, n < e.2 := fun e hm => by
        have hf := (hw _ (Tl.form_live he)).fall
        unfold NP.dead at hd
        cases hl : o.turns.getLast? with
        | none =>
          rw [List.getLast?_eq_none_iff.mp hl] at hm
          cases hm
        | some y =>
          rw [hl] at hd
          have hd : decide (y.2 ≤ n) = false := hd
          have := Tl.Fall.least hf hl e hm
          have := of_decide_eq_false hd
          omega
      refine oj_cons (oj_olset (ds := turnsL (o.lower n).turns) t.cl t.nT rfl rfl (nFs_nd K o) (EvN.cast (evn_lc (own := [("own", 4), ("many", 5)]) (f := fun _ => true) (g := fun d => match d with
        | .tuple [k, .int m] => .tuple [k, .int (m - n)]
        | _ => .none) true rfl sc_take.nd (fT t (ev_var 0 rfl)) (blkOk_by (N := ["self", "kind", "count", "last", "own", "many"]) (sc := defScope (s_N 2)) (by decide +kernel)) (fun _ _ _ _ _ => pg_two _ 4 5 rfl sc_take.nd) (tgt_pair 4 5) turns_pr hsm ⟨fun d hd s H C cl fp => evts_nil, fun d hd _ s H C cl fp => ?_⟩) ?_) (turns_noL _) ?_)
      · obtain ⟨e, _, rfl⟩ := List.mem_map.mp hd
        exact ev_tup (ds := [_, _]) (eva_cons (ev_var 4 rfl) (eva_cons (ev_sub (ev_var 5 rfl) (ev_var 2 rfl)) eva_nil))
      · rw [filter_all, turnsL, List.map_map]
        show _ = turnsL (o.turns.map fun e => (e.1, e.2 - n))
        unfold turnsL
        rw [List.map_map]
        refine List.map_congr_left fun e hm => ?_
        have := hlow e hm
        show PyData.tuple [.str (bS e.1), .int ((e.2 : Int) - n)] = PyData.tuple [.str (bS e.1), .int ((e.2 - n : Nat) : Int)]
        rw [Int.ofNat_sub (Nat.le_of_lt this)]
      · rw [nFs_turns]
        refine oj_last (oj_if (evt_eqS (ev_var 1 rfl) (ev_cs X.SKIP)) (fun h => ?_) fun h => ?_)
        · have h : kS kd = "skip" := of_decide_eq_true h
          have hb' : b = true := by
            cases b with
            | true => rfl
            | false =>
              rw [hb] at h
              exact absurd h (by decide +kernel)
          refine oj_last (oj_aug (n := o.sk) (m := n) t.cl t.nS rfl rfl (ev_var 2 rfl) ⟨?_, rfl⟩)
          rw [tk, if_neg (by rw [hd]; simp), hb']
          rfl
        · have h : ¬ kS kd = "skip" := of_decide_eq_false h
          have hb' : b = false := by
            cases b with
            | false => rfl
            | true =>
              rw [hb] at h
              exact absurd rfl h
          refine oj_last (oj_aug (n := o.ch) (m := n) t.cl t.nC rfl rfl (ev_var 2 rfl) ⟨?_, rfl⟩)
          rw [tk, if_neg (by rw [hd]; simp), hb']
          rfl
    cases hl : o.turns.getLast? with
    | none =>
      have hL : lastD o = .none := by
        unfold lastD
        rw [hl]
      have hd : o.dead n = false := by
        unfold NP.dead
        rw [hl]
      have r := rest hd
      rw [hL] at r ⊢
      refine oj_cons (oj_if (EvW.t (evw_and (l := false) (evt_notN (ev_var 3 rfl)) (fun h => by cases h))) (fun h => by cases h) fun _ => ?_)
      exact oj_nil r
    | some y =>
      have hL : lastD o = turnD y := by
        unfold lastD
        rw [hl]
      have r := rest
      rw [hL] at r ⊢
      refine oj_cons (oj_if (EvW.t (evw_and (evt_notN (ev_var 3 rfl)) (fun _ => evw_and1 (evt_le (ev_ixT (d := .int y.2) (ev_var 3 rfl) ev_int) (ev_var 2 rfl))))) (fun h => ?_) fun h => ?_)
      · have h : y.2 ≤ n := by
          have := of_decide_eq_true (show decide ((y.2 : Int) ≤ n) = true from h)
          omega
        refine oj_cons (oj_fld (i := 0) (d := .bool true) t.cl t.nE rfl ev_bl rfl ?_)
        refine fin _ _ _ ?_ _
        rw [tk, if_pos (by unfold NP.dead; rw [hl]; exact decide_eq_true h)]
        rfl
      · have h : ¬ y.2 ≤ n := by
          have := of_decide_eq_false (show decide ((y.2 : Int) ≤ n) = false from h)
          omega
        exact oj_nil (r (by unfold NP.dead; rw [hl]; exact decide_eq_false h))
  cases kd with
  | head => exact A1 true rfl rfl (inT .head)
  | tail => exact A1 false rfl rfl (inT .tail)
  | skip => exact A2 true rfl (inT .skip)
  | chop => exact A2 false rfl (inT .chop)
end
end Td
namespace Tl
theorem turn_len (o : NP) (b : Bool) (c : Nat) : (o.turn b c).turns.length ≤ o.turns.length + 1 := by
  unfold NP.turn
  by_cases h : c = 0
  · rw [if_pos h]
    exact Nat.le_succ _
  · rw [if_neg h]
    cases hl : o.turns.getLast? with
    | none => show (o.turns ++ [(b, c)]).length ≤ _; rw [List.length_append]; exact Nat.le_refl _
    | some y =>
      show (if c < y.2 then (if y.1 = b then ({ o with turns := o.turns.dropLast ++ [(b, c)] } : NP) else { o with turns := o.turns ++ [(b, c)] }) else o).turns.length ≤ _
      by_cases h1 : c < y.2
      · rw [if_pos h1]
        by_cases h2 : y.1 = b
        · rw [if_pos h2]
          show (o.turns.dropLast ++ [(b, c)]).length ≤ _
          rw [List.length_append, List.length_dropLast, List.length_singleton]
          omega
        · rw [if_neg h2]
          show (o.turns ++ [(b, c)]).length ≤ _
          rw [List.length_append]
          exact Nat.le_refl _
      · rw [if_neg h1]
        exact Nat.le_succ _
theorem lower_len (o : NP) (c : Nat) : (o.lower c).turns.length = o.turns.length := by
  show (o.turns.map fun e => (e.1, e.2 - c)).length = _
  rw [List.length_map]
theorem take_len (o : NP) (s : R7256f.Spec.Step) : (o.take s).turns.length ≤ o.turns.length + 1 := by
  obtain ⟨k, c⟩ := s
  cases k with
  | head => exact turn_len o true c
  | tail => exact turn_len o false c
  | skip =>
    show (if o.dead c = true then { o with emp := true } else { o.lower c with sk := o.sk + c } : NP).turns.length ≤ _
    by_cases h : o.dead c = true
    · rw [if_pos h]; exact Nat.le_succ _
    · rw [if_neg h]; show (o.lower c).turns.length ≤ _; rw [lower_len]; exact Nat.le_succ _
  | chop =>
    show (if o.dead c = true then { o with emp := true } else { o.lower c with ch := o.ch + c } : NP).turns.length ≤ _
    by_cases h : o.dead c = true
    · rw [if_pos h]; exact Nat.le_succ _
    · rw [if_neg h]; show (o.lower c).turns.length ≤ _; rw [lower_len]; exact Nat.le_succ _
theorem add_len (o : NP) (s : R7256f.Spec.Step) : (o.add s).turns.length ≤ o.turns.length + 1 := by
  unfold NP.add
  by_cases h : o.emp = true
  · rw [if_pos h]; exact Nat.le_succ _
  · rw [if_neg h]; exact take_len o s
theorem fold_len : ∀ (p : R7256f.Spec.Pipeline) (o : NP), (p.foldl NP.add o).turns.length ≤ o.turns.length + p.length
  | [], o => Nat.le_refl _
  | s :: p, o => by
    have := fold_len p (o.add s)
    have := add_len o s
    show (p.foldl NP.add (o.add s)).turns.length ≤ _
    rw [List.length_cons]
    omega
theorem nOf_len (p : R7256f.Spec.Pipeline) : (nOf p).turns.length ≤ p.length := by
  have := fold_len p NP.zero
  show (p.foldl NP.add NP.zero).turns.length ≤ _
  have e : NP.zero.turns.length = 0 := rfl
  omega
end Tl
namespace Td
open PySem PySem.Spec PyProof.Rows L2 Tw
open Tl (NP pwin wstep norm maxL nOf)
section
variable {P : Program} {w : World} {K : Frag} {mg : Str → Option Value} {base : Heap} {T : List NTab} {C CN : Addr}
def S_init (K : Frag) : Pipe → OPr := fun p => ⟨p.length ≤ 40, [], [sh K (.list (stepsL p))], nFs K (nOf p), .none⟩
theorem sc_init : FnScope ["self", "steps", "kind", "count"] ["self", "steps"] (defScope (s_N 0)) := ⟨rfl, rfl, rfl, by decide +kernel, rfl, by decide +kernel, by decide +kernel⟩
theorem steps_pr {p : Pipe} : ∀ d ∈ stepsL p, IsPr d := fun d hd => by
  obtain ⟨s, _, rfl⟩ := List.mem_map.mp hd
  exact ⟨_, _, rfl⟩
theorem ok_init {f : Addr} {fd : FuncData} (F : Fun K "__init__" "Normal.__init__" (s_N 0) f fd) (X : Txt K mg) (t : TxtN K CN) (m_take : Mt P w K mg base CX0 2 CN "take" ["self", "kind", "count"] (spO T K CN (S_take K))) : FnOk P w K mg base CX0 3 f fd ["self", "steps"] (spO T K CN (S_init K)) := by
  refine def_okO (CR := CN) F sc_init (fun _ => rfl) fun q hp p cdv A outer s H E hr => ?_
  have hp : q.length ≤ 40 := hp
  refine oj_cons (oj_fld (i := 0) (d := .int 0) t.cl t.nS rfl ev_int rfl ?_)
  refine oj_cons (oj_fld (i := 0) (d := .int 0) t.cl t.nC rfl ev_int rfl ?_)
  refine oj_cons (oj_olset (ds := []) t.cl t.nT rfl rfl (show (["skipped", "chopped"] : List Str).Nodup by decide +kernel) (evn_lst (ds := []) eva_nil) rfl ?_)
  refine oj_cons (oj_fld (i := 0) (d := .bool false) t.cl t.nE rfl ev_bl rfl ?_)
  refine oj_last (oj_forP 2 3 (by decide) (by decide) PassesOwn.never rfl (ds := stepsL q) (ev_var 1 rfl) (pg_two _ 2 3 rfl sc_init.nd) steps_pr
    (fun k γ fs => ∃ x y, γ = [.un, .sh (sh K (.list (stepsL q))), x, y] ∧ fs = nFs K (nOf (q.take k))) ⟨_, _, rfl, rfl⟩ ?_ ?_)
  · rintro k d _ _ hd ⟨x, y, rfl, rfl⟩
    obtain ⟨st, hst, rfl⟩ := map_get hd
    have e : nOf (q.take (k + 1)) = (nOf (q.take k)).add st := by
      unfold nOf
      rw [take_snoc hst, List.foldl_append]
      rfl
    have hk : k < q.length := by
      rcases Nat.lt_or_ge k q.length with h | h
      · exact h
      · rw [List.getElem?_eq_none h] at hst; cases hst
    have hl : (nOf (q.take k)).turns.length ≤ 59 := by
      have := Tl.nOf_len (q.take k)
      rw [List.length_take] at this
      omega
    have hw := Tl.nOf_wf (q.take k)
    rw [e]
    generalize nOf (q.take k) = o at hl hw ⊢
    refine oj_last (oj_if (evt_not (evt_val (ev_fld (P := sh K (.bool o.emp)) t.cl t.nE rfl (ev_var 0 rfl)))) (fun h => ?_) fun h => ?_)
    · have he : o.emp = false := by
        cases q : o.emp with
        | false => rfl
        | true => rw [q] at h; cases h
      refine oj_last (oj_meth m_take hr (by decide) (o, st) ⟨hl, he, hw⟩ rfl rfl (eva_cons (ev_var 2 rfl) (eva_cons (ev_var 3 rfl) eva_nil)) ⟨_, _, rfl, ?_⟩)
      show nFs K (o.take st) = nFs K (o.add st)
      unfold NP.add
      rw [if_neg (by rw [he]; simp)]
    · have he : o.emp = true := by
        cases q : o.emp with
        | true => rfl
        | false => rw [q] at h; cases h
      refine oj_nil ⟨_, _, rfl, ?_⟩
      unfold NP.add
      rw [if_pos he]
  · rintro _ _ ⟨x, y, rfl, rfl⟩
    refine ⟨?_, rfl⟩
    rw [stepsL, List.length_map, List.take_length]
    rfl
end
/-- Normal(steps) -/
def MkN (P : Program) (w : World) (K : Frag) (mg : Str → Option Value) (base : Heap) (T : List NTab) (CN : Addr) : Prop := (∃ fi fd, Mk K CN fi ∧ FnOk P w K mg base CX0 3 fi fd ["self", "steps"] (spO T K CN (S_init K)) ∧ L2.Binds K fd ["self", "steps"] []) ∧ mg "Normal" = some (.ref CN)
section
variable {X : Cx} {T : List NTab} {γ : Gm} {e : Expr} {pos q : Pos} {CN : Addr}
theorem ev_normal {j : Nat} (M : MkN X.prog X.w X.K X.mg X.base T CN) (hr : Room j X.A) (hj : 4 ≤ j) (p : Pipe) (hp : p.length ≤ 40) (ha : Ev X T γ e (sh X.K (.list (stepsL p)))) (hg : Gl X "Normal" := by rfl) (hs : starEach [e] X.env = (false, eval e X.env) :: starEach [] X.env := by rfl) (hpl : (backTo pos (starEach [] X.env)).any (·.1) = false := by rfl) : Ev X T γ (.Call (.Name "Normal" q) [e] [] pos) (nrm X.K CN (nOf p)) :=
  ev_make M.1 M.2 hr hj p hp rfl rfl (eva_cons ha eva_nil hs) hg (by decide) hs hpl
end
end Td
namespace Tw
open PySem PySem.Spec PyProof.Rows L2
/-! ### what is owned may change: leave it out of the start -/
open Classical in
noncomputable def cut (H : Hp) (S : Addr → Prop) : Hp := fun b => if S b then none else H b
theorem cut_at {H : Hp} {S : Addr → Prop} {b : Addr} {o : HO} (h : cut H S b = some o) : ¬ S b ∧ H b = some o := by
  unfold cut at h
  split at h
  · cases h
  · exact ⟨by assumption, h⟩
theorem cut_of {H : Hp} {S : Addr → Prop} {b : Addr} (h : ¬ S b) : cut H S b = H b := if_neg h
theorem cut_in {H : Hp} {S : Addr → Prop} {b : Addr} (h : S b) : cut H S b = none := if_pos h
section
variable {T : List NTab} {F0 H0 F H : Hp} {S : Addr → Prop}
theorem tabs_cut (chg : ∀ b, S b → ∃ u, H b = some u ∧ Chg u) (tt : NdefX.TabsN T H) : NdefX.TabsN T (cut H S) := fun b hb => by
  obtain ⟨ps, q1, q2, q3⟩ := tt b hb
  have keep : ∀ c u, H c = some u → ¬ Chg u → cut H S c = some u := fun c u q n => by
    rw [cut_of]
    · exact q
    · intro z
      obtain ⟨u', e1, e2⟩ := chg c z
      rw [q] at e1
      cases e1
      exact n e2
  refine ⟨ps, keep _ _ q1 (fun z => z), q2, fun pos cv hc => ?_⟩
  obtain ⟨c, e1, e2⟩ := q3 pos cv hc
  exact ⟨c, e1, keep _ _ e2 (fun z => z)⟩
theorem grow_cut (g : Grow T F0 H0 F H) (chg : ∀ b, S b → ∃ u, H b = some u ∧ Chg u) (h0 : ∀ b, S b → H0 b = none) :
    Grow T F (cut H S) F H ∧ (∀ F' H', Grow T F (cut H S) F' H' → Grow T F0 H0 F' H') ∧ (∀ a, cut H S a = none → H0 a = none) := by
  have out : ∀ b, H0 b ≠ none → cut H S b = H b := fun b q => cut_of fun z => q (h0 b z)
  have fr : ∀ a, cut H S a = none → H0 a = none := fun a q => by
    cases e : H0 a with
    | none => rfl
    | some u =>
      rw [out a (by rw [e]; simp)] at q
      rw [g.free a q] at e
      cases e
  refine ⟨⟨Ex.refl _, g.ex, fun a u q _ => (cut_at q).2, fun a q _ => q, fun tt => tt.ext fun b o q => (cut_at q).2, fun a q => ?_⟩, fun F' H' k => ⟨g.f.trans k.f, k.ex, fun a u q n => ?_, fun a q n => ?_, fun tt => k.tab (tabs_cut chg (g.tab tt)), fun a q => fr a (k.free a q)⟩, fr⟩
  · unfold cut
    split
    · rfl
    · exact q
  · exact k.h a u (by rw [out a (by rw [q]; simp)]; exact g.h a u q n) n
  · refine k.own a (g.own a q n) ?_
    rw [out a n]
    exact fun z => n (g.free a z)
end
/-! ### sorted(d), ints, any number of them -/
section
variable {X : Cx}
theorem cr_sortedDN (hcalm : X.calm = true) : CallR X (.builtin "sorted") (fun xs H Q => ∃ (a : Addr) (kvs : List (Key × V)) (ks : List Int), xs = [.ref a] ∧ Rd H a (.dK kvs) ∧ kvs.map (·.1) = ks.map Sum.inl ∧
    ∀ (ys : List Int) (p : Addr), ys.Perm ks → ys.Pairwise (· ≤ ·) → H p = none → Q (.ref p) (upd H p (.lst (ys.map V.int)))) := by
  rintro pins s σ H _ us Q I r ⟨a, kvs, ks, rfl, hd, hks, q⟩
  obtain ⟨u, rfl, rx⟩ := vals1 r
  cases rx
  obtain ⟨z, lo, vs, rel, dd⟩ := dk_rd I.hok hd
  obtain ⟨ep, at_⟩ := dd.dictAt
  have keys : vs.map (·.1) = ks.map Sum.inl := rel.keys.symm.trans hks
  have same : vs.length = ks.length := by simpa using congrArg List.length keys
  have small : vs.length ≤ sizeLine := rel.length ▸ z
  have D := PySem.W.kdl_dict (knd := mixKind X.prog X.w) (kvs := vs) (ep := ep) lo
  refine Calls.call_function_entry PyProof.Rows.kind_sorted PyProof.Rows.plain_sorted PyProof.Rows.entry_sorted (PyProof.Rows.args_sorted1 _) ?_
  unfold Builtin.«sorted»
  refine wpAny_bind (m := checkCount "sorted" 1 1 _) (wpAny_pure ?_)
  refine (wpAny_bind (PySem.W.kdu_collect (A := X.A.in1) D (I.ok.hd hcalm) at_ small fun h' tk acc hk hacc => ?_))
  have n1 : acc.toList.length = ks.length := by rw [← same, ← hacc.1, Array.length_toList]
  have n2 : acc.toList.length ≤ sizeLine := by rw [n1, ← same]; exact small
  have nums : IntsAre acc.toList ks := by
    refine ints_each n1 fun j v e => ?_
    obtain ⟨k, x, e1, e2⟩ := hacc.2 j v (Array.getElem?_toList ▸ e)
    have e3 : (ks.map Sum.inl)[j]? = some k := by rw [← keys, List.getElem?_map, e1]; rfl
    rw [List.getElem?_map] at e3
    obtain ⟨y, hy, ek⟩ := Option.map_eq_some_iff.mp e3
    rcases keyIs_shape (show keyIs k v = true from e2) with ⟨i, t, e4, e5⟩ | ⟨i, t, e4, _⟩
    · rw [e4] at ek
      cases ek
      exact ⟨y, t, hy, e5⟩
    · rw [e4] at ek
      cases ek
  have I1 : Inv X pins σ H { s with heap := h', toks := tk } := I.kept hk
  refine wpAny_bind (wpAny_newList ?_ n2)
  have at0 : (h'.push (seqObj "list" acc.toList.toArray 0)).get? h'.objs.size = some (seqObj "list" acc.toList.toArray 0) := Heap.get?_push_size _ rfl
  refine wpAny_bind (wpAny_holding (wpAny_call_entry PyProof.Rows.slot_list_sort ⟨_, at0, rfl⟩ PyProof.Rows.entry_list_sort (SrtO.list_sort_ord (s := { s with heap := h'.push (seqObj "list" acc.toList.toArray 0), toks := tk }) SrtO.swo_int at0 n2 (fun h2 => SrtO.ints_sortable nums h2) fun out h1 h2 => ⟨_, rfl, ?_⟩) (PyProof.Rows.args_list_sort _)))
  obtain ⟨g1, g2, g3⟩ := SrtO.ints_out nums h1 h2
  obtain ⟨ep2, at2⟩ := PyProof.Rows.sortedHeap_at (vs := acc.toList) (out := out.toArray) at0
  have n3 : ((out.map SrtO.iv).map V.int).length ≤ sizeLine := by rw [List.length_map, g2.length_eq, ← n1]; exact n2
  have ob : ObjOk X.prog X.w (upd H h'.objs.size (.lst ((out.map SrtO.iv).map V.int))) _ _ (.lst ((out.map SrtO.iv).map V.int)) := ⟨n3, out, ep2, vals_of_ints g1, at2⟩
  refine wpAny_pure ⟨_, rfl, .ref h'.objs.size, _, I1.laid (t' := tk) (fun b u e => ?_) (Nat.le_refl _) ob, rfl, q _ _ g2 g3 (I1.hok.fresh (Nat.le_refl _))⟩
  have lt : b < h'.objs.size := Heap.lt_size e
  exact (PyProof.Rows.sortedHeap_old (Nat.ne_of_lt lt) (by rw [size_push']; exact Nat.lt_succ_of_lt lt)).trans (Heap.get?_push_of_some _ e)
end
/-! ### a dict of ints that is filled, then sorted -/
structure DjS (T : List NTab) (K : Frag) (F0 H0 : Hp) (i : Nat) (γ : Gm) (ks : List Int) (σ : L2.St) (F H : Hp) : Prop where
  s : StS T K F0 H0 γ σ F H
  n : noOwn γ = true
  d : ∃ a kvs, σ[i]? = some (some (.ref a)) ∧ H a = some (.dK kvs) ∧ F a = none ∧ H0 a = none ∧ kvs.map (·.1) = ks.map Sum.inl
structure DPo where
  nx : Gm → List Int → Prop
  R : Ty
def tDJ (K : Frag) (c : Cfg) (i : Nat) (γ : Gm) (ks : List Int) (po : DPo) : TS := fun D σ H => ∃ F0 H0 F, DjS c.T K F0 H0 i γ ks σ F H ∧
  (∀ γ' ks' σ' F' H', po.nx γ' ks' → DjS c.T K F0 H0 i γ' ks' σ' F' H' → D.nx σ' H') ∧ (∀ v F' H', Grow c.T F0 H0 F' H' → po.R.p v F' → D.rt v H')
abbrev DJ (X : Cx) (c : Cfg) (i : Nat) (γ : Gm) (ks : List Int) (st : Stmt) (po : DPo) : Prop := PS X st (tDJ X.K c i γ ks po)
abbrev DJs (X : Cx) (c : Cfg) (i : Nat) (γ : Gm) (ks : List Int) (st : List Stmt) (po : DPo) : Prop := PSs X st (tDJ X.K c i γ ks po)
def addK (ks : List Int) (k : Int) : List Int := if k ∈ ks then ks else ks ++ [k]
section
variable {T : List NTab} {K : Frag} {F0 H0 F H F2 H2 : Hp} {i : Nat} {γ : Gm} {ks : List Int} {σ : L2.St}
theorem DjS.grow (s : DjS T K F0 H0 i γ ks σ F H) (g : Grow T F H F2 H2) : DjS T K F0 H0 i γ ks σ F2 H2 := by
  obtain ⟨a, kvs, h1, h2, h3, h4, h5⟩ := s.d
  exact ⟨s.s.grow g, s.n, a, kvs, h1, g.h a _ h2 (fun ps z => by cases z), g.own a h3 (by rw [h2]; simp), h4, h5⟩
theorem DjS.rebase (s : DjS T K F0 H0 i γ ks σ F H) : ∃ Hb, DjS T K F Hb i γ ks σ F H ∧ (∀ F' H', Grow T F Hb F' H' → Grow T F0 H0 F' H') ∧ ∀ a, Hb a = none → H0 a = none := by
  obtain ⟨a, kvs, h1, h2, h3, h4, h5⟩ := s.d
  obtain ⟨g1, g2, g3⟩ := grow_cut (S := fun b => b = a) s.s.g (fun b e => ⟨HO.dK kvs, e ▸ h2, trivial⟩) (fun b e => e ▸ h4)
  exact ⟨_, ⟨⟨g1, s.s.s, fun j ds hj => (noOwn_not s.n hj).elim, s.s.uniq⟩, s.n, a, kvs, h1, h2, h3, cut_in rfl, h5⟩, g2, g3⟩
theorem DjS.back {F1 Hb : Hp} (s : DjS T K F1 Hb i γ ks σ F H) (conv : ∀ F' H', Grow T F1 Hb F' H' → Grow T F0 H0 F' H') (fr : ∀ a, Hb a = none → H0 a = none) : DjS T K F0 H0 i γ ks σ F H := by
  obtain ⟨a, kvs, h1, h2, h3, h4, h5⟩ := s.d
  exact ⟨s.s.back conv fr, s.n, a, kvs, h1, h2, h3, fr a h4, h5⟩
end
section
variable {X : Cx} {c : Cfg} {i : Nat} {γ : Gm} {ks : List Int} {po : DPo} {P : Ty} {pos pos' p q1 q2 : Pos} {a b e test iter tg : Expr} {st : Stmt} {sts body : List Stmt} {x : Str} {ds : List PyData}
theorem dj_nil (h : po.nx γ ks) : DJs X c i γ ks [] po := PSs.imp pss_nil fun D σ H ⟨F0, H0, F, s, h1, _⟩ => h1 γ ks σ F H h s
theorem dj_any {u : TS} (hu : ∀ D σ H, u D σ H → ∃ γ ks po, DJs X c i γ ks sts po ∧ tDJ X.K c i γ ks po D σ H) : PSs X sts u := ⟨fun pins s σ H D I q => by
  obtain ⟨γ, ks, po, h, q⟩ := hu D σ H q
  exact h.run pins s σ H D I q⟩
theorem dj_cons (h : DJ X c i γ ks st { po with nx := fun γ' ks' => DJs X c i γ' ks' sts po }) : DJs X c i γ ks (st :: sts) po := by
  refine PSs.imp (pss_cons h (dj_any (u := fun D σ H => ∃ γ' ks', DJs X c i γ' ks' sts po ∧ tDJ X.K c i γ' ks' po D σ H) fun D σ H ⟨γ', ks', q1, q2⟩ => ⟨γ', ks', po, q1, q2⟩)) fun D σ H ⟨F0, H0, F, s, h1, h2⟩ => ?_
  exact ⟨F0, H0, F, s, fun γ' ks' σ' F' H' hn s' => ⟨γ', ks', hn, F0, H0, F', s', h1, h2⟩, h2⟩
theorem dj_last (h : DJ X c i γ ks st po) : DJs X c i γ ks [st] po := pss_one h
def tDB (X : Cx) (c : Cfg) (i : Nat) (body : List Stmt) : TS := fun D σ H => ∃ γ ks po, DJs X c i γ ks body po ∧ tDJ X.K c i γ ks po D σ H
theorem dj_for (l : Bool) (t : Nat) (ht : t ≠ i) (hp : PassesOwn (model X.prog X.w) X.A X.env X.xe) (hc : X.calm = true) (hi : Ev X c.T γ iter (sh X.K (seqD l ds))) (hG : PG X tg (gName t)) (Iv : Nat → Gm → List Int → Prop) (h0 : Iv 0 γ ks)
    (hs : ∀ (k : Nat) (d : PyData) (γ' : Gm) (ks' : List Int), ds[k]? = some d → Iv k γ' ks' → DJs X c i (γ'.set t (.sh (sh X.K d))) ks' body { po with nx := Iv (k + 1) }) (hd : ∀ γ' ks', Iv ds.length γ' ks' → po.nx γ' ks')
    (hf : ∀ x, foldedSetIterable iter X.env x = pure x := by intro _; rfl) : DJ X c i γ ks (.For tg iter body [] pos) po := by
  have setS : ∀ {F0 H0 F H : Hp} {γ : Gm} {ks : List Int} {σ : L2.St} {d : PyData} {v : V}, DjS c.T X.K F0 H0 i γ ks σ F H → Dq X.K F d v → DjS c.T X.K F0 H0 i (γ.set t (.sh (sh X.K d))) ks (σ.set t (some v)) F H := fun {F0 H0 F H γ ks σ d v} s q => by
    obtain ⟨a, kvs, h1, h2, h3, h4, h5⟩ := s.d
    refine ⟨s.s.set (P := sh X.K d) t q, ?_, a, kvs, by rw [List.getElem?_set_ne ht]; exact h1, h2, h3, h4, h5⟩
    refine List.all_eq_true.mpr fun z hz => ?_
    rcases List.mem_or_eq_of_mem_set hz with h | h
    · exact List.all_eq_true.mp s.n z h
    · rw [h]
  refine PS.imp (ps_for hp hc (pi_seq (tg := tg) l hi) hG (dj_any (u := tDB X c i body) fun _ _ _ q => q) hf) fun D σ H ⟨F0, H0, F, s, h1, h2⟩ => ?_
  cases l with
  | true =>
    rw [if_pos rfl]
    refine ⟨F, s.s.s, fun v F1 H1 g1 p1 => ?_⟩
    obtain ⟨a, xs, rfl, k1, k2⟩ := p1
    obtain ⟨Hb, sb, conv, fr⟩ := (s.grow g1).rebase
    refine ⟨a, rfl, ⟨xs, SqL.of (g1.ex.go k1)⟩, for_list (K := X.K) (a := a) (xs := xs) (fun m σ' H' => ∃ γ' ks' F', Iv m γ' ks' ∧ DjS c.T X.K F1 Hb i γ' ks' σ' F' H') ⟨γ, ks, F1, h0, sb⟩ (fun m σ' H' _ ⟨γ', ks', F', _, s'⟩ => SqL.of (s'.s.s.ex.go (s'.s.g.f.go k1))) (fun m x σ' H' hi' ⟨γ', ks', F', hI, s'⟩ => ?_) fun σ' H' ⟨γ', ks', F', hI, s'⟩ => h1 γ' ks' σ' F' H' (hd γ' ks' (by rw [← k2.length]; exact hI)) (s'.back conv fr)⟩
    obtain ⟨d, hd', hx⟩ := k2.get' hi'
    exact ⟨_, ks', _, hs m d γ' ks' hd' hI, F1, Hb, F', setS s' (Dq.mono s'.s.g.f d x hx), fun γ'' ks'' σ'' F'' H'' hn s'' => ⟨γ'', ks'', F'', hn, s''⟩, fun v F' H' g p => h2 v F' H' (conv _ _ g) p⟩
  | false =>
    rw [if_neg Bool.false_ne_true]
    refine ⟨F, s.s.s, fun v F1 H1 g1 p1 => ?_⟩
    obtain ⟨a, xs, rfl, k1, k2⟩ := p1
    obtain ⟨Hb, sb, conv, fr⟩ := (s.grow g1).rebase
    refine ⟨a, rfl, ⟨xs, g1.ex.tup k1⟩, for_tup (K := X.K) (a := a) (xs := xs) (fun m σ' H' => ∃ γ' ks' F', Iv m γ' ks' ∧ DjS c.T X.K F1 Hb i γ' ks' σ' F' H') ⟨γ, ks, F1, h0, sb⟩ (fun m σ' H' _ ⟨γ', ks', F', _, s'⟩ => s'.s.s.ex.tup (s'.s.g.f.tup k1)) (fun m x σ' H' hi' ⟨γ', ks', F', hI, s'⟩ => ?_) fun σ' H' ⟨γ', ks', F', hI, s'⟩ => h1 γ' ks' σ' F' H' (hd γ' ks' (by rw [← k2.length]; exact hI)) (s'.back conv fr)⟩
    obtain ⟨d, hd', hx⟩ := k2.get' hi'
    exact ⟨_, ks', _, hs m d γ' ks' hd' hI, F1, Hb, F', setS s' (Dq.mono s'.s.g.f d x hx), fun γ'' ks'' σ'' F'' H'' hn s'' => ⟨γ'', ks'', F'', hn, s''⟩, fun v F' H' g p => h2 v F' H' (conv _ _ g) p⟩
theorem putK_keys {kvs : List (Key × V)} {ks : List Int} {k : Int} {v : V} (h : kvs.map (·.1) = ks.map Sum.inl) : (putK kvs (Sum.inl k) v).map (·.1) = (addK ks k).map Sum.inl := by
  have hm : (kvs.any fun kv => decide (kv.1 = Sum.inl k)) = true ↔ k ∈ ks := by
    rw [List.any_eq_true]
    constructor
    · rintro ⟨kv, m, e⟩
      have e := of_decide_eq_true e
      have : kv.1 ∈ kvs.map (·.1) := List.mem_map.mpr ⟨kv, m, rfl⟩
      rw [h, e] at this
      obtain ⟨y, hy, e'⟩ := List.mem_map.mp this
      cases e'
      exact hy
    · intro m
      have : (Sum.inl k : Key) ∈ kvs.map (·.1) := by rw [h]; exact List.mem_map.mpr ⟨k, m, rfl⟩
      obtain ⟨kv, m', e⟩ := List.mem_map.mp this
      exact ⟨kv, m', decide_eq_true e⟩
  unfold putK addK
  by_cases c : k ∈ ks
  · rw [if_pos (hm.mpr c), if_pos c, List.map_map, ← h]
    refine List.map_congr_left fun kv _ => ?_
    show (if kv.1 = Sum.inl k then (kv.1, v) else kv).1 = kv.1
    split <;> rfl
  · rw [if_neg (fun z => c (hm.mp z)), if_neg c, List.map_append, List.map_append, h]
    rfl
/-- d[k] = v -/
theorem dj_put {k : Int} (hu : X.A.units + 1 < cLine) (hk : Ev X c.T γ b (sh X.K (.int k))) (hv : Ev X c.T γ e P) (hl : ks.length < sizeLine) (h : po.nx γ (addK ks k)) (hx : PE X (.Name x q1) (tVar i) := by exact pv _)
    (hs : swapsWith e (some (.Subscript (.Name x q1) b pos')) pos.line X.env = pure false := by rfl) : DJ X c i γ ks (.Assign [.Subscript (.Name x q1) b pos'] e pos) po :=
  PS.imp (ps_dput hu hx hk hv hs) fun D σ H ⟨F0, H0, F, s, h1, _⟩ => ⟨F, s.s.s, fun v F1 H1 g1 _ => by
    have s1 := s.grow g1
    obtain ⟨a, kvs, r1, _⟩ := s1.d
    refine ⟨_, r1, F1, s1.s.s, fun y F2 H2 g2 p2 => ?_⟩
    have p2 : y = .int k := p2
    subst p2
    have s2 := s1.grow g2
    obtain ⟨a', kvs', r1', r2, r3, r4, r5⟩ := s2.d
    rw [r1] at r1'
    cases r1'
    refine ⟨a, _, rfl, DPut.k (k := Sum.inl k) r2 (by
      have e := congrArg List.length r5
      rw [List.length_map, List.length_map] at e
      rw [e]
      exact hl), h1 _ _ _ F2 _ h ⟨⟨s2.s.g.mut r4 r3 r2 trivial, ⟨?_, s2.s.s.env, ?_⟩, fun j ds hj => (noOwn_not s2.n hj).elim, s2.s.uniq⟩, s2.n, a, _, r1, upd_same, r3, r4, putK_keys r5⟩⟩
    · exact (s2.s.g.mut (u := HO.dK (putK kvs' (Sum.inl k) v)) r4 r3 r2 trivial).ex
    · exact tabs_upd r2 trivial s2.s.s.tab⟩
/-- return sorted(d) -/
theorem dj_sorted (hc : X.calm = true) (hm : X.mg "sorted" = none) (h : ∀ ys : List Int, ys.Perm ks → ys.Pairwise (· ≤ ·) → po.R = sh X.K (.list (ys.map .int))) (hg : Gl X "sorted" := by rfl) (hx : PE X (.Name x q1) (tVar i) := by exact pv _)
    (he : starEach [.Name x q1] X.env = (false, eval (.Name x q1) X.env) :: starEach [] X.env := by rfl) (hpl : (backTo p (starEach [] X.env)).any (·.1) = false := by rfl) : DJ X c i γ ks (.Return (some (.Call (.Name "sorted" q2) [.Name x q1] [] p)) pos) po :=
  PS.imp (ps_ret (pe_callB (cr_sortedDN hc) hg hm (by decide +kernel) (pa_cons hx pa_nil he) (by decide) (by decide) he hpl)) fun D σ H ⟨F0, H0, F, s, _, h2⟩ => by
    obtain ⟨a, kvs, r1, r2, r3, r4, r5⟩ := s.d
    refine ⟨_, r1, a, kvs, ks, rfl, .inl r2, r5, fun ys p h3 h4 h5 => ?_⟩
    have g := s.s.g.trans (Grow.new (T := c.T) (o := .lst (ys.map V.int)) s.s.s.ex h5)
    refine h2 _ _ _ g ?_
    rw [h ys h3 h4]
    refine ⟨p, _, rfl, upd_same, DqAll.of_ints ys⟩
/-- d = {} -/
theorem sj_dict {po : Po} (i : Nat) (hN : X.N.Nodup) (hn : noOwn (γ.set i .un) = true) (h : DJs X c i (γ.set i .un) [] sts ⟨fun _ _ => False, po.R⟩) (hi : X.N[i]? = some x := by rfl) (hx : Loc X.env.scope x := by first | exact Or.inl rfl | exact Or.inr rfl)
    (hs : swapsWith (.Dict [] [] p) (some (.Name x pos')) pos.line X.env = pure false := by rfl) (hf : X.fn x = true ∨ X.env.scope.names.lookup x = some .local := by first | exact .inl rfl | exact .inr rfl) (hgi : Nat.ble (i + 1) γ.length = true := by rfl) : SJs X c γ (.Assign [.Name x pos'] (.Dict [] [] p) pos :: sts) po := by
  refine PSs.imp (pss_cons (ps_set hN hi hx pe_dnewK hs hf) h) fun D σ H ⟨F0, H0, F, s, _, _, _, h4, _⟩ => fun a ha => ?_
  have hFa : F a = none := s.s.ex.free ha
  have g := Grow.raw (T := c.T) (o := HO.dK []) s.s.ex ha
  have s2 := (s.grow g).s
  have hlen : i < σ.length := by
    rw [s.s.env.1]
    exact Nat.le_of_ble_eq_true hgi
  exact ⟨F0, H0, F, ⟨⟨s.g.trans g, ⟨s2.ex, s2.env.blank i _, s2.tab⟩, fun j ds hj => (noOwn_not hn hj).elim, fun j k ds es hj => (noOwn_not hn hj).elim⟩, hn, a, [], by rw [List.getElem?_set_self hlen], upd_same, hFa, s.g.free a ha, rfl⟩, fun _ _ _ _ _ z => z.elim, h4⟩
end
end Tw
namespace Tw
open PySem PySem.Spec PyProof.Rows L2
/-! ### equal data -/
mutual
def plD : PyData → Bool
  | .none => true
  | .bool _ => false
  | .int _ => true
  | .str s => PyData.strOk s
  | .list ds => plDs ds
  | .tuple ds => plDs ds
  | .dict _ => false
def plDs : List PyData → Bool
  | [] => true
  | d :: ds => plD d && plDs ds
end
mutual
theorem canLay_pl : ∀ d : PyData, plD d = true → d.canLay0 = true
  | .none, _ => by simp only [PyData.canLay0]
  | .bool _, h => by cases h
  | .int _, _ => by simp only [PyData.canLay0]
  | .str s, h => by rw [PyData.canLay0]; exact h
  | .list ds, h => by simp only [PyData.canLay0]; exact canLays_pl ds h
  | .tuple ds, h => by simp only [PyData.canLay0]; exact canLays_pl ds h
  | .dict _, h => by cases h
theorem canLays_pl : ∀ ds : List PyData, plDs ds = true → PyData.canLayAll0 ds = true
  | [], _ => by simp only [PyData.canLayAll0]
  | d :: ds, h => by
    have h' : (plD d && plDs ds) = true := h
    rw [Bool.and_eq_true] at h'
    simp only [PyData.canLayAll0, canLay_pl d h'.1, canLays_pl ds h'.2, Bool.and_self]
end
mutual
theorem eqv_pl : ∀ d e : PyData, plD d = true → plD e = true → (PyData.eqv d e = true ↔ d = e)
  | .none, e, _, he => by cases e <;> simp [PyData.eqv]
  | .bool _, _, h, _ => by cases h
  | .int i, e, _, he => by
    cases e <;> first | (cases he; done) | simp [PyData.eqv]
  | .str s, e, _, he => by
    cases e <;> first | (cases he; done) | simp [PyData.eqv]
  | .list ds, e, h, he => by
    cases e with
    | list es =>
      rw [PyData.eqv, eqvs_pl ds es h he]
      simp
    | bool _ => cases he
    | dict _ => cases he
    | _ => simp [PyData.eqv]
  | .tuple ds, e, h, he => by
    cases e with
    | tuple es =>
      rw [PyData.eqv, eqvs_pl ds es h he]
      simp
    | bool _ => cases he
    | dict _ => cases he
    | _ => simp [PyData.eqv]
  | .dict _, _, h, _ => by cases h
theorem eqvs_pl : ∀ ds es : List PyData, plDs ds = true → plDs es = true → (PyData.eqvAll ds es = true ↔ ds = es)
  | [], [], _, _ => by simp [PyData.eqvAll]
  | [], _ :: _, _, _ => by simp [PyData.eqvAll]
  | _ :: _, [], _, _ => by simp [PyData.eqvAll]
  | d :: ds, e :: es, h, he => by
    have h' : (plD d && plDs ds) = true := h
    have he' : (plD e && plDs es) = true := he
    rw [Bool.and_eq_true] at h' he'
    rw [PyData.eqvAll, Bool.and_eq_true, eqv_pl d e h'.1 he'.1, eqvs_pl ds es h'.2 he'.2]
    simp
end
theorem plDs_all {ds : List PyData} (h : ∀ d ∈ ds, plD d = true) : plDs ds = true := by
  induction ds with
  | nil => rfl
  | cons d ds ih =>
    show (plD d && plDs ds) = true
    rw [h d List.mem_cons_self, ih fun e he => h e (List.mem_cons_of_mem _ he)]
    rfl
theorem plDs_mem {ds : List PyData} (h : plDs ds = true) : ∀ d ∈ ds, plD d = true := by
  induction ds with
  | nil => intro d hd; cases hd
  | cons e ds ih =>
    have h' : (plD e && plDs ds) = true := h
    rw [Bool.and_eq_true] at h'
    intro d hd
    rcases List.mem_cons.mp hd with rfl | hd
    · exact h'.1
    · exact ih h'.2 d hd
section
variable {X : Cx} {T : List NTab} {γ : Gm} {a b : Expr} {pos : Pos}
def rEqF (K : Frag) : R2 := fun x y H Q => ∃ d e, Dp K H x d ∧ Dp K H y e ∧ d.canLay0 = true ∧ e.canLay0 = true ∧ min d.depth e.depth ≤ 64 ∧ Q (.bl (PyData.eqv d e)) H
def rNeF (K : Frag) : R2 := fun x y H Q => ∃ d e, Dp K H x d ∧ Dp K H y e ∧ d.canLay0 = true ∧ e.canLay0 = true ∧ min d.depth e.depth ≤ 64 ∧ Q (.bl (!PyData.eqv d e)) H
theorem op_eqF (hu : X.A.units + 64 < cLine) : OpR X (compareOp .Eq) (rEqF X.K) := by
  intro pins s σ H x y v u Q I rx ry ⟨d, e, hd, he, sd, se, hm, q⟩
  obtain ⟨as, r1⟩ := Dp.reads I d x v hd rx
  obtain ⟨bs, r2⟩ := Dp.reads I e y u he ry
  exact SeqAt.compareEq_reads r1 r2 sd se (by omega) ⟨.bl _, H, I, rfl, q⟩
theorem op_neF (hu : X.A.units + 64 < cLine) : OpR X (compareOp .NotEq) (rNeF X.K) := by
  intro pins s σ H x y v u Q I rx ry ⟨d, e, hd, he, sd, se, hm, q⟩
  obtain ⟨as, r1⟩ := Dp.reads I d x v hd rx
  obtain ⟨bs, r2⟩ := Dp.reads I e y u he ry
  exact SeqAt.compareNe_reads r1 r2 sd se (by omega) ⟨.bl _, H, I, rfl, q⟩
theorem evt_eqF {d d' : PyData} (hu : X.A.units + 64 < cLine) (s : plD d = true) (s' : plD d' = true) (hm : min d.depth d'.depth ≤ 64) (ha : Ev X T γ a (sh X.K d)) (hb : Ev X T γ b (sh X.K d')) : EvT X T γ (.Compare a [.Eq] [b] pos) (PyData.eqv d d') :=
  evt_cmp (op_eqF hu) (fun x y F H Q ex p q k => ⟨d, d', Dq.dp d x (Dq.mono ex d x p), Dq.dp d' y (Dq.mono ex d' y q), canLay_pl d s, canLay_pl d' s', hm, k _ F H (Grow.refl ex) rfl⟩) ha hb (nomark _)
theorem ev_eqF {d d' : PyData} (hu : X.A.units + 64 < cLine) (s : plD d = true) (s' : plD d' = true) (hm : min d.depth d'.depth ≤ 64) (ha : Ev X T γ a (sh X.K d)) (hb : Ev X T γ b (sh X.K d')) : Ev X T γ (.Compare a [.Eq] [b] pos) (sh X.K (.bool (PyData.eqv d d'))) :=
  ev_cmp (op_eqF hu) (fun x y F H Q ex p q k => ⟨d, d', Dq.dp d x (Dq.mono ex d x p), Dq.dp d' y (Dq.mono ex d' y q), canLay_pl d s, canLay_pl d' s', hm, k _ F H (Grow.refl ex) rfl⟩) ha hb (nomark _)
theorem evt_neF {d d' : PyData} (hu : X.A.units + 64 < cLine) (s : plD d = true) (s' : plD d' = true) (hm : min d.depth d'.depth ≤ 64) (ha : Ev X T γ a (sh X.K d)) (hb : Ev X T γ b (sh X.K d')) : EvT X T γ (.Compare a [.NotEq] [b] pos) (!PyData.eqv d d') :=
  evt_cmp (op_neF hu) (fun x y F H Q ex p q k => ⟨d, d', Dq.dp d x (Dq.mono ex d x p), Dq.dp d' y (Dq.mono ex d' y q), canLay_pl d s, canLay_pl d' s', hm, k _ F H (Grow.refl ex) rfl⟩) ha hb (nomark _)
theorem ev_neg {i : Int} (ha : Ev X T γ a (sh X.K (.int i))) : Ev X T γ (.UnaryOp .USub a pos) (sh X.K (.int (-i))) :=
  PE.imp (pe_un un_neg ha) fun σ H Q ⟨F, s, q⟩ => ⟨F, s, fun v F2 H2 g p => ⟨i, p, q _ F2 H2 g rfl⟩⟩
end
end Tw
namespace Td
open PySem PySem.Spec PyProof.Rows L2 Tw
open Tl (NP pwin wstep norm maxL nOf)
theorem u1 {k : Nat} {A : Around} (r : Room k A) : A.units + 1 < cLine := by have := r.units; omega
theorem u64 {k : Nat} {A : Around} (r : Room k A) : A.units + 64 < cLine := r.units
theorem u65 {k : Nat} {A : Around} (r : Room k A) : A.units + 65 < cLine := by have := r.un; omega
/-! ### the lengths around -/
def byL : List Int := [-2, -1, 0, 1, 2]
def near (ks : List Int) (j : Nat) (bs : List Int) : List Int := bs.foldl (fun ks b => addK ks (max 0 ((j : Int) + b))) ks
def keysA (J : List Nat) : List Int := J.foldl (fun ks j => near ks j byL) []
def aroundI (J : List Nat) : List Int := (keysA J).mergeSort fun a b => decide (a ≤ b)
def aroundL (J : List Nat) : List Nat := (aroundI J).map Int.toNat
theorem mem_addK {ks : List Int} {k x : Int} : x ∈ addK ks k ↔ x ∈ ks ∨ x = k := by
  unfold addK
  by_cases h : k ∈ ks
  · rw [if_pos h]
    constructor
    · exact .inl
    · rintro (q | rfl)
      · exact q
      · exact h
  · rw [if_neg h]
    simp
theorem mem_near {j : Nat} {x : Int} : ∀ (bs ks : List Int), x ∈ near ks j bs ↔ x ∈ ks ∨ ∃ b ∈ bs, x = max 0 ((j : Int) + b)
  | [], ks => by
    unfold near
    simp
  | b :: bs, ks => by
    have ih := mem_near (x := x) (j := j) bs (addK ks (max 0 ((j : Int) + b)))
    unfold near at ih ⊢
    rw [List.foldl_cons, ih, mem_addK]
    simp only [List.mem_cons, exists_eq_or_imp]
    exact or_assoc
theorem mem_keys {x : Int} : ∀ (J : List Nat) (ks : List Int), x ∈ J.foldl (fun ks j => near ks j byL) ks ↔ x ∈ ks ∨ ∃ j ∈ J, ∃ b ∈ byL, x = max 0 ((j : Int) + b)
  | [], ks => by simp
  | j :: J, ks => by
    rw [List.foldl_cons, mem_keys J, mem_near]
    simp only [List.mem_cons, exists_eq_or_imp]
    exact or_assoc
theorem addK_len (ks : List Int) (k : Int) : (addK ks k).length ≤ ks.length + 1 := by
  unfold addK
  split
  · exact Nat.le_succ _
  · rw [List.length_append]; exact Nat.le_refl _
theorem near_len (j : Nat) : ∀ (bs ks : List Int), (near ks j bs).length ≤ ks.length + bs.length
  | [], ks => Nat.le_refl _
  | b :: bs, ks => by
    have := near_len j bs (addK ks (max 0 ((j : Int) + b)))
    have := addK_len ks (max 0 ((j : Int) + b))
    unfold near at *
    rw [List.foldl_cons, List.length_cons]
    omega
theorem keys_len : ∀ (J : List Nat) (ks : List Int), (J.foldl (fun ks j => near ks j byL) ks).length ≤ ks.length + 5 * J.length
  | [], ks => Nat.le_refl _
  | j :: J, ks => by
    have := keys_len J (near ks j byL)
    have := near_len j byL ks
    have e : byL.length = 5 := rfl
    rw [List.foldl_cons, List.length_cons]
    omega
theorem aroundI_sorted (J : List Nat) : (aroundI J).Pairwise (· ≤ ·) := by
  have := List.pairwise_mergeSort (le := fun a b : Int => decide (a ≤ b)) (fun a b c h1 h2 => by simp at *; omega) (fun a b => by simp; omega) (keysA J)
  exact this.imp fun h => by simpa using h
theorem aroundI_perm (J : List Nat) : (aroundI J).Perm (keysA J) := List.mergeSort_perm _ _
theorem aroundI_uniq {J : List Nat} {ys : List Int} (h : ys.Perm (keysA J)) (s : ys.Pairwise (· ≤ ·)) : ys = aroundI J :=
  List.Perm.eq_of_pairwise (fun a b _ _ h1 h2 => Int.le_antisymm h1 h2) s (aroundI_sorted J) (h.trans (aroundI_perm J).symm)
theorem mem_aroundI {J : List Nat} {x : Int} : x ∈ aroundI J ↔ ∃ j ∈ J, ∃ b ∈ byL, x = max 0 ((j : Int) + b) := by
  rw [(aroundI_perm J).mem_iff]
  unfold keysA
  rw [mem_keys]
  simp
theorem aroundI_nat (J : List Nat) : (aroundI J).map PyData.int = natsL (aroundL J) := by
  unfold natsL aroundL
  rw [List.map_map]
  refine List.map_congr_left fun x hx => ?_
  obtain ⟨j, _, b, _, rfl⟩ := mem_aroundI.mp hx
  show PyData.int _ = PyData.int ((max 0 ((j : Int) + b)).toNat : Int)
  congr 1
  omega
theorem around_is (J : List Nat) : Tl.Around J (aroundL J) := by
  refine ⟨?_, fun x => ?_⟩
  · unfold aroundL
    rw [List.pairwise_map]
    exact (aroundI_sorted J).imp fun h => by omega
  · unfold aroundL
    rw [List.mem_map]
    constructor
    · rintro ⟨y, hy, rfl⟩
      obtain ⟨j, hj, b, hb, rfl⟩ := mem_aroundI.mp hy
      refine ⟨j, hj, ?_⟩
      have hb : b = -2 ∨ b = -1 ∨ b = 0 ∨ b = 1 ∨ b = 2 := by simpa [byL] using hb
      omega
    · rintro ⟨j, hj, h⟩
      have : ∃ b ∈ byL, x = (max 0 ((j : Int) + b)).toNat := by
        rcases h with h | h | h | h | h
        · exact ⟨-2, by simp [byL], by omega⟩
        · exact ⟨-1, by simp [byL], by omega⟩
        · exact ⟨0, by simp [byL], by omega⟩
        · exact ⟨1, by simp [byL], by omega⟩
        · exact ⟨2, by simp [byL], by omega⟩
      obtain ⟨b, hb, e⟩ := this
      exact ⟨_, mem_aroundI.mpr ⟨j, hj, b, hb, rfl⟩, e.symm⟩
section
variable {P : Program} {w : World} {K : Frag} {mg : Str → Option Value} {base : Heap} {T : List NTab} {C CN : Addr}
abbrev s_around : Stmt := top 8
def S_around (K : Frag) : List Nat → Pr := fun J => ⟨J.length ≤ 100, [sh K (.list (natsL J))], .ok (sh K (.list (natsL (aroundL J))))⟩
theorem sc_around : FnScope ["joints", "found", "own", "by"] ["joints"] (defScope s_around) := ⟨rfl, rfl, rfl, by decide +kernel, rfl, by decide +kernel, by decide +kernel⟩
theorem near_take {ks : List Int} {j m : Nat} {b : Int} (h : byL[m]? = some b) : near ks j (byL.take (m + 1)) = addK (near ks j (byL.take m)) (max 0 ((j : Int) + b)) := by
  unfold near
  rw [take_snoc h, List.foldl_append]
  rfl
theorem ok_around {f : Addr} {fd : FuncData} (F : Fun K "around" "around" s_around f fd) (X : Txt K mg) : FnOk P w K mg base CX0 1 f fd ["joints"] (spF T C (S_around K)) := by
  refine def_ok F sc_around (fun _ => rfl) fun J hJ cdv A outer s H E hr => ?_
  have hJ : J.length ≤ 100 := hJ
  refine sj_dict 1 sc_around.nd rfl ?_
  refine dj_cons (dj_for true 2 (by decide) PassesOwn.never rfl (ds := natsL J) (ev_var 0 rfl) (pg_name sc_around.nd rfl (.inl rfl))
    (fun k γ ks => ∃ x y, γ = [.sh (sh K (.list (natsL J))), .un, x, y] ∧ ks = keysA (J.take k)) ⟨_, _, rfl, rfl⟩ ?_ ?_)
  · rintro k d _ _ hd ⟨x, y, rfl, rfl⟩
    obtain ⟨j, hj, rfl⟩ := map_get hd
    have hk : k < J.length := by
      rcases Nat.lt_or_ge k J.length with h | h
      · exact h
      · rw [List.getElem?_eq_none h] at hj; cases hj
    refine dj_last (dj_for false 3 (by decide) PassesOwn.never rfl (ds := byL.map .int) (ev_tup (ds := [_, _, _, _, _]) (eva_cons (ev_neg ev_int) (eva_cons (ev_neg ev_int) (eva_cons ev_int (eva_cons ev_int (eva_cons ev_int eva_nil)))))) (pg_name sc_around.nd rfl (.inl rfl))
      (fun m γ ks => ∃ x, γ = [.sh (sh K (.list (natsL J))), .un, .sh (sh K (.int j)), x] ∧ ks = near (keysA (J.take k)) j (byL.take m)) ⟨_, rfl, rfl⟩ ?_ ?_)
    · rintro m d _ _ hd ⟨x, rfl, rfl⟩
      obtain ⟨b, hb, rfl⟩ := map_get hd
      refine dj_last (dj_put (u1 hr) (k := max 0 ((j : Int) + b)) (ev_max rfl X.max ev_int (ev_add (ev_var 2 rfl) (ev_var 3 rfl))) ev_bl ?_ ⟨_, rfl, (near_take hb).symm⟩)
      have h1 := near_len j (byL.take m) (keysA (J.take k))
      have h2 := keys_len (J.take k) []
      have h3 : (byL.take m).length ≤ 5 := by rw [List.length_take]; exact Nat.min_le_right _ _
      have h4 : (J.take k).length ≤ 100 := by rw [List.length_take]; omega
      have h5 : ([] : List Int).length = 0 := rfl
      unfold keysA at h1
      exact small_of (m := 505) (by unfold keysA; omega) rfl
    · rintro _ _ ⟨x, rfl, rfl⟩
      refine ⟨_, _, rfl, ?_⟩
      rw [show (byL.map PyData.int).length = 5 from rfl, show byL.take 5 = byL from rfl]
      unfold keysA
      rw [take_snoc hj, List.foldl_append]
      rfl
  · rintro _ _ ⟨x, y, rfl, rfl⟩
    have e : J.take (natsL J).length = J := by
      rw [natsL, List.length_map, List.take_length]
    rw [e]
    refine dj_last (dj_sorted rfl X.sorted (fun ys h1 h2 => ?_))
    rw [aroundI_uniq h1 h2, aroundI_nat]
    rfl
end
end Td
namespace Td
open PySem PySem.Spec PyProof.Rows L2 Tw
open Tl (NP pwin wstep norm maxL nOf)
/-- what callers of a normal pipeline lean on -/
structure NS (P : Program) (w : World) (K : Frag) (mg : Str → Option Value) (base : Heap) (T : List NTab) (C CN : Addr) : Prop where
  t : TxtN K CN
  x : Txt K mg
  nm : MkN P w K mg base T CN
  last : Mt P w K mg base CX0 1 CN "last" ["self"] (spF T C (S_last K CN))
  steps : Mt P w K mg base CX0 1 CN "steps" ["self"] (spF T C (S_steps K CN))
  off : Mt P w K mg base CX0 1 CN "off" ["self"] (spF T C (S_off K CN))
  joints : Mt P w K mg base CX0 2 CN "joints" ["self"] (spF T C (S_joints K CN))
  beyond : Mt P w K mg base CX0 3 CN "beyond" ["self"] (spF T C (S_beyond K CN))
  win : Mt P w K mg base CX0 2 CN "window" ["self", "length"] (spF T C (S_nwin K CN))
  lastStart : Mt P w K mg base CX0 4 CN "last_start" ["self"] (spF T C (S_lastStart K CN))
  lastEnd : Mt P w K mg base CX0 4 CN "last_end" ["self"] (spF T C (S_lastEnd K CN))
theorem kS_ok (k : TKind) : PyData.strOk (kS k) = true := by cases k <;> decide +kernel
theorem step_pl (s : TStep) : plD (stepD s) = true := by
  show (PyData.strOk (kS s.kind) && (true && true)) = true
  rw [kS_ok]
  rfl
theorem steps_pl (p : Pipe) : plD (.list (stepsL p)) = true := plDs_all fun d hd => by
  obtain ⟨s, _, rfl⟩ := List.mem_map.mp hd
  exact step_pl s
theorem depthAll_le {ds : List PyData} {n : Nat} (h : ∀ d ∈ ds, d.depth ≤ n) : PyData.depthAll ds ≤ n := by
  induction ds with
  | nil => rw [PyData.depthAll]; exact Nat.zero_le _
  | cons d ds ih =>
    rw [PyData.depthAll]
    exact Nat.max_le.mpr ⟨h d List.mem_cons_self, ih fun e he => h e (List.mem_cons_of_mem _ he)⟩
theorem step_depth (s : TStep) : (stepD s).depth ≤ 1 := by
  unfold stepD
  simp [PyData.depth, PyData.depthAll]
theorem steps_depth (p : Pipe) : (PyData.list (stepsL p)).depth ≤ 2 := by
  rw [PyData.depth]
  have := depthAll_le (ds := stepsL p) (n := 1) fun d hd => by
    obtain ⟨s, _, rfl⟩ := List.mem_map.mp hd
    exact step_depth s
  omega
theorem kS_inj {a b : TKind} (h : kS a = kS b) : a = b := by
  cases a <;> cases b <;> first | rfl | exact absurd h (by decide +kernel)
theorem stepD_inj {s u : TStep} (h : stepD s = stepD u) : s = u := by
  obtain ⟨k, n⟩ := s
  obtain ⟨l, m⟩ := u
  unfold stepD at h
  injection h with h
  injection h with h1 h2
  injection h1 with h1
  injection h2 with h2 _
  injection h2 with h2
  have e1 : k = l := kS_inj h1
  have e2 : n = m := Int.ofNat.inj h2
  rw [e1, e2]
theorem map_inj' {α β : Type} {f : α → β} (hf : ∀ a b, f a = f b → a = b) : ∀ {l m : List α}, l.map f = m.map f → l = m
  | [], [], _ => rfl
  | [], _ :: _, h => by cases h
  | _ :: _, [], h => by cases h
  | a :: l, b :: m, h => by
    rw [List.map_cons, List.map_cons] at h
    injection h with h1 h2
    rw [hf a b h1, map_inj' hf h2]
theorem stepsL_inj {p q : Pipe} (h : stepsL p = stepsL q) : p = q := map_inj' (fun _ _ => stepD_inj) h
theorem steps_eqv (p q : Pipe) : PyData.eqv (.list (stepsL p)) (.list (stepsL q)) = true ↔ p = q := by
  rw [eqv_pl _ _ (steps_pl p) (steps_pl q)]
  constructor
  · intro h
    injection h with h
    exact stepsL_inj h
  · rintro rfl
    rfl
theorem win_pl (u : Nat × Nat) : plD (winD u) = true := rfl
theorem win_depth (u : Nat × Nat) : (winD u).depth ≤ 1 := by
  unfold winD
  simp [PyData.depth, PyData.depthAll]
theorem win_eqv (u v : Nat × Nat) : PyData.eqv (winD u) (winD v) = decide (u = v) := by
  rw [Bool.eq_iff_iff, eqv_pl _ _ (win_pl u) (win_pl v), decide_eq_true_iff]
  constructor
  · intro h
    unfold winD at h
    injection h with h
    injection h with h1 h2
    injection h1 with h1
    injection h2 with h2 _
    injection h2 with h2
    exact Prod.ext (Int.ofNat.inj h1) (Int.ofNat.inj h2)
  · rintro rfl
    rfl
theorem find_take {α : Type} {p : α → Bool} : ∀ {l : List α} {k : Nat} {x : α}, l[k]? = some x → (∀ y ∈ l.take k, p y = false) → p x = true → l.find? p = some x
  | [], _, _, h, _, _ => by simp at h
  | a :: l, 0, x, h, _, hp => by
    cases h
    rw [List.find?_cons, hp]
  | a :: l, k + 1, x, h, hn, hp => by
    rw [List.find?_cons, hn a (by simp)]
    exact find_take (l := l) (k := k) h (fun y hy => hn y (by simp [hy])) hp
theorem joints_len (o : NP) : o.joints.length = 3 + o.turns.length := by
  unfold NP.joints
  rw [List.length_append, List.length_map]
  rfl
theorem natsL_app (a b : List Nat) : natsL a ++ natsL b = natsL (a ++ b) := by
  unfold natsL
  rw [List.map_append]
theorem natsL_len (a : List Nat) : (natsL a).length = a.length := List.length_map ..
theorem size_le {n m : Nat} (h : n ≤ m) (hm : Nat.ble m 1000000 = true) : n ≤ sizeLine := Nat.le_of_lt (small_of h hm)
section
variable {P : Program} {w : World} {K : Frag} {mg : Str → Option Value} {base : Heap} {T : List NTab} {C CN : Addr}
abbrev s_diff : Stmt := top 9
def S_diff (K : Frag) : Pipe × Pipe → Pr := fun i => ⟨i.1.length ≤ 20 ∧ i.2.length ≤ 20, [sh K (.list (stepsL i.1)), sh K (.list (stepsL i.2))], .ok (sh K (optN (R7256f.Spec.difference (nOf i.1).form (nOf i.2).form)))⟩
theorem sc_diff : FnScope ["first", "second", "one", "other", "length"] ["first", "second"] (defScope s_diff) := ⟨rfl, rfl, rfl, by decide +kernel, rfl, by decide +kernel, by decide +kernel⟩
theorem ok_diff {f : Addr} {fd : FuncData} (F : Fun K "first_difference" "first_difference" s_diff f fd) (N : NS P w K mg base T C CN) (f_around : Fn P w K mg base CX0 1 "around" ["joints"] (spF T C (S_around K))) : FnOk P w K mg base CX0 5 f fd ["first", "second"] (spF T C (S_diff K)) := by
  refine def_ok F sc_diff (fun _ => rfl) fun ⟨p, q⟩ hpq cdv A outer s H E hr => ?_
  obtain ⟨hp, hq⟩ : p.length ≤ 20 ∧ q.length ≤ 20 := hpq
  have hA : (nOf p).turns.length ≤ 60 := Nat.le_trans (Tl.nOf_len p) (by omega)
  have hB : (nOf q).turns.length ≤ 60 := Nat.le_trans (Tl.nOf_len q) (by omega)
  have jA := joints_len (nOf p)
  have jB := joints_len (nOf q)
  have lA := Tl.nOf_len p
  have lB := Tl.nOf_len q
  refine sj_cons (sj_set 2 (ev_normal N.nm hr (by decide) p (by omega) (ev_var 0 rfl)) ?_ sc_diff.nd)
  refine sj_cons (sj_set 3 (ev_normal N.nm hr (by decide) q (by omega) (ev_var 1 rfl)) ?_ sc_diff.nd)
  have wA := Tl.nOf_wf p
  have wB := Tl.nOf_wf q
  show SJs _ _ [.sh (sh K (.list (stepsL p))), .sh (sh K (.list (stepsL q))), .sh (nrm K CN (nOf p)), .sh (nrm K CN (nOf q)), .un] _ (poOf (.ok (sh K (optN (R7256f.Spec.difference (nOf p).form (nOf q).form)))))
  generalize nOf p = a at hA jA lA wA ⊢
  generalize nOf q = b at hB jB lB wB ⊢
  refine sj_cons (sj_if (evt_eqF (u64 hr) (steps_pl a.steps) (steps_pl b.steps) (Nat.le_trans (Nat.min_le_left _ _) (Nat.le_trans (steps_depth _) (by decide))) (ev_meth0 N.steps hr (by decide) a hA rfl rfl (obj_ins rfl) (ev_var 2 rfl)) (ev_meth0 N.steps hr (by decide) b hB rfl rfl (obj_ins rfl) (ev_var 3 rfl))) (fun h => ?_) fun h => ?_)
  · refine sj_last (sj_ret (ev_non.cast ?_))
    show PyData.none = optN _
    rw [Tl.difference_same wA wB ((steps_eqv _ _).mp h)]
    rfl
  · refine sj_nil ?_
    have hd := Tl.difference_around wA wB (J := a.joints ++ b.joints ++ [a.beyond, b.beyond]) (fun j hj => List.mem_append_left _ hj) (around_is _)
    have hJ : (a.joints ++ b.joints ++ [a.beyond, b.beyond]).length ≤ 100 := by
      rw [List.length_append, List.length_append, List.length_cons, List.length_singleton]
      omega
    refine sj_cons (sj_for true PassesOwn.never rfl (ds := natsL (aroundL (a.joints ++ b.joints ++ [a.beyond, b.beyond]))) (ev_call f_around hr (by decide) _ hJ rfl (eva_cons (Ev.cast (EvN.sh (evn_cat (EvN.sh (evn_cat (ev_meth0 N.joints hr (by decide) a hA rfl rfl (obj_ins rfl) (ev_var 2 rfl)) (ev_meth0 N.joints hr (by decide) b hB rfl rfl (obj_ins rfl) (ev_var 3 rfl)) ?_))
      (EvN.sh (evn_lst (ds := [.int a.beyond, .int b.beyond]) (eva_cons (ev_meth0 N.beyond hr (by decide) a hA rfl rfl (obj_ins rfl) (ev_var 2 rfl)) (eva_cons (ev_meth0 N.beyond hr (by decide) b hB rfl rfl (obj_ins rfl) (ev_var 3 rfl)) eva_nil)))) ?_)) (congrArg PyData.list ?_)) eva_nil)) (pg_name sc_diff.nd rfl (.inl rfl)) (tgt_name 4) (fun _ _ => trivial)
      (fun k γ => ∃ x, γ = [.sh (sh K (.list (stepsL p))), .sh (sh K (.list (stepsL q))), .sh (nrm K CN a), .sh (nrm K CN b), x] ∧ ∀ n ∈ (aroundL (a.joints ++ b.joints ++ [a.beyond, b.beyond])).take k, decide (a.win n ≠ b.win n) = false) ⟨_, rfl, fun _ h => by cases h⟩ ?_ ?_)
    · rw [natsL_len, natsL_len]
      exact size_le (m := 100) (by rw [jA, jB]; omega) rfl
    · rw [List.length_append, natsL_len, natsL_len]
      exact size_le (m := 100) (by rw [jA, jB]; show _ + 2 ≤ 100; omega) rfl
    · rw [natsL_app]
      exact natsL_app (a.joints ++ b.joints) [a.beyond, b.beyond]
    · rintro k d _ hdk ⟨x, rfl, hn⟩
      obtain ⟨n, hnk, rfl⟩ := map_get hdk
      refine sj_last (sj_if (evt_neF (u64 hr) (win_pl _) (win_pl _) (Nat.le_trans (Nat.min_le_left _ _) (Nat.le_trans (win_depth _) (by decide))) (ev_meth N.win hr (by decide) (a, n) hA rfl rfl (obj_ins rfl) (ev_var 2 rfl) (eva_cons (ev_var 4 rfl) eva_nil)) (ev_meth N.win hr (by decide) (b, n) hB rfl rfl (obj_ins rfl) (ev_var 3 rfl) (eva_cons (ev_var 4 rfl) eva_nil))) (fun h => ?_) fun h => ?_)
      · rw [win_eqv] at h
        have h : decide (a.win n ≠ b.win n) = true := by
          rw [decide_not]
          exact h
        refine sj_last (sj_ret ((ev_var 4 rfl).cast ?_))
        show PyData.int n = optN _
        rw [← hd, find_take hnk hn h]
        rfl
      · rw [win_eqv] at h
        have h : decide (a.win n ≠ b.win n) = false := by
          rw [decide_not]
          exact h
        refine sj_nil ⟨_, rfl, fun m hm => ?_⟩
        rw [take_snoc hnk] at hm
        rcases List.mem_append.mp hm with hm | hm
        · exact hn m hm
        · rw [List.mem_singleton.mp hm]
          exact h
    · rintro _ ⟨x, rfl, hn⟩
      rw [natsL_len, List.take_length] at hn
      refine sj_last (sj_ret (ev_non.cast ?_))
      show PyData.none = optN _
      rw [← hd, List.find?_eq_none.mpr (fun m hm => by rw [hn m hm]; simp)]
      rfl
/-! ### lengths_of -/
def lenD : Option (Nat × Option Nat) → PyData
  | none => .none
  | some e => .tuple [.int e.1, optN e.2]
abbrev s_lof : Stmt := top 10
def S_lof (K : Frag) : Pipe × Nat → Pr := fun i => ⟨i.1.length ≤ 20, [sh K (.list (stepsL i.1)), sh K (.int i.2)], .ok (sh K (lenD (R7256f.Spec.lengthsOf (nOf i.1).form i.2)))⟩
theorem sc_lof : FnScope ["steps", "size", "own", "last"] ["steps", "size"] (defScope s_lof) := ⟨rfl, rfl, rfl, by decide +kernel, rfl, by decide +kernel, by decide +kernel⟩
theorem isNo_turn (e : Bool × Nat) : isNo (turnD e) = false := rfl
theorem ok_lof {f : Addr} {fd : FuncData} (F : Fun K "lengths_of" "lengths_of" s_lof f fd) (N : NS P w K mg base T C CN) : FnOk P w K mg base CX0 5 f fd ["steps", "size"] (spF T C (S_lof K)) := by
  refine def_ok F sc_lof (fun _ => rfl) fun ⟨p, n⟩ hp cdv A outer s H E hr => ?_
  have hp : p.length ≤ 20 := hp
  have hA : (nOf p).turns.length ≤ 60 := Nat.le_trans (Tl.nOf_len p) (by omega)
  refine sj_cons (sj_set 2 (ev_normal N.nm hr (by decide) p (by omega) (ev_var 0 rfl)) ?_ sc_lof.nd)
  show SJs _ _ [.sh (sh K (.list (stepsL p))), .sh (sh K (.int n)), .sh (nrm K CN (nOf p)), .un] _ (poOf (.ok (sh K (lenD (R7256f.Spec.lengthsOf (nOf p).form n)))))
  generalize nOf p = a at hA ⊢
  rw [← Tl.lengthsOf_is]
  refine sj_cons (sj_set 3 (P := sh K (lastD a)) (ev_meth0 N.last hr (by decide) a hA rfl rfl (obj_ins rfl) (ev_var 2 rfl)) ?_ sc_lof.nd)
  refine sj_cons (sj_if (evt_val (fE N.t (ev_var 2 rfl))) (fun he => ?_) fun he => ?_)
  · refine sj_last (sj_ret (ev_if (evt_eqI (ev_var 1 rfl) ev_int) (fun h => ?_) fun h => ?_))
    · have h : n = 0 := by have := of_decide_eq_true h; omega
      refine (ev_tup (ds := [_, _]) (eva_cons ev_int (eva_cons ev_non eva_nil))).cast ?_
      unfold Tl.lengthsOfM
      rw [if_pos he, if_pos h]
      rfl
    · have h : ¬ n = 0 := by have := of_decide_eq_false h; omega
      refine ev_non.cast ?_
      unfold Tl.lengthsOfM
      rw [if_pos he, if_neg h]
      rfl
  · refine sj_nil ?_
    have he : ¬ a.emp = true := by rw [he]; simp
    refine sj_cons (sj_if (evt_eqI (ev_var 1 rfl) ev_int) (fun h => ?_) fun h => ?_)
    · have h : n = 0 := by have := of_decide_eq_true h; omega
      refine sj_last (sj_ret (Ev.cast (ev_tup (ds := [_, _]) (eva_cons ev_int (eva_cons (ev_meth0 N.off hr (by decide) a hA rfl rfl (obj_ins rfl) (ev_var 2 rfl)) eva_nil))) ?_))
      unfold Tl.lengthsOfM
      rw [if_neg he, if_pos h]
      rfl
    · have h : ¬ n = 0 := by have := of_decide_eq_false h; omega
      refine sj_nil ?_
      cases hl : a.turns.getLast? with
      | none =>
        have hL : lastD a = .none := by
          unfold lastD
          rw [hl]
        rw [hL]
        refine sj_cons (sj_if (EvW.t (evw_and (l := false) (evt_notN (ev_var 3 rfl)) (fun z => by cases z))) (fun z => by cases z) fun _ => ?_)
        refine sj_nil (sj_last (sj_ret (Ev.cast (ev_tup (ds := [_, _]) (eva_cons (ev_add (ev_meth0 N.off hr (by decide) a hA rfl rfl (obj_ins rfl) (ev_var 2 rfl)) (ev_var 1 rfl)) (eva_cons (ev_add (ev_meth0 N.off hr (by decide) a hA rfl rfl (obj_ins rfl) (ev_var 2 rfl)) (ev_var 1 rfl)) eva_nil))) ?_)))
        unfold Tl.lengthsOfM
        rw [if_neg he, if_neg h, hl]
        rfl
      | some y =>
        have hL : lastD a = turnD y := by
          unfold lastD
          rw [hl]
        rw [hL]
        refine sj_cons (sj_if (EvW.t (evw_and (evt_notN (ev_var 3 rfl)) (fun _ => evw_and1 (evt_ge (ev_var 1 rfl) (ev_ixT (d := .int y.2) (ev_var 3 rfl) ev_int))))) (fun h2 => ?_) fun h2 => ?_)
        · have h2 : y.2 ≤ n := by
            have := of_decide_eq_true (show decide ((y.2 : Int) ≤ n) = true from h2)
            omega
          refine sj_last (sj_ret (ev_if (evt_eqI (ev_var 1 rfl) (ev_ixT (d := .int y.2) (ev_var 3 rfl) ev_int)) (fun h3 => ?_) fun h3 => ?_))
          · have h3 : n = y.2 := by have := of_decide_eq_true h3; omega
            refine Ev.cast (ev_tup (ds := [_, _]) (eva_cons (ev_add (ev_meth0 N.off hr (by decide) a hA rfl rfl (obj_ins rfl) (ev_var 2 rfl)) (ev_var 1 rfl)) (eva_cons ev_non eva_nil))) ?_
            unfold Tl.lengthsOfM
            rw [if_neg he, if_neg h, hl]
            show _ = lenD (if y.2 ≤ n then _ else _)
            rw [if_pos h2, if_pos h3]
            rfl
          · have h3 : ¬ n = y.2 := by have := of_decide_eq_false h3; omega
            refine ev_non.cast ?_
            unfold Tl.lengthsOfM
            rw [if_neg he, if_neg h, hl]
            show _ = lenD (if y.2 ≤ n then _ else _)
            rw [if_pos h2, if_neg h3]
            rfl
        · have h2 : ¬ y.2 ≤ n := by
            have := of_decide_eq_false (show decide ((y.2 : Int) ≤ n) = false from h2)
            omega
          refine sj_nil (sj_last (sj_ret (Ev.cast (ev_tup (ds := [_, _]) (eva_cons (ev_add (ev_meth0 N.off hr (by decide) a hA rfl rfl (obj_ins rfl) (ev_var 2 rfl)) (ev_var 1 rfl)) (eva_cons (ev_add (ev_meth0 N.off hr (by decide) a hA rfl rfl (obj_ins rfl) (ev_var 2 rfl)) (ev_var 1 rfl)) eva_nil))) ?_)))
          unfold Tl.lengthsOfM
          rw [if_neg he, if_neg h, hl]
          show _ = lenD (if y.2 ≤ n then _ else _)
          rw [if_neg h2]
          rfl
end
end Td
namespace Td
open PySem PySem.Spec PyProof.Rows L2 Tw
open Tl (NP pwin wstep norm maxL nOf readingM)
theorem evw_if {X : Cx} {T : List NTab} {γ : Gm} {k l : Bool} {a b : Expr} {pos : Pos} (ha : EvT X T γ a k) (hb : k = true → EvT X T γ b l) : EvT X T γ (.BoolOp .And [a, b] pos) (k && l) := EvW.t (evw_and ha fun h => evw_and1 (hb h))
section
variable {P : Program} {w : World} {K : Frag} {mg : Str → Option Value} {base : Heap} {T : List NTab} {C CN : Addr}
abbrev s_reading : Stmt := top 13
def S_reading (K : Frag) (CN : Addr) : NP × Nat → Pr := fun i => ⟨i.1.turns.length ≤ 60, [nrm K CN i.1, sh K (.int i.2)], .ok (sh K (.tuple [winD (readingM i.1 i.2).1, winD (readingM i.1 i.2).2]))⟩
theorem sc_reading : FnScope ["own", "count", "start", "end", "certain", "first", "last", "behind"] ["own", "count"] (defScope s_reading) := ⟨rfl, rfl, rfl, by decide +kernel, rfl, by decide +kernel, by decide +kernel⟩
theorem optN_no (o : Option Nat) : isNo (optN o) = o.isNone := by cases o <;> rfl
theorem ok_reading {f : Addr} {fd : FuncData} (F : Fun K "reading" "reading" s_reading f fd) (N : NS P w K mg base T C CN) : FnOk P w K mg base CX0 5 f fd ["own", "count"] (spF T C (S_reading K CN)) := by
  refine def_ok F sc_reading (fun _ => rfl) fun ⟨a, n⟩ hA cdv A outer s H E hr => ?_
  have hA : a.turns.length ≤ 60 := hA
  refine sj_cons (sj_if (evt_val (fE N.t (ev_var 0 rfl))) (fun he => ?_) fun he => ?_)
  · refine sj_last (sj_ret (Ev.cast (ev_tup (ds := [winD (0, 0), winD (0, 0)]) (eva_cons (ev_tup (ds := [_, _]) (eva_cons ev_int (eva_cons ev_int eva_nil))) (eva_cons (ev_tup (ds := [_, _]) (eva_cons ev_int (eva_cons ev_int eva_nil))) eva_nil))) ?_))
    show _ = PyData.tuple [winD (readingM a n).1, winD (readingM a n).2]
    unfold readingM
    rw [if_pos he]
  · have he : ¬ a.emp = true := by rw [he]; simp
    refine sj_nil ?_
    refine sj_cons (sj_set2 2 3 (d1 := .int (a.win n).1) (d2 := .int (a.win n).2) (ev_meth N.win hr (by decide) (a, n) hA rfl rfl (obj_ins rfl) (ev_var 0 rfl) (eva_cons (ev_var 1 rfl) eva_nil)) (pg_two _ 2 3 rfl sc_reading.nd) ?_)
    have cert : Ev (cxOf CX0 P w K mg base ["own", "count", "start", "end", "certain", "first", "last", "behind"] "reading" (defScope s_reading) f cdv A outer s H E).nox T [.sh (nrm K CN a), .sh (sh K (.int n)), .sh (sh K (.int (a.win n).1)), .sh (sh K (.int (a.win n).2)), .un, .un, .un, .un]
        (match (defBody s_reading).getD 2 (.Pass ⟨0, 0, 0, 0⟩) with | .Assign _ e _ => e | _ => .Constant .none 0 ⟨0, 0, 0, 0⟩) (sh K (winD (readingM a n).1)) := by
      have e1 : (readingM a n).1 = if (a.win n).1 < (a.win n).2 ∧ a.lastStart = some (a.win n).1 then a.win n else (0, 0) := by
        unfold readingM
        rw [if_neg he]
      refine ev_if (evw_if (evt_lt (ev_var 2 rfl) (ev_var 3 rfl)) (fun _ => evt_eqO (i := a.lastStart.map Int.ofNat) (ev_meth0 N.lastStart hr (by decide) a hA rfl rfl (obj_ins rfl) (ev_var 0 rfl)) (ev_var 2 rfl))) (fun h => ?_) fun h => ?_
      · rw [Bool.and_eq_true, decide_eq_true_iff, decide_eq_true_iff] at h
        refine Ev.cast (ev_tup (ds := [_, _]) (eva_cons (ev_var 2 rfl) (eva_cons (ev_var 3 rfl) eva_nil))) ?_
        rw [e1, if_pos]
        · rfl
        · refine ⟨by omega, ?_⟩
          obtain ⟨_, h2⟩ := h
          cases hs : a.lastStart with
          | none => rw [hs] at h2; cases h2
          | some m =>
            rw [hs] at h2
            have h2 : (m : Int) = (a.win n).1 := Option.some.inj h2
            rw [show m = (a.win n).1 by omega]
      · refine Ev.cast (ev_tup (ds := [_, _]) (eva_cons ev_int (eva_cons ev_int eva_nil))) ?_
        rw [e1, if_neg]
        · rfl
        · rintro ⟨h1, h2⟩
          rw [h2, Bool.and_eq_false_iff, decide_eq_false_iff_not, decide_eq_false_iff_not] at h
          rcases h with h | h
          · omega
          · exact h rfl
    refine sj_cons (sj_set 4 cert ?_ sc_reading.nd)
    have e2 : (readingM a n).2 = (let first := if 0 < (readingM a n).1.2 then (readingM a n).1.2 else (a.win (max n (a.off + 1))).1
      let behind := match a.lastEnd with
        | none => n
        | some l => min n l
      if first < behind then (first, behind) else (0, 0)) := by
      unfold readingM
      rw [if_neg he]
      all_goals rfl
    refine sj_cons (sj_set 5 (P := sh K (.int (a.win (max n (a.off + 1))).1)) (ev_ixT (ds := [.int (a.win (max n (a.off + 1))).1, .int (a.win (max n (a.off + 1))).2]) (ev_meth N.win hr (by decide) (a, max n (a.off + 1)) hA rfl rfl (obj_ins rfl) (ev_var 0 rfl) (eva_cons (Ev.cast (ev_max rfl N.x.max (ev_var 1 rfl) (ev_add (ev_meth0 N.off hr (by decide) a hA rfl rfl (obj_ins rfl) (ev_var 0 rfl)) ev_int)) (by congr 1; omega)) eva_nil)) ev_int) ?_ sc_reading.nd)
    have rest : ∀ fi : Nat, fi = (if 0 < (readingM a n).1.2 then (readingM a n).1.2 else (a.win (max n (a.off + 1))).1) → SJs (cxOf CX0 P w K mg base ["own", "count", "start", "end", "certain", "first", "last", "behind"] "reading" (defScope s_reading) f cdv A outer s H E).nox ⟨T, C, E⟩ [.sh (nrm K CN a), .sh (sh K (.int n)), .sh (sh K (.int (a.win n).1)), .sh (sh K (.int (a.win n).2)), .sh (sh K (winD (readingM a n).1)), .sh (sh K (.int fi)), .un, .un]
        ((defBody s_reading).drop 5) (poOf (.ok (sh K (.tuple [winD (readingM a n).1, winD (readingM a n).2])))) := by
      intro fi hfi
      refine sj_cons (sj_set 6 (P := sh K (optN a.lastEnd)) (ev_meth0 N.lastEnd hr (by decide) a hA rfl rfl (obj_ins rfl) (ev_var 0 rfl)) ?_ sc_reading.nd)
      refine sj_cons (sj_set 7 (P := sh K (.int (match a.lastEnd with | none => n | some l => min n l : Nat))) (ev_if (k := a.lastEnd.isNone) (EvT.cast (evt_isN (ev_var 6 rfl)) (optN_no _)) (fun h => ?_) fun h => ?_) ?_ sc_reading.nd)
      · cases hl : a.lastEnd with
        | none => exact ev_var 1 rfl
        | some l => rw [hl] at h; cases h
      · cases hl : a.lastEnd with
        | none => rw [hl] at h; cases h
        | some l =>
          refine Ev.cast (ev_min rfl N.x.min (ev_var 1 rfl) (ev_var (P := sh K (.int l)) 6 rfl)) ?_
          congr 1
          show min (n : Int) (l : Int) = ((min n l : Nat) : Int)
          omega
      · rw [e2, ← hfi]
        generalize (match a.lastEnd with | none => n | some l => min n l : Nat) = be
        refine sj_last (sj_ret (Ev.cast (ev_tup (ds := [winD (readingM a n).1, winD (if fi < be then (fi, be) else (0, 0))]) (eva_cons (ev_var 4 rfl) (eva_cons (ev_if (evt_lt (ev_var 5 rfl) (ev_var 7 rfl)) (fun h => ?_) fun h => ?_) eva_nil))) rfl))
        · have h := of_decide_eq_true h
          rw [if_pos (by omega)]
          exact ev_tup (ds := [_, _]) (eva_cons (ev_var 5 rfl) (eva_cons (ev_var 7 rfl) eva_nil))
        · have h := of_decide_eq_false h
          rw [if_neg (by omega)]
          exact ev_tup (ds := [_, _]) (eva_cons ev_int (eva_cons ev_int eva_nil))
    refine sj_cons (sj_if (evt_gt (ev_ixT (ds := [.int (readingM a n).1.1, .int (readingM a n).1.2]) (ev_var 4 rfl) ev_int) ev_int) (fun h => ?_) fun h => ?_)
    · have h := of_decide_eq_true h
      refine sj_last (sj_set 5 (P := sh K (.int (readingM a n).1.2)) (ev_ixT (ds := [.int (readingM a n).1.1, .int (readingM a n).1.2]) (ev_var 4 rfl) ev_int) ?_ sc_reading.nd)
      exact rest (readingM a n).1.2 (by rw [if_pos (by omega)])
    · have h := of_decide_eq_false h
      refine sj_nil (rest _ ?_)
      rw [if_neg (by omega)]
end
end Td
namespace Td
open PySem PySem.Spec PyProof.Rows L2 Tw
open Tl (NP pwin wstep norm maxL nOf readingM)
section
variable {P : Program} {w : World} {K : Frag} {mg : Str → Option Value} {base : Heap} {T : List NTab} {C CN : Addr}
abbrev s_cap : Stmt := top 14
def S_cap (K : Frag) : Pipe → Pr := fun p => ⟨p.length ≤ 20, [sh K (.list (stepsL p))], .ok (sh K (.int (R7256f.Spec.capacity (nOf p).form)))⟩
theorem sc_cap : FnScope ["steps", "own", "joints", "last", "best", "count", "start", "end"] ["steps"] (defScope s_cap) := ⟨rfl, rfl, rfl, by decide +kernel, rfl, by decide +kernel, by decide +kernel⟩
def hc (o : NP) (n : Nat) : Nat := R7256f.Spec.heldCount o.form n
theorem ok_cap {f : Addr} {fd : FuncData} (F : Fun K "capacity" "capacity" s_cap f fd) (N : NS P w K mg base T C CN) (f_around : Fn P w K mg base CX0 1 "around" ["joints"] (spF T C (S_around K))) (f_reading : Fn P w K mg base CX0 5 "reading" ["own", "count"] (spF T C (S_reading K CN))) : FnOk P w K mg base CX0 6 f fd ["steps"] (spF T C (S_cap K)) := by
  refine def_ok F sc_cap (fun _ => rfl) fun p hp cdv A outer s H E hr => ?_
  have hp : p.length ≤ 20 := hp
  have lA := Tl.nOf_len p
  have hA : (nOf p).turns.length ≤ 60 := Nat.le_trans lA (by omega)
  refine sj_cons (sj_set 1 (ev_normal N.nm hr (by decide) p (by omega) (ev_var 0 rfl)) ?_ sc_cap.nd)
  have wA := Tl.nOf_wf p
  show SJs _ _ [.sh (sh K (.list (stepsL p))), .sh (nrm K CN (nOf p)), .un, .un, .un, .un, .un, .un] _ (poOf (.ok (sh K (.int (R7256f.Spec.capacity (nOf p).form)))))
  generalize nOf p = a at hA lA wA ⊢
  have jA := joints_len a
  refine sj_cons (sj_setN 2 (ds := natsL (a.joints ++ [a.beyond])) (EvN.cast (evn_cat (ev_meth0 N.joints hr (by decide) a hA rfl rfl (obj_ins rfl) (ev_var 1 rfl)) (EvN.sh (evn_lst (ds := [.int a.beyond]) (eva_cons (ev_meth0 N.beyond hr (by decide) a hA rfl rfl (obj_ins rfl) (ev_var 1 rfl)) eva_nil))) ?_) (natsL_app a.joints [a.beyond])) ?_ sc_cap.nd)
  · rw [natsL_len]
    exact size_le (m := 100) (by show _ + 1 ≤ 100; omega) rfl
  refine sj_cons (sj_set 3 (P := sh K (optN a.lastEnd)) (ev_meth0 N.lastEnd hr (by decide) a hA rfl rfl (obj_ins rfl) (ev_var 1 rfl)) ?_ sc_cap.nd)
  have rest : ∀ (J : List Nat) (x : Slot), J.length ≤ 100 → (∀ j ∈ a.joints, j ∈ J) → (∀ l, a.lastEnd = some l → l ∈ J) → SJs (cxOf CX0 P w K mg base ["steps", "own", "joints", "last", "best", "count", "start", "end"] "capacity" (defScope s_cap) f cdv A outer s H E).nox ⟨T, C, E⟩ [.sh (sh K (.list (stepsL p))), .sh (nrm K CN a), .own (natsL J), .sh (sh K (optN a.lastEnd)), .un, .un, .un, .un]
      ((defBody s_cap).drop 4) (poOf (.ok (sh K (.int (R7256f.Spec.capacity a.form))))) := by
    intro J _ hJ h1 h2
    have hcap := Tl.capacity_around wA h1 h2 (around_is J)
    refine sj_cons (sj_set 4 ev_int ?_ sc_cap.nd)
    refine sj_share 2 rfl ?_
    refine sj_cons (sj_for true PassesOwn.never rfl (ds := natsL (aroundL J)) (ev_call f_around hr (by decide) J hJ rfl (eva_cons (ev_var 2 rfl) eva_nil)) (pg_name sc_cap.nd rfl (.inl rfl)) (tgt_name 5) (fun _ _ => trivial)
      (fun k γ => ∃ x y z, γ = [.sh (sh K (.list (stepsL p))), .sh (nrm K CN a), .sh (sh K (.list (natsL J))), .sh (sh K (optN a.lastEnd)), .sh (sh K (.int ((((aroundL J).take k).map (R7256f.Spec.heldCount a.form)).foldl max 0 : Nat))), x, y, z]) ⟨_, _, _, rfl⟩ ?_ ?_)
    · rintro k d _ hdk ⟨x, y, z, rfl⟩
      obtain ⟨n, hnk, rfl⟩ := map_get hdk
      have e : (((aroundL J).take (k + 1)).map (R7256f.Spec.heldCount a.form)).foldl max 0 = max ((((aroundL J).take k).map (R7256f.Spec.heldCount a.form)).foldl max 0) (R7256f.Spec.heldCount a.form n) := by
        rw [take_snoc hnk, List.map_append, List.foldl_append]
        rfl
      rw [e]
      generalize (((aroundL J).take k).map (R7256f.Spec.heldCount a.form)).foldl max 0 = b
      have hrd := Tl.reading_is wA n
      refine sj_cons (sj_set2 6 7 (d1 := .int (readingM a n).2.1) (d2 := .int (readingM a n).2.2) (ev_ixT (ds := [winD (readingM a n).1, winD (readingM a n).2]) (ev_call f_reading hr (by decide) (a, n) hA rfl (eva_cons (ev_var 1 rfl) (eva_cons (ev_var 5 rfl) eva_nil))) ev_int) (pg_two _ 6 7 rfl sc_cap.nd) ?_)
      refine sj_last (sj_set 4 (Ev.cast (ev_max rfl N.x.max (ev_var 4 rfl) (ev_sub (ev_var 7 rfl) (ev_var 6 rfl))) ?_) ⟨_, _, _, rfl⟩ sc_cap.nd)
      congr 1
      have e2 : R7256f.Spec.heldCount a.form n = (readingM a n).2.2 - (readingM a n).2.1 := by
        rw [hrd]
        rfl
      rw [e2]
      omega
    · rintro _ ⟨x, y, z, rfl⟩
      rw [natsL_len, List.take_length, hcap]
      exact sj_last (sj_ret (ev_var 4 rfl))
  refine sj_cons (sj_if (EvT.cast (evt_notN (ev_var 3 rfl)) (congrArg not (optN_no _))) (fun h => ?_) fun h => ?_)
  · cases hl : a.lastEnd with
    | none => rw [hl] at h; cases h
    | some l =>
      have r := rest (a.joints ++ [a.beyond] ++ [l]) .un (by
        rw [List.length_append, List.length_append, List.length_singleton, List.length_singleton]
        omega) (fun j hj => List.mem_append_left _ (List.mem_append_left _ hj)) (fun m hm => by
        rw [hl] at hm
        cases hm
        exact List.mem_append_right _ (List.mem_singleton.mpr rfl))
      rw [hl] at r
      refine sj_last (sj_append 2 (ds := natsL (a.joints ++ [a.beyond])) (d := .int l) rfl (ev_var 3 rfl) ?_ ?_)
      · rw [natsL_len, List.length_append, List.length_singleton]
        exact small_of (m := 100) (by omega) rfl
      · have e : natsL (a.joints ++ [a.beyond]) ++ [.int l] = natsL (a.joints ++ [a.beyond] ++ [l]) := natsL_app _ [l]
        rw [e]
        exact r
  · refine sj_nil (rest (a.joints ++ [a.beyond]) .un ?_ (fun j hj => List.mem_append_left _ hj) (fun l hl => ?_))
    · rw [List.length_append, List.length_singleton]
      omega
    · rw [hl] at h
      cases h
end
end Td
namespace Tw
open PySem PySem.Spec PyProof.Rows L2 LamX NdefX
/-! ### a lambda is made -/
/-- what its making does to the heap that is tracked: nothing, or a code object at c is new, and told by the table at P -/
def Made (H H' : Hp) (P c : Addr) (q : Str) : Prop := H' = H ∨ ∃ ps, H c = none ∧ H' = upd (upd H P (.tbl ps)) c (CodeO c q)
structure Lam where
  params : Arguments
  body : Expr
  scope : Scope
  pos : Pos
abbrev Lam.obj (L : Lam) (q : Str) (cl : List (Str × Addr)) (pm : Value) (c : Addr) (ct : Value) : Obj := PySem.W.kla_obj "<lambda>" q L.params L.body L.scope cl pm c ct
section
variable {X : Cx} {pins : List (Addr × Obj)} {σ : L2.St} {H : Hp} {s : Shared}
theorem lam_made {nm : Nat → Nat → Str} {c P : Addr} (L : Lam) {E : Value → Shared → Prop} {Q : Value → Shared → Prop} (I : Inv X pins σ H s) (TB : TabB X.base X.mg c P) (hcode : X.env.code = .ref c) (hT : TabN H P nm) (hn : nm L.pos.line L.pos.col = X.env.qual ++ "<lambda>")
    (hdef : defaultsOf L.params X.env = ([], [])) (hfree : ∀ y ∈ L.scope.names, y.2 = .free → ∃ c, X.env.cells.lookup y.1 = some c)
    (h : ∀ (f c' : Addr) (pm ctv : Value) (H1 : Hp) (s' : Shared), Inv X pins σ H1 s' → Made H H1 P c' (X.env.qual ++ "<lambda>") → (∃ ps, H P = some (.tbl ps)) → TabN H1 P nm → s'.heap.get? f = some (L.obj (X.env.qual ++ "<lambda>") (cloFrom X.env.cells L.scope.names []) pm c' ctv) → H1 f = none → f ∉ frs X.stack → H1 c' = some (CodeO c' (X.env.qual ++ "<lambda>")) → Q (.ref f) s') :
    wpAny (model X.prog X.w) X.A (eval (.Lambda L.params L.body L.scope L.pos) X.env) Q E s := by
  obtain ⟨ps, hP, ht, ha⟩ := hT
  have inP := I.hok P _ hP
  have bP := TB.bm.keeps I.bk
  have away : ∀ f, s.heap.objs.size ≤ f → f ∉ frs X.stack := fun f hf z => by
    rcases List.mem_cons.mp (I.stkSub _ z) with e | e
    · exact Nat.lt_irrefl _ (Nat.lt_of_lt_of_le I.lt (e ▸ hf))
    · exact I.nofs hf e
  refine PySem.W.kla_eval hdef ?_
  cases hc : codeAmong L.pos ps.toList with
  | some cv =>
    obtain ⟨c', rfl, hco⟩ := ha L.pos cv hc
    rw [hn] at hco
    refine PySem.W.kla_makeFunctionHit (mg := X.mg) (c := c) (P := P) (ps := ps) (closure_ok hfree) I.ok.glob (I.mod.glob.keeps I.bk) hcode (TB.code.keeps I.bk) inP ht hc bP fun ctv h' tk hx hsz => ?_
    exact h _ c' _ ctv H _ (I.kept fun b o e => Heap.get?_push_of_some _ (hx b o e)) (.inl rfl) ⟨ps, hP⟩ ⟨ps, hP, ht, ha⟩ (Heap.get?_push_size _ rfl) (I.hok.fresh hsz) (away _ hsz) hco
  | none =>
    refine PySem.W.kla_makeFunction (mg := X.mg) (c := c) (P := P) (ps := ps) (closure_ok hfree) I.ok.glob (I.mod.glob.keeps I.bk) hcode (TB.code.keeps I.bk) inP ht hc TB.gP bP fun c' ctv h' tk hx hge hlt hrec htb => ?_
    obtain ⟨c2, oc, vs, t, e2, hoc, hd, hv⟩ := hrec
    cases e2
    have hsz : s.heap.objs.size ≤ h'.objs.size := Nat.le_trans hge (Nat.le_of_lt hlt)
    have new : H c' = none := I.hok.fresh hge
    have J := inv_table (q := X.env.qual ++ "<lambda>") (t' := tk) (more := #[rawInt L.pos.line, rawInt L.pos.col, .ref c']) (h' := h'.push (L.obj (X.env.qual ++ "<lambda>") (cloFrom X.env.cells L.scope.names []) ((X.mg "__name__").getD .none) c' ctv)) I hP
      (fun b o hb e => Heap.get?_push_of_some _ (hx b o hb e)) (Heap.get?_push_of_some _ htb) hge ⟨oc, vs, t, Heap.get?_push_of_some _ hoc, hd, hv⟩
    have nP : P ≠ c' := ne_of_none hP new
    have keep : ∀ b q, H b = some (CodeO b q) → upd (upd H P (.tbl (ps ++ #[rawInt L.pos.line, rawInt L.pos.col, .ref c']))) c' (CodeO c' (X.env.qual ++ "<lambda>")) b = some (CodeO b q) := fun b q e => by
      rw [upd_ne (ne_of_none e new), upd_ne]
      · exact e
      · intro z
        rw [z, hP] at e
        exact codeO_ne ps (Option.some.inj e).symm
    have el : (ps ++ #[rawInt L.pos.line, rawInt L.pos.col, .ref c']).toList = ps.toList ++ [rawInt L.pos.line, rawInt L.pos.col, .ref c'] := by simp
    refine h _ c' _ ctv _ _ J (.inr ⟨_, new, rfl⟩) ⟨ps, hP⟩ ⟨_, by rw [upd_ne nP]; exact upd_same, ?_, fun p cv hcv => ?_⟩ (Heap.get?_push_size _ rfl) ?_ (away _ hsz) upd_same
    · rw [el]
      exact PySem.TriplesOk_snoc _ _ _ _ ht
    · rw [el] at hcv
      rcases among_app2 _ ht hcv with z | ⟨z, z1, z2⟩
      · obtain ⟨c0, e1, e2⟩ := ha p cv z
        exact ⟨c0, e1, keep _ _ e2⟩
      · exact ⟨c', z, by rw [← z1, ← z2, hn]; exact upd_same⟩
    · have far : s.heap.objs.size ≤ h'.objs.size := hsz
      have n1 : h'.objs.size ≠ c' := Nat.ne_of_gt hlt
      have n2 : h'.objs.size ≠ P := Nat.ne_of_gt (Nat.lt_of_lt_of_le (Heap.lt_size inP) far)
      rw [upd_ne n1, upd_ne n2]
      exact I.hok.fresh hsz
theorem made_grow {T : List NTab} {F H' : Hp} {nm : Nat → Nat → Str} {P c : Addr} {q : Str} (e : Ex F H) (m : Made H H' P c q) (hP : ∃ ps, H P = some (.tbl ps)) (hu : ∀ p ∈ T, p.1 = P → p.2 = nm) (hN : TabN H' P nm) : Grow T F H F H' := by
  rcases m with rfl | ⟨qs, new, rfl⟩
  · exact Grow.refl e
  · obtain ⟨ps, hP⟩ := hP
    have same : ∀ b o, H b = some o → (∀ ps, o ≠ .tbl ps) → upd (upd H P (.tbl qs)) c (CodeO c q) b = some o := fun b o h n => by
      rw [upd_ne (ne_of_none h new), upd_ne]
      · exact h
      · intro z
        rw [z, hP] at h
        exact n ps (Option.some.inj h).symm
    have tb : ∀ b ps, H b = some (.tbl ps) → ∃ ps', upd (upd H P (.tbl qs)) c (CodeO c q) b = some (.tbl ps') := fun b ps h => by
      rw [upd_ne (ne_of_none h new)]
      by_cases z : b = P
      · rw [z]
        exact ⟨_, upd_same⟩
      · rw [upd_ne z]
        exact ⟨_, h⟩
    refine ⟨Ex.refl _, fun a o h => ?_, same, fun _ h _ => h, fun t p hp => ?_, fun a h => ?_⟩
    · rcases e a o h with z | ⟨p1, p2, rfl, z⟩
      · by_cases ht : ∃ ps, o = .tbl ps
        · obtain ⟨p1, rfl⟩ := ht
          obtain ⟨p2, z2⟩ := tb a p1 z
          exact .inr ⟨p1, p2, rfl, z2⟩
        · exact .inl (same a o z fun ps y => ht ⟨ps, y⟩)
      · obtain ⟨p3, z2⟩ := tb a p2 z
        exact .inr ⟨p1, p3, rfl, z2⟩
    · by_cases hb : p.1 = P
      · rw [hu p hp hb, hb]
        exact hN
      · obtain ⟨ps', a1, a2, a3⟩ := t p hp
        refine ⟨ps', by rw [upd_ne (ne_of_none a1 new), upd_ne hb]; exact a1, a2, fun p' cv hcv => ?_⟩
        obtain ⟨c0, e1, e2⟩ := a3 p' cv hcv
        exact ⟨c0, e1, same _ _ e2 codeO_ne⟩
    · by_cases h1 : a = c
      · rw [h1]
        exact new
      · rw [upd_ne h1] at h
        by_cases h2 : a = P
        · rw [h2, upd_same] at h
          cases h
        · rw [upd_ne h2] at h
          exact h
end
/-! ### a lambda is called -/
theorem cells_on {cl : List (Str × Addr)} {fr : List Str} {ws : List (Option V)} {fs : List Addr} {H HZ : Hp} {h h1 : Heap} (un : Un fs [] H HZ h h1) (C : CellsAt cl fr ws h H) : CellsAt cl fr ws h1 HZ := by
  have ck : ∀ {c : Addr} {v : Option Value}, H c = none → h.IsCell c v → h1.IsCell c v := fun {c v} n ⟨o, ho, hd⟩ => by
    obtain ⟨sl, q⟩ := un.any ho n (by simp)
    exact ⟨_, q, hd⟩
  refine ⟨C.len, fun y c e => ?_, C.inj, fun i y e => ?_⟩
  · obtain ⟨n, v, z⟩ := C.all y c e
    obtain ⟨o, ho, _⟩ := id z
    exact ⟨un.free c o ho n (by simp), v, ck n z⟩
  · obtain ⟨c, hc, hv⟩ := C.has i y e
    refine ⟨c, hc, fun v ev => ?_⟩
    obtain ⟨u, r, z⟩ := hv v ev
    exact ⟨u, r, ck (C.all y c hc).1 z⟩
/-- the lambda as a function: its body is an expression -/
abbrev Lam.nf (L : Lam) (q : Str) (cl : List (Str × Addr)) (c : Addr) : NF := ⟨"<lambda>", q, L.params, [], L.scope, cl, c⟩
theorem lam_run {P : Program} {w : World} {K : Frag} {mg : Str → Option Value} {base : Heap} {N ps fr : List Str} {L : Lam} {q : Str} {cl : List (Str × Addr)} {c f : Addr} {pm ctv : Value} {k : Nat} {A : Around} {outer : List PySem.Env} {s : Shared} {H : Hp} {us : List Value} {vs : List V} {ws : List (Option V)} {Q : VK} {E : XK}
    (S : NScope N ps fr L.scope) (hf : s.heap.get? f = some (L.obj q cl pm c ctv)) (hc : H c = some (CodeO c q)) (hb : bindArgs (PySem.W.kla_fn "<lambda>" q L.params L.body L.scope cl pm (.ref c) ctv) ⟨us, []⟩ = pure (ps.zip us))
    (e0 : Env0 P w K mg base A outer s H) (C : CellsAt cl fr ws s.heap H) (r : Vals vs us) (hl : vs.length = ps.length) (hr : Room (k + 1) A)
    (hbody : Room k (A.deeper (envF (L.nf q cl c) f s.heap.objs.size)) → ∃ t, PE (ncx CX0 P w K mg base N (L.nf q cl c) f A outer s H E) L.body t ∧ t (startF N vs ws) H Q) :
    codeAny (model P w) A (.call (.ref f) ⟨us, []⟩) (CR CX0 outer P w H s Q E) s := by
  have lim : s.heap.NoLimit := e0.mod.nolimit.keeps fun b o e => (e0.bs b o e).1
  refine PySem.W.kla_callFunE hr.depth hf rfl S.co S.gen rfl (codeO_at e0.hok hc) ?_
  rw [hb]
  refine wpAny_pure (wpAny_newFunctionEnv S.nocell (fun ⟨n, _⟩ hy => S.par n (List.of_mem_zip hy).1) (fun h₁ hns hsb => ⟨lim.fresh _ hsb, ?_⟩) S.kind)
  show codeAny _ _ (.expr L.body (envF (L.nf q cl c) f s.heap.objs.size)) _ _
  have kp : ∀ b o, s.heap.get? b = some o → h₁.get? b = some o := fun b o e => hsb.extBut b o (Nat.ne_of_lt (Heap.lt_size e)) (Heap.get?_push_of_some _ e)
  obtain ⟨t, ht, hq⟩ := hbody (hr.deeper _)
  have I : Inv (ncx CX0 P w K mg base N (L.nf q cl c) f A outer s H E) [] (startF N vs ws) H { s with heap := h₁, toks := s.toks + (ps.zip us).length } := inv_startN S hr.hd e0 hl r C hns kp
  refine PySem.W.kla_codeExpr (wpAny_mono (ht.run [] _ (startF N vs ws) H _ I hq) (fun v s' hs => ?_) fun e s' hs => hs)
  obtain ⟨v', H', J, rv, hv⟩ := hs
  exact ⟨v', H', J.os, J.bare, J.base, J.hok, rv, hv⟩
end Tw
namespace Td
open PySem PySem.Spec PyProof.Rows L2 Tw LamX NdefX
open Tl (NP pwin wstep norm maxL nOf flen)
abbrev s_flen : Stmt := top 11
theorem sc_flen : FnScope ["low", "high", "is_right", "middle"] ["low", "high", "is_right"] (defScope s_flen) := ⟨rfl, rfl, rfl, by decide +kernel, rfl, by decide +kernel, by decide +kernel⟩
/-- the lambda in its slot -/
def fnTy (f c : Addr) (q : Str) (γc : Gm) (ws : List (Option V)) : Ty := ⟨fun v F => v = .ref f ∧ F c = some (CodeO c q) ∧ ∀ (i : Nat) (P : Ty), γc[i]? = some (Slot.sh P) → ∃ u, ws[i]? = some (some u) ∧ P.p u F, fun e h => ⟨h.1, e.go h.2.1 codeO_ne, fun i P hi => by
  obtain ⟨u, h1, h2⟩ := h.2.2 i P hi
  exact ⟨u, h1, P.mono e h2⟩⟩⟩
section
variable {X : Cx} {T : List Tw.NTab} {γ γc : Gm} {fr : List Str} {js : List Nat} {r : Nat → Bool} {g c P : Addr} {nm : Nat → Nat → Str} {k : Nat}
/-- what a lambda of one number must be, for its calls -/
structure LamOk (X : Cx) (T : List Tw.NTab) (γc : Gm) (L : Lam) (q : Str) (fr : List Str) (r : Nat → Bool) (k : Nat) : Prop where
  S : NScope ("length" :: fr) ["length"] fr L.scope
  bind : ∀ (u : Value) (cl : List (Str × Addr)) (pm cv ctv : Value), bindArgs (PySem.W.kla_fn "<lambda>" q L.params L.body L.scope cl pm cv ctv) ⟨[u], []⟩ = pure (((["length"] : List Str)).zip [u])
  body : ∀ (A : Around) (outer : List PySem.Env) (s : Shared) (H : Hp) (f c' : Addr) (cl : List (Str × Addr)) (m : Nat), Room k (A.deeper (envF (L.nf q cl c') f s.heap.objs.size)) →
    Ev (ncx CX0 X.prog X.w X.K X.mg X.base ("length" :: fr) (L.nf q cl c') f A outer s H E0) T (.sh (sh X.K (.int m)) :: γc) L.body (sh X.K (.bool (r m)))
theorem ev_act {L : Lam} {q : Str} {f c' : Addr} {cl : List (Str × Addr)} {pm ctv : Value} {s : Shared} {H : Hp} {ws : List (Option V)} {sg : Scope} {cdg : Value} {A : Around} {outer : List PySem.Env} {l h m : Nat} {p1 p2 p3 : Pos}
    (O : LamOk X T γc L q fr r k) (hsg : sg = defScope s_flen) (hwl : γc.length = fr.length) (hf : s.heap.get? f = some (L.obj q cl pm c' ctv)) (hfn : H f = none) (hfr : f ∉ frs outer) (C : CellsAt cl fr ws s.heap H)
    (hr : Room (k + 1) (A.deeper (envOfC "first_length" sg s.heap.objs.size g cdg))) :
    Ev (cxOf CX0 X.prog X.w X.K X.mg X.base ["low", "high", "is_right", "middle"] "first_length" sg g cdg A outer s H E0).nox T [.sh (sh X.K (.int l)), .sh (sh X.K (.int h)), .sh (fnTy f c' q γc ws), .sh (sh X.K (.int m))] (.Call (.Name "is_right" p1) [.Name "middle" p3] [] p2) (sh X.K (.bool (r m))) := by
  subst hsg
  refine ⟨fun pinsZ sZ σZ HZ Q IZ ⟨F, st, post⟩ => ?_⟩
  obtain ⟨v, hv, rfl, hco, hcap⟩ := st.env.2 2 _ rfl
  obtain ⟨w3, hw3, e3⟩ := st.env.2 3 _ rfl
  have e3 : w3 = .int m := e3
  subst e3
  have gone : ∀ {pins : List (Addr × Obj)} {σ : L2.St} {H1 : Hp} {s1 : Shared}, Inv (cxOf CX0 X.prog X.w X.K X.mg X.base ["low", "high", "is_right", "middle"] "first_length" (defScope s_flen) g cdg A outer s H E0).nox pins σ H1 s1 → s1.heap.get? f = some (L.obj q cl pm c' ctv) := fun I => I.base.keep f _ hf hfn hfr (fun z => nomatch (show f ∈ ([] : List Addr) from z))
  refine wpAny_Call_Name_kw (thn ((pe_var (pos := p1) (i := 2) rfl (.inl rfl)).run pinsZ sZ σZ HZ (fun v H1 => v = .ref f ∧ H1 = HZ) IZ ⟨.ref f, hv, rfl, rfl⟩) fun u s1 ⟨v, H1, I1, r1, q1⟩ => ?_)
  obtain ⟨rfl, rfl⟩ := q1
  obtain rfl : u = Value.ref f := r1
  refine PySem.W.callWith_F (first := []) ⟨_, _, _, _, gone I1⟩ (thn ((pa_cons (pe_var (pos := p3) (i := 3) rfl (.inl rfl)) pa_nil).run p2 pinsZ s1 σZ H1 (fun vs H2 => vs = [V.int m] ∧ H2 = H1) I1 ⟨_, hw3, rfl, rfl⟩) fun us s2 ⟨vs, H2, I2, rv, q2⟩ => ?_)
  obtain ⟨rfl, rfl⟩ := q2
  refine ⟨⟨_, _, _, _, gone I2⟩, ?_⟩
  show wpAny _ _ (call (.ref f) us) _ _ _
  have un : Un (frs outer) [] H H2 s.heap s2.heap := I2.base
  have C2 : CellsAt cl fr ws s2.heap H2 := cells_on un C
  obtain ⟨u0, rfl, ru⟩ := vals1 rv
  have rc := lam_run (P := X.prog) (w := X.w) (K := X.K) (mg := X.mg) (base := X.base) (N := "length" :: fr) (ps := ["length"]) (Q := Q) (E := E0) (vs := [V.int m]) O.S (gone I2) (st.ex.go hco codeO_ne) (O.bind u0 cl pm _ ctv) I2.env0 C2 rv rfl hr fun hr' => by
    refine ⟨_, O.body _ _ _ _ f c' cl m hr', F, ⟨st.ex, ⟨?_, fun i P hi => ?_⟩, st.tab⟩, post⟩
    · have := C.len
      unfold startF
      simp only [List.length_append, List.length_map, List.length_replicate, List.length_cons, List.length_nil]
      omega
    · cases i with
      | zero =>
        cases hi
        exact ⟨.int m, rfl, rfl⟩
      | succ i =>
        have hi : γc[i]? = some (.sh P) := hi
        obtain ⟨u, h1, h2⟩ := hcap i P hi
        refine ⟨u, ?_, h2⟩
        show (ws ++ _)[i]? = _
        rw [List.getElem?_append_left (List.getElem?_eq_some_iff.mp h1).1]
        exact h1
  refine wpAny_call (codeAny_mono rc fun r s' hq => ?_)
  cases r with
  | error e => exact hq.elim
  | ok fl =>
    cases fl with
    | ret u => exact I2.after hq
    | next => exact False.elim hq
    | brk => exact False.elim hq
    | cont => exact False.elim hq
end
end Td
namespace Td
open PySem PySem.Spec PyProof.Rows L2 Tw LamX NdefX
open Tl (NP pwin wstep norm maxL nOf flen)
section
variable {X : Cx} {T : List Tw.NTab} {γ γc : Gm} {fr : List Str} {js : List Nat} {r : Nat → Bool} {g c P : Addr} {nm : Nat → Nat → Str} {k : Nat}
/-- the binary search, with a lambda -/
theorem ev_flen {fd : FuncData} {a b : Expr} {p pos : Pos} {lo hi : Nat} (L : Lam) (F : Fun X.K "first_length" "first_length" s_flen g fd) (hm : X.mg "first_length" = some (.ref g)) (hB : L2.Binds X.K fd ["low", "high", "is_right"] [])
    (TB : TabB X.base X.mg c P) (hcode : X.env.code = .ref c) (hPT : (P, nm) ∈ T) (hu : ∀ p ∈ T, p.1 = P → p.2 = nm) (hn : nm L.pos.line L.pos.col = X.env.qual ++ "<lambda>")
    (hdef : defaultsOf L.params X.env = ([], [])) (hnd : ndefB X.env.scope L.scope fr = true) (hjs : js.map (fun j => X.N[j]?) = fr.map some) (hγ : ∀ (i : Nat) (P : Ty), γc[i]? = some (Slot.sh P) → ∃ j, js[i]? = some j ∧ γ[j]? = some (Slot.sh P)) (hl : γc.length = fr.length)
    (O : LamOk X T γc L (X.env.qual ++ "<lambda>") fr r k) (hr : Room (k + 2) X.A) (ha : Ev X T γ a (sh X.K (.int lo))) (hb : Ev X T γ b (sh X.K (.int hi)))
    (hg : Gl X "first_length" := by rfl) (hs : starEach [a, b, .Lambda L.params L.body L.scope L.pos] X.env = [(false, eval a X.env), (false, eval b X.env), (false, eval (.Lambda L.params L.body L.scope L.pos) X.env)] := by rfl)
    (hs1 : starEach [a, b, .Lambda L.params L.body L.scope L.pos] X.env = (false, eval a X.env) :: starEach [b, .Lambda L.params L.body L.scope L.pos] X.env := by rfl) (hpl : (backTo pos (starEach [b, .Lambda L.params L.body L.scope L.pos] X.env)).any (·.1) = false := by rfl) :
    Ev X T γ (.Call (.Name "first_length" p) [a, b, .Lambda L.params L.body L.scope L.pos] [] pos) (sh X.K (.int (flen r lo hi))) := by
  obtain ⟨oc, od, kV, doc, pm0, an, cdv, ct, osl, rfl, lk, hcd⟩ := F.ex
  refine ⟨fun pins s σ H Q I ⟨F0, st, post⟩ => ?_⟩
  refine wpAny_Call_Name_kw (ld_glob I hg hm ?_ (by decide))
  refine PySem.W.callWith_K (h₀ := X.base) I.ok.mod.kin F.kp ?_ hs1 hpl
  rw [hs]
  show wpAny _ _ (spliced ((false, eval a X.env) :: (false, eval b X.env) :: (false, eval (.Lambda L.params L.body L.scope L.pos) X.env) :: [])) _ _ s
  refine Calls.spliced_cons (thn (ha.run pins s σ H (fun v H' => ∃ F', Grow T F0 H F' H' ∧ v = .int lo) I ⟨F0, st, fun v F' H' g e => ⟨F', g, e⟩⟩) fun u1 s1 ⟨v1, H1, I1, r1, F1, g1, e1⟩ => ?_)
  subst e1
  refine Calls.spliced_cons (thn (hb.run pins s1 σ H1 (fun v H' => ∃ F', Grow T F1 H1 F' H' ∧ v = .int hi) I1 ⟨F1, st.grow g1, fun v F' H' g e => ⟨F', g, e⟩⟩) fun u2 s2 ⟨v2, H2, I2, r2, F2, g2, e2⟩ => ?_)
  subst e2
  have st2 := (st.grow g1).grow g2
  have hfree := ndef_free hnd
  refine Calls.spliced_cons (lam_made L I2 TB hcode (st2.tab _ hPT) hn hdef (fun y hy e => (hfree y hy e).elim (fun z => I2.ok.has _ (.inl z)) fun z => I2.ok.has _ (.inr z)) fun f c' pm ctv H3 s3 I3 md hP hN hf hfn hfr hco => ?_)
  refine Calls.spliced_nil ⟨I3.kIn, ?_⟩
  have g3 := made_grow (T := T) st2.ex md hP hu hN
  have st3 := st2.grow g3
  have C : CellsAt (cloFrom X.env.cells L.scope.names []) fr (js.map (slotAt σ)) s3.heap H3 := cells_of I3 (Caps.made I3.ok hfree (ndef_fr hnd) hjs)
  have hcF : ∀ o, F2 c' = some o → o = CodeO c' (X.env.qual ++ "<lambda>") := fun o e => by
    rcases st3.ex c' o e with z | ⟨_, _, _, z⟩
    · rw [hco] at z
      exact (Option.some.inj z).symm
    · rw [hco] at z
      exact absurd (Option.some.inj z) (codeO_ne _)
  have ex4 : Ex (upd F2 c' (CodeO c' (X.env.qual ++ "<lambda>"))) H3 := fun b o e => by
    by_cases z : b = c'
    · rw [z, upd_same] at e
      cases e
      exact .inl (z ▸ hco)
    · rw [upd_ne z] at e
      exact st3.ex b o e
  have ex24 : Ex F2 (upd F2 c' (CodeO c' (X.env.qual ++ "<lambda>"))) := Ex.of fun b o e => by
    by_cases z : b = c'
    · subst z
      rw [upd_same, hcF o e]
    · rw [upd_ne z]
      exact e
  have rc : codeAny (model X.prog X.w) X.A (.call (.ref g) ⟨[u1, u2, .ref f], []⟩) (CR CX0 X.stack X.prog X.w H3 s3 Q E0) s3 := by
    refine run_ofS (N := ["low", "high", "is_right", "middle"]) (ps := ["low", "high", "is_right"]) (us := [u1, u2, .ref f]) (vs := [V.int lo, V.int hi, V.ref f]) lk hcd sc_flen hr I3.env0 (hB s3 [u1, u2, .ref f] I3.kIn rfl) (.cons r1 (.cons r2 (.cons rfl .nil))) rfl fun hr' => ?_
    have body : SJs (cxOf CX0 X.prog X.w X.K X.mg X.base ["low", "high", "is_right", "middle"] "first_length" (defScope s_flen) g cdv X.A X.stack s3 H3 E0).nox ⟨T, 0, E0⟩ [.sh (sh X.K (.int lo)), .sh (sh X.K (.int hi)), .sh (fnTy f c' (X.env.qual ++ "<lambda>") γc (js.map (slotAt σ))), .un] (defBody s_flen) (poOf (.ok (sh X.K (.int (flen r lo hi))))) := by
      refine sj_cons (sj_while PassesOwn.never (fun m γ => ∃ (l h : Nat) (x : Slot), γ = [.sh (sh X.K (.int l)), .sh (sh X.K (.int h)), .sh (fnTy f c' (X.env.qual ++ "<lambda>") γc (js.map (slotAt σ))), x] ∧ h - l = m ∧ flen r l h = flen r lo hi) (hi - lo) ⟨lo, hi, _, rfl, rfl, rfl⟩ ?_)
      rintro m _ ⟨l, h, x, rfl, rfl, e⟩
      refine ⟨_, evt_lt (ev_var 0 rfl) (ev_var 1 rfl), fun hlt => ?_, fun hlt => ?_⟩
      · have hlt : l < h := by have := of_decide_eq_true hlt; omega
        rw [Tl.flen_step, if_pos hlt] at e
        have em : ((l : Int) + h) / 2 = ((l + h) / 2 : Nat) := by omega
        refine sj_cons (sj_set 3 (P := sh X.K (.int ((l + h) / 2 : Nat))) (Ev.cast (ev_fdiv ⟨by decide, by decide⟩ (ev_add (ev_var 0 rfl) (ev_var 1 rfl)) ev_int) (by rw [em])) ?_ sc_flen.nd)
        refine sj_last (sj_if (evt_val (ev_act O rfl hl hf hfn hfr C hr')) (fun hk => ?_) fun hk => ?_)
        · rw [if_pos hk] at e
          exact sj_last (sj_set 1 (ev_var 3 rfl) ⟨_, by omega, l, _, _, rfl, rfl, e⟩ sc_flen.nd)
        · rw [if_neg (by rw [hk]; simp)] at e
          exact sj_last (sj_set 0 (P := sh X.K (.int ((l + h) / 2 + 1 : Nat))) (Ev.cast (ev_add (ev_var 3 rfl) ev_int) rfl) ⟨_, by omega, _, h, _, rfl, rfl, e⟩ sc_flen.nd)
      · have hlt : ¬ l < h := by have := of_decide_eq_false hlt; omega
        rw [Tl.flen_step, if_neg hlt] at e
        exact sj_last (sj_ret' (d := .int (flen r lo hi)) (Ev.cast (d := .int l) (ev_var 0 rfl) (by rw [e])) rfl)
    refine ⟨_, body.nox, ?_⟩
    refine ⟨_, H3, upd F2 c' (CodeO c' (X.env.qual ++ "<lambda>")), start_st (N := ["low", "high", "is_right", "middle"]) (Ps := [sh X.K (.int lo), sh X.K (.int hi), fnTy f c' (X.env.qual ++ "<lambda>") γc (js.map (slotAt σ))]) ex4 st3.tab ⟨_, _, rfl, rfl, _, _, rfl, rfl, _, _, rfl, ⟨rfl, upd_same, fun i P hi => ?_⟩, rfl⟩ (Nat.le_succ 3), ?_⟩
    · obtain ⟨j, h1, h2⟩ := hγ i P hi
      obtain ⟨u, h3, h4⟩ := st3.env.2 j P h2
      exact ⟨u, by rw [List.getElem?_map, h1]; exact congrArg some (slotAt_of h3), P.mono ex24 h4⟩
    · have fin : ∀ (v : V) (F' : Hp) (H' : Hp), Grow T (upd F2 c' (CodeO c' (X.env.qual ++ "<lambda>"))) H3 F' H' → (sh X.K (.int (flen r lo hi))).p v F' → Q v H' := fun v F' H' g e => by
        have e : v = .int (flen r lo hi) := e
        refine post v (fun b => if b = c' then F2 c' else F' b) H' ((g1.trans (g2.trans g3)).trans ⟨fun b o q => ?_, fun b o q => ?_, g.h, fun b q n => ?_, g.tab, g.free⟩) e
        · by_cases z : b = c'
          · subst z
            exact .inl (by rw [if_pos rfl]; exact q)
          · rw [if_neg z]
            exact (ex24.trans g.f) b o q
        · by_cases z : b = c'
          · subst z
            rw [if_pos rfl] at q
            rw [hcF o q]
            exact .inl (g.h b _ hco codeO_ne)
          · rw [if_neg z] at q
            exact g.ex b o q
        · by_cases z : b = c'
          · subst z
            rw [if_pos rfl]
            exact q
          · rw [if_neg z]
            exact g.own b (by rw [upd_ne z]; exact q) n
      exact ⟨fun γ' σ' F' H' hn s' => fin _ F' H' s'.g (hn F'), fun _ _ _ _ z _ => z.elim, fun _ _ _ _ z _ => z.elim, fun v F' H' g p => fin v F' H' g p, fun _ _ _ _ _ z => z.elim⟩
  refine wpAny_call (codeAny_mono rc fun r s' hq => ?_)
  cases r with
  | error e => exact hq.elim
  | ok fl =>
    cases fl with
    | ret u => exact I3.after hq
    | next => exact False.elim hq
    | brk => exact False.elim hq
    | cont => exact False.elim hq
end
end Td
namespace Tw
open PySem PySem.Spec PyProof.Rows L2
section
variable {P : Program} {w : World} {K : Frag} {mg : Str → Option Value} {base : Heap} {T : List NTab} {C : Addr} {ι : Type} {S : ι → Pr}
/-- a def whose code object is known -/
theorem def_okC {x qual : Str} {st : Stmt} {f : Addr} {fd : FuncData} {N ps : List Str} {k : Nat} {cd : Value} (F : Fun K x qual st f fd) (hcd : fd.code = cd) (Sc : FnScope N ps (defScope st)) (hlen : ∀ i, (S i).args.length = ps.length)
    (body : ∀ (i : ι), (S i).pre → ∀ (A : Around) (outer : List PySem.Env) (s : Shared) (H : Hp) (E : XK), Room k (A.deeper (envOfC qual (defScope st) s.heap.objs.size f cd)) →
      SJs (cxOf CX0 P w K mg base N qual (defScope st) f cd A outer s H E).nox ⟨T, C, E⟩ (startG (S i).args N.length) (defBody st) (poOf (S i).out)) : FnOk P w K mg base CX0 (k + 1) f fd ps (spF T C S) := by
  obtain ⟨oc, od, kV, doc, pm, an, cdv, ct, osl, rfl, lk, hcd'⟩ := F.ex
  obtain rfl : cdv = cd := hcd
  refine fn_of lk hcd' Sc (fun vs H Q E ⟨i, F, _, _, _, h, _⟩ => by rw [h.length, hlen]) fun A outer s H vs Q E hr ⟨i, F1, hp, e, t, h, hq⟩ => ⟨_, (body i hp A outer s H E hr).nox, ?_⟩
  have hl : vs.length ≤ N.length := by
    rw [h.length, hlen, ← Sc.pre, List.length_take]
    omega
  refine ⟨F1, H, F1, start_st e t h hl, ?_⟩
  cases ho : (S i).out with
  | ok R =>
    rw [ho] at hq
    exact ⟨fun γ' σ' F' H' hn s' => hq _ F' H' s'.g (hn F'), fun _ _ _ _ z _ => z.elim, fun _ _ _ _ z _ => z.elim, fun v F' H' g p => hq v F' H' g p, fun _ _ _ _ _ z => z.elim⟩
  | err o m =>
    rw [ho] at hq
    exact ⟨fun _ _ _ _ z _ => z.elim, fun _ _ _ _ z _ => z.elim, fun _ _ _ _ z _ => z.elim, fun _ _ _ _ z => z.elim, fun o' m' d F' H' ⟨e1, e2⟩ g h0 xd => by
      subst e1 e2
      exact hq d F' H' g h0 xd⟩
end
section
variable {X : Cx} {T : List NTab} {γ : Gm} {e : Expr} {pos p : Pos}
theorem ev_sum {ns : List Int} (hc : X.calm = true) (hm : X.mg "sum" = none) (ha : Ev X T γ e (sh X.K (.list (ns.map .int)))) (hg : Gl X "sum" := by rfl)
    (he : starEach [e] X.env = (false, eval e X.env) :: starEach [] X.env := by rfl) (hpl : (backTo pos (starEach [] X.env)).any (·.1) = false := by rfl) : Ev X T γ (.Call (.Name "sum" p) [e] [] pos) (sh X.K (.int ns.sum)) :=
  ev_callB (cr_sum hc) (fun vs F H Q ex q k => by
    obtain ⟨v, us, rfl, h1, h2⟩ := q
    have h2 : us = [] := h2
    subst h2
    obtain ⟨a, xs, rfl, h3, h4⟩ := h1
    have e2 := DqAll.ints h4
    subst e2
    exact ⟨a, _, rfl, SqL.of (ex.go h3), k _ F H (Grow.refl ex) rfl⟩) hm (by decide +kernel) (eva_cons ha eva_nil he) hg (by decide) (by decide) he hpl
end
end Tw
namespace Td
open PySem PySem.Spec PyProof.Rows L2 Tw LamX NdefX
open Tl (NP pwin wstep norm maxL nOf flen)
abbrev s_lwith : Stmt := top 12
def lamIn : Stmt → Lam
  | .Assign _ (.Call _ [_, _, .Lambda ps b sc pos] _ _) _ => ⟨ps, b, sc, pos⟩
  | _ => ⟨⟨[], [], none, [], [], none, []⟩, .Constant .none 0 ⟨0, 0, 0, 0⟩, defScope s_lwith, ⟨0, 0, 0, 0⟩⟩
def lam1 : Lam := lamIn ((defBody s_lwith).getD 3 (.Pass ⟨0, 0, 0, 0⟩))
def lam2 : Lam := lamIn ((defBody s_lwith).getD 8 (.Pass ⟨0, 0, 0, 0⟩))
def qLam : Str := "lengths_with.<locals>.<lambda>"
theorem sc_lwith : FnScope ["steps", "index", "far", "first", "start", "end", "last", "behind", "own", "kind", "count"] ["steps", "index"] (defScope s_lwith) := ⟨rfl, rfl, rfl, by decide +kernel, rfl, by decide +kernel, by decide +kernel⟩
section
variable {P : Program} {w : World} {K : Frag} {mg : Str → Option Value} {base : Heap} {T : List Tw.NTab} {C CN : Addr}
def S_lwith (K : Frag) : Pipe × Nat → Pr := fun i => ⟨i.1.length ≤ 20, [sh K (.list (stepsL i.1)), sh K (.int i.2)], .ok (sh K (lenD (R7256f.Spec.lengthsWith (nOf i.1).form i.2)))⟩
theorem lam1_ok {X : Cx} (N : NS P w K mg base T C CN) (hX : X.prog = P ∧ X.w = w ∧ X.K = K ∧ X.mg = mg ∧ X.base = base) {a : NP} (hA : a.turns.length ≤ 60) (i : Nat) : LamOk X T [.sh (nrm K CN a), .sh (sh K (.int i))] lam1 qLam ["own", "index"] (fun n => decide (i < (a.win n).2)) 2 := by
  obtain ⟨rfl, rfl, rfl, rfl, rfl⟩ := hX
  refine ⟨nscope_by (by decide +kernel), fun _ _ _ _ _ => rfl, fun A outer s H f c' cl m hr => ?_⟩
  refine Ev.cast (ev_gt (ev_ixT (ds := [.int (a.win m).1, .int (a.win m).2]) (ev_meth N.win hr (by decide) (a, m) hA rfl rfl (obj_ins rfl) (ev_var 1 rfl) (eva_cons (ev_var 0 rfl) eva_nil)) ev_int) (ev_var 2 rfl)) (congrArg PyData.bool (decide_eq_decide.mpr ?_))
  omega
theorem lam2_ok {X : Cx} (N : NS P w K mg base T C CN) (hX : X.prog = P ∧ X.w = w ∧ X.K = K ∧ X.mg = mg ∧ X.base = base) {a : NP} (hA : a.turns.length ≤ 60) (i : Nat) : LamOk X T [.sh (nrm K CN a), .sh (sh K (.int i))] lam2 qLam ["own", "index"] (fun n => decide (i < (a.win n).1)) 2 := by
  obtain ⟨rfl, rfl, rfl, rfl, rfl⟩ := hX
  refine ⟨nscope_by (by decide +kernel), fun _ _ _ _ _ => rfl, fun A outer s H f c' cl m hr => ?_⟩
  refine Ev.cast (ev_gt (ev_ixT (ds := [.int (a.win m).1, .int (a.win m).2]) (ev_meth N.win hr (by decide) (a, m) hA rfl rfl (obj_ins rfl) (ev_var 1 rfl) (eva_cons (ev_var 0 rfl) eva_nil)) ev_int) (ev_var 2 rfl)) (congrArg PyData.bool (decide_eq_decide.mpr ?_))
  omega
theorem flen_ge (r : Nat → Bool) : ∀ (k low high : Nat), high - low ≤ k → low ≤ flen r low high
  | 0, low, high, h => by
    rw [Tl.flen_step, if_neg (by omega)]
    exact Nat.le_refl _
  | k + 1, low, high, h => by
    rw [Tl.flen_step]
    split
    · split
      · exact flen_ge r k low ((low + high) / 2) (by omega)
      · exact Nat.le_trans (by omega) (flen_ge r k ((low + high) / 2 + 1) high (by omega))
    · exact Nat.le_refl _
theorem hGm_two {p q : Tw.Ty} {γ : Gm} {j k : Nat} (h1 : γ[j]? = some (Slot.sh p)) (h2 : γ[k]? = some (Slot.sh q)) : ∀ (i : Nat) (P : Tw.Ty), ([.sh p, .sh q] : Gm)[i]? = some (Slot.sh P) → ∃ m, ([j, k] : List Nat)[i]? = some m ∧ γ[m]? = some (Slot.sh P) := fun i P hi => by
  match i, hi with
  | 0, hi => cases hi; exact ⟨j, rfl, h1⟩
  | 1, hi => cases hi; exact ⟨k, rfl, h2⟩
  | i + 2, hi => simp at hi
theorem ok_lwith {f g c PT : Addr} {fd fg : FuncData} {nm : Nat → Nat → Str} (F : Fun K "lengths_with" "lengths_with" s_lwith f fd) (hcd : fd.code = .ref c) (N : NS P w K mg base T C CN)
    (G : Fun K "first_length" "first_length" s_flen g fg) (hm : mg "first_length" = some (.ref g)) (hB : L2.Binds K fg ["low", "high", "is_right"] []) (TB : TabB base mg c PT) (hPT : (PT, nm) ∈ T) (hu : ∀ p ∈ T, p.1 = PT → p.2 = nm) (hnm : ∀ i j, nm i j = qLam) : FnOk P w K mg base CX0 5 f fd ["steps", "index"] (spF T C (S_lwith K)) := by
  refine def_okC F hcd sc_lwith (fun _ => rfl) fun ⟨p, n⟩ hp A outer s H E hr => ?_
  have hp : p.length ≤ 20 := hp
  have hA : (nOf p).turns.length ≤ 60 := Nat.le_trans (Tl.nOf_len p) (by omega)
  refine sj_cons (sj_set 8 (ev_normal N.nm hr (by decide) p (by omega) (ev_var 0 rfl)) ?_ sc_lwith.nd)
  have wA := Tl.nOf_wf p
  show SJs _ _ [.sh (sh K (.list (stepsL p))), .sh (sh K (.int n)), .un, .un, .un, .un, .un, .un, .sh (nrm K CN (nOf p)), .un, .un] _ (poOf (.ok (sh K (lenD (R7256f.Spec.lengthsWith (nOf p).form n)))))
  generalize nOf p = a at hA wA ⊢
  have hw := Tl.lengthsWith_is wA n
  rw [← hw]
  refine sj_cons (sj_if (evt_val (fE N.t (ev_var 8 rfl))) (fun he => ?_) fun he => ?_)
  · refine sj_last (sj_ret (ev_non.cast ?_))
    unfold Tl.lengthsWithM
    rw [if_pos he]
    rfl
  · refine sj_nil ?_
    have he : ¬ a.emp = true := by rw [he]; simp
    have e1 : Tl.lengthsWithM a n = (let first := flen (fun m => decide (n < (a.win m).2)) 0 (a.far n)
      if (a.win first).2 ≤ n ∨ n < (a.win first).1 then none else
        match a.lastStart with
        | some s => if s ≤ n then some (first, none) else some (first, some (flen (fun m => decide (n < (a.win m).1)) first (a.far n) - 1))
        | none => some (first, some (flen (fun m => decide (n < (a.win m).1)) first (a.far n) - 1))) := by
      unfold Tl.lengthsWithM
      rw [if_neg he]
      all_goals rfl
    rw [e1]
    have sumE : Ev (cxOf CX0 P w K mg base ["steps", "index", "far", "first", "start", "end", "last", "behind", "own", "kind", "count"] "lengths_with" (defScope s_lwith) f (.ref c) A outer s H E).nox T [.sh (sh K (.list (stepsL p))), .sh (sh K (.int n)), .un, .un, .un, .un, .un, .un, .sh (nrm K CN a), .un, .un]
        (match (defBody s_lwith).getD 2 (.Pass ⟨0, 0, 0, 0⟩) with | .Assign _ e _ => e | _ => .Constant .none 0 ⟨0, 0, 0, 0⟩) (sh K (.int (a.far n))) := by
      refine Ev.cast (ev_add (ev_add (ev_add (ev_var 1 rfl) (ev_meth0 N.beyond hr (by decide) a hA rfl rfl (obj_ins rfl) (ev_var 8 rfl))) (ev_meth0 N.off hr (by decide) a hA rfl rfl (obj_ins rfl) (ev_var 8 rfl)))
        (ev_sum (ns := a.turns.map fun e => (e.2 : Int)) rfl N.x.sum (Ev.cast (EvN.sh (evn_lc (own := [("kind", 9), ("count", 10)]) (ds := turnsL a.turns) (f := fun _ => true) (g := fun d => .int (sndI d)) true rfl sc_lwith.nd (fT N.t (ev_var 8 rfl)) (blkOk_by (N := ["steps", "index", "far", "first", "start", "end", "last", "behind", "own", "kind", "count"]) (sc := defScope s_lwith) (by decide +kernel)) (fun _ _ _ _ _ => pg_two _ 9 10 rfl sc_lwith.nd) (tgt_pair 9 10) turns_pr ?_ ⟨fun d hd s H C cl fp => evts_nil, fun d hd _ s H C cl fp => ?_⟩)) ?_))) ?_
      · rw [turnsL, List.length_map]
        exact small_of hA rfl
      · obtain ⟨e, _, rfl⟩ := List.mem_map.mp hd
        exact ev_var 10 rfl
      · rw [filter_all, turnsL, List.map_map, List.map_map]
        rfl
      · unfold NP.far
        congr 1
        have : (a.turns.map fun e => (e.2 : Int)).sum = ((a.turns.map (·.2)).sum : Nat) := by
          induction a.turns with
          | nil => rfl
          | cons x l ih => rw [List.map_cons, List.map_cons, List.sum_cons, List.sum_cons, ih]; omega
        rw [this]
        omega
    refine sj_cons (sj_set 2 sumE ?_ sc_lwith.nd)
    refine sj_cons (sj_set 3 (P := sh K (.int (flen (fun m => decide (n < (a.win m).2)) 0 (a.far n)))) (ev_flen (k := 2) (lo := 0) (γc := [.sh (nrm K CN a), .sh (sh K (.int n))]) (js := [8, 1]) lam1 G hm hB TB rfl hPT hu (hnm _ _) rfl (show ndefB (defScope s_lwith) lam1.scope ["own", "index"] = true by decide +kernel) rfl (hGm_two rfl rfl) rfl (lam1_ok N ⟨rfl, rfl, rfl, rfl, rfl⟩ hA n) hr ev_int (ev_var 2 rfl)) ?_ sc_lwith.nd)
    generalize flen (fun m => decide (n < (a.win m).2)) 0 (a.far n) = fi
    refine sj_cons (sj_set2 4 5 (d1 := .int (a.win fi).1) (d2 := .int (a.win fi).2) (ev_meth N.win hr (by decide) (a, fi) hA rfl rfl (obj_ins rfl) (ev_var 8 rfl) (eva_cons (ev_var 3 rfl) eva_nil)) (pg_two _ 4 5 rfl sc_lwith.nd) ?_)
    refine sj_cons (sj_if (EvW.t (evw_or (evt_le (ev_var 5 rfl) (ev_var 1 rfl)) (fun _ => evw_or1 (evt_gt (ev_var 4 rfl) (ev_var 1 rfl))))) (fun h => ?_) fun h => ?_)
    · rw [Bool.or_eq_true, decide_eq_true_iff, decide_eq_true_iff] at h
      refine sj_last (sj_ret (ev_non.cast ?_))
      show PyData.none = lenD _
      rw [if_pos (by omega)]
      rfl
    · rw [Bool.or_eq_false_iff, decide_eq_false_iff_not, decide_eq_false_iff_not] at h
      refine sj_nil ?_
      refine sj_cons (sj_set 6 (P := sh K (optN a.lastStart)) (ev_meth0 N.lastStart hr (by decide) a hA rfl rfl (obj_ins rfl) (ev_var 8 rfl)) ?_ sc_lwith.nd)
      have rest : ∀ ls : Option Nat, SJs (cxOf CX0 P w K mg base ["steps", "index", "far", "first", "start", "end", "last", "behind", "own", "kind", "count"] "lengths_with" (defScope s_lwith) f (.ref c) A outer s H E).nox ⟨T, C, E⟩ [.sh (sh K (.list (stepsL p))), .sh (sh K (.int n)), .sh (sh K (.int (a.far n))), .sh (sh K (.int fi)), .sh (sh K (.int (a.win fi).1)), .sh (sh K (.int (a.win fi).2)), .sh (sh K (optN ls)), .un, .sh (nrm K CN a), .un, .un]
          ((defBody s_lwith).drop 8) (poOf (.ok (sh K (.tuple [.int fi, .int ((flen (fun m => decide (n < (a.win m).1)) fi (a.far n) : Nat) - 1 : Int)])))) := by
        intro ls
        refine sj_cons (sj_set 7 (P := sh K (.int (flen (fun m => decide (n < (a.win m).1)) fi (a.far n)))) (ev_flen (k := 2) (γc := [.sh (nrm K CN a), .sh (sh K (.int n))]) (js := [8, 1]) lam2 G hm hB TB rfl hPT hu (hnm _ _) rfl (show ndefB (defScope s_lwith) lam2.scope ["own", "index"] = true by decide +kernel) rfl (hGm_two rfl rfl) rfl (lam2_ok N ⟨rfl, rfl, rfl, rfl, rfl⟩ hA n) hr (ev_var 3 rfl) (ev_var 2 rfl)) ?_ sc_lwith.nd)
        exact sj_last (sj_ret (ev_tup (ds := [_, _]) (eva_cons (ev_var 3 rfl) (eva_cons (ev_sub (ev_var 7 rfl) ev_int) eva_nil))))
      have f1 : 1 ≤ fi := by
        have := Tl.win_le a.form fi
        rw [← Tl.win_is wA fi] at this
        omega
      have f2 := flen_ge (fun m => decide (n < (a.win m).1)) (a.far n - fi) fi (a.far n) (Nat.le_refl _)
      have e2 : PyData.tuple [.int fi, .int ((flen (fun m => decide (n < (a.win m).1)) fi (a.far n) : Nat) - 1 : Int)] = lenD (some (fi, some (flen (fun m => decide (n < (a.win m).1)) fi (a.far n) - 1))) := by
        show _ = PyData.tuple [.int fi, .int ((flen (fun m => decide (n < (a.win m).1)) fi (a.far n) - 1 : Nat) : Int)]
        exact congrArg (fun z => PyData.tuple [.int fi, .int z]) (by omega)
      have no : ¬ ((a.win fi).2 ≤ n ∨ n < (a.win fi).1) := by omega
      rw [e2] at rest
      show SJs _ _ _ _ (poOf (.ok (sh K (lenD (if (a.win fi).2 ≤ n ∨ n < (a.win fi).1 then none else _)))))
      rw [if_neg no]
      cases hs : a.lastStart with
      | none =>
        have r := rest none
        refine sj_cons (sj_if (EvW.t (evw_and (l := false) (evt_notN (ev_var 6 rfl)) (fun z => by cases z))) (fun z => by cases z) fun _ => ?_)
        exact sj_nil r
      | some l =>
        have r := rest (some l)
        refine sj_cons (sj_if (EvW.t (evw_and (evt_notN (ev_var 6 rfl)) (fun _ => evw_and1 (evt_le (i := l) (ev_var 6 rfl) (ev_var 1 rfl))))) (fun h2 => ?_) fun h2 => ?_)
        · have h2 : l ≤ n := by
            have := of_decide_eq_true (show decide ((l : Int) ≤ n) = true from h2)
            omega
          refine sj_last (sj_ret (Ev.cast (ev_tup (ds := [_, _]) (eva_cons (ev_var 3 rfl) (eva_cons ev_non eva_nil))) ?_))
          show _ = lenD (if l ≤ n then _ else _)
          rw [if_pos h2]
          rfl
        · have h2 : ¬ l ≤ n := by
            have := of_decide_eq_false (show decide ((l : Int) ≤ n) = false from h2)
            omega
          refine sj_nil ?_
          show SJs _ _ _ _ (poOf (.ok (sh K (lenD (if l ≤ n then _ else _)))))
          rw [if_neg h2]
          exact r
end
end Td
namespace Tw
open PySem PySem.Spec PyProof.Rows L2
def charD (c : Nat) : PyData := .str ⟨#[c]⟩
section
variable {X : Cx} {T : List NTab} {γ : Gm} {elt tg iter a b e : Expr} {ifs : List Expr} {scope : Scope} {vs : List Nat} {good : PyData → Prop} {ug : PyData → Gm → Gm} {f : PyData → Bool} {g : PyData → PyData} {G : TG} {pos p apos : Pos} {x : Str}
/-- [.. for c in text] -/
theorem evn_lcS {own : List (Str × Nat)} (hc : X.calm = true) (hN : X.N.Nodup) (hi : Ev X T γ iter (sh X.K (.str x))) (ok : BlkOk X.N X.env.scope scope own)
    (hG : ∀ (s : Shared) (H : Hp) (C : Addr) (cl : List (Str × Addr)) (fp : List Addr), PG (X.blk s H scope (compEnvC scope cl C X.env) fp) tg G) (hT : Tgt X.K G (own.map (·.2)) good ug) (hgood : ∀ d ∈ x.cps.toList.map charD, good d) (hl : x.cps.toList.length < sizeLine)
    (B : Blk X T γ elt ifs scope (own.map (·.2)) ug (x.cps.toList.map charD) f g) (hs : ∀ x, foldedSetIterable iter X.env x = pure x := by intro _; rfl) : EvN X T γ (.ListComp elt [⟨tg, iter, ifs, 0⟩] scope pos) (((x.cps.toList.map charD).filter f).map g) :=
  PE.imp (pe_lc hc hN (pi_str hi) ok hG (fun s H C cl fp => (⟨fun pins st σ H' Q I ⟨d, hd, q⟩ => (B.t d hd s H C cl fp).run pins st σ H' Q I q⟩ : PTs (X.blk s H scope (compEnvC scope cl C X.env) fp) ifs (tBt X T γ (own.map (·.2)) ug (x.cps.toList.map charD) f))) (fun s H C cl fp => (⟨fun pins st σ H' Q I ⟨d, hd, hf, q⟩ => (B.e d hd hf s H C cl fp).run pins st σ H' Q I q⟩ : PE (X.blk s H scope (compEnvC scope cl C X.env) fp) elt (tBe X T γ (own.map (·.2)) ug (x.cps.toList.map charD) f g))) hs) fun σ H Q ⟨F, s, q⟩ => by
    refine ⟨F, s, fun v F1 H1 g1 p1 => ?_⟩
    have p1 : v = .str x := p1
    refine ⟨x, p1, fun D hD => ?_⟩
    have g0 := Grow.raw (T := T) (o := .lst []) g1.ex hD
    have ln : x.cps.toList.length = x.cps.size := Array.length_toList
    refine ⟨fun i m H' => m = x.cps.size - i ∧ i ≤ x.cps.size ∧ ∃ F5 xs5, Grow T F1 H1 F5 H' ∧ F5 D = none ∧ H' D = some (.lst xs5) ∧ DqAll X.K F5 ((((x.cps.toList.map charD).take i).filter f).map g) xs5, ⟨_, rfl, Nat.zero_le _, F1, [], g0, g1.ex.free hD, upd_same, rfl⟩, ?_⟩
    rintro i m H' ⟨rfl, hi, F5, xs5, k1, k2, k3, k4⟩
    by_cases hlt : i < x.cps.size
    · refine .inr ⟨hlt, fun H' => ∃ F5 xs5, Grow T F1 H1 F5 H' ∧ F5 D = none ∧ H' D = some (.lst xs5) ∧ DqAll X.K F5 ((((x.cps.toList.map charD).take (i + 1)).filter f).map g) xs5, fun H'' k => ⟨_, by omega, rfl, hlt, k⟩, ?_⟩
      rintro y H'' ⟨rfl, c, hcx, rfl⟩
      have hd : (x.cps.toList.map charD)[i]? = some (charD c) := by
        rw [List.getElem?_map, Array.getElem?_toList, hcx]
        rfl
      exact lc_turn hT hgood (by rw [List.length_map]; exact hl) (s.grow g1) hD hd rfl k1 k2 k3 k4
    · have e : i = x.cps.size := by omega
      refine .inl ⟨by show x.cps.size ≤ i; omega, ?_⟩
      rw [List.take_of_length_le (by rw [List.length_map, ln]; omega)] at k4
      exact q D xs5 F5 H' (g1.trans k1) (g1.free _ hD) k2 k3 k4
theorem ev_ord {c : Nat} (hm : X.mg "ord" = none) (ha : Ev X T γ e (sh X.K (charD c))) (hg : Gl X "ord" := by rfl)
    (he : starEach [e] X.env = (false, eval e X.env) :: starEach [] X.env := by rfl) (hpl : (backTo pos (starEach [] X.env)).any (·.1) = false := by rfl) : Ev X T γ (.Call (.Name "ord" p) [e] [] pos) (sh X.K (.int c)) :=
  ev_callB call_ord (fun vs F H Q ex q k => by
    obtain ⟨v, us, rfl, h1, h2⟩ := q
    have h2 : us = [] := h2
    subst h2
    exact ⟨⟨#[c]⟩, by rw [show v = .str ⟨#[c]⟩ from h1], rfl, k _ F H (Grow.refl ex) rfl⟩) hm (by decide +kernel) (eva_cons ha eva_nil he) hg (by decide) (by decide) he hpl
/-- tuple(xs) -/
theorem ev_tuple {ds : List PyData} (l : Bool) (hm : X.mg "tuple" = none) (ha : Ev X T γ e (sh X.K (seqD l ds))) (hg : Gl X "tuple" := by rfl)
    (he : starEach [e] X.env = (false, eval e X.env) :: starEach [] X.env := by rfl) (hpl : (backTo pos (starEach [] X.env)).any (·.1) = false := by rfl) : Ev X T γ (.Call (.Name "tuple" p) [e] [] pos) (sh X.K (.tuple ds)) :=
  ev_callTy call_tuple_of (fun vs F H Q ex q k => by
    obtain ⟨v, us, rfl, h1, h2⟩ := q
    have h2 : us = [] := h2
    subst h2
    cases l with
    | true =>
      obtain ⟨r, xs, rfl, h3, h4⟩ := h1
      refine ⟨r, xs, rfl, .inl ⟨SqL.of (ex.go h3), fun l hl => ?_⟩⟩
      have g := Grow.new (T := T) (o := .tup xs) ex hl
      exact k _ _ _ g ⟨l, xs, rfl, .inl (.inl upd_same), DqAll.mono g.f _ _ h4⟩
    | false =>
      obtain ⟨r, xs, rfl, h3, h4⟩ := h1
      exact ⟨r, xs, rfl, .inr ⟨ex.tup h3, k _ F H (Grow.refl ex) ⟨r, xs, rfl, h3, h4⟩⟩⟩) hm (by decide +kernel) (eva_cons ha eva_nil he) hg (by decide) (by decide) he hpl
/-- a call of a built-in that makes a list, not frozen -/
def RuleN (T : List NTab) (K : Frag) (r : List V → Hp → VK → Prop) (Ps : List Ty) (ds : List PyData) : Prop := ∀ vs F H Q, Ex F H → AllP Ps vs F → (∀ a xs, H a = none → DqAll K F ds xs → Q (.ref a) (upd H a (.lst xs))) → r vs H Q
theorem evn_callTy {id : String} {r : List V → Hp → VK → Prop} {Ps : List Ty} {es : List Expr} {ds : List PyData} {y : Str} (hc : CallR X (.type id) r) (hr : RuleN T X.K r Ps ds) (hm : X.mg y = none) (hv : bootBuiltins y = some (.type id)) (ha : EvA X T γ (e :: es) Ps) (hg : Gl X y := by rfl)
    (hn : y ≠ "__name__" := by decide) (hdb : (y == ("__debug__" : Str)) = false := by decide)
    (he : starEach (e :: es) X.env = (false, eval e X.env) :: starEach es X.env := by rfl) (hpl : (backTo pos (starEach es X.env)).any (·.1) = false := by rfl) : EvN X T γ (.Call (.Name y p) (e :: es) [] pos) ds :=
  PE.imp (pe_callTy hc hg hm hv ha hn hdb he hpl) fun σ H Q ⟨F, s, q⟩ => ⟨F, s, fun vs F1 H1 g1 p1 => hr vs F1 H1 Q g1.ex p1 fun a xs h1 h2 => q a xs _ _ (g1.trans (Grow.raw g1.ex h1)) (g1.free _ h1) (g1.ex.free h1) upd_same h2⟩
/-- list(xs) -/
theorem evn_list {ds : List PyData} (l : Bool) (hm : X.mg "list" = none) (ha : Ev X T γ e (sh X.K (seqD l ds))) (hg : Gl X "list" := by rfl)
    (he : starEach [e] X.env = (false, eval e X.env) :: starEach [] X.env := by rfl) (hpl : (backTo pos (starEach [] X.env)).any (·.1) = false := by rfl) : EvN X T γ (.Call (.Name "list" p) [e] [] pos) ds :=
  evn_callTy call_list_of (fun vs F H Q ex q k => by
    obtain ⟨v, us, rfl, h1, h2⟩ := q
    have h2 : us = [] := h2
    subst h2
    obtain ⟨r, xs, rfl, h3, h4⟩ := seq_is ex h1
    exact ⟨r, xs, rfl, h3, fun l hl => k l xs hl h4⟩) hm (by decide +kernel) (eva_cons ha eva_nil he) hg (by decide) (by decide) he hpl
theorem ev_all {bs : List Bool} (hc : X.calm = true) (hm : X.mg "all" = none) (ha : Ev X T γ e (sh X.K (.list (bs.map .bool)))) (hg : Gl X "all" := by rfl)
    (he : starEach [e] X.env = (false, eval e X.env) :: starEach [] X.env := by rfl) (hpl : (backTo pos (starEach [] X.env)).any (·.1) = false := by rfl) : Ev X T γ (.Call (.Name "all" p) [e] [] pos) (sh X.K (.bool (bs.all id))) :=
  ev_callB (cr_all hc) (fun vs F H Q ex q k => by
    obtain ⟨v, us, rfl, h1, h2⟩ := q
    have h2 : us = [] := h2
    subst h2
    obtain ⟨r, xs, rfl, h3, h4⟩ := h1
    have e2 := DqAll.bools h4
    subst e2
    exact ⟨r, _, rfl, SqL.of (ex.go h3), k _ F H (Grow.refl ex) rfl⟩) hm (by decide +kernel) (eva_cons ha eva_nil he) hg (by decide) (by decide) he hpl
/-- texts -/
theorem ev_catS {s t : Str} (h : s.length + t.length ≤ sizeLine) (ha : Ev X T γ a (sh X.K (.str s))) (hb : Ev X T γ b (sh X.K (.str t))) : Ev X T γ (.BinOp a .Add b pos) (sh X.K (.str (s ++ t))) :=
  ev_op op_add_str (fun x y F H Q ex p q k => ⟨s, t, p, q, h, k _ F H (Grow.refl ex) rfl⟩) ha hb
theorem ev_strI {i : Int} (h : i.natAbs.log2 < 1920) (hm : X.mg "str" = none) (ha : Ev X T γ e (sh X.K (.int i))) (hg : Gl X "str" := by rfl)
    (he : starEach [e] X.env = (false, eval e X.env) :: starEach [] X.env := by rfl) (hpl : (backTo pos (starEach [] X.env)).any (·.1) = false := by rfl) : Ev X T γ (.Call (.Name "str" p) [e] [] pos) (sh X.K (.str (toString i))) :=
  ev_callTy call_str_int (fun vs F H Q ex q k => by
    obtain ⟨v, us, rfl, h1, h2⟩ := q
    have h2 : us = [] := h2
    subst h2
    exact ⟨i, by rw [show v = .int i from h1], h, k _ F H (Grow.refl ex) rfl⟩) hm (by decide +kernel) (eva_cons ha eva_nil he) hg (by decide) (by decide) he hpl
theorem ev_join {s : Str} {ys : List Str} (hz : (ys.map (·.length)).sum + ys.length * s.length ≤ 16777216) (ha : Ev X T γ a (sh X.K (.str s))) (hb : Ev X T γ e (sh X.K (.list (ys.map .str)))) (hs : starEach [e] X.env = [(false, eval e X.env)] := by rfl)
    (hbase : attributeBase a "join" X.env (eval a X.env) = eval a X.env := by rfl) (hline : (apos.endLine == pos.line) = true := by rfl) : Ev X T γ (.Call (.Attribute a "join" apos) [e] [] pos) (sh X.K (.str (Txt.join s ys))) :=
  PE.imp (pe_join ha hb hs hbase hline) fun σ H Q ⟨F, st, q⟩ => ⟨F, st, fun v F1 H1 g1 p1 => by
    have p1 : v = .str s := p1
    refine ⟨⟨s, p1⟩, F1, st.grow g1, fun u F2 H2 g2 p2 => ?_⟩
    obtain ⟨r, xs, rfl, h1, h2⟩ := p2
    have e2 := DqAll.strs h2
    subst e2
    exact ⟨s, r, ys, p1, rfl, .inl (SqL.of (g2.ex.go h1)), hz, q _ F2 H2 (g1.trans g2) rfl⟩⟩
/-- [d] * n -/
theorem evn_rep {ds : List PyData} {n : Int} (hn : -(2 ^ 63) ≤ n ∧ n < 2 ^ 63) (hz : ds.length * n.toNat ≤ sizeLine) (ha : Ev X T γ a (sh X.K (.list ds))) (hb : Ev X T γ b (sh X.K (.int n))) : EvN X T γ (.BinOp a .Mult b pos) (List.replicate n.toNat ds).flatten :=
  PE.imp (pe_op op_rep ha hb) fun σ H Q ⟨F, s, q⟩ => ⟨F, s, fun x F1 H1 g1 p1 => ⟨F1, s.grow g1, fun y F2 H2 g2 p2 => by
    obtain ⟨r, xs, rfl, h1, h2⟩ := p1
    have p2 : y = .int n := p2
    have h3 := DqAll.mono g2.f _ _ h2
    refine ⟨r, n, xs, rfl, p2, g2.ex.go (g2.f.go h1), hn.1, hn.2, by rw [h2.length]; exact hz, fun p hp => ?_⟩
    have g3 := Grow.raw (T := T) (o := .lst (List.replicate n.toNat xs).flatten) g2.ex hp
    refine q p _ _ _ ((g1.trans g2).trans g3) (g1.free _ (g2.free _ hp)) (g2.ex.free hp) upd_same ?_
    generalize n.toNat = m
    induction m with
    | zero => exact rfl
    | succ m ih =>
      rw [List.replicate_succ, List.replicate_succ, List.flatten_cons, List.flatten_cons]
      exact h3.append ih⟩⟩
/-- xs[lo:hi] of a tuple -/
theorem ev_sliceT {lo hi : Option Expr} {l h : Option Int} {ds : List PyData} {p2 : Pos} (ha : Ev X T γ a (sh X.K (.tuple ds))) (hl : EvO X T γ lo l) (hh : EvO X T γ hi h) : Ev X T γ (.Subscript a (.Slice lo hi none p2) pos) (sh X.K (.tuple (cutD ds l h))) :=
  PE.imp (pe_slice sl_tupA ha hl hh) fun σ H Q ⟨F, s, q⟩ => ⟨F, s, fun v F1 H1 g1 p1 => ⟨F1, s.grow g1, fun F2 H2 g2 => ⟨F2, (s.grow g1).grow g2, fun F3 H3 g3 => by
    obtain ⟨b, xs, rfl, h1, h2⟩ := p1
    have g := (g1.trans g2).trans g3
    have h1' := g3.f.tup (g2.f.tup h1)
    have h3 := DqAll.mono (g2.f.trans g3.f) ds xs h2
    have hc := cut_data h3 l h
    refine ⟨b, xs, rfl, g3.ex.tup h1', fun ⟨e1, e2⟩ => ?_, fun _ p hp => ?_⟩
    · refine q _ F3 H3 g ⟨b, xs, rfl, h1', ?_⟩
      have e : cutV xs l h = xs := by
        unfold cutV
        rw [e1, e2]
        simp
      rw [e] at hc
      exact hc
    · have g4 := Grow.new (T := T) (o := .tup (cutV xs l h)) g3.ex hp
      exact q _ _ _ (g.trans g4) ⟨p, _, rfl, .inl (.inl upd_same), DqAll.mono g4.f _ _ hc⟩⟩⟩⟩
end
end Tw
namespace Td
open PySem PySem.Spec PyProof.Rows L2 Tw
/-! ### values as data -/
def codesS (x : Str) : PyData := .tuple (x.cps.toList.map fun (c : Nat) => PyData.int c)
def intD (i : Int) : PyData := .tuple [.int 4, .int i]
def textD (x : Str) : PyData := .tuple [.int 6, codesS x]
def truthD (b : Bool) : PyData := .tuple [.int (if b then 3 else 2)]
def listD (ds : List PyData) : PyData := .tuple [.int 7, .tuple ds]
def recD (ps : List (Str × PyData)) : PyData := .tuple [.int 8, .tuple (ps.map fun p => .tuple [codesS p.1, p.2])]
def octD (l : List UInt8) : List PyData := l.map fun o => PyData.int (o.toNat : Int)
mutual
def valD : RWire.Value → PyData
  | .nothing => .tuple [.int 0]
  | .null => .tuple [.int 1]
  | .bool b => truthD b
  | .int i => intD i
  | .big _ => .none
  | .text u => .tuple [.int 6, .tuple (octD u)]
  | .octets _ => .none
  | .wide _ => .none
  | .list l => listD (valDs l)
  | .record l => .tuple [.int 8, .tuple (valFs l)]
def valDs : List RWire.Value → List PyData
  | [] => []
  | v :: r => valD v :: valDs r
def valFs : List (RWire.Text × RWire.Value) → List PyData
  | [] => []
  | e :: r => .tuple [.tuple (octD e.1), valD e.2] :: valFs r
end
theorem valDs_map : ∀ l, valDs l = l.map valD
  | [] => rfl
  | v :: r => congrArg (valD v :: ·) (valDs_map r)
theorem valFs_map : ∀ l : List (RWire.Text × RWire.Value), valFs l = l.map fun e => PyData.tuple [.tuple (octD e.1), valD e.2]
  | [] => rfl
  | v :: r => congrArg (_ :: ·) (valFs_map r)
section
variable {P : Program} {w : World} {K : Frag} {mg : Str → Option Value} {base : Heap} {T : List NTab} {C CN : Addr}
abbrev s_codes : Stmt := top 27
def S_codes (K : Frag) : Str → Pr := fun x => ⟨x.cps.toList.length < sizeLine, [sh K (.str x)], .ok (sh K (codesS x))⟩
theorem sc_codes : FnScope ["text", "sign"] ["text"] (defScope s_codes) := ⟨rfl, rfl, rfl, by decide +kernel, rfl, by decide +kernel, by decide +kernel⟩
theorem ok_codes {f : Addr} {fd : FuncData} (F : Fun K "codes_of" "codes_of" s_codes f fd) (X : Txt K mg) : FnOk P w K mg base CX0 1 f fd ["text"] (spF T C (S_codes K)) := by
  refine def_ok F sc_codes (fun _ => rfl) fun x hx cdv A outer s H E hr => ?_
  refine sj_last (sj_ret' (d := codesS x) (Ev.cast (ev_tuple true X.tuple (EvN.sh (evn_lcS (own := [("sign", 1)]) (f := fun _ => true) (g := fun d => match d with
    | .str z => .int (z.cps.getD 0 0 : Nat)
    | _ => .none) rfl sc_codes.nd (ev_var 0 rfl) (blkOk_by (N := ["text", "sign"]) (sc := defScope s_codes) (by decide +kernel)) (fun _ _ _ _ _ => pg_name sc_codes.nd rfl (.inl rfl)) (tgt_name 1) (fun _ _ => trivial) hx ⟨fun d hd s H C cl fp => evts_nil, fun d hd _ s H C cl fp => ?_⟩))) ?_) rfl)
  · obtain ⟨c, _, rfl⟩ := List.mem_map.mp hd
    exact ev_ord X.ord (ev_var 1 rfl)
  · rw [filter_all, List.map_map]
    rfl
abbrev s_integer : Stmt := top 28
def S_integer (K : Frag) : Int → Pr := fun i => ⟨True, [sh K (.int i)], .ok (sh K (intD i))⟩
theorem sc_integer : FnScope ["number"] ["number"] (defScope s_integer) := ⟨rfl, rfl, rfl, by decide +kernel, rfl, by decide +kernel, by decide +kernel⟩
theorem ok_integer {f : Addr} {fd : FuncData} (F : Fun K "integer" "integer" s_integer f fd) (X : Txt K mg) : FnOk P w K mg base CX0 1 f fd ["number"] (spF T C (S_integer K)) := by
  refine def_ok F sc_integer (fun _ => rfl) fun i _ cdv A outer s H E hr => ?_
  exact sj_last (sj_ret (ev_tup (ds := [_, _]) (eva_cons (ev_ci X.INTEGER) (eva_cons (ev_var 0 rfl) eva_nil))))
abbrev s_text : Stmt := top 29
def S_text (K : Frag) : Str → Pr := fun x => ⟨x.cps.toList.length < sizeLine, [sh K (.str x)], .ok (sh K (textD x))⟩
theorem sc_text : FnScope ["string"] ["string"] (defScope s_text) := ⟨rfl, rfl, rfl, by decide +kernel, rfl, by decide +kernel, by decide +kernel⟩
theorem ok_text {f : Addr} {fd : FuncData} (F : Fun K "text" "text" s_text f fd) (X : Txt K mg) (f_codes : Fn P w K mg base CX0 1 "codes_of" ["text"] (spF T C (S_codes K))) : FnOk P w K mg base CX0 2 f fd ["string"] (spF T C (S_text K)) := by
  refine def_ok F sc_text (fun _ => rfl) fun x hx cdv A outer s H E hr => ?_
  exact sj_last (sj_ret (ev_tup (ds := [_, codesS x]) (eva_cons (ev_ci X.TEXT) (eva_cons (ev_call f_codes hr (by decide) x hx rfl (eva_cons (ev_var 0 rfl) eva_nil)) eva_nil))))
abbrev s_truth : Stmt := top 30
def S_truth (K : Frag) : Bool → Pr := fun b => ⟨True, [sh K (.bool b)], .ok (sh K (truthD b))⟩
theorem sc_truth : FnScope ["told"] ["told"] (defScope s_truth) := ⟨rfl, rfl, rfl, by decide +kernel, rfl, by decide +kernel, by decide +kernel⟩
theorem ok_truth {f : Addr} {fd : FuncData} (F : Fun K "truth" "truth" s_truth f fd) (X : Txt K mg) : FnOk P w K mg base CX0 1 f fd ["told"] (spF T C (S_truth K)) := by
  refine def_ok F sc_truth (fun _ => rfl) fun b _ cdv A outer s H E hr => ?_
  refine sj_last (sj_ret (ev_if (evt_val (ev_var 0 rfl)) (fun h => ?_) fun h => ?_))
  · subst h
    exact ev_c1 X.TRUE
  · subst h
    exact ev_c1 X.FALSE
abbrev s_listed : Stmt := top 31
def S_listed (K : Frag) : Bool × List PyData → Pr := fun i => ⟨True, [sh K (seqD i.1 i.2)], .ok (sh K (listD i.2))⟩
theorem sc_listed : FnScope ["rows"] ["rows"] (defScope s_listed) := ⟨rfl, rfl, rfl, by decide +kernel, rfl, by decide +kernel, by decide +kernel⟩
theorem ok_listed {f : Addr} {fd : FuncData} (F : Fun K "listed" "listed" s_listed f fd) (X : Txt K mg) : FnOk P w K mg base CX0 1 f fd ["rows"] (spF T C (S_listed K)) := by
  refine def_ok F sc_listed (fun _ => rfl) fun ⟨l, ds⟩ _ cdv A outer s H E hr => ?_
  exact sj_last (sj_ret (ev_tup (ds := [_, .tuple ds]) (eva_cons (ev_ci X.LIST) (eva_cons (ev_tuple l X.tuple (ev_var 0 rfl)) eva_nil))))
abbrev s_record : Stmt := top 33
def S_record (K : Frag) : List (Str × PyData) → Pr := fun ps => ⟨ps.length ≤ 10 ∧ ∀ p ∈ ps, p.1.cps.toList.length < sizeLine, [sh K (.list (ps.map fun p => .tuple [.str p.1, p.2]))], .ok (sh K (recD ps))⟩
theorem sc_record : FnScope ["pairs", "name", "value"] ["pairs"] (defScope s_record) := ⟨rfl, rfl, rfl, by decide +kernel, rfl, by decide +kernel, by decide +kernel⟩
def codesD (d : PyData) : PyData := match d with
  | .str z => codesS z
  | _ => .none
theorem ok_record {f : Addr} {fd : FuncData} (F : Fun K "record" "record" s_record f fd) (X : Txt K mg) (f_codes : Fn P w K mg base CX0 1 "codes_of" ["text"] (spF T C (S_codes K))) : FnOk P w K mg base CX0 2 f fd ["pairs"] (spF T C (S_record K)) := by
  refine def_ok F sc_record (fun _ => rfl) fun ps hps cdv A outer s H E hr => ?_
  obtain ⟨hl, hps⟩ : ps.length ≤ 10 ∧ ∀ p ∈ ps, p.1.cps.toList.length < sizeLine := hps
  refine sj_last (sj_ret' (d := recD ps) (ev_tup (ds := [_, .tuple (ps.map fun p => .tuple [codesS p.1, p.2])]) (eva_cons (ev_ci X.RECORD) (eva_cons (Ev.cast (ev_tuple true X.tuple (EvN.sh (evn_lc (own := [("name", 1), ("value", 2)]) (f := fun _ => true) (g := fun d => match d with
    | .tuple [a, b] => .tuple [codesD a, b]
    | _ => .none) true rfl sc_record.nd (ev_var 0 rfl) (blkOk_by (N := ["pairs", "name", "value"]) (sc := defScope s_record) (by decide +kernel)) (fun _ _ _ _ _ => pg_two _ 1 2 rfl sc_record.nd) (tgt_pair 1 2) (fun d hd => ?_) ?_ ⟨fun d hd s H C cl fp => evts_nil, fun d hd _ s H C cl fp => ?_⟩))) ?_) eva_nil))) rfl)
  · obtain ⟨p, _, rfl⟩ := List.mem_map.mp hd
    exact ⟨_, _, rfl⟩
  · rw [List.length_map]
    exact small_of hl rfl
  · obtain ⟨p, hp, rfl⟩ := List.mem_map.mp hd
    exact ev_tup (ds := [codesS p.1, p.2]) (eva_cons (ev_call f_codes hr (by decide) p.1 (hps p hp) rfl (eva_cons (ev_var 1 rfl) eva_nil)) (eva_cons (ev_var 2 rfl) eva_nil))
  · rw [filter_all, List.map_map]
    rfl
abbrev s_low : Stmt := top 34
def S_low (K : Frag) : Nat × Nat → Pr := fun i => ⟨i.2 ≤ 8, [sh K (.int i.1), sh K (.int i.2)], .ok (sh K (.list (octD (RWire.low i.2 i.1))))⟩
theorem sc_low : FnScope ["number", "many", "found", "turn"] ["number", "many"] (defScope s_low) := ⟨rfl, rfl, rfl, by decide +kernel, rfl, by decide +kernel, by decide +kernel⟩
def divs (n : Nat) : Nat → Nat
  | 0 => n
  | k + 1 => divs n k / 256
theorem divs_succ (n : Nat) : ∀ k, divs (n / 256) k = divs n (k + 1)
  | 0 => rfl
  | k + 1 => by rw [divs, divs_succ n k]; rfl
theorem low_snoc : ∀ (k n : Nat), RWire.low (k + 1) n = RWire.low k n ++ [UInt8.ofNat (divs n k)]
  | 0, n => rfl
  | k + 1, n => by
    rw [RWire.low, low_snoc k (n / 256), RWire.low, divs_succ]
    rfl
theorem octD_app (a b : List UInt8) : octD (a ++ b) = octD a ++ octD b := List.map_append
theorem octD_len (a : List UInt8) : (octD a).length = a.length := List.length_map ..
theorem low_len : ∀ (k n : Nat), (RWire.low k n).length = k
  | 0, _ => rfl
  | k + 1, n => by rw [RWire.low, List.length_cons, low_len]
theorem ok_low {f : Addr} {fd : FuncData} (F : Fun K "low_first" "low_first" s_low f fd) (X : Txt K mg) : FnOk P w K mg base CX0 1 f fd ["number", "many"] (spF T C (S_low K)) := by
  refine def_ok F sc_low (fun _ => rfl) fun ⟨n, m⟩ hm cdv A outer s H E hr => ?_
  have hm : m ≤ 8 := hm
  refine sj_cons (sj_setN 2 (ds := []) (evn_lst (ds := []) eva_nil) ?_ sc_low.nd)
  refine sj_cons (sj_forR 3 (n := m) PassesOwn.never rfl X.range ⟨by omega, by omega⟩ (ev_var 1 rfl) sc_low.nd (fun k γ => ∃ x, γ = [.sh (sh K (.int (divs n k))), .sh (sh K (.int m)), .own (octD (RWire.low k n)), x]) ⟨.un, rfl⟩ ?_ ?_)
  · rintro k _ hk ⟨x, rfl⟩
    have hk : k < m := by omega
    have e1 : ((divs n k : Nat) : Int) % 256 = ((UInt8.ofNat (divs n k)).toNat : Int) := by
      rw [UInt8.toNat_ofNat']
      omega
    refine sj_cons (sj_append 2 (ds := octD (RWire.low k n)) (d := .int ((UInt8.ofNat (divs n k)).toNat : Int)) rfl (Ev.cast (ev_mod (by decide) (ev_var 0 rfl) ev_int) (congrArg PyData.int e1)) ?_ ?_)
    · rw [octD_len, low_len]
      exact small_of (m := 8) (by omega) rfl
    · refine sj_last (sj_set 0 (P := sh K (.int (divs n k / 256 : Nat))) (Ev.cast (ev_fdiv ⟨by decide, by decide⟩ (ev_var 0 rfl) ev_int) (congrArg PyData.int (by omega))) ⟨.sh (sh K (.int k)), ?_⟩ sc_low.nd)
      rw [low_snoc, octD_app]
      rfl
  · rintro _ ⟨x, rfl⟩
    rw [show (m : Int).toNat = m by omega]
    show SJs _ _ _ _ _
    refine sj_share 2 rfl ?_
    exact sj_last (sj_ret (ev_var 2 rfl))
end
end Td
namespace Td
open PySem PySem.Spec PyProof.Rows L2 Tw
mutual
/-- values of this document -/
def okV : RWire.Value → Bool
  | .nothing => true
  | .null => true
  | .bool _ => true
  | .int i => Nat.ble i.natAbs RWire.intMost
  | .text _ => true
  | .list l => okVs l
  | .record l => okFs l
  | .big _ => false
  | .octets _ => false
  | .wide _ => false
def okVs : List RWire.Value → Bool
  | [] => true
  | v :: r => okV v && okVs r
def okFs : List (RWire.Text × RWire.Value) → Bool
  | [] => true
  | e :: r => okV e.2 && okFs r
end
theorem okVs_mem : ∀ {l : List RWire.Value}, okVs l = true → ∀ v ∈ l, okV v = true
  | [], _, v, h => by cases h
  | x :: r, h, v, hv => by
    have h : (okV x && okVs r) = true := h
    rw [Bool.and_eq_true] at h
    rcases List.mem_cons.mp hv with rfl | hv
    · exact h.1
    · exact okVs_mem h.2 v hv
theorem okFs_mem : ∀ {l : List (RWire.Text × RWire.Value)}, okFs l = true → ∀ v ∈ l, okV v.2 = true
  | [], _, v, h => by cases h
  | x :: r, h, v, hv => by
    have h : (okV x.2 && okFs r) = true := h
    rw [Bool.and_eq_true] at h
    rcases List.mem_cons.mp hv with rfl | hv
    · exact h.1
    · exact okFs_mem h.2 v hv
theorem depthMany_mem : ∀ {l : List RWire.Value}, ∀ v ∈ l, RWire.depth v ≤ RWire.depthMany l
  | [], v, h => by cases h
  | x :: r, v, hv => by
    rw [RWire.depthMany]
    rcases List.mem_cons.mp hv with rfl | hv
    · exact Nat.le_max_left _ _
    · exact Nat.le_trans (depthMany_mem v hv) (Nat.le_max_right _ _)
theorem depthEntries_mem : ∀ {l : List (RWire.Text × RWire.Value)}, ∀ v ∈ l, RWire.depth v.2 ≤ RWire.depthEntries l
  | [], v, h => by cases h
  | x :: r, v, hv => by
    rw [RWire.depthEntries]
    rcases List.mem_cons.mp hv with rfl | hv
    · exact Nat.le_max_left _ _
    · exact Nat.le_trans (depthEntries_mem v hv) (Nat.le_max_right _ _)
theorem many_app : ∀ a b : List RWire.Value, RWire.writeMany (a ++ b) = RWire.writeMany a ++ RWire.writeMany b
  | [], b => rfl
  | x :: a, b => by
    show RWire.write x ++ RWire.writeMany (a ++ b) = (RWire.write x ++ RWire.writeMany a) ++ _
    rw [many_app a b, List.append_assoc]
theorem entries_app : ∀ a b : List (RWire.Text × RWire.Value), RWire.writeEntries (a ++ b) = RWire.writeEntries a ++ RWire.writeEntries b
  | [], b => rfl
  | x :: a, b => by
    show RWire.writeText x.1 ++ (RWire.write x.2 ++ RWire.writeEntries (a ++ b)) = (RWire.writeText x.1 ++ (RWire.write x.2 ++ RWire.writeEntries a)) ++ _
    rw [entries_app a b, List.append_assoc, List.append_assoc]
theorem many_take {l : List RWire.Value} {k : Nat} {x : RWire.Value} (h : l[k]? = some x) : RWire.writeMany (l.take (k + 1)) = RWire.writeMany (l.take k) ++ RWire.write x := by
  rw [take_snoc h, many_app]
  show _ ++ (RWire.write x ++ []) = _
  rw [List.append_nil]
theorem entries_take {l : List (RWire.Text × RWire.Value)} {k : Nat} {x : RWire.Text × RWire.Value} (h : l[k]? = some x) : RWire.writeEntries (l.take (k + 1)) = RWire.writeEntries (l.take k) ++ (RWire.writeText x.1 ++ RWire.write x.2) := by
  rw [take_snoc h, entries_app]
  show _ ++ (RWire.writeText x.1 ++ (RWire.write x.2 ++ [])) = _
  rw [List.append_nil]
theorem many_le {l : List RWire.Value} {k : Nat} : (RWire.writeMany (l.take k)).length ≤ (RWire.writeMany l).length := by
  have h : RWire.writeMany l = RWire.writeMany (l.take k) ++ RWire.writeMany (l.drop k) := by rw [← many_app, List.take_append_drop]
  rw [h, List.length_append]
  omega
theorem entries_le {l : List (RWire.Text × RWire.Value)} {k : Nat} : (RWire.writeEntries (l.take k)).length ≤ (RWire.writeEntries l).length := by
  have h : RWire.writeEntries l = RWire.writeEntries (l.take k) ++ RWire.writeEntries (l.drop k) := by rw [← entries_app, List.take_append_drop]
  rw [h, List.length_append]
  omega
theorem write_ge (x : RWire.Value) : 1 ≤ (RWire.write x).length := by
  cases x <;> (show 1 ≤ List.length (_ :: _); rw [List.length_cons]; omega)
theorem many_ge : ∀ l : List RWire.Value, l.length ≤ (RWire.writeMany l).length
  | [] => Nat.zero_le _
  | x :: l => by
    show l.length + 1 ≤ (RWire.write x ++ RWire.writeMany l).length
    have := many_ge l
    have := write_ge x
    rw [List.length_append]
    omega
theorem lt_of_get {α : Type} {l : List α} {k : Nat} {x : α} (h : l[k]? = some x) : k < l.length := (List.getElem?_eq_some_iff.mp h).1
section
variable {P : Program} {w : World} {K : Frag} {mg : Str → Option Value} {base : Heap} {T : List NTab} {C CN : Addr}
abbrev s_oct : Stmt := top 35
def S_oct (K : Frag) (n : Nat) : RWire.Value → Pr := fun v => ⟨RWire.depth v ≤ n ∧ okV v = true ∧ (RWire.write v).length ≤ 100000, [sh K (valD v)], .ok (sh K (.list (octD (RWire.write v))))⟩
theorem sc_oct : FnScope ["value", "kind", "found", "part"] ["value"] (defScope s_oct) := ⟨rfl, rfl, rfl, by decide +kernel, rfl, by decide +kernel, by decide +kernel⟩
theorem writeText_len (u : RWire.Text) : (RWire.writeText u).length = 4 + u.length := by
  unfold RWire.writeText RWire.writeCount
  rw [List.length_append, low_len]
section
variable {X : Cx} {γ : Gm} {a b e : Expr} {pos p : Pos}
/-- low_first(e, m) -/
theorem ev_low {j m n : Nat} (f_low : Fn X.prog X.w X.K X.mg X.base CX0 1 "low_first" ["number", "many"] (spF T C (S_low X.K))) (hr : Room j X.A) (hj : 1 ≤ j) (hm : m ≤ 8) (ha : Ev X T γ a (sh X.K (.int n))) (hb : Ev X T γ b (sh X.K (.int m))) (hg : Gl X "low_first" := by rfl)
    (h1 : starEach [a, b] X.env = (false, eval a X.env) :: starEach [b] X.env := by rfl) (h2 : starEach [b] X.env = (false, eval b X.env) :: starEach [] X.env := by rfl) (hpl : (backTo pos (starEach [b] X.env)).any (·.1) = false := by rfl) : Ev X T γ (.Call (.Name "low_first" p) [a, b] [] pos) (sh X.K (.list (octD (RWire.low m n)))) :=
  ev_call f_low hr hj (n, m) hm rfl (eva_cons ha (eva_cons hb eva_nil h2) h1) hg (by decide) h1 hpl
end
theorem k_cons (k : Nat) (hk : k < 256) (l : List UInt8) : [PyData.int k] ++ octD l = octD (UInt8.ofNat k :: l) := by
  show PyData.int k :: octD l = PyData.int ((UInt8.ofNat k).toNat : Int) :: octD l
  rw [UInt8.toNat_ofNat', Nat.mod_eq_of_lt hk]
theorem ok_oct0 {f : Addr} {fd : FuncData} (F : Fun K "octets_of" "octets_of" s_oct f fd) : FnOk P w K mg base CX0 2 f fd ["value"] (spF T C (S_oct K 0)) := by
  refine def_ok F sc_oct (fun _ => rfl) fun v hv cdv A outer s H E hr => ?_
  have hv : RWire.depth v ≤ 0 := hv.1
  cases v <;> simp [RWire.depth] at hv
theorem ok_octS {f : Addr} {fd : FuncData} {n : Nat} (F : Fun K "octets_of" "octets_of" s_oct f fd) (X : Txt K mg) (f_low : Fn P w K mg base CX0 1 "low_first" ["number", "many"] (spF T C (S_low K))) (f_rec : Fn P w K mg base CX0 (2 + n) "octets_of" ["value"] (spF T C (S_oct K n))) : FnOk P w K mg base CX0 (2 + n + 1) f fd ["value"] (spF T C (S_oct K (n + 1))) := by
  refine def_ok F sc_oct (fun _ => rfl) fun v hv cdv A outer s H E hr => ?_
  obtain ⟨hd, hk, hl⟩ : RWire.depth v ≤ n + 1 ∧ okV v = true ∧ (RWire.write v).length ≤ 100000 := hv
  have j1 : 1 ≤ 2 + n := by omega
  have plain : ∀ (k : Nat), k < 4 → valD v = .tuple [.int k] → RWire.write v = [UInt8.ofNat k] → SJs (cxOf CX0 P w K mg base ["value", "kind", "found", "part"] "octets_of" (defScope s_oct) f cdv A outer s H E).nox ⟨T, C, E⟩ [.sh (sh K (valD v)), .un, .un, .un] (defBody s_oct) (poOf (.ok (sh K (.list (octD (RWire.write v)))))) := by
    intro k hk hv hw
    rw [hv, hw]
    refine sj_cons (sj_set 1 (P := sh K (.int k)) (ev_ixT (ds := [.int k]) (ev_var 0 rfl) ev_int) ?_ sc_oct.nd)
    refine sj_cons (sj_if (evt_eqI (ev_var 1 rfl) (ev_ci X.INTEGER)) (fun h => by have := of_decide_eq_true h; omega) fun _ => ?_)
    refine sj_nil (sj_cons (sj_if (evt_eqI (ev_var 1 rfl) (ev_ci X.TEXT)) (fun h => by have := of_decide_eq_true h; omega) fun _ => ?_))
    refine sj_nil (sj_cons (sj_if (evt_lt (ev_var 1 rfl) (ev_ci X.INTEGER)) (fun _ => ?_) fun h => by have := of_decide_eq_false h; omega))
    refine sj_last (sj_ret (Ev.cast (EvN.sh (evn_lst (ds := [_]) (eva_cons (ev_var 1 rfl) eva_nil))) (congrArg PyData.list ?_)))
    show [PyData.int k] ++ octD [] = _
    exact k_cons k (by omega) []
  cases v with
  | nothing => exact plain 0 (by decide) rfl rfl
  | null => exact plain 1 (by decide) rfl rfl
  | bool b => cases b with
    | true => exact plain 3 (by decide) rfl rfl
    | false => exact plain 2 (by decide) rfl rfl
  | big _ => cases hk
  | octets _ => cases hk
  | wide _ => cases hk
  | int i =>
    have hi : i.natAbs ≤ 9007199254740991 := Nat.le_of_ble_eq_true hk
    refine sj_cons (sj_set 1 (P := sh K (.int 4)) (ev_ixT (ds := [.int 4, .int i]) (ev_var 0 rfl) ev_int) ?_ sc_oct.nd)
    refine sj_cons (sj_if (evt_eqI (ev_var 1 rfl) (ev_ci X.INTEGER)) (fun _ => ?_) fun h => by cases h)
    refine sj_last (sj_ret (Ev.cast (EvN.sh (evn_cat (EvN.sh (evn_lst (ds := [.int 4]) (eva_cons (ev_var 1 rfl) eva_nil))) (ev_low (n := (i % RWire.wordMost).toNat) (m := 8) f_low hr j1 (by decide) (ev_if (evt_ge (ev_ixT (ds := [.int 4, .int i]) (ev_var 0 rfl) ev_int) ev_int) (fun h => ?_) fun h => ?_) ev_int) ?_)) (congrArg PyData.list (k_cons 4 (by decide) _))))
    · have h := of_decide_eq_true h
      refine Ev.cast (ev_ixT (ds := [.int 4, .int i]) (ev_var 0 rfl) ev_int) ?_
      have : i = ((i % RWire.wordMost).toNat : Int) := by unfold RWire.wordMost; omega
      exact congrArg PyData.int this
    · have h := of_decide_eq_false h
      refine Ev.cast (ev_add (ev_ixT (ds := [.int 4, .int i]) (ev_var 0 rfl) ev_int) (ev_ci X.WORD)) ?_
      have : i + 18446744073709551616 = ((i % RWire.wordMost).toNat : Int) := by unfold RWire.wordMost; omega
      exact congrArg PyData.int this
    · rw [octD_len, low_len]
      exact size_le (m := 9) (Nat.le_refl _) rfl
  | text u =>
    have hu : u.length ≤ 100000 := by
      have : (RWire.write (.text u)).length = 1 + (RWire.writeText u).length := by
        show (6 :: RWire.writeText u).length = _
        rw [List.length_cons]
        omega
      rw [writeText_len] at this
      omega
    refine sj_cons (sj_set 1 (P := sh K (.int 6)) (ev_ixT (ds := [.int 6, .tuple (octD u)]) (ev_var 0 rfl) ev_int) ?_ sc_oct.nd)
    refine sj_cons (sj_if (evt_eqI (ev_var 1 rfl) (ev_ci X.INTEGER)) (fun h => by cases h) fun _ => ?_)
    refine sj_nil (sj_cons (sj_if (evt_eqI (ev_var 1 rfl) (ev_ci X.TEXT)) (fun _ => ?_) fun h => by cases h))
    refine sj_last (sj_ret (Ev.cast (EvN.sh (evn_cat (EvN.sh (evn_cat (EvN.sh (evn_lst (ds := [.int 6]) (eva_cons (ev_var 1 rfl) eva_nil))) (ev_low (n := u.length) (m := 4) f_low hr j1 (by decide) (Ev.cast (ev_len false (ds := octD u) X.len (ev_ixT (ds := [.int 6, .tuple (octD u)]) (ev_var 0 rfl) ev_int)) (by rw [octD_len])) ev_int) ?_))
      (EvN.sh (evn_list false (ds := octD u) X.list (ev_ixT (ds := [.int 6, .tuple (octD u)]) (ev_var 0 rfl) ev_int))) ?_)) (congrArg PyData.list ?_)))
    · rw [octD_len, low_len]
      exact size_le (m := 5) (Nat.le_refl _) rfl
    · rw [List.length_append, octD_len, octD_len, low_len]
      exact size_le (m := 200000) (by show 1 + 4 + _ ≤ _; omega) rfl
    · show ([PyData.int 6] ++ octD (RWire.low 4 u.length)) ++ octD u = octD (6 :: (RWire.low 4 u.length ++ u))
      rw [List.append_assoc, ← octD_app]
      exact k_cons 6 (by decide) _
  | list l =>
    have hk : okVs l = true := hk
    have hd : RWire.depthMany l + 1 ≤ n + 1 := hd
    have hw : RWire.write (.list l) = 7 :: (RWire.low 4 l.length ++ RWire.writeMany l) := rfl
    have hs : (RWire.writeMany l).length + 5 ≤ 100000 := by
      rw [hw, List.length_cons, List.length_append, low_len] at hl
      omega
    have hll := many_ge l
    refine sj_cons (sj_set 1 (P := sh K (.int 7)) (ev_ixT (ds := [.int 7, .tuple (valDs l)]) (ev_var 0 rfl) ev_int) ?_ sc_oct.nd)
    refine sj_cons (sj_if (evt_eqI (ev_var 1 rfl) (ev_ci X.INTEGER)) (fun h => by cases h) fun _ => ?_)
    refine sj_nil (sj_cons (sj_if (evt_eqI (ev_var 1 rfl) (ev_ci X.TEXT)) (fun h => by cases h) fun _ => ?_))
    refine sj_nil (sj_cons (sj_if (evt_lt (ev_var 1 rfl) (ev_ci X.INTEGER)) (fun h => by cases h) fun _ => ?_))
    refine sj_nil (sj_cons (sj_setN 2 (ds := octD (7 :: (RWire.low 4 l.length ++ RWire.writeMany (l.take 0)))) (EvN.cast (evn_cat (EvN.sh (evn_lst (ds := [.int 7]) (eva_cons (ev_var 1 rfl) eva_nil))) (ev_low (n := l.length) (m := 4) f_low hr j1 (by decide) (Ev.cast (ev_len false (ds := valDs l) X.len (ev_ixT (ds := [.int 7, .tuple (valDs l)]) (ev_var 0 rfl) ev_int)) (by rw [valDs_map, List.length_map])) ev_int) ?_) ?_) ?_ sc_oct.nd))
    · rw [octD_len, low_len]
      exact size_le (m := 5) (Nat.le_refl _) rfl
    · rw [List.take_zero]
      show _ = octD (7 :: (RWire.low 4 l.length ++ []))
      rw [List.append_nil]
      exact k_cons 7 (by decide) _
    refine sj_cons (sj_for false PassesOwn.never rfl (ds := valDs l) (ev_ixT (ds := [.int 7, .tuple (valDs l)]) (ev_var 0 rfl) ev_int) (pg_name sc_oct.nd rfl (.inl rfl)) (tgt_name 3) (fun _ _ => trivial)
      (fun k γ => ∃ x, γ = [.sh (sh K (valD (.list l))), .sh (sh K (.int 7)), .own (octD (7 :: (RWire.low 4 l.length ++ RWire.writeMany (l.take k)))), x]) ⟨_, rfl⟩ ?_ ?_)
    · rintro k d _ hdk ⟨x, rfl⟩
      rw [valDs_map] at hdk
      obtain ⟨y, hy, rfl⟩ := map_get hdk
      have my := List.mem_of_getElem? hy
      have le1 := many_le (l := l) (k := k + 1)
      have le2 := many_take hy
      rw [le2, List.length_append] at le1
      refine sj_last (sj_if (evt_eqI (ev_var 1 rfl) (ev_ci X.RECORD)) (fun h => by cases h) fun _ => ?_)
      refine sj_last (sj_extend 2 (ds := octD (7 :: (RWire.low 4 l.length ++ RWire.writeMany (l.take k)))) (es := octD (RWire.write y)) rfl (ev_call f_rec hr (Nat.le_refl _) y ⟨?_, okVs_mem hk y my, by omega⟩ rfl (eva_cons (ev_var 3 rfl) eva_nil)) ?_ ⟨.sh (sh K (valD y)), ?_⟩)
      · have := depthMany_mem y my
        omega
      · rw [octD_len, octD_len, List.length_cons, List.length_append, low_len]
        exact size_le (m := 200000) (by omega) rfl
      · rw [← octD_app, le2, ← List.append_assoc, List.cons_append]
        rfl
    · rintro _ ⟨x, rfl⟩
      have e : l.take (valDs l).length = l := by rw [valDs_map, List.length_map, List.take_length]
      rw [e]
      show SJs _ _ _ _ _
      refine sj_share 2 rfl ?_
      exact sj_last (sj_ret (ev_var 2 rfl))
  | record l =>
    have hk : okFs l = true := hk
    have hd : RWire.depthEntries l + 1 ≤ n + 1 := hd
    have hw : RWire.write (.record l) = 8 :: (RWire.low 4 l.length ++ RWire.writeEntries l) := rfl
    have hs : (RWire.writeEntries l).length + 5 ≤ 100000 := by
      rw [hw, List.length_cons, List.length_append, low_len] at hl
      omega
    refine sj_cons (sj_set 1 (P := sh K (.int 8)) (ev_ixT (ds := [.int 8, .tuple (valFs l)]) (ev_var 0 rfl) ev_int) ?_ sc_oct.nd)
    refine sj_cons (sj_if (evt_eqI (ev_var 1 rfl) (ev_ci X.INTEGER)) (fun h => by cases h) fun _ => ?_)
    refine sj_nil (sj_cons (sj_if (evt_eqI (ev_var 1 rfl) (ev_ci X.TEXT)) (fun h => by cases h) fun _ => ?_))
    refine sj_nil (sj_cons (sj_if (evt_lt (ev_var 1 rfl) (ev_ci X.INTEGER)) (fun h => by cases h) fun _ => ?_))
    refine sj_nil (sj_cons (sj_setN 2 (ds := octD (8 :: (RWire.low 4 l.length ++ RWire.writeEntries (l.take 0)))) (EvN.cast (evn_cat (EvN.sh (evn_lst (ds := [.int 8]) (eva_cons (ev_var 1 rfl) eva_nil))) (ev_low (n := l.length) (m := 4) f_low hr j1 (by decide) (Ev.cast (ev_len false (ds := valFs l) X.len (ev_ixT (ds := [.int 8, .tuple (valFs l)]) (ev_var 0 rfl) ev_int)) (by rw [valFs_map, List.length_map])) ev_int) ?_) ?_) ?_ sc_oct.nd))
    · rw [octD_len, low_len]
      exact size_le (m := 5) (Nat.le_refl _) rfl
    · rw [List.take_zero]
      show _ = octD (8 :: (RWire.low 4 l.length ++ []))
      rw [List.append_nil]
      exact k_cons 8 (by decide) _
    refine sj_cons (sj_for false PassesOwn.never rfl (ds := valFs l) (ev_ixT (ds := [.int 8, .tuple (valFs l)]) (ev_var 0 rfl) ev_int) (pg_name sc_oct.nd rfl (.inl rfl)) (tgt_name 3) (fun _ _ => trivial)
      (fun k γ => ∃ x, γ = [.sh (sh K (valD (.record l))), .sh (sh K (.int 8)), .own (octD (8 :: (RWire.low 4 l.length ++ RWire.writeEntries (l.take k)))), x]) ⟨_, rfl⟩ ?_ ?_)
    · rintro k d _ hdk ⟨x, rfl⟩
      rw [valFs_map] at hdk
      obtain ⟨y, hy, rfl⟩ := map_get hdk
      have my := List.mem_of_getElem? hy
      have le1 := entries_le (l := l) (k := k + 1)
      have le2 := entries_take hy
      rw [le2, List.length_append, List.length_append, writeText_len] at le1
      refine sj_last (sj_if (evt_eqI (ev_var 1 rfl) (ev_ci X.RECORD)) (fun _ => ?_) fun h => by cases h)
      refine sj_last (sj_extend 2 (ds := octD (8 :: (RWire.low 4 l.length ++ RWire.writeEntries (l.take k)))) (es := octD ((RWire.low 4 y.1.length ++ y.1) ++ RWire.write y.2)) rfl (Ev.cast (EvN.sh (evn_cat (EvN.sh (evn_cat (ev_low (n := y.1.length) (m := 4) f_low hr j1 (by decide) (Ev.cast (ev_len false (ds := octD y.1) X.len (ev_ixT (ds := [.tuple (octD y.1), valD y.2]) (ev_var 3 rfl) ev_int)) (by rw [octD_len])) ev_int)
        (EvN.sh (evn_list false (ds := octD y.1) X.list (ev_ixT (ds := [.tuple (octD y.1), valD y.2]) (ev_var 3 rfl) ev_int))) ?_)) (ev_call f_rec hr (Nat.le_refl _) y.2 ⟨?_, okFs_mem hk y my, by omega⟩ rfl (eva_cons (ev_ixT (ds := [.tuple (octD y.1), valD y.2]) (d := valD y.2) (ev_var 3 rfl) ev_int) eva_nil)) ?_)) (by rw [octD_app, octD_app])) ?_ ⟨.sh (sh K (.tuple [.tuple (octD y.1), valD y.2])), ?_⟩)
      · rw [octD_len, octD_len, low_len]
        exact size_le (m := 200000) (by omega) rfl
      · have := depthEntries_mem y my
        omega
      · rw [List.length_append, octD_len, octD_len, octD_len, low_len]
        exact size_le (m := 200000) (by omega) rfl
      · rw [octD_len, octD_len, List.length_cons, List.length_append, List.length_append, List.length_append, low_len, low_len]
        exact size_le (m := 400000) (by omega) rfl
      · rw [← octD_app, le2]
        rw [← List.append_assoc (RWire.low 4 l.length)]
        rfl
    · rintro _ ⟨x, rfl⟩
      have e : l.take (valFs l).length = l := by rw [valFs_map, List.length_map, List.take_length]
      rw [e]
      show SJs _ _ _ _ _
      refine sj_share 2 rfl ?_
      exact sj_last (sj_ret (ev_var 2 rfl))
end
end Td
namespace Tw
open PySem PySem.Spec PyProof.Rows L2
/-! ### an owned world: what it is at a state w, its addresses S, left out of the heap that grows -/
structure Wd where
  Om : Type
  at_ : Om → (Addr → Prop) → Hp → Hp → Prop
  own : ∀ {w S F H}, at_ w S F H → ∀ a, S a → F a = none ∧ ∃ u, H a = some u ∧ Chg u
  keep : ∀ {w S F H F2 H2}, at_ w S F H → Ex F F2 → (∀ a, S a → F2 a = none) → (∀ a, S a → H2 a = H a) → at_ w S F2 H2
section
variable {W : Wd} {w : W.Om} {T : List NTab} {γ : Gm} {σ : L2.St} {S : Addr → Prop} {F H F2 H2 : Hp}
theorem cut_ex (h : Ex F (cut H S)) : Ex F H := fun a o q => by
  rcases h a o q with z | ⟨ps, ps', e, z⟩
  · exact .inl (cut_at z).2
  · exact .inr ⟨ps, ps', e, (cut_at z).2⟩
theorem st_whole (s : St0 T γ σ F (cut H S)) : St0 T γ σ F H := ⟨cut_ex s.ex, s.env, s.tab.ext fun b o q => (cut_at q).2⟩
theorem ex_cut (h : Ex F H) (n : ∀ a, S a → F a = none) : Ex F (cut H S) := fun a o q => by
  have na : ¬ S a := fun z => by rw [n a z] at q; cases q
  rw [cut_of na]
  exact h a o q
theorem Wd.none (a : W.at_ w S F H) : ∀ b, S b → F b = none := fun b hb => (W.own a b hb).1
theorem Wd.chg (a : W.at_ w S F H) : ∀ b, S b → ∃ u, H b = some u ∧ Chg u := fun b hb => (W.own a b hb).2
theorem gw_own (a : W.at_ w S F H) (g : Grow T F H F2 H2) : (∀ b, S b → F2 b = none) ∧ ∀ b, S b → H2 b = H b := by
  refine ⟨fun b hb => ?_, fun b hb => ?_⟩
  · obtain ⟨h1, u, h2, _⟩ := W.own a b hb
    exact g.own b h1 (by rw [h2]; simp)
  · obtain ⟨_, u, h2, c⟩ := W.own a b hb
    rw [h2]
    exact g.h b u h2 fun ps z => by
      rw [z] at c
      exact c
theorem gw_of (a : W.at_ w S F H) (g : Grow T F H F2 H2) : Grow T F (cut H S) F2 (cut H2 S) := by
  obtain ⟨n, k⟩ := gw_own a g
  refine ⟨g.f, ex_cut g.ex n, fun b o q t => ?_, fun b q t => ?_, fun t => tabs_cut (fun b hb => by rw [k b hb]; exact W.chg a b hb) (g.tab (t.ext fun b o q => (cut_at q).2)), fun b q => ?_⟩
  · obtain ⟨h1, h2⟩ := cut_at q
    rw [cut_of h1]
    exact g.h b o h2 t
  · by_cases hb : S b
    · exact n b hb
    · rw [cut_of hb] at t
      exact g.own b q t
  · by_cases hb : S b
    · exact cut_in hb
    · rw [cut_of hb] at q ⊢
      exact g.free b q
theorem at_of (a : W.at_ w S F H) (g : Grow T F H F2 H2) : W.at_ w S F2 H2 := by
  obtain ⟨n, k⟩ := gw_own a g
  exact W.keep a g.f n k
end
/-! ### expressions -/
def tWe (W : Wd) (T : List NTab) (γ : Gm) (w w' : W.Om) (P : Ty) : TE := fun σ H Q => ∃ F S, St0 T γ σ F (cut H S) ∧ W.at_ w S F H ∧ ∀ v F2 H2 S2, Grow T F (cut H S) F2 (cut H2 S2) → W.at_ w' S2 F2 H2 → P.p v F2 → Q v H2
abbrev We (X : Cx) (W : Wd) (T : List NTab) (γ : Gm) (w w' : W.Om) (e : Expr) (P : Ty) : Prop := PE X e (tWe W T γ w w' P)
def tWA (W : Wd) (T : List NTab) (γ : Gm) (w w' : W.Om) (Ps : List Ty) : TA := fun σ H Q => ∃ F S, St0 T γ σ F (cut H S) ∧ W.at_ w S F H ∧ ∀ vs F2 H2 S2, Grow T F (cut H S) F2 (cut H2 S2) → W.at_ w' S2 F2 H2 → AllP Ps vs F2 → Q vs H2
abbrev WA (X : Cx) (W : Wd) (T : List NTab) (γ : Gm) (w w' : W.Om) (es : List Expr) (Ps : List Ty) : Prop := PA X es (tWA W T γ w w' Ps)
/-- a new list, not frozen -/
def tWN (W : Wd) (T : List NTab) (K : Frag) (γ : Gm) (w w' : W.Om) (ds : List PyData) : TE := fun σ H Q => ∃ F S, St0 T γ σ F (cut H S) ∧ W.at_ w S F H ∧ ∀ a xs F2 H2 S2, Grow T F (cut H S) F2 (cut H2 S2) → W.at_ w' S2 F2 H2 → cut H S a = none → F2 a = none → cut H2 S2 a = some (.lst xs) → DqAll K F2 ds xs → Q (.ref a) H2
abbrev WN (X : Cx) (W : Wd) (T : List NTab) (γ : Gm) (w w' : W.Om) (e : Expr) (ds : List PyData) : Prop := PE X e (tWN W T X.K γ w w' ds)
inductive OutW (Om : Type) where
  | ok (P : Ty) (w : Om)
  | err (o : Int) (m : Str) (w : Om)
structure PrW (Om : Type) where
  pre : Prop
  w : Om
  args : List Ty
  out : OutW Om
def spW (W : Wd) (T : List NTab) (C : Addr) {ι : Type} (S : ι → PrW W.Om) : Sp := fun vs H Q E => ∃ i F A, (S i).pre ∧ W.at_ (S i).w A F H ∧ Ex F (cut H A) ∧ NdefX.TabsN T (cut H A) ∧ AllP (S i).args vs F ∧ match (S i).out with
  | .ok P w' => ∀ v F2 H2 A2, Grow T F (cut H A) F2 (cut H2 A2) → W.at_ w' A2 F2 H2 → P.p v F2 → Q v H2
  | .err o m w' => ∀ d F2 H2 A2, Grow T F (cut H A) F2 (cut H2 A2) → W.at_ w' A2 F2 H2 → cut H A d = none → XdAt H2 d o m → E (.ref C) (some d) H2
section
variable {X : Cx} {W : Wd} {w w1 w2 : W.Om} {T : List NTab} {γ : Gm} {P R : Ty} {Ps : List Ty} {pos p apos : Pos} {a b c e : Expr} {es : List Expr} {ι : Type} {x : Str} {ps : List Str} {j k : Nat} {C CR : Addr}
theorem we_pure (he : Ev X T γ e P) : We X W T γ w w e P := PE.imp he fun σ H Q ⟨F, S, s, a, q⟩ => ⟨F, st_whole s, fun v F2 H2 g p => q v F2 H2 S (gw_of a g) (at_of a g) p⟩
theorem wn_pure {ds : List PyData} (he : EvN X T γ e ds) : WN X W T γ w w e ds := PE.imp he fun σ H Q ⟨F, S, s, a, q⟩ => ⟨F, st_whole s, fun v xs F2 H2 g h1 h2 h3 h4 => by
  have nS : ¬ S v := fun z => by
    obtain ⟨u, hu, _⟩ := W.chg a v z
    rw [h1] at hu
    cases hu
  exact q v xs F2 H2 S (gw_of a g) (at_of a g) (by rw [cut_of nS]; exact h1) h2 (by rw [cut_of nS]; exact h3) h4⟩
theorem wa_nil : WA X W T γ w w [] [] := PA.imp pa_nil fun σ H Q ⟨F, S, s, a, q⟩ => q [] F H S (Grow.refl s.ex) a rfl
theorem wa_cons (h : We X W T γ w w1 e P) (hr : WA X W T γ w1 w2 es Ps) (hs : starEach (e :: es) X.env = (false, eval e X.env) :: starEach es X.env := by rfl) : WA X W T γ w w2 (e :: es) (P :: Ps) :=
  PA.imp (pa_cons h hr hs) fun σ H Q ⟨F, S, s, a, q⟩ => ⟨F, S, s, a, fun v F1 H1 S1 g1 a1 p1 => ⟨F1, S1, s.grow g1, a1, fun vs F2 H2 S2 g2 a2 p2 => q _ F2 H2 S2 (g1.trans g2) a2 ⟨v, vs, rfl, P.mono g2.f p1, p2⟩⟩⟩
theorem we_imp {P' : Ty} (h : We X W T γ w w1 e P) (hp : ∀ v F, P.p v F → P'.p v F) : We X W T γ w w1 e P' := PE.imp h fun σ H Q ⟨F, S, s, a, q⟩ => ⟨F, S, s, a, fun v F2 H2 S2 g a2 p => q v F2 H2 S2 g a2 (hp v F2 p)⟩
theorem we_call {S : ι → Pr} (h : Fn X.prog X.w X.K X.mg X.base CX0 k x ps (spF T CR S)) (hr : Room j X.A) (hk : k ≤ j) (i : ι) (hpre : (S i).pre) (hS : (S i).out = .ok P) (ha : WA X W T γ w w1 (e :: es) (S i).args) (hg : Gl X x := by rfl) (hdb : (x == ("__debug__" : Str)) = false := by decide)
    (he : starEach (e :: es) X.env = (false, eval e X.env) :: starEach es X.env := by rfl) (hpl : (backTo pos (starEach es X.env)).any (·.1) = false := by rfl) : We X W T γ w w1 (.Call (.Name x p) (e :: es) [] pos) P := by
  obtain ⟨f, fd, h1, h2, h3, h4⟩ := h
  refine PE.imp (pe_call h1 (hr.mono hk) hg h2 h3 h4 .nil pass0 ha hdb he hpl) fun σ H Q ⟨F, A, s, a, q⟩ => ⟨F, A, s, a, fun vs F1 H1 A1 g1 a1 p1 => ?_⟩
  show spF T CR S (vs ++ []) H1 Q _
  rw [List.append_nil]
  have s1 := st_whole (s.grow g1)
  refine ⟨i, F1, hpre, s1.ex, s1.tab, p1, ?_⟩
  rw [hS]
  exact fun v F2 H2 g2 p2 => q v F2 H2 A1 (g1.trans (gw_of a1 g2)) (at_of a1 g2) p2
theorem we_meth {pl : Sem Bool} {S : ι → PrW W.Om} (h : Mt X.prog X.w X.K X.mg X.base CX0 k C x ps (spW W T CR S)) (hr : Room j X.A) (hk : k ≤ j) (i : ι) (hpre : (S i).pre) (hw : (S i).w = w1) (hS1 : (S i).args = R :: Ps) (hS : (S i).out = .ok P w2)
    (hI : ∀ S F H v, W.at_ w S F H → R.p v F → ∃ a dx fs, v = .ref a ∧ H a = some (.ins C dx fs) ∧ fs.lookup x = none) (ho : We X W T γ w w a R) (ha : WA X W T γ w w1 (e :: es) Ps)
    (hst : starEach (e :: es) X.env = (false, eval e X.env) :: starEach es X.env := by rfl) (hpl : (backTo pos (starEach es X.env)).any (·.1) = false := by rfl)
    (ht : eval (.Call (.Attribute a x apos) (e :: es) [] pos) X.env = (do
      let ov ← eval a X.env
      standAt apos.atName
      let (f, first) ← holding [ov] (getMethod ov x pl)
      callWith pos f first (backTo pos (starEach (e :: es) X.env)) (backToKw pos (keywordEach [] X.env))) := by rfl) : We X W T γ w w2 (.Call (.Attribute a x apos) (e :: es) [] pos) P := by
  obtain ⟨f, fd, h1, h2, h3, h4⟩ := h
  refine PE.imp (pe_meth (pl := pl) ho h2 h3 h1 (hr.mono hk) h4 .nil pass0 ha hst hpl ht) fun σ H Q ⟨F, A, s, a, q⟩ => ⟨F, A, s, a, fun v F1 H1 A1 g1 a1 p1 => ?_⟩
  obtain ⟨b, dx, fs, rfl, hb, hl⟩ := hI A1 F1 H1 v a1 p1
  refine ⟨b, dx, fs, rfl, hb, hl, F1, A1, s.grow g1, a1, fun vs F2 H2 A2 g2 a2 p2 => ?_⟩
  show spW W T CR S (.ref b :: (vs ++ [])) H2 Q _
  rw [List.append_nil]
  have s2 := (s.grow g1).grow g2
  refine ⟨i, F2, A2, hpre, hw ▸ a2, s2.ex, s2.tab, ?_, ?_⟩
  · rw [hS1]
    exact ⟨_, vs, rfl, R.mono g2.f p1, p2⟩
  · rw [hS]
    exact fun v F3 H3 A3 g3 a3 p3 => q v F3 H3 A3 ((g1.trans g2).trans g3) a3 p3
theorem we_meth0 {pl : Sem Bool} {S : ι → PrW W.Om} (h : Mt X.prog X.w X.K X.mg X.base CX0 k C x ps (spW W T CR S)) (hr : Room j X.A) (hk : k ≤ j) (i : ι) (hpre : (S i).pre) (hw : (S i).w = w) (hS1 : (S i).args = [R]) (hS : (S i).out = .ok P w2)
    (hI : ∀ S F H v, W.at_ w S F H → R.p v F → ∃ a dx fs, v = .ref a ∧ H a = some (.ins C dx fs) ∧ fs.lookup x = none) (ho : We X W T γ w w a R)
    (ht : eval (.Call (.Attribute a x apos) [] [] pos) X.env = (do
      let ov ← eval a X.env
      standAt apos.atName
      let (f, first) ← holding [ov] (getMethod ov x pl)
      callWith pos f first (backTo pos (starEach [] X.env)) (backToKw pos (keywordEach [] X.env))) := by rfl) : We X W T γ w w2 (.Call (.Attribute a x apos) [] [] pos) P := by
  obtain ⟨f, fd, h1, h2, h3, h4⟩ := h
  refine PE.imp (pe_meth0 (pl := pl) ho h2 h3 h1 (hr.mono hk) h4 .nil pass0 ht) fun σ H Q ⟨F, A, s, a, q⟩ => ⟨F, A, s, a, fun v F1 H1 A1 g1 a1 p1 => ?_⟩
  obtain ⟨b, dx, fs, rfl, hb, hl⟩ := hI A1 F1 H1 v a1 p1
  refine ⟨b, dx, fs, rfl, hb, hl, ?_⟩
  show spW W T CR S (.ref b :: ([] ++ [])) H1 Q _
  have s1 := s.grow g1
  refine ⟨i, F1, A1, hpre, hw ▸ a1, s1.ex, s1.tab, ?_, ?_⟩
  · rw [hS1]
    exact ⟨_, [], rfl, p1, rfl⟩
  · rw [hS]
    exact fun v F3 H3 A3 g3 a3 p3 => q v F3 H3 A3 (g1.trans g3) a3 p3
/-- a tuple -/
theorem we_tup {ds : List PyData} {x1 : Nat} (h : WA X W T γ w w1 es (ds.map (sh X.K))) (hl : Nat.ble ds.length sizeLine = true := by rfl) : We X W T γ w w1 (.Tuple es x1 pos) (sh X.K (.tuple ds)) :=
  PE.imp (pe_tup h) fun σ H Q ⟨F, S, s, a, q⟩ => ⟨F, S, s, a, fun xs F1 H1 S1 g1 a1 p1 => by
    have d := allP_data p1
    refine ⟨by rw [d.length]; exact Nat.le_of_ble_eq_true hl, fun t ht => ?_⟩
    have g2 := Grow.new (T := T) (o := .tup xs) (st_whole (s.grow g1)).ex ht
    exact q _ _ _ S1 (g1.trans (gw_of a1 g2)) (at_of a1 g2) ⟨t, xs, rfl, .inl (.inl upd_same), DqAll.mono g2.f _ _ d⟩⟩
end
/-! ### the world frozen for a while -/
open Classical in
noncomputable def glue (F H : Hp) (S : Addr → Prop) : Hp := fun b => if S b then H b else F b
theorem glue_in {F H : Hp} {S : Addr → Prop} {b : Addr} (h : S b) : glue F H S b = H b := if_pos h
theorem glue_of {F H : Hp} {S : Addr → Prop} {b : Addr} (h : ¬ S b) : glue F H S b = F b := if_neg h
section
variable {K : Frag} {F H : Hp} {S : Addr → Prop}
theorem cut_tup (c : ∀ b, S b → ∀ u, F b = some u → Chg u) {a : Addr} {xs : List V} (h : SqT K F a xs) : SqT K (cut F S) a xs := by
  have go : ∀ o, F a = some o → ¬ Chg o → cut F S a = some o := fun o e n => by
    rw [cut_of]
    · exact e
    · intro z
      exact n (c a z o e)
  rcases h with (h | ⟨o, h⟩) | h
  · exact .inl (.inl (go _ h (fun z => z)))
  · exact .inl (.inr ⟨o, go _ h (fun z => z)⟩)
  · exact .inr h
mutual
theorem noL_cut (c : ∀ b, S b → ∀ u, F b = some u → Chg u) : ∀ (d : PyData) (v : V), noL d = true → Dq K F d v → Dq K (cut F S) d v
  | .none, _, _, h => h
  | .bool _, _, _, h => h
  | .int _, _, _, h => h
  | .str _, _, _, h => h
  | .tuple ds, _, n, h => by
    obtain ⟨a, xs, h1, h2, h3⟩ := h
    exact ⟨a, xs, h1, cut_tup c h2, noLs_cut c ds xs n h3⟩
  | .list _, _, n, _ => by cases n
  | .dict _, _, n, _ => by cases n
theorem noLs_cut (c : ∀ b, S b → ∀ u, F b = some u → Chg u) : ∀ (ds : List PyData) (xs : List V), noLs ds = true → DqAll K F ds xs → DqAll K (cut F S) ds xs
  | [], _, _, h => h
  | d :: ds, _, n, h => by
    obtain ⟨v, us, h1, h2, h3⟩ := h
    have n' : (noL d && noLs ds) = true := n
    rw [Bool.and_eq_true] at n'
    exact ⟨v, us, h1, noL_cut c d v n'.1 h2, noLs_cut c ds us n'.2 h3⟩
end
end
section
variable {W : Wd} {w : W.Om} {T : List NTab} {K : Frag} {γ : Gm} {σ : L2.St} {S : Addr → Prop} {F H F2 H2 : Hp}
theorem glue_ex (a : W.at_ w S F H) : Ex F (glue F H S) := Ex.of fun b o q => by
  rw [glue_of (fun z => by rw [W.none a b z] at q; cases q)]
  exact q
theorem glue_st (s : St0 T γ σ F (cut H S)) (a : W.at_ w S F H) : St0 T γ σ (glue F H S) H := by
  have s' := st_whole s
  refine ⟨fun b o q => ?_, s.env.mono (glue_ex a), s'.tab⟩
  by_cases hb : S b
  · rw [glue_in hb] at q
    exact .inl q
  · rw [glue_of hb] at q
    exact s'.ex b o q
/-- back from the frozen world -/
theorem glue_back (a : W.at_ w S F H) (g : Grow T (glue F H S) H F2 H2) : Grow T F (cut H S) (cut F2 S) (cut H2 S) ∧ W.at_ w S (cut F2 S) H2 ∧ ∀ b, S b → ∀ u, F2 b = some u → Chg u := by
  have hH : ∀ b, S b → H2 b = H b := fun b hb => by
    obtain ⟨u, h2, c⟩ := W.chg a b hb
    rw [h2]
    exact g.h b u h2 fun ps z => by
      rw [z] at c
      exact c
  have hF : ∀ b, S b → F2 b = H b := fun b hb => by
    obtain ⟨u, h2, c⟩ := W.chg a b hb
    rw [h2]
    exact g.f.go (by rw [glue_in hb]; exact h2) fun ps z => by
      rw [z] at c
      exact c
  have fF : Ex F (cut F2 S) := ex_cut ((glue_ex a).trans g.f) (W.none a)
  refine ⟨⟨fF, fun b o q => ?_, fun b o q t => ?_, fun b q t => ?_, fun t => tabs_cut (fun b hb => by rw [hH b hb]; exact W.chg a b hb) (g.tab (t.ext fun b o q => (cut_at q).2)), fun b q => ?_⟩, W.keep a fF (fun b hb => cut_in hb) hH, fun b hb u q => ?_⟩
  · obtain ⟨h1, h2⟩ := cut_at q
    rw [cut_of h1]
    exact g.ex b o h2
  · obtain ⟨h1, h2⟩ := cut_at q
    rw [cut_of h1]
    exact g.h b o h2 t
  · by_cases hb : S b
    · exact cut_in hb
    · rw [cut_of hb] at t ⊢
      exact g.own b (by rw [glue_of hb]; exact q) t
  · by_cases hb : S b
    · exact cut_in hb
    · rw [cut_of hb] at q ⊢
      exact g.free b q
  · rw [hF b hb] at q
    obtain ⟨u', e, c⟩ := W.chg a b hb
    rw [e] at q
    cases q
    exact c
end
section
variable {X : Cx} {W : Wd} {w w1 w2 : W.Om} {T : List NTab} {γ γ' : Gm} {P R : Ty} {e : Expr}
/-- the environment while the world is frozen -/
def FrzG (W : Wd) (w : W.Om) (γ γ' : Gm) : Prop := ∀ S F H σ, W.at_ w S F H → Env γ σ F → Env γ' σ (glue F H S)
theorem we_fr {d : PyData} (hf : FrzG W w γ γ') (he : Ev X T γ' e (sh X.K d)) (hd : noL d = true) : We X W T γ w w e (sh X.K d) :=
  PE.imp he fun σ H Q ⟨F, S, s, a, q⟩ => by
    have s1 := glue_st s a
    refine ⟨glue F H S, ⟨s1.ex, hf S F H σ a s.env, s1.tab⟩, fun v F2 H2 g p => ?_⟩
    obtain ⟨g2, a2, c⟩ := glue_back a g
    exact q v _ H2 S g2 a2 (noL_cut c d v hd p)
theorem wn_fr {ds : List PyData} (hf : FrzG W w γ γ') (he : EvN X T γ' e ds) (hd : noLs ds = true) : WN X W T γ w w e ds :=
  PE.imp he fun σ H Q ⟨F, S, s, a, q⟩ => by
    have s1 := glue_st s a
    refine ⟨glue F H S, ⟨s1.ex, hf S F H σ a s.env, s1.tab⟩, fun v xs F2 H2 g h1 h2 h3 h4 => ?_⟩
    obtain ⟨g2, a2, c⟩ := glue_back a g
    have nS : ¬ S v := fun z => by
      obtain ⟨u, hu, _⟩ := W.chg a v z
      rw [h1] at hu
      cases hu
    exact q v xs _ H2 S g2 a2 (by rw [cut_of nS]; exact h1) (by rw [cut_of nS]; exact h2) (by rw [cut_of nS]; exact h3) (noLs_cut c ds xs hd h4)
/-- tests -/
def tWt2 (W : Wd) (T : List NTab) (γ : Gm) (w : W.Om) (b : Bool) : TT := fun σ H Q => ∃ F S, St0 T γ σ F (cut H S) ∧ W.at_ w S F H ∧ ∀ F2 H2 S2, Grow T F (cut H S) F2 (cut H2 S2) → W.at_ w S2 F2 H2 → Q b H2
abbrev WT (X : Cx) (W : Wd) (T : List NTab) (γ : Gm) (w : W.Om) (e : Expr) (b : Bool) : Prop := PT X e (tWt2 W T γ w b)
theorem wt_pure {b : Bool} (he : EvT X T γ e b) : WT X W T γ w e b := PT.imp he fun σ H Q ⟨F, S, s, a, q⟩ => ⟨F, st_whole s, fun F2 H2 g => q F2 H2 S (gw_of a g) (at_of a g)⟩
theorem wt_fr {b : Bool} (hf : FrzG W w γ γ') (he : EvT X T γ' e b) : WT X W T γ w e b := PT.imp he fun σ H Q ⟨F, S, s, a, q⟩ => by
  have s1 := glue_st s a
  refine ⟨glue F H S, ⟨s1.ex, hf S F H σ a s.env, s1.tab⟩, fun F2 H2 g => ?_⟩
  obtain ⟨g2, a2, _⟩ := glue_back a g
  exact q _ H2 S g2 a2
end
end Tw
namespace Tw
open PySem PySem.Spec PyProof.Rows L2
theorem cut_upd_in {H : Hp} {S : Addr → Prop} {a : Addr} {u : HO} (h : S a) : cut (upd H a u) S = cut H S := by
  funext b
  by_cases hb : S b
  · rw [cut_in hb, cut_in hb]
  · rw [cut_of hb, cut_of hb, upd_ne]
    intro z
    exact hb (by rw [z]; exact h)
theorem cut_upd_of {H : Hp} {S : Addr → Prop} {a : Addr} {u : HO} (h : ¬ S a) : cut (upd H a u) S = upd (cut H S) a u := by
  funext b
  by_cases hb : b = a
  · rw [hb, cut_of h, upd_same, upd_same]
  · rw [upd_ne hb]
    by_cases hs : S b
    · rw [cut_in hs, cut_in hs]
    · rw [cut_of hs, cut_of hs, upd_ne hb]
structure WPo (W : Wd) where
  nx : Gm → W.Om → Prop
  bk : Gm → W.Om → Prop
  ct : Gm → W.Om → Prop
  R : Ty
  rw : W.Om → Prop
  er : Int → Str → W.Om → Prop
def tWJ (K : Frag) (W : Wd) (c : Cfg) (γ : Gm) (w : W.Om) (po : WPo W) : TS := fun D σ H => ∃ F0 B F S, StS c.T K F0 B γ σ F (cut H S) ∧ W.at_ w S F H ∧
  (∀ γ' w' σ' F' H' S', po.nx γ' w' → StS c.T K F0 B γ' σ' F' (cut H' S') → W.at_ w' S' F' H' → D.nx σ' H') ∧
  (∀ γ' w' σ' F' H' S', po.bk γ' w' → StS c.T K F0 B γ' σ' F' (cut H' S') → W.at_ w' S' F' H' → D.bk σ' H') ∧
  (∀ γ' w' σ' F' H' S', po.ct γ' w' → StS c.T K F0 B γ' σ' F' (cut H' S') → W.at_ w' S' F' H' → D.ct σ' H') ∧
  (∀ v w' F' H' S', po.rw w' → Grow c.T F0 B F' (cut H' S') → W.at_ w' S' F' H' → po.R.p v F' → D.rt v H') ∧
  (∀ o m w' d F' H' S', po.er o m w' → Grow c.T F0 B F' (cut H' S') → W.at_ w' S' F' H' → B d = none → XdAt H' d o m → c.E (.ref c.C) (some d) H')
abbrev WJ (X : Cx) (W : Wd) (c : Cfg) (γ : Gm) (w : W.Om) (st : Stmt) (po : WPo W) : Prop := PS X st (tWJ X.K W c γ w po)
abbrev WJs (X : Cx) (W : Wd) (c : Cfg) (γ : Gm) (w : W.Om) (st : List Stmt) (po : WPo W) : Prop := PSs X st (tWJ X.K W c γ w po)
section
variable {X : Cx} {W : Wd} {c : Cfg} {γ : Gm} {w w1 w2 : W.Om} {po : WPo W} {P : Ty} {pos pos' p q1 q2 : Pos} {a b e test iter : Expr} {es : List Expr} {st : Stmt} {sts body : List Stmt} {x f : Str} {k : Bool}
theorem wj_nil (h : po.nx γ w) : WJs X W c γ w [] po := PSs.imp pss_nil fun D σ H ⟨F0, B, F, S, s, a, h1, _⟩ => h1 γ w σ F H S h s a
theorem wj_any {u : TS} (hu : ∀ D σ H, u D σ H → ∃ γ w po, WJs X W c γ w sts po ∧ tWJ X.K W c γ w po D σ H) : PSs X sts u := ⟨fun pins s σ H D I q => by
  obtain ⟨γ, w, po, h1, h2⟩ := hu D σ H q
  exact h1.run pins s σ H D I h2⟩
theorem wj_cons (h : WJ X W c γ w st { po with nx := fun γ' w' => WJs X W c γ' w' sts po }) : WJs X W c γ w (st :: sts) po := by
  refine PSs.imp (pss_cons h (wj_any (u := fun D σ H => ∃ γ w, WJs X W c γ w sts po ∧ tWJ X.K W c γ w po D σ H) fun _ _ _ ⟨γ, w, q1, q2⟩ => ⟨γ, w, po, q1, q2⟩)) fun D σ H ⟨F0, B, F, S, s, a, h1, h2⟩ => ?_
  exact ⟨F0, B, F, S, s, a, fun γ' w' σ' F' H' S' hn s' a' => ⟨γ', w', hn, F0, B, F', S', s', a', h1, h2⟩, h2⟩
theorem wj_last (h : WJ X W c γ w st po) : WJs X W c γ w [st] po := pss_one h
theorem wj_share (i : Nat) {ds : List PyData} (hi : γ[i]? = some (.own ds)) (h : WJs X W c (γ.set i (.sh (sh X.K (.list ds)))) w sts po) : WJs X W c γ w sts po :=
  PSs.imp h fun D σ H ⟨F0, B, F, S, s, a, h1⟩ => by
    obtain ⟨F2, ⟨b, o, e1, e2, e3⟩, s2⟩ := s.share hi
    subst e3
    exact ⟨F0, B, _, S, s2, W.keep a (Ex.new e1) (fun d hd => by
      rw [upd_ne]
      · exact W.none a d hd
      · intro z
        exact (cut_at e2).1 (by rw [← z]; exact hd)) (fun _ _ => rfl), h1⟩
theorem wj_set (i : Nat) (he : We X W c.T γ w w1 e P) (h : po.nx (γ.set i (.sh P)) w1) (hN : X.N.Nodup) (hi : X.N[i]? = some x := by rfl) (hx : Loc X.env.scope x := by first | exact Or.inl rfl | exact Or.inr rfl) (hs : swapsWith e (some (.Name x pos')) pos.line X.env = pure false := by rfl)
    (hf : X.fn x = true ∨ X.env.scope.names.lookup x = some .local := by first | exact .inl rfl | exact .inr rfl) : WJ X W c γ w (.Assign [.Name x pos'] e pos) po :=
  PS.imp (ps_set hN hi hx he hs hf) fun D σ H ⟨F0, B, F, S, s, a, h1, _⟩ => ⟨F, S, s.s, a, fun v F2 H2 S2 g a2 p => h1 _ _ _ F2 H2 S2 h ((s.grow g).set i p) a2⟩
theorem wj_setN (i : Nat) {ds : List PyData} (he : WN X W c.T γ w w1 e ds) (h : po.nx (γ.set i (.own ds)) w1) (hN : X.N.Nodup) (hn : noOwn (γ.set i .un) = true := by rfl) (hi : X.N[i]? = some x := by rfl) (hx : Loc X.env.scope x := by first | exact Or.inl rfl | exact Or.inr rfl) (hs : swapsWith e (some (.Name x pos')) pos.line X.env = pure false := by rfl)
    (hf : X.fn x = true ∨ X.env.scope.names.lookup x = some .local := by first | exact .inl rfl | exact .inr rfl) : WJ X W c γ w (.Assign [.Name x pos'] e pos) po :=
  PS.imp (ps_set hN hi hx he hs hf) fun D σ H ⟨F0, B, F, S, s, a, h1, _⟩ => ⟨F, S, s.s, a, fun v xs F2 H2 S2 g a2 q1 q2 q3 q4 => h1 _ _ _ F2 H2 S2 h ((s.grow g).setOwn i hn q3 q2 (s.g.free _ q1) q4) a2⟩
theorem wj_ret (he : We X W c.T γ w w1 e po.R) (h : po.rw w1) : WJ X W c γ w (.Return (some e) pos) po :=
  PS.imp (ps_ret he) fun D σ H ⟨F0, B, F, S, s, a, _, _, _, h4, _⟩ => ⟨F, S, s.s, a, fun v F2 H2 S2 g a2 p => h4 v w1 F2 H2 S2 h (s.g.trans g) a2 p⟩
theorem wj_retN (hR : ∀ F, po.R.p .non F) (h : po.rw w) : WJ X W c γ w (.Return none pos) po :=
  PS.imp ps_retN fun D σ H ⟨F0, B, F, S, s, a, _, _, _, h4, _⟩ => h4 _ w F H S h s.g a (hR F)
theorem wj_expr (he : We X W c.T γ w w1 e P) (h : po.nx γ w1) (hs : swapsWith e none pos.line X.env = pure false := by rfl) : WJ X W c γ w (.Expr e pos) po :=
  PS.imp (ps_expr he hs) fun D σ H ⟨F0, B, F, S, s, a, h1, _⟩ => ⟨F, S, s.s, a, fun v F2 H2 S2 g a2 p => h1 _ _ _ F2 H2 S2 h (s.grow g) a2⟩
theorem wj_if {A B : List Stmt} (ht : WT X W c.T γ w test k) (hA : k = true → WJs X W c γ w A po) (hB : k = false → WJs X W c γ w B po) : WJ X W c γ w (.If test A B pos) po := by
  have nb : ∀ sts, PSs X sts tNever := fun sts => pss_never
  cases k with
  | true =>
    refine PS.imp (ps_if ht (hA rfl) (nb B)) fun D σ H ⟨F0, B0, F, S, s, a, h1⟩ => ⟨F, S, s.s, a, fun F2 H2 S2 g a2 => ?_⟩
    show (if true = true then _ else _)
    rw [if_pos rfl]
    exact ⟨F0, B0, F2, S2, s.grow g, a2, h1⟩
  | false =>
    refine PS.imp (ps_if ht (nb A) (hB rfl)) fun D σ H ⟨F0, B0, F, S, s, a, h1⟩ => ⟨F, S, s.s, a, fun F2 H2 S2 g a2 => ?_⟩
    show (if false = true then _ else _)
    rw [if_neg Bool.false_ne_true]
    exact ⟨F0, B0, F2, S2, s.grow g, a2, h1⟩
theorem wj_append (i : Nat) {ds : List PyData} {d : PyData} {p1 p2 p3 : Pos} (hi : γ[i]? = some (.own ds)) (he : We X W c.T γ w w1 e (sh X.K d)) (hl : ds.length < sizeLine) (h : po.nx (γ.set i (.own (ds ++ [d]))) w1)
    (hbm : ∀ t, PA X [e] t → PE X (.Call (.Attribute (.Name x p1) "append" p2) [e] [] p3) (tBM X.K "list" rAppend (tVar i) t) := by exact fun t ha => pe_bm PySem.F.plainAttrs_list PySem.F.slot_list_append PySem.F.type_list_append mt_append (pv _) ha)
    (hs : starEach [e] X.env = (false, eval e X.env) :: starEach [] X.env := by rfl)
    (hS : swapsWith (.Call (.Attribute (.Name x p1) "append" p2) [e] [] p3) none pos.line X.env = pure false := by rfl) : WJ X W c γ w (.Expr (.Call (.Attribute (.Name x p1) "append" p2) [e] [] p3) pos) po := by
  refine PS.imp (ps_expr (hbm _ (pa_cons he pa_nil hs)) hS) fun D σ H ⟨F0, B, F, S, s, a, h1, _⟩ => ?_
  obtain ⟨a1, xs, q1, q2, q3, q4, q5⟩ := s.own i ds hi
  refine ⟨.ref a1, q1, .inl ⟨rfl, xs, SqL.of (cut_at q2).2⟩, F, S, s.s, a, fun v F2 H2 S2 g a2 p2 => ?_⟩
  have s2 := s.grow g
  have r2 : cut H2 S2 a1 = some (.lst xs) := g.h a1 _ q2 (fun ps z => by cases z)
  have r3 : F2 a1 = none := g.own a1 q3 (by rw [q2]; simp)
  obtain ⟨r4, r5⟩ := cut_at r2
  refine ⟨a1, xs, v, rfl, rfl, r5, by rw [q5.length]; exact hl, h1 _ _ _ F2 _ S2 h (by rw [cut_upd_of r4]; exact s2.change hi q1 r2 r3 q4 ((DqAll.mono g.f ds xs q5).append (DqAll.one p2))) (W.keep a2 (Ex.refl _) (W.none a2) fun b hb => upd_ne (fun z => r4 (by rw [← z]; exact hb)))⟩
theorem wj_extend (i : Nat) {ds es : List PyData} {p1 p2 p3 : Pos} (hi : γ[i]? = some (.own ds)) (he : We X W c.T γ w w1 e (sh X.K (.list es))) (hl : ds.length + es.length ≤ sizeLine) (h : po.nx (γ.set i (.own (ds ++ es))) w1)
    (hbm : ∀ t, PA X [e] t → PE X (.Call (.Attribute (.Name x p1) "extend" p2) [e] [] p3) (tBM X.K "list" rExtend (tVar i) t) := by exact fun t ha => pe_bm PySem.F.plainAttrs_list PySem.F.slot_list_extend PySem.F.type_list_extend mt_extend (pv _) ha)
    (hs : starEach [e] X.env = (false, eval e X.env) :: starEach [] X.env := by rfl)
    (hS : swapsWith (.Call (.Attribute (.Name x p1) "extend" p2) [e] [] p3) none pos.line X.env = pure false := by rfl) : WJ X W c γ w (.Expr (.Call (.Attribute (.Name x p1) "extend" p2) [e] [] p3) pos) po := by
  refine PS.imp (ps_expr (hbm _ (pa_cons he pa_nil hs)) hS) fun D σ H ⟨F0, B, F, S, s, a, h1, _⟩ => ?_
  obtain ⟨a1, xs, q1, q2, q3, q4, q5⟩ := s.own i ds hi
  refine ⟨.ref a1, q1, .inl ⟨rfl, xs, SqL.of (cut_at q2).2⟩, F, S, s.s, a, fun v F2 H2 S2 g a2 p2 => ?_⟩
  obtain ⟨b2, ys, rfl, w4, w5⟩ := p2
  have s2 := s.grow g
  have r2 : cut H2 S2 a1 = some (.lst xs) := g.h a1 _ q2 (fun ps z => by cases z)
  have r3 : F2 a1 = none := g.own a1 q3 (by rw [q2]; simp)
  obtain ⟨r4, r5⟩ := cut_at r2
  refine ⟨a1, b2, xs, ys, rfl, rfl, r5, (st_whole s2.s).ex.go w4, by rw [q5.length, w5.length]; exact hl, h1 _ _ _ F2 _ S2 h (by rw [cut_upd_of r4]; exact s2.change hi q1 r2 r3 q4 ((DqAll.mono g.f ds xs q5).append w5)) (W.keep a2 (Ex.refl _) (W.none a2) fun b hb => upd_ne (fun z => r4 (by rw [← z]; exact hb)))⟩
def tWB (X : Cx) (W : Wd) (c : Cfg) (body : List Stmt) : TS := fun D σ H => ∃ γ w po, WJs X W c γ w body po ∧ tWJ X.K W c γ w po D σ H
theorem wj_forR (i : Nat) {n : Int} {p1 p2 : Pos} (hp : PassesOwn (model X.prog X.w) X.A X.env X.xe) (hc : X.calm = true) (hm : X.mg "range" = none) (hn : -(2 ^ 62) ≤ n ∧ n < 2 ^ 62) (he : We X W c.T γ w w1 e (sh X.K (.int n))) (hN : X.N.Nodup) (Iv : Nat → Gm → W.Om → Prop) (h0 : Iv 0 γ w1)
    (hs : ∀ (k : Nat) (γ' : Gm) (w' : W.Om), k < n.toNat → Iv k γ' w' → WJs X W c (γ'.set i (.sh (sh X.K (.int k)))) w' body { po with nx := Iv (k + 1), ct := Iv (k + 1), bk := po.nx }) (hd : ∀ γ' w', Iv n.toNat γ' w' → po.nx γ' w')
    (hg : Gl X "range" := by rfl) (hi : X.N[i]? = some x := by rfl) (hx : Loc X.env.scope x := by first | exact Or.inl rfl | exact Or.inr rfl) (hf : X.fn x = true ∨ X.env.scope.names.lookup x = some .local := by first | exact .inl rfl | exact .inr rfl)
    (hst : starEach [e] X.env = [(false, eval e X.env)] := by rfl) (hst2 : starEach [e] X.env = (false, eval e X.env) :: starEach [] X.env := by rfl) (hfs : ∀ y, foldedSetIterable (.Call (.Name "range" p1) [e] [] p2) X.env y = pure y := by intro _; rfl) : WJ X W c γ w (.For (.Name x p) (.Call (.Name "range" p1) [e] [] p2) body [] pos) po := by
  refine PS.imp (ps_for hp hc (pi_range1 hg hm (pa_cons he pa_nil hst2) hst) (pg_name hN hi hx hf) (wj_any (u := tWB X W c body) fun _ _ _ q => q) hfs) fun D σ H ⟨F0, B, F, S, s, a, h1, h2, h3, h4, h5⟩ => ?_
  refine ⟨F, S, s.s, a, fun v F1 H1 S1 g1 a1 p1 => ⟨n, by rw [show v = V.int n from p1], hn.1, hn.2, ?_⟩⟩
  refine for_range (lo := 0) (n := n.toNat) (fun i σ' H' => ∃ γ' w' F' S', Iv i γ' w' ∧ StS c.T X.K F0 B γ' σ' F' (cut H' S') ∧ W.at_ w' S' F' H') ⟨γ, w1, F1, S1, h0, s.grow g1, a1⟩ (fun k σ' H' hk ⟨γ', w', F', S', hI, s', a'⟩ => ?_) fun σ' H' ⟨γ', w', F', S', hI, s', a'⟩ => h1 γ' w' σ' F' H' S' (hd γ' w' hI) s' a'
  refine ⟨_, w', _, hs k γ' w' hk hI, F0, B, F', S', s'.set (P := sh X.K (.int k)) i (show V.int (0 + k) = V.int k by rw [Int.zero_add]), a', fun γ'' w'' σ'' F'' H'' S'' hn s'' a'' => ⟨γ'', w'', F'', S'', hn, s'', a''⟩, fun γ'' w'' σ'' F'' H'' S'' hn s'' a'' => h1 _ _ _ _ _ _ hn s'' a'', fun γ'' w'' σ'' F'' H'' S'' hn s'' a'' => ⟨γ'', w'', F'', S'', hn, s'', a''⟩, h4, h5⟩
/-- self.f = e -/
theorem wj_fld {i : Nat} {C : Addr} (hc : Cls X.K C) (hn : NoAttr X.K C f) (he : We X W c.T γ w w1 e P) (hv : PE X (.Name x q1) (tVar i)) (hi : ∃ p, γ[i]? = some (.sh p) ∧ ∀ S F H v u, W.at_ w1 S F H → p.p v F → P.p u F → ∃ a dx fs, v = .ref a ∧ S a ∧ H a = some (.ins C dx fs) ∧ fs.length ≤ 900 ∧ W.at_ w2 S F (upd H a (.ins C dx (putF f u fs))))
    (h : po.nx γ w2) (hs : swapsWith e (some (.Attribute (.Name x q1) f q2)) pos.line X.env = pure false := by rfl) : WJ X W c γ w (.Assign [.Attribute (.Name x q1) f q2] e pos) po :=
  PS.imp (ps_fld hv he hs) fun D σ H ⟨F0, B, F, S, s, a, h1, _⟩ => ⟨F, S, s.s, a, fun u F2 H2 S2 g a2 pu => by
    obtain ⟨R, hR, hw⟩ := hi
    have s2 := s.grow g
    obtain ⟨v, hv1, hv2⟩ := s2.s.env.2 i R hR
    obtain ⟨ad, dx, fs, rfl, k1, k2, k3, k4⟩ := hw S2 F2 H2 v u a2 hv2 pu
    refine ⟨_, hv1, ad, C, dx, fs, rfl, k2, hc, hn, Nat.lt_of_le_of_lt k3 (by decide), h1 _ _ _ F2 _ S2 h ?_ k4⟩
    rw [cut_upd_in k1]
    exact s2⟩
/-- self.f += e, numbers -/
theorem wj_fldaug {i : Nat} {C : Addr} {n m : Int} (hc : Cls X.K C) (hn : NoAttr X.K C f) (he : We X W c.T γ w w (e) (sh X.K (.int m))) (hv : PE X (.Name x q1) (tVar i))
    (hi : ∃ p, γ[i]? = some (.sh p) ∧ ∀ S F H v, W.at_ w S F H → p.p v F → ∃ a dx fs, v = .ref a ∧ S a ∧ H a = some (.ins C dx fs) ∧ fs.length ≤ 900 ∧ fs.lookup f = some (.int n) ∧ W.at_ w2 S F (upd H a (.ins C dx (putF f (.int (n + m)) fs))))
    (h : po.nx γ w2) : WJ X W c γ w (.AugAssign (.Attribute (.Name x q1) f q2) .Add e pos) po :=
  PS.imp (ps_fldaug hv he in_add) fun D σ H ⟨F0, B, F, S, s, a, h1, _⟩ => by
    obtain ⟨R, hR, hw⟩ := hi
    obtain ⟨v, hv1, hv2⟩ := s.s.env.2 i R hR
    obtain ⟨ad, dx, fs, rfl, k1, k2, k3, k5, k4⟩ := hw S F H v a hv2
    refine ⟨_, hv1, ad, C, dx, fs, _, rfl, k2, hc, hn, k5, F, S, s.s, a, fun u F2 H2 S2 g a2 pu => ⟨n, m, rfl, pu, ?_⟩⟩
    have s2 := s.grow g
    obtain ⟨v', hv3, hv4⟩ := s2.s.env.2 i R hR
    obtain ⟨ad', dx', fs', rfl, k1', k2', k3', k5', k4'⟩ := hw S2 F2 H2 v' a2 hv4
    rw [hv1] at hv3
    cases hv3
    refine ⟨dx', fs', k2', Nat.lt_of_le_of_lt k3' (by decide), h1 _ _ _ F2 _ S2 h ?_ k4'⟩
    rw [cut_upd_in k1']
    exact s2
end
section
variable {P : Program} {w : World} {K : Frag} {mg : Str → Option Value} {base : Heap} {W : Wd} {T : List NTab} {C : Addr} {ι : Type} {S : ι → PrW W.Om}
def wpoOf (W : Wd) : OutW W.Om → WPo W
  | .ok P w => ⟨fun _ w' => w' = w ∧ ∀ F, P.p .non F, fun _ _ => False, fun _ _ => False, P, fun w' => w' = w, fun _ _ _ => False⟩
  | .err o m w => ⟨fun _ _ => False, fun _ _ => False, fun _ _ => False, noTy, fun _ => False, fun o' m' w' => o' = o ∧ m' = m ∧ w' = w⟩
theorem wdef_start {Ps : List Ty} {N : List Str} {vs : List V} {E : XK} {Q : VK} {i : ι} {F1 H : Hp} {A : Addr → Prop} (hN : Ps.length ≤ N.length) (a : W.at_ (S i).w A F1 H) (e : Ex F1 (cut H A)) (t : NdefX.TabsN T (cut H A)) (hPs : (S i).args = Ps) (h : AllP (S i).args vs F1)
    (hq : match (S i).out with
      | .ok P w' => ∀ v F2 H2 A2, Grow T F1 (cut H A) F2 (cut H2 A2) → W.at_ w' A2 F2 H2 → P.p v F2 → Q v H2
      | .err o m w' => ∀ d F2 H2 A2, Grow T F1 (cut H A) F2 (cut H2 A2) → W.at_ w' A2 F2 H2 → cut H A d = none → XdAt H2 d o m → E (.ref C) (some d) H2) :
    tWJ K W ⟨T, C, E⟩ (startG (S i).args N.length) (S i).w (wpoOf W (S i).out) { nx := fun _ H' => Q .non H', rt := Q } (L2.start N vs) H := by
  have hl : vs.length ≤ N.length := by
    rw [h.length, hPs]
    exact hN
  refine ⟨F1, cut H A, F1, A, start_st e t h hl, a, ?_⟩
  cases ho : (S i).out with
  | ok R w' =>
    rw [ho] at hq
    exact ⟨fun γ' w'' σ' F' H' S' ⟨e1, hn⟩ s' a' => hq _ F' H' S' s'.g (e1 ▸ a') (hn F'), fun _ _ _ _ _ _ z _ => z.elim, fun _ _ _ _ _ _ z _ => z.elim, fun v w'' F' H' S' e1 g a' p => hq v F' H' S' g (e1 ▸ a') p, fun _ _ _ _ _ _ _ z => z.elim⟩
  | err o m w' =>
    rw [ho] at hq
    exact ⟨fun _ _ _ _ _ _ z _ => z.elim, fun _ _ _ _ _ _ z _ => z.elim, fun _ _ _ _ _ _ z _ => z.elim, fun _ _ _ _ _ z => z.elim, fun o' m' w'' d F' H' S' ⟨e1, e2, e3⟩ g a' h0 xd => by
      subst e1 e2 e3
      exact hq d F' H' S' g a' h0 xd⟩
theorem def_okW {x qual : Str} {st : Stmt} {f : Addr} {fd : FuncData} {N ps : List Str} {k : Nat} (F : Fun K x qual st f fd) (Sc : FnScope N ps (defScope st)) (hlen : ∀ i, (S i).args.length = ps.length)
    (body : ∀ (i : ι), (S i).pre → ∀ (cdv : Value) (A : Around) (outer : List PySem.Env) (s : Shared) (H : Hp) (E : XK), Room k (A.deeper (envOfC qual (defScope st) s.heap.objs.size f cdv)) →
      WJs (cxOf CX0 P w K mg base N qual (defScope st) f cdv A outer s H E).nox W ⟨T, C, E⟩ (startG (S i).args N.length) (S i).w (defBody st) (wpoOf W (S i).out)) : FnOk P w K mg base CX0 (k + 1) f fd ps (spW W T C S) := by
  have hN : ps.length ≤ N.length := by
    rw [← Sc.pre, List.length_take]
    omega
  refine F.ok Sc (fun vs H Q E ⟨i, F, A, _, _, _, _, h, _⟩ => by rw [h.length, hlen]) fun cdv A outer s H vs Q E hr ⟨i, F1, A1, hp, a, e, t, h, hq⟩ => ⟨_, body i hp cdv A outer s H E hr, ?_⟩
  exact wdef_start (by rw [hlen]; exact hN) a e t rfl h hq
theorem def_okWX {x qual : Str} {st : Stmt} {f : Addr} {fd : FuncData} {N ps : List Str} {k : Nat} (F : Fun K x qual st f fd) (Sc : FnScope N ps (defScope st)) (hlen : ∀ i, (S i).args.length = ps.length)
    (body : ∀ (i : ι), (S i).pre → ∀ (cdv : Value) (A : Around) (outer : List PySem.Env) (s : Shared) (H : Hp) (E : XK), Room k (A.deeper (envOfC qual (defScope st) s.heap.objs.size f cdv)) → L2N.Takes (cxOf (L2N.CX P w) P w K mg base N qual (defScope st) f cdv A outer s H E) (fun cls d _ H => E cls d H) →
      WJs (cxOf (L2N.CX P w) P w K mg base N qual (defScope st) f cdv A outer s H E) W ⟨T, C, E⟩ (startG (S i).args N.length) (S i).w (defBody st) (wpoOf W (S i).out)) : FnOk P w K mg base (L2N.CX P w) (k + 1) f fd ps (spW W T C S) := by
  have hN : ps.length ≤ N.length := by
    rw [← Sc.pre, List.length_take]
    omega
  refine F.okN Sc (fun vs H Q E ⟨i, F, A, _, _, _, _, h, _⟩ => by rw [h.length, hlen]) fun cdv A outer s H vs Q E hr ⟨i, F1, A1, hp, a, e, t, h, hq⟩ => ⟨_, body i hp cdv A outer s H E hr (L2N.takes_of rfl rfl rfl rfl), ?_⟩
  exact wdef_start (by rw [hlen]; exact hN) a e t rfl h hq
end
end Tw
namespace Td
open PySem PySem.Spec PyProof.Rows L2 Tw
/-! ### reading: what is left is a rest of what was there -/
theorem front_is : ∀ {k : Nat} {r a b : List UInt8}, RWire.front k r = some (a, b) → r = a ++ b ∧ a.length = k
  | 0, r, a, b, h => by
    cases h
    exact ⟨rfl, rfl⟩
  | k + 1, [], a, b, h => by cases h
  | k + 1, x :: r, a, b, h => by
    rw [RWire.front] at h
    cases e : RWire.front k r with
    | none => rw [e] at h; cases h
    | some p =>
      rw [e] at h
      cases h
      obtain ⟨h1, h2⟩ := front_is (a := p.1) (b := p.2) e
      exact ⟨by rw [List.cons_append, ← h1], by rw [List.length_cons, h2]⟩
theorem readNum_is {k n : Nat} {r b : List UInt8} (h : RWire.readNum k r = some (n, b)) : ∃ a, r = a ++ b ∧ a.length = k ∧ n = RWire.numOf a := by
  unfold RWire.readNum at h
  cases e : RWire.front k r with
  | none => rw [e] at h; cases h
  | some p =>
    rw [e] at h
    cases h
    obtain ⟨h1, h2⟩ := front_is (a := p.1) (b := p.2) e
    exact ⟨p.1, h1, h2, rfl⟩
theorem readText_is {r u b : List UInt8} (h : RWire.readText r = some (u, b)) : ∃ m, RWire.readNum 4 r = some (u.length, m) ∧ m = u ++ b := by
  unfold RWire.readText at h
  cases e : RWire.readNum 4 r with
  | none => rw [e] at h; cases h
  | some p =>
    rw [e] at h
    obtain ⟨h1, h2⟩ := front_is (a := u) (b := b) h
    exact ⟨p.2, by rw [h2], h1⟩
theorem suff_app {a b r : List UInt8} (h : r = a ++ b) : b <:+ r ∧ b.length + a.length = r.length := by
  subst h
  exact ⟨List.suffix_append a b, by rw [List.length_append]; omega⟩
theorem readNum_suff {k n : Nat} {r b : List UInt8} (h : RWire.readNum k r = some (n, b)) : b <:+ r ∧ b.length + k = r.length := by
  obtain ⟨a, h1, h2, _⟩ := readNum_is h
  have := suff_app h1
  rw [h2] at this
  exact this
theorem readText_suff {r u b : List UInt8} (h : RWire.readText r = some (u, b)) : b <:+ r ∧ b.length + 4 + u.length = r.length := by
  obtain ⟨m, h1, h2⟩ := readText_is h
  obtain ⟨h3, h4⟩ := readNum_suff h1
  obtain ⟨h5, h6⟩ := suff_app h2
  exact ⟨h5.trans h3, by omega⟩
/-- each reading takes some off -/
def Takes1 {α : Type} (f : List UInt8 → Option (α × List UInt8)) : Prop := ∀ r v b, f r = some (v, b) → b <:+ r ∧ b.length < r.length
theorem readMany_suff {α : Type} {f : List UInt8 → Option (α × List UInt8)} (hf : Takes1 f) : ∀ {n : Nat} {r : List UInt8} {l : List α} {b : List UInt8}, RWire.readMany f n r = some (l, b) → b <:+ r ∧ b.length + n ≤ r.length ∧ l.length = n
  | 0, r, l, b, h => by
    cases h
    exact ⟨List.suffix_refl _, Nat.le_refl _, rfl⟩
  | n + 1, r, l, b, h => by
    rw [RWire.readMany] at h
    cases e : f r with
    | none => rw [e] at h; cases h
    | some p =>
      rw [e] at h
      cases e2 : RWire.readMany f n p.2 with
      | none => simp only [e2] at h; cases h
      | some q =>
        simp only [e2] at h
        cases h
        obtain ⟨h1, h2⟩ := hf r p.1 p.2 e
        obtain ⟨h3, h4, h5⟩ := readMany_suff hf (l := q.1) (b := q.2) e2
        exact ⟨h3.trans h1, by omega, by rw [List.length_cons, h5]⟩
/-- the first of many -/
theorem readMany_next {α : Type} {f : List UInt8 → Option (α × List UInt8)} {n : Nat} {r : List UInt8} {l : List α} {b : List UInt8} (h : RWire.readMany f (n + 1) r = some (l, b)) : ∃ x l' r', f r = some (x, r') ∧ RWire.readMany f n r' = some (l', b) ∧ l = x :: l' := by
  rw [RWire.readMany] at h
  cases e : f r with
  | none => rw [e] at h; cases h
  | some p =>
    rw [e] at h
    cases e2 : RWire.readMany f n p.2 with
    | none => simp only [e2] at h; cases h
    | some q =>
      simp only [e2] at h
      cases h
      exact ⟨p.1, q.1, p.2, rfl, e2, rfl⟩
theorem readEntry_is {f : List UInt8 → Option (RWire.Value × List UInt8)} {r b : List UInt8} {e : RWire.Text × RWire.Value} (h : RWire.readEntry f r = some (e, b)) : ∃ m, RWire.readText r = some (e.1, m) ∧ f m = some (e.2, b) := by
  unfold RWire.readEntry at h
  cases e1 : RWire.readText r with
  | none => rw [e1] at h; cases h
  | some p =>
    rw [e1] at h
    cases e2 : f p.2 with
    | none => simp only [e2] at h; cases h
    | some q =>
      simp only [e2] at h
      cases h
      exact ⟨p.2, rfl, e2⟩
theorem entry_takes {f : List UInt8 → Option (RWire.Value × List UInt8)} (hf : Takes1 f) : Takes1 (RWire.readEntry f) := fun r v b h => by
  obtain ⟨m, h1, h2⟩ := readEntry_is h
  obtain ⟨h3, h4⟩ := readText_suff h1
  obtain ⟨h5, h6⟩ := hf m _ b h2
  exact ⟨h5.trans h3, by omega⟩
theorem readList_is {f : List UInt8 → Option (RWire.Value × List UInt8)} {r b : List UInt8} {v : RWire.Value} (h : RWire.readList f r = some (v, b)) : ∃ n m l, RWire.readNum 4 r = some (n, m) ∧ RWire.readMany f n m = some (l, b) ∧ v = .list l := by
  unfold RWire.readList at h
  cases e1 : RWire.readNum 4 r with
  | none => rw [e1] at h; cases h
  | some p =>
    rw [e1] at h
    cases e2 : RWire.readMany f p.1 p.2 with
    | none => simp only [e2] at h; cases h
    | some q =>
      simp only [e2] at h
      cases h
      exact ⟨p.1, p.2, q.1, rfl, e2, rfl⟩
theorem readRecord_is {f : List UInt8 → Option (RWire.Value × List UInt8)} {r b : List UInt8} {v : RWire.Value} (h : RWire.readRecord f r = some (v, b)) : ∃ n m l, RWire.readNum 4 r = some (n, m) ∧ RWire.readMany (RWire.readEntry f) n m = some (l, b) ∧ v = .record l ∧ RWire.apart l = true := by
  unfold RWire.readRecord at h
  cases e1 : RWire.readNum 4 r with
  | none => rw [e1] at h; cases h
  | some p =>
    rw [e1] at h
    cases e2 : RWire.readMany (RWire.readEntry f) p.1 p.2 with
    | none => simp only [e2] at h; cases h
    | some q =>
      simp only [e2] at h
      by_cases c : RWire.apart q.1 = true
      · rw [if_pos c] at h
        cases h
        exact ⟨p.1, p.2, q.1, rfl, e2, rfl, c⟩
      · rw [if_neg c] at h
        cases h
theorem readWords_is {r b : List UInt8} {v : RWire.Value} (h : RWire.readWords r = some (v, b)) : ∃ u, RWire.readText r = some (u, b) ∧ v = .text u := by
  unfold RWire.readWords at h
  cases e1 : RWire.readText r with
  | none => rw [e1] at h; cases h
  | some p =>
    rw [e1] at h
    cases h
    exact ⟨p.1, rfl, rfl⟩
theorem readInt_is {r b : List UInt8} {v : RWire.Value} (h : RWire.readInt r = some (v, b)) : ∃ n, RWire.readNum 8 r = some (n, b) ∧ v = .int (RWire.intOf n) ∧ (RWire.intOf n).natAbs ≤ RWire.intMost := by
  unfold RWire.readInt at h
  cases e1 : RWire.readNum 8 r with
  | none => rw [e1] at h; cases h
  | some p =>
    rw [e1] at h
    by_cases c : Nat.ble (RWire.intOf p.1).natAbs RWire.intMost = true
    · have h : (if Nat.ble (RWire.intOf p.1).natAbs RWire.intMost = true then some (RWire.Value.int (RWire.intOf p.1), p.2) else none) = some (v, b) := h
      rw [if_pos c] at h
      cases h
      exact ⟨p.1, rfl, rfl, Nat.le_of_ble_eq_true c⟩
    · have h : (if Nat.ble (RWire.intOf p.1).natAbs RWire.intMost = true then some (RWire.Value.int (RWire.intOf p.1), p.2) else none) = some (v, b) := h
      rw [if_neg c] at h
      cases h
/-- a value of this document, by its kind -/
theorem readF_is {d : Nat} {r b : List UInt8} {v : RWire.Value} (h : RWire.readF (d + 1) r = some (v, b)) (ok : okV v = true) : ∃ k m, r = k :: m ∧
    ((k.toNat = 0 ∧ v = .nothing ∧ b = m) ∨ (k.toNat = 1 ∧ v = .null ∧ b = m) ∨ (k.toNat = 2 ∧ v = .bool false ∧ b = m) ∨ (k.toNat = 3 ∧ v = .bool true ∧ b = m) ∨
     (k.toNat = 4 ∧ RWire.readInt m = some (v, b)) ∨ (k.toNat = 6 ∧ RWire.readWords m = some (v, b)) ∨ (k.toNat = 7 ∧ RWire.readList (RWire.readF d) m = some (v, b)) ∨ (k.toNat = 8 ∧ RWire.readRecord (RWire.readF d) m = some (v, b))) := by
  cases r with
  | nil => cases h
  | cons k m =>
    refine ⟨k, m, rfl, ?_⟩
    rw [RWire.readF] at h
    unfold RWire.readKind at h
    split at h
    · cases h; exact .inl ⟨by assumption, rfl, rfl⟩
    · cases h; exact .inr (.inl ⟨by assumption, rfl, rfl⟩)
    · cases h; exact .inr (.inr (.inl ⟨by assumption, rfl, rfl⟩))
    · cases h; exact .inr (.inr (.inr (.inl ⟨by assumption, rfl, rfl⟩)))
    · exact .inr (.inr (.inr (.inr (.inl ⟨by assumption, h⟩))))
    · exfalso
      unfold RWire.readBig at h
      split at h
      · cases h
      · split at h
        · cases h
        · split at h
          · cases h
          · split at h
            · cases h
            · cases h; cases ok
    · exact .inr (.inr (.inr (.inr (.inr (.inl ⟨by assumption, h⟩)))))
    · exact .inr (.inr (.inr (.inr (.inr (.inr (.inl ⟨by assumption, h⟩))))))
    · exact .inr (.inr (.inr (.inr (.inr (.inr (.inr ⟨by assumption, h⟩))))))
    · exfalso
      unfold RWire.readOctets at h
      split at h
      · cases h
      · cases h; cases ok
    · exfalso
      unfold RWire.readWide at h
      split at h
      · cases h
      · split at h
        · cases h
        · split at h
          · cases h; cases ok
          · cases h
    · cases h
theorem readBig_suff {r b : List UInt8} {v : RWire.Value} (h : RWire.readBig r = some (v, b)) : b <:+ r := by
  unfold RWire.readBig at h
  split at h
  · cases h
  · rename_i s r'
    cases e1 : RWire.readNum 4 r' with
    | none => rw [e1] at h; cases h
    | some p =>
      rw [e1] at h
      cases e2 : RWire.front p.1 p.2 with
      | none => simp only [e2] at h; cases h
      | some q =>
        simp only [e2] at h
        split at h
        · cases h
        · cases h
          obtain ⟨h1, h2⟩ := front_is (a := q.1) (b := q.2) e2
          exact ((suff_app h1).1.trans (readNum_suff (n := p.1) (b := p.2) e1).1).trans (List.suffix_cons s r')
theorem readSigns_suff : ∀ {n : Nat} {r : List UInt8} {l : List UInt16} {b : List UInt8}, RWire.readSigns n r = some (l, b) → b <:+ r
  | 0, r, l, b, h => by cases h; exact List.suffix_refl _
  | n + 1, [], l, b, h => by cases h
  | n + 1, [x], l, b, h => by cases h
  | n + 1, x :: y :: r, l, b, h => by
    rw [RWire.readSigns] at h
    cases e : RWire.readSigns n r with
    | none => rw [e] at h; cases h
    | some p =>
      rw [e] at h
      cases h
      exact (readSigns_suff (l := p.1) (b := p.2) e).trans ((List.suffix_cons y r).trans (List.suffix_cons x _))
theorem readF_takes : ∀ d, Takes1 (RWire.readF d)
  | 0 => fun r v b h => by cases h
  | d + 1 => fun r v b h => by
    cases r with
    | nil => cases h
    | cons k m =>
      have key : b <:+ m := by
        rw [RWire.readF] at h
        unfold RWire.readKind at h
        split at h
        · cases h; exact List.suffix_refl _
        · cases h; exact List.suffix_refl _
        · cases h; exact List.suffix_refl _
        · cases h; exact List.suffix_refl _
        · obtain ⟨n, h1, _⟩ := readInt_is h
          exact (readNum_suff h1).1
        · exact readBig_suff h
        · obtain ⟨u, h1, _⟩ := readWords_is h
          exact (readText_suff h1).1
        · obtain ⟨n, m', l, h1, h2, _⟩ := readList_is h
          exact (readMany_suff (readF_takes d) h2).1.trans (readNum_suff h1).1
        · obtain ⟨n, m', l, h1, h2, _⟩ := readRecord_is h
          exact (readMany_suff (entry_takes (readF_takes d)) h2).1.trans (readNum_suff h1).1
        · unfold RWire.readOctets at h
          cases e : RWire.readText m with
          | none => rw [e] at h; cases h
          | some p =>
            rw [e] at h
            cases h
            exact (readText_suff (u := p.1) (b := p.2) e).1
        · unfold RWire.readWide at h
          cases e : RWire.readNum 4 m with
          | none => rw [e] at h; cases h
          | some p =>
            rw [e] at h
            cases e2 : RWire.readSigns p.1 p.2 with
            | none => simp only [e2] at h; cases h
            | some q =>
              simp only [e2] at h
              split at h
              · cases h
                exact (readSigns_suff (l := q.1) (b := q.2) e2).trans (readNum_suff (n := p.1) (b := p.2) e).1
              · cases h
        · cases h
      refine ⟨key.trans (List.suffix_cons k m), ?_⟩
      have := key.length_le
      rw [List.length_cons]
      omega
end Td
namespace Tw
open PySem PySem.Spec PyProof.Rows L2
def refTy (p : Addr) : Ty := ⟨fun v _ => v = .ref p, fun _ h => h⟩
/-- the reader of a request: where it stands, its octets, the rest that is to be read -/
structure RqW where
  p : Addr
  octs : List UInt8
  rest : List UInt8
end Tw
namespace Td
open PySem PySem.Spec PyProof.Rows L2 Tw
def rqAt (K : Frag) (CR : Addr) (w : RqW) (S : Addr → Prop) (F H : Hp) : Prop := (∀ a, S a ↔ a = w.p) ∧ F w.p = none ∧ w.rest <:+ w.octs ∧ ∃ dx v, H w.p = some (.ins CR dx [("octets", v), ("at", .int ((w.octs.length - w.rest.length : Nat) : Int))]) ∧ Dq K F (.list (octD w.octs)) v
def rqWd (K : Frag) (CR : Addr) : Wd where
  Om := RqW
  at_ := rqAt K CR
  own := fun {w S F H} ⟨h1, h2, _, dx, v, h3, _⟩ a ha => by
    rw [(h1 a).mp ha]
    exact ⟨h2, _, h3, trivial⟩
  keep := fun {w S F H F2 H2} ⟨h1, h2, h4, dx, v, h3, h5⟩ e n k => ⟨h1, n _ ((h1 _).mpr rfl), h4, dx, v, by rw [k _ ((h1 _).mpr rfl)]; exact h3, Dq.mono e _ _ h5⟩
def rqT (K : Frag) (CR : Addr) (w : RqW) : Ty := obj CR [("octets", sh K (.list (octD w.octs))), ("at", sh K (.int ((w.octs.length - w.rest.length : Nat) : Int)))]
theorem rq_frz {K : Frag} {CR : Addr} {w : RqW} {γ : Gm} {i : Nat} (hi : γ[i]? = some (.sh (refTy w.p))) : FrzG (rqWd K CR) w γ (γ.set i (.sh (rqT K CR w))) := fun S F H σ a h => by
  obtain ⟨h1, h2, h4, dx, v, h3, h5⟩ := id a
  obtain ⟨u, hu, e⟩ := h.2 i _ hi
  have e : u = .ref w.p := e
  subst e
  have q := (h.mono (glue_ex a)).set (i := i) (P := rqT K CR w) (v := .ref w.p) ⟨w.p, dx, _, rfl, by rw [glue_in ((h1 _).mpr rfl)]; exact h3, _, _, rfl, Dq.mono (glue_ex a) _ _ h5, _, _, rfl, rfl, rfl⟩
  rwa [set_same hu] at q
abbrev s_R (j : Nat) : Stmt := inClass (top 36) j
structure TxtR (K : Frag) (CR : Addr) : Prop where
  cl : Cls K CR
  nO : NoAttr K CR "octets"
  nA : NoAttr K CR "at"
section
variable {X : Cx} {T : List NTab} {γ : Gm} {e : Expr} {pos p : Pos} {CR : Addr} {w : RqW}
theorem fO (t : TxtR X.K CR) (ho : Ev X T γ e (rqT X.K CR w)) (hb : attributeBase e "octets" X.env (eval e X.env) = eval e X.env := by rfl) : Ev X T γ (.Attribute e "octets" pos) (sh X.K (.list (octD w.octs))) := ev_fld t.cl t.nO rfl ho hb
theorem fA (t : TxtR X.K CR) (ho : Ev X T γ e (rqT X.K CR w)) (hb : attributeBase e "at" X.env (eval e X.env) = eval e X.env := by rfl) : Ev X T γ (.Attribute e "at" pos) (sh X.K (.int ((w.octs.length - w.rest.length : Nat) : Int))) := ev_fld t.cl t.nA rfl ho hb
end
theorem rq_meth {K : Frag} {CR : Addr} {w : RqW} {x : Str} (hx : x ≠ "octets") (hx2 : x ≠ "at") : ∀ S F H v, (rqWd K CR).at_ w S F H → (refTy w.p).p v F → ∃ a dx fs, v = .ref a ∧ H a = some (.ins CR dx fs) ∧ fs.lookup x = none := fun S F H v a h => by
  obtain ⟨h1, h2, h4, dx, u, h3, h5⟩ := a
  refine ⟨w.p, dx, _, h, h3, ?_⟩
  rw [List.lookup_cons, show (x == ("octets" : Str)) = false from beq_eq_false_iff_ne.mpr hx]
  show List.lookup x [("at", _)] = none
  rw [List.lookup_cons, show (x == ("at" : Str)) = false from beq_eq_false_iff_ne.mpr hx2]
  rfl
/-- self.at moves on -/
theorem rq_move {K : Frag} {CR : Addr} {w : RqW} {r2 : List UInt8} {m : Nat} (hs : r2 <:+ w.rest) (hm : r2.length + m = w.rest.length) : ∀ S F H v, (rqWd K CR).at_ w S F H → (refTy w.p).p v F →
    ∃ a dx fs, v = .ref a ∧ S a ∧ H a = some (.ins CR dx fs) ∧ fs.length ≤ 900 ∧ fs.lookup ("at" : Str) = some (V.int ((w.octs.length - w.rest.length : Nat) : Int)) ∧ (rqWd K CR).at_ { w with rest := r2 } S F (upd H a (.ins CR dx (putF ("at" : Str) (V.int (((w.octs.length - w.rest.length : Nat) : Int) + (m : Int))) fs))) := fun S F H v a h => by
  obtain ⟨h1, h2, h4, dx, u, h3, h5⟩ := a
  refine ⟨w.p, dx, _, h, (h1 _).mpr rfl, h3, by show 2 ≤ 900; decide, rfl, h1, h2, hs.trans h4, dx, u, ?_, h5⟩
  rw [upd_same]
  have e : ((w.octs.length - w.rest.length : Nat) : Int) + (m : Int) = ((w.octs.length - r2.length : Nat) : Int) := by
    have := h4.length_le
    omega
  rw [e]
  rfl
section
variable {P : Program} {w : World} {K : Frag} {mg : Str → Option Value} {base : Heap} {T : List NTab} {C CR : Addr}
structure iNum where
  w : RqW
  m : Nat
  n : Nat
  r : List UInt8
def S_number (K : Frag) : iNum → PrW RqW := fun i => ⟨i.m ≤ 8 ∧ i.w.rest <:+ i.w.octs ∧ RWire.readNum i.m i.w.rest = some (i.n, i.r), i.w, [refTy i.w.p, sh K (.int i.m)], .ok (sh K (.int i.n)) { i.w with rest := i.r }⟩
theorem sc_number : FnScope ["self", "many", "found", "back"] ["self", "many"] (defScope (s_R 1)) := ⟨rfl, rfl, rfl, by decide +kernel, rfl, by decide +kernel, by decide +kernel⟩
theorem numOf_drop {a : List UInt8} {k : Nat} {o : UInt8} (h : a[k]? = some o) : RWire.numOf (a.drop k) = 256 * RWire.numOf (a.drop (k + 1)) + o.toNat := by
  have lt := (List.getElem?_eq_some_iff.mp h)
  obtain ⟨l, e⟩ := lt
  rw [List.drop_eq_getElem_cons l, e, RWire.numOf]
  omega
theorem suff_get {l r : List UInt8} (h : r <:+ l) {i : Nat} {x : UInt8} (hx : r[i]? = some x) : l[l.length - r.length + i]? = some x := by
  obtain ⟨t, rfl⟩ := h
  rw [List.length_append, Nat.add_sub_cancel, List.getElem?_append_right (Nat.le_add_right _ _), Nat.add_sub_cancel_left]
  exact hx
theorem ok_number {f : Addr} {fd : FuncData} (F : Fun K "number" "Request.number" (s_R 1) f fd) (X : Txt K mg) (t : TxtR K CR) : FnOk P w K mg base CX0 1 f fd ["self", "many"] (spW (rqWd K CR) T C (S_number K)) := by
  refine def_okW F sc_number (fun _ => rfl) fun ⟨⟨p, octs, rest⟩, m, n, r⟩ hp cdv A outer s H E hr => ?_
  obtain ⟨hm, hso, hn⟩ : m ≤ 8 ∧ rest <:+ octs ∧ RWire.readNum m rest = some (n, r) := hp
  obtain ⟨a, e1, e2, e3⟩ := readNum_is hn
  obtain ⟨hs, hl⟩ := readNum_suff hn
  refine wj_cons (wj_set 2 (we_pure ev_int) ?_ sc_number.nd)
  refine wj_cons (wj_forR 3 (n := m) PassesOwn.never rfl X.range ⟨by omega, by omega⟩ (we_pure (ev_var 1 rfl)) sc_number.nd (fun k γ w' => ∃ x, w' = ⟨p, octs, rest⟩ ∧ γ = [.sh (refTy p), .sh (sh K (.int m)), .sh (sh K (.int (RWire.numOf (a.drop (m - k))))), x]) ⟨.un, rfl, ?_⟩ ?_ ?_)
  · rw [Nat.sub_zero, ← e2, List.drop_length]
    rfl
  · rintro k _ _ hk ⟨x, rfl, rfl⟩
    have hk : k < m := by omega
    have lt : m - 1 - k < a.length := by omega
    have ha : a[m - 1 - k]? = some a[m - 1 - k] := List.getElem?_eq_getElem lt
    have hd := numOf_drop ha
    rw [show m - 1 - k + 1 = m - k by omega] at hd
    refine wj_last (wj_set 2 (P := sh K (.int (RWire.numOf (a.drop (m - (k + 1)))))) (we_fr (d := .int (RWire.numOf (a.drop (m - (k + 1))))) (rq_frz (w := ⟨p, octs, rest⟩) (i := 0) rfl) ?_ rfl) ⟨.sh (sh K (.int k)), rfl, rfl⟩ sc_number.nd)
    · have hr0 : rest[m - 1 - k]? = some a[m - 1 - k] := by
        rw [e1, List.getElem?_append_left lt]
        exact ha
      refine Ev.cast (ev_add (ev_mul (.inl ⟨by decide, by decide⟩) ev_int (ev_var 2 rfl)) (ev_ixL (d := .int (a[m - 1 - k].toNat : Int)) (i := ((octs.length - rest.length + (m - 1 - k) : Nat) : Int)) (fO t (ev_var 0 rfl)) (Ev.cast (ev_sub (ev_sub (ev_add (fA t (ev_var 0 rfl)) (ev_var 1 rfl)) ev_int) (ev_var 3 rfl)) (congrArg PyData.int ?_)) ?_)) (congrArg PyData.int ?_)
      · show ((octs.length - rest.length : Nat) : Int) + (m : Int) - 1 - (k : Int) = _
        omega
      · refine atI_nat ?_
        rw [octD, List.getElem?_map, suff_get hso hr0]
        rfl
      · rw [show m - (k + 1) = m - 1 - k by omega, hd]
        omega
  · rintro _ _ ⟨x, rfl, rfl⟩
    rw [show (m : Int).toNat = m by omega, Nat.sub_self, List.drop_zero, ← e3]
    show WJs _ _ _ _ _ _ _
    refine wj_cons (wj_fldaug (i := 0) (n := ((octs.length - rest.length : Nat) : Int)) (m := (m : Int)) (w2 := (⟨p, octs, r⟩ : RqW)) t.cl t.nA (we_pure (ev_var 1 rfl)) (pv _) ⟨_, rfl, rq_move (w := ⟨p, octs, rest⟩) hs hl⟩ ?_)
    exact wj_last (wj_ret (we_pure (ev_var 2 rfl)) rfl)
end
end Td
namespace Td
open PySem PySem.Spec PyProof.Rows L2 Tw
theorem cutD_nat (ds : List PyData) (i j : Nat) (h1 : i ≤ j) (h2 : j ≤ ds.length) : Tw.cutD ds (some (i : Int)) (some (j : Int)) = (ds.drop i).take (j - i) := by
  unfold Tw.cutD
  rw [HT.sIx_nat, HT.sIx_nat, Nat.min_eq_left (show i ≤ ds.length by omega), Nat.min_eq_left h2]
theorem noLs_octD (l : List UInt8) : noLs (octD l) = true := noLs_all fun d hd => by
  obtain ⟨o, _, rfl⟩ := List.mem_map.mp hd
  rfl
mutual
theorem noL_val : ∀ v, noL (valD v) = true
  | .nothing => rfl
  | .null => rfl
  | .bool _ => rfl
  | .int _ => rfl
  | .big _ => rfl
  | .text u => by
    show (noLs (octD u) && true) = true
    rw [noLs_octD]
    rfl
  | .octets _ => rfl
  | .wide _ => rfl
  | .list l => by
    show (noLs (valDs l) && true) = true
    rw [noL_vals l]
    rfl
  | .record l => by
    show (noLs (valFs l) && true) = true
    rw [noL_valFs l]
    rfl
theorem noL_vals : ∀ l, noLs (valDs l) = true
  | [] => rfl
  | v :: r => by
    show (noL (valD v) && noLs (valDs r)) = true
    rw [noL_val v, noL_vals r]
    rfl
theorem noL_valFs : ∀ l : List (RWire.Text × RWire.Value), noLs (valFs l) = true
  | [] => rfl
  | e :: r => by
    show ((noLs (octD e.1) && (noL (valD e.2) && true)) && noLs (valFs r)) = true
    rw [noLs_octD, noL_val e.2, noL_valFs r]
    rfl
end
section
variable {P : Program} {w : World} {K : Frag} {mg : Str → Option Value} {base : Heap} {T : List NTab} {C CR : Addr}
section
variable {X : Cx} {γ : Gm} {pos p1 p2 : Pos} {e : Expr}
/-- self.number(m) -/
theorem we_number {j : Nat} {w : RqW} {m n : Nat} {r : List UInt8} {x : Str} {pl : Sem Bool} (h : Mt X.prog X.w X.K X.mg X.base CX0 1 CR "number" ["self", "many"] (spW (rqWd X.K CR) T C (S_number X.K))) (hr : Room j X.A) (hj : 1 ≤ j) (hm : m ≤ 8) (hs : w.rest <:+ w.octs) (hn : RWire.readNum m w.rest = some (n, r)) (h0 : γ[0]? = some (.sh (refTy w.p)))
    (hv : PE X (.Name x p1) (tVar 0)) (hb : Ev X T γ e (sh X.K (.int m)))
    (hx : ∀ t, γ[0]? = some (.sh t) → Ev X T γ (.Name x p1) t)
    (hst : starEach [e] X.env = (false, eval e X.env) :: starEach [] X.env := by rfl) (hpl : (backTo pos (starEach [] X.env)).any (·.1) = false := by rfl)
    (ht : eval (.Call (.Attribute (.Name x p1) "number" p2) [e] [] pos) X.env = (do
      let ov ← eval (.Name x p1) X.env
      standAt p2.atName
      let (f, first) ← holding [ov] (getMethod ov "number" pl)
      callWith pos f first (backTo pos (starEach [e] X.env)) (backToKw pos (keywordEach [] X.env))) := by rfl) :
    We X (rqWd X.K CR) T γ w { w with rest := r } (.Call (.Attribute (.Name x p1) "number" p2) [e] [] pos) (sh X.K (.int n)) :=
  we_meth (R := refTy w.p) (w1 := w) h hr hj (⟨w, m, n, r⟩ : iNum) ⟨hm, hs, hn⟩ rfl rfl rfl (rq_meth (by decide) (by decide)) (we_pure (hx _ h0)) (wa_cons (we_pure hb) wa_nil hst) hst hpl ht
end
structure iPlain where
  w : RqW
  u : List UInt8
  r : List UInt8
def S_plain (K : Frag) : iPlain → PrW RqW := fun i => ⟨i.w.rest <:+ i.w.octs ∧ RWire.readText i.w.rest = some (i.u, i.r), i.w, [refTy i.w.p], .ok (sh K (.tuple (octD i.u))) { i.w with rest := i.r }⟩
theorem sc_plain : FnScope ["self", "many"] ["self"] (defScope (s_R 2)) := ⟨rfl, rfl, rfl, by decide +kernel, rfl, by decide +kernel, by decide +kernel⟩
theorem ok_plain {f : Addr} {fd : FuncData} (F : Fun K "plain" "Request.plain" (s_R 2) f fd) (X : Txt K mg) (t : TxtR K CR) (m_number : Mt P w K mg base CX0 1 CR "number" ["self", "many"] (spW (rqWd K CR) T C (S_number K))) : FnOk P w K mg base CX0 2 f fd ["self"] (spW (rqWd K CR) T C (S_plain K)) := by
  refine def_okW F sc_plain (fun _ => rfl) fun ⟨⟨p, octs, rest⟩, u, r⟩ hp cdv A outer s H E hr => ?_
  obtain ⟨hso, hu⟩ : rest <:+ octs ∧ RWire.readText rest = some (u, r) := hp
  obtain ⟨m, h1, h2⟩ := readText_is hu
  obtain ⟨h3, h4⟩ := readNum_suff h1
  obtain ⟨h5, h6⟩ := suff_app h2
  refine wj_cons (wj_set 1 (w1 := (⟨p, octs, m⟩ : RqW)) (we_number (w := ⟨p, octs, rest⟩) m_number hr (by decide) (by decide) hso h1 rfl (pv 0) ev_int (fun t ht => ev_var 0 ht)) ?_ sc_plain.nd)
  refine wj_cons (wj_fldaug (i := 0) (n := ((octs.length - m.length : Nat) : Int)) (m := (u.length : Int)) (w2 := (⟨p, octs, r⟩ : RqW)) t.cl t.nA (we_pure (ev_var 1 rfl)) (pv _) ⟨_, rfl, rq_move (w := ⟨p, octs, m⟩) h5 h6⟩ ?_)
  refine wj_last (wj_ret (we_fr (d := .tuple (octD u)) (rq_frz (w := ⟨p, octs, r⟩) (i := 0) rfl) ?_ (by show (noLs (octD u)) = true; exact noLs_octD u)) rfl)
  refine Ev.cast (ev_tuple (ds := Tw.cutD (octD octs) (some ((octs.length - m.length : Nat) : Int)) (some ((octs.length - r.length : Nat) : Int))) true X.tuple ?_) (congrArg PyData.tuple ?_)
  · refine EvN.sh ?_
    refine evn_slice ?_ (evo_some ?_) (evo_some ?_)
    · exact fO (w := ⟨p, octs, r⟩) t (ev_var 0 rfl)
    rotate_left
    · exact fA (w := ⟨p, octs, r⟩) t (ev_var 0 rfl)
    refine Ev.cast (ev_sub (fA (w := ⟨p, octs, r⟩) t (ev_var 0 rfl)) (ev_var 1 rfl)) (congrArg PyData.int ?_)
    show ((octs.length - r.length : Nat) : Int) - (u.length : Int) = _
    have := hso.length_le
    omega
  · have hm : m <:+ octs := h3.trans hso
    obtain ⟨q, hq⟩ := hm
    have lq : octs.length - m.length = q.length := by rw [← hq, List.length_append]; omega
    have lr : octs.length - r.length = q.length + u.length := by rw [← hq, List.length_append, h2, List.length_append]; omega
    rw [lq, lr, cutD_nat _ _ _ (by omega) (by rw [octD_len, ← hq, List.length_append, h2, List.length_append]; omega), Nat.add_sub_cancel_left, ← hq, h2, octD_app, octD_app]
    rw [List.drop_left' (octD_len q), List.take_left' (octD_len u)]
structure iVal where
  w : RqW
  v : RWire.Value
  r : List UInt8
def S_value (K : Frag) (d : Nat) : iVal → PrW RqW := fun i => ⟨i.w.rest <:+ i.w.octs ∧ i.w.octs.length ≤ 100000 ∧ okV i.v = true ∧ RWire.readF d i.w.rest = some (i.v, i.r), i.w, [refTy i.w.p], .ok (sh K (valD i.v)) { i.w with rest := i.r }⟩
theorem sc_value : FnScope ["self", "kind", "found", "rows", "turn", "name"] ["self"] (defScope (s_R 3)) := ⟨rfl, rfl, rfl, by decide +kernel, rfl, by decide +kernel, by decide +kernel⟩
theorem ok_value0 {f : Addr} {fd : FuncData} (F : Fun K "value" "Request.value" (s_R 3) f fd) : FnOk P w K mg base CX0 3 f fd ["self"] (spW (rqWd K CR) T C (S_value K 0)) := by
  refine def_okW F sc_value (fun _ => rfl) fun i hp cdv A outer s H E hr => ?_
  obtain ⟨_, _, _, hp⟩ := hp
  cases hp
theorem kind_read {k : UInt8} {m : List UInt8} : RWire.readNum 1 (k :: m) = some (k.toNat, m) := by
  show some (k.toNat + 256 * 0, m) = _
  rw [Nat.mul_zero, Nat.add_zero]
theorem ok_valueS {f : Addr} {fd : FuncData} {d : Nat} (F : Fun K "value" "Request.value" (s_R 3) f fd) (X : Txt K mg) (t : TxtR K CR) (m_number : Mt P w K mg base CX0 1 CR "number" ["self", "many"] (spW (rqWd K CR) T C (S_number K))) (m_plain : Mt P w K mg base CX0 2 CR "plain" ["self"] (spW (rqWd K CR) T C (S_plain K)))
    (f_integer : Fn P w K mg base CX0 1 "integer" ["number"] (spF T C (S_integer K))) (m_rec : Mt P w K mg base CX0 (3 + d) CR "value" ["self"] (spW (rqWd K CR) T C (S_value K d))) : FnOk P w K mg base CX0 (3 + d + 1) f fd ["self"] (spW (rqWd K CR) T C (S_value K (d + 1))) := by
  refine def_okW F sc_value (fun _ => rfl) fun ⟨⟨p, octs, rest⟩, v, r⟩ hp cdv A outer s H E hr => ?_
  obtain ⟨hso, hol, hok, hv⟩ : rest <:+ octs ∧ octs.length ≤ 100000 ∧ okV v = true ∧ RWire.readF (d + 1) rest = some (v, r) := hp
  have j1 : 1 ≤ 3 + d := by omega
  have j2 : 2 ≤ 3 + d := by omega
  obtain ⟨k, m, rfl, hk⟩ := readF_is hv hok
  have hsm : m <:+ octs := (List.suffix_cons k m).trans hso
  refine wj_cons (wj_set 1 (w1 := (⟨p, octs, m⟩ : RqW)) (we_number (w := ⟨p, octs, k :: m⟩) m_number hr j1 (by decide) hso kind_read rfl (pv 0) ev_int (fun t ht => ev_var 0 ht)) ?_ sc_value.nd)
  have plain : ∀ n : Nat, k.toNat = n → n < 4 → valD v = .tuple [.int n] → r = m → WJs (cxOf CX0 P w K mg base ["self", "kind", "found", "rows", "turn", "name"] "Request.value" (defScope (s_R 3)) f cdv A outer s H E).nox (rqWd K CR) ⟨T, C, E⟩ [.sh (refTy p), .sh (sh K (.int k.toNat)), .un, .un, .un, .un] (⟨p, octs, m⟩ : RqW)
      ((defBody (s_R 3)).drop 1) (wpoOf (rqWd K CR) (.ok (sh K (valD v)) (⟨p, octs, r⟩ : RqW))) := by
    intro n hkn hn hval hrm
    rw [hkn, hval, hrm]
    refine wj_cons (wj_if (wt_pure (evt_eqI (ev_var 1 rfl) (ev_ci X.INTEGER))) (fun h => by have := of_decide_eq_true h; omega) fun _ => ?_)
    refine wj_nil (wj_cons (wj_if (wt_pure (evt_eqI (ev_var 1 rfl) (ev_ci X.TEXT))) (fun h => by have := of_decide_eq_true h; omega) fun _ => ?_))
    refine wj_nil (wj_cons (wj_if (wt_pure (evt_lt (ev_var 1 rfl) (ev_ci X.INTEGER))) (fun _ => ?_) fun h => by have := of_decide_eq_false h; omega))
    exact wj_last (wj_ret (we_pure (ev_tup (ds := [_]) (eva_cons (ev_var 1 rfl) eva_nil))) rfl)
  have mlen := hsm.length_le
  rcases hk with ⟨h1, rfl, rfl⟩ | ⟨h1, rfl, rfl⟩ | ⟨h1, rfl, rfl⟩ | ⟨h1, rfl, rfl⟩ | ⟨h1, h2⟩ | ⟨h1, h2⟩ | ⟨h1, h2⟩ | ⟨h1, h2⟩
  · exact plain 0 h1 (by decide) rfl rfl
  · exact plain 1 h1 (by decide) rfl rfl
  · exact plain 2 h1 (by decide) rfl rfl
  · exact plain 3 h1 (by decide) rfl rfl
  · obtain ⟨n, h3, rfl, h5⟩ := readInt_is h2
    refine wj_cons (wj_if (wt_pure (evt_eqI (ev_var 1 rfl) (ev_ci X.INTEGER))) (fun _ => ?_) fun h => by have := of_decide_eq_false h; omega)
    refine wj_cons (wj_set 2 (w1 := (⟨p, octs, r⟩ : RqW)) (we_number (w := ⟨p, octs, m⟩) m_number hr j1 (by decide) hsm h3 rfl (pv 0) ev_int (fun t ht => ev_var 0 ht)) ?_ sc_value.nd)
    refine wj_last (wj_ret (we_call f_integer hr j1 (RWire.intOf n) trivial rfl (wa_cons (we_pure (ev_if (evt_ge (ev_var 2 rfl) (ev_ci X.HALF)) (fun h => ?_) fun h => ?_)) wa_nil)) rfl)
    · have h := of_decide_eq_true h
      refine Ev.cast (ev_sub (ev_var 2 rfl) (ev_ci X.WORD)) (congrArg PyData.int ?_)
      unfold RWire.intOf RWire.wordMost
      rw [if_neg (by simp; omega)]
      rfl
    · have h := of_decide_eq_false h
      refine Ev.cast (ev_var 2 rfl) (congrArg PyData.int ?_)
      unfold RWire.intOf
      rw [if_pos (by simp; omega)]
      rfl
  · obtain ⟨u, h3, rfl⟩ := readWords_is h2
    refine wj_cons (wj_if (wt_pure (evt_eqI (ev_var 1 rfl) (ev_ci X.INTEGER))) (fun h => by have := of_decide_eq_true h; omega) fun _ => ?_)
    refine wj_nil (wj_cons (wj_if (wt_pure (evt_eqI (ev_var 1 rfl) (ev_ci X.TEXT))) (fun _ => ?_) fun h => by have := of_decide_eq_false h; omega))
    exact wj_last (wj_ret (we_tup (ds := [.int 6, .tuple (octD u)]) (wa_cons (we_pure (ev_ci X.TEXT)) (wa_cons (we_meth0 (R := refTy p) m_plain hr j2 (⟨⟨p, octs, m⟩, u, r⟩ : iPlain) ⟨hsm, h3⟩ rfl rfl rfl (rq_meth (w := ⟨p, octs, m⟩) (by decide) (by decide)) (we_pure (ev_var 0 rfl))) wa_nil))) rfl)
  · obtain ⟨n, m', l, h3, h4, rfl⟩ := readList_is h2
    have hok : okVs l = true := hok
    obtain ⟨h5, h6⟩ := readNum_suff h3
    obtain ⟨h7, h8, h9⟩ := readMany_suff (readF_takes d) h4
    have hsm' : m' <:+ octs := h5.trans hsm
    refine wj_cons (wj_if (wt_pure (evt_eqI (ev_var 1 rfl) (ev_ci X.INTEGER))) (fun h => by have := of_decide_eq_true h; omega) fun _ => ?_)
    refine wj_nil (wj_cons (wj_if (wt_pure (evt_eqI (ev_var 1 rfl) (ev_ci X.TEXT))) (fun h => by have := of_decide_eq_true h; omega) fun _ => ?_))
    refine wj_nil (wj_cons (wj_if (wt_pure (evt_lt (ev_var 1 rfl) (ev_ci X.INTEGER))) (fun h => by have := of_decide_eq_true h; omega) fun _ => ?_))
    refine wj_nil (wj_cons (wj_if (wt_pure (evt_eqI (ev_var 1 rfl) (ev_ci X.OCTETS))) (fun h => by have := of_decide_eq_true h; omega) fun _ => ?_))
    refine wj_nil (wj_cons (wj_setN 3 (ds := []) (wn_pure (evn_lst (ds := []) eva_nil)) ?_ sc_value.nd))
    refine wj_cons (wj_forR 4 (n := n) (w1 := (⟨p, octs, m'⟩ : RqW)) PassesOwn.never rfl X.range ⟨by omega, by omega⟩ (we_number (w := ⟨p, octs, m⟩) m_number hr j1 (by decide) hsm h3 rfl (pv 0) ev_int (fun t ht => ev_var 0 ht)) sc_value.nd
      (fun j γ w' => ∃ rk x y z, w' = ⟨p, octs, rk⟩ ∧ rk <:+ octs ∧ RWire.readMany (RWire.readF d) (n - j) rk = some (l.drop j, r) ∧ γ = [.sh (refTy p), .sh (sh K (.int k.toNat)), x, .own ((l.take j).map valD), y, z]) ⟨m', .un, .un, .un, rfl, hsm', h4, rfl⟩ ?_ ?_)
    · rintro j _ _ hj ⟨rk, x, y, z, rfl, hrk, hmany, rfl⟩
      have hj : j < n := by omega
      rw [show n - j = n - (j + 1) + 1 by omega] at hmany
      obtain ⟨v1, l', r', hv1, hv2, hv3⟩ := readMany_next hmany
      obtain ⟨t1, t2⟩ := readF_takes d _ _ _ hv1
      have hlj : l[j]? = some v1 := by
        have := congrArg (fun q : List RWire.Value => q[0]?) hv3
        simpa using this
      have hl' : l' = l.drop (j + 1) := by
        have := congrArg (fun q : List RWire.Value => q.drop 1) hv3
        simpa [List.drop_drop, Nat.add_comm] using this.symm
      refine wj_last (wj_if (wt_pure (evt_eqI (ev_var 1 rfl) (ev_ci X.RECORD))) (fun h => by have := of_decide_eq_true h; omega) fun _ => ?_)
      refine wj_last (wj_append 3 (ds := (l.take j).map valD) (d := valD v1) (w1 := (⟨p, octs, r'⟩ : RqW)) rfl (we_meth0 (R := refTy p) m_rec hr (Nat.le_refl _) (⟨⟨p, octs, rk⟩, v1, r'⟩ : iVal) ⟨hrk, hol, okVs_mem hok v1 (List.mem_of_getElem? hlj), hv1⟩ rfl rfl rfl (rq_meth (w := ⟨p, octs, rk⟩) (by decide) (by decide)) (we_pure (ev_var 0 rfl))) ?_ ⟨r', x, .sh (sh K (.int j)), z, rfl, t1.trans hrk, by rw [← hl']; exact hv2, ?_⟩)
      · rw [List.length_map, List.length_take]
        exact small_of (m := 200000) (by omega) rfl
      · rw [take_snoc hlj, List.map_append]
        rfl
    · rintro _ _ ⟨rk, x, y, z, rfl, hrk, hmany, rfl⟩
      rw [show (n : Int).toNat = n by omega, Nat.sub_self] at hmany
      have hmany : some (([] : List RWire.Value), rk) = some (l.drop n, r) := hmany
      have er : rk = r := by
        have := Option.some.inj hmany
        exact congrArg Prod.snd this
      subst er
      have et : l.take (n : Int).toNat = l := by rw [show (n : Int).toNat = n by omega, ← h9, List.take_length]
      rw [et]
      show WJs _ _ _ _ _ _ _
      refine wj_share 3 rfl ?_
      exact wj_last (wj_ret (we_pure (Ev.cast (ev_tup (ds := [_, _]) (eva_cons (ev_var 1 rfl) (eva_cons (ev_tuple true X.tuple (ev_var 3 rfl)) eva_nil))) (by
        show PyData.tuple [.int k.toNat, .tuple (l.map valD)] = PyData.tuple [.int 7, .tuple (valDs l)]
        rw [h1, valDs_map]
        rfl))) rfl)
  · obtain ⟨n, m', l, h3, h4, rfl, hap⟩ := readRecord_is h2
    have hok : okFs l = true := hok
    obtain ⟨h5, h6⟩ := readNum_suff h3
    obtain ⟨h7, h8, h9⟩ := readMany_suff (entry_takes (readF_takes d)) h4
    have hsm' : m' <:+ octs := h5.trans hsm
    refine wj_cons (wj_if (wt_pure (evt_eqI (ev_var 1 rfl) (ev_ci X.INTEGER))) (fun h => by have := of_decide_eq_true h; omega) fun _ => ?_)
    refine wj_nil (wj_cons (wj_if (wt_pure (evt_eqI (ev_var 1 rfl) (ev_ci X.TEXT))) (fun h => by have := of_decide_eq_true h; omega) fun _ => ?_))
    refine wj_nil (wj_cons (wj_if (wt_pure (evt_lt (ev_var 1 rfl) (ev_ci X.INTEGER))) (fun h => by have := of_decide_eq_true h; omega) fun _ => ?_))
    refine wj_nil (wj_cons (wj_if (wt_pure (evt_eqI (ev_var 1 rfl) (ev_ci X.OCTETS))) (fun h => by have := of_decide_eq_true h; omega) fun _ => ?_))
    refine wj_nil (wj_cons (wj_setN 3 (ds := []) (wn_pure (evn_lst (ds := []) eva_nil)) ?_ sc_value.nd))
    refine wj_cons (wj_forR 4 (n := n) (w1 := (⟨p, octs, m'⟩ : RqW)) PassesOwn.never rfl X.range ⟨by omega, by omega⟩ (we_number (w := ⟨p, octs, m⟩) m_number hr j1 (by decide) hsm h3 rfl (pv 0) ev_int (fun t ht => ev_var 0 ht)) sc_value.nd
      (fun j γ w' => ∃ rk x y z, w' = ⟨p, octs, rk⟩ ∧ rk <:+ octs ∧ RWire.readMany (RWire.readEntry (RWire.readF d)) (n - j) rk = some (l.drop j, r) ∧ γ = [.sh (refTy p), .sh (sh K (.int k.toNat)), x, .own ((l.take j).map fun e => PyData.tuple [.tuple (octD e.1), valD e.2]), y, z]) ⟨m', .un, .un, .un, rfl, hsm', h4, rfl⟩ ?_ ?_)
    · rintro j _ _ hj ⟨rk, x, y, z, rfl, hrk, hmany, rfl⟩
      have hj : j < n := by omega
      rw [show n - j = n - (j + 1) + 1 by omega] at hmany
      obtain ⟨v1, l', r', hv1, hv2, hv3⟩ := readMany_next hmany
      obtain ⟨m2, hm2, hm3⟩ := readEntry_is hv1
      obtain ⟨s1, s2⟩ := readText_suff hm2
      obtain ⟨t1, t2⟩ := readF_takes d _ _ _ hm3
      have hlj : l[j]? = some v1 := by
        have := congrArg (fun q : List (RWire.Text × RWire.Value) => q[0]?) hv3
        simpa using this
      have hl' : l' = l.drop (j + 1) := by
        have := congrArg (fun q : List (RWire.Text × RWire.Value) => q.drop 1) hv3
        simpa [List.drop_drop, Nat.add_comm] using this.symm
      refine wj_last (wj_if (wt_pure (evt_eqI (ev_var 1 rfl) (ev_ci X.RECORD))) (fun _ => ?_) fun h => by have := of_decide_eq_false h; omega)
      refine wj_cons (wj_set 5 (P := sh K (.tuple (octD v1.1))) (w1 := (⟨p, octs, m2⟩ : RqW)) (we_meth0 (R := refTy p) m_plain hr j2 (⟨⟨p, octs, rk⟩, v1.1, m2⟩ : iPlain) ⟨hrk, hm2⟩ rfl rfl rfl (rq_meth (w := ⟨p, octs, rk⟩) (by decide) (by decide)) (we_pure (ev_var 0 rfl))) ?_ sc_value.nd)
      refine wj_last (wj_append 3 (ds := (l.take j).map fun e => PyData.tuple [.tuple (octD e.1), valD e.2]) (d := .tuple [.tuple (octD v1.1), valD v1.2]) (w1 := (⟨p, octs, r'⟩ : RqW)) rfl (we_tup (ds := [.tuple (octD v1.1), valD v1.2]) (wa_cons (we_pure (ev_var 5 rfl)) (wa_cons (we_meth0 (R := refTy p) m_rec hr (Nat.le_refl _) (⟨⟨p, octs, m2⟩, v1.2, r'⟩ : iVal) ⟨s1.trans hrk, hol, okFs_mem hok v1 (List.mem_of_getElem? hlj), hm3⟩ rfl rfl rfl (rq_meth (w := ⟨p, octs, m2⟩) (by decide) (by decide)) (we_pure (ev_var 0 rfl))) wa_nil))) ?_ ⟨r', x, .sh (sh K (.int j)), .sh (sh K (.tuple (octD v1.1))), rfl, t1.trans (s1.trans hrk), by rw [← hl']; exact hv2, ?_⟩)
      · rw [List.length_map, List.length_take]
        exact small_of (m := 200000) (by omega) rfl
      · rw [take_snoc hlj, List.map_append]
        rfl
    · rintro _ _ ⟨rk, x, y, z, rfl, hrk, hmany, rfl⟩
      rw [show (n : Int).toNat = n by omega, Nat.sub_self] at hmany
      have hmany : some (([] : List (RWire.Text × RWire.Value)), rk) = some (l.drop n, r) := hmany
      have er : rk = r := by
        have := Option.some.inj hmany
        exact congrArg Prod.snd this
      subst er
      have et : l.take (n : Int).toNat = l := by rw [show (n : Int).toNat = n by omega, ← h9, List.take_length]
      rw [et]
      show WJs _ _ _ _ _ _ _
      refine wj_share 3 rfl ?_
      exact wj_last (wj_ret (we_pure (Ev.cast (ev_tup (ds := [_, _]) (eva_cons (ev_var 1 rfl) (eva_cons (ev_tuple true X.tuple (ev_var 3 rfl)) eva_nil))) (by
        show PyData.tuple [.int k.toNat, .tuple (l.map fun e => PyData.tuple [.tuple (octD e.1), valD e.2])] = PyData.tuple [.int 8, .tuple (valFs l)]
        rw [h1, valFs_map]
        rfl))) rfl)
end
end Td
namespace Tw
open PySem PySem.Spec PyProof.Rows L2
section
variable {W : Wd} {w : W.Om} {T : List NTab} {F H : Hp} {S : Addr → Prop} {p : Addr} {o : HO}
theorem not_own (a : W.at_ w S F H) (h : H p = none) : ¬ S p := fun z => by
  obtain ⟨u, hu, _⟩ := W.chg a p z
  rw [h] at hu
  cases hu
theorem gw_raw (a : W.at_ w S F H) (e : Ex F (cut H S)) (h : H p = none) : Grow T F (cut H S) F (cut (upd H p o) S) := by
  have n := not_own a h
  rw [cut_upd_of n]
  exact Grow.raw e (by rw [cut_of n]; exact h)
theorem at_raw (a : W.at_ w S F H) (h : H p = none) : W.at_ w S F (upd H p o) := W.keep a (Ex.refl _) (W.none a) fun b hb => upd_ne (fun z => not_own a h (by rw [← z]; exact hb))
end
section
variable {X : Cx} {W : Wd} {w w1 : W.Om} {T : List NTab} {γ : Gm} {elt e : Expr} {scope : Scope} {pos p p1 p2 : Pos} {x : Str}
def tWlc (W : Wd) (T : List NTab) (K : Frag) (γ : Gm) (i n : Nat) (ws : Nat → W.Om) (g : Nat → PyData) : TE := fun σ H Q => ∃ k, k < n ∧ tWe W T ((wipeG γ [i]).set i (.sh (sh K (.int k)))) (ws k) (ws (k + 1)) (sh K (g k)) σ H Q
/-- [.. for x in range(e)], each of the items changes the world -/
theorem wn_lcR {own : List (Str × Nat)} {i n : Nat} (hc : X.calm = true) (hN : X.N.Nodup) (hm : X.mg "range" = none) (hn : n < 1000000) (he : We X W T γ w w1 e (sh X.K (.int n))) (hown : own.map (·.2) = [i]) (ok : BlkOk X.N X.env.scope scope own)
    (hG : ∀ (s : Shared) (H : Hp) (C : Addr) (cl : List (Str × Addr)) (fp : List Addr), PG (X.blk s H scope (compEnvC scope cl C X.env) fp) (.Name x p) (gName i)) (ws : Nat → W.Om) (g : Nat → PyData) (h0 : ws 0 = w1)
    (hel : ∀ k, k < n → ∀ (s : Shared) (H : Hp) (C : Addr) (cl : List (Str × Addr)) (fp : List Addr), We (X.blk s H scope (compEnvC scope cl C X.env) fp) W T ((wipeG γ [i]).set i (.sh (sh X.K (.int k)))) (ws k) (ws (k + 1)) elt (sh X.K (g k)))
    (hg : Gl X "range" := by rfl) (hst : starEach [e] X.env = [(false, eval e X.env)] := by rfl) (hst2 : starEach [e] X.env = (false, eval e X.env) :: starEach [] X.env := by rfl) (hfs : ∀ y, foldedSetIterable (.Call (.Name "range" p1) [e] [] p2) X.env y = pure y := by intro _; rfl) :
    WN X W T γ w (ws n) (.ListComp elt [⟨.Name x p, .Call (.Name "range" p1) [e] [] p2, [], 0⟩] scope pos) ((List.range n).map g) := by
  refine PE.imp (pe_lc hc hN (pi_range1 hg hm (pa_cons he pa_nil hst2) hst) ok hG (fun _ _ _ _ _ => pts_nil) (fun s H C cl fp => (⟨fun pins st σ H' Q I ⟨k, hk, q⟩ => (hel k hk s H C cl fp).run pins st σ H' Q I q⟩ : PE (X.blk s H scope (compEnvC scope cl C X.env) fp) elt (tWlc W T X.K γ i n ws g))) hfs) fun σ H Q ⟨F, S, s, a, q⟩ => ?_
  refine ⟨F, S, s, a, fun v F1 H1 S1 g1 a1 p1 => ⟨n, by rw [show v = V.int n from p1], by omega, by omega, fun D hD => ?_⟩⟩
  have s1 := s.grow g1
  have gd := gw_raw (T := T) (o := HO.lst []) a1 s1.ex hD
  have ad := at_raw (o := HO.lst []) a1 hD
  have nD := not_own a1 hD
  have fD : F1 D = none := s1.ex.free (by rw [cut_of nD]; exact hD)
  rw [hown]
  refine lc_range (lo := 0) (n := (n : Int).toNat) (g := gName i) (tt := tYes) (te := tWlc W T X.K γ i n ws g) (vs := [i]) (σ := σ) (Qd := Q (.ref D)) (fun k H' => ∃ F5 S5 xs, Grow T F1 (cut H1 S1) F5 (cut H' S5) ∧ W.at_ (ws k) S5 F5 H' ∧ F5 D = none ∧ cut H' S5 D = some (.lst xs) ∧ DqAll X.K F5 ((List.range k).map g) xs)
    ⟨F1, S1, [], gd, h0 ▸ ad, fD, by rw [cut_of nD]; exact upd_same, rfl⟩ (fun k H' hk ⟨F5, S5, xs, k1, k2, k3, k4, k5⟩ => ?_) fun H' ⟨F5, S5, xs, k1, k2, k3, k4, k5⟩ => ?_
  · have hk : k < n := by omega
    have s5 := s1.grow k1
    have e5 : Env ((wipeG γ [i]).set i (.sh (sh X.K (.int k)))) ((wipe σ [i]).set i (some (V.int (0 + k)))) F5 := (env_wipe s5.env [i]).set (P := sh X.K (.int k)) (show V.int (0 + k) = V.int k by rw [Int.zero_add])
    unfold gName tYes
    refine ⟨by rw [wipe_set1, wipe_wipe], ?_⟩
    simp only [↓reduceIte]
    refine ⟨k, hk, F5, S5, ⟨s5.ex, e5, s5.tab⟩, k2, fun y F6 H6 S6 g6 a6 p6 => ?_⟩
    have c6 : cut H6 S6 D = some (.lst xs) := g6.h D _ k4 (fun ps z => by cases z)
    obtain ⟨n6, h6⟩ := cut_at c6
    have f6 : F6 D = none := g6.own D k3 (by rw [k4]; simp)
    have len : xs.length = k := by rw [k5.length, List.length_map, List.length_range]
    refine ⟨xs, h6, by rw [len]; exact Nat.lt_of_lt_of_le (Nat.lt_trans hk hn) (by rw [sizeLine_eq]; decide), F6, S6, xs ++ [y], ?_, ?_, f6, ?_, ?_⟩
    · rw [cut_upd_of n6]
      exact (k1.trans g6).mut (by rw [cut_of nD]; exact hD) f6 c6 trivial
    · exact W.keep a6 (Ex.refl _) (W.none a6) fun b hb => upd_ne (fun z => n6 (by rw [← z]; exact hb))
    · rw [cut_upd_of n6]
      exact upd_same
    · rw [List.range_succ, List.map_append]
      exact (DqAll.mono g6.f _ _ k5).append (DqAll.one p6)
  · rw [show (n : Int).toNat = n by omega] at k2 k5
    exact q D xs F5 H' S5 (g1.trans k1) k2 (g1.free D (by rw [cut_of nD]; exact hD)) k3 k4 k5
end
end Tw
namespace Td
open PySem PySem.Spec PyProof.Rows L2 Tw
section
variable {P : Program} {w : World} {K : Frag} {mg : Str → Option Value} {base : Heap} {T : List NTab} {C CR : Addr}
def rqFs (K : Frag) (b : List UInt8) : Fds := [("octets", .ty (sh K (.list (octD b)))), ("at", .ty (sh K (.int 0)))]
def S_rinit (K : Frag) : List UInt8 → OPr := fun b => ⟨True, [], [sh K (.list (octD b))], rqFs K b, .none⟩
theorem sc_rinit : FnScope ["self", "octets"] ["self", "octets"] (defScope (s_R 0)) := ⟨rfl, rfl, rfl, by decide +kernel, rfl, by decide +kernel, by decide +kernel⟩
theorem ok_rinit {f : Addr} {fd : FuncData} (F : Fun K "__init__" "Request.__init__" (s_R 0) f fd) (t : TxtR K CR) : FnOk P w K mg base CX0 1 f fd ["self", "octets"] (spO T K CR (S_rinit K)) := by
  refine def_okO (CR := CR) F sc_rinit (fun _ => rfl) fun b _ p cdv A outer s H E hr => ?_
  refine oj_cons (oj_fldT (P := sh K (.list (octD b))) t.cl t.nO rfl (ev_var 1 rfl) ?_)
  exact oj_last (oj_fld (i := 0) (d := .int 0) t.cl t.nA rfl ev_int rfl ⟨rfl, rfl⟩)
theorem many_rests {α : Type} {f : List UInt8 → Option (α × List UInt8)} : ∀ (n : Nat) (r : List UInt8) (l : List α) (b : List UInt8), RWire.readMany f n r = some (l, b) → ∃ rk : Nat → List UInt8, rk 0 = r ∧ rk n = b ∧ ∀ k, k < n → ∃ x, l[k]? = some x ∧ f (rk k) = some (x, rk (k + 1))
  | 0, r, l, b, h => by
    cases h
    exact ⟨fun _ => r, rfl, rfl, fun k hk => absurd hk (Nat.not_lt_zero k)⟩
  | n + 1, r, l, b, h => by
    obtain ⟨x, l', r', h1, h2, h3⟩ := readMany_next h
    obtain ⟨rk, k1, k2, k3⟩ := many_rests n r' l' b h2
    refine ⟨fun k => match k with | 0 => r | k + 1 => rk k, rfl, k2, fun k hk => ?_⟩
    cases k with
    | zero => exact ⟨x, by rw [h3]; rfl, by show f r = some (x, rk 0); rw [k1]; exact h1⟩
    | succ k =>
      obtain ⟨y, y1, y2⟩ := k3 k (by omega)
      exact ⟨y, by rw [h3]; exact y1, y2⟩
structure iWhole where
  w : RqW
  door : Nat
  n : Nat
  r1 : List UInt8
  r2 : List UInt8
  l : List RWire.Value
def spWhole (K : Frag) (CR : Addr) (T : List NTab) : Sp := fun vs H Q E => ∃ (i : iWhole) (F : Hp) (S : Addr → Prop), (i.w.rest <:+ i.w.octs ∧ i.w.octs.length ≤ 100000 ∧ RWire.readNum 2 i.w.rest = some (i.door, i.r1) ∧ RWire.readNum 1 i.r1 = some (i.n, i.r2) ∧ RWire.readMany (RWire.readF 32) i.n i.r2 = some (i.l, []) ∧ okVs i.l = true) ∧
  rqAt K CR i.w S F H ∧ Ex F (cut H S) ∧ NdefX.TabsN T (cut H S) ∧ vs = [.ref i.w.p] ∧
  ∀ t a xs F2 H2 S2, Grow T F (cut H S) F2 (cut H2 S2) → rqAt K CR { i.w with rest := [] } S2 F2 H2 → cut H S t = none → cut H S a = none → F2 t = none → F2 a = none → cut H2 S2 t = some (.tup [.int i.door, .ref a]) → cut H2 S2 a = some (.lst xs) → DqAll K F2 (i.l.map valD) xs → Q (.ref t) H2
theorem sc_whole : FnScope ["self", "door", "turn"] ["self"] (defScope (s_R 4)) := ⟨rfl, rfl, rfl, by decide +kernel, rfl, by decide +kernel, by decide +kernel⟩
def nthD (l : List RWire.Value) (k : Nat) : PyData := match l[k]? with
  | some v => valD v
  | none => .none
theorem nthD_map (l : List RWire.Value) : (List.range l.length).map (nthD l) = l.map valD := by
  apply List.ext_getElem?
  intro k
  rw [List.getElem?_map, List.getElem?_map]
  by_cases h : k < l.length
  · rw [List.getElem?_range h, List.getElem?_eq_getElem h]
    show some (nthD l k) = some (valD l[k])
    unfold nthD
    rw [List.getElem?_eq_getElem h]
  · rw [List.getElem?_eq_none (by rw [List.length_range]; omega), List.getElem?_eq_none (by omega)]
    rfl
theorem ok_whole {f : Addr} {fd : FuncData} (F : Fun K "whole" "Request.whole" (s_R 4) f fd) (X : Txt K mg) (t : TxtR K CR) (m_number : Mt P w K mg base CX0 1 CR "number" ["self", "many"] (spW (rqWd K CR) T C (S_number K))) (m_value : Mt P w K mg base CX0 35 CR "value" ["self"] (spW (rqWd K CR) T C (S_value K 32))) : FnOk P w K mg base CX0 36 f fd ["self"] (spWhole K CR T) := by
  refine F.ok sc_whole (fun vs H Q E ⟨i, F, S, _, _, _, _, e, _⟩ => by rw [e]; rfl) fun cdv A outer s H vs Q E hr ⟨⟨⟨p, octs, rest⟩, door, n, r1, r2, l⟩, F1, S1, hp, a1, e1, t1, ev, hq⟩ => ?_
  obtain ⟨hso, hol, h1, h2, h3, hok⟩ : rest <:+ octs ∧ octs.length ≤ 100000 ∧ RWire.readNum 2 rest = some (door, r1) ∧ RWire.readNum 1 r1 = some (n, r2) ∧ RWire.readMany (RWire.readF 32) n r2 = some (l, []) ∧ okVs l = true := hp
  have ev : vs = [V.ref p] := ev
  subst ev
  obtain ⟨s1, l1⟩ := readNum_suff h1
  obtain ⟨s2, l2⟩ := readNum_suff h2
  obtain ⟨s3, l3, l4⟩ := readMany_suff (readF_takes 32) h3
  obtain ⟨rk, k1, k2, k3⟩ := many_rests n r2 l [] h3
  have hs1 : r1 <:+ octs := s1.trans hso
  have hle := hs1.length_le
  have hrk : ∀ k, k ≤ n → rk k <:+ octs := by
    intro k
    induction k with
    | zero => intro _; rw [k1]; exact s2.trans hs1
    | succ k ih =>
      intro hk
      obtain ⟨x, _, hx⟩ := k3 k (by omega)
      exact (readF_takes 32 _ _ _ hx).1.trans (ih (by omega))
  refine ⟨_, pss_cons (wj_set (W := rqWd K CR) (c := ⟨T, 0, E⟩) (γ := [.sh (refTy p), .un, .un]) (w := (⟨p, octs, rest⟩ : RqW)) (po := ⟨fun γ' w' => γ' = [.sh (refTy p), .sh (sh K (.int door)), .un] ∧ w' = (⟨p, octs, r1⟩ : RqW), fun _ _ => False, fun _ _ => False, noTy, fun _ => False, fun _ _ _ => False⟩) 1 (w1 := (⟨p, octs, r1⟩ : RqW))
    (we_number (w := ⟨p, octs, rest⟩) m_number hr (by decide) (by decide) hso h1 rfl (pv 0) ev_int (fun t ht => ev_var 0 ht)) ⟨rfl, rfl⟩ sc_whole.nd)
    (pss_one (ps_ret (pe_tup (pa_cons (ev_var (T := T) (γ := [.sh (refTy p), .sh (sh K (.int door)), .un]) (P := sh K (.int door)) 1 rfl) (pa_cons (wn_lcR (W := rqWd K CR) (T := T) (γ := [.sh (refTy p), .sh (sh K (.int door)), .un]) (own := [("turn", 2)]) (i := 2) (n := n) (w := (⟨p, octs, r1⟩ : RqW)) (w1 := (⟨p, octs, r2⟩ : RqW)) rfl sc_whole.nd X.range (by omega)
      (we_number (w := ⟨p, octs, r1⟩) m_number hr (by decide) (by decide) hs1 h2 rfl (pv 0) ev_int (fun t ht => ev_var 0 ht)) rfl (blkOk_by (N := ["self", "door", "turn"]) (sc := defScope (s_R 4)) (by decide +kernel)) (fun _ _ _ _ _ => pg_name sc_whole.nd rfl (.inl rfl)) (fun k => (⟨p, octs, rk k⟩ : RqW)) (nthD l) (by rw [k1]) ?_) pa_nil))))), ?_⟩
  · intro k hk s H C cl fp
    obtain ⟨v, hv, hx⟩ := k3 k hk
    have e : nthD l k = valD v := by
      unfold nthD
      rw [hv]
    rw [e]
    exact we_meth0 (R := refTy p) m_value hr (Nat.le_refl _) (⟨⟨p, octs, rk k⟩, v, rk (k + 1)⟩ : iVal) ⟨hrk k (by omega), hol, okVs_mem hok v (List.mem_of_getElem? hv), hx⟩ rfl rfl rfl (rq_meth (w := ⟨p, octs, rk k⟩) (by decide) (by decide)) (we_pure (ev_var 0 rfl))
  · refine ⟨F1, cut H S1, F1, S1, start_st (N := ["self", "door", "turn"]) (Ps := [refTy p]) e1 t1 ⟨_, _, rfl, rfl, rfl⟩ (by show 1 ≤ 3; decide), a1, ?_, fun _ _ _ _ _ _ z => z.elim, fun _ _ _ _ _ _ z => z.elim, fun _ _ _ _ _ z => z.elim, fun _ _ _ _ _ _ _ z => z.elim⟩
    rintro _ _ σ' F2 H2 S2 ⟨rfl, rfl⟩ s2' a2
    refine ⟨F2, st_whole s2'.s, fun v F3 H3 g3 p3 => ⟨F3, S2, s2'.s.grow (gw_of a2 g3), at_of a2 g3, fun a xs F4 H4 S4 g4 a4 q1 q2 q3 q4 => ?_⟩⟩
    have p3 : v = .int door := p3
    subst p3
    refine ⟨by show 2 ≤ sizeLine; rw [sizeLine_eq]; decide, fun tt htt => ?_⟩
    have nt := not_own a4 htt
    have s4 := (s2'.s.grow (gw_of a2 g3)).grow g4
    have g5 := gw_raw (T := T) (o := HO.tup [V.int door, V.ref a]) a4 s4.ex htt
    have a5 := at_raw (o := HO.tup [V.int door, V.ref a]) a4 htt
    have gall := ((s2'.g.trans (gw_of a2 g3)).trans g4).trans g5
    have hw : { (⟨p, octs, rest⟩ : RqW) with rest := [] } = (⟨p, octs, rk n⟩ : RqW) := by rw [k2]
    have na : a ≠ tt := fun z => by
      obtain ⟨_, z2⟩ := cut_at q3
      rw [z, htt] at z2
      cases z2
    refine hq tt a xs F4 _ S4 gall (hw ▸ a5) ?_ (s2'.g.free _ ((gw_of a2 g3).free _ q1)) (s4.ex.free (by rw [cut_of nt]; exact htt)) q2 (by rw [cut_of nt]; exact upd_same) ?_ ?_
    · exact s2'.g.free _ ((gw_of a2 g3).free _ (g4.free _ (by rw [cut_of nt]; exact htt)))
    · rw [cut_upd_of nt, upd_ne na]
      exact q3
    · rw [← nthD_map l, l4]
      exact q4
end
end Td
namespace Tw
open PySem PySem.Spec PyProof.Rows L2
section
variable {X : Cx} {W : Wd} {c : Cfg} {γ : Gm} {w : W.Om} {po : WPo W} {pos : Pos} {iter tg : Expr} {body : List Stmt} {ds : List PyData}
/-- for x in data -/
theorem wj_for (l : Bool) (i : Nat) (hp : PassesOwn (model X.prog X.w) X.A X.env X.xe) (hc : X.calm = true) (hi : Ev X c.T γ iter (sh X.K (seqD l ds))) (hG : PG X tg (gName i)) (Iv : Nat → Gm → W.Om → Prop) (h0 : Iv 0 γ w)
    (hs : ∀ (k : Nat) (d : PyData) (γ' : Gm) (w' : W.Om), ds[k]? = some d → Iv k γ' w' → WJs X W c (γ'.set i (.sh (sh X.K d))) w' body { po with nx := Iv (k + 1), ct := Iv (k + 1), bk := po.nx }) (hd : ∀ γ' w', Iv ds.length γ' w' → po.nx γ' w')
    (hf : ∀ x, foldedSetIterable iter X.env x = pure x := by intro _; rfl) : WJ X W c γ w (.For tg iter body [] pos) po := by
  refine PS.imp (ps_for hp hc (pi_seq (tg := tg) l hi) hG (wj_any (u := tWB X W c body) fun _ _ _ q => q) hf) fun D σ H ⟨F0, B, F, S, s, a, h1, h2, h3, h4, h5⟩ => ?_
  cases l with
  | true =>
    rw [if_pos rfl]
    refine ⟨F, st_whole s.s, fun v F1 H1 g1 p1 => ?_⟩
    obtain ⟨r, xs, rfl, k1, k2⟩ := p1
    obtain ⟨Hb, sb, conv, fr⟩ := (s.grow (gw_of a g1)).rebase
    refine ⟨r, rfl, ⟨xs, SqL.of (g1.ex.go k1)⟩, for_list (K := X.K) (a := r) (xs := xs) (fun k σ' H' => ∃ γ' w' F' S', Iv k γ' w' ∧ StS c.T X.K F1 Hb γ' σ' F' (cut H' S') ∧ W.at_ w' S' F' H') ⟨γ, w, F1, S, h0, sb, at_of a g1⟩ (fun k σ' H' _ ⟨γ', w', F', S', _, s', _⟩ => SqL.of ((st_whole s'.s).ex.go (s'.g.f.go k1))) (fun k x σ' H' hi' ⟨γ', w', F', S', hI, s', a'⟩ => ?_) fun σ' H' ⟨γ', w', F', S', hI, s', a'⟩ => h1 γ' w' σ' F' H' S' (hd γ' w' (by rw [← k2.length]; exact hI)) (s'.back conv fr) a'⟩
    obtain ⟨d, hd', hx⟩ := k2.get' hi'
    exact ⟨_, w', _, hs k d γ' w' hd' hI, F1, Hb, F', S', s'.set (P := sh X.K d) i (Dq.mono s'.g.f d x hx), a', fun γ'' w'' σ'' F'' H'' S'' hn s'' a'' => ⟨γ'', w'', F'', S'', hn, s'', a''⟩, fun γ'' w'' σ'' F'' H'' S'' hn s'' a'' => h1 _ _ _ _ _ _ hn (s''.back conv fr) a'', fun γ'' w'' σ'' F'' H'' S'' hn s'' a'' => ⟨γ'', w'', F'', S'', hn, s'', a''⟩,
      fun v w'' F'' H'' S'' hr g a'' p => h4 v w'' F'' H'' S'' hr (conv _ _ g) a'' p, fun o m w'' d F'' H'' S'' he g a'' h0 xd => h5 o m w'' d F'' H'' S'' he (conv _ _ g) a'' (fr d h0) xd⟩
  | false =>
    rw [if_neg Bool.false_ne_true]
    refine ⟨F, st_whole s.s, fun v F1 H1 g1 p1 => ?_⟩
    obtain ⟨r, xs, rfl, k1, k2⟩ := p1
    obtain ⟨Hb, sb, conv, fr⟩ := (s.grow (gw_of a g1)).rebase
    refine ⟨r, rfl, ⟨xs, g1.ex.tup k1⟩, for_tup (K := X.K) (a := r) (xs := xs) (fun k σ' H' => ∃ γ' w' F' S', Iv k γ' w' ∧ StS c.T X.K F1 Hb γ' σ' F' (cut H' S') ∧ W.at_ w' S' F' H') ⟨γ, w, F1, S, h0, sb, at_of a g1⟩ (fun k σ' H' _ ⟨γ', w', F', S', _, s', _⟩ => (st_whole s'.s).ex.tup (s'.g.f.tup k1)) (fun k x σ' H' hi' ⟨γ', w', F', S', hI, s', a'⟩ => ?_) fun σ' H' ⟨γ', w', F', S', hI, s', a'⟩ => h1 γ' w' σ' F' H' S' (hd γ' w' (by rw [← k2.length]; exact hI)) (s'.back conv fr) a'⟩
    obtain ⟨d, hd', hx⟩ := k2.get' hi'
    exact ⟨_, w', _, hs k d γ' w' hd' hI, F1, Hb, F', S', s'.set (P := sh X.K d) i (Dq.mono s'.g.f d x hx), a', fun γ'' w'' σ'' F'' H'' S'' hn s'' a'' => ⟨γ'', w'', F'', S'', hn, s'', a''⟩, fun γ'' w'' σ'' F'' H'' S'' hn s'' a'' => h1 _ _ _ _ _ _ hn (s''.back conv fr) a'', fun γ'' w'' σ'' F'' H'' S'' hn s'' a'' => ⟨γ'', w'', F'', S'', hn, s'', a''⟩,
      fun v w'' F'' H'' S'' hr g a'' p => h4 v w'' F'' H'' S'' hr (conv _ _ g) a'' p, fun o m w'' d F'' H'' S'' he g a'' h0 xd => h5 o m w'' d F'' H'' S'' he (conv _ _ g) a'' (fr d h0) xd⟩
end
theorem wn_sh {X : Cx} {W : Wd} {T : List NTab} {γ : Gm} {w w1 : W.Om} {e : Expr} {ds : List PyData} (h : WN X W T γ w w1 e ds) : We X W T γ w w1 e (sh X.K (.list ds)) :=
  PE.imp h fun σ H Q ⟨F, S, s, a, q⟩ => ⟨F, S, s, a, fun r xs F2 H2 S2 g a2 h1 h2 h3 h4 => by
    have g2 := g.freeze h1 h2 h3
    exact q _ _ H2 S2 g2 (W.keep a2 (Ex.new h2) (fun b hb => by
      rw [upd_ne (fun z => (cut_at h3).1 (by rw [← z]; exact hb))]
      exact W.none a2 b hb) fun _ _ => rfl) ⟨r, xs, rfl, upd_same, DqAll.mono (Ex.new h2) ds xs h4⟩⟩
theorem gw_drop {T : List NTab} {F H F2 H2 : Hp} {S : Addr → Prop} (g : Grow T F H F2 (cut H2 S)) : Grow T F H F2 H2 :=
  ⟨g.f, cut_ex g.ex, fun a o h n => (cut_at (g.h a o h n)).2, g.own, fun t => (g.tab t).ext fun b o q => (cut_at q).2, fun a q => g.free a (by
    by_cases h : S a
    · exact cut_in h
    · rw [cut_of h]
      exact q)⟩
theorem cut_none {H : Hp} {S : Addr → Prop} (h : ∀ a, ¬ S a) : cut H S = H := by
  funext b
  exact cut_of (h b)
section
variable {P : Program} {w : World} {K : Frag} {mg : Str → Option Value} {base : Heap} {W : Wd} {T : List NTab} {C : Addr} {ι : Type} {S : ι → Pr}
/-- a def that owns things while it runs -/
theorem def_okL {x qual : Str} {st : Stmt} {f : Addr} {fd : FuncData} {N ps : List Str} {k : Nat} (F : Fun K x qual st f fd) (Sc : FnScope N ps (defScope st)) (hlen : ∀ i, (S i).args.length = ps.length) (w0 : W.Om) (hw : ∀ F H, W.at_ w0 (fun _ => False) F H) (R : ι → Ty) (hR : ∀ i, (S i).out = .ok (R i))
    (body : ∀ (i : ι), (S i).pre → ∀ (cdv : Value) (A : Around) (outer : List PySem.Env) (s : Shared) (H : Hp) (E : XK), Room k (A.deeper (envOfC qual (defScope st) s.heap.objs.size f cdv)) →
      WJs (cxOf CX0 P w K mg base N qual (defScope st) f cdv A outer s H E).nox W ⟨T, C, E⟩ (startG (S i).args N.length) w0 (defBody st) ⟨fun _ _ => False, fun _ _ => False, fun _ _ => False, R i, fun _ => True, fun _ _ _ => False⟩) : FnOk P w K mg base CX0 (k + 1) f fd ps (spF T C S) := by
  refine F.ok Sc (fun vs H Q E ⟨i, F, _, _, _, h, _⟩ => by rw [h.length, hlen]) fun cdv A outer s H vs Q E hr ⟨i, F1, hp, e, t, h, hq⟩ => ⟨_, body i hp cdv A outer s H E hr, ?_⟩
  have hl : vs.length ≤ N.length := by
    rw [h.length, hlen, ← Sc.pre, List.length_take]
    omega
  rw [hR] at hq
  have c0 : cut H (fun _ => False) = H := cut_none fun _ z => z
  refine ⟨F1, H, F1, fun _ => False, by rw [c0]; exact start_st e t h hl, hw F1 H, fun _ _ _ _ _ _ z => z.elim, fun _ _ _ _ _ _ z => z.elim, fun _ _ _ _ _ _ z => z.elim, fun v w' F' H' S' _ g _ p => hq v F' H' (gw_drop g) p, fun _ _ _ _ _ _ _ z => z.elim⟩
end
end Tw
namespace Td
open PySem PySem.Spec PyProof.Rows L2 Tw
/-! ### a list of lists of octets, while it is filled -/
def intsV (l : List UInt8) : List V := l.map fun o => V.int (o.toNat : Int)
def plAt (w : Option (Addr × List (List UInt8))) (S : Addr → Prop) (F H : Hp) : Prop := match w with
  | none => ∀ a, ¬ S a
  | some (p, ls) => ∃ bs : List Addr, (∀ a, S a ↔ a = p ∨ a ∈ bs) ∧ (p :: bs).Nodup ∧ H p = some (.lst (bs.map V.ref)) ∧ bs.length = ls.length ∧ (∀ (i : Nat) (b : Addr) (l : List UInt8), bs[i]? = some b → ls[i]? = some l → H b = some (.lst (intsV l))) ∧ ∀ a, S a → F a = none
theorem pl_get {bs : List Addr} {ls : List (List UInt8)} (h : bs.length = ls.length) {b : Addr} (hb : b ∈ bs) : ∃ (i : Nat) (l : List UInt8), bs[i]? = some b ∧ ls[i]? = some l := by
  obtain ⟨i, hi⟩ := List.mem_iff_getElem?.mp hb
  have := (List.getElem?_eq_some_iff.mp hi).1
  exact ⟨i, ls[i], hi, List.getElem?_eq_getElem (by omega)⟩
def plWd : Wd where
  Om := Option (Addr × List (List UInt8))
  at_ := plAt
  own := fun {w S F H} h a ha => by
    cases w with
    | none => exact (h a ha).elim
    | some w =>
      obtain ⟨p, ls⟩ := w
      obtain ⟨bs, h1, h2, h3, h4, h5, h6⟩ := h
      refine ⟨h6 a ha, ?_⟩
      rcases (h1 a).mp ha with rfl | hb
      · exact ⟨_, h3, trivial⟩
      · obtain ⟨i, l, k1, k2⟩ := pl_get h4 hb
        exact ⟨_, h5 i a l k1 k2, trivial⟩
  keep := fun {w S F H F2 H2} h e n k => by
    cases w with
    | none => exact h
    | some w =>
      obtain ⟨p, ls⟩ := w
      obtain ⟨bs, h1, h2, h3, h4, h5, h6⟩ := h
      exact ⟨bs, h1, h2, by rw [k p ((h1 p).mpr (.inl rfl))]; exact h3, h4, fun i b l hb hl => by rw [k b ((h1 b).mpr (.inr (List.mem_of_getElem? hb)))]; exact h5 i b l hb hl, n⟩
theorem octs_dq {K : Frag} {F : Hp} : ∀ l : List UInt8, DqAll K F (octD l) (intsV l)
  | [] => rfl
  | o :: l => ⟨_, _, rfl, rfl, octs_dq l⟩
/-- the lists frozen -/
theorem pl_data {K : Frag} {p : Addr} {ls : List (List UInt8)} {S : Addr → Prop} {F H : Hp} (h : plAt (some (p, ls)) S F H) : Dq K (glue F H S) (.list (ls.map fun l => .list (octD l))) (.ref p) := by
  obtain ⟨bs, h1, h2, h3, h4, h5, h6⟩ := h
  refine ⟨p, _, rfl, by rw [glue_in ((h1 p).mpr (.inl rfl))]; exact h3, ?_⟩
  have key : ∀ (cs : List Addr) (ms : List (List UInt8)), cs.length = ms.length → (∀ b ∈ cs, S b) → (∀ (i : Nat) (b : Addr) (l : List UInt8), cs[i]? = some b → ms[i]? = some l → H b = some (.lst (intsV l))) → DqAll K (glue F H S) (ms.map fun l => .list (octD l)) (cs.map V.ref) := by
    intro cs
    induction cs with
    | nil =>
      intro ms e _ _
      cases ms with
      | nil => rfl
      | cons _ _ => simp at e
    | cons c cs ih =>
      intro ms e hS hv
      cases ms with
      | nil => simp at e
      | cons m ms =>
        exact ⟨_, _, rfl, ⟨c, _, rfl, by rw [glue_in (hS c List.mem_cons_self)]; exact hv 0 c m rfl rfl, octs_dq m⟩, ih ms (by simpa using e) (fun b hb => hS b (List.mem_cons_of_mem _ hb)) fun i b l hb hl => hv (i + 1) b l hb hl⟩
  exact key bs ls h4 (fun b hb => (h1 b).mpr (.inr hb)) h5
theorem pl_frz {K : Frag} {p : Addr} {ls : List (List UInt8)} {γ : Gm} {i : Nat} (hi : γ[i]? = some (.sh (refTy p))) : FrzG plWd (some (p, ls)) γ (γ.set i (.sh (sh K (.list (ls.map fun l => .list (octD l)))))) := fun S F H σ a h => by
  obtain ⟨u, hu, e⟩ := h.2 i _ hi
  have e : u = .ref p := e
  subst e
  have q := (h.mono (glue_ex (W := plWd) (w := some (p, ls)) a)).set (i := i) (P := sh K (.list (ls.map fun l => .list (octD l)))) (v := .ref p) (pl_data a)
  rwa [set_same hu] at q
/-- the last of the lists grows, or a new one comes -/
def grow1 (c : UInt8) (ls : List (List UInt8)) (o : UInt8) : List (List UInt8) := if o = c then ls ++ [[]] else ls.dropLast ++ [ls.getLastD [] ++ [o]]
section
variable {X : Cx} {c : Cfg} {γ : Gm} {po : WPo plWd} {pos p1 p2 p3 p4 p5 p6 p7 p8 : Pos} {x : Str} {e : Expr} {i : Nat} {p : Addr} {ls : List (List UInt8)}
/-- x = [[]] -/
theorem pl_new (hN : X.N.Nodup) (h : ∀ p, po.nx (γ.set i (.sh (refTy p))) (some (p, [[]]))) (hi : X.N[i]? = some x := by rfl) (hx : Loc X.env.scope x := by first | exact Or.inl rfl | exact Or.inr rfl) (hs : swapsWith (.List [.List [] p1] p2) (some (.Name x p3)) pos.line X.env = pure false := by rfl)
    (hf : X.fn x = true ∨ X.env.scope.names.lookup x = some .local := by first | exact .inl rfl | exact .inr rfl) (hst : starEach [.List [] p1] X.env = (false, eval (.List [] p1) X.env) :: starEach [] X.env := by rfl) : WJ X plWd c γ none (.Assign [.Name x p3] (.List [.List [] p1] p2) pos) po :=
  PS.imp (ps_set hN hi hx (pe_lst (pa_cons (pe_lst pa_nil) pa_nil hst)) hs hf) fun D σ H ⟨F0, B, F, S, s, a, h1, _⟩ => by
    have a : ∀ b, ¬ S b := a
    have c0 : cut H S = H := cut_none a
    rw [c0] at s
    refine ⟨Nat.zero_le _, fun b hb => ⟨by show 1 ≤ sizeLine; rw [sizeLine_eq]; decide, fun q hq => ?_⟩⟩
    have nqb : q ≠ b := fun z => by
      rw [z, upd_same] at hq
      cases hq
    have hq0 : H q = none := by rw [upd_ne nqb] at hq; exact hq
    have cc : cut (upd (upd H b (.lst [])) q (.lst [.ref b])) (fun z => z = q ∨ z ∈ [b]) = H := by
      funext z
      by_cases hz : z = q ∨ z ∈ [b]
      · rw [cut_in (S := fun z => z = q ∨ z ∈ [b]) hz]
        rcases hz with rfl | hz
        · exact hq0.symm
        · rw [List.mem_singleton.mp hz]
          exact hb.symm
      · rw [cut_of (S := fun z => z = q ∨ z ∈ [b]) hz, upd_ne (fun y => hz (.inl y)), upd_ne (fun y => hz (.inr (List.mem_singleton.mpr y)))]
    refine h1 _ _ _ F _ (fun z => z = q ∨ z ∈ [b]) (h q) ?_ ⟨[b], fun z => Iff.rfl, ?_, upd_same, rfl, fun j d l hd hl => ?_, fun z hz => ?_⟩
    · rw [cc]
      exact s.set (P := refTy q) i rfl
    · simp [nqb]
    · cases j with
      | zero =>
        cases hd
        cases hl
        rw [upd_ne (Ne.symm nqb)]
        exact upd_same
      | succ j => simp at hd
    · rcases hz with rfl | hz
      · exact s.s.ex.free hq0
      · rw [List.mem_singleton.mp hz]
        exact s.s.ex.free hb
/-- x.append([]) -/
theorem pl_more (hγ : γ[i]? = some (.sh (refTy p))) (hl : ls.length < 1000000) (h : po.nx γ (some (p, ls ++ [[]]))) (hv : PE X (.Name x p1) (tVar i)) (hst : starEach [.List [] p3] X.env = (false, eval (.List [] p3) X.env) :: starEach [] X.env := by rfl)
    (hbm : ∀ t, PA X [.List [] p3] t → PE X (.Call (.Attribute (.Name x p1) "append" p2) [.List [] p3] [] p4) (tBM X.K "list" rAppend (tVar i) t))
    (hS : swapsWith (.Call (.Attribute (.Name x p1) "append" p2) [.List [] p3] [] p4) none pos.line X.env = pure false := by rfl) : WJ X plWd c γ (some (p, ls)) (.Expr (.Call (.Attribute (.Name x p1) "append" p2) [.List [] p3] [] p4) pos) po :=
  PS.imp (ps_expr (hbm _ (pa_cons (pe_lst pa_nil) pa_nil hst)) hS) fun D σ H ⟨F0, B, F, S, s, a, h1, _⟩ => by
    obtain ⟨u, hu, e⟩ := s.s.env.2 i _ hγ
    have e : u = .ref p := e
    subst e
    obtain ⟨bs, k1, k2, k3, k4, k5, k6⟩ := a
    refine ⟨_, hu, .inl ⟨rfl, _, SqL.of k3⟩, Nat.zero_le _, fun b hb => ?_⟩
    have hSb : ¬ S b := fun z => by
      obtain ⟨w, hw, _⟩ := plWd.chg (w := some (p, ls)) (F := F) ⟨bs, k1, k2, k3, k4, k5, k6⟩ b z
      rw [hb] at hw
      cases hw
    have nbp : b ≠ p := fun z => by
      rw [z, k3] at hb
      cases hb
    refine ⟨p, _, .ref b, rfl, rfl, by rw [upd_ne (Ne.symm nbp)]; exact k3, by rw [List.length_map, k4]; exact Nat.lt_of_lt_of_le hl (by rw [sizeLine_eq]; decide), ?_⟩
    have cc : cut (upd (upd H b (.lst [])) p (.lst (bs.map V.ref ++ [V.ref b]))) (fun z => S z ∨ z = b) = cut H S := by
      funext z
      by_cases hz : S z
      · rw [cut_in (S := fun z => S z ∨ z = b) (.inl hz), cut_in hz]
      · by_cases hzb : z = b
        · rw [cut_in (S := fun z => S z ∨ z = b) (.inr hzb), cut_of hz, hzb]
          exact hb.symm
        · rw [cut_of (S := fun z => S z ∨ z = b) (fun y => y.elim hz hzb), cut_of hz, upd_ne (fun y => hz (by rw [y]; exact (k1 p).mpr (.inl rfl))), upd_ne hzb]
    refine h1 _ _ _ F _ (fun z => S z ∨ z = b) h (by rw [cc]; exact s) ⟨bs ++ [b], fun z => ?_, ?_, by rw [upd_same, List.map_append]; rfl, by rw [List.length_append, List.length_append, k4]; rfl, fun j d l hd hl => ?_, fun z hz => ?_⟩
    · show (S z ∨ z = b) ↔ _
      rw [k1 z]
      simp [or_assoc]
    · rw [← List.cons_append]
      refine List.nodup_append.mpr ⟨k2, by simp, fun x hx y hy => ?_⟩
      rw [List.mem_singleton.mp hy]
      rintro rfl
      exact hSb ((k1 x).mpr (by simpa using hx))
    · have npd : d ≠ p := fun z => by
        subst z
        rcases List.mem_append.mp (List.mem_of_getElem? hd) with y | y
        · exact (List.nodup_cons.mp k2).1 y
        · exact nbp (List.mem_singleton.mp y).symm
      rw [upd_ne npd]
      by_cases hj : j < bs.length
      · rw [List.getElem?_append_left hj] at hd
        rw [List.getElem?_append_left (by omega)] at hl
        have ndb : d ≠ b := fun z => hSb (by rw [← z]; exact (k1 d).mpr (.inr (List.mem_of_getElem? hd)))
        rw [upd_ne ndb]
        exact k5 j d l hd hl
      · rw [List.getElem?_append_right (by omega)] at hd hl
        have e1 : j - bs.length = 0 := by
          have := (List.getElem?_eq_some_iff.mp hd).1
          simp at this
          omega
        rw [e1] at hd
        rw [← k4, e1] at hl
        cases hd
        cases hl
        exact upd_same
    · rcases hz with hz | rfl
      · exact k6 z hz
      · exact s.s.ex.free (by rw [cut_of hSb]; exact hb)
theorem nd_inj {α : Type} : ∀ {l : List α}, l.Nodup → ∀ {i j : Nat} {x : α}, l[i]? = some x → l[j]? = some x → i = j
  | [], _, i, j, x, h, _ => by simp at h
  | a :: l, nd, i, j, x, hi, hj => by
    obtain ⟨n1, n2⟩ := List.nodup_cons.mp nd
    cases i with
    | zero =>
      cases j with
      | zero => rfl
      | succ j =>
        cases hi
        exact absurd (List.mem_of_getElem? (l := l) (i := j) hj) n1
    | succ i =>
      cases j with
      | zero =>
        cases hj
        exact absurd (List.mem_of_getElem? (l := l) (i := i) hi) n1
      | succ j => exact congrArg (· + 1) (nd_inj n2 (i := i) (j := j) hi hj)
theorem getLastD_get {α : Type} {l : List α} {d : α} (h : 0 < l.length) : l[l.length - 1]? = some (l.getLastD d) := by
  rw [List.getLastD_eq_getLast?, ← List.getLast?_eq_getElem?]
  cases e : l.getLast? with
  | none => rw [List.getLast?_eq_none_iff.mp e] at h; exact absurd h (Nat.lt_irrefl _)
  | some y => rfl
/-- x[len(x) - 1].append(e) -/
theorem pl_put {o : UInt8} (hγ : γ[i]? = some (.sh (refTy p))) (hl0 : 0 < ls.length) (hl : (ls.getLastD []).length < 1000000) (h : po.nx γ (some (p, ls.dropLast ++ [ls.getLastD [] ++ [o]]))) (he : Ev X c.T γ e (sh X.K (.int (o.toNat : Int))))
    (hv : PE X (.Name x p1) (tVar i)) (hln : X.mg "len" = none) (hg : Gl X "len") (hst : starEach [e] X.env = (false, eval e X.env) :: starEach [] X.env) (hst2 : starEach [.Name x p2] X.env = (false, eval (.Name x p2) X.env) :: starEach [] X.env) (hpl2 : (backTo p4 (starEach [] X.env)).any (·.1) = false) (hv2 : PE X (.Name x p2) (tVar i))
    {k1 : Nat} {q1 : Pos}
    (hbm : ∀ to t, PE X (.Subscript (.Name x p1) (.BinOp (.Call (.Name "len" p3) [.Name x p2] [] p4) .Sub (.Constant (.int 1) k1 q1) p5) p6) to → PA X [e] t → PE X (.Call (.Attribute (.Subscript (.Name x p1) (.BinOp (.Call (.Name "len" p3) [.Name x p2] [] p4) .Sub (.Constant (.int 1) k1 q1) p5) p6) "append" p7) [e] [] p8) (tBM X.K "list" rAppend to t))
    (hS : swapsWith (.Call (.Attribute (.Subscript (.Name x p1) (.BinOp (.Call (.Name "len" p3) [.Name x p2] [] p4) .Sub (.Constant (.int 1) k1 q1) p5) p6) "append" p7) [e] [] p8) none pos.line X.env = pure false) : WJ X plWd c γ (some (p, ls)) (.Expr (.Call (.Attribute (.Subscript (.Name x p1) (.BinOp (.Call (.Name "len" p3) [.Name x p2] [] p4) .Sub (.Constant (.int 1) k1 q1) p5) p6) "append" p7) [e] [] p8) pos) po :=
  PS.imp (ps_expr (hbm _ _ (pe_ix ix_list hv (pe_op op_sub (pe_callB call_len_seq hg hln PySem.boot_len (pa_cons hv2 pa_nil hst2) (by decide) (by decide) hst2 hpl2) pe_int) (fun _ _ => rfl)) (pa_cons he pa_nil hst)) hS) fun D σ H ⟨F0, B, F, S, s, a, h1, _⟩ => by
    obtain ⟨u, hu, eu⟩ := s.s.env.2 i _ hγ
    have eu : u = .ref p := eu
    subst eu
    obtain ⟨bs, k1, k2, k3, k4, k5, k6⟩ := id a
    have lb : 0 < bs.length := by omega
    have hb : bs[bs.length - 1]? = some bs[bs.length - 1] := List.getElem?_eq_getElem (by omega)
    generalize bs[bs.length - 1] = b at hb
    have mb := List.mem_of_getElem? hb
    have hlast : ls[bs.length - 1]? = some (ls.getLastD []) := by rw [k4]; exact getLastD_get hl0
    have hHb := k5 _ b _ hb hlast
    have nbp : b ≠ p := fun z => (List.nodup_cons.mp k2).1 (z ▸ mb)
    refine ⟨_, hu, _, hu, p, bs.map V.ref, rfl, .inl (SqL.of k3), (bs.map V.ref).length, 1, rfl, rfl, ?_⟩
    refine ⟨p, bs.map V.ref, _, .ref b, rfl, rfl, SqL.of k3, ?_, ?_⟩
    · have e1 : (((bs.map V.ref).length : Nat) : Int) - 1 = ((bs.length - 1 : Nat) : Int) := by
        rw [List.length_map]
        omega
      rw [e1]
      refine atI_nat ?_
      rw [List.getElem?_map, hb]
      rfl
    · refine ⟨.inl ⟨rfl, _, SqL.of hHb⟩, F, st_whole s.s, fun v F2 H2 g p2 => ?_⟩
      have p2 : v = .int (o.toNat : Int) := p2
      subst p2
      have s2 := s.grow (gw_of (W := plWd) (w := some (p, ls)) a g)
      obtain ⟨f2, e2⟩ := gw_own (W := plWd) (w := some (p, ls)) a g
      have hHb2 : H2 b = some (.lst (intsV (ls.getLastD []))) := by rw [e2 b ((k1 b).mpr (.inr mb))]; exact hHb
      refine ⟨b, _, _, rfl, rfl, hHb2, by unfold intsV; rw [List.length_map]; exact Nat.lt_of_lt_of_le hl (by rw [sizeLine_eq]; decide), ?_⟩
      refine h1 _ _ _ F2 _ S h (by rw [cut_upd_in ((k1 b).mpr (.inr mb))]; exact s2) ⟨bs, k1, k2, ?_, ?_, fun j d l hd hl2 => ?_, f2⟩
      · rw [upd_ne (Ne.symm nbp), e2 p ((k1 p).mpr (.inl rfl))]
        exact k3
      · rw [List.length_append, List.length_dropLast, k4, List.length_singleton]
        omega
      · by_cases hj : j = bs.length - 1
        · subst hj
          rw [hb] at hd
          cases hd
          rw [List.getElem?_append_right (by rw [List.length_dropLast]; omega), List.length_dropLast, k4, Nat.sub_self] at hl2
          cases hl2
          rw [upd_same]
          unfold intsV
          rw [List.map_append]
          rfl
        · have lj := (List.getElem?_eq_some_iff.mp hd).1
          rw [List.getElem?_append_left (by rw [List.length_dropLast]; omega), List.getElem?_dropLast, if_pos (by omega)] at hl2
          have ndb : d ≠ b := fun z => by
            subst z
            have nd := (List.nodup_cons.mp k2).2
            exact hj (nd_inj nd hd hb)
          rw [upd_ne ndb, e2 d ((k1 d).mpr (.inr (List.mem_of_getElem? hd)))]
          exact k5 j d l hd hl2
end
/-! ### split_at -/
def splitM (c : UInt8) : List UInt8 → List (List UInt8)
  | [] => [[]]
  | d :: r => if d == c then [] :: splitM c r else match splitM c r with
    | [] => [[d]]
    | u :: l => (d :: u) :: l
theorem split_ne (c : UInt8) : ∀ u, splitM c u ≠ []
  | [] => by simp [splitM]
  | d :: r => by
    rw [splitM]
    split
    · simp
    · split <;> simp
theorem split_snoc (c : UInt8) (o : UInt8) : ∀ u : List UInt8, splitM c (u ++ [o]) = grow1 c (splitM c u) o
  | [] => by
    show (if o == c then [] :: [[]] else [[o]]) = if o = c then [[]] ++ [[]] else [].append [[] ++ [o]]
    by_cases h : o = c
    · rw [if_pos (by simpa using h), if_pos h]; rfl
    · rw [if_neg (by simpa using h), if_neg h]; rfl
  | d :: r => by
    have ih := split_snoc c o r
    have ne := split_ne c r
    rw [List.cons_append, splitM, splitM, ih]
    cases e : splitM c r with
    | nil => exact absurd e ne
    | cons u l =>
      unfold grow1
      by_cases hd : (d == c) = true
      · rw [if_pos hd, if_pos hd]
        by_cases h : o = c
        · rw [if_pos h, if_pos h]; rfl
        · rw [if_neg h, if_neg h]
          cases l <;> rfl
      · rw [if_neg hd, if_neg hd]
        by_cases h : o = c
        · rw [if_pos h, if_pos h]; rfl
        · rw [if_neg h, if_neg h]
          cases l <;> rfl
theorem split_len (c : UInt8) : ∀ u : List UInt8, (splitM c u).length ≤ u.length + 1
  | [] => Nat.le_refl _
  | d :: r => by
    have ih := split_len c r
    rw [splitM, List.length_cons]
    split
    · rw [List.length_cons]; omega
    · cases e : splitM c r with
      | nil => exact absurd e (split_ne c r)
      | cons u l => rw [e] at ih; show (_ :: l).length ≤ _; rw [List.length_cons] at ih ⊢; omega
theorem split_mem (c : UInt8) : ∀ (u : List UInt8), ∀ x ∈ splitM c u, x.length ≤ u.length
  | [], x, h => by rw [splitM] at h; rw [List.mem_singleton.mp h]; exact Nat.le_refl _
  | d :: r, x, h => by
    have ih := split_mem c r
    rw [List.length_cons]
    rw [splitM] at h
    split at h
    · rcases List.mem_cons.mp h with rfl | h
      · exact Nat.zero_le _
      · have := ih x h; omega
    · cases e : splitM c r with
      | nil => exact absurd e (split_ne c r)
      | cons u l =>
        rw [e] at h ih
        rcases List.mem_cons.mp h with rfl | h
        · have := ih u List.mem_cons_self
          rw [List.length_cons]; omega
        · have := ih x (List.mem_cons_of_mem _ h); omega
def tupsL (ls : List (List UInt8)) : List PyData := ls.map fun l => PyData.tuple (octD l)
section
variable {P : Program} {w : World} {K : Frag} {mg : Str → Option Value} {base : Heap} {T : List NTab} {C : Addr}
abbrev s_split : Stmt := top 45
def S_split (K : Frag) : List UInt8 × UInt8 → Pr := fun i => ⟨i.1.length ≤ 100000, [sh K (.tuple (octD i.1)), sh K (.int (i.2.toNat : Int))], .ok (sh K (.list (tupsL (splitM i.2 i.1))))⟩
theorem sc_split : FnScope ["octets", "sign", "found", "own"] ["octets", "sign"] (defScope s_split) := ⟨rfl, rfl, rfl, by decide +kernel, rfl, by decide +kernel, by decide +kernel⟩
theorem u8_eq {a b : UInt8} : ((a.toNat : Int) = (b.toNat : Int)) ↔ a = b := by
  constructor
  · intro h
    exact UInt8.toNat_inj.mp (Int.ofNat.inj h)
  · rintro rfl
    rfl
theorem ok_split {f : Addr} {fd : FuncData} (F : Fun K "split_at" "split_at" s_split f fd) (X : Txt K mg) : FnOk P w K mg base CX0 1 f fd ["octets", "sign"] (spF T C (S_split K)) := by
  refine def_okL (W := plWd) F sc_split (fun _ => rfl) none (fun _ _ _ z => z) (fun i => sh K (.list (tupsL (splitM i.2 i.1)))) (fun _ => rfl) fun ⟨u, c⟩ hu cdv A outer s H E hr => ?_
  have hu : u.length ≤ 100000 := hu
  refine wj_cons (pl_new (i := 2) sc_split.nd (fun p => ?_))
  refine wj_cons (wj_for false 3 PassesOwn.never rfl (ds := octD u) (ev_var 0 rfl) (pg_name sc_split.nd rfl (.inl rfl)) (fun k γ w' => ∃ x, w' = some (p, splitM c (u.take k)) ∧ γ = [.sh (sh K (.tuple (octD u))), .sh (sh K (.int (c.toNat : Int))), .sh (refTy p), x]) ⟨.un, rfl, rfl⟩ ?_ ?_)
  · rintro k d _ _ hd ⟨x, rfl, rfl⟩
    obtain ⟨o, ho, rfl⟩ := map_get hd
    have hk := (List.getElem?_eq_some_iff.mp ho).1
    have e : splitM c (u.take (k + 1)) = grow1 c (splitM c (u.take k)) o := by rw [take_snoc ho, split_snoc]
    have l1 := split_len c (u.take k)
    have l2 := split_mem c (u.take k)
    have l3 : (u.take k).length ≤ 100000 := by rw [List.length_take]; omega
    have l0 : 0 < (splitM c (u.take k)).length := by
      cases q : splitM c (u.take k) with
      | nil => exact absurd q (split_ne _ _)
      | cons _ _ => simp
    have l4 : ((splitM c (u.take k)).getLastD []).length ≤ (u.take k).length := l2 _ (List.mem_of_getElem? (getLastD_get l0))
    rw [e]
    generalize splitM c (u.take k) = ls at l0 l1 l4 ⊢
    unfold grow1
    refine wj_last (wj_if (wt_pure (evt_eqI (ev_var 3 rfl) (ev_var 1 rfl))) (fun h => ?_) fun h => ?_)
    · have h := u8_eq.mp (of_decide_eq_true h)
      rw [if_pos h]
      exact wj_last (pl_more (i := 2) rfl (by omega) ⟨.sh (sh K (.int (o.toNat : Int))), rfl, rfl⟩ (pv _) rfl (fun t ha => pe_bm PySem.F.plainAttrs_list PySem.F.slot_list_append PySem.F.type_list_append mt_append (pv _) ha))
    · have h : ¬ o = c := fun z => of_decide_eq_false h (u8_eq.mpr z)
      rw [if_neg h]
      refine wj_last (pl_put (i := 2) (p := p) (ls := ls) (o := o) rfl l0 (by omega) ?_ (ev_var 3 rfl) (pv _) X.len (by rfl) (by rfl) (by rfl) (by rfl) (pv _) (fun to t hto ha => pe_bm PySem.F.plainAttrs_list PySem.F.slot_list_append PySem.F.type_list_append mt_append hto ha) (by rfl))
      exact ⟨.sh (sh K (.int (o.toNat : Int))), rfl, rfl⟩
  · rintro _ _ ⟨x, rfl, rfl⟩
    have e : u.take (octD u).length = u := by rw [octD_len, List.take_length]
    rw [e]
    have l1 := split_len c u
    have go : We (cxOf CX0 P w K mg base ["octets", "sign", "found", "own"] "split_at" (defScope s_split) f cdv A outer s H E).nox plWd T [.sh (sh K (.tuple (octD u))), .sh (sh K (.int (c.toNat : Int))), .sh (refTy p), x] (some (p, splitM c u)) (some (p, splitM c u))
        (match (defBody s_split).getD 2 (.Pass ⟨0, 0, 0, 0⟩) with | .Return (some e) _ => e | _ => .Constant .none 0 ⟨0, 0, 0, 0⟩) (sh K (.list (tupsL (splitM c u)))) := by
      refine wn_sh (wn_fr (pl_frz (i := 2) rfl) (EvN.cast (evn_lc (own := [("own", 3)]) (ds := (splitM c u).map fun l => .list (octD l)) (f := fun _ => true) (g := fun d => match d with
        | .list ds => .tuple ds
        | _ => .none) true rfl sc_split.nd (ev_var 2 rfl) (blkOk_by (N := ["octets", "sign", "found", "own"]) (sc := defScope s_split) (by decide +kernel)) (fun _ _ _ _ _ => pg_name sc_split.nd rfl (.inl rfl)) (tgt_name 3) (fun _ _ => trivial) ?_ ⟨fun d hd s H C cl fp => evts_nil, fun d hd _ s H C cl fp => ?_⟩) ?_) (noLs_all fun d hd => ?_))
      · rw [List.length_map]
        exact small_of (m := 200000) (by omega) rfl
      · obtain ⟨l, _, rfl⟩ := List.mem_map.mp hd
        exact ev_tuple true X.tuple (ev_var 3 rfl)
      · rw [filter_all, List.map_map]
        rfl
      · obtain ⟨l, _, rfl⟩ := List.mem_map.mp hd
        exact noLs_octD l
    exact wj_last (wj_ret go trivial)
end
end Td
namespace Td
open PySem PySem.Spec PyProof.Rows L2 Tw
/-! ### numbers in digits -/
def isDig (o : UInt8) : Bool := decide (48 ≤ o.toNat) && decide (o.toNat ≤ 57)
def numeralM (u : List UInt8) : Nat := u.foldl (fun n o => n * 10 + (o.toNat - 48)) 0
def numM (most : Nat) (u : List UInt8) : Option Nat := if 1 ≤ u.length ∧ u.length ≤ 7 ∧ u.all isDig = true ∧ numeralM u ≤ most then some (numeralM u) else none
def numI : Option Nat → Int
  | none => -1
  | some n => n
theorem oct_pl (l : List UInt8) : plD (.tuple (octD l)) = true := plDs_all fun d hd => by
  obtain ⟨o, _, rfl⟩ := List.mem_map.mp hd
  rfl
theorem oct_depth (l : List UInt8) : (PyData.tuple (octD l)).depth ≤ 1 := by
  rw [PyData.depth]
  have := depthAll_le (ds := octD l) (n := 0) fun d hd => by
    obtain ⟨o, _, rfl⟩ := List.mem_map.mp hd
    rw [PyData.depth]
    exact Nat.le_refl _
  omega
theorem octD_inj {a b : List UInt8} (h : octD a = octD b) : a = b := map_inj' (fun x y h => by
  injection h with h
  exact u8_eq.mp h) h
theorem oct_eqv (a b : List UInt8) : PyData.eqv (.tuple (octD a)) (.tuple (octD b)) = decide (a = b) := by
  rw [Bool.eq_iff_iff, eqv_pl _ _ (oct_pl a) (oct_pl b), decide_eq_true_iff]
  constructor
  · intro h
    injection h with h
    exact octD_inj h
  · rintro rfl
    rfl
theorem shaped_of {d : PyData} (h : plD d = true) (h2 : d.depth ≤ 64) : SeqAt.shaped d = true := by
  unfold SeqAt.shaped
  rw [canLay_pl d h, decide_eq_true h2]
  rfl
def headO : List UInt8 := [104, 101, 97, 100]
def tailO : List UInt8 := [116, 97, 105, 108]
def nO : List UInt8 := [45, 110]
theorem codes_head : codesS "head" = .tuple (octD headO) := by
  unfold codesS
  rw [show ("head" : Str).cps.toList = [104, 101, 97, 100] by decide +kernel]
  rfl
theorem codes_tail : codesS "tail" = .tuple (octD tailO) := by
  unfold codesS
  rw [show ("tail" : Str).cps.toList = [116, 97, 105, 108] by decide +kernel]
  rfl
theorem codes_n : codesS "-n" = .tuple (octD nO) := by
  unfold codesS
  rw [show ("-n" : Str).cps.toList = [45, 110] by decide +kernel]
  rfl
def wordsM (u : List UInt8) : List (List UInt8) := (splitM 32 u).filter fun w => !w.isEmpty
def headM (c : List UInt8) : Option TStep := match c with
  | [] => none
  | x :: r => if x = 45 then (numM 1000000 r).map fun n => ⟨.chop, n⟩ else (numM 1000000 c).map fun n => ⟨.head, n⟩
def tailM (c : List UInt8) : Option TStep := match c with
  | [] => none
  | x :: r => if x = 43 then (numM 1000001 r).map fun n => ⟨.skip, n - 1⟩ else (numM 1000000 c).map fun n => ⟨.tail, n⟩
def commandM (l : List (List UInt8)) : Option TStep := match l with
  | [a, b, c] => if b = nO then (if a = headO then headM c else if a = tailO then tailM c else none) else none
  | _ => none
def stepO : Option TStep → PyData
  | none => .none
  | some s => stepD s
section
variable {P : Program} {w : World} {K : Frag} {mg : Str → Option Value} {base : Heap} {T : List NTab} {C : Addr}
abbrev s_numin : Stmt := top 46
def S_numin (K : Frag) : List UInt8 × Nat → Pr := fun i => ⟨i.1.length ≤ 100000, [sh K (.tuple (octD i.1)), sh K (.int i.2)], .ok (sh K (.int (numI (numM i.2 i.1))))⟩
theorem sc_numin : FnScope ["octets", "most", "own", "found"] ["octets", "most"] (defScope s_numin) := ⟨rfl, rfl, rfl, by decide +kernel, rfl, by decide +kernel, by decide +kernel⟩
theorem numeral_snoc (a : List UInt8) (o : UInt8) : numeralM (a ++ [o]) = numeralM a * 10 + (o.toNat - 48) := by
  unfold numeralM
  rw [List.foldl_append]
  rfl
theorem ok_numin {f : Addr} {fd : FuncData} (F : Fun K "number_in" "number_in" s_numin f fd) (X : Txt K mg) : FnOk P w K mg base CX0 1 f fd ["octets", "most"] (spF T C (S_numin K)) := by
  refine def_ok F sc_numin (fun _ => rfl) fun ⟨u, m⟩ hu cdv A outer s H E hr => ?_
  have hu : u.length ≤ 100000 := hu
  refine sj_cons (sj_if (EvW.t (evw_or (evt_not (evt_chain_le ev_int (ev_len false (ds := octD u) X.len (ev_var 0 rfl)) (ev_ci X.MOST_DIGITS))) (fun _ => evw_or1 (evt_not (evt_val (ev_all (bs := u.map isDig) rfl X.all (Ev.cast (EvN.sh (evn_lc (own := [("own", 2)]) (ds := octD u) (f := fun _ => true) (g := fun d => match d with
    | .int i => .bool (decide (48 ≤ i) && decide (i ≤ 57))
    | _ => .none) false rfl sc_numin.nd (ev_var 0 rfl) (blkOk_by (N := ["octets", "most", "own", "found"]) (sc := defScope s_numin) (by decide +kernel)) (fun _ _ _ _ _ => pg_name sc_numin.nd rfl (.inl rfl)) (tgt_name 2) (fun _ _ => trivial) ?_ ⟨fun d hd s H C cl fp => evts_nil, fun d hd _ s H C cl fp => ?_⟩)) ?_))))))) (fun h => ?_) fun h => ?_)
  · rw [octD_len]
    exact small_of (m := 200000) (by omega) rfl
  · obtain ⟨o, _, rfl⟩ := List.mem_map.mp hd
    exact ev_chain_le ev_int (ev_var 2 rfl) ev_int
  · rw [filter_all, octD, List.map_map, List.map_map]
    refine congrArg PyData.list (List.map_congr_left fun o _ => ?_)
    show PyData.bool (decide ((48 : Int) ≤ (o.toNat : Int)) && decide ((o.toNat : Int) ≤ 57)) = PyData.bool (decide (48 ≤ o.toNat) && decide (o.toNat ≤ 57))
    congr 2 <;> exact decide_eq_decide.mpr (by omega)
  · refine sj_last (sj_ret' (d := .int (-1)) (ev_neg ev_int) ?_)
    show sh K (.int (numI (numM m u))) = _
    unfold numM
    rw [if_neg]
    · rfl
    · rintro ⟨h1, h2, h3, _⟩
      rw [octD_len] at h
      have e : (u.map isDig).all id = true := by rw [List.all_map]; exact h3
      rw [e, decide_eq_true (by omega : (1 : Int) ≤ (u.length : Int)), decide_eq_true (by omega : (u.length : Int) ≤ 7)] at h
      cases h
  · rw [octD_len, Bool.or_eq_false_iff, Bool.not_eq_false', Bool.not_eq_false', Bool.and_eq_true, decide_eq_true_iff, decide_eq_true_iff, List.all_map] at h
    obtain ⟨⟨h1, h2⟩, h3⟩ := h
    have h3 : u.all isDig = true := h3
    refine sj_nil (sj_cons (sj_set 3 ev_int ?_ sc_numin.nd))
    refine sj_cons (sj_for false PassesOwn.never rfl (ds := octD u) (ev_var 0 rfl) (pg_name sc_numin.nd rfl (.inl rfl)) (tgt_name 2) (fun _ _ => trivial)
      (fun k γ => ∃ x, γ = [.sh (sh K (.tuple (octD u))), .sh (sh K (.int m)), x, .sh (sh K (.int (numeralM (u.take k))))]) ⟨_, rfl⟩ ?_ ?_)
    · rintro k d _ hd ⟨x, rfl⟩
      obtain ⟨o, ho, rfl⟩ := map_get hd
      have ho2 := List.all_eq_true.mp h3 o (List.mem_of_getElem? ho)
      unfold isDig at ho2
      rw [Bool.and_eq_true, decide_eq_true_iff, decide_eq_true_iff] at ho2
      refine sj_last (sj_set 3 (P := sh K (.int (numeralM (u.take (k + 1))))) (Ev.cast (ev_sub (ev_add (ev_mul (.inl ⟨by decide, by decide⟩) ev_int (ev_var 3 rfl)) (ev_var 2 rfl)) ev_int) (congrArg PyData.int ?_)) ⟨_, rfl⟩ sc_numin.nd)
      rw [take_snoc ho, numeral_snoc]
      omega
    · rintro _ ⟨x, rfl⟩
      rw [octD_len, List.take_length]
      refine sj_last (sj_ret (ev_if (evt_le (ev_var 3 rfl) (ev_var 1 rfl)) (fun h => ?_) fun h => ?_))
      · have h := of_decide_eq_true h
        refine Ev.cast (ev_var 3 rfl) (congrArg PyData.int ?_)
        show _ = numI (numM m u)
        unfold numM
        rw [if_pos ⟨by omega, by omega, h3, by omega⟩]
        rfl
      · have h := of_decide_eq_false h
        refine Ev.cast (ev_neg ev_int) (congrArg PyData.int ?_)
        show _ = numI (numM m u)
        unfold numM
        rw [if_neg (fun z => by omega)]
        rfl
abbrev s_stepin : Stmt := top 47
def S_stepin (K : Frag) : List UInt8 → Pr := fun u => ⟨u.length ≤ 100000, [sh K (.tuple (octD u))], .ok (sh K (stepO (commandM (wordsM u))))⟩
theorem sc_stepin : FnScope ["octets", "words", "is_head", "sign", "own", "number", "word"] ["octets"] (defScope s_stepin) := ⟨rfl, rfl, rfl, by decide +kernel, rfl, by decide +kernel, by decide +kernel⟩
theorem words_mem {u x : List UInt8} (h : x ∈ wordsM u) : x.length ≤ u.length ∧ x ≠ [] := by
  unfold wordsM at h
  obtain ⟨h1, h2⟩ := List.mem_filter.mp h
  refine ⟨split_mem 32 u x h1, ?_⟩
  rintro rfl
  cases h2
theorem numI_lt {o : Option Nat} : (numI o < 0) ↔ o = none := by
  cases o with
  | none => exact ⟨fun _ => rfl, fun _ => by decide⟩
  | some n => exact ⟨fun h => absurd h (by show ¬ ((n : Int) < 0); omega), fun h => by cases h⟩
theorem ok_stepin {f : Addr} {fd : FuncData} (F : Fun K "step_in" "step_in" s_stepin f fd) (X : Txt K mg) (f_split : Fn P w K mg base CX0 1 "split_at" ["octets", "sign"] (spF T C (S_split K))) (f_codes : Fn P w K mg base CX0 1 "codes_of" ["text"] (spF T C (S_codes K))) (f_num : Fn P w K mg base CX0 1 "number_in" ["octets", "most"] (spF T C (S_numin K))) : FnOk P w K mg base CX0 2 f fd ["octets"] (spF T C (S_stepin K)) := by
  refine def_ok F sc_stepin (fun _ => rfl) fun u hu cdv A outer s H E hr => ?_
  have hu : u.length ≤ 100000 := hu
  have l1 := split_len 32 u
  have ew : ((tupsL (splitM 32 u)).filter (fun d => match d with
    | .tuple ds => decide (0 < (ds.length : Int))
    | _ => false)).map (fun d => d) = tupsL (wordsM u) := by
    rw [List.map_id']
    unfold wordsM tupsL
    rw [List.filter_map]
    refine congrArg (List.map _) (List.filter_congr fun l _ => ?_)
    show decide (0 < ((octD l).length : Int)) = !l.isEmpty
    rw [octD_len]
    cases l with
    | nil => rfl
    | cons x l => exact decide_eq_true (by rw [List.length_cons]; omega)
  refine sj_cons (sj_setLc 1 (own := [("word", 6)]) (ds := tupsL (splitM 32 u)) (f := fun d => match d with
    | .tuple ds => decide (0 < (ds.length : Int))
    | _ => false) (g := fun d => d) true rfl sc_stepin.nd (ev_call f_split hr (by decide) (u, 32) hu rfl (eva_cons (ev_var 0 rfl) (eva_cons (ev_ci X.SPACE) eva_nil))) (blkOk_by (N := ["octets", "words", "is_head", "sign", "own", "number", "word"]) (sc := defScope s_stepin) (by decide +kernel)) (fun _ _ _ _ _ => pg_name sc_stepin.nd rfl (.inl rfl)) (tgt_name 6) (fun _ _ => trivial) ?_ ⟨fun d hd s H C cl fp => ?_, fun d hd _ s H C cl fp => ?_⟩ ?_)
  · rw [tupsL, List.length_map]
    exact small_of (m := 200000) (by omega) rfl
  · obtain ⟨l, _, rfl⟩ := List.mem_map.mp hd
    exact evts_one (evt_gt (ev_len false (ds := octD l) X.len (ev_var 6 rfl)) ev_int)
  · obtain ⟨l, _, rfl⟩ := List.mem_map.mp hd
    exact ev_var 6 rfl
  · have hw : ∀ x ∈ wordsM u, x.length ≤ 100000 ∧ x ≠ [] := fun x hx => ⟨Nat.le_trans (words_mem hx).1 hu, (words_mem hx).2⟩
    have hlen : (wordsM u).length ≤ 100001 := Nat.le_trans (List.length_filter_le _ _) (by omega)
    rw [ew]
    show SJs _ _ [.sh (sh K (.tuple (octD u))), .sh (sh K (.list (tupsL (wordsM u)))), .un, .un, .un, .un, .un] _ (poOf (.ok (sh K (stepO (commandM (wordsM u))))))
    generalize wordsM u = ws at hw hlen ⊢
    by_cases h3 : ws.length = 3
    · obtain ⟨a, b, c, rfl⟩ : ∃ a b c, ws = [a, b, c] := by
        match ws, h3 with
        | [a, b, c], _ => exact ⟨a, b, c, rfl⟩
      obtain ⟨hc1, hc2⟩ := hw c (by simp)
      have small4 : ∀ x : Str, x = "head" ∨ x = "tail" ∨ x = "-n" → x.cps.toList.length < sizeLine := by
        rintro x (rfl | rfl | rfl) <;> exact Nat.lt_of_le_of_lt (by decide +kernel : _ ≤ 4) (by rw [sizeLine_eq]; decide)
      refine sj_cons (sj_if (EvW.t (evw_or (k := false) (EvT.cast (evt_neI (ev_len true (ds := tupsL [a, b, c]) X.len (ev_var 1 rfl)) ev_int) rfl) (fun _ => evw_or (evt_notInT (d := .tuple (octD a)) (ds := [.tuple (octD headO), .tuple (octD tailO)]) (u65 hr) (shaped_of (oct_pl a) (Nat.le_trans (oct_depth a) (by decide))) (shaped_of (by decide +kernel) (by decide +kernel)) (ev_ixL (ds := tupsL [a, b, c]) (ev_var 1 rfl) ev_int)
        (ev_tup (ds := [.tuple (octD headO), .tuple (octD tailO)]) (eva_cons (Ev.cast (ev_call f_codes hr (by decide) "head" (small4 _ (.inl rfl)) rfl (eva_cons (ev_cs X.HEAD) eva_nil)) codes_head) (eva_cons (Ev.cast (ev_call f_codes hr (by decide) "tail" (small4 _ (.inr (.inl rfl))) rfl (eva_cons (ev_cs X.TAIL) eva_nil)) codes_tail) eva_nil))))
        (fun _ => evw_or1 (evt_neF (u64 hr) (oct_pl b) (oct_pl nO) (Nat.le_trans (Nat.min_le_left _ _) (Nat.le_trans (oct_depth b) (by decide))) (ev_ixL (ds := tupsL [a, b, c]) (ev_var 1 rfl) ev_int) (Ev.cast (ev_call f_codes hr (by decide) "-n" (small4 _ (.inr (.inr rfl))) rfl (eva_cons ev_str eva_nil)) codes_n)))))) (fun h => ?_) fun h => ?_)
      · simp only [List.any_cons, List.any_nil, oct_eqv] at h
        refine sj_last (sj_ret' (d := .none) ev_non ?_)
        show sh K (stepO (commandM [a, b, c])) = _
        have : commandM [a, b, c] = none := by
          show (if b = nO then (if a = headO then headM c else if a = tailO then tailM c else none) else none) = none
          by_cases hb : b = nO
          · rw [if_pos hb]
            by_cases ha : a = headO
            · exfalso; simp [ha, hb] at h
            · by_cases ha2 : a = tailO
              · exfalso; simp [ha2, hb] at h
              · rw [if_neg ha, if_neg ha2]
          · rw [if_neg hb]
        rw [this]
        rfl
      · simp only [List.any_cons, List.any_nil, oct_eqv] at h
        have hb : b = nO := by
          by_cases hb : b = nO
          · exact hb
          · exfalso; simp [hb] at h
        have ha : a = headO ∨ a = tailO := by
          by_cases ha : a = headO
          · exact .inl ha
          · by_cases ha2 : a = tailO
            · exact .inr ha2
            · exfalso
              have n1 : ¬ headO = a := fun z => ha z.symm
              have n2 : ¬ tailO = a := fun z => ha2 z.symm
              simp [n1, n2] at h
        have hcmd : commandM [a, b, c] = if decide (a = headO) = true then headM c else tailM c := by
          show (if b = nO then (if a = headO then headM c else if a = tailO then tailM c else none) else none) = _
          rw [if_pos hb]
          by_cases h1 : a = headO
          · rw [if_pos h1, if_pos (decide_eq_true h1)]
          · rcases ha with h2 | h2
            · exact absurd h2 h1
            · rw [if_neg h1, if_pos h2, if_neg (show ¬ decide (a = headO) = true by simpa using h1)]
        rw [hcmd]
        refine sj_nil (sj_cons (sj_set 2 (P := sh K (.bool (decide (a = headO)))) (Ev.cast (ev_eqF (u64 hr) (oct_pl a) (oct_pl headO) (Nat.le_trans (Nat.min_le_left _ _) (Nat.le_trans (oct_depth a) (by decide))) (ev_ixL (ds := tupsL [a, b, c]) (ev_var 1 rfl) ev_int) (Ev.cast (ev_call f_codes hr (by decide) "head" (small4 _ (.inl rfl)) rfl (eva_cons (ev_cs X.HEAD) eva_nil)) codes_head)) (congrArg PyData.bool (oct_eqv _ _))) ?_ sc_stepin.nd))
        generalize decide (a = headO) = ih
        refine sj_cons (sj_set 3 (P := sh K (.int (if ih then 45 else 43))) (ev_if (evt_val (ev_var 2 rfl)) (fun h => ?_) fun h => ?_) ?_ sc_stepin.nd)
        · subst h; exact ev_int
        · subst h; exact ev_int
        refine sj_cons (sj_set 4 (P := sh K (.tuple (octD c))) (ev_ixL (ds := tupsL [a, b, c]) (ev_var 1 rfl) ev_int) ?_ sc_stepin.nd)
        cases c with
        | nil => exact absurd rfl hc2
        | cons x r =>
          have hr1 : r.length ≤ 100000 := by rw [List.length_cons] at hc1; omega
          refine sj_cons (sj_if (evt_eqI (ev_ixT (ds := octD (x :: r)) (d := .int (x.toNat : Int)) (ev_var 4 rfl) ev_int (atI_nat (xs := octD (x :: r)) (j := 0) rfl)) (ev_var 3 rfl)) (fun h => ?_) fun h => ?_)
          · have h := of_decide_eq_true h
            have cutr : Tw.cutD (octD (x :: r)) (some 1) none = octD r := by
              unfold Tw.cutD
              have e1 : HT.sIx (octD (x :: r)).length 0 (some 1) = 1 := by
                show HT.sIx (octD (x :: r)).length 0 (some ((1 : Nat) : Int)) = 1
                rw [HT.sIx_nat, octD_len, List.length_cons]
                omega
              rw [e1, HT.sIx_none]
              show (octD r).take ((octD r).length + 1 - 1) = octD r
              rw [Nat.add_sub_cancel, List.take_length]
            refine sj_cons (sj_set 5 (P := sh K (.int (numI (numM (1000000 + if ih then 0 else 1) r)))) (ev_call f_num hr (by decide) (r, 1000000 + if ih then 0 else 1) hr1 rfl (eva_cons (Ev.cast (ev_sliceT (ds := octD (x :: r)) (ev_var 4 rfl) (evo_some ev_int) evo_none) (congrArg PyData.tuple cutr)) (eva_cons (Ev.cast (ev_add (ev_ci X.MOST_COUNT_texts) (ev_if (P := sh K (.int (if ih then 0 else 1))) (evt_val (ev_var 2 rfl)) (fun h => ?_) fun h => ?_)) (congrArg PyData.int ?_)) eva_nil))) ?_ sc_stepin.nd)
            · subst h; exact ev_int
            · subst h; exact ev_int
            · cases ih <;> rfl
            cases hn : numM (1000000 + if ih then 0 else 1) r with
            | none =>
              refine sj_cons (sj_if (evt_lt (ev_var 5 rfl) ev_int) (fun _ => ?_) fun h => absurd h (by decide))
              refine sj_last (sj_ret' (d := .none) ev_non ?_)
              cases ih with
              | true =>
                have hx : x = 45 := u8_eq.mp h
                have e : headM (x :: r) = none := by
                  show (if x = 45 then (numM 1000000 r).map _ else _) = none
                  rw [if_pos hx, show numM 1000000 r = none from hn]
                  rfl
                show sh K (stepO (headM (x :: r))) = _
                rw [e]
                rfl
              | false =>
                have hx : x = 43 := u8_eq.mp h
                have e : tailM (x :: r) = none := by
                  show (if x = 43 then (numM 1000001 r).map _ else _) = none
                  rw [if_pos hx, show numM 1000001 r = none from hn]
                  rfl
                show sh K (stepO (tailM (x :: r))) = _
                rw [e]
                rfl
            | some n =>
              refine sj_cons (sj_if (evt_lt (ev_var 5 rfl) ev_int) (fun h => by have := of_decide_eq_true (show decide ((n : Int) < 0) = true from h); omega) fun _ => ?_)
              refine sj_nil (sj_last (sj_ret (ev_if (evt_val (ev_var 2 rfl)) (fun hi => ?_) fun hi => ?_)))
              · subst hi
                have hx : x = 45 := u8_eq.mp h
                have e : headM (x :: r) = some ⟨.chop, n⟩ := by
                  show (if x = 45 then (numM 1000000 r).map _ else _) = _
                  rw [if_pos hx, show numM 1000000 r = some n from hn]
                  rfl
                refine Ev.cast (ev_tup (ds := [.str "chop", .int n]) (eva_cons (ev_cs X.CHOP) (eva_cons (ev_var 5 rfl) eva_nil))) ?_
                show _ = stepO (headM (x :: r))
                rw [e]
                rfl
              · subst hi
                have hx : x = 43 := u8_eq.mp h
                have e : tailM (x :: r) = some ⟨.skip, n - 1⟩ := by
                  show (if x = 43 then (numM 1000001 r).map _ else _) = _
                  rw [if_pos hx, show numM 1000001 r = some n from hn]
                  rfl
                refine Ev.cast (ev_tup (ds := [.str "skip", .int (n - 1 : Nat)]) (eva_cons (ev_cs X.SKIP) (eva_cons (Ev.cast (ev_max rfl X.max ev_int (ev_sub (ev_var (P := sh K (.int n)) 5 rfl) ev_int)) (congrArg PyData.int (by omega))) eva_nil))) ?_
                show _ = stepO (tailM (x :: r))
                rw [e]
                rfl
          · have h := of_decide_eq_false h
            refine sj_nil (sj_cons (sj_set 5 (P := sh K (.int (numI (numM 1000000 (x :: r))))) (ev_call f_num hr (by decide) (x :: r, 1000000) hc1 rfl (eva_cons (ev_var 4 rfl) (eva_cons (ev_ci X.MOST_COUNT_texts) eva_nil))) ?_ sc_stepin.nd))
            have e : (if ih = true then headM (x :: r) else tailM (x :: r)) = (numM 1000000 (x :: r)).map fun n => ⟨if ih then .head else .tail, n⟩ := by
              cases ih with
              | true =>
                have hx : ¬ x = 45 := fun z => h (by rw [z]; rfl)
                show (if x = 45 then _ else _) = _
                rw [if_neg hx]
                rfl
              | false =>
                have hx : ¬ x = 43 := fun z => h (by rw [z]; rfl)
                show (if x = 43 then _ else _) = _
                rw [if_neg hx]
                rfl
            rw [e]
            cases hn : numM 1000000 (x :: r) with
            | none =>
              refine sj_last (sj_ret (ev_if (k := true) (EvT.cast (evt_lt (ev_var 5 rfl) ev_int) rfl) (fun _ => ev_non) fun h => by cases h))
            | some n =>
              refine sj_last (sj_ret (ev_if (evt_lt (ev_var 5 rfl) ev_int) (fun h => by have := of_decide_eq_true (show decide ((n : Int) < 0) = true from h); omega) fun _ => ?_))
              refine Ev.cast (ev_tup (ds := [.str (kS (if ih then .head else .tail)), .int n]) (eva_cons (ev_if (evt_val (ev_var 2 rfl)) (fun hi => ?_) fun hi => ?_) (eva_cons (ev_var 5 rfl) eva_nil))) rfl
              · subst hi; exact ev_cs X.HEAD
              · subst hi; exact ev_cs X.TAIL
    · refine sj_cons (sj_if (EvW.t (evw_or (l := false) (evt_neI (ev_len true (ds := tupsL ws) X.len (ev_var 1 rfl)) ev_int) (fun h => ?_))) (fun _ => ?_) fun h => ?_)
      · exfalso
        rw [tupsL, List.length_map, Bool.not_eq_false', decide_eq_true_iff] at h
        omega
      · refine sj_last (sj_ret' (d := .none) ev_non ?_)
        have : commandM ws = none := by
          match ws, h3 with
          | [], _ => rfl
          | [_], _ => rfl
          | [_, _], _ => rfl
          | [_, _, _], h => exact absurd rfl h
          | _ :: _ :: _ :: _ :: _, _ => rfl
        show sh K (stepO (commandM ws)) = _
        rw [this]
        rfl
      · exfalso
        rw [Bool.or_false, tupsL, List.length_map, Bool.not_eq_false', decide_eq_true_iff] at h
        omega
end
end Td
namespace Td
open PySem PySem.Spec PyProof.Rows L2 Tw
def pipelineM (u : List UInt8) : Option Pipe := if u.all (fun o => o == 32) = true then some [] else R7256f.Spec.allSome ((splitM 124 u).map fun c => commandM (wordsM c))
def pipeO : Option Pipe → PyData
  | none => .none
  | some p => .list (stepsL p)
def parseM : RWire.Value → Option Pipe
  | .text u => pipelineM u
  | _ => none
/-- the kind of a value -/
def kindV : RWire.Value → Nat
  | .nothing => 0
  | .null => 1
  | .bool b => if b then 3 else 2
  | .int _ => 4
  | .text _ => 6
  | .list _ => 7
  | .record _ => 8
  | _ => 0
def tailV : RWire.Value → List PyData
  | .int i => [.int i]
  | .text u => [.tuple (octD u)]
  | .list l => [.tuple (valDs l)]
  | .record l => [.tuple (valFs l)]
  | _ => []
theorem valD_kind {v : RWire.Value} (h : okV v = true) : valD v = .tuple (.int (kindV v) :: tailV v) := by
  cases v with
  | bool b => cases b <;> rfl
  | big _ => cases h
  | octets _ => cases h
  | wide _ => cases h
  | _ => rfl
theorem atI_zero {α : Type} {x : α} {l : List α} : atI (x :: l) 0 = some x := atI_nat (j := 0) rfl
theorem allSome_none {α : Type} : ∀ {l : List (Option α)}, R7256f.Spec.allSome l = none ↔ none ∈ l
  | [] => by simp [R7256f.Spec.allSome]
  | none :: l => by simp [R7256f.Spec.allSome]
  | some x :: l => by
    have ih := allSome_none (l := l)
    rw [R7256f.Spec.allSome, Option.map_eq_none_iff, ih]
    simp
theorem allSome_some {α : Type} : ∀ {l : List (Option α)} {m : List α}, R7256f.Spec.allSome l = some m → l = m.map some
  | [], m, h => by
    cases h
    rfl
  | none :: l, m, h => by cases h
  | some x :: l, m, h => by
    rw [R7256f.Spec.allSome] at h
    obtain ⟨n, h1, h2⟩ := Option.map_eq_some_iff.mp h
    subst h2
    rw [allSome_some h1]
    rfl
theorem stepO_pl (o : Option TStep) : plD (stepO o) = true := by
  cases o with
  | none => rfl
  | some s => exact step_pl s
theorem stepO_depth (o : Option TStep) : (stepO o).depth ≤ 1 := by
  cases o with
  | none => show PyData.depth .none ≤ 1; rw [PyData.depth]; decide
  | some s => exact step_depth s
theorem none_in (l : List (Option TStep)) : ((l.map stepO).any fun z => PyData.eqv z .none) = l.any Option.isNone := by
  rw [Bool.eq_iff_iff, List.any_eq_true, List.any_eq_true]
  constructor
  · rintro ⟨z, hz, e⟩
    obtain ⟨o, ho, rfl⟩ := List.mem_map.mp hz
    have := (eqv_pl _ _ (stepO_pl o) rfl).mp e
    cases o with
    | none => exact ⟨none, ho, rfl⟩
    | some s => cases this
  · rintro ⟨o, h, e⟩
    have e : o = none := Option.isNone_iff_eq_none.mp e
    subst e
    exact ⟨.none, List.mem_map.mpr ⟨none, h, rfl⟩, (eqv_pl .none .none rfl rfl).mpr rfl⟩
theorem opts_shaped (l : List (Option TStep)) : SeqAt.shaped (.list (l.map stepO)) = true := by
  refine shaped_of (plDs_all fun d hd => ?_) ?_
  · obtain ⟨o, _, rfl⟩ := List.mem_map.mp hd
    exact stepO_pl o
  · rw [PyData.depth]
    have := depthAll_le (ds := l.map stepO) (n := 1) fun d hd => by
      obtain ⟨o, _, rfl⟩ := List.mem_map.mp hd
      exact stepO_depth o
    omega
section
variable {P : Program} {w : World} {K : Frag} {mg : Str → Option Value} {base : Heap} {T : List NTab} {C : Addr}
abbrev s_stepsin : Stmt := top 48
def S_stepsin (K : Frag) : RWire.Value → Pr := fun v => ⟨okV v = true ∧ (∀ u, v = .text u → u.length ≤ 100000), [sh K (valD v)], .ok (sh K (pipeO (parseM v)))⟩
theorem sc_stepsin : FnScope ["value", "found", "own", "command"] ["value"] (defScope s_stepsin) := ⟨rfl, rfl, rfl, by decide +kernel, rfl, by decide +kernel, by decide +kernel⟩
theorem ok_stepsin {f : Addr} {fd : FuncData} (F : Fun K "steps_in" "steps_in" s_stepsin f fd) (X : Txt K mg) (f_split : Fn P w K mg base CX0 1 "split_at" ["octets", "sign"] (spF T C (S_split K))) (f_step : Fn P w K mg base CX0 2 "step_in" ["octets"] (spF T C (S_stepin K))) : FnOk P w K mg base CX0 3 f fd ["value"] (spF T C (S_stepsin K)) := by
  refine def_ok F sc_stepsin (fun _ => rfl) fun v hv cdv A outer s H E hr => ?_
  obtain ⟨hok, hlen⟩ : okV v = true ∧ (∀ u, v = .text u → u.length ≤ 100000) := hv
  by_cases ht : ∃ u, v = .text u
  · obtain ⟨u, rfl⟩ := ht
    have hu := hlen u rfl
    have l1 := split_len 124 u
    refine sj_cons (sj_if (EvT.cast (evt_neI (ev_ixT (ds := [.int 6, .tuple (octD u)]) (ev_var 0 rfl) ev_int) (ev_ci X.TEXT)) rfl) (fun h => by cases h) fun _ => ?_)
    refine sj_nil (sj_cons (sj_if (evt_val (ev_all (bs := u.map fun o => o == 32) rfl X.all (Ev.cast (EvN.sh (evn_lc (own := [("own", 2)]) (ds := octD u) (f := fun _ => true) (g := fun d => match d with
      | .int i => .bool (decide (i = 32))
      | _ => .none) false rfl sc_stepsin.nd (ev_ixT (ds := [.int 6, .tuple (octD u)]) (ev_var 0 rfl) ev_int) (blkOk_by (N := ["value", "found", "own", "command"]) (sc := defScope s_stepsin) (by decide +kernel)) (fun _ _ _ _ _ => pg_name sc_stepsin.nd rfl (.inl rfl)) (tgt_name 2) (fun _ _ => trivial) ?_ ⟨fun d hd s H C cl fp => evts_nil, fun d hd _ s H C cl fp => ?_⟩)) ?_))) (fun h => ?_) fun h => ?_))
    · rw [octD_len]
      exact small_of (m := 200000) (by omega) rfl
    · obtain ⟨o, _, rfl⟩ := List.mem_map.mp hd
      exact ev_eqI (ev_var 2 rfl) (ev_ci X.SPACE)
    · rw [filter_all, octD, List.map_map, List.map_map]
      refine congrArg PyData.list (List.map_congr_left fun o _ => ?_)
      show PyData.bool (decide ((o.toNat : Int) = 32)) = PyData.bool (o == 32)
      congr 1
      rw [Bool.eq_iff_iff, decide_eq_true_iff, beq_iff_eq]
      exact u8_eq (b := 32)
    · rw [List.all_map] at h
      refine sj_last (sj_ret' (d := .list []) (EvN.sh (evn_lst (ds := []) eva_nil)) ?_)
      show sh K (pipeO (pipelineM u)) = _
      unfold pipelineM
      rw [if_pos (show u.all (fun o => o == 32) = true from h)]
      rfl
    · rw [List.all_map] at h
      have hp : pipelineM u = R7256f.Spec.allSome ((splitM 124 u).map fun c => commandM (wordsM c)) := by
        unfold pipelineM
        rw [if_neg]
        intro z
        have h : u.all (fun o => o == 32) = false := h
        rw [z] at h
        cases h
      refine sj_nil ?_
      show SJs _ _ _ _ (poOf (.ok (sh K (pipeO (pipelineM u)))))
      rw [hp]
      refine (sj_cons (sj_setLc 1 (own := [("command", 3)]) (ds := tupsL (splitM 124 u)) (f := fun _ => true) (g := fun d => match d with
        | .tuple ds => stepO (commandM (wordsM (ds.map fun d => match d with
          | .int i => UInt8.ofNat i.toNat
          | _ => 0)))
        | _ => .none) true rfl sc_stepsin.nd (ev_call f_split hr (by decide) (u, 124) hu rfl (eva_cons (ev_ixT (ds := [.int 6, .tuple (octD u)]) (ev_var 0 rfl) ev_int) (eva_cons (ev_ci X.BAR) eva_nil))) (blkOk_by (N := ["value", "found", "own", "command"]) (sc := defScope s_stepsin) (by decide +kernel)) (fun _ _ _ _ _ => pg_name sc_stepsin.nd rfl (.inl rfl)) (tgt_name 3) (fun _ _ => trivial) ?_ ⟨fun d hd s H C cl fp => evts_nil, fun d hd _ s H C cl fp => ?_⟩ ?_))
      · rw [tupsL, List.length_map]
        exact small_of (m := 200000) (by omega) rfl
      · obtain ⟨l, hl, rfl⟩ := List.mem_map.mp hd
        refine Ev.cast (ev_call f_step hr (by decide) l (Nat.le_trans (split_mem 124 u l hl) hu) rfl (eva_cons (ev_var 3 rfl) eva_nil)) ?_
        show _ = stepO (commandM (wordsM ((octD l).map _)))
        have : ((octD l).map fun d => match d with
          | .int i => UInt8.ofNat i.toNat
          | _ => 0) = l := by
          unfold octD
          rw [List.map_map]
          conv => rhs; rw [← List.map_id l]
          refine List.map_congr_left fun o _ => ?_
          show UInt8.ofNat ((o.toNat : Int).toNat) = o
          rw [Int.toNat_natCast]
          exact UInt8.ofNat_toNat
        rw [this]
      · have e : ((tupsL (splitM 124 u)).filter (fun _ => true)).map (fun d => match d with
          | .tuple ds => stepO (commandM (wordsM (ds.map fun d => match d with
            | .int i => UInt8.ofNat i.toNat
            | _ => 0)))
          | _ => .none) = ((splitM 124 u).map fun c => commandM (wordsM c)).map stepO := by
          rw [filter_all]
          unfold tupsL
          rw [List.map_map, List.map_map]
          refine List.map_congr_left fun l _ => ?_
          show stepO (commandM (wordsM ((octD l).map _))) = stepO (commandM (wordsM l))
          have : ((octD l).map fun d => match d with
            | .int i => UInt8.ofNat i.toNat
            | _ => 0) = l := by
            unfold octD
            rw [List.map_map]
            conv => rhs; rw [← List.map_id l]
            refine List.map_congr_left fun o _ => ?_
            show UInt8.ofNat ((o.toNat : Int).toNat) = o
            rw [Int.toNat_natCast]
            exact UInt8.ofNat_toNat
          rw [this]
        rw [e]
        generalize ((splitM 124 u).map fun c => commandM (wordsM c)) = os
        show SJs _ _ _ _ _
        refine sj_last (sj_ret (ev_if (EvT.cast (evt_inDL (d := .none) (ds := os.map stepO) (u65 hr) rfl (opts_shaped os) ev_non (ev_var 1 rfl)) (none_in os)) (fun h => ?_) fun h => ?_))
        · obtain ⟨o, ho, e⟩ := List.any_eq_true.mp h
          have e : o = none := Option.isNone_iff_eq_none.mp e
          subst e
          refine ev_non.cast ?_
          rw [allSome_none.mpr ho]
          rfl
        · cases hs : R7256f.Spec.allSome os with
          | none =>
            have := List.any_eq_false.mp h none (allSome_none.mp hs)
            exact absurd rfl this
          | some m =>
            refine Ev.cast (ev_var 1 rfl) ?_
            rw [allSome_some hs, List.map_map]
            rfl
  · have hk : kindV v ≠ 6 := by
      cases v with
      | text u => exact absurd ⟨u, rfl⟩ ht
      | bool b => cases b <;> decide
      | _ => simp [kindV]
    have hp : parseM v = none := by
      cases v with
      | text u => exact absurd ⟨u, rfl⟩ ht
      | _ => rfl
    show SJs _ _ [.sh (sh K (valD v)), .un, .un, .un] _ (poOf (.ok (sh K (pipeO (parseM v)))))
    rw [valD_kind hok, hp]
    refine sj_cons (sj_if (evt_neI (ev_ixT (ds := .int (kindV v) :: tailV v) (ev_var 0 rfl) ev_int atI_zero) (ev_ci X.TEXT)) (fun _ => ?_) fun h => ?_)
    · exact sj_last (sj_ret ev_non)
    · exfalso
      rw [Bool.not_eq_false', decide_eq_true_iff] at h
      omega
abbrev s_steptext : Stmt := top 49
def stepS (s : TStep) : Str := match s.kind with
  | .chop => "head -n -" ++ toString (s.count : Int)
  | .skip => "tail -n +" ++ toString ((s.count : Int) + 1)
  | k => kS k ++ " -n " ++ toString (s.count : Int)
def S_steptext (K : Frag) : TStep → Pr := fun s => ⟨s.count ≤ 1000000 ∧ (toString (s.count : Int) : Str).length ≤ 100 ∧ (toString ((s.count : Int) + 1) : Str).length ≤ 100, [sh K (stepD s)], .ok (sh K (.str (stepS s)))⟩
theorem sc_steptext : FnScope ["step", "kind", "count"] ["step"] (defScope s_steptext) := ⟨rfl, rfl, rfl, by decide +kernel, rfl, by decide +kernel, by decide +kernel⟩
theorem ok_steptext {f : Addr} {fd : FuncData} (F : Fun K "step_text" "step_text" s_steptext f fd) (X : Txt K mg) : FnOk P w K mg base CX0 1 f fd ["step"] (spF T C (S_steptext K)) := by
  refine def_ok F sc_steptext (fun _ => rfl) fun ⟨k, n⟩ hn cdv A outer s H E hr => ?_
  obtain ⟨hn, l1, l2⟩ : n ≤ 1000000 ∧ (toString (n : Int) : Str).length ≤ 100 ∧ (toString ((n : Int) + 1) : Str).length ≤ 100 := hn
  have lg : ∀ m : Int, 0 ≤ m → m ≤ 1000001 → m.natAbs.log2 < 1920 := fun m h0 h1 => by
    by_cases z : m.natAbs = 0
    · rw [z]; decide
    · have := (Nat.log2_lt z (k := 20)).mpr (by show m.natAbs < 1048576; omega)
      omega
  have c9 : ∀ (x : Str) (y : Str), x.length ≤ 100 → y.length ≤ 100 → x.length + y.length ≤ sizeLine := fun x y h1 h2 => size_le (m := 200) (by omega) rfl
  have cat : ∀ (a b : Str), a.length ≤ 10 → b.length ≤ 10 → (a ++ b).length ≤ 100 := fun a b h1 h2 => by
    show (a.cps ++ b.cps).size ≤ 100
    rw [Array.size_append]
    have h1 : a.cps.size ≤ 10 := h1
    have h2 : b.cps.size ≤ 10 := h2
    omega
  refine sj_cons (sj_set2 1 2 (d1 := .str (kS k)) (d2 := .int n) (ev_var 0 rfl) (pg_two _ 1 2 rfl sc_steptext.nd) ?_)
  refine sj_cons (sj_if (evt_eqS (ev_var 1 rfl) (ev_cs X.CHOP)) (fun h => ?_) fun h => ?_)
  · have h : kS k = "chop" := of_decide_eq_true h
    cases k <;> first | (exact absurd h (by decide +kernel)) | skip
    exact sj_last (sj_ret (ev_catS (c9 _ _ (by decide +kernel) l1) ev_str (ev_strI (lg (n : Int) (by omega) (by omega)) X.str (ev_var 2 rfl))))
  · refine sj_nil (sj_cons (sj_if (evt_eqS (ev_var 1 rfl) (ev_cs X.SKIP)) (fun h2 => ?_) fun h2 => ?_))
    · have h2 : kS k = "skip" := of_decide_eq_true h2
      cases k <;> first | (exact absurd h2 (by decide +kernel)) | skip
      exact sj_last (sj_ret (ev_catS (c9 _ _ (by decide +kernel) l2) ev_str (ev_strI (lg ((n : Int) + 1) (by omega) (by omega)) X.str (ev_add (ev_var 2 rfl) ev_int))))
    · have h : ¬ kS k = "chop" := of_decide_eq_false h
      have h2 : ¬ kS k = "skip" := of_decide_eq_false h2
      refine sj_nil (sj_last (sj_ret' (d := .str (kS k ++ " -n " ++ toString (n : Int))) (ev_catS (c9 _ _ (cat _ _ ?_ (by decide +kernel)) l1) (ev_catS (c9 _ _ ?_ (by decide +kernel)) (ev_var 1 rfl) ev_str) (ev_strI (lg (n : Int) (by omega) (by omega)) X.str (ev_var 2 rfl))) ?_))
      · cases k <;> decide +kernel
      · cases k <;> decide +kernel
      · cases k <;> first | (exact absurd rfl h) | (exact absurd rfl h2) | rfl
end
end Td
namespace Tw
open PySem PySem.Spec PyProof.Rows L2
/-! ### an own error with three fields -/
/-- what the top has written of it -/
structure RefC (K : Frag) (C : Addr) : Prop where
  ox : OexC K C
  xf : XfC K C
  no1 : PySem.W.findIn K (.ref C) "order" = some none
  no2 : PySem.W.findIn K (.ref C) "message" = some none
  no3 : PySem.W.findIn K (.ref C) "further" = some none
/-- Refused.__init__ -/
def spRI (C : Addr) : Sp := fun vs H Q _ => ∃ (a : Addr) (o : Int) (m : Str) (v : V), vs = [.ref a, .int o, .str m, v] ∧ H a = some (exo a C none) ∧
  ∀ d, H d = none → d ≠ a → ∀ H2, H2 a = some (exo a C (some d)) → H2 d = some (exd d [("further", v), ("message", .str m), ("order", .int o)]) → (∀ b, b ≠ a → b ≠ d → H2 b = H b) → Q .non H2
section
variable {P : Program} {w : World} {K : Frag} {mg : Str → Option Value} {base : Heap} {T : List NTab} {C : Addr}
theorem ok_refused {st : Stmt} {f : Addr} {fd : FuncData} (F : Fun K "__init__" "Refused.__init__" st f fd) (R : RefC K C) (Sc : FnScope ["self", "order", "message", "further"] ["self", "order", "message", "further"] (defScope st)) {p1 p2 p3 p4 q1 q2 q3 q4 r1 r2 r3 r4 : Pos}
    (hst : defBody st = [.Assign [.Attribute (.Name "self" p1) "order" p2] (.Name "order" p3) p4, .Assign [.Attribute (.Name "self" q1) "message" q2] (.Name "message" q3) q4, .Assign [.Attribute (.Name "self" r1) "further" r2] (.Name "further" r3) r4])
    (hl : ∀ x ∈ (["self", "order", "message", "further"] : List Str), (defScope st).names.lookup x = some .local) : FnOk P w K mg base CX0 1 f fd ["self", "order", "message", "further"] (spRI C) := by
  refine F.ok Sc (fun vs H Q E ⟨a, o, m, v, e, _⟩ => by rw [e]; rfl) fun cdv A outer s H vs Q E hr ⟨a, o, m, v, e, ha, hq⟩ => ?_
  subst e
  rw [hst]
  have l0 : (defScope st).names.lookup ("self" : Str) = some NameKind.local := hl _ (by simp)
  have l1 : (defScope st).names.lookup ("order" : Str) = some NameKind.local := hl _ (by simp)
  have l2 : (defScope st).names.lookup ("message" : Str) = some NameKind.local := hl _ (by simp)
  have l3 : (defScope st).names.lookup ("further" : Str) = some NameKind.local := hl _ (by simp)
  refine ⟨_, pss_cons (ps_ost (pe_var (i := 0) rfl (.inl l0)) (pe_var (i := 1) rfl (.inl l1))) (pss_cons (ps_ost (pe_var (i := 0) rfl (.inl l0)) (pe_var (i := 2) rfl (.inl l2))) (pss_one (ps_ost (pe_var (i := 0) rfl (.inl l0)) (pe_var (i := 3) rfl (.inl l3))))), ?_⟩
  refine ⟨_, rfl, _, rfl, a, C, rfl, R.ox, R.no1, .inl ⟨ha, fun dx hdx ne => ?_⟩⟩
  refine ⟨_, rfl, _, rfl, a, C, rfl, R.ox, R.no2, .inr ⟨dx, _, upd_same, by rw [upd_ne ne]; exact upd_same, by show 1 ≤ 900; decide, ?_⟩⟩
  refine ⟨_, rfl, _, rfl, a, C, rfl, R.ox, R.no3, .inr ⟨dx, _, by rw [upd_ne (Ne.symm ne)]; exact upd_same, upd_same, by show 2 ≤ 900; decide, ?_⟩⟩
  refine hq dx hdx ne _ (by rw [upd_ne (Ne.symm ne), upd_ne (Ne.symm ne)]; exact upd_same) upd_same fun b h1 h2 => ?_
  rw [upd_ne h2, upd_ne h2, upd_ne h1, upd_ne h2]
end
section
variable {X : Cx} {c : Cfg} {γ : Gm} {po : Po} {pos p pos2 : Pos} {a b e : Expr} {P : Ty} {o : Int} {m : Str} {fI : Addr} {fd : FuncData} {k j : Nat}
/-- raise Refused(o, m, e) -/
theorem sj_raise (hc : X.calm = true) (R : RefC X.K c.C) (iC : PySem.W.findIn X.K (.ref c.C) "__init__" = some (some (.ref fI))) (tI : PySem.W.typeIn X.K (.ref fI) = some (.type "function")) (F1 : FnOk X.prog X.w X.K X.mg X.base CX0 1 fI fd ["self", "order", "message", "further"] (spRI c.C)) (hb : L2.Binds X.K fd ["self", "order", "message", "further"] [])
    (hr : Room j X.A) (hj : 2 ≤ j) (tk : L2N.Takes X fun cls d _ H => c.E cls d H) (hm : X.mg "Refused" = some (.ref c.C)) (ha : EvA X c.T γ [a, b, e] [sh X.K (.int o), sh X.K (.str m), P]) (he : po.er o m) (hg : Gl X "Refused" := by rfl)
    (hs : starEach [a, b, e] X.env = (false, eval a X.env) :: starEach [b, e] X.env := by rfl) (hpl : (backTo pos (starEach [b, e] X.env)).any (·.1) = false := by rfl) : SJ X c γ (.Raise (some (.Call (.Name "Refused" p) [a, b, e] [] pos)) none pos2) po :=
  PS.imp (L2N.ps_raise hc tk (pmkN R.ox iC tI F1 (hr.mono hj) hb L2.pass0 hg hm ha (by decide) hs hpl)) fun D σ H ⟨F0, H0, F, s, _, _, _, _, h5⟩ => ⟨F, s.s, fun vs F1 H1 g1 p1 => by
    obtain ⟨v1, r1, rfl, e1, v2, r2, rfl, e2, v3, r3, rfl, e3, e4⟩ := p1
    have e1 : v1 = .int o := e1
    have e2 : v2 = .str m := e2
    have e4 : r3 = [] := e4
    subst e1 e2 e4
    refine ⟨by show 3 ≤ 1000; decide, fun x hx => ?_⟩
    refine ⟨x, o, m, v3, rfl, upd_same, fun d hd ne H2 k1 k2 k3 => ⟨rfl, d, _, k1, k2, by rw [upd_ne ne] at hd; exact hd, ?_⟩⟩
    have hd1 : H1 d = none := by rw [upd_ne ne] at hd; exact hd
    have eH : upd (del H2 x) d (.xd [("further", v3), ("message", .str m), ("order", .int o)]) = upd H1 d (.xd [("further", v3), ("message", .str m), ("order", .int o)]) := by
      funext b
      by_cases z : b = d
      · rw [z, upd_same, upd_same]
      · rw [upd_ne z, upd_ne z]
        by_cases zx : b = x
        · rw [zx, del_same, hx]
        · rw [del_ne zx, k3 b zx z, upd_ne zx]
    rw [eH]
    have g := (s.g.trans g1).trans (Grow.raw (T := c.T) (o := HO.xd [("further", v3), ("message", .str m), ("order", .int o)]) (s.grow g1).s.ex hd1)
    exact h5 o m d F1 _ he g (s.g.free _ (g1.free _ hd1)) ⟨_, upd_same, rfl, rfl⟩⟩
end
end Tw
namespace Td
open PySem PySem.Spec PyProof.Rows L2 Tw
/-! ### refusals -/
/-- what the top has written of the error -/
structure RefT (P : Program) (w : World) (K : Frag) (mg : Str → Option Value) (base : Heap) (C : Addr) : Prop where
  r : RefC K C
  g : mg "Refused" = some (.ref C)
  i : ∃ fI fd, PySem.W.findIn K (.ref C) "__init__" = some (some (.ref fI)) ∧ PySem.W.typeIn K (.ref fI) = some (.type "function") ∧ FnOk P w K mg base CX0 1 fI fd ["self", "order", "message", "further"] (spRI C) ∧ L2.Binds K fd ["self", "order", "message", "further"] []
section
variable {P : Program} {w : World} {K : Frag} {mg : Str → Option Value} {base : Heap} {T : List NTab} {C : Addr}
abbrev CXL (P : Program) (w : World) : CXT := L2N.CX P w
def S_wk (K : Frag) (o : Int) : Bool × Str → Pr := fun i => ⟨True, [sh K (.bool i.1), sh K (.str i.2)], match i.1 with | true => .err o i.2 | false => .ok (sh K .none)⟩
abbrev s_wk : Stmt := top 38
abbrev s_oor : Stmt := top 39
theorem sc_wk : FnScope ["wrong", "message"] ["wrong", "message"] (defScope s_wk) := ⟨rfl, rfl, rfl, by decide +kernel, rfl, by decide +kernel, by decide +kernel⟩
theorem sc_oor : FnScope ["wrong", "message"] ["wrong", "message"] (defScope s_oor) := ⟨rfl, rfl, rfl, by decide +kernel, rfl, by decide +kernel, by decide +kernel⟩
theorem ok_wk {f : Addr} {fd : FuncData} (F : Fun K "wrong_kind" "wrong_kind" s_wk f fd) (R : RefT P w K mg base C) : FnOk P w K mg base (CXL P w) 3 f fd ["wrong", "message"] (spF T C (S_wk K 1)) := by
  refine def_okX F sc_wk (fun _ => rfl) fun ⟨b, m⟩ _ cdv A outer s H E hr tk => ?_
  obtain ⟨fI, fdI, i1, i2, i3, i4⟩ := R.i
  cases b with
  | true =>
    refine sj_last (sj_if (evt_val (ev_var 0 rfl)) (fun _ => ?_) fun h => by cases h)
    exact sj_last (sj_raise (P := sh K (.tuple [])) (o := 1) (m := m) rfl R.r i1 i2 i3 i4 hr (by decide) tk R.g (eva_cons ev_int (eva_cons (ev_var 1 rfl) (eva_cons (ev_tup (ds := []) eva_nil) eva_nil))) ⟨rfl, rfl⟩)
  | false =>
    refine sj_last (sj_if (evt_val (ev_var 0 rfl)) (fun h => by cases h) fun _ => ?_)
    exact sj_nil (fun F => rfl)
theorem ok_oor {f : Addr} {fd : FuncData} (F : Fun K "out_of_range" "out_of_range" s_oor f fd) (R : RefT P w K mg base C) : FnOk P w K mg base (CXL P w) 3 f fd ["wrong", "message"] (spF T C (S_wk K 2)) := by
  refine def_okX F sc_oor (fun _ => rfl) fun ⟨b, m⟩ _ cdv A outer s H E hr tk => ?_
  obtain ⟨fI, fdI, i1, i2, i3, i4⟩ := R.i
  cases b with
  | true =>
    refine sj_last (sj_if (evt_val (ev_var 0 rfl)) (fun _ => ?_) fun h => by cases h)
    exact sj_last (sj_raise (P := sh K (.tuple [])) (o := 2) (m := m) rfl R.r i1 i2 i3 i4 hr (by decide) tk R.g (eva_cons ev_int (eva_cons (ev_var 1 rfl) (eva_cons (ev_tup (ds := []) eva_nil) eva_nil))) ⟨rfl, rfl⟩)
  | false =>
    refine sj_last (sj_if (evt_val (ev_var 0 rfl)) (fun h => by cases h) fun _ => ?_)
    exact sj_nil (fun F => rfl)
def fewS (n : Str) : Str := n ++ " must be a list of at most 20 steps"
def S_few (K : Frag) : Bool × Str → Pr := fun i => ⟨i.2.length ≤ 100, [sh K (.bool i.1), sh K (.str i.2)], match i.1 with | true => .ok (sh K .none) | false => .err 1 (fewS i.2)⟩
abbrev s_few : Stmt := top 59
theorem sc_few : FnScope ["is_right", "name"] ["is_right", "name"] (defScope s_few) := ⟨rfl, rfl, rfl, by decide +kernel, rfl, by decide +kernel, by decide +kernel⟩
theorem ok_few {f : Addr} {fd : FuncData} (F : Fun K "need_few" "need_few" s_few f fd) (f_wk : Fn P w K mg base (CXL P w) 3 "wrong_kind" ["wrong", "message"] (spF T C (S_wk K 1))) : FnOk P w K mg base (CXL P w) 4 f fd ["is_right", "name"] (spF T C (S_few K)) := by
  refine def_okX F sc_few (fun _ => rfl) fun ⟨b, n⟩ hn cdv A outer s H E hr tk => ?_
  have hn : n.length ≤ 100 := hn
  have h50 : (" must be a list of at most 20 steps" : Str).length ≤ 50 := by decide +kernel
  have hl : n.length + (" must be a list of at most 20 steps" : Str).length ≤ sizeLine := size_le (m := 200) (by omega) rfl
  cases b with
  | true => exact sj_last (sj_expr (ev_callX f_wk hr (by decide) (false, fewS n) trivial rfl (eva_cons (ev_not (k := true) (ev_var 0 rfl)) (eva_cons (ev_catS hl (ev_var 1 rfl) ev_str) eva_nil))) (fun F => rfl))
  | false => exact sj_last (sj_exprErr (o := 1) (m := fewS n) (ev_callErr f_wk tk hr (by decide) (true, fewS n) trivial rfl (eva_cons (ev_not (k := false) (ev_var 0 rfl)) (eva_cons (ev_catS hl (ev_var 1 rfl) ev_str) eva_nil))) ⟨rfl, rfl⟩)
end
end Td
namespace Td
open PySem PySem.Spec PyProof.Rows L2 Tw
/-! ### names and kinds in octets -/
def kindO : List UInt8 := [107, 105, 110, 100]
def countO : List UInt8 := [99, 111, 117, 110, 116]
def startO : List UInt8 := [115, 116, 97, 114, 116]
def endO : List UInt8 := [101, 110, 100]
def fromO : List UInt8 := [102, 114, 111, 109]
def toO : List UInt8 := [116, 111]
def lengthO : List UInt8 := [108, 101, 110, 103, 116, 104]
def firstO : List UInt8 := [102, 105, 114, 115, 116]
def secondO : List UInt8 := [115, 101, 99, 111, 110, 100]
def certainO : List UInt8 := [99, 101, 114, 116, 97, 105, 110]
def heldO : List UInt8 := [104, 101, 108, 100]
def valueO : List UInt8 := [118, 97, 108, 117, 101]
def doneO : List UInt8 := [100, 111, 110, 101]
def thrownO : List UInt8 := [116, 104, 114, 111, 119, 110]
def skipO : List UInt8 := [115, 107, 105, 112]
def chopO : List UInt8 := [99, 104, 111, 112]
def kO : TKind → List UInt8
  | .head => headO
  | .tail => tailO
  | .skip => skipO
  | .chop => chopO
/-- a text in octets -/
structure Nm (x : Str) (l : List UInt8) : Prop where
  e : codesS x = .tuple (octD l)
  s : x.cps.toList.length < sizeLine
theorem nm_of {x : Str} {l : List UInt8} (h : x.cps.toList = l.map UInt8.toNat) (hl : Nat.ble l.length 1000 = true) : Nm x l := by
  refine ⟨?_, ?_⟩
  · unfold codesS octD
    rw [h, List.map_map]
    rfl
  · rw [h, List.length_map]
    exact small_of (Nat.le_of_ble_eq_true hl) rfl
theorem nm_kind : Nm "kind" kindO := nm_of (by decide +kernel) rfl
theorem nm_count : Nm "count" countO := nm_of (by decide +kernel) rfl
theorem nm_start : Nm "start" startO := nm_of (by decide +kernel) rfl
theorem nm_end : Nm "end" endO := nm_of (by decide +kernel) rfl
theorem nm_from : Nm "from" fromO := nm_of (by decide +kernel) rfl
theorem nm_to : Nm "to" toO := nm_of (by decide +kernel) rfl
theorem nm_length : Nm "length" lengthO := nm_of (by decide +kernel) rfl
theorem nm_first : Nm "first" firstO := nm_of (by decide +kernel) rfl
theorem nm_second : Nm "second" secondO := nm_of (by decide +kernel) rfl
theorem nm_certain : Nm "certain" certainO := nm_of (by decide +kernel) rfl
theorem nm_held : Nm "held" heldO := nm_of (by decide +kernel) rfl
theorem nm_value : Nm "value" valueO := nm_of (by decide +kernel) rfl
theorem nm_done : Nm "done" doneO := nm_of (by decide +kernel) rfl
theorem nm_thrown : Nm "thrown" thrownO := nm_of (by decide +kernel) rfl
theorem nm_k (k : TKind) : Nm (kS k) (kO k) := by cases k <;> exact nm_of (by decide +kernel) rfl
theorem textD_nm {x : Str} {l : List UInt8} (h : Nm x l) : textD x = valD (.text l) := by
  unfold textD
  rw [h.e]
  rfl
mutual
theorem val_pl : ∀ v, okV v = true → plD (valD v) = true
  | .nothing, _ => rfl
  | .null, _ => rfl
  | .bool b, _ => by cases b <;> rfl
  | .int _, _ => rfl
  | .big _, h => by cases h
  | .text u, _ => by
    show (plDs (octD u) && true) = true
    rw [show plDs (octD u) = true from oct_pl u]
    rfl
  | .octets _, h => by cases h
  | .wide _, h => by cases h
  | .list l, h => by
    show (plDs (valDs l) && true) = true
    rw [vals_pl l h]
    rfl
  | .record l, h => by
    show (plDs (valFs l) && true) = true
    rw [valFs_pl l h]
    rfl
theorem vals_pl : ∀ l, okVs l = true → plDs (valDs l) = true
  | [], _ => rfl
  | v :: r, h => by
    have h : (okV v && okVs r) = true := h
    rw [Bool.and_eq_true] at h
    show (plD (valD v) && plDs (valDs r)) = true
    rw [val_pl v h.1, vals_pl r h.2]
    rfl
theorem valFs_pl : ∀ l : List (RWire.Text × RWire.Value), okFs l = true → plDs (valFs l) = true
  | [], _ => rfl
  | e :: r, h => by
    have h : (okV e.2 && okFs r) = true := h
    rw [Bool.and_eq_true] at h
    show ((plDs (octD e.1) && (plD (valD e.2) && true)) && plDs (valFs r)) = true
    rw [show plDs (octD e.1) = true from oct_pl e.1, val_pl e.2 h.1, valFs_pl r h.2]
    rfl
end
def memberM (l : List (RWire.Text × RWire.Value)) (nm : List UInt8) : RWire.Value := match l.find? fun e => e.1 == nm with
  | some e => e.2
  | none => .nothing
theorem member_ok {l : List (RWire.Text × RWire.Value)} (h : okFs l = true) (nm : List UInt8) : okV (memberM l nm) = true := by
  unfold memberM
  cases e : l.find? fun e => e.1 == nm with
  | none => rfl
  | some x => exact okFs_mem h x (List.mem_of_find?_eq_some e)
def isText (v : RWire.Value) (u : List UInt8) : Bool := match v with
  | .text x => x == u
  | _ => false
def kindM (v : RWire.Value) : Option TKind := if isText v headO = true then some .head else if isText v tailO = true then some .tail else if isText v skipO = true then some .skip else if isText v chopO = true then some .chop else none
def countM (v : RWire.Value) (most : Nat) : Option Nat := match v with
  | .int i => if 0 ≤ i ∧ i ≤ most then some i.toNat else none
  | _ => none
def stepM (v : RWire.Value) : Option TStep := match v with
  | .record l => match kindM (memberM l kindO), countM (memberM l countO) 1000000 with
    | some k, some n => some ⟨k, n⟩
    | _, _ => none
  | _ => none
def pipeM (v : RWire.Value) : Option Pipe := match v with
  | .list l => if l.length ≤ 20 then R7256f.Spec.allSome (l.map stepM) else none
  | _ => none
theorem text_eqv {v : RWire.Value} (h : okV v = true) (u : List UInt8) : PyData.eqv (valD v) (valD (.text u)) = isText v u := by
  rw [Bool.eq_iff_iff, eqv_pl _ _ (val_pl v h) (val_pl (.text u) rfl)]
  have key : valD v = valD (.text u) ↔ v = .text u := by
    constructor
    · intro e
      cases v with
      | text x =>
        have e : PyData.tuple [.int 6, .tuple (octD x)] = PyData.tuple [.int 6, .tuple (octD u)] := e
        injection e with e
        injection e with _ e
        injection e with e _
        injection e with e
        rw [octD_inj e]
      | big _ => cases h
      | octets _ => cases h
      | wide _ => cases h
      | bool b => cases b <;> (injection e with e; injection e with e1 e2; cases e2)
      | nothing => injection e with e; injection e with e1 e2; cases e2
      | null => injection e with e; injection e with e1 e2; cases e2
      | int i => injection e with e; injection e with e1 e2; injection e1 with e1; cases e1
      | list l => injection e with e; injection e with e1 e2; injection e1 with e1; cases e1
      | record l => injection e with e; injection e with e1 e2; injection e1 with e1; cases e1
    · rintro rfl
      rfl
  rw [key]
  cases v with
  | text x =>
    show _ ↔ (x == u) = true
    rw [beq_iff_eq]
    constructor
    · intro e; injection e
    · rintro rfl; rfl
  | _ => exact ⟨fun e => (by cases e), fun e => (by cases e)⟩
theorem text_depth (u : List UInt8) : (valD (.text u)).depth ≤ 2 := by
  show (PyData.tuple [.int 6, .tuple (octD u)]).depth ≤ 2
  rw [PyData.depth]
  have := depthAll_le (ds := [PyData.int 6, .tuple (octD u)]) (n := 1) fun d hd => by
    rcases List.mem_cons.mp hd with rfl | hd
    · rw [PyData.depth]; exact Nat.zero_le _
    · rw [List.mem_singleton.mp hd]
      exact oct_depth u
  omega
section
variable {P : Program} {w : World} {K : Frag} {mg : Str → Option Value} {base : Heap} {T : List NTab} {C : Addr}
structure iMem where
  l : List (RWire.Text × RWire.Value)
  x : Str
  nm : List UInt8
def S_member (K : Frag) : iMem → Pr := fun i => ⟨Nm i.x i.nm ∧ i.l.length ≤ 100000, [sh K (valD (.record i.l)), sh K (.str i.x)], .ok (sh K (valD (memberM i.l i.nm)))⟩
abbrev s_member : Stmt := top 57
theorem sc_member : FnScope ["value", "name", "good", "label", "own"] ["value", "name"] (defScope s_member) := ⟨rfl, rfl, rfl, by decide +kernel, rfl, by decide +kernel, by decide +kernel⟩
theorem member_data (nm : List UInt8) : ∀ l : List (RWire.Text × RWire.Value), ((valFs l).filter (fun d => match d with
    | .tuple [.tuple ds, _] => PyData.eqv (.tuple ds) (.tuple (octD nm))
    | _ => false)).map (fun d => match d with
    | .tuple [_, b] => b
    | _ => .none) = (l.filter fun e => e.1 == nm).map fun e => valD e.2
  | [] => rfl
  | e :: r => by
    have ih := member_data nm r
    have he : (match PyData.tuple [PyData.tuple (octD e.1), valD e.2] with
      | .tuple [.tuple ds, _] => PyData.eqv (.tuple ds) (.tuple (octD nm))
      | _ => false) = decide (e.1 = nm) := oct_eqv e.1 nm
    rw [valFs, List.filter_cons, List.filter_cons]
    by_cases h : e.1 = nm
    · rw [if_pos (he.trans (decide_eq_true h)), if_pos (by simpa using h), List.map_cons, List.map_cons, ih]
    · rw [if_neg (by rw [he]; simpa using h), if_neg (by simpa using h), ih]
theorem ok_member {f : Addr} {fd : FuncData} (F : Fun K "member" "member" s_member f fd) (X : Txt K mg) (f_codes : Fn P w K mg base CX0 1 "codes_of" ["text"] (spF T C (S_codes K))) : FnOk P w K mg base CX0 2 f fd ["value", "name"] (spF T C (S_member K)) := by
  refine def_ok F sc_member (fun _ => rfl) fun ⟨l, x, nm⟩ hp cdv A outer s H E hr => ?_
  obtain ⟨hx, hl⟩ : Nm x nm ∧ l.length ≤ 100000 := hp
  refine sj_cons (sj_setLc 2 (own := [("label", 3), ("own", 4)]) (ds := valFs l) (f := fun d => match d with
    | .tuple [.tuple ds, _] => PyData.eqv (.tuple ds) (.tuple (octD nm))
    | _ => false) (g := fun d => match d with
    | .tuple [_, b] => b
    | _ => .none) false rfl sc_member.nd (ev_ixT (ds := [.int 8, .tuple (valFs l)]) (ev_var 0 rfl) ev_int) (blkOk_by (N := ["value", "name", "good", "label", "own"]) (sc := defScope s_member) (by decide +kernel)) (fun _ _ _ _ _ => pg_two _ 3 4 rfl sc_member.nd) (tgt_pair 3 4) (fun d hd => ?_) ?_ ⟨fun d hd s H C cl fp => ?_, fun d hd _ s H C cl fp => ?_⟩ ?_)
  · rw [valFs_map] at hd
    obtain ⟨e, _, rfl⟩ := List.mem_map.mp hd
    exact ⟨_, _, rfl⟩
  · rw [valFs_map, List.length_map]
    exact small_of (m := 200000) (by omega) rfl
  · rw [valFs_map] at hd
    obtain ⟨e, _, rfl⟩ := List.mem_map.mp hd
    exact evts_one (evt_eqF (u64 hr) (oct_pl e.1) (oct_pl nm) (Nat.le_trans (Nat.min_le_left _ _) (Nat.le_trans (oct_depth _) (by decide))) (ev_var 3 rfl) (Ev.cast (ev_call f_codes hr (by decide) x hx.s rfl (eva_cons (ev_var 1 rfl) eva_nil)) hx.e))
  · rw [valFs_map] at hd
    obtain ⟨e, _, rfl⟩ := List.mem_map.mp hd
    exact ev_var 4 rfl
  · rw [member_data]
    show SJs _ _ _ _ _
    have hm : memberM l nm = match (l.filter fun e => e.1 == nm) with
      | [] => .nothing
      | e :: _ => e.2 := by
      unfold memberM
      rw [← List.head?_filter]
      cases l.filter fun e => e.1 == nm <;> rfl
    have hout : (poOf (S_member K ⟨l, x, nm⟩).out) = poOf (.ok (sh K (valD (match (l.filter fun e => e.1 == nm) with
      | [] => .nothing
      | e :: _ => e.2)))) := by rw [← hm]; rfl
    have key : ∀ fl : List (RWire.Text × RWire.Value), SJs (cxOf CX0 P w K mg base ["value", "name", "good", "label", "own"] "member" (defScope s_member) f cdv A outer s H E).nox ⟨T, C, E⟩ [.sh (sh K (valD (.record l))), .sh (sh K (.str x)), .sh (sh K (.list (fl.map fun e => valD e.2))), .un, .un]
        ((defBody s_member).drop 1) (poOf (.ok (sh K (valD (match fl with | [] => .nothing | e :: _ => e.2))))) := by
      intro fl
      cases fl with
      | nil => exact sj_last (sj_ret (ev_if (k := false) (EvT.cast (evt_gt (ev_len true (ds := []) X.len (ev_var 2 rfl)) ev_int) rfl) (fun h => by cases h) fun _ => ev_c1 X.NOTHING))
      | cons e fl =>
        refine sj_last (sj_ret (ev_if (k := true) (EvT.cast (evt_gt (ev_len true (ds := valD e.2 :: fl.map fun e => valD e.2) X.len (ev_var 2 rfl)) ev_int) (decide_eq_true ?_)) (fun _ => ev_ixL (ds := valD e.2 :: fl.map fun e => valD e.2) (ev_var 2 rfl) ev_int atI_zero) fun h => by cases h))
        rw [List.length_cons]
        omega
    exact hout ▸ key _
end
end Td
namespace Td
open PySem PySem.Spec PyProof.Rows L2 Tw
theorem record_inv {v : RWire.Value} (h : okV v = true) (hk : kindV v = 8) : ∃ l, v = .record l := by
  cases v with
  | record l => exact ⟨l, rfl⟩
  | bool b => cases b <;> cases hk
  | big _ => cases h
  | octets _ => cases h
  | wide _ => cases h
  | nothing => cases hk
  | null => cases hk
  | int i => cases hk
  | text u => cases hk
  | list l => cases hk
theorem list_inv {v : RWire.Value} (h : okV v = true) (hk : kindV v = 7) : ∃ l, v = .list l := by
  cases v with
  | list l => exact ⟨l, rfl⟩
  | bool b => cases b <;> cases hk
  | big _ => cases h
  | octets _ => cases h
  | wide _ => cases h
  | nothing => cases hk
  | null => cases hk
  | int i => cases hk
  | text u => cases hk
  | record l => cases hk
theorem int_inv {v : RWire.Value} (h : okV v = true) (hk : kindV v = 4) : ∃ i, v = .int i := by
  cases v with
  | int i => exact ⟨i, rfl⟩
  | bool b => cases b <;> cases hk
  | big _ => cases h
  | octets _ => cases h
  | wide _ => cases h
  | nothing => cases hk
  | null => cases hk
  | list l => cases hk
  | text u => cases hk
  | record l => cases hk
theorem kind_eq {v w : RWire.Value} (h : okV v = true) (h' : okV w = true) (e : valD v = valD w) : kindV v = kindV w ∧ tailV v = tailV w := by
  rw [valD_kind h, valD_kind h'] at e
  injection e with e
  injection e with e1 e2
  injection e1 with e1
  exact ⟨Int.ofNat.inj e1, e2⟩
mutual
theorem val_inj : ∀ v w, okV v = true → okV w = true → valD v = valD w → v = w
  | .nothing, w, h, h', e => by
    obtain ⟨k, _⟩ := kind_eq h h' e
    cases w with
    | nothing => rfl
    | bool b => cases b <;> cases k
    | big _ => cases h'
    | octets _ => cases h'
    | wide _ => cases h'
    | _ => cases k
  | .null, w, h, h', e => by
    obtain ⟨k, _⟩ := kind_eq h h' e
    cases w with
    | null => rfl
    | bool b => cases b <;> cases k
    | big _ => cases h'
    | octets _ => cases h'
    | wide _ => cases h'
    | _ => cases k
  | .bool b, w, h, h', e => by
    obtain ⟨k, _⟩ := kind_eq h h' e
    cases w with
    | bool c => cases b <;> cases c <;> first | rfl | cases k
    | big _ => cases h'
    | octets _ => cases h'
    | wide _ => cases h'
    | _ => cases b <;> cases k
  | .int i, w, h, h', e => by
    obtain ⟨k, t⟩ := kind_eq h h' e
    obtain ⟨j, rfl⟩ := int_inv h' k.symm
    injection t with t _
    injection t with t
    rw [t]
  | .big _, _, h, _, _ => by cases h
  | .text u, w, h, h', e => by
    obtain ⟨k, t⟩ := kind_eq h h' e
    cases w with
    | text x =>
      injection t with t _
      injection t with t
      rw [octD_inj t]
    | bool b => cases b <;> cases k
    | big _ => cases h'
    | octets _ => cases h'
    | wide _ => cases h'
    | _ => cases k
  | .octets _, _, h, _, _ => by cases h
  | .wide _, _, h, _, _ => by cases h
  | .list l, w, h, h', e => by
    obtain ⟨k, t⟩ := kind_eq h h' e
    obtain ⟨m, rfl⟩ := list_inv h' k.symm
    injection t with t _
    injection t with t
    rw [vals_inj l m h h' t]
  | .record l, w, h, h', e => by
    obtain ⟨k, t⟩ := kind_eq h h' e
    obtain ⟨m, rfl⟩ := record_inv h' k.symm
    injection t with t _
    injection t with t
    rw [valFs_inj l m h h' t]
theorem vals_inj : ∀ l m, okVs l = true → okVs m = true → valDs l = valDs m → l = m
  | [], [], _, _, _ => rfl
  | [], _ :: _, _, _, e => by cases e
  | _ :: _, [], _, _, e => by cases e
  | v :: l, w :: m, h, h', e => by
    have h : (okV v && okVs l) = true := h
    have h' : (okV w && okVs m) = true := h'
    rw [Bool.and_eq_true] at h h'
    injection e with e1 e2
    rw [val_inj v w h.1 h'.1 e1, vals_inj l m h.2 h'.2 e2]
theorem valFs_inj : ∀ l m : List (RWire.Text × RWire.Value), okFs l = true → okFs m = true → valFs l = valFs m → l = m
  | [], [], _, _, _ => rfl
  | [], _ :: _, _, _, e => by cases e
  | _ :: _, [], _, _, e => by cases e
  | (a, v) :: l, (b, w) :: m, h, h', e => by
    have h : (okV v && okFs l) = true := h
    have h' : (okV w && okFs m) = true := h'
    rw [Bool.and_eq_true] at h h'
    injection e with e1 e2
    injection e1 with e1
    injection e1 with e3 e4
    injection e3 with e3
    injection e4 with e4 _
    have q1 : a = b := octD_inj e3
    have q2 := val_inj v w h.1 h'.1 e4
    have q3 := valFs_inj l m h.2 h'.2 e2
    subst q1 q2 q3
    rfl
end
theorem find_val {l : List RWire.Value} (h : okVs l = true) {v : RWire.Value} (hv : v ∈ l) : (l.find? fun x => PyData.eqv (valD x) (valD v)) = some v := by
  have ok := okVs_mem h
  cases e : l.find? fun x => PyData.eqv (valD x) (valD v) with
  | none =>
    have := List.find?_eq_none.mp e v hv
    exact absurd ((eqv_pl _ _ (val_pl v (ok v hv)) (val_pl v (ok v hv))).mpr rfl) this
  | some x =>
    have hx := List.mem_of_find?_eq_some e
    have q := List.find?_some e
    rw [val_inj x v (ok x hx) (ok v hv) ((eqv_pl _ _ (val_pl x (ok x hx)) (val_pl v (ok v hv))).mp q)]
def kindsL : List TKind := [.head, .tail, .skip, .chop]
theorem kind_first (v : RWire.Value) : ((kindsL.filter fun k => isText v (kO k)).head?) = kindM v := by
  unfold kindsL kindM
  rw [List.filter_cons, List.filter_cons, List.filter_cons, List.filter_cons, List.filter_nil]
  show (if isText v headO = true then _ else _ : List TKind).head? = _
  by_cases h1 : isText v headO = true
  · rw [if_pos h1, if_pos h1]; rfl
  · rw [if_neg h1, if_neg h1]
    show (if isText v tailO = true then _ else _ : List TKind).head? = _
    by_cases h2 : isText v tailO = true
    · rw [if_pos h2, if_pos h2]; rfl
    · rw [if_neg h2, if_neg h2]
      show (if isText v skipO = true then _ else _ : List TKind).head? = _
      by_cases h3 : isText v skipO = true
      · rw [if_pos h3, if_pos h3]; rfl
      · rw [if_neg h3, if_neg h3]
        show (if isText v chopO = true then _ else _ : List TKind).head? = _
        by_cases h4 : isText v chopO = true
        · rw [if_pos h4, if_pos h4]; rfl
        · rw [if_neg h4, if_neg h4]; rfl
/-- every list in it is short -/
def shortR (v : RWire.Value) : Prop := ∀ l, v = .record l → l.length ≤ 100000
section
variable {P : Program} {w : World} {K : Frag} {mg : Str → Option Value} {base : Heap} {T : List NTab} {C : Addr}
def S_stepof (K : Frag) : RWire.Value → Pr := fun v => ⟨okV v = true ∧ shortR v, [sh K (valD v)], .ok (sh K (stepO (stepM v)))⟩
abbrev s_stepof : Stmt := top 58
theorem sc_stepof : FnScope ["value", "good", "count", "kind"] ["value"] (defScope s_stepof) := ⟨rfl, rfl, rfl, by decide +kernel, rfl, by decide +kernel, by decide +kernel⟩
theorem ok_stepof {f : Addr} {fd : FuncData} (F : Fun K "step_of" "step_of" s_stepof f fd) (X : Txt K mg) (f_member : Fn P w K mg base CX0 2 "member" ["value", "name"] (spF T C (S_member K))) (f_text : Fn P w K mg base CX0 2 "text" ["string"] (spF T C (S_text K))) : FnOk P w K mg base CX0 3 f fd ["value"] (spF T C (S_stepof K)) := by
  refine def_ok F sc_stepof (fun _ => rfl) fun v hv cdv A outer s H E hr => ?_
  obtain ⟨hok, hsh⟩ : okV v = true ∧ shortR v := hv
  by_cases hk : kindV v = 8
  · obtain ⟨l, rfl⟩ := record_inv hok hk
    have hl := hsh l rfl
    have hokl : okFs l = true := hok
    have okK := member_ok hokl kindO
    have okC := member_ok hokl countO
    refine sj_cons (sj_if (EvT.cast (evt_neI (ev_ixT (ds := [.int 8, .tuple (valFs l)]) (ev_var 0 rfl) ev_int) (ev_ci X.RECORD)) rfl) (fun h => by cases h) fun _ => ?_)
    have eg : ((kindsL.map fun k => PyData.str (kS k)).filter (fun d => match d with
        | .str s => PyData.eqv (valD (memberM l kindO)) (textD s)
        | _ => false)).map (fun d => d) = (kindsL.filter fun k => isText (memberM l kindO) (kO k)).map fun k => PyData.str (kS k) := by
      rw [List.map_id', List.filter_map]
      refine congrArg (List.map _) (List.filter_congr fun k _ => ?_)
      show PyData.eqv (valD (memberM l kindO)) (textD (kS k)) = _
      rw [textD_nm (nm_k k), text_eqv okK]
    refine sj_nil (sj_cons (sj_setLc 1 (own := [("kind", 3)]) (ds := kindsL.map fun k => PyData.str (kS k)) (f := fun d => match d with
      | .str s => PyData.eqv (valD (memberM l kindO)) (textD s)
      | _ => false) (g := fun d => d) false rfl sc_stepof.nd (ev_ct (ds := kindsL.map fun k => PyData.str (kS k)) X.KINDS (fun F => ⟨_, _, rfl, rfl, _, _, rfl, rfl, _, _, rfl, rfl, _, _, rfl, rfl, rfl⟩)) (blkOk_by (N := ["value", "good", "count", "kind"]) (sc := defScope s_stepof) (by decide +kernel)) (fun _ _ _ _ _ => pg_name sc_stepof.nd rfl (.inl rfl)) (tgt_name 3) (fun _ _ => trivial) ?_ ⟨fun d hd s H C cl fp => ?_, fun d hd _ s H C cl fp => ?_⟩ ?_))
    · exact small_of (n := 4) (m := 10) (by decide) rfl
    · obtain ⟨k, _, rfl⟩ := List.mem_map.mp hd
      refine evts_one (evt_eqF (u64 hr) (val_pl _ okK) (by rw [textD_nm (nm_k k)]; exact val_pl _ rfl) (Nat.le_trans (Nat.min_le_right _ _) (by rw [textD_nm (nm_k k)]; exact Nat.le_trans (text_depth _) (by decide))) (ev_call f_member hr (by decide) (⟨l, "kind", kindO⟩ : iMem) ⟨nm_kind, hl⟩ rfl (eva_cons (ev_var 0 rfl) (eva_cons ev_str eva_nil))) (ev_call f_text hr (by decide) (kS k) (nm_k k).s rfl (eva_cons (ev_var 3 rfl) eva_nil)))
    · obtain ⟨k, _, rfl⟩ := List.mem_map.mp hd
      exact ev_var 3 rfl
    · rw [eg]
      show SJs _ _ _ _ (poOf (.ok (sh K (stepO (stepM (.record l))))))
      have hsm : stepM (.record l) = match (kindsL.filter fun k => isText (memberM l kindO) (kO k)).head?, countM (memberM l countO) 1000000 with
        | some k, some n => some ⟨k, n⟩
        | _, _ => none := by rw [kind_first]; rfl
      rw [hsm]
      generalize (kindsL.filter fun k => isText (memberM l kindO) (kO k)) = ks
      refine sj_cons (sj_set 2 (P := sh K (valD (memberM l countO))) (ev_call f_member hr (by decide) (⟨l, "count", countO⟩ : iMem) ⟨nm_count, hl⟩ rfl (eva_cons (ev_var 0 rfl) (eva_cons ev_str eva_nil))) ?_ sc_stepof.nd)
      generalize memberM l countO = c at okC ⊢
      cases ks with
      | nil =>
        refine sj_cons (sj_if (EvW.t (evw_or (k := true) (l := false) (EvT.cast (evt_eqI (ev_len true (ds := []) X.len (ev_var 1 rfl)) ev_int) rfl) (fun h => by cases h))) (fun _ => ?_) fun h => by cases h)
        exact sj_last (sj_ret ev_non)
      | cons k ks =>
        have hne : decide (((PyData.str (kS k) :: ks.map fun k => PyData.str (kS k)).length : Int) = 0) = false := decide_eq_false (by rw [List.length_cons]; omega)
        by_cases hi : kindV c = 4
        · obtain ⟨i, rfl⟩ := int_inv okC hi
          refine sj_cons (sj_if (EvW.t (evw_or (EvT.cast (evt_eqI (ev_len true (ds := PyData.str (kS k) :: ks.map fun k => PyData.str (kS k)) X.len (ev_var 1 rfl)) ev_int) hne) (fun _ => evw_or (k := false) (EvT.cast (evt_neI (ev_ixT (ds := [.int 4, .int i]) (ev_var 2 rfl) ev_int) (ev_ci X.INTEGER)) rfl) (fun _ => evw_or1 (evt_not (evt_chain_le ev_int (ev_ixT (ds := [.int 4, .int i]) (ev_var 2 rfl) ev_int) (ev_ci X.MOST_COUNT_desk))))))) (fun h => ?_) fun h => ?_)
          · rw [Bool.false_or, Bool.false_or, Bool.not_eq_true', Bool.and_eq_false_iff, decide_eq_false_iff_not, decide_eq_false_iff_not] at h
            refine sj_last (sj_ret (ev_non.cast ?_))
            have : countM (.int i) 1000000 = none := by
              show (if 0 ≤ i ∧ i ≤ 1000000 then some i.toNat else none) = none
              rw [if_neg (by omega)]
            rw [this]
            rfl
          · rw [Bool.false_or, Bool.false_or, Bool.not_eq_false', Bool.and_eq_true, decide_eq_true_iff, decide_eq_true_iff] at h
            have : countM (.int i) 1000000 = some i.toNat := by
              show (if 0 ≤ i ∧ i ≤ 1000000 then some i.toNat else none) = _
              rw [if_pos h]
            rw [this]
            refine sj_nil (sj_last (sj_ret (Ev.cast (ev_tup (ds := [.str (kS k), .int i]) (eva_cons (ev_ixL (ds := PyData.str (kS k) :: ks.map fun k => PyData.str (kS k)) (ev_var 1 rfl) ev_int atI_zero) (eva_cons (ev_ixT (ds := [.int 4, .int i]) (ev_var 2 rfl) ev_int) eva_nil))) ?_)))
            show PyData.tuple [.str (kS k), .int i] = PyData.tuple [.str (kS k), .int (i.toNat : Int)]
            rw [Int.toNat_of_nonneg h.1]
        · have hc : countM c 1000000 = none := by
            cases c with
            | int i => exact absurd rfl hi
            | _ => rfl
          rw [hc]
          show SJs _ _ _ _ _
          refine sj_cons (sj_if (EvW.t (evw_or (EvT.cast (evt_eqI (ev_len true (ds := PyData.str (kS k) :: ks.map fun k => PyData.str (kS k)) X.len (ev_var 1 rfl)) ev_int) hne) (fun _ => evw_or (k := true) (l := false) (EvT.cast (evt_neI (ev_ixT (ds := .int (kindV c) :: tailV c) (ev_var (P := sh K (.tuple (.int (kindV c) :: tailV c))) 2 (by rw [← valD_kind okC]; rfl)) ev_int atI_zero) (ev_ci X.INTEGER)) (by rw [decide_eq_false (by omega)]; rfl)) (fun h => by cases h)))) (fun _ => ?_) fun h => by cases h)
          exact sj_last (sj_ret ev_non)
  · have hs : stepM v = none := by
      cases v with
      | record l => exact absurd rfl hk
      | _ => rfl
    show SJs _ _ [.sh (sh K (valD v)), .un, .un, .un] _ (poOf (.ok (sh K (stepO (stepM v)))))
    rw [hs, valD_kind hok]
    refine sj_cons (sj_if (evt_neI (ev_ixT (ds := .int (kindV v) :: tailV v) (ev_var 0 rfl) ev_int atI_zero) (ev_ci X.RECORD)) (fun _ => ?_) fun h => ?_)
    · exact sj_last (sj_ret ev_non)
    · exfalso
      rw [Bool.not_eq_false', decide_eq_true_iff] at h
      omega
/-! ### the pipeline that an argument is -/
structure iPipe where
  v : RWire.Value
  n : Str
def shortL (v : RWire.Value) : Prop := ∀ l, v = .list l → l.length ≤ 100000 ∧ ∀ x ∈ l, shortR x
def S_needp (K : Frag) : iPipe → Pr := fun i => ⟨okV i.v = true ∧ shortL i.v ∧ i.n.length ≤ 100, [sh K (valD i.v), sh K (.str i.n)], match pipeM i.v with
  | some p => .ok (sh K (.list (stepsL p)))
  | none => .err 1 (fewS i.n)⟩
abbrev s_needp : Stmt := top 60
theorem sc_needp : FnScope ["value", "name", "right", "found", "own"] ["value", "name"] (defScope s_needp) := ⟨rfl, rfl, rfl, by decide +kernel, rfl, by decide +kernel, by decide +kernel⟩
theorem notnone_in (l : List (Option TStep)) : (!(l.map stepO).any fun z => PyData.eqv z .none) = (R7256f.Spec.allSome l).isSome := by
  rw [none_in]
  cases h : R7256f.Spec.allSome l with
  | none =>
    have := allSome_none.mp h
    rw [List.any_eq_true.mpr ⟨none, this, rfl⟩]
    rfl
  | some m =>
    rw [allSome_some h]
    have : (m.map some).any Option.isNone = false := by
      rw [List.any_map]
      exact List.any_eq_false.mpr fun x _ => by simp
    rw [this]
    rfl
theorem ok_needp {f : Addr} {fd : FuncData} (F : Fun K "need_pipeline" "need_pipeline" s_needp f fd) (X : Txt K mg) (f_few : Fn P w K mg base (CXL P w) 4 "need_few" ["is_right", "name"] (spF T C (S_few K))) (f_step : Fn P w K mg base CX0 3 "step_of" ["value"] (spF T C (S_stepof K))) : FnOk P w K mg base (CXL P w) 5 f fd ["value", "name"] (spF T C (S_needp K)) := by
  refine def_okX F sc_needp (fun _ => rfl) fun ⟨v, n⟩ hv cdv A outer s H E hr tk => ?_
  obtain ⟨hok, hsh, hn⟩ : okV v = true ∧ shortL v ∧ n.length ≤ 100 := hv
  -- the end: what was found
  have fin : ∀ (γ : Gm) (right : Bool) (os : List (Option TStep)), pipeM v = (if right = true then R7256f.Spec.allSome os else none) → γ = [.sh (sh K (valD v)), .sh (sh K (.str n)), .sh (sh K (.bool right)), .sh (sh K (.list (os.map stepO))), .un] →
      SJs (cxOf (L2N.CX P w) P w K mg base ["value", "name", "right", "found", "own"] "need_pipeline" (defScope s_needp) f cdv A outer s H E) ⟨T, C, E⟩ γ ((defBody s_needp).drop 2) (poOf (S_needp K ⟨v, n⟩).out) := by
    rintro γ right os hp rfl
    have hout : (S_needp K ⟨v, n⟩).out = match pipeM v with
      | some p => .ok (sh K (.list (stepsL p)))
      | none => .err 1 (fewS n) := rfl
    rw [hout]
    have ev : ∀ b : Bool, b = (right && (R7256f.Spec.allSome os).isSome) → Ev (cxOf (L2N.CX P w) P w K mg base ["value", "name", "right", "found", "own"] "need_pipeline" (defScope s_needp) f cdv A outer s H E) T [.sh (sh K (valD v)), .sh (sh K (.str n)), .sh (sh K (.bool right)), .sh (sh K (.list (os.map stepO))), .un]
        (match (defBody s_needp).getD 2 (.Pass ⟨0, 0, 0, 0⟩) with | .Expr (.Call _ [e, _] _ _) _ => e | _ => .Constant .none 0 ⟨0, 0, 0, 0⟩) (sh K (.bool b)) := fun b hb => by
      subst hb
      refine Ev.cast (ev_and (ev_var 2 rfl) (fun _ => ev_one (ev_notInDL (d := .none) (ds := os.map stepO) (u65 hr) rfl (opts_shaped os) ev_non (ev_var 3 rfl)))) ?_
      rw [notnone_in]
    cases hq : pipeM v with
    | some p =>
      rw [hq] at hp
      have hr1 : right = true := by
        cases right with
        | true => rfl
        | false => cases hp
      subst hr1
      rw [if_pos rfl] at hp
      refine sj_cons (sj_expr (P := sh K .none) (ev_callX f_few hr (by decide) (true, n) hn rfl (eva_cons (ev true (by rw [← hp]; rfl)) (eva_cons (ev_var 1 rfl) eva_nil))) ?_)
      refine sj_last (sj_ret (Ev.cast (ev_var 3 rfl) ?_))
      rw [allSome_some hp.symm, List.map_map]
      rfl
    | none =>
      refine sj_cons (sj_exprErr (o := 1) (m := fewS n) (ev_callErr f_few tk hr (by decide) (false, n) hn rfl (eva_cons (ev false ?_) (eva_cons (ev_var 1 rfl) eva_nil))) ⟨rfl, rfl⟩)
      rw [hq] at hp
      cases right with
      | false => rfl
      | true =>
        rw [if_pos rfl] at hp
        rw [← hp]
        rfl
  by_cases hk : kindV v = 7
  · obtain ⟨l, rfl⟩ := list_inv hok hk
    obtain ⟨hl, hr1⟩ := hsh l rfl
    have hok' : okVs l = true := hok
    refine sj_cons (sj_set 2 (P := sh K (.bool (decide (l.length ≤ 20)))) (Ev.cast (ev_and (k := true) (l := decide (l.length ≤ 20)) (Ev.cast (ev_eqI (ev_ixT (ds := [.int 7, .tuple (valDs l)]) (ev_var 0 rfl) ev_int) (ev_ci X.LIST)) rfl) (fun _ => ev_one (Ev.cast (ev_le (ev_len false (ds := valDs l) X.len (ev_ixT (ds := [.int 7, .tuple (valDs l)]) (ev_var 0 rfl) ev_int)) (ev_ci X.MOST_STEPS)) (congrArg PyData.bool (decide_eq_decide.mpr (by rw [valDs_map, List.length_map]; omega)))))) rfl) ?_ sc_needp.nd)
    by_cases h20 : l.length ≤ 20
    · refine sj_cons (sj_set 3 (P := sh K (.list ((l.map stepM).map stepO))) (EvN.sh (evn_if (k := true) (EvT.cast (evt_val (ev_var 2 rfl)) (decide_eq_true h20)) (fun _ => EvN.cast (evn_lc (own := [("own", 4)]) (ds := valDs l) (f := fun _ => true) (g := fun d => stepO (stepM ((l.find? fun v => PyData.eqv (valD v) d).getD .nothing))) false rfl sc_needp.nd (ev_ixT (ds := [.int 7, .tuple (valDs l)]) (ev_var 0 rfl) ev_int) (blkOk_by (N := ["value", "name", "right", "found", "own"]) (sc := defScope s_needp) (by decide +kernel)) (fun _ _ _ _ _ => pg_name sc_needp.nd rfl (.inl rfl)) (tgt_name 4) (fun _ _ => trivial) ?_ ⟨fun d hd s H C cl fp => evts_nil, fun d hd _ s H C cl fp => ?_⟩) ?_) fun h => by cases h)) ?_ sc_needp.nd)
      · rw [valDs_map, List.length_map]
        exact small_of (m := 200000) (by omega) rfl
      · rw [valDs_map] at hd
        obtain ⟨x, hx, rfl⟩ := List.mem_map.mp hd
        refine Ev.cast (ev_call f_step hr (by decide) x ⟨okVs_mem hok' x hx, hr1 x hx⟩ rfl (eva_cons (ev_var 4 rfl) eva_nil)) ?_
        rw [find_val hok' hx]
        rfl
      · rw [filter_all, valDs_map, List.map_map, List.map_map]
        refine List.map_congr_left fun x hx => ?_
        show stepO (stepM ((l.find? fun v => PyData.eqv (valD v) (valD x)).getD .nothing)) = stepO (stepM x)
        rw [find_val hok' hx]
        rfl
      · exact fin _ (decide (l.length ≤ 20)) (l.map stepM) (by rw [if_pos (decide_eq_true h20)]; show (if l.length ≤ 20 then _ else _) = _; rw [if_pos h20]) rfl
    · refine sj_cons (sj_set 3 (P := sh K (.list [])) (EvN.sh (evn_if (k := false) (EvT.cast (evt_val (ev_var 2 rfl)) (decide_eq_false h20)) (fun h => by cases h) fun _ => evn_lst (ds := []) eva_nil)) ?_ sc_needp.nd)
      exact fin _ (decide (l.length ≤ 20)) [] (by rw [if_neg (by simpa using h20)]; show (if l.length ≤ 20 then _ else _) = _; rw [if_neg h20]) rfl
  · have hs : pipeM v = none := by
      cases v with
      | list l => exact absurd rfl hk
      | _ => rfl
    refine sj_cons (sj_set 2 (P := sh K (.bool false)) (Ev.cast (ev_and (k := false) (l := false) (Ev.cast (ev_eqI (ev_ixT (ds := .int (kindV v) :: tailV v) (ev_var (P := sh K (.tuple (.int (kindV v) :: tailV v))) 0 (by rw [← valD_kind hok]; rfl)) ev_int atI_zero) (ev_ci X.LIST)) (congrArg PyData.bool (decide_eq_false (by omega)))) (fun h => by cases h)) rfl) ?_ sc_needp.nd)
    refine sj_cons (sj_set 3 (P := sh K (.list [])) (EvN.sh (evn_if (k := false) (evt_val (ev_var 2 rfl)) (fun h => by cases h) fun _ => evn_lst (ds := []) eva_nil)) ?_ sc_needp.nd)
    exact fin _ false [] (by rw [hs]; rfl) rfl
end
end Td
namespace Td
open PySem PySem.Spec PyProof.Rows L2 Tw
open Tl (NP pwin wstep norm maxL nOf)
def numS (n : Str) (most : Nat) : Str := n ++ " must be an integer from 0 to " ++ toString (most : Int)
structure iNeedn where
  v : RWire.Value
  most : Nat
  n : Str
section
variable {P : Program} {w : World} {K : Frag} {mg : Str → Option Value} {base : Heap} {T : List NTab} {C CN : Addr}
def S_needn (K : Frag) : iNeedn → Pr := fun i => ⟨okV i.v = true ∧ i.most ≤ 1000000000 ∧ i.n.length ≤ 100 ∧ (toString (i.most : Int) : Str).length ≤ 100, [sh K (valD i.v), sh K (.int i.most), sh K (.str i.n)], match countM i.v i.most with
  | some n => .ok (sh K (.int n))
  | none => .err 2 (numS i.n i.most)⟩
abbrev s_needn : Stmt := top 61
theorem sc_needn : FnScope ["value", "most", "name", "right"] ["value", "most", "name"] (defScope s_needn) := ⟨rfl, rfl, rfl, by decide +kernel, rfl, by decide +kernel, by decide +kernel⟩
theorem log_small {m : Int} (h0 : 0 ≤ m) (h1 : m ≤ 1000000001) : m.natAbs.log2 < 1920 := by
  by_cases z : m.natAbs = 0
  · rw [z]; decide
  · have := (Nat.log2_lt z (k := 30)).mpr (by show m.natAbs < 1073741824; omega)
    omega
theorem str_app (a b : Str) : (a ++ b).length = a.length + b.length := by
  show (a.cps ++ b.cps).size = _
  rw [Array.size_append]
  rfl
theorem ok_needn {f : Addr} {fd : FuncData} (F : Fun K "need_number" "need_number" s_needn f fd) (X : Txt K mg) (f_oor : Fn P w K mg base (CXL P w) 3 "out_of_range" ["wrong", "message"] (spF T C (S_wk K 2))) : FnOk P w K mg base (CXL P w) 4 f fd ["value", "most", "name"] (spF T C (S_needn K)) := by
  refine def_okX F sc_needn (fun _ => rfl) fun ⟨v, m, n⟩ hv cdv A outer s H E hr tk => ?_
  obtain ⟨hok, hm, hn, ht⟩ : okV v = true ∧ m ≤ 1000000000 ∧ n.length ≤ 100 ∧ (toString (m : Int) : Str).length ≤ 100 := hv
  have h50 : (" must be an integer from 0 to " : Str).length ≤ 50 := by decide +kernel
  have l1 : n.length + (" must be an integer from 0 to " : Str).length ≤ sizeLine := size_le (m := 200) (by omega) rfl
  have l2 : (n ++ " must be an integer from 0 to ").length + (toString (m : Int) : Str).length ≤ sizeLine := size_le (m := 300) (by rw [str_app]; omega) rfl
  have hout : (S_needn K ⟨v, m, n⟩).out = match countM v m with
    | some n => .ok (sh K (.int n))
    | none => .err 2 (numS n m) := rfl
  have msg : ∀ b : Bool, EvA (cxOf (L2N.CX P w) P w K mg base ["value", "most", "name", "right"] "need_number" (defScope s_needn) f cdv A outer s H E) T [.sh (sh K (valD v)), .sh (sh K (.int m)), .sh (sh K (.str n)), .sh (sh K (.bool b))]
      (match (defBody s_needn).getD 1 (.Pass ⟨0, 0, 0, 0⟩) with | .Expr (.Call _ es _ _) _ => es | _ => []) [sh K (.bool (!b)), sh K (.str (numS n m))] := fun b =>
    eva_cons (ev_not (ev_var 3 rfl)) (eva_cons (ev_catS l2 (ev_catS l1 (ev_var 2 rfl) ev_str) (ev_strI (log_small (by omega) (by omega)) X.str (ev_var 1 rfl))) eva_nil)
  by_cases hk : kindV v = 4
  · obtain ⟨i, rfl⟩ := int_inv hok hk
    refine sj_cons (sj_set 3 (P := sh K (.bool (decide (0 ≤ i) && decide (i ≤ m)))) (Ev.cast (ev_and (k := true) (Ev.cast (ev_eqI (ev_ixT (ds := [.int 4, .int i]) (ev_var 0 rfl) ev_int) (ev_ci X.INTEGER)) rfl) (fun _ => ev_one (ev_chain_le ev_int (ev_ixT (ds := [.int 4, .int i]) (ev_var 0 rfl) ev_int) (ev_var 1 rfl)))) rfl) ?_ sc_needn.nd)
    show SJs _ _ _ _ (poOf (match countM (.int i) m with
      | some n => .ok (sh K (.int n))
      | none => .err 2 (numS n m)))
    by_cases h : 0 ≤ i ∧ i ≤ m
    · have hc : countM (.int i) m = some i.toNat := by
        show (if 0 ≤ i ∧ i ≤ m then some i.toNat else none) = _
        rw [if_pos h]
      rw [hc]
      have hb : (decide (0 ≤ i) && decide (i ≤ (m : Int))) = true := by rw [decide_eq_true h.1, decide_eq_true h.2]; rfl
      rw [hb]
      refine sj_cons (sj_expr (P := sh K .none) (ev_callX f_oor hr (by decide) (false, numS n m) trivial rfl (msg true)) ?_)
      refine sj_last (sj_ret (Ev.cast (ev_ixT (ds := [.int 4, .int i]) (ev_var 0 rfl) ev_int) ?_))
      rw [Int.toNat_of_nonneg h.1]
    · have hc : countM (.int i) m = none := by
        show (if 0 ≤ i ∧ i ≤ m then some i.toNat else none) = _
        rw [if_neg h]
      rw [hc]
      have hb : (decide (0 ≤ i) && decide (i ≤ (m : Int))) = false := by
        rw [Bool.and_eq_false_iff, decide_eq_false_iff_not, decide_eq_false_iff_not]
        omega
      rw [hb]
      exact sj_cons (sj_exprErr (o := 2) (m := numS n m) (ev_callErr f_oor tk hr (by decide) (true, numS n m) trivial rfl (msg false)) ⟨rfl, rfl⟩)
  · have hc : countM v m = none := by
      cases v with
      | int i => exact absurd rfl hk
      | _ => rfl
    rw [hout, hc]
    refine sj_cons (sj_set 3 (P := sh K (.bool false)) (Ev.cast (ev_and (k := false) (l := false) (Ev.cast (ev_eqI (ev_ixT (ds := .int (kindV v) :: tailV v) (ev_var (P := sh K (.tuple (.int (kindV v) :: tailV v))) 0 (by rw [← valD_kind hok]; rfl)) ev_int atI_zero) (ev_ci X.INTEGER)) (congrArg PyData.bool (decide_eq_false (by omega)))) (fun h => by cases h)) rfl) ?_ sc_needn.nd)
    exact sj_cons (sj_exprErr (o := 2) (m := numS n m) (ev_callErr f_oor tk hr (by decide) (true, numS n m) trivial rfl (msg false)) ⟨rfl, rfl⟩)
/-! ### told -/
def stepV (s : TStep) : RWire.Value := .record [(kindO, .text (kO s.kind)), (countO, .int s.count)]
def pipeV (p : Pipe) : RWire.Value := .list (p.map stepV)
def winV (w : Nat × Nat) : RWire.Value := .record [(startO, .int w.1), (endO, .int w.2)]
def nullV : Option Nat → RWire.Value
  | none => .null
  | some n => .int n
def lenV : Option (Nat × Option Nat) → RWire.Value
  | none => .null
  | some e => .record [(fromO, .int e.1), (toO, nullV e.2)]
theorem rec1 {x : Str} {l : List UInt8} (n : Nm x l) (a : RWire.Value) : recD [(x, valD a)] = valD (.record [(l, a)]) := by
  unfold recD
  rw [List.map_cons, List.map_nil, n.e]
  rfl
theorem rec2 {x1 x2 : Str} {l1 l2 : List UInt8} (n1 : Nm x1 l1) (n2 : Nm x2 l2) (a b : RWire.Value) : recD [(x1, valD a), (x2, valD b)] = valD (.record [(l1, a), (l2, b)]) := by
  unfold recD
  rw [List.map_cons, List.map_cons, List.map_nil, n1.e, n2.e]
  rfl
theorem rec3 {x1 x2 x3 : Str} {l1 l2 l3 : List UInt8} (n1 : Nm x1 l1) (n2 : Nm x2 l2) (n3 : Nm x3 l3) (a b c : RWire.Value) : recD [(x1, valD a), (x2, valD b), (x3, valD c)] = valD (.record [(l1, a), (l2, b), (l3, c)]) := by
  unfold recD
  rw [List.map_cons, List.map_cons, List.map_cons, List.map_nil, n1.e, n2.e, n3.e]
  rfl
section
variable {X : Cx} {γ : Gm} {p0 p1 p2 p3 p4 : Pos} {a b c : Expr} {x1 x2 x3 : Str} {j k1 k2 k3 m1 m2 m3 : Nat} {q1 q2 q3 : Pos}
theorem ev_rec2 {l1 l2 : List UInt8} {u v : RWire.Value} (f_record : Fn X.prog X.w X.K X.mg X.base CX0 2 "record" ["pairs"] (spF T C (S_record X.K))) (hr : Room j X.A) (hj : 2 ≤ j) (n1 : Nm x1 l1) (n2 : Nm x2 l2) (ha : Ev X T γ a (sh X.K (valD u))) (hb : Ev X T γ b (sh X.K (valD v))) (hg : Gl X "record" := by rfl)
    (sa : starEach [a] X.env = (false, eval a X.env) :: starEach [] X.env := by rfl) (sb : starEach [b] X.env = (false, eval b X.env) :: starEach [] X.env := by rfl) (t1 : starEach [.Constant (.str x1) k1 q1, a] X.env = (false, eval (.Constant (.str x1) k1 q1) X.env) :: starEach [a] X.env := by rfl) (t2 : starEach [.Constant (.str x2) k2 q2, b] X.env = (false, eval (.Constant (.str x2) k2 q2) X.env) :: starEach [b] X.env := by rfl)
    (s1 : starEach [.Tuple [.Constant (.str x1) k1 q1, a] m1 p2, .Tuple [.Constant (.str x2) k2 q2, b] m2 p3] X.env = (false, eval (.Tuple [.Constant (.str x1) k1 q1, a] m1 p2) X.env) :: starEach [.Tuple [.Constant (.str x2) k2 q2, b] m2 p3] X.env := by rfl) (s2 : starEach [.Tuple [.Constant (.str x2) k2 q2, b] m2 p3] X.env = (false, eval (.Tuple [.Constant (.str x2) k2 q2, b] m2 p3) X.env) :: starEach [] X.env := by rfl)
    (s3 : starEach [.List [.Tuple [.Constant (.str x1) k1 q1, a] m1 p2, .Tuple [.Constant (.str x2) k2 q2, b] m2 p3] p4] X.env = (false, eval (.List [.Tuple [.Constant (.str x1) k1 q1, a] m1 p2, .Tuple [.Constant (.str x2) k2 q2, b] m2 p3] p4) X.env) :: starEach [] X.env := by rfl) (hpl : (backTo p0 (starEach [] X.env)).any (·.1) = false := by rfl) :
    Ev X T γ (.Call (.Name "record" p1) [.List [.Tuple [.Constant (.str x1) k1 q1, a] m1 p2, .Tuple [.Constant (.str x2) k2 q2, b] m2 p3] p4] [] p0) (sh X.K (valD (.record [(l1, u), (l2, v)]))) :=
  Ev.cast (ev_call f_record hr hj [(x1, valD u), (x2, valD v)] ⟨by show 2 ≤ 10; decide, fun p hp => by
    rcases List.mem_cons.mp hp with rfl | hp
    · exact n1.s
    · rw [List.mem_singleton.mp hp]
      exact n2.s⟩ rfl (eva_cons (EvN.sh (evn_lst (ds := [.tuple [.str x1, valD u], .tuple [.str x2, valD v]]) (eva_cons (ev_tup (ds := [.str x1, valD u]) (eva_cons ev_str (eva_cons ha eva_nil sa) t1)) (eva_cons (ev_tup (ds := [.str x2, valD v]) (eva_cons ev_str (eva_cons hb eva_nil sb) t2)) eva_nil s2) s1))) eva_nil s3) hg (by decide) s3 hpl) (rec2 n1 n2 u v)
end
abbrev s_toldw : Stmt := top 63
def S_toldw (K : Frag) : Nat × Nat → Pr := fun u => ⟨True, [sh K (winD u)], .ok (sh K (valD (winV u)))⟩
theorem sc_toldw : FnScope ["own"] ["own"] (defScope s_toldw) := ⟨rfl, rfl, rfl, by decide +kernel, rfl, by decide +kernel, by decide +kernel⟩
theorem ok_toldw {f : Addr} {fd : FuncData} (F : Fun K "told_window" "told_window" s_toldw f fd) (f_record : Fn P w K mg base CX0 2 "record" ["pairs"] (spF T C (S_record K))) (f_integer : Fn P w K mg base CX0 1 "integer" ["number"] (spF T C (S_integer K))) : FnOk P w K mg base CX0 3 f fd ["own"] (spF T C (S_toldw K)) := by
  refine def_ok F sc_toldw (fun _ => rfl) fun u _ cdv A outer s H E hr => ?_
  exact sj_last (sj_ret' (d := valD (winV u)) (ev_rec2 (u := .int u.1) (v := .int u.2) f_record hr (by decide) nm_start nm_end (ev_call f_integer hr (by decide) (u.1 : Int) trivial rfl (eva_cons (ev_ixT (ds := [.int u.1, .int u.2]) (ev_var 0 rfl) ev_int) eva_nil)) (ev_call f_integer hr (by decide) (u.2 : Int) trivial rfl (eva_cons (ev_ixT (ds := [.int u.1, .int u.2]) (ev_var 0 rfl) ev_int) eva_nil))) rfl)
abbrev s_toldl : Stmt := top 64
def S_toldl (K : Frag) : Option (Nat × Option Nat) → Pr := fun u => ⟨True, [sh K (lenD u)], .ok (sh K (valD (lenV u)))⟩
theorem sc_toldl : FnScope ["found"] ["found"] (defScope s_toldl) := ⟨rfl, rfl, rfl, by decide +kernel, rfl, by decide +kernel, by decide +kernel⟩
theorem ok_toldl {f : Addr} {fd : FuncData} (F : Fun K "told_lengths" "told_lengths" s_toldl f fd) (X : Txt K mg) (f_record : Fn P w K mg base CX0 2 "record" ["pairs"] (spF T C (S_record K))) (f_integer : Fn P w K mg base CX0 1 "integer" ["number"] (spF T C (S_integer K))) : FnOk P w K mg base CX0 3 f fd ["found"] (spF T C (S_toldl K)) := by
  refine def_ok F sc_toldl (fun _ => rfl) fun u _ cdv A outer s H E hr => ?_
  cases u with
  | none =>
    refine sj_cons (sj_if (EvT.cast (evt_isN (ev_var (P := sh K .none) 0 rfl)) rfl) (fun _ => ?_) fun h => by cases h)
    exact sj_last (sj_ret (ev_c1 X.NULL))
  | some e =>
    refine sj_cons (sj_if (EvT.cast (evt_isN (ev_var (P := sh K (.tuple [.int e.1, optN e.2])) 0 rfl)) rfl) (fun h => by cases h) fun _ => ?_)
    refine sj_nil (sj_last (sj_ret' (d := valD (lenV (some e))) (ev_rec2 (u := .int e.1) (v := nullV e.2) f_record hr (by decide) nm_from nm_to (ev_call f_integer hr (by decide) (e.1 : Int) trivial rfl (eva_cons (ev_ixT (ds := [.int e.1, optN e.2]) (ev_var 0 rfl) ev_int) eva_nil)) ?_) rfl))
    obtain ⟨a, b⟩ := e
    cases b with
    | none => exact ev_if (k := true) (EvT.cast (evt_isN (ev_ixT (ds := [.int a, .none]) (ev_var 0 rfl) ev_int)) rfl) (fun _ => ev_c1 X.NULL) fun h => by cases h
    | some m => exact ev_if (k := false) (EvT.cast (evt_isN (ev_ixT (ds := [.int a, .int m]) (ev_var 0 rfl) ev_int)) rfl) (fun h => by cases h) fun _ => ev_call f_integer hr (by decide) (m : Int) trivial rfl (eva_cons (ev_ixT (ds := [.int a, .int m]) (ev_var 0 rfl) ev_int) eva_nil)
abbrev s_tolds : Stmt := top 62
def S_tolds (K : Frag) : Pipe → Pr := fun p => ⟨p.length ≤ 40, [sh K (.list (stepsL p))], .ok (sh K (valD (pipeV p)))⟩
theorem sc_tolds : FnScope ["steps", "kind", "count"] ["steps"] (defScope s_tolds) := ⟨rfl, rfl, rfl, by decide +kernel, rfl, by decide +kernel, by decide +kernel⟩
def undK (s : Str) : TKind := if s = "head" then .head else if s = "tail" then .tail else if s = "skip" then .skip else .chop
theorem und_k : ∀ k : TKind, undK (kS k) = k
  | .head => if_pos rfl
  | .tail => (if_neg (show ¬ ("tail" : Str) = "head" by decide +kernel)).trans (if_pos rfl)
  | .skip => (if_neg (show ¬ ("skip" : Str) = "head" by decide +kernel)).trans ((if_neg (show ¬ ("skip" : Str) = "tail" by decide +kernel)).trans (if_pos rfl))
  | .chop => (if_neg (show ¬ ("chop" : Str) = "head" by decide +kernel)).trans ((if_neg (show ¬ ("chop" : Str) = "tail" by decide +kernel)).trans (if_neg (show ¬ ("chop" : Str) = "skip" by decide +kernel)))
theorem ok_tolds {f : Addr} {fd : FuncData} (F : Fun K "told_steps" "told_steps" s_tolds f fd) (f_record : Fn P w K mg base CX0 2 "record" ["pairs"] (spF T C (S_record K))) (f_integer : Fn P w K mg base CX0 1 "integer" ["number"] (spF T C (S_integer K))) (f_text : Fn P w K mg base CX0 2 "text" ["string"] (spF T C (S_text K))) (f_listed : Fn P w K mg base CX0 1 "listed" ["rows"] (spF T C (S_listed K))) : FnOk P w K mg base CX0 3 f fd ["steps"] (spF T C (S_tolds K)) := by
  refine def_ok F sc_tolds (fun _ => rfl) fun p hp cdv A outer s H E hr => ?_
  have hp : p.length ≤ 40 := hp
  refine sj_last (sj_ret' (d := valD (pipeV p)) (Ev.cast (ev_call f_listed hr (by decide) (true, p.map fun s => valD (stepV s)) trivial rfl (eva_cons (Ev.cast (EvN.sh (evn_lc (own := [("kind", 1), ("count", 2)]) (ds := stepsL p) (f := fun _ => true) (g := fun d => match d with
    | .tuple [.str k, .int c] => valD (.record [(kindO, .text (kO (undK k))), (countO, .int c)])
    | _ => .none) true rfl sc_tolds.nd (ev_var 0 rfl) (blkOk_by (N := ["steps", "kind", "count"]) (sc := defScope s_tolds) (by decide +kernel)) (fun _ _ _ _ _ => pg_two _ 1 2 rfl sc_tolds.nd) (tgt_pair 1 2) steps_pr ?_ ⟨fun d hd s H C cl fp => evts_nil, fun d hd _ s H C cl fp => ?_⟩)) ?_) eva_nil)) ?_) rfl)
  · rw [stepsL, List.length_map]
    exact small_of (m := 40) hp rfl
  · obtain ⟨st, _, rfl⟩ := List.mem_map.mp hd
    refine Ev.cast (ev_rec2 (u := .text (kO st.kind)) (v := .int st.count) f_record hr (by decide) nm_kind nm_count (Ev.cast (ev_call f_text hr (by decide) (kS st.kind) (nm_k st.kind).s rfl (eva_cons (ev_var 1 rfl) eva_nil)) (textD_nm (nm_k st.kind))) (ev_call f_integer hr (by decide) (st.count : Int) trivial rfl (eva_cons (ev_var 2 rfl) eva_nil))) ?_
    show _ = valD (.record [(kindO, .text (kO (undK (kS st.kind)))), (countO, .int st.count)])
    rw [und_k]
  · rw [filter_all, stepsL, List.map_map]
    refine congrArg PyData.list (List.map_congr_left fun st _ => ?_)
    show valD (.record [(kindO, .text (kO (undK (kS st.kind)))), (countO, .int st.count)]) = _
    rw [und_k]
    rfl
  · show listD (p.map fun s => valD (stepV s)) = listD (valDs (p.map stepV))
    rw [valDs_map, List.map_map]
    rfl
end
end Td
namespace Td
open PySem PySem.Spec PyProof.Rows L2 Tw
open Tl (NP pwin wstep norm maxL nOf readingM)
section
variable {P : Program} {w : World} {K : Frag} {mg : Str → Option Value} {base : Heap} {T : List NTab} {C CN : Addr}
abbrev s_parsed : Stmt := top 65
def outParsed (K : Frag) (o : Option Pipe) : Out := match o with
  | none => .err 1 "the text is not a pipeline"
  | some p => if p.length ≤ 20 then .ok (sh K (valD (pipeV p))) else .err 1 (fewS "pipeline")
def S_parsed (K : Frag) : RWire.Value → Pr := fun v => ⟨okV v = true ∧ (∀ u, v = .text u → u.length ≤ 100000), [sh K (valD v)], outParsed K (parseM v)⟩
theorem sc_parsed : FnScope ["value", "steps"] ["value"] (defScope s_parsed) := ⟨rfl, rfl, rfl, by decide +kernel, rfl, by decide +kernel, by decide +kernel⟩
theorem ok_parsed {f : Addr} {fd : FuncData} (F : Fun K "parsed" "parsed" s_parsed f fd) (X : Txt K mg) (f_stepsin : Fn P w K mg base CX0 3 "steps_in" ["value"] (spF T C (S_stepsin K))) (f_wk : Fn P w K mg base (CXL P w) 3 "wrong_kind" ["wrong", "message"] (spF T C (S_wk K 1))) (f_few : Fn P w K mg base (CXL P w) 4 "need_few" ["is_right", "name"] (spF T C (S_few K)))
    (f_tolds : Fn P w K mg base CX0 3 "told_steps" ["steps"] (spF T C (S_tolds K))) : FnOk P w K mg base (CXL P w) 5 f fd ["value"] (spF T C (S_parsed K)) := by
  refine def_okX F sc_parsed (fun _ => rfl) fun v hv cdv A outer s H E hr tk => ?_
  have hv : okV v = true ∧ (∀ u, v = .text u → u.length ≤ 100000) := hv
  refine sj_cons (sj_set 1 (P := sh K (pipeO (parseM v))) (ev_call f_stepsin hr (by decide) v hv rfl (eva_cons (ev_var 0 rfl) eva_nil)) ?_ sc_parsed.nd)
  show SJs _ _ [.sh (sh K (valD v)), .sh (sh K (pipeO (parseM v)))] _ (poOf (outParsed K (parseM v)))
  cases parseM v with
  | none => exact sj_cons (sj_exprErr (o := 1) (m := "the text is not a pipeline") (ev_callErr f_wk tk hr (by decide) (true, "the text is not a pipeline") trivial rfl (eva_cons (Ev.cast (ev_isN (ev_var (P := sh K .none) 1 rfl)) rfl) (eva_cons ev_str eva_nil))) ⟨rfl, rfl⟩)
  | some p =>
    refine sj_cons (sj_expr (P := sh K .none) (ev_callX f_wk hr (by decide) (false, "the text is not a pipeline") trivial rfl (eva_cons (Ev.cast (ev_isN (ev_var (P := sh K (.list (stepsL p))) 1 rfl)) rfl) (eva_cons ev_str eva_nil))) ?_)
    have hb : ∀ b, b = decide (p.length ≤ 20) → PyData.bool (decide (((stepsL p).length : Int) ≤ 20)) = .bool b := fun b e => by
      rw [e, stepsL, List.length_map]
      exact congrArg PyData.bool (decide_eq_decide.mpr (by omega))
    have e10 : ("pipeline" : Str).length ≤ 100 := by decide +kernel
    unfold outParsed
    by_cases h : p.length ≤ 20
    · show SJs _ _ _ _ (poOf (if p.length ≤ 20 then _ else _))
      rw [if_pos h]
      refine sj_cons (sj_expr (P := sh K .none) (ev_callX f_few hr (by decide) (true, "pipeline") e10 rfl (eva_cons (Ev.cast (ev_le (ev_len true (ds := stepsL p) X.len (ev_var 1 rfl)) (ev_ci X.MOST_STEPS)) (hb true (decide_eq_true h).symm)) (eva_cons ev_str eva_nil))) ?_)
      exact sj_last (sj_ret (ev_call f_tolds hr (by decide) p (by show p.length ≤ 40; omega) rfl (eva_cons (ev_var 1 rfl) eva_nil)))
    · show SJs _ _ _ _ (poOf (if p.length ≤ 20 then _ else _))
      rw [if_neg h]
      exact sj_cons (sj_exprErr (o := 1) (m := fewS "pipeline") (ev_callErr f_few tk hr (by decide) (false, "pipeline") e10 rfl (eva_cons (Ev.cast (ev_le (ev_len true (ds := stepsL p) X.len (ev_var 1 rfl)) (ev_ci X.MOST_STEPS)) (hb false (decide_eq_false h).symm)) (eva_cons ev_str eva_nil))) ⟨rfl, rfl⟩)
/-! ### applied -/
def isItem (v : RWire.Value) : Bool := decide (kindV v = 4) || decide (kindV v = 6)
def itemsM (v : RWire.Value) : Option (List RWire.Value) := match v with
  | .list l => if l.length ≤ 1000 ∧ l.all isItem = true then some l else none
  | _ => none
def cutW {α : Type} (u : Nat × Nat) (l : List α) : List α := (l.take u.2).drop u.1
def itemsS : Str := "items must be a list of at most 1000 texts and numbers"
structure iApp where
  p : Pipe
  v : RWire.Value
abbrev s_applied : Stmt := top 66
def outApplied (K : Frag) (p : Pipe) (o : Option (List RWire.Value)) : Out := match o with
  | none => .err 1 itemsS
  | some l => .ok (sh K (valD (.list (cutW (pwin p l.length) l))))
def S_applied (K : Frag) : iApp → Pr := fun i => ⟨okV i.v = true ∧ (∀ l, i.v = .list l → l.length ≤ 100000), [sh K (.list (stepsL i.p)), sh K (valD i.v)], outApplied K i.p (itemsM i.v)⟩
theorem sc_applied : FnScope ["steps", "value", "right", "start", "end", "own"] ["steps", "value"] (defScope s_applied) := ⟨rfl, rfl, rfl, by decide +kernel, rfl, by decide +kernel, by decide +kernel⟩
theorem pwin_le (p : Pipe) (n : Nat) : (pwin p n).1 ≤ (pwin p n).2 ∧ (pwin p n).2 ≤ n := by
  rw [Tl.pwin_is, ← Tl.nOf_form]
  exact ⟨Tl.win_fst (Tl.nOf_wf p) n, Tl.win_le _ n⟩
theorem cut_vals (l : List RWire.Value) (u : Nat × Nat) (h1 : u.1 ≤ u.2) (h2 : u.2 ≤ l.length) : Tw.cutD (valDs l) (some (u.1 : Int)) (some (u.2 : Int)) = valDs (cutW u l) := by
  rw [cutD_nat _ _ _ h1 (by rw [valDs_map, List.length_map]; exact h2), valDs_map, valDs_map]
  unfold cutW
  rw [List.map_drop, List.map_take, List.drop_take]
theorem ok_applied {f : Addr} {fd : FuncData} (F : Fun K "applied" "applied" s_applied f fd) (X : Txt K mg) (f_wk : Fn P w K mg base (CXL P w) 3 "wrong_kind" ["wrong", "message"] (spF T C (S_wk K 1))) (f_window : Fn P w K mg base CX0 1 "window_pipelines" ["steps", "length"] (spF T C (S_window K))) (f_listed : Fn P w K mg base CX0 1 "listed" ["rows"] (spF T C (S_listed K))) : FnOk P w K mg base (CXL P w) 4 f fd ["steps", "value"] (spF T C (S_applied K)) := by
  refine def_okX F sc_applied (fun _ => rfl) fun ⟨p, v⟩ hv cdv A outer s H E hr tk => ?_
  obtain ⟨hok, hsh⟩ : okV v = true ∧ (∀ l, v = .list l → l.length ≤ 100000) := hv
  have bad : ∀ γ : Gm, γ = [.sh (sh K (.list (stepsL p))), .sh (sh K (valD v)), .sh (sh K (.bool false)), .un, .un, .un] → itemsM v = none → SJs (cxOf (L2N.CX P w) P w K mg base ["steps", "value", "right", "start", "end", "own"] "applied" (defScope s_applied) f cdv A outer s H E) ⟨T, C, E⟩ γ ((defBody s_applied).drop 2) (poOf (outApplied K p (itemsM v))) := by
    rintro _ rfl hn
    rw [hn]
    exact sj_cons (sj_exprErr (o := 1) (m := itemsS) (ev_callErr f_wk tk hr (by decide) (true, itemsS) trivial rfl (eva_cons (ev_not (k := false) (ev_var 2 rfl)) (eva_cons ev_str eva_nil))) ⟨rfl, rfl⟩)
  by_cases hk : kindV v = 7
  · obtain ⟨l, rfl⟩ := list_inv hok hk
    have hl := hsh l rfl
    have hok' : okVs l = true := hok
    have lv : (valDs l).length = l.length := by rw [valDs_map, List.length_map]
    refine sj_cons (sj_set 2 (P := sh K (.bool (decide (l.length ≤ 1000)))) (Ev.cast (ev_and (k := true) (l := decide (l.length ≤ 1000)) (Ev.cast (ev_eqI (ev_ixT (ds := [.int 7, .tuple (valDs l)]) (ev_var 1 rfl) ev_int) (ev_ci X.LIST)) rfl) (fun _ => ev_one (Ev.cast (ev_le (ev_len false (ds := valDs l) X.len (ev_ixT (ds := [.int 7, .tuple (valDs l)]) (ev_var 1 rfl) ev_int)) (ev_ci X.MOST_ITEMS)) (congrArg PyData.bool (decide_eq_decide.mpr (by rw [lv]; omega)))))) rfl) ?_ sc_applied.nd)
    have ed : ((valDs l).filter (fun _ => true)).map (fun d => match d with
        | .tuple (.int k :: _) => PyData.bool (decide (k = 6) || decide (k = 4))
        | _ => .none) = (l.map isItem).map PyData.bool := by
      rw [filter_all, valDs_map, List.map_map, List.map_map]
      refine List.map_congr_left fun x hx => ?_
      show (match valD x with
        | .tuple (.int k :: _) => PyData.bool (decide (k = 6) || decide (k = 4))
        | _ => .none) = PyData.bool (isItem x)
      rw [valD_kind (okVs_mem hok' x hx)]
      show PyData.bool (decide ((kindV x : Int) = 6) || decide ((kindV x : Int) = 4)) = PyData.bool (decide (kindV x = 4) || decide (kindV x = 6))
      rw [Bool.or_comm]
      congr 2 <;> exact decide_eq_decide.mpr (by omega)
    refine sj_cons (sj_set 2 (P := sh K (.bool (decide (l.length ≤ 1000) && l.all isItem))) (Ev.cast (ev_and (ev_var 2 rfl) (fun _ => ev_one (ev_all (bs := l.map isItem) rfl X.all (Ev.cast (EvN.sh (evn_lc (own := [("own", 5)]) (ds := valDs l) (f := fun _ => true) (g := fun d => match d with
        | .tuple (.int k :: _) => PyData.bool (decide (k = 6) || decide (k = 4))
        | _ => .none) false rfl sc_applied.nd (ev_ixT (ds := [.int 7, .tuple (valDs l)]) (ev_var 1 rfl) ev_int) (blkOk_by (N := ["steps", "value", "right", "start", "end", "own"]) (sc := defScope s_applied) (by decide +kernel)) (fun _ _ _ _ _ => pg_name sc_applied.nd rfl (.inl rfl)) (tgt_name 5) (fun _ _ => trivial) ?_ ⟨fun d hd s H C cl fp => evts_nil, fun d hd _ s H C cl fp => ?_⟩)) (congrArg PyData.list ed))))) (by rw [List.all_map]; rfl)) ?_ sc_applied.nd)
    · rw [lv]
      exact small_of (m := 200000) (by omega) rfl
    · rw [valDs_map] at hd
      obtain ⟨x, hx, rfl⟩ := List.mem_map.mp hd
      have hxk := valD_kind (okVs_mem hok' x hx)
      rw [hxk]
      refine Ev.cast (ev_inI (s := kindV x) (ss := [6, 4]) (ev_ixT (ds := .int (kindV x) :: tailV x) (ev_var 5 rfl) ev_int atI_zero) (ev_tup (ds := [.int 6, .int 4]) (eva_cons (ev_ci X.TEXT) (eva_cons (ev_ci X.INTEGER) eva_nil)))) ?_
      show PyData.bool (((6 : Int) == (kindV x : Int)) || (((4 : Int) == (kindV x : Int)) || false)) = PyData.bool (decide ((kindV x : Int) = 6) || decide ((kindV x : Int) = 4))
      rw [Bool.or_false]
      congr 2
      · rw [Bool.eq_iff_iff, beq_iff_eq, decide_eq_true_iff]; exact eq_comm
      · rw [Bool.eq_iff_iff, beq_iff_eq, decide_eq_true_iff]; exact eq_comm
    · by_cases h : l.length ≤ 1000 ∧ l.all isItem = true
      · have hb : (decide (l.length ≤ 1000) && l.all isItem) = true := by rw [decide_eq_true h.1, h.2]; rfl
        have hi : itemsM (.list l) = some l := by
          show (if l.length ≤ 1000 ∧ l.all isItem = true then some l else none) = _
          rw [if_pos h]
        rw [hb]
        show SJs _ _ [.sh (sh K (.list (stepsL p))), .sh (sh K (valD (.list l))), .sh (sh K (.bool true)), .un, .un, .un] _ (poOf (outApplied K p (itemsM (.list l))))
        rw [hi]
        refine sj_cons (sj_expr (P := sh K .none) (ev_callX f_wk hr (by decide) (false, itemsS) trivial rfl (eva_cons (ev_not (k := true) (ev_var 2 rfl)) (eva_cons ev_str eva_nil))) ?_)
        obtain ⟨w1, w2⟩ := pwin_le p l.length
        refine sj_cons (sj_set2 3 4 (d1 := .int (pwin p l.length).1) (d2 := .int (pwin p l.length).2) (ev_call f_window hr (by decide) (p, l.length) trivial rfl (eva_cons (ev_var 0 rfl) (eva_cons (Ev.cast (ev_len false (ds := valDs l) X.len (ev_ixT (ds := [.int 7, .tuple (valDs l)]) (ev_var 1 rfl) ev_int)) (by rw [lv])) eva_nil))) (pg_two _ 3 4 rfl sc_applied.nd) ?_)
        exact sj_last (sj_ret (ev_call f_listed hr (by decide) (false, valDs (cutW (pwin p l.length) l)) trivial rfl (eva_cons (Ev.cast (ev_sliceT (ds := valDs l) (ev_ixT (ds := [.int 7, .tuple (valDs l)]) (ev_var 1 rfl) ev_int) (evo_some (ev_var 3 rfl)) (evo_some (ev_var 4 rfl))) (congrArg PyData.tuple (cut_vals l _ w1 w2))) eva_nil)))
      · have hb : (decide (l.length ≤ 1000) && l.all isItem) = false := by
          rw [Bool.and_eq_false_iff, decide_eq_false_iff_not]
          by_cases h1 : l.length ≤ 1000
          · right
            cases q : l.all isItem with
            | false => rfl
            | true => exact absurd ⟨h1, q⟩ h
          · exact .inl h1
        have hi : itemsM (.list l) = none := by
          show (if l.length ≤ 1000 ∧ l.all isItem = true then some l else none) = _
          rw [if_neg h]
        rw [hb]
        exact bad _ rfl hi
  · have hs : itemsM v = none := by
      cases v with
      | list l => exact absurd rfl hk
      | _ => rfl
    refine sj_cons (sj_set 2 (P := sh K (.bool false)) (Ev.cast (ev_and (k := false) (l := false) (Ev.cast (ev_eqI (ev_ixT (ds := .int (kindV v) :: tailV v) (ev_var (P := sh K (.tuple (.int (kindV v) :: tailV v))) 1 (by rw [← valD_kind hok]; rfl)) ev_int atI_zero) (ev_ci X.LIST)) (congrArg PyData.bool (decide_eq_false (by omega)))) (fun h => by cases h)) rfl) ?_ sc_applied.nd)
    refine sj_cons (sj_set 2 (P := sh K (.bool false)) (Ev.cast (ev_and (k := false) (l := false) (ev_var 2 rfl) (fun h => by cases h)) rfl) ?_ sc_applied.nd)
    exact bad _ rfl hs
end
end Td
namespace Tw
open PySem PySem.Spec PyProof.Rows L2
section
variable {X : Cx} {c : Cfg} {γ : Gm} {po : Po} {pos : Pos} {e tg : Expr}
theorem sj_set2Err (i j : Nat) {o : Int} {m : Str} (he : EvErr X c.T γ c.C c.E e o m) (hG : PG X tg (gPr X.K i j)) (h : po.er o m) (hs : swapsWithSole [tg] e pos.line X.env = pure false := by rfl) (hw : swappedStores [tg] e X.env = pure none := by rfl)
    (h1 : (assignEach [tg] X.env).map (·.2) = [assign tg X.env] := by rfl) : SJ X c γ (.Assign [tg] e pos) po :=
  PS.imp (ps_asg he hG hs hw h1) fun D σ H ⟨F0, H0, F, s, _, _, _, _, h5⟩ => ⟨F, s.s, fun d F2 H2 g h0 q => h5 o m d F2 H2 h (s.g.trans g) (s.g.free _ h0) q⟩
end
end Tw
namespace Td
open PySem PySem.Spec PyProof.Rows L2 Tw
open Tl (NP pwin wstep norm maxL nOf readingM)
theorem allSome_len {α : Type} {l : List (Option α)} {m : List α} (h : R7256f.Spec.allSome l = some m) : m.length = l.length := by
  rw [allSome_some h, List.length_map]
theorem count_le {v : RWire.Value} {m n : Nat} (h : countM v m = some n) : n ≤ m := by
  cases v with
  | int i =>
    have h : (if 0 ≤ i ∧ i ≤ m then some i.toNat else none) = some n := h
    by_cases c : 0 ≤ i ∧ i ≤ m
    · rw [if_pos c] at h
      cases h
      omega
    · rw [if_neg c] at h
      cases h
  | _ => exact absurd h (by simp [countM])
theorem step_count {v : RWire.Value} {s : TStep} (h : stepM v = some s) : s.count ≤ 1000000 := by
  cases v with
  | record l =>
    have h : (match kindM (memberM l kindO), countM (memberM l countO) 1000000 with
      | some k, some n => some (⟨k, n⟩ : TStep)
      | _, _ => none) = some s := h
    cases hk : kindM (memberM l kindO) with
    | none => rw [hk] at h; cases h
    | some k =>
      cases hn : countM (memberM l countO) 1000000 with
      | none => rw [hk, hn] at h; cases h
      | some n =>
        rw [hk, hn] at h
        cases h
        exact count_le hn
  | _ => exact absurd h (by simp [stepM])
theorem pipe_ok {v : RWire.Value} {p : Pipe} (h : pipeM v = some p) : p.length ≤ 20 ∧ ∀ s ∈ p, s.count ≤ 1000000 := by
  cases v with
  | list l =>
    have h : (if l.length ≤ 20 then R7256f.Spec.allSome (l.map stepM) else none) = some p := h
    by_cases c : l.length ≤ 20
    · rw [if_pos c] at h
      refine ⟨by rw [allSome_len h, List.length_map]; exact c, fun s hs => ?_⟩
      have : some s ∈ l.map stepM := by
        rw [allSome_some h]
        exact List.mem_map.mpr ⟨s, hs, rfl⟩
      obtain ⟨v, _, hv⟩ := List.mem_map.mp this
      exact step_count hv
    · rw [if_neg c] at h
      cases h
  | _ => exact absurd h (by simp [pipeM])
def diffV (p q : Pipe) : RWire.Value := match R7256f.Spec.difference (nOf p).form (nOf q).form with
  | none => .null
  | some n => .record [(lengthO, .int n), (firstO, winV (pwin p n)), (secondO, winV (pwin q n))]
def commM (p q : Pipe) : Bool := PyData.eqv (.list (stepsL (nOf (p ++ q)).steps)) (.list (stepsL (nOf (q ++ p)).steps))
def readV (p : Pipe) (n : Nat) : RWire.Value := .record [(certainO, winV (readingM (nOf p) n).1), (heldO, winV (readingM (nOf p) n).2)]
def argOk (v : RWire.Value) : Prop := okV v = true ∧ shortL v ∧ (∀ u, v = .text u → u.length ≤ 100000)
section
variable {P : Program} {w : World} {K : Frag} {mg : Str → Option Value} {base : Heap} {T : List NTab} {C CN : Addr}
def givD (a b : RWire.Value) : PyData := .list [valD a, valD b]
abbrev s_compared : Stmt := top 67
def outCompared (K : Frag) (a b : RWire.Value) : Out := match pipeM a with
  | none => .err 1 (fewS "first")
  | some p => match pipeM b with
    | none => .err 1 (fewS "second")
    | some q => .ok (sh K (valD (diffV p q)))
structure iTwo where
  a : RWire.Value
  b : RWire.Value
def S_compared (K : Frag) : iTwo → Pr := fun i => ⟨argOk i.a ∧ argOk i.b, [sh K (givD i.a i.b)], outCompared K i.a i.b⟩
theorem sc_compared : FnScope ["given", "one", "other", "length"] ["given"] (defScope s_compared) := ⟨rfl, rfl, rfl, by decide +kernel, rfl, by decide +kernel, by decide +kernel⟩
theorem len_first : ("first" : Str).length ≤ 100 := by decide +kernel
theorem len_second : ("second" : Str).length ≤ 100 := by decide +kernel
theorem len_pipeline : ("pipeline" : Str).length ≤ 100 := by decide +kernel
theorem out_needp {K : Frag} {v : RWire.Value} {n : Str} {p : Pipe} (h : pipeM v = some p) : (S_needp K ⟨v, n⟩).out = .ok (sh K (.list (stepsL p))) := by
  show (match pipeM v with
    | some p => .ok (sh K (.list (stepsL p)))
    | none => .err 1 (fewS n) : Out) = _
  rw [h]
theorem err_needp {K : Frag} {v : RWire.Value} {n : Str} (h : pipeM v = none) : (S_needp K ⟨v, n⟩).out = .err 1 (fewS n) := by
  show (match pipeM v with
    | some p => .ok (sh K (.list (stepsL p)))
    | none => .err 1 (fewS n) : Out) = _
  rw [h]
theorem ok_compared {f : Addr} {fd : FuncData} (F : Fun K "compared" "compared" s_compared f fd) (X : Txt K mg) (f_needp : Fn P w K mg base (CXL P w) 5 "need_pipeline" ["value", "name"] (spF T C (S_needp K))) (f_diff : Fn P w K mg base CX0 5 "first_difference" ["first", "second"] (spF T C (S_diff K))) (f_record : Fn P w K mg base CX0 2 "record" ["pairs"] (spF T C (S_record K)))
    (f_integer : Fn P w K mg base CX0 1 "integer" ["number"] (spF T C (S_integer K))) (f_toldw : Fn P w K mg base CX0 3 "told_window" ["own"] (spF T C (S_toldw K))) (f_window : Fn P w K mg base CX0 1 "window_pipelines" ["steps", "length"] (spF T C (S_window K))) : FnOk P w K mg base (CXL P w) 6 f fd ["given"] (spF T C (S_compared K)) := by
  refine def_okX F sc_compared (fun _ => rfl) fun ⟨a, b⟩ hv cdv A outer s H E hr tk => ?_
  obtain ⟨⟨a1, a2, a3⟩, ⟨b1, b2, b3⟩⟩ : argOk a ∧ argOk b := hv
  show SJs _ _ [.sh (sh K (givD a b)), .un, .un, .un] _ (poOf (outCompared K a b))
  unfold outCompared
  cases hp : pipeM a with
  | none => exact sj_cons (sj_setErr 1 (o := 1) (m := fewS "first") (ev_callErr f_needp tk hr (by decide) (⟨a, "first"⟩ : iPipe) ⟨a1, a2, len_first⟩ (err_needp hp) (eva_cons (ev_ixL (ds := [valD a, valD b]) (ev_var 0 rfl) ev_int) (eva_cons ev_str eva_nil))) ⟨rfl, rfl⟩ sc_compared.nd)
  | some p =>
    obtain ⟨p1, _⟩ := pipe_ok hp
    refine sj_cons (sj_set 1 (ev_callX f_needp hr (by decide) (⟨a, "first"⟩ : iPipe) ⟨a1, a2, len_first⟩ (out_needp hp) (eva_cons (ev_ixL (ds := [valD a, valD b]) (ev_var 0 rfl) ev_int) (eva_cons ev_str eva_nil))) ?_ sc_compared.nd)
    cases hq : pipeM b with
    | none => exact sj_cons (sj_setErr 2 (o := 1) (m := fewS "second") (ev_callErr f_needp tk hr (by decide) (⟨b, "second"⟩ : iPipe) ⟨b1, b2, len_second⟩ (err_needp hq) (eva_cons (ev_ixL (ds := [valD a, valD b]) (ev_var 0 rfl) ev_int) (eva_cons ev_str eva_nil))) ⟨rfl, rfl⟩ sc_compared.nd)
    | some q =>
      obtain ⟨q1, _⟩ := pipe_ok hq
      refine sj_cons (sj_set 2 (ev_callX f_needp hr (by decide) (⟨b, "second"⟩ : iPipe) ⟨b1, b2, len_second⟩ (out_needp hq) (eva_cons (ev_ixL (ds := [valD a, valD b]) (ev_var 0 rfl) ev_int) (eva_cons ev_str eva_nil))) ?_ sc_compared.nd)
      refine sj_cons (sj_set 3 (P := sh K (optN (R7256f.Spec.difference (nOf p).form (nOf q).form))) (ev_call f_diff hr (by decide) (p, q) ⟨p1, q1⟩ rfl (eva_cons (ev_var 1 rfl) (eva_cons (ev_var 2 rfl) eva_nil))) ?_ sc_compared.nd)
      show SJs _ _ _ _ (poOf (.ok (sh K (valD (diffV p q)))))
      unfold diffV
      cases hd : R7256f.Spec.difference (nOf p).form (nOf q).form with
      | none =>
        refine sj_cons (sj_if (EvT.cast (evt_isN (ev_var (P := sh K .none) 3 rfl)) rfl) (fun _ => ?_) fun h => by cases h)
        exact sj_last (sj_ret (ev_c1 X.NULL))
      | some n =>
        refine sj_cons (sj_if (EvT.cast (evt_isN (ev_var (P := sh K (.int n)) 3 rfl)) rfl) (fun h => by cases h) fun _ => ?_)
        refine sj_nil (sj_last (sj_ret' (d := valD (.record [(lengthO, .int n), (firstO, winV (pwin p n)), (secondO, winV (pwin q n))])) (Ev.cast (ev_call f_record hr (by decide) [("length", valD (.int n)), ("first", valD (winV (pwin p n))), ("second", valD (winV (pwin q n)))] ⟨by show 3 ≤ 10; decide, fun z hz => ?_⟩ rfl (eva_cons (EvN.sh (evn_lst (ds := [.tuple [.str "length", valD (.int n)], .tuple [.str "first", valD (winV (pwin p n))], .tuple [.str "second", valD (winV (pwin q n))]])
          (eva_cons (ev_tup (ds := [_, valD (.int n)]) (eva_cons ev_str (eva_cons (ev_call f_integer hr (by decide) (n : Int) trivial rfl (eva_cons (ev_var (P := sh K (.int n)) 3 rfl) eva_nil)) eva_nil)))
          (eva_cons (ev_tup (ds := [_, valD (winV (pwin p n))]) (eva_cons ev_str (eva_cons (ev_call f_toldw hr (by decide) (pwin p n) trivial rfl (eva_cons (ev_call f_window hr (by decide) (p, n) trivial rfl (eva_cons (ev_var 1 rfl) (eva_cons (ev_var (P := sh K (.int n)) 3 rfl) eva_nil))) eva_nil)) eva_nil)))
          (eva_cons (ev_tup (ds := [_, valD (winV (pwin q n))]) (eva_cons ev_str (eva_cons (ev_call f_toldw hr (by decide) (pwin q n) trivial rfl (eva_cons (ev_call f_window hr (by decide) (q, n) trivial rfl (eva_cons (ev_var 2 rfl) (eva_cons (ev_var (P := sh K (.int n)) 3 rfl) eva_nil))) eva_nil)) eva_nil))) eva_nil))))) eva_nil)) (rec3 nm_length nm_first nm_second _ _ _)) rfl))
        rcases List.mem_cons.mp hz with rfl | hz
        · exact nm_length.s
        · rcases List.mem_cons.mp hz with rfl | hz
          · exact nm_first.s
          · rw [List.mem_singleton.mp hz]
            exact nm_second.s
abbrev s_commuting : Stmt := top 68
def outCommuting (K : Frag) (a b : RWire.Value) : Out := match pipeM a with
  | none => .err 1 (fewS "first")
  | some p => match pipeM b with
    | none => .err 1 (fewS "second")
    | some q => .ok (sh K (valD (.bool (commM p q))))
def S_commuting (K : Frag) : iTwo → Pr := fun i => ⟨argOk i.a ∧ argOk i.b, [sh K (givD i.a i.b)], outCommuting K i.a i.b⟩
theorem sc_commuting : FnScope ["given", "one", "other"] ["given"] (defScope s_commuting) := ⟨rfl, rfl, rfl, by decide +kernel, rfl, by decide +kernel, by decide +kernel⟩
theorem stepsL_app (p q : Pipe) : stepsL p ++ stepsL q = stepsL (p ++ q) := by
  unfold stepsL
  rw [List.map_append]
theorem ok_commuting {f : Addr} {fd : FuncData} (F : Fun K "commuting" "commuting" s_commuting f fd) (N : NS P w K mg base T C CN) (f_needp : Fn P w K mg base (CXL P w) 5 "need_pipeline" ["value", "name"] (spF T C (S_needp K))) (f_truth : Fn P w K mg base CX0 1 "truth" ["told"] (spF T C (S_truth K))) : FnOk P w K mg base (CXL P w) 6 f fd ["given"] (spF T C (S_commuting K)) := by
  refine def_okX F sc_commuting (fun _ => rfl) fun ⟨a, b⟩ hv cdv A outer s H E hr tk => ?_
  obtain ⟨⟨a1, a2, a3⟩, ⟨b1, b2, b3⟩⟩ : argOk a ∧ argOk b := hv
  show SJs _ _ [.sh (sh K (givD a b)), .un, .un] _ (poOf (outCommuting K a b))
  unfold outCommuting
  cases hp : pipeM a with
  | none => exact sj_cons (sj_setErr 1 (o := 1) (m := fewS "first") (ev_callErr f_needp tk hr (by decide) (⟨a, "first"⟩ : iPipe) ⟨a1, a2, len_first⟩ (err_needp hp) (eva_cons (ev_ixL (ds := [valD a, valD b]) (ev_var 0 rfl) ev_int) (eva_cons ev_str eva_nil))) ⟨rfl, rfl⟩ sc_commuting.nd)
  | some p =>
    obtain ⟨p1, _⟩ := pipe_ok hp
    refine sj_cons (sj_set 1 (ev_callX f_needp hr (by decide) (⟨a, "first"⟩ : iPipe) ⟨a1, a2, len_first⟩ (out_needp hp) (eva_cons (ev_ixL (ds := [valD a, valD b]) (ev_var 0 rfl) ev_int) (eva_cons ev_str eva_nil))) ?_ sc_commuting.nd)
    cases hq : pipeM b with
    | none => exact sj_cons (sj_setErr 2 (o := 1) (m := fewS "second") (ev_callErr f_needp tk hr (by decide) (⟨b, "second"⟩ : iPipe) ⟨b1, b2, len_second⟩ (err_needp hq) (eva_cons (ev_ixL (ds := [valD a, valD b]) (ev_var 0 rfl) ev_int) (eva_cons ev_str eva_nil))) ⟨rfl, rfl⟩ sc_commuting.nd)
    | some q =>
      obtain ⟨q1, _⟩ := pipe_ok hq
      refine sj_cons (sj_set 2 (ev_callX f_needp hr (by decide) (⟨b, "second"⟩ : iPipe) ⟨b1, b2, len_second⟩ (out_needp hq) (eva_cons (ev_ixL (ds := [valD a, valD b]) (ev_var 0 rfl) ev_int) (eva_cons ev_str eva_nil))) ?_ sc_commuting.nd)
      have len : ∀ x y : Pipe, x.length ≤ 20 → y.length ≤ 20 → (x ++ y).length ≤ 40 := fun x y h1 h2 => by rw [List.length_append]; omega
      have trn : ∀ x : Pipe, x.length ≤ 40 → (nOf x).turns.length ≤ 60 := fun x h => Nat.le_trans (Tl.nOf_len x) (by omega)
      have sml : ∀ x y : Pipe, x.length ≤ 20 → y.length ≤ 20 → (stepsL x).length + (stepsL y).length ≤ sizeLine := fun x y h1 h2 => by
        rw [stepsL, stepsL, List.length_map, List.length_map]
        exact size_le (m := 100) (by omega) rfl
      have hpq := len p q p1 q1
      have hqp := len q p q1 p1
      exact sj_last (sj_ret' (d := valD (.bool (commM p q))) (ev_call f_truth hr (by decide) (commM p q) trivial rfl (eva_cons (ev_eqF (u64 hr) (steps_pl _) (steps_pl _) (Nat.le_trans (Nat.min_le_left _ _) (Nat.le_trans (steps_depth _) (by decide)))
        (ev_meth0 N.steps hr (by decide) (nOf (p ++ q)) (trn _ hpq) rfl rfl (obj_ins rfl) (ev_normal N.nm hr (by decide) (p ++ q) hpq (Ev.cast (EvN.sh (evn_cat (ev_var 1 rfl) (ev_var 2 rfl) (sml p q p1 q1))) (congrArg PyData.list (stepsL_app p q)))))
        (ev_meth0 N.steps hr (by decide) (nOf (q ++ p)) (trn _ hqp) rfl rfl (obj_ins rfl) (ev_normal N.nm hr (by decide) (q ++ p) hqp (Ev.cast (EvN.sh (evn_cat (ev_var 2 rfl) (ev_var 1 rfl) (sml q p q1 p1))) (congrArg PyData.list (stepsL_app q p)))))) eva_nil)) rfl)
abbrev s_toldr : Stmt := top 69
def outReading (K : Frag) (p : Pipe) (v : RWire.Value) : Out := match countM v 1000000000 with
  | none => .err 2 (numS "count" 1000000000)
  | some n => .ok (sh K (valD (readV p n)))
def S_toldr (K : Frag) : iApp → Pr := fun i => ⟨i.p.length ≤ 20 ∧ okV i.v = true, [sh K (.list (stepsL i.p)), sh K (valD i.v)], outReading K i.p i.v⟩
theorem sc_toldr : FnScope ["steps", "value", "certain", "held"] ["steps", "value"] (defScope s_toldr) := ⟨rfl, rfl, rfl, by decide +kernel, rfl, by decide +kernel, by decide +kernel⟩
theorem len_most : (toString ((1000000000 : Nat) : Int) : Str).length ≤ 100 := by decide +kernel
theorem out_needn {K : Frag} {v : RWire.Value} {m n : Nat} {x : Str} (h : countM v m = some n) : (S_needn K ⟨v, m, x⟩).out = .ok (sh K (.int n)) := by
  show (match countM v m with
    | some n => .ok (sh K (.int n))
    | none => .err 2 (numS x m) : Out) = _
  rw [h]
theorem err_needn {K : Frag} {v : RWire.Value} {m : Nat} {x : Str} (h : countM v m = none) : (S_needn K ⟨v, m, x⟩).out = .err 2 (numS x m) := by
  show (match countM v m with
    | some n => .ok (sh K (.int n))
    | none => .err 2 (numS x m) : Out) = _
  rw [h]
theorem ok_toldr {f : Addr} {fd : FuncData} (F : Fun K "told_reading" "told_reading" s_toldr f fd) (N : NS P w K mg base T C CN) (f_reading : Fn P w K mg base CX0 5 "reading" ["own", "count"] (spF T C (S_reading K CN))) (f_needn : Fn P w K mg base (CXL P w) 4 "need_number" ["value", "most", "name"] (spF T C (S_needn K))) (f_record : Fn P w K mg base CX0 2 "record" ["pairs"] (spF T C (S_record K)))
    (f_toldw : Fn P w K mg base CX0 3 "told_window" ["own"] (spF T C (S_toldw K))) : FnOk P w K mg base (CXL P w) 6 f fd ["steps", "value"] (spF T C (S_toldr K)) := by
  refine def_okX F sc_toldr (fun _ => rfl) fun ⟨p, v⟩ hv cdv A outer s H E hr tk => ?_
  obtain ⟨hp, hok⟩ : p.length ≤ 20 ∧ okV v = true := hv
  have hA : (nOf p).turns.length ≤ 60 := Nat.le_trans (Tl.nOf_len p) (by omega)
  have lc : ("count" : Str).length ≤ 100 := by decide +kernel
  show SJs _ _ [.sh (sh K (.list (stepsL p))), .sh (sh K (valD v)), .un, .un] _ (poOf (outReading K p v))
  unfold outReading
  cases hc : countM v 1000000000 with
  | none =>
    exact sj_cons (sj_set2Err 2 3 (o := 2) (m := numS "count" 1000000000) (err_args f_reading L2.pass0 hr (by decide) (eva_err2 (ev_normal N.nm hr (by decide) p (by omega) (ev_var 0 rfl)) (eva_err (ev_callErr f_needn tk hr (by decide) (⟨v, 1000000000, "count"⟩ : iNeedn) ⟨hok, Nat.le_refl _, lc, len_most⟩ (err_needn hc) (eva_cons (ev_var 1 rfl) (eva_cons (ev_ci N.x.MOST_LENGTH) (eva_cons ev_str eva_nil))))))) (pg_two _ 2 3 rfl sc_toldr.nd) ⟨rfl, rfl⟩)
  | some n =>
    refine sj_cons (sj_set2 2 3 (d1 := winD (readingM (nOf p) n).1) (d2 := winD (readingM (nOf p) n).2) (ev_call f_reading hr (by decide) (nOf p, n) hA rfl (eva_cons (ev_normal N.nm hr (by decide) p (by omega) (ev_var 0 rfl)) (eva_cons (ev_callX f_needn hr (by decide) (⟨v, 1000000000, "count"⟩ : iNeedn) ⟨hok, Nat.le_refl _, lc, len_most⟩ (out_needn hc) (eva_cons (ev_var 1 rfl) (eva_cons (ev_ci N.x.MOST_LENGTH) (eva_cons ev_str eva_nil)))) eva_nil))) (pg_two _ 2 3 rfl sc_toldr.nd) ?_)
    exact sj_last (sj_ret' (d := valD (readV p n)) (ev_rec2 (u := winV (readingM (nOf p) n).1) (v := winV (readingM (nOf p) n).2) f_record hr (by decide) nm_certain nm_held (ev_call f_toldw hr (by decide) (readingM (nOf p) n).1 trivial rfl (eva_cons (ev_var 2 rfl) eva_nil)) (ev_call f_toldw hr (by decide) (readingM (nOf p) n).2 trivial rfl (eva_cons (ev_var 3 rfl) eva_nil))) rfl)
end
end Td
namespace Td
open PySem PySem.Spec PyProof.Rows L2 Tw
open Tl (NP pwin wstep norm maxL nOf readingM)
/-- numbers have few digits -/
def DigOk : Prop := ∀ n : Nat, n ≤ 1000001 → (toString (n : Int) : Str).length ≤ 100
def fmtS (p : Pipe) : Str := Txt.join " | " (p.map stepS)
theorem stepS_len (D : DigOk) {s : TStep} (h : s.count ≤ 1000000) : (stepS s).length ≤ 200 := by
  obtain ⟨k, n⟩ := s
  have h : n ≤ 1000000 := h
  have d1 := D n (by omega)
  have d2 : (toString ((n : Int) + 1) : Str).length ≤ 100 := D (n + 1) (by omega)
  cases k with
  | chop => show ("head -n -" ++ toString (n : Int) : Str).length ≤ 200; rw [str_app]; have : ("head -n -" : Str).length ≤ 50 := (by decide +kernel); omega
  | skip => show ("tail -n +" ++ toString ((n : Int) + 1) : Str).length ≤ 200; rw [str_app]; have : ("tail -n +" : Str).length ≤ 50 := (by decide +kernel); omega
  | head => show ("head" ++ " -n " ++ toString (n : Int) : Str).length ≤ 200; rw [str_app, str_app]; have : ("head" : Str).length + (" -n " : Str).length ≤ 50 := (by decide +kernel); omega
  | tail => show ("tail" ++ " -n " ++ toString (n : Int) : Str).length ≤ 200; rw [str_app, str_app]; have : ("tail" : Str).length + (" -n " : Str).length ≤ 50 := (by decide +kernel); omega
section
variable {P : Program} {w : World} {K : Frag} {mg : Str → Option Value} {base : Heap} {T : List NTab} {C CN : Addr}
def outNum (K : Frag) (n : Str) (b : RWire.Value) (f : Nat → RWire.Value) : Out := match countM b 1000000000 with
  | none => .err 2 (numS n 1000000000)
  | some m => .ok (sh K (valD (f m)))
def outPipe (K : Frag) (door : Nat) (p : Pipe) (b : RWire.Value) : Out := match door with
  | 1 => .ok (sh K (textD (fmtS p)))
  | 2 => outApplied K p (itemsM b)
  | 3 => outNum K "length" b fun n => winV (pwin p n)
  | 4 => .ok (sh K (valD (pipeV (nOf p).steps)))
  | 7 => outNum K "size" b fun n => lenV (R7256f.Spec.lengthsOf (nOf p).form n)
  | 8 => outNum K "index" b fun n => lenV (R7256f.Spec.lengthsWith (nOf p).form n)
  | 9 => outReading K p b
  | _ => .ok (sh K (valD (.int (R7256f.Spec.capacity (nOf p).form))))
def outOn (K : Frag) (door : Nat) (a b : RWire.Value) : Out := match door with
  | 0 => outParsed K (parseM a)
  | 5 => outCompared K a b
  | 6 => outCommuting K a b
  | d => match pipeM a with
    | none => .err 1 (fewS "pipeline")
    | some p => outPipe K d p b
structure iOn where
  door : Nat
  a : RWire.Value
  b : RWire.Value
abbrev s_on : Stmt := top 70
def S_on (K : Frag) : iOn → Pr := fun i => ⟨i.door ≤ 10 ∧ argOk i.a ∧ argOk i.b ∧ (∀ l, i.b = .list l → l.length ≤ 100000) ∧ ∀ p, pipeM i.a = some p → (fmtS p).cps.toList.length < sizeLine ∧ (nOf p).steps.length ≤ 40, [sh K (.int i.door), sh K (givD i.a i.b)], outOn K i.door i.a i.b⟩
theorem sc_on : FnScope ["door", "given", "steps", "step"] ["door", "given"] (defScope s_on) := ⟨rfl, rfl, rfl, by decide +kernel, rfl, by decide +kernel, by decide +kernel⟩
/-- the defs that on_pipeline leans on -/
structure OnS (P : Program) (w : World) (K : Frag) (mg : Str → Option Value) (base : Heap) (T : List NTab) (C CN : Addr) : Prop where
  N : NS P w K mg base T C CN
  parsed : Fn P w K mg base (CXL P w) 5 "parsed" ["value"] (spF T C (S_parsed K))
  compared : Fn P w K mg base (CXL P w) 6 "compared" ["given"] (spF T C (S_compared K))
  commuting : Fn P w K mg base (CXL P w) 6 "commuting" ["given"] (spF T C (S_commuting K))
  needp : Fn P w K mg base (CXL P w) 5 "need_pipeline" ["value", "name"] (spF T C (S_needp K))
  needn : Fn P w K mg base (CXL P w) 4 "need_number" ["value", "most", "name"] (spF T C (S_needn K))
  text : Fn P w K mg base CX0 2 "text" ["string"] (spF T C (S_text K))
  steptext : Fn P w K mg base CX0 1 "step_text" ["step"] (spF T C (S_steptext K))
  applied : Fn P w K mg base (CXL P w) 4 "applied" ["steps", "value"] (spF T C (S_applied K))
  toldw : Fn P w K mg base CX0 3 "told_window" ["own"] (spF T C (S_toldw K))
  toldl : Fn P w K mg base CX0 3 "told_lengths" ["found"] (spF T C (S_toldl K))
  tolds : Fn P w K mg base CX0 3 "told_steps" ["steps"] (spF T C (S_tolds K))
  toldr : Fn P w K mg base (CXL P w) 6 "told_reading" ["steps", "value"] (spF T C (S_toldr K))
  window : Fn P w K mg base CX0 1 "window_pipelines" ["steps", "length"] (spF T C (S_window K))
  lof : Fn P w K mg base CX0 5 "lengths_of" ["steps", "size"] (spF T C (S_lof K))
  lwith : Fn P w K mg base CX0 5 "lengths_with" ["steps", "index"] (spF T C (S_lwith K))
  cap : Fn P w K mg base CX0 6 "capacity" ["steps"] (spF T C (S_cap K))
  integer : Fn P w K mg base CX0 1 "integer" ["number"] (spF T C (S_integer K))
section
variable {X : Cx} {c : Cfg} {γ : Gm} {po : Po} {e : Expr} {pos : Pos}
/-- the value of a call that may refuse, given back -/
theorem sj_retOut {out : Out} (hok : ∀ P, out = .ok P → Ev X c.T γ e P) (herr : ∀ o m, out = .err o m → EvErr X c.T γ c.C c.E e o m) (hR : po.R = (poOf out).R := by rfl) (hE : po.er = (poOf out).er := by rfl) : SJ X c γ (.Return (some e) pos) po := by
  cases ho : out with
  | ok P => exact sj_ret (by rw [hR, ho]; exact hok P ho)
  | err o m => exact sj_retErr (herr o m ho) (by rw [hE, ho]; exact ⟨rfl, rfl⟩)
/-- a conditional whose chosen side refuses -/
theorem eve_if {T : List NTab} {C : Addr} {E : XK} {t a b : Expr} {p0 : Pos} {o : Int} {m : Str} {k : Bool} (hc : EvT X T γ t k) (ha : k = true → EvErr X T γ C E a o m) (hb : k = false → EvErr X T γ C E b o m) : EvErr X T γ C E (.IfExp t a b p0) o m := by
  have na : ∀ e, PE X e tNoE := fun e => ⟨fun _ _ _ _ _ _ z => z.elim⟩
  cases k with
  | true =>
    refine PE.imp (pe_ifExp hc (ha rfl) (na b)) fun σ H Q ⟨F, s, q⟩ => ⟨F, s, fun F2 H2 g => ?_⟩
    show (if true = true then _ else _)
    rw [if_pos rfl]
    exact ⟨F2, s.grow g, fun d F3 H3 g3 h0 p3 => q d F3 H3 (g.trans g3) (g.free _ h0) p3⟩
  | false =>
    refine PE.imp (pe_ifExp hc (na a) (hb rfl)) fun σ H Q ⟨F, s, q⟩ => ⟨F, s, fun F2 H2 g => ?_⟩
    show (if false = true then _ else _)
    rw [if_neg Bool.false_ne_true]
    exact ⟨F2, s.grow g, fun d F3 H3 g3 h0 p3 => q d F3 H3 (g.trans g3) (g.free _ h0) p3⟩
end
theorem ok_on {f : Addr} {fd : FuncData} (F : Fun K "on_pipeline" "on_pipeline" s_on f fd) (O : OnS P w K mg base T C CN) (D : DigOk) : FnOk P w K mg base (CXL P w) 7 f fd ["door", "given"] (spF T C (S_on K)) := by
  have X := O.N.x
  refine def_okX F sc_on (fun _ => rfl) fun ⟨door, a, b⟩ hv cdv A outer s H E hr tk => ?_
  obtain ⟨hd, ha, hb, hbl, hfm⟩ : door ≤ 10 ∧ argOk a ∧ argOk b ∧ (∀ l, b = .list l → l.length ≤ 100000) ∧ ∀ p, pipeM a = some p → (fmtS p).cps.toList.length < sizeLine ∧ (nOf p).steps.length ≤ 40 := hv
  obtain ⟨a1, a2, a3⟩ := id ha
  obtain ⟨b1, b2, b3⟩ := id hb
  show SJs _ _ [.sh (sh K (.int door)), .sh (sh K (givD a b)), .un, .un] _ (poOf (outOn K door a b))
  refine sj_cons (sj_if (evt_eqI (ev_var 0 rfl) ev_int) (fun h => ?_) fun h0 => ?_)
  · have h : door = 0 := by have := of_decide_eq_true h; omega
    subst h
    exact sj_last (sj_retOut (out := outParsed K (parseM a)) (fun P ho => ev_callX O.parsed hr (by decide) a ⟨a1, a3⟩ ho (eva_cons (ev_ixL (ds := [valD a, valD b]) (ev_var 1 rfl) ev_int) eva_nil)) (fun o m ho => ev_callErr O.parsed tk hr (by decide) a ⟨a1, a3⟩ ho (eva_cons (ev_ixL (ds := [valD a, valD b]) (ev_var 1 rfl) ev_int) eva_nil)))
  · have h0 : ¬ door = 0 := by have := of_decide_eq_false h0; omega
    refine sj_nil (sj_cons (sj_if (evt_eqI (ev_var 0 rfl) ev_int) (fun h => ?_) fun h5 => ?_))
    · have h : door = 5 := by have := of_decide_eq_true h; omega
      subst h
      exact sj_last (sj_retOut (out := outCompared K a b) (fun P ho => ev_callX O.compared hr (by decide) (⟨a, b⟩ : iTwo) ⟨ha, hb⟩ ho (eva_cons (ev_var 1 rfl) eva_nil)) (fun o m ho => ev_callErr O.compared tk hr (by decide) (⟨a, b⟩ : iTwo) ⟨ha, hb⟩ ho (eva_cons (ev_var 1 rfl) eva_nil)))
    · have h5 : ¬ door = 5 := by have := of_decide_eq_false h5; omega
      refine sj_nil (sj_cons (sj_if (evt_eqI (ev_var 0 rfl) ev_int) (fun h => ?_) fun h6 => ?_))
      · have h : door = 6 := by have := of_decide_eq_true h; omega
        subst h
        exact sj_last (sj_retOut (out := outCommuting K a b) (fun P ho => ev_callX O.commuting hr (by decide) (⟨a, b⟩ : iTwo) ⟨ha, hb⟩ ho (eva_cons (ev_var 1 rfl) eva_nil)) (fun o m ho => ev_callErr O.commuting tk hr (by decide) (⟨a, b⟩ : iTwo) ⟨ha, hb⟩ ho (eva_cons (ev_var 1 rfl) eva_nil)))
      · have h6 : ¬ door = 6 := by have := of_decide_eq_false h6; omega
        have hout : outOn K door a b = match pipeM a with
          | none => .err 1 (fewS "pipeline")
          | some p => outPipe K door p b := by
          match door, h0, h5, h6 with
          | 0, h, _, _ => exact absurd rfl h
          | 1, _, _, _ => rfl
          | 2, _, _, _ => rfl
          | 3, _, _, _ => rfl
          | 4, _, _, _ => rfl
          | 5, _, h, _ => exact absurd rfl h
          | 6, _, _, h => exact absurd rfl h
          | _ + 7, _, _, _ => rfl
        rw [hout]
        refine sj_nil ?_
        cases hp : pipeM a with
        | none => exact sj_cons (sj_setErr 2 (o := 1) (m := fewS "pipeline") (ev_callErr O.needp tk hr (by decide) (⟨a, "pipeline"⟩ : iPipe) ⟨a1, a2, len_pipeline⟩ (err_needp hp) (eva_cons (ev_ixL (ds := [valD a, valD b]) (ev_var 1 rfl) ev_int) (eva_cons ev_str eva_nil))) ⟨rfl, rfl⟩ sc_on.nd)
        | some p =>
          obtain ⟨p1, p2⟩ := pipe_ok hp
          obtain ⟨hf1, hf2⟩ := hfm p hp
          have hA : (nOf p).turns.length ≤ 60 := Nat.le_trans (Tl.nOf_len p) (by omega)
          refine sj_cons (sj_set 2 (ev_callX O.needp hr (by decide) (⟨a, "pipeline"⟩ : iPipe) ⟨a1, a2, len_pipeline⟩ (out_needp hp) (eva_cons (ev_ixL (ds := [valD a, valD b]) (ev_var 1 rfl) ev_int) (eva_cons ev_str eva_nil))) ?_ sc_on.nd)
          show SJs _ _ [.sh (sh K (.int door)), .sh (sh K (givD a b)), .sh (sh K (.list (stepsL p))), .un] _ (poOf (outPipe K door p b))
          -- a number behind the pipeline
          have ll : ∀ x : Str, x = "length" ∨ x = "size" ∨ x = "index" → x.length ≤ 100 := by
            rintro x (rfl | rfl | rfl) <;> decide +kernel
          refine sj_cons (sj_if (evt_eqI (ev_var 0 rfl) ev_int) (fun h => ?_) fun h1 => ?_)
          · have h : door = 1 := by have := of_decide_eq_true h; omega
            subst h
            refine sj_last (sj_ret' (d := textD (fmtS p)) (ev_call O.text hr (by decide) (fmtS p) hf1 rfl (eva_cons (ev_join (s := " | ") (ys := p.map stepS) ?_ ev_str (Ev.cast (EvN.sh (evn_lc (own := [("step", 3)]) (ds := stepsL p) (f := fun _ => true) (g := fun d => match d with
              | .tuple [.str k, .int c] => .str (stepS ⟨undK k, c.toNat⟩)
              | _ => .none) true rfl sc_on.nd (ev_var 2 rfl) (blkOk_by (N := ["door", "given", "steps", "step"]) (sc := defScope s_on) (by decide +kernel)) (fun _ _ _ _ _ => pg_name sc_on.nd rfl (.inl rfl)) (tgt_name 3) (fun _ _ => trivial) ?_ ⟨fun d hd s H C cl fp => evts_nil, fun d hd _ s H C cl fp => ?_⟩)) ?_)) eva_nil)) rfl)
            · rw [List.length_map, List.map_map]
              have h3 : (" | " : Str).length ≤ 10 := by decide +kernel
              have hs : ∀ (l : Pipe), (∀ s ∈ l, s.count ≤ 1000000) → (l.map (Str.length ∘ stepS)).sum ≤ 200 * l.length := by
                intro l
                induction l with
                | nil => intro _; exact Nat.le_refl _
                | cons x l ih =>
                  intro hl
                  have q1 := ih fun s hs => hl s (List.mem_cons_of_mem _ hs)
                  have q2 := stepS_len D (hl x List.mem_cons_self)
                  rw [List.map_cons, List.sum_cons, List.length_cons]
                  show (stepS x).length + _ ≤ _
                  omega
              have q := hs p p2
              have q3 := Nat.mul_le_mul p1 h3
              generalize (List.map (Str.length ∘ stepS) p).sum = z at q ⊢
              generalize p.length * (" | " : Str).length = y at q3 ⊢
              exact Nat.le_trans (Nat.add_le_add (Nat.le_trans q (Nat.mul_le_mul_left 200 p1)) q3) (show 200 * 20 + 20 * 10 ≤ 16777216 by decide)
            · rw [stepsL, List.length_map]
              exact small_of (m := 20) p1 rfl
            · obtain ⟨st, hst, rfl⟩ := List.mem_map.mp hd
              have hc := p2 st hst
              refine Ev.cast (ev_call O.steptext hr (by decide) st ⟨hc, D _ (by omega), D (st.count + 1) (by omega)⟩ rfl (eva_cons (ev_var 3 rfl) eva_nil)) ?_
              show PyData.str (stepS st) = .str (stepS ⟨undK (kS st.kind), ((st.count : Int)).toNat⟩)
              rw [und_k, Int.toNat_natCast]
            · rw [filter_all, stepsL, List.map_map, List.map_map]
              refine congrArg PyData.list (List.map_congr_left fun st _ => ?_)
              show PyData.str (stepS ⟨undK (kS st.kind), ((st.count : Int)).toNat⟩) = .str (stepS st)
              rw [und_k, Int.toNat_natCast]
          · have h1 : ¬ door = 1 := by have := of_decide_eq_false h1; omega
            refine sj_nil (sj_cons (sj_if (evt_eqI (ev_var 0 rfl) ev_int) (fun h => ?_) fun h2 => ?_))
            · have h : door = 2 := by have := of_decide_eq_true h; omega
              subst h
              exact sj_last (sj_retOut (out := outApplied K p (itemsM b)) (fun P ho => ev_callX O.applied hr (by decide) (⟨p, b⟩ : iApp) ⟨b1, hbl⟩ ho (eva_cons (ev_var 2 rfl) (eva_cons (ev_ixL (ds := [valD a, valD b]) (ev_var 1 rfl) ev_int) eva_nil))) (fun o m ho => ev_callErr O.applied tk hr (by decide) (⟨p, b⟩ : iApp) ⟨b1, hbl⟩ ho (eva_cons (ev_var 2 rfl) (eva_cons (ev_ixL (ds := [valD a, valD b]) (ev_var 1 rfl) ev_int) eva_nil))))
            · have h2 : ¬ door = 2 := by have := of_decide_eq_false h2; omega
              refine sj_nil (sj_cons (sj_if (evt_eqI (ev_var 0 rfl) ev_int) (fun h => ?_) fun h3 => ?_))
              · have h : door = 3 := by have := of_decide_eq_true h; omega
                subst h
                refine sj_last (sj_retOut (out := outNum K "length" b fun n => winV (pwin p n)) (fun P ho => ?_) fun o m ho => ?_)
                · unfold outNum at ho
                  cases hc : countM b 1000000000 with
                  | none => rw [hc] at ho; cases ho
                  | some n =>
                    rw [hc] at ho
                    obtain rfl := (Out.ok.inj ho).symm
                    exact ev_call O.toldw hr (by decide) (pwin p n) trivial rfl (eva_cons (ev_call O.window hr (by decide) (p, n) trivial rfl (eva_cons (ev_var 2 rfl) (eva_cons (ev_callX O.needn hr (by decide) (⟨b, 1000000000, "length"⟩ : iNeedn) ⟨b1, Nat.le_refl _, ll _ (by simp), len_most⟩ (out_needn hc) (eva_cons (ev_ixL (ds := [valD a, valD b]) (ev_var 1 rfl) ev_int) (eva_cons (ev_ci X.MOST_LENGTH) (eva_cons ev_str eva_nil)))) eva_nil))) eva_nil)
                · unfold outNum at ho
                  cases hc : countM b 1000000000 with
                  | some n => rw [hc] at ho; cases ho
                  | none =>
                    rw [hc] at ho
                    obtain ⟨rfl, rfl⟩ := Out.err.inj ho
                    exact err_args O.toldw L2.pass0 hr (by decide) (eva_err (err_args O.window L2.pass0 hr (by decide) (eva_err2 (ev_var 2 rfl) (eva_err (ev_callErr O.needn tk hr (by decide) (⟨b, 1000000000, "length"⟩ : iNeedn) ⟨b1, Nat.le_refl _, ll _ (by simp), len_most⟩ (err_needn hc) (eva_cons (ev_ixL (ds := [valD a, valD b]) (ev_var 1 rfl) ev_int) (eva_cons (ev_ci X.MOST_LENGTH) (eva_cons ev_str eva_nil))))))))
              · have h3 : ¬ door = 3 := by have := of_decide_eq_false h3; omega
                refine sj_nil (sj_cons (sj_if (evt_eqI (ev_var 0 rfl) ev_int) (fun h => ?_) fun h4 => ?_))
                · have h : door = 4 := by have := of_decide_eq_true h; omega
                  subst h
                  exact sj_last (sj_ret' (d := valD (pipeV (nOf p).steps)) (ev_call O.tolds hr (by decide) (nOf p).steps hf2 rfl (eva_cons (ev_meth0 O.N.steps hr (by decide) (nOf p) hA rfl rfl (obj_ins rfl) (ev_normal O.N.nm hr (by decide) p (by omega) (ev_var 2 rfl))) eva_nil)) rfl)
                · have h4 : ¬ door = 4 := by have := of_decide_eq_false h4; omega
                  refine sj_nil (sj_cons (sj_if (evt_eqI (ev_var 0 rfl) ev_int) (fun h => ?_) fun h7 => ?_))
                  · have h : door = 7 := by have := of_decide_eq_true h; omega
                    subst h
                    refine sj_last (sj_retOut (out := outNum K "size" b fun n => lenV (R7256f.Spec.lengthsOf (nOf p).form n)) (fun P ho => ?_) fun o m ho => ?_)
                    · unfold outNum at ho
                      cases hc : countM b 1000000000 with
                      | none => rw [hc] at ho; cases ho
                      | some n =>
                        rw [hc] at ho
                        obtain rfl := (Out.ok.inj ho).symm
                        exact ev_call O.toldl hr (by decide) (R7256f.Spec.lengthsOf (nOf p).form n) trivial rfl (eva_cons (ev_call O.lof hr (by decide) (p, n) p1 rfl (eva_cons (ev_var 2 rfl) (eva_cons (ev_callX O.needn hr (by decide) (⟨b, 1000000000, "size"⟩ : iNeedn) ⟨b1, Nat.le_refl _, ll _ (by simp), len_most⟩ (out_needn hc) (eva_cons (ev_ixL (ds := [valD a, valD b]) (ev_var 1 rfl) ev_int) (eva_cons (ev_ci X.MOST_LENGTH) (eva_cons ev_str eva_nil)))) eva_nil))) eva_nil)
                    · unfold outNum at ho
                      cases hc : countM b 1000000000 with
                      | some n => rw [hc] at ho; cases ho
                      | none =>
                        rw [hc] at ho
                        obtain ⟨rfl, rfl⟩ := Out.err.inj ho
                        exact err_args O.toldl L2.pass0 hr (by decide) (eva_err (err_args O.lof L2.pass0 hr (by decide) (eva_err2 (ev_var 2 rfl) (eva_err (ev_callErr O.needn tk hr (by decide) (⟨b, 1000000000, "size"⟩ : iNeedn) ⟨b1, Nat.le_refl _, ll _ (by simp), len_most⟩ (err_needn hc) (eva_cons (ev_ixL (ds := [valD a, valD b]) (ev_var 1 rfl) ev_int) (eva_cons (ev_ci X.MOST_LENGTH) (eva_cons ev_str eva_nil))))))))
                  · have h7 : ¬ door = 7 := by have := of_decide_eq_false h7; omega
                    refine sj_nil (sj_cons (sj_if (evt_eqI (ev_var 0 rfl) ev_int) (fun h => ?_) fun h8 => ?_))
                    · have h : door = 8 := by have := of_decide_eq_true h; omega
                      subst h
                      refine sj_last (sj_retOut (out := outNum K "index" b fun n => lenV (R7256f.Spec.lengthsWith (nOf p).form n)) (fun P ho => ?_) fun o m ho => ?_)
                      · unfold outNum at ho
                        cases hc : countM b 1000000000 with
                        | none => rw [hc] at ho; cases ho
                        | some n =>
                          rw [hc] at ho
                          obtain rfl := (Out.ok.inj ho).symm
                          exact ev_call O.toldl hr (by decide) (R7256f.Spec.lengthsWith (nOf p).form n) trivial rfl (eva_cons (ev_call O.lwith hr (by decide) (p, n) p1 rfl (eva_cons (ev_var 2 rfl) (eva_cons (ev_callX O.needn hr (by decide) (⟨b, 1000000000, "index"⟩ : iNeedn) ⟨b1, Nat.le_refl _, ll _ (by simp), len_most⟩ (out_needn hc) (eva_cons (ev_ixL (ds := [valD a, valD b]) (ev_var 1 rfl) ev_int) (eva_cons (ev_ci X.MOST_LENGTH) (eva_cons ev_str eva_nil)))) eva_nil))) eva_nil)
                      · unfold outNum at ho
                        cases hc : countM b 1000000000 with
                        | some n => rw [hc] at ho; cases ho
                        | none =>
                          rw [hc] at ho
                          obtain ⟨rfl, rfl⟩ := Out.err.inj ho
                          exact err_args O.toldl L2.pass0 hr (by decide) (eva_err (err_args O.lwith L2.pass0 hr (by decide) (eva_err2 (ev_var 2 rfl) (eva_err (ev_callErr O.needn tk hr (by decide) (⟨b, 1000000000, "index"⟩ : iNeedn) ⟨b1, Nat.le_refl _, ll _ (by simp), len_most⟩ (err_needn hc) (eva_cons (ev_ixL (ds := [valD a, valD b]) (ev_var 1 rfl) ev_int) (eva_cons (ev_ci X.MOST_LENGTH) (eva_cons ev_str eva_nil))))))))
                    · have h8 : ¬ door = 8 := by have := of_decide_eq_false h8; omega
                      refine sj_nil (sj_last ?_)
                      by_cases h : door = 9
                      · subst h
                        exact sj_retOut (out := outReading K p b) (fun P ho => ev_if (k := true) (EvT.cast (evt_eqI (ev_var 0 rfl) ev_int) rfl) (fun _ => ev_callX O.toldr hr (by decide) (⟨p, b⟩ : iApp) ⟨p1, b1⟩ ho (eva_cons (ev_var 2 rfl) (eva_cons (ev_ixL (ds := [valD a, valD b]) (ev_var 1 rfl) ev_int) eva_nil))) fun h => by cases h)
                          fun o m ho => eve_if (k := true) (EvT.cast (evt_eqI (ev_var 0 rfl) ev_int) rfl) (fun _ => ev_callErr O.toldr tk hr (by decide) (⟨p, b⟩ : iApp) ⟨p1, b1⟩ ho (eva_cons (ev_var 2 rfl) (eva_cons (ev_ixL (ds := [valD a, valD b]) (ev_var 1 rfl) ev_int) eva_nil))) fun h => by cases h
                      · have hd10 : door = 10 := by omega
                        subst hd10
                        exact sj_ret' (d := valD (.int (R7256f.Spec.capacity (nOf p).form))) (ev_if (k := false) (EvT.cast (evt_eqI (ev_var 0 rfl) ev_int) rfl) (fun h => by cases h) fun _ => ev_call O.integer hr (by decide) (R7256f.Spec.capacity (nOf p).form : Int) trivial rfl (eva_cons (ev_call O.cap hr (by decide) p p1 rfl (eva_cons (ev_var 2 rfl) eva_nil)) eva_nil)) rfl
end
end Td
namespace Tw
open PySem PySem.Spec PyProof.Rows L2
open Tl (NP)
/-- a stream as it stands -/
structure StrW where
  p : Addr
  la : Addr
  o : NP
  items : List RWire.Value
  ret : Nat
  st : Bool
  cl : Bool
end Tw
namespace Td
open PySem PySem.Spec PyProof.Rows L2 Tw
open Tl (NP pwin wstep norm maxL nOf readingM)
def answerV (v : RWire.Value) (b : Bool) : RWire.Value := .record [(valueO, v), (doneO, .bool b)]
abbrev s_answer : Stmt := top 71
abbrev s_S (j : Nat) : Stmt := inClass (top 72) j
section
variable {P : Program} {w : World} {K : Frag} {mg : Str → Option Value} {base : Heap} {T : List NTab} {C CN CS : Addr}
def S_answer (K : Frag) : RWire.Value × Bool → Pr := fun i => ⟨True, [sh K (valD i.1), sh K (.bool i.2)], .ok (sh K (valD (answerV i.1 i.2)))⟩
theorem sc_answer : FnScope ["value", "is_done"] ["value", "is_done"] (defScope s_answer) := ⟨rfl, rfl, rfl, by decide +kernel, rfl, by decide +kernel, by decide +kernel⟩
theorem ok_answer {f : Addr} {fd : FuncData} (F : Fun K "answer" "answer" s_answer f fd) (f_record : Fn P w K mg base CX0 2 "record" ["pairs"] (spF T C (S_record K))) (f_truth : Fn P w K mg base CX0 1 "truth" ["told"] (spF T C (S_truth K))) : FnOk P w K mg base CX0 3 f fd ["value", "is_done"] (spF T C (S_answer K)) := by
  refine def_ok F sc_answer (fun _ => rfl) fun ⟨v, b⟩ _ cdv A outer s H E hr => ?_
  exact sj_last (sj_ret' (d := valD (answerV v b)) (ev_rec2 (u := v) (v := .bool b) f_record hr (by decide) nm_value nm_done (ev_var 0 rfl) (ev_call f_truth hr (by decide) b trivial rfl (eva_cons (ev_var 1 rfl) eva_nil))) rfl)
/-! ### a stream -/
structure TxtS (K : Frag) (CS : Addr) : Prop where
  cl : Cls K CS
  nN : NoAttr K CS "normal"
  nI : NoAttr K CS "read_items"
  nR : NoAttr K CS "returned"
  nS : NoAttr K CS "is_started"
  nC : NoAttr K CS "is_closed"
def sFs (K : Frag) (CN : Addr) (o : NP) : Fds := [("normal", .ty (nrm K CN o)), ("read_items", .ol []), ("returned", .ty (sh K (.int 0))), ("is_started", .ty (sh K (.bool false))), ("is_closed", .ty (sh K (.bool false)))]
def S_sinit (K : Frag) (CN : Addr) : Pipe → OPr := fun p => ⟨p.length ≤ 20, [], [sh K (.list (stepsL p))], sFs K CN (nOf p), .none⟩
theorem sc_sinit : FnScope ["self", "steps"] ["self", "steps"] (defScope (s_S 0)) := ⟨rfl, rfl, rfl, by decide +kernel, rfl, by decide +kernel, by decide +kernel⟩
theorem ok_sinit {f : Addr} {fd : FuncData} (F : Fun K "__init__" "Stream.__init__" (s_S 0) f fd) (t : TxtS K CS) (M : MkN P w K mg base T CN) : FnOk P w K mg base CX0 5 f fd ["self", "steps"] (spO T K CS (S_sinit K CN)) := by
  refine def_okO (CR := CS) F sc_sinit (fun _ => rfl) fun b hb p cdv A outer s H E hr => ?_
  have hb : b.length ≤ 20 := hb
  refine oj_cons (oj_fldT (P := nrm K CN (nOf b)) t.cl t.nN rfl (ev_normal M hr (by decide) b (by omega) (ev_var 1 rfl)) ?_)
  refine oj_cons (oj_olset (ds := []) t.cl t.nI rfl rfl (show (["normal"] : List Str).Nodup by decide +kernel) (evn_lst (ds := []) eva_nil) rfl ?_)
  refine oj_cons (oj_fld (i := 0) (d := .int 0) t.cl t.nR rfl ev_int rfl ?_)
  refine oj_cons (oj_fld (i := 0) (d := .bool false) t.cl t.nS rfl ev_bl rfl ?_)
  exact oj_last (oj_fld (i := 0) (d := .bool false) t.cl t.nC rfl ev_bl rfl ⟨rfl, rfl⟩)
def strFs (w : StrW) (v : V) : List (Str × V) := [("normal", v), ("read_items", .ref w.la), ("returned", .int (w.ret : Int)), ("is_started", .bl w.st), ("is_closed", .bl w.cl)]
def strAt (K : Frag) (CS CN : Addr) (w : StrW) (S : Addr → Prop) (F H : Hp) : Prop := (∀ a, S a ↔ a = w.p ∨ a = w.la) ∧ w.p ≠ w.la ∧ F w.p = none ∧ F w.la = none ∧
  ∃ dx v xs, H w.p = some (.ins CS dx (strFs w v)) ∧ (nrm K CN w.o).p v F ∧ H w.la = some (.lst xs) ∧ DqAll K F (w.items.map valD) xs
def strWd (K : Frag) (CS CN : Addr) : Wd where
  Om := StrW
  at_ := strAt K CS CN
  own := fun {w S F H} ⟨h1, h2, h3, h4, dx, v, xs, h5, h6, h7, h8⟩ a ha => by
    rcases (h1 a).mp ha with rfl | rfl
    · exact ⟨h3, _, h5, trivial⟩
    · exact ⟨h4, _, h7, trivial⟩
  keep := fun {w S F H F2 H2} ⟨h1, h2, h3, h4, dx, v, xs, h5, h6, h7, h8⟩ e n k => ⟨h1, h2, n _ ((h1 _).mpr (.inl rfl)), n _ ((h1 _).mpr (.inr rfl)), dx, v, xs, by rw [k _ ((h1 _).mpr (.inl rfl))]; exact h5, (nrm K CN w.o).mono e h6, by rw [k _ ((h1 _).mpr (.inr rfl))]; exact h7, DqAll.mono e _ _ h8⟩
def strT (K : Frag) (CS CN : Addr) (w : StrW) : Ty := obj CS [("normal", nrm K CN w.o), ("read_items", sh K (.list (w.items.map valD))), ("returned", sh K (.int (w.ret : Int))), ("is_started", sh K (.bool w.st)), ("is_closed", sh K (.bool w.cl))]
theorem str_frz {K : Frag} {CS CN : Addr} {w : StrW} {γ : Gm} {i : Nat} (hi : γ[i]? = some (.sh (refTy w.p))) : FrzG (strWd K CS CN) w γ (γ.set i (.sh (strT K CS CN w))) := fun S F H σ a h => by
  obtain ⟨h1, h2, h3, h4, dx, v, xs, h5, h6, h7, h8⟩ := id a
  obtain ⟨u, hu, e⟩ := h.2 i _ hi
  have e : u = .ref w.p := e
  subst e
  have q := (h.mono (glue_ex a)).set (i := i) (P := strT K CS CN w) (v := .ref w.p) ⟨w.p, dx, _, rfl, by rw [glue_in ((h1 _).mpr (.inl rfl))]; exact h5, _, _, rfl, (nrm K CN w.o).mono (glue_ex a) h6, _, _, rfl, ⟨_, xs, rfl, by rw [glue_in ((h1 _).mpr (.inr rfl))]; exact h7, DqAll.mono (glue_ex a) _ _ h8⟩, _, _, rfl, rfl, _, _, rfl, rfl, _, _, rfl, rfl, rfl⟩
  rwa [set_same hu] at q
section
variable {X : Cx} {γ : Gm} {e : Expr} {pos p : Pos} {w : StrW}
theorem gN (t : TxtS X.K CS) (ho : Ev X T γ e (strT X.K CS CN w)) (hb : attributeBase e "normal" X.env (eval e X.env) = eval e X.env := by rfl) : Ev X T γ (.Attribute e "normal" pos) (nrm X.K CN w.o) := ev_fld t.cl t.nN rfl ho hb
theorem gI (t : TxtS X.K CS) (ho : Ev X T γ e (strT X.K CS CN w)) (hb : attributeBase e "read_items" X.env (eval e X.env) = eval e X.env := by rfl) : Ev X T γ (.Attribute e "read_items" pos) (sh X.K (.list (w.items.map valD))) := ev_fld t.cl t.nI rfl ho hb
theorem gR (t : TxtS X.K CS) (ho : Ev X T γ e (strT X.K CS CN w)) (hb : attributeBase e "returned" X.env (eval e X.env) = eval e X.env := by rfl) : Ev X T γ (.Attribute e "returned" pos) (sh X.K (.int (w.ret : Int))) := ev_fld t.cl t.nR rfl ho hb
theorem gS (t : TxtS X.K CS) (ho : Ev X T γ e (strT X.K CS CN w)) (hb : attributeBase e "is_started" X.env (eval e X.env) = eval e X.env := by rfl) : Ev X T γ (.Attribute e "is_started" pos) (sh X.K (.bool w.st)) := ev_fld t.cl t.nS rfl ho hb
theorem gC (t : TxtS X.K CS) (ho : Ev X T γ e (strT X.K CS CN w)) (hb : attributeBase e "is_closed" X.env (eval e X.env) = eval e X.env := by rfl) : Ev X T γ (.Attribute e "is_closed" pos) (sh X.K (.bool w.cl)) := ev_fld t.cl t.nC rfl ho hb
/-- self.read_items[lo:hi] -/
theorem wn_slF {i : Nat} {lo hi : Option Expr} {l h : Option Int} {x : Str} {q1 q2 p2 : Pos} (t : TxtS X.K CS) (hi0 : γ[i]? = some (.sh (refTy w.p))) (hv : PE X (.Name x q1) (tVar i)) (hl : EvO X T γ lo l) (hh : EvO X T γ hi h) (hb : attributeBase (.Name x q1) "read_items" X.env (eval (.Name x q1) X.env) = eval (.Name x q1) X.env := by rfl) :
    WN X (strWd X.K CS CN) T γ w w (.Subscript (.Attribute (.Name x q1) "read_items" q2) (.Slice lo hi none p2) pos) (cutD (w.items.map valD) l h) :=
  PE.imp (pe_slice sl_list (pe_fld hv hb) hl hh) fun σ H Q ⟨F, S, s, a, q⟩ => by
    obtain ⟨u, hu, e⟩ := s.env.2 i _ hi0
    have e : u = .ref w.p := e
    subst e
    obtain ⟨h1, h2, h3, h4, dx, v, xs, h5, h6, h7, h8⟩ := id a
    refine ⟨_, hu, w.p, CS, dx, _, _, rfl, h5, t.cl, t.nI, rfl, F, st_whole s, fun F2 H2 g => ⟨F2, st_whole (s.grow (gw_of a g)), fun F3 H3 g3 => ?_⟩⟩
    have a2 := at_of a g
    have a3 := at_of a2 g3
    obtain ⟨k1, k2, k3, k4, dx', v', xs', k5, k6, k7, k8⟩ := id a3
    have gg := (gw_of a g).trans (gw_of a2 g3)
    have hx : H3 w.la = some (.lst xs) := by
      rw [(gw_own a2 g3).2 _ ((h1 _).mpr (.inr rfl)), (gw_own a g).2 _ ((h1 _).mpr (.inr rfl))]
      exact h7
    refine ⟨w.la, xs, rfl, SqL.of hx, fun p hp => ?_⟩
    have nS := not_own a3 hp
    have s3 := s.grow gg
    have g5 := gw_raw (T := T) (o := HO.lst (cutV xs l h)) a3 s3.ex hp
    have a5 := at_raw (o := HO.lst (cutV xs l h)) a3 hp
    exact q p _ F3 _ S (gg.trans g5) a5 (gg.free _ (by rw [cut_of nS]; exact hp)) (s3.ex.free (by rw [cut_of nS]; exact hp)) (by rw [cut_of nS]; exact upd_same) (cut_data (DqAll.mono gg.f _ xs h8) l h)
end
end
end Td
namespace Td
open PySem PySem.Spec PyProof.Rows L2 Tw
open Tl (NP pwin wstep norm maxL nOf readingM)
theorem cutD_any (ds : List PyData) (i j : Nat) : Tw.cutD ds (some (i : Int)) (some (j : Int)) = (ds.drop i).take (j - i) := by
  unfold Tw.cutD
  rw [HT.sIx_nat, HT.sIx_nat]
  by_cases hi : ds.length ≤ i
  · rw [Nat.min_eq_right hi, List.drop_eq_nil_of_le (Nat.le_refl _), List.drop_eq_nil_of_le hi, List.take_nil, List.take_nil]
  · rw [Nat.min_eq_left (show i ≤ ds.length by omega)]
    by_cases hj : j ≤ ds.length
    · rw [Nat.min_eq_left hj]
    · rw [Nat.min_eq_right (show ds.length ≤ j by omega), List.take_of_length_le (by rw [List.length_drop]; omega), List.take_of_length_le (by rw [List.length_drop]; omega)]
def upW (w : StrW) (u : Nat × Nat) : StrW := { w with ret := if 0 < u.2 then max w.ret u.2 else w.ret }
def upL (w : StrW) (u : Nat × Nat) : List RWire.Value := (w.items.drop (max u.1 w.ret)).take (u.2 - max u.1 w.ret)
section
variable {P : Program} {w : World} {K : Frag} {mg : Str → Option Value} {base : Heap} {T : List NTab} {C CN CS : Addr}
theorem str_ret {w : StrW} {n : Nat} : ∀ S F H v u, (strWd K CS CN).at_ w S F H → (refTy w.p).p v F → (sh K (.int (n : Int))).p u F → ∃ a dx fs, v = .ref a ∧ S a ∧ H a = some (.ins CS dx fs) ∧ fs.length ≤ 900 ∧ (strWd K CS CN).at_ { w with ret := n } S F (upd H a (.ins CS dx (putF ("returned" : Str) u fs))) := fun S F H v u ⟨h1, h2, h3, h4, dx, y, xs, h5, h6, h7, h8⟩ hv hu => by
  have hu : u = .int (n : Int) := hu
  subst hu
  refine ⟨w.p, dx, _, hv, (h1 _).mpr (.inl rfl), h5, by show 5 ≤ 900; decide, h1, h2, h3, h4, dx, y, xs, by rw [upd_same]; rfl, h6, ?_, h8⟩
  rw [upd_ne (Ne.symm h2)]
  exact h7
theorem str_st {w : StrW} {n : Bool} : ∀ S F H v u, (strWd K CS CN).at_ w S F H → (refTy w.p).p v F → (sh K (.bool n)).p u F → ∃ a dx fs, v = .ref a ∧ S a ∧ H a = some (.ins CS dx fs) ∧ fs.length ≤ 900 ∧ (strWd K CS CN).at_ { w with st := n } S F (upd H a (.ins CS dx (putF ("is_started" : Str) u fs))) := fun S F H v u ⟨h1, h2, h3, h4, dx, y, xs, h5, h6, h7, h8⟩ hv hu => by
  have hu : u = .bl n := hu
  subst hu
  refine ⟨w.p, dx, _, hv, (h1 _).mpr (.inl rfl), h5, by show 5 ≤ 900; decide, h1, h2, h3, h4, dx, y, xs, by rw [upd_same]; rfl, h6, ?_, h8⟩
  rw [upd_ne (Ne.symm h2)]
  exact h7
theorem str_cl {w : StrW} {n : Bool} : ∀ S F H v u, (strWd K CS CN).at_ w S F H → (refTy w.p).p v F → (sh K (.bool n)).p u F → ∃ a dx fs, v = .ref a ∧ S a ∧ H a = some (.ins CS dx fs) ∧ fs.length ≤ 900 ∧ (strWd K CS CN).at_ { w with cl := n } S F (upd H a (.ins CS dx (putF ("is_closed" : Str) u fs))) := fun S F H v u ⟨h1, h2, h3, h4, dx, y, xs, h5, h6, h7, h8⟩ hv hu => by
  have hu : u = .bl n := hu
  subst hu
  refine ⟨w.p, dx, _, hv, (h1 _).mpr (.inl rfl), h5, by show 5 ≤ 900; decide, h1, h2, h3, h4, dx, y, xs, by rw [upd_same]; rfl, h6, ?_, h8⟩
  rw [upd_ne (Ne.symm h2)]
  exact h7
theorem str_meth {w : StrW} {x : Str} (hx : ∀ v, (strFs w v).lookup x = none) : ∀ S F H v, (strWd K CS CN).at_ w S F H → (refTy w.p).p v F → ∃ a dx fs, v = .ref a ∧ H a = some (.ins CS dx fs) ∧ fs.lookup x = none := fun S F H v ⟨h1, h2, h3, h4, dx, y, xs, h5, h6, h7, h8⟩ hv => ⟨w.p, dx, _, hv, h5, hx y⟩
def S_upto (K : Frag) : StrW × (Nat × Nat) → PrW StrW := fun i => ⟨True, i.1, [refTy i.1.p, sh K (winD i.2)], .ok (sh K (valD (.list (upL i.1 i.2)))) (upW i.1 i.2)⟩
theorem sc_upto : FnScope ["self", "own", "start", "found"] ["self", "own"] (defScope (s_S 1)) := ⟨rfl, rfl, rfl, by decide +kernel, rfl, by decide +kernel, by decide +kernel⟩
theorem ok_upto {f : Addr} {fd : FuncData} (F : Fun K "up_to" "Stream.up_to" (s_S 1) f fd) (X : Txt K mg) (t : TxtS K CS) (hmax : mg "max" = none) (f_listed : Fn P w K mg base CX0 1 "listed" ["rows"] (spF T C (S_listed K))) : FnOk P w K mg base CX0 2 f fd ["self", "own"] (spW (strWd K CS CN) T C (S_upto K)) := by
  refine def_okW F sc_upto (fun _ => rfl) fun ⟨q, u⟩ _ cdv A outer s H E hr => ?_
  have fz : ∀ {γ : Gm}, γ[0]? = some (.sh (refTy q.p)) → FrzG (strWd K CS CN) q γ (γ.set 0 (.sh (strT K CS CN q))) := fun h => str_frz h
  refine wj_cons (wj_set 2 (P := sh K (.int ((max u.1 q.ret : Nat) : Int))) (we_fr (d := .int ((max u.1 q.ret : Nat) : Int)) (fz rfl) (Ev.cast (ev_max rfl hmax (ev_ixT (ds := [.int u.1, .int u.2]) (ev_var 1 rfl) ev_int) (gR (w := q) t (ev_var 0 rfl))) (congrArg PyData.int (by omega))) rfl) ?_ sc_upto.nd)
  refine wj_cons (wj_setN 3 (wn_slF (w := q) (i := 0) t rfl (pv 0) (evo_some (ev_var 2 rfl)) (evo_some (ev_ixT (ds := [.int u.1, .int u.2]) (ev_var 1 rfl) ev_int))) ?_ sc_upto.nd)
  rw [cutD_any]
  refine wj_share 3 rfl ?_
  have eL : ((q.items.map valD).drop (max u.1 q.ret)).take (u.2 - max u.1 q.ret) = valDs (upL q u) := by
    rw [valDs_map]
    unfold upL
    rw [List.map_take, List.map_drop]
  rw [eL]
  refine wj_cons (wj_if (k := decide (0 < u.2)) (wt_pure (EvT.cast (evt_gt (ev_ixT (ds := [.int u.1, .int u.2]) (ev_var 1 rfl) ev_int) ev_int) (by
      refine decide_eq_decide.mpr ?_
      omega))) (fun h => ?_) fun h => ?_)
  · have h : 0 < u.2 := of_decide_eq_true h
    refine wj_last (wj_fld (i := 0) (P := sh K (.int ((max q.ret u.2 : Nat) : Int))) (w1 := q) (w2 := { q with ret := max q.ret u.2 }) t.cl t.nR (we_fr (d := .int ((max q.ret u.2 : Nat) : Int)) (fz rfl) (Ev.cast (ev_max rfl hmax (gR (w := q) t (ev_var 0 rfl)) (ev_ixT (ds := [.int u.1, .int u.2]) (ev_var 1 rfl) ev_int)) (congrArg PyData.int (by omega))) rfl) (pv 0) ⟨_, rfl, str_ret⟩ ?_)
    have e : upW q u = { q with ret := max q.ret u.2 } := by
      unfold upW
      rw [if_pos h]
    show WJs _ _ _ _ _ _ (wpoOf (strWd K CS CN) (.ok (sh K (valD (.list (upL q u)))) (upW q u)))
    rw [e]
    exact wj_last (wj_ret (we_call f_listed hr (by decide) (true, valDs (upL q u)) trivial rfl (wa_cons (we_pure (ev_var 3 rfl)) wa_nil)) rfl)
  · have h : ¬ 0 < u.2 := of_decide_eq_false h
    refine wj_nil ?_
    have e : upW q u = q := by
      unfold upW
      rw [if_neg h]
    show WJs _ _ _ _ _ _ (wpoOf (strWd K CS CN) (.ok (sh K (valD (.list (upL q u)))) (upW q u)))
    rw [e]
    exact wj_last (wj_ret (we_call f_listed hr (by decide) (true, valDs (upL q u)) trivial rfl (wa_cons (we_pure (ev_var 3 rfl)) wa_nil)) rfl)
end
end Td
namespace Td
open PySem PySem.Spec PyProof.Rows L2 Tw
open Tl (NP pwin wstep norm maxL nOf readingM)
section
variable {P : Program} {w : World} {K : Frag} {mg : Str → Option Value} {base : Heap} {T : List NTab} {C CN CS : Addr}
/-- self.read_items.append(e) -/
theorem wj_appF {X : Cx} {c : Cfg} {γ : Gm} {q : StrW} {po : WPo (strWd X.K CS CN)} {e : Expr} {v : RWire.Value} {x : Str} {pos q1 q2 q3 q4 : Pos} (t : TxtS X.K CS) (hi : γ[0]? = some (.sh (refTy q.p))) (he : Ev X c.T γ e (sh X.K (valD v))) (hl : q.items.length < sizeLine) (h : po.nx γ { q with items := q.items ++ [v] })
    (hbm : ∀ t, PA X [e] t → PE X (.Call (.Attribute (.Attribute (.Name x q1) "read_items" q2) "append" q3) [e] [] q4) (tBM X.K "list" rAppend (tFld X.K (tVar 0) "read_items") t) := by exact fun t ha => pe_bm PySem.F.plainAttrs_list PySem.F.slot_list_append PySem.F.type_list_append mt_append (pe_fld (pv 0) rfl) ha)
    (hs : starEach [e] X.env = (false, eval e X.env) :: starEach [] X.env := by rfl)
    (hS : swapsWith (.Call (.Attribute (.Attribute (.Name x q1) "read_items" q2) "append" q3) [e] [] q4) none pos.line X.env = pure false := by rfl) : WJ X (strWd X.K CS CN) c γ q (.Expr (.Call (.Attribute (.Attribute (.Name x q1) "read_items" q2) "append" q3) [e] [] q4) pos) po := by
  refine PS.imp (ps_expr (hbm _ (pa_cons he pa_nil hs)) hS) fun D σ H ⟨F0, B, F, S, s, a, h1, _⟩ => ?_
  obtain ⟨u, hu, e1⟩ := s.s.env.2 0 _ hi
  have e1 : u = .ref q.p := e1
  subst e1
  obtain ⟨h1', h2, h3, h4, dx, y, xs, h5, h6, h7, h8⟩ := id a
  refine ⟨_, hu, q.p, CS, dx, _, _, rfl, h5, t.cl, t.nI, rfl, .inl ⟨rfl, xs, SqL.of h7⟩, F, st_whole s.s, fun v1 F2 H2 g p2 => ?_⟩
  have gc := gw_of a g
  have a2 := at_of a g
  obtain ⟨k0, k1⟩ := gw_own a g
  have r5 : H2 q.la = some (.lst xs) := by
    rw [k1 _ ((h1' _).mpr (.inr rfl))]
    exact h7
  refine ⟨q.la, xs, v1, rfl, rfl, r5, by rw [h8.length, List.length_map]; exact hl, h1 _ _ _ F2 _ S h (by rw [cut_upd_in ((h1' _).mpr (.inr rfl))]; exact s.grow gc) ?_⟩
  refine ⟨h1', h2, k0 _ ((h1' _).mpr (.inl rfl)), k0 _ ((h1' _).mpr (.inr rfl)), dx, y, xs ++ [v1], ?_, (nrm X.K CN q.o).mono g.f h6, upd_same, ?_⟩
  · rw [upd_ne h2, k1 _ ((h1' _).mpr (.inl rfl))]
    exact h5
  · show DqAll X.K F2 ((q.items ++ [v]).map valD) _
    rw [List.map_append]
    exact (DqAll.mono g.f _ xs h8).append (DqAll.one p2)
def nextW (q : StrW) (v : RWire.Value) : StrW × RWire.Value := if q.cl = true then (q, answerV .nothing true) else if q.st = false then ({ q with st := true }, answerV (.list []) false) else
  (upW { q with items := q.items ++ [v] } (readingM q.o (q.items.length + 1)).1, answerV (.list (upL { q with items := q.items ++ [v] } (readingM q.o (q.items.length + 1)).1)) false)
def endW (q : StrW) (v : RWire.Value) (b : Bool) : StrW × RWire.Value := if (q.st && !q.cl) = true then (upW { q with cl := true } (q.o.win q.items.length), answerV (.list (upL { q with cl := true } (q.o.win q.items.length))) true) else
  ({ q with cl := true }, if b = true then .record [(thrownO, v)] else answerV v true)
def S_sstep (K : Frag) : StrW × RWire.Value → PrW StrW := fun i => ⟨i.1.items.length ≤ 100000 ∧ i.1.o.turns.length ≤ 60, i.1, [refTy i.1.p, sh K (valD i.2)], .ok (sh K (valD (nextW i.1 i.2).2)) (nextW i.1 i.2).1⟩
def S_send (K : Frag) : StrW × RWire.Value × Bool → PrW StrW := fun i => ⟨i.1.items.length ≤ 100000 ∧ i.1.o.turns.length ≤ 60, i.1, [refTy i.1.p, sh K (valD i.2.1), sh K (.bool i.2.2)], .ok (sh K (valD (endW i.1 i.2.1 i.2.2).2)) (endW i.1 i.2.1 i.2.2).1⟩
theorem sc_sstep : FnScope ["self", "item"] ["self", "item"] (defScope (s_S 2)) := ⟨rfl, rfl, rfl, by decide +kernel, rfl, by decide +kernel, by decide +kernel⟩
theorem sc_send : FnScope ["self", "value", "is_failing", "is_open"] ["self", "value", "is_failing"] (defScope (s_S 3)) := ⟨rfl, rfl, rfl, by decide +kernel, rfl, by decide +kernel, by decide +kernel⟩
theorem ok_sstep {f : Addr} {fd : FuncData} (F : Fun K "step" "Stream.step" (s_S 2) f fd) (X : Txt K mg) (t : TxtS K CS) (f_listed : Fn P w K mg base CX0 1 "listed" ["rows"] (spF T C (S_listed K))) (f_answer : Fn P w K mg base CX0 3 "answer" ["value", "is_done"] (spF T C (S_answer K))) (f_reading : Fn P w K mg base CX0 5 "reading" ["own", "count"] (spF T C (S_reading K CN)))
    (m_upto : Mt P w K mg base CX0 2 CS "up_to" ["self", "own"] (spW (strWd K CS CN) T C (S_upto K))) : FnOk P w K mg base CX0 6 f fd ["self", "item"] (spW (strWd K CS CN) T C (S_sstep K)) := by
  refine def_okW F sc_sstep (fun _ => rfl) fun ⟨q, v⟩ hp cdv A outer s H E hr => ?_
  obtain ⟨hl, ho⟩ : q.items.length ≤ 100000 ∧ q.o.turns.length ≤ 60 := hp
  have hl : q.items.length < 1000000 := by omega
  have hsz : q.items.length < sizeLine := small_of (m := 1000000) (by omega) rfl
  show WJs _ _ _ _ _ _ (wpoOf (strWd K CS CN) (.ok (sh K (valD (nextW q v).2)) (nextW q v).1))
  refine wj_cons (wj_if (wt_fr (str_frz (w := q) (i := 0) rfl) (evt_val (gC (w := q) t (ev_var 0 rfl)))) (fun h => ?_) fun h => ?_)
  · have e : nextW q v = (q, answerV .nothing true) := if_pos h
    rw [e]
    exact wj_last (wj_ret (we_pure (ev_call f_answer hr (by decide) (.nothing, true) trivial rfl (eva_cons (ev_c1 X.NOTHING) (eva_cons ev_bl eva_nil)))) rfl)
  · refine wj_nil (wj_cons (wj_if (wt_fr (str_frz (w := q) (i := 0) rfl) (evt_not (evt_val (gS (w := q) t (ev_var 0 rfl))))) (fun h2 => ?_) fun h2 => ?_))
    · have h2 : q.st = false := by simpa using h2
      have e : nextW q v = ({ q with st := true }, answerV (.list []) false) := by
        unfold nextW
        rw [if_neg (by rw [h]; decide), if_pos h2]
      rw [e]
      refine wj_cons (wj_fld (i := 0) (P := sh K (.bool true)) (w1 := q) (w2 := { q with st := true }) t.cl t.nS (we_pure ev_bl) (pv 0) ⟨_, rfl, str_st⟩ ?_)
      exact wj_last (wj_ret (we_pure (ev_call f_answer hr (by decide) (.list [], false) trivial rfl (eva_cons (ev_call f_listed hr (by decide) (true, []) trivial rfl (eva_cons (EvN.sh (evn_lst (ds := []) eva_nil)) eva_nil)) (eva_cons ev_bl eva_nil)))) rfl)
    · have h2 : q.st = true := by simpa using h2
      have e : nextW q v = (upW { q with items := q.items ++ [v] } (readingM q.o (q.items.length + 1)).1, answerV (.list (upL { q with items := q.items ++ [v] } (readingM q.o (q.items.length + 1)).1)) false) := by
        unfold nextW
        rw [if_neg (by rw [h]; decide), if_neg (by rw [h2]; decide)]
      rw [e]
      refine wj_nil (wj_cons (wj_appF (q := q) (v := v) t rfl (ev_var 1 rfl) hsz ?_))
      refine wj_last (wj_ret (we_call f_answer hr (by decide) (.list (upL { q with items := q.items ++ [v] } (readingM q.o (q.items.length + 1)).1), false) trivial rfl (wa_cons (we_meth (R := refTy q.p) m_upto hr (by decide) (({ q with items := q.items ++ [v] } : StrW), (readingM q.o (q.items.length + 1)).1) trivial rfl rfl rfl (str_meth (w := { q with items := q.items ++ [v] }) (fun _ => rfl)) (we_pure (ev_var 0 rfl))
        (wa_cons (we_fr (d := winD (readingM q.o (q.items.length + 1)).1) (str_frz (w := { q with items := q.items ++ [v] }) (i := 0) rfl) (ev_ixT (ds := [winD (readingM q.o (q.items.length + 1)).1, winD (readingM q.o (q.items.length + 1)).2]) (ev_call f_reading hr (by decide) (q.o, q.items.length + 1) ho rfl (eva_cons (gN (w := { q with items := q.items ++ [v] }) t (ev_var 0 rfl)) (eva_cons (Ev.cast (ev_len true X.len (gI (w := { q with items := q.items ++ [v] }) t (ev_var 0 rfl))) ?_) eva_nil))) ev_int) rfl) wa_nil)) (wa_cons (we_pure ev_bl) wa_nil))) rfl)
      rw [List.length_map]
      show PyData.int ((q.items ++ [v]).length : Int) = _
      rw [List.length_append]
      rfl
theorem ev_rec1 {X : Cx} {γ : Gm} {p0 p1 p2 p4 : Pos} {a : Expr} {x1 : Str} {j k1 m1 : Nat} {q1 : Pos} {l1 : List UInt8} {u : RWire.Value} (f_record : Fn X.prog X.w X.K X.mg X.base CX0 2 "record" ["pairs"] (spF T C (S_record X.K))) (hr : Room j X.A) (hj : 2 ≤ j) (n1 : Nm x1 l1) (ha : Ev X T γ a (sh X.K (valD u))) (hg : Gl X "record" := by rfl)
    (sa : starEach [a] X.env = (false, eval a X.env) :: starEach [] X.env := by rfl) (t1 : starEach [.Constant (.str x1) k1 q1, a] X.env = (false, eval (.Constant (.str x1) k1 q1) X.env) :: starEach [a] X.env := by rfl)
    (s1 : starEach [.Tuple [.Constant (.str x1) k1 q1, a] m1 p2] X.env = (false, eval (.Tuple [.Constant (.str x1) k1 q1, a] m1 p2) X.env) :: starEach [] X.env := by rfl)
    (s3 : starEach [.List [.Tuple [.Constant (.str x1) k1 q1, a] m1 p2] p4] X.env = (false, eval (.List [.Tuple [.Constant (.str x1) k1 q1, a] m1 p2] p4) X.env) :: starEach [] X.env := by rfl) (hpl : (backTo p0 (starEach [] X.env)).any (·.1) = false := by rfl) :
    Ev X T γ (.Call (.Name "record" p1) [.List [.Tuple [.Constant (.str x1) k1 q1, a] m1 p2] p4] [] p0) (sh X.K (valD (.record [(l1, u)]))) :=
  Ev.cast (ev_call f_record hr hj [(x1, valD u)] ⟨by show 1 ≤ 10; decide, fun p hp => by
    rw [List.mem_singleton.mp hp]
    exact n1.s⟩ rfl (eva_cons (EvN.sh (evn_lst (ds := [.tuple [.str x1, valD u]]) (eva_cons (ev_tup (ds := [.str x1, valD u]) (eva_cons ev_str (eva_cons ha eva_nil sa) t1)) eva_nil s1))) eva_nil s3) hg (by decide) s3 hpl) (rec1 n1 u)
theorem ok_send {f : Addr} {fd : FuncData} (F : Fun K "end" "Stream.end" (s_S 3) f fd) (X : Txt K mg) (t : TxtS K CS) (f_record : Fn P w K mg base CX0 2 "record" ["pairs"] (spF T C (S_record K))) (f_answer : Fn P w K mg base CX0 3 "answer" ["value", "is_done"] (spF T C (S_answer K))) (m_win : Mt P w K mg base CX0 2 CN "window" ["self", "length"] (spF T C (S_nwin K CN)))
    (m_upto : Mt P w K mg base CX0 2 CS "up_to" ["self", "own"] (spW (strWd K CS CN) T C (S_upto K))) : FnOk P w K mg base CX0 6 f fd ["self", "value", "is_failing"] (spW (strWd K CS CN) T C (S_send K)) := by
  refine def_okW F sc_send (fun _ => rfl) fun ⟨q, v, b⟩ hp cdv A outer s H E hr => ?_
  obtain ⟨hl, ho⟩ : q.items.length ≤ 100000 ∧ q.o.turns.length ≤ 60 := hp
  show WJs _ _ _ _ _ _ (wpoOf (strWd K CS CN) (.ok (sh K (valD (endW q v b).2)) (endW q v b).1))
  refine wj_cons (wj_set 3 (P := sh K (.bool (q.st && !q.cl))) (we_fr (d := .bool (q.st && !q.cl)) (str_frz (w := q) (i := 0) rfl) (ev_and (gS (w := q) t (ev_var 0 rfl)) fun _ => ev_one (ev_not (k := q.cl) (gC (w := q) t (ev_var 0 rfl)))) rfl) ?_ sc_send.nd)
  refine wj_cons (wj_fld (i := 0) (P := sh K (.bool true)) (w1 := q) (w2 := { q with cl := true }) t.cl t.nC (we_pure ev_bl) (pv 0) ⟨_, rfl, str_cl⟩ ?_)
  refine wj_cons (wj_if (wt_pure (evt_val (ev_var (P := sh K (.bool (q.st && !q.cl))) 3 rfl))) (fun h => ?_) fun h => ?_)
  · have e : endW q v b = (upW { q with cl := true } (q.o.win q.items.length), answerV (.list (upL { q with cl := true } (q.o.win q.items.length))) true) := if_pos h
    rw [e]
    refine wj_last (wj_ret (we_call f_answer hr (by decide) (.list (upL { q with cl := true } (q.o.win q.items.length)), true) trivial rfl (wa_cons (we_meth (R := refTy q.p) m_upto hr (by decide) (({ q with cl := true } : StrW), q.o.win q.items.length) trivial rfl rfl rfl (str_meth (w := { q with cl := true }) (fun _ => rfl)) (we_pure (ev_var 0 rfl))
      (wa_cons (we_fr (d := winD (q.o.win q.items.length)) (str_frz (w := { q with cl := true }) (i := 0) rfl) (ev_meth m_win hr (by decide) (q.o, q.items.length) ho rfl rfl (obj_ins rfl) (gN (w := { q with cl := true }) t (ev_var 0 rfl)) (eva_cons (Ev.cast (ev_len true X.len (gI (w := { q with cl := true }) t (ev_var 0 rfl))) (by rw [List.length_map])) eva_nil)) rfl) wa_nil)) (wa_cons (we_pure ev_bl) wa_nil))) rfl)
  · have e : endW q v b = ({ q with cl := true }, if b = true then .record [(thrownO, v)] else answerV v true) := by
      unfold endW
      rw [if_neg (by rw [h]; decide)]
    rw [e]
    refine wj_nil (wj_cons (wj_if (k := b) (wt_pure (evt_val (ev_var (P := sh K (.bool b)) 2 rfl))) (fun hb => ?_) fun hb => ?_))
    · subst hb
      exact wj_last (wj_ret (we_pure (ev_rec1 (u := v) f_record hr (by decide) nm_thrown (ev_var 1 rfl))) rfl)
    · subst hb
      exact wj_nil (wj_last (wj_ret (we_pure (ev_rec2 (u := v) (v := .bool true) f_record hr (by decide) nm_value nm_done (ev_var 1 rfl) (ev_c1 X.TRUE))) rfl))
end
end Td
namespace Td
open PySem PySem.Spec PyProof.Rows L2 Tw
open Tl (NP pwin wstep norm maxL nOf readingM)
/-- a stream without its place -/
def absW (q : StrW) : StrW := { q with p := 0, la := 0 }
/-- a desk as it stands -/
structure DeskW where
  p : Addr
  n : Nat
  m : Int → Option StrW
def two (q : StrW) : Addr → Prop := fun a => a = q.p ∨ a = q.la
structure DskAt (K : Frag) (CD CS CN : Addr) (w : DeskW) (S : Addr → Prop) (F H : Hp) (d : Addr) (M : Int → Option StrW) : Prop where
  own : ∀ a, S a → F a = none ∧ ∃ u, H a = some u ∧ Chg u
  sp : S w.p
  sd : S d
  pd : w.p ≠ d
  obj : ∃ dx, H w.p = some (.ins CD dx [("streams", .ref d)])
  dic : ∃ kvs, H d = some (.dK kvs) ∧ kvs.length ≤ w.n ∧ ∀ k : Int, valV kvs (Sum.inl k) = (M k).map fun s => V.ref s.p
  abs : ∀ k, w.m k = (M k).map absW
  str : ∀ k s, M k = some s → (∀ a, two s a → S a ∧ a ≠ w.p ∧ a ≠ d) ∧ strAt K CS CN s (two s) F H
  dis : ∀ k j s r, M k = some s → M j = some r → k ≠ j → ∀ a, two s a → ¬ two r a
def dskWd (K : Frag) (CD CS CN : Addr) : Wd where
  Om := DeskW
  at_ := fun w S F H => ∃ d M, DskAt K CD CS CN w S F H d M
  own := fun ⟨d, M, a⟩ => a.own
  keep := fun {w S F H F2 H2} ⟨d, M, a⟩ e n k => ⟨d, M, ⟨fun b hb => ⟨n b hb, by rw [k b hb]; exact (a.own b hb).2⟩, a.sp, a.sd, a.pd, by rw [k _ a.sp]; exact a.obj, by rw [k _ a.sd]; exact a.dic, a.abs, fun j s hj => ⟨(a.str j s hj).1, (strWd K CS CN).keep (w := s) (a.str j s hj).2 e (fun b hb => n b ((a.str j s hj).1 b hb).1) fun b hb => k b ((a.str j s hj).1 b hb).1⟩, a.dis⟩⟩
def DeskW.put (w : DeskW) (k : Int) (s : StrW) : DeskW := { w with m := fun j => if j = k then some s else w.m j }
section
variable {K : Frag} {CD CS CN : Addr} {T : List NTab} {F H F2 H2 : Hp} {S : Addr → Prop} {w : DeskW}
/-- one of the streams changes, the others stay -/
theorem desk_step {d : Addr} {M : Int → Option StrW} {k : Int} {q q2 : StrW} {S2 : Addr → Prop} (a : DskAt K CD CS CN w S F H d M) (hk : M k = some q) (g : Grow T F (cut H (two q)) F2 (cut H2 S2)) (a2 : strAt K CS CN q2 S2 F2 H2) (hp : q2.p = q.p) (hla : q2.la = q.la) :
    Grow T F (cut H S) F2 (cut H2 S) ∧ DskAt K CD CS CN (w.put k (absW q2)) S F2 H2 d (fun j => if j = k then some q2 else M j) := by
  have e2 : S2 = two q := by
    funext b
    refine propext ⟨fun h => ?_, fun h => ?_⟩
    · have := (a2.1 b).mp h
      rw [hp, hla] at this
      exact this
    · refine (a2.1 b).mpr ?_
      rw [hp, hla]
      exact h
  subst e2
  have sub : ∀ b, two q b → S b := fun b hb => ((a.str k q hk).1 b hb).1
  -- what is not of this stream stays
  have stay : ∀ b, S b → ¬ two q b → H2 b = H b ∧ F2 b = none := fun b hb nb => by
    obtain ⟨f, u, hu, c⟩ := a.own b hb
    have h1 : cut H (two q) b = some u := by rw [cut_of nb]; exact hu
    have h2 := g.h b u h1 (fun ps z => by rw [z] at c; exact c)
    rw [cut_of nb] at h2
    exact ⟨by rw [h2, hu], g.own b f (by rw [h1]; simp)⟩
  have f2 : ∀ b, S b → F2 b = none := fun b hb => by
    by_cases t : two q b
    · exact ((strWd K CS CN).own (w := q2) a2 b t).1
    · exact (stay b hb t).2
  have c2 : ∀ b, S b → ∃ u, H2 b = some u ∧ Chg u := fun b hb => by
    by_cases t : two q b
    · exact ((strWd K CS CN).own (w := q2) a2 b t).2
    · rw [(stay b hb t).1]
      exact (a.own b hb).2
  have c1 : ∀ b, two q b → ∃ u, H b = some u ∧ Chg u := fun b hb => (a.own b (sub b hb)).2
  have cc : ∀ {Z : Hp}, cut Z S = cut (cut Z (two q)) S := fun {Z} => by
    funext b
    by_cases hb : S b
    · rw [cut_in hb, cut_in hb]
    · rw [cut_of hb, cut_of hb, cut_of (fun z => hb (sub b z))]
  refine ⟨⟨g.f, ?_, ?_, ?_, ?_, ?_⟩, ?_⟩
  · rw [cc]
    exact ex_cut g.ex f2
  · intro b o hb hn
    obtain ⟨h1, h2⟩ := cut_at hb
    have nb : ¬ two q b := fun z => h1 (sub b z)
    rw [cut_of h1]
    have := g.h b o (by rw [cut_of nb]; exact h2) hn
    rwa [cut_of nb] at this
  · intro b hb hn
    by_cases t : S b
    · exact f2 b t
    · refine g.own b hb ?_
      rw [cut_of t] at hn
      rw [cut_of (fun z => t (sub b z))]
      exact hn
  · intro tt
    have t1 : NdefX.TabsN T (cut H (two q)) := tt.ext fun b o hb => by
      obtain ⟨h1, h2⟩ := cut_at hb
      rw [cut_of (fun z => h1 (sub b z))]
      exact h2
    have t2 := g.tab t1
    exact tabs_cut c2 (t2.ext fun b o hb => (cut_at hb).2)
  · intro b hb
    by_cases t : S b
    · exact cut_in t
    · rw [cut_of t] at hb ⊢
      have nb : ¬ two q b := fun z => t (sub b z)
      have := g.free b (by rw [cut_of nb]; exact hb)
      rwa [cut_of nb] at this
  · have np : ¬ two q w.p := fun z => ((a.str k q hk).1 _ z).2.1 rfl
    have nd : ¬ two q d := fun z => ((a.str k q hk).1 _ z).2.2 rfl
    have e3 : two q2 = two q := by
      unfold two
      rw [hp, hla]
    refine ⟨fun b hb => ⟨f2 b hb, c2 b hb⟩, a.sp, a.sd, a.pd, ?_, ?_, ?_, ?_, ?_⟩
    · show ∃ dx, H2 w.p = _
      rw [(stay _ a.sp np).1]
      exact a.obj
    · obtain ⟨kvs, k1, k2, k3⟩ := a.dic
      refine ⟨kvs, by rw [(stay _ a.sd nd).1]; exact k1, k2, fun j => ?_⟩
      rw [k3]
      by_cases hj : j = k
      · rw [if_pos hj, hj, hk]
        show some (V.ref q.p) = some (V.ref q2.p)
        rw [hp]
      · rw [if_neg hj]
    · intro j
      show (if j = k then some (absW q2) else w.m j) = _
      by_cases hj : j = k
      · rw [if_pos hj, if_pos hj]
        rfl
      · rw [if_neg hj, if_neg hj]
        exact a.abs j
    · intro j r hr
      by_cases hj : j = k
      · rw [if_pos hj] at hr
        cases hr
        rw [e3]
        exact ⟨(a.str k q hk).1, a2⟩
      · rw [if_neg hj] at hr
        obtain ⟨r1, r2⟩ := a.str j r hr
        exact ⟨r1, (strWd K CS CN).keep (w := r) r2 g.f (fun b hb => f2 b (r1 b hb).1) fun b hb => (stay b (r1 b hb).1 (a.dis j k r q hr hk hj b hb)).1⟩
    · intro i j r t hi hj hn b hb
      by_cases h1 : i = k
      · rw [if_pos h1] at hi
        cases hi
        rw [e3] at hb
        rw [if_neg (fun z => hn (h1.trans z.symm))] at hj
        exact a.dis k j q t hk hj (fun z => hn (h1.trans z)) b hb
      · rw [if_neg h1] at hi
        by_cases h2 : j = k
        · rw [if_pos h2] at hj
          cases hj
          rw [e3]
          exact a.dis i k r q hi hk h1 b hb
        · rw [if_neg h2] at hj
          exact a.dis i j r t hi hj hn b hb
end
end Td
namespace Td
open PySem PySem.Spec PyProof.Rows L2 Tw
open Tl (NP pwin wstep norm maxL nOf readingM)
structure TxtD (K : Frag) (CD : Addr) : Prop where
  cl : Cls K CD
  nS : NoAttr K CD "streams"
section
variable {P : Program} {w : World} {K : Frag} {mg : Str → Option Value} {base : Heap} {T : List NTab} {C CD CN CS : Addr}
/-- self.streams[slot].x(..) -/
theorem we_slot {X : Cx} {γ : Gm} {w : DeskW} {s s2 : StrW} {slot : Int} {ι : Type} {S : ι → PrW StrW} {k j : Nat} {x nm : Str} {ps : List Str} {CR : Addr} {R : Ty} {Ps : List Ty} {pl : Sem Bool} {o e : Expr} {es : List Expr} {pos p0 q1 q2 apos : Pos} (td : TxtD X.K CD) (hu : X.A.units + 1 < cLine) (hm : w.m slot = some s) (hi : γ[0]? = some (.sh (refTy w.p)))
    (h : Mt X.prog X.w X.K X.mg X.base CX0 k CS x ps (spW (strWd X.K CS CN) T CR S)) (hr : Room j X.A) (hk : k ≤ j) (i : StrW → ι) (hpre : ∀ q, absW q = s → (S (i q)).pre) (hw : ∀ q, (S (i q)).w = q) (hargs : ∀ q, (S (i q)).args = refTy q.p :: Ps)
    (hout : ∀ q, absW q = s → ∃ q', (S (i q)).out = .ok R q' ∧ absW q' = s2 ∧ q'.p = q.p ∧ q'.la = q.la) (hx : ∀ q v, (strFs q v).lookup x = none)
    (hs : Ev X T γ o (sh X.K (.int slot))) (ha : EvA X T γ (e :: es) Ps) (hv : PE X (.Name nm q1) (tVar 0)) (hsl : NoSl o) (hb : attributeBase (.Name nm q1) "streams" X.env (eval (.Name nm q1) X.env) = eval (.Name nm q1) X.env := by rfl)
    (hst : starEach (e :: es) X.env = (false, eval e X.env) :: starEach es X.env := by rfl) (hpl : (backTo pos (starEach es X.env)).any (·.1) = false := by rfl)
    (ht : eval (.Call (.Attribute (.Subscript (.Attribute (.Name nm q1) "streams" q2) o p0) x apos) (e :: es) [] pos) X.env = (do
      let ov ← eval (.Subscript (.Attribute (.Name nm q1) "streams" q2) o p0) X.env
      standAt apos.atName
      let (f, first) ← holding [ov] (getMethod ov x pl)
      callWith pos f first (backTo pos (starEach (e :: es) X.env)) (backToKw pos (keywordEach [] X.env))) := by rfl) :
    We X (dskWd X.K CD CS CN) T γ w (w.put slot s2) (.Call (.Attribute (.Subscript (.Attribute (.Name nm q1) "streams" q2) o p0) x apos) (e :: es) [] pos) R := by
  obtain ⟨f, fd, h1, h2, h3, h4⟩ := h
  refine PE.imp (pe_meth (pl := pl) (pe_dget hu (pe_fld hv hb) hs hsl) h2 h3 h1 (hr.mono hk) h4 .nil pass0 ha hst hpl ht) fun σ H Q ⟨F, A, st, a, q⟩ => ?_
  obtain ⟨d, M, dk⟩ := id a
  obtain ⟨u, hu, e1⟩ := st.env.2 0 _ hi
  have e1 : u = .ref w.p := e1
  subst e1
  obtain ⟨dx, ob⟩ := dk.obj
  have hM : ∃ q0, M slot = some q0 ∧ absW q0 = s := by
    have := dk.abs slot
    rw [hm] at this
    cases hq : M slot with
    | none => rw [hq] at this; cases this
    | some q0 =>
      rw [hq] at this
      exact ⟨q0, rfl, (Option.some.inj this).symm⟩
  obtain ⟨q0, hq0, eq0⟩ := hM
  refine ⟨_, hu, w.p, CD, dx, _, _, rfl, ob, td.cl, td.nS, rfl, F, st_whole st, fun y F1 H1 g1 p1 => ?_⟩
  have p1 : y = .int slot := p1
  subst p1
  have gc1 := gw_of (W := dskWd X.K CD CS CN) a g1
  obtain ⟨n1, k1⟩ := gw_own (W := dskWd X.K CD CS CN) a g1
  obtain ⟨kvs, r1, r2, r3⟩ := dk.dic
  have rd : H1 d = some (.dK kvs) := by rw [k1 _ dk.sd]; exact r1
  have rv : valV kvs (Sum.inl slot) = some (.ref q0.p) := by rw [r3, hq0]; rfl
  have str1 : strAt X.K CS CN q0 (two q0) F1 H1 := (strWd X.K CS CN).keep (w := q0) (dk.str slot q0 hq0).2 g1.f (fun b hb => n1 b ((dk.str slot q0 hq0).1 b hb).1) fun b hb => k1 b ((dk.str slot q0 hq0).1 b hb).1
  obtain ⟨_, _, _, _, dxs, vs, xs, ob1, _⟩ := id str1
  refine ⟨d, .ref q0.p, rfl, rv ▸ DGet.k (k := Sum.inl slot) rd, q0.p, dxs, _, rfl, ob1, hx q0 vs, F1, (st_whole (st.grow gc1)), fun us F2 H2 g2 p2 => ?_⟩
  show spW (strWd X.K CS CN) T CR S (.ref q0.p :: (us ++ [])) H2 Q _
  rw [List.append_nil]
  have g12 := g1.trans g2
  have a2 : (dskWd X.K CD CS CN).at_ w A F2 H2 := at_of a g12
  obtain ⟨n2, k2⟩ := gw_own (W := dskWd X.K CD CS CN) a g12
  have dk2 : DskAt X.K CD CS CN w A F2 H2 d M := by
    refine ⟨fun b hb => ⟨n2 b hb, by rw [k2 b hb]; exact (dk.own b hb).2⟩, dk.sp, dk.sd, dk.pd, by rw [k2 _ dk.sp]; exact dk.obj, by rw [k2 _ dk.sd]; exact dk.dic, dk.abs, fun j s hj => ⟨(dk.str j s hj).1, (strWd X.K CS CN).keep (w := s) (dk.str j s hj).2 g12.f (fun b hb => n2 b ((dk.str j s hj).1 b hb).1) fun b hb => k2 b ((dk.str j s hj).1 b hb).1⟩, dk.dis⟩
  have str2 := (dk2.str slot q0 hq0).2
  have sub : ∀ b, two q0 b → A b := fun b hb => ((dk2.str slot q0 hq0).1 b hb).1
  have gc2 := gw_of (W := dskWd X.K CD CS CN) a g12
  have s2' := st.grow gc2
  have s3 : St0 T γ σ F2 (cut H2 (two q0)) := by
    refine ⟨ex_cut (st_whole s2').ex (fun b hb => n2 b (sub b hb)), s2'.env, tabs_cut (fun b hb => (dk2.own b (sub b hb)).2) (st_whole s2').tab⟩
  obtain ⟨q', o1, o2, o3, o4⟩ := hout q0 eq0
  refine ⟨i q0, F2, two q0, hpre q0 eq0, by rw [hw]; exact str2, s3.ex, s3.tab, by rw [hargs]; exact ⟨_, us, rfl, rfl, p2⟩, ?_⟩
  rw [o1]
  intro v F3 H3 A3 g3 a3 p3
  obtain ⟨gA, dk3⟩ := desk_step (CD := CD) dk2 hq0 g3 a3 o3 o4
  rw [o2] at dk3
  exact q v F3 H3 A (gc2.trans gA) ⟨d, _, dk3⟩ p3
end
end Td
namespace Td
open PySem PySem.Spec PyProof.Rows L2 Tw
open Tl (NP pwin wstep norm maxL nOf readingM)
def newS (p la : Addr) (o : NP) : StrW := ⟨p, la, o, [], 0, false, false⟩
def tMkS (K : Frag) (CS CN : Addr) (T : List NTab) (γ : Gm) (o : NP) : TE := fun σ H Q => ∃ F, St0 T γ σ F H ∧ ∀ p la F2 H2, Grow T F H F2 H2 → H p = none → H la = none → strAt K CS CN (newS p la o) (two (newS p la o)) F2 H2 → Q (.ref p) H2
section
variable {P : Program} {w : World} {K : Frag} {mg : Str → Option Value} {base : Heap} {T : List NTab} {C CD CN CS : Addr}
/-- Stream(..) -/
theorem pe_mkS {X : Cx} {γ : Gm} {j : Nat} {p : Pipe} {e : Expr} {pos q1 : Pos} (M : ∃ fi fd, Mk X.K CS fi ∧ FnOk X.prog X.w X.K X.mg X.base CX0 5 fi fd ["self", "steps"] (spO T X.K CS (S_sinit X.K CN)) ∧ L2.Binds X.K fd ["self", "steps"] []) (hm : X.mg "Stream" = some (.ref CS)) (hr : Room j X.A) (hk : 6 ≤ j) (hp : p.length ≤ 20)
    (ha : Ev X T γ e (sh X.K (.list (stepsL p)))) (hg : Gl X "Stream" := by rfl) (he : starEach [e] X.env = (false, eval e X.env) :: starEach [] X.env := by rfl) (hpl : (backTo pos (starEach [] X.env)).any (·.1) = false := by rfl) : PE X (.Call (.Name "Stream" q1) [e] [] pos) (tMkS X.K CS CN T γ (nOf p)) := by
  obtain ⟨fi, fd, m1, m2, m3⟩ := M
  refine PE.imp (pe_make m1 m2 (hr.mono hk) hg hm m3 .nil pass0 (eva_cons ha eva_nil he) (by decide) he hpl) fun σ H Q ⟨F, s, q⟩ => ⟨F, s, fun vs F1 H1 g1 p1 x dx nx nd ne => ?_⟩
  show spO T X.K CS (S_sinit X.K CN) (.ref x :: (vs ++ [])) _ _ _
  rw [List.append_nil]
  have ga := Grow.raw (T := T) (o := .own x) g1.ex nd
  have nx' : upd H1 dx (.own x) x = none := by rw [upd_ne (Ne.symm ne)]; exact nx
  have gb := ga.trans (Grow.raw (T := T) (o := .ins CS dx []) ga.ex nx')
  have fx : F1 x = none := g1.ex.free nx
  refine ⟨p, F1, H1, x, vs, rfl, hp, ⟨gb, nx, fx, dx, [], x, upd_same, .inl rfl, fx, nx, rfl⟩, gb.tab (g1.tab s.tab), p1, fun v F2 H2 o r => ⟨r, ?_⟩⟩
  obtain ⟨dx2, vs2, t, k1, k2, k3, k4, k5⟩ := o.ob
  obtain ⟨v1, r1, rfl, f1, v2, r2, rfl, ⟨f2, xs, f3, f4⟩, v3, r3, rfl, f5, v4, r4, rfl, f6, v5, r5, rfl, f7, e5⟩ := k5
  have e5 : r5 = [] := e5
  have f2 : v2 = .ref t := f2
  have f5 : v3 = .int 0 := f5
  have f6 : v4 = .bl false := f6
  have f7 : v5 = .bl false := f7
  subst e5 f2 f5 f6 f7
  have npt : x ≠ t := fun z => by
    rw [← z, k1] at f3
    cases f3
  exact q x t F2 H2 (g1.trans o.g) (g1.free _ nx) (g1.free _ k4) ⟨fun _ => Iff.rfl, npt, o.fp, k3, dx2, v1, xs, k1, f1, f3, f4⟩
/-- self.streams[slot] = Stream(..) -/
theorem wj_put {X : Cx} {c : Cfg} {γ : Gm} {w : DeskW} {po : WPo (dskWd X.K CD CS CN)} {slot : Int} {nm : Str} {o : NP} {e s : Expr} {pos pos' q1 q2 : Pos} (td : TxtD X.K CD) (hu : X.A.units + 1 < cLine) (hi : γ[0]? = some (.sh (refTy w.p))) (hn : w.n < 100000) (he : PE X e (tMkS X.K CS CN c.T γ o)) (hsl : Ev X c.T γ s (sh X.K (.int slot)))
    (h : po.nx γ { (w.put slot (newS 0 0 o)) with n := w.n + 1 }) (hv : PE X (.Name nm q1) (tVar 0)) (hb : attributeBase (.Name nm q1) "streams" X.env (eval (.Name nm q1) X.env) = eval (.Name nm q1) X.env := by rfl)
    (hs : swapsWith e (some (.Subscript (.Attribute (.Name nm q1) "streams" q2) s pos')) pos.line X.env = pure false := by rfl) : WJ X (dskWd X.K CD CS CN) c γ w (.Assign [.Subscript (.Attribute (.Name nm q1) "streams" q2) s pos'] e pos) po := by
  refine PS.imp (ps_dput hu (pe_fld hv hb) hsl he hs) fun D σ H ⟨F0, B, F, A, st, a, h1, _⟩ => ⟨F, st_whole st.s, fun p la F1 H1 g1 np nla str => ?_⟩
  obtain ⟨d, M, dk⟩ := id a
  have gc1 := gw_of (W := dskWd X.K CD CS CN) a g1
  obtain ⟨n1, k1⟩ := gw_own (W := dskWd X.K CD CS CN) a g1
  have st1 := st.grow gc1
  obtain ⟨u, hu', e1⟩ := st1.s.env.2 0 _ hi
  have e1 : u = .ref w.p := e1
  subst e1
  obtain ⟨dx, ob⟩ := dk.obj
  refine ⟨_, hu', w.p, CD, dx, _, _, rfl, by rw [k1 _ dk.sp]; exact ob, td.cl, td.nS, rfl, F1, st_whole st1.s, fun y F2 H2 g2 p2 => ?_⟩
  have p2 : y = .int slot := p2
  subst p2
  have g12 := g1.trans g2
  have gc2 := gw_of (W := dskWd X.K CD CS CN) a g12
  obtain ⟨n2, k2⟩ := gw_own (W := dskWd X.K CD CS CN) a g12
  obtain ⟨kvs, r1, r2, r3⟩ := dk.dic
  have hd2 : H2 d = some (.dK kvs) := by rw [k2 _ dk.sd]; exact r1
  refine ⟨d, _, rfl, DPut.k (k := Sum.inl slot) hd2 (Nat.lt_of_le_of_lt r2 (Nat.lt_trans hn (small_of (m := 100001) (by omega) rfl))), ?_⟩
  -- the new stream, behind the slot's number
  let q := newS p la o
  have strO := (strWd X.K CS CN).own (w := q) str
  have fr2 : ∀ b, two q b → F2 b = none ∧ H2 b = H1 b := fun b hb => by
    obtain ⟨z1, z2⟩ := gw_own (W := strWd X.K CS CN) (w := q) str g2
    exact ⟨z1 b hb, z2 b hb⟩
  have nA : ∀ b, two q b → ¬ A b ∧ H b = none := fun b hb => by
    have hz : H b = none := by
      rcases hb with rfl | rfl
      · exact np
      · exact nla
    exact ⟨not_own (W := dskWd X.K CD CS CN) a hz, hz⟩
  have str2 : strAt X.K CS CN q (two q) F2 H2 := at_of (W := strWd X.K CS CN) (w := q) str g2
  have nd : ∀ b, two q b → b ≠ d := fun b hb z => (nA b hb).1 (by rw [z]; exact dk.sd)
  have hfix : ∀ b, b ≠ d → upd H2 d (HO.dK (putK kvs (Sum.inl slot) (V.ref p))) b = H2 b := fun b hb => upd_ne hb
  have fd : F2 d = none := n2 _ dk.sd
  have fA : ∀ b, A b ∨ two q b → F2 b = none := fun b hb => hb.elim (n2 b) fun z => (fr2 b z).1
  have cA : ∀ b, A b ∨ two q b → ∃ u, upd H2 d (HO.dK (putK kvs (Sum.inl slot) (V.ref p))) b = some u ∧ Chg u := fun b hb => by
    by_cases e : b = d
    · rw [e, upd_same]
      exact ⟨_, rfl, trivial⟩
    · rw [hfix b e]
      rcases hb with hb | hb
      · rw [k2 b hb]
        exact (dk.own b hb).2
      · rw [(fr2 b hb).2]
        exact (strO b hb).2
  have ex4 : Ex F2 (upd H2 d (HO.dK (putK kvs (Sum.inl slot) (V.ref p)))) := fun b o hb => by
    rw [hfix b (fun z => by rw [z, fd] at hb; cases hb)]
    exact g12.ex b o hb
  have gg : Grow c.T F (cut H A) F2 (cut (upd H2 d (HO.dK (putK kvs (Sum.inl slot) (V.ref p)))) fun b => A b ∨ two q b) := by
    refine ⟨g12.f, ex_cut ex4 fA, fun b o hb hn => ?_, fun b hb hn => ?_, fun tt => ?_, fun b hb => ?_⟩
    · obtain ⟨z1, z2⟩ := cut_at hb
      rw [cut_of (fun z => z.elim z1 fun z => by rw [(nA b z).2] at z2; cases z2), hfix b (fun z => z1 (by rw [z]; exact dk.sd))]
      exact g12.h b o z2 hn
    · by_cases z : A b
      · exact n2 b z
      · rw [cut_of z] at hn
        exact g12.own b hb hn
    · exact tabs_cut cA (tabs_upd hd2 trivial (g12.tab (tt.ext fun b o z => (cut_at z).2)))
    · by_cases z : A b
      · exact cut_in z
      · rw [cut_of z]
        by_cases z2 : two q b
        · exact (nA b z2).2
        · rw [cut_of (fun y => y.elim z z2), hfix b (fun y => z (by rw [y]; exact dk.sd))] at hb
          exact g12.free b hb
  refine h1 γ _ σ F2 _ (fun b => A b ∨ two q b) h (st.grow gg) ⟨d, fun j => if j = slot then some q else M j, ⟨fun b hb => ⟨fA b hb, cA b hb⟩, .inl dk.sp, .inl dk.sd, dk.pd, ?_, ⟨_, upd_same, Nat.le_trans (length_putK _ _ _) (Nat.succ_le_succ r2), fun j => ?_⟩, fun j => ?_, fun j r hr => ?_, fun i j r t hi hj hne b hb => ?_⟩⟩
  · show ∃ dx, upd H2 d _ w.p = _
    rw [hfix _ dk.pd, k2 _ dk.sp]
    exact dk.obj
  · rw [valV_put]
    by_cases z : j = slot
    · rw [if_pos (by rw [z]), if_pos z]
      rfl
    · rw [if_neg (fun y => z (Sum.inl.inj y)), if_neg z]
      exact r3 j
  · show (if j = slot then some (newS 0 0 o) else w.m j) = _
    by_cases z : j = slot
    · rw [if_pos z, if_pos z]
      rfl
    · rw [if_neg z, if_neg z]
      exact dk.abs j
  · by_cases z : j = slot
    · rw [if_pos z] at hr
      cases hr
      exact ⟨fun b hb => ⟨.inr hb, fun y => (nA b hb).1 (by rw [y]; exact dk.sp), nd b hb⟩, (strWd X.K CS CN).keep (w := q) str2 (Ex.refl _) (fun b hb => (fr2 b hb).1) fun b hb => hfix b (nd b hb)⟩
    · rw [if_neg z] at hr
      obtain ⟨y1, y2⟩ := dk.str j r hr
      exact ⟨fun b hb => ⟨.inl (y1 b hb).1, (y1 b hb).2⟩, (strWd X.K CS CN).keep (w := r) y2 g12.f (fun b hb => n2 b (y1 b hb).1) fun b hb => by rw [hfix b (y1 b hb).2.2, k2 b (y1 b hb).1]⟩
  · by_cases z1 : i = slot
    · rw [if_pos z1] at hi
      cases hi
      rw [if_neg (fun y => hne (z1.trans y.symm))] at hj
      exact fun y => (nA b hb).1 ((dk.str j t hj).1 b y).1
    · rw [if_neg z1] at hi
      by_cases z2 : j = slot
      · rw [if_pos z2] at hj
        cases hj
        exact fun y => (nA b y).1 ((dk.str i r hi).1 b hb).1
      · rw [if_neg z2] at hj
        exact dk.dis i j r t hi hj hne b hb
end
end Td
namespace Td
open PySem PySem.Spec PyProof.Rows L2 Tw
open Tl (NP pwin wstep norm maxL nOf readingM)
section
variable {X : Cx} {W : Wd} {c : Cfg} {γ : Gm} {w : W.Om} {po : WPo W} {e : Expr} {pos : Pos}
/-- a call that refuses, given back while a world is owned -/
theorem wj_retErr {o : Int} {m : Str} (he : EvErr X c.T γ c.C c.E e o m) (h : po.er o m w) : WJ X W c γ w (.Return (some e) pos) po :=
  PS.imp (ps_ret he) fun D σ H ⟨F0, B, F, S, s, a, _, _, _, _, h5⟩ => ⟨F, st_whole s.s, fun d F2 H2 g h0 q => h5 o m w d F2 H2 S h (s.g.trans (gw_of a g)) (at_of a g) (s.g.free _ (by rw [cut_of (not_own a h0)]; exact h0)) q⟩
theorem wj_retOut {out : Out} (hok : ∀ P, out = .ok P → Ev X c.T γ e P) (herr : ∀ o m, out = .err o m → EvErr X c.T γ c.C c.E e o m) (h1 : ∀ P, out = .ok P → po.R = P ∧ po.rw w) (h2 : ∀ o m, out = .err o m → po.er o m w) : WJ X W c γ w (.Return (some e) pos) po := by
  cases ho : out with
  | ok P => exact wj_ret (by rw [(h1 P ho).1]; exact we_pure (hok P ho)) (h1 P ho).2
  | err o m => exact wj_retErr (herr o m ho) (h2 o m ho)
end
theorem next_abs (q : StrW) (v : RWire.Value) : absW (nextW q v).1 = (nextW (absW q) v).1 ∧ (nextW q v).2 = (nextW (absW q) v).2 ∧ (nextW q v).1.p = q.p ∧ (nextW q v).1.la = q.la := by
  obtain ⟨p, la, o, items, ret, st, cl⟩ := q
  cases cl <;> cases st <;> exact ⟨rfl, rfl, rfl, rfl⟩
theorem end_abs (q : StrW) (v : RWire.Value) (b : Bool) : absW (endW q v b).1 = (endW (absW q) v b).1 ∧ (endW q v b).2 = (endW (absW q) v b).2 ∧ (endW q v b).1.p = q.p ∧ (endW q v b).1.la = q.la := by
  obtain ⟨p, la, o, items, ret, st, cl⟩ := q
  cases cl <;> cases st <;> exact ⟨rfl, rfl, rfl, rfl⟩
def toW (w : DeskW) : Out → OutW DeskW
  | .ok P => .ok P w
  | .err o m => .err o m w
structure iCall where
  w : DeskW
  door : Nat
  a : RWire.Value
  b : RWire.Value
def slotV : RWire.Value → Int
  | .int i => i
  | _ => 0
def outDesk (K : Frag) (w : DeskW) (door : Nat) (a b : RWire.Value) : OutW DeskW :=
  if door < 11 then toW w (outOn K door a b)
  else if door = 11 then match pipeM b with
    | none => .err 1 (fewS "pipeline") w
    | some p => .ok (sh K (valD .nothing)) { w.put (slotV a) (newS 0 0 (nOf p)) with n := w.n + 1 }
  else match w.m (slotV a) with
    | none => .err 0 "" w
    | some s => if door = 12 then .ok (sh K (valD (nextW s b).2)) (w.put (slotV a) (nextW s b).1) else .ok (sh K (valD (endW s b (decide (door = 14))).2)) (w.put (slotV a) (endW s b (decide (door = 14))).1)
def S_call (K : Frag) : iCall → PrW DeskW := fun i => ⟨i.door ≤ 14 ∧ i.w.n < 100000 ∧ argOk i.a ∧ argOk i.b ∧ (i.door < 11 → (S_on K ⟨i.door, i.a, i.b⟩).pre) ∧ (11 ≤ i.door → ∃ k : Int, i.a = .int k) ∧ (12 ≤ i.door → ∃ s, i.w.m (slotV i.a) = some s ∧ s.items.length ≤ 100000 ∧ s.o.turns.length ≤ 60),
  i.w, [refTy i.w.p, sh K (.int i.door), sh K (givD i.a i.b)], outDesk K i.w i.door i.a i.b⟩
abbrev s_D (j : Nat) : Stmt := inClass (top 73) j
theorem sc_call : FnScope ["self", "door", "given", "slot"] ["self", "door", "given"] (defScope (s_D 1)) := ⟨rfl, rfl, rfl, by decide +kernel, rfl, by decide +kernel, by decide +kernel⟩
section
variable {P : Program} {w : World} {K : Frag} {mg : Str → Option Value} {base : Heap} {T : List NTab} {C CD CN CS : Addr}
/-- Stream(..) of an argument that is refused -/
theorem err_mkS {X : Cx} {γ : Gm} {j : Nat} {e : Expr} {pos q1 : Pos} {CR : Addr} {E : XK} {o : Int} {m : Str} (M : ∃ fi fd, Mk X.K CS fi ∧ FnOk X.prog X.w X.K X.mg X.base CX0 5 fi fd ["self", "steps"] (spO T X.K CS (S_sinit X.K CN)) ∧ L2.Binds X.K fd ["self", "steps"] []) (hm : X.mg "Stream" = some (.ref CS)) (hr : Room j X.A) (hk : 6 ≤ j)
    (ha : EvErr X T γ CR E e o m) (hg : Gl X "Stream" := by rfl) (he : starEach [e] X.env = (false, eval e X.env) :: starEach [] X.env := by rfl) (hpl : (backTo pos (starEach [] X.env)).any (·.1) = false := by rfl) : EvErr X T γ CR E (.Call (.Name "Stream" q1) [e] [] pos) o m := by
  obtain ⟨fi, fd, m1, m2, m3⟩ := M
  exact PE.imp (pe_make m1 m2 (hr.mono hk) hg hm m3 .nil pass0 (eva_err ha he) (by decide) he hpl) fun σ H Q ⟨F, s, q⟩ => ⟨F, s, q⟩
theorem wj_putErr {X : Cx} {W : Wd} {c : Cfg} {γ : Gm} {w : W.Om} {po : WPo W} {o : Int} {m : Str} {slot : Int} {nm : Str} {e s : Expr} {pos pos' q1 q2 : Pos} (hu : X.A.units + 1 < cLine) (he : EvErr X c.T γ c.C c.E e o m) (h : po.er o m w) (hsl : Ev X c.T γ s (sh X.K (.int slot))) (hv : PE X (.Name nm q1) (tVar 0)) (hb : attributeBase (.Name nm q1) "streams" X.env (eval (.Name nm q1) X.env) = eval (.Name nm q1) X.env := by rfl)
    (hs : swapsWith e (some (.Subscript (.Attribute (.Name nm q1) "streams" q2) s pos')) pos.line X.env = pure false := by rfl) : WJ X W c γ w (.Assign [.Subscript (.Attribute (.Name nm q1) "streams" q2) s pos'] e pos) po :=
  PS.imp (ps_dput hu (pe_fld hv hb) hsl he hs) fun D σ H ⟨F0, B, F, S, s, a, _, _, _, _, h5⟩ => ⟨F, st_whole s.s, fun d F2 H2 g h0 q => h5 o m w d F2 H2 S h (s.g.trans (gw_of a g)) (at_of a g) (s.g.free _ (by rw [cut_of (not_own a h0)]; exact h0)) q⟩
theorem ok_call {f : Addr} {fd : FuncData} (F : Fun K "call" "Desk.call" (s_D 1) f fd) (X : Txt K mg) (td : TxtD K CD) (f_on : Fn P w K mg base (CXL P w) 7 "on_pipeline" ["door", "given"] (spF T C (S_on K))) (f_needp : Fn P w K mg base (CXL P w) 5 "need_pipeline" ["value", "name"] (spF T C (S_needp K)))
    (MS : ∃ fi fd, Mk K CS fi ∧ FnOk P w K mg base CX0 5 fi fd ["self", "steps"] (spO T K CS (S_sinit K CN)) ∧ L2.Binds K fd ["self", "steps"] []) (hS : mg "Stream" = some (.ref CS)) (m_step : Mt P w K mg base CX0 6 CS "step" ["self", "item"] (spW (strWd K CS CN) T C (S_sstep K))) (m_end : Mt P w K mg base CX0 6 CS "end" ["self", "value", "is_failing"] (spW (strWd K CS CN) T C (S_send K))) :
    FnOk P w K mg base (CXL P w) 8 f fd ["self", "door", "given"] (spW (dskWd K CD CS CN) T C (S_call K)) := by
  refine def_okWX F sc_call (fun _ => rfl) fun ⟨q, door, a, b⟩ hv cdv A outer s H E hr tk => ?_
  obtain ⟨hd, hn, ha, hb, h1, h2, h3⟩ : door ≤ 14 ∧ q.n < 100000 ∧ argOk a ∧ argOk b ∧ (door < 11 → (S_on K ⟨door, a, b⟩).pre) ∧ (11 ≤ door → ∃ k : Int, a = .int k) ∧ (12 ≤ door → ∃ s, q.m (slotV a) = some s ∧ s.items.length ≤ 100000 ∧ s.o.turns.length ≤ 60) := hv
  show WJs _ _ _ [.sh (refTy q.p), .sh (sh K (.int door)), .sh (sh K (givD a b)), .un] _ _ (wpoOf (dskWd K CD CS CN) (outDesk K q door a b))
  refine wj_cons (wj_if (wt_pure (evt_lt (ev_var 1 rfl) ev_int)) (fun h => ?_) fun h => ?_)
  · have h : door < 11 := by have := of_decide_eq_true h; omega
    have e : outDesk K q door a b = toW q (outOn K door a b) := if_pos h
    rw [e]
    refine wj_last (wj_retOut (out := outOn K door a b) (fun P ho => ev_callX f_on hr (by decide) (⟨door, a, b⟩ : iOn) (h1 h) ho (eva_cons (ev_var 1 rfl) (eva_cons (ev_var 2 rfl) eva_nil))) (fun o m ho => ev_callErr f_on tk hr (by decide) (⟨door, a, b⟩ : iOn) (h1 h) ho (eva_cons (ev_var 1 rfl) (eva_cons (ev_var 2 rfl) eva_nil))) (fun P ho => ?_) fun o m ho => ?_)
    · rw [ho]
      exact ⟨rfl, rfl⟩
    · rw [ho]
      exact ⟨rfl, rfl, rfl⟩
  · have h : ¬ door < 11 := by have := of_decide_eq_false h; omega
    obtain ⟨k, rfl⟩ := h2 (by omega)
    refine wj_nil (wj_cons (wj_set 3 (P := sh K (.int k)) (we_pure (ev_ixT (ds := [.int 4, .int k]) (ev_ixL (ds := [valD (.int k), valD b]) (ev_var 2 rfl) ev_int) ev_int)) ?_ sc_call.nd))
    refine wj_cons (wj_if (wt_pure (evt_eqI (ev_var 1 rfl) ev_int)) (fun h11 => ?_) fun h11 => ?_)
    · have h11 : door = 11 := by have := of_decide_eq_true h11; omega
      subst h11
      have e : outDesk K q 11 (.int k) b = match pipeM b with
        | none => .err 1 (fewS "pipeline") q
        | some p => .ok (sh K (valD .nothing)) { q.put k (newS 0 0 (nOf p)) with n := q.n + 1 } := rfl
      rw [e]
      obtain ⟨b1, b2, b3⟩ := id hb
      cases hp : pipeM b with
      | none => exact wj_cons (wj_putErr (slot := k) (o := 1) (m := fewS "pipeline") (u1 hr) (err_mkS (CN := CN) MS hS hr (by decide) (ev_callErr f_needp tk hr (by decide) (⟨b, "pipeline"⟩ : iPipe) ⟨b1, b2, len_pipeline⟩ (err_needp hp) (eva_cons (ev_ixL (ds := [valD (.int k), valD b]) (ev_var 2 rfl) ev_int) (eva_cons ev_str eva_nil)))) ⟨rfl, rfl, rfl⟩ (ev_var 3 rfl) (pv 0))
      | some p =>
        obtain ⟨p1, p2⟩ := pipe_ok hp
        refine wj_cons (wj_put (slot := k) (o := nOf p) td (u1 hr) rfl hn (pe_mkS (p := p) MS hS hr (by decide) p1 (ev_callX f_needp hr (by decide) (⟨b, "pipeline"⟩ : iPipe) ⟨b1, b2, len_pipeline⟩ (out_needp hp) (eva_cons (ev_ixL (ds := [valD (.int k), valD b]) (ev_var 2 rfl) ev_int) (eva_cons ev_str eva_nil)))) (ev_var 3 rfl) ?_ (pv 0))
        exact wj_last (wj_ret (we_pure (ev_c1 X.NOTHING)) rfl)
    · have h11 : ¬ door = 11 := by have := of_decide_eq_false h11; omega
      obtain ⟨s0, hs0, hl0, ho0⟩ := h3 (by omega)
      have hs0 : q.m k = some s0 := hs0
      have e : outDesk K q door (.int k) b = if door = 12 then .ok (sh K (valD (nextW s0 b).2)) (q.put k (nextW s0 b).1) else .ok (sh K (valD (endW s0 b (decide (door = 14))).2)) (q.put k (endW s0 b (decide (door = 14))).1) := by
        have hs1 : q.m (slotV (.int k)) = some s0 := hs0
        unfold outDesk
        rw [if_neg h, if_neg h11, hs1]
        rfl
      rw [e]
      have lk : ∀ z : StrW, absW z = s0 → z.items.length ≤ 100000 ∧ z.o.turns.length ≤ 60 := fun z hz => by
        subst hz
        exact ⟨hl0, ho0⟩
      refine wj_nil (wj_cons (wj_if (wt_pure (evt_eqI (ev_var 1 rfl) ev_int)) (fun h12 => ?_) fun h12 => ?_))
      · have h12 : door = 12 := by have := of_decide_eq_true h12; omega
        rw [if_pos h12]
        refine wj_last (wj_ret (we_slot (s := s0) (S := S_sstep K) (R := sh K (valD (nextW s0 b).2)) (Ps := [sh K (valD b)]) td (u1 hr) hs0 rfl m_step hr (by decide) (fun z => (z, b)) lk (fun _ => rfl) (fun _ => rfl) (fun z hz => ?_) (fun _ _ => rfl) (ev_var 3 rfl) (eva_cons (ev_ixL (ds := [valD (.int k), valD b]) (ev_var 2 rfl) ev_int) eva_nil) (pv 0) (fun _ _ => rfl)) rfl)
        obtain ⟨n1, n2, n3, n4⟩ := next_abs z b
        rw [hz] at n1 n2
        exact ⟨_, by rw [← n2]; rfl, n1, n3, n4⟩
      · have h12 : ¬ door = 12 := by have := of_decide_eq_false h12; omega
        rw [if_neg h12]
        refine wj_nil (wj_last (wj_ret (we_slot (s := s0) (S := S_send K) (R := sh K (valD (endW s0 b (decide (door = 14))).2)) (Ps := [sh K (valD b), sh K (.bool (decide (door = 14)))]) td (u1 hr) hs0 rfl m_end hr (by decide) (fun z => (z, b, decide (door = 14))) lk (fun _ => rfl) (fun _ => rfl) (fun z hz => ?_) (fun _ _ => rfl) (ev_var 3 rfl) (eva_cons (ev_ixL (ds := [valD (.int k), valD b]) (ev_var 2 rfl) ev_int) (eva_cons (Ev.cast (ev_eqI (ev_var 1 rfl) ev_int) ?_) eva_nil)) (pv 0) (fun _ _ => rfl)) rfl))
        · obtain ⟨n1, n2, n3, n4⟩ := end_abs z b (decide (door = 14))
          rw [hz] at n1 n2
          exact ⟨_, by rw [← n2]; rfl, n1, n3, n4⟩
        · refine congrArg PyData.bool (decide_eq_decide.mpr ?_)
          omega
end
end Td
namespace Td
open PySem PySem.Spec PyProof.Rows L2 Tw
open Tl (NP pwin wstep norm maxL nOf readingM)
/-- Desk.__init__ -/
def spDI (CD : Addr) : Sp := fun vs H Q _ => ∃ p dx, vs = [.ref p] ∧ H p = some (.ins CD dx []) ∧ ∀ d, H d = none → Q .non (upd (upd H d (.dK [])) p (.ins CD dx [("streams", .ref d)]))
theorem sc_dinit : FnScope ["self"] ["self"] (defScope (s_D 0)) := ⟨rfl, rfl, rfl, by decide +kernel, rfl, by decide +kernel, by decide +kernel⟩
section
variable {P : Program} {w : World} {K : Frag} {mg : Str → Option Value} {base : Heap} {T : List NTab} {C CD CN CS : Addr}
theorem ok_dinit {f : Addr} {fd : FuncData} (F : Fun K "__init__" "Desk.__init__" (s_D 0) f fd) (td : TxtD K CD) : FnOk P w K mg base CX0 1 f fd ["self"] (spDI CD) := by
  refine F.ok sc_dinit (fun vs H Q E ⟨p, dx, e, _⟩ => by rw [e]; rfl) fun cdv A outer s H vs Q E hr ⟨p, dx, e, ho, q⟩ => ?_
  subst e
  refine ⟨_, pss_one (ps_fld (pv 0) pe_dnewK rfl), fun d hd => ?_⟩
  have ne : p ≠ d := fun z => by rw [z, hd] at ho; cases ho
  exact ⟨.ref p, rfl, p, CD, dx, [], rfl, by rw [upd_ne ne]; exact ho, td.cl, td.nS, by decide +kernel, q d hd⟩
end
end Td
namespace Td
open PySem PySem.Spec PyProof.Rows L2 Tw
open Tl (NP pwin wstep norm maxL nOf readingM)
section
variable {T : List NTab} {CD CN CS : Addr}
/-- x = Desk() -/
theorem sj_desk {X : Cx} {c : Cfg} {γ : Gm} {po : Po} {j : Nat} {x : Str} {sts : List Stmt} {pos pos' p1 p2 : Pos} (i : Nat) (M : ∃ fi fd, Mk X.K CD fi ∧ FnOk X.prog X.w X.K X.mg X.base CX0 1 fi fd ["self"] (spDI CD) ∧ L2.Binds X.K fd ["self"] []) (hm : X.mg "Desk" = some (.ref CD)) (hr : Room j X.A) (hk : 2 ≤ j)
    (h : ∀ p, WJs X (dskWd X.K CD CS CN) c (γ.set i (.sh (refTy p))) ⟨p, 0, fun _ => none⟩ sts ⟨fun _ _ => False, fun _ _ => False, fun _ _ => False, po.R, fun _ => True, fun _ _ _ => False⟩)
    (hN : X.N.Nodup) (hi : X.N[i]? = some x := by rfl) (hx : Loc X.env.scope x := by first | exact Or.inl rfl | exact Or.inr rfl) (hs : swapsWith (.Call (.Name "Desk" p1) [] [] p2) (some (.Name x pos')) pos.line X.env = pure false := by rfl)
    (hf : X.fn x = true ∨ X.env.scope.names.lookup x = some .local := by first | exact .inl rfl | exact .inr rfl) (hg : Gl X "Desk" := by rfl) : SJs X c γ (.Assign [.Name x pos'] (.Call (.Name "Desk" p1) [] [] p2) pos :: sts) po := by
  obtain ⟨fi, fd, m1, m2, m3⟩ := M
  refine PSs.imp (pss_cons (ps_set hN hi hx (pe_make0 m1 m2 (hr.mono hk) hg hm m3 .nil pass0) hs hf) (wj_any (W := dskWd X.K CD CS CN) (c := c) (u := fun D σ H => ∃ p, tWJ X.K (dskWd X.K CD CS CN) c (γ.set i (.sh (refTy p))) ⟨p, 0, fun _ => none⟩ ⟨fun _ _ => False, fun _ _ => False, fun _ _ => False, po.R, fun _ => True, fun _ _ _ => False⟩ D σ H) fun D σ H ⟨p, q⟩ => ⟨_, _, _, h p, q⟩)) fun D σ H ⟨F0, H0, F, s, _, _, _, h4, _⟩ => fun x dx nx nd ne => ?_
  refine ⟨x, dx, rfl, upd_same, fun d hd => ⟨rfl, x, ?_⟩⟩
  have xd : x ≠ d := fun z => by rw [← z, upd_same] at hd; cases hd
  have dd : dx ≠ d := fun z => by rw [← z, upd_ne ne, upd_same] at hd; cases hd
  have hd0 : H d = none := by rw [upd_ne (Ne.symm xd), upd_ne (Ne.symm dd)] at hd; exact hd
  have fx : F x = none := s.s.ex.free nx
  have fd' : F d = none := s.s.ex.free hd0
  have fdx : F dx = none := s.s.ex.free nd
  generalize e4 : upd (upd (upd (upd H dx (HO.own x)) x (HO.ins CD dx [])) d (HO.dK [])) x (HO.ins CD dx [("streams", V.ref d)]) = H4
  have q1 : H4 x = some (.ins CD dx [("streams", .ref d)]) := by rw [← e4, upd_same]
  have q2 : H4 d = some (.dK []) := by rw [← e4, upd_ne (Ne.symm xd), upd_same]
  have q3 : ∀ b, b ≠ x → b ≠ d → b ≠ dx → H4 b = H b := fun b z1 z2 z3 => by rw [← e4, upd_ne z1, upd_ne z2, upd_ne z1, upd_ne z3]
  have kp : ∀ b o, H b = some o → H4 b = some o := fun b o hb => by
    rw [q3 b (fun z => by rw [z, nx] at hb; cases hb) (fun z => by rw [z, hd0] at hb; cases hb) (fun z => by rw [z, nd] at hb; cases hb)]
    exact hb
  have fA : ∀ b, b = x ∨ b = d → F b = none := fun b hb => by
    rcases hb with rfl | rfl
    · exact fx
    · exact fd'
  have cA : ∀ b, b = x ∨ b = d → ∃ u, H4 b = some u ∧ Chg u := fun b hb => by
    rcases hb with rfl | rfl
    · exact ⟨_, q1, trivial⟩
    · exact ⟨_, q2, trivial⟩
  have ex4 : Ex F H4 := fun b o hb => by
    rw [q3 b (fun z => by rw [z, fx] at hb; cases hb) (fun z => by rw [z, fd'] at hb; cases hb) (fun z => by rw [z, fdx] at hb; cases hb)]
    exact s.s.ex b o hb
  have gg : Grow c.T F H F (cut H4 fun b => b = x ∨ b = d) := by
    refine ⟨Ex.refl _, ex_cut ex4 fA, fun b o hb _ => ?_, fun b hb _ => hb, fun tt => tabs_cut cA (tt.ext fun b o z => kp b o z), fun b hb => ?_⟩
    · rw [cut_of (fun z => by rcases z with rfl | rfl
                              · rw [nx] at hb; cases hb
                              · rw [hd0] at hb; cases hb)]
      exact kp b o hb
    · cases e : H b with
      | none => rfl
      | some o =>
        rw [cut_of (fun z => by rcases z with rfl | rfl
                                · rw [nx] at e; cases e
                                · rw [hd0] at e; cases e), kp b o e] at hb
        cases hb
  refine ⟨F0, H0, F, fun b => b = x ∨ b = d, (s.grow gg).set (P := refTy x) i rfl, ⟨d, fun _ => none, ⟨fun b hb => ⟨fA b hb, cA b hb⟩, .inl rfl, .inr rfl, xd, ⟨dx, q1⟩, ⟨[], q2, Nat.le_refl _, fun _ => rfl⟩, fun _ => rfl, fun _ _ z => (by cases z), fun _ _ _ _ z => (by cases z)⟩⟩, fun _ _ _ _ _ _ z => z.elim, fun _ _ _ _ _ _ z => z.elim, fun _ _ _ _ _ _ z => z.elim, fun v w' F' H' S' _ g _ p => h4 v F' H' (gw_drop g) p, fun _ _ _ _ _ _ _ z => z.elim⟩
end
end Td
namespace Tw
open PySem PySem.Spec PyProof.Rows L2
/-- a wish that asks nothing of the slots but how many they are -/
theorem takes_len {X : Cx} {W : WX} (t : L2N.Takes X W) : L2N.Takes X (fun cls d _ H => ∀ σ, σ.length = X.N.length → W cls d σ H) := fun u s' ⟨a, B, sI, pins, σ, H, cls, d, e, I, nb, up, sky, na, os, ag, w⟩ =>
  t u s' ⟨a, B, sI, pins, σ, H, cls, d, e, I, nb, up, sky, na, os, ag, w σ I.len⟩
end Tw
namespace Td
open PySem PySem.Spec PyProof.Rows L2 Tw
abbrev s_answered : Stmt := top 74
theorem sc_answered : FnScope ["desk", "octets", "door", "given", "e", "message"] ["desk", "octets"] (defScope s_answered) := ⟨rfl, rfl, rfl, by decide +kernel, rfl, by decide +kernel, by decide +kernel⟩
abbrev s_answers : Stmt := top 75
theorem sc_answers : FnScope ["calls", "desk", "found", "at", "many", "own"] ["calls"] (defScope s_answers) := ⟨rfl, rfl, rfl, by decide +kernel, rfl, by decide +kernel, by decide +kernel⟩
end Td
namespace Tw
open PySem PySem.Spec PyProof.Rows L2
section
variable {X : Cx} {W : Wd} {c : Cfg} {γ : Gm} {w : W.Om} {po : WPo W} {e : Expr} {x : Str} {pos : Pos}
/-- l.extend(a new list that reads l) -/
theorem wj_extendF (i : Nat) {ds es : List PyData} {p1 p2 p3 : Pos} (hi : γ[i]? = some (.own ds)) (he : EvN X c.T (γ.set i (.sh (sh X.K (.list ds)))) e es) (hd : noLs es = true) (hl : ds.length + es.length ≤ sizeLine) (h : po.nx (γ.set i (.own (ds ++ es))) w)
    (hbm : ∀ t, PA X [e] t → PE X (.Call (.Attribute (.Name x p1) "extend" p2) [e] [] p3) (tBM X.K "list" rExtend (tVar i) t) := by exact fun t ha => pe_bm PySem.F.plainAttrs_list PySem.F.slot_list_extend PySem.F.type_list_extend mt_extend (pv _) ha)
    (hs : starEach [e] X.env = (false, eval e X.env) :: starEach [] X.env := by rfl)
    (hS : swapsWith (.Call (.Attribute (.Name x p1) "extend" p2) [e] [] p3) none pos.line X.env = pure false := by rfl) : WJ X W c γ w (.Expr (.Call (.Attribute (.Name x p1) "extend" p2) [e] [] p3) pos) po := by
  refine PS.imp (ps_expr (hbm _ (pa_cons he pa_nil hs)) hS) fun D σ H ⟨F0, B, F, S, s, a, h1, _⟩ => ?_
  obtain ⟨a1, xs, q1, q2, q3, q4, q5⟩ := s.own i ds hi
  obtain ⟨nS, hH⟩ := cut_at q2
  have ex := Ex.new (F := F) (o := .lst xs) q3
  have env1 : Env (γ.set i (.sh (sh X.K (.list ds)))) σ (upd F a1 (.lst xs)) := by
    have z := (s.s.env.mono ex).set (i := i) (P := sh X.K (.list ds)) (v := .ref a1) ⟨a1, xs, rfl, upd_same, DqAll.mono ex ds xs q5⟩
    rwa [set_same q1] at z
  have ex1 : Ex (upd F a1 (.lst xs)) H := fun b o hb => by
    by_cases z : b = a1
    · rw [z, upd_same] at hb
      cases hb
      rw [z]
      exact .inl hH
    · rw [upd_ne z] at hb
      exact (st_whole s.s).ex b o hb
  refine ⟨.ref a1, q1, .inl ⟨rfl, xs, SqL.of hH⟩, upd F a1 (.lst xs), ⟨ex1, env1, (st_whole s.s).tab⟩, fun r ys F2 H2 g k1 k2 k3 k4 => ?_⟩
  have hW : ∀ b, S b → H2 b = H b ∧ F2 b = none := fun b hb => by
    obtain ⟨fb, u, hu, cu⟩ := W.own a b hb
    have nb : b ≠ a1 := fun z => nS (by rw [← z]; exact hb)
    refine ⟨?_, g.own b (by rw [upd_ne nb]; exact fb) (by rw [hu]; simp)⟩
    rw [hu]
    exact g.h b u hu fun ps z => by
      rw [z] at cu
      exact cu
  have hA : H2 a1 = some (.lst xs) := g.h a1 _ hH (fun ps z => by cases z)
  have fF : Ex F (cut F2 fun b => b = a1) := ex_cut (ex.trans g.f) (fun b hb => by rw [hb]; exact q3)
  have gc : Grow c.T F (cut H S) (cut F2 fun b => b = a1) (cut H2 S) := by
    refine ⟨fF, ex_cut (fun b o z => g.ex b o (cut_at z).2) (fun b hb => ?_), fun b o z t => ?_, fun b z t => ?_, fun tt => tabs_cut (fun b hb => by rw [(hW b hb).1]; exact W.chg a b hb) (g.tab (tt.ext fun b o z => (cut_at z).2)), fun b z => ?_⟩
    · by_cases y : b = a1
      · exact cut_in (S := fun b => b = a1) y
      · rw [cut_of (S := fun b => b = a1) y]
        exact (hW b hb).2
    · obtain ⟨z1, z2⟩ := cut_at z
      rw [cut_of z1]
      exact g.h b o z2 t
    · by_cases y : b = a1
      · exact cut_in (S := fun b => b = a1) y
      · rw [cut_of (S := fun b => b = a1) y]
        by_cases hb : S b
        · exact (hW b hb).2
        · rw [cut_of hb] at t
          exact g.own b (by rw [upd_ne y]; exact z) t
    · by_cases hb : S b
      · exact cut_in hb
      · rw [cut_of hb] at z ⊢
        exact g.free b z
  have s2 := s.grow gc
  have a2 : W.at_ w S (cut F2 fun b => b = a1) H2 := W.keep a fF (fun b hb => by
    rw [cut_of (fun z => nS (by rw [← z]; exact hb))]
    exact (hW b hb).2) fun b hb => (hW b hb).1
  have r2 : cut H2 S a1 = some (.lst xs) := by rw [cut_of nS]; exact hA
  have k5 : DqAll X.K (cut F2 fun b => b = a1) es ys := noLs_cut (fun b hb u hu => by
    have e1 : F2 a1 = some (.lst xs) := g.f.go upd_same (fun ps z => by cases z)
    rw [hb, e1] at hu
    cases hu
    trivial) es ys hd k4
  exact ⟨a1, r, xs, ys, rfl, rfl, hA, k3, by rw [q5.length, k5.length]; exact hl, h1 _ _ _ _ _ S h (by rw [cut_upd_of nS]; exact s2.change hi q1 r2 (cut_in rfl) q4 ((DqAll.mono gc.f ds xs q5).append k5)) (W.keep a2 (Ex.refl _) (W.none a2) fun b hb => upd_ne (fun z => nS (by rw [← z]; exact hb)))⟩
end
end Tw
namespace Tw
open PySem PySem.Spec PyProof.Rows L2
/-- a text of plain signs is walked -/
def iAsc (te0 : TE) : TI := fun σ H R => te0 σ H fun v H1 => ∃ x : Str, v = .str x ∧ x.cps.all (· < 128) = true ∧ R (Its x) H1
section
variable {X : Cx}
/-- [.. for c in text] while an exception is handled -/
theorem pe_lcH {elt tg iter : Expr} {ifs : List Expr} {scope : Scope} {own : List (Str × Nat)} {pos : Pos} {te0 : TE} {g : TG} {tt : TT} {te : TE} (hot : L2H.HotC X) (nd : X.N.Nodup) (src : PE X iter te0) (ok : BlkOk X.N X.env.scope scope own)
    (hg : ∀ (s : Shared) (H : Hp) (C : Addr) (cl : List (Str × Addr)) (fp : List Addr), PG (X.blk s H scope (compEnvC scope cl C X.env) fp) tg g)
    (ht : ∀ (s : Shared) (H : Hp) (C : Addr) (cl : List (Str × Addr)) (fp : List Addr), PTs (X.blk s H scope (compEnvC scope cl C X.env) fp) ifs tt)
    (he : ∀ (s : Shared) (H : Hp) (C : Addr) (cl : List (Str × Addr)) (fp : List Addr), PE (X.blk s H scope (compEnvC scope cl C X.env) fp) elt te) (fold : ∀ x, foldedSetIterable iter X.env x = pure x := by intro _; rfl) :
    PE X (.ListComp elt [⟨tg, iter, ifs, 0⟩] scope pos) (tLc (iAsc te0) g tt te (own.map (·.2))) := by
  refine ⟨fun pins s τ G Q J told => ?_⟩
  rw [eval_ListComp]
  have cells : ∀ y ∈ scope.names, y.2 = .free → ∃ c, X.env.cells.lookup y.1 = some c := fun y hy z => (ok.free y hy z).elim (fun k => J.ok.has _ (.inl k)) fun k => J.ok.has _ (.inr k)
  refine wpAny_comprehension_free (use := none) rfl fold (closure_ok cells) ok.kind (fun y hy z => by rw [ok.uniq y hy, z]) (thn (src.run pins s τ G _ J told) fun u s1 ⟨v, G1, J1, r1, x, ev, asc, q⟩ => ?_)
  subst ev
  obtain ⟨t, rfl⟩ := r1
  refine wpAny_pyIter_ascii asc ?_
  -- the iterator at jt
  generalize hjt : s1.heap.objs.size = jt
  generalize hs2 : ({ s1 with heap := s1.heap.push { cls := .type "str_ascii_iterator", data := .fields #[.str x t, .int 0 0] } } : Shared) = s2
  have heap2 : s2.heap = s1.heap.push { cls := .type "str_ascii_iterator", data := .fields #[.str x t, .int 0 0] } := by rw [← hs2]
  have J2 : Inv X pins τ G1 s2 := by
    rw [← hs2]
    exact J1.kept (t' := s1.toks) fun b o z => Heap.get?_push_of_some _ z
  have at0 : s2.heap.IsStrIter jt "str_ascii_iterator" x t 0 := by
    rw [heap2, ← hjt]
    exact ⟨_, Heap.get?_push_size _ rfl, rfl, rfl⟩
  have free2 : FpOk X pins G1 jt := J1.fpOk (Nat.le_of_eq hjt) (J1.hok.fresh (Nat.le_of_eq hjt))
  have size2 : jt < s2.heap.objs.size := by
    obtain ⟨o, z, _⟩ := id at0
    exact Heap.lt_size z
  -- the new list at D
  refine wpAny_newObj_type (newEnv_comp ?_) (by show 0 ≤ sizeLine; decide)
  generalize hD : s2.heap.objs.size = D
  obtain ⟨W, ⟨m0, w0⟩, turn⟩ := q D (J2.hok.fresh (Nat.le_of_eq hD))
  generalize hs3 : ({ s2 with heap := s2.heap.push { cls := .type "list", data := .seq ([] : List Value).toArray } } : Shared) = s3
  have heap3 : s3.heap = s2.heap.push { cls := .type "list", data := .seq ([] : List Value).toArray } := by rw [← hs3]
  have J3 : Inv X pins τ (upd G1 D (.lst [])) s3 := by
    rw [← hs3]
    refine J2.laid (t' := s2.toks) (fun b o z => Heap.get?_push_of_some _ z) (Nat.le_of_eq hD) ⟨Nat.zero_le _, [], 0, .nil, ?_⟩
    rw [← hD]
    exact Heap.get?_push_size _ rfl
  have jD : jt ≠ D := by
    rw [← hD]
    exact Nat.ne_of_lt size2
  have free3 : ∀ b ∈ [jt], FpOk X pins (upd G1 D (.lst [])) b ∧ b < s3.heap.objs.size := fun b hb => by
    have e : b = jt := by simpa using hb
    subst e
    refine ⟨⟨by rw [upd_ne jD]; exact free2.1, free2.2⟩, ?_⟩
    rw [heap3, Heap.size_push]
    exact Nat.lt_succ_of_lt size2
  have keepIt : ∀ {h h' : Heap} {i : Nat}, (∀ o, h.get? jt = some o → h'.get? jt = some o) → h.IsStrIter jt "str_ascii_iterator" x t i → h'.IsStrIter jt "str_ascii_iterator" x t i := fun {h h' i} k z => by
    obtain ⟨o, z1, z2⟩ := z
    exact ⟨o, k o z1, z2⟩
  have at3 : s3.heap.IsStrIter jt "str_ascii_iterator" x t 0 := keepIt (fun o z => by rw [heap3]; exact Heap.get?_push_of_some _ z) at0
  have J4 := block_start J3 ok nd free3
  have pg := hg s3 (upd G1 D (.lst [])) s3.heap.objs.size (cellsFrom (s3.heap.objs.size + 1) scope.names (cloFrom X.env.cells scope.names [])) [jt]
  have pt := ht s3 (upd G1 D (.lst [])) s3.heap.objs.size (cellsFrom (s3.heap.objs.size + 1) scope.names (cloFrom X.env.cells scope.names [])) [jt]
  have pe := he s3 (upd G1 D (.lst [])) s3.heap.objs.size (cellsFrom (s3.heap.objs.size + 1) scope.names (cloFrom X.env.cells scope.names [])) [jt]
  show codeAny _ _ (.compStart (.ListComp elt [⟨tg, iter, ifs, 0⟩] scope pos) 0 (.ref jt) (.ref D) (compEnvC scope (cellsFrom (s3.heap.objs.size + 1) scope.names (cloFrom X.env.cells scope.names [])) s3.heap.objs.size X.env)) (compPost (model X.prog X.w) X.A X.xe none (EP X pins τ Q) (.ref D) s3.heap.objs.size)
    { s3 with heap := pushCells (s3.heap.push { cls := .type "dict", data := .dict #[] }) scope.names }
  have noJt : (upd G1 D (.lst [])) jt = none := (free3 jt (by simp)).1.1
  generalize hce : compEnvC scope (cellsFrom (s3.heap.objs.size + 1) scope.names (cloFrom X.env.cells scope.names [])) s3.heap.objs.size X.env = ce at J4 pg pt pe ⊢
  have locs : ce.locals = s3.heap.objs.size := by subst hce; rfl
  generalize hG3 : upd G1 D (.lst []) = G3 at J3 J4 pg pt pe w0 noJt free3
  generalize hs4 : ({ s3 with heap := pushCells (s3.heap.push { cls := .type "dict", data := .dict #[] }) scope.names } : Shared) = s4 at J4 ⊢
  have at4 : s4.heap.IsStrIter jt "str_ascii_iterator" x t 0 := keepIt (fun o z => by rw [← hs4]; exact pushCells_keeps _ _ _ _ (Heap.get?_push_of_some _ z)) at3
  -- within the block, and back
  have inB : ∀ {τ' : L2.St} {G' : Hp} {s' : Shared}, Inv (X.blk s3 G3 scope ce [jt]) [] τ' G' s' → G' jt = none → FpOk (X.blk s3 G3 scope ce [jt]) [] G' jt := fun {τ' G' s'} I' no =>
    ⟨no, (I'.ok.exf jt (by simp)).1, I'.ok.exfs jt (by simp), .inl (by simp), fun y c z => (I'.ok.exf jt (by simp)).2 y c z, fun p hp => absurd (show p ∈ ([] : List (Addr × Obj)) ++ [] from hp) (by simp)⟩
  have out : ∀ {τ' : L2.St} {G' : Hp} {s' : Shared}, Inv (X.blk s3 G3 scope ce [jt]) [] τ' G' s' → Inv X pins τ G' s' := fun {τ' G' s'} I' =>
    J3.call' (ch := [jt]) I'.os I'.base I'.hok I'.bare fun b hb => ⟨(free3 b hb).1.2.2.2.1, (free3 b hb).1.2.1, (free3 b hb).1.2.2.2.2.1, (free3 b hb).1.2.2.2.2.2⟩
  have loop : codeAny (model X.prog X.w) X.A (.compLoop (.ListComp elt [⟨tg, iter, ifs, 0⟩] scope pos) 0 (.ref jt) (.ref D) ce) (compPost (model X.prog X.w) X.A X.xe none (EP X pins τ Q) (.ref D) s3.heap.objs.size) s4 := by
    refine compLoop_any (fun n s' => ∃ i G', Inv (X.blk s3 G3 scope ce [jt]) [] (wipe τ (own.map (·.2))) G' s' ∧ s'.heap.IsStrIter jt "str_ascii_iterator" x t i ∧ G' jt = none ∧ W i n G') ?_ m0 ⟨0, G3, J4, at4, noJt, w0⟩
    rintro n s5 ⟨i, G5, J5, at5, no5, w5⟩
    obtain ⟨f0, f1, f2, f3, f4, f5⟩ := inB J5 no5
    rcases turn i n G5 w5 with ⟨stop, last⟩ | ⟨go, Nx, hNx, step⟩
    · obtain ⟨x1, hx1⟩ := hot.at (out J5)
      refine ascii_end_hot hx1 at5 (Array.getElem?_eq_none stop) fun h' kk => ?_
      have J6 : Inv (X.blk s3 G3 scope ce [jt]) [] (wipe τ (own.map (·.2))) G5 { s5 with heap := h' } := J5.turned (t' := s5.toks) (fun b o hb z => kk b o hb z) f0 f1 f3 f4 f5
      have J7 := out J6
      have nC : G5 s3.heap.objs.size = none := by
        have z : G5 ce.locals = none := J6.free
        rwa [locs] at z
      obtain ⟨m, hn, _⟩ := J6.loc
      have hn : h'.Ns ce.locals m := hn
      rw [locs] at hn
      obtain ⟨c0, c1, c2, c3, c4, c5⟩ := J3.fpOk (Nat.le_refl _) nC
      exact ⟨m, hn, fun h'' sb => ⟨.ref D, G5, J7.turned (t' := s5.toks) (fun b o hb z => (sb.2 b hb).trans z) c0 c1 c3 c4 c5, rfl, last⟩⟩
    · have hlt : i < x.cps.size := go
      refine wpAny_pyNext_ascii_item at5 (c := x.cps[i]) (Array.getElem?_eq_getElem hlt) fun h' at6 sb => ?_
      have J6 : Inv (X.blk s3 G3 scope ce [jt]) [] (wipe τ (own.map (·.2))) G5 { s5 with heap := h', toks := s5.toks + 1 } := J5.turned (fun b o hb z => (sb.2 b hb).trans z) f0 f1 f3 f4 f5
      obtain ⟨oi, ei, ci, di⟩ := id at6
      refine go_of (s := { s5 with heap := h', toks := s5.toks + 1 }) ei ci di (by decide) ?_
      have J6' := J6.pinned (fp := [jt]) (fun b hb => by
        have e : b = jt := by simpa using hb
        subst e
        exact inB J6 no5) (fun b hb => by
        have e : b = jt := by simpa using hb
        subst e
        exact ⟨oi, ei, fun w z => by rw [di] at z; cases z⟩)
      refine thnF (pg.run _ _ _ G5 (.str ⟨#[x.cps[i]]⟩) _ _ J6' ⟨_, rfl⟩ (step _ G5 ⟨rfl, _, Array.getElem?_eq_getElem hlt, rfl⟩)) fun _ s8 ⟨τ8, G8, J8, hw8, q8⟩ => ?_
      refine thnF (pt.run _ s8 τ8 G8 _ J8 q8) fun b s9 ⟨G9, J9, q9⟩ => ?_
      have fin : ∀ {s' : Shared} {G' : Hp}, Inv (X.blk s3 G3 scope ce [jt]) ([] ++ pinsAt [jt] h') τ8 G' s' → Nx G' → ∃ m, m < n ∧ ∃ i G', Inv (X.blk s3 G3 scope ce [jt]) [] (wipe τ (own.map (·.2))) G' s' ∧ s'.heap.IsStrIter jt "str_ascii_iterator" x t i ∧ G' jt = none ∧ W i m G' := fun {s' G'} I' nx => by
        obtain ⟨m', hm, w'⟩ := hNx G' nx
        have pin := I'.pin (jt, oi) (List.mem_append_right _ (List.mem_append_right _ (mem_pinsAt (by simp) ei)))
        have same : (wipe τ (own.map (·.2))).length = τ8.length := by rw [← hw8, wipe_length]
        refine ⟨m', hm, i + 1, G', (I'.unpinned (pins := [])).weak same (fun j v z => ?_), ⟨oi, pin.1, ci, di⟩, pin.2.1, w'⟩
        rw [← hw8] at z
        exact (wipe_some z).1
      cases b with
      | false =>
        simp only [Bool.false_eq_true, if_false] at q9 ⊢
        exact fin J9 q9
      | true =>
        simp only [if_true] at q9 ⊢
        refine thnF (pe.run _ s9 τ8 G9 _ J9 q9) fun z s10 ⟨yv, G10, J10, r10, acc, hD10, hz10, nx⟩ => ?_
        exact app_ok (X := X.blk s3 G3 scope ce [jt]) J10 hD10 hz10 r10 fun s11 J11 => fin J11 nx
  exact codeAny_compStart_list loop (wpAny_pyIter_striter_ascii at4 loop)
end
end Tw
namespace Tw
open PySem PySem.Spec PyProof.Rows L2
/-! ### defs called while an exception is handled -/
def FnT (P : Program) (w : World) (K : Frag) (mg : Str → Option Value) (base : Heap) (k : Nat) (x : Str) (ps : List Str) (sp : Sp) : Prop :=
  ∃ f fd, L2H.FnH P w K mg base CX0 k f fd ps sp ∧ mg x = some (.ref f) ∧ PySem.W.keepIn K (.ref f) = true ∧ L2.Binds K fd ps []
section
variable {P : Program} {w : World} {K : Frag} {mg : Str → Option Value} {base : Heap} {T : List NTab} {C : Addr} {ι : Type} {S : ι → Pr}
theorem hot_cxH {CX : CXT} {N : List Str} {qual : Str} {scope : Scope} {f : Addr} {cd : Value} {A : Around} {outer : List PySem.Env} {s : Shared} {H : Hp} {E : XK} {p : Addr × Obj} (h : L2H.Hot1 A p) : L2H.HotC (L2H.cxH CX P w K mg base N qual scope f cd A outer s H E p) := ⟨p, h, List.mem_cons_self⟩
theorem def_okH {x qual : Str} {st : Stmt} {f : Addr} {fd : FuncData} {N ps : List Str} {k : Nat} (F : Fun K x qual st f fd) (Sc : FnScope N ps (defScope st)) (hlen : ∀ i, (S i).args.length = ps.length)
    (body : ∀ (i : ι), (S i).pre → ∀ (cdv : Value) (A : Around) (outer : List PySem.Env) (s : Shared) (H : Hp) (E : XK) (p : Addr × Obj), L2H.Hot1 A p → L2H.RoomH k (A.deeper (envOfC qual (defScope st) s.heap.objs.size f cdv)) →
      SJs (L2H.cxH CX0 P w K mg base N qual (defScope st) f cdv A outer s H E p) ⟨T, C, E⟩ (startG (S i).args N.length) (defBody st) (poOf (S i).out)) : L2H.FnH P w K mg base CX0 (k + 1) f fd ps (spF T C S) := by
  obtain ⟨oc, od, kV, doc, pm, an, cdv, ct, osl, rfl, lk, hcd⟩ := F.ex
  refine L2H.fn_ofH lk hcd Sc (fun vs H Q E ⟨i, F, _, _, _, h, _⟩ => by rw [h.length, hlen]) fun A outer s H vs Q E p hot hr ⟨i, F1, hp, e, t, h, hq⟩ => ⟨_, body i hp cdv A outer s H E p hot hr, ?_⟩
  have hl : vs.length ≤ N.length := by
    rw [h.length, hlen, ← Sc.pre, List.length_take]
    omega
  refine ⟨F1, H, F1, start_st e t h hl, ?_⟩
  cases ho : (S i).out with
  | ok R =>
    rw [ho] at hq
    exact ⟨fun γ' σ' F' H' hn s' => hq _ F' H' s'.g (hn F'), fun _ _ _ _ z _ => z.elim, fun _ _ _ _ z _ => z.elim, fun v F' H' g p => hq v F' H' g p, fun _ _ _ _ _ z => z.elim⟩
  | err o m =>
    rw [ho] at hq
    exact ⟨fun _ _ _ _ z _ => z.elim, fun _ _ _ _ z _ => z.elim, fun _ _ _ _ z _ => z.elim, fun _ _ _ _ z => z.elim, fun o' m' d F' H' ⟨e1, e2⟩ g h0 xd => by
      subst e1 e2
      exact hq d F' H' g h0 xd⟩
end
section
variable {X : Cx} {T : List NTab} {γ : Gm} {P R : Ty} {pos p apos : Pos} {a b c e elt tg iter : Expr} {es : List Expr} {ι : Type} {S : ι → Pr} {x : Str} {ps : List Str} {j k : Nat} {C CR : Addr}
theorem ev_callT (h : FnT X.prog X.w X.K X.mg X.base k x ps (spF T CR S)) (hr : L2H.RoomH j X.A) (hot : L2H.HotC X) (hk : k ≤ j) (i : ι) (hpre : (S i).pre) (hS : (S i).out = .ok P) (ha : EvA X T γ (e :: es) (S i).args) (hg : Gl X x := by rfl) (hdb : (x == ("__debug__" : Str)) = false := by decide)
    (he : starEach (e :: es) X.env = (false, eval e X.env) :: starEach es X.env := by rfl) (hpl : (backTo pos (starEach es X.env)).any (·.1) = false := by rfl) : Ev X T γ (.Call (.Name x p) (e :: es) [] pos) P := by
  obtain ⟨f, fd, h1, h2, h3, h4⟩ := h
  refine PE.imp (L2H.pe_callH (E := fun _ => E0) h1 (hr.mono hk) hot hg h2 h3 h4 (fun _ _ _ _ _ _ _ z => z.elim) ha hdb he hpl) fun σ H Q ⟨F, s, q⟩ => ⟨F, s, fun vs F1 H1 g1 p1 => ?_⟩
  refine ⟨i, F1, hpre, g1.ex, g1.tab s.tab, p1, ?_⟩
  rw [hS]
  exact fun v F2 H2 g2 p2 => q v F2 H2 (g1.trans g2) p2
/-- [.. for c in text], while an exception is handled -/
theorem evn_lcSH {ifs : List Expr} {scope : Scope} {good : PyData → Prop} {ug : PyData → Gm → Gm} {f : PyData → Bool} {g : PyData → PyData} {G : TG} {own : List (Str × Nat)} (hot : L2H.HotC X) (asc : x.cps.all (· < 128) = true) (hN : X.N.Nodup) (hi : Ev X T γ iter (sh X.K (.str x))) (ok : BlkOk X.N X.env.scope scope own)
    (hG : ∀ (s : Shared) (H : Hp) (C : Addr) (cl : List (Str × Addr)) (fp : List Addr), PG (X.blk s H scope (compEnvC scope cl C X.env) fp) tg G) (hT : Tgt X.K G (own.map (·.2)) good ug) (hgood : ∀ d ∈ x.cps.toList.map charD, good d) (hl : x.cps.toList.length < sizeLine)
    (B : Blk X T γ elt ifs scope (own.map (·.2)) ug (x.cps.toList.map charD) f g) (hs : ∀ x, foldedSetIterable iter X.env x = pure x := by intro _; rfl) : EvN X T γ (.ListComp elt [⟨tg, iter, ifs, 0⟩] scope pos) (((x.cps.toList.map charD).filter f).map g) :=
  PE.imp (pe_lcH hot hN hi ok hG (fun s H C cl fp => (⟨fun pins st σ H' Q I ⟨d, hd, q⟩ => (B.t d hd s H C cl fp).run pins st σ H' Q I q⟩ : PTs (X.blk s H scope (compEnvC scope cl C X.env) fp) ifs (tBt X T γ (own.map (·.2)) ug (x.cps.toList.map charD) f))) (fun s H C cl fp => (⟨fun pins st σ H' Q I ⟨d, hd, hf, q⟩ => (B.e d hd hf s H C cl fp).run pins st σ H' Q I q⟩ : PE (X.blk s H scope (compEnvC scope cl C X.env) fp) elt (tBe X T γ (own.map (·.2)) ug (x.cps.toList.map charD) f g))) hs) fun σ H Q ⟨F, s, q⟩ => by
    refine ⟨F, s, fun v F1 H1 g1 p1 => ?_⟩
    have p1 : v = .str x := p1
    refine ⟨x, p1, asc, fun D hD => ?_⟩
    have g0 := Grow.raw (T := T) (o := .lst []) g1.ex hD
    have ln : x.cps.toList.length = x.cps.size := Array.length_toList
    refine ⟨fun i m H' => m = x.cps.size - i ∧ i ≤ x.cps.size ∧ ∃ F5 xs5, Grow T F1 H1 F5 H' ∧ F5 D = none ∧ H' D = some (.lst xs5) ∧ DqAll X.K F5 ((((x.cps.toList.map charD).take i).filter f).map g) xs5, ⟨_, rfl, Nat.zero_le _, F1, [], g0, g1.ex.free hD, upd_same, rfl⟩, ?_⟩
    rintro i m H' ⟨rfl, hi, F5, xs5, k1, k2, k3, k4⟩
    by_cases hlt : i < x.cps.size
    · refine .inr ⟨hlt, fun H' => ∃ F5 xs5, Grow T F1 H1 F5 H' ∧ F5 D = none ∧ H' D = some (.lst xs5) ∧ DqAll X.K F5 ((((x.cps.toList.map charD).take (i + 1)).filter f).map g) xs5, fun H'' k => ⟨_, by omega, rfl, hlt, k⟩, ?_⟩
      rintro y H'' ⟨rfl, c, hcx, rfl⟩
      have hd : (x.cps.toList.map charD)[i]? = some (charD c) := by
        rw [List.getElem?_map, Array.getElem?_toList, hcx]
        rfl
      exact lc_turn hT hgood (by rw [List.length_map]; exact hl) (s.grow g1) hD hd rfl k1 k2 k3 k4
    · have e : i = x.cps.size := by omega
      refine .inl ⟨by show x.cps.size ≤ i; omega, ?_⟩
      rw [List.take_of_length_le (by rw [List.length_map, ln]; omega)] at k4
      exact q D xs5 F5 H' (g1.trans k1) (g1.free _ hD) k2 k3 k4
/-- for x in range(n), while an exception is handled -/
theorem sj_forRH {c : Cfg} {po : Po} {body : List Stmt} (i : Nat) {n : Int} {p1 p2 : Pos} (hp : PassesOwn (model X.prog X.w) X.A X.env X.xe) (hot : L2H.HotC X) (hm : X.mg "range" = none) (hn : -(2 ^ 62) ≤ n ∧ n < 2 ^ 62) (he : Ev X c.T γ e (sh X.K (.int n))) (hN : X.N.Nodup) (Iv : Nat → Gm → Prop) (h0 : Iv 0 γ)
    (hs : ∀ (k : Nat) (γ' : Gm), k < n.toNat → Iv k γ' → SJs X c (γ'.set i (.sh (sh X.K (.int k)))) body { po with nx := Iv (k + 1), ct := Iv (k + 1), bk := po.nx }) (hd : ∀ γ', Iv n.toNat γ' → po.nx γ')
    (hg : Gl X "range" := by rfl) (hi : X.N[i]? = some x := by rfl) (hx : Loc X.env.scope x := by first | exact Or.inl rfl | exact Or.inr rfl) (hf : X.fn x = true ∨ X.env.scope.names.lookup x = some .local := by first | exact .inl rfl | exact .inr rfl)
    (hst : starEach [e] X.env = [(false, eval e X.env)] := by rfl) (hst2 : starEach [e] X.env = (false, eval e X.env) :: starEach [] X.env := by rfl) (hfs : ∀ y, foldedSetIterable (.Call (.Name "range" p1) [e] [] p2) X.env y = pure y := by intro _; rfl) : SJ X c γ (.For (.Name x p) (.Call (.Name "range" p1) [e] [] p2) body [] pos) po := by
  refine PS.imp (L2H.ps_forH hp hot (L2H.pi_range1H hg hm (pa_cons he pa_nil hst2) hst) (pg_name hN hi hx hf) (bd_ok (c := c)) hfs) fun D σ H ⟨F0, H0, F, s, h1, h2, h3, h4, h5⟩ => ?_
  refine ⟨F, s.s, fun v F1 H1 g1 p1 => ⟨n, by rw [show v = V.int n from p1], hn.1, hn.2, ?_⟩⟩
  refine for_range (lo := 0) (n := n.toNat) (fun i σ' H' => ∃ γ' F', Iv i γ' ∧ StS c.T X.K F0 H0 γ' σ' F' H') ⟨γ, F1, h0, s.grow g1⟩ (fun k σ' H' hk ⟨γ', F', hI, s'⟩ => ?_) fun σ' H' ⟨γ', F', hI, s'⟩ => h1 γ' σ' F' H' (hd γ' hI) s'
  refine ⟨_, _, hs k γ' hk hI, F0, H0, F', s'.set (P := sh X.K (.int k)) i (show V.int (0 + k) = V.int k by rw [Int.zero_add]), fun γ'' σ'' F'' H'' hn s'' => ⟨γ'', F'', hn, s''⟩, fun γ'' σ'' F'' H'' hn s'' => h1 _ _ _ _ hn s'', fun γ'' σ'' F'' H'' hn s'' => ⟨γ'', F'', hn, s''⟩, h4, h5⟩
end
end Tw
namespace Td
open PySem PySem.Spec PyProof.Rows L2 Tw
section
variable {P : Program} {w : World} {K : Frag} {mg : Str → Option Value} {base : Heap} {T : List NTab} {C CN : Addr}
def S_codesA (K : Frag) : Str → Pr := fun x => ⟨x.cps.toList.length < sizeLine ∧ x.cps.all (· < 128) = true, [sh K (.str x)], .ok (sh K (codesS x))⟩
theorem ok_codesH {f : Addr} {fd : FuncData} (F : Fun K "codes_of" "codes_of" s_codes f fd) (X : Txt K mg) : L2H.FnH P w K mg base CX0 1 f fd ["text"] (spF T C (S_codesA K)) := by
  refine def_okH F sc_codes (fun _ => rfl) fun x ⟨hx, asc⟩ cdv A outer s H E p hot hr => ?_
  refine sj_last (sj_ret' (d := codesS x) (Ev.cast (ev_tuple true X.tuple (EvN.sh (evn_lcSH (own := [("sign", 1)]) (f := fun _ => true) (g := fun d => match d with
    | .str z => .int (z.cps.getD 0 0 : Nat)
    | _ => .none) (hot_cxH hot) asc sc_codes.nd (ev_var 0 rfl) (blkOk_by (N := ["text", "sign"]) (sc := defScope s_codes) (by decide +kernel)) (fun _ _ _ _ _ => pg_name sc_codes.nd rfl (.inl rfl)) (tgt_name 1) (fun _ _ => trivial) hx ⟨fun d hd s H C cl fp => evts_nil, fun d hd _ s H C cl fp => ?_⟩))) ?_) rfl)
  · obtain ⟨c, _, rfl⟩ := List.mem_map.mp hd
    exact ev_ord X.ord (ev_var 1 rfl)
  · rw [filter_all, List.map_map]
    rfl
theorem ok_lowH {f : Addr} {fd : FuncData} (F : Fun K "low_first" "low_first" s_low f fd) (X : Txt K mg) : L2H.FnH P w K mg base CX0 1 f fd ["number", "many"] (spF T C (S_low K)) := by
  refine def_okH F sc_low (fun _ => rfl) fun ⟨n, m⟩ hm cdv A outer s H E p hot hr => ?_
  have hm : m ≤ 8 := hm
  refine sj_cons (sj_setN 2 (ds := []) (evn_lst (ds := []) eva_nil) ?_ sc_low.nd)
  refine sj_cons (sj_forRH 3 (n := m) (passes_of rfl) (hot_cxH hot) X.range ⟨by omega, by omega⟩ (ev_var 1 rfl) sc_low.nd (fun k γ => ∃ x, γ = [.sh (sh K (.int (divs n k))), .sh (sh K (.int m)), .own (octD (RWire.low k n)), x]) ⟨.un, rfl⟩ ?_ ?_)
  · rintro k _ hk ⟨x, rfl⟩
    have hk : k < m := by omega
    have e1 : ((divs n k : Nat) : Int) % 256 = ((UInt8.ofNat (divs n k)).toNat : Int) := by
      rw [UInt8.toNat_ofNat']
      omega
    refine sj_cons (sj_append 2 (ds := octD (RWire.low k n)) (d := .int ((UInt8.ofNat (divs n k)).toNat : Int)) rfl (Ev.cast (ev_mod (by decide) (ev_var 0 rfl) ev_int) (congrArg PyData.int e1)) ?_ ?_)
    · rw [octD_len, low_len]
      exact small_of (m := 8) (by omega) rfl
    · refine sj_last (sj_set 0 (P := sh K (.int (divs n k / 256 : Nat))) (Ev.cast (ev_fdiv ⟨by decide, by decide⟩ (ev_var 0 rfl) ev_int) (congrArg PyData.int (by omega))) ⟨.sh (sh K (.int k)), ?_⟩ sc_low.nd)
      rw [low_snoc, octD_app]
      rfl
  · rintro _ ⟨x, rfl⟩
    rw [show (m : Int).toNat = m by omega]
    show SJs _ _ _ _ _
    refine sj_share 2 rfl ?_
    exact sj_last (sj_ret (ev_var 2 rfl))
end
end Td
namespace Tw
open PySem PySem.Spec PyProof.Rows L2
section
variable {X : Cx} {W : Wd} {c : Cfg} {γ : Gm} {w w1 w2 : W.Om} {po : WPo W} {P R : Ty} {Ps : List Ty} {pos pos' p apos : Pos} {a b e test tg : Expr} {es : List Expr} {body : List Stmt} {x : Str} {ι : Type} {ps : List Str} {j k : Nat} {C CR : Addr} {T : List NTab} {E : XK} {o : Int} {m : Str}
/-- x += e, numbers -/
theorem wj_aug (i : Nat) {n m : Int} (hi : γ[i]? = some (.sh (sh X.K (.int n)))) (he : Ev X c.T γ e (sh X.K (.int m))) (h : po.nx (γ.set i (.sh (sh X.K (.int (n + m))))) w) (hN : X.N.Nodup) (hNi : X.N[i]? = some x := by rfl) (hx : Loc X.env.scope x := by first | exact Or.inl rfl | exact Or.inr rfl)
    (hf : X.fn x = true ∨ X.env.scope.names.lookup x = some .local := by first | exact .inl rfl | exact .inr rfl) : WJ X W c γ w (.AugAssign (.Name x p) .Add e pos) po :=
  PS.imp (ps_aug hN hNi hx he ip_add hf) fun D σ H ⟨F0, B, F, S, s, a, h1, _⟩ => by
    obtain ⟨v, e1, p1⟩ := s.s.env.2 i _ hi
    refine ⟨v, e1, F, st_whole s.s, fun u F2 H2 g p2 => ⟨n, m, p1, p2, h1 _ _ _ F2 H2 S h ((s.grow (gw_of a g)).set i ?_) (at_of a g)⟩⟩
    exact rfl
def tWw (X : Cx) (T : List NTab) (test : Expr) : TT := fun σ H Q => ∃ γ b, EvT X T γ test b ∧ tTs T γ b σ H Q
theorem wj_while (hp : PassesOwn (model X.prog X.w) X.A X.env X.xe) (Iv : Nat → Gm → W.Om → Prop) (m0 : Nat) (h0 : Iv m0 γ w)
    (hs : ∀ (m : Nat) (γ' : Gm) (w' : W.Om), Iv m γ' w' → ∃ b, EvT X c.T γ' test b ∧ (b = true → WJs X W c γ' w' body { po with nx := fun γ'' w'' => ∃ m', m' < m ∧ Iv m' γ'' w'', ct := fun γ'' w'' => ∃ m', m' < m ∧ Iv m' γ'' w'', bk := po.nx }) ∧ (b = false → po.nx γ' w')) : WJ X W c γ w (.While test body [] pos) po := by
  have ht : PT X test (tWw X c.T test) := ⟨fun pins st σ H Q I ⟨γ, b, h1, h2⟩ => h1.run pins st σ H Q I h2⟩
  refine PS.imp (ps_while hp ht (wj_any (u := tWB X W c body) fun _ _ _ q => q)) fun D σ H ⟨F0, B, F, S, s, a, h1, h2, h3, h4, h5⟩ => ?_
  refine ⟨fun m σ' H' => ∃ γ' w' F' S', Iv m γ' w' ∧ StS c.T X.K F0 B γ' σ' F' (cut H' S') ∧ W.at_ w' S' F' H', ⟨m0, γ, w, F, S, h0, s, a⟩, fun m σ' H' ⟨γ', w', F', S', hI, s', a'⟩ => ?_⟩
  obtain ⟨b, q1, q2, q3⟩ := hs m γ' w' hI
  refine ⟨γ', b, q1, F', st_whole s'.s, fun F2 H2 g2 => ?_⟩
  have gc := gw_of a' g2
  have ac := at_of a' g2
  cases b with
  | true =>
    show (if true = true then _ else _)
    rw [if_pos rfl]
    exact ⟨fun σ'' H'' => ∃ m', m' < m ∧ ∃ γ'' w'' F'' S'', Iv m' γ'' w'' ∧ StS c.T X.K F0 B γ'' σ'' F'' (cut H'' S'') ∧ W.at_ w'' S'' F'' H'', fun _ _ n => n, γ', w', _, q2 rfl, F0, B, F2, S', s'.grow gc, ac, fun γ'' w'' σ'' F'' H'' S'' ⟨m', hm, hI'⟩ s'' a'' => ⟨m', hm, γ'', w'', F'', S'', hI', s'', a''⟩, fun γ'' w'' σ'' F'' H'' S'' hn s'' a'' => h1 _ _ _ _ _ _ hn s'' a'',
      fun γ'' w'' σ'' F'' H'' S'' ⟨m', hm, hI'⟩ s'' a'' => ⟨m', hm, γ'', w'', F'', S'', hI', s'', a''⟩, h4, h5⟩
  | false =>
    show (if false = true then _ else _)
    rw [if_neg Bool.false_ne_true]
    exact h1 _ _ _ F2 H2 S' (q3 rfl) (s'.grow gc) ac
/-- f(e, ..) over a world -/
theorem we_callW {S : ι → PrW W.Om} (h : Fn X.prog X.w X.K X.mg X.base CX0 k x ps (spW W T CR S)) (hr : Room j X.A) (hk : k ≤ j) (i : ι) (hpre : (S i).pre) (hw : (S i).w = w1) (hS : (S i).out = .ok P w2) (ha : WA X W T γ w w1 (e :: es) (S i).args) (hg : Gl X x := by rfl) (hdb : (x == ("__debug__" : Str)) = false := by decide)
    (he : starEach (e :: es) X.env = (false, eval e X.env) :: starEach es X.env := by rfl) (hpl : (backTo pos (starEach es X.env)).any (·.1) = false := by rfl) : We X W T γ w w2 (.Call (.Name x p) (e :: es) [] pos) P := by
  obtain ⟨f, fd, h1, h2, h3, h4⟩ := h
  refine PE.imp (pe_call h1 (hr.mono hk) hg h2 h3 h4 .nil pass0 ha hdb he hpl) fun σ H Q ⟨F, A, s, a, q⟩ => ⟨F, A, s, a, fun vs F1 H1 A1 g1 a1 p1 => ?_⟩
  show spW W T CR S (vs ++ []) H1 Q _
  rw [List.append_nil]
  have s1 := s.grow g1
  refine ⟨i, F1, A1, hpre, hw ▸ a1, s1.ex, s1.tab, p1, ?_⟩
  rw [hS]
  exact fun v F2 H2 A2 g2 a2 p2 => q v F2 H2 A2 (g1.trans g2) a2 p2
/-- o.m(e, ..), m may raise but does not here -/
theorem we_methX {pl : Sem Bool} {S : ι → PrW W.Om} (h : Mt X.prog X.w X.K X.mg X.base (L2N.CX X.prog X.w) k C x ps (spW W T CR S)) (hr : Room j X.A) (hk : k ≤ j) (i : ι) (hpre : (S i).pre) (hw : (S i).w = w1) (hS1 : (S i).args = R :: Ps) (hS : (S i).out = .ok P w2)
    (hI : ∀ S F H v, W.at_ w S F H → R.p v F → ∃ a dx fs, v = .ref a ∧ H a = some (.ins C dx fs) ∧ fs.lookup x = none) (ho : We X W T γ w w a R) (ha : WA X W T γ w w1 (e :: es) Ps)
    (hst : starEach (e :: es) X.env = (false, eval e X.env) :: starEach es X.env := by rfl) (hpl : (backTo pos (starEach es X.env)).any (·.1) = false := by rfl)
    (ht : eval (.Call (.Attribute a x apos) (e :: es) [] pos) X.env = (do
      let ov ← eval a X.env
      standAt apos.atName
      let (f, first) ← holding [ov] (getMethod ov x pl)
      callWith pos f first (backTo pos (starEach (e :: es) X.env)) (backToKw pos (keywordEach [] X.env))) := by rfl) : We X W T γ w w2 (.Call (.Attribute a x apos) (e :: es) [] pos) P := by
  obtain ⟨f, fd, h1, h2, h3, h4⟩ := h
  refine PE.imp (pe_meth (pl := pl) ho h2 h3 h1 (hr.mono hk) h4 .nil passN ha hst hpl ht) fun σ H Q ⟨F, A, s, a, q⟩ => ⟨F, A, s, a, fun v F1 H1 A1 g1 a1 p1 => ?_⟩
  obtain ⟨b, dx, fs, rfl, hb, hl⟩ := hI A1 F1 H1 v a1 p1
  refine ⟨b, dx, fs, rfl, hb, hl, F1, A1, s.grow g1, a1, fun vs F2 H2 A2 g2 a2 p2 => ?_⟩
  show spW W T CR S (.ref b :: (vs ++ [])) H2 Q _
  rw [List.append_nil]
  have s2 := (s.grow g1).grow g2
  refine ⟨i, F2, A2, hpre, hw ▸ a2, s2.ex, s2.tab, ?_, ?_⟩
  · rw [hS1]
    exact ⟨_, vs, rfl, R.mono g2.f p1, p2⟩
  · rw [hS]
    exact fun v F3 H3 A3 g3 a3 p3 => q v F3 H3 A3 ((g1.trans g2).trans g3) a3 p3
/-! ### an expression that raises a refusal while a world is owned -/
def tWX (W : Wd) (T : List NTab) (γ : Gm) (w w' : W.Om) (C : Addr) (E : XK) (o : Int) (m : Str) : TE := fun σ H _ => ∃ F S, St0 T γ σ F (cut H S) ∧ W.at_ w S F H ∧ ∀ d F2 H2 S2, Grow T F (cut H S) F2 (cut H2 S2) → W.at_ w' S2 F2 H2 → cut H S d = none → XdAt H2 d o m → E (.ref C) (some d) H2
abbrev WErr (X : Cx) (W : Wd) (T : List NTab) (γ : Gm) (w w' : W.Om) (C : Addr) (E : XK) (e : Expr) (o : Int) (m : Str) : Prop := PE X e (tWX W T γ w w' C E o m)
theorem we_methErr {pl : Sem Bool} {S : ι → PrW W.Om} (h : Mt X.prog X.w X.K X.mg X.base (L2N.CX X.prog X.w) k C x ps (spW W T CR S)) (tk : L2N.Takes X fun cls d _ H => E cls d H) (hr : Room j X.A) (hk : k ≤ j) (i : ι) (hpre : (S i).pre) (hw : (S i).w = w1) (hS1 : (S i).args = R :: Ps) (hS : (S i).out = .err o m w2)
    (hI : ∀ S F H v, W.at_ w S F H → R.p v F → ∃ a dx fs, v = .ref a ∧ H a = some (.ins C dx fs) ∧ fs.lookup x = none) (ho : We X W T γ w w a R) (ha : WA X W T γ w w1 (e :: es) Ps)
    (hst : starEach (e :: es) X.env = (false, eval e X.env) :: starEach es X.env := by rfl) (hpl : (backTo pos (starEach es X.env)).any (·.1) = false := by rfl)
    (ht : eval (.Call (.Attribute a x apos) (e :: es) [] pos) X.env = (do
      let ov ← eval a X.env
      standAt apos.atName
      let (f, first) ← holding [ov] (getMethod ov x pl)
      callWith pos f first (backTo pos (starEach (e :: es) X.env)) (backToKw pos (keywordEach [] X.env))) := by rfl) : WErr X W T γ w w2 CR E (.Call (.Attribute a x apos) (e :: es) [] pos) o m := by
  obtain ⟨f, fd, h1, h2, h3, h4⟩ := h
  refine PE.imp (pe_meth (pl := pl) ho h2 h3 h1 (hr.mono hk) h4 .nil (L2N.passes_call tk fun _ _ _ _ z => z) ha hst hpl ht) fun σ H Q ⟨F, A, s, a, q⟩ => ⟨F, A, s, a, fun v F1 H1 A1 g1 a1 p1 => ?_⟩
  obtain ⟨b, dx, fs, rfl, hb, hl⟩ := hI A1 F1 H1 v a1 p1
  refine ⟨b, dx, fs, rfl, hb, hl, F1, A1, s.grow g1, a1, fun vs F2 H2 A2 g2 a2 p2 => ?_⟩
  show spW W T CR S (.ref b :: (vs ++ [])) H2 Q _
  rw [List.append_nil]
  have s2 := (s.grow g1).grow g2
  refine ⟨i, F2, A2, hpre, hw ▸ a2, s2.ex, s2.tab, ?_, ?_⟩
  · rw [hS1]
    exact ⟨_, vs, rfl, R.mono g2.f p1, p2⟩
  · rw [hS]
    exact fun d F3 H3 A3 g3 a3 h0 xd => q d F3 H3 A3 ((g1.trans g2).trans g3) a3 ((g1.trans g2).free _ h0) xd
/-- f(e), e raises -/
theorem we_argErr {CX : CXT} {sp : Sp} (h : Fn X.prog X.w X.K X.mg X.base CX k x ps sp) (hp : Passes CX X E0) (hr : Room j X.A) (hk : k ≤ j) (ha : WErr X W T γ w w1 CR E e o m) (hg : Gl X x := by rfl) (hdb : (x == ("__debug__" : Str)) = false := by decide)
    (he : starEach [e] X.env = (false, eval e X.env) :: starEach [] X.env := by rfl) (hpl : (backTo pos (starEach [] X.env)).any (·.1) = false := by rfl) : WErr X W T γ w w1 CR E (.Call (.Name x p) [e] [] pos) o m := by
  obtain ⟨f, fd, h1, h2, h3, h4⟩ := h
  exact PE.imp (pe_call h1 (hr.mono hk) hg h2 h3 h4 .nil hp (pa_cons ha pa_nil he) hdb he hpl) fun σ H Q q => q
/-- a + e, e raises -/
theorem we_catErr (ha : Ev X T γ a P) (hb : WErr X W T γ w w1 CR E b o m) : WErr X W T γ w w1 CR E (.BinOp a .Add b pos) o m :=
  PE.imp (pe_op op_cat ha hb) fun σ H Q ⟨F, S, s, at1, q⟩ => ⟨F, st_whole s, fun v F1 H1 g1 p1 => ⟨F1, S, s.grow (gw_of at1 g1), at_of at1 g1, fun d F2 H2 S2 g2 a2 h0 xd => q d F2 H2 S2 ((gw_of at1 g1).trans g2) a2 ((gw_of at1 g1).free _ h0) xd⟩⟩
theorem wj_retX (he : WErr X W c.T γ w w1 c.C c.E e o m) (h : po.er o m w1) : WJ X W c γ w (.Return (some e) pos) po :=
  PS.imp (ps_ret he) fun D σ H ⟨F0, B, F, S, s, a, _, _, _, _, h5⟩ => ⟨F, S, s.s, a, fun d F2 H2 S2 g a2 h0 q => h5 o m w1 d F2 H2 S2 h (s.g.trans g) a2 (s.g.free _ h0) q⟩
/-- a list + a list that changes the world -/
theorem wn_cat {ds es : List PyData} (ha : Ev X T γ a (sh X.K (.list ds))) (hb : We X W T γ w w1 b (sh X.K (.list es))) (hl : ds.length + es.length ≤ sizeLine) : WN X W T γ w w1 (.BinOp a .Add b pos) (ds ++ es) :=
  PE.imp (pe_op op_cat ha hb) fun σ H Q ⟨F, S, s, at1, q⟩ => ⟨F, st_whole s, fun v F1 H1 g1 p1 => ⟨F1, S, s.grow (gw_of at1 g1), at_of at1 g1, fun u F2 H2 S2 g2 a2 p2 => by
    obtain ⟨a1, xs, rfl, h1, h2⟩ := p1
    obtain ⟨a3, ys, rfl, h3, h4⟩ := p2
    have gg := (gw_of at1 g1).trans g2
    have s2 := s.grow gg
    have h5 := DqAll.mono g2.f ds xs h2
    have ew := (st_whole s2).ex
    refine ⟨a1, a3, xs, ys, rfl, rfl, ew.go (g2.f.go h1), ew.go h3, by rw [h2.length, h4.length]; exact hl, fun p hp => ?_⟩
    have nS := not_own a2 hp
    have g5 := gw_raw (T := T) (o := HO.lst (xs ++ ys)) a2 s2.ex hp
    exact q p _ F2 _ S2 (gg.trans g5) (at_raw a2 hp) (gg.free _ (by rw [cut_of nS]; exact hp)) (s2.ex.free (by rw [cut_of nS]; exact hp)) (by rw [cut_of nS]; exact upd_same) (h5.append h4)⟩⟩
end
/-! ### try: body, except C as n: suite -/
/-- the caught exception a, its dict d -/
def excTy (a d : Addr) (o : Int) (m : Str) : Ty := ⟨fun v F => v = .ref a ∧ ∃ fs : List (Str × V), F d = some (.xd fs) ∧ fs.lookup ("order" : Str) = some (V.int o) ∧ fs.lookup ("message" : Str) = some (V.str m), fun e ⟨h, fs, h1, h2⟩ => ⟨h, fs, e.go h1, h2⟩⟩
def sgm (n i : Nat) (a d : Addr) (o : Int) (m : Str) : Gm := (List.replicate n .un).set i (.sh (excTy a d o m))
theorem hot_suite {X : Cx} {a : Addr} {oe : Obj} {cls : Value} {d : Option Addr} {pn : List (Addr × Obj)} (hz : L2N.Zn cls d oe) (hf : ∃ vs, oe.data = .fields vs) : L2H.HotC (X.suite a ((a, oe) :: pn)) := by
  obtain ⟨vs, h⟩ := hf
  exact ⟨(a, oe), ⟨rfl, vs, h, hz.2.2 vs h⟩, List.mem_cons_self⟩
theorem roomH_suite {X : Cx} {k : Nat} {a : Addr} {pn : List (Addr × Obj)} (r : Room k X.A) : L2H.RoomH k (X.suite a pn).A := ⟨r.dp, r.un⟩
section
variable {X : Cx} {T : List NTab} {γ : Gm} {a d C : Addr} {o : Int} {m : Str} {oe : Obj} {pn : List (Addr × Obj)} {pos p : Pos} {x : Str}
theorem ev_order (i : Nat) (R : RefC X.K C) (hz : L2N.Zn (.ref C) (some d) oe) (hf : ∃ vs, oe.data = .fields vs) (hi : γ[i]? = some (.sh (excTy a d o m))) (hv : PE (X.suite a ((a, oe) :: pn)) (.Name x p) (tVar i)) (hb : attributeBase (.Name x p) "order" X.env (eval (.Name x p) X.env) = eval (.Name x p) X.env := by rfl) :
    Ev (X.suite a ((a, oe) :: pn)) T γ (.Attribute (.Name x p) "order" pos) (sh X.K (.int o)) :=
  PE.imp (pe_xf R.xf R.no1 hz.zc hf hv hb) fun σ H Q ⟨F, s, q⟩ => by
    obtain ⟨v, hv, e, fs, f1, f2, f3⟩ := s.env.2 i _ hi
    exact ⟨v, hv, e, rfl, d, fs, .int o, rfl, s.ex.go f1, f2, q _ F H (Grow.refl s.ex) rfl⟩
theorem ev_message (i : Nat) (R : RefC X.K C) (hz : L2N.Zn (.ref C) (some d) oe) (hf : ∃ vs, oe.data = .fields vs) (hi : γ[i]? = some (.sh (excTy a d o m))) (hv : PE (X.suite a ((a, oe) :: pn)) (.Name x p) (tVar i)) (hb : attributeBase (.Name x p) "message" X.env (eval (.Name x p) X.env) = eval (.Name x p) X.env := by rfl) :
    Ev (X.suite a ((a, oe) :: pn)) T γ (.Attribute (.Name x p) "message" pos) (sh X.K (.str m)) :=
  PE.imp (pe_xf R.xf R.no2 hz.zc hf hv hb) fun σ H Q ⟨F, s, q⟩ => by
    obtain ⟨v, hv, e, fs, f1, f2, f3⟩ := s.env.2 i _ hi
    exact ⟨v, hv, e, rfl, d, fs, .str m, rfl, s.ex.go f1, f3, q _ F H (Grow.refl s.ex) rfl⟩
end
section
variable {X : Cx} {W : Wd} {c : Cfg} {γ : Gm} {w : W.Om} {po : WPo W} {body suite : List Stmt} {b₀ : Stmt} {np pos pos' : Pos} {x n : Str}
theorem takes_0 {Y : Cx} : L2N.Takes Y (fun _ _ _ _ => False) := fun _ _ ⟨_, _, _, _, _, _, _, _, _, _, _, _, _, _, _, _, z⟩ => z.elim
theorem wj_try (i : Nat) (er : Int → Str → W.Om → Prop) (hs : X.stack = X.env :: X.outer) (hf : X.env.frame = some X.env.locals) (hN : X.N.Nodup) (hi : X.N[i]? = some n) (hln : X.env.kindOf n = some .local) (hc : Names X x (.ref c.C)) (ex : PySem.W.exmOne X.K (.ref c.C) (.ref c.C) = some true) (hno : noOwn γ = true)
    (hb : ∀ (E : XK) (pn : List (Addr × Obj)) (xe : Value → Shared → Prop), L2N.Takes (X.tr pn xe) (fun cls d _ H => E cls d H) → WJs (X.tr pn xe) W ⟨c.T, c.C, E⟩ γ w body { po with er := er })
    (hsu : ∀ (o : Int) (m : Str) (w' : W.Om) (a d : Addr) (oe : Obj) (pn : List (Addr × Obj)), er o m w' → L2N.Zn (.ref c.C) (some d) oe → (∃ vs, oe.data = .fields vs) →
      WJs (X.suite a ((a, oe) :: pn)) W ⟨c.T, c.C, fun _ _ _ => False⟩ (sgm X.N.length i a d o m) w' (b₀ :: suite) ⟨fun _ _ => False, fun _ _ => False, fun _ _ => False, po.R, po.rw, fun _ _ _ => False⟩) :
    WJ X W c γ w (.Try body [.ExceptHandler (some (.Name x np)) (some n) (b₀ :: suite) pos'] [] [] pos) po := by
  refine PS.imp (L2N.ps_try_as (i := i) (c := .ref c.C) (Wout := fun _ _ _ _ => False) (tb := fun Z => tWJ X.K W ⟨c.T, c.C, fun cls d H => ∀ σ : L2.St, σ.length = X.N.length → Z cls d σ H⟩ γ w { po with er := er })
    (ts := fun a cls d D σ H => ∃ o m w' dd, er o m w' ∧ cls = .ref c.C ∧ d = some dd ∧ tWJ X.K W ⟨c.T, c.C, fun _ _ _ => False⟩ (sgm X.N.length i a dd o m) w' ⟨fun _ _ => False, fun _ _ => False, fun _ _ => False, po.R, po.rw, fun _ _ _ => False⟩ D σ H)
    hs hf hN hi hln hc takes_0 (fun Z pn xe tk _ => hb _ pn xe (takes_len (X := X.tr pn xe) tk)) fun a oe cls d pn hz hfl => ⟨fun pins s σ H D I ⟨o, m, w', dd, he, e1, e2, q⟩ => by
      subst e1 e2
      exact (hsu o m w' a dd oe pn he hz hfl).run pins s σ H D I q⟩) fun D σ H ⟨F0, B, F, S, s, at1, h1, h2, h3, h4, h5⟩ => ?_
  have back : ∀ F' H', Grow c.T F (cut H S) F' H' → Grow c.T F0 B F' H' := fun F' H' g => s.g.trans g
  refine ⟨F, cut H S, F, S, ⟨Grow.refl s.s.ex, s.s, fun j ds e => (noOwn_not hno e).elim, fun j k ds es e => (noOwn_not hno e).elim⟩, at1, fun γ' w' σ' F' H' S' hn s' a' => h1 γ' w' σ' F' H' S' hn (s'.back back fun a h => s.g.free a h) a', fun γ' w' σ' F' H' S' hn s' a' => h2 γ' w' σ' F' H' S' hn (s'.back back fun a h => s.g.free a h) a',
    fun γ' w' σ' F' H' S' hn s' a' => h3 γ' w' σ' F' H' S' hn (s'.back back fun a h => s.g.free a h) a', fun v w' F' H' S' hr g a' p => h4 v w' F' H' S' hr (back _ _ g) a' p, fun o m w' d F' H' S' he g a' h0 xd σ2 hl => ⟨true, ex, fun _ ea hea => ?_, fun z => nomatch z⟩⟩
  obtain ⟨fs, x1, x2, x3⟩ := xd
  have nS : ¬ S' d := fun z => by
    obtain ⟨u, hu, cu⟩ := W.chg a' d z
    rw [x1] at hu
    cases hu
    exact cu
  have cd : cut H' S' d = some (.xd fs) := by rw [cut_of nS]; exact x1
  obtain ⟨F3, g3, a3, fd3⟩ : ∃ F3, Grow c.T F (cut H S) F3 (cut H' S') ∧ W.at_ w' S' F3 H' ∧ F3 d = some (.xd fs) := by
    cases e : F' d with
    | none => exact ⟨upd F' d (.xd fs), g.freeze h0 e cd, W.keep a' (Ex.new e) (fun b hb => by
        rw [upd_ne (fun z => nS (by rw [← z]; exact hb))]
        exact W.none a' b hb) fun _ _ => rfl, upd_same⟩
    | some u =>
      refine ⟨F', g, a', ?_⟩
      rcases g.ex d u e with q | ⟨ps, ps', _, q⟩
      · rw [cd] at q
        cases q
        exact e
      · rw [cd] at q
        cases q
  have hiN : i < X.N.length := (List.getElem?_eq_some_iff.mp hi).1
  refine ⟨o, m, w', d, he, rfl, rfl, F, cut H S, F3, S', ⟨g3, ⟨g3.ex, ⟨?_, fun j P hj => ?_⟩, g3.tab s.s.tab⟩, fun j ds e => ?_, fun j k ds es e => ?_⟩, a3, fun _ _ _ _ _ _ z => z.elim, fun _ _ _ _ _ _ z => z.elim, fun _ _ _ _ _ _ z => z.elim, fun v w2 F2 H2 S2 hr g2 a2 p => h4 v w2 F2 H2 S2 hr (back _ _ g2) a2 p, fun _ _ _ _ _ _ _ z => z.elim⟩
  · show (σ2.set i _).length = (sgm X.N.length i ea d o m).length
    rw [sgm, List.length_set, List.length_set, List.length_replicate, hl]
  · rcases get_set hj with ⟨e1, e2⟩ | ⟨_, q⟩
    · subst e1
      cases e2
      exact ⟨.ref ea, by rw [List.getElem?_set_self (by rw [hl]; exact hiN)], rfl, fs, fd3, x2, x3⟩
    · rw [List.getElem?_replicate] at q
      split at q <;> cases q
  · rcases get_set e with ⟨_, e2⟩ | ⟨_, q⟩
    · cases e2
    · rw [List.getElem?_replicate] at q
      split at q <;> cases q
  · rcases get_set e with ⟨_, e2⟩ | ⟨_, q⟩
    · cases e2
    · rw [List.getElem?_replicate] at q
      split at q <;> cases q
end
end Tw
namespace Td
open PySem PySem.Spec
theorem digOk : DigOk := fun n h => by
  show (Str.ofString (toString (n : Int))).length ≤ 100
  rw [TL.len_tl, TL.tl_num]
  exact Nat.le_trans (TL.numL_len (k := 7) (by decide) (by omega)) (by decide)
end Td
namespace Tm
open Td
open R7256f.Spec (Units units Plain)
abbrev uO (u : List UInt8) : Units := u.map Rust.unitOf
abbrev oU (u : Units) : List UInt8 := u.map Rust.octetOf
theorem oct_unit (o : UInt8) : Rust.octetOf (Rust.unitOf o) = o := by
  unfold Rust.octetOf Rust.unitOf
  apply UInt8.toNat_inj.mp
  have := o.toNat_lt
  rw [UInt8.toNat_ofNat', UInt16.toNat_ofNat']
  omega
theorem unit_inj {a b : UInt8} (h : Rust.unitOf a = Rust.unitOf b) : a = b := by
  rw [← oct_unit a, ← oct_unit b, h]
theorem oU_uO (u : List UInt8) : oU (uO u) = u := by
  unfold oU uO
  rw [List.map_map]
  exact (List.map_congr_left fun o _ => oct_unit o).trans (List.map_id u)
theorem uO_inj {a b : List UInt8} (h : uO a = uO b) : a = b := by
  rw [← oU_uO a, ← oU_uO b, h]
theorem uO_beq (a b : List UInt8) : (uO a == uO b) = (a == b) := by
  by_cases h : a = b
  · subst h
    rw [beq_self_eq_true, beq_self_eq_true]
  · rw [beq_eq_false_iff_ne.mpr h, beq_eq_false_iff_ne.mpr fun z => h (uO_inj z)]
theorem unit_nat (o : UInt8) : (Rust.unitOf o).toNat = o.toNat := by
  unfold Rust.unitOf
  have := o.toNat_lt
  rw [UInt16.toNat_ofNat']
  omega
theorem uO_narrow (u : List UInt8) : Rust.narrowText (uO u) = true := by
  unfold Rust.narrowText
  rw [List.all_eq_true]
  intro c hc
  obtain ⟨o, _, rfl⟩ := List.mem_map.mp hc
  rw [unit_nat]
  exact Nat.ble_eq.mpr o.toNat_lt
/-! ### names -/
theorem u_head : units "head" = uO headO := by decide +kernel
theorem u_tail : units "tail" = uO tailO := by decide +kernel
theorem u_skip : units "skip" = uO skipO := by decide +kernel
theorem u_chop : units "chop" = uO chopO := by decide +kernel
theorem u_kind : units "kind" = uO kindO := by decide +kernel
theorem u_count : units "count" = uO countO := by decide +kernel
theorem u_start : units "start" = uO startO := by decide +kernel
theorem u_end : units "end" = uO endO := by decide +kernel
theorem u_from : units "from" = uO fromO := by decide +kernel
theorem u_to : units "to" = uO toO := by decide +kernel
theorem u_length : units "length" = uO lengthO := by decide +kernel
theorem u_first : units "first" = uO firstO := by decide +kernel
theorem u_second : units "second" = uO secondO := by decide +kernel
theorem u_certain : units "certain" = uO certainO := by decide +kernel
theorem u_held : units "held" = uO heldO := by decide +kernel
theorem u_value : units "value" = uO valueO := by decide +kernel
theorem u_done : units "done" = uO doneO := by decide +kernel
theorem u_thrown : units "thrown" = uO thrownO := by decide +kernel
theorem u_n : units "-n" = uO nO := by decide +kernel
theorem u_kO (k : TKind) : R7256f.Spec.kindText k = uO (kO k) := by
  cases k
  · exact u_head
  · exact u_tail
  · exact u_skip
  · exact u_chop
/-! ### taken -/
theorem takenAll_map : ∀ l : List RWire.Value, Rust.takenAll l = l.map Rust.taken
  | [] => rfl
  | v :: r => congrArg (Rust.taken v :: ·) (takenAll_map r)
theorem takenFields_map : ∀ l : List (RWire.Text × RWire.Value), Rust.takenFields l = l.map fun e => (uO e.1, Rust.taken e.2)
  | [] => rfl
  | (n, v) :: r => congrArg ((uO n, Rust.taken v) :: ·) (takenFields_map r)
theorem givenAll_map : ∀ l : List Plain, Rust.givenAll l = l.map Rust.given
  | [] => rfl
  | v :: r => congrArg (Rust.given v :: ·) (givenAll_map r)
theorem givenFields_map : ∀ l : List (Units × Plain), Rust.givenFields l = l.map fun e => (oU e.1, Rust.given e.2)
  | [] => rfl
  | (n, v) :: r => congrArg ((oU n, Rust.given v) :: ·) (givenFields_map r)
theorem find_fields (l : List (RWire.Text × RWire.Value)) (nm : List UInt8) : (Rust.takenFields l).find? (fun f => f.1 == uO nm) = (l.find? fun e => e.1 == nm).map fun e => (uO e.1, Rust.taken e.2) := by
  rw [takenFields_map]
  induction l with
  | nil => rfl
  | cons e r ih =>
    rw [List.map_cons, List.find?_cons, List.find?_cons, uO_beq]
    cases e.1 == nm with
    | true => rfl
    | false => exact ih
theorem prop_is (l : List (RWire.Text × RWire.Value)) (s : String) (nm : List UInt8) (h : units s = uO nm) : R7256f.Spec.property s (Rust.taken (.record l)) = (l.find? fun e => e.1 == nm).map fun e => Rust.taken e.2 := by
  show ((Rust.takenFields l).find? fun f => f.1 == units s).map _ = _
  rw [h, find_fields, Option.map_map]
  rfl
theorem kind_is (v : RWire.Value) (h : okV v = true) : R7256f.Spec.kindIn (Rust.taken v) = kindM v := by
  cases v with
  | text u =>
    show R7256f.Spec.kindOf (uO u) = kindM (.text u)
    unfold R7256f.Spec.kindOf kindM isText
    rw [u_head, u_tail, u_skip, u_chop, uO_beq, uO_beq, uO_beq, uO_beq]
  | wide u => cases h
  | octets u => cases h
  | _ => rfl
theorem count_is (v : RWire.Value) (h : okV v = true) (m : Nat) : R7256f.Spec.rangeIn 0 m (Rust.taken v) = countM v m := by
  cases v with
  | int i =>
    show ((if (some i : Option Int) == none then none else some i).bind fun i => if (Int.ofNat 0) ≤ i ∧ i ≤ Int.ofNat m then some i else none).map Int.toNat = _
    have : ((some i : Option Int) == none) = false := rfl
    rw [this]
    show ((if (Int.ofNat 0) ≤ i ∧ i ≤ Int.ofNat m then some i else none)).map Int.toNat = if 0 ≤ i ∧ i ≤ (m : Int) then some i.toNat else none
    by_cases c : 0 ≤ i ∧ i ≤ (m : Int)
    · rw [if_pos c, if_pos (show (Int.ofNat 0) ≤ i ∧ i ≤ Int.ofNat m from c)]
      rfl
    · rw [if_neg c, if_neg (show ¬ ((Int.ofNat 0) ≤ i ∧ i ≤ Int.ofNat m) from c)]
      rfl
  | wide u => cases h
  | octets u => cases h
  | _ => rfl
theorem step_is (v : RWire.Value) (h : okV v = true) : R7256f.Spec.stepIn (Rust.taken v) = stepM v := by
  cases v with
  | record l =>
    have hl : okFs l = true := h
    unfold R7256f.Spec.stepIn
    rw [prop_is l "kind" kindO u_kind, prop_is l "count" countO u_count]
    show _ = match kindM (memberM l kindO), countM (memberM l countO) 1000000 with
      | some k, some n => (some ⟨k, n⟩ : Option TStep)
      | _, _ => none
    have e1 : (Option.map (fun e => Rust.taken e.2) (l.find? fun e => e.1 == kindO)).bind R7256f.Spec.kindIn = kindM (memberM l kindO) := by
      unfold memberM
      cases e : l.find? fun e => e.1 == kindO with
      | none => rfl
      | some x => exact kind_is x.2 (okFs_mem hl x (List.mem_of_find?_eq_some e))
    have e2 : (Option.map (fun e => Rust.taken e.2) (l.find? fun e => e.1 == countO)).bind (R7256f.Spec.rangeIn 0 R7256f.Spec.maxCount) = countM (memberM l countO) 1000000 := by
      unfold memberM
      cases e : l.find? fun e => e.1 == countO with
      | none => rfl
      | some x => exact count_is x.2 (okFs_mem hl x (List.mem_of_find?_eq_some e)) _
    rw [e1, e2]
    cases kindM (memberM l kindO) <;> cases countM (memberM l countO) 1000000 <;> rfl
  | wide u => cases h
  | octets u => cases h
  | _ => rfl
theorem pipe_is (v : RWire.Value) (h : okV v = true) : R7256f.Spec.pipelineIn (Rust.taken v) = pipeM v := by
  cases v with
  | list l =>
    have hl : okVs l = true := h
    show (if (Rust.takenAll l).length ≤ R7256f.Spec.maxSteps then R7256f.Spec.allSome ((Rust.takenAll l).map R7256f.Spec.stepIn) else none) = if l.length ≤ 20 then R7256f.Spec.allSome (l.map stepM) else none
    rw [takenAll_map, List.length_map, List.map_map]
    have e : l.map (R7256f.Spec.stepIn ∘ Rust.taken) = l.map stepM := List.map_congr_left fun x hx => step_is x (okVs_mem hl x hx)
    rw [e]
    rfl
  | wide u => cases h
  | octets u => cases h
  | _ => rfl
theorem allSome_map {α β : Type} (f : α → Option β) (g : α → β) : ∀ l : List α, (∀ x ∈ l, f x = some (g x)) → R7256f.Spec.allSome (l.map f) = some (l.map g)
  | [], _ => rfl
  | x :: r, h => by
    rw [List.map_cons, h x List.mem_cons_self]
    show (R7256f.Spec.allSome (r.map f)).map (fun l => g x :: l) = _
    rw [allSome_map f g r fun y hy => h y (List.mem_cons_of_mem _ hy)]
    rfl
theorem allSome_no {α β : Type} (f : α → Option β) : ∀ l : List α, (∃ x ∈ l, f x = none) → R7256f.Spec.allSome (l.map f) = none
  | [], ⟨x, h, _⟩ => by cases h
  | x :: r, ⟨y, h, e⟩ => by
    rw [List.map_cons]
    cases h with
    | head => rw [e]; rfl
    | tail _ h =>
      cases f x with
      | none => rfl
      | some z =>
        show (R7256f.Spec.allSome (r.map f)).map (fun l => z :: l) = none
        rw [allSome_no f r ⟨y, h, e⟩]
        rfl
theorem item_is (v : RWire.Value) (h : okV v = true) : R7256f.Spec.itemIn (Rust.taken v) = if isItem v = true then some (Rust.taken v) else none := by
  cases v with
  | wide u => cases h
  | octets u => cases h
  | bool b => cases b <;> rfl
  | _ => rfl
theorem items_is (v : RWire.Value) (h : okV v = true) : R7256f.Spec.itemsIn (Rust.taken v) = (itemsM v).map fun l => l.map Rust.taken := by
  cases v with
  | list l =>
    have hl : okVs l = true := h
    show (if (Rust.takenAll l).length ≤ R7256f.Spec.maxItems then R7256f.Spec.allSome ((Rust.takenAll l).map R7256f.Spec.itemIn) else none) = (if l.length ≤ 1000 ∧ l.all isItem = true then some l else none).map fun l => l.map Rust.taken
    rw [takenAll_map, List.length_map, List.map_map]
    by_cases c : l.length ≤ 1000
    · rw [if_pos (show l.length ≤ R7256f.Spec.maxItems from c)]
      by_cases d : l.all isItem = true
      · rw [if_pos ⟨c, d⟩]
        exact allSome_map _ _ l fun x hx => (item_is x (okVs_mem hl x hx)).trans (if_pos (List.all_eq_true.mp d x hx))
      · rw [if_neg (fun z => d z.2)]
        refine allSome_no _ l ?_
        have d' : l.all isItem = false := by
          cases e : l.all isItem with
          | true => exact absurd e d
          | false => rfl
        obtain ⟨x, hx, hd⟩ := List.all_eq_false.mp d'
        exact ⟨x, hx, (item_is x (okVs_mem hl x hx)).trans (if_neg hd)⟩
    · rw [if_neg (show ¬ l.length ≤ R7256f.Spec.maxItems from c), if_neg (fun z => c z.1)]
      rfl
  | wide u => cases h
  | octets u => cases h
  | _ => rfl
end Tm
namespace Tm
open Td
open R7256f.Spec (Units units Plain)
/-! ### parsing -/
theorem unit_beq (a b : UInt8) : (Rust.unitOf a == Rust.unitOf b) = (a == b) := by
  by_cases h : a = b
  · subst h
    rw [beq_self_eq_true, beq_self_eq_true]
  · rw [beq_eq_false_iff_ne.mpr h, beq_eq_false_iff_ne.mpr fun z => h (unit_inj z)]
theorem split_is (c : UInt8) : ∀ u : List UInt8, R7256f.Spec.splitAt (Rust.unitOf c) (uO u) = (splitM c u).map uO
  | [] => rfl
  | d :: r => by
    have ih := split_is c r
    show (if Rust.unitOf d == Rust.unitOf c then [] :: R7256f.Spec.splitAt (Rust.unitOf c) (uO r) else match R7256f.Spec.splitAt (Rust.unitOf c) (uO r) with
      | [] => [[Rust.unitOf d]]
      | u :: l => (Rust.unitOf d :: u) :: l) = _
    rw [ih, unit_beq, splitM]
    by_cases h : (d == c) = true
    · rw [if_pos h, if_pos h]
      rfl
    · rw [if_neg h, if_neg h]
      cases e : splitM c r with
      | nil => rfl
      | cons u l => rfl
theorem words_is (u : List UInt8) : R7256f.Spec.wordsOf (uO u) = (wordsM u).map uO := by
  unfold R7256f.Spec.wordsOf wordsM
  rw [show (32 : UInt16) = Rust.unitOf 32 from rfl, split_is, List.filter_map]
  refine congrArg (List.map uO) (List.filter_congr fun w _ => ?_)
  cases w <;> rfl
theorem dig_is (o : UInt8) : R7256f.Spec.isDigit (Rust.unitOf o) = isDig o := by
  unfold R7256f.Spec.isDigit isDig
  have e := unit_nat o
  have a : (48 ≤ Rust.unitOf o) ↔ 48 ≤ o.toNat := by
    rw [UInt16.le_iff_toNat_le, e]
    exact Iff.rfl
  have b : (Rust.unitOf o ≤ 57) ↔ o.toNat ≤ 57 := by
    rw [UInt16.le_iff_toNat_le, e]
    exact Iff.rfl
  rw [Bool.eq_iff_iff, Bool.and_eq_true, Bool.and_eq_true, decide_eq_true_iff, decide_eq_true_iff, decide_eq_true_iff, decide_eq_true_iff, a, b]
theorem numeral_is (u : List UInt8) : R7256f.Spec.numeral (uO u) = numeralM u := by
  unfold R7256f.Spec.numeral numeralM uO
  rw [List.foldl_map]
  have e : (fun (n : Nat) (o : UInt8) => n * 10 + ((Rust.unitOf o).toNat - 48)) = fun n o => n * 10 + (o.toNat - 48) := by
    funext n o
    rw [unit_nat]
  rw [e]
theorem digits_is (u : List UInt8) : (uO u).all R7256f.Spec.isDigit = u.all isDig := by
  unfold uO
  rw [List.all_map]
  refine congrArg (fun f => List.all u f) ?_
  funext o
  exact dig_is o
theorem num_is (m : Nat) (u : List UInt8) : R7256f.Spec.numberOf m (uO u) = numM m u := by
  unfold R7256f.Spec.numberOf numM
  rw [digits_is, numeral_is, List.length_map]
theorem head_is (u : List UInt8) : R7256f.Spec.headStep (uO u) = headM u := by
  cases u with
  | nil => rfl
  | cons x r =>
    show (if Rust.unitOf x == 45 then (R7256f.Spec.numberOf R7256f.Spec.maxCount (uO r)).map _ else (R7256f.Spec.numberOf R7256f.Spec.maxCount (uO (x :: r))).map _) = (if x = 45 then (numM 1000000 r).map _ else (numM 1000000 (x :: r)).map _)
    rw [show (45 : UInt16) = Rust.unitOf 45 from rfl, unit_beq, num_is, num_is]
    by_cases h : x = 45
    · rw [if_pos h, if_pos (by simpa using h)]
      rfl
    · rw [if_neg h, if_neg (by simpa using h)]
      rfl
theorem tail_is (u : List UInt8) : R7256f.Spec.tailStep (uO u) = tailM u := by
  cases u with
  | nil => rfl
  | cons x r =>
    show (if Rust.unitOf x == 43 then (R7256f.Spec.numberOf (R7256f.Spec.maxCount + 1) (uO r)).map _ else (R7256f.Spec.numberOf R7256f.Spec.maxCount (uO (x :: r))).map _) = (if x = 43 then (numM 1000001 r).map _ else (numM 1000000 (x :: r)).map _)
    rw [show (43 : UInt16) = Rust.unitOf 43 from rfl, unit_beq, num_is, num_is]
    by_cases h : x = 43
    · rw [if_pos h, if_pos (by simpa using h)]
      rfl
    · rw [if_neg h, if_neg (by simpa using h)]
      rfl
theorem command_is (l : List (List UInt8)) : R7256f.Spec.commandOf (l.map uO) = commandM l := by
  match l with
  | [] => rfl
  | [_] => rfl
  | [_, _] => rfl
  | [a, b, c] =>
    show (if uO b == units "-n" then (if uO a == units "head" then R7256f.Spec.headStep (uO c) else if uO a == units "tail" then R7256f.Spec.tailStep (uO c) else none) else none) = if b = nO then (if a = headO then headM c else if a = tailO then tailM c else none) else none
    rw [u_n, u_head, u_tail, uO_beq, uO_beq, uO_beq, head_is, tail_is]
    simp only [beq_iff_eq]
  | _ :: _ :: _ :: _ :: _ => rfl
theorem words_nil (u : List UInt8) : (wordsM u).isEmpty = u.all fun o => o == 32 := by
  unfold wordsM
  induction u with
  | nil => rfl
  | cons d r ih =>
    rw [splitM, List.all_cons]
    by_cases h : (d == 32) = true
    · rw [if_pos h, h, Bool.true_and, ← ih]
      rfl
    · rw [if_neg h]
      have h' : (d == 32) = false := by
        cases e : d == 32 with
        | true => exact absurd e h
        | false => rfl
      rw [h', Bool.false_and]
      cases e : splitM 32 r with
      | nil => rfl
      | cons u l => rfl
theorem pipeline_is (u : List UInt8) : R7256f.Spec.pipelineOf (uO u) = pipelineM u := by
  unfold R7256f.Spec.pipelineOf pipelineM
  rw [words_is, show (124 : UInt16) = Rust.unitOf 124 from rfl, split_is, List.map_map]
  have e1 : ((wordsM u).map uO).isEmpty = u.all fun o => o == 32 := by
    rw [← words_nil]
    cases wordsM u <;> rfl
  have e2 : (splitM 124 u).map ((fun v => R7256f.Spec.commandOf (R7256f.Spec.wordsOf v)) ∘ uO) = (splitM 124 u).map fun c => commandM (wordsM c) := List.map_congr_left fun c _ => by
    show R7256f.Spec.commandOf (R7256f.Spec.wordsOf (uO c)) = _
    rw [words_is, command_is]
  rw [e1, e2]
/-! ### values that are told -/
theorem given_nat (n : Nat) : Rust.given (R7256f.Spec.nat n) = .int (n : Int) := rfl
theorem given_rec (l : List (String × Plain)) : Rust.given (R7256f.Spec.record l) = .record (l.map fun e => (oU (units e.1), Rust.given e.2)) := by
  show RWire.Value.record (Rust.givenFields (l.map fun f => (units f.1, f.2))) = _
  rw [givenFields_map, List.map_map]
  rfl
theorem given_txt (u : List UInt8) : Rust.given (.str (uO u)) = .text u := by
  show Rust.givenText (uO u) = _
  unfold Rust.givenText Rust.wideTold
  show RWire.Value.text (oU (uO u)) = _
  rw [oU_uO]
theorem given_step (s : TStep) : Rust.given (R7256f.Spec.stepValue s) = stepV s := by
  unfold R7256f.Spec.stepValue
  rw [given_rec, u_kO]
  show RWire.Value.record [(oU (units "kind"), Rust.given (.str (uO (kO s.kind)))), (oU (units "count"), .int s.count)] = _
  rw [u_kind, u_count, oU_uO, oU_uO, given_txt]
  rfl
theorem given_pipe (p : Pipe) : Rust.given (R7256f.Spec.pipelineValue p) = pipeV p := by
  show RWire.Value.list (Rust.givenAll (p.map R7256f.Spec.stepValue)) = .list (p.map stepV)
  rw [givenAll_map, List.map_map]
  exact congrArg _ (List.map_congr_left fun s _ => given_step s)
theorem given_win (w : Nat × Nat) : Rust.given (R7256f.Spec.windowValue w) = winV w := by
  unfold R7256f.Spec.windowValue
  rw [given_rec]
  show RWire.Value.record [(oU (units "start"), .int w.1), (oU (units "end"), .int w.2)] = _
  rw [u_start, u_end, oU_uO, oU_uO]
  rfl
theorem given_len (x : Option (Nat × Option Nat)) : Rust.given (R7256f.Spec.orNull R7256f.Spec.lengthsValue x) = lenV x := by
  cases x with
  | none => rfl
  | some e =>
    show Rust.given (R7256f.Spec.lengthsValue e) = _
    unfold R7256f.Spec.lengthsValue
    rw [given_rec]
    show RWire.Value.record [(oU (units "from"), .int e.1), (oU (units "to"), Rust.given (R7256f.Spec.orNull R7256f.Spec.nat e.2))] = _
    rw [u_from, u_to, oU_uO, oU_uO]
    obtain ⟨a, o⟩ := e
    cases o <;> rfl
theorem given_read (p : Pipe) (n : Nat) : Rust.given (R7256f.Spec.readingValue (R7256f.Spec.formOf p) n) = readV p n := by
  unfold R7256f.Spec.readingValue
  rw [given_rec]
  show RWire.Value.record [(oU (units "certain"), Rust.given (R7256f.Spec.windowValue _)), (oU (units "held"), Rust.given (R7256f.Spec.windowValue _))] = _
  rw [u_certain, u_held, oU_uO, oU_uO, given_win, given_win]
  unfold readV
  rw [Tl.reading_is (Tl.nOf_wf p), Tl.nOf_form]
theorem given_diff (p q : Pipe) : Rust.given (R7256f.Spec.orNull (R7256f.Spec.differenceValue (R7256f.Spec.formOf p) (R7256f.Spec.formOf q)) (R7256f.Spec.difference (R7256f.Spec.formOf p) (R7256f.Spec.formOf q))) = diffV p q := by
  unfold diffV
  rw [Tl.nOf_form, Tl.nOf_form]
  cases R7256f.Spec.difference (R7256f.Spec.formOf p) (R7256f.Spec.formOf q) with
  | none => rfl
  | some n =>
    show Rust.given (R7256f.Spec.differenceValue _ _ n) = _
    unfold R7256f.Spec.differenceValue
    rw [given_rec]
    show RWire.Value.record [(oU (units "length"), .int n), (oU (units "first"), Rust.given (R7256f.Spec.windowValue _)), (oU (units "second"), Rust.given (R7256f.Spec.windowValue _))] = _
    rw [u_length, u_first, u_second, oU_uO, oU_uO, oU_uO, given_win, given_win, ← Tl.pwin_is, ← Tl.pwin_is]
theorem comm_is (p q : Pipe) : commM p q = R7256f.Spec.sameForm (R7256f.Spec.formOf (p ++ q)) (R7256f.Spec.formOf (q ++ p)) := by
  rw [Bool.eq_iff_iff, Tl.sameForm_iff]
  unfold commM
  rw [steps_eqv]
  constructor
  · intro h
    rw [← Tl.nOf_form, ← Tl.nOf_form]
    exact Tl.steps_inj (Tl.nOf_wf _) (Tl.nOf_wf _) h
  · intro h
    rw [← Tl.nOf_form, ← Tl.nOf_form] at h
    unfold Tl.NP.steps
    rw [h]
end Tm
namespace Tm
open Td PySem PySem.Spec
open R7256f.Spec (Units units Plain)
/-! ### texts that are told -/
def nU (u : Units) : List Nat := (oU u).map UInt8.toNat
theorem nU_app (a b : Units) : nU (a ++ b) = nU a ++ nU b := by
  unfold nU oU
  rw [List.map_append, List.map_append]
theorem nU_uO (u : List UInt8) : nU (uO u) = u.map UInt8.toNat := by
  unfold nU
  rw [oU_uO]
theorem nU_one (c : Nat) (h : c < 256) : nU [UInt16.ofNat c] = [c] := by
  show [(Rust.octetOf (UInt16.ofNat c)).toNat] = [c]
  unfold Rust.octetOf
  rw [UInt8.toNat_ofNat', UInt16.toNat_ofNat', Nat.mod_eq_of_lt (show c < 2 ^ 16 by omega), Nat.mod_eq_of_lt h]
theorem dec_is : ∀ (k n : Nat), n < 10 ^ (k + 1) → nU (R7256f.Spec.decimal (k + 1) n) = TL.numL n
  | k, n, h => by
    show nU (if n < 10 then [UInt16.ofNat (48 + n)] else R7256f.Spec.decimal k (n / 10) ++ [UInt16.ofNat (48 + n % 10)]) = _
    by_cases c : n < 10
    · rw [if_pos c, nU_one _ (by omega), TL.numL_lt c]
    · rw [if_neg c, nU_app, nU_one _ (by omega), TL.numL_step (by omega)]
      cases k with
      | zero => exact absurd h (by rw [Nat.zero_add, Nat.pow_one]; exact c)
      | succ k => rw [dec_is k (n / 10) (by rw [Nat.pow_succ] at h; omega)]
theorem dec8 {n : Nat} (h : n ≤ 1000001) : nU (R7256f.Spec.decimal 8 n) = TL.numL n := dec_is 7 n (by omega)
theorem tl_num' (n : Nat) : TL.tl (toString (n : Int) : Str) = TL.numL n := TL.tl_num n
theorem stepText_is (s : TStep) (h : s.count ≤ 1000000) : TL.tl (stepS s) = nU (R7256f.Spec.stepText s) := by
  obtain ⟨k, n⟩ := s
  have h : n ≤ 1000000 := h
  have d := dec8 (n := n) (by omega)
  have d1 := dec8 (n := n + 1) (by omega)
  cases k with
  | head =>
    show TL.tl (("head" : Str) ++ " -n " ++ (toString (n : Int) : Str)) = nU (units "head -n " ++ R7256f.Spec.decimal 8 n)
    rw [TL.tl_append, TL.tl_append, tl_num', nU_app, d]
    exact congrArg (· ++ TL.numL n) (show TL.tl ("head" : Str) ++ TL.tl (" -n " : Str) = nU (units "head -n ") by decide +kernel)
  | tail =>
    show TL.tl (("tail" : Str) ++ " -n " ++ (toString (n : Int) : Str)) = nU (units "tail -n " ++ R7256f.Spec.decimal 8 n)
    rw [TL.tl_append, TL.tl_append, tl_num', nU_app, d]
    exact congrArg (· ++ TL.numL n) (show TL.tl ("tail" : Str) ++ TL.tl (" -n " : Str) = nU (units "tail -n ") by decide +kernel)
  | skip =>
    show TL.tl (("tail -n +" : Str) ++ (toString ((n + 1 : Nat) : Int) : Str)) = nU (units "tail -n +" ++ R7256f.Spec.decimal 8 (n + 1))
    rw [TL.tl_append, tl_num', nU_app, d1]
    exact congrArg (· ++ TL.numL (n + 1)) (show TL.tl ("tail -n +" : Str) = nU (units "tail -n +") by decide +kernel)
  | chop =>
    show TL.tl (("head -n -" : Str) ++ (toString (n : Int) : Str)) = nU (units "head -n -" ++ R7256f.Spec.decimal 8 n)
    rw [TL.tl_append, tl_num', nU_app, d]
    exact congrArg (· ++ TL.numL n) (show TL.tl ("head -n -" : Str) = nU (units "head -n -") by decide +kernel)
theorem bar_is : TL.tl (" | " : Str) = nU (units " | ") := by decide +kernel
theorem joined_is : ∀ l : List Units, nU (R7256f.Spec.joined l) = TL.joinL (nU (units " | ")) (l.map nU)
  | [] => rfl
  | [u] => rfl
  | u :: v :: r => by
    show nU (u ++ units " | " ++ R7256f.Spec.joined (v :: r)) = nU u ++ (nU (units " | ") ++ TL.joinL (nU (units " | ")) ((v :: r).map nU))
    rw [nU_app, nU_app, joined_is (v :: r), List.append_assoc]
def fmtO (p : Pipe) : List UInt8 := oU (R7256f.Spec.formatText p)
theorem fmt_tl (p : Pipe) (h : ∀ s ∈ p, s.count ≤ 1000000) : TL.tl (fmtS p) = (fmtO p).map UInt8.toNat := by
  show _ = nU (R7256f.Spec.formatText p)
  unfold fmtS R7256f.Spec.formatText
  rw [TL.join_eq, TL.tl_join, joined_is, bar_is, List.map_map, List.map_map]
  exact congrArg _ (List.map_congr_left fun s hs => stepText_is s (h s hs))
theorem codes_of_tl {x : Str} {u : List UInt8} (h : TL.tl x = u.map UInt8.toNat) : codesS x = .tuple (octD u) := by
  unfold codesS octD
  rw [show x.cps.toList = u.map UInt8.toNat from h, List.map_map]
  rfl
theorem fmt_text (p : Pipe) (h : ∀ s ∈ p, s.count ≤ 1000000) : textD (fmtS p) = valD (.text (fmtO p)) := by
  show PyData.tuple [.int 6, codesS (fmtS p)] = .tuple [.int 6, .tuple (octD (fmtO p))]
  rw [codes_of_tl (fmt_tl p h)]
theorem joinL_len (S : List Nat) (n : Nat) : ∀ l : List (List Nat), (∀ x ∈ l, x.length ≤ n) → (TL.joinL S l).length ≤ l.length * (n + S.length)
  | [], _ => Nat.zero_le _
  | [x], h => by
    show x.length ≤ 1 * _
    have := h x List.mem_cons_self
    omega
  | x :: y :: r, h => by
    show (x ++ (S ++ TL.joinL S (y :: r))).length ≤ _
    have h1 := h x List.mem_cons_self
    have h2 := joinL_len S n (y :: r) fun z hz => h z (List.mem_cons_of_mem _ hz)
    rw [List.length_append, List.length_append, List.length_cons, Nat.succ_mul]
    omega
theorem fmt_len (p : Pipe) (h : ∀ s ∈ p, s.count ≤ 1000000) (hp : p.length ≤ 20) : (fmtS p).cps.toList.length ≤ 5000 := by
  show (TL.tl (fmtS p)).length ≤ _
  unfold fmtS
  rw [TL.join_eq, TL.tl_join]
  have e : (TL.tl (" | " : Str)).length = 3 := by decide +kernel
  have := joinL_len (TL.tl (" | " : Str)) 200 ((p.map stepS).map TL.tl) fun x hx => by
    obtain ⟨y, hy, rfl⟩ := List.mem_map.mp hx
    obtain ⟨s, hs, rfl⟩ := List.mem_map.mp hy
    rw [← TL.len_tl]
    exact stepS_len digOk (h s hs)
  rw [e, List.length_map, List.length_map] at this
  have : p.length * (200 + 3) ≤ 20 * 203 := Nat.mul_le_mul_right _ hp
  omega
/-! ### what is read is told again -/
mutual
theorem given_taken : ∀ v : RWire.Value, okV v = true → Rust.given (Rust.taken v) = v
  | .nothing, _ => rfl
  | .null, _ => rfl
  | .bool _, _ => rfl
  | .int _, _ => rfl
  | .big _, h => by cases h
  | .text u, _ => given_txt u
  | .octets _, h => by cases h
  | .wide _, h => by cases h
  | .list l, h => congrArg RWire.Value.list (givens_takens l h)
  | .record l, h => congrArg RWire.Value.record (givenFs_takenFs l h)
theorem givens_takens : ∀ l : List RWire.Value, okVs l = true → Rust.givenAll (Rust.takenAll l) = l
  | [], _ => rfl
  | v :: r, h => by
    have h' : (okV v && okVs r) = true := h
    rw [Bool.and_eq_true] at h'
    show Rust.given (Rust.taken v) :: Rust.givenAll (Rust.takenAll r) = _
    rw [given_taken v h'.1, givens_takens r h'.2]
theorem givenFs_takenFs : ∀ l : List (RWire.Text × RWire.Value), okFs l = true → Rust.givenFields (Rust.takenFields l) = l
  | [], _ => rfl
  | (n, v) :: r, h => by
    have h' : (okV v && okFs r) = true := h
    rw [Bool.and_eq_true] at h'
    show (oU (uO n), Rust.given (Rust.taken v)) :: Rust.givenFields (Rust.takenFields r) = _
    rw [given_taken v h'.1, givenFs_takenFs r h'.2, oU_uO]
end
mutual
theorem given_ok : ∀ p : Plain, Rust.narrow p = true → RWire.fine (Rust.given p) = true → okV (Rust.given p) = true
  | .undef, _, _ => rfl
  | .null, _, _ => rfl
  | .bool _, _, _ => rfl
  | .num _, _, h => h
  | .big _, h, _ => by cases h
  | .deep, h, _ => by cases h
  | .str u, _, _ => rfl
  | .arr l, h, f => by
    have f' : (decide _ && RWire.fineMany (Rust.givenAll l)) = true := f
    rw [Bool.and_eq_true] at f'
    exact givens_ok l h f'.2
  | .obj l, h, f => by
    have f' : (decide _ && (RWire.fineEntries (Rust.givenFields l) && RWire.apart (Rust.givenFields l))) = true := f
    rw [Bool.and_eq_true, Bool.and_eq_true] at f'
    exact givenFs_ok l h f'.2.1
theorem givens_ok : ∀ l : List Plain, Rust.narrowAll l = true → RWire.fineMany (Rust.givenAll l) = true → okVs (Rust.givenAll l) = true
  | [], _, _ => rfl
  | v :: r, h, f => by
    have h' : (Rust.narrow v && Rust.narrowAll r) = true := h
    have f' : (RWire.fine (Rust.given v) && RWire.fineMany (Rust.givenAll r)) = true := f
    rw [Bool.and_eq_true] at h' f'
    show (okV (Rust.given v) && okVs (Rust.givenAll r)) = true
    rw [Bool.and_eq_true]
    exact ⟨given_ok v h'.1 f'.1, givens_ok r h'.2 f'.2⟩
theorem givenFs_ok : ∀ l : List (Units × Plain), Rust.narrowFields l = true → RWire.fineEntries (Rust.givenFields l) = true → okFs (Rust.givenFields l) = true
  | [], _, _ => rfl
  | (n, v) :: r, h, f => by
    have h' : (Rust.narrowText n && (Rust.narrow v && Rust.narrowFields r)) = true := h
    have f' : (RWire.fineText (oU n) && (RWire.fine (Rust.given v) && RWire.fineEntries (Rust.givenFields r))) = true := f
    rw [Bool.and_eq_true, Bool.and_eq_true] at h' f'
    show (okV (Rust.given v) && okFs (Rust.givenFields r)) = true
    rw [Bool.and_eq_true]
    exact ⟨given_ok v h'.2.1 f'.2.1, givenFs_ok r h'.2.2 f'.2.2⟩
end
/-! ### what is handed in -/
theorem sum_ge {l : List Plain} {n : Nat} : l.length ≤ (l.map (Plain.size n)).sum := by
  induction l with
  | nil => exact Nat.le_refl _
  | cons x r ih =>
    rw [List.map_cons, List.sum_cons, List.length_cons]
    have : 1 ≤ Plain.size n x := by
      cases x <;> cases n <;> simp [Plain.size]
    omega
theorem size_mem {l : List Plain} {n : Nat} {x : Plain} (h : x ∈ l) : Plain.size n x ≤ (l.map (Plain.size n)).sum := by
  induction l with
  | nil => cases h
  | cons y r ih =>
    rw [List.map_cons, List.sum_cons]
    cases h with
    | head => omega
    | tail _ h => have := ih h; omega
theorem arg_ok {v : RWire.Value} (h : okV v = true) (hs : Plain.shallow 8 (Rust.taken v) = true) (hz : Plain.size 8 (Rust.taken v) ≤ 3000) : argOk v := by
  refine ⟨h, fun l e => ?_, fun u e => ?_⟩
  · subst e
    have hz : ((Rust.takenAll l).map (Plain.size 7)).sum + 1 ≤ 3000 := hz
    have hs : (Rust.takenAll l).all (Plain.shallow 7) = true := hs
    have := sum_ge (l := Rust.takenAll l) (n := 7)
    rw [takenAll_map, List.length_map] at this
    rw [takenAll_map] at hz hs
    refine ⟨by omega, fun x hx m e => ?_⟩
    subst e
    have h2 : Plain.shallow 7 (Rust.taken (.record m)) = true := List.all_eq_true.mp hs _ (List.mem_map_of_mem hx)
    have h3 : (decide ((Rust.takenFields m).length ≤ R7256f.Spec.keysMost) && R7256f.Spec.distinctNames ((Rust.takenFields m).map (·.1)) && (Rust.takenFields m).all (fun f => !R7256f.Spec.digitName f.1) && (Rust.takenFields m).all fun f => Plain.shallow 6 f.2) = true := h2
    rw [Bool.and_eq_true, Bool.and_eq_true, Bool.and_eq_true, decide_eq_true_iff, takenFields_map, List.length_map] at h3
    have h4 : m.length ≤ 100 := h3.1.1.1
    omega
  · subst e
    have hz : (uO u).length + 1 ≤ 3000 := hz
    rw [List.length_map] at hz
    omega
theorem fits_arg {l : List RWire.Value} (h : okVs l = true) (hf : R7256f.Spec.fits (Rust.takenAll l) = true) : ∀ v ∈ l, argOk v := fun v hv => by
  unfold R7256f.Spec.fits at hf
  rw [Bool.and_eq_true, decide_eq_true_iff, takenAll_map] at hf
  refine arg_ok (okVs_mem h v hv) (List.all_eq_true.mp hf.1 _ (List.mem_map_of_mem hv)) (Nat.le_trans (size_mem (List.mem_map_of_mem hv)) hf.2)
/-! ### what is read is sound -/
theorem ofK_all (l : List RWire.Value) (h : Rust.ofKinds l = true) : RWire.noBigMany l = true ∧ RWire.noOctetsMany l = true ∧ RWire.noWideMany l = true := by
  have h' : ((false || RWire.noBigMany l) && (false || RWire.noOctetsMany l) && (false || RWire.noWideMany l)) = true := h
  rw [Bool.false_or, Bool.false_or, Bool.false_or, Bool.and_eq_true, Bool.and_eq_true] at h'
  exact ⟨h'.1.1, h'.1.2, h'.2⟩
def Kd (v : RWire.Value) : Prop := RWire.noBig v = true ∧ RWire.noOctets v = true ∧ RWire.noWide v = true
def Kds (l : List RWire.Value) : Prop := RWire.noBigMany l = true ∧ RWire.noOctetsMany l = true ∧ RWire.noWideMany l = true
def KdFs (l : List (RWire.Text × RWire.Value)) : Prop := RWire.noBigEntries l = true ∧ RWire.noOctetsEntries l = true ∧ RWire.noWideEntries l = true
theorem kds_cons {v : RWire.Value} {r : List RWire.Value} (h : Kds (v :: r)) : Kd v ∧ Kds r := by
  obtain ⟨h1, h2, h3⟩ := h
  have h1 : (RWire.noBig v && RWire.noBigMany r) = true := h1
  have h2 : (RWire.noOctets v && RWire.noOctetsMany r) = true := h2
  have h3 : (RWire.noWide v && RWire.noWideMany r) = true := h3
  rw [Bool.and_eq_true] at h1 h2 h3
  exact ⟨⟨h1.1, h2.1, h3.1⟩, h1.2, h2.2, h3.2⟩
theorem kdFs_cons {e : RWire.Text × RWire.Value} {r : List (RWire.Text × RWire.Value)} (h : KdFs (e :: r)) : Kd e.2 ∧ KdFs r := by
  obtain ⟨h1, h2, h3⟩ := h
  have h1 : (RWire.noBig e.2 && RWire.noBigEntries r) = true := h1
  have h2 : (RWire.noOctets e.2 && RWire.noOctetsEntries r) = true := h2
  have h3 : (RWire.noWide e.2 && RWire.noWideEntries r) = true := h3
  rw [Bool.and_eq_true] at h1 h2 h3
  exact ⟨⟨h1.1, h2.1, h3.1⟩, h1.2, h2.2, h3.2⟩
theorem many_ok {f : List UInt8 → Option (RWire.Value × List UInt8)} (hf : ∀ r v b, f r = some (v, b) → Kd v → okV v = true) : ∀ (n : Nat) (r : List UInt8) (l : List RWire.Value) (b : List UInt8), RWire.readMany f n r = some (l, b) → Kds l → okVs l = true
  | 0, r, l, b, h, _ => by
    cases h
    rfl
  | n + 1, r, l, b, h, k => by
    obtain ⟨x, l', r', h1, h2, h3⟩ := readMany_next h
    subst h3
    obtain ⟨k1, k2⟩ := kds_cons k
    show (okV x && okVs l') = true
    rw [hf _ _ _ h1 k1, many_ok hf n r' l' b h2 k2]
    rfl
theorem entries_ok {f : List UInt8 → Option (RWire.Value × List UInt8)} (hf : ∀ r v b, f r = some (v, b) → Kd v → okV v = true) : ∀ (n : Nat) (r : List UInt8) (l : List (RWire.Text × RWire.Value)) (b : List UInt8), RWire.readMany (RWire.readEntry f) n r = some (l, b) → KdFs l → okFs l = true
  | 0, r, l, b, h, _ => by
    cases h
    rfl
  | n + 1, r, l, b, h, k => by
    obtain ⟨x, l', r', h1, h2, h3⟩ := readMany_next h
    subst h3
    obtain ⟨k1, k2⟩ := kdFs_cons k
    obtain ⟨m, _, e2⟩ := readEntry_is h1
    show (okV x.2 && okFs l') = true
    rw [hf _ _ _ e2 k1, entries_ok hf n r' l' b h2 k2]
    rfl
theorem readF_ok : ∀ (d : Nat) (r : List UInt8) (v : RWire.Value) (b : List UInt8), RWire.readF d r = some (v, b) → Kd v → okV v = true
  | 0, r, v, b, h, _ => by cases h
  | d + 1, [], v, b, h, _ => by cases h
  | d + 1, k :: r, v, b, h, kd => by
    have h : RWire.readKind (RWire.readF d) k.toNat r = some (v, b) := h
    unfold RWire.readKind at h
    split at h
    · cases h; rfl
    · cases h; rfl
    · cases h; rfl
    · cases h; rfl
    · obtain ⟨n, _, e, q⟩ := readInt_is h
      subst e
      exact Nat.ble_eq.mpr q
    · have : ∃ i, v = .big i := by
        unfold RWire.readBig at h
        split at h
        · cases h
        · split at h
          · cases h
          · split at h
            · cases h
            · split at h
              · cases h
              · cases h
                exact ⟨_, rfl⟩
      obtain ⟨i, rfl⟩ := this
      cases kd.1
    · obtain ⟨u, _, rfl⟩ := readWords_is h
      rfl
    · obtain ⟨n, m, l, _, h2, rfl⟩ := readList_is h
      exact many_ok (readF_ok d) n m l b h2 kd
    · obtain ⟨n, m, l, _, h2, rfl, _⟩ := readRecord_is h
      exact entries_ok (readF_ok d) n m l b h2 kd
    · have : ∃ i, v = .octets i := by
        unfold RWire.readOctets at h
        split at h
        · cases h
        · cases h
          exact ⟨_, rfl⟩
      obtain ⟨i, rfl⟩ := this
      cases kd.2.1
    · have : ∃ i, v = .wide i := by
        unfold RWire.readWide at h
        split at h
        · cases h
        · split at h
          · cases h
          · split at h
            · cases h
              exact ⟨_, rfl⟩
            · cases h
      obtain ⟨i, rfl⟩ := this
      cases kd.2.2
    · cases h
/-- a request's parts -/
theorem request_is {b : List UInt8} {door : Nat} {l : List RWire.Value} (h : RWire.readRequest b = some (door, l)) (hk : Rust.ofKinds l = true) :
    ∃ n r1 r2, RWire.readNum 2 b = some (door, r1) ∧ RWire.readNum 1 r1 = some (n, r2) ∧ RWire.readMany (RWire.readF 32) n r2 = some (l, []) ∧ okVs l = true := by
  match b, h with
  | x :: y :: n :: r, h =>
    have h : (match RWire.readArgs n.toNat r with
      | none => none
      | some l => some (x.toNat + 256 * y.toNat, l)) = some (door, l) := h
    cases e : RWire.readArgs n.toNat r with
    | none => rw [e] at h; cases h
    | some l' =>
      rw [e] at h
      cases h
      unfold RWire.readArgs at e
      have e2 : RWire.readMany (RWire.readF 32) n.toNat r = some (l, []) := by
        split at e
        · rename_i l2 e3
          cases e
          exact e3
        · cases e
      refine ⟨n.toNat, n :: r, r, ?_, ?_, e2, many_ok (readF_ok 32) _ _ _ _ e2 (ofK_all l hk)⟩
      · show some (x.toNat + 256 * (y.toNat + 256 * 0), n :: r) = _
        rw [Nat.mul_zero, Nat.add_zero]
      · show some (n.toNat + 256 * 0, r) = _
        rw [Nat.mul_zero, Nat.add_zero]
end Tm
namespace Tm
open Td PySem PySem.Spec Tw
open R7256f.Spec (Units units Plain)
/-! ### how a call ends -/
abbrev Res := Except (Int × Str) RWire.Value
def toOut (K : Frag) : Res → Out
  | .ok v => .ok (sh K (valD v))
  | .error e => .err e.1 e.2
def resNum (n : Str) (b : RWire.Value) (f : Nat → RWire.Value) : Res := match countM b 1000000000 with
  | none => .error (2, numS n 1000000000)
  | some m => .ok (f m)
def resItems (p : Pipe) (b : RWire.Value) : Res := match itemsM b with
  | none => .error (1, itemsS)
  | some l => .ok (.list (cutW (Tl.pwin p l.length) l))
def resPipe (door : Nat) (p : Pipe) (b : RWire.Value) : Res := match door with
  | 1 => .ok (.text (fmtO p))
  | 2 => resItems p b
  | 3 => resNum "length" b fun n => winV (Tl.pwin p n)
  | 4 => .ok (pipeV (Tl.nOf p).steps)
  | 7 => resNum "size" b fun n => lenV (R7256f.Spec.lengthsOf (Tl.nOf p).form n)
  | 8 => resNum "index" b fun n => lenV (R7256f.Spec.lengthsWith (Tl.nOf p).form n)
  | 9 => resNum "count" b fun n => readV p n
  | _ => .ok (.int (R7256f.Spec.capacity (Tl.nOf p).form))
def resParsed (o : Option Pipe) : Res := match o with
  | none => .error (1, "the text is not a pipeline")
  | some p => if p.length ≤ 20 then .ok (pipeV p) else .error (1, fewS "pipeline")
def resTwo (a b : RWire.Value) (f : Pipe → Pipe → RWire.Value) : Res := match pipeM a with
  | none => .error (1, fewS "first")
  | some p => match pipeM b with
    | none => .error (1, fewS "second")
    | some q => .ok (f p q)
def resOn (door : Nat) (a b : RWire.Value) : Res := match door with
  | 0 => resParsed (parseM a)
  | 5 => resTwo a b diffV
  | 6 => resTwo a b fun p q => .bool (commM p q)
  | d => match pipeM a with
    | none => .error (1, fewS "pipeline")
    | some p => resPipe d p b
theorem out_num (K : Frag) (n : Str) (b : RWire.Value) (f : Nat → RWire.Value) : outNum K n b f = toOut K (resNum n b f) := by
  unfold outNum resNum
  cases countM b 1000000000 <;> rfl
theorem out_items (K : Frag) (p : Pipe) (b : RWire.Value) : outApplied K p (itemsM b) = toOut K (resItems p b) := by
  unfold outApplied resItems
  cases itemsM b <;> rfl
theorem out_reading (K : Frag) (p : Pipe) (b : RWire.Value) : outReading K p b = toOut K (resNum "count" b fun n => readV p n) := by
  unfold outReading resNum
  cases countM b 1000000000 <;> rfl
theorem out_pipe (K : Frag) (door : Nat) (hd : door ≤ 10) (p : Pipe) (hp : ∀ s ∈ p, s.count ≤ 1000000) (b : RWire.Value) : outPipe K door p b = toOut K (resPipe door p b) := by
  match door, hd with
  | 0, _ => rfl
  | 1, _ =>
    show Out.ok _ = Out.ok _
    rw [fmt_text p hp]
  | 2, _ => exact out_items K p b
  | 3, _ => exact out_num K _ b _
  | 4, _ => rfl
  | 5, _ => rfl
  | 6, _ => rfl
  | 7, _ => exact out_num K _ b _
  | 8, _ => exact out_num K _ b _
  | 9, _ => exact out_reading K p b
  | 10, _ => rfl
theorem out_par (K : Frag) (o : Option Pipe) : outParsed K o = toOut K (resParsed o) := by
  unfold outParsed resParsed
  cases o with
  | none => rfl
  | some p =>
    show (if p.length ≤ 20 then _ else _) = toOut K (if p.length ≤ 20 then _ else _)
    by_cases h : p.length ≤ 20
    · rw [if_pos h, if_pos h]; rfl
    · rw [if_neg h, if_neg h]; rfl
theorem out_rest (K : Frag) (door : Nat) (hd : door ≤ 10) (a b : RWire.Value) : (match pipeM a with
    | none => Out.err 1 (fewS "pipeline")
    | some p => outPipe K door p b) = toOut K (match pipeM a with
      | none => .error (1, fewS "pipeline")
      | some p => resPipe door p b) := by
  cases e : pipeM a with
  | none => rfl
  | some p => exact out_pipe K _ hd p (pipe_ok e).2 b
theorem out_on (K : Frag) (door : Nat) (hd : door ≤ 10) (a b : RWire.Value) : outOn K door a b = toOut K (resOn door a b) := by
  match door, hd with
  | 0, _ => exact out_par K _
  | 5, _ =>
    show outCompared K a b = toOut K (resTwo a b diffV)
    unfold outCompared resTwo
    cases pipeM a with
    | none => rfl
    | some p => cases pipeM b <;> rfl
  | 6, _ =>
    show outCommuting K a b = toOut K (resTwo a b fun p q => .bool (commM p q))
    unfold outCommuting resTwo
    cases pipeM a with
    | none => rfl
    | some p => cases pipeM b <;> rfl
  | 1, h => exact out_rest K 1 h a b
  | 2, h => exact out_rest K 2 h a b
  | 3, h => exact out_rest K 3 h a b
  | 4, h => exact out_rest K 4 h a b
  | 7, h => exact out_rest K 7 h a b
  | 8, h => exact out_rest K 8 h a b
  | 9, h => exact out_rest K 9 h a b
  | 10, h => exact out_rest K 10 h a b
/-! ### messages -/
/-- a message in octets -/
structure MsgIs (m : Str) (u : List UInt8) : Prop where
  tl : TL.tl m = u.map UInt8.toNat
  few : u.length ≤ 1000
  asc : m.cps.all (· < 128) = true
theorem MsgIs.codes {m : Str} {u : List UInt8} (h : MsgIs m u) : codesS m = .tuple (octD u) := codes_of_tl h.tl
theorem MsgIs.len {m : Str} {u : List UInt8} (h : MsgIs m u) : m.cps.toList.length = u.length := by
  rw [show m.cps.toList = _ from h.tl, List.length_map]
theorem m_text : MsgIs "the text is not a pipeline" (oU (units "the text is not a pipeline")) := ⟨by decide +kernel, by decide +kernel, by decide +kernel⟩
theorem m_items : MsgIs itemsS (oU (units "items must be a list of at most 1000 texts and numbers")) := ⟨by decide +kernel, by decide +kernel, by decide +kernel⟩
theorem m_few1 : MsgIs (fewS "pipeline") (oU (units (R7256f.Spec.notPipeline "pipeline"))) := ⟨by decide +kernel, by decide +kernel, by decide +kernel⟩
theorem m_few2 : MsgIs (fewS "first") (oU (units (R7256f.Spec.notPipeline "first"))) := ⟨by decide +kernel, by decide +kernel, by decide +kernel⟩
theorem m_few3 : MsgIs (fewS "second") (oU (units (R7256f.Spec.notPipeline "second"))) := ⟨by decide +kernel, by decide +kernel, by decide +kernel⟩
def numMsg (n : String) : String := n ++ " must be an integer from " ++ toString 0 ++ " to " ++ toString R7256f.Spec.maxLength
theorem m_num1 : MsgIs (numS "length" 1000000000) (oU (units (numMsg "length"))) := ⟨by decide +kernel, by decide +kernel, by decide +kernel⟩
theorem m_num2 : MsgIs (numS "size" 1000000000) (oU (units (numMsg "size"))) := ⟨by decide +kernel, by decide +kernel, by decide +kernel⟩
theorem m_num3 : MsgIs (numS "index" 1000000000) (oU (units (numMsg "index"))) := ⟨by decide +kernel, by decide +kernel, by decide +kernel⟩
theorem m_num4 : MsgIs (numS "count" 1000000000) (oU (units (numMsg "count"))) := ⟨by decide +kernel, by decide +kernel, by decide +kernel⟩
/-- how the specification tells it -/
inductive Says : Res → RWire.Answer → Prop
  | ok (v : RWire.Value) : Says (.ok v) (.returned v)
  | err (o : Nat) (m : Str) (u : List UInt8) (h : MsgIs m u) (ho : o = 1 ∨ o = 2) : Says (.error ((o : Int), m)) (.refused o u)
theorem says_ok {v : RWire.Value} {p : Plain} (h : Rust.given p = v) : Says (.ok v) (Rust.answerOf (R7256f.Spec.answer id (.ok p))) := by
  subst h
  exact .ok _
theorem says_wrong {m : Str} {s : String} (h : MsgIs m (oU (units s))) : Says (.error (1, m)) (Rust.answerOf (R7256f.Spec.answer id (R7256f.Spec.kind s))) := .err 1 m _ h (.inl rfl)
theorem says_beyond {m : Str} {s : String} (h : MsgIs m (oU (units s))) : Says (.error (2, m)) (Rust.answerOf (R7256f.Spec.answer id (R7256f.Spec.bad s))) := .err 2 m _ h (.inr rfl)
theorem arg_pipe {v : RWire.Value} (h : okV v = true) (n : String) : R7256f.Spec.pipelineArgument n (Rust.taken v) = match pipeM v with
    | some p => .ok p
    | none => R7256f.Spec.kind (R7256f.Spec.notPipeline n) := by
  unfold R7256f.Spec.pipelineArgument
  rw [pipe_is v h]
  cases pipeM v <;> rfl
theorem arg_num {v : RWire.Value} (h : okV v = true) (n : String) : R7256f.Spec.integerArgument n 0 R7256f.Spec.maxLength (Rust.taken v) = match countM v 1000000000 with
    | some k => .ok k
    | none => R7256f.Spec.bad (numMsg n) := by
  unfold R7256f.Spec.integerArgument
  rw [count_is v h]
  show (match countM v 1000000000 with
    | some n => _
    | none => _) = _
  cases countM v 1000000000 <;> rfl
theorem arg_items {v : RWire.Value} (h : okV v = true) : R7256f.Spec.itemsArgument (Rust.taken v) = match itemsM v with
    | some l => .ok (l.map Rust.taken)
    | none => R7256f.Spec.kind "items must be a list of at most 1000 texts and numbers" := by
  unfold R7256f.Spec.itemsArgument
  rw [items_is v h]
  cases itemsM v <;> rfl
theorem given_list {l : List RWire.Value} (h : ∀ v ∈ l, okV v = true) : Rust.given (.arr (l.map Rust.taken)) = .list l := by
  show RWire.Value.list (Rust.givenAll (l.map Rust.taken)) = _
  rw [givenAll_map, List.map_map]
  refine congrArg _ ((List.map_congr_left fun v hv => ?_).trans (List.map_id l))
  exact given_taken v (h v hv)
theorem cut_mem {α : Type} {w : Nat × Nat} {l : List α} {x : α} (h : x ∈ cutW w l) : x ∈ l := List.mem_of_mem_take (List.mem_of_mem_drop h)
theorem num_says {b : RWire.Value} (hb : okV b = true) {n : Str} {s : String} (hm : MsgIs (numS n 1000000000) (oU (units (numMsg s)))) (f : Nat → RWire.Value) (g : Nat → Plain) (hf : ∀ k, Rust.given (g k) = f k) :
    Says (resNum n b f) (Rust.answerOf (R7256f.Spec.answer id (R7256f.Spec.andThen (R7256f.Spec.integerArgument s 0 R7256f.Spec.maxLength (Rust.taken b)) fun k => .ok (g k)))) := by
  rw [arg_num hb]
  unfold resNum
  cases countM b 1000000000 with
  | none => exact says_beyond hm
  | some k => exact says_ok (hf k)
/-- a door's function -/
def specOn (door : Nat) (x y : Plain) : R7256f.Spec.Res Plain := match door with
  | 0 => R7256f.Spec.parseFn x
  | 1 => R7256f.Spec.formatFn x
  | 2 => R7256f.Spec.applyFn x y
  | 3 => R7256f.Spec.windowFn x y
  | 4 => R7256f.Spec.normalizeFn x
  | 5 => R7256f.Spec.compareFn x y
  | 6 => R7256f.Spec.commuteFn x y
  | 7 => R7256f.Spec.lengthsOfFn x y
  | 8 => R7256f.Spec.lengthsWithFn x y
  | 9 => R7256f.Spec.readingFn x y
  | _ => R7256f.Spec.capacityFn x
theorem pipe_says {a : RWire.Value} (ha : okV a = true) (r : Pipe → Res) (f : Pipe → R7256f.Spec.Res Plain) (h : ∀ p, pipeM a = some p → Says (r p) (Rust.answerOf (R7256f.Spec.answer id (f p)))) :
    Says (match pipeM a with
      | none => .error (1, fewS "pipeline")
      | some p => r p) (Rust.answerOf (R7256f.Spec.answer id (R7256f.Spec.andThen (R7256f.Spec.pipelineArgument "pipeline" (Rust.taken a)) f))) := by
  rw [arg_pipe ha]
  cases e : pipeM a with
  | none => exact says_wrong m_few1
  | some p => exact h p e
theorem two_says {a b : RWire.Value} (ha : okV a = true) (hb : okV b = true) (r : Pipe → Pipe → RWire.Value) (f : Pipe → Pipe → Plain) (h : ∀ p q, Rust.given (f p q) = r p q) :
    Says (resTwo a b r) (Rust.answerOf (R7256f.Spec.answer id (R7256f.Spec.andThen (R7256f.Spec.pipelineArgument "first" (Rust.taken a)) fun p => R7256f.Spec.andThen (R7256f.Spec.pipelineArgument "second" (Rust.taken b)) fun q => .ok (f p q)))) := by
  rw [arg_pipe ha, arg_pipe hb]
  unfold resTwo
  cases pipeM a with
  | none => exact says_wrong m_few2
  | some p =>
    cases pipeM b with
    | none => exact says_wrong m_few3
    | some q => exact says_ok (h p q)
theorem on_says {door : Nat} (hd : door ≤ 10) {a b : RWire.Value} (ha : okV a = true) (hb : okV b = true) : Says (resOn door a b) (Rust.answerOf (R7256f.Spec.answer id (specOn door (Rust.taken a) (Rust.taken b)))) := by
  match door, hd with
  | 0, _ =>
    show Says (resParsed (parseM a)) (Rust.answerOf (R7256f.Spec.answer id (R7256f.Spec.parseFn (Rust.taken a))))
    cases a with
    | text u =>
      show Says (resParsed (pipelineM u)) (Rust.answerOf (R7256f.Spec.answer id (match R7256f.Spec.pipelineOf (uO u) with
        | none => R7256f.Spec.kind "the text is not a pipeline"
        | some p => if p.length ≤ R7256f.Spec.maxSteps then .ok (R7256f.Spec.pipelineValue p) else R7256f.Spec.kind (R7256f.Spec.notPipeline "pipeline"))))
      rw [pipeline_is]
      cases pipelineM u with
      | none => exact says_wrong m_text
      | some p =>
        show Says (if p.length ≤ 20 then .ok (pipeV p) else .error (1, fewS "pipeline")) (Rust.answerOf (R7256f.Spec.answer id (if p.length ≤ 20 then .ok (R7256f.Spec.pipelineValue p) else R7256f.Spec.kind (R7256f.Spec.notPipeline "pipeline"))))
        by_cases h : p.length ≤ 20
        · rw [if_pos h, if_pos h]
          exact says_ok (given_pipe p)
        · rw [if_neg h, if_neg h]
          exact says_wrong m_few1
    | wide u => cases ha
    | octets u => cases ha
    | _ => exact says_wrong m_text
  | 1, _ =>
    refine pipe_says ha _ _ fun p hp => says_ok ?_
    show Rust.givenText (R7256f.Spec.formatText p) = .text (fmtO p)
    rfl
  | 2, _ =>
    refine pipe_says ha _ (fun p => R7256f.Spec.andThen (R7256f.Spec.itemsArgument (Rust.taken b)) fun l => .ok (.arr (R7256f.Spec.run p l))) fun p hp => ?_
    show Says (resItems p b) _
    rw [arg_items hb]
    unfold resItems
    cases e : itemsM b with
    | none => exact says_wrong m_items
    | some l =>
      refine says_ok (p := .arr (R7256f.Spec.run p (l.map Rust.taken))) ?_
      rw [Tl.run_is, List.length_map, ← List.map_take, ← List.map_drop]
      refine given_list fun v hv => ?_
      have hl : okVs l = true := by
        cases b with
        | list m =>
          have e : (if m.length ≤ 1000 ∧ m.all isItem = true then some m else none) = some l := e
          by_cases c : m.length ≤ 1000 ∧ m.all isItem = true
          · rw [if_pos c] at e
            cases e
            exact hb
          · rw [if_neg c] at e
            cases e
        | _ => cases e
      exact okVs_mem hl v (cut_mem hv)
  | 3, _ => exact pipe_says ha _ (fun p => R7256f.Spec.andThen (R7256f.Spec.integerArgument "length" 0 R7256f.Spec.maxLength (Rust.taken b)) fun n => .ok (R7256f.Spec.windowValue (R7256f.Spec.windowOf (R7256f.Spec.formOf p) n))) fun p hp => num_says hb m_num1 _ _ fun k => (given_win _).trans (by rw [Tl.pwin_is])
  | 4, _ =>
    refine pipe_says ha _ _ fun p hp => says_ok ?_
    rw [given_pipe]
    unfold R7256f.Spec.normalize Tl.NP.steps
    rw [Tl.nOf_form]
  | 5, _ => exact two_says ha hb _ (fun p q => R7256f.Spec.orNull (R7256f.Spec.differenceValue (R7256f.Spec.formOf p) (R7256f.Spec.formOf q)) (R7256f.Spec.difference (R7256f.Spec.formOf p) (R7256f.Spec.formOf q))) given_diff
  | 6, _ => exact two_says ha hb _ (fun p q => .bool (R7256f.Spec.sameForm (R7256f.Spec.formOf (p ++ q)) (R7256f.Spec.formOf (q ++ p)))) fun p q => (show RWire.Value.bool _ = .bool _ by rw [comm_is])
  | 7, _ => exact pipe_says ha _ (fun p => R7256f.Spec.andThen (R7256f.Spec.integerArgument "size" 0 R7256f.Spec.maxLength (Rust.taken b)) fun n => .ok (R7256f.Spec.orNull R7256f.Spec.lengthsValue (R7256f.Spec.lengthsOf (R7256f.Spec.formOf p) n))) fun p hp => num_says hb m_num2 _ _ fun k => (given_len _).trans (by rw [Tl.nOf_form])
  | 8, _ => exact pipe_says ha _ (fun p => R7256f.Spec.andThen (R7256f.Spec.integerArgument "index" 0 R7256f.Spec.maxLength (Rust.taken b)) fun n => .ok (R7256f.Spec.orNull R7256f.Spec.lengthsValue (R7256f.Spec.lengthsWith (R7256f.Spec.formOf p) n))) fun p hp => num_says hb m_num3 _ _ fun k => (given_len _).trans (by rw [Tl.nOf_form])
  | 9, _ => exact pipe_says ha _ (fun p => R7256f.Spec.andThen (R7256f.Spec.integerArgument "count" 0 R7256f.Spec.maxLength (Rust.taken b)) fun n => .ok (R7256f.Spec.readingValue (R7256f.Spec.formOf p) n)) fun p hp => num_says hb m_num4 _ _ fun k => given_read p k
  | 10, _ =>
    refine pipe_says ha _ _ fun p hp => says_ok ?_
    show RWire.Value.int _ = .int _
    rw [Tl.nOf_form]
    rfl
end Tm
namespace Tm
open Td PySem PySem.Spec Tw
open R7256f.Spec (Units units Plain)
/-! ### streams -/
def PhOk (t : R7256f.Spec.Stream) (s : StrW) : Prop := match t.phase with
  | .fresh => s.st = false ∧ s.cl = false ∧ s.items = [] ∧ t.given = 0 ∧ s.ret = 0
  | .running => s.st = true ∧ s.cl = false ∧ Tl.Given t.form s.items.length t.given s.ret
  | .over => s.cl = true
structure SR (s : StrW) (t : R7256f.Spec.Stream) : Prop where
  form : t.form = s.o.form
  wf : Tl.WFo s.o.form
  items : t.items = s.items.map Rust.taken
  ok : ∀ v ∈ s.items, okV v = true
  ph : PhOk t s
  turns : s.o.turns.length ≤ 20
theorem given_result (v : Plain) (d : Bool) : Rust.given (R7256f.Spec.resultValue v d) = answerV (Rust.given v) d := by
  unfold R7256f.Spec.resultValue
  rw [given_rec]
  show RWire.Value.record [(oU (units "value"), Rust.given v), (oU (units "done"), .bool d)] = _
  rw [u_value, u_done, oU_uO, oU_uO]
  rfl
theorem given_thrown (v : Plain) : Rust.given (R7256f.Spec.record [("thrown", v)]) = .record [(thrownO, Rust.given v)] := by
  rw [given_rec]
  show RWire.Value.record [(oU (units "thrown"), Rust.given v)] = _
  rw [u_thrown, oU_uO]
theorem upL_is (s : StrW) (u : Nat × Nat) : upL s u = (s.items.take u.2).drop (max u.1 s.ret) := by
  unfold upL
  rw [List.drop_take]
theorem sr_new {p : Pipe} (hp : p.length ≤ 20) : SR (newS 0 0 (Tl.nOf p)) ⟨R7256f.Spec.formOf p, [], 0, .fresh⟩ :=
  ⟨(Tl.nOf_form p).symm, Tl.nOf_wf p, rfl, fun v h => (by cases h), ⟨rfl, rfl, rfl, rfl, rfl⟩, Nat.le_trans (Tl.nOf_len p) hp⟩
theorem part_map (w : Nat × Nat) (l : List RWire.Value) : R7256f.Spec.part w (l.map Rust.taken) = (R7256f.Spec.part w l).map Rust.taken := by
  unfold R7256f.Spec.part
  rw [List.map_drop, List.map_take]
theorem sr_next {s : StrW} {t : R7256f.Spec.Stream} (h : SR s t) {v : RWire.Value} (hv : okV v = true) : SR (nextW s v).1 (R7256f.Spec.nextItem t (Rust.taken v)).1 ∧ Rust.given (R7256f.Spec.nextItem t (Rust.taken v)).2 = (nextW s v).2 := by
  obtain ⟨p, la, o, its, ret, st, cl⟩ := s
  obtain ⟨f, tits, g, ph⟩ := t
  obtain ⟨h1, h2, h3, h4, h5, h6⟩ := h
  have h1 : f = o.form := h1
  have h3 : tits = its.map Rust.taken := h3
  have h2 : Tl.WFo o.form := h2
  subst h1 h3
  cases ph with
  | fresh =>
    obtain ⟨a, b, c, d, e⟩ : st = false ∧ cl = false ∧ its = [] ∧ g = 0 ∧ ret = 0 := h5
    subst a b c d e
    exact ⟨⟨rfl, h2, rfl, h4, ⟨rfl, rfl, Tl.given_zero _⟩, h6⟩, given_result _ _⟩
  | running =>
    obtain ⟨a, b, hg⟩ : st = true ∧ cl = false ∧ Tl.Given o.form its.length g ret := h5
    subst a b
    have hn : (its ++ [v]).length = its.length + 1 := by rw [List.length_append]; rfl
    obtain ⟨n1, n2⟩ := Tl.given_next h2 (its := its ++ [v]) hn hg
    have er : (Tl.readingM o (its.length + 1)).1 = R7256f.Spec.certain o.form (its.length + 1) := by rw [Tl.reading_is h2]
    have ei : its.map Rust.taken ++ [Rust.taken v] = (its ++ [v]).map Rust.taken := by rw [List.map_append]; rfl
    have okA : ∀ x ∈ its ++ [v], okV x = true := fun x hx => by
      rcases List.mem_append.mp hx with hx | hx
      · exact h4 x hx
      · rw [List.mem_singleton.mp hx]
        exact hv
    -- what is told
    have el : (its.map Rust.taken ++ [Rust.taken v]).length = its.length + 1 := by rw [ei, List.length_map, hn]
    have out : R7256f.Spec.pending ⟨o.form, its.map Rust.taken ++ [Rust.taken v], g, .running⟩ (R7256f.Spec.certain o.form (its.map Rust.taken ++ [Rust.taken v]).length) = (upL ⟨p, la, o, its ++ [v], ret, true, false⟩ (Tl.readingM o (its.length + 1)).1).map Rust.taken := by
      show R7256f.Spec.part _ (its.map Rust.taken ++ [Rust.taken v]) = _
      rw [el, ei, part_map, n1, upL_is, er]
    have e1 : nextW ⟨p, la, o, its, ret, true, false⟩ v = (upW ⟨p, la, o, its ++ [v], ret, true, false⟩ (Tl.readingM o (its.length + 1)).1, answerV (.list (upL ⟨p, la, o, its ++ [v], ret, true, false⟩ (Tl.readingM o (its.length + 1)).1)) false) := rfl
    have e2 : R7256f.Spec.nextItem ⟨o.form, its.map Rust.taken, g, .running⟩ (Rust.taken v) = (⟨o.form, its.map Rust.taken ++ [Rust.taken v], g + (R7256f.Spec.pending ⟨o.form, its.map Rust.taken ++ [Rust.taken v], g, .running⟩ (R7256f.Spec.certain o.form (its.map Rust.taken ++ [Rust.taken v]).length)).length, .running⟩,
      R7256f.Spec.resultValue (.arr (R7256f.Spec.pending ⟨o.form, its.map Rust.taken ++ [Rust.taken v], g, .running⟩ (R7256f.Spec.certain o.form (its.map Rust.taken ++ [Rust.taken v]).length))) false) := rfl
    rw [e1, e2, out]
    refine ⟨⟨rfl, h2, ei, okA, ⟨rfl, rfl, ?_⟩, h6⟩, ?_⟩
    · show Tl.Given o.form (its ++ [v]).length _ (if 0 < (Tl.readingM o (its.length + 1)).1.2 then max ret (Tl.readingM o (its.length + 1)).1.2 else ret)
      rw [hn, List.length_map, upL_is, er]
      show Tl.Given o.form (its.length + 1) (g + (((its ++ [v]).take _).drop (max _ ret)).length) _
      rw [← n1]
      exact n2
    · show Rust.given (R7256f.Spec.resultValue _ false) = answerV _ false
      rw [given_result, given_list]
      intro x hx
      rw [upL_is] at hx
      exact okA x (List.mem_of_mem_take (List.mem_of_mem_drop hx))
  | over =>
    have a : cl = true := h5
    subst a
    exact ⟨⟨rfl, h2, rfl, h4, rfl, h6⟩, given_result _ _⟩
theorem sr_shut {s : StrW} {t : R7256f.Spec.Stream} (h : SR s t) (r : Nat) : SR { s with cl := true, ret := r } (R7256f.Spec.closed t) := ⟨h.form, h.wf, h.items, h.ok, rfl, h.turns⟩
theorem sr_run {s : StrW} {t : R7256f.Spec.Stream} (h : SR s t) (e : t.phase = .running) : (s.st && !s.cl) = true ∧ Rust.given (.arr (R7256f.Spec.pending t (R7256f.Spec.windowOf t.form t.items.length))) = .list (upL { s with cl := true } (s.o.win s.items.length)) := by
  have ph := h.ph
  unfold PhOk at ph
  rw [e] at ph
  obtain ⟨a, b, g⟩ : s.st = true ∧ s.cl = false ∧ Tl.Given t.form s.items.length t.given s.ret := ph
  refine ⟨by rw [a, b]; rfl, ?_⟩
  have e1 : R7256f.Spec.pending t (R7256f.Spec.windowOf t.form t.items.length) = (upL { s with cl := true } (s.o.win s.items.length)).map Rust.taken := by
    unfold R7256f.Spec.pending
    rw [h.items, List.length_map, part_map, Tl.given_end g, upL_is, Tl.win_is h.wf, h.form]
  rw [e1, given_list]
  intro x hx
  rw [upL_is] at hx
  exact h.ok x (List.mem_of_mem_take (List.mem_of_mem_drop hx))
theorem sr_idle {s : StrW} {t : R7256f.Spec.Stream} (h : SR s t) (e : t.phase ≠ .running) : (s.st && !s.cl) = false := by
  have ph := h.ph
  unfold PhOk at ph
  cases q : t.phase with
  | fresh =>
    rw [q] at ph
    obtain ⟨a, _⟩ : s.st = false ∧ _ := ph
    rw [a]
    rfl
  | running => exact absurd q e
  | over =>
    rw [q] at ph
    have a : s.cl = true := ph
    rw [a, Bool.not_true, Bool.and_false]
theorem returnItem_idle {t : R7256f.Spec.Stream} (e : t.phase ≠ .running) (x : Plain) : R7256f.Spec.returnItem t x = (R7256f.Spec.closed t, R7256f.Spec.resultValue x true) := by
  unfold R7256f.Spec.returnItem
  cases q : t.phase with
  | running => exact absurd q e
  | fresh => rfl
  | over => rfl
theorem throwItem_idle {t : R7256f.Spec.Stream} (e : t.phase ≠ .running) (x : Plain) : R7256f.Spec.throwItem t x = (R7256f.Spec.closed t, R7256f.Spec.record [("thrown", x)]) := by
  unfold R7256f.Spec.throwItem
  cases q : t.phase with
  | running => exact absurd q e
  | fresh => rfl
  | over => rfl
theorem sr_end {s : StrW} {t : R7256f.Spec.Stream} (h : SR s t) {v : RWire.Value} (hv : okV v = true) : SR (endW s v false).1 (R7256f.Spec.returnItem t (Rust.taken v)).1 ∧ Rust.given (R7256f.Spec.returnItem t (Rust.taken v)).2 = (endW s v false).2 := by
  unfold endW
  by_cases e : t.phase = .running
  · obtain ⟨a, b⟩ := sr_run h e
    rw [if_pos a]
    have er : R7256f.Spec.returnItem t (Rust.taken v) = (R7256f.Spec.closed t, R7256f.Spec.resultValue (.arr (R7256f.Spec.pending t (R7256f.Spec.windowOf t.form t.items.length))) true) := by
      unfold R7256f.Spec.returnItem
      rw [e]
    rw [er]
    refine ⟨sr_shut h _, ?_⟩
    show Rust.given (R7256f.Spec.resultValue _ true) = _
    rw [given_result, b]
  · have a := sr_idle h e
    rw [if_neg (by rw [a]; exact Bool.false_ne_true)]
    rw [returnItem_idle e]
    refine ⟨sr_shut h _, ?_⟩
    show Rust.given (R7256f.Spec.resultValue _ true) = _
    rw [given_result, given_taken v hv]
    rfl
theorem sr_fail {s : StrW} {t : R7256f.Spec.Stream} (h : SR s t) {v : RWire.Value} (hv : okV v = true) : SR (endW s v true).1 (R7256f.Spec.throwItem t (Rust.taken v)).1 ∧ Rust.given (R7256f.Spec.throwItem t (Rust.taken v)).2 = (endW s v true).2 := by
  unfold endW
  by_cases e : t.phase = .running
  · obtain ⟨a, b⟩ := sr_run h e
    rw [if_pos a]
    have er : R7256f.Spec.throwItem t (Rust.taken v) = (R7256f.Spec.closed t, R7256f.Spec.resultValue (.arr (R7256f.Spec.pending t (R7256f.Spec.windowOf t.form t.items.length))) true) := by
      unfold R7256f.Spec.throwItem
      rw [e]
    rw [er]
    refine ⟨sr_shut h _, ?_⟩
    show Rust.given (R7256f.Spec.resultValue _ true) = _
    rw [given_result, b]
  · have a := sr_idle h e
    rw [if_neg (by rw [a]; exact Bool.false_ne_true)]
    rw [throwItem_idle e]
    refine ⟨sr_shut h _, ?_⟩
    show Rust.given (R7256f.Spec.record [("thrown", Rust.taken v)]) = _
    rw [given_thrown, given_taken v hv]
    rfl
/-! ### the desk -/
def resDesk (D : DeskW) (door : Nat) (a b : RWire.Value) : DeskW × Res :=
  if door < 11 then (D, resOn door a b)
  else if door = 11 then match pipeM b with
    | none => (D, .error (1, fewS "pipeline"))
    | some p => ({ D.put (slotV a) (newS 0 0 (Tl.nOf p)) with n := D.n + 1 }, .ok .nothing)
  else match D.m (slotV a) with
    | none => (D, .error (0, ""))
    | some s => if door = 12 then (D.put (slotV a) (nextW s b).1, .ok (nextW s b).2) else (D.put (slotV a) (endW s b (decide (door = 14))).1, .ok (endW s b (decide (door = 14))).2)
def outW (K : Frag) : DeskW × Res → OutW DeskW
  | (D, .ok v) => .ok (sh K (valD v)) D
  | (D, .error e) => .err e.1 e.2 D
theorem outDesk_is (K : Frag) (D : DeskW) (door : Nat) (a b : RWire.Value) : outDesk K D door a b = outW K (resDesk D door a b) := by
  unfold outDesk resDesk
  by_cases h : door < 11
  · rw [if_pos h, if_pos h, out_on K door (by omega)]
    cases resOn door a b <;> rfl
  · rw [if_neg h, if_neg h]
    by_cases h2 : door = 11
    · rw [if_pos h2, if_pos h2]
      cases pipeM b <;> rfl
    · rw [if_neg h2, if_neg h2]
      cases D.m (slotV a) with
      | none => rfl
      | some s =>
        show (if door = 12 then _ else _) = outW K (if door = 12 then _ else _)
        by_cases h3 : door = 12
        · rw [if_pos h3, if_pos h3]; rfl
        · rw [if_neg h3, if_neg h3]; rfl
def ORel : Option StrW → Option R7256f.Spec.Stream → Prop
  | none, none => True
  | some s, some t => SR s t
  | _, _ => False
structure DR (k : Nat) (D : DeskW) (W : R7256f.Spec.World) : Prop where
  len : W.streams.length = 2
  rel : ∀ q : Nat, q < 2 → ORel (D.m (q : Int)) (R7256f.Spec.streamAt W q)
  n : D.n ≤ k
  its : ∀ (q : Int) (s : StrW), D.m q = some s → s.items.length ≤ k
theorem dr_start (p : Addr) : DR 0 ⟨p, 0, fun _ => none⟩ R7256f.Spec.World.start := ⟨rfl, fun q h => by
  match q, h with
  | 0, _ => exact trivial
  | 1, _ => exact trivial, Nat.le_refl _, fun q s h => (by cases h)⟩
theorem DR.mono {k k' : Nat} {D : DeskW} {W : R7256f.Spec.World} (h : DR k D W) (hk : k ≤ k') : DR k' D W := ⟨h.len, h.rel, Nat.le_trans h.n hk, fun q s e => Nat.le_trans (h.its q s e) hk⟩
theorem dr_put {k n : Nat} {D : DeskW} {W : R7256f.Spec.World} (h : DR k D W) {q : Nat} (hq : q < 2) {s : StrW} {t : R7256f.Spec.Stream} (hs : SR s t) (hl : s.items.length ≤ k) (hn : n ≤ k) : DR k { D.put (q : Int) s with n := n } (R7256f.Spec.setStream W q t) := by
  refine ⟨?_, fun r hr => ?_, hn, fun r u e => ?_⟩
  · show (W.streams.set q (some t)).length = 2
    rw [List.length_set, h.len]
  · show ORel (if (r : Int) = (q : Int) then some s else D.m r) ((W.streams.set q (some t)).getD r none)
    by_cases e : r = q
    · subst e
      rw [if_pos rfl, List.getD_eq_getElem?_getD, List.getElem?_set_self (by rw [h.len]; exact hr)]
      exact hs
    · rw [if_neg (by omega), List.getD_eq_getElem?_getD, List.getElem?_set_ne (Ne.symm e), ← List.getD_eq_getElem?_getD]
      exact h.rel r hr
  · have e : (if r = (q : Int) then some s else D.m r) = some u := e
    by_cases c : r = (q : Int)
    · rw [if_pos c] at e
      cases e
      exact hl
    · rw [if_neg c] at e
      exact h.its r u e
theorem next_items (s : StrW) (v : RWire.Value) : (nextW s v).1.items.length ≤ s.items.length + 1 := by
  unfold nextW
  split
  · exact Nat.le_succ _
  · split
    · exact Nat.le_succ _
    · show (s.items ++ [v]).length ≤ _
      rw [List.length_append]
      exact Nat.le_refl _
theorem end_items (s : StrW) (v : RWire.Value) (b : Bool) : (endW s v b).1.items.length = s.items.length := by
  unfold endW
  split <;> rfl
/-! ### one request -/
theorem steps_few {p : Pipe} (h : p.length ≤ 20) : (Tl.nOf p).steps.length ≤ 40 := by
  have := Tl.nOf_len p
  unfold Tl.NP.steps R7256f.Spec.stepsOf
  by_cases e : (Tl.nOf p).emp = true
  · rw [Tl.form_dead e]
    show 1 ≤ 40
    decide
  · rw [Tl.form_live (by simpa using e)]
    simp only [List.length_append, List.length_map]
    split <;> split <;> simp <;> omega
theorem on_pre {K : Frag} {door : Nat} (hd : door ≤ 10) {a b : RWire.Value} (ha : argOk a) (hb : argOk b) : (S_on K ⟨door, a, b⟩).pre := by
  refine ⟨hd, ha, hb, fun l e => (hb.2.1 l e).1, fun p hp => ?_⟩
  obtain ⟨h1, h2⟩ := pipe_ok hp
  refine ⟨Nat.lt_of_le_of_lt (fmt_len p h2 h1) ?_, steps_few h1⟩
  rw [sizeLine_eq]
  decide
end Tm
namespace Tm
open Td PySem PySem.Spec Tw
open R7256f.Spec (Units units Plain)
def nth (l : List RWire.Value) (i : Nat) : RWire.Value := l.getD i .nothing
theorem nth_taken (l : List RWire.Value) (i : Nat) : Rust.argAt (Rust.takenAll l) i = Rust.taken (nth l i) := by
  unfold Rust.argAt nth
  rw [takenAll_map, List.getD_eq_getElem?_getD, List.getD_eq_getElem?_getD, List.getElem?_map]
  cases l[i]? <;> rfl
theorem nth_ok {l : List RWire.Value} (h : okVs l = true) (i : Nat) : okV (nth l i) = true := by
  unfold nth
  rw [List.getD_eq_getElem?_getD]
  cases e : l[i]? with
  | none => rfl
  | some v => exact okVs_mem h v (List.mem_of_getElem? e)
theorem nth_out {l : List RWire.Value} {i : Nat} (h : l.length ≤ i) : nth l i = .nothing := by
  unfold nth
  rw [List.getD_eq_getElem?_getD, List.getElem?_eq_none h]
  rfl
theorem nothing_arg : argOk .nothing := ⟨rfl, fun l e => (by cases e), fun u e => (by cases e)⟩
theorem int_arg {i : Int} (h : okV (.int i) = true) : argOk (.int i) := ⟨h, fun l e => (by cases e), fun u e => (by cases e)⟩
theorem fits_one {v : RWire.Value} (h : okV v = true) (hf : R7256f.Spec.fits [Rust.taken v] = true) : argOk v :=
  fits_arg (l := [v]) (by show (okV v && true) = true; rw [h]; rfl) hf v List.mem_cons_self
theorem fits_two {v u : RWire.Value} (h : okV v = true) (h2 : okV u = true) (hf : R7256f.Spec.fits [Rust.taken v, Rust.taken u] = true) : argOk v ∧ argOk u := by
  have f := fits_arg (l := [v, u]) (by show (okV v && (okV u && true)) = true; rw [h, h2]; rfl) hf
  exact ⟨f v List.mem_cons_self, f u (List.mem_cons_of_mem _ List.mem_cons_self)⟩
theorem taking_is {n : Nat} {l : List Plain} {o : Option R7256f.Spec.Call} {c : R7256f.Spec.Call} (h : Rust.taking n l o = some c) : l.length ≤ n ∧ o = some c := by
  unfold Rust.taking at h
  by_cases q : Nat.ble l.length n = true
  · rw [if_pos q] at h
    exact ⟨Nat.le_of_ble_eq_true q, h⟩
  · rw [if_neg q] at h
    cases h
theorem slot_is {v : RWire.Value} (hv : okV v = true) {q : Nat} (h : Rust.slotOf 1 (Rust.taken v) = some q) : v = .int (q : Int) ∧ q < 2 := by
  cases v with
  | int i =>
    have h : (if decide (0 ≤ i) && Nat.ble i.toNat 1 then some i.toNat else none) = some q := h
    by_cases c : (decide (0 ≤ i) && Nat.ble i.toNat 1) = true
    · rw [if_pos c] at h
      cases h
      rw [Bool.and_eq_true, decide_eq_true_iff] at c
      have := Nat.le_of_ble_eq_true c.2
      refine ⟨?_, by omega⟩
      congr 1
      omega
    · rw [if_neg c] at h
      cases h
  | wide _ => cases hv
  | octets _ => cases hv
  | _ => cases h
theorem rel_some {k : Nat} {D : DeskW} {W : R7256f.Spec.World} (R : DR k D W) {q : Nat} (hq : q < 2) {t : R7256f.Spec.Stream} (h : R7256f.Spec.streamAt W q = some t) : ∃ s, D.m (q : Int) = some s ∧ SR s t := by
  have r := R.rel q hq
  rw [h] at r
  cases e : D.m (q : Int) with
  | none => rw [e] at r; exact r.elim
  | some s =>
    rw [e] at r
    exact ⟨s, rfl, r⟩
theorem says_fail {m : Str} {s : String} (h : MsgIs m (oU (units s))) : Says (.error (1, m)) (Rust.answerOf (.fail (R7256f.Spec.wrong s))) := .err 1 m _ h (.inl rfl)
/-- what a request asks of the program, and how it ends -/
structure Req (K : Frag) (k : Nat) (D : DeskW) (oct : List UInt8) (W2 : R7256f.Spec.World) (ans : RWire.Answer) (door : Nat) (l : List RWire.Value) : Prop where
  rd : ∃ n r1 r2, RWire.readNum 2 oct = some (door, r1) ∧ RWire.readNum 1 r1 = some (n, r2) ∧ RWire.readMany (RWire.readF 32) n r2 = some (l, [])
  few : l.length ≤ 2
  ok : okVs l = true
  pre : (S_call K ⟨D, door, nth l 0, nth l 1⟩).pre
  dr : DR (k + 1) (resDesk D door (nth l 0) (nth l 1)).1 W2
  says : Says (resDesk D door (nth l 0) (nth l 1)).2 ans
theorem on_req (K : Frag) {k : Nat} {D : DeskW} {W : R7256f.Spec.World} (R : DR k D W) (hk : k < 90000) {door : Nat} (hd : door ≤ 10) {a b : RWire.Value} (ha : argOk a) (hb : argOk b) :
    (S_call K ⟨D, door, a, b⟩).pre ∧ DR (k + 1) (resDesk D door a b).1 W ∧ Says (resDesk D door a b).2 (Rust.answerOf (R7256f.Spec.answer id (specOn door (Rust.taken a) (Rust.taken b)))) := by
  have e : resDesk D door a b = (D, resOn door a b) := if_pos (by omega)
  rw [e]
  have := R.n
  exact ⟨⟨by show door ≤ 14; omega, by show D.n < 100000; omega, ha, hb, fun _ => on_pre hd ha hb, fun h => by have h : 11 ≤ door := h; omega, fun h => by have h : 12 ≤ door := h; omega⟩, R.mono (Nat.le_succ _), on_says hd ha.1 hb.1⟩
theorem req_step (K : Frag) {k : Nat} {D : DeskW} {W : R7256f.Spec.World} {oct : List UInt8} {c : R7256f.Spec.Call} (R : DR k D W) (hk : k < 90000) (ha : Rust.asked oct = some c) (hc : Rust.canBe W c = true) :
    ∃ door l, Req K k D oct (R7256f.Spec.step W c).1 (Rust.answerOf (R7256f.Spec.step W c).2) door l := by
  unfold Rust.asked at ha
  cases er : RWire.readRequest oct with
  | none => rw [er] at ha; cases ha
  | some dl =>
    obtain ⟨door, l⟩ := dl
    rw [er] at ha
    have ha : (if Rust.ofKinds l then Rust.callOf door (Rust.takenAll l) else none) = some c := ha
    by_cases hk2 : Rust.ofKinds l = true
    · rw [if_pos hk2] at ha
      obtain ⟨n, r1, r2, g1, g2, g3, hok⟩ := request_is er hk2
      have hcw : R7256f.Spec.within W c = true := by
        unfold Rust.canBe Rust.room at hc
        rw [Bool.and_true] at hc
        exact hc
      have hw : Rust.calls0 door (Rust.takenAll l) = some c := by
        unfold Rust.callOf at ha
        split at ha
        · exact ha
        · cases ha
      have o0 := nth_ok hok 0
      have o1 := nth_ok hok 1
      have tl : (Rust.takenAll l).length = l.length := by rw [takenAll_map, List.length_map]
      -- a door about a pipeline, one argument
      have one : ∀ (d : Nat), d ≤ 10 → l.length ≤ 1 → R7256f.Spec.fits [Rust.argAt (Rust.takenAll l) 0] = true → (S_call K ⟨D, d, nth l 0, nth l 1⟩).pre ∧ DR (k + 1) (resDesk D d (nth l 0) (nth l 1)).1 W ∧ Says (resDesk D d (nth l 0) (nth l 1)).2 (Rust.answerOf (R7256f.Spec.answer id (specOn d (Rust.taken (nth l 0)) (Rust.taken (nth l 1))))) := fun d hd hl hf => by
        rw [nth_taken] at hf
        have hb : nth l 1 = .nothing := nth_out hl
        exact on_req K R hk hd (fits_one o0 hf) (by rw [hb]; exact nothing_arg)
      have two : ∀ (d : Nat), d ≤ 10 → R7256f.Spec.fits [Rust.argAt (Rust.takenAll l) 0, Rust.argAt (Rust.takenAll l) 1] = true → (S_call K ⟨D, d, nth l 0, nth l 1⟩).pre ∧ DR (k + 1) (resDesk D d (nth l 0) (nth l 1)).1 W ∧ Says (resDesk D d (nth l 0) (nth l 1)).2 (Rust.answerOf (R7256f.Spec.answer id (specOn d (Rust.taken (nth l 0)) (Rust.taken (nth l 1))))) := fun d hd hf => by
        rw [nth_taken, nth_taken] at hf
        obtain ⟨f1, f2⟩ := fits_two o0 o1 hf
        exact on_req K R hk hd f1 f2
      have fin : ∀ {d : Nat} {W2 : R7256f.Spec.World} {an : RWire.Answer}, door = d → l.length ≤ 2 → (S_call K ⟨D, d, nth l 0, nth l 1⟩).pre ∧ DR (k + 1) (resDesk D d (nth l 0) (nth l 1)).1 W2 ∧ Says (resDesk D d (nth l 0) (nth l 1)).2 an → ∃ door l, Req K k D oct W2 an door l := fun {d W2 an} e hl h => by
        subst e
        exact ⟨_, l, ⟨n, r1, r2, g1, g2, g3⟩, hl, hok, h.1, h.2.1, h.2.2⟩
      have hn := R.n
      -- a slot's door
      have slot : ∀ {f : Nat → R7256f.Spec.Call}, (Rust.slotAt (Rust.takenAll l) 0 1).bind (fun s0 => some (f s0)) = some c → ∃ q : Nat, q < 2 ∧ nth l 0 = .int (q : Int) ∧ c = f q := fun {f} h => by
        unfold Rust.slotAt at h
        rw [nth_taken] at h
        cases e : Rust.slotOf 1 (Rust.taken (nth l 0)) with
        | none => rw [e] at h; cases h
        | some q =>
          rw [e] at h
          obtain ⟨x1, x2⟩ := slot_is o0 e
          exact ⟨q, x2, x1, (Option.some.inj h).symm⟩
      have sl_ok : ∀ q : Nat, nth l 0 = .int (q : Int) → argOk (nth l 0) := fun q e => by
        rw [e] at o0 ⊢
        exact int_arg o0
      have strm : ∀ {q : Nat} {x : Plain}, (R7256f.Spec.hasStream W q && R7256f.Spec.isScalar x && R7256f.Spec.fits [x]) = true → ∃ t, R7256f.Spec.streamAt W q = some t ∧ R7256f.Spec.fits [x] = true := fun {q x} h => by
        rw [Bool.and_eq_true, Bool.and_eq_true] at h
        have h1 := h.1.1
        unfold R7256f.Spec.hasStream at h1
        rw [Bool.and_eq_true] at h1
        obtain ⟨t, ht⟩ := Option.isSome_iff_exists.mp h1.2
        exact ⟨t, ht, h.2⟩
      match door, hw with
      | 0, hw =>
        obtain ⟨h1, h2⟩ := taking_is hw
        cases h2
        rw [tl] at h1
        have z := one 0 (by omega) h1 hcw
        refine fin rfl (by omega) ⟨z.1, z.2.1, ?_⟩
        rw [← nth_taken] at z
        exact z.2.2
      | 1, hw =>
        obtain ⟨h1, h2⟩ := taking_is hw
        cases h2
        rw [tl] at h1
        have z := one 1 (by omega) h1 hcw
        refine fin rfl (by omega) ⟨z.1, z.2.1, ?_⟩
        rw [← nth_taken] at z
        exact z.2.2
      | 2, hw =>
        obtain ⟨h1, h2⟩ := taking_is hw
        cases h2
        rw [tl] at h1
        have z := two 2 (by omega) hcw
        refine fin rfl h1 ⟨z.1, z.2.1, ?_⟩
        rw [← nth_taken, ← nth_taken] at z
        exact z.2.2
      | 3, hw =>
        obtain ⟨h1, h2⟩ := taking_is hw
        cases h2
        rw [tl] at h1
        have z := two 3 (by omega) hcw
        refine fin rfl h1 ⟨z.1, z.2.1, ?_⟩
        rw [← nth_taken, ← nth_taken] at z
        exact z.2.2
      | 4, hw =>
        obtain ⟨h1, h2⟩ := taking_is hw
        cases h2
        rw [tl] at h1
        have z := one 4 (by omega) h1 hcw
        refine fin rfl (by omega) ⟨z.1, z.2.1, ?_⟩
        rw [← nth_taken] at z
        exact z.2.2
      | 5, hw =>
        obtain ⟨h1, h2⟩ := taking_is hw
        cases h2
        rw [tl] at h1
        have z := two 5 (by omega) hcw
        refine fin rfl h1 ⟨z.1, z.2.1, ?_⟩
        rw [← nth_taken, ← nth_taken] at z
        exact z.2.2
      | 6, hw =>
        obtain ⟨h1, h2⟩ := taking_is hw
        cases h2
        rw [tl] at h1
        have z := two 6 (by omega) hcw
        refine fin rfl h1 ⟨z.1, z.2.1, ?_⟩
        rw [← nth_taken, ← nth_taken] at z
        exact z.2.2
      | 7, hw =>
        obtain ⟨h1, h2⟩ := taking_is hw
        cases h2
        rw [tl] at h1
        have z := two 7 (by omega) hcw
        refine fin rfl h1 ⟨z.1, z.2.1, ?_⟩
        rw [← nth_taken, ← nth_taken] at z
        exact z.2.2
      | 8, hw =>
        obtain ⟨h1, h2⟩ := taking_is hw
        cases h2
        rw [tl] at h1
        have z := two 8 (by omega) hcw
        refine fin rfl h1 ⟨z.1, z.2.1, ?_⟩
        rw [← nth_taken, ← nth_taken] at z
        exact z.2.2
      | 9, hw =>
        obtain ⟨h1, h2⟩ := taking_is hw
        cases h2
        rw [tl] at h1
        have z := two 9 (by omega) hcw
        refine fin rfl h1 ⟨z.1, z.2.1, ?_⟩
        rw [← nth_taken, ← nth_taken] at z
        exact z.2.2
      | 10, hw =>
        obtain ⟨h1, h2⟩ := taking_is hw
        cases h2
        rw [tl] at h1
        have z := one 10 (by omega) h1 hcw
        refine fin rfl (by omega) ⟨z.1, z.2.1, ?_⟩
        rw [← nth_taken] at z
        exact z.2.2
      | 11, hw =>
        obtain ⟨h1, h2⟩ := taking_is hw
        rw [tl] at h1
        obtain ⟨q, hq, e0, rfl⟩ := slot h2
        have hcw : (decide (q < R7256f.Spec.slots) && R7256f.Spec.fits [Rust.argAt (Rust.takenAll l) 1]) = true := hcw
        rw [Bool.and_eq_true, nth_taken] at hcw
        refine fin rfl h1 ⟨⟨by show 11 ≤ 14; decide, by show D.n < 100000; omega, sl_ok q e0, fits_one o1 hcw.2, fun h => absurd (show 11 < 11 from h) (by decide), fun _ => ⟨q, e0⟩, fun h => absurd (show 12 ≤ 11 from h) (by decide)⟩, ?_⟩
        have es : R7256f.Spec.step W (.stream1 q (Rust.argAt (Rust.takenAll l) 1)) = R7256f.Spec.orThrow W (R7256f.Spec.newStreamFn (Rust.taken (nth l 1))) fun s => (R7256f.Spec.setStream W q s, R7256f.Spec.undef) := by rw [nth_taken]; rfl
        rw [es]
        unfold R7256f.Spec.newStreamFn
        rw [arg_pipe o1]
        have er : resDesk D 11 (nth l 0) (nth l 1) = match pipeM (nth l 1) with
          | none => (D, .error (1, fewS "pipeline"))
          | some p => ({ D.put (slotV (nth l 0)) (newS 0 0 (Tl.nOf p)) with n := D.n + 1 }, .ok .nothing) := rfl
        rw [er]
        cases ep : pipeM (nth l 1) with
        | none => exact ⟨R.mono (Nat.le_succ _), says_fail m_few1⟩
        | some p =>
          refine ⟨?_, .ok _⟩
          rw [e0]
          exact dr_put (R.mono (Nat.le_succ _)) hq (sr_new (pipe_ok ep).1) (Nat.zero_le _) (by omega)
      | 12, hw =>
        obtain ⟨h1, h2⟩ := taking_is hw
        rw [tl] at h1
        obtain ⟨q, hq, e0, rfl⟩ := slot h2
        obtain ⟨t, ht, hf⟩ := strm hcw
        rw [nth_taken] at hf
        obtain ⟨s, hs, sr⟩ := rel_some R hq ht
        have hi := R.its _ s hs
        have hm : D.m (slotV (nth l 0)) = some s := by rw [e0]; exact hs
        refine fin rfl h1 ⟨⟨by show 12 ≤ 14; decide, by show D.n < 100000; omega, sl_ok q e0, fits_one o1 hf, fun h => absurd (show 12 < 11 from h) (by decide), fun _ => ⟨q, e0⟩, fun _ => ⟨s, hm, by omega, Nat.le_trans sr.turns (by decide)⟩⟩, ?_⟩
        have es : R7256f.Spec.step W (.next1 q (Rust.argAt (Rust.takenAll l) 1)) = (R7256f.Spec.setStream W q (R7256f.Spec.nextItem t (Rust.taken (nth l 1))).1, .ret (R7256f.Spec.nextItem t (Rust.taken (nth l 1))).2) := by
          rw [nth_taken]
          show R7256f.Spec.withStream W q _ = _
          unfold R7256f.Spec.withStream
          rw [ht]
        have er : resDesk D 12 (nth l 0) (nth l 1) = (D.put (slotV (nth l 0)) (nextW s (nth l 1)).1, .ok (nextW s (nth l 1)).2) := by
          unfold resDesk
          rw [if_neg (by decide), if_neg (by decide), hm]
          rfl
        rw [es, er, e0]
        obtain ⟨k1, k2⟩ := sr_next sr o1
        refine ⟨dr_put (n := D.n) (R.mono (Nat.le_succ _)) hq k1 (Nat.le_trans (next_items _ _) (by omega)) (by omega), ?_⟩
        show Says (.ok _) (.returned (Rust.given _))
        rw [k2]
        exact .ok _
      | 13, hw =>
        obtain ⟨h1, h2⟩ := taking_is hw
        rw [tl] at h1
        obtain ⟨q, hq, e0, rfl⟩ := slot h2
        obtain ⟨t, ht, hf⟩ := strm hcw
        rw [nth_taken] at hf
        obtain ⟨s, hs, sr⟩ := rel_some R hq ht
        have hi := R.its _ s hs
        have hm : D.m (slotV (nth l 0)) = some s := by rw [e0]; exact hs
        refine fin rfl h1 ⟨⟨by show 13 ≤ 14; decide, by show D.n < 100000; omega, sl_ok q e0, fits_one o1 hf, fun h => absurd (show 13 < 11 from h) (by decide), fun _ => ⟨q, e0⟩, fun _ => ⟨s, hm, by omega, Nat.le_trans sr.turns (by decide)⟩⟩, ?_⟩
        have es : R7256f.Spec.step W (.return1 q (Rust.argAt (Rust.takenAll l) 1)) = (R7256f.Spec.setStream W q (R7256f.Spec.returnItem t (Rust.taken (nth l 1))).1, .ret (R7256f.Spec.returnItem t (Rust.taken (nth l 1))).2) := by
          rw [nth_taken]
          show R7256f.Spec.withStream W q _ = _
          unfold R7256f.Spec.withStream
          rw [ht]
        have er : resDesk D 13 (nth l 0) (nth l 1) = (D.put (slotV (nth l 0)) (endW s (nth l 1) false).1, .ok (endW s (nth l 1) false).2) := by
          unfold resDesk
          rw [if_neg (by decide), if_neg (by decide), hm]
          rfl
        rw [es, er, e0]
        obtain ⟨k1, k2⟩ := sr_end sr o1
        refine ⟨dr_put (n := D.n) (R.mono (Nat.le_succ _)) hq k1 (by rw [end_items]; omega) (by omega), ?_⟩
        show Says (.ok _) (.returned (Rust.given _))
        rw [k2]
        exact .ok _
      | 14, hw =>
        obtain ⟨h1, h2⟩ := taking_is hw
        rw [tl] at h1
        obtain ⟨q, hq, e0, rfl⟩ := slot h2
        obtain ⟨t, ht, hf⟩ := strm hcw
        rw [nth_taken] at hf
        obtain ⟨s, hs, sr⟩ := rel_some R hq ht
        have hi := R.its _ s hs
        have hm : D.m (slotV (nth l 0)) = some s := by rw [e0]; exact hs
        refine fin rfl h1 ⟨⟨by show 14 ≤ 14; decide, by show D.n < 100000; omega, sl_ok q e0, fits_one o1 hf, fun h => absurd (show 14 < 11 from h) (by decide), fun _ => ⟨q, e0⟩, fun _ => ⟨s, hm, by omega, Nat.le_trans sr.turns (by decide)⟩⟩, ?_⟩
        have es : R7256f.Spec.step W (.throw1 q (Rust.argAt (Rust.takenAll l) 1)) = (R7256f.Spec.setStream W q (R7256f.Spec.throwItem t (Rust.taken (nth l 1))).1, .ret (R7256f.Spec.throwItem t (Rust.taken (nth l 1))).2) := by
          rw [nth_taken]
          show R7256f.Spec.withStream W q _ = _
          unfold R7256f.Spec.withStream
          rw [ht]
        have er : resDesk D 14 (nth l 0) (nth l 1) = (D.put (slotV (nth l 0)) (endW s (nth l 1) true).1, .ok (endW s (nth l 1) true).2) := by
          unfold resDesk
          rw [if_neg (by decide), if_neg (by decide), hm]
          rfl
        rw [es, er, e0]
        obtain ⟨k1, k2⟩ := sr_fail sr o1
        refine ⟨dr_put (n := D.n) (R.mono (Nat.le_succ _)) hq k1 (by rw [end_items]; omega) (by omega), ?_⟩
        show Says (.ok _) (.returned (Rust.given _))
        rw [k2]
        exact .ok _
      | d + 15, hw => cases hw
    · rw [if_neg hk2] at ha
      cases ha
end Tm
namespace Tw
open PySem PySem.Spec PyProof.Rows L2
/-- an object that is new is left out -/
theorem grow_hide {T : List NTab} {F H F1 H1 : Hp} {p : Addr} {u : HO} (g : Grow T F H F1 H1) (np : H p = none) (f1 : F1 p = none) (h1 : H1 p = some u) (cu : Chg u) : Grow T F H F1 (cut H1 fun a => a = p) :=
  ⟨g.f, ex_cut g.ex (fun a ha => by rw [ha]; exact f1), fun a o h n => by
    rw [cut_of (S := fun a => a = p) (fun z => by rw [z, np] at h; cases h)]
    exact g.h a o h n, g.own, fun t => tabs_cut (fun a ha => by rw [ha]; exact ⟨u, h1, cu⟩) (g.tab t), fun a h => by
    by_cases z : a = p
    · rw [z]
      exact np
    · rw [cut_of (S := fun a => a = p) z] at h
      exact g.free a h⟩
end Tw
namespace Td
open PySem PySem.Spec PyProof.Rows L2 Tw
section
variable {T : List NTab} {CR : Addr}
def tMkR (K : Frag) (CR : Addr) (T : List NTab) (γ : Gm) (b : List UInt8) : TE := fun σ H Q => ∃ F, St0 T γ σ F H ∧ ∀ p F2 H2, Grow T F H F2 H2 → H p = none → rqAt K CR ⟨p, b, b⟩ (fun a => a = p) F2 H2 → Q (.ref p) H2
/-- Request(..) -/
theorem pe_mkR {X : Cx} {γ : Gm} {j : Nat} {b : List UInt8} {e : Expr} {pos q1 : Pos} (M : ∃ fi fd, Mk X.K CR fi ∧ FnOk X.prog X.w X.K X.mg X.base CX0 1 fi fd ["self", "octets"] (spO T X.K CR (S_rinit X.K)) ∧ L2.Binds X.K fd ["self", "octets"] []) (hm : X.mg "Request" = some (.ref CR)) (hr : Room j X.A) (hk : 2 ≤ j)
    (ha : Ev X T γ e (sh X.K (.list (octD b)))) (hg : Gl X "Request" := by rfl) (he : starEach [e] X.env = (false, eval e X.env) :: starEach [] X.env := by rfl) (hpl : (backTo pos (starEach [] X.env)).any (·.1) = false := by rfl) : PE X (.Call (.Name "Request" q1) [e] [] pos) (tMkR X.K CR T γ b) := by
  obtain ⟨fi, fd, m1, m2, m3⟩ := M
  refine PE.imp (pe_make m1 m2 (hr.mono hk) hg hm m3 .nil pass0 (eva_cons ha eva_nil he) (by decide) he hpl) fun σ H Q ⟨F, s, q⟩ => ⟨F, s, fun vs F1 H1 g1 p1 x dx nx nd ne => ?_⟩
  show spO T X.K CR (S_rinit X.K) (.ref x :: (vs ++ [])) _ _ _
  rw [List.append_nil]
  have ga := Grow.raw (T := T) (o := .own x) g1.ex nd
  have nx' : upd H1 dx (.own x) x = none := by rw [upd_ne (Ne.symm ne)]; exact nx
  have gb := ga.trans (Grow.raw (T := T) (o := .ins CR dx []) ga.ex nx')
  have fx : F1 x = none := g1.ex.free nx
  refine ⟨b, F1, H1, x, vs, rfl, trivial, ⟨gb, nx, fx, dx, [], x, upd_same, .inl rfl, fx, nx, rfl⟩, gb.tab (g1.tab s.tab), p1, fun v F2 H2 o r => ⟨r, ?_⟩⟩
  obtain ⟨dx2, vs2, t, k1, k2, k3, k4, k5⟩ := o.ob
  obtain ⟨v1, r1, rfl, f1, v2, r2, rfl, f2, e5⟩ := k5
  have e5 : r2 = [] := e5
  have f2 : v2 = .int 0 := f2
  subst e5 f2
  refine q x F2 H2 (g1.trans o.g) (g1.free _ nx) ⟨fun _ => Iff.rfl, o.fp, List.suffix_refl _, dx2, v1, ?_, f1⟩
  rw [Nat.sub_self]
  exact k1
/-- the door, and a list of its own of the arguments -/
def tWh (T : List NTab) (K : Frag) (γ : Gm) (door : Nat) (ds : List PyData) : TE := fun σ H Q => ∃ F, St0 T γ σ F H ∧ ∀ t a xs F2 H2, Grow T F H F2 H2 → H t = none → H a = none → F2 t = none → F2 a = none → H2 t = some (.tup [.int door, .ref a]) → H2 a = some (.lst xs) → DqAll K F2 ds xs → Q (.ref t) H2
theorem pe_whole {X : Cx} {γ : Gm} {pl : Sem Bool} {j n door : Nat} {b r1 r2 : List UInt8} {l : List RWire.Value} {e : Expr} {pos q1 q2 apos : Pos} (M : ∃ fi fd, Mk X.K CR fi ∧ FnOk X.prog X.w X.K X.mg X.base CX0 1 fi fd ["self", "octets"] (spO T X.K CR (S_rinit X.K)) ∧ L2.Binds X.K fd ["self", "octets"] []) (hm : X.mg "Request" = some (.ref CR)) (hr : Room j X.A) (hk : 36 ≤ j)
    (m_whole : Mt X.prog X.w X.K X.mg X.base CX0 36 CR "whole" ["self"] (spWhole X.K CR T)) (hb : b.length ≤ 100000) (h1 : RWire.readNum 2 b = some (door, r1)) (h2 : RWire.readNum 1 r1 = some (n, r2)) (h3 : RWire.readMany (RWire.readF 32) n r2 = some (l, [])) (hok : okVs l = true)
    (ha : Ev X T γ e (sh X.K (.list (octD b)))) (hg : Gl X "Request" := by rfl) (he : starEach [e] X.env = (false, eval e X.env) :: starEach [] X.env := by rfl) (hpl : (backTo q2 (starEach [] X.env)).any (·.1) = false := by rfl)
    (ht : eval (.Call (.Attribute (.Call (.Name "Request" q1) [e] [] q2) "whole" apos) [] [] pos) X.env = (do
      let ov ← eval (.Call (.Name "Request" q1) [e] [] q2) X.env
      standAt apos.atName
      let (f, first) ← holding [ov] (getMethod ov "whole" pl)
      callWith pos f first (backTo pos (starEach [] X.env)) (backToKw pos (keywordEach [] X.env))) := by rfl) :
    PE X (.Call (.Attribute (.Call (.Name "Request" q1) [e] [] q2) "whole" apos) [] [] pos) (tWh T X.K γ door (l.map valD)) := by
  obtain ⟨f, fd, m1, m2, m3, m4⟩ := m_whole
  refine PE.imp (pe_meth0 (pl := pl) (pe_mkR M hm hr (by omega) ha hg he hpl) m2 m3 m1 (hr.mono hk) m4 .nil pass0 ht) fun σ H Q ⟨F, s, q⟩ => ⟨F, s, fun p F1 H1 g1 np ra => ?_⟩
  obtain ⟨z1, z2, z3, dx, v, z4, z5⟩ := id ra
  refine ⟨p, dx, _, rfl, z4, rfl, ?_⟩
  show spWhole X.K CR T (.ref p :: ([] ++ [])) H1 Q (fun _ _ _ => False)
  have gh := grow_hide g1 np z2 z4 trivial
  refine ⟨⟨⟨p, b, b⟩, door, n, r1, r2, l⟩, F1, fun a => a = p, ⟨List.suffix_refl _, hb, h1, h2, h3, hok⟩, ra, gh.ex, gh.tab s.tab, rfl, fun t a xs F2 H2 S2 g2 ra2 k1 k2 k3 k4 k5 k6 k7 => ?_⟩
  have gg := gw_drop (gh.trans g2)
  exact q t a xs F2 H2 gg (gh.free _ k1) (gh.free _ k2) k3 k4 (cut_at k5).2 (cut_at k6).2 k7
/-- a, b = .., b a list of its own -/
theorem wj_whole {X : Cx} {W : Wd} {c : Cfg} {γ : Gm} {w : W.Om} {po : WPo W} {e tg : Expr} {pos : Pos} (i j : Nat) {door : Nat} {ds : List PyData} (he : PE X e (tWh c.T X.K γ door ds)) (hG : PG X tg (gPr X.K i j)) (hn : noOwn ((γ.set i (.sh (sh X.K (.int door)))).set j .un) = true) (h : po.nx ((γ.set i (.sh (sh X.K (.int door)))).set j (.own ds)) w)
    (hs : swapsWithSole [tg] e pos.line X.env = pure false := by rfl) (hw : swappedStores [tg] e X.env = pure none := by rfl) (h1 : (assignEach [tg] X.env).map (·.2) = [assign tg X.env] := by rfl) : WJ X W c γ w (.Assign [tg] e pos) po :=
  PS.imp (ps_asg he hG hs hw h1) fun D σ H ⟨F0, B, F, S, s, a, h1, _⟩ => ⟨F, st_whole s.s, fun t b xs F2 H2 g k1 k2 k3 k4 k5 k6 k7 => by
    have gc := gw_of a g
    have a2 := at_of a g
    have nb : ¬ S b := not_own a k2
    refine ⟨t, _, rfl, .inl (.inl k5), rfl, _, _, rfl, _, _, rfl, rfl, h1 _ _ _ F2 H2 S h ?_ a2⟩
    exact ((s.grow gc).set (P := sh X.K (.int door)) i rfl).setOwn j hn (by rw [cut_of nb]; exact k6) k4 (s.g.free _ (by rw [cut_of nb]; exact k2)) k7⟩
end
/-! ### answered -/
/-- the octets of an answer -/
inductive AnsIs : Tm.Res → List UInt8 → Prop
  | ok (v : RWire.Value) (hd : RWire.depth v ≤ 32) (ho : okV v = true) (hl : (RWire.write v).length ≤ 100000) : AnsIs (.ok v) (0 :: RWire.write v)
  | err (o : Nat) (m : Str) (u : List UInt8) (h : Tm.MsgIs m u) (ho : o = 1 ∨ o = 2) : AnsIs (.error ((o : Int), m)) (1 :: UInt8.ofNat o :: RWire.writeText u)
structure iAns where
  w : DeskW
  b : List UInt8
  door : Nat
  l : List RWire.Value
  u : List UInt8
def resA (i : iAns) : DeskW × Tm.Res := Tm.resDesk i.w i.door (Tm.nth i.l 0) (Tm.nth i.l 1)
def S_answered (K : Frag) : iAns → PrW DeskW := fun i => ⟨i.b.length ≤ 100000 ∧ (∃ n r1 r2, RWire.readNum 2 i.b = some (i.door, r1) ∧ RWire.readNum 1 r1 = some (n, r2) ∧ RWire.readMany (RWire.readF 32) n r2 = some (i.l, [])) ∧ i.l.length ≤ 2 ∧ okVs i.l = true ∧ (S_call K ⟨i.w, i.door, Tm.nth i.l 0, Tm.nth i.l 1⟩).pre ∧ AnsIs (resA i).2 i.u,
  i.w, [refTy i.w.p, sh K (.list (octD i.b))], .ok (sh K (.list (octD i.u))) (resA i).1⟩
theorem fill_is {l : List RWire.Value} (h : l.length ≤ 2) : l.map valD ++ (List.replicate ((2 : Int) - (l.map valD).length).toNat [valD .nothing]).flatten = [valD (Tm.nth l 0), valD (Tm.nth l 1)] := by
  match l, h with
  | [], _ => rfl
  | [a], _ => rfl
  | [a, b], _ => rfl
theorem noLs_rep (n : Nat) : noLs (List.replicate n [valD .nothing]).flatten = true := by
  induction n with
  | zero => rfl
  | succ n ih =>
    rw [List.replicate_succ, List.flatten_cons]
    exact noLs_app rfl ih
theorem desk_meth {K : Frag} {CD CS CN : Addr} {q : DeskW} : ∀ S F H v, (dskWd K CD CS CN).at_ q S F H → (refTy q.p).p v F → ∃ a dx fs, v = .ref a ∧ H a = some (.ins CD dx fs) ∧ fs.lookup ("call" : Str) = none := fun S F H v ⟨d, M, k⟩ hv => by
  obtain ⟨dx, ho⟩ := k.obj
  exact ⟨q.p, dx, _, hv, ho, rfl⟩
section
variable {P : Program} {w : World} {K : Frag} {mg : Str → Option Value} {base : Heap} {T : List NTab} {C CD CN CS CR : Addr}
theorem ok_answered {f : Addr} {fd : FuncData} (F : Fun K "answered" "answered" s_answered f fd) (X : Txt K mg) (R : RefC K C) (hRef : mg "Refused" = some (.ref C)) (hex : PySem.W.exmOne K (.ref C) (.ref C) = some true)
    (MR : ∃ fi fd, Mk K CR fi ∧ FnOk P w K mg base CX0 1 fi fd ["self", "octets"] (spO T K CR (S_rinit K)) ∧ L2.Binds K fd ["self", "octets"] []) (hReq : mg "Request" = some (.ref CR)) (m_whole : Mt P w K mg base CX0 36 CR "whole" ["self"] (spWhole K CR T))
    (m_call : Mt P w K mg base (CXL P w) 8 CD "call" ["self", "door", "given"] (spW (dskWd K CD CS CN) T C (S_call K))) (f_oct : Fn P w K mg base CX0 34 "octets_of" ["value"] (spF T C (S_oct K 32)))
    (t_codes : FnT P w K mg base 1 "codes_of" ["text"] (spF T C (S_codesA K))) (t_low : FnT P w K mg base 1 "low_first" ["number", "many"] (spF T C (S_low K))) :
    FnOk P w K mg base CX0 38 f fd ["desk", "octets"] (spW (dskWd K CD CS CN) T C (S_answered K)) := by
  refine def_okW (k := 37) F sc_answered (fun _ => rfl) fun i hi cdv A outer s H E hr => ?_
  obtain ⟨q, b, door, l, u⟩ := i
  obtain ⟨hb, ⟨n, r1, r2, g1, g2, g3⟩, hl, hok, hpre, hans⟩ : b.length ≤ 100000 ∧ (∃ n r1 r2, RWire.readNum 2 b = some (door, r1) ∧ RWire.readNum 1 r1 = some (n, r2) ∧ RWire.readMany (RWire.readF 32) n r2 = some (l, [])) ∧ l.length ≤ 2 ∧ okVs l = true ∧ (S_call K ⟨q, door, Tm.nth l 0, Tm.nth l 1⟩).pre ∧ AnsIs (resA ⟨q, b, door, l, u⟩).2 u := hi
  show WJs _ _ _ [.sh (refTy q.p), .sh (sh K (.list (octD b))), .un, .un, .un, .un] _ _ _
  refine wj_cons (wj_whole 2 3 (pe_whole MR hReq hr (by decide) m_whole hb g1 g2 g3 hok (ev_var 1 rfl)) (pg_two _ 2 3 rfl sc_answered.nd) rfl ?_)
  refine wj_cons (wj_extendF 3 (ds := l.map valD) rfl (evn_rep (ds := [valD .nothing]) (n := (2 : Int) - (l.map valD).length) ⟨by rw [List.length_map]; omega, by rw [List.length_map]; omega⟩ ?_ (EvN.sh (evn_lst (ds := [valD .nothing]) (eva_cons (ev_c1 X.NOTHING) eva_nil))) (ev_sub (ev_ci X.MOST_ARGUMENTS) (ev_len true X.len (ev_var 3 rfl)))) (noLs_rep _) ?_ ?_)
  · rw [List.length_map, sizeLine_eq]
    show 1 * _ ≤ _
    omega
  · rw [List.length_map, sizeLine_eq]
    simp only [List.length_flatten, List.map_replicate, List.sum_replicate_nat, List.length_cons, List.length_nil, List.length_map]
    omega
  rw [fill_is hl]
  show WJs _ _ _ [.sh (refTy q.p), .sh (sh K (.list (octD b))), .sh (sh K (.int door)), .own [valD (Tm.nth l 0), valD (Tm.nth l 1)], .un, .un] _ _ _
  refine wj_share 3 rfl (wj_last ?_)
  show WJ _ _ _ [.sh (refTy q.p), .sh (sh K (.list (octD b))), .sh (sh K (.int door)), .sh (sh K (givD (Tm.nth l 0) (Tm.nth l 1))), .un, .un] _ _ _
  have eo : outDesk K q door (Tm.nth l 0) (Tm.nth l 1) = Tm.outW K (resA ⟨q, b, door, l, u⟩) := Tm.outDesk_is K q door _ _
  refine wj_try 4 (fun o m w' => (resA ⟨q, b, door, l, u⟩).2 = .error (o, m) ∧ w' = (resA ⟨q, b, door, l, u⟩).1) rfl rfl sc_answered.nd rfl rfl ⟨rfl, by decide, .inl hRef⟩ hex rfl (fun E2 pn xe tk => ?_) fun o m w' a d oe pn her hz hfl => ?_
  · generalize hres : resA ⟨q, b, door, l, u⟩ = res at eo hans
    obtain ⟨q2, r⟩ := res
    cases r with
    | ok v =>
      cases hans with
      | ok _ hd ho hlen =>
        refine wj_last (wj_ret (w1 := q2) (we_imp (P := sh K (.list ([.int 0] ++ octD (RWire.write v)))) (wn_sh (wn_cat (EvN.sh (evn_lst (ds := [.int 0]) (eva_cons ev_int eva_nil))) (we_call f_oct hr (by decide) v ⟨hd, ho, hlen⟩ rfl (wa_cons (we_methX m_call hr (by decide) (⟨q, door, Tm.nth l 0, Tm.nth l 1⟩ : iCall) hpre rfl rfl eo desk_meth (we_pure (ev_var 0 rfl)) (wa_cons (we_pure (ev_var 2 rfl)) (wa_cons (we_pure (ev_var 3 rfl)) wa_nil))) wa_nil)) ?_)) fun v F h => ?_) ?_)
        · rw [octD_len, sizeLine_eq]
          show 1 + _ ≤ _
          omega
        · exact h
        · show q2 = (resA ⟨q, b, door, l, _⟩).1
          rw [hres]
    | error e =>
      obtain ⟨o, m⟩ := e
      exact wj_last (wj_retX (w1 := q2) (o := o) (m := m) (we_catErr (EvN.sh (evn_lst (ds := [.int 0]) (eva_cons ev_int eva_nil))) (we_argErr f_oct pass0 hr (by decide) (we_methErr (w2 := q2) m_call tk hr (by decide) (⟨q, door, Tm.nth l 0, Tm.nth l 1⟩ : iCall) hpre rfl rfl eo desk_meth (we_pure (ev_var 0 rfl)) (wa_cons (we_pure (ev_var 2 rfl)) (wa_cons (we_pure (ev_var 3 rfl)) wa_nil))))) ⟨rfl, rfl⟩)
  · obtain ⟨hres, rfl⟩ := her
    rw [hres] at hans
    cases hans with
    | err oN _ mo hm hoN =>
      have hot := hot_suite (a := a) (pn := pn) (X := (cxOf CX0 P w K mg base ["desk", "octets", "door", "given", "e", "message"] "answered" (defScope s_answered) f cdv A outer s H E).nox) hz hfl
      have hrH : L2H.RoomH 37 ((cxOf CX0 P w K mg base ["desk", "octets", "door", "given", "e", "message"] "answered" (defScope s_answered) f cdv A outer s H E).nox.suite a ((a, oe) :: pn)).A := roomH_suite hr
      show WJs _ _ _ [.un, .un, .un, .un, .sh (excTy a d (oN : Int) m), .un] _ _ _
      refine wj_cons (wj_set 5 (P := sh K (.list (octD mo))) (we_pure (EvN.sh (evn_list (ds := octD mo) false X.list (Ev.cast (ev_callT t_codes hrH hot (by decide) m ⟨?_, hm.asc⟩ rfl (eva_cons (ev_message 4 R hz hfl rfl (pv 4)) eva_nil)) ?_)))) ?_ sc_answered.nd)
      · rw [hm.len, sizeLine_eq]
        have := hm.few
        omega
      · exact hm.codes
      · show WJs _ _ _ [.un, .un, .un, .un, .sh (excTy a d (oN : Int) m), .sh (sh K (.list (octD mo)))] _ _ _
        have e1 : ((octD mo).length : Int) = ((mo.length : Nat) : Int) := by rw [octD_len]
        refine wj_last (wj_ret (we_imp (P := sh K (.list ([.int 1, .int (oN : Int)] ++ octD (RWire.low 4 mo.length) ++ octD mo))) (we_pure (EvN.sh (evn_cat (EvN.sh (evn_cat (EvN.sh (evn_lst (ds := [.int 1, .int (oN : Int)]) (eva_cons ev_int (eva_cons (ev_order 4 R hz hfl rfl (pv 4)) eva_nil)))) (ev_callT t_low hrH hot (by decide) (mo.length, 4) (by show 4 ≤ 8; decide) rfl (eva_cons (Ev.cast (ev_len true X.len (ev_var 5 rfl)) (congrArg PyData.int e1)) (eva_cons ev_int eva_nil))) ?_)) (ev_var 5 rfl) ?_))) fun v F h => ?_) rfl)
        · rw [octD_len, low_len, sizeLine_eq]
          show 2 + 4 ≤ _
          decide
        · rw [List.length_append, octD_len, octD_len, low_len, sizeLine_eq]
          have := hm.few
          show 2 + 4 + _ ≤ _
          omega
        · have e2 : ([.int 1, .int (oN : Int)] ++ octD (RWire.low 4 mo.length) ++ octD mo : List PyData) = octD (1 :: UInt8.ofNat oN :: RWire.writeText mo) := by
            show _ = PyData.int 1 :: PyData.int _ :: octD (RWire.low 4 mo.length ++ mo)
            rw [octD_app]
            rcases hoN with rfl | rfl <;> rfl
          rw [e2] at h
          exact h
end
end Td
namespace Tm
open Td PySem PySem.Spec Tw
open R7256f.Spec (Units units Plain)
/-! ### a session -/
/-- the calls as they stand in the list -/
inductive Rows : List Int → List (List Int) → Prop
  | nil : Rows [] []
  | cons {r t : List Int} {rs : List (List Int)} (h : Rows t rs) : Rows (0 :: (r.length : Int) :: (r ++ t)) (r :: rs)
theorem row_is {l x s : List Int} (h : PyFlat.row l = some (x, s)) : l = (x.length : Int) :: (x ++ s) := by
  cases l with
  | nil => cases h
  | cons n r =>
    have h : (if 0 ≤ n ∧ n.toNat ≤ r.length then some (r.take n.toNat, r.drop n.toNat) else none) = some (x, s) := h
    by_cases c : 0 ≤ n ∧ n.toNat ≤ r.length
    · rw [if_pos c] at h
      cases h
      rw [List.take_append_drop, List.length_take, Nat.min_eq_left c.2]
      congr 1
      omega
    · rw [if_neg c] at h
      cases h
theorem call_is {l t : List Int} {c : List (List Int)} (h : PyFlat.call PyZn78.shape l = some (c, t)) : ∃ r, l = 0 :: (r.length : Int) :: (r ++ t) ∧ c = [[0], r] := by
  cases l with
  | nil => cases h
  | cons p l =>
    have h : (match PyZn78.shape p with
      | none => none
      | some (n, k) => if l.length < n then none else match PyFlat.rows k (l.drop n) with
        | none => none
        | some (xs, t) => some ((p :: l.take n) :: xs, t)) = some (c, t) := h
    by_cases hp : p = 0
    · subst hp
      rw [show PyZn78.shape 0 = some (0, 1) from if_pos rfl] at h
      have h : (if l.length < 0 then none else match PyFlat.rows 1 (l.drop 0) with
        | none => none
        | some (xs, t) => some ((0 :: l.take 0) :: xs, t)) = some (c, t) := h
      rw [if_neg (Nat.not_lt_zero _), List.drop_zero, List.take_zero] at h
      have e : PyFlat.rows 1 l = match PyFlat.row l with
        | none => none
        | some (x, s) => some ([x], s) := by
        show (match PyFlat.row l with
          | none => none
          | some (x, s) => match PyFlat.rows 0 s with
            | none => none
            | some (xs, t) => some (x :: xs, t)) = _
        cases PyFlat.row l with
        | none => rfl
        | some y => rfl
      rw [e] at h
      cases er : PyFlat.row l with
      | none => rw [er] at h; cases h
      | some y =>
        obtain ⟨x, s⟩ := y
        rw [er] at h
        cases h
        exact ⟨x, congrArg _ (row_is er), rfl⟩
    · rw [show PyZn78.shape p = none from if_neg hp] at h
      cases h
theorem calls_is : ∀ (f : Nat) (l : List Int) (cs : List (List (List Int))), PyFlat.calls PyZn78.shape f l = some cs → ∃ rs, Rows l rs ∧ cs = rs.map fun r => [[0], r]
  | f, [], cs, h => by
    have : cs = [] := by
      cases f <;> (cases h; rfl)
    subst this
    exact ⟨[], .nil, rfl⟩
  | 0, _ :: _, cs, h => by cases h
  | f + 1, p :: r, cs, h => by
    have h : (match PyFlat.call PyZn78.shape (p :: r) with
      | none => none
      | some (c, t) => match PyFlat.calls PyZn78.shape f t with
        | none => none
        | some cs => some (c :: cs)) = some cs := h
    cases e : PyFlat.call PyZn78.shape (p :: r) with
    | none => rw [e] at h; cases h
    | some y =>
      obtain ⟨c, t⟩ := y
      rw [e] at h
      have h : (match PyFlat.calls PyZn78.shape f t with
        | none => none
        | some cs => some (c :: cs)) = some cs := h
      cases e2 : PyFlat.calls PyZn78.shape f t with
      | none => rw [e2] at h; cases h
      | some cs' =>
        rw [e2] at h
        cases h
        obtain ⟨q, q1, q2⟩ := call_is e
        obtain ⟨rs, k1, k2⟩ := calls_is f t cs' e2
        rw [q1, q2, k2]
        exact ⟨q :: rs, .cons k1, rfl⟩
/-- an answer as it is told -/
def toldO (a : List UInt8) : List Int := (a.length : Int) :: a.map fun b => (b.toNat : Int)
def toldAll : Rust.St → List (List Int) → List Int
  | _, [] => []
  | w, r :: rs => toldO (Rust.step w (Zn78Neutral.bytesOf r)).2 ++ toldAll (Rust.step w (Zn78Neutral.bytesOf r)).1 rs
theorem played_is : ∀ (rs : List (List Int)) (w : Rust.St), PyFlat.told (PyFlat.played (fun s c => Zn78Neutral.step s (c.headD [])) w (rs.map fun r => [r])) = toldAll w rs
  | [], _ => rfl
  | r :: rs, w => by
    have ih := played_is rs (Rust.step w (Zn78Neutral.bytesOf r)).1
    show ((Zn78Neutral.step w r).2.length : Int) :: (Zn78Neutral.step w r).2 ++ PyFlat.told (PyFlat.played _ (Zn78Neutral.step w r).1 (rs.map fun r => [r])) = toldO _ ++ toldAll _ rs
    rw [← ih]
    show (((Zn78Neutral.numbersOf (Rust.step w (Zn78Neutral.bytesOf r)).2).length : Nat) : Int) :: _ ++ _ = _
    unfold Zn78Neutral.numbersOf toldO
    rw [List.length_map]
    rfl
structure Sess (ns : List Int) (rs : List (List Int)) : Prop where
  rows : Rows ns rs
  many : rs.length ≤ 200
  byte : ∀ r ∈ rs, NeutralIO.bytes r = true
  goes : Rust.goes Rust.start Rust.answersAllMost (rs.map Zn78Neutral.bytesOf) = true
  each : ∀ r ∈ rs, r.length ≤ 60000
  short : (PyZn78.answers ns).length ≤ 10000000
  told : PyZn78.answers ns = toldAll Rust.start rs
theorem sess_of {ns : List Int} (h : PyZn78.answers_asked ns = true) : ∃ rs, Sess ns rs := by
  unfold PyZn78.answers_asked at h
  cases e : PyZn78.calls ns with
  | none => rw [e] at h; cases h
  | some cs =>
    rw [e] at h
    have h : (PyFlat.atMost 200 cs && Zn78Neutral.asked (cs.map fun c => c.headD []) && PyFlat.short 10000000 (PyZn78.answers ns)) = true := h
    rw [Bool.and_eq_true, Bool.and_eq_true] at h
    obtain ⟨⟨h1, h2⟩, h3⟩ := h
    have he := e
    unfold PyZn78.calls at e
    cases e2 : PyFlat.calls PyZn78.shape ns.length ns with
    | none => rw [e2] at e; cases e
    | some cs' =>
      rw [e2] at e
      have e : some (cs'.map PyZn78.whole) = some cs := e
      cases e
      obtain ⟨rs, k1, k2⟩ := calls_is _ _ _ e2
      subst k2
      have ew : (rs.map fun r => ([[0], r] : List (List Int))).map PyZn78.whole = rs.map fun r => [r] := by
        rw [List.map_map]
        rfl
      rw [ew] at h1 h2 he
      have eh : (rs.map fun r => [r]).map (fun c => c.headD ([] : List Int)) = rs := by
        rw [List.map_map]
        exact List.map_id rs
      rw [eh] at h2
      unfold Zn78Neutral.asked at h2
      rw [Bool.and_eq_true, Bool.and_eq_true] at h2
      obtain ⟨a1, _, a3⟩ := h2
      unfold Rust.fits at a3
      rw [Bool.and_eq_true, Bool.and_eq_true, Bool.and_eq_true] at a3
      obtain ⟨⟨⟨b1, b2⟩, _⟩, b4⟩ := a3
      refine ⟨rs, k1, ?_, fun r hr => List.all_eq_true.mp a1 r hr, b4, fun r hr => ?_, of_decide_eq_true h3, ?_⟩
      · have := Nat.le_of_ble_eq_true b1
        rw [List.length_map] at this
        exact this
      · have := List.all_eq_true.mp b2 _ (List.mem_map_of_mem hr)
        have := Nat.le_of_ble_eq_true this
        unfold Zn78Neutral.bytesOf at this
        rw [List.length_map] at this
        exact this
      · unfold PyZn78.answers
        rw [he]
        exact played_is rs Rust.start
theorem bytes_back {r : List Int} (h : NeutralIO.bytes r = true) : r.map PyData.int = octD (Zn78Neutral.bytesOf r) := by
  unfold octD Zn78Neutral.bytesOf
  rw [List.map_map]
  refine List.map_congr_left fun n hn => ?_
  have q := List.all_eq_true.mp h n hn
  rw [Bool.and_eq_true, decide_eq_true_iff, decide_eq_true_iff] at q
  show PyData.int n = PyData.int ((UInt8.ofNat n.toNat).toNat : Int)
  rw [UInt8.toNat_ofNat']
  congr 1
  omega
theorem res_p (D : DeskW) (door : Nat) (a b : RWire.Value) : (resDesk D door a b).1.p = D.p := by
  unfold resDesk
  split
  · rfl
  · split
    · split <;> rfl
    · split
      · rfl
      · split <;> rfl
theorem ans_is {res : Res} {a : R7256f.Spec.Ans} (h : Says res (Rust.answerOf a)) (ht : Rust.tellable a = true) (hl : (RWire.writeAnswer (Rust.answerOf a)).length ≤ 65536) : AnsIs res (RWire.writeAnswer (Rust.answerOf a)) := by
  cases a with
  | ret p =>
    have ht : (Rust.narrow p && RWire.writable (Rust.given p)) = true := ht
    rw [Bool.and_eq_true] at ht
    have h2 : (RWire.fine (Rust.given p) && decide (RWire.depth (Rust.given p) ≤ RWire.nestMost)) = true := ht.2
    rw [Bool.and_eq_true, decide_eq_true_iff] at h2
    have h : Says res (.returned (Rust.given p)) := h
    have hl : (0 :: RWire.write (Rust.given p)).length ≤ 65536 := hl
    rw [List.length_cons] at hl
    generalize e : RWire.Answer.returned (Rust.given p) = an at h
    cases h with
    | ok v =>
      cases e
      exact .ok _ h2.2 (given_ok p ht.1 h2.1) (by omega)
    | err o m u hm ho => cases e
  | fail e =>
    have h : Says res (.refused (Rust.classOf e.cls) (e.msg.map Rust.octetOf)) := h
    generalize eq : RWire.Answer.refused (Rust.classOf e.cls) (e.msg.map Rust.octetOf) = an at h
    show AnsIs res (RWire.writeAnswer (.refused (Rust.classOf e.cls) (e.msg.map Rust.octetOf)))
    rw [eq]
    cases h with
    | ok v => cases eq
    | err o m u hm ho => exact .err o m u hm ho
/-- one call of a session -/
theorem sess_step (K : Frag) {k left : Nat} {D : DeskW} {W : R7256f.Spec.World} {r : List Int} {rs : List (List Int)} (R : DR k D W) (hk : k < 90000) (hb : r.length ≤ 60000) (hg : Rust.goes W left ((r :: rs).map Zn78Neutral.bytesOf) = true) :
    ∃ (i : iAns) (left' : Nat), i.w = D ∧ i.b = Zn78Neutral.bytesOf r ∧ i.u = (Rust.step W i.b).2 ∧ (S_answered K i).pre ∧ DR (k + 1) (resA i).1 (Rust.step W i.b).1 ∧ (resA i).1.p = D.p ∧ Rust.goes (Rust.step W i.b).1 left' (rs.map Zn78Neutral.bytesOf) = true := by
  have hg : (match Rust.asked (Zn78Neutral.bytesOf r) with
    | none => false
    | some c => Rust.canBe W c && Rust.tellable (R7256f.Spec.step W c).2 && Nat.ble (Rust.step W (Zn78Neutral.bytesOf r)).2.length Rust.A && Nat.ble (Rust.step W (Zn78Neutral.bytesOf r)).2.length left && Rust.goes (R7256f.Spec.step W c).1 (left - (Rust.step W (Zn78Neutral.bytesOf r)).2.length) (rs.map Zn78Neutral.bytesOf)) = true := hg
  cases ea : Rust.asked (Zn78Neutral.bytesOf r) with
  | none => rw [ea] at hg; cases hg
  | some c =>
    rw [ea] at hg
    have hg : (Rust.canBe W c && Rust.tellable (R7256f.Spec.step W c).2 && Nat.ble (Rust.step W (Zn78Neutral.bytesOf r)).2.length Rust.A && Nat.ble (Rust.step W (Zn78Neutral.bytesOf r)).2.length left && Rust.goes (R7256f.Spec.step W c).1 (left - (Rust.step W (Zn78Neutral.bytesOf r)).2.length) (rs.map Zn78Neutral.bytesOf)) = true := hg
    rw [Bool.and_eq_true, Bool.and_eq_true, Bool.and_eq_true, Bool.and_eq_true] at hg
    obtain ⟨⟨⟨⟨c1, c2⟩, c3⟩, _⟩, c5⟩ := hg
    have es : Rust.step W (Zn78Neutral.bytesOf r) = ((R7256f.Spec.step W c).1, RWire.writeAnswer (Rust.answerOf (R7256f.Spec.step W c).2)) := by
      unfold Rust.step
      rw [ea]
      show (if Rust.canBe W c then _ else _) = _
      rw [if_pos c1]
    rw [es] at c3
    have c3 := Nat.le_of_ble_eq_true c3
    obtain ⟨door, l, q⟩ := req_step K R hk ea c1
    refine ⟨⟨D, Zn78Neutral.bytesOf r, door, l, RWire.writeAnswer (Rust.answerOf (R7256f.Spec.step W c).2)⟩, _, rfl, rfl, by rw [es], ⟨?_, q.rd, q.few, q.ok, q.pre, ans_is q.says c2 c3⟩, by rw [es]; exact q.dr, res_p _ _ _ _, by rw [es]; exact c5⟩
    show (Zn78Neutral.bytesOf r).length ≤ 100000
    unfold Zn78Neutral.bytesOf
    rw [List.length_map]
    omega
end Tm
namespace Tw
open PySem PySem.Spec PyProof.Rows L2
/-- the list that is handed in: whole numbers, never changed -/
theorem SqL.mono' {K : Frag} {F H : Hp} {a : Addr} {xs : List V} (e : Ex F H) (h : SqL K F a xs) : SqL K H a xs := by
  rcases h with (h | ⟨o, h⟩) | h
  · exact .inl (.inl (e.go h))
  · exact .inl (.inr ⟨o, e.go h⟩)
  · exact .inr h
def lsT (K : Frag) (ns : List Int) : Ty := ⟨fun v F => ∃ a, v = .ref a ∧ SqL K F a (ns.map V.int), fun e ⟨a, h, q⟩ => ⟨a, h, SqL.mono' e q⟩⟩
section
variable {X : Cx} {T : List NTab} {γ : Gm} {pos p p2 : Pos} {a b e : Expr} {ns : List Int}
theorem ev_lenZ (hm : X.mg "len" = none) (ha : Ev X T γ e (lsT X.K ns)) (hg : Gl X "len" := by rfl)
    (he : starEach [e] X.env = (false, eval e X.env) :: starEach [] X.env := by rfl) (hpl : (backTo pos (starEach [] X.env)).any (·.1) = false := by rfl) : Ev X T γ (.Call (.Name "len" p) [e] [] pos) (sh X.K (.int ns.length)) :=
  ev_callB call_len_seq (fun vs F H Q ex q k => by
    obtain ⟨v, us, rfl, ⟨a, rfl, h1⟩, h2⟩ := q
    have h2 : us = [] := h2
    subst h2
    refine ⟨a, _, rfl, .inl (SqL.mono' ex h1), k _ F H (Grow.refl ex) ?_⟩
    show V.int _ = V.int _
    rw [List.length_map]) hm PySem.boot_len (eva_cons ha eva_nil he) hg (by decide) (by decide) he hpl
theorem ev_ixZ {i : Int} {n : Int} (ha : Ev X T γ a (lsT X.K ns)) (hb : Ev X T γ b (sh X.K (.int i))) (h : atI ns i = some n) (hx : PlainIx b := by exact fun _ _ => rfl) : Ev X T γ (.Subscript a b pos) (sh X.K (.int n)) :=
  PE.imp (pe_ix ix_list ha hb hx) (bin_imp fun x y F H Q e ⟨a1, ex, h1⟩ q k => by
    subst ex
    have h3 : atI (ns.map V.int) i = some (V.int n) := by
      unfold atI at h ⊢
      rw [List.length_map]
      cases z : ixN ns.length i with
      | none => rw [z] at h; cases h
      | some j =>
        rw [z] at h
        show (ns.map V.int)[j]? = _
        have h : ns[j]? = some n := h
        rw [List.getElem?_map, h]
        rfl
    exact ⟨a1, _, i, _, rfl, q, SqL.mono' e h1, h3, k _ F H (Grow.refl e) rfl⟩)
theorem evn_sliceZ {lo hi : Option Expr} {l h : Option Int} (ha : Ev X T γ a (lsT X.K ns)) (hl : EvO X T γ lo l) (hh : EvO X T γ hi h) : EvN X T γ (.Subscript a (.Slice lo hi none p2) pos) (cutD (ns.map .int) l h) :=
  PE.imp (pe_slice sl_list ha hl hh) fun σ H Q ⟨F, s, q⟩ => ⟨F, s, fun v F1 H1 g1 p1 => ⟨F1, s.grow g1, fun F2 H2 g2 => ⟨F2, (s.grow g1).grow g2, fun F3 H3 g3 => by
    obtain ⟨b, rfl, h1⟩ := p1
    have g := (g1.trans g2).trans g3
    refine ⟨b, _, rfl, SqL.mono' g3.ex (SqL.mono' g3.f (SqL.mono' g2.f h1)), fun p hp => ?_⟩
    have g4 := Grow.raw (T := T) (o := .lst (cutV (ns.map V.int) l h)) g3.ex hp
    exact q p _ _ _ (g.trans g4) (g.free _ hp) (g3.ex.free hp) upd_same (cut_data (DqAll.of_ints ns) l h)⟩⟩⟩
end
end Tw
namespace Td
open PySem PySem.Spec PyProof.Rows L2 Tw
def intsD (l : List Int) : List PyData := l.map .int
theorem told_len (a : List UInt8) : (Tm.toldO a).length = a.length + 1 := by
  unfold Tm.toldO
  rw [List.length_cons, List.length_map]
theorem told_data (a : List UInt8) : intsD (Tm.toldO a) = [PyData.int (a.length : Int)] ++ octD a := by
  unfold Tm.toldO intsD octD
  rw [List.map_cons, List.map_map]
  rfl
def S_answers (K : Frag) : List Int → Pr := fun ns => ⟨PyZn78.answers_asked ns = true ∧ ns.length ≤ 61000, [lsT K ns], .ok (sh K (.list (intsD (PyZn78.answers ns))))⟩
/-- where the loop stands -/
structure LoopAt (ns : List Int) (p : Addr) (m : Nat) (D : DeskW) (acc : List Int) (pos : Nat) : Prop where
  p : D.p = p
  st : ∃ rest rs W left k, ns.drop pos = rest ∧ pos ≤ ns.length ∧ Tm.Rows rest rs ∧ m = rs.length ∧ Tm.DR k D W ∧ k + rs.length ≤ 200 ∧ Rust.goes W left (rs.map Zn78Neutral.bytesOf) = true ∧ (∀ r ∈ rs, NeutralIO.bytes r = true ∧ r.length ≤ 60000) ∧ acc ++ Tm.toldAll W rs = PyZn78.answers ns
section
variable {P : Program} {w : World} {K : Frag} {mg : Str → Option Value} {base : Heap} {T : List NTab} {C CD CN CS CR : Addr}
theorem ok_answers {f : Addr} {fd : FuncData} (F : Fun K "answers" "answers" s_answers f fd) (X : Txt K mg) (MD : ∃ fi fd, Mk K CD fi ∧ FnOk P w K mg base CX0 1 fi fd ["self"] (spDI CD) ∧ L2.Binds K fd ["self"] []) (hDesk : mg "Desk" = some (.ref CD))
    (f_answered : Fn P w K mg base CX0 38 "answered" ["desk", "octets"] (spW (dskWd K CD CS CN) T C (S_answered K))) : FnOk P w K mg base CX0 39 f fd ["calls"] (spF T C (S_answers K)) := by
  refine def_ok (k := 38) F sc_answers (fun _ => rfl) fun ns ⟨hask, hlen⟩ cdv A outer s H E hr => ?_
  obtain ⟨rs0, Se⟩ := Tm.sess_of hask
  have hshort := Se.short
  refine sj_desk (CD := CD) (CS := CS) (CN := CN) 1 MD hDesk hr (by decide) (fun p => ?_) sc_answers.nd
  refine wj_cons (wj_setN 2 (ds := []) (wn_pure (evn_lst (ds := []) eva_nil)) ?_ sc_answers.nd)
  refine wj_cons (wj_set 3 (P := sh K (.int 0)) (we_pure ev_int) ?_ sc_answers.nd)
  refine wj_cons (wj_while (W := dskWd K CD CS CN) PassesOwn.never (fun m γ D => ∃ acc pos x y, LoopAt ns p m D acc pos ∧ γ = [.sh (lsT K ns), .sh (refTy p), .own (intsD acc), .sh (sh K (.int (pos : Nat))), x, y]) rs0.length
    ⟨[], 0, .un, .un, ⟨rfl, ns, rs0, R7256f.Spec.World.start, Rust.answersAllMost, 0, rfl, Nat.zero_le _, Se.rows, rfl, Tm.dr_start p, by have := Se.many; omega, Se.goes, fun r hr => ⟨Se.byte r hr, Se.each r hr⟩, by rw [List.nil_append]; exact Se.told.symm⟩, rfl⟩ ?_)
  rintro m _ D ⟨acc, pos, x, y, ⟨hp, rest, rs, W, left, k, e1, e2, e3, e4, e5, e6, e7, e8, e9⟩, rfl⟩
  refine ⟨decide ((pos : Int) < (ns.length : Nat)), evt_lt (ev_var 3 rfl) (ev_lenZ X.len (ev_var 0 rfl)), fun hb => ?_, fun hb => ?_⟩
  · have hb : (pos : Int) < (ns.length : Nat) := of_decide_eq_true hb
    have hb : pos < ns.length := by omega
    cases e3 with
    | nil =>
      have : (ns.drop pos).length = 0 := by rw [e1]; rfl
      rw [List.length_drop] at this
      omega
    | @cons r t rs' h3 =>
      have hbr := e8 r List.mem_cons_self
      obtain ⟨i, left', i1, i2, i3, i4, i5, i6, i7⟩ := Tm.sess_step K e5 (by omega) hbr.2 e7
      have gl : ∀ j, ns[pos + j]? = (0 :: (r.length : Int) :: (r ++ t))[j]? := fun j => by
        rw [← e1, List.getElem?_drop]
      have g1 : ns[pos + 1]? = some (r.length : Int) := by
        rw [gl 1]
        rfl
      have ll : ns.length = pos + 2 + r.length + t.length := by
        have := congrArg List.length e1
        simp only [List.length_drop, List.length_cons, List.length_append] at this
        omega
      have sl : cutD (ns.map .int) (some ((pos : Int) + 2)) (some ((pos : Int) + 2 + (r.length : Int))) = octD i.b := by
        have c1 : (pos : Int) + 2 = ((pos + 2 : Nat) : Int) := by omega
        have c2 : ((pos + 2 : Nat) : Int) + (r.length : Int) = ((pos + 2 + r.length : Nat) : Int) := by omega
        rw [c1, c2, cutD_any, i2, ← Tm.bytes_back hbr.1]
        rw [← List.map_drop, ← List.map_take]
        have : ns.drop (pos + 2) = r ++ t := by
          rw [← List.drop_drop, e1]
          rfl
        rw [this, Nat.add_sub_cancel_left, List.take_left]
      have hacc : acc.length + (Tm.toldO i.u).length ≤ 10000000 := by
        have h9 : acc ++ (Tm.toldO (Rust.step W (Zn78Neutral.bytesOf r)).2 ++ Tm.toldAll (Rust.step W (Zn78Neutral.bytesOf r)).1 rs') = PyZn78.answers ns := e9
        have := congrArg List.length h9
        rw [← i2, ← i3, List.length_append, List.length_append] at this
        omega
      rw [told_len] at hacc
      have la : (intsD acc).length = acc.length := List.length_map ..
      have hS : (S_answered K i).args = [refTy p, sh K (.list (octD i.b))] := by
        show [refTy i.w.p, _] = _
        rw [i1, hp]
      refine wj_cons (wj_set 4 (P := sh K (.int (r.length : Int))) (we_pure (ev_ixZ (i := (pos : Int) + 1) (ev_var (P := lsT K ns) 0 rfl) (ev_add (ev_var 3 rfl) ev_int) (atI_nat (j := pos + 1) g1))) ?_ sc_answers.nd)
      refine wj_cons (wj_set 5 (P := sh K (.list (octD i.u))) (w1 := (resA i).1) (we_callW f_answered hr (Nat.le_refl _) i i4 i1 rfl (by
        rw [hS]
        exact wa_cons (we_pure (ev_var (P := refTy p) 1 rfl)) (wa_cons (we_pure (Ev.cast (EvN.sh (evn_list true X.list (EvN.sh (evn_sliceZ (ev_var (P := lsT K ns) 0 rfl) (evo_some (ev_add (ev_var 3 rfl) ev_int)) (evo_some (ev_add (ev_add (ev_var 3 rfl) ev_int) (ev_var 4 rfl))))))) (congrArg PyData.list sl))) wa_nil))) ?_ sc_answers.nd)
      refine wj_cons (wj_aug 3 (n := (pos : Int)) (m := 2 + (r.length : Int)) rfl (ev_add ev_int (ev_var 4 rfl)) ?_ sc_answers.nd)
      refine wj_cons (wj_append 2 (ds := intsD acc) (d := .int (i.u.length : Int)) rfl (we_pure (Ev.cast (ev_len true X.len (ev_var 5 rfl)) (congrArg PyData.int (by rw [octD_len])))) ?_ ?_)
      · rw [la, sizeLine_eq]
        omega
      refine wj_last (wj_extend 2 (ds := intsD acc ++ [.int (i.u.length : Int)]) (es := octD i.u) rfl (we_pure (ev_var 5 rfl)) ?_ ?_)
      · rw [List.length_append, la, octD_len, sizeLine_eq]
        show acc.length + 1 + _ ≤ _
        omega
      refine ⟨rs'.length, by rw [e4]; exact Nat.lt_succ_self _, acc ++ Tm.toldO i.u, pos + (2 + r.length), .sh (sh K (.int (r.length : Int))), .sh (sh K (.list (octD i.u))), ⟨i6.trans hp, t, rs', _, left', k + 1, ?_, by omega, h3, rfl, i5, by rw [List.length_cons] at e6; omega, i7, fun q hq => e8 q (List.mem_cons_of_mem _ hq), ?_⟩, ?_⟩
      · rw [← List.drop_drop, e1, show 2 + r.length = r.length + 2 by omega]
        show ((r ++ t).drop r.length) = t
        exact List.drop_left
      · rw [List.append_assoc, i3, i2]
        exact e9
      · have ea : intsD (acc ++ Tm.toldO i.u) = intsD acc ++ [PyData.int (i.u.length : Int)] ++ octD i.u := by
          rw [List.append_assoc, ← told_data]
          unfold intsD
          rw [List.map_append]
        rw [ea]
        show [_, _, _, Slot.sh (sh K (.int ((pos : Int) + (2 + (r.length : Int))))), _, _] = [_, _, _, Slot.sh (sh K (.int ((pos + (2 + r.length) : Nat) : Int))), _, _]
        have : (pos : Int) + (2 + (r.length : Int)) = ((pos + (2 + r.length) : Nat) : Int) := by omega
        rw [this]
  · have hb : ¬ (pos : Int) < (ns.length : Nat) := of_decide_eq_false hb
    have hz : ns.drop pos = [] := List.drop_eq_nil_of_le (by omega)
    rw [hz] at e1
    subst e1
    cases e3 with
    | nil =>
      have e9 : acc ++ [] = PyZn78.answers ns := e9
      rw [List.append_nil] at e9
      subst e9
      refine wj_share 2 rfl (wj_last (wj_ret (we_pure (ev_var 2 rfl)) trivial))
end
end Td
/-! Every def keeps its promise (printed by gen_all.py). -/
namespace Tk
open PySem PySem.Spec PyProof.Rows L2 Tw Td
open He (ga ma)
theorem fun_of {K : Frag} {x qual : Str} {st : Stmt} {f : Addr} {fd : FuncData} (D : FunD K x qual (defArgs st) (defBody st) (defScope st) [] [] f fd) : L2.Fun K x qual st f fd := by
  obtain ⟨oc, od, dV, kV, doc, pm, an, cdv, ct, osl, e, lk, cd, dfl, _⟩ := D.ex
  rcases dfl with ⟨_, rfl⟩ | ⟨z, _⟩
  · exact ⟨⟨oc, od, kV, doc, pm, an, cdv, ct, osl, e, lk, cd⟩, D.kp⟩
  · exact absurd rfl z
/-- a def's code object -/
theorem code_of {K : Frag} {x qual : Str} {st : Stmt} {p : He.Defn} {fd : FuncData} (F : L2.Fun K x qual st (He.fAd K p) fd) : fd.code = .ref (He.codeOf K p) := by
  obtain ⟨oc, od, kV, doc, pm, an, cdv, ct, osl, e, lk, cd⟩ := F.ex
  obtain ⟨c, rfl⟩ := He.codeIn_ref cd
  subst e
  rw [He.codeOf_eq lk rfl]
theorem F_t5 {fd : FuncData} {K : Frag} (D : FunD K (d_t5).name (d_t5).qual (d_t5).params (d_t5).body (d_t5).scope ((d_t5).dvs K) ((d_t5).kws K) (He.fAd K (d_t5).at_) fd) : L2.Fun K "window" "window" (top 5) (ga K "window_pipelines") fd := fun_of (st := top 5) D
theorem B_t5 {fd : FuncData} {K : Frag} {f : Addr} (F : L2.Fun K "window" "window" (top 5) f fd) : L2.Binds K fd ["steps", "length"] [] := F.binds fun _ _ _ _ _ _ us hl => match us, hl with | [_, _], _ => rfl
theorem F_c7_0 {fd : FuncData} {K : Frag} (D : FunD K (d_c7_0).name (d_c7_0).qual (d_c7_0).params (d_c7_0).body (d_c7_0).scope ((d_c7_0).dvs K) ((d_c7_0).kws K) (He.fAd K (d_c7_0).at_) fd) : L2.Fun K "__init__" "Normal.__init__" (L2.inClass (top 7) 0) (ma K (ga K "Normal") "__init__") fd := fun_of (st := L2.inClass (top 7) 0) D
theorem B_c7_0 {fd : FuncData} {K : Frag} {f : Addr} (F : L2.Fun K "__init__" "Normal.__init__" (L2.inClass (top 7) 0) f fd) : L2.Binds K fd ["self", "steps"] [] := F.binds fun _ _ _ _ _ _ us hl => match us, hl with | [_, _], _ => rfl
theorem F_c7_1 {fd : FuncData} {K : Frag} (D : FunD K (d_c7_1).name (d_c7_1).qual (d_c7_1).params (d_c7_1).body (d_c7_1).scope ((d_c7_1).dvs K) ((d_c7_1).kws K) (He.fAd K (d_c7_1).at_) fd) : L2.Fun K "last" "Normal.last" (L2.inClass (top 7) 1) (ma K (ga K "Normal") "last") fd := fun_of (st := L2.inClass (top 7) 1) D
theorem B_c7_1 {fd : FuncData} {K : Frag} {f : Addr} (F : L2.Fun K "last" "Normal.last" (L2.inClass (top 7) 1) f fd) : L2.Binds K fd ["self"] [] := F.binds fun _ _ _ _ _ _ us hl => match us, hl with | [_], _ => rfl
theorem F_c7_2 {fd : FuncData} {K : Frag} (D : FunD K (d_c7_2).name (d_c7_2).qual (d_c7_2).params (d_c7_2).body (d_c7_2).scope ((d_c7_2).dvs K) ((d_c7_2).kws K) (He.fAd K (d_c7_2).at_) fd) : L2.Fun K "take" "Normal.take" (L2.inClass (top 7) 2) (ma K (ga K "Normal") "take") fd := fun_of (st := L2.inClass (top 7) 2) D
theorem B_c7_2 {fd : FuncData} {K : Frag} {f : Addr} (F : L2.Fun K "take" "Normal.take" (L2.inClass (top 7) 2) f fd) : L2.Binds K fd ["self", "kind", "count"] [] := F.binds fun _ _ _ _ _ _ us hl => match us, hl with | [_, _, _], _ => rfl
theorem F_c7_3 {fd : FuncData} {K : Frag} (D : FunD K (d_c7_3).name (d_c7_3).qual (d_c7_3).params (d_c7_3).body (d_c7_3).scope ((d_c7_3).dvs K) ((d_c7_3).kws K) (He.fAd K (d_c7_3).at_) fd) : L2.Fun K "steps" "Normal.steps" (L2.inClass (top 7) 3) (ma K (ga K "Normal") "steps") fd := fun_of (st := L2.inClass (top 7) 3) D
theorem B_c7_3 {fd : FuncData} {K : Frag} {f : Addr} (F : L2.Fun K "steps" "Normal.steps" (L2.inClass (top 7) 3) f fd) : L2.Binds K fd ["self"] [] := F.binds fun _ _ _ _ _ _ us hl => match us, hl with | [_], _ => rfl
theorem F_c7_4 {fd : FuncData} {K : Frag} (D : FunD K (d_c7_4).name (d_c7_4).qual (d_c7_4).params (d_c7_4).body (d_c7_4).scope ((d_c7_4).dvs K) ((d_c7_4).kws K) (He.fAd K (d_c7_4).at_) fd) : L2.Fun K "off" "Normal.off" (L2.inClass (top 7) 4) (ma K (ga K "Normal") "off") fd := fun_of (st := L2.inClass (top 7) 4) D
theorem B_c7_4 {fd : FuncData} {K : Frag} {f : Addr} (F : L2.Fun K "off" "Normal.off" (L2.inClass (top 7) 4) f fd) : L2.Binds K fd ["self"] [] := F.binds fun _ _ _ _ _ _ us hl => match us, hl with | [_], _ => rfl
theorem F_c7_5 {fd : FuncData} {K : Frag} (D : FunD K (d_c7_5).name (d_c7_5).qual (d_c7_5).params (d_c7_5).body (d_c7_5).scope ((d_c7_5).dvs K) ((d_c7_5).kws K) (He.fAd K (d_c7_5).at_) fd) : L2.Fun K "joints" "Normal.joints" (L2.inClass (top 7) 5) (ma K (ga K "Normal") "joints") fd := fun_of (st := L2.inClass (top 7) 5) D
theorem B_c7_5 {fd : FuncData} {K : Frag} {f : Addr} (F : L2.Fun K "joints" "Normal.joints" (L2.inClass (top 7) 5) f fd) : L2.Binds K fd ["self"] [] := F.binds fun _ _ _ _ _ _ us hl => match us, hl with | [_], _ => rfl
theorem F_c7_6 {fd : FuncData} {K : Frag} (D : FunD K (d_c7_6).name (d_c7_6).qual (d_c7_6).params (d_c7_6).body (d_c7_6).scope ((d_c7_6).dvs K) ((d_c7_6).kws K) (He.fAd K (d_c7_6).at_) fd) : L2.Fun K "beyond" "Normal.beyond" (L2.inClass (top 7) 6) (ma K (ga K "Normal") "beyond") fd := fun_of (st := L2.inClass (top 7) 6) D
theorem B_c7_6 {fd : FuncData} {K : Frag} {f : Addr} (F : L2.Fun K "beyond" "Normal.beyond" (L2.inClass (top 7) 6) f fd) : L2.Binds K fd ["self"] [] := F.binds fun _ _ _ _ _ _ us hl => match us, hl with | [_], _ => rfl
theorem F_c7_7 {fd : FuncData} {K : Frag} (D : FunD K (d_c7_7).name (d_c7_7).qual (d_c7_7).params (d_c7_7).body (d_c7_7).scope ((d_c7_7).dvs K) ((d_c7_7).kws K) (He.fAd K (d_c7_7).at_) fd) : L2.Fun K "window" "Normal.window" (L2.inClass (top 7) 7) (ma K (ga K "Normal") "window") fd := fun_of (st := L2.inClass (top 7) 7) D
theorem B_c7_7 {fd : FuncData} {K : Frag} {f : Addr} (F : L2.Fun K "window" "Normal.window" (L2.inClass (top 7) 7) f fd) : L2.Binds K fd ["self", "length"] [] := F.binds fun _ _ _ _ _ _ us hl => match us, hl with | [_, _], _ => rfl
theorem F_c7_8 {fd : FuncData} {K : Frag} (D : FunD K (d_c7_8).name (d_c7_8).qual (d_c7_8).params (d_c7_8).body (d_c7_8).scope ((d_c7_8).dvs K) ((d_c7_8).kws K) (He.fAd K (d_c7_8).at_) fd) : L2.Fun K "last_start" "Normal.last_start" (L2.inClass (top 7) 8) (ma K (ga K "Normal") "last_start") fd := fun_of (st := L2.inClass (top 7) 8) D
theorem B_c7_8 {fd : FuncData} {K : Frag} {f : Addr} (F : L2.Fun K "last_start" "Normal.last_start" (L2.inClass (top 7) 8) f fd) : L2.Binds K fd ["self"] [] := F.binds fun _ _ _ _ _ _ us hl => match us, hl with | [_], _ => rfl
theorem F_c7_9 {fd : FuncData} {K : Frag} (D : FunD K (d_c7_9).name (d_c7_9).qual (d_c7_9).params (d_c7_9).body (d_c7_9).scope ((d_c7_9).dvs K) ((d_c7_9).kws K) (He.fAd K (d_c7_9).at_) fd) : L2.Fun K "last_end" "Normal.last_end" (L2.inClass (top 7) 9) (ma K (ga K "Normal") "last_end") fd := fun_of (st := L2.inClass (top 7) 9) D
theorem B_c7_9 {fd : FuncData} {K : Frag} {f : Addr} (F : L2.Fun K "last_end" "Normal.last_end" (L2.inClass (top 7) 9) f fd) : L2.Binds K fd ["self"] [] := F.binds fun _ _ _ _ _ _ us hl => match us, hl with | [_], _ => rfl
theorem F_t8 {fd : FuncData} {K : Frag} (D : FunD K (d_t8).name (d_t8).qual (d_t8).params (d_t8).body (d_t8).scope ((d_t8).dvs K) ((d_t8).kws K) (He.fAd K (d_t8).at_) fd) : L2.Fun K "around" "around" (top 8) (ga K "around") fd := fun_of (st := top 8) D
theorem B_t8 {fd : FuncData} {K : Frag} {f : Addr} (F : L2.Fun K "around" "around" (top 8) f fd) : L2.Binds K fd ["joints"] [] := F.binds fun _ _ _ _ _ _ us hl => match us, hl with | [_], _ => rfl
theorem F_t9 {fd : FuncData} {K : Frag} (D : FunD K (d_t9).name (d_t9).qual (d_t9).params (d_t9).body (d_t9).scope ((d_t9).dvs K) ((d_t9).kws K) (He.fAd K (d_t9).at_) fd) : L2.Fun K "first_difference" "first_difference" (top 9) (ga K "first_difference") fd := fun_of (st := top 9) D
theorem B_t9 {fd : FuncData} {K : Frag} {f : Addr} (F : L2.Fun K "first_difference" "first_difference" (top 9) f fd) : L2.Binds K fd ["first", "second"] [] := F.binds fun _ _ _ _ _ _ us hl => match us, hl with | [_, _], _ => rfl
theorem F_t10 {fd : FuncData} {K : Frag} (D : FunD K (d_t10).name (d_t10).qual (d_t10).params (d_t10).body (d_t10).scope ((d_t10).dvs K) ((d_t10).kws K) (He.fAd K (d_t10).at_) fd) : L2.Fun K "lengths_of" "lengths_of" (top 10) (ga K "lengths_of") fd := fun_of (st := top 10) D
theorem B_t10 {fd : FuncData} {K : Frag} {f : Addr} (F : L2.Fun K "lengths_of" "lengths_of" (top 10) f fd) : L2.Binds K fd ["steps", "size"] [] := F.binds fun _ _ _ _ _ _ us hl => match us, hl with | [_, _], _ => rfl
theorem F_t11 {fd : FuncData} {K : Frag} (D : FunD K (d_t11).name (d_t11).qual (d_t11).params (d_t11).body (d_t11).scope ((d_t11).dvs K) ((d_t11).kws K) (He.fAd K (d_t11).at_) fd) : L2.Fun K "first_length" "first_length" (top 11) (ga K "first_length") fd := fun_of (st := top 11) D
theorem B_t11 {fd : FuncData} {K : Frag} {f : Addr} (F : L2.Fun K "first_length" "first_length" (top 11) f fd) : L2.Binds K fd ["low", "high", "is_right"] [] := F.binds fun _ _ _ _ _ _ us hl => match us, hl with | [_, _, _], _ => rfl
theorem F_t12 {fd : FuncData} {K : Frag} (D : FunD K (d_t12).name (d_t12).qual (d_t12).params (d_t12).body (d_t12).scope ((d_t12).dvs K) ((d_t12).kws K) (He.fAd K (d_t12).at_) fd) : L2.Fun K "lengths_with" "lengths_with" (top 12) (ga K "lengths_with") fd := fun_of (st := top 12) D
theorem B_t12 {fd : FuncData} {K : Frag} {f : Addr} (F : L2.Fun K "lengths_with" "lengths_with" (top 12) f fd) : L2.Binds K fd ["steps", "index"] [] := F.binds fun _ _ _ _ _ _ us hl => match us, hl with | [_, _], _ => rfl
theorem F_t13 {fd : FuncData} {K : Frag} (D : FunD K (d_t13).name (d_t13).qual (d_t13).params (d_t13).body (d_t13).scope ((d_t13).dvs K) ((d_t13).kws K) (He.fAd K (d_t13).at_) fd) : L2.Fun K "reading" "reading" (top 13) (ga K "reading") fd := fun_of (st := top 13) D
theorem B_t13 {fd : FuncData} {K : Frag} {f : Addr} (F : L2.Fun K "reading" "reading" (top 13) f fd) : L2.Binds K fd ["own", "count"] [] := F.binds fun _ _ _ _ _ _ us hl => match us, hl with | [_, _], _ => rfl
theorem F_t14 {fd : FuncData} {K : Frag} (D : FunD K (d_t14).name (d_t14).qual (d_t14).params (d_t14).body (d_t14).scope ((d_t14).dvs K) ((d_t14).kws K) (He.fAd K (d_t14).at_) fd) : L2.Fun K "capacity" "capacity" (top 14) (ga K "capacity") fd := fun_of (st := top 14) D
theorem B_t14 {fd : FuncData} {K : Frag} {f : Addr} (F : L2.Fun K "capacity" "capacity" (top 14) f fd) : L2.Binds K fd ["steps"] [] := F.binds fun _ _ _ _ _ _ us hl => match us, hl with | [_], _ => rfl
theorem F_t27 {fd : FuncData} {K : Frag} (D : FunD K (d_t27).name (d_t27).qual (d_t27).params (d_t27).body (d_t27).scope ((d_t27).dvs K) ((d_t27).kws K) (He.fAd K (d_t27).at_) fd) : L2.Fun K "codes_of" "codes_of" (top 27) (ga K "codes_of") fd := fun_of (st := top 27) D
theorem B_t27 {fd : FuncData} {K : Frag} {f : Addr} (F : L2.Fun K "codes_of" "codes_of" (top 27) f fd) : L2.Binds K fd ["text"] [] := F.binds fun _ _ _ _ _ _ us hl => match us, hl with | [_], _ => rfl
theorem F_t28 {fd : FuncData} {K : Frag} (D : FunD K (d_t28).name (d_t28).qual (d_t28).params (d_t28).body (d_t28).scope ((d_t28).dvs K) ((d_t28).kws K) (He.fAd K (d_t28).at_) fd) : L2.Fun K "integer" "integer" (top 28) (ga K "integer") fd := fun_of (st := top 28) D
theorem B_t28 {fd : FuncData} {K : Frag} {f : Addr} (F : L2.Fun K "integer" "integer" (top 28) f fd) : L2.Binds K fd ["number"] [] := F.binds fun _ _ _ _ _ _ us hl => match us, hl with | [_], _ => rfl
theorem F_t29 {fd : FuncData} {K : Frag} (D : FunD K (d_t29).name (d_t29).qual (d_t29).params (d_t29).body (d_t29).scope ((d_t29).dvs K) ((d_t29).kws K) (He.fAd K (d_t29).at_) fd) : L2.Fun K "text" "text" (top 29) (ga K "text") fd := fun_of (st := top 29) D
theorem B_t29 {fd : FuncData} {K : Frag} {f : Addr} (F : L2.Fun K "text" "text" (top 29) f fd) : L2.Binds K fd ["string"] [] := F.binds fun _ _ _ _ _ _ us hl => match us, hl with | [_], _ => rfl
theorem F_t30 {fd : FuncData} {K : Frag} (D : FunD K (d_t30).name (d_t30).qual (d_t30).params (d_t30).body (d_t30).scope ((d_t30).dvs K) ((d_t30).kws K) (He.fAd K (d_t30).at_) fd) : L2.Fun K "truth" "truth" (top 30) (ga K "truth") fd := fun_of (st := top 30) D
theorem B_t30 {fd : FuncData} {K : Frag} {f : Addr} (F : L2.Fun K "truth" "truth" (top 30) f fd) : L2.Binds K fd ["told"] [] := F.binds fun _ _ _ _ _ _ us hl => match us, hl with | [_], _ => rfl
theorem F_t31 {fd : FuncData} {K : Frag} (D : FunD K (d_t31).name (d_t31).qual (d_t31).params (d_t31).body (d_t31).scope ((d_t31).dvs K) ((d_t31).kws K) (He.fAd K (d_t31).at_) fd) : L2.Fun K "listed" "listed" (top 31) (ga K "listed") fd := fun_of (st := top 31) D
theorem B_t31 {fd : FuncData} {K : Frag} {f : Addr} (F : L2.Fun K "listed" "listed" (top 31) f fd) : L2.Binds K fd ["rows"] [] := F.binds fun _ _ _ _ _ _ us hl => match us, hl with | [_], _ => rfl
theorem F_t32 {fd : FuncData} {K : Frag} (D : FunD K (d_t32).name (d_t32).qual (d_t32).params (d_t32).body (d_t32).scope ((d_t32).dvs K) ((d_t32).kws K) (He.fAd K (d_t32).at_) fd) : L2.Fun K "integers" "integers" (top 32) (ga K "integers") fd := fun_of (st := top 32) D
theorem B_t32 {fd : FuncData} {K : Frag} {f : Addr} (F : L2.Fun K "integers" "integers" (top 32) f fd) : L2.Binds K fd ["rows"] [] := F.binds fun _ _ _ _ _ _ us hl => match us, hl with | [_], _ => rfl
theorem F_t33 {fd : FuncData} {K : Frag} (D : FunD K (d_t33).name (d_t33).qual (d_t33).params (d_t33).body (d_t33).scope ((d_t33).dvs K) ((d_t33).kws K) (He.fAd K (d_t33).at_) fd) : L2.Fun K "record" "record" (top 33) (ga K "record") fd := fun_of (st := top 33) D
theorem B_t33 {fd : FuncData} {K : Frag} {f : Addr} (F : L2.Fun K "record" "record" (top 33) f fd) : L2.Binds K fd ["pairs"] [] := F.binds fun _ _ _ _ _ _ us hl => match us, hl with | [_], _ => rfl
theorem F_t34 {fd : FuncData} {K : Frag} (D : FunD K (d_t34).name (d_t34).qual (d_t34).params (d_t34).body (d_t34).scope ((d_t34).dvs K) ((d_t34).kws K) (He.fAd K (d_t34).at_) fd) : L2.Fun K "low_first" "low_first" (top 34) (ga K "low_first") fd := fun_of (st := top 34) D
theorem B_t34 {fd : FuncData} {K : Frag} {f : Addr} (F : L2.Fun K "low_first" "low_first" (top 34) f fd) : L2.Binds K fd ["number", "many"] [] := F.binds fun _ _ _ _ _ _ us hl => match us, hl with | [_, _], _ => rfl
theorem F_t35 {fd : FuncData} {K : Frag} (D : FunD K (d_t35).name (d_t35).qual (d_t35).params (d_t35).body (d_t35).scope ((d_t35).dvs K) ((d_t35).kws K) (He.fAd K (d_t35).at_) fd) : L2.Fun K "octets_of" "octets_of" (top 35) (ga K "octets_of") fd := fun_of (st := top 35) D
theorem B_t35 {fd : FuncData} {K : Frag} {f : Addr} (F : L2.Fun K "octets_of" "octets_of" (top 35) f fd) : L2.Binds K fd ["value"] [] := F.binds fun _ _ _ _ _ _ us hl => match us, hl with | [_], _ => rfl
theorem F_c36_0 {fd : FuncData} {K : Frag} (D : FunD K (d_c36_0).name (d_c36_0).qual (d_c36_0).params (d_c36_0).body (d_c36_0).scope ((d_c36_0).dvs K) ((d_c36_0).kws K) (He.fAd K (d_c36_0).at_) fd) : L2.Fun K "__init__" "Request.__init__" (L2.inClass (top 36) 0) (ma K (ga K "Request") "__init__") fd := fun_of (st := L2.inClass (top 36) 0) D
theorem B_c36_0 {fd : FuncData} {K : Frag} {f : Addr} (F : L2.Fun K "__init__" "Request.__init__" (L2.inClass (top 36) 0) f fd) : L2.Binds K fd ["self", "octets"] [] := F.binds fun _ _ _ _ _ _ us hl => match us, hl with | [_, _], _ => rfl
theorem F_c36_1 {fd : FuncData} {K : Frag} (D : FunD K (d_c36_1).name (d_c36_1).qual (d_c36_1).params (d_c36_1).body (d_c36_1).scope ((d_c36_1).dvs K) ((d_c36_1).kws K) (He.fAd K (d_c36_1).at_) fd) : L2.Fun K "number" "Request.number" (L2.inClass (top 36) 1) (ma K (ga K "Request") "number") fd := fun_of (st := L2.inClass (top 36) 1) D
theorem B_c36_1 {fd : FuncData} {K : Frag} {f : Addr} (F : L2.Fun K "number" "Request.number" (L2.inClass (top 36) 1) f fd) : L2.Binds K fd ["self", "many"] [] := F.binds fun _ _ _ _ _ _ us hl => match us, hl with | [_, _], _ => rfl
theorem F_c36_2 {fd : FuncData} {K : Frag} (D : FunD K (d_c36_2).name (d_c36_2).qual (d_c36_2).params (d_c36_2).body (d_c36_2).scope ((d_c36_2).dvs K) ((d_c36_2).kws K) (He.fAd K (d_c36_2).at_) fd) : L2.Fun K "plain" "Request.plain" (L2.inClass (top 36) 2) (ma K (ga K "Request") "plain") fd := fun_of (st := L2.inClass (top 36) 2) D
theorem B_c36_2 {fd : FuncData} {K : Frag} {f : Addr} (F : L2.Fun K "plain" "Request.plain" (L2.inClass (top 36) 2) f fd) : L2.Binds K fd ["self"] [] := F.binds fun _ _ _ _ _ _ us hl => match us, hl with | [_], _ => rfl
theorem F_c36_3 {fd : FuncData} {K : Frag} (D : FunD K (d_c36_3).name (d_c36_3).qual (d_c36_3).params (d_c36_3).body (d_c36_3).scope ((d_c36_3).dvs K) ((d_c36_3).kws K) (He.fAd K (d_c36_3).at_) fd) : L2.Fun K "value" "Request.value" (L2.inClass (top 36) 3) (ma K (ga K "Request") "value") fd := fun_of (st := L2.inClass (top 36) 3) D
theorem B_c36_3 {fd : FuncData} {K : Frag} {f : Addr} (F : L2.Fun K "value" "Request.value" (L2.inClass (top 36) 3) f fd) : L2.Binds K fd ["self"] [] := F.binds fun _ _ _ _ _ _ us hl => match us, hl with | [_], _ => rfl
theorem F_c36_4 {fd : FuncData} {K : Frag} (D : FunD K (d_c36_4).name (d_c36_4).qual (d_c36_4).params (d_c36_4).body (d_c36_4).scope ((d_c36_4).dvs K) ((d_c36_4).kws K) (He.fAd K (d_c36_4).at_) fd) : L2.Fun K "whole" "Request.whole" (L2.inClass (top 36) 4) (ma K (ga K "Request") "whole") fd := fun_of (st := L2.inClass (top 36) 4) D
theorem B_c36_4 {fd : FuncData} {K : Frag} {f : Addr} (F : L2.Fun K "whole" "Request.whole" (L2.inClass (top 36) 4) f fd) : L2.Binds K fd ["self"] [] := F.binds fun _ _ _ _ _ _ us hl => match us, hl with | [_], _ => rfl
theorem F_c37_0 {fd : FuncData} {K : Frag} (D : FunD K (d_c37_0).name (d_c37_0).qual (d_c37_0).params (d_c37_0).body (d_c37_0).scope ((d_c37_0).dvs K) ((d_c37_0).kws K) (He.fAd K (d_c37_0).at_) fd) : L2.Fun K "__init__" "Refused.__init__" (L2.inClass (top 37) 0) (ma K (ga K "Refused") "__init__") fd := fun_of (st := L2.inClass (top 37) 0) D
theorem B_c37_0 {fd : FuncData} {K : Frag} {f : Addr} (F : L2.Fun K "__init__" "Refused.__init__" (L2.inClass (top 37) 0) f fd) : L2.Binds K fd ["self", "order", "message", "further"] [] := F.binds fun _ _ _ _ _ _ us hl => match us, hl with | [_, _, _, _], _ => rfl
theorem F_t38 {fd : FuncData} {K : Frag} (D : FunD K (d_t38).name (d_t38).qual (d_t38).params (d_t38).body (d_t38).scope ((d_t38).dvs K) ((d_t38).kws K) (He.fAd K (d_t38).at_) fd) : L2.Fun K "wrong_kind" "wrong_kind" (top 38) (ga K "wrong_kind") fd := fun_of (st := top 38) D
theorem B_t38 {fd : FuncData} {K : Frag} {f : Addr} (F : L2.Fun K "wrong_kind" "wrong_kind" (top 38) f fd) : L2.Binds K fd ["wrong", "message"] [] := F.binds fun _ _ _ _ _ _ us hl => match us, hl with | [_, _], _ => rfl
theorem F_t39 {fd : FuncData} {K : Frag} (D : FunD K (d_t39).name (d_t39).qual (d_t39).params (d_t39).body (d_t39).scope ((d_t39).dvs K) ((d_t39).kws K) (He.fAd K (d_t39).at_) fd) : L2.Fun K "out_of_range" "out_of_range" (top 39) (ga K "out_of_range") fd := fun_of (st := top 39) D
theorem B_t39 {fd : FuncData} {K : Frag} {f : Addr} (F : L2.Fun K "out_of_range" "out_of_range" (top 39) f fd) : L2.Binds K fd ["wrong", "message"] [] := F.binds fun _ _ _ _ _ _ us hl => match us, hl with | [_, _], _ => rfl
theorem F_t45 {fd : FuncData} {K : Frag} (D : FunD K (d_t45).name (d_t45).qual (d_t45).params (d_t45).body (d_t45).scope ((d_t45).dvs K) ((d_t45).kws K) (He.fAd K (d_t45).at_) fd) : L2.Fun K "split_at" "split_at" (top 45) (ga K "split_at") fd := fun_of (st := top 45) D
theorem B_t45 {fd : FuncData} {K : Frag} {f : Addr} (F : L2.Fun K "split_at" "split_at" (top 45) f fd) : L2.Binds K fd ["octets", "sign"] [] := F.binds fun _ _ _ _ _ _ us hl => match us, hl with | [_, _], _ => rfl
theorem F_t46 {fd : FuncData} {K : Frag} (D : FunD K (d_t46).name (d_t46).qual (d_t46).params (d_t46).body (d_t46).scope ((d_t46).dvs K) ((d_t46).kws K) (He.fAd K (d_t46).at_) fd) : L2.Fun K "number_in" "number_in" (top 46) (ga K "number_in") fd := fun_of (st := top 46) D
theorem B_t46 {fd : FuncData} {K : Frag} {f : Addr} (F : L2.Fun K "number_in" "number_in" (top 46) f fd) : L2.Binds K fd ["octets", "most"] [] := F.binds fun _ _ _ _ _ _ us hl => match us, hl with | [_, _], _ => rfl
theorem F_t47 {fd : FuncData} {K : Frag} (D : FunD K (d_t47).name (d_t47).qual (d_t47).params (d_t47).body (d_t47).scope ((d_t47).dvs K) ((d_t47).kws K) (He.fAd K (d_t47).at_) fd) : L2.Fun K "step_in" "step_in" (top 47) (ga K "step_in") fd := fun_of (st := top 47) D
theorem B_t47 {fd : FuncData} {K : Frag} {f : Addr} (F : L2.Fun K "step_in" "step_in" (top 47) f fd) : L2.Binds K fd ["octets"] [] := F.binds fun _ _ _ _ _ _ us hl => match us, hl with | [_], _ => rfl
theorem F_t48 {fd : FuncData} {K : Frag} (D : FunD K (d_t48).name (d_t48).qual (d_t48).params (d_t48).body (d_t48).scope ((d_t48).dvs K) ((d_t48).kws K) (He.fAd K (d_t48).at_) fd) : L2.Fun K "steps_in" "steps_in" (top 48) (ga K "steps_in") fd := fun_of (st := top 48) D
theorem B_t48 {fd : FuncData} {K : Frag} {f : Addr} (F : L2.Fun K "steps_in" "steps_in" (top 48) f fd) : L2.Binds K fd ["value"] [] := F.binds fun _ _ _ _ _ _ us hl => match us, hl with | [_], _ => rfl
theorem F_t49 {fd : FuncData} {K : Frag} (D : FunD K (d_t49).name (d_t49).qual (d_t49).params (d_t49).body (d_t49).scope ((d_t49).dvs K) ((d_t49).kws K) (He.fAd K (d_t49).at_) fd) : L2.Fun K "step_text" "step_text" (top 49) (ga K "step_text") fd := fun_of (st := top 49) D
theorem B_t49 {fd : FuncData} {K : Frag} {f : Addr} (F : L2.Fun K "step_text" "step_text" (top 49) f fd) : L2.Binds K fd ["step"] [] := F.binds fun _ _ _ _ _ _ us hl => match us, hl with | [_], _ => rfl
theorem F_t57 {fd : FuncData} {K : Frag} (D : FunD K (d_t57).name (d_t57).qual (d_t57).params (d_t57).body (d_t57).scope ((d_t57).dvs K) ((d_t57).kws K) (He.fAd K (d_t57).at_) fd) : L2.Fun K "member" "member" (top 57) (ga K "member") fd := fun_of (st := top 57) D
theorem B_t57 {fd : FuncData} {K : Frag} {f : Addr} (F : L2.Fun K "member" "member" (top 57) f fd) : L2.Binds K fd ["value", "name"] [] := F.binds fun _ _ _ _ _ _ us hl => match us, hl with | [_, _], _ => rfl
theorem F_t58 {fd : FuncData} {K : Frag} (D : FunD K (d_t58).name (d_t58).qual (d_t58).params (d_t58).body (d_t58).scope ((d_t58).dvs K) ((d_t58).kws K) (He.fAd K (d_t58).at_) fd) : L2.Fun K "step_of" "step_of" (top 58) (ga K "step_of") fd := fun_of (st := top 58) D
theorem B_t58 {fd : FuncData} {K : Frag} {f : Addr} (F : L2.Fun K "step_of" "step_of" (top 58) f fd) : L2.Binds K fd ["value"] [] := F.binds fun _ _ _ _ _ _ us hl => match us, hl with | [_], _ => rfl
theorem F_t59 {fd : FuncData} {K : Frag} (D : FunD K (d_t59).name (d_t59).qual (d_t59).params (d_t59).body (d_t59).scope ((d_t59).dvs K) ((d_t59).kws K) (He.fAd K (d_t59).at_) fd) : L2.Fun K "need_few" "need_few" (top 59) (ga K "need_few") fd := fun_of (st := top 59) D
theorem B_t59 {fd : FuncData} {K : Frag} {f : Addr} (F : L2.Fun K "need_few" "need_few" (top 59) f fd) : L2.Binds K fd ["is_right", "name"] [] := F.binds fun _ _ _ _ _ _ us hl => match us, hl with | [_, _], _ => rfl
theorem F_t60 {fd : FuncData} {K : Frag} (D : FunD K (d_t60).name (d_t60).qual (d_t60).params (d_t60).body (d_t60).scope ((d_t60).dvs K) ((d_t60).kws K) (He.fAd K (d_t60).at_) fd) : L2.Fun K "need_pipeline" "need_pipeline" (top 60) (ga K "need_pipeline") fd := fun_of (st := top 60) D
theorem B_t60 {fd : FuncData} {K : Frag} {f : Addr} (F : L2.Fun K "need_pipeline" "need_pipeline" (top 60) f fd) : L2.Binds K fd ["value", "name"] [] := F.binds fun _ _ _ _ _ _ us hl => match us, hl with | [_, _], _ => rfl
theorem F_t61 {fd : FuncData} {K : Frag} (D : FunD K (d_t61).name (d_t61).qual (d_t61).params (d_t61).body (d_t61).scope ((d_t61).dvs K) ((d_t61).kws K) (He.fAd K (d_t61).at_) fd) : L2.Fun K "need_number" "need_number" (top 61) (ga K "need_number") fd := fun_of (st := top 61) D
theorem B_t61 {fd : FuncData} {K : Frag} {f : Addr} (F : L2.Fun K "need_number" "need_number" (top 61) f fd) : L2.Binds K fd ["value", "most", "name"] [] := F.binds fun _ _ _ _ _ _ us hl => match us, hl with | [_, _, _], _ => rfl
theorem F_t62 {fd : FuncData} {K : Frag} (D : FunD K (d_t62).name (d_t62).qual (d_t62).params (d_t62).body (d_t62).scope ((d_t62).dvs K) ((d_t62).kws K) (He.fAd K (d_t62).at_) fd) : L2.Fun K "told_steps" "told_steps" (top 62) (ga K "told_steps") fd := fun_of (st := top 62) D
theorem B_t62 {fd : FuncData} {K : Frag} {f : Addr} (F : L2.Fun K "told_steps" "told_steps" (top 62) f fd) : L2.Binds K fd ["steps"] [] := F.binds fun _ _ _ _ _ _ us hl => match us, hl with | [_], _ => rfl
theorem F_t63 {fd : FuncData} {K : Frag} (D : FunD K (d_t63).name (d_t63).qual (d_t63).params (d_t63).body (d_t63).scope ((d_t63).dvs K) ((d_t63).kws K) (He.fAd K (d_t63).at_) fd) : L2.Fun K "told_window" "told_window" (top 63) (ga K "told_window") fd := fun_of (st := top 63) D
theorem B_t63 {fd : FuncData} {K : Frag} {f : Addr} (F : L2.Fun K "told_window" "told_window" (top 63) f fd) : L2.Binds K fd ["own"] [] := F.binds fun _ _ _ _ _ _ us hl => match us, hl with | [_], _ => rfl
theorem F_t64 {fd : FuncData} {K : Frag} (D : FunD K (d_t64).name (d_t64).qual (d_t64).params (d_t64).body (d_t64).scope ((d_t64).dvs K) ((d_t64).kws K) (He.fAd K (d_t64).at_) fd) : L2.Fun K "told_lengths" "told_lengths" (top 64) (ga K "told_lengths") fd := fun_of (st := top 64) D
theorem B_t64 {fd : FuncData} {K : Frag} {f : Addr} (F : L2.Fun K "told_lengths" "told_lengths" (top 64) f fd) : L2.Binds K fd ["found"] [] := F.binds fun _ _ _ _ _ _ us hl => match us, hl with | [_], _ => rfl
theorem F_t65 {fd : FuncData} {K : Frag} (D : FunD K (d_t65).name (d_t65).qual (d_t65).params (d_t65).body (d_t65).scope ((d_t65).dvs K) ((d_t65).kws K) (He.fAd K (d_t65).at_) fd) : L2.Fun K "parsed" "parsed" (top 65) (ga K "parsed") fd := fun_of (st := top 65) D
theorem B_t65 {fd : FuncData} {K : Frag} {f : Addr} (F : L2.Fun K "parsed" "parsed" (top 65) f fd) : L2.Binds K fd ["value"] [] := F.binds fun _ _ _ _ _ _ us hl => match us, hl with | [_], _ => rfl
theorem F_t66 {fd : FuncData} {K : Frag} (D : FunD K (d_t66).name (d_t66).qual (d_t66).params (d_t66).body (d_t66).scope ((d_t66).dvs K) ((d_t66).kws K) (He.fAd K (d_t66).at_) fd) : L2.Fun K "applied" "applied" (top 66) (ga K "applied") fd := fun_of (st := top 66) D
theorem B_t66 {fd : FuncData} {K : Frag} {f : Addr} (F : L2.Fun K "applied" "applied" (top 66) f fd) : L2.Binds K fd ["steps", "value"] [] := F.binds fun _ _ _ _ _ _ us hl => match us, hl with | [_, _], _ => rfl
theorem F_t67 {fd : FuncData} {K : Frag} (D : FunD K (d_t67).name (d_t67).qual (d_t67).params (d_t67).body (d_t67).scope ((d_t67).dvs K) ((d_t67).kws K) (He.fAd K (d_t67).at_) fd) : L2.Fun K "compared" "compared" (top 67) (ga K "compared") fd := fun_of (st := top 67) D
theorem B_t67 {fd : FuncData} {K : Frag} {f : Addr} (F : L2.Fun K "compared" "compared" (top 67) f fd) : L2.Binds K fd ["given"] [] := F.binds fun _ _ _ _ _ _ us hl => match us, hl with | [_], _ => rfl
theorem F_t68 {fd : FuncData} {K : Frag} (D : FunD K (d_t68).name (d_t68).qual (d_t68).params (d_t68).body (d_t68).scope ((d_t68).dvs K) ((d_t68).kws K) (He.fAd K (d_t68).at_) fd) : L2.Fun K "commuting" "commuting" (top 68) (ga K "commuting") fd := fun_of (st := top 68) D
theorem B_t68 {fd : FuncData} {K : Frag} {f : Addr} (F : L2.Fun K "commuting" "commuting" (top 68) f fd) : L2.Binds K fd ["given"] [] := F.binds fun _ _ _ _ _ _ us hl => match us, hl with | [_], _ => rfl
theorem F_t69 {fd : FuncData} {K : Frag} (D : FunD K (d_t69).name (d_t69).qual (d_t69).params (d_t69).body (d_t69).scope ((d_t69).dvs K) ((d_t69).kws K) (He.fAd K (d_t69).at_) fd) : L2.Fun K "told_reading" "told_reading" (top 69) (ga K "told_reading") fd := fun_of (st := top 69) D
theorem B_t69 {fd : FuncData} {K : Frag} {f : Addr} (F : L2.Fun K "told_reading" "told_reading" (top 69) f fd) : L2.Binds K fd ["steps", "value"] [] := F.binds fun _ _ _ _ _ _ us hl => match us, hl with | [_, _], _ => rfl
theorem F_t70 {fd : FuncData} {K : Frag} (D : FunD K (d_t70).name (d_t70).qual (d_t70).params (d_t70).body (d_t70).scope ((d_t70).dvs K) ((d_t70).kws K) (He.fAd K (d_t70).at_) fd) : L2.Fun K "on_pipeline" "on_pipeline" (top 70) (ga K "on_pipeline") fd := fun_of (st := top 70) D
theorem B_t70 {fd : FuncData} {K : Frag} {f : Addr} (F : L2.Fun K "on_pipeline" "on_pipeline" (top 70) f fd) : L2.Binds K fd ["door", "given"] [] := F.binds fun _ _ _ _ _ _ us hl => match us, hl with | [_, _], _ => rfl
theorem F_t71 {fd : FuncData} {K : Frag} (D : FunD K (d_t71).name (d_t71).qual (d_t71).params (d_t71).body (d_t71).scope ((d_t71).dvs K) ((d_t71).kws K) (He.fAd K (d_t71).at_) fd) : L2.Fun K "answer" "answer" (top 71) (ga K "answer") fd := fun_of (st := top 71) D
theorem B_t71 {fd : FuncData} {K : Frag} {f : Addr} (F : L2.Fun K "answer" "answer" (top 71) f fd) : L2.Binds K fd ["value", "is_done"] [] := F.binds fun _ _ _ _ _ _ us hl => match us, hl with | [_, _], _ => rfl
theorem F_c72_0 {fd : FuncData} {K : Frag} (D : FunD K (d_c72_0).name (d_c72_0).qual (d_c72_0).params (d_c72_0).body (d_c72_0).scope ((d_c72_0).dvs K) ((d_c72_0).kws K) (He.fAd K (d_c72_0).at_) fd) : L2.Fun K "__init__" "Stream.__init__" (L2.inClass (top 72) 0) (ma K (ga K "Stream") "__init__") fd := fun_of (st := L2.inClass (top 72) 0) D
theorem B_c72_0 {fd : FuncData} {K : Frag} {f : Addr} (F : L2.Fun K "__init__" "Stream.__init__" (L2.inClass (top 72) 0) f fd) : L2.Binds K fd ["self", "steps"] [] := F.binds fun _ _ _ _ _ _ us hl => match us, hl with | [_, _], _ => rfl
theorem F_c72_1 {fd : FuncData} {K : Frag} (D : FunD K (d_c72_1).name (d_c72_1).qual (d_c72_1).params (d_c72_1).body (d_c72_1).scope ((d_c72_1).dvs K) ((d_c72_1).kws K) (He.fAd K (d_c72_1).at_) fd) : L2.Fun K "up_to" "Stream.up_to" (L2.inClass (top 72) 1) (ma K (ga K "Stream") "up_to") fd := fun_of (st := L2.inClass (top 72) 1) D
theorem B_c72_1 {fd : FuncData} {K : Frag} {f : Addr} (F : L2.Fun K "up_to" "Stream.up_to" (L2.inClass (top 72) 1) f fd) : L2.Binds K fd ["self", "own"] [] := F.binds fun _ _ _ _ _ _ us hl => match us, hl with | [_, _], _ => rfl
theorem F_c72_2 {fd : FuncData} {K : Frag} (D : FunD K (d_c72_2).name (d_c72_2).qual (d_c72_2).params (d_c72_2).body (d_c72_2).scope ((d_c72_2).dvs K) ((d_c72_2).kws K) (He.fAd K (d_c72_2).at_) fd) : L2.Fun K "step" "Stream.step" (L2.inClass (top 72) 2) (ma K (ga K "Stream") "step") fd := fun_of (st := L2.inClass (top 72) 2) D
theorem B_c72_2 {fd : FuncData} {K : Frag} {f : Addr} (F : L2.Fun K "step" "Stream.step" (L2.inClass (top 72) 2) f fd) : L2.Binds K fd ["self", "item"] [] := F.binds fun _ _ _ _ _ _ us hl => match us, hl with | [_, _], _ => rfl
theorem F_c72_3 {fd : FuncData} {K : Frag} (D : FunD K (d_c72_3).name (d_c72_3).qual (d_c72_3).params (d_c72_3).body (d_c72_3).scope ((d_c72_3).dvs K) ((d_c72_3).kws K) (He.fAd K (d_c72_3).at_) fd) : L2.Fun K "end" "Stream.end" (L2.inClass (top 72) 3) (ma K (ga K "Stream") "end") fd := fun_of (st := L2.inClass (top 72) 3) D
theorem B_c72_3 {fd : FuncData} {K : Frag} {f : Addr} (F : L2.Fun K "end" "Stream.end" (L2.inClass (top 72) 3) f fd) : L2.Binds K fd ["self", "value", "is_failing"] [] := F.binds fun _ _ _ _ _ _ us hl => match us, hl with | [_, _, _], _ => rfl
theorem F_c73_0 {fd : FuncData} {K : Frag} (D : FunD K (d_c73_0).name (d_c73_0).qual (d_c73_0).params (d_c73_0).body (d_c73_0).scope ((d_c73_0).dvs K) ((d_c73_0).kws K) (He.fAd K (d_c73_0).at_) fd) : L2.Fun K "__init__" "Desk.__init__" (L2.inClass (top 73) 0) (ma K (ga K "Desk") "__init__") fd := fun_of (st := L2.inClass (top 73) 0) D
theorem B_c73_0 {fd : FuncData} {K : Frag} {f : Addr} (F : L2.Fun K "__init__" "Desk.__init__" (L2.inClass (top 73) 0) f fd) : L2.Binds K fd ["self"] [] := F.binds fun _ _ _ _ _ _ us hl => match us, hl with | [_], _ => rfl
theorem F_c73_1 {fd : FuncData} {K : Frag} (D : FunD K (d_c73_1).name (d_c73_1).qual (d_c73_1).params (d_c73_1).body (d_c73_1).scope ((d_c73_1).dvs K) ((d_c73_1).kws K) (He.fAd K (d_c73_1).at_) fd) : L2.Fun K "call" "Desk.call" (L2.inClass (top 73) 1) (ma K (ga K "Desk") "call") fd := fun_of (st := L2.inClass (top 73) 1) D
theorem B_c73_1 {fd : FuncData} {K : Frag} {f : Addr} (F : L2.Fun K "call" "Desk.call" (L2.inClass (top 73) 1) f fd) : L2.Binds K fd ["self", "door", "given"] [] := F.binds fun _ _ _ _ _ _ us hl => match us, hl with | [_, _, _], _ => rfl
theorem F_t74 {fd : FuncData} {K : Frag} (D : FunD K (d_t74).name (d_t74).qual (d_t74).params (d_t74).body (d_t74).scope ((d_t74).dvs K) ((d_t74).kws K) (He.fAd K (d_t74).at_) fd) : L2.Fun K "answered" "answered" (top 74) (ga K "answered") fd := fun_of (st := top 74) D
theorem B_t74 {fd : FuncData} {K : Frag} {f : Addr} (F : L2.Fun K "answered" "answered" (top 74) f fd) : L2.Binds K fd ["desk", "octets"] [] := F.binds fun _ _ _ _ _ _ us hl => match us, hl with | [_, _], _ => rfl
theorem F_t75 {fd : FuncData} {K : Frag} (D : FunD K (d_t75).name (d_t75).qual (d_t75).params (d_t75).body (d_t75).scope ((d_t75).dvs K) ((d_t75).kws K) (He.fAd K (d_t75).at_) fd) : L2.Fun K "answers" "answers" (top 75) (ga K "answers") fd := fun_of (st := top 75) D
theorem B_t75 {fd : FuncData} {K : Frag} {f : Addr} (F : L2.Fun K "answers" "answers" (top 75) f fd) : L2.Binds K fd ["calls"] [] := F.binds fun _ _ _ _ _ _ us hl => match us, hl with | [_], _ => rfl
section
variable {P : Program} {w : World} {K : Frag} {h : Heap} {mg : Str → Option Value}
abbrev Says (w : World) (h : Heap) (K : Frag) : Prop := He.SaysX fa fn [] tf ex w h K
theorem txt (KX : K.In h) (G : h.Ns mainGlobals mg) (c : Says w h K) : Txt K mg := by
  have m := c.more
  unfold ex at m
  obtain ⟨_, m⟩ := He.ba m
  obtain ⟨_, m⟩ := He.ba m
  obtain ⟨_, m⟩ := He.ba m
  obtain ⟨_, m⟩ := He.ba m
  obtain ⟨_, m⟩ := He.ba m
  obtain ⟨_, m⟩ := He.ba m
  obtain ⟨_, m⟩ := He.ba m
  obtain ⟨_, m⟩ := He.ba m
  obtain ⟨t1, m⟩ := He.ba m
  obtain ⟨t2, m⟩ := He.ba m
  obtain ⟨t3, m⟩ := He.ba m
  obtain ⟨t4, t5⟩ := He.ba m
  exact ⟨He.str_ok KX G (c.t.d.fact 103 (f := .str "HEAD" "head") rfl),
    He.str_ok KX G (c.t.d.fact 104 (f := .str "TAIL" "tail") rfl),
    He.str_ok KX G (c.t.d.fact 105 (f := .str "SKIP" "skip") rfl),
    He.str_ok KX G (c.t.d.fact 106 (f := .str "CHOP" "chop") rfl),
    He.int_ok KX G (c.t.d.fact 87 (f := .int "INTEGER" 4) rfl),
    He.int_ok KX G (c.t.d.fact 88 (f := .int "TEXT" 6) rfl),
    He.int_ok KX G (c.t.d.fact 89 (f := .int "LIST" 7) rfl),
    He.int_ok KX G (c.t.d.fact 90 (f := .int "RECORD" 8) rfl),
    He.int_ok KX G (c.t.d.fact 91 (f := .int "OCTETS" 10) rfl),
    He.int_ok KX G (c.t.d.fact 92 (f := .int "WORD" 18446744073709551616) rfl),
    He.int_ok KX G (c.t.d.fact 93 (f := .int "HALF" 9223372036854775808) rfl),
    He.int_ok KX G (c.t.d.fact 94 (f := .int "BAR" 124) rfl),
    He.int_ok KX G (c.t.d.fact 95 (f := .int "SPACE" 32) rfl),
    He.int_ok KX G (c.t.d.fact 96 (f := .int "MOST_DIGITS" 7) rfl),
    He.int_ok KX G (c.t.d.fact 97 (f := .int "MOST_COUNT_texts" 1000000) rfl),
    He.int_ok KX G (c.t.d.fact 98 (f := .int "MOST_ARGUMENTS" 2) rfl),
    He.int_ok KX G (c.t.d.fact 99 (f := .int "MOST_STEPS" 20) rfl),
    He.int_ok KX G (c.t.d.fact 100 (f := .int "MOST_COUNT_desk" 1000000) rfl),
    He.int_ok KX G (c.t.d.fact 101 (f := .int "MOST_ITEMS" 1000) rfl),
    He.int_ok KX G (c.t.d.fact 102 (f := .int "MOST_LENGTH" 1000000000) rfl),
    ⟨_, He.glo_ok KX G (c.t.d.fact 107 (f := .glo "NOTHING") rfl), fun H => He.tupB_ok t1 H⟩,
    ⟨_, He.glo_ok KX G (c.t.d.fact 108 (f := .glo "NULL") rfl), fun H => He.tupB_ok t2 H⟩,
    ⟨_, He.glo_ok KX G (c.t.d.fact 109 (f := .glo "FALSE") rfl), fun H => He.tupB_ok t3 H⟩,
    ⟨_, He.glo_ok KX G (c.t.d.fact 110 (f := .glo "TRUE") rfl), fun H => He.tupB_ok t4 H⟩,
    ⟨_, He.glo_ok KX G (c.t.d.fact 111 (f := .glo "KINDS") rfl), fun H => He.tupB_ok t5 H⟩,
    He.free_ok KX G (c.t.d.fact 112 (f := .free "min") rfl),
    He.free_ok KX G (c.t.d.fact 113 (f := .free "max") rfl),
    He.free_ok KX G (c.t.d.fact 114 (f := .free "len") rfl),
    He.free_ok KX G (c.t.d.fact 115 (f := .free "ord") rfl),
    He.free_ok KX G (c.t.d.fact 116 (f := .free "tuple") rfl),
    He.free_ok KX G (c.t.d.fact 117 (f := .free "list") rfl),
    He.free_ok KX G (c.t.d.fact 118 (f := .free "range") rfl),
    He.free_ok KX G (c.t.d.fact 119 (f := .free "str") rfl),
    He.free_ok KX G (c.t.d.fact 120 (f := .free "sorted") rfl),
    He.free_ok KX G (c.t.d.fact 121 (f := .free "sum") rfl),
    He.free_ok KX G (c.t.d.fact 122 (f := .free "all") rfl)⟩
theorem refc (KX : K.In h) (G : h.Ns mainGlobals mg) (c : Says w h K) : RefC K (ga K "Refused") ∧ PySem.W.findIn K (.ref (ga K "Refused")) "__init__" = some (some (.ref (ma K (ga K "Refused") "__init__"))) ∧ PySem.W.typeIn K (.ref (ma K (ga K "Refused") "__init__")) = some (.type "function") := by
  have m := c.more
  unfold ex at m
  obtain ⟨m1, m⟩ := He.ba m
  obtain ⟨m2, m⟩ := He.ba m
  obtain ⟨m3, m⟩ := He.ba m
  obtain ⟨m4, m⟩ := He.ba m
  obtain ⟨m5, m⟩ := He.ba m
  obtain ⟨m6, m⟩ := He.ba m
  obtain ⟨m7, m⟩ := He.ba m
  obtain ⟨m8, m⟩ := He.ba m
  exact ⟨⟨⟨oexB_ok m1, He.eqO_ok m2, of_decide_eq_true m3, of_decide_eq_true m4, m5⟩, L2.xfB_ok m6, He.noat_ok (c.t.d.fact 84 (f := .noat "Refused" "order") rfl), He.noat_ok (c.t.d.fact 85 (f := .noat "Refused" "message") rfl), He.noat_ok (c.t.d.fact 86 (f := .noat "Refused" "further") rfl)⟩, He.eqO_ok m7, of_decide_eq_true m8⟩
theorem txtNormal (c : Says w h K) : TxtN K (ga K "Normal") := ⟨He.cls_ok (c.t.d.fact 59 (f := .cls "Normal") rfl), He.noat_ok (c.t.d.fact 61 (f := .noat "Normal" "skipped") rfl), He.noat_ok (c.t.d.fact 62 (f := .noat "Normal" "chopped") rfl), He.noat_ok (c.t.d.fact 63 (f := .noat "Normal" "turns") rfl), He.noat_ok (c.t.d.fact 64 (f := .noat "Normal" "is_empty") rfl)⟩
theorem txtStream (c : Says w h K) : TxtS K (ga K "Stream") := ⟨He.cls_ok (c.t.d.fact 66 (f := .cls "Stream") rfl), He.noat_ok (c.t.d.fact 68 (f := .noat "Stream" "normal") rfl), He.noat_ok (c.t.d.fact 69 (f := .noat "Stream" "read_items") rfl), He.noat_ok (c.t.d.fact 70 (f := .noat "Stream" "returned") rfl), He.noat_ok (c.t.d.fact 71 (f := .noat "Stream" "is_started") rfl), He.noat_ok (c.t.d.fact 72 (f := .noat "Stream" "is_closed") rfl)⟩
theorem txtDesk (c : Says w h K) : TxtD K (ga K "Desk") := ⟨He.cls_ok (c.t.d.fact 74 (f := .cls "Desk") rfl), He.noat_ok (c.t.d.fact 76 (f := .noat "Desk" "streams") rfl)⟩
theorem txtRequest (c : Says w h K) : TxtR K (ga K "Request") := ⟨He.cls_ok (c.t.d.fact 78 (f := .cls "Request") rfl), He.noat_ok (c.t.d.fact 80 (f := .noat "Request" "octets") rfl), He.noat_ok (c.t.d.fact 81 (f := .noat "Request" "at") rfl)⟩
/-- the tables of the code objects that hold lambdas -/
def TT (K : Frag) : List NTab := [((He.cT K ("lengths_with", none)).2, fun _ _ => qLam)]

theorem all (KX : K.In h) (G : h.Ns mainGlobals mg) (c : Says w h K) : ∃ fd, L2.Binds K fd ["calls"] [] ∧ ∀ base : Heap, LamX.TabB base mg (He.cT K ("lengths_with", none)).1 (He.cT K ("lengths_with", none)).2 →
    FnOk P w K mg base CX0 39 (ga K "answers") fd ["calls"] (spF (TT K) (ga K "Refused") (S_answers K)) := by
  have X := txt KX G c
  obtain ⟨R, Ri, Rt⟩ := refc KX G c
  have tN := txtNormal c
  have tS := txtStream c
  have tD := txtDesk c
  have tR := txtRequest c
  have gNormal := He.glo_ok KX G (c.t.d.fact 58 (f := .glo "Normal") rfl)
  have gStream := He.glo_ok KX G (c.t.d.fact 65 (f := .glo "Stream") rfl)
  have gDesk := He.glo_ok KX G (c.t.d.fact 73 (f := .glo "Desk") rfl)
  have gRequest := He.glo_ok KX G (c.t.d.fact 77 (f := .glo "Request") rfl)
  have gRefused := He.glo_ok KX G (c.t.d.fact 82 (f := .glo "Refused") rfl)
  have kNormal := He.mkr_ok (c.t.d.fact 60 (f := .mkr "Normal") rfl)
  have kStream := He.mkr_ok (c.t.d.fact 67 (f := .mkr "Stream") rfl)
  have kDesk := He.mkr_ok (c.t.d.fact 75 (f := .mkr "Desk") rfl)
  have kRequest := He.mkr_ok (c.t.d.fact 79 (f := .mkr "Request") rfl)
  obtain ⟨fd_t5, D_t5⟩ := c.t.d.def_ 0 (d := d_t5) rfl
  have F_t5 := F_t5 D_t5
  have B_t5 := B_t5 F_t5
  have g_t5 := He.glo_ok KX G (c.t.d.fact 0 (f := .glo "window_pipelines") rfl)
  obtain ⟨fd_c7_0, D_c7_0⟩ := c.t.d.def_ 1 (d := d_c7_0) rfl
  have F_c7_0 := F_c7_0 D_c7_0
  have B_c7_0 := B_c7_0 F_c7_0
  obtain ⟨fd_c7_1, D_c7_1⟩ := c.t.d.def_ 2 (d := d_c7_1) rfl
  have F_c7_1 := F_c7_1 D_c7_1
  have B_c7_1 := B_c7_1 F_c7_1
  have m_c7_1 := He.meth_ok (c.t.d.fact 1 (f := .meth "Normal" "last") rfl)
  obtain ⟨fd_c7_2, D_c7_2⟩ := c.t.d.def_ 3 (d := d_c7_2) rfl
  have F_c7_2 := F_c7_2 D_c7_2
  have B_c7_2 := B_c7_2 F_c7_2
  have m_c7_2 := He.meth_ok (c.t.d.fact 2 (f := .meth "Normal" "take") rfl)
  obtain ⟨fd_c7_3, D_c7_3⟩ := c.t.d.def_ 4 (d := d_c7_3) rfl
  have F_c7_3 := F_c7_3 D_c7_3
  have B_c7_3 := B_c7_3 F_c7_3
  have m_c7_3 := He.meth_ok (c.t.d.fact 3 (f := .meth "Normal" "steps") rfl)
  obtain ⟨fd_c7_4, D_c7_4⟩ := c.t.d.def_ 5 (d := d_c7_4) rfl
  have F_c7_4 := F_c7_4 D_c7_4
  have B_c7_4 := B_c7_4 F_c7_4
  have m_c7_4 := He.meth_ok (c.t.d.fact 4 (f := .meth "Normal" "off") rfl)
  obtain ⟨fd_c7_5, D_c7_5⟩ := c.t.d.def_ 6 (d := d_c7_5) rfl
  have F_c7_5 := F_c7_5 D_c7_5
  have B_c7_5 := B_c7_5 F_c7_5
  have m_c7_5 := He.meth_ok (c.t.d.fact 5 (f := .meth "Normal" "joints") rfl)
  obtain ⟨fd_c7_6, D_c7_6⟩ := c.t.d.def_ 7 (d := d_c7_6) rfl
  have F_c7_6 := F_c7_6 D_c7_6
  have B_c7_6 := B_c7_6 F_c7_6
  have m_c7_6 := He.meth_ok (c.t.d.fact 6 (f := .meth "Normal" "beyond") rfl)
  obtain ⟨fd_c7_7, D_c7_7⟩ := c.t.d.def_ 8 (d := d_c7_7) rfl
  have F_c7_7 := F_c7_7 D_c7_7
  have B_c7_7 := B_c7_7 F_c7_7
  have m_c7_7 := He.meth_ok (c.t.d.fact 7 (f := .meth "Normal" "window") rfl)
  obtain ⟨fd_c7_8, D_c7_8⟩ := c.t.d.def_ 9 (d := d_c7_8) rfl
  have F_c7_8 := F_c7_8 D_c7_8
  have B_c7_8 := B_c7_8 F_c7_8
  have m_c7_8 := He.meth_ok (c.t.d.fact 8 (f := .meth "Normal" "last_start") rfl)
  obtain ⟨fd_c7_9, D_c7_9⟩ := c.t.d.def_ 10 (d := d_c7_9) rfl
  have F_c7_9 := F_c7_9 D_c7_9
  have B_c7_9 := B_c7_9 F_c7_9
  have m_c7_9 := He.meth_ok (c.t.d.fact 9 (f := .meth "Normal" "last_end") rfl)
  obtain ⟨fd_t8, D_t8⟩ := c.t.d.def_ 11 (d := d_t8) rfl
  have F_t8 := F_t8 D_t8
  have B_t8 := B_t8 F_t8
  have g_t8 := He.glo_ok KX G (c.t.d.fact 10 (f := .glo "around") rfl)
  obtain ⟨fd_t9, D_t9⟩ := c.t.d.def_ 12 (d := d_t9) rfl
  have F_t9 := F_t9 D_t9
  have B_t9 := B_t9 F_t9
  have g_t9 := He.glo_ok KX G (c.t.d.fact 11 (f := .glo "first_difference") rfl)
  obtain ⟨fd_t10, D_t10⟩ := c.t.d.def_ 13 (d := d_t10) rfl
  have F_t10 := F_t10 D_t10
  have B_t10 := B_t10 F_t10
  have g_t10 := He.glo_ok KX G (c.t.d.fact 12 (f := .glo "lengths_of") rfl)
  obtain ⟨fd_t11, D_t11⟩ := c.t.d.def_ 14 (d := d_t11) rfl
  have F_t11 := F_t11 D_t11
  have B_t11 := B_t11 F_t11
  have g_t11 := He.glo_ok KX G (c.t.d.fact 13 (f := .glo "first_length") rfl)
  obtain ⟨fd_t12, D_t12⟩ := c.t.d.def_ 15 (d := d_t12) rfl
  have F_t12 := F_t12 D_t12
  have B_t12 := B_t12 F_t12
  have g_t12 := He.glo_ok KX G (c.t.d.fact 14 (f := .glo "lengths_with") rfl)
  obtain ⟨fd_t13, D_t13⟩ := c.t.d.def_ 16 (d := d_t13) rfl
  have F_t13 := F_t13 D_t13
  have B_t13 := B_t13 F_t13
  have g_t13 := He.glo_ok KX G (c.t.d.fact 15 (f := .glo "reading") rfl)
  obtain ⟨fd_t14, D_t14⟩ := c.t.d.def_ 17 (d := d_t14) rfl
  have F_t14 := F_t14 D_t14
  have B_t14 := B_t14 F_t14
  have g_t14 := He.glo_ok KX G (c.t.d.fact 16 (f := .glo "capacity") rfl)
  obtain ⟨fd_t27, D_t27⟩ := c.t.d.def_ 18 (d := d_t27) rfl
  have F_t27 := F_t27 D_t27
  have B_t27 := B_t27 F_t27
  have g_t27 := He.glo_ok KX G (c.t.d.fact 17 (f := .glo "codes_of") rfl)
  obtain ⟨fd_t28, D_t28⟩ := c.t.d.def_ 19 (d := d_t28) rfl
  have F_t28 := F_t28 D_t28
  have B_t28 := B_t28 F_t28
  have g_t28 := He.glo_ok KX G (c.t.d.fact 18 (f := .glo "integer") rfl)
  obtain ⟨fd_t29, D_t29⟩ := c.t.d.def_ 20 (d := d_t29) rfl
  have F_t29 := F_t29 D_t29
  have B_t29 := B_t29 F_t29
  have g_t29 := He.glo_ok KX G (c.t.d.fact 19 (f := .glo "text") rfl)
  obtain ⟨fd_t30, D_t30⟩ := c.t.d.def_ 21 (d := d_t30) rfl
  have F_t30 := F_t30 D_t30
  have B_t30 := B_t30 F_t30
  have g_t30 := He.glo_ok KX G (c.t.d.fact 20 (f := .glo "truth") rfl)
  obtain ⟨fd_t31, D_t31⟩ := c.t.d.def_ 22 (d := d_t31) rfl
  have F_t31 := F_t31 D_t31
  have B_t31 := B_t31 F_t31
  have g_t31 := He.glo_ok KX G (c.t.d.fact 21 (f := .glo "listed") rfl)
  obtain ⟨fd_t32, D_t32⟩ := c.t.d.def_ 23 (d := d_t32) rfl
  have F_t32 := F_t32 D_t32
  have B_t32 := B_t32 F_t32
  have g_t32 := He.glo_ok KX G (c.t.d.fact 22 (f := .glo "integers") rfl)
  obtain ⟨fd_t33, D_t33⟩ := c.t.d.def_ 24 (d := d_t33) rfl
  have F_t33 := F_t33 D_t33
  have B_t33 := B_t33 F_t33
  have g_t33 := He.glo_ok KX G (c.t.d.fact 23 (f := .glo "record") rfl)
  obtain ⟨fd_t34, D_t34⟩ := c.t.d.def_ 25 (d := d_t34) rfl
  have F_t34 := F_t34 D_t34
  have B_t34 := B_t34 F_t34
  have g_t34 := He.glo_ok KX G (c.t.d.fact 24 (f := .glo "low_first") rfl)
  obtain ⟨fd_t35, D_t35⟩ := c.t.d.def_ 26 (d := d_t35) rfl
  have F_t35 := F_t35 D_t35
  have B_t35 := B_t35 F_t35
  have g_t35 := He.glo_ok KX G (c.t.d.fact 25 (f := .glo "octets_of") rfl)
  obtain ⟨fd_c36_0, D_c36_0⟩ := c.t.d.def_ 27 (d := d_c36_0) rfl
  have F_c36_0 := F_c36_0 D_c36_0
  have B_c36_0 := B_c36_0 F_c36_0
  obtain ⟨fd_c36_1, D_c36_1⟩ := c.t.d.def_ 28 (d := d_c36_1) rfl
  have F_c36_1 := F_c36_1 D_c36_1
  have B_c36_1 := B_c36_1 F_c36_1
  have m_c36_1 := He.meth_ok (c.t.d.fact 26 (f := .meth "Request" "number") rfl)
  obtain ⟨fd_c36_2, D_c36_2⟩ := c.t.d.def_ 29 (d := d_c36_2) rfl
  have F_c36_2 := F_c36_2 D_c36_2
  have B_c36_2 := B_c36_2 F_c36_2
  have m_c36_2 := He.meth_ok (c.t.d.fact 27 (f := .meth "Request" "plain") rfl)
  obtain ⟨fd_c36_3, D_c36_3⟩ := c.t.d.def_ 30 (d := d_c36_3) rfl
  have F_c36_3 := F_c36_3 D_c36_3
  have B_c36_3 := B_c36_3 F_c36_3
  have m_c36_3 := He.meth_ok (c.t.d.fact 28 (f := .meth "Request" "value") rfl)
  obtain ⟨fd_c36_4, D_c36_4⟩ := c.t.d.def_ 31 (d := d_c36_4) rfl
  have F_c36_4 := F_c36_4 D_c36_4
  have B_c36_4 := B_c36_4 F_c36_4
  have m_c36_4 := He.meth_ok (c.t.d.fact 29 (f := .meth "Request" "whole") rfl)
  obtain ⟨fd_c37_0, D_c37_0⟩ := c.t.d.def_ 32 (d := d_c37_0) rfl
  have F_c37_0 := F_c37_0 D_c37_0
  have B_c37_0 := B_c37_0 F_c37_0
  obtain ⟨fd_t38, D_t38⟩ := c.t.d.def_ 33 (d := d_t38) rfl
  have F_t38 := F_t38 D_t38
  have B_t38 := B_t38 F_t38
  have g_t38 := He.glo_ok KX G (c.t.d.fact 30 (f := .glo "wrong_kind") rfl)
  obtain ⟨fd_t39, D_t39⟩ := c.t.d.def_ 34 (d := d_t39) rfl
  have F_t39 := F_t39 D_t39
  have B_t39 := B_t39 F_t39
  have g_t39 := He.glo_ok KX G (c.t.d.fact 31 (f := .glo "out_of_range") rfl)
  obtain ⟨fd_t45, D_t45⟩ := c.t.d.def_ 35 (d := d_t45) rfl
  have F_t45 := F_t45 D_t45
  have B_t45 := B_t45 F_t45
  have g_t45 := He.glo_ok KX G (c.t.d.fact 32 (f := .glo "split_at") rfl)
  obtain ⟨fd_t46, D_t46⟩ := c.t.d.def_ 36 (d := d_t46) rfl
  have F_t46 := F_t46 D_t46
  have B_t46 := B_t46 F_t46
  have g_t46 := He.glo_ok KX G (c.t.d.fact 33 (f := .glo "number_in") rfl)
  obtain ⟨fd_t47, D_t47⟩ := c.t.d.def_ 37 (d := d_t47) rfl
  have F_t47 := F_t47 D_t47
  have B_t47 := B_t47 F_t47
  have g_t47 := He.glo_ok KX G (c.t.d.fact 34 (f := .glo "step_in") rfl)
  obtain ⟨fd_t48, D_t48⟩ := c.t.d.def_ 38 (d := d_t48) rfl
  have F_t48 := F_t48 D_t48
  have B_t48 := B_t48 F_t48
  have g_t48 := He.glo_ok KX G (c.t.d.fact 35 (f := .glo "steps_in") rfl)
  obtain ⟨fd_t49, D_t49⟩ := c.t.d.def_ 39 (d := d_t49) rfl
  have F_t49 := F_t49 D_t49
  have B_t49 := B_t49 F_t49
  have g_t49 := He.glo_ok KX G (c.t.d.fact 36 (f := .glo "step_text") rfl)
  obtain ⟨fd_t57, D_t57⟩ := c.t.d.def_ 40 (d := d_t57) rfl
  have F_t57 := F_t57 D_t57
  have B_t57 := B_t57 F_t57
  have g_t57 := He.glo_ok KX G (c.t.d.fact 37 (f := .glo "member") rfl)
  obtain ⟨fd_t58, D_t58⟩ := c.t.d.def_ 41 (d := d_t58) rfl
  have F_t58 := F_t58 D_t58
  have B_t58 := B_t58 F_t58
  have g_t58 := He.glo_ok KX G (c.t.d.fact 38 (f := .glo "step_of") rfl)
  obtain ⟨fd_t59, D_t59⟩ := c.t.d.def_ 42 (d := d_t59) rfl
  have F_t59 := F_t59 D_t59
  have B_t59 := B_t59 F_t59
  have g_t59 := He.glo_ok KX G (c.t.d.fact 39 (f := .glo "need_few") rfl)
  obtain ⟨fd_t60, D_t60⟩ := c.t.d.def_ 43 (d := d_t60) rfl
  have F_t60 := F_t60 D_t60
  have B_t60 := B_t60 F_t60
  have g_t60 := He.glo_ok KX G (c.t.d.fact 40 (f := .glo "need_pipeline") rfl)
  obtain ⟨fd_t61, D_t61⟩ := c.t.d.def_ 44 (d := d_t61) rfl
  have F_t61 := F_t61 D_t61
  have B_t61 := B_t61 F_t61
  have g_t61 := He.glo_ok KX G (c.t.d.fact 41 (f := .glo "need_number") rfl)
  obtain ⟨fd_t62, D_t62⟩ := c.t.d.def_ 45 (d := d_t62) rfl
  have F_t62 := F_t62 D_t62
  have B_t62 := B_t62 F_t62
  have g_t62 := He.glo_ok KX G (c.t.d.fact 42 (f := .glo "told_steps") rfl)
  obtain ⟨fd_t63, D_t63⟩ := c.t.d.def_ 46 (d := d_t63) rfl
  have F_t63 := F_t63 D_t63
  have B_t63 := B_t63 F_t63
  have g_t63 := He.glo_ok KX G (c.t.d.fact 43 (f := .glo "told_window") rfl)
  obtain ⟨fd_t64, D_t64⟩ := c.t.d.def_ 47 (d := d_t64) rfl
  have F_t64 := F_t64 D_t64
  have B_t64 := B_t64 F_t64
  have g_t64 := He.glo_ok KX G (c.t.d.fact 44 (f := .glo "told_lengths") rfl)
  obtain ⟨fd_t65, D_t65⟩ := c.t.d.def_ 48 (d := d_t65) rfl
  have F_t65 := F_t65 D_t65
  have B_t65 := B_t65 F_t65
  have g_t65 := He.glo_ok KX G (c.t.d.fact 45 (f := .glo "parsed") rfl)
  obtain ⟨fd_t66, D_t66⟩ := c.t.d.def_ 49 (d := d_t66) rfl
  have F_t66 := F_t66 D_t66
  have B_t66 := B_t66 F_t66
  have g_t66 := He.glo_ok KX G (c.t.d.fact 46 (f := .glo "applied") rfl)
  obtain ⟨fd_t67, D_t67⟩ := c.t.d.def_ 50 (d := d_t67) rfl
  have F_t67 := F_t67 D_t67
  have B_t67 := B_t67 F_t67
  have g_t67 := He.glo_ok KX G (c.t.d.fact 47 (f := .glo "compared") rfl)
  obtain ⟨fd_t68, D_t68⟩ := c.t.d.def_ 51 (d := d_t68) rfl
  have F_t68 := F_t68 D_t68
  have B_t68 := B_t68 F_t68
  have g_t68 := He.glo_ok KX G (c.t.d.fact 48 (f := .glo "commuting") rfl)
  obtain ⟨fd_t69, D_t69⟩ := c.t.d.def_ 52 (d := d_t69) rfl
  have F_t69 := F_t69 D_t69
  have B_t69 := B_t69 F_t69
  have g_t69 := He.glo_ok KX G (c.t.d.fact 49 (f := .glo "told_reading") rfl)
  obtain ⟨fd_t70, D_t70⟩ := c.t.d.def_ 53 (d := d_t70) rfl
  have F_t70 := F_t70 D_t70
  have B_t70 := B_t70 F_t70
  have g_t70 := He.glo_ok KX G (c.t.d.fact 50 (f := .glo "on_pipeline") rfl)
  obtain ⟨fd_t71, D_t71⟩ := c.t.d.def_ 54 (d := d_t71) rfl
  have F_t71 := F_t71 D_t71
  have B_t71 := B_t71 F_t71
  have g_t71 := He.glo_ok KX G (c.t.d.fact 51 (f := .glo "answer") rfl)
  obtain ⟨fd_c72_0, D_c72_0⟩ := c.t.d.def_ 55 (d := d_c72_0) rfl
  have F_c72_0 := F_c72_0 D_c72_0
  have B_c72_0 := B_c72_0 F_c72_0
  obtain ⟨fd_c72_1, D_c72_1⟩ := c.t.d.def_ 56 (d := d_c72_1) rfl
  have F_c72_1 := F_c72_1 D_c72_1
  have B_c72_1 := B_c72_1 F_c72_1
  have m_c72_1 := He.meth_ok (c.t.d.fact 52 (f := .meth "Stream" "up_to") rfl)
  obtain ⟨fd_c72_2, D_c72_2⟩ := c.t.d.def_ 57 (d := d_c72_2) rfl
  have F_c72_2 := F_c72_2 D_c72_2
  have B_c72_2 := B_c72_2 F_c72_2
  have m_c72_2 := He.meth_ok (c.t.d.fact 53 (f := .meth "Stream" "step") rfl)
  obtain ⟨fd_c72_3, D_c72_3⟩ := c.t.d.def_ 58 (d := d_c72_3) rfl
  have F_c72_3 := F_c72_3 D_c72_3
  have B_c72_3 := B_c72_3 F_c72_3
  have m_c72_3 := He.meth_ok (c.t.d.fact 54 (f := .meth "Stream" "end") rfl)
  obtain ⟨fd_c73_0, D_c73_0⟩ := c.t.d.def_ 59 (d := d_c73_0) rfl
  have F_c73_0 := F_c73_0 D_c73_0
  have B_c73_0 := B_c73_0 F_c73_0
  obtain ⟨fd_c73_1, D_c73_1⟩ := c.t.d.def_ 60 (d := d_c73_1) rfl
  have F_c73_1 := F_c73_1 D_c73_1
  have B_c73_1 := B_c73_1 F_c73_1
  have m_c73_1 := He.meth_ok (c.t.d.fact 55 (f := .meth "Desk" "call") rfl)
  obtain ⟨fd_t74, D_t74⟩ := c.t.d.def_ 61 (d := d_t74) rfl
  have F_t74 := F_t74 D_t74
  have B_t74 := B_t74 F_t74
  have g_t74 := He.glo_ok KX G (c.t.d.fact 56 (f := .glo "answered") rfl)
  obtain ⟨fd_t75, D_t75⟩ := c.t.d.def_ 62 (d := d_t75) rfl
  have F_t75 := F_t75 D_t75
  have B_t75 := B_t75 F_t75
  have g_t75 := He.glo_ok KX G (c.t.d.fact 57 (f := .glo "answers") rfl)
  refine ⟨fd_t75, B_t75, fun base TB => ?_⟩
  generalize hT : TT K = T
  have hPT : ((He.cT K ("lengths_with", none)).2, fun _ _ => qLam) ∈ T := by rw [← hT]; exact List.mem_cons_self
  have hu : ∀ p ∈ T, p.1 = (He.cT K ("lengths_with", none)).2 → p.2 = fun _ _ => qLam := fun p hp _ => by
    rw [← hT] at hp
    rw [List.mem_singleton.mp hp]
  have f_window : Fn P w K mg base CX0 1 "window_pipelines" ["steps", "length"] (spF T (ga K "Refused") (S_window K)) := ⟨_, _, ok_window F_t5 X, g_t5, F_t5.kp, B_t5⟩
  have m_last : Mt P w K mg base CX0 1 (ga K "Normal") "last" ["self"] (spF T (ga K "Refused") (S_last K (ga K "Normal"))) := ⟨_, _, ok_last F_c7_1 X tN, tN.cl, m_c7_1, B_c7_1⟩
  have m_steps : Mt P w K mg base CX0 1 (ga K "Normal") "steps" ["self"] (spF T (ga K "Refused") (S_steps K (ga K "Normal"))) := ⟨_, _, ok_steps F_c7_3 X tN, tN.cl, m_c7_3, B_c7_3⟩
  have m_off : Mt P w K mg base CX0 1 (ga K "Normal") "off" ["self"] (spF T (ga K "Refused") (S_off K (ga K "Normal"))) := ⟨_, _, ok_off F_c7_4 tN, tN.cl, m_c7_4, B_c7_4⟩
  have m_joints : Mt P w K mg base CX0 2 (ga K "Normal") "joints" ["self"] (spF T (ga K "Refused") (S_joints K (ga K "Normal"))) := ⟨_, _, ok_joints F_c7_5 tN m_off, tN.cl, m_c7_5, B_c7_5⟩
  have m_beyond : Mt P w K mg base CX0 3 (ga K "Normal") "beyond" ["self"] (spF T (ga K "Refused") (S_beyond K (ga K "Normal"))) := ⟨_, _, ok_beyond F_c7_6 X m_joints, tN.cl, m_c7_6, B_c7_6⟩
  have m_win : Mt P w K mg base CX0 2 (ga K "Normal") "window" ["self", "length"] (spF T (ga K "Refused") (S_nwin K (ga K "Normal"))) := ⟨_, _, ok_nwin F_c7_7 f_window m_steps, tN.cl, m_c7_7, B_c7_7⟩
  have m_ls : Mt P w K mg base CX0 4 (ga K "Normal") "last_start" ["self"] (spF T (ga K "Refused") (S_lastStart K (ga K "Normal"))) := ⟨_, _, ok_lastStart F_c7_8 m_beyond m_win, tN.cl, m_c7_8, B_c7_8⟩
  have m_le : Mt P w K mg base CX0 4 (ga K "Normal") "last_end" ["self"] (spF T (ga K "Refused") (S_lastEnd K (ga K "Normal"))) := ⟨_, _, ok_lastEnd F_c7_9 m_beyond m_win, tN.cl, m_c7_9, B_c7_9⟩
  have m_take : Mt P w K mg base CX0 2 (ga K "Normal") "take" ["self", "kind", "count"] (spO T K (ga K "Normal") (S_take K)) := ⟨_, _, ok_take F_c7_2 X tN m_last, tN.cl, m_c7_2, B_c7_2⟩
  have MN : MkN P w K mg base T (ga K "Normal") := ⟨⟨_, _, kNormal, ok_init F_c7_0 X tN m_take, B_c7_0⟩, gNormal⟩
  have N : NS P w K mg base T (ga K "Refused") (ga K "Normal") := ⟨tN, X, MN, m_last, m_steps, m_off, m_joints, m_beyond, m_win, m_ls, m_le⟩
  have f_around : Fn P w K mg base CX0 1 "around" ["joints"] (spF T (ga K "Refused") (S_around K)) := ⟨_, _, ok_around F_t8 X, g_t8, F_t8.kp, B_t8⟩
  have f_diff : Fn P w K mg base CX0 5 "first_difference" ["first", "second"] (spF T (ga K "Refused") (S_diff K)) := ⟨_, _, ok_diff F_t9 N f_around, g_t9, F_t9.kp, B_t9⟩
  have f_lof : Fn P w K mg base CX0 5 "lengths_of" ["steps", "size"] (spF T (ga K "Refused") (S_lof K)) := ⟨_, _, ok_lof F_t10 N, g_t10, F_t10.kp, B_t10⟩
  have f_reading : Fn P w K mg base CX0 5 "reading" ["own", "count"] (spF T (ga K "Refused") (S_reading K (ga K "Normal"))) := ⟨_, _, ok_reading F_t13 N, g_t13, F_t13.kp, B_t13⟩
  have f_cap : Fn P w K mg base CX0 6 "capacity" ["steps"] (spF T (ga K "Refused") (S_cap K)) := ⟨_, _, ok_cap F_t14 N f_around f_reading, g_t14, F_t14.kp, B_t14⟩
  have f_lwith : Fn P w K mg base CX0 5 "lengths_with" ["steps", "index"] (spF T (ga K "Refused") (S_lwith K)) := ⟨_, _, ok_lwith F_t12 (code_of (p := ("lengths_with", none)) F_t12) N F_t11 g_t11 B_t11 TB hPT hu (fun _ _ => rfl), g_t12, F_t12.kp, B_t12⟩
  have f_codes : Fn P w K mg base CX0 1 "codes_of" ["text"] (spF T (ga K "Refused") (S_codes K)) := ⟨_, _, ok_codes F_t27 X, g_t27, F_t27.kp, B_t27⟩
  have f_integer : Fn P w K mg base CX0 1 "integer" ["number"] (spF T (ga K "Refused") (S_integer K)) := ⟨_, _, ok_integer F_t28 X, g_t28, F_t28.kp, B_t28⟩
  have f_text : Fn P w K mg base CX0 2 "text" ["string"] (spF T (ga K "Refused") (S_text K)) := ⟨_, _, ok_text F_t29 X f_codes, g_t29, F_t29.kp, B_t29⟩
  have f_truth : Fn P w K mg base CX0 1 "truth" ["told"] (spF T (ga K "Refused") (S_truth K)) := ⟨_, _, ok_truth F_t30 X, g_t30, F_t30.kp, B_t30⟩
  have f_listed : Fn P w K mg base CX0 1 "listed" ["rows"] (spF T (ga K "Refused") (S_listed K)) := ⟨_, _, ok_listed F_t31 X, g_t31, F_t31.kp, B_t31⟩
  have f_record : Fn P w K mg base CX0 2 "record" ["pairs"] (spF T (ga K "Refused") (S_record K)) := ⟨_, _, ok_record F_t33 X f_codes, g_t33, F_t33.kp, B_t33⟩
  have f_low : Fn P w K mg base CX0 1 "low_first" ["number", "many"] (spF T (ga K "Refused") (S_low K)) := ⟨_, _, ok_low F_t34 X, g_t34, F_t34.kp, B_t34⟩
  have f_octs : ∀ n : Nat, Fn P w K mg base CX0 (2 + n) "octets_of" ["value"] (spF T (ga K "Refused") (S_oct K n)) := fun n => by
    induction n with
    | zero => exact ⟨_, _, ok_oct0 F_t35, g_t35, F_t35.kp, B_t35⟩
    | succ n ih => exact ⟨_, _, ok_octS F_t35 X f_low ih, g_t35, F_t35.kp, B_t35⟩
  have f_oct : Fn P w K mg base CX0 34 "octets_of" ["value"] (spF T (ga K "Refused") (S_oct K 32)) := f_octs 32
  have m_number : Mt P w K mg base CX0 1 (ga K "Request") "number" ["self", "many"] (spW (rqWd K (ga K "Request")) T (ga K "Refused") (S_number K)) := ⟨_, _, ok_number F_c36_1 X tR, tR.cl, m_c36_1, B_c36_1⟩
  have m_plain : Mt P w K mg base CX0 2 (ga K "Request") "plain" ["self"] (spW (rqWd K (ga K "Request")) T (ga K "Refused") (S_plain K)) := ⟨_, _, ok_plain F_c36_2 X tR m_number, tR.cl, m_c36_2, B_c36_2⟩
  have m_values : ∀ d : Nat, Mt P w K mg base CX0 (3 + d) (ga K "Request") "value" ["self"] (spW (rqWd K (ga K "Request")) T (ga K "Refused") (S_value K d)) := fun d => by
    induction d with
    | zero => exact ⟨_, _, ok_value0 F_c36_3, tR.cl, m_c36_3, B_c36_3⟩
    | succ d ih => exact ⟨_, _, ok_valueS F_c36_3 X tR m_number m_plain f_integer ih, tR.cl, m_c36_3, B_c36_3⟩
  have m_value : Mt P w K mg base CX0 35 (ga K "Request") "value" ["self"] (spW (rqWd K (ga K "Request")) T (ga K "Refused") (S_value K 32)) := m_values 32
  have m_whole : Mt P w K mg base CX0 36 (ga K "Request") "whole" ["self"] (spWhole K (ga K "Request") T) := ⟨_, _, ok_whole F_c36_4 X tR m_number m_value, tR.cl, m_c36_4, B_c36_4⟩
  have MR : ∃ fi fd, Mk K (ga K "Request") fi ∧ FnOk P w K mg base CX0 1 fi fd ["self", "octets"] (spO T K (ga K "Request") (S_rinit K)) ∧ L2.Binds K fd ["self", "octets"] [] := ⟨_, _, kRequest, ok_rinit F_c36_0 tR, B_c36_0⟩
  have f_split : Fn P w K mg base CX0 1 "split_at" ["octets", "sign"] (spF T (ga K "Refused") (S_split K)) := ⟨_, _, ok_split F_t45 X, g_t45, F_t45.kp, B_t45⟩
  have f_numin : Fn P w K mg base CX0 1 "number_in" ["octets", "most"] (spF T (ga K "Refused") (S_numin K)) := ⟨_, _, ok_numin F_t46 X, g_t46, F_t46.kp, B_t46⟩
  have f_stepin : Fn P w K mg base CX0 2 "step_in" ["octets"] (spF T (ga K "Refused") (S_stepin K)) := ⟨_, _, ok_stepin F_t47 X f_split f_codes f_numin, g_t47, F_t47.kp, B_t47⟩
  have f_stepsin : Fn P w K mg base CX0 3 "steps_in" ["value"] (spF T (ga K "Refused") (S_stepsin K)) := ⟨_, _, ok_stepsin F_t48 X f_split f_stepin, g_t48, F_t48.kp, B_t48⟩
  have f_steptext : Fn P w K mg base CX0 1 "step_text" ["step"] (spF T (ga K "Refused") (S_steptext K)) := ⟨_, _, ok_steptext F_t49 X, g_t49, F_t49.kp, B_t49⟩
  have RT : RefT P w K mg base (ga K "Refused") := ⟨R, gRefused, _, _, Ri, Rt, ok_refused F_c37_0 R ⟨rfl, rfl, rfl, by decide +kernel, rfl, by decide +kernel, by decide +kernel⟩ rfl (by decide +kernel), B_c37_0⟩
  have f_wk : Fn P w K mg base (CXL P w) 3 "wrong_kind" ["wrong", "message"] (spF T (ga K "Refused") (S_wk K 1)) := ⟨_, _, ok_wk F_t38 RT, g_t38, F_t38.kp, B_t38⟩
  have f_oor : Fn P w K mg base (CXL P w) 3 "out_of_range" ["wrong", "message"] (spF T (ga K "Refused") (S_wk K 2)) := ⟨_, _, ok_oor F_t39 RT, g_t39, F_t39.kp, B_t39⟩
  have f_few : Fn P w K mg base (CXL P w) 4 "need_few" ["is_right", "name"] (spF T (ga K "Refused") (S_few K)) := ⟨_, _, ok_few F_t59 f_wk, g_t59, F_t59.kp, B_t59⟩
  have f_member : Fn P w K mg base CX0 2 "member" ["value", "name"] (spF T (ga K "Refused") (S_member K)) := ⟨_, _, ok_member F_t57 X f_codes, g_t57, F_t57.kp, B_t57⟩
  have f_stepof : Fn P w K mg base CX0 3 "step_of" ["value"] (spF T (ga K "Refused") (S_stepof K)) := ⟨_, _, ok_stepof F_t58 X f_member f_text, g_t58, F_t58.kp, B_t58⟩
  have f_needp : Fn P w K mg base (CXL P w) 5 "need_pipeline" ["value", "name"] (spF T (ga K "Refused") (S_needp K)) := ⟨_, _, ok_needp F_t60 X f_few f_stepof, g_t60, F_t60.kp, B_t60⟩
  have f_needn : Fn P w K mg base (CXL P w) 4 "need_number" ["value", "most", "name"] (spF T (ga K "Refused") (S_needn K)) := ⟨_, _, ok_needn F_t61 X f_oor, g_t61, F_t61.kp, B_t61⟩
  have f_toldw : Fn P w K mg base CX0 3 "told_window" ["own"] (spF T (ga K "Refused") (S_toldw K)) := ⟨_, _, ok_toldw F_t63 f_record f_integer, g_t63, F_t63.kp, B_t63⟩
  have f_toldl : Fn P w K mg base CX0 3 "told_lengths" ["found"] (spF T (ga K "Refused") (S_toldl K)) := ⟨_, _, ok_toldl F_t64 X f_record f_integer, g_t64, F_t64.kp, B_t64⟩
  have f_tolds : Fn P w K mg base CX0 3 "told_steps" ["steps"] (spF T (ga K "Refused") (S_tolds K)) := ⟨_, _, ok_tolds F_t62 f_record f_integer f_text f_listed, g_t62, F_t62.kp, B_t62⟩
  have f_parsed : Fn P w K mg base (CXL P w) 5 "parsed" ["value"] (spF T (ga K "Refused") (S_parsed K)) := ⟨_, _, ok_parsed F_t65 X f_stepsin f_wk f_few f_tolds, g_t65, F_t65.kp, B_t65⟩
  have f_applied : Fn P w K mg base (CXL P w) 4 "applied" ["steps", "value"] (spF T (ga K "Refused") (S_applied K)) := ⟨_, _, ok_applied F_t66 X f_wk f_window f_listed, g_t66, F_t66.kp, B_t66⟩
  have f_compared : Fn P w K mg base (CXL P w) 6 "compared" ["given"] (spF T (ga K "Refused") (S_compared K)) := ⟨_, _, ok_compared F_t67 X f_needp f_diff f_record f_integer f_toldw f_window, g_t67, F_t67.kp, B_t67⟩
  have f_commuting : Fn P w K mg base (CXL P w) 6 "commuting" ["given"] (spF T (ga K "Refused") (S_commuting K)) := ⟨_, _, ok_commuting F_t68 N f_needp f_truth, g_t68, F_t68.kp, B_t68⟩
  have f_toldr : Fn P w K mg base (CXL P w) 6 "told_reading" ["steps", "value"] (spF T (ga K "Refused") (S_toldr K)) := ⟨_, _, ok_toldr F_t69 N f_reading f_needn f_record f_toldw, g_t69, F_t69.kp, B_t69⟩
  have O : OnS P w K mg base T (ga K "Refused") (ga K "Normal") := ⟨N, f_parsed, f_compared, f_commuting, f_needp, f_needn, f_text, f_steptext, f_applied, f_toldw, f_toldl, f_tolds, f_toldr, f_window, f_lof, f_lwith, f_cap, f_integer⟩
  have f_on : Fn P w K mg base (CXL P w) 7 "on_pipeline" ["door", "given"] (spF T (ga K "Refused") (S_on K)) := ⟨_, _, ok_on F_t70 O digOk, g_t70, F_t70.kp, B_t70⟩
  have f_answer : Fn P w K mg base CX0 3 "answer" ["value", "is_done"] (spF T (ga K "Refused") (S_answer K)) := ⟨_, _, ok_answer F_t71 f_record f_truth, g_t71, F_t71.kp, B_t71⟩
  have MS : ∃ fi fd, Mk K (ga K "Stream") fi ∧ FnOk P w K mg base CX0 5 fi fd ["self", "steps"] (spO T K (ga K "Stream") (S_sinit K (ga K "Normal"))) ∧ L2.Binds K fd ["self", "steps"] [] := ⟨_, _, kStream, ok_sinit F_c72_0 tS MN, B_c72_0⟩
  have m_upto : Mt P w K mg base CX0 2 (ga K "Stream") "up_to" ["self", "own"] (spW (strWd K (ga K "Stream") (ga K "Normal")) T (ga K "Refused") (S_upto K)) := ⟨_, _, ok_upto F_c72_1 X tS X.max f_listed, tS.cl, m_c72_1, B_c72_1⟩
  have m_step : Mt P w K mg base CX0 6 (ga K "Stream") "step" ["self", "item"] (spW (strWd K (ga K "Stream") (ga K "Normal")) T (ga K "Refused") (S_sstep K)) := ⟨_, _, ok_sstep F_c72_2 X tS f_listed f_answer f_reading m_upto, tS.cl, m_c72_2, B_c72_2⟩
  have m_end : Mt P w K mg base CX0 6 (ga K "Stream") "end" ["self", "value", "is_failing"] (spW (strWd K (ga K "Stream") (ga K "Normal")) T (ga K "Refused") (S_send K)) := ⟨_, _, ok_send F_c72_3 X tS f_record f_answer m_win m_upto, tS.cl, m_c72_3, B_c72_3⟩
  have m_call : Mt P w K mg base (CXL P w) 8 (ga K "Desk") "call" ["self", "door", "given"] (spW (dskWd K (ga K "Desk") (ga K "Stream") (ga K "Normal")) T (ga K "Refused") (S_call K)) := ⟨_, _, ok_call F_c73_1 X tD f_on f_needp MS gStream m_step m_end, tD.cl, m_c73_1, B_c73_1⟩
  have MD : ∃ fi fd, Mk K (ga K "Desk") fi ∧ FnOk P w K mg base CX0 1 fi fd ["self"] (spDI (ga K "Desk")) ∧ L2.Binds K fd ["self"] [] := ⟨_, _, kDesk, ok_dinit F_c73_0 tD, B_c73_0⟩
  have t_codes : FnT P w K mg base 1 "codes_of" ["text"] (spF T (ga K "Refused") (S_codesA K)) := ⟨_, _, ok_codesH F_t27 X, g_t27, F_t27.kp, B_t27⟩
  have t_low : FnT P w K mg base 1 "low_first" ["number", "many"] (spF T (ga K "Refused") (S_low K)) := ⟨_, _, ok_lowH F_t34 X, g_t34, F_t34.kp, B_t34⟩
  have hex := He.exm_ok (c.t.d.fact 83 (f := .exm "Refused" "Refused" true) rfl)
  have f_answered : Fn P w K mg base CX0 38 "answered" ["desk", "octets"] (spW (dskWd K (ga K "Desk") (ga K "Stream") (ga K "Normal")) T (ga K "Refused") (S_answered K)) := ⟨_, _, ok_answered F_t74 X R gRefused hex MR gRequest m_whole m_call f_oct t_codes t_low, g_t74, F_t74.kp, B_t74⟩
  exact ok_answers F_t75 X MD gDesk f_answered
end
end Tk
namespace Tk
open PySem PySem.Spec PyProof.Rows L2
open PySem.W (WData Codec OpenSpec Well WellAll ReadsW ReadsAllW)
/-- a call over one list of whole numbers, a code object's table among what may grow -/
theorem call_one {P : Program} {w : World} {K : PySem.W.Frag} {mg mb : Str → Option Value} {lv : Nat} {fa q1 q2 : Addr} {fd : FuncData} {x : Str} {sp : Sp} {s₁ : Shared} {vals : List Value} {ns : List Int} {R : PySem.W.WRecords} {cl : Str → Option Addr} {d0 : WData}
    (KX : K.In s₁.heap) (hns : s₁.heap.Ns mainGlobals mg) (hb : s₁.heap.Ns builtinsNs mb) (hbb : ∀ x : Str, x ≠ "__name__" → mb x = bootBuiltins x) (hlim : s₁.heap.NoLimit) (hg : s₁.gens = #[])
    (hbm : ∃ (bm : Addr) (ob : Obj), mg "__builtins__" = some (.ref bm) ∧ bm ≠ builtinsNs ∧ s₁.heap.get? bm = some ob ∧ ob.cls = .type "module" ∧ ob.dict = some builtinsNs ∧ ob.data = .plain)
    (tab : s₁.heap.get? q2 = some { cls := .none, data := .fields #[] }) (noK : K.lookup q2 = none) (C : PySem.W.CodeHd s₁.heap q1 q2)
    (well : WellAll w.params s₁.heap vals [.list (ns.map WData.int)]) (wt : ∀ d ∈ [WData.list (ns.map WData.int)], d.weight ≤ 1048576) (room : Room lv callerA)
    (F : ∀ base : Heap, LamX.TabB base mg q1 q2 → FnOk P w K mg base CX0 lv fa fd [x] sp) (bi : Binds K fd [x] [])
    (told : ∀ (H : Hp) (a : Addr), SqL K H a (ns.map V.int) → H q2 = some (.tbl #[]) → sp [.ref a] H (fun v H' => Dw K H' v d0) fun _ _ _ => False) :
    codeAny (model P w) callerA (.call (.ref fa) ⟨vals, []⟩) (fun r s' => ∃ u as, r = .ok (.ret u) ∧ ReadsW R cl s'.heap u d0 as ∧ OldK s₁.heap s'.heap ∧ s'.os = s₁.os ∧ AllBare s'.gens) s₁ := by
  have pl : plWs [.list (ns.map WData.int)] = true := by
    show (plWs (ns.map WData.int) && true) = true
    rw [plWs_map (fun _ => rfl) ns]
    rfl
  obtain ⟨A, inA, ar⟩ := area_all _ vals well pl wt
  have asD := dw_all KX ar _ vals well pl inA
  have rel := vals_toV inA
  obtain ⟨v, vs', rfl, x1, x2⟩ := well_cons well
  obtain ⟨a, its, rfl, ha, _⟩ := well_list x1
  cases x2
  -- the argument as it is tracked
  have sq : SqL K (argH K s₁.heap A) a (ns.map V.int) := by
    cases asD with
    | cons y1 y2 =>
      generalize ev : toV (Value.ref a) = vv at y1
      have ev : V.ref a = vv := ev
      subst ev
      cases y1 with
      | lst hs hall =>
        have e := ints_dw ns _ hall
        rw [e] at hs
        exact hs
  have none2 : argH K s₁.heap A q2 = none := by
    cases q : argH K s₁.heap A q2 with
    | none => rfl
    | some u =>
      obtain ⟨_, vs, _, _, ⟨e, _⟩ | ⟨e, _⟩⟩ := argH_is ar q
      · rw [tab] at e
        cases e
      · rw [tab] at e
        cases e
  generalize eH : (fun b => if b = q2 then some (HO.tbl #[]) else argH K s₁.heap A b : Hp) = H
  have at2 : H q2 = some (.tbl #[]) := by rw [← eH]; exact if_pos rfl
  have atN : ∀ b, b ≠ q2 → H b = argH K s₁.heap A b := fun b n => by rw [← eH]; exact if_neg n
  have seqs : ∀ b u, H b = some u → b = q2 ∨ (b ≠ q2 ∧ K.lookup b = none ∧ ∃ vs : List Value, vs.length ≤ sizeLine ∧ (∀ u ∈ vs, OkU A u) ∧
      ((s₁.heap.get? b = some { cls := .type "list", data := .seq vs.toArray } ∧ u = .frz { cls := .type "list", data := .seq vs.toArray } (.lst (vs.map toV))) ∨
        (s₁.heap.get? b = some { cls := .type "tuple", data := .seq vs.toArray } ∧ u = .frz { cls := .type "tuple", data := .seq vs.toArray } (.tup (vs.map toV))))) := fun b u e => by
    by_cases z : b = q2
    · exact .inl z
    · rw [atN b z] at e
      exact .inr ⟨z, argH_is ar e⟩
  have okH : HOk P w H s₁.heap := fun b u e => by
    rcases seqs b u e with rfl | ⟨_, _, vs, h1, h2, ⟨e1, rfl⟩ | ⟨e1, rfl⟩⟩
    · rw [at2] at e
      cases e
      exact tab
    · exact ⟨e1, by rw [List.length_map]; exact h1, vs, _, vals_toV h2, e1⟩
    · exact ⟨e1, by rw [List.length_map]; exact h1, vs, vals_toV h2, _, e1, rfl, _, rfl⟩
  -- what is neither a sequence nor the table is not tracked
  have off : ∀ {b : Addr} {o : Obj}, s₁.heap.get? b = some o → (∀ vs n, o.data ≠ .seq vs n) → o.data ≠ .fields #[] → H b = none := fun {b o} e n1 n2 => by
    cases q : H b with
    | none => rfl
    | some u =>
      rcases seqs b u q with rfl | ⟨_, _, vs, _, _, ⟨e1, _⟩ | ⟨e1, _⟩⟩
      · rw [tab] at e
        cases e
        exact (n2 rfl).elim
      · rw [e] at e1
        cases e1
        exact (n1 _ _ rfl).elim
      · rw [e] at e1
        cases e1
        exact (n1 _ _ rfl).elim
  have offD : ∀ {b : Addr} {o : Obj} {es : Array DictEntry} {ep : Nat}, s₁.heap.get? b = some o → o.data = .dict es ep → H b = none := fun {b o es ep} e d => off e (fun vs n z => by rw [d] at z; cases z) fun z => by rw [d] at z; cases z
  have offK : ∀ b o, K.lookup b = some o → H b = none := fun b o e => by
    cases q : H b with
    | none => rfl
    | some u =>
      rcases seqs b u q with rfl | ⟨_, n, _⟩
      · rw [noK] at e
        cases e
      · rw [n] at e
        cases e
  have keepN : ∀ {b : Addr} {m : Str → Option Value}, s₁.heap.Ns b m → (hidT s₁.heap H).Ns b m := fun {b m} ⟨o, es, ep, e, d, r⟩ => ⟨o, es, ep, hidT_get e (offD e d), d, r⟩
  have KB : K.In (hidT s₁.heap H) := fun b o e => hidT_get (KX b o e) (offK b o e)
  have mod : L2.Mod K mg (hidT s₁.heap H) := ⟨KB, keepN hns, ⟨mb, keepN hb, hbb⟩, let ⟨mc, h1, h2⟩ := hlim; ⟨mc, keepN h1, h2⟩⟩
  have TB : LamX.TabB (hidT s₁.heap H) mg q1 q2 := by
    refine ⟨?_, ?_, fun z => ?_⟩
    · obtain ⟨o, us, file, tf, flags, tg, inF, text, tt, e1, r1, r2, r3, rest⟩ := id C
      refine ⟨o, us, file, tf, flags, tg, inF, text, tt, hidT_get e1 (off e1 (fun vs n z => ?_) fun z => ?_), r1, r2, r3, rest⟩
      · rw [r2] at z
        cases z
      · rw [r2] at z
        cases z
        simp at r3
    · obtain ⟨bm, ob, b1, b2, b3, b4, b5, b6⟩ := hbm
      refine ⟨bm, ob, b1, b2, fun z => ?_, fun z => ?_, hidT_get b3 (off b3 (fun vs n z => ?_) fun z => ?_), b4, b5, b6⟩
      · obtain ⟨o, es, ep, e, d, _⟩ := hns
        rw [z, e] at b3
        cases b3
        rw [d] at b6
        cases b6
      · rw [z, tab] at b3
        cases b3
        cases b6
      · rw [b6] at z
        cases z
      · rw [b6] at z
        cases z
    · obtain ⟨o, es, ep, e, d, _⟩ := hns
      rw [z, tab] at e
      cases e
      cases d
  have env : Env0 P w K mg (hidT s₁.heap H) callerA [] s₁ H := ⟨rfl, mod, fun b o e => of_hidT e, Nat.le_of_eq (hidT_size _ _), trivial, fun b hb => absurd (show b ∈ ([] : List Addr) from hb) (by simp), okH, .of_eq hg⟩
  have sqH : SqL K H a (ns.map V.int) := by
    have na : a ≠ q2 := fun z => by
      rw [z, tab] at ha
      cases ha
    rcases sq with (q | ⟨o, q⟩) | q
    · exact .inl (.inl (by rw [atN a na]; exact q))
    · exact .inl (.inr ⟨o, by rw [atN a na]; exact q⟩)
    · exact .inr q
  have bound := bi s₁ [.ref a] KX rfl
  refine codeAny_mono ((F _ TB).run callerA [] s₁ H ⟨[.ref a], []⟩ [.ref a] [.ref a] _ _ room env bound (.cons rfl .nil) (told H a sqH at2)) fun r s' got => ?_
  match r, got with
  | .error e, got => exact (show False from got).elim
  | .ok .next, got => exact False.elim got
  | .ok .brk, got => exact False.elim got
  | .ok .cont, got => exact False.elim got
  | .ok (.ret u), got =>
    obtain ⟨v, H', os, bare, un, ok', r', q⟩ := got
    have kept : ∀ b o, b ≠ q2 → s₁.heap.get? b = some o → s'.heap.get? b = some o := fun b o n e => by
      cases z : H b with
      | none => exact un.keep b o e z (by intro y; exact absurd (show b ∈ ([] : List Addr) from y) (by simp)) (by simp)
      | some u2 =>
        have go : ∀ ob u3, u2 = .frz ob u3 → s'.heap.get? b = some o := fun ob u3 eu => by
          subst eu
          obtain ⟨y1, _⟩ := okH b _ z
          obtain ⟨y2, _⟩ := ok' b _ (un.frzs b ob _ z)
          rw [e] at y1
          cases y1
          exact y2
        rcases seqs b u2 z with y | ⟨_, _, vs, _, _, ⟨_, y⟩ | ⟨_, y⟩⟩
        · exact absurd y n
        · exact go _ _ y
        · exact go _ _ y
    obtain ⟨more, grown⟩ := un.tbls q2 #[] at2
    have grown := ok' q2 _ grown
    have K' : K.In s'.heap := fun b o e => kept b o (fun z => by rw [z, noK] at e; cases e) (KX b o e)
    obtain ⟨as, reads⟩ := Dw.reads (R := R) (cl := cl) ok' K' d0 v u q r'
    refine ⟨u, as, rfl, reads, ⟨fun b o e => ?_, fun b o e => ?_⟩, os, bare⟩
    · by_cases z : b = q2
      · subst z
        rw [tab] at e
        cases e
        exact .inr (.inl ⟨(C.tab tab).isCodeTable, rfl, #[], more, rfl, by rw [Array.empty_append]; rw [Array.empty_append] at grown; exact grown⟩)
      · exact .inl (kept b o z e)
    · by_cases z : b = q2
      · subst z
        exact ⟨_, grown⟩
      · exact ⟨o, kept b o z e⟩
end Tk
set_option maxHeartbeats 0
namespace Tk
open PySem PySem.Spec PyProof.Rows L2 Tw
open PySem.W (WData Codec OpenSpec)
theorem said : R.wellSaid = true := by decide +kernel
theorem walk : PySem.W.WalkOS qv names (PySem.W.XL qv []) hk.says R (HandSHeadRun.topDef R.prog 75) [] (fun f vs => PySem.call f vs) := by
  intro w s₀ s₁ mg mb G Y fa o pm cd doc dV kV ho hd hcd hD hmg hg args vals as hpre hlay hrd hwl hlo
  obtain ⟨a, e1, e2⟩ := PySem.W.os_pre_some hpre
  obtain ⟨e3, hwi⟩ := Codec.encAll_of_decAll R.args args a e1
  subst e3
  obtain ⟨K, KX, c⟩ := Y
  obtain ⟨fd, hb, hF⟩ := all (P := R.prog) KX G.T.g c
  have en : (HandSHeadRun.topDef R.prog 75).name = ("answers" : Str) := by kernel_rfl
  rw [en] at hmg
  have ef := hmg.symm.trans (He.glo_ok KX G.T.g (c.t.d.fact 57 (f := .glo "answers") rfl))
  cases ef
  have m2 := c.empty ("lengths_with", none) List.mem_cons_self
  have m3 := c.out ("lengths_with", none) List.mem_cons_self
  have m4 := PySem.W.codeHd_of_K KX (c.hd ("lengths_with", none) List.mem_cons_self)
  obtain ⟨ns, un⟩ := a
  have bd : (Codec.inLen 0 61000 ns && ns.all (Codec.inInt 0 65535) && true) = true := hwi
  rw [Bool.and_eq_true, Bool.and_eq_true] at bd
  have few : ns.length ≤ 61000 := (Codec.inNat_iff.mp bd.1.1).2
  have ask : PyZn78.answers_asked ns = true := e2
  refine PySem.W.enter_call (codeAny_mono (call_one (ns := ns) (R := []) (cl := classAt s₀.heap) (d0 := R.ret.enc (Codec.app R.args R.f (ns, un))) KX G.T.g G.T.b G.T.builtins G.T.nolimit hg G.T.bmain m2 m3 m4 hwl (layable_weight hlay) ⟨rfl, by decide, by decide⟩ hF hb fun H b sq at2 => ?_) fun r' s' hq => ?_)
  · refine ⟨ns, H, ⟨ask, few⟩, Ex.refl H, fun p hp => ?_, ⟨.ref b, [], rfl, ⟨b, rfl, sq⟩, rfl⟩, fun v F2 H2 g p => ?_⟩
    · rw [TT] at hp
      rw [List.mem_singleton.mp hp]
      exact ⟨#[], at2, trivial, fun pos cv z => by cases z⟩
    · obtain ⟨t, xs, rfl, h1, h2⟩ := p
      have ex := h2.ints
      subst ex
      exact .lst (SqL.of (g.ex.go h1)) (dw_ints _)
  · obtain ⟨u, as', rfl, h1, h2, h3, h4⟩ := hq
    exact ⟨.inl ⟨u, _, as', rfl, fun _ => rfl, h1, (OpenSpec.post_iff said hwi _ _).mpr rfl, fun z => Bool.noConfusion (show false = true from z)⟩, h2, h3, h4⟩
end Tk
open PySem PySem.W PySem.Calls PyProof.Rows
theorem PySem.Challenge.cw_trimlines_s01_answers_holds : PySem.Challenge.rw_trimlines_s01_answers.Holds := by
  w_on
  refine HandSHeadRun.head_spec (r := PySem.Challenge.rw_trimlines_s01_answers) (q := Tk.qv) (H := Tk.hk) (ob := Tk.ob) (M := 6000) (loose := Tk.names) (d := HandSHeadRun.topDef (PySem.Challenge.rw_trimlines_s01_answers).prog 75) (kwd := []) Tk.ob_eq
    (by kernel_rfl) (fun s => by kernel_rfl) Tk.run (by kernel_rfl) (by kernel_rfl) (by kernel_rfl) os_shapes Tk.said (by decide +kernel) ⟨rfl, rfl, rfl, rfl, rfl, by decide +kernel⟩ ?hw Tk.walk
  case hw => exact ⟨[.list [.int 0, .int 3, .int 0, .int 0, .int 0]], by decide +kernel, by decide +kernel⟩
#print axioms PySem.Challenge.cw_trimlines_s01_answers_holds
set_option maxHeartbeats 4000000
