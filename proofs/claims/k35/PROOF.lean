import PyProof.Rows.All
import Wide.All
import OpenK.AllK
import Wide.FinOn
import HandS.ForMost
import HandS.Walk
import HandS.Strs
import HandS.SetBool
import HandS.SetKeys
import HandS.WideBits
import HandS.Wide
import HandS.Style
import HandS.TupAny
import HandS.SortInts
import HandS.IsInst
import HandS.Deep
import HandS.Conv
import HandS.OwnEq
import HandS.SlotsOwn
import HandS.RaiseOp
import HandS.NoneIn
import KE.KDictDisplayH
import KE.GoesMore
import HandS.TupLen
import PySem.Challenge.RW_allwordlengths_k35_whole_sets_told_by_ru
set_option Elab.async false
set_option linter.all false
set_option maxRecDepth 100000
set_option maxHeartbeats 4000000
set_option Elab.async false
set_option linter.all false
set_option maxRecDepth 100000
set_option maxHeartbeats 4000000
/-! ## rules of our own -/
namespace KR
open PySem PySem.Spec PyProof.Rows L2
section
variable {X : Cx} {CX : CXT} {pins : List (Addr × Obj)} {σ : L2.St} {H : Hp} {s : Shared} {k : Nat} {f C : Addr} {fd : FuncData} {ps : List PySem.Str} {sp : Sp} {E : XK}
/-- a def is run at a place below the running body -/
theorem run_low {A : Around} {Q : VK} {us : List Value} {vs : List V} (F : FnOk X.prog X.w X.K X.mg X.base CX k f fd ps sp) (hr : Room k A) (hA : A.frames = X.A.frames) (hb : Binds X.K fd ps []) (hx : Passes CX X E) (I : Inv X pins σ H s) (rv : Vals vs us) (h : sp vs H Q E) :
    wpAny (model X.prog X.w) A (call (.ref f) us) (EP X pins σ Q) X.xe s := by
  have low : Env0 X.prog X.w X.K X.mg X.base A X.stack s H :=
    let e := I.env0
    ⟨by rw [hA, e.frames], e.mod, e.bs, e.bsz, e.funs, e.frf, e.hok, e.bare⟩
  have len := F.len vs H Q E h
  have bt := hb s us I.kIn (by rw [List.append_nil, ← rv.length, len])
  rw [List.append_nil] at bt
  refine wpAny_call (codeAny_mono (F.run A X.stack s H ⟨us, []⟩ us vs Q E hr low bt rv h) fun res s' out => ?_)
  match res, out with
  | .error e, out => exact hx pins σ H s e s' I out
  | .ok (.ret u), out => exact I.after out

/-- x == y: x an instance of the class at C, by the def at f -/
def rOwnEq (K : PySem.W.Frag) (C : Addr) (sp : Sp) (E : XK) : R2 := fun x y H Q => ∃ a dx fs t, x = .ref a ∧ H a = some (.ins C dx fs) ∧ TyX K H y t ∧ PySem.W.notFirst K C t = true ∧ sp [x, y] H Q E
theorem op_ownEq (F : FnOk X.prog X.w X.K X.mg X.base CX k f fd ps sp) (hr : Room k X.A) (hb : Binds X.K fd ps []) (hx : Passes CX X E) (hs : PySem.W.findIn X.K (.ref C) "__eq__" = some (some (.ref f))) (hf : PySem.W.isFn X.K (.ref f) = true) :
    OpR X (compareOp .Eq) (rOwnEq X.K C sp E) := by
  intro pins s σ H x y v u Q I rx ry h
  obtain ⟨a, dx, fs, t, rfl, ha, ty, nf, q⟩ := h
  cases (show v = Value.ref a from rx)
  obtain ⟨mA, O, _⟩ := ins_get I.hok ha
  obtain ⟨od, J, _⟩ := O.look
  obtain ⟨P, Z, p, _⟩ := kit_of I ry ty
  obtain ⟨m, fr⟩ := I.fr
  show wpAny _ _ (richCompare .Eq (.ref a) u) _ _ _
  refine PySem.W.cmp_K (op := .Eq) (tb := t) hr.units0 fr I.ok.mod.kin J (Z.ty _ _ I.kIn p) nf hs hf ?_
  refine thn (run_low (us := [.ref a, u]) F hr rfl hb hx I (.cons rx (.cons ry .nil)) q) fun w s' ⟨z, H', I', rz, qz⟩ => ?_
  exact SlX.cmpback rz ⟨z, H', I', rz, qz⟩

/-- y in x, by x's own def -/
def rOwnIn (C : Addr) (sp : Sp) (E : XK) (g : Bool → Bool) : R2 := fun x y H Q => ∃ a dx fs, y = .ref a ∧ H a = some (.ins C dx fs) ∧ sp [y, x] H (fun v H' => ∃ b, v = .bl b ∧ Q (.bl (g b)) H') E
theorem op_ownIn (F : FnOk X.prog X.w X.K X.mg X.base CX k f fd ps sp) (hr : Room k X.A) (hb : Binds X.K fd ps []) (hx : Passes CX X E) (hs : PySem.W.findIn X.K (.ref C) "__contains__" = some (some (.ref f))) (hf : PySem.W.isFn X.K (.ref f) = true) :
    OpR X (compareOp .In) (rOwnIn C sp E fun b => b) := by
  intro pins s σ H x y v u Q I rx ry h
  obtain ⟨a, dx, fs, rfl, ha, q⟩ := h
  cases (show u = Value.ref a from ry)
  obtain ⟨mA, O, _⟩ := ins_get I.hok ha
  obtain ⟨od, J, _⟩ := O.look
  obtain ⟨m, fr⟩ := I.fr
  refine PySem.W.in_K fr I.ok.mod.kin J hs hf ?_
  refine thn (run_low (us := [.ref a, v]) F hr rfl hb hx I (.cons ry (.cons rx .nil)) q) fun w s' ⟨z, H', I', rz, b, ez, qz⟩ => ?_
  subst ez
  cases (show w = Value.bool b from rz)
  exact wpAny_truthy_bool ⟨.bl b, H', I', rfl, qz⟩
theorem op_ownNotIn (F : FnOk X.prog X.w X.K X.mg X.base CX k f fd ps sp) (hr : Room k X.A) (hb : Binds X.K fd ps []) (hx : Passes CX X E) (hs : PySem.W.findIn X.K (.ref C) "__contains__" = some (some (.ref f))) (hf : PySem.W.isFn X.K (.ref f) = true) :
    OpR X (compareOp .NotIn) (rOwnIn C sp E fun b => !b) := by
  intro pins s σ H x y v u Q I rx ry h
  obtain ⟨a, dx, fs, rfl, ha, q⟩ := h
  cases (show u = Value.ref a from ry)
  obtain ⟨mA, O, _⟩ := ins_get I.hok ha
  obtain ⟨od, J, _⟩ := O.look
  obtain ⟨m, fr⟩ := I.fr
  refine PySem.W.notIn_K fr I.ok.mod.kin J hs hf ?_
  refine thn (run_low (us := [.ref a, v]) F hr rfl hb hx I (.cons ry (.cons rx .nil)) q) fun w s' ⟨z, H', I', rz, b, ez, qz⟩ => ?_
  subst ez
  cases (show w = Value.bool b from rz)
  exact wpAny_truthy_bool ⟨.bl (!b), H', I', rfl, qz⟩
end

section
variable {prog : Program} {w : World} {A : Around} {E : Value → Shared → Prop} {s : Shared} {K : PySem.W.Frag} {x C f : Addr} {ox : Obj} {od : Option Obj} {b tb : Value}
theorem ne_bind (self : Value) : bindSpecial (.builtin "object.__ne__") self = pure (.builtin "object.__ne__", [self]) := PySem.F.cmp_object.ne.bind self
/-- object.__ne__ of an instance with an own __eq__ -/
theorem ne_call {Q : Value → Shared → Prop} (hu : A.in1.units < cLine) (X : K.In s.heap) (I : PySem.W.InstAt s.heap x ox C od) (hm : PySem.W.mroIn K C (.type "object") = some true) (hs : PySem.W.findIn K (.ref C) "__eq__" = some (some (.ref f))) (hf : PySem.W.isFn K (.ref f) = true)
    (h : wpAny (model prog w) A.in1 (call (.ref f) [.ref x, b]) (fun r s' => ∃ c, r = .bool c ∧ Q (.bool (!c)) s') E s) : wpAny (model prog w) A (call (.builtin "object.__ne__") [.ref x, b]) Q E s := by
  refine wpAny_call (codeAny_call_builtin PySem.F.cmp_object.ne.plain PySem.F.cmpEntry_ne (PySem.W.check_slot PySem.F.cmpKind_ne PySem.F.cmpSplit_ne (I.type.andThen (PySem.W.looks_mroIn X hm)) (PySem.F.cmpArgs_ne _ _) ?_))
  unfold Builtin.«object.__ne__»
  refine wpAny_bind (m := slotArgs "__ne__" 1 _) (wpAny_pure ?_)
  refine wpAny_bind (m := cRoomFor _ _) (wpAny_cRoomFor hu ?_)
  refine wpAny_bind (m := callSpecialIfBound? (.ref x) (Str.ofString "__eq__") _) (PySem.W.ifBound_K X I hs hf (wpAny_mono h (fun r s' hq => ?_) fun _ _ y => y))
  obtain ⟨c, rfl, q⟩ := hq
  refine wpAny_bind (wpAny_truthy_bool ?_)
  exact wpAny_pure q
theorem ne_K {Q : Value → Shared → Prop} (hu : A.units + 1 < cLine) (X : K.In s.heap) (I : PySem.W.InstAt s.heap x ox C od) (hm : PySem.W.mroIn K C (.type "object") = some true) (hn : PySem.W.findIn K (.ref C) "__ne__" = some (some (.builtin "object.__ne__"))) (hs : PySem.W.findIn K (.ref C) "__eq__" = some (some (.ref f)))
    (hf : PySem.W.isFn K (.ref f) = true) (ht : PySem.W.Looks (model prog w) s.heap (typeOf b) tb) (nf : PySem.W.notFirst K C tb = true)
    (h : wpAny (model prog w) A.in1 (call (.ref f) [.ref x, b]) (fun r s' => ∃ c, r = .bool c ∧ Q (.bool (!c)) s') E s) : wpAny (model prog w) A (richCompare .NotEq (.ref x) b) Q E s := by
  have one : wpAny (model prog w) A (tryCompare (.ref x) "__ne__" b) (fun r s' => ∃ v, r = some v ∧ Q v s') E s := by
    unfold tryCompare
    refine wpAny_bind ?_
    simp only [callSpecialIfBound?, bindSpecialIfBound?]
    refine wpAny_holding (wpAny_bind (wpAny_bind (wpAny_bind (I.type.here ((PySem.W.looks_findIn X hn).here ?_)))))
    simp only [ne_bind]
    have fin : wpAny (model prog w) A (call (.builtin "object.__ne__") ([.ref x] ++ [b]) >>= fun v => pure (some v)) (fun r s' => wpAny (model prog w) A (match r with | some .notImplemented | none => pure none | some v => pure (some v)) (fun r s' => ∃ v, r = some v ∧ Q v s') E s') E s := by
      refine wpAny_bind (ne_call (Q := fun r s' => wpAny (model prog w) A (pure (some r)) _ E s') (show A.units + 1 < cLine from hu) X I hm hs hf (wpAny_mono h (fun r s' hq => ?_) fun _ _ y => y))
      obtain ⟨c, rfl, q⟩ := hq
      exact ⟨c, rfl, wpAny_pure (wpAny_pure ⟨_, rfl, q⟩)⟩
    refine wpAny_bind (wpAny_askSetting (wpAny_ite ?_))
    split
    · exact wpAny_bind (wpAny_pure (wpAny_pure fin))
    · exact wpAny_tryCatch (wpAny_bind (wpAny_pure (wpAny_pure fin)))
  unfold richCompare
  simp only [oneThing_ref]
  refine wpAny_holding (wpAny_bind (wpAny_cRoomFor (Nat.lt_of_succ_lt hu) ?_))
  refine wpAny_bind (I.type.here (wpAny_bind (ht.here ?_)))
  have tail : ∀ (c : Bool), c = false → wpAny (model prog w) A (pure c) (fun rf s' => rf = false ∧ s' = s) E s := fun c e => wpAny_pure ⟨e, rfl⟩
  split
  · rename_i q
    have e : PySem.W.subIn K tb (.ref C) = some false := by
      rcases Bool.or_eq_true_iff.mp nf with e | e
      · rw [beq_iff_eq.mp e] at q
        simp at q
      · exact beq_iff_eq.mp e
    refine wpAny_bind ((PySem.W.looks_subIn X e).here ?_)
    simp only [Bool.false_eq_true, if_false]
    refine wpAny_bind (wpAny_mono one (fun r s' z => ?_) fun _ _ e => e)
    obtain ⟨v, rfl, hq⟩ := z
    exact wpAny_pure hq
  · refine wpAny_bind (wpAny_pure ?_)
    simp only [Bool.false_eq_true, if_false]
    refine wpAny_bind (wpAny_mono one (fun r s' z => ?_) fun _ _ e => e)
    obtain ⟨v, rfl, hq⟩ := z
    exact wpAny_pure hq
end
section
variable {X : Cx} {CX : CXT} {k : Nat} {f C : Addr} {fd : FuncData} {ps : List PySem.Str} {sp : Sp} {E : XK}
/-- x != y by x's own __eq__ -/
def rOwnNe (K : PySem.W.Frag) (C : Addr) (sp : Sp) (E : XK) : R2 := fun x y H Q => ∃ a dx fs t, x = .ref a ∧ H a = some (.ins C dx fs) ∧ TyX K H y t ∧ PySem.W.notFirst K C t = true ∧ sp [x, y] H (fun v H' => ∃ b, v = .bl b ∧ Q (.bl (!b)) H') E
theorem op_ownNe (F : FnOk X.prog X.w X.K X.mg X.base CX k f fd ps sp) (hr : Room (k + 1) X.A) (hb : Binds X.K fd ps []) (hx : Passes CX X E) (hm : PySem.W.mroIn X.K C (.type "object") = some true) (hn : PySem.W.findIn X.K (.ref C) "__ne__" = some (some (.builtin "object.__ne__")))
    (hs : PySem.W.findIn X.K (.ref C) "__eq__" = some (some (.ref f))) (hf : PySem.W.isFn X.K (.ref f) = true) : OpR X (compareOp .NotEq) (rOwnNe X.K C sp E) := by
  intro pins s σ H x y v u Q I rx ry h
  obtain ⟨a, dx, fs, t, rfl, ha, ty, nf, q⟩ := h
  cases (show v = Value.ref a from rx)
  obtain ⟨mA, O, _⟩ := ins_get I.hok ha
  obtain ⟨od, J, _⟩ := O.look
  obtain ⟨P, Z, p, _⟩ := kit_of I ry ty
  show wpAny _ _ (richCompare .NotEq (.ref a) u) _ _ _
  refine ne_K (hu_of hr) I.kIn J hm hn hs hf (Z.ty _ _ I.kIn p) nf ?_
  refine thn (run_low (us := [.ref a, u]) F hr.in1 rfl hb hx I (.cons rx (.cons ry .nil)) q) fun w s' ⟨z, H', I', rz, b, ez, qz⟩ => ?_
  subst ez
  cases (show w = Value.bool b from rz)
  exact ⟨b, rfl, .bl (!b), H', I', rfl, qz⟩
end
end KR
namespace KR
open PySem PySem.Spec PyProof.Rows L2
/-! ### a set of ints made by a comprehension without tests -/
section
variable {X : Cx}
/-- the body of the set comprehension: D is the new set; Wk the promise kept from turn to turn -/
def tSetI (w : World) (wi : TI) (g : TG) (te : TE) (own : List Nat) : TE := fun σ H Q =>
  wi σ H fun J H1 => ∀ D, H1 D = none → ∃ Wk : Nat → Nat → Hp → Prop, (∃ m, Wk 0 m (upd H1 D (SetO w D (fun _ => false) 0))) ∧
    ∀ i m Hi, Wk i m Hi → (J.stop i Hi ∧ Q (.ref D) Hi) ∨
      (J.go i Hi ∧ ∃ Nx : Hp → Prop, (∀ Hn, Nx Hn → ∃ m', m' < m ∧ Wk (i + 1) m' Hn) ∧
        ∀ x Hx, J.yld i Hi x Hx → g x (wipe σ own) Hx fun σ2 H2 => wipe σ2 own = wipe σ own ∧
          te σ2 H2 fun y H3 => ∃ (c : Int) (S : Int → Bool) (n : Nat), y = .int c ∧ H3 D = some (SetO w D S n) ∧ n + 1 < scanBound ∧
            Nx (upd H3 D (SetO w D (fun j => S j || decide (j = c)) (if S c = true then n else n + 1))))
theorem freshFp {pins : List (Addr × Obj)} {H H' : Hp} {b : Addr} {n : Nat} (f : FpOk X pins H b) (hb : H' b = none) (hlt : b < n) : FpOk X pins H' b ∧ b < n := ⟨⟨hb, f.2⟩, hlt⟩
theorem pe_setI {elt tg iter : Expr} {scope : Scope} {own : List (PySem.Str × Nat)} {pos : Pos} {wi : TI} {g : TG} {te : TE} (hc : X.calm = true) (hN : X.N.Nodup) (hi : PI X tg iter wi) (ok : BlkOk X.N X.env.scope scope own)
    (hg : ∀ s0 H0 C cl fp, PG (X.blk s0 H0 scope (compEnvC scope cl C X.env) fp) tg g)
    (he : ∀ s0 H0 C cl fp, PE (X.blk s0 H0 scope (compEnvC scope cl C X.env) fp) elt te) (hs : ∀ x, foldedSetIterable iter X.env x = pure x := by intro _; rfl) :
    PE X (.SetComp elt [⟨tg, iter, [], 0⟩] scope pos) (tSetI X.w wi g te (own.map Prod.snd)) := by
  constructor
  intro pins s σ H Q I h
  rw [PpSet.eval_SetComp]
  have caught : ∀ y ∈ scope.names, y.2 = .free → ∃ c, X.env.cells.lookup y.1 = some c := by
    intro y hy e
    exact (ok.free y hy e).elim (fun k => I.ok.has _ (.inl k)) fun k => I.ok.has _ (.inr k)
  refine wpAny_comprehension_free (use := none) rfl hs (closure_ok caught) ok.kind (fun y hy e => by rw [ok.uniq y hy, e]) ?_
  refine thn (hi.run pins s σ H _ I h) fun xv s1 found => thn found fun itv s2 got => ?_
  obtain ⟨it, fp, tn, J, H2, rfl, I2, T, at2, fresh2, q⟩ := got
  refine PpSet.newSet_ok (newEnv_comp ?_)
  -- the new set stands at D
  have hD0 : H2 s2.heap.objs.size = none := I2.hok.fresh (Nat.le_refl _)
  obtain ⟨Wk, ⟨m0, w0⟩, turn⟩ := q s2.heap.objs.size hD0
  have laid : Inv X pins σ (upd H2 s2.heap.objs.size (SetO X.w s2.heap.objs.size (fun _ => false) 0)) { s2 with heap := s2.heap.push { cls := .type "set", dict := none, data := .set #[] 0 (.fresh 0 0 (!X.w.params.followText "set-order")) } } :=
    I2.laid (t' := s2.toks) (fun _ _ e => Heap.get?_push_of_some _ e) (Nat.le_refl _) (setO_new (setR_fresh X.w))
  have below : ∀ b ∈ fp, b < s2.heap.objs.size := fun b hb => let ⟨_, e, _⟩ := T.obj _ _ at2 b hb; Heap.lt_size e
  have apart : ∀ b ∈ fp, (upd H2 s2.heap.objs.size (SetO X.w s2.heap.objs.size (fun _ => false) 0)) b = none := fun b hb => by
    rw [upd_ne (Nat.ne_of_lt (below b hb))]
    exact (fresh2 b hb).1
  have at3 : tn 0 (s2.heap.push { cls := .type "set", dict := none, data := .set #[] 0 (.fresh 0 0 (!X.w.params.followText "set-order")) }) := T.keep _ _ _ at2 fun b _ o e => Heap.get?_push_of_some _ e
  have size3 : (s2.heap.push { cls := .type "set", dict := none, data := .set #[] 0 (.fresh 0 0 (!X.w.params.followText "set-order")) }).objs.size = s2.heap.objs.size + 1 := Heap.size_push ..
  generalize eD : s2.heap.objs.size = D at *
  generalize eh : s2.heap.push { cls := .type "set", dict := none, data := .set #[] 0 (.fresh 0 0 (!X.w.params.followText "set-order")) } = h3 at *
  generalize es3 : ({ s2 with heap := h3 } : Shared) = s3 at *
  have eh3 : s3.heap = h3 := by rw [← es3]
  generalize eH3 : upd H2 D (SetO X.w D (fun _ => false) 0) = H3 at *
  have fresh3 : ∀ b ∈ fp, FpOk X pins H3 b ∧ b < s3.heap.objs.size := fun b hb => freshFp (fresh2 b hb) (apart b hb) (by rw [eh3, size3]; exact Nat.lt_succ_of_lt (below b hb))
  have I4 := block_start laid ok hN fresh3
  rw [← eh3] at at3
  have kg := hg s3 H3 s3.heap.objs.size (cellsFrom (s3.heap.objs.size + 1) scope.names (cloFrom X.env.cells scope.names [])) fp
  have ke := he s3 H3 s3.heap.objs.size (cellsFrom (s3.heap.objs.size + 1) scope.names (cloFrom X.env.cells scope.names [])) fp
  have cL : (compEnvC scope (cellsFrom (s3.heap.objs.size + 1) scope.names (cloFrom X.env.cells scope.names [])) s3.heap.objs.size X.env).locals = s3.heap.objs.size := rfl
  show codeAny _ _ (.compStart _ 0 (.ref it) (.ref D) (compEnvC scope (cellsFrom (s3.heap.objs.size + 1) scope.names (cloFrom X.env.cells scope.names [])) s3.heap.objs.size X.env)) _ { s3 with heap := pushCells (s3.heap.push { cls := .type "dict", data := .dict #[] }) scope.names }
  have at4 : tn 0 (pushCells (s3.heap.push { cls := .type "dict", data := .dict #[] }) scope.names) := T.keep _ _ _ at3 fun b _ o e => pushCells_keeps _ _ _ _ (Heap.get?_push_of_some _ e)
  generalize compEnvC scope (cellsFrom (s3.heap.objs.size + 1) scope.names (cloFrom X.env.cells scope.names [])) s3.heap.objs.size X.env = ce at *
  generalize es4 : ({ s3 with heap := pushCells (s3.heap.push { cls := .type "dict", data := .dict #[] }) scope.names } : Shared) = s4 at *
  have at4 : tn 0 s4.heap := by rw [← es4]; exact at4
  have still : ∀ {σ' : L2.St} {H' : Hp} {s' : Shared}, Inv (X.blk s3 H3 scope ce fp) [] σ' H' s' → (∀ b ∈ fp, H' b = none) → ∀ b ∈ fp, FpOk (X.blk s3 H3 scope ce fp) [] H' b := by
    intro σ' H' s' I' hn b hb
    refine ⟨hn b hb, (I'.ok.exf b hb).1, I'.ok.exfs b hb, .inl hb, fun x c e => (I'.ok.exf b hb).2 x c e, fun p hp => ?_⟩
    exact absurd (show p ∈ ([] : List (Addr × Obj)) ++ [] from hp) (by simp)
  have loop : codeAny (model X.prog X.w) X.A (.compLoop (.SetComp elt [⟨tg, iter, [], 0⟩] scope pos) 0 (.ref it) (.ref D) ce) (compPost (model X.prog X.w) X.A X.xe none (EP X pins σ Q) (.ref D) s3.heap.objs.size) s4 := by
    refine PpSet.compLoopS_any (fun n s' => ∃ i Hi, Inv (X.blk s3 H3 scope ce fp) [] (wipe σ (own.map Prod.snd)) Hi s' ∧ tn i s'.heap ∧ (∀ b ∈ fp, Hi b = none) ∧ Wk i n Hi) ?_ m0 ⟨0, H3, I4, at4, apart, w0⟩
    rintro n s5 ⟨i, H5, I5, at5, n5, w5⟩
    rcases turn i n H5 w5 with ⟨stop, qe⟩ | ⟨go, Nx, less, step⟩
    · refine thnF (T.done (X.blk s3 H3 scope ce fp) rfl rfl rfl hc i [] s5 _ H5 (fun _ _ => False) I5 (still I5 n5) at5 stop) fun r s6 z => ?_
      obtain ⟨rfl, I6⟩ := z
      have I7 : Inv X pins σ H5 s6 := laid.call' (ch := fp) I6.os I6.base I6.hok I6.bare fun b hb => by
        obtain ⟨⟨_, a1, _, a2, a3, a4⟩, _⟩ := fresh3 b hb
        exact ⟨a2, a1, a3, a4⟩
      have nC : H5 s3.heap.objs.size = none := by
        have z : H5 ce.locals = none := I6.free
        rwa [cL] at z
      obtain ⟨mm, ns, _⟩ := I6.loc
      have ns : s6.heap.Ns ce.locals mm := ns
      rw [cL] at ns
      obtain ⟨f0, f1, f2, f3, f4, f5⟩ := laid.fpOk (Nat.le_refl _) nC
      exact ⟨mm, ns, fun h'' sb => ⟨.ref D, H5, I7.turned (t' := s6.toks) (fun b o hb e => (sb.2 b hb).trans e) f0 f1 f3 f4 f5, rfl, qe⟩⟩
    · refine thnF (T.item (X.blk s3 H3 scope ce fp) rfl rfl rfl hc i [] s5 _ H5 (fun _ _ => False) I5 (still I5 n5) at5 go) fun r s6 z => ?_
      obtain ⟨u, rfl, h6⟩ := z
      refine thnF h6 fun _ s7 z => ?_
      obtain ⟨x, H7, I7, r7, y7, at7, n7⟩ := z
      have pinned := I7.pinned (still I7 n7) (T.obj _ _ at7)
      refine thnF (kg.run _ s7 _ H7 x u _ pinned r7 (step x H7 y7)) fun _ s8 z => ?_
      obtain ⟨σ8, H8, I8, same, q8⟩ := z
      show wpAny _ _ (pure true) _ _ s8
      refine wpAny_pure ?_
      rw [if_pos rfl]
      refine thnF (ke.run _ s8 σ8 H8 _ I8 q8) fun val s9 z => ?_
      obtain ⟨y, H9, I9, ry, c, S, k, rfl, hS, room, nx⟩ := z
      refine thnF (mt_sadd (X := X.blk s3 H3 scope ce fp) _ s9 σ8 H9 (.ref D) [.int c] (.ref D) [val] (fun _ Hn => Nx Hn) I9 rfl (.cons ry .nil) ⟨D, c, S, k, rfl, rfl, hS, room, nx⟩) fun _ s10 z => ?_
      obtain ⟨_, H10, I10, _, nx⟩ := z
      obtain ⟨m', lt, w'⟩ := less H10 nx
      have kept : ∀ b ∈ fp, ∀ o, s7.heap.get? b = some o → s10.heap.get? b = some o ∧ H10 b = none := fun b hb o e =>
        let p := I10.pin (b, o) (List.mem_append_right _ (List.mem_append_right _ (mem_pinsAt hb e)))
        ⟨p.1, p.2.1⟩
      refine ⟨m', lt, i + 1, H10, (I10.unpinned (pins := [])).weak (by rw [← same, wipe_length]) (fun j v e => ?_), T.keep _ _ _ at7 fun b hb o e => (kept b hb o e).1, fun b hb => ?_, w'⟩
      · rw [← same] at e
        exact (wipe_some e).1
      · obtain ⟨o, e, _⟩ := T.obj _ _ at7 b hb
        exact (kept b hb o e).2
  exact PpSet.codeAny_compStart_set loop (T.self X.A 0 _ _ _ at4 loop)
end
/-- over a walk that the block leaves standing -/
theorem setI_it {w : World} {J : It} {n : Nat} {G : Hp → Prop} {Y : Nat → Hp → V → Hp → Prop} (wk : Walk J n G Y) {g : TG} {te : TE} {vs : List Nat} {σ : L2.St} {H1 : Hp} {D : Addr} {Qd : Hp → Prop} (Pv : Nat → Hp → Prop) (h0 : Pv 0 (upd H1 D (SetO w D (fun _ => false) 0)))
    (hG : ∀ i H, i ≤ n → Pv i H → G H)
    (hs : ∀ i x H H', i < n → Pv i H → Y i H x H' → g x (wipe σ vs) H' fun σ2 H2 => wipe σ2 vs = wipe σ vs ∧
      te σ2 H2 fun y H3 => ∃ (c : Int) (S : Int → Bool) (k : Nat), y = .int c ∧ H3 D = some (SetO w D S k) ∧ k + 1 < scanBound ∧ Pv (i + 1) (upd H3 D (SetO w D (fun j => S j || decide (j = c)) (if S c = true then k else k + 1)))) (hd : ∀ H, Pv n H → Qd H) :
    ∃ Wk : Nat → Nat → Hp → Prop, (∃ m, Wk 0 m (upd H1 D (SetO w D (fun _ => false) 0))) ∧
      ∀ i m Hi, Wk i m Hi → (J.stop i Hi ∧ Qd Hi) ∨
        (J.go i Hi ∧ ∃ Nx : Hp → Prop, (∀ Hn, Nx Hn → ∃ m', m' < m ∧ Wk (i + 1) m' Hn) ∧
          ∀ x Hx, J.yld i Hi x Hx → g x (wipe σ vs) Hx fun σ2 H2 => wipe σ2 vs = wipe σ vs ∧
            te σ2 H2 fun y H3 => ∃ (c : Int) (S : Int → Bool) (k : Nat), y = .int c ∧ H3 D = some (SetO w D S k) ∧ k + 1 < scanBound ∧
              Nx (upd H3 D (SetO w D (fun j => S j || decide (j = c)) (if S c = true then k else k + 1)))) := by
  refine ⟨fun i m Hi => m = n - i ∧ i ≤ n ∧ Pv i Hi, ⟨n, rfl, Nat.zero_le _, h0⟩, fun i m Hi hw => ?_⟩
  obtain ⟨rfl, hi, p⟩ := hw
  rcases Nat.lt_or_ge i n with lt | ge
  · exact .inr ⟨wk.goes i Hi lt (hG i Hi hi p), Pv (i + 1), fun Hn pn => ⟨n - (i + 1), by omega, rfl, lt, pn⟩, fun x Hx y => hs i x Hi Hx lt p (wk.yields i Hi x Hx lt (hG i Hi hi p) y)⟩
  · obtain rfl : i = n := by omega
    exact .inl ⟨wk.stops Hi (hG i Hi hi p), hd Hi p⟩
end KR
namespace KR
open PySem PySem.Spec PyProof.Rows L2
/-! ### a list or a tuple, whichever it is -/
def Sq (K : PySem.W.Frag) (H : Hp) (a : Addr) (xs : List V) : Prop := SqL K H a xs ∨ SqT K H a xs
theorem same_tup {K : PySem.W.Frag} {H H' : Hp} {a : Addr} {xs : List V} (e : Same H H') (h : SqT K H a xs) : SqT K H' a xs := by
  rcases h with (h | ⟨o, h⟩) | h
  · exact .inl (.inl (e _ _ h))
  · exact .inl (.inr ⟨o, e _ _ h⟩)
  · exact .inr h
theorem same_sq {K : PySem.W.Frag} {H H' : Hp} {a : Addr} {xs : List V} (e : Same H H') (h : Sq K H a xs) : Sq K H' a xs := h.imp (fun q => e.seq q) fun q => same_tup e q
theorem PI.both {X : Cx} {tg it : Expr} {wi wi' : TI} (h : PI X tg it wi) (h' : PI X tg it wi') : PI X tg it (fun σ H R => wi σ H R ∨ wi' σ H R) :=
  ⟨fun pins s σ H R I q => q.elim (fun q => h.run pins s σ H R I q) fun q => h'.run pins s σ H R I q⟩
/-- a for over the name in a slot -/
def iSq (K : PySem.W.Frag) (tl : TE) : TI := fun σ H R => iList K tl σ H R ∨ iTup K tl σ H R
theorem pi_sq {X : Cx} {tg l : Expr} {tl : TE} (hl : PE X l tl) : PI X tg l (iSq X.K tl) := PI.both (pi_list hl) (pi_tup hl)
section
variable {K : PySem.W.Frag} {a : Addr} {xs : List V} {σ : L2.St} {H : Hp} {i : Nat}
theorem sq_for {g : TG} {tb : TS} {D : Ends} (hv : σ[i]? = some (some (.ref a))) (h : Sq K H a xs) (Pv : Nat → L2.St → Hp → Prop) (h0 : Pv 0 σ H) (hG : ∀ j σ' H', Pv j σ' H' → Same H H')
    (hs : ∀ j x σ' H', xs[j]? = some x → Pv j σ' H' → g x σ' H' fun σ2 H2 => tb { D with nx := Pv (j + 1), ct := Pv (j + 1), bk := D.nx } σ2 H2) (hd : ∀ σ' H', Pv xs.length σ' H' → D.nx σ' H') : tFor (iSq K (tVar i)) g tb D σ H := by
  rcases h with h | h
  · exact .inl ⟨_, hv, a, rfl, ⟨_, h⟩, for_list (K := K) (a := a) (xs := xs) Pv h0 (fun j σ' H' _ p => (hG j σ' H' p).seq h) hs hd⟩
  · exact .inr ⟨_, hv, a, rfl, ⟨_, h⟩, for_tup (K := K) (a := a) (xs := xs) Pv h0 (fun j σ' H' _ p => same_tup (hG j σ' H' p) h) hs hd⟩
/-- a comprehension over the name in a slot -/
theorem sq_lc {g : TG} {tt : TT} {te : TE} {vs : List Nat} {Q : VK} (hv : σ[i]? = some (some (.ref a))) (h : Sq K H a xs) (Pv : Addr → Nat → Hp → Prop) (h0 : ∀ D, H D = none → Pv D 0 (upd H D (.lst []))) (hG : ∀ D j H', Pv D j H' → Same H H')
    (hs : ∀ D j x H', H D = none → xs[j]? = some x → Pv D j H' → g x (wipe σ vs) H' fun σ2 H2 => wipe σ2 vs = wipe σ vs ∧ tt σ2 H2 fun b H3 =>
      if b = true then te σ2 H3 fun y H4 => ∃ acc, H4 D = some (.lst acc) ∧ acc.length < sizeLine ∧ Pv D (j + 1) (upd H4 D (.lst (acc ++ [y]))) else Pv D (j + 1) H3)
    (hd : ∀ D H', H D = none → Pv D xs.length H' → Q (.ref D) H') : tLc (iSq K (tVar i)) g tt te vs σ H Q := by
  rcases h with h | h
  · refine .inl ⟨_, hv, a, rfl, ⟨_, h⟩, fun D hD => ?_⟩
    exact lc_list (K := K) (a := a) (xs := xs) (Pv D) (h0 D hD) (fun j H' _ p => (hG D j H' p).seq h) (fun j x H' hx p => hs D j x H' hD hx p) fun H' p => hd D H' hD p
  · refine .inr ⟨_, hv, a, rfl, ⟨_, h⟩, fun D hD => ?_⟩
    exact lc_tup (K := K) (a := a) (xs := xs) (Pv D) (h0 D hD) (fun j H' _ p => same_tup (hG D j H' p) h) (fun j x H' hx p => hs D j x H' hD hx p) fun H' p => hd D H' hD p
end

/-! ### enumerate of a tuple -/
end KR
namespace PySem.KRe
open PySem Builtin Builtin.Str
theorem enumT_end {prog : Program} {w : World} {A : Around} {E : Value → Shared → Prop} {s : Shared} {e it l : Addr} {i : Nat} {items : Array Value} {old : Value} {Q : Option Value → Shared → Prop} (hh : A.handled = none) (he : IsEnum s.heap e it i old) (hit : s.heap.IsTupleIter it l i) (hl : s.heap.IsTuple l items) (hx : items[i]? = none)
    (hQ : ∀ h', Heap.ExtBut it s.heap h' → Q none { s with heap := h' }) : wpAny (model prog w) A (pyNext (.ref e)) Q E s := by
  have hT : s.TypeIs (.ref e) "enumerate" := ⟨_, he, rfl⟩
  unfold pyNext
  refine wpAny_bind (wpAny_attempt (wpAny_callSpecial?_slot (name := Str.ofString "__next__") hT F.slot_enumerate_next (wpAny_call_entry F.slot_enumerate_next hT F.entry_enumerate_next ?_ (F.args_enumerate_next_1 _))))
  show wpAny _ _ (field (.ref e) 2 >>= _) _ _ _
  refine wpAny_bind (wpAny_field he rfl (x := .ref it) rfl ?_)
  refine wpAny_bind (wpAny_nextOf_tuple_end hh hit hl hx fun h' x he' hx' => ?_)
  obtain ⟨o, ho, hc⟩ := hx'
  refine wpAny_bind (wpAny_isInstance (T := "StopIteration") (b := true) ⟨o, ho, hc⟩ isSubtype_stop ?_)
  exact wpAny_pure (hQ _ he')
end PySem.KRe
namespace KR
open PySem PySem.Spec PyProof.Rows L2
theorem meets_enumT (t : Addr) (items : Array Value) : Meets (Builtin.«enumerate.__new__» ⟨[.type "enumerate", .ref t], []⟩) (fun _ R s => s.heap.IsTuple t items ∧
    R (.ok (.ret (.ref (s.heap.push { cls := .type "tuple_iterator", data := .fields #[.ref t, .int 0 0] }).objs.size)))
      { s with heap := (s.heap.push { cls := .type "tuple_iterator", data := .fields #[.ref t, .int 0 0] }).push { cls := .type "enumerate", data := .fields #[.none, .bool false, .ref s.heap.objs.size, rawInt 0, .none, .none] } }) :=
  .of_wp fun prog w A R s h => by
    obtain ⟨hp, g, d, tk, os⟩ := s
    obtain ⟨h1, h⟩ := h
    have sub := sub_enumerate
    have step : ∀ {A' : Around} {E : Value → Shared → Prop} {Q : Value → Shared → Prop}, Q (.ref hp.objs.size) ⟨hp.push { cls := .type "tuple_iterator", data := .fields #[.ref t, .int 0 0] }, g, d, tk, os⟩ → wpAny (model prog w) A' (pyIter (.ref t)) Q E ⟨hp, g, d, tk, os⟩ :=
      fun q => (begins_tuple t items).iter prog w _ _ ⟨hp, g, d, tk, os⟩ _ h1 q
    wp_walk using step
    refine wpAny_stack_any fun st => wpAny_pure ?_
    split
    · rename_i c _ _ _ _ _
      cases (c == Value.type "enumerate")
      · wp_walk using step
        exact ⟨_, rfl, h⟩
      · wp_walk using step
        exact ⟨_, rfl, h⟩
    · wp_walk using step
      exact ⟨_, rfl, h⟩
theorem call_enumT {prog : Program} {w : World} {A : Around} {E : Value → Shared → Prop} {s : Shared} {t : Addr} {items : Array Value} {Q : Value → Shared → Prop} (hT : s.heap.IsTuple t items)
    (h : ∀ h', IsEnum h' (s.heap.objs.size + 1) s.heap.objs.size 0 .none → h'.IsTupleIter s.heap.objs.size t 0 → h'.objs.size = s.heap.objs.size + 2 →
      (∀ b o, s.heap.get? b = some o → h'.get? b = some o) → Q (.ref (s.heap.objs.size + 1)) { s with heap := h' }) : wpAny (model prog w) A (call (.type "enumerate") [.ref t]) Q E s := by
  refine callType_new PySem.F.called_enumerate (by decide) (PySem.F.typeCall_enumerate_1 _) (PySem.F.newCall_enumerate_1 _) (fun obj => PySem.F.args_object_init_2 obj _) PySem.F.entry_enumerate_new (meets_enumT t items) ⟨hT, ?_⟩
  have hz : (s.heap.push { cls := .type "tuple_iterator", data := .fields #[.ref t, .int 0 0] }).objs.size = s.heap.objs.size + 1 := Heap.size_push ..
  have he := Heap.get?_push_size (s.heap.push { cls := .type "tuple_iterator", data := .fields #[.ref t, .int 0 0] }) (o := { cls := .type "enumerate", data := .fields #[.none, .bool false, .ref s.heap.objs.size, rawInt 0, .none, .none] }) rfl
  rw [hz] at he
  show _ ∧ _
  rw [hz]
  refine ⟨⟨_, he, rfl⟩, h _ he ⟨_, Heap.get?_push_of_some _ (Heap.get?_push_size _ rfl), rfl, rfl⟩ (by rw [Heap.size_push, hz]) fun b o x => ?_⟩
  exact Heap.get?_push_of_some _ (Heap.get?_push_of_some _ x)
/-- the tuple at a, each item in a new pair -/
def Iet (K : PySem.W.Frag) (a : Addr) : It :=
  ⟨fun i H => ∃ (xs : List V) (x : V), SqT K H a xs ∧ xs[i]? = some x, fun i H v H' => ∃ T x, v = .ref T ∧ H T = none ∧ H' = upd H T (.tup [.int (i : Nat), x]) ∧ ∀ xs, SqT K H a xs → xs[i]? = some x, fun i H => ∃ xs : List V, SqT K H a xs ∧ xs.length ≤ i⟩
theorem turn_enumT {P : Program} {w : World} {K : PySem.W.Frag} {elts : List Expr} {kk : Nat} {tpos : Pos} (a e it : Addr) :
    Turn P w K (.Tuple elts kk tpos) (Iet K a) [e, it] e (fun i h => (∃ old, IsEnum h e it ((i : Nat) : Int) old) ∧ h.IsTupleIter it a i ∧ e ≠ it) where
  mem := by simp
  obj := by
    intro i h st b hb
    obtain ⟨⟨old, he⟩, ⟨o, ho, _, hd⟩, _⟩ := st
    rcases (show b = e ∨ b = it by simpa using hb) with rfl | rfl
    · exact ⟨_, he, fun v q => nomatch q⟩
    · exact ⟨o, ho, fun v q => by rw [hd] at q; cases q⟩
  keep := by
    intro i h h' st k
    obtain ⟨⟨old, he⟩, hi, ne⟩ := st
    exact ⟨⟨old, k e (by simp) _ he⟩, hi.at fun o q => k it (by simp) o q, ne⟩
  item := by
    intro X hP hw hK hc i pins s σ H E I hf st hg
    subst hP hw hK
    obtain ⟨⟨old, he⟩, hit, hne⟩ := st
    obtain ⟨xs, x, hq, hx⟩ := hg
    obtain ⟨its, rv, p, hz⟩ := I.tuple hq
    have p : s.heap.IsTuple a its.toArray := p
    obtain ⟨u, hu, ru⟩ := rv.get hx
    have hel : e < s.heap.objs.size := Heap.lt_size he
    have hil : it < s.heap.objs.size := let ⟨_, q, _⟩ := hit; Heap.lt_size q
    have nai : a ≠ it := by
      intro z
      subst z
      obtain ⟨o1, e1, c1, _⟩ := p
      obtain ⟨o2, e2, c2, _⟩ := hit
      rw [e1] at e2
      cases e2
      have c3 : ("tuple" : String) = "tuple_iterator" := Value.type.inj (c1.symm.trans c2)
      exact absurd c3 (by decide)
    have nea : e ≠ a := by
      intro z
      subst z
      obtain ⟨o1, e1, c1, _⟩ := p
      have e2 : s.heap.get? e = _ := he
      rw [e1] at e2
      have c3 : ("enumerate" : String) = "tuple" := Value.type.inj ((congrArg Obj.cls (Option.some.inj e2)).symm.trans c1)
      exact absurd c3 (by decide)
    have lt : i < its.toArray.size := by
      have q := (List.getElem?_eq_some_iff.mp hu).1
      simpa using q
    refine wpAny_pyNext_enum_itemD (Draws.tuple (show X.A.in1.handled = none from I.ok.hd hc) it a nai its.toArray) he ⟨hit, p⟩ lt hne (by simp [hne, nea]) fun y h' tk hy ho hst hT hsz hk => ?_
    have ey : y = u := by
      have q : its.toArray[i]? = some y := hy
      rw [List.getElem?_toArray, hu] at q
      exact (Option.some.inj q).symm
    subst ey
    refine ⟨_, rfl, wpAny_letOwnedTupleGo_enum (s := { s with heap := h', toks := tk + 1 }) ho fun h'' he' sb => ?_⟩
    have hT2 := (sb.2 _ (Nat.ne_of_gt hel)).trans hT
    have new : ObjOk X.prog X.w (upd H s.heap.objs.size (.tup [.int (i : Nat), x])) h'' s.heap.objs.size (.tup [.int (i : Nat), x]) :=
      ⟨show 2 ≤ sizeLine by decide, [.int i tk, y], .cons ⟨_, rfl⟩ (.cons ru .nil), ⟨_, hT2, rfl, _, rfl⟩⟩
    have I1 : Inv X pins σ (upd H s.heap.objs.size (.tup [.int (i : Nat), x])) { s with heap := h'', toks := tk + 1 } := by
      refine I.turnedNew (ch := [e, it]) (fun b ob hb q => ?_) hf (Nat.le_refl _) new
      have b1 : b ≠ e := fun z => hb (by simp [z])
      have b2 : b ≠ it := fun z => hb (by simp [z])
      exact (sb.2 b b1).trans (hk b ob b1 b2 q)
    refine ⟨.ref s.heap.objs.size, _, I1, rfl, ⟨_, x, rfl, I.hok.fresh (Nat.le_refl _), rfl, fun ys hy => by rw [I.tuple_inj hy hq]; exact hx⟩, ⟨⟨y, ?_⟩, hst.1.at fun o q => (sb.2 it (Ne.symm hne)).trans q, hne⟩, fun b hb => ?_⟩
    · rw [show ((i + 1 : Nat) : Int) = (i : Int) + 1 by omega]
      exact he'
    · have lb : b < s.heap.objs.size := by
        rcases (show b = e ∨ b = it by simpa using hb) with rfl | rfl
        · exact hel
        · exact hil
      rw [upd_ne (Nat.ne_of_lt lb)]
      exact (hf b hb).1
  done := by
    intro X hP hw hK hc i pins s σ H E I hf st hg
    subst hP hw hK
    obtain ⟨⟨old, he⟩, hit, hne⟩ := st
    obtain ⟨xs, hq, hx⟩ := hg
    obtain ⟨its, rv, p, hz⟩ := I.tuple hq
    have p : s.heap.IsTuple a its.toArray := p
    obtain ⟨f0, f1, f2, f3, f4, f5⟩ := hf it (by simp)
    exact PySem.KRe.enumT_end (I.ok.hd hc) he hit p (by have := rv.length; simp; omega) fun h' eb => ⟨rfl, I.turned (t' := s.toks) (fun b o hb q => eb b o hb q) f0 f1 f3 f4 f5⟩
  self := fun A i s Q E st h => let ⟨⟨_, he⟩, _⟩ := st; wpAny_pyIter_enum he h
def iEnumT (K : PySem.W.Frag) (ta : TA) : TI := fun σ H R => ta σ H fun vs H1 => ∃ a xs, vs = [.ref a] ∧ SqT K H1 a xs ∧ R (Iet K a) H1
theorem pi_enumT {X : Cx} {e : Expr} {ta : TA} {p pos tpos : Pos} {elts : List Expr} {kk : Nat} (hg : Gl X "enumerate") (hm : X.mg "enumerate" = none) (ha : PA X [e] ta) (hs : starEach [e] X.env = [(false, eval e X.env)] := by rfl) :
    PI X (.Tuple elts kk tpos) (.Call (.Name "enumerate" p) [e] [] pos) (iEnumT X.K ta) := by
  constructor
  intro pins s σ H R I h
  refine Call_ (ld_blt I hg hm boot_enumerate (PyProof.Rows.callWith_type1 (thn (ha.run pos pins s σ H _ I h) fun us s1 got => ?_) hs rfl))
  obtain ⟨vs, H1, I1, r1, a, xs, rfl, hq, q⟩ := got
  obtain ⟨u, rfl, ru⟩ := vals1 r1
  cases (show u = Value.ref a from ru)
  obtain ⟨its, rv, pt, hz⟩ := I1.tuple hq
  refine call_enumT (show s1.heap.IsTuple a its.toArray from pt) fun h' he hit hsz hk => wpAny_pyIter_enum he ?_
  refine ⟨s1.heap.objs.size + 1, [s1.heap.objs.size + 1, s1.heap.objs.size], _, _, H1, rfl, I1.kept (t' := s1.toks) hk, turn_enumT a (s1.heap.objs.size + 1) s1.heap.objs.size, ⟨⟨.none, he⟩, hit, Nat.succ_ne_self _⟩, fun b hb => ?_, q⟩
  have le : s1.heap.objs.size ≤ b := by
    rcases (show b = s1.heap.objs.size + 1 ∨ b = s1.heap.objs.size by simpa using hb) with rfl | rfl
    · exact Nat.le_add_right _ _
    · exact Nat.le_refl _
  exact I1.fpOk le (I1.hok.fresh le)
/-- enumerate of a list or a tuple -/
def iEnumSq (K : PySem.W.Frag) (ta : TA) : TI := fun σ H R => iEnum K ta σ H R ∨ iEnumT K ta σ H R
theorem pi_enumSq {X : Cx} {e : Expr} {ta : TA} {p pos tpos : Pos} {elts : List Expr} {kk : Nat} (hg : Gl X "enumerate") (hm : X.mg "enumerate" = none) (ha : PA X [e] ta) (hs : starEach [e] X.env = [(false, eval e X.env)] := by rfl) :
    PI X (.Tuple elts kk tpos) (.Call (.Name "enumerate" p) [e] [] pos) (iEnumSq X.K ta) := PI.both (pi_enum hg hm ha hs) (pi_enumT hg hm ha hs)
theorem walk_enumT {K : PySem.W.Frag} {a : Addr} {xs : List V} : Walk (Iet K a) xs.length (fun H => SqT K H a xs) (YPair (fun i => some (.int (i : Nat))) (fun i => xs[i]?)) := by
  refine ⟨fun i _ hi q => ⟨xs, xs[i], q, by simp [hi]⟩, fun _ q => ⟨xs, q, Nat.le_refl _⟩, fun i H v H' _ q y => ?_⟩
  obtain ⟨T, x, h1, h2, h3, h4⟩ := y
  exact ⟨T, .int (i : Nat), x, h1, h2, h3, rfl, h4 xs q⟩
theorem sq_forE {K : PySem.W.Frag} {a : Addr} {xs : List V} {σ : L2.St} {H : Hp} {i : Nat} {g : TG} {tb : TS} {D : Ends} (hv : σ[i]? = some (some (.ref a))) (h : Sq K H a xs) (Pv : Nat → L2.St → Hp → Prop) (h0 : Pv 0 σ H) (hG : ∀ j σ' H', Pv j σ' H' → Same H H')
    (hs : ∀ j x σ' H' T, xs[j]? = some x → H' T = none → Pv j σ' H' → g (.ref T) σ' (upd H' T (.tup [.int (j : Nat), x])) fun σ2 H2 => tb { D with nx := Pv (j + 1), ct := Pv (j + 1), bk := D.nx } σ2 H2) (hd : ∀ σ' H', Pv xs.length σ' H' → D.nx σ' H') :
    tFor (iEnumSq K (tCons (tVar i) tNil)) g tb D σ H := by
  have hs' : ∀ (j : Nat) x σ' H' H'', j < xs.length → Pv j σ' H' → YPair (fun i => some (.int (i : Nat))) (fun i => xs[i]?) j H' x H'' → g x σ' H'' fun σ2 H2 => tb { D with nx := Pv (j + 1), ct := Pv (j + 1), bk := D.nx } σ2 H2 := by
    intro j x σ' H' H'' _ p y
    obtain ⟨T, u, v, rfl, hT, rfl, e1, e2⟩ := y
    cases e1
    exact hs j v σ' H' T e2 hT p
  rcases h with h | h
  · exact .inl ⟨_, hv, a, xs, rfl, h, for_it walk_enum Pv h0 (fun j σ' H' _ p => (hG j σ' H' p).seq h) hs' hd⟩
  · exact .inr ⟨_, hv, a, xs, rfl, h, for_it walk_enumT Pv h0 (fun j σ' H' _ p => same_tup (hG j σ' H' p) h) hs' hd⟩
end KR
namespace KR
open PySem PySem.Spec PyProof.Rows L2
/-! ### a dict of one pair, its key a tuple -/
def tDisp1 (tk tv : TE) : TE := fun σ H Q => ∀ p, H p = none → tk σ (upd H p (.dT [])) fun x H1 => tv σ H1 fun y H2 => H2 p = some (.dT []) ∧ ∃ (b : Addr) (ks : List Key), x = .ref b ∧ H2 b = some (.tup (ks.map kV)) ∧ Q (.ref p) (upd H2 p (.dT [(ks, y)]))
theorem pe_disp1 {X : Cx} {pos : Pos} {k v : Expr} {tk tv : TE} (hu : X.A.units < cLine) (hk : PE X k tk) (hv : PE X v tv) : PE X (.Dict [some k] [v] pos) (tDisp1 tk tv) := by
  constructor
  intro pins s σ H Q I q
  have I1 := I.laid (a := s.heap.objs.size) (o := .dT []) (h' := s.heap.push { cls := .type "dict", data := .dict #[] }) (t' := s.toks) (fun _ _ z => Heap.get?_push_of_some _ z) (Nat.le_refl _) (dt_empty s.heap I.big)
  rw [arm_eval_Dict, zip_pairTrees [some k] [v] X.env pos rfl rfl, dictDisplay_pairs (pairTrees [some k] [v] X.env pos) (fun z => nomatch z) (show 1 < 17 by decide)]
  refine wpAny_bind (wpAny_standAt (wpAny_bind ?_))
  refine wpAny_subDictH (knd := tupleKind (mixKind X.prog X.w)) (Q := fun d s' => wpAny (model X.prog X.w) X.A (pure (Value.ref d)) (EP X pins σ Q) X.xe s') hu (show 1 ≤ 15 by decide) ?_
  refine thn ((pps_cons hk hv pps_nil).run pins _ σ _ (fun ps H2 => match ps with
    | [(x, y)] => H2 s.heap.objs.size = some (.dT []) ∧ ∃ (b : Addr) (ks : List Key), x = .ref b ∧ H2 b = some (.tup (ks.map kV)) ∧ Q (.ref s.heap.objs.size) (upd H2 s.heap.objs.size (.dT [(ks, y)]))
    | _ => False) I1 (q s.heap.objs.size (I.hok.fresh (Nat.le_refl _)))) fun ws s2 got => ?_
  obtain ⟨ps, H2, I2, rel, got⟩ := got
  match ps, rel, got with
  | [(x, y)], rel, got =>
    obtain ⟨hd, b, ks, rfl, hb, qq⟩ := got
    cases rel with
    | cons r t =>
      cases t
      rename_i w
      obtain ⟨w1, w2⟩ := w
      obtain ⟨r1, r2⟩ := r
      cases (show w1 = Value.ref b from r1)
      obtain ⟨_, ne, xs0, kt, dd⟩ := dt_of I2.hok hd
      cases kt
      refine ⟨[(ks, b, w2)], ⟨rfl, rfl, key_of I2.hok hb, trivial⟩, dd, fun h' tk' d' sb => wpAny_pure ?_⟩
      have nb : b ≠ s.heap.objs.size := ne_of hb hd (by intro z; cases z)
      obtain ⟨o, es, ep, ho, e1, e2, e3, _, e5⟩ := d'
      have new : ObjOk X.prog X.w (upd H2 s.heap.objs.size (.dT [(ks, y)])) h' s.heap.objs.size (.dT [(ks, y)]) := by
        refine ⟨show 1 ≤ sizeLine by decide, ne, [(ks, b, w2)], .cons ⟨rfl, ?_, r2⟩ .nil, o, es, ep, ho, e1, e2, e3, e5⟩
        rw [upd_ne nb]
        exact hb
      exact ⟨.ref s.heap.objs.size, _, d_write I2 (by rw [hd]; exact True.intro) sb ⟨o, ho⟩ new, rfl, qq⟩
/-! ### heaps -/
theorem same_fresh {H : Hp} {p : Addr} {o : HO} (h : H p = none) : Same H (upd H p o) := fun b x e => by
  rw [upd_ne (ne_of_none e h)]
  exact e
theorem same_put {H0 H : Hp} {p : Addr} {o : HO} (e : Same H0 H) (h : H0 p = none) : Same H0 (upd H p o) := fun b x q => by
  rw [upd_ne (ne_of_none q h)]
  exact e b x q
theorem same_new {H0 H : Hp} {p : Addr} {o : HO} (e : Same H0 H) (h : H p = none) : Same H0 (upd H p o) := same_put e (e.free h)
theorem same_two {H0 H : Hp} {p : Addr} {o : HO} (e : Same H0 H) : Same (upd H0 p o) (upd H p o) := fun b x q => by
  by_cases z : b = p
  · subst z
    rw [upd_same] at q ⊢
    exact q
  · rw [upd_ne z] at q ⊢
    exact e b x q
/-! ### an item of a list or a tuple -/
def rIxSq (K : PySem.W.Frag) : R2 := fun x y H Q => ∃ p xs i v, x = .ref p ∧ y = .int i ∧ Sq K H p xs ∧ atI xs i = some v ∧ Q v H
theorem ix_sq {X : Cx} : IxR X (rIxSq X.K) := by
  intro ve se pins s σ H x y v u Q I rx ry h hs
  obtain ⟨p, xs, i, w, e1, e2, sq, e3, q⟩ := h
  refine (IxR.or ix_list ix_tup) ve se pins s σ H x y v u Q I rx ry ?_ hs
  exact sq.elim (fun z => .inl ⟨p, xs, i, w, e1, e2, z, e3, q⟩) fun z => .inr ⟨p, xs, i, w, e1, e2, z, e3, q⟩
theorem sq_l {K : PySem.W.Frag} {H : Hp} {a : Addr} {xs : List V} (h : H a = some (.lst xs)) : Sq K H a xs := .inl (.inl (.inl h))
theorem sq_t {K : PySem.W.Frag} {H : Hp} {a : Addr} {xs : List V} (h : H a = some (.tup xs)) : Sq K H a xs := .inr (.inl (.inl h))
theorem at_nat {xs : List V} {i : Nat} {v : V} {j : Int} (hj : j = (i : Int)) (h : xs[i]? = some v) : atI xs j = some v := by
  subst hj
  exact atI_nat h
end KR
namespace KR
open PySem PySem.Spec PyProof.Rows L2
section
variable {K : PySem.W.Frag} {a : Addr} {xs : List V}
/-- for i, x in enumerate(list) -/
theorem for_enum {g : TG} {tb : TS} {D : Ends} {σ : L2.St} {H : Hp} (Pv : Nat → L2.St → Hp → Prop) (h0 : Pv 0 σ H) (hl : ∀ j σ' H', Pv j σ' H' → SqL K H' a xs)
    (hs : ∀ j x σ' H' T, xs[j]? = some x → H' T = none → Pv j σ' H' → g (.ref T) σ' (upd H' T (.tup [.int (j : Nat), x])) fun σ2 H2 => tb { D with nx := Pv (j + 1), ct := Pv (j + 1), bk := D.nx } σ2 H2) (hd : ∀ σ' H', Pv xs.length σ' H' → D.nx σ' H') :
    ∃ W : Nat → Nat → L2.St → Hp → Prop, (∃ m, W 0 m σ H) ∧ ∀ i m σ H, W i m σ H →
      ((Ite K a).stop i H ∧ D.nx σ H) ∨ ((Ite K a).go i H ∧ ∃ N : L2.St → Hp → Prop, (∀ σ' H', N σ' H' → ∃ m', m' < m ∧ W (i + 1) m' σ' H') ∧ ∀ x H', (Ite K a).yld i H x H' → g x σ H' fun σ2 H2 => tb { D with nx := N, ct := N, bk := D.nx } σ2 H2) := by
  refine for_it (walk_enum (xs := xs)) Pv h0 (fun j σ' H' _ p => hl j σ' H' p) (fun j x σ' H' H'' _ p y => ?_) hd
  obtain ⟨T, u, v, rfl, hT, rfl, e1, e2⟩ := y
  cases e1
  exact hs j v σ' H' T e2 hT p
/-- [.. for i, x in enumerate(list) ..] -/
theorem lc_enum {g : TG} {tt : TT} {te : TE} {vs : List Nat} {σ : L2.St} {H1 : Hp} {D : Addr} {Qd : Hp → Prop} (Pv : Nat → Hp → Prop) (h0 : Pv 0 (upd H1 D (.lst []))) (hl : ∀ j H', Pv j H' → SqL K H' a xs)
    (hs : ∀ j x H' T, xs[j]? = some x → H' T = none → Pv j H' → g (.ref T) (wipe σ vs) (upd H' T (.tup [.int (j : Nat), x])) fun σ2 H2 => wipe σ2 vs = wipe σ vs ∧ tt σ2 H2 fun b H3 =>
      if b = true then te σ2 H3 fun y H4 => ∃ acc, H4 D = some (.lst acc) ∧ acc.length < sizeLine ∧ Pv (j + 1) (upd H4 D (.lst (acc ++ [y]))) else Pv (j + 1) H3) (hd : ∀ H', Pv xs.length H' → Qd H') :
    ∃ W : Nat → Nat → Hp → Prop, (∃ m, W 0 m (upd H1 D (.lst []))) ∧ ∀ i m H, W i m H →
      ((Ite K a).stop i H ∧ Qd H) ∨ ((Ite K a).go i H ∧ ∃ Nx : Hp → Prop, (∀ H', Nx H' → ∃ m', m' < m ∧ W (i + 1) m' H') ∧ ∀ x H', (Ite K a).yld i H x H' → g x (wipe σ vs) H' fun σ2 H2 => wipe σ2 vs = wipe σ vs ∧ tt σ2 H2 fun b H3 =>
        if b = true then te σ2 H3 fun y H4 => ∃ acc, H4 D = some (.lst acc) ∧ acc.length < sizeLine ∧ Nx (upd H4 D (.lst (acc ++ [y]))) else Nx H3) := by
  refine lc_it (walk_enum (xs := xs)) Pv h0 (fun j H' _ p => hl j H' p) (fun j x H' H'' _ p y => ?_) hd
  obtain ⟨T, u, v, rfl, hT, rfl, e1, e2⟩ := y
  cases e1
  exact hs j v H' T e2 hT p
end
end KR
namespace KR
open PySem PySem.Spec PyProof.Rows L2
section
variable {X : Cx}
/-- x in a tuple of data of any depth -/
def rInDT (K : PySem.W.Frag) : R2 := fun x y H Q => ∃ d ds, Dp K H x d ∧ Dp K H y (.tuple ds) ∧ SeqAt.shaped d = true ∧ SeqAt.shaped (.tuple ds) = true ∧ Q (.bl (ds.any fun z => PyData.eqv z d)) H
theorem op_inDT (hu : X.A.units + 65 < cLine) : OpR X (compareOp .In) (rInDT X.K) := by
  intro pins s σ H x y v u Q I rx ry h
  obtain ⟨d, ds, hd, he, sd, se, q⟩ := h
  obtain ⟨as, r1⟩ := Dp.reads I d x v hd rx
  obtain ⟨bs, r2⟩ := Dp.reads I (.tuple ds) y u he ry
  exact SeqAt.in_tuple_reads r2 r1 (SeqAt.canLay_of_shaped se) (SeqAt.canLay_of_shaped sd) (room_in_shaped sd hu) ⟨.bl _, H, I, rfl, q⟩
end
end KR
namespace KM
abbrev Row := Nat × Nat × Nat
abbrev Rows := List Row
/-- the i-th row -/
def rowAt (R : Rows) (i : Nat) : Row := R.getD i (0, 0, 0)
def to (R : Rows) (i : Nat) (b : Bool) : Nat := if b = true then (rowAt R i).2.1 else (rowAt R i).1
def ins (R : Rows) (i : Nat) : Nat := (rowAt R i).2.2
def run (R : Rows) : Nat → List Bool → Nat
  | i, [] => i
  | i, b :: w => run R (to R i b) w
def OkR (R : Rows) : Prop := ∀ i, i < R.length → (rowAt R i).1 < R.length ∧ (rowAt R i).2.1 < R.length ∧ (rowAt R i).2.2 ≤ 1
def Eqv (R : Rows) (i j : Nat) : Prop := ∀ w, ins R (run R i w) = ins R (run R j w)

theorem rowAt_eq {R : Rows} {i : Nat} (h : i < R.length) : R[i]? = some (rowAt R i) := by
  unfold rowAt
  rw [List.getD_eq_getElem?_getD, List.getElem?_eq_getElem h]
  rfl
theorem rowAt_mem {R : Rows} {i : Nat} (h : i < R.length) : rowAt R i ∈ R := List.mem_of_getElem? (rowAt_eq h)
theorem to_lt {R : Rows} (o : OkR R) {i : Nat} (h : i < R.length) (b : Bool) : to R i b < R.length := by
  obtain ⟨h1, h2, _⟩ := o i h
  unfold to
  cases b
  · exact h1
  · exact h2
theorem run_lt {R : Rows} (o : OkR R) : ∀ (w : List Bool) {i : Nat}, i < R.length → run R i w < R.length
  | [], _, h => h
  | b :: w, _, h => run_lt o w (to_lt o h b)
theorem run_app {R : Rows} : ∀ (v w : List Bool) (i : Nat), run R i (v ++ w) = run R (run R i v) w
  | [], _, _ => rfl
  | _ :: v, w, _ => run_app v w _
theorem Eqv.refl {R : Rows} {i : Nat} : Eqv R i i := fun _ => rfl
theorem Eqv.symm {R : Rows} {i j : Nat} (h : Eqv R i j) : Eqv R j i := fun w => (h w).symm
theorem Eqv.trans {R : Rows} {i j k : Nat} (h : Eqv R i j) (g : Eqv R j k) : Eqv R i k := fun w => (h w).trans (g w)
theorem Eqv.to {R : Rows} {i j : Nat} (h : Eqv R i j) (b : Bool) : Eqv R (to R i b) (to R j b) := fun w => h (b :: w)
theorem Eqv.ins {R : Rows} {i j : Nat} (h : Eqv R i j) : ins R i = ins R j := h []
theorem Eqv.run {R : Rows} {i j : Nat} (h : Eqv R i j) (v : List Bool) : Eqv R (run R i v) (run R j v) := fun w => by
  rw [← run_app, ← run_app]
  exact h _

/-! ### lists -/
theorem getD_of_get? {l : List Nat} {i x d : Nat} (h : l[i]? = some x) : l.getD i d = x := by
  rw [List.getD_eq_getElem?_getD, h]
  rfl
theorem get?_getD {l : List Nat} {i : Nat} (h : i < l.length) (d : Nat) : l[i]? = some (l.getD i d) := by
  rw [List.getD_eq_getElem?_getD, List.getElem?_eq_getElem h]
  rfl
theorem getD_mem {l : List Nat} {i : Nat} (h : i < l.length) (d : Nat) : l.getD i d ∈ l := List.mem_of_getElem? (get?_getD h d)
theorem mem_getD {l : List Nat} {x : Nat} (h : x ∈ l) (d : Nat) : ∃ i, i < l.length ∧ l.getD i d = x := by
  obtain ⟨i, hi, e⟩ := List.mem_iff_getElem.mp h
  exact ⟨i, hi, getD_of_get? (by rw [List.getElem?_eq_getElem hi, e])⟩
theorem getD_prefix {l m : List Nat} (h : l <+: m) {i : Nat} (hi : i < l.length) (d : Nat) : m.getD i d = l.getD i d := by
  obtain ⟨r, rfl⟩ := h
  exact getD_of_get? (by rw [List.getElem?_append_left hi]; exact get?_getD hi d)
theorem nodup_inj : ∀ {l : List Nat}, l.Nodup → ∀ {i j : Nat}, i < l.length → j < l.length → l.getD i 0 = l.getD j 0 → i = j
  | [], _, _, _, h, _, _ => by simp at h
  | x :: l, hn, i, j, hi, hj, e => by
    rw [List.nodup_cons] at hn
    cases i with
    | zero =>
      cases j with
      | zero => rfl
      | succ j =>
        exfalso
        apply hn.1
        have hj' : j < l.length := by simpa using hj
        have e' : x = l.getD j 0 := by simpa using e
        rw [e']
        exact getD_mem hj' 0
    | succ i =>
      cases j with
      | zero =>
        exfalso
        apply hn.1
        have hi' : i < l.length := by simpa using hi
        have e' : l.getD i 0 = x := by simpa using e
        rw [← e']
        exact getD_mem hi' 0
      | succ j =>
        have hi' : i < l.length := by simpa using hi
        have hj' : j < l.length := by simpa using hj
        have e' : l.getD i 0 = l.getD j 0 := by simpa using e
        rw [nodup_inj hn.2 hi' hj' e']
theorem idx_lt {l : List Nat} {x : Nat} (h : x ∈ l) : l.idxOf x < l.length := List.idxOf_lt_length_iff.mpr h
theorem get_idx {l : List Nat} {x : Nat} (h : x ∈ l) (d : Nat) : l.getD (l.idxOf x) d = x := by
  have hl := idx_lt h
  apply getD_of_get?
  rw [List.getElem?_eq_getElem hl, List.getElem_idxOf hl]
theorem idx_get {l : List Nat} (hn : l.Nodup) {i : Nat} (hi : i < l.length) : l.idxOf (l.getD i 0) = i := by
  have hm := getD_mem hi 0
  exact nodup_inj hn (idx_lt hm) hi (get_idx hm 0)
theorem nodup_bound {l : List Nat} (hn : l.Nodup) {n : Nat} (h : ∀ x ∈ l, x < n) : l.length ≤ n := by
  have q := List.Nodup.length_le_of_subset hn (l₂ := List.range n) fun x hx => List.mem_range.mpr (h x hx)
  rwa [List.length_range] at q

/-! ### the order in which states are reached -/
def push (F : List Nat) (t : Nat) : List Nat := if t ∈ F then F else F ++ [t]
theorem push_prefix (F : List Nat) (t : Nat) : F <+: push F t := by
  unfold push
  split
  · exact List.prefix_rfl
  · exact List.prefix_append _ _
theorem mem_push_self (F : List Nat) (t : Nat) : t ∈ push F t := by
  unfold push
  split
  · assumption
  · simp
theorem push_nodup {F : List Nat} (h : F.Nodup) (t : Nat) : (push F t).Nodup := by
  unfold push
  split
  · exact h
  · rename_i n
    rw [List.nodup_append]
    refine ⟨h, by simp, fun a ha b hb e => ?_⟩
    have : b = t := by simpa using hb
    subst this
    subst e
    exact n ha
theorem mem_push {F : List Nat} {t x : Nat} (h : x ∈ push F t) : x ∈ F ∨ x = t := by
  unfold push at h
  split at h
  · exact .inl h
  · simpa using h
/-- one turn of the search -/
def turn (R : Rows) (F : List Nat) (k : Nat) : List Nat := push (push F (to R (F.getD k 0) false)) (to R (F.getD k 0) true)
def bfs (R : Rows) (s : Nat) : Nat → List Nat
  | 0 => [s]
  | k + 1 => turn R (bfs R s k) k
structure Order (R : Rows) (s : Nat) (F : List Nat) : Prop where
  eq : F = bfs R s F.length
  more : ∀ j, j < F.length → j < (bfs R s j).length
theorem turn_prefix (R : Rows) (F : List Nat) (k : Nat) : F <+: turn R F k := (push_prefix _ _).trans (push_prefix _ _)
theorem bfs_prefix (R : Rows) (s : Nat) {j k : Nat} (h : j ≤ k) : bfs R s j <+: bfs R s k := by
  induction k with
  | zero =>
    obtain rfl : j = 0 := by omega
    exact List.prefix_rfl
  | succ k ih =>
    rcases Nat.lt_or_ge j (k + 1) with q | q
    · exact (ih (by omega)).trans (turn_prefix _ _ _)
    · obtain rfl : j = k + 1 := by omega
      exact List.prefix_rfl
theorem turn_nodup {R : Rows} {F : List Nat} (h : F.Nodup) (k : Nat) : (turn R F k).Nodup := push_nodup (push_nodup h _) _
theorem bfs_nodup (R : Rows) (s : Nat) : ∀ k, (bfs R s k).Nodup
  | 0 => by simp [bfs]
  | k + 1 => turn_nodup (bfs_nodup R s k) k
theorem turn_lt {R : Rows} (o : OkR R) {F : List Nat} {k : Nat} (hk : k < F.length) (h : ∀ x ∈ F, x < R.length) : ∀ x ∈ turn R F k, x < R.length := by
  have hq : F.getD k 0 < R.length := h _ (getD_mem hk 0)
  intro x hx
  rcases mem_push hx with hx | rfl
  · rcases mem_push hx with hx | rfl
    · exact h x hx
    · exact to_lt o hq _
  · exact to_lt o hq _
theorem bfs_lt {R : Rows} (o : OkR R) {s : Nat} (hs : s < R.length) : ∀ k, (∀ j, j < k → j < (bfs R s j).length) → ∀ x ∈ bfs R s k, x < R.length
  | 0, _ => by
    intro x hx
    have : x = s := by simpa [bfs] using hx
    subst this
    exact hs
  | k + 1, h => turn_lt o (h k (by omega)) (bfs_lt o hs k fun j hj => h j (by omega))

section
variable {R : Rows} {s : Nat} {F : List Nat}
theorem Order.nodup (h : Order R s F) : F.Nodup := by
  rw [h.eq]
  exact bfs_nodup _ _ _
theorem Order.pre (h : Order R s F) {j : Nat} (hj : j ≤ F.length) : bfs R s j <+: F := by
  have q := bfs_prefix R s hj
  rwa [← h.eq] at q
theorem Order.pos (h : Order R s F) : 0 < F.length := by
  have q := (h.pre (Nat.zero_le _)).length_le
  exact Nat.lt_of_lt_of_le (show 0 < 1 by omega) q
theorem Order.first (h : Order R s F) : F.getD 0 0 = s := by
  rw [getD_prefix (h.pre (Nat.zero_le _)) (by simp [bfs])]
  rfl
theorem Order.lt (h : Order R s F) (o : OkR R) (hs : s < R.length) : ∀ x ∈ F, x < R.length := by
  have q := bfs_lt o hs F.length h.more
  rw [← h.eq] at q
  exact q
theorem Order.at (h : Order R s F) {k : Nat} (hk : k < F.length) : (bfs R s k).getD k 0 = F.getD k 0 := (getD_prefix (h.pre (Nat.le_of_lt hk)) (h.more k hk) 0).symm
theorem Order.closed (h : Order R s F) {x : Nat} (hx : x ∈ F) (b : Bool) : to R x b ∈ F := by
  obtain ⟨k, hk, rfl⟩ := mem_getD hx 0
  have p := h.pre (j := k + 1) hk
  apply p.subset
  show _ ∈ push (push _ (to R ((bfs R s k).getD k 0) false)) (to R ((bfs R s k).getD k 0) true)
  rw [h.at hk]
  cases b
  · exact (push_prefix _ _).subset (mem_push_self _ _)
  · exact mem_push_self _ _
theorem Order.run (h : Order R s F) : ∀ (w : List Bool) {x : Nat}, x ∈ F → run R x w ∈ F
  | [], _, hx => hx
  | b :: w, _, hx => Order.run h w (h.closed hx b)
end

/-! ### the machine numbered anew -/
def relabel (R : Rows) (F : List Nat) : Rows := F.map fun x => (F.idxOf (to R x false), F.idxOf (to R x true), ins R x)
theorem relabel_len (R : Rows) (F : List Nat) : (relabel R F).length = F.length := by
  unfold relabel
  rw [List.length_map]
theorem relabel_at {R : Rows} {F : List Nat} {k : Nat} (hk : k < F.length) : rowAt (relabel R F) k = (F.idxOf (to R (F.getD k 0) false), F.idxOf (to R (F.getD k 0) true), ins R (F.getD k 0)) := by
  have q := rowAt_eq (R := relabel R F) (i := k) (by rw [relabel_len]; exact hk)
  unfold relabel at q
  rw [List.getElem?_map, get?_getD hk 0] at q
  exact (Option.some.inj q).symm
theorem relabel_to {R : Rows} {F : List Nat} {k : Nat} (hk : k < F.length) (b : Bool) : to (relabel R F) k b = F.idxOf (to R (F.getD k 0) b) := by
  unfold to
  rw [relabel_at hk]
  cases b <;> rfl
theorem relabel_ins {R : Rows} {F : List Nat} {k : Nat} (hk : k < F.length) : ins (relabel R F) k = ins R (F.getD k 0) := by
  unfold ins
  rw [relabel_at hk]
  rfl
section
variable {R : Rows} {s : Nat} {F : List Nat}
theorem relabel_ok (h : Order R s F) (o : OkR R) (hs : s < R.length) : OkR (relabel R F) := by
  intro i hi
  rw [relabel_len] at hi ⊢
  rw [relabel_at hi]
  have hm := getD_mem hi 0
  exact ⟨idx_lt (h.closed hm _), idx_lt (h.closed hm _), (o _ (h.lt o hs _ hm)).2.2⟩
theorem relabel_run (h : Order R s F) : ∀ (w : List Bool) {k : Nat}, k < F.length → run (relabel R F) k w = F.idxOf (run R (F.getD k 0) w)
  | [], k, hk => (idx_get h.nodup hk).symm
  | b :: w, k, hk => by
    show run (relabel R F) (to (relabel R F) k b) w = F.idxOf (run R (to R (F.getD k 0) b) w)
    have hm := h.closed (getD_mem hk 0) b
    rw [relabel_to hk, relabel_run h w (idx_lt hm), get_idx hm]
theorem relabel_out (h : Order R s F) (w : List Bool) {k : Nat} (hk : k < F.length) : ins (relabel R F) (run (relabel R F) k w) = ins R (run R (F.getD k 0) w) := by
  have hm := h.run w (getD_mem hk 0)
  rw [relabel_run h w hk, relabel_ins (idx_lt hm), get_idx hm]
theorem relabel_eqv (h : Order R s F) {i j : Nat} (hi : i < F.length) (hj : j < F.length) : Eqv (relabel R F) i j ↔ Eqv R (F.getD i 0) (F.getD j 0) := by
  constructor
  · intro e w
    rw [← relabel_out h w hi, ← relabel_out h w hj]
    exact e w
  · intro e w
    rw [relabel_out h w hi, relabel_out h w hj]
    exact e w
end

/-! ### a machine whose states stand in the order in which they are reached -/
def bump (t seen : Nat) : Nat := if t = seen then seen + 1 else seen
structure Num (T : Rows) (seen : Nat → Nat) : Prop where
  zero : seen 0 = 1
  last : seen T.length = T.length
  row : ∀ k, k < T.length → k < seen k ∧ (rowAt T k).1 ≤ seen k ∧ (rowAt T k).2.1 ≤ bump (rowAt T k).1 (seen k) ∧ seen (k + 1) = bump (rowAt T k).2.1 (bump (rowAt T k).1 (seen k))
theorem push_bump {F G : List Nat} {t : Nat} (hn : G.Nodup) (hp : push F t <+: G) : G.idxOf t ≤ F.length ∧ (push F t).length = bump (G.idxOf t) F.length := by
  unfold bump
  by_cases ht : t ∈ F
  · have e : push F t = F := by
      unfold push
      rw [if_pos ht]
    rw [e] at hp ⊢
    obtain ⟨i, hi, he⟩ := mem_getD ht 0
    have hg : G.getD i 0 = t := by rw [getD_prefix hp hi, he]
    have hl : i < G.length := Nat.lt_of_lt_of_le hi hp.length_le
    have q := idx_get hn hl
    rw [hg] at q
    rw [q]
    refine ⟨Nat.le_of_lt hi, ?_⟩
    rw [if_neg (by omega)]
  · have e : push F t = F ++ [t] := by
      unfold push
      rw [if_neg ht]
    rw [e] at hp ⊢
    have hl0 : F.length < (F ++ [t]).length := by simp
    have hg : G.getD F.length 0 = t := by
      rw [getD_prefix hp hl0]
      exact getD_of_get? (by simp)
    have hl : F.length < G.length := Nat.lt_of_lt_of_le hl0 hp.length_le
    have q := idx_get hn hl
    rw [hg] at q
    rw [q]
    refine ⟨Nat.le_refl _, ?_⟩
    rw [if_pos rfl]
    simp
theorem relabel_num {R : Rows} {s : Nat} {F : List Nat} (h : Order R s F) : Num (relabel R F) (fun k => (bfs R s k).length) := by
  refine ⟨rfl, ?_, fun k hk => ?_⟩
  · show (bfs R s (relabel R F).length).length = _
    rw [relabel_len, ← h.eq]
  · rw [relabel_len] at hk
    rw [relabel_at hk]
    have hm := h.more k hk
    have p := h.pre (j := k + 1) hk
    have e : bfs R s (k + 1) = push (push (bfs R s k) (to R (F.getD k 0) false)) (to R (F.getD k 0) true) := by
      show turn R (bfs R s k) k = _
      unfold turn
      rw [h.at hk]
    rw [e] at p
    obtain ⟨a1, a2⟩ := push_bump h.nodup ((push_prefix _ _).trans p)
    obtain ⟨b1, b2⟩ := push_bump h.nodup p
    refine ⟨hm, a1, ?_, ?_⟩
    · show F.idxOf (to R (F.getD k 0) true) ≤ bump (F.idxOf (to R (F.getD k 0) false)) (bfs R s k).length
      rw [← a2]
      exact b1
    · show (bfs R s (k + 1)).length = bump (F.idxOf (to R (F.getD k 0) true)) (bump (F.idxOf (to R (F.getD k 0) false)) (bfs R s k).length)
      rw [e, b2, a2]

theorem bump_ge (t n : Nat) : n ≤ bump t n := by
  unfold bump
  split <;> omega
theorem Num.mono {T : Rows} {seen : Nat → Nat} (h : Num T seen) {j k : Nat} (hk : k ≤ T.length) (hjk : j ≤ k) : seen j ≤ seen k := by
  induction k with
  | zero =>
    obtain rfl : j = 0 := by omega
    exact Nat.le_refl _
  | succ k ih =>
    rcases Nat.lt_or_ge j (k + 1) with q | q
    · have := ih (by omega) (by omega)
      obtain ⟨_, _, _, e⟩ := h.row k hk
      have b1 := bump_ge (rowAt T k).1 (seen k)
      have b2 := bump_ge (rowAt T k).2.1 (bump (rowAt T k).1 (seen k))
      omega
    · obtain rfl : j = k + 1 := by omega
      exact Nat.le_refl _
theorem Num.lt {T : Rows} {seen : Nat → Nat} (h : Num T seen) {k : Nat} (hk : k < T.length) : (rowAt T k).1 < T.length ∧ (rowAt T k).2.1 < T.length := by
  obtain ⟨_, a, b, e⟩ := h.row k hk
  have m := h.mono (Nat.le_refl _) (j := k + 1) hk
  rw [h.last, e] at m
  have m1 : ∀ t n : Nat, t ≤ n → t < bump t n := fun t n q => by
    unfold bump
    split <;> omega
  have q1 := m1 _ _ a
  have q2 := m1 _ _ b
  have q3 := bump_ge (rowAt T k).2.1 (bump (rowAt T k).1 (seen k))
  omega

/-! ### the least machine of a set of rows of digits is the only one -/
/-- T is the machine whose states are all unlike, in order, and that tells what L tells -/
structure Canon (T : Rows) (L : List Bool → Nat) : Prop where
  num : ∃ seen, Num T seen
  out : ∀ w, ins T (run T 0 w) = L w
  unlike : ∀ i j, i < T.length → j < T.length → Eqv T i j → i = j
  one : ∀ i, i < T.length → (rowAt T i).2.2 ≤ 1
theorem Canon.ok {T : Rows} {L : List Bool → Nat} (h : Canon T L) : OkR T := by
  intro i hi
  obtain ⟨seen, n⟩ := h.num
  exact ⟨(n.lt hi).1, (n.lt hi).2, h.one i hi⟩
theorem Canon.pos {T : Rows} {L : List Bool → Nat} (h : Canon T L) : 0 < T.length := by
  obtain ⟨seen, n⟩ := h.num
  rcases Nat.eq_zero_or_pos T.length with e | e
  · have q := n.last
    rw [e, n.zero] at q
    omega
  · exact e
/-- state i of T is like state j of T' -/
def Like (T T' : Rows) (i j : Nat) : Prop := ∀ w, ins T (run T i w) = ins T' (run T' j w)
theorem target_same {T T' : Rows} {L L' : List Bool → Nat} (c : Canon T L) (c' : Canon T' L') {n t t' : Nat} (hl : ∀ i, i < n → i < T.length ∧ i < T'.length ∧ Like T T' i i)
    (ht : t < T.length) (ht' : t' < T'.length) (h : t ≤ n) (h' : t' ≤ n) (e : Like T T' t t') : t = t' := by
  rcases Nat.lt_or_ge t n with q | q
  · obtain ⟨_, a, l⟩ := hl t q
    exact c'.unlike t t' a ht' fun w => (l w).symm.trans (e w)
  · rcases Nat.lt_or_ge t' n with q' | q'
    · obtain ⟨a, _, l⟩ := hl t' q'
      exact c.unlike t t' ht a fun w => (e w).trans (l w).symm
    · omega
theorem canon_same {T T' : Rows} {L L' : List Bool → Nat} (c : Canon T L) (c' : Canon T' L') (e : ∀ w, L w = L' w) : T = T' := by
  obtain ⟨seen, n⟩ := c.num
  obtain ⟨seen', n'⟩ := c'.num
  have key : ∀ k, k ≤ T.length → k ≤ T'.length → seen k = seen' k ∧ (∀ i, i < seen k → i < T.length ∧ i < T'.length ∧ Like T T' i i) ∧ ∀ i, i < k → rowAt T i = rowAt T' i := by
    intro k
    induction k with
    | zero =>
      intro _ _
      refine ⟨by rw [n.zero, n'.zero], fun i hi => ?_, fun i hi => by omega⟩
      rw [n.zero] at hi
      obtain rfl : i = 0 := by omega
      exact ⟨c.pos, c'.pos, fun w => by rw [c.out, c'.out, e]⟩
    | succ k ih =>
      intro hk hk'
      obtain ⟨es, hl, hr⟩ := ih (by omega) (by omega)
      obtain ⟨r1, r2, r3, r4⟩ := n.row k hk
      obtain ⟨s1, s2, s3, s4⟩ := n'.row k hk'
      obtain ⟨_, _, lk⟩ := hl k r1
      have l0 : Like T T' (rowAt T k).1 (rowAt T' k).1 := fun w => lk (false :: w)
      have l1 : Like T T' (rowAt T k).2.1 (rowAt T' k).2.1 := fun w => lk (true :: w)
      have t0 := (n.lt hk)
      have t0' := (n'.lt hk')
      have e0 : (rowAt T k).1 = (rowAt T' k).1 := target_same c c' hl t0.1 t0'.1 r2 (by rw [es]; exact s2) l0
      have hl1 : ∀ i, i < bump (rowAt T k).1 (seen k) → i < T.length ∧ i < T'.length ∧ Like T T' i i := by
        intro i hi
        rcases Nat.lt_or_ge i (seen k) with q | q
        · exact hl i q
        · unfold bump at hi
          split at hi
          · rename_i he
            obtain rfl : i = (rowAt T k).1 := by omega
            refine ⟨t0.1, ?_, ?_⟩
            · rw [e0]
              exact t0'.1
            · have q := l0
              rw [← e0] at q
              exact q
          · omega
      have e1 : (rowAt T k).2.1 = (rowAt T' k).2.1 := target_same c c' hl1 t0.2 t0'.2 r3 (by rw [es, e0]; exact s3) l1
      have hl2 : ∀ i, i < bump (rowAt T k).2.1 (bump (rowAt T k).1 (seen k)) → i < T.length ∧ i < T'.length ∧ Like T T' i i := by
        intro i hi
        rcases Nat.lt_or_ge i (bump (rowAt T k).1 (seen k)) with q | q
        · exact hl1 i q
        · rw [bump] at hi
          split at hi
          · rename_i he
            obtain rfl : i = (rowAt T k).2.1 := by omega
            refine ⟨t0.2, ?_, ?_⟩
            · rw [e1]
              exact t0'.2
            · have q := l1
              rw [← e1] at q
              exact q
          · omega
      refine ⟨by rw [r4, s4, e0, e1, es], fun i hi => hl2 i (by rw [← r4]; exact hi), fun i hi => ?_⟩
      rcases Nat.lt_or_ge i k with q | q
      · exact hr i q
      · obtain rfl : i = k := by omega
        have e2 : (rowAt T i).2.2 = (rowAt T' i).2.2 := lk []
        exact Prod.ext e0 (Prod.ext e1 e2)
  have hlen : T.length = T'.length := by
    rcases Nat.lt_trichotomy T.length T'.length with q | q | q
    · obtain ⟨es, _, _⟩ := key T.length (Nat.le_refl _) (Nat.le_of_lt q)
      have := (n'.row T.length q).1
      rw [n.last] at es
      omega
    · exact q
    · obtain ⟨es, _, _⟩ := key T'.length (Nat.le_of_lt q) (Nat.le_refl _)
      have := (n.row T'.length q).1
      rw [n'.last] at es
      omega
  obtain ⟨_, _, hr⟩ := key T.length (Nat.le_refl _) (by omega)
  apply List.ext_getElem? 
  intro i
  rcases Nat.lt_or_ge i T.length with q | q
  · rw [rowAt_eq q, rowAt_eq (by omega : i < T'.length), hr i q]
  · rw [List.getElem?_eq_none q, List.getElem?_eq_none (by omega)]
end KM
namespace KM
/-! ### the classes of a machine, by splitting -/
structure HInv (R : Rows) (B : List Nat) (G : List (List Nat)) : Prop where
  len : B.length = R.length
  lt : ∀ i, i < R.length → B.getD i 0 < G.length
  nd : ∀ k, k < G.length → (G.getD k []).Nodup
  mem : ∀ k, k < G.length → ∀ i, i ∈ G.getD k [] ↔ i < R.length ∧ B.getD i 0 = k
  eqv : ∀ i j, i < R.length → j < R.length → Eqv R i j → B.getD i 0 = B.getD j 0
  out : ∀ i j, i < R.length → j < R.length → B.getD i 0 = B.getD j 0 → ins R i = ins R j
/-- states of one class go to one class, but for what waits in W or is split by T -/
def Exc (R : Rows) (B W : List Nat) (op : Bool → Prop) (T : List Nat) : Prop :=
  ∀ i j, i < R.length → j < R.length → B.getD i 0 = B.getD j 0 → ∀ d, B.getD (to R i d) 0 = B.getD (to R j d) 0 ∨ B.getD (to R i d) 0 ∈ W ∨ B.getD (to R j d) 0 ∈ W ∨ (op d ∧ ¬(to R i d ∈ T ↔ to R j d ∈ T))
def Closed (R : Rows) (T : List Nat) : Prop := ∀ i j, i < R.length → j < R.length → Eqv R i j → (i ∈ T ↔ j ∈ T)
def Marks (R : Rows) (T : List Nat) (d : Bool) (M : List Nat) : Prop := M.Nodup ∧ ∀ i, i ∈ M ↔ i < R.length ∧ to R i d ∈ T
structure HMid (R : Rows) (B : List Nat) (G : List (List Nat)) (W : List Nat) (op : Bool → Prop) (T M rem : List Nat) : Prop where
  inv : HInv R B G
  exc : Exc R B W op T
  hom : ∀ i j, i < R.length → j < R.length → B.getD i 0 = B.getD j 0 → B.getD i 0 ∉ rem → (i ∈ M ↔ j ∈ M)
  ex : ∀ x, x ∈ rem → ∃ i, i ∈ M ∧ B.getD i 0 = x
  rnd : rem.Nodup

theorem getD_snoc_lt {α : Type} {l : List α} {x d : α} {i : Nat} (h : i < l.length) : (l ++ [x]).getD i d = l.getD i d := by
  rw [List.getD_eq_getElem?_getD, List.getD_eq_getElem?_getD, List.getElem?_append_left h]
theorem getD_snoc_len {α : Type} {l : List α} {x d : α} : (l ++ [x]).getD l.length d = x := by
  rw [List.getD_eq_getElem?_getD, List.getElem?_append_right (Nat.le_refl _), Nat.sub_self]
  rfl
theorem getD_set_self {α : Type} {l : List α} {x d : α} {i : Nat} (h : i < l.length) : (l.set i x).getD i d = x := by
  rw [List.getD_eq_getElem?_getD, List.getElem?_set_self h]
  rfl
theorem getD_set_ne {α : Type} {l : List α} {x d : α} {i j : Nat} (h : i ≠ j) : (l.set i x).getD j d = l.getD j d := by
  rw [List.getD_eq_getElem?_getD, List.getD_eq_getElem?_getD, List.getElem?_set_ne h]
theorem nodup_filter {l : List Nat} (p : Nat → Bool) (h : l.Nodup) : (l.filter p).Nodup := h.sublist List.filter_sublist

/-- the beginning -/
theorem hinv_start {R : Rows} (o : OkR R) {B : List Nat} {g0 g1 : List Nat} (hB : B.length = R.length) (hb : ∀ i, i < R.length → B.getD i 0 = ins R i)
    (n0 : g0.Nodup) (n1 : g1.Nodup) (m0 : ∀ i, i ∈ g0 ↔ i < R.length ∧ ins R i = 0) (m1 : ∀ i, i ∈ g1 ↔ i < R.length ∧ ins R i = 1) : HInv R B [g0, g1] := by
  refine ⟨hB, fun i hi => ?_, fun k hk => ?_, fun k hk i => ?_, fun i j hi hj e => ?_, fun i j hi hj e => ?_⟩
  · rw [hb i hi]
    have := (o i hi).2.2
    show ins R i < 2
    unfold ins
    omega
  · match k, hk with
    | 0, _ => exact n0
    | 1, _ => exact n1
  · match k, hk with
    | 0, _ =>
      refine (m0 i).trans ⟨fun h => ⟨h.1, by rw [hb i h.1]; exact h.2⟩, fun h => ⟨h.1, by rw [← hb i h.1]; exact h.2⟩⟩
    | 1, _ =>
      refine (m1 i).trans ⟨fun h => ⟨h.1, by rw [hb i h.1]; exact h.2⟩, fun h => ⟨h.1, by rw [← hb i h.1]; exact h.2⟩⟩
  · rw [hb i hi, hb j hj]
    exact e.ins
  · rw [← hb i hi, ← hb j hj]
    exact e
theorem exc_start {R : Rows} (o : OkR R) {B : List Nat} (hb : ∀ i, i < R.length → B.getD i 0 = ins R i) (op : Bool → Prop) (T : List Nat) : Exc R B [0, 1] op T := by
  intro i j hi hj e d
  right
  left
  have h := to_lt o hi d
  rw [hb _ h]
  have := (o _ h).2.2
  have q : ins R (to R i d) = 0 ∨ ins R (to R i d) = 1 := by
    unfold ins
    omega
  rcases q with q | q <;> rw [q] <;> simp
/-- the end -/
theorem exc_end {R : Rows} (o : OkR R) {B : List Nat} {G : List (List Nat)} (h : HInv R B G) {T : List Nat} (e : Exc R B [] (fun _ => False) T) : ∀ (w : List Bool) (i j : Nat), i < R.length → j < R.length → B.getD i 0 = B.getD j 0 → ins R (run R i w) = ins R (run R j w)
  | [], i, j, hi, hj, q => h.out i j hi hj q
  | d :: w, i, j, hi, hj, q => by
    refine exc_end o h e w _ _ (to_lt o hi d) (to_lt o hj d) ?_
    rcases e i j hi hj q d with a | a | a | a
    · exact a
    · cases a
    · cases a
    · exact a.1.elim
theorem blocks_end {R : Rows} (o : OkR R) {B : List Nat} {G : List (List Nat)} (h : HInv R B G) {T : List Nat} (e : Exc R B [] (fun _ => False) T) {i j : Nat} (hi : i < R.length) (hj : j < R.length) : B.getD i 0 = B.getD j 0 ↔ Eqv R i j :=
  ⟨fun q w => exc_end o h e w i j hi hj q, fun q => h.eqv i j hi hj q⟩
/-- a class is taken out -/
theorem exc_pop {R : Rows} (o : OkR R) {B : List Nat} {G : List (List Nat)} (h : HInv R B G) {W : List Nat} {c : Nat} (hc : c < G.length) {T : List Nat} (e : Exc R B (W ++ [c]) (fun _ => False) T) : Exc R B W (fun _ => True) (G.getD c []) := by
  intro i j hi hj q d
  have ti := to_lt o hi d
  have tj := to_lt o hj d
  have mi := h.mem c hc (to R i d)
  have mj := h.mem c hc (to R j d)
  by_cases ei : B.getD (to R i d) 0 = c
  · by_cases ej : B.getD (to R j d) 0 = c
    · exact .inl (ei.trans ej.symm)
    · refine .inr (.inr (.inr ⟨trivial, fun z => ?_⟩))
      exact ej (mj.mp (z.mp (mi.mpr ⟨ti, ei⟩))).2
  · by_cases ej : B.getD (to R j d) 0 = c
    · refine .inr (.inr (.inr ⟨trivial, fun z => ?_⟩))
      exact ei (mi.mp (z.mpr (mj.mpr ⟨tj, ej⟩))).2
    · rcases e i j hi hj q d with a | a | a | a
      · exact .inl a
      · rcases List.mem_append.mp a with a | a
        · exact .inr (.inl a)
        · exact absurd (by simpa using a) ei
      · rcases List.mem_append.mp a with a | a
        · exact .inr (.inr (.inl a))
        · exact absurd (by simpa using a) ej
      · exact a.1.elim
theorem closed_grp {R : Rows} {B : List Nat} {G : List (List Nat)} (h : HInv R B G) {c : Nat} (hc : c < G.length) : Closed R (G.getD c []) := by
  intro i j hi hj e
  rw [h.mem c hc, h.mem c hc, h.eqv i j hi hj e]
  exact ⟨fun q => ⟨hj, q.2⟩, fun q => ⟨hi, q.2⟩⟩
/-- the classes that are met -/
theorem mid_start {R : Rows} {B : List Nat} {G : List (List Nat)} (h : HInv R B G) {W T M names : List Nat} {op : Bool → Prop} (e : Exc R B W op T) (hn : names.Nodup) (hm : ∀ x, x ∈ names ↔ ∃ i, i ∈ M ∧ B.getD i 0 = x) : HMid R B G W op T M names := by
  refine ⟨h, e, fun i j hi hj q z => ⟨fun a => ?_, fun a => ?_⟩, fun x hx => (hm x).mp hx, hn⟩
  · exact absurd ((hm _).mpr ⟨i, a, rfl⟩) z
  · exact absurd ((hm _).mpr ⟨j, a, q.symm⟩) z
theorem mid_end {R : Rows} (o : OkR R) {B : List Nat} {G : List (List Nat)} {W T M : List Nat} {op : Bool → Prop} {d : Bool} (m : Marks R T d M) (h : HMid R B G W op T M []) : Exc R B W (fun b => op b ∧ b ≠ d) T := by
  intro i j hi hj q b
  rcases h.exc i j hi hj q b with a | a | a | a
  · exact .inl a
  · exact .inr (.inl a)
  · exact .inr (.inr (.inl a))
  · by_cases hb : b = d
    · exfalso
      subst hb
      have z := h.hom i j hi hj q (by simp)
      rw [m.2, m.2] at z
      exact a.2 ⟨fun y => (z.mp ⟨hi, y⟩).2, fun y => (z.mpr ⟨hj, y⟩).2⟩
    · exact .inr (.inr (.inr ⟨⟨a.1, hb⟩, a.2⟩))
/-- the part of a class that is met -/
def part (B M : List Nat) (x : Nat) : List Nat := M.filter fun i => B.getD i 0 == x
theorem mem_part {B M : List Nat} {x i : Nat} : i ∈ part B M x ↔ i ∈ M ∧ B.getD i 0 = x := by
  unfold part
  rw [List.mem_filter, beq_iff_eq]
theorem mid_lt {R : Rows} {B : List Nat} {G : List (List Nat)} {W T M rem : List Nat} {op : Bool → Prop} {d : Bool} (m : Marks R T d M) {x : Nat} (h : HMid R B G W op T M (x :: rem)) : x < G.length := by
  obtain ⟨i, hi, e⟩ := h.ex x (by simp)
  rw [← e]
  exact h.inv.lt i ((m.2 i).mp hi).1
theorem part_nodup {B M : List Nat} (h : M.Nodup) (x : Nat) : (part B M x).Nodup := nodup_filter _ h
theorem part_pos {R : Rows} {B : List Nat} {G : List (List Nat)} {W T M rem : List Nat} {op : Bool → Prop} {x : Nat} (h : HMid R B G W op T M (x :: rem)) : 0 < (part B M x).length := by
  obtain ⟨i, hi, e⟩ := h.ex x (by simp)
  exact List.length_pos_of_mem (mem_part.mpr ⟨hi, e⟩)
theorem part_sub {R : Rows} {B : List Nat} {G : List (List Nat)} {W T M rem : List Nat} {op : Bool → Prop} {d : Bool} (m : Marks R T d M) {x : Nat} (h : HMid R B G W op T M (x :: rem)) : part B M x ⊆ G.getD x [] := by
  intro i hi
  obtain ⟨a, b⟩ := mem_part.mp hi
  exact (h.inv.mem x (mid_lt m h) i).mpr ⟨((m.2 i).mp a).1, b⟩
theorem mid_keep {R : Rows} {B : List Nat} {G : List (List Nat)} {W T M rem : List Nat} {op : Bool → Prop} {d : Bool} (m : Marks R T d M) {x : Nat} (h : HMid R B G W op T M (x :: rem)) (hl : ¬(part B M x).length < (G.getD x []).length) : HMid R B G W op T M rem := by
  have all : ∀ i, i < R.length → B.getD i 0 = x → i ∈ M := by
    intro i hi e
    apply Classical.byContradiction
    intro ni
    have hg : i ∈ G.getD x [] := (h.inv.mem x (mid_lt m h) i).mpr ⟨hi, e⟩
    have q := List.Nodup.length_le_of_subset (l₁ := i :: part B M x) (l₂ := G.getD x []) (List.nodup_cons.mpr ⟨fun z => ni (mem_part.mp z).1, part_nodup m.1 x⟩) (by
      intro y hy
      rcases List.mem_cons.mp hy with rfl | hy
      · exact hg
      · exact part_sub m h hy)
    rw [List.length_cons] at q
    omega
  refine ⟨h.inv, h.exc, fun i j hi hj q z => ?_, fun y hy => h.ex y (by simp [hy]), (List.nodup_cons.mp h.rnd).2⟩
  by_cases e : B.getD i 0 = x
  · exact ⟨fun _ => all j hj (q.symm.trans e), fun _ => all i hi e⟩
  · exact h.hom i j hi hj q (fun y => (List.mem_cons.mp y).elim e z)
section
variable {R : Rows} {B B' : List Nat} {G : List (List Nat)} {W T M rem : List Nat} {op : Bool → Prop} {d : Bool} {x y : Nat}
/-- the class x is split: the met part gets a new name -/
structure Split (R : Rows) (B B' M : List Nat) (G : List (List Nat)) (x : Nat) : Prop where
  len : B'.length = R.length
  val : ∀ i, i < R.length → B'.getD i 0 = if i ∈ part B M x then G.length else B.getD i 0
def restOf (B' : List Nat) (G : List (List Nat)) (x : Nat) : List Nat := (G.getD x []).filter fun i => B'.getD i 0 == x
def splitG (B B' M : List Nat) (G : List (List Nat)) (x : Nat) : List (List Nat) := (G ++ [part B M x]).set x (restOf B' G x)
theorem split_len : (splitG B B' M G x).length = G.length + 1 := by
  unfold splitG
  simp
theorem split_get (hx : x < G.length) {k : Nat} (hk : k < G.length + 1) : (splitG B B' M G x).getD k [] = if k = x then restOf B' G x else if k = G.length then part B M x else G.getD k [] := by
  unfold splitG
  split
  · rename_i e
    subst e
    exact getD_set_self (by simp; omega)
  · rename_i e
    rw [getD_set_ne (fun z => e z.symm)]
    split
    · rename_i e2
      subst e2
      exact getD_snoc_len
    · exact getD_snoc_lt (by omega)
theorem mem_rest (m : Marks R T d M) (h : HMid R B G W op T M (x :: rem)) (s : Split R B B' M G x) {i : Nat} : i ∈ restOf B' G x ↔ i < R.length ∧ B.getD i 0 = x ∧ i ∉ M := by
  have hx := mid_lt m h
  unfold restOf
  rw [List.mem_filter, beq_iff_eq, h.inv.mem x hx]
  constructor
  · rintro ⟨⟨a, b⟩, c⟩
    refine ⟨a, b, fun z => ?_⟩
    rw [s.val i a, if_pos (mem_part.mpr ⟨z, b⟩)] at c
    omega
  · rintro ⟨a, b, c⟩
    refine ⟨⟨a, b⟩, ?_⟩
    rw [s.val i a, if_neg fun z => c (mem_part.mp z).1]
    exact b
theorem rest_len (m : Marks R T d M) (h : HMid R B G W op T M (x :: rem)) (s : Split R B B' M G x) : (restOf B' G x).length + (part B M x).length ≤ (G.getD x []).length := by
  have hn : (restOf B' G x ++ part B M x).Nodup := by
    rw [List.nodup_append]
    refine ⟨nodup_filter _ (h.inv.nd x (mid_lt m h)), part_nodup m.1 x, fun a ha b hb e => ?_⟩
    subst e
    exact ((mem_rest m h s).mp ha).2.2 (mem_part.mp hb).1
  have q := List.Nodup.length_le_of_subset hn (l₂ := G.getD x []) (by
    intro i hi
    rcases List.mem_append.mp hi with hi | hi
    · exact (List.mem_filter.mp hi).1
    · exact part_sub m h hi)
  rwa [List.length_append] at q
/-- what a class is called behind the split, and ahead of it -/
theorem split_back (m : Marks R T d M) (h : HMid R B G W op T M (x :: rem)) (s : Split R B B' M G x) {i : Nat} (hi : i < R.length) : (B'.getD i 0 = G.length ∧ B.getD i 0 = x ∧ i ∈ M) ∨ (B'.getD i 0 = B.getD i 0 ∧ B.getD i 0 < G.length ∧ ¬(i ∈ M ∧ B.getD i 0 = x)) := by
  rw [s.val i hi]
  split
  · rename_i z
    exact .inl ⟨rfl, (mem_part.mp z).2, (mem_part.mp z).1⟩
  · rename_i z
    exact .inr ⟨rfl, h.inv.lt i hi, fun y => z (mem_part.mpr y)⟩
theorem split_same (m : Marks R T d M) (h : HMid R B G W op T M (x :: rem)) (s : Split R B B' M G x) {i j : Nat} (hi : i < R.length) (hj : j < R.length) (e : B'.getD i 0 = B'.getD j 0) : B.getD i 0 = B.getD j 0 := by
  rcases split_back m h s hi with ⟨a, b, c⟩ | ⟨a, b, c⟩ <;> rcases split_back m h s hj with ⟨a', b', c'⟩ | ⟨a', b', c'⟩ <;> omega
theorem split_inv (m : Marks R T d M) (cl : Closed R T) (h : HMid R B G W op T M (x :: rem)) (s : Split R B B' M G x) (o : OkR R) : HInv R B' (splitG B B' M G x) := by
  have hx := mid_lt m h
  refine ⟨s.len, fun i hi => ?_, fun k hk => ?_, fun k hk i => ?_, fun i j hi hj e => ?_, fun i j hi hj e => ?_⟩
  · rw [split_len]
    rcases split_back m h s hi with ⟨a, b, c⟩ | ⟨a, b, c⟩ <;> omega
  · rw [split_len] at hk
    rw [split_get hx hk]
    split
    · exact nodup_filter _ (h.inv.nd x hx)
    · split
      · exact part_nodup m.1 x
      · exact h.inv.nd k (by omega)
  · rw [split_len] at hk
    rw [split_get hx hk]
    split
    · rename_i ek
      subst ek
      rw [mem_rest m h s]
      constructor
      · rintro ⟨a, b, c⟩
        refine ⟨a, ?_⟩
        rcases split_back m h s a with ⟨a', b', c'⟩ | ⟨a', b', c'⟩
        · exact absurd c' c
        · omega
      · rintro ⟨a, b⟩
        rcases split_back m h s a with ⟨a', b', c'⟩ | ⟨a', b', c'⟩
        · omega
        · exact ⟨a, by omega, fun z => c' ⟨z, by omega⟩⟩
    · rename_i nk
      split
      · rename_i ek
        subst ek
        rw [mem_part]
        constructor
        · rintro ⟨a, b⟩
          have hi := ((m.2 i).mp a).1
          refine ⟨hi, ?_⟩
          rcases split_back m h s hi with ⟨a', b', c'⟩ | ⟨a', b', c'⟩
          · exact a'
          · exact absurd ⟨a, b⟩ c'
        · rintro ⟨a, b⟩
          rcases split_back m h s a with ⟨a', b', c'⟩ | ⟨a', b', c'⟩
          · exact ⟨c', b'⟩
          · omega
      · rename_i nk2
        rw [h.inv.mem k (by omega)]
        constructor
        · rintro ⟨a, b⟩
          refine ⟨a, ?_⟩
          rcases split_back m h s a with ⟨a', b', c'⟩ | ⟨a', b', c'⟩ <;> omega
        · rintro ⟨a, b⟩
          refine ⟨a, ?_⟩
          rcases split_back m h s a with ⟨a', b', c'⟩ | ⟨a', b', c'⟩ <;> omega
  · have e0 := h.inv.eqv i j hi hj e
    have em : i ∈ M ↔ j ∈ M := by
      rw [m.2, m.2]
      have q := cl _ _ (to_lt o hi d) (to_lt o hj d) (e.to d)
      exact ⟨fun z => ⟨hj, q.mp z.2⟩, fun z => ⟨hi, q.mpr z.2⟩⟩
    rw [s.val i hi, s.val j hj]
    have ep : i ∈ part B M x ↔ j ∈ part B M x := by
      rw [mem_part, mem_part, em, e0]
    by_cases hp : i ∈ part B M x
    · rw [if_pos hp, if_pos (ep.mp hp)]
    · rw [if_neg hp, if_neg fun z => hp (ep.mpr z)]
      exact e0
  · exact h.inv.out i j hi hj (split_same m h s hi hj e)
theorem split_exc (m : Marks R T d M) (h : HMid R B G W op T M (x :: rem)) (s : Split R B B' M G x) (o : OkR R) (hy : y = G.length ∨ y = x) (hw : x ∈ W → y = G.length) : Exc R B' (W ++ [y]) op T := by
  -- what waits ahead of the split waits behind it
  have keep : ∀ i, i < R.length → B.getD i 0 ∈ W → B'.getD i 0 ∈ W ++ [y] := by
    intro i hi hm
    rcases split_back m h s hi with ⟨a, b, c⟩ | ⟨a, b, c⟩
    · rw [b] at hm
      rw [a, hw hm]
      simp
    · rw [a]
      exact List.mem_append.mpr (.inl hm)
  intro i j hi hj q b
  have ti := to_lt o hi b
  have tj := to_lt o hj b
  rcases h.exc i j hi hj (split_same m h s hi hj q) b with a | a | a | a
  · rcases split_back m h s ti with ⟨a1, b1, c1⟩ | ⟨a1, b1, c1⟩ <;> rcases split_back m h s tj with ⟨a2, b2, c2⟩ | ⟨a2, b2, c2⟩
    · exact .inl (a1.trans a2.symm)
    · rcases hy with rfl | rfl
      · exact .inr (.inl (by rw [a1]; simp))
      · exact .inr (.inr (.inl (by rw [a2, ← a, b1]; simp)))
    · rcases hy with rfl | rfl
      · exact .inr (.inr (.inl (by rw [a2]; simp)))
      · exact .inr (.inl (by rw [a1, a, b2]; simp))
    · exact .inl (by rw [a1, a2, a])
  · exact .inr (.inl (keep _ ti a))
  · exact .inr (.inr (.inl (keep _ tj a)))
  · exact .inr (.inr (.inr a))
theorem mid_split (m : Marks R T d M) (cl : Closed R T) (h : HMid R B G W op T M (x :: rem)) (s : Split R B B' M G x) (o : OkR R) (hy : y = G.length ∨ y = x) (hw : x ∈ W → y = G.length) : HMid R B' (splitG B B' M G x) (W ++ [y]) op T M rem := by
  have hr := List.nodup_cons.mp h.rnd
  refine ⟨split_inv m cl h s o, split_exc m h s o hy hw, fun i j hi hj q z => ?_, fun k hk => ?_, hr.2⟩
  · have e0 := split_same m h s hi hj q
    rcases split_back m h s hi with ⟨a1, b1, c1⟩ | ⟨a1, b1, c1⟩ <;> rcases split_back m h s hj with ⟨a2, b2, c2⟩ | ⟨a2, b2, c2⟩
    · exact ⟨fun _ => c2, fun _ => c1⟩
    · omega
    · omega
    · by_cases e : B.getD i 0 = x
      · exact ⟨fun w => absurd ⟨w, e⟩ c1, fun w => absurd ⟨w, e0.symm.trans e⟩ c2⟩
      · exact h.hom i j hi hj e0 fun w => (List.mem_cons.mp w).elim e fun w => z (by rw [a1]; exact w)
  · obtain ⟨i, hi, e⟩ := h.ex k (by simp [hk])
    refine ⟨i, hi, ?_⟩
    have hi' := ((m.2 i).mp hi).1
    rcases split_back m h s hi' with ⟨a1, b1, c1⟩ | ⟨a1, b1, c1⟩
    · exfalso
      apply hr.1
      rw [← b1, e]
      exact hk
    · rw [a1, e]
end
/-! ### the measure of the loop -/
def wt : List (List Nat) → Nat
  | [] => 0
  | g :: G => (g.length - 1) + wt G
theorem wt_snoc : ∀ (G : List (List Nat)) (g : List Nat), wt (G ++ [g]) = wt G + (g.length - 1)
  | [], g => by simp [wt]
  | h :: G, g => by
    show (h.length - 1) + wt (G ++ [g]) = (h.length - 1) + wt G + (g.length - 1)
    rw [wt_snoc G g]
    omega
theorem wt_set : ∀ (G : List (List Nat)) (k : Nat) (r : List Nat), k < G.length → wt (G.set k r) + ((G.getD k []).length - 1) = wt G + (r.length - 1)
  | [], k, _, h => by simp at h
  | g :: G, 0, r, _ => by
    show (r.length - 1) + wt G + (g.length - 1) = (g.length - 1) + wt G + (r.length - 1)
    omega
  | g :: G, k + 1, r, h => by
    have ih := wt_set G k r (by simpa using h)
    show (g.length - 1) + wt (G.set k r) + ((G.getD k []).length - 1) = (g.length - 1) + wt G + (r.length - 1)
    omega
def mu (G : List (List Nat)) (W : List Nat) : Nat := W.length + wt G
theorem mu_pop {G : List (List Nat)} {W : List Nat} {c : Nat} : mu G (W ++ [c]) = mu G W + 1 := by
  unfold mu
  rw [List.length_append, List.length_singleton]
  omega
theorem mu_split {R : Rows} {B B' : List Nat} {G : List (List Nat)} {W T M rem : List Nat} {op : Bool → Prop} {d : Bool} {x y : Nat} (m : Marks R T d M) (h : HMid R B G W op T M (x :: rem)) (s : Split R B B' M G x) (hl : (part B M x).length < (G.getD x []).length) : mu (splitG B B' M G x) (W ++ [y]) ≤ mu G W := by
  have hx := mid_lt m h
  have p := part_pos h
  have r := rest_len m h s
  unfold mu splitG
  have a := wt_set (G ++ [part B M x]) x (restOf B' G x) (by rw [List.length_append]; omega)
  rw [wt_snoc, getD_snoc_lt hx] at a
  rw [List.length_append, List.length_singleton]
  omega
/-! ### what leads where -/
def srcs (R : Rows) (d : Bool) (t : Nat) : List Nat := (List.range R.length).filter fun i => to R i d == t
theorem mem_srcs {R : Rows} {d : Bool} {t i : Nat} : i ∈ srcs R d t ↔ i < R.length ∧ to R i d = t := by
  unfold srcs
  rw [List.mem_filter, beq_iff_eq, List.mem_range]
theorem srcs_nodup {R : Rows} {d : Bool} {t : Nat} : (srcs R d t).Nodup := nodup_filter _ List.nodup_range
theorem marks_of {R : Rows} {d : Bool} : ∀ {T : List Nat}, T.Nodup → Marks R T d (T.flatMap (srcs R d))
  | [], _ => ⟨by simp, fun i => by simp⟩
  | t :: T, h => by
    rw [List.nodup_cons] at h
    obtain ⟨n, m⟩ := marks_of (d := d) (R := R) h.2
    refine ⟨?_, fun i => ?_⟩
    · rw [List.flatMap_cons, List.nodup_append]
      refine ⟨srcs_nodup, n, fun a ha b hb e => ?_⟩
      subst e
      have q := (mem_srcs.mp ha).2
      have q2 := ((m a).mp hb).2
      rw [q] at q2
      exact h.1 q2
    · rw [List.flatMap_cons, List.mem_append, mem_srcs, m, List.mem_cons]
      constructor
      · rintro (⟨a, b⟩ | ⟨a, b⟩)
        · exact ⟨a, .inl b⟩
        · exact ⟨a, .inr b⟩
      · rintro ⟨a, b | b⟩
        · exact .inl ⟨a, b⟩
        · exact .inr ⟨a, b⟩
end KM
namespace KM
/-! ### the least machine -/
theorem Order.ind {R : Rows} {s : Nat} {F : List Nat} (h : Order R s F) (P : Nat → Prop) (hs : P s) (ht : ∀ x, x ∈ F → ∀ b, P (to R x b)) : ∀ x, x ∈ F → P x := by
  have key : ∀ k, k ≤ F.length → ∀ x, x ∈ bfs R s k → P x := by
    intro k
    induction k with
    | zero =>
      intro _ x hx
      have : x = s := by simpa [bfs] using hx
      subst this
      exact hs
    | succ k ih =>
      intro hk x hx
      have hq := getD_mem (h.more k hk) 0
      have hq : (bfs R s k).getD k 0 ∈ F := (h.pre (Nat.le_of_lt hk)).subset hq
      rcases mem_push hx with hx | rfl
      · rcases mem_push hx with hx | rfl
        · exact ih (by omega) x hx
        · exact ht _ hq _
      · exact ht _ hq _
  intro x hx
  apply key F.length (Nat.le_refl _) x
  rw [← h.eq]
  exact hx
/-- each state goes to the first ones of the classes -/
def rep (B : List Nat) (i : Nat) : Nat := B.idxOf (B.getD i 0)
def small (R : Rows) (B : List Nat) : Rows := R.map fun r => (rep B r.1, rep B r.2.1, r.2.2)
def Blocks (R : Rows) (B : List Nat) : Prop := B.length = R.length ∧ ∀ i j, i < R.length → j < R.length → (B.getD i 0 = B.getD j 0 ↔ Eqv R i j)
theorem small_len {R : Rows} {B : List Nat} : (small R B).length = R.length := by
  unfold small
  rw [List.length_map]
theorem small_at {R : Rows} {B : List Nat} {i : Nat} (hi : i < R.length) : rowAt (small R B) i = (rep B (rowAt R i).1, rep B (rowAt R i).2.1, (rowAt R i).2.2) := by
  have q := rowAt_eq (R := small R B) (i := i) (by rw [small_len]; exact hi)
  unfold small at q
  rw [List.getElem?_map, rowAt_eq hi] at q
  exact (Option.some.inj q).symm
theorem small_to {R : Rows} {B : List Nat} {i : Nat} (hi : i < R.length) (b : Bool) : to (small R B) i b = rep B (to R i b) := by
  unfold to
  rw [small_at hi]
  cases b <;> rfl
theorem small_ins {R : Rows} {B : List Nat} {i : Nat} (hi : i < R.length) : ins (small R B) i = ins R i := by
  unfold ins
  rw [small_at hi]
section
variable {R : Rows} {B : List Nat}
theorem rep_lt (h : Blocks R B) {i : Nat} (hi : i < R.length) : rep B i < R.length := by
  rw [← h.1]
  exact idx_lt (getD_mem (by rw [h.1]; exact hi) 0)
theorem rep_val (h : Blocks R B) {i : Nat} (hi : i < R.length) : B.getD (rep B i) 0 = B.getD i 0 := get_idx (getD_mem (by rw [h.1]; exact hi) 0) 0
theorem rep_eqv (h : Blocks R B) {i : Nat} (hi : i < R.length) : Eqv R (rep B i) i := (h.2 _ _ (rep_lt h hi) hi).mp (rep_val h hi)
theorem rep_rep (h : Blocks R B) {i : Nat} (hi : i < R.length) : rep B (rep B i) = rep B i := by
  unfold rep
  rw [show B.getD (B.idxOf (B.getD i 0)) 0 = B.getD i 0 from rep_val h hi]
theorem small_ok (h : Blocks R B) (o : OkR R) : OkR (small R B) := by
  intro i hi
  rw [small_len] at hi ⊢
  rw [small_at hi]
  obtain ⟨a, b, c⟩ := o i hi
  exact ⟨rep_lt h a, rep_lt h b, c⟩
theorem small_run (h : Blocks R B) (o : OkR R) : ∀ (w : List Bool) {i : Nat}, i < R.length → ins (small R B) (run (small R B) i w) = ins R (run R i w)
  | [], i, hi => small_ins hi
  | b :: w, i, hi => by
    show ins (small R B) (run (small R B) (to (small R B) i b) w) = ins R (run R (to R i b) w)
    have ht := to_lt o hi b
    rw [small_to hi, small_run h o w (rep_lt h ht)]
    exact rep_eqv h ht w
theorem small_eqv (h : Blocks R B) (o : OkR R) {i j : Nat} (hi : i < R.length) (hj : j < R.length) (e : Eqv (small R B) i j) : Eqv R i j := fun w => by
  rw [← small_run h o w hi, ← small_run h o w hj]
  exact e w
end
theorem least_canon {R : Rows} {s : Nat} {F B F2 : List Nat} (o : OkR R) (hs : s < R.length) (h1 : Order R s F) (hb : Blocks (relabel R F) B) (h2 : Order (small (relabel R F) B) (rep B 0) F2) :
    Canon (relabel (small (relabel R F) B) F2) (fun w => ins R (run R s w)) ∧ (relabel (small (relabel R F) B) F2).length ≤ R.length := by
  have oK := relabel_ok h1 o hs
  have oS := small_ok hb oK
  have hp : 0 < (relabel R F).length := by
    rw [relabel_len]
    exact h1.pos
  have h0 : rep B 0 < (small (relabel R F) B).length := by
    rw [small_len]
    exact rep_lt hb hp
  have lt2 := h2.lt oS h0
  have reps : ∀ x, x ∈ F2 → rep B x = x := h2.ind (fun x => rep B x = x) (rep_rep hb hp) fun x hx b => by
    have hx' := lt2 x hx
    rw [small_len] at hx'
    rw [small_to hx']
    exact rep_rep hb (to_lt oK hx' b)
  refine ⟨⟨⟨_, relabel_num h2⟩, fun w => ?_, fun i j hi hj e => ?_, fun i hi => (relabel_ok h2 oS h0 i hi).2.2⟩, ?_⟩
  · have q := relabel_out h2 w h2.pos
    rw [q, h2.first, small_run hb oK w (rep_lt hb hp), rep_eqv hb hp w, relabel_out h1 w h1.pos, h1.first]
  · rw [relabel_len] at hi hj
    have e1 := (relabel_eqv h2 hi hj).mp e
    have mi := getD_mem hi 0
    have mj := getD_mem hj 0
    have li := lt2 _ mi
    have lj := lt2 _ mj
    rw [small_len] at li lj
    have e2 := (hb.2 _ _ li lj).mpr (small_eqv hb oK li lj e1)
    have ri := reps _ mi
    have rj := reps _ mj
    unfold rep at ri rj
    rw [e2, rj] at ri
    exact nodup_inj h2.nodup hi hj ri.symm
  · rw [relabel_len]
    have a := nodup_bound h2.nodup lt2
    rw [small_len, relabel_len] at a
    have b := nodup_bound h1.nodup (h1.lt o hs)
    omega

/-! ### rules read up to the highest digit 1 -/
def wideRow (R : Rows) (v : Nat) (r : Row) : Row := (r.1 + R.length * v, r.2.1 + R.length * ins R r.2.1, v)
def wide (R : Rows) : Rows := R.map (wideRow R 0) ++ R.map (wideRow R 1)
def trun (R : Rows) : Nat → Nat → List Bool → Nat × Nat
  | i, v, [] => (i, v)
  | i, v, b :: w => trun R (to R i b) (if b = true then ins R (to R i b) else v) w
/-- what a rule tells of a row of digits -/
def told (R : Rows) (w : List Bool) : Nat := (trun R 0 0 w).2
theorem wide_len {R : Rows} : (wide R).length = 2 * R.length := by
  unfold wide
  rw [List.length_append, List.length_map, List.length_map]
  omega
theorem wide_at {R : Rows} {i v : Nat} (hi : i < R.length) (hv : v ≤ 1) : rowAt (wide R) (i + R.length * v) = wideRow R v (rowAt R i) := by
  have hl : i + R.length * v < (wide R).length := by
    rw [wide_len]
    rcases (show v = 0 ∨ v = 1 by omega) with rfl | rfl <;> omega
  have q := rowAt_eq hl
  unfold wide at q
  rcases (show v = 0 ∨ v = 1 by omega) with rfl | rfl
  · rw [Nat.mul_zero, Nat.add_zero] at q ⊢
    rw [List.getElem?_append_left (by rw [List.length_map]; exact hi), List.getElem?_map, rowAt_eq hi] at q
    exact (Option.some.inj q).symm
  · rw [Nat.mul_one] at q ⊢
    rw [List.getElem?_append_right (by rw [List.length_map]; omega), List.length_map, Nat.add_sub_cancel, List.getElem?_map, rowAt_eq hi] at q
    exact (Option.some.inj q).symm
theorem ins_le {R : Rows} (o : OkR R) {i : Nat} (hi : i < R.length) : ins R i ≤ 1 := (o i hi).2.2
theorem wide_ins {R : Rows} {i v : Nat} (hi : i < R.length) (hv : v ≤ 1) : ins (wide R) (i + R.length * v) = v := by
  unfold ins
  rw [wide_at hi hv]
  rfl
theorem wide_to {R : Rows} (o : OkR R) {i v : Nat} (hi : i < R.length) (hv : v ≤ 1) (b : Bool) : to (wide R) (i + R.length * v) b = to R i b + R.length * (if b = true then ins R (to R i b) else v) := by
  unfold to
  rw [wide_at hi hv]
  cases b
  · rfl
  · rfl
theorem wide_ok {R : Rows} (o : OkR R) : OkR (wide R) := by
  intro k hk
  rw [wide_len] at hk ⊢
  have key : ∀ i v, i < R.length → v ≤ 1 → (rowAt (wide R) (i + R.length * v)).1 < 2 * R.length ∧ (rowAt (wide R) (i + R.length * v)).2.1 < 2 * R.length ∧ (rowAt (wide R) (i + R.length * v)).2.2 ≤ 1 := by
    intro i v hi hv
    rw [wide_at hi hv]
    obtain ⟨a, b, c⟩ := o i hi
    have d := ins_le o b
    refine ⟨?_, ?_, hv⟩
    · show (rowAt R i).1 + R.length * v < _
      rcases (show v = 0 ∨ v = 1 by omega) with rfl | rfl <;> omega
    · show (rowAt R i).2.1 + R.length * ins R (rowAt R i).2.1 < _
      rcases (show ins R (rowAt R i).2.1 = 0 ∨ ins R (rowAt R i).2.1 = 1 by omega) with e | e <;> rw [e] <;> omega
  rcases Nat.lt_or_ge k R.length with q | q
  · have := key k 0 q (by omega)
    rwa [Nat.mul_zero, Nat.add_zero] at this
  · have := key (k - R.length) 1 (by omega) (by omega)
    rwa [Nat.mul_one, Nat.sub_add_cancel q] at this
theorem wide_run {R : Rows} (o : OkR R) : ∀ (w : List Bool) {i v : Nat}, i < R.length → v ≤ 1 → (trun R i v w).1 < R.length ∧ (trun R i v w).2 ≤ 1 ∧ run (wide R) (i + R.length * v) w = (trun R i v w).1 + R.length * (trun R i v w).2
  | [], i, v, hi, hv => ⟨hi, hv, rfl⟩
  | b :: w, i, v, hi, hv => by
    have ht := to_lt o hi b
    have q := wide_run o w (i := to R i b) (v := if b = true then ins R (to R i b) else v) ht (by
      split
      · exact ins_le o ht
      · exact hv)
    rw [show run (wide R) (i + R.length * v) (b :: w) = run (wide R) (to (wide R) (i + R.length * v) b) w from rfl, wide_to o hi hv]
    exact q
theorem wide_told {R : Rows} (o : OkR R) (hp : 0 < R.length) (w : List Bool) : ins (wide R) (run (wide R) 0 w) = told R w := by
  obtain ⟨a, b, c⟩ := wide_run o w hp (Nat.zero_le 1)
  rw [Nat.mul_zero, Nat.add_zero] at c
  rw [c, wide_ins a b]
  rfl
theorem trun_fst {R : Rows} : ∀ (w : List Bool) (i v : Nat), (trun R i v w).1 = run R i w
  | [], _, _ => rfl
  | b :: w, i, v => trun_fst w _ _
theorem trun_app {R : Rows} : ∀ (u w : List Bool) (i v : Nat), trun R i v (u ++ w) = trun R (trun R i v u).1 (trun R i v u).2 w
  | [], _, _, _ => rfl
  | b :: u, w, i, v => trun_app u w _ _
theorem told_one {R : Rows} (u : List Bool) : told R (u ++ [true]) = ins R (run R 0 (u ++ [true])) := by
  unfold told
  rw [trun_app, run_app, ← trun_fst u 0 0]
  rfl
theorem told_nought {R : Rows} (u : List Bool) : told R (u ++ [false]) = told R u := by
  unfold told
  rw [trun_app]
  rfl

/-! ### numbers and their digits -/
def bits (n : Nat) : List Bool := if h : n = 0 then [] else decide (n % 2 = 1) :: bits (n / 2)
termination_by n
decreasing_by omega
theorem bits_zero : bits 0 = [] := by
  rw [bits]
  simp
theorem bits_pos {n : Nat} (h : 0 < n) : bits n = decide (n % 2 = 1) :: bits (n / 2) := by
  rw [bits, dif_neg (by omega)]
theorem bits_last (n : Nat) : 0 < n → ∃ w, bits n = w ++ [true] := by
  induction n using Nat.strongRecOn with
  | ind n ih =>
    intro h
    rw [bits_pos h]
    rcases Nat.lt_or_ge n 2 with q | q
    · obtain rfl : n = 1 := by omega
      exact ⟨[], by rw [show 1 / 2 = 0 from rfl, bits_zero]; rfl⟩
    · obtain ⟨w, e⟩ := ih (n / 2) (by omega) (by omega)
      exact ⟨decide (n % 2 = 1) :: w, by rw [e]; rfl⟩
def val : List Bool → Nat
  | [] => 0
  | b :: w => (if b = true then 1 else 0) + 2 * val w
theorem val_one (w : List Bool) : 0 < val (w ++ [true]) := by
  induction w with
  | nil => decide
  | cons b w ih =>
    show 0 < _ + 2 * val (w ++ [true])
    omega
theorem val_nought (w : List Bool) : val (w ++ [false]) = val w := by
  induction w with
  | nil => rfl
  | cons b w ih =>
    show _ + 2 * val (w ++ [false]) = _ + 2 * val w
    rw [ih]
theorem bits_val : ∀ w : List Bool, bits (val (w ++ [true])) = w ++ [true]
  | [] => by
    show bits 1 = [true]
    rw [bits_pos (by omega), show 1 / 2 = 0 from rfl, bits_zero]
    rfl
  | b :: w => by
    have ih := bits_val w
    have hp := val_one w
    show bits ((if b = true then 1 else 0) + 2 * val (w ++ [true])) = b :: (w ++ [true])
    rw [bits_pos (by omega)]
    have e1 : ((if b = true then 1 else 0) + 2 * val (w ++ [true])) / 2 = val (w ++ [true]) := by
      cases b <;> simp <;> omega
    have e2 : ((if b = true then 1 else 0) + 2 * val (w ++ [true])) % 2 = if b = true then 1 else 0 := by
      cases b <;> simp <;> omega
    rw [e1, e2, ih]
    cases b <;> rfl
theorem bits_lt (n : Nat) : n < 2 ^ (bits n).length := by
  induction n using Nat.strongRecOn with
  | ind n ih =>
    rcases Nat.eq_zero_or_pos n with rfl | h
    · rw [bits_zero]
      decide
    · rw [bits_pos h, List.length_cons, Nat.pow_succ]
      have := ih (n / 2) (by omega)
      omega
theorem bits_ge (n : Nat) : 0 < n → 2 ^ (bits n).length ≤ 2 * n := by
  induction n using Nat.strongRecOn with
  | ind n ih =>
    intro h
    rw [bits_pos h, List.length_cons, Nat.pow_succ]
    rcases Nat.lt_or_ge n 2 with q | q
    · obtain rfl : n = 1 := by omega
      rw [show 1 / 2 = 0 from rfl, bits_zero]
      decide
    · have := ih (n / 2) (by omega) (by omega)
      omega
theorem bits_len_mono {m n : Nat} (h : m ≤ n) : (bits m).length ≤ (bits n).length := by
  rcases Nat.eq_zero_or_pos m with rfl | hm
  · rw [bits_zero]
    exact Nat.zero_le _
  · apply Classical.byContradiction
    intro q
    have a := bits_ge m hm
    have b := bits_lt n
    have c : 2 ^ ((bits n).length + 1) ≤ 2 ^ (bits m).length := Nat.pow_le_pow_right (by omega) (by omega)
    rw [Nat.pow_succ] at c
    omega
/-- a machine read on the digits of a number up to the highest 1 -/
def ledAt (R : Rows) (i n : Nat) : Nat := ins R (run R i (bits n))
theorem told_bits {R : Rows} {n : Nat} (h : 0 < n) : told R (bits n) = ledAt R 0 n := by
  obtain ⟨w, e⟩ := bits_last n h
  unfold ledAt
  rw [e, told_one]
theorem told_val {R : Rows} : ∀ (k : Nat) (w : List Bool), w.length = k → told R w = if val w = 0 then 0 else ledAt R 0 (val w)
  | 0, w, h => by
    obtain rfl := List.length_eq_zero_iff.mp h
    rfl
  | k + 1, w, h => by
    rcases List.eq_nil_or_concat w with rfl | ⟨u, b, rfl⟩
    · cases h
    · rw [List.concat_eq_append] at h ⊢
      have hk : u.length = k := by simpa using h
      cases b
      · rw [told_nought, val_nought]
        exact told_val k u hk
      · have hp := val_one u
        rw [told_one, if_neg (by omega)]
        unfold ledAt
        rw [bits_val]
/-- two rules tell the same if they have the same numbers -/
theorem told_same {R R' : Rows} (h : ∀ n, 0 < n → ledAt R 0 n = ledAt R' 0 n) (w : List Bool) : told R w = told R' w := by
  rw [told_val _ w rfl, told_val _ w rfl]
  split
  · rfl
  · exact h _ (by omega)
theorem led_same {R R' : Rows} (h : ∀ w, told R w = told R' w) {n : Nat} (hn : 0 < n) : ledAt R 0 n = ledAt R' 0 n := by
  rw [← told_bits hn, ← told_bits hn, h]

/-! ### a rule with two copies of each row -/
def Doubled (R R2 : Rows) : Prop := R2.length = 2 * R.length ∧ ∀ k, k < R2.length → (rowAt R2 k).1 < R2.length ∧ (rowAt R2 k).2.1 < R2.length ∧ (rowAt R2 k).1 % R.length = (rowAt R (k % R.length)).1 ∧ (rowAt R2 k).2.1 % R.length = (rowAt R (k % R.length)).2.1 ∧ (rowAt R2 k).2.2 = (rowAt R (k % R.length)).2.2
theorem doubled_run {R R2 : Rows} (h : Doubled R R2) : ∀ (w : List Bool) {k : Nat}, k < R2.length → run R2 k w < R2.length ∧ run R2 k w % R.length = run R (k % R.length) w
  | [], k, hk => ⟨hk, rfl⟩
  | b :: w, k, hk => by
    obtain ⟨a1, a2, a3, a4, a5⟩ := h.2 k hk
    have ht : to R2 k b < R2.length ∧ to R2 k b % R.length = to R (k % R.length) b := by
      unfold to
      cases b
      · exact ⟨a1, a3⟩
      · exact ⟨a2, a4⟩
    obtain ⟨q1, q2⟩ := doubled_run h w ht.1
    refine ⟨q1, ?_⟩
    show run R2 (to R2 k b) w % R.length = run R (to R (k % R.length) b) w
    rw [q2, ht.2]
theorem doubled_led {R R2 : Rows} (h : Doubled R R2) (hp : 0 < R.length) (n : Nat) : ledAt R2 0 n = ledAt R 0 n := by
  have h0 : 0 < R2.length := by
    rw [h.1]
    omega
  obtain ⟨a, b⟩ := doubled_run h (bits n) h0
  unfold ledAt
  have q := (h.2 _ a).2.2.2.2
  unfold ins
  rw [q, b, Nat.zero_mod]
theorem doubled_ok {R R2 : Rows} (o : OkR R) (h : Doubled R R2) (hp : 0 < R.length) : OkR R2 := fun k hk => by
  obtain ⟨a1, a2, a3, a4, a5⟩ := h.2 k hk
  refine ⟨a1, a2, ?_⟩
  rw [a5]
  exact (o _ (Nat.mod_lt _ hp)).2.2

/-! ### two rules side by side -/
def bothRow (m : Nat) (x y : Row) : Row := (x.1 * m + y.1, x.2.1 * m + y.2.1, if x.2.2 = y.2.2 then 0 else 1)
def both (R R' : Rows) : Rows := R.flatMap fun x => R'.map fun y => bothRow R'.length x y
theorem both_len (R R' : Rows) : (both R R').length = R.length * R'.length := by
  unfold both
  induction R with
  | nil => simp
  | cons x R ih => rw [List.flatMap_cons, List.length_append, ih, List.length_map, List.length_cons, Nat.succ_mul, Nat.add_comm]
theorem flat_at {R' : Rows} (f : Row → Row → Row) : ∀ (R : Rows) {i j : Nat}, i < R.length → j < R'.length → (R.flatMap fun x => R'.map fun y => f x y)[i * R'.length + j]? = some (f (rowAt R i) (rowAt R' j))
  | [], _, _, h, _ => by simp at h
  | x :: R, 0, j, _, hj => by
    rw [List.flatMap_cons, Nat.zero_mul, Nat.zero_add, List.getElem?_append_left (by rw [List.length_map]; exact hj), List.getElem?_map, rowAt_eq hj]
    rfl
  | x :: R, i + 1, j, hi, hj => by
    rw [List.flatMap_cons, List.getElem?_append_right (by rw [List.length_map, Nat.succ_mul]; omega), List.length_map]
    rw [show (i + 1) * R'.length + j - R'.length = i * R'.length + j by rw [Nat.succ_mul]; omega]
    exact flat_at f R (by simpa using hi) hj
theorem both_lt {R R' : Rows} {i j : Nat} (hi : i < R.length) (hj : j < R'.length) : i * R'.length + j < (both R R').length := by
  rw [both_len]
  have : (i + 1) * R'.length ≤ R.length * R'.length := Nat.mul_le_mul_right _ hi
  rw [Nat.succ_mul] at this
  omega
theorem both_at {R R' : Rows} {i j : Nat} (hi : i < R.length) (hj : j < R'.length) : rowAt (both R R') (i * R'.length + j) = bothRow R'.length (rowAt R i) (rowAt R' j) := by
  have q := rowAt_eq (both_lt hi hj)
  have e := flat_at (bothRow R'.length) R hi hj
  exact Option.some.inj (q.symm.trans e)
theorem both_to {R R' : Rows} {i j : Nat} (hi : i < R.length) (hj : j < R'.length) (b : Bool) : to (both R R') (i * R'.length + j) b = to R i b * R'.length + to R' j b := by
  unfold to
  rw [both_at hi hj]
  cases b <;> rfl
theorem both_run {R R' : Rows} (o : OkR R) (o' : OkR R') : ∀ (w : List Bool) {i j : Nat}, i < R.length → j < R'.length → run (both R R') (i * R'.length + j) w = run R i w * R'.length + run R' j w
  | [], _, _, _, _ => rfl
  | b :: w, i, j, hi, hj => by
    show run (both R R') (to (both R R') (i * R'.length + j) b) w = run R (to R i b) w * R'.length + run R' (to R' j b) w
    rw [both_to hi hj, both_run o o' w (to_lt o hi b) (to_lt o' hj b)]
theorem both_led {R R' : Rows} (o : OkR R) (o' : OkR R') (hp : 0 < R.length) (hp' : 0 < R'.length) (n : Nat) : ledAt (both R R') 0 n = if ledAt R 0 n = ledAt R' 0 n then 0 else 1 := by
  have e := both_run o o' (bits n) hp hp'
  rw [Nat.zero_mul, Nat.zero_add] at e
  unfold ledAt
  rw [e]
  have q := both_at (run_lt o (bits n) hp) (run_lt o' (bits n) hp')
  unfold ins
  rw [q]
  rfl
theorem both_ok {R R' : Rows} (o : OkR R) (o' : OkR R') : OkR (both R R') := by
  intro k hk
  have hp' : 0 < R'.length := by
    rcases Nat.eq_zero_or_pos R'.length with e | e
    · rw [both_len, e] at hk
      omega
    · exact e
  have hi : k / R'.length < R.length := by
    rw [both_len] at hk
    exact Nat.div_lt_of_lt_mul (by rw [Nat.mul_comm]; exact hk)
  have hj : k % R'.length < R'.length := Nat.mod_lt _ hp'
  have ek : k / R'.length * R'.length + k % R'.length = k := Nat.div_add_mod' k _
  have q := both_at hi hj
  rw [ek] at q
  rw [q]
  obtain ⟨a, b, c⟩ := o _ hi
  obtain ⟨a', b', c'⟩ := o' _ hj
  refine ⟨both_lt a a', both_lt b b', ?_⟩
  show (if _ then 0 else 1) ≤ 1
  split <;> omega

/-! ### a member that is not too great -/
theorem nodup_of_le (n : Nat) : ∀ (l S : List Nat), S.Nodup → S ⊆ l → l.length ≤ S.length → l.Nodup
  | [], _, _, _, _ => List.nodup_nil
  | x :: l, S, hS, hs, hl => by
    have hx : x ∉ l := fun hx => by
      have q := List.Nodup.length_le_of_subset hS (l₂ := l) fun y hy => by
        rcases List.mem_cons.mp (hs hy) with rfl | hy
        · exact hx
        · exact hy
      rw [List.length_cons] at hl
      omega
    refine List.nodup_cons.mpr ⟨hx, nodup_of_le n l (S.erase x) (hS.erase x) (fun y hy => ?_) ?_⟩
    · obtain ⟨a, b⟩ := (hS.mem_erase_iff).mp hy
      exact (List.mem_cons.mp (hs b)).elim (fun z => absurd z a) id
    · rw [List.length_erase]
      rw [List.length_cons] at hl
      split <;> omega
theorem pigeon {l : List Nat} {n : Nat} (h : ∀ x, x ∈ l → x < n) (hl : n < l.length) : ∃ i j, i < j ∧ j < l.length ∧ l.getD i 0 = l.getD j 0 := by
  apply Classical.byContradiction
  intro q
  have hn : l.Nodup := by
    rw [List.Nodup, List.pairwise_iff_getElem]
    intro i j hi hj hij e
    refine q ⟨i, j, hij, hj, ?_⟩
    rw [getD_of_get? (List.getElem?_eq_getElem hi), getD_of_get? (List.getElem?_eq_getElem hj), e]
  have := nodup_bound hn h
  omega
theorem no_member {R : Rows} (o : OkR R) (hp : 0 < R.length) (h : ∀ n, 0 < n → n ≤ 2 ^ R.length → ledAt R 0 n = 0) (n : Nat) : 0 < n → ledAt R 0 n = 0 := by
  induction n using Nat.strongRecOn with
  | ind n ih =>
    intro hn
    rcases Nat.lt_or_ge R.length (bits n).length with q | q
    · have hst : ∀ x, x ∈ (List.range (bits n).length).map (fun i => run R 0 ((bits n).take i)) → x < R.length := by
        intro x hx
        obtain ⟨i, _, rfl⟩ := List.mem_map.mp hx
        exact run_lt o _ hp
      obtain ⟨i, j, hij, hj, e⟩ := pigeon hst (by rw [List.length_map, List.length_range]; exact q)
      rw [List.length_map, List.length_range] at hj
      have gi : ∀ k, k < (bits n).length → ((List.range (bits n).length).map (fun i => run R 0 ((bits n).take i))).getD k 0 = run R 0 ((bits n).take k) := fun k hk => getD_of_get? (by rw [List.getElem?_map, List.getElem?_range hk]; rfl)
      rw [gi i (by omega), gi j hj] at e
      obtain ⟨w, ew⟩ := bits_last n hn
      have hw : (bits n).length = w.length + 1 := by rw [ew, List.length_append, List.length_singleton]
      have ed : (bits n).drop j = w.drop j ++ [true] := by
        rw [ew, List.drop_append_of_le_length (by omega)]
      have hv : bits (val ((bits n).take i ++ (w.drop j ++ [true]))) = (bits n).take i ++ (w.drop j ++ [true]) := by
        rw [← List.append_assoc, bits_val]
      have hpos : 0 < val ((bits n).take i ++ (w.drop j ++ [true])) := by
        rw [← List.append_assoc]
        exact val_one _
      have hlt : val ((bits n).take i ++ (w.drop j ++ [true])) < n := by
        apply Classical.byContradiction
        intro z
        have m := bits_len_mono (Nat.le_of_not_lt z)
        rw [hv, List.length_append, List.length_append, List.length_take, List.length_drop, List.length_singleton] at m
        omega
      have r := ih _ hlt hpos
      unfold ledAt at r ⊢
      rw [hv, run_app, e, ← run_app, ← ed, List.take_append_drop] at r
      exact r
    · refine h n hn ?_
      have a := bits_lt n
      have b : 2 ^ (bits n).length ≤ 2 ^ R.length := Nat.pow_le_pow_right (by omega) q
      omega

/-! ### counting members -/
/-- the places hold 0 exactly where no number of the range is a member -/
def Zero (R : Rows) (l : List Nat) (p : Nat → Prop) : Prop := l.length = R.length ∧ ∀ i, i < R.length → (l.getD i 0 = 0 ↔ ∀ n, 0 < n → p n → ledAt R i n = 0)
theorem led_one {R : Rows} {i : Nat} : ledAt R i 1 = ins R (to R i true) := by
  unfold ledAt
  rw [bits_pos (by omega), show 1 / 2 = 0 from rfl, bits_zero]
  rfl
theorem led_more {R : Rows} {i n : Nat} (h : 0 < n) : ledAt R i n = ledAt R (to R i (decide (n % 2 = 1))) (n / 2) := by
  unfold ledAt
  rw [bits_pos h]
  rfl
theorem led_two {R : Rows} {i n : Nat} (h : 0 < n) : ledAt R i (2 * n) = ledAt R (to R i false) n := by
  rw [led_more (by omega), show 2 * n / 2 = n by omega, show decide (2 * n % 2 = 1) = false from decide_eq_false (by omega)]
theorem led_odd {R : Rows} {i n : Nat} (h : 0 < n) : ledAt R i (2 * n + 1) = ledAt R (to R i true) n := by
  rw [led_more (by omega), show (2 * n + 1) / 2 = n by omega, show decide ((2 * n + 1) % 2 = 1) = true from decide_eq_true (by omega)]
/-- one digit more -/
theorem led_split {R : Rows} {i : Nat} {p : Nat → Prop} {one : Prop} {pe po : Nat → Prop} (h1 : p 1 ↔ one) (he : ∀ n, 0 < n → (p (2 * n) ↔ pe n)) (ho : ∀ n, 0 < n → (p (2 * n + 1) ↔ po n)) :
    (∀ n, 0 < n → p n → ledAt R i n = 0) ↔ (one → ins R (to R i true) = 0) ∧ (∀ n, 0 < n → pe n → ledAt R (to R i false) n = 0) ∧ (∀ n, 0 < n → po n → ledAt R (to R i true) n = 0) := by
  constructor
  · intro h
    refine ⟨fun q => ?_, fun n hn q => ?_, fun n hn q => ?_⟩
    · rw [← led_one]
      exact h 1 (by omega) (h1.mpr q)
    · rw [← led_two hn]
      exact h _ (by omega) ((he n hn).mpr q)
    · rw [← led_odd hn]
      exact h _ (by omega) ((ho n hn).mpr q)
  · rintro ⟨a, b, c⟩ n hn q
    rcases Nat.lt_or_ge n 2 with z | z
    · obtain rfl : n = 1 := by omega
      rw [led_one]
      exact a (h1.mp q)
    · rcases Nat.mod_two_eq_zero_or_one n with e | e
      · obtain ⟨m, rfl⟩ : ∃ m, n = 2 * m := ⟨n / 2, by omega⟩
        rw [led_two (by omega)]
        exact b m (by omega) ((he m (by omega)).mp q)
      · obtain ⟨m, rfl⟩ : ∃ m, n = 2 * m + 1 := ⟨n / 2, by omega⟩
        rw [led_odd (by omega)]
        exact c m (by omega) ((ho m (by omega)).mp q)
def onesOf (R : Rows) : List Nat := R.map fun r => ins R r.2.1
theorem ones_at {R : Rows} {i : Nat} (hi : i < R.length) : (onesOf R).getD i 0 = ins R (to R i true) := by
  apply getD_of_get?
  unfold onesOf
  rw [List.getElem?_map, rowAt_eq hi]
  rfl
/-- the new places: e the noughts' part, u the ones' part, c how often 1 itself counts -/
def stepOf (R : Rows) (c : Nat) (e u : List Nat) : List Nat := (List.range R.length).map fun i => (onesOf R).getD i 0 * c + e.getD (rowAt R i).1 0 + u.getD (rowAt R i).2.1 0
theorem step_at {R : Rows} {c : Nat} {e u : List Nat} {i : Nat} (hi : i < R.length) : (stepOf R c e u).getD i 0 = (onesOf R).getD i 0 * c + e.getD (rowAt R i).1 0 + u.getD (rowAt R i).2.1 0 := by
  apply getD_of_get?
  unfold stepOf
  rw [List.getElem?_map, List.getElem?_range hi]
  rfl
theorem step_zero {R : Rows} (o : OkR R) {c : Nat} {e u : List Nat} {p pe po : Nat → Prop} (h1 : p 1 ↔ 0 < c) (he : ∀ n, 0 < n → (p (2 * n) ↔ pe n)) (ho : ∀ n, 0 < n → (p (2 * n + 1) ↔ po n)) (ze : Zero R e pe) (zu : Zero R u po) : Zero R (stepOf R c e u) p := by
  refine ⟨by unfold stepOf; rw [List.length_map, List.length_range], fun i hi => ?_⟩
  obtain ⟨a, b, _⟩ := o i hi
  rw [step_at hi, led_split h1 he ho, ones_at hi]
  have qe := ze.2 _ a
  have qu := zu.2 _ b
  rw [show to R i false = (rowAt R i).1 from rfl, show to R i true = (rowAt R i).2.1 from rfl, ← qe, ← qu]
  constructor
  · intro h
    have h0 : ins R (rowAt R i).2.1 * c = 0 := by omega
    refine ⟨fun hc => ?_, by omega, by omega⟩
    rcases Nat.mul_eq_zero.mp h0 with z | z
    · exact z
    · omega
  · rintro ⟨x, y, z⟩
    rw [y, z]
    rcases Nat.eq_zero_or_pos c with q | q
    · rw [q]
      omega
    · rw [x q]
      omega
theorem zero_start {R : Rows} {l : List Nat} (hl : l.length = R.length) (hz : ∀ i, i < R.length → l.getD i 0 = 0) {p : Nat → Prop} (hp : ∀ n, 0 < n → ¬p n) : Zero R l p :=
  ⟨hl, fun i hi => ⟨fun _ n hn q => absurd q (hp n hn), fun _ => hz i hi⟩⟩
/-- one turn: from the half of a number to the number -/
theorem turn_upto {R : Rows} (o : OkR R) {n : Nat} (hn : 0 < n) {less upto : List Nat} (zl : Zero R less fun k => k < n / 2) (zu : Zero R upto fun k => k ≤ n / 2) : Zero R (stepOf R 1 upto (if n % 2 = 1 then upto else less)) fun k => k ≤ n := by
  refine step_zero (pe := fun k => k ≤ n / 2) (po := fun k => if n % 2 = 1 then k ≤ n / 2 else k < n / 2) o ?_ ?_ ?_ zu ?_
  · show 1 ≤ n ↔ 0 < 1
    omega
  · intro k hk
    show 2 * k ≤ n ↔ k ≤ n / 2
    omega
  · intro k hk
    show 2 * k + 1 ≤ n ↔ if n % 2 = 1 then k ≤ n / 2 else k < n / 2
    split <;> omega
  · split
    · exact zu
    · exact zl
theorem turn_less {R : Rows} (o : OkR R) {n : Nat} (hn : 0 < n) {less upto : List Nat} (zl : Zero R less fun k => k < n / 2) (zu : Zero R upto fun k => k ≤ n / 2) : Zero R (stepOf R (if 1 < n then 1 else 0) (if n % 2 = 1 then upto else less) less) fun k => k < n := by
  refine step_zero (pe := fun k => if n % 2 = 1 then k ≤ n / 2 else k < n / 2) (po := fun k => k < n / 2) o ?_ ?_ ?_ ?_ zl
  · show 1 < n ↔ 0 < if 1 < n then 1 else 0
    split <;> omega
  · intro k hk
    show 2 * k < n ↔ if n % 2 = 1 then k ≤ n / 2 else k < n / 2
    split <;> omega
  · intro k hk
    show 2 * k + 1 < n ↔ k < n / 2
    omega
  · split
    · exact zu
    · exact zl
end KM
namespace KM
/-! ### the check that no two rows are alike -/
theorem perm_of_le {n : Nat} {l : List Nat} (h : ∀ v, v < n → v ∈ l) (hl : l.length ≤ n) : (List.range n).Perm l := by
  have nd : (List.range n).Nodup := List.nodup_range
  have sub : List.range n ⊆ l := fun v hv => h v (List.mem_range.mp hv)
  have nl : l.Nodup := nodup_of_le n l _ nd sub (by rw [List.length_range]; exact hl)
  rw [List.perm_ext_iff_of_nodup nd nl]
  refine fun v => ⟨fun q => sub q, fun q => ?_⟩
  apply Classical.byContradiction
  intro z
  have r := List.Nodup.length_le_of_subset (l₁ := v :: List.range n) (l₂ := l) (List.nodup_cons.mpr ⟨z, nd⟩) (by
    intro y hy
    rcases List.mem_cons.mp hy with rfl | hy
    · exact q
    · exact sub hy)
  rw [List.length_cons, List.length_range] at r
  omega
theorem sorted_range {n : Nat} {l m : List Nat} (p : (List.range n).Perm l) (q : l.Perm m) (s : List.Pairwise (· ≤ ·) m) : m = List.range n := by
  refine List.Perm.eq_of_pairwise (le := (· ≤ ·)) (fun a b _ _ x y => Nat.le_antisymm x y) s ?_ (p.trans q).symm
  exact List.pairwise_lt_range.imp fun h => Nat.le_of_lt h
/-- the names of a list of keys: equal keys have equal names, and m names are given -/
structure Names (n : Nat) (same : Nat → Nat → Prop) (f : List Nat) (m : Nat) : Prop where
  len : f.length = n
  iff : ∀ i j, i < n → j < n → (f.getD i 0 = f.getD j 0 ↔ same i j)
  lt : ∀ i, i < n → f.getD i 0 < m
  all : ∀ v, v < m → ∃ i, i < n ∧ f.getD i 0 = v
/-- what two rows have in common by the blocks b -/
def Sm (T : Rows) (b : List Nat) (i j : Nat) : Prop := b.getD i 0 = b.getD j 0 ∧ b.getD (to T i false) 0 = b.getD (to T j false) 0 ∧ b.getD (to T i true) 0 = b.getD (to T j true) 0
/-- blocks ahead of a turn: many is 0 ahead of the first -/
structure Moore (T : Rows) (b : List Nat) (many t : Nat) : Prop where
  len : b.length = T.length
  out : ∀ i j, i < T.length → j < T.length → b.getD i 0 = b.getD j 0 → ins T i = ins T j
  fst : t = 0 → many = 0
  nxt : 0 < t → t ≤ many ∧ (∀ i, i < T.length → b.getD i 0 < many) ∧ ∀ v, v < many → ∃ i, i < T.length ∧ b.getD i 0 = v
theorem Names.refine {T : Rows} {b f : List Nat} {m : Nat} (h : Names T.length (Sm T b) f m) {i j : Nat} (hi : i < T.length) (hj : j < T.length) (e : f.getD i 0 = f.getD j 0) : b.getD i 0 = b.getD j 0 := ((h.iff i j hi hj).mp e).1
/-- at least as many names as ahead -/
theorem Names.more {T : Rows} {b f : List Nat} {m many : Nat} (h : Names T.length (Sm T b) f m) (ha : ∀ v, v < many → ∃ i, i < T.length ∧ b.getD i 0 = v) : many ≤ m := by
  -- the b-names of the first ones of the f-names cover all
  have hr : ∀ v, ∃ i, v < m → i < T.length ∧ f.getD i 0 = v := fun v => by
    by_cases q : v < m
    · obtain ⟨i, hi⟩ := h.all v q
      exact ⟨i, fun _ => hi⟩
    · exact ⟨0, fun z => absurd z q⟩
  have hq := List.Nodup.length_le_of_subset (l₁ := List.range many) (l₂ := (List.range m).map fun v => b.getD (Classical.choose (hr v)) 0) List.nodup_range (by
    intro u hu
    obtain ⟨k, hk, ek⟩ := ha u (List.mem_range.mp hu)
    have hv := h.lt k hk
    refine List.mem_map.mpr ⟨f.getD k 0, List.mem_range.mpr hv, ?_⟩
    obtain ⟨c1, c2⟩ := Classical.choose_spec (hr (f.getD k 0)) hv
    rw [← ek]
    exact h.refine c1 hk c2)
  rwa [List.length_range, List.length_map, List.length_range] at hq
/-- as many names as ahead: nothing is split -/
theorem Names.stable {T : Rows} {b f : List Nat} {m : Nat} (h : Names T.length (Sm T b) f m) (ha : ∀ v, v < m → ∃ i, i < T.length ∧ b.getD i 0 = v) {i j : Nat} (hi : i < T.length) (hj : j < T.length) (e : b.getD i 0 = b.getD j 0) : f.getD i 0 = f.getD j 0 := by
  have hr : ∀ v, ∃ i, v < m → i < T.length ∧ f.getD i 0 = v := fun v => by
    by_cases q : v < m
    · obtain ⟨i, hi⟩ := h.all v q
      exact ⟨i, fun _ => hi⟩
    · exact ⟨0, fun z => absurd z q⟩
  have nd : ((List.range m).map fun v => b.getD (Classical.choose (hr v)) 0).Nodup := by
    refine nodup_of_le m _ (List.range m) List.nodup_range (fun u hu => ?_) ?_
    · obtain ⟨k, hk, ek⟩ := ha u (List.mem_range.mp hu)
      have hv := h.lt k hk
      refine List.mem_map.mpr ⟨f.getD k 0, List.mem_range.mpr hv, ?_⟩
      obtain ⟨c1, c2⟩ := Classical.choose_spec (hr (f.getD k 0)) hv
      rw [← ek]
      exact h.refine c1 hk c2
    · rw [List.length_map]
      exact Nat.le_refl _
  have li := h.lt i hi
  have lj := h.lt j hj
  have gv : ∀ v, v < m → ((List.range m).map fun v => b.getD (Classical.choose (hr v)) 0).getD v 0 = b.getD (Classical.choose (hr v)) 0 := fun v hv => getD_of_get? (by rw [List.getElem?_map, List.getElem?_range hv]; rfl)
  refine nodup_inj nd (by rw [List.length_map, List.length_range]; exact li) (by rw [List.length_map, List.length_range]; exact lj) ?_
  rw [gv _ li, gv _ lj]
  obtain ⟨c1, c2⟩ := Classical.choose_spec (hr (f.getD i 0)) li
  obtain ⟨d1, d2⟩ := Classical.choose_spec (hr (f.getD j 0)) lj
  rw [h.refine c1 hi c2, h.refine d1 hj d2, e]
theorem names_count {n : Nat} {same : Nat → Nat → Prop} {f : List Nat} {m : Nat} (h : Names n same f m) : m ≤ n := by
  have q := List.Nodup.length_le_of_subset (l₁ := List.range m) (l₂ := f) List.nodup_range (by
    intro v hv
    obtain ⟨i, hi, e⟩ := h.all v (List.mem_range.mp hv)
    rw [← e]
    exact getD_mem (by rw [h.len]; exact hi) 0)
  rwa [List.length_range, h.len] at q
/-- a turn that ends by break -/
theorem moore_break {T : Rows} {L : List Bool → Nat} (c : Canon T L) {b f : List Nat} {m t : Nat} (hm : Moore T b m t) (h : Names T.length (Sm T b) f m) : (List.range T.length).Perm f := by
  have hp : 0 < T.length := c.pos
  have m0 : 0 < m := Nat.lt_of_le_of_lt (Nat.zero_le _) (h.lt 0 hp)
  have ht : 0 < t := by
    rcases Nat.eq_zero_or_pos t with e | e
    · have := hm.fst e
      omega
    · exact e
  obtain ⟨_, _, ha⟩ := hm.nxt ht
  have st : ∀ (w : List Bool) (i j : Nat), i < T.length → j < T.length → f.getD i 0 = f.getD j 0 → ins T (run T i w) = ins T (run T j w) := by
    intro w
    induction w with
    | nil =>
      intro i j hi hj e
      exact hm.out i j hi hj (h.refine hi hj e)
    | cons d w ih =>
      intro i j hi hj e
      refine ih _ _ (to_lt c.ok hi d) (to_lt c.ok hj d) (h.stable ha (to_lt c.ok hi d) (to_lt c.ok hj d) ?_)
      obtain ⟨_, q0, q1⟩ := (h.iff i j hi hj).mp e
      cases d
      · exact q0
      · exact q1
  have nd : f.Nodup := by
    rw [List.Nodup, List.pairwise_iff_getElem]
    intro i j hi hj hij e
    have hi' : i < T.length := by rw [← h.len]; exact hi
    have hj' : j < T.length := by rw [← h.len]; exact hj
    have e' : f.getD i 0 = f.getD j 0 := by rw [getD_of_get? (List.getElem?_eq_getElem hi), getD_of_get? (List.getElem?_eq_getElem hj), e]
    have := c.unlike i j hi' hj' fun w => st w i j hi' hj' e'
    omega
  have hl : T.length ≤ m := by
    have q := nodup_bound nd (n := m) fun x hx => by
      obtain ⟨i, hi, e⟩ := mem_getD hx 0
      rw [← e]
      exact h.lt i (by rw [← h.len]; exact hi)
    rwa [h.len] at q
  refine perm_of_le (fun v hv => ?_) (by rw [h.len]; exact Nat.le_refl _)
  obtain ⟨i, hi, e⟩ := h.all v (by omega)
  rw [← e]
  exact getD_mem (by rw [h.len]; exact hi) 0
/-- a turn that goes on -/
theorem moore_turn {T : Rows} (hp : 0 < T.length) {b f : List Nat} {many m t : Nat} (hm : Moore T b many t) (h : Names T.length (Sm T b) f m) (ne : m ≠ many) : Moore T f m (t + 1) := by
  refine ⟨h.len, fun i j hi hj e => hm.out i j hi hj (h.refine hi hj e), fun z => by omega, fun _ => ⟨?_, h.lt, h.all⟩⟩
  rcases Nat.eq_zero_or_pos t with e | e
  · have := hm.fst e
    omega
  · obtain ⟨a, _, ha⟩ := hm.nxt e
    have := h.more ha
    omega
/-- all turns are done -/
theorem moore_end {T : Rows} (hp : 0 < T.length) {b : List Nat} {many : Nat} (hm : Moore T b many T.length) : (List.range T.length).Perm b := by
  obtain ⟨a, _, ha⟩ := hm.nxt hp
  refine perm_of_le (fun v hv => ?_) (by rw [hm.len]; exact Nat.le_refl _)
  obtain ⟨i, hi, e⟩ := ha v (by omega)
  rw [← e]
  exact getD_mem (by rw [hm.len]; exact hi) 0
theorem moore_start {T : Rows} {b : List Nat} (hl : b.length = T.length) (hb : ∀ i, i < T.length → b.getD i 0 = ins T i) : Moore T b 0 0 :=
  ⟨hl, fun i j hi hj e => by rw [← hb i hi, ← hb j hj]; exact e, fun _ => rfl, fun z => by omega⟩
/-! the names of the keys, one by one -/
abbrev Key3 := Nat × Nat × Nat
def key3 (T : Rows) (b : List Nat) (i : Nat) : Key3 := (b.getD i 0, b.getD (to T i false) 0, b.getD (to T i true) 0)
/-- the keys D met so far, in the order of their first places, and the names f given -/
structure Named (k : Nat → Key3) (j : Nat) (D : List Key3) (f : List Nat) : Prop where
  len : f.length = j
  nd : D.Nodup
  at_ : ∀ i, i < j → D[f.getD i 0]? = some (k i)
  all : ∀ v, v < D.length → ∃ i, i < j ∧ f.getD i 0 = v
theorem Named.start {k : Nat → Key3} : Named k 0 [] [] := ⟨rfl, List.nodup_nil, fun i h => by omega, fun v h => by simp at h⟩
theorem get_snoc {α : Type} {l : List α} {x : α} {i : Nat} {y : α} (h : l[i]? = some y) : (l ++ [x])[i]? = some y := by
  have hi := (List.getElem?_eq_some_iff.mp h).1
  rw [List.getElem?_append_left hi]
  exact h
theorem Named.old {k : Nat → Key3} {j : Nat} {D : List Key3} {f : List Nat} (h : Named k j D f) {v : Nat} (hv : D[v]? = some (k j)) : Named k (j + 1) D (f ++ [v]) := by
  refine ⟨by rw [List.length_append, h.len]; rfl, h.nd, fun i hi => ?_, fun u hu => ?_⟩
  · rcases Nat.lt_or_ge i j with q | q
    · rw [getD_snoc_lt (by rw [h.len]; exact q)]
      exact h.at_ i q
    · obtain rfl : i = j := by omega
      have := getD_snoc_len (l := f) (x := v) (d := 0)
      rw [h.len] at this
      rw [this]
      exact hv
  · obtain ⟨i, hi, e⟩ := h.all u hu
    exact ⟨i, by omega, by rw [getD_snoc_lt (by rw [h.len]; exact hi)]; exact e⟩
theorem Named.new {k : Nat → Key3} {j : Nat} {D : List Key3} {f : List Nat} (h : Named k j D f) (hn : k j ∉ D) : Named k (j + 1) (D ++ [k j]) (f ++ [D.length]) := by
  have e0 := getD_snoc_len (l := f) (x := D.length) (d := 0)
  rw [h.len] at e0
  refine ⟨by rw [List.length_append, h.len]; rfl, ?_, fun i hi => ?_, fun u hu => ?_⟩
  · rw [List.nodup_append]
    refine ⟨h.nd, by simp, fun a ha b hb e => ?_⟩
    have : b = k j := by simpa using hb
    subst this
    subst e
    exact hn ha
  · rcases Nat.lt_or_ge i j with q | q
    · rw [getD_snoc_lt (by rw [h.len]; exact q)]
      exact get_snoc (h.at_ i q)
    · obtain rfl : i = j := by omega
      rw [e0, List.getElem?_append_right (Nat.le_refl _), Nat.sub_self]
      rfl
  · rw [List.length_append, List.length_singleton] at hu
    rcases Nat.lt_or_ge u D.length with q | q
    · obtain ⟨i, hi, e⟩ := h.all u q
      exact ⟨i, by omega, by rw [getD_snoc_lt (by rw [h.len]; exact hi)]; exact e⟩
    · obtain rfl : u = D.length := by omega
      exact ⟨j, by omega, e0⟩
theorem get_inj {α : Type} : ∀ {l : List α}, l.Nodup → ∀ {i j : Nat} {x : α}, l[i]? = some x → l[j]? = some x → i = j
  | [], _, _, _, _, h, _ => by simp at h
  | y :: l, hn, i, j, x, hi, hj => by
    rw [List.nodup_cons] at hn
    cases i with
    | zero =>
      cases j with
      | zero => rfl
      | succ j =>
        exfalso
        apply hn.1
        have e : y = x := by simpa using hi
        rw [e]
        exact List.mem_of_getElem? (by simpa using hj)
    | succ i =>
      cases j with
      | zero =>
        exfalso
        apply hn.1
        have e : y = x := by simpa using hj
        rw [e]
        exact List.mem_of_getElem? (by simpa using hi)
      | succ j =>
        have q := get_inj hn.2 (i := i) (j := j) (x := x) (by simpa using hi) (by simpa using hj)
        rw [q]
theorem Named.names {T : Rows} {b : List Nat} {D : List Key3} {f : List Nat} (h : Named (key3 T b) T.length D f) : Names T.length (Sm T b) f D.length := by
  refine ⟨h.len, fun i j hi hj => ?_, fun i hi => (List.getElem?_eq_some_iff.mp (h.at_ i hi)).1, h.all⟩
  have ai := h.at_ i hi
  have aj := h.at_ j hj
  constructor
  · intro e
    rw [e, aj] at ai
    have q := Option.some.inj ai
    unfold key3 at q
    injection q with q1 q2
    injection q2 with q2 q3
    exact ⟨q1.symm, q2.symm, q3.symm⟩
  · rintro ⟨q1, q2, q3⟩
    have q : key3 T b i = key3 T b j := by
      unfold key3
      rw [q1, q2, q3]
    rw [q] at ai
    exact get_inj h.nd ai aj
end KM
namespace K35
open PySem PySem.Spec PyProof.Rows L2 KR
/-! ## the text by places -/
def top (i : Nat) : Stmt := PySem.Challenge.pw_allwordlengths_k35_whole_sets_told_by_ru.main.body.getD i (.Pass ⟨0, 0, 0, 0⟩)
/-- the digits 0 and 1 -/
def bitV (b : Bool) : V := .int (if b = true then 1 else 0)
def natV (n : Nat) : V := .int (n : Int)
/-- a row's items -/
def rowV (r : KM.Row) : List V := [natV r.1, natV r.2.1, natV r.2.2]
/-- the items as are the rows R: lists or tuples -/
def RowsIn (K : PySem.W.Frag) (H : Hp) (as : List V) (R : KM.Rows) : Prop := as.length = R.length ∧ ∀ (i : Nat), i < R.length → ∃ p, as[i]? = some (.ref p) ∧ Sq K H p (rowV (KM.rowAt R i))
/-- .. all of them tuples -/
def RowsT (K : PySem.W.Frag) (H : Hp) (as : List V) (R : KM.Rows) : Prop := as.length = R.length ∧ ∀ (i : Nat), i < R.length → ∃ p, as[i]? = some (.ref p) ∧ H p = some (.tup (rowV (KM.rowAt R i)))
theorem RowsT.toIn {K : PySem.W.Frag} {H : Hp} {as : List V} {R : KM.Rows} (h : RowsT K H as R) : RowsIn K H as R :=
  ⟨h.1, fun i hi => let ⟨p, e, q⟩ := h.2 i hi; ⟨p, e, sq_t q⟩⟩
theorem RowsT.same {K : PySem.W.Frag} {H H' : Hp} {as : List V} {R : KM.Rows} (h : RowsT K H as R) (e : Same H H') : RowsT K H' as R :=
  ⟨h.1, fun i hi => let ⟨p, a, q⟩ := h.2 i hi; ⟨p, a, e _ _ q⟩⟩
theorem RowsIn.same {K : PySem.W.Frag} {H H' : Hp} {as : List V} {R : KM.Rows} (h : RowsIn K H as R) (e : Same H H') : RowsIn K H' as R :=
  ⟨h.1, fun i hi => let ⟨p, a, q⟩ := h.2 i hi; ⟨p, a, same_sq e q⟩⟩
theorem RowsT.nil {K : PySem.W.Frag} {H : Hp} : RowsT K H [] [] := ⟨rfl, fun i hi => absurd hi (Nat.not_lt_zero i)⟩
theorem rowAt_snoc_lt {R : KM.Rows} {r : KM.Row} {i : Nat} (h : i < R.length) : KM.rowAt (R ++ [r]) i = KM.rowAt R i := KM.getD_snoc_lt h
theorem rowAt_snoc_len {R : KM.Rows} {r : KM.Row} : KM.rowAt (R ++ [r]) R.length = r := KM.getD_snoc_len
theorem RowsT.snoc {K : PySem.W.Frag} {H : Hp} {as : List V} {R : KM.Rows} (h : RowsT K H as R) {p : Addr} {r : KM.Row} (hp : H p = some (.tup (rowV r))) : RowsT K H (as ++ [.ref p]) (R ++ [r]) := by
  refine ⟨by rw [List.length_append, List.length_append, h.1]; rfl, fun i hi => ?_⟩
  rw [List.length_append, List.length_singleton] at hi
  rcases Nat.lt_or_ge i R.length with q | q
  · obtain ⟨a, e, t⟩ := h.2 i q
    refine ⟨a, ?_, by rw [rowAt_snoc_lt q]; exact t⟩
    rw [List.getElem?_append_left (by rw [h.1]; exact q)]
    exact e
  · obtain rfl : i = R.length := by omega
    refine ⟨p, ?_, by rw [rowAt_snoc_len]; exact hp⟩
    rw [List.getElem?_append_right (by rw [h.1]; exact Nat.le_refl _), h.1, Nat.sub_self]
    rfl
theorem row_0 (r : KM.Row) : (rowV r)[0]? = some (natV r.1) := rfl
theorem row_1 (r : KM.Row) : (rowV r)[1]? = some (natV r.2.1) := rfl
theorem row_2 (r : KM.Row) : (rowV r)[2]? = some (natV r.2.2) := rfl
theorem row_b (R : KM.Rows) (i : Nat) (b : Bool) : (rowV (KM.rowAt R i))[(if b = true then 1 else 0 : Nat)]? = some (natV (KM.to R i b)) := by cases b <;> rfl
theorem small_line {n m : Nat} (h : n ≤ m) (hm : m < 100000) : n < sizeLine := Nat.lt_of_le_of_lt h (Nat.lt_trans hm (by decide))
/-- a list of numbers -/
def natsV (l : List Nat) : List V := l.map natV
theorem natsV_len (l : List Nat) : (natsV l).length = l.length := List.length_map ..
theorem natsV_get {l : List Nat} {i : Nat} (h : i < l.length) : (natsV l)[i]? = some (natV (l.getD i 0)) := by
  unfold natsV
  rw [List.getElem?_map, KM.get?_getD h 0]
  rfl
theorem natsV_get? {l : List Nat} {i n : Nat} (h : l[i]? = some n) : (natsV l)[i]? = some (natV n) := by
  unfold natsV
  rw [List.getElem?_map, h]
  rfl
theorem of_natsV {l : List Nat} {i : Nat} {v : V} (h : (natsV l)[i]? = some v) : ∃ n, l[i]? = some n ∧ v = natV n := by
  unfold natsV at h
  rw [List.getElem?_map] at h
  cases e : l[i]? with
  | none =>
    rw [e] at h
    cases h
  | some n =>
    rw [e] at h
    exact ⟨n, rfl, (Option.some.inj h).symm⟩
theorem natsV_snoc (l : List Nat) (n : Nat) : natsV (l ++ [n]) = natsV l ++ [natV n] := List.map_append ..
theorem nat_inj {a b : Nat} : (natV a = natV b) = (a = b) := by
  apply propext
  unfold natV
  constructor
  · intro h
    have q := V.int.inj h
    omega
  · intro h
    rw [h]
theorem dec_nat (a b : Nat) : decide (natV a = natV b) = decide (a = b) := by rw [decide_eq_decide, nat_inj]
end K35
namespace K35
open PySem PySem.Spec PyProof.Rows L2 KR
theorem bits_short {n : Nat} (h : n < 2 ^ 1000) : (KM.bits n).length ≤ 1000 := by
  rcases Nat.eq_zero_or_pos n with rfl | hn
  · rw [KM.bits_zero]
    decide
  · have a := KM.bits_ge n hn
    have b : 2 ^ (KM.bits n).length < 2 ^ 1001 := by
      rw [Nat.pow_succ 2 1000]
      omega
    have := (Nat.pow_lt_pow_iff_right (by decide : 1 < 2)).mp b
    omega
theorem bitV_mod (n : Nat) : V.int ((n % 2 : Nat) : Int) = bitV (decide (n % 2 = 1)) := by
  unfold bitV
  rcases Nat.mod_two_eq_zero_or_one n with e | e <;> rw [e] <;> rfl
def spDigits : Sp := fun vs H Q _ => ∃ n : Nat, vs = [natV n] ∧ n < 2 ^ 1000 ∧ ∀ H' p, Same H H' → H p = none → H' p = some (.lst ((KM.bits n).map bitV)) → Q (.ref p) H'
abbrev sDigits : Stmt := top 7
theorem scDigits : FnScope ["number", "found"] ["number"] (defScope sDigits) := ⟨rfl, rfl, rfl, by decide +kernel, rfl, by decide +kernel, by decide +kernel⟩
section
variable {P : Program} {w : World} {K : PySem.W.Frag} {mg : PySem.Str → Option Value} {base : Heap}
theorem ok_digits {f : Addr} {fd : FuncData} {k : Nat} (F : Fun K "digits_of" "digits_of" sDigits f fd) : FnOk P w K mg base CX0 (k + 1) f fd ["number"] spDigits := by
  refine F.ok scDigits (fun vs H Q E h => ?_) (fun cdv A outer s H vs Q E hr h => ?_)
  · obtain ⟨n, rfl, _⟩ := h
    rfl
  · obtain ⟨n, rfl, hn, q⟩ := h
    refine ⟨_, pss_cons (ps_set (i := 1) scDigits.nd rfl (.inl rfl) (pe_lst pa_nil))
      (pss_cons (ps_while PassesOwn.never (pt_cmpR op_gt (pv 0) pe_int (nomark _))
        (pss_cons (ps_expr (pe_bm PySem.F.plainAttrs_list PySem.F.slot_list_append PySem.F.type_list_append mt_append (pv 1) (pa_cons (pe_op op_odd (pv 0) pe_int) pa_nil)))
          (pss_one (ps_set (i := 0) scDigits.nd rfl (.inl rfl) (pe_op op_halfN (pv 0) pe_int)))))
      (pss_one (ps_ret (pv 1)))), ?_⟩
    refine ⟨Nat.zero_le _, fun o no => ?_⟩
    refine ⟨fun m σ H' => ∃ acc, σ = [some (natV m), some (.ref o)] ∧ Same H H' ∧ H' o = some (.lst (acc.map bitV)) ∧ acc ++ KM.bits m = KM.bits n, ⟨n, [], rfl, same_fresh no, upd_same, rfl⟩, fun m σ H' hW => ?_⟩
    obtain ⟨acc, rfl, sm, eo, eb⟩ := hW
    refine ⟨_, rfl, _, _, rfl, rfl, _, rfl, ite2 (fun c => ?_) (fun c => ?_)⟩
    · have pos : 0 < m := by
        have := of_decide_eq_true c
        omega
      rw [KM.bits_pos pos] at eb
      have hl : acc.length < 1000 := by
        have l := bits_short hn
        rw [← eb, List.length_append, List.length_cons] at l
        omega
      refine ⟨fun σ' H' => ∃ acc, σ' = [some (natV (m / 2)), some (.ref o)] ∧ Same H H' ∧ H' o = some (.lst (acc.map bitV)) ∧ acc ++ KM.bits (m / 2) = KM.bits n, fun σ' H' z => ⟨m / 2, by omega, z⟩, ?_⟩
      refine ⟨_, rfl, .inl ⟨rfl, _, SqL.of eo⟩, _, rfl, m, rfl, rfl, o, _, _, rfl, rfl, eo, by rw [List.length_map]; exact small_line (Nat.le_of_lt hl) (by decide), _, rfl, m, rfl, rfl, ?_⟩
      refine ⟨acc ++ [decide (m % 2 = 1)], rfl, same_put sm no, ?_, ?_⟩
      · rw [upd_same, List.map_append, bitV_mod]
        rfl
      · rw [List.append_assoc]
        exact eb
    · have e0 : m = 0 := by
        apply Classical.byContradiction
        intro z
        exact c (decide_eq_true (by omega))
      subst e0
      rw [KM.bits_zero, List.append_nil] at eb
      subst eb
      exact ⟨_, rfl, q H' o sm no eo⟩
end
end K35
namespace K35
open PySem PySem.Spec PyProof.Rows L2 KR
/-- the dict of the numbers that are known -/
def knownOf (F : List Nat) : List (Key × V) := F.map fun (x : Nat) => ((Sum.inl ((x : Nat) : Int) : Key), V.bl true)
theorem known_len (F : List Nat) : (knownOf F).length = F.length := List.length_map ..
theorem known_some (F : List Nat) (t : Nat) : (valV (knownOf F) (Sum.inl (t : Int))).isSome = decide (t ∈ F) := by
  rw [← valV_any, Bool.eq_iff_iff, List.any_eq_true, decide_eq_true_eq]
  unfold knownOf
  constructor
  · rintro ⟨p, hp, e⟩
    obtain ⟨x, hx, rfl⟩ := List.mem_map.mp hp
    have e' : (Sum.inl (x : Int) : Key) = Sum.inl (t : Int) := of_decide_eq_true e
    have : x = t := by
      have q := Sum.inl.inj e'
      omega
    rw [← this]
    exact hx
  · intro ht
    exact ⟨_, List.mem_map.mpr ⟨t, ht, rfl⟩, decide_eq_true rfl⟩
theorem known_put {F : List Nat} {t : Nat} (h : t ∉ F) : putK (knownOf F) (Sum.inl (t : Int)) (.bl true) = knownOf (F ++ [t]) := by
  have q := known_some F t
  rw [decide_eq_false h] at q
  have n : valV (knownOf F) (Sum.inl (t : Int)) = none := by
    cases e : valV (knownOf F) (Sum.inl (t : Int)) with
    | none => rfl
    | some v =>
      rw [e] at q
      cases q
  rw [putK_new _ n]
  unfold knownOf
  rw [List.map_append]
  rfl
def spOrder (K : PySem.W.Frag) : Sp := fun vs H Q _ => ∃ (a : Addr) (as : List V) (R : KM.Rows) (s : Nat), vs = [.ref a, natV s] ∧ H a = some (.lst as) ∧ RowsT K H as R ∧ KM.OkR R ∧ s < R.length ∧ R.length ≤ 1000 ∧
  ∀ H' p F, Same H H' → H p = none → KM.Order R s F → H' p = some (.lst (natsV F)) → Q (.ref p) H'
abbrev sOrder : Stmt := top 9
theorem scOrder : FnScope ["rows", "start", "found", "known", "at", "target"] ["rows", "start"] (defScope sOrder) := ⟨rfl, rfl, rfl, by decide +kernel, rfl, by decide +kernel, by decide +kernel⟩
theorem pair_at {x y : V} : ([x, y] : List V)[0]? = some x ∧ ([x, y] : List V)[1]? = some y := ⟨rfl, rfl⟩
/-- the objects of order_of: o the list, d the dict; Hf all that stays -/
structure OrdAt (Hf H' : Hp) (o d : Addr) (F : List Nat) : Prop where
  same : Same Hf H'
  no : Hf o = none
  nd : Hf d = none
  eo : H' o = some (.lst (natsV F))
  ed : H' d = some (.dK (knownOf F))
theorem OrdAt.ne {Hf H' : Hp} {o d : Addr} {F : List Nat} (h : OrdAt Hf H' o d F) : o ≠ d := ne_of h.eo h.ed (by intro z; cases z)
theorem OrdAt.less {Hf H0 H' : Hp} {o d : Addr} {F : List Nat} (h : OrdAt Hf H' o d F) (e : Same H0 Hf) : OrdAt H0 H' o d F := ⟨e.trans h.same, e.free h.no, e.free h.nd, h.eo, h.ed⟩
/-- one more is found -/
theorem OrdAt.more {Hf H' : Hp} {o d : Addr} {F : List Nat} (h : OrdAt Hf H' o d F) (t : Nat) : OrdAt Hf (upd (upd H' d (.dK (knownOf (F ++ [t])))) o (.lst (natsV (F ++ [t])))) o d (F ++ [t]) :=
  ⟨same_put (same_put h.same h.nd) h.no, h.no, h.nd, upd_same, by rw [upd_ne h.ne.symm, upd_same]⟩
section
variable {P : Program} {w : World} {K : PySem.W.Frag} {mg : PySem.Str → Option Value} {base : Heap}
theorem ok_order {f : Addr} {fd : FuncData} {k : Nat} (F : Fun K "order_of" "order_of" sOrder f fd) (ml : mg "len" = none) : FnOk P w K mg base CX0 (k + 1) f fd ["rows", "start"] (spOrder K) := by
  refine F.ok scOrder (fun vs H Q E h => ?_) (fun cdv A outer s H vs Q E hr h => ?_)
  · obtain ⟨a, as, R, s, rfl, _⟩ := h
    rfl
  · obtain ⟨a, as, R, st, rfl, ha, hR, oR, hst, hlen, q⟩ := h
    refine ⟨_, pss_cons (ps_set (i := 2) scOrder.nd rfl (.inl rfl) (pe_lst (pa_cons (pv 1) pa_nil)))
      (pss_cons (ps_set (i := 3) scOrder.nd rfl (.inl rfl) (pe_disp (pps_cons (pv 1) pe_bl pps_nil) (by rfl) (by rfl) (fun z => by cases z) (by decide)))
      (pss_cons (ps_set (i := 4) scOrder.nd rfl (.inl rfl) pe_int)
      (pss_cons (ps_while PassesOwn.never (pt_cmpR op_lt (pv 4) (pe_callB call_len_seq (by rfl) ml PySem.boot_len (pa_cons (pv 2) pa_nil)) (nomark _))
        (pss_cons (ps_for PassesOwn.never rfl (pi_tup (pe_tup (pa_cons (pe_ix ix_tup (pe_ix ix_list (pv 0) (pe_ix ix_list (pv 2) (pv 4) (fun _ _ => rfl)) (fun _ _ => rfl)) pe_int (fun _ _ => rfl))
            (pa_cons (pe_ix ix_tup (pe_ix ix_list (pv 0) (pe_ix ix_list (pv 2) (pv 4) (fun _ _ => rfl)) (fun _ _ => rfl)) pe_int (fun _ _ => rfl)) pa_nil)))) (pg_name (i := 5) scOrder.nd rfl (.inl rfl))
          (pss_one (ps_if (pt_cmp (pc_dnotin (hu_of hr) (pv 5) (pv 3)))
            (pss_cons (ps_dput (hu_of hr) (pv 3) (pv 5) pe_bl rfl)
              (pss_one (ps_expr (pe_bm PySem.F.plainAttrs_list PySem.F.slot_list_append PySem.F.type_list_append mt_append (pv 2) (pa_cons (pv 5) pa_nil))))) pss_nil)))
          (pss_one (ps_aug (i := 4) scOrder.nd rfl (.inl rfl) pe_int ip_add))))
      (pss_one (ps_ret (pv 2)))))), ?_⟩
    refine ⟨_, rfl, show 1 ≤ sizeLine by decide, fun o no => ?_⟩
    refine fun d nd => ⟨_, rfl, upd_same, [(Sum.inl (st : Int), .bl true)], rfl, show 1 ≤ 15 by decide, ?_⟩
    have nod : o ≠ d := fun e => by
      rw [e, upd_same] at nd
      cases nd
    have n0d : H d = none := by
      rw [upd_ne nod.symm] at nd
      exact nd
    refine ⟨fun m σ H' => ∃ j y, σ = [some (.ref a), some (natV st), some (.ref o), some (.ref d), some (natV j), y] ∧ OrdAt H H' o d (KM.bfs R st j) ∧ (∀ i, i < j → i < (KM.bfs R st i).length) ∧ m = R.length - j,
      ⟨R.length, 0, none, rfl, ⟨?_, no, n0d, ?_, ?_⟩, fun i hi => absurd hi (Nat.not_lt_zero i), rfl⟩, fun m σ H' hW => ?_⟩
    · exact same_put (same_put (same_put (Same.refl H) no) n0d) n0d
    · rw [upd_ne nod, upd_ne nod, upd_same]
      rfl
    · rw [upd_same]
      rfl
    · obtain ⟨j, y, rfl, oa, hj, rfl⟩ := hW
      have hF := KM.bfs_lt oR hst j hj
      have nF := KM.bfs_nodup R st j
      have lF : (KM.bfs R st j).length ≤ R.length := KM.nodup_bound nF hF
      refine ⟨_, rfl, _, rfl, o, _, rfl, .inl (SqL.of oa.eo), _, _, rfl, rfl, _, rfl, ite2 (fun c => ?_) (fun c => ?_)⟩
      · have hjl : j < (KM.bfs R st j).length := by
          have := of_decide_eq_true c
          rw [natsV_len] at this
          omega
        have hx : (KM.bfs R st j).getD j 0 < R.length := hF _ (KM.getD_mem hjl 0)
        refine ⟨fun σ' H' => ∃ y, σ' = [some (.ref a), some (natV st), some (.ref o), some (.ref d), some (natV (j + 1)), y] ∧ OrdAt H H' o d (KM.bfs R st (j + 1)),
          fun σ' H' z => let ⟨y, e, z⟩ := z; ⟨R.length - (j + 1), by omega, j + 1, y, e, z, fun i hi => by rcases Nat.lt_or_ge i j with q | q; exact hj i q; exact (show i = j by omega) ▸ hjl, rfl⟩, ?_⟩
        obtain ⟨p, ep, tp⟩ := hR.2 _ hx
        have hA : SqL K H' a as := SqL.of (oa.same _ _ ha)
        have hP : SqT K H' p (rowV (KM.rowAt R ((KM.bfs R st j).getD j 0))) := .inl (.inl (oa.same _ _ tp))
        have gj : (natsV (KM.bfs R st j))[j]? = some (natV ((KM.bfs R st j).getD j 0)) := natsV_get hjl
        refine ⟨_, rfl, _, rfl, _, rfl, o, _, _, _, rfl, rfl, SqL.of oa.eo, atI_nat gj, a, as, _, _, rfl, rfl, hA, atI_nat ep, p, _, _, _, rfl, rfl, hP, atI_nat (j := 0) (row_0 _),
          _, rfl, _, rfl, _, rfl, o, _, _, _, rfl, rfl, SqL.of oa.eo, atI_nat gj, a, as, _, _, rfl, rfl, hA, atI_nat ep, p, _, _, _, rfl, rfl, hP, atI_nat (j := 1) (row_1 _), show 2 ≤ sizeLine by decide, fun T nT => ?_⟩
        -- the two targets
        generalize hx0 : KM.to R ((KM.bfs R st j).getD j 0) false = t0
        generalize hx1 : KM.to R ((KM.bfs R st j).getD j 0) true = t1
        have e0 : natV (KM.rowAt R ((KM.bfs R st j).getD j 0)).1 = natV t0 := by rw [← hx0]; rfl
        have e1 : natV (KM.rowAt R ((KM.bfs R st j).getD j 0)).2.1 = natV t1 := by rw [← hx1]; rfl
        rw [e0, e1]
        have lt0 : t0 < R.length := by rw [← hx0]; exact KM.to_lt oR hx _
        have lt1 : t1 < R.length := by rw [← hx1]; exact KM.to_lt oR hx _
        have hT0 : H T = none := oa.same.free nT
        have nTo : T ≠ o := fun e => by rw [e, oa.eo] at nT; cases nT
        have nTd : T ≠ d := fun e => by rw [e, oa.ed] at nT; cases nT
        refine ⟨T, rfl, ⟨_, .inl (.inl upd_same)⟩, for_tup (K := K) (a := T) (xs := [natV t0, natV t1]) (fun i σ H2 => ∃ y G, σ = [some (.ref a), some (natV st), some (.ref o), some (.ref d), some (natV j), y] ∧
            OrdAt (upd H T (.tup [natV t0, natV t1])) H2 o d G ∧ G.Nodup ∧ (∀ x, x ∈ G → x < R.length) ∧ G = (if i = 0 then KM.bfs R st j else if i = 1 then KM.push (KM.bfs R st j) t0 else KM.push (KM.push (KM.bfs R st j) t0) t1)) ?_ ?_ ?_ ?_⟩
        · exact ⟨y, _, rfl, ⟨same_two oa.same, by rw [upd_ne nTo.symm]; exact oa.no, by rw [upd_ne nTd.symm]; exact oa.nd, by rw [upd_ne nTo.symm]; exact oa.eo, by rw [upd_ne nTd.symm]; exact oa.ed⟩, nF, hF, rfl⟩
        · rintro i σ H2 _ ⟨y, G, rfl, og, _⟩
          exact .inl (.inl (og.same _ _ upd_same))
        · rintro i x σ H2 hi ⟨y, G, rfl, og, nG, lG, eG⟩
          obtain ⟨t, rfl, lt, eG'⟩ : ∃ t, x = natV t ∧ t < R.length ∧ KM.push G t = (if i + 1 = 0 then KM.bfs R st j else if i + 1 = 1 then KM.push (KM.bfs R st j) t0 else KM.push (KM.push (KM.bfs R st j) t0) t1) := by
            match i, hi with
            | 0, hi => exact ⟨t0, (Option.some.inj hi).symm, lt0, by rw [eG]; rfl⟩
            | 1, hi => exact ⟨t1, (Option.some.inj hi).symm, lt1, by rw [eG]; rfl⟩
          have lenG : G.length ≤ R.length := KM.nodup_bound nG lG
          refine ⟨_, rfl, _, rfl, d, _, rfl, DGet.k (k := Sum.inl (t : Int)) og.ed, _, rfl, ?_⟩
          rw [known_some]
          by_cases ht : t ∈ G
          · rw [decide_eq_true ht]
            refine iteF ⟨_, G, rfl, og, nG, lG, ?_⟩
            rw [← eG', KM.push, if_pos ht]
          · rw [decide_eq_false ht]
            refine iteT ?_
            refine ⟨_, rfl, _, rfl, d, _, rfl, DPut.k (k := Sum.inl (t : Int)) og.ed (by rw [known_len]; exact small_line lenG (by omega)), ?_⟩
            rw [known_put ht]
            have eo2 : (upd H2 d (.dK (knownOf (G ++ [t])))) o = some (.lst (natsV G)) := by rw [upd_ne og.ne]; exact og.eo
            refine ⟨_, rfl, .inl ⟨rfl, _, SqL.of eo2⟩, _, rfl, o, _, _, rfl, rfl, eo2, by rw [natsV_len]; exact small_line lenG (by omega), ?_⟩
            have eP : KM.push G t = G ++ [t] := by rw [KM.push, if_neg ht]
            refine ⟨_, G ++ [t], rfl, ?_, ?_, ?_, ?_⟩
            · rw [← natsV_snoc]
              exact og.more t
            · rw [← eP]
              exact KM.push_nodup nG t
            · intro x hx
              rcases List.mem_append.mp hx with hx | hx
              · exact lG x hx
              · have : x = t := by simpa using hx
                subst this
                exact lt
            · rw [← eG', eP]
        · rintro σ H2 ⟨y, G, rfl, og, _, _, eG⟩
          refine ⟨_, rfl, _, _, rfl, rfl, y, rfl, ?_⟩
          have e2 : G = KM.bfs R st (j + 1) := by
            rw [eG, ← hx0, ← hx1]
            rfl
          rw [← e2]
          exact og.less (same_fresh hT0)
      · have hjl : ¬ j < (KM.bfs R st j).length := fun z => c (decide_eq_true (by rw [natsV_len]; omega))
        have le : j ≤ (KM.bfs R st j).length := by
          rcases Nat.eq_zero_or_pos j with e | e
          · omega
          · have a1 := hj (j - 1) (by omega)
            have a2 := (KM.bfs_prefix R st (show j - 1 ≤ j by omega)).length_le
            omega
        have ej : j = (KM.bfs R st j).length := by omega
        refine ⟨_, rfl, q H' o (KM.bfs R st j) oa.same no ⟨?_, fun i hi => hj i (by omega)⟩ oa.eo⟩
        rw [← ej]
end
end K35
namespace K35
open PySem PySem.Spec PyProof.Rows L2 KR
def srcN (R : KM.Rows) (n : Nat) (b : Bool) (t : Nat) : List Nat := (List.range n).filter fun i => KM.to R i b == t
theorem srcN_all (R : KM.Rows) (b : Bool) (t : Nat) : srcN R R.length b t = KM.srcs R b t := rfl
theorem srcN_next (R : KM.Rows) (n : Nat) (b : Bool) (t : Nat) : srcN R (n + 1) b t = srcN R n b t ++ (if KM.to R n b = t then [n] else []) := by
  unfold srcN
  rw [List.range_succ, List.filter_append]
  congr 1
  by_cases h : KM.to R n b = t
  · rw [if_pos h, List.filter_cons_of_pos (by simp [h])]
    rfl
  · rw [if_neg h, List.filter_cons_of_neg (by simp [h])]
    rfl
theorem srcN_len (R : KM.Rows) (n : Nat) (b : Bool) (t : Nat) : (srcN R n b t).length ≤ n := by
  have := List.length_filter_le (fun i => KM.to R i b == t) (List.range n)
  rwa [List.length_range] at this
def bitI (b : Bool) : Int := if b = true then 1 else 0
def keyOf (b : Bool) (t : Nat) : List Key := [Sum.inl (bitI b), Sum.inl (t : Int)]
theorem keyOf_inj {b b' : Bool} {t t' : Nat} (h : keyOf b t = keyOf b' t') : b = b' ∧ t = t' := by
  unfold keyOf at h
  injection h with h1 h2
  injection h2 with h2 _
  have e1 := Sum.inl.inj h1
  have e2 := Sum.inl.inj h2
  refine ⟨?_, by omega⟩
  cases b <;> cases b' <;> first | rfl | (exact absurd e1 (by decide))
theorem keyOf_V (b : Bool) (t : Nat) : (keyOf b t).map kV = [bitV b, natV t] := by cases b <;> rfl
/-- the dict at d tells, of the first c b rows, those that lead by b to t -/
def SrcAt (H : Hp) (d : Addr) (R : KM.Rows) (c : Bool → Nat) : Prop := ∃ kvs : List (List Key × V), H d = some (.dT kvs) ∧ kvs.length ≤ c false + c true ∧
  ∀ b t, (valV kvs (keyOf b t) = none ∧ srcN R (c b) b t = []) ∨ ∃ q, valV kvs (keyOf b t) = some (.ref q) ∧ H q = some (.tup (natsV (srcN R (c b) b t)))
theorem SrcAt.same {H H' : Hp} {d : Addr} {R : KM.Rows} {c : Bool → Nat} (h : SrcAt H d R c) (e : Same H H') : SrcAt H' d R c := by
  obtain ⟨kvs, a, l, r⟩ := h
  refine ⟨kvs, e _ _ a, l, fun b t => (r b t).imp id fun z => ?_⟩
  obtain ⟨q, x, y⟩ := z
  exact ⟨q, x, e _ _ y⟩
theorem SrcAt.isD {H : Hp} {d : Addr} {R : KM.Rows} {c : Bool → Nat} (h : SrcAt H d R c) : IsD H d := let ⟨kvs, a, _⟩ := h; .inr ⟨kvs, .inl a⟩
theorem SrcAt.put {H : Hp} {d : Addr} {R : KM.Rows} {c c' : Bool → Nat} {b : Bool} {q : Addr} {kvs : List (List Key × V)} (ha : H d = some (.dT kvs)) (hl : kvs.length ≤ c false + c true)
    (hr : ∀ b t, (valV kvs (keyOf b t) = none ∧ srcN R (c b) b t = []) ∨ ∃ q, valV kvs (keyOf b t) = some (.ref q) ∧ H q = some (.tup (natsV (srcN R (c b) b t))))
    (e1 : c' b = c b + 1) (e2 : ∀ x, x ≠ b → c' x = c x) (hq : H q = some (.tup (natsV (srcN R (c b) b (KM.to R (c b) b) ++ [c b])))) :
    SrcAt (upd H d (.dT (putK kvs (keyOf b (KM.to R (c b) b)) (.ref q)))) d R c' := by
  refine ⟨_, upd_same, ?_, fun x t => ?_⟩
  · have := length_putK kvs (keyOf b (KM.to R (c b) b)) (.ref q)
    cases b
    · have := e2 true (by decide)
      omega
    · have := e2 false (by decide)
      omega
  · rw [valV_put]
    have keep : ∀ {p : Addr} {l : List V}, H p = some (.tup l) → upd H d (.dT (putK kvs (keyOf b (KM.to R (c b) b)) (.ref q))) p = some (.tup l) := fun {p l} hp => by
      rw [upd_ne (ne_of hp ha (by intro z; cases z))]
      exact hp
    by_cases hk : keyOf x t = keyOf b (KM.to R (c b) b)
    · obtain ⟨rfl, rfl⟩ := keyOf_inj hk
      rw [if_pos rfl, e1, srcN_next, if_pos rfl]
      exact .inr ⟨q, rfl, keep hq⟩
    · rw [if_neg hk]
      have es : srcN R (c' x) x t = srcN R (c x) x t := by
        by_cases hx : x = b
        · subst hx
          have ht : ¬ KM.to R (c x) x = t := fun z => hk (by rw [z])
          rw [e1, srcN_next, if_neg ht, List.append_nil]
        · rw [e2 x hx]
      rw [es]
      exact (hr x t).imp id fun ⟨p, a, b⟩ => ⟨p, a, keep b⟩
/-- how many rows are done for a digit: i of the two digits of the row j are done -/
def cnt (i j : Nat) (b : Bool) : Nat := if (if b = true then 1 else 0 : Nat) < i then j + 1 else j
theorem cnt_le (i j : Nat) (b : Bool) : cnt i j b ≤ j + 1 := by
  unfold cnt
  by_cases h : (if b = true then 1 else 0 : Nat) < i
  · rw [if_pos h]
    exact Nat.le_refl _
  · rw [if_neg h]
    omega
theorem cnt_at {i j : Nat} {b : Bool} (h : (if b = true then 1 else 0 : Nat) = i) : cnt i j b = j := by
  unfold cnt
  rw [if_neg (by omega)]
theorem cnt_now {i j : Nat} {b : Bool} (h : (if b = true then 1 else 0 : Nat) = i) : cnt (i + 1) j b = j + 1 := by
  unfold cnt
  rw [if_pos (by omega)]
theorem cnt_other {i j : Nat} {b x : Bool} (h : (if b = true then 1 else 0 : Nat) = i) (hx : x ≠ b) : cnt (i + 1) j x = cnt i j x := by
  have e : ((if x = true then 1 else 0 : Nat) < i + 1) = ((if x = true then 1 else 0 : Nat) < i) := by
    apply propext
    subst h
    revert hx
    cases x <;> cases b <;> decide
  unfold cnt
  simp only [e]
def spSources (K : PySem.W.Frag) : Sp := fun vs H Q _ => ∃ (a : Addr) (as : List V) (R : KM.Rows), vs = [.ref a] ∧ H a = some (.lst as) ∧ RowsT K H as R ∧ R.length ≤ 1000 ∧
  ∀ H' p, Same H H' → H p = none → SrcAt H' p R (fun _ => R.length) → Q (.ref p) H'
abbrev sSources : Stmt := top 10
theorem scSources : FnScope ["rows", "found", "at", "row", "digit", "key"] ["rows"] (defScope sSources) := ⟨rfl, rfl, rfl, by decide +kernel, rfl, by decide +kernel, by decide +kernel⟩
section
variable {P : Program} {w : World} {K : PySem.W.Frag} {mg : PySem.Str → Option Value} {base : Heap}
theorem ok_sources {f : Addr} {fd : FuncData} {k : Nat} (F : Fun K "sources_of" "sources_of" sSources f fd) (me : mg "enumerate" = none) : FnOk P w K mg base CX0 (k + 1) f fd ["rows"] (spSources K) := by
  refine F.ok scSources (fun vs H Q E h => ?_) (fun cdv A outer s H vs Q E hr h => ?_)
  · obtain ⟨a, as, R, rfl, _⟩ := h
    rfl
  · obtain ⟨a, as, R, rfl, ha, hR, hlen, q⟩ := h
    refine ⟨_, pss_cons (ps_set (i := 1) scSources.nd rfl (.inl rfl) pe_dnewT)
      (pss_cons (ps_for PassesOwn.never rfl (pi_enum (by rfl) me (pa_cons (pv 0) pa_nil)) (pg_tup rfl (pgs_cons (pg_name (i := 2) scSources.nd rfl (.inl rfl)) (pgs_cons (pg_name (i := 3) scSources.nd rfl (.inl rfl)) pgs_nil)))
        (pss_one (ps_for PassesOwn.never rfl (pi_tup (pe_tup (pa_cons pe_int (pa_cons pe_int pa_nil)))) (pg_name (i := 4) scSources.nd rfl (.inl rfl))
          (pss_cons (ps_set (i := 5) scSources.nd rfl (.inl rfl) (pe_tup (pa_cons (pv 4) (pa_cons (pe_ix ix_tup (pv 3) (pv 4) (fun _ _ => rfl)) pa_nil))))
            (pss_one (ps_dput (hu_of hr) (pv 1) (pv 5) (pe_op op_catA (pe_dget2 (hu_of hr) (pv 1) (pv 5) (pe_tup pa_nil) ⟨rfl, rfl, rfl, rfl⟩) (pe_tup (pa_cons (pv 2) pa_nil))) rfl))))))
      (pss_one (ps_ret (pv 1)))), ?_⟩
    intro d nd
    refine ⟨_, rfl, a, as, rfl, SqL.of (same_fresh nd _ _ ha), for_enum (xs := as) (fun j σ H' => ∃ y2 y3 y4 y5, σ = [some (.ref a), some (.ref d), y2, y3, y4, y5] ∧ Same H H' ∧ SrcAt H' d R (fun _ => j)) ?_ ?_ ?_ ?_⟩
    · exact ⟨none, none, none, none, rfl, same_fresh nd, [], upd_same, Nat.zero_le _, fun b t => .inl ⟨rfl, rfl⟩⟩
    · rintro i σ H' ⟨_, _, _, _, _, sm, _⟩
      exact SqL.of (sm _ _ ha)
    · rintro j x σ H' T e2 nT ⟨y2, y3, y4, y5, rfl, sm, hS⟩
      have hj : j < R.length := by
        have z := (List.getElem?_eq_some_iff.mp e2).1
        rw [hR.1] at z
        exact z
      obtain ⟨p, ep, tp⟩ := hR.2 j hj
      rw [ep] at e2
      cases e2
      refine ⟨T, _, rfl, .inl (.inl upd_same), rfl, _, _, rfl, _, _, rfl, rfl, ?_⟩
      have smT : Same H' (upd H' T (.tup [.int (j : Nat), .ref p])) := same_fresh nT
      refine ⟨show 2 ≤ sizeLine by decide, fun U nU => ⟨U, rfl, ⟨_, .inl (.inl upd_same)⟩, for_tup (K := K) (a := U) (xs := [bitV false, bitV true])
        (fun i σ H2 => ∃ y4 y5, σ = [some (.ref a), some (.ref d), some (natV j), some (.ref p), y4, y5] ∧ Same (upd H U (.tup [bitV false, bitV true])) H2 ∧ SrcAt H2 d R (cnt i j)) ?_ ?_ ?_ ?_⟩⟩
      · refine ⟨y4, y5, rfl, same_two (sm.trans smT), (hS.same smT).same (same_fresh nU)⟩
      · rintro i σ H2 _ ⟨_, _, _, sm2, _⟩
        exact .inl (.inl (sm2 _ _ upd_same))
      · rintro i x σ H2 hi ⟨y4, y5, rfl, sm2, kvs, hd, hl, hk⟩
        have hU0 : H U = none := sm.free (smT.free nU)
        have smH : Same H H2 := (same_fresh hU0).trans sm2
        obtain ⟨b, rfl, eb⟩ : ∃ b, x = bitV b ∧ (if b = true then 1 else 0 : Nat) = i := by
          match i, hi with
          | 0, hi => exact ⟨false, (Option.some.inj hi).symm, rfl⟩
          | 1, hi => exact ⟨true, (Option.some.inj hi).symm, rfl⟩
        have hP : SqT K H2 p (rowV (KM.rowAt R j)) := .inl (.inl (smH _ _ tp))
        have gb : atI (rowV (KM.rowAt R j)) (if b = true then 1 else 0) = some (natV (KM.to R j b)) := at_nat (i := if b = true then 1 else 0) (by cases b <;> rfl) (row_b R j b)
        -- key = (digit, row[digit])
        refine ⟨_, rfl, _, rfl, _, rfl, p, _, _, _, rfl, rfl, hP, gb, show 2 ≤ sizeLine by decide, fun kq nk => ?_⟩
        have s3 : Same H2 (upd H2 kq (.tup [bitV b, natV (KM.to R j b)])) := same_fresh nk
        have hk3 : (upd H2 kq (.tup [bitV b, natV (KM.to R j b)])) kq = some (.tup ((keyOf b (KM.to R j b)).map kV)) := by rw [upd_same, keyOf_V]
        generalize upd H2 kq (.tup [bitV b, natV (KM.to R j b)]) = H3 at s3 hk3 ⊢
        have hd3 := s3 _ _ hd
        refine ⟨_, rfl, d, rfl, .inr ⟨kvs, .inl hd3⟩, _, rfl, Nat.zero_le _, fun em nem => ?_⟩
        have s4 : Same H3 (upd H3 em (.tup [])) := same_fresh nem
        have he4 : (upd H3 em (.tup [])) em = some (.tup []) := upd_same
        generalize upd H3 em (.tup []) = H4 at s4 he4 ⊢
        refine ⟨_, DGet.t (s4 _ _ hd3) (s4 _ _ hk3), ?_⟩
        refine ⟨_, rfl, show 1 ≤ sizeLine by decide, fun on non => ?_⟩
        have s5 : Same H4 (upd H4 on (.tup [natV j])) := same_fresh non
        have ho5 : (upd H4 on (.tup [natV j])) on = some (.tup [natV j]) := upd_same
        show rCatA _ _ _ (upd H4 on (.tup [natV j])) _
        generalize upd H4 on (.tup [natV j]) = H5 at s5 ho5 ⊢
        have s45 := s4.trans s5
        have hd5 := s45 _ _ hd3
        have hk5 := s45 _ _ hk3
        have he5 := s5 _ _ he4
        have s25 := s3.trans s45
        have ec : cnt i j b = j := cnt_at eb
        have hkb := hk b (KM.to R j b)
        rw [ec] at hkb
        have l1 : kvs.length ≤ 2 * j + 2 := by
          have h1 := cnt_le i j false
          have h2 := cnt_le i j true
          omega
        -- behind the sum: its tuple at q
        have fin : ∀ (Hq : Hp) (q : Addr), Same H5 Hq → Hq q = some (.tup (natsV (srcN R j b (KM.to R j b) ++ [j]))) →
            DPut Hq d (.ref kq) (.ref q) (upd Hq d (.dT (putK kvs (keyOf b (KM.to R j b)) (.ref q)))) ∧ SrcAt (upd Hq d (.dT (putK kvs (keyOf b (KM.to R j b)) (.ref q)))) d R (cnt (i + 1) j) := by
          intro Hq q sq hq
          refine ⟨DPut.t (sq _ _ hd5) (sq _ _ hk5) (small_line (m := 3000) (by omega) (by decide)), ?_⟩
          have hk' : ∀ (x : Bool) (t : Nat), (valV kvs (keyOf x t) = none ∧ srcN R (cnt i j x) x t = []) ∨ ∃ q, valV kvs (keyOf x t) = some (.ref q) ∧ Hq q = some (.tup (natsV (srcN R (cnt i j x) x t))) :=
            fun x t => (hk x t).imp id fun ⟨p, u, v⟩ => ⟨p, u, sq _ _ (s25 _ _ v)⟩
          have z := SrcAt.put (R := R) (c := cnt i j) (c' := cnt (i + 1) j) (b := b) (q := q) (sq _ _ hd5) hl hk' ?_ ?_ ?_
          · rw [ec] at z
            exact z
          · rw [ec]
            exact cnt_now eb
          · exact fun x hx => cnt_other eb hx
          · rw [ec]
            exact hq
        have out : ∀ (Hq : Hp) (q : Addr), Same H5 Hq → Hq q = some (.tup (natsV (srcN R j b (KM.to R j b) ++ [j]))) →
            ∃ a' H4, V.ref d = .ref a' ∧ DPut Hq a' (.ref kq) (.ref q) H4 ∧ ∃ y4 y5, [some (.ref a), some (.ref d), some (natV j), some (.ref p), some (bitV b), some (.ref kq)] = [some (.ref a), some (.ref d), some (natV j), some (.ref p), y4, y5] ∧ Same (upd H U (.tup [bitV false, bitV true])) H4 ∧ SrcAt H4 d R (cnt (i + 1) j) := by
          intro Hq q sq hq
          obtain ⟨f1, f2⟩ := fin Hq q sq hq
          refine ⟨d, _, rfl, f1, _, _, rfl, same_put (sm2.trans (s25.trans sq)) ?_, f2⟩
          have dU : d ≠ U := fun e => by
            obtain ⟨kvs0, h0, _⟩ := hS
            rw [e] at h0
            rw [smT _ _ h0] at nU
            cases nU
          rw [upd_ne dU]
          exact nd
        rcases hkb with ⟨e1, e2⟩ | ⟨q0, e1, e2⟩
        · rw [e1]
          refine ⟨em, on, [], [natV j], rfl, rfl, .inl (.inl he5), .inl (.inl ho5), show 1 ≤ sizeLine by decide, fun _ => ?_, fun z => absurd rfl z, fun z => absurd rfl z⟩
          exact ⟨_, rfl, _, rfl, out _ on (Same.refl _) (by rw [ho5, e2]; rfl)⟩
        · rw [e1]
          have e2' := s25 _ _ e2
          have lS := srcN_len R j b (KM.to R j b)
          refine ⟨q0, on, _, [natV j], rfl, rfl, .inl (.inl e2'), .inl (.inl ho5), by rw [natsV_len]; exact Nat.le_of_lt (small_line (m := 2000) (by show _ + 1 ≤ 2000; omega) (by decide)), fun z => ?_, fun _ z => absurd z (by simp), fun _ _ q1 nq1 => ?_⟩
          · have el : srcN R j b (KM.to R j b) = [] := by
              have := congrArg List.length z
              rw [natsV_len] at this
              exact List.length_eq_zero_iff.mp this
            exact ⟨_, rfl, _, rfl, out _ on (Same.refl _) (by rw [ho5, el]; rfl)⟩
          · exact ⟨_, rfl, _, rfl, out _ q1 (same_fresh nq1) (by rw [upd_same, natsV_snoc])⟩
      · rintro σ H2 ⟨y4, y5, rfl, sm2, hS2⟩
        have hU0 : H U = none := sm.free (smT.free nU)
        refine ⟨_, _, _, _, rfl, (same_fresh hU0).trans sm2, ?_⟩
        have e : cnt [bitV false, bitV true].length j = fun _ => j + 1 := by
          funext b
          cases b <;> rfl
        rw [e] at hS2
        exact hS2
    · rintro σ H' ⟨y2, y3, y4, y5, rfl, sm, hS⟩
      rw [hR.1] at hS
      exact ⟨_, rfl, q H' d sm nd hS⟩
end
end K35
namespace K35
open PySem PySem.Spec PyProof.Rows L2 KR
/-! ## lists of numbers and of rows as data -/
def natD (n : Nat) : PyData := .int (n : Int)
def rowL (r : KM.Row) : List PyData := [natD r.1, natD r.2.1, natD r.2.2]
section
variable {K : PySem.W.Frag} {H : Hp}
theorem dp_ints : ∀ ns : List Int, DpAll K H (ns.map V.int) (ns.map PyData.int)
  | [] => .nil
  | n :: ns => .cons (.int n) (dp_ints ns)
theorem dp_nats : ∀ ns : List Nat, DpAll K H (natsV ns) (ns.map natD)
  | [] => .nil
  | n :: ns => .cons (.int (n : Int)) (dp_nats ns)
theorem dp_row (r : KM.Row) : DpAll K H (rowV r) (rowL r) := dp_nats [r.1, r.2.1, r.2.2]
theorem dp_rows : ∀ {as : List V} {R : KM.Rows}, RowsT K H as R → DpAll K H as (R.map fun r => PyData.tuple (rowL r))
  | [], [], _ => .nil
  | [], _ :: _, h => by
    have := h.1
    cases this
  | _ :: _, [], h => by
    have := h.1
    cases this
  | v :: as, r :: R, h => by
    obtain ⟨p, e, t⟩ := h.2 0 (Nat.succ_pos _)
    have e : v = .ref p := Option.some.inj e
    subst e
    refine .cons (.tup (.inl (.inl t)) (dp_row _)) (dp_rows ⟨Nat.succ.inj h.1, fun i hi => ?_⟩)
    obtain ⟨q, e', t'⟩ := h.2 (i + 1) (Nat.succ_lt_succ hi)
    exact ⟨q, e', t'⟩
end
theorem lay_nats : ∀ ns : List Nat, PyData.canLayAll0 (ns.map natD) = true ∧ PyData.depthAll (ns.map natD) = 0
  | [] => ⟨by simp [PyData.canLayAll0], by simp [PyData.depthAll]⟩
  | n :: ns => by
    obtain ⟨a, b⟩ := lay_nats ns
    refine ⟨?_, ?_⟩
    · rw [List.map_cons, PyData.canLayAll0, a]
      simp [natD, PyData.canLay0]
    · rw [List.map_cons, PyData.depthAll, b]
      simp [natD, PyData.depth]
theorem lay_ints : ∀ ns : List Int, PyData.canLayAll0 (ns.map PyData.int) = true ∧ PyData.depthAll (ns.map PyData.int) = 0
  | [] => ⟨by simp [PyData.canLayAll0], by simp [PyData.depthAll]⟩
  | n :: ns => by
    obtain ⟨a, b⟩ := lay_ints ns
    refine ⟨?_, ?_⟩
    · rw [List.map_cons, PyData.canLayAll0, a]
      simp [PyData.canLay0]
    · rw [List.map_cons, PyData.depthAll, b]
      simp [PyData.depth]
theorem lay_rows : ∀ R : KM.Rows, PyData.canLayAll0 (R.map fun r => PyData.tuple (rowL r)) = true ∧ PyData.depthAll (R.map fun r => PyData.tuple (rowL r)) ≤ 1
  | [] => ⟨by simp [PyData.canLayAll0], by simp [PyData.depthAll]⟩
  | r :: R => by
    obtain ⟨a, b⟩ := lay_rows R
    obtain ⟨c, d⟩ := lay_nats [r.1, r.2.1, r.2.2]
    have c : PyData.canLayAll0 (rowL r) = true := c
    have d : PyData.depthAll (rowL r) = 0 := d
    refine ⟨?_, ?_⟩
    · rw [List.map_cons, PyData.canLayAll0, a, PyData.canLay0, c]
      rfl
    · rw [List.map_cons, PyData.depthAll, PyData.depth, d]
      omega
theorem shaped_of {d : PyData} (h1 : d.canLay0 = true) (h2 : d.depth ≤ 64) : SeqAt.shaped d = true := by
  unfold SeqAt.shaped
  rw [h1, decide_eq_true h2]
  rfl
theorem shaped_list {ds : List PyData} (h1 : PyData.canLayAll0 ds = true) (h2 : PyData.depthAll ds ≤ 60) : SeqAt.shaped (.list ds) = true := by
  refine shaped_of ?_ ?_
  · rw [PyData.canLay0]
    exact h1
  · rw [PyData.depth]
    omega
theorem shaped_tuple {ds : List PyData} (h1 : PyData.canLayAll0 ds = true) (h2 : PyData.depthAll ds ≤ 60) : SeqAt.shaped (.tuple ds) = true := by
  refine shaped_of ?_ ?_
  · rw [PyData.canLay0]
    exact h1
  · rw [PyData.depth]
    omega
theorem shaped_nats (ns : List Nat) : SeqAt.shaped (.list (ns.map natD)) = true := shaped_list (lay_nats ns).1 (by rw [(lay_nats ns).2]; omega)
theorem shaped_ints (ns : List Int) : SeqAt.shaped (.list (ns.map PyData.int)) = true := shaped_list (lay_ints ns).1 (by rw [(lay_ints ns).2]; omega)
theorem shaped_rows (R : KM.Rows) : SeqAt.shaped (.list (R.map fun r => PyData.tuple (rowL r))) = true := shaped_list (lay_rows R).1 (Nat.le_trans (lay_rows R).2 (by omega))
theorem shaped_rowsT (R : KM.Rows) : SeqAt.shaped (.tuple (R.map fun r => PyData.tuple (rowL r))) = true := shaped_tuple (lay_rows R).1 (Nat.le_trans (lay_rows R).2 (by omega))
theorem eqv_nat (a b : Nat) : PyData.eqv (natD a) (natD b) = decide (a = b) := by
  unfold natD
  rw [PyData.eqv]
  rw [Bool.eq_iff_iff, beq_iff_eq, decide_eq_true_eq]
  omega
theorem eqv_nats : ∀ a b : List Nat, PyData.eqvAll (a.map natD) (b.map natD) = decide (a = b)
  | [], [] => by rw [List.map_nil, PyData.eqvAll, decide_eq_true rfl]
  | [], y :: b => by rw [List.map_nil, List.map_cons, PyData.eqvAll, decide_eq_false (by simp)]
  | x :: a, [] => by rw [List.map_nil, List.map_cons, PyData.eqvAll, decide_eq_false (by simp)]
  | x :: a, y :: b => by
    rw [List.map_cons, List.map_cons, PyData.eqvAll, eqv_nat, eqv_nats a b, Bool.eq_iff_iff, Bool.and_eq_true, decide_eq_true_eq, decide_eq_true_eq, decide_eq_true_eq, List.cons.injEq]
theorem eqv_row (r q : KM.Row) : PyData.eqv (.tuple (rowL r)) (.tuple (rowL q)) = decide (r = q) := by
  rw [PyData.eqv]
  have z := eqv_nats [r.1, r.2.1, r.2.2] [q.1, q.2.1, q.2.2]
  have z : PyData.eqvAll (rowL r) (rowL q) = _ := z
  rw [z, decide_eq_decide]
  obtain ⟨a, b, c⟩ := r
  obtain ⟨a', b', c'⟩ := q
  simp
theorem eqv_rowsAll : ∀ R S : KM.Rows, PyData.eqvAll (R.map fun r => PyData.tuple (rowL r)) (S.map fun r => PyData.tuple (rowL r)) = decide (R = S)
  | [], [] => by rw [List.map_nil, PyData.eqvAll, decide_eq_true rfl]
  | [], y :: b => by rw [List.map_nil, List.map_cons, PyData.eqvAll, decide_eq_false (by simp)]
  | x :: a, [] => by rw [List.map_nil, List.map_cons, PyData.eqvAll, decide_eq_false (by simp)]
  | x :: a, y :: b => by
    rw [List.map_cons, List.map_cons, PyData.eqvAll, eqv_row, eqv_rowsAll a b, Bool.eq_iff_iff, Bool.and_eq_true, decide_eq_true_eq, decide_eq_true_eq, decide_eq_true_eq, List.cons.injEq]
theorem eqv_list (a b : List PyData) : PyData.eqv (.list a) (.list b) = PyData.eqvAll a b := by rw [PyData.eqv]
theorem eqv_tuple (a b : List PyData) : PyData.eqv (.tuple a) (.tuple b) = PyData.eqvAll a b := by rw [PyData.eqv]
end K35
namespace K35
open PySem PySem.Spec PyProof.Rows L2 KR
/-! ## blocks_of: readings of its comprehensions -/
theorem natV_scal (a b : Nat) : scal (natV a) (natV b) = true := rfl
theorem take_next {l : List Nat} {i : Nat} (h : i < l.length) : l.take (i + 1) = l.take i ++ [l.getD i 0] := by
  rw [List.take_add_one, KM.get?_getD h 0]
  rfl
section
variable {K : PySem.W.Frag} {w : World}
/-- [x for x in list if block[x] == name] -/
theorem rd_filter {σ : L2.St} {H1 : Hp} {wi : TI} {Q : VK} {v : Nat} {p bl : Addr} {L B : List Nat} {x : Nat} (hw : ∀ Rr : It → Hp → Prop, Rr (Itl K p) H1 → wi σ H1 Rr) (hp : H1 p = some (.lst (natsV L))) (hb : H1 bl = some (.lst (natsV B))) (hB : ∀ i, i ∈ L → i < B.length) (hL : L.length ≤ 1000)
    (e1 : ∀ y, ((wipe σ [v]).set v y)[1]? = some (some (.ref bl))) (e2 : ∀ y, ((wipe σ [v]).set v y)[10]? = some (some (natV x))) (e3 : ∀ y, ((wipe σ [v]).set v y)[v]? = some y) (e4 : ∀ y, wipe ((wipe σ [v]).set v y) [v] = wipe σ [v])
    (q : ∀ D H2, H1 D = none → Same H1 H2 → H2 D = some (.lst (natsV (L.filter fun i => B.getD i 0 == x))) → Q (.ref D) H2) :
    tLc wi (gName v) (tTest (tOp rEq (tOp (rIxL K) (tVar 1) (tVar v)) (tVar 10))) (tVar v) [v] σ H1 Q := by
  refine hw _ fun D nD => lc_list (K := K) (a := p) (xs := natsV L) (fun i H' => Same H1 H' ∧ H' D = some (.lst (natsV ((L.take i).filter fun i => B.getD i 0 == x)))) ?_ ?_ ?_ ?_
  · exact ⟨same_fresh nD, upd_same⟩
  · exact fun i H' _ h => SqL.of (h.1 _ _ hp)
  · rintro i y H' hy ⟨sm, eD⟩
    have lt : i < L.length := by
      have := (List.getElem?_eq_some_iff.mp hy).1
      rwa [natsV_len] at this
    have ey : y = natV (L.getD i 0) := Option.some.inj (hy.symm.trans (natsV_get lt))
    subst ey
    have hi := hB _ (KM.getD_mem lt 0)
    refine ⟨e4 _, ?_⟩
    refine ⟨_, e1 _, _, e3 _, bl, _, _, _, rfl, rfl, SqL.of (sm _ _ hb), atI_nat (natsV_get hi), _, e2 _, natV_scal _ _, _, rfl, ?_⟩
    rw [dec_nat, take_next lt, List.filter_append]
    by_cases hx : B.getD (L.getD i 0) 0 = x
    · rw [decide_eq_true hx, List.filter_cons_of_pos (by rw [hx]; exact beq_self_eq_true x)]
      refine iteT ⟨_, e3 _, _, eD, ?_, ?_, ?_⟩
      · rw [natsV_len]
        have a := List.length_filter_le (fun i => B.getD i 0 == x) (L.take i)
        rw [List.length_take] at a
        exact small_line (m := 1000) (by omega) (by decide)
      · exact same_put sm nD
      · rw [upd_same, ← natsV_snoc]
        rfl
    · rw [decide_eq_false hx, List.filter_cons_of_neg (by rw [beq_iff_eq]; exact hx)]
      refine iteF ⟨sm, ?_⟩
      rw [eD, List.filter_nil, List.append_nil]
  · rintro H' ⟨sm, eD⟩
    refine q D H' nD sm ?_
    rw [natsV_len, List.take_of_length_le (Nat.le_refl _)] at eD
    exact eD

/-- [source for target in targets for source in sources.get((digit, target), ())] -/
theorem rd_marked {H1 : Hp} {R : KM.Rows} {T : List Nat} {d : Bool} {tg sd : Addr} {Q : VK} {x0 x1 x2 x3 x4 x6 x9 x10 x11 x12 : Option V} (hT : H1 tg = some (.lst (natsV T))) (hS : SrcAt H1 sd R fun _ => R.length) (hR : R.length ≤ 1000) (hTl : T.length ≤ 1000) (hTn : T.Nodup)
    (q : ∀ D H2, H1 D = none → Same H1 H2 → H2 D = some (.lst (natsV (T.flatMap (KM.srcs R d)))) → Q (.ref D) H2) :
    tLc2 (iList K (tVar 7)) (gName 14) tYes (iTup K (tDGet2 (tVar 5) (tTup (tCons (tVar 8) (tCons (tVar 14) tNil))) (tTup tNil))) (gName 15) tYes (tVar 15) [14, 15] [15]
      [x0, x1, x2, x3, x4, some (.ref sd), x6, some (.ref tg), some (bitV d), x9, x10, x11, x12, none, none, none] H1 Q := by
  refine ⟨_, rfl, tg, rfl, ⟨_, SqL.of hT⟩, fun D nD => ?_⟩
  refine ⟨fun i m H' => m = T.length - i ∧ i ≤ T.length ∧ Same H1 H' ∧ H' D = some (.lst (natsV ((T.take i).flatMap (KM.srcs R d)))), ⟨T.length, rfl, Nat.zero_le _, same_fresh nD, upd_same⟩, fun i m H' hw => ?_⟩
  obtain ⟨rfl, hi, sm, eD⟩ := hw
  rcases Nat.lt_or_ge i T.length with lt | ge
  · refine .inr ⟨⟨_, _, SqL.of (sm _ _ hT), natsV_get lt⟩, fun H' => Same H1 H' ∧ H' D = some (.lst (natsV ((T.take (i + 1)).flatMap (KM.srcs R d)))), fun H' z => ⟨T.length - (i + 1), by omega, rfl, lt, z⟩, fun y Hy hy => ?_⟩
    obtain ⟨rfl, hy⟩ := hy
    have ey : y = natV (T.getD i 0) := Option.some.inj ((hy _ (SqL.of (sm _ _ hT))).symm.trans (natsV_get lt))
    subst ey
    refine ⟨rfl, ?_⟩
    dsimp only [tYes, if_true]
    refine ⟨_, rfl, sd, rfl, (hS.same sm).isD, _, rfl, _, rfl, show 2 ≤ sizeLine by decide, fun kq nk => ?_⟩
    have s3 := same_fresh (o := .tup [bitV d, natV (T.getD i 0)]) nk
    have hk3 : (upd Hy kq (.tup [bitV d, natV (T.getD i 0)])) kq = some (.tup ((keyOf d (T.getD i 0)).map kV)) := by rw [upd_same, keyOf_V]
    generalize upd Hy kq (.tup [bitV d, natV (T.getD i 0)]) = H3 at s3 hk3 ⊢
    refine ⟨Nat.zero_le _, fun em nem => ?_⟩
    have s4 := same_fresh (o := .tup []) nem
    have he4 : (upd H3 em (.tup [])) em = some (.tup []) := upd_same
    generalize upd H3 em (.tup []) = H4 at s4 he4 ⊢
    have s14 := sm.trans (s3.trans s4)
    obtain ⟨kvs, hd4, _, hk⟩ := hS.same s14
    have eD4 := s4 _ _ (s3 _ _ eD)
    refine ⟨_, DGet.t hd4 (s4 _ _ hk3), ?_⟩
    -- the tuple that is walked
    obtain ⟨qq, eq, hq⟩ : ∃ qq, (valV kvs (keyOf d (T.getD i 0))).getD (.ref em) = .ref qq ∧ H4 qq = some (.tup (natsV (KM.srcs R d (T.getD i 0)))) := by
      rcases hk d (T.getD i 0) with ⟨z1, z2⟩ | ⟨qq, z1, z2⟩
      · refine ⟨em, by rw [z1]; rfl, ?_⟩
        rw [srcN_all] at z2
        rw [z2]
        exact he4
      · exact ⟨qq, by rw [z1]; rfl, z2⟩
    rw [eq]
    have hlS : (KM.srcs R d (T.getD i 0)).length ≤ 1000 := Nat.le_trans (srcN_len R R.length d _) hR
    refine ⟨qq, rfl, ⟨_, .inl (.inl hq)⟩, fun j k H' => k = (KM.srcs R d (T.getD i 0)).length - j ∧ j ≤ (KM.srcs R d (T.getD i 0)).length ∧ Same H1 H' ∧ H' qq = some (.tup (natsV (KM.srcs R d (T.getD i 0)))) ∧ H' D = some (.lst (natsV ((T.take i).flatMap (KM.srcs R d) ++ (KM.srcs R d (T.getD i 0)).take j))),
      ⟨_, rfl, Nat.zero_le _, s14, hq, by rw [List.take_zero, List.append_nil]; exact eD4⟩, fun j k H' hw => ?_⟩
    obtain ⟨rfl, hj, sm', hq', eD'⟩ := hw
    rcases Nat.lt_or_ge j (KM.srcs R d (T.getD i 0)).length with lt' | ge'
    · refine .inr ⟨⟨_, _, .inl (.inl hq'), natsV_get lt'⟩, fun H' => Same H1 H' ∧ H' qq = some (.tup (natsV (KM.srcs R d (T.getD i 0)))) ∧ H' D = some (.lst (natsV ((T.take i).flatMap (KM.srcs R d) ++ (KM.srcs R d (T.getD i 0)).take (j + 1)))), fun H' z => ⟨_, by omega, rfl, lt', z⟩, fun y Hy hy => ?_⟩
      obtain ⟨rfl, hy⟩ := hy
      have ey : y = natV ((KM.srcs R d (T.getD i 0)).getD j 0) := Option.some.inj ((hy _ (.inl (.inl hq'))).symm.trans (natsV_get lt'))
      subst ey
      refine ⟨rfl, ?_⟩
      dsimp only [tYes, if_true]
      refine ⟨_, rfl, _, eD', ?_, same_put sm' nD, ?_, ?_⟩
      · -- not more marks than rows
        have mk : (T.flatMap (KM.srcs R d)).length ≤ R.length := by
          obtain ⟨n1, n2⟩ := KM.marks_of (d := d) (R := R) hTn
          exact KM.nodup_bound n1 fun x hx => ((n2 x).mp hx).1
        have sub : ((T.take i).flatMap (KM.srcs R d)).length ≤ (T.flatMap (KM.srcs R d)).length := by
          have e : T.flatMap (KM.srcs R d) = (T.take i).flatMap (KM.srcs R d) ++ (T.drop i).flatMap (KM.srcs R d) := by rw [← List.flatMap_append, List.take_append_drop]
          rw [e, List.length_append]
          omega
        rw [natsV_len, List.length_append, List.length_take]
        exact small_line (m := 3000) (by omega) (by decide)
      · rw [upd_ne (ne_of hq' eD' (by intro z; cases z))]
        exact hq'
      · rw [upd_same, take_next lt', ← List.append_assoc]
        exact congrArg (fun l => some (HO.lst l)) (natsV_snoc _ _).symm
    · refine .inl ⟨⟨_, .inl (.inl hq'), by rw [natsV_len]; exact ge'⟩, sm', ?_⟩
      rw [eD', List.take_of_length_le ge', take_next lt, List.flatMap_append]
      simp
  · have e : i = T.length := by omega
    subst e
    rw [List.take_of_length_le (Nat.le_refl _)] at eD
    exact .inl ⟨⟨_, SqL.of (sm _ _ hT), by rw [natsV_len]; exact Nat.le_refl _⟩, q D H' nD sm eD⟩

/-- sorted({block[source] for source in marked}) -/
theorem rd_names {H1 : Hp} {M B : List Nat} {mk bl : Addr} {Q : VK} {x0 x2 x3 x4 x5 x6 x7 x8 x10 x11 x12 : Option V} (hM : H1 mk = some (.lst (natsV M))) (hb : H1 bl = some (.lst (natsV B))) (hB : ∀ i, i ∈ M → i < B.length) (hl : M.length < 64)
    (q : ∀ names nl H2, names.Nodup → (∀ x, x ∈ names ↔ ∃ i, i ∈ M ∧ B.getD i 0 = x) → Same H1 H2 → H1 nl = none → H2 nl = some (.lst (natsV names)) → Q (.ref nl) H2) :
    tCB (rSortedSet w) (tCons (tSetI w (iList K (tVar 9)) (gName 15) (tOp (rIxL K) (tVar 1) (tVar 15)) [15]) tNil)
      [x0, some (.ref bl), x2, x3, x4, x5, x6, x7, x8, some (.ref mk), x10, x11, x12, none, none, none] H1 Q := by
  refine ⟨_, rfl, mk, rfl, ⟨_, SqL.of hM⟩, fun D nD => ?_⟩
  refine setI_it (walk_list (K := K) (a := mk) (xs := natsV M)) (fun i H' => Same H1 H' ∧ ∃ (S : Int → Bool) (n : Nat), H' D = some (SetO w D S n) ∧ n ≤ i ∧ ∀ k : Int, S k = true ↔ ∃ x, x ∈ M.take i ∧ ((B.getD x 0 : Nat) : Int) = k) ?_ ?_ ?_ ?_
  · refine ⟨same_fresh nD, fun _ => false, 0, upd_same, Nat.le_refl _, fun k => ⟨fun z => (by cases z), fun ⟨x, hx, _⟩ => ?_⟩⟩
    rw [List.take_zero] at hx
    cases hx
  · exact fun i H' _ h => SqL.of (h.1 _ _ hM)
  · rintro i y H' H'' hi ⟨sm, S, n, eD, hn, hS⟩ ⟨rfl, hy⟩
    rw [natsV_len] at hi
    have ey : y = natV (M.getD i 0) := Option.some.inj (hy.symm.trans (natsV_get hi))
    subst ey
    refine ⟨rfl, _, rfl, _, rfl, bl, _, _, _, rfl, rfl, SqL.of (sm _ _ hb), atI_nat (natsV_get (hB _ (KM.getD_mem hi 0))), ((B.getD (M.getD i 0) 0 : Nat) : Int), S, n, rfl, eD, ?_, same_put sm nD, _, _, upd_same, ?_, fun k => ?_⟩
    · unfold scanBound
      omega
    · split <;> omega
    · rw [Bool.or_eq_true, decide_eq_true_eq, hS, take_next hi]
      constructor
      · rintro (⟨x, hx, e⟩ | e)
        · exact ⟨x, List.mem_append_left _ hx, e⟩
        · exact ⟨_, List.mem_append_right _ (List.mem_singleton.mpr rfl), e.symm⟩
      · rintro ⟨x, hx, e⟩
        rcases List.mem_append.mp hx with hx | hx
        · exact .inl ⟨x, hx, e⟩
        · obtain rfl := List.mem_singleton.mp hx
          exact .inr e.symm
  · rintro H' ⟨sm, S, n, eD, hn, hS⟩
    rw [natsV_len] at hn hS
    rw [List.take_of_length_le (Nat.le_refl _)] at hS
    refine ⟨D, S, n, rfl, eD, by omega, fun ns nl hp hm hlen nn => ?_⟩
    have pos : ∀ k, k ∈ ns → ∃ x : Nat, k = (x : Int) := fun k hk => by
      obtain ⟨x, _, e⟩ := (hS k).mp ((hm k).mp hk)
      exact ⟨_, e.symm⟩
    have back : ∀ l : List Int, (∀ k, k ∈ l → ∃ x : Nat, k = (x : Int)) → l.map V.int = natsV (l.map Int.toNat) := by
      intro l hl
      unfold natsV
      rw [List.map_map]
      refine List.map_congr_left fun k hk => ?_
      obtain ⟨x, rfl⟩ := hl k hk
      rfl
    have n0 : H1 nl = none := sm.free nn
    rw [back ns pos]
    refine q (ns.map Int.toNat) nl _ ?_ (fun x => ?_) (same_new sm nn) n0 upd_same
    · rw [List.Nodup, List.pairwise_map]
      refine hp.imp_of_mem fun {a b} ha hb lt => ?_
      obtain ⟨x, rfl⟩ := pos a ha
      obtain ⟨y, rfl⟩ := pos b hb
      simp
      omega
    · rw [List.mem_map]
      constructor
      · rintro ⟨k, hk, rfl⟩
        obtain ⟨i, hi, e⟩ := (hS k).mp ((hm k).mp hk)
        exact ⟨i, hi, by rw [← e]; rfl⟩
      · rintro ⟨i, hi, rfl⟩
        exact ⟨_, (hm _).mpr ((hS _).mpr ⟨i, hi, rfl⟩), rfl⟩
end
end K35
namespace K35
open PySem PySem.Spec PyProof.Rows L2 KR
/-! ## blocks_of: the heap of the walk, and one class split -/
structure BlkSt (Hf H' : Hp) (bl gr wk : Addr) (B : List Nat) (kvs : List (Key × V)) (W : List Nat) : Prop where
  same : Same Hf H'
  nb : Hf bl = none
  ng : Hf gr = none
  nw : Hf wk = none
  eb : H' bl = some (.lst (natsV B))
  eg : H' gr = some (.dK kvs)
  ew : H' wk = some (.lst (natsV W))
  ne : bl ≠ wk
section
variable {Hf H' : Hp} {bl gr wk : Addr} {B W : List Nat} {kvs : List (Key × V)} {G : List (List Nat)}
theorem BlkSt.bg (h : BlkSt Hf H' bl gr wk B kvs W) : bl ≠ gr := ne_of h.eb h.eg (by intro z; cases z)
theorem BlkSt.wg (h : BlkSt Hf H' bl gr wk B kvs W) : wk ≠ gr := ne_of h.ew h.eg (by intro z; cases z)
theorem BlkSt.on (h : BlkSt Hf H' bl gr wk B kvs W) {H2 : Hp} {D : Addr} {o : HO} (s : Same H' H2) (n : H' D = none) (e : H2 D = some o) :
    BlkSt (upd Hf D o) H2 bl gr wk B kvs W ∧ Same Hf (upd Hf D o) ∧ upd Hf D o D = some o := by
  have nD : ∀ {p : Addr} {x : HO}, H' p = some x → p ≠ D := fun {p x} q z => by
    rw [z, n] at q
    cases q
  refine ⟨⟨fun b x q => ?_, ?_, ?_, ?_, s _ _ h.eb, s _ _ h.eg, s _ _ h.ew, h.ne⟩, same_fresh (h.same.free n), upd_same⟩
  · by_cases z : b = D
    · subst z
      rw [upd_same] at q
      rw [← q, e]
    · rw [upd_ne z] at q
      exact s _ _ (h.same _ _ q)
  · rw [upd_ne (nD h.eb)]
    exact h.nb
  · rw [upd_ne (nD h.eg)]
    exact h.ng
  · rw [upd_ne (nD h.ew)]
    exact h.nw
theorem BlkSt.setB (h : BlkSt Hf H' bl gr wk B kvs W) (B' : List Nat) : BlkSt Hf (upd H' bl (.lst (natsV B'))) bl gr wk B' kvs W :=
  ⟨same_put h.same h.nb, h.nb, h.ng, h.nw, upd_same, by rw [upd_ne h.bg.symm]; exact h.eg, by rw [upd_ne h.ne.symm]; exact h.ew, h.ne⟩
theorem BlkSt.setG (h : BlkSt Hf H' bl gr wk B kvs W) (kvs' : List (Key × V)) : BlkSt Hf (upd H' gr (.dK kvs')) bl gr wk B kvs' W :=
  ⟨same_put h.same h.ng, h.nb, h.ng, h.nw, by rw [upd_ne h.bg]; exact h.eb, upd_same, by rw [upd_ne h.wg]; exact h.ew, h.ne⟩
theorem BlkSt.setW (h : BlkSt Hf H' bl gr wk B kvs W) (W' : List Nat) : BlkSt Hf (upd H' wk (.lst (natsV W'))) bl gr wk B kvs W' :=
  ⟨same_put h.same h.nw, h.nb, h.ng, h.nw, by rw [upd_ne h.ne]; exact h.eb, by rw [upd_ne h.wg.symm]; exact h.eg, upd_same, h.ne⟩
/-- the sizes of what is held -/
def BOk (G : List (List Nat)) (W : List Nat) : Prop := G.length + KM.wt G ≤ 200 ∧ KM.mu G W ≤ 200 ∧ ∀ c, c ∈ W → c < G.length
def GrpAt (Hf : Hp) (kvs : List (Key × V)) (G : List (List Nat)) : Prop := kvs.length = G.length ∧ (∀ k, k < G.length → ∃ p, valV kvs (Sum.inl ((k : Nat) : Int)) = some (.ref p) ∧ Hf p = some (.lst (natsV (G.getD k [])))) ∧ ∀ k : Nat, G.length ≤ k → valV kvs (Sum.inl ((k : Nat) : Int)) = none
theorem GrpAt.same (h : GrpAt Hf kvs G) (s : Same Hf H') : GrpAt H' kvs G :=
  ⟨h.1, fun k hk => let ⟨p, a, b⟩ := h.2.1 k hk; ⟨p, a, s _ _ b⟩, h.2.2⟩
theorem key_nat {a b : Nat} : ((Sum.inl ((a : Nat) : Int) : Key) = Sum.inl ((b : Nat) : Int)) ↔ a = b := by
  constructor
  · intro h
    have := Sum.inl.inj h
    omega
  · intro h
    rw [h]
theorem GrpAt.snoc (h : GrpAt Hf kvs G) {p : Addr} {g : List Nat} (hp : Hf p = some (.lst (natsV g))) : GrpAt Hf (putK kvs (Sum.inl ((G.length : Nat) : Int)) (.ref p)) (G ++ [g]) := by
  have hn := h.2.2 _ (Nat.le_refl G.length)
  refine ⟨?_, fun k hk => ?_, fun k hk => ?_⟩
  · rw [putK_new _ hn, List.length_append, List.length_append, h.1]
    rfl
  · rw [List.length_append, List.length_singleton] at hk
    rw [valV_put]
    by_cases e : k = G.length
    · subst e
      rw [if_pos rfl]
      refine ⟨p, rfl, ?_⟩
      rw [KM.getD_snoc_len]
      exact hp
    · rw [if_neg (fun z => e (key_nat.mp z)), KM.getD_snoc_lt (by omega)]
      exact h.2.1 k (by omega)
  · rw [List.length_append, List.length_singleton] at hk
    rw [valV_put, if_neg (fun z => by have := key_nat.mp z; omega)]
    exact h.2.2 k (by omega)
theorem GrpAt.set (h : GrpAt Hf kvs G) {p : Addr} {x : Nat} {g : List Nat} (hx : x < G.length) (hp : Hf p = some (.lst (natsV g))) : GrpAt Hf (putK kvs (Sum.inl ((x : Nat) : Int)) (.ref p)) (G.set x g) := by
  refine ⟨?_, fun k hk => ?_, fun k hk => ?_⟩
  · rw [List.length_set, ← h.1]
    obtain ⟨q, hq, _⟩ := h.2.1 x hx
    unfold putK
    rw [valV_any, hq]
    exact List.length_map _
  · rw [List.length_set] at hk
    rw [valV_put]
    by_cases e : k = x
    · subst e
      rw [if_pos rfl, KM.getD_set_self hk]
      exact ⟨p, rfl, hp⟩
    · rw [if_neg (fun z => e (key_nat.mp z)), KM.getD_set_ne (fun z => e z.symm)]
      exact h.2.1 k hk
  · rw [List.length_set] at hk
    rw [valV_put, if_neg (fun z => by have := key_nat.mp z; omega)]
    exact h.2.2 k hk
end
/-- every place of l gets the value v -/
def setAll (B l : List Nat) (v : Nat) : List Nat := l.foldl (fun b i => b.set i v) B
theorem setAll_snoc (B l : List Nat) (i v : Nat) : setAll B (l ++ [i]) v = (setAll B l v).set i v := by
  unfold setAll
  rw [List.foldl_append]
  rfl
theorem setAll_len (v : Nat) : ∀ (l B : List Nat), (setAll B l v).length = B.length
  | [], B => rfl
  | i :: l, B => by
    show (setAll (B.set i v) l v).length = B.length
    rw [setAll_len v l, List.length_set]
theorem setAll_get (v : Nat) : ∀ (l B : List Nat) {i : Nat}, i < B.length → (setAll B l v).getD i 0 = if i ∈ l then v else B.getD i 0
  | [], B, i, _ => rfl
  | j :: l, B, i, h => by
    show (setAll (B.set j v) l v).getD i 0 = _
    rw [setAll_get v l _ (by rw [List.length_set]; exact h)]
    by_cases q : i ∈ l
    · rw [if_pos q, if_pos (List.mem_cons_of_mem _ q)]
    · rw [if_neg q]
      by_cases e : i = j
      · subst e
        rw [if_pos (List.mem_cons_self ..), KM.getD_set_self h]
      · rw [if_neg (by simp [e, q]), KM.getD_set_ne (fun z => e z.symm)]
theorem flat_nats (l : List Nat) : (natsV l).all flatV = true := by
  rw [List.all_eq_true]
  intro v hv
  obtain ⟨n, _, rfl⟩ := List.mem_map.mp hv
  rfl
theorem in_nats (x : Nat) (l : List Nat) : inV (natV x) (natsV l) = decide (x ∈ l) := by
  unfold inV
  rw [Bool.eq_iff_iff, List.any_eq_true, decide_eq_true_eq]
  constructor
  · rintro ⟨v, hv, e⟩
    obtain ⟨n, hn, rfl⟩ := List.mem_map.mp hv
    have : n = x := by
      have e' := of_decide_eq_true e
      omega
    rw [← this]
    exact hn
  · intro h
    exact ⟨_, List.mem_map.mpr ⟨x, h, rfl⟩, decide_eq_true rfl⟩
section
variable {K : PySem.W.Frag} {w : World}
abbrev rLenS (K : PySem.W.Frag) : List V → Hp → VK → Prop := fun xs H Q => ∃ p ys, xs = [V.ref p] ∧ (SqL K H p ys ∨ SqT K H p ys) ∧ Q (V.int ((ys.length : Nat) : Int)) H
abbrev rLenD0 : List V → Hp → VK → Prop := fun xs H Q => ∃ a kvs, xs = [V.ref a] ∧ H a = some (HO.dK kvs) ∧ Q (V.int ((kvs.length : Nat) : Int)) H
theorem ixN_of {n j : Nat} (hj : j < n) : ixN n (j : Int) = some j := by
  unfold ixN
  rw [if_pos (by omega), if_pos (by omega)]
  simp
theorem seq_asg {te : TE} {g : TG} {u : TS} {D : Ends} {σ : L2.St} {H : Hp} (h : te σ H fun x H1 => g x σ H1 fun σ' H' => u D σ' H') : tSeq (tAsg te g) u D σ H := h
theorem pairs_c {c : V} {tv : TE} {r : List (TE × TE)} {σ : L2.St} {H : Hp} {Q : List (V × V) → Hp → Prop} (h : tv σ H fun y H2 => tPairs r σ H2 fun ps H3 => Q ((c, y) :: ps) H3) : tPairs ((tC c, tv) :: r) σ H Q := h
theorem seq_dput {td ty tv : TE} {u : TS} {D : Ends} {σ : L2.St} {H : Hp} (h : tv σ H fun v H1 => td σ H1 fun x H2 => ty σ H2 fun y H3 => ∃ a H4, x = .ref a ∧ DPut H3 a y v H4 ∧ u D σ H4) : tSeq (sDPut td ty tv) u D σ H := h
/-- what is done for one name -/
def tSplit (K : PySem.W.Frag) : TS :=
  tSeq (tAsg (tLc (iList K (tVar 9)) (gName 15) (tTest (tOp rEq (tOp (rIxL K) (tVar 1) (tVar 15)) (tVar 10))) (tVar 15) [15]) (gName 11))
    (tIfS (tTest (tOp (rI0 fun i j => V.bl (decide (i < j))) (tCB (rLenS K) (tCons (tVar 11) tNil)) (tCB (rLenS K) (tCons (tDGet (tVar 4) (tVar 10)) tNil))))
      (tSeq (tAsg (tCB rLenD0 (tCons (tVar 4) tNil)) (gName 12))
        (tSeq (tFor (iList K (tVar 11)) (gName 2) (tAsg (tVar 12) (gSub (tVar 1) (tVar 2) rSetL)))
          (tSeq (sDPut (tVar 4) (tVar 12) (tVar 11))
            (tSeq (sDPut (tVar 4) (tVar 10) (tLc (iList K (tDGet (tVar 4) (tVar 10))) (gName 2) (tTest (tOp rEq (tOp (rIxL K) (tVar 1) (tVar 2)) (tVar 10))) (tVar 2) [2]))
              (tDrop (tBM K "list" rAppend (tVar 6) (tCons (tIf (tOr (tTest (tOp (rIn K false) (tVar 10) (tVar 6)))
                (tTest (tOp (rI0 fun i j => V.bl (decide (i ≤ j))) (tCB (rLenS K) (tCons (tVar 11) tNil)) (tCB (rLenS K) (tCons (tDGet (tVar 4) (tVar 10)) tNil))))) (tVar 12) (tVar 10)) tNil)))))))
      tNext)
abbrev stB (x0 : Option V) (bl : Addr) (x2 x3 : Option V) (gr sd wk : Addr) (x7 x8 : Option V) (x9 x10 x11 x12 : Option V) : L2.St :=
  [x0, some (.ref bl), x2, x3, some (.ref gr), some (.ref sd), some (.ref wk), x7, x8, x9, x10, x11, x12, none, none, none]
theorem rd_split {D : Ends} {Hf H1 : Hp} {bl gr sd wk mk : Addr} {R : KM.Rows} {B W T M rem : List Nat} {kvs : List (Key × V)} {G : List (List Nat)} {op : Bool → Prop} {d : Bool} {x : Nat} {x0 x2 x3 x7 x8 x11 x12 : Option V}
    (oR : KM.OkR R) (hlen : R.length ≤ 60) (st : BlkSt Hf H1 bl gr wk B kvs W) (ga : GrpAt Hf kvs G) (hM : Hf mk = some (.lst (natsV M))) (m : KM.Marks R T d M) (cl : KM.Closed R T) (h : KM.HMid R B G W op T M (x :: rem)) (hO : BOk G W)
    (q : ∀ Hf' H' x2' x11' x12' B' kvs' G' W', Same Hf Hf' → BlkSt Hf' H' bl gr wk B' kvs' W' → GrpAt Hf' kvs' G' → KM.HMid R B' G' W' op T M rem → KM.mu G' W' ≤ KM.mu G W → BOk G' W' → D.nx (stB x0 bl x2' x3 gr sd wk x7 x8 (some (.ref mk)) (some (natV x)) x11' x12') H') :
    tSplit K D (stB x0 bl x2 x3 gr sd wk x7 x8 (some (.ref mk)) (some (natV x)) x11 x12) H1 := by
  have hBl : B.length = R.length := h.inv.len
  obtain ⟨hG, hmu, hWc⟩ := hO
  have hx := KM.mid_lt m h
  have hMR : ∀ i, i ∈ M → i < R.length := fun i hi => ((m.2 i).mp hi).1
  have lM : M.length ≤ R.length := KM.nodup_bound m.1 hMR
  unfold tSplit
  refine seq_asg ?_
  refine rd_filter (K := K) (σ := stB x0 bl x2 x3 gr sd wk x7 x8 (some (.ref mk)) (some (natV x)) x11 x12) (wi := iList K (tVar 9)) (v := 15) (p := mk) (bl := bl) (L := M) (B := B) (x := x) (fun Rr r => ⟨_, rfl, mk, rfl, ⟨_, SqL.of (st.same _ _ hM)⟩, r⟩) (st.same _ _ hM) st.eb (fun i hi => by rw [hBl]; exact hMR i hi) (by omega) (fun _ => rfl) (fun _ => rfl) (fun _ => rfl) (fun _ => rfl) fun so H2 nso s12 eso => ?_
  obtain ⟨st2, sf2, eso2⟩ := st.on s12 nso eso
  have ga2 := ga.same sf2
  have hM2 := sf2 _ _ hM
  generalize upd Hf so _ = Hf2 at st2 sf2 eso2 ga2 hM2
  have eP : (M.filter fun i => B.getD i 0 == x) = KM.part B M x := rfl
  rw [eP] at eso2
  obtain ⟨gx, egx, hgx⟩ := ga2.2.1 x hx
  have gN := h.inv.nd x hx
  have gS : ∀ i, i ∈ G.getD x [] → i < R.length := fun i hi => ((h.inv.mem x hx i).mp hi).1
  have lgx : (G.getD x []).length ≤ R.length := KM.nodup_bound gN gS
  refine ⟨_, rfl, so, _, rfl, .inl (SqL.of (st2.same _ _ eso2)), _, rfl, _, rfl, gr, _, rfl, egx ▸ DGet.k (k := Sum.inl (x : Int)) st2.eg, gx, _, rfl, .inl (SqL.of (st2.same _ _ hgx)), _, _, rfl, rfl, _, rfl, ite2 (fun c => ?_) (fun c => ?_)⟩
  · have hl : (KM.part B M x).length < (G.getD x []).length := by
      have := of_decide_eq_true c
      rw [natsV_len, natsV_len] at this
      omega
    have kl := ga.1
    refine ⟨_, rfl, gr, kvs, rfl, st2.eg, ?_⟩
    rw [kl]
    -- the met part gets its new name
    have pS : ∀ i, i ∈ KM.part B M x → i < R.length := fun i hi => hMR i ((KM.mem_part.mp hi).1)
    refine ⟨_, rfl, so, rfl, ⟨_, SqL.of (st2.same _ _ eso2)⟩, for_list (K := K) (a := so) (xs := natsV (KM.part B M x)) (fun j σ H' => ∃ y, σ = stB x0 bl y x3 gr sd wk x7 x8 (some (.ref mk)) (some (natV x)) (some (.ref so)) (some (natV G.length)) ∧ BlkSt Hf2 H' bl gr wk (setAll B ((KM.part B M x).take j) G.length) kvs W) ?_ ?_ ?_ ?_⟩
    · exact ⟨x2, rfl, st2⟩
    · rintro j σ H' _ ⟨y, rfl, sj⟩
      exact SqL.of (sj.same _ _ eso2)
    · rintro j y σ H' hy ⟨y2, rfl, sj⟩
      have lt : j < (KM.part B M x).length := by
        have := (List.getElem?_eq_some_iff.mp hy).1
        rwa [natsV_len] at this
      have ey : y = natV ((KM.part B M x).getD j 0) := Option.some.inj (hy.symm.trans (natsV_get lt))
      subst ey
      have hi := pS _ (KM.getD_mem lt 0)
      refine ⟨_, rfl, _, rfl, _, rfl, bl, _, _, _, rfl, rfl, sj.eb, ixN_of (by rw [natsV_len, setAll_len, hBl]; exact hi), _, rfl, ?_⟩
      have e : (natsV (setAll B ((KM.part B M x).take j) G.length)).set ((KM.part B M x).getD j 0) (natV G.length) = natsV (setAll B ((KM.part B M x).take (j + 1)) G.length) := by
        rw [take_next lt, setAll_snoc]
        unfold natsV
        rw [List.map_set]
      rw [e]
      exact sj.setB _
    · rintro σ H3 ⟨y2, rfl, st3⟩
      rw [natsV_len, List.take_of_length_le (Nat.le_refl _)] at st3
      have sp : KM.Split R B (setAll B (KM.part B M x) G.length) M G x := ⟨by rw [setAll_len, hBl], fun i hi => setAll_get _ _ _ (by rw [hBl]; exact hi)⟩
      generalize setAll B (KM.part B M x) G.length = B' at st3 sp
      have hGl : G.length < 201 := by omega
      have hkl : kvs.length < sizeLine := by
        rw [kl]
        exact small_line (m := 1000) (by omega) (by decide)
      refine ⟨_, rfl, _, rfl, _, rfl, gr, _, rfl, DPut.k (k := Sum.inl ((G.length : Nat) : Int)) st3.eg hkl, ?_⟩
      have st4 := st3.setG (putK kvs (Sum.inl ((G.length : Nat) : Int)) (.ref so))
      have ga4 := ga2.snoc eso2
      have hx4 : x < (G ++ [KM.part B M x]).length := by
        rw [List.length_append]
        omega
      obtain ⟨g4, eg4, hg4⟩ := ga4.2.1 x hx4
      rw [KM.getD_snoc_lt hx] at hg4
      generalize putK kvs (Sum.inl ((G.length : Nat) : Int)) (.ref so) = kvs4 at st4 ga4 eg4
      generalize upd H3 gr (.dK kvs4) = H4 at st4
      dsimp only
      refine seq_dput ?_
      refine rd_filter (K := K) (σ := stB x0 bl y2 x3 gr sd wk x7 x8 (some (.ref mk)) (some (natV x)) (some (.ref so)) (some (natV G.length))) (wi := iList K (tDGet (tVar 4) (tVar 10))) (v := 2) (p := g4) (bl := bl) (L := G.getD x []) (B := B') (x := x) (fun Rr r => ⟨_, rfl, _, rfl, gr, _, rfl, eg4 ▸ DGet.k (k := Sum.inl (x : Int)) st4.eg, g4, rfl, ⟨_, SqL.of (st4.same _ _ hg4)⟩, r⟩) (st4.same _ _ hg4) st4.eb (fun i hi => by rw [sp.len]; exact gS i hi) (by omega) (fun _ => rfl) (fun _ => rfl) (fun _ => rfl) (fun _ => rfl) fun ro H5 nro s45 ero => ?_
      obtain ⟨st5, sf5, ero5⟩ := st4.on s45 nro ero
      have ga5 := ga4.same sf5
      have eso5 := sf5 _ _ eso2
      have sf05 := sf2.trans sf5
      generalize upd Hf2 ro _ = Hf5 at st5 sf5 ero5 ga5 eso5 sf05
      have eR : ((G.getD x []).filter fun i => B'.getD i 0 == x) = KM.restOf B' G x := rfl
      rw [eR] at ero5
      have k4 : kvs4.length < sizeLine := by
        rw [ga4.1, List.length_append, List.length_singleton]
        exact small_line (m := 1000) (by omega) (by decide)
      refine ⟨_, rfl, _, rfl, gr, _, rfl, DPut.k (k := Sum.inl (x : Int)) st5.eg k4, ?_⟩
      have st6 := st5.setG (putK kvs4 (Sum.inl ((x : Nat) : Int)) (.ref ro))
      have ga6 := ga5.set hx4 ero5
      have e6 : (G ++ [KM.part B M x]).set x (KM.restOf B' G x) = KM.splitG B B' M G x := rfl
      rw [e6] at ga6
      have eg6 : valV (putK kvs4 (Sum.inl ((x : Nat) : Int)) (.ref ro)) (Sum.inl ((x : Nat) : Int)) = some (.ref ro) := by rw [valV_put, if_pos rfl]
      generalize putK kvs4 (Sum.inl ((x : Nat) : Int)) (.ref ro) = kvs6 at st6 ga6 eg6
      generalize upd H5 gr (.dK kvs6) = H6 at st6
      refine ⟨_, rfl, .inl ⟨rfl, _, SqL.of st6.ew⟩, ?_⟩
      have hWl : W.length ≤ 200 := by
        unfold KM.mu at hmu
        omega
      have fin : ∀ y, (y = G.length ∨ y = x) → (x ∈ W → y = G.length) → rAppend (.ref wk) [natV y] H6 fun _ H' => D.nx (stB x0 bl y2 x3 gr sd wk x7 x8 (some (.ref mk)) (some (natV x)) (some (.ref so)) (some (natV G.length))) H' := by
        intro y hy hw
        refine ⟨wk, natsV W, natV y, rfl, rfl, st6.ew, by rw [natsV_len]; exact small_line (m := 1000) (by omega) (by decide), ?_⟩
        rw [← natsV_snoc]
        refine q Hf5 _ y2 _ _ B' kvs6 (KM.splitG B B' M G x) (W ++ [y]) sf05 (st6.setW _) ga6 (KM.mid_split m cl h sp oR hy hw) (KM.mu_split m h sp hl) ?_
        have a1 := KM.mu_split (y := y) m h sp hl
        have a2 : (KM.splitG B B' M G x).length = G.length + 1 := KM.split_len
        refine ⟨?_, Nat.le_trans a1 hmu, fun c hc => ?_⟩
        · unfold KM.mu at a1
          rw [List.length_append, List.length_singleton] at a1
          omega
        · rw [a2]
          rcases List.mem_append.mp hc with hc | hc
          · have := hWc c hc
            omega
          · have := List.mem_singleton.mp hc
            omega
      refine ⟨_, rfl, _, rfl, wk, _, rfl, .inl (SqL.of st6.ew), rfl, flat_nats W, _, rfl, ?_⟩
      rw [if_neg (by decide), in_nats]
      by_cases hin : x ∈ W
      · rw [decide_eq_true hin]
        exact iteT (iteT ⟨_, rfl, fin _ (.inl rfl) fun _ => rfl⟩)
      · rw [decide_eq_false hin]
        refine iteF ⟨_, rfl, so, _, rfl, .inl (SqL.of (st6.same _ _ eso5)), _, rfl, _, rfl, gr, _, rfl, eg6 ▸ DGet.k (k := Sum.inl (x : Int)) st6.eg, ro, _, rfl, .inl (SqL.of (st6.same _ _ ero5)), _, _, rfl, rfl, _, rfl, ite2 (fun c => ?_) (fun c => ?_)⟩
        · exact ⟨_, rfl, fin _ (.inl rfl) fun _ => rfl⟩
        · exact ⟨_, rfl, fin _ (.inr rfl) fun z => absurd z hin⟩
  · refine q Hf2 H2 x2 _ x12 B kvs G W sf2 st2 ga2 (KM.mid_keep m h fun z => c (decide_eq_true (by rw [natsV_len, natsV_len]; omega))) (Nat.le_refl _) ⟨hG, hmu, hWc⟩
/-- what is done for one digit -/
def tDig (K : PySem.W.Frag) (w : World) : TS :=
  tSeq (tAsg (tLc2 (iList K (tVar 7)) (gName 14) tYes (iTup K (tDGet2 (tVar 5) (tTup (tCons (tVar 8) (tCons (tVar 14) tNil))) (tTup tNil))) (gName 15) tYes (tVar 15) [14, 15] [15]) (gName 9))
    (tFor (iList K (tCB (rSortedSet w) (tCons (tSetI w (iList K (tVar 9)) (gName 15) (tOp (rIxL K) (tVar 1) (tVar 15)) [15]) tNil))) (gName 10) (tSplit K))
theorem rd_dig {D : Ends} {Hf H1 : Hp} {bl gr sd wk tg : Addr} {R : KM.Rows} {B W T : List Nat} {kvs : List (Key × V)} {G : List (List Nat)} {op : Bool → Prop} {d : Bool} {x0 x2 x3 x9 x10 x11 x12 : Option V}
    (oR : KM.OkR R) (hlen : R.length ≤ 60) (st : BlkSt Hf H1 bl gr wk B kvs W) (ga : GrpAt Hf kvs G) (hT : Hf tg = some (.lst (natsV T))) (hS : SrcAt Hf sd R fun _ => R.length) (hTl : T.length ≤ R.length) (hTn : T.Nodup) (cl : KM.Closed R T)
    (iv : KM.HInv R B G) (ex : KM.Exc R B W op T) (hO : BOk G W)
    (q : ∀ Hf' H' x2' x9' x10' x11' x12' B' kvs' G' W', Same Hf Hf' → BlkSt Hf' H' bl gr wk B' kvs' W' → GrpAt Hf' kvs' G' → KM.HInv R B' G' → KM.Exc R B' W' (fun b => op b ∧ b ≠ d) T → KM.mu G' W' ≤ KM.mu G W → BOk G' W' → D.nx (stB x0 bl x2' x3 gr sd wk (some (.ref tg)) (some (bitV d)) x9' x10' x11' x12') H') :
    tDig K w D (stB x0 bl x2 x3 gr sd wk (some (.ref tg)) (some (bitV d)) x9 x10 x11 x12) H1 := by
  unfold tDig
  refine seq_asg ?_
  refine rd_marked (R := R) (T := T) (d := d) (st.same _ _ hT) (hS.same st.same) (by omega) (by omega) hTn fun mk H2 nmk s12 emk => ?_
  have hM := KM.marks_of (d := d) (R := R) hTn
  generalize hMe : T.flatMap (KM.srcs R d) = M at emk hM
  obtain ⟨st2, sf2, emk2⟩ := st.on s12 nmk emk
  have ga2 := ga.same sf2
  generalize upd Hf mk _ = Hf2 at st2 sf2 emk2 ga2
  have hMR : ∀ i, i ∈ M → i < R.length := fun i hi => ((hM.2 i).mp hi).1
  have lM : M.length ≤ R.length := KM.nodup_bound hM.1 hMR
  refine rd_names (K := K) (w := w) (M := M) (B := B) (st2.same _ _ emk2) st2.eb (fun i hi => by rw [iv.len]; exact hMR i hi) (by omega) fun names nl H3 nn mn s23 nnl enl => ?_
  obtain ⟨st3, sf3, enl3⟩ := st2.on s23 nnl enl
  have ga3 := ga2.same sf3
  have emk3 := sf3 _ _ emk2
  have sf03 := sf2.trans sf3
  generalize upd Hf2 nl _ = Hf3 at st3 sf3 enl3 ga3 emk3 sf03
  refine ⟨nl, rfl, ⟨_, SqL.of (st3.same _ _ enl3)⟩, for_list (K := K) (a := nl) (xs := natsV names) (fun j σ H' => ∃ Hf' y2 y10 y11 y12 B' kvs' G' W', σ = stB x0 bl y2 x3 gr sd wk (some (.ref tg)) (some (bitV d)) (some (.ref mk)) y10 y11 y12 ∧ Same Hf3 Hf' ∧ BlkSt Hf' H' bl gr wk B' kvs' W' ∧ GrpAt Hf' kvs' G' ∧ KM.HMid R B' G' W' op T M (names.drop j) ∧ KM.mu G' W' ≤ KM.mu G W ∧ BOk G' W') ?_ ?_ ?_ ?_⟩
  · exact ⟨Hf3, x2, x10, x11, x12, B, kvs, G, W, rfl, Same.refl _, st3, ga3, KM.mid_start iv ex nn mn, Nat.le_refl _, hO⟩
  · rintro j σ H' _ ⟨Hf', y2, y10, y11, y12, B', kvs', G', W', rfl, sf, sj, _⟩
    exact SqL.of (sj.same _ _ (sf _ _ enl3))
  · rintro j y σ H' hy ⟨Hf', y2, y10, y11, y12, B', kvs', G', W', rfl, sf, sj, gj, mj, uj, oj⟩
    have lt : j < names.length := by
      have := (List.getElem?_eq_some_iff.mp hy).1
      rwa [natsV_len] at this
    have ey : y = natV (names.getD j 0) := Option.some.inj (hy.symm.trans (natsV_get lt))
    subst ey
    have ed : names.drop j = names.getD j 0 :: names.drop (j + 1) := by
      rw [List.drop_eq_getElem_cons lt, List.getD_eq_getElem?_getD, List.getElem?_eq_getElem lt]
      rfl
    rw [ed] at mj
    exact rd_split oR hlen sj gj (sf _ _ emk3) hM cl mj oj fun Hf'' H'' z2 z11 z12 B'' kvs'' G'' W'' s'' st'' ga'' m'' u'' o'' =>
      ⟨Hf'', z2, _, z11, z12, B'', kvs'', G'', W'', rfl, sf.trans s'', st'', ga'', m'', Nat.le_trans u'' uj, o''⟩
  · rintro σ H' ⟨Hf', y2, y10, y11, y12, B', kvs', G', W', rfl, sf, sj, gj, mj, uj, oj⟩
    rw [natsV_len, List.drop_eq_nil_of_le (Nat.le_refl _)] at mj
    exact q Hf' H' y2 _ y10 y11 y12 B' kvs' G' W' (sf03.trans sf) sj gj mj.inv (KM.mid_end oR hM mj) uj oj
/-- [row[2] for row in rows] -/
theorem rd_column {σ : L2.St} {H1 : Hp} {Q : VK} {v n : Nat} {a : Addr} {as : List V} {R : KM.Rows} (e0 : σ[n]? = some (some (.ref a))) (ha : H1 a = some (.lst as)) (hR : RowsT K H1 as R) (hl : R.length ≤ 1000)
    (e3 : ∀ y, ((wipe σ [v]).set v y)[v]? = some y) (e4 : ∀ y, wipe ((wipe σ [v]).set v y) [v] = wipe σ [v])
    (q : ∀ D H2, H1 D = none → Same H1 H2 → H2 D = some (.lst (natsV (R.map fun r => r.2.2))) → Q (.ref D) H2) :
    tLc (iList K (tVar n)) (gName v) tYes (tOp (rIxT K) (tVar v) (tC (V.int 2))) [v] σ H1 Q := by
  refine ⟨_, e0, a, rfl, ⟨_, SqL.of ha⟩, fun bl nbl => lc_list (K := K) (a := a) (xs := as) (fun i H' => Same H1 H' ∧ H' bl = some (.lst (natsV ((R.map fun r => r.2.2).take i)))) ?_ ?_ ?_ ?_⟩
  · exact ⟨same_fresh nbl, upd_same⟩
  · exact fun i H' _ h => SqL.of (h.1 _ _ ha)
  · rintro i y H' hy ⟨sm, eD⟩
    have lt : i < R.length := by
      have := (List.getElem?_eq_some_iff.mp hy).1
      rwa [hR.1] at this
    obtain ⟨p, ep, tp⟩ := hR.2 i lt
    rw [ep] at hy
    cases hy
    refine ⟨e4 _, ?_⟩
    dsimp only [tYes, if_true]
    refine ⟨_, e3 _, p, _, _, _, rfl, rfl, .inl (.inl (sm _ _ tp)), atI_nat (j := 2) (row_2 _), _, eD, ?_, same_put sm nbl, ?_⟩
    · rw [natsV_len, List.length_take]
      exact small_line (m := 1000) (by rw [List.length_map]; omega) (by decide)
    · rw [upd_same, take_next (by rw [List.length_map]; exact lt), natsV_snoc]
      have e : (R.map fun r => r.2.2).getD i 0 = (KM.rowAt R i).2.2 := by
        rw [List.getD_eq_getElem?_getD, List.getElem?_map]
        unfold KM.rowAt
        rw [List.getD_eq_getElem?_getD, List.getElem?_eq_getElem lt]
        rfl
      rw [e]
  · rintro H2 ⟨s1, e1⟩
    rw [hR.1, List.take_of_length_le (by rw [List.length_map]; exact Nat.le_refl _)] at e1
    exact q bl H2 nbl s1 e1
def whereN (R : KM.Rows) (n c : Nat) : List Nat := (List.range n).filter fun i => KM.ins R i == c
theorem whereN_next (R : KM.Rows) (n c : Nat) : whereN R (n + 1) c = whereN R n c ++ (if KM.ins R n = c then [n] else []) := by
  unfold whereN
  rw [List.range_succ, List.filter_append]
  congr 1
  by_cases h : KM.ins R n = c
  · rw [if_pos h, List.filter_cons_of_pos (by simp [h])]
    rfl
  · rw [if_neg h, List.filter_cons_of_neg (by simp [h])]
    rfl
theorem whereN_len (R : KM.Rows) (n c : Nat) : (whereN R n c).length ≤ n := by
  have := List.length_filter_le (fun i => KM.ins R i == c) (List.range n)
  rwa [List.length_range] at this
/-- [at for at, row in enumerate(rows) if row[2] == c] -/
theorem rd_where {H1 : Hp} {Q : VK} {a : Addr} {as : List V} {R : KM.Rows} {c : Nat} {x1 x2 x3 x4 x5 x6 x7 x8 x9 x10 x11 x12 x13 x14 x15 : Option V} (ha : H1 a = some (.lst as)) (hR : RowsT K H1 as R) (hl : R.length ≤ 1000)
    (q : ∀ D H2, H1 D = none → Same H1 H2 → H2 D = some (.lst (natsV (whereN R R.length c))) → Q (.ref D) H2) :
    tLc (iEnum K (tCons (tVar 0) tNil)) (gTup K 2 (gCons (gName 2) (gCons (gName 13) gNil))) (tTest (tOp rEq (tOp (rIxT K) (tVar 13) (tC (V.int 2))) (tC (V.int (c : Int))))) (tVar 2) [2, 13] [some (.ref a), x1, x2, x3, x4, x5, x6, x7, x8, x9, x10, x11, x12, x13, x14, x15] H1 Q := by
  refine ⟨_, rfl, a, as, rfl, SqL.of ha, fun D nD => lc_enum (K := K) (a := a) (xs := as) (fun i H' => Same H1 H' ∧ H' D = some (.lst (natsV (whereN R i c)))) ?_ ?_ ?_ ?_⟩
  · exact ⟨same_fresh nD, upd_same⟩
  · exact fun i H' h => SqL.of (h.1 _ _ ha)
  · rintro i y H' T hy nT ⟨sm, eD⟩
    have lt : i < R.length := by
      have := (List.getElem?_eq_some_iff.mp hy).1
      rwa [hR.1] at this
    obtain ⟨p, ep, tp⟩ := hR.2 i lt
    rw [ep] at hy
    cases hy
    have s1 := same_fresh (o := .tup [.int (i : Nat), .ref p]) nT
    have eT : (upd H' T (.tup [.int (i : Nat), .ref p])) T = some (.tup [.int (i : Nat), .ref p]) := upd_same
    generalize upd H' T (.tup [.int (i : Nat), .ref p]) = H3 at s1 eT ⊢
    refine ⟨T, _, rfl, .inl (.inl eT), rfl, _, _, rfl, _, _, rfl, rfl, rfl, ?_⟩
    have sm3 := sm.trans s1
    have eD3 := s1 _ _ eD
    refine ⟨_, rfl, p, _, _, _, rfl, rfl, .inl (.inl (sm3 _ _ tp)), atI_nat (j := 2) (row_2 _), natV_scal _ _, _, rfl, ?_⟩
    have ed : decide (natV (KM.rowAt R i).2.2 = V.int (c : Int)) = decide (KM.ins R i = c) := dec_nat _ _
    rw [ed, whereN_next]
    by_cases hx : KM.ins R i = c
    · rw [decide_eq_true hx, if_pos hx]
      refine iteT ⟨_, rfl, _, eD3, ?_, same_put sm3 nD, ?_⟩
      · rw [natsV_len]
        have := whereN_len R i c
        exact small_line (m := 1000) (by omega) (by decide)
      · rw [upd_same, natsV_snoc]
        rfl
    · rw [decide_eq_false hx, if_neg hx, List.append_nil]
      exact iteF ⟨sm3, eD3⟩
  · rintro H' ⟨sm, eD⟩
    rw [hR.1] at eD
    exact q D H' nD sm eD
end
/-- the heap without the three -/
def cut (H : Hp) (bl gr wk : Addr) : Hp := fun b => if b = bl ∨ b = gr ∨ b = wk then none else H b
theorem cut_some {H : Hp} {bl gr wk b : Addr} {x : HO} (h : H b = some x) (h1 : b ≠ bl) (h2 : b ≠ gr) (h3 : b ≠ wk) : cut H bl gr wk b = some x := by
  unfold cut
  rw [if_neg (fun z => z.elim h1 fun z => z.elim h2 h3)]
  exact h
theorem cut_same {H : Hp} {bl gr wk : Addr} : Same (cut H bl gr wk) H := fun b x h => by
  unfold cut at h
  by_cases z : b = bl ∨ b = gr ∨ b = wk
  · rw [if_pos z] at h
    cases h
  · rw [if_neg z] at h
    exact h
theorem cut_none {H : Hp} {bl gr wk b : Addr} (h : b = bl ∨ b = gr ∨ b = wk) : cut H bl gr wk b = none := if_pos h
theorem SrcAt.keep {H H' : Hp} {d : Addr} {R : KM.Rows} {c : Bool → Nat} (h : SrcAt H d R c) (e1 : ∀ b kvs, H b = some (.dT kvs) → H' b = some (.dT kvs)) (e2 : ∀ b l, H b = some (.tup l) → H' b = some (.tup l)) : SrcAt H' d R c := by
  obtain ⟨kvs, a, l, r⟩ := h
  refine ⟨kvs, e1 _ _ a, l, fun b t => (r b t).imp id fun z => ?_⟩
  obtain ⟨q, x, y⟩ := z
  exact ⟨q, x, e2 _ _ y⟩
theorem exc_op {R : KM.Rows} {B W T T' : List Nat} {op op' : Bool → Prop} (h : KM.Exc R B W op T) (e : ∀ b, op b → op' b ∧ T = T') : KM.Exc R B W op' T' := fun i j hi hj q d => by
  rcases h i j hi hj q d with z | z | z | ⟨z, y⟩
  · exact .inl z
  · exact .inr (.inl z)
  · exact .inr (.inr (.inl z))
  · obtain ⟨a, rfl⟩ := e d z
    exact .inr (.inr (.inr ⟨a, y⟩))
theorem ins_column {R : KM.Rows} {i : Nat} (h : i < R.length) : (R.map fun r => r.2.2).getD i 0 = KM.ins R i := by
  rw [List.getD_eq_getElem?_getD, List.getElem?_map]
  unfold KM.ins KM.rowAt
  rw [List.getD_eq_getElem?_getD, List.getElem?_eq_getElem h]
  rfl
theorem mem_where {R : KM.Rows} {c i : Nat} : i ∈ whereN R R.length c ↔ i < R.length ∧ KM.ins R i = c := by
  unfold whereN
  rw [List.mem_filter, List.mem_range, beq_iff_eq]
theorem where_nodup {R : KM.Rows} {c : Nat} : (whereN R R.length c).Nodup := KM.nodup_filter _ List.nodup_range
end K35
namespace K35
open PySem PySem.Spec PyProof.Rows L2 KR

abbrev sBlocks : Stmt := top 11
abbrev nBlocks : List PySem.Str := ["rows", "block", "at", "outer", "groups", "sources", "work", "targets", "digit", "marked", "name", "some", "other", "row", "target", "source"]
theorem scBlocks : FnScope nBlocks ["rows"] (defScope sBlocks) := ⟨rfl, rfl, rfl, by decide +kernel, rfl, by decide +kernel, by decide +kernel⟩
def spBlocks (K : PySem.W.Frag) : Sp := fun vs H Q _ => ∃ (a : Addr) (as : List V) (R : KM.Rows), vs = [.ref a] ∧ H a = some (.lst as) ∧ RowsT K H as R ∧ KM.OkR R ∧ R.length ≤ 60 ∧
  ∀ H' p B, Same H H' → H p = none → KM.Blocks R B → H' p = some (.lst (natsV B)) → Q (.ref p) H'
section
variable {P : Program} {w : World} {K : PySem.W.Frag} {mg : PySem.Str → Option Value} {base : Heap}
theorem ok_blocks {f fS : Addr} {fd fdS : FuncData} {k : Nat} (F : Fun K "blocks_of" "blocks_of" sBlocks f fd) (FS : Fun K "sources_of" "sources_of" sSources fS fdS) (bS : Binds K fdS ["rows"] []) (gS : mg "sources_of" = some (.ref fS)) (GS : FnOk P w K mg base CX0 k fS fdS ["rows"] (spSources K))
    (me : mg "enumerate" = none) (ms : mg "sorted" = none) (ml : mg "len" = none) : FnOk P w K mg base CX0 (k + 1) f fd ["rows"] (spBlocks K) := by
  refine F.ok scBlocks (fun vs H Q E h => ?_) (fun cdv A outer s H vs Q E hr h => ?_)
  · obtain ⟨a, as, R, rfl, _⟩ := h
    rfl
  · obtain ⟨a, as, R, rfl, ha, hR, oR, hlen, q⟩ := h
    refine ⟨_, (pss_cons (ps_set (i := 1) scBlocks.nd rfl (.inr rfl) (pe_lc (own := [("row", 13)]) rfl scBlocks.nd (pi_list (pv 0)) (blkOk_by (own := [("row", 13)]) (N := nBlocks) (sc := defScope sBlocks) (by decide +kernel)) (fun _ _ _ _ _ => (pg_name (i := 13) scBlocks.nd rfl (.inl rfl))) (fun _ _ _ _ _ => pts_nil) (fun _ _ _ _ _ => (pe_ix (r := rIxT K) ix_tup (pv 13) pe_int (fun _ _ => rfl))))) (pss_cons (ps_setLc (i := 3) (own := [("at", 2), ("row", 13)]) rfl scBlocks.nd rfl rfl (sw_true rfl rfl rfl (by decide +kernel)) (g := gTup K 2 (gCons (gName 2) (gCons (gName 13) gNil))) (pi_enum (by rfl) me (pa_cons (pv 0) pa_nil)) (blkOk_by (own := [("at", 2), ("row", 13)]) (N := nBlocks) (sc := defScope sBlocks) (by decide +kernel)) (fun _ _ _ _ _ => pg_tup rfl (pgs_cons (pg_name (i := 2) scBlocks.nd rfl (.inl rfl) (hf := .inr rfl)) (pgs_cons (pg_name (i := 13) scBlocks.nd rfl (.inl rfl) (hf := .inr rfl)) pgs_nil))) (fun _ _ _ _ _ => pts_one (pt_cmpR op_eq (pe_ix (r := rIxT K) ix_tup (pv 13) pe_int (fun _ _ => rfl)) pe_int (nomark _))) (fun _ _ _ _ _ => pv 2)) (pss_cons (ps_set (i := 4) scBlocks.nd rfl (.inl rfl) (pe_disp (pps_cons pe_int (pv 3) (pps_cons pe_int (pe_lc (own := [("at", 2), ("row", 13)]) rfl scBlocks.nd (g := gTup K 2 (gCons (gName 2) (gCons (gName 13) gNil))) (pi_enum (by rfl) me (pa_cons (pv 0) pa_nil)) (blkOk_by (own := [("at", 2), ("row", 13)]) (N := nBlocks) (sc := defScope sBlocks) (by decide +kernel)) (fun _ _ _ _ _ => pg_tup rfl (pgs_cons (pg_name (i := 2) scBlocks.nd rfl (.inl rfl) (hf := .inr rfl)) (pgs_cons (pg_name (i := 13) scBlocks.nd rfl (.inl rfl) (hf := .inr rfl)) pgs_nil))) (fun _ _ _ _ _ => pts_one (pt_cmpR op_eq (pe_ix (r := rIxT K) ix_tup (pv 13) pe_int (fun _ _ => rfl)) pe_int (nomark _))) (fun _ _ _ _ _ => pv 2)) pps_nil)) (by rfl) (by rfl) (fun z => by cases z) (by decide))) (pss_cons (ps_set (i := 5) scBlocks.nd rfl (.inr rfl) (pe_call GS hr (by rfl) gS FS.kp bS .nil pass0 (pa_cons (pv 0) pa_nil))) (pss_cons (ps_set (i := 6) scBlocks.nd rfl (.inl rfl) (pe_lst (pa_cons pe_int (pa_cons pe_int pa_nil)))) (pss_cons (ps_while PassesOwn.never (pt_cmpR (op_neD hr.units) (pv 6) (pe_lst pa_nil) (nomark _)) (pss_cons (ps_set (i := 7) scBlocks.nd rfl (.inl rfl) (pe_dget (hu_of hr) (pv 4) (pe_bm0 PySem.F.plainAttrs_list PySem.F.slot_list_pop PySem.F.type_list_pop mt_pop (pv 6)) (fun _ _ => rfl))) (pss_one (ps_for PassesOwn.never rfl (pi_tup (pe_tup (pa_cons pe_int (pa_cons pe_int pa_nil)))) (pg_name (i := 8) scBlocks.nd rfl (.inr rfl)) (pss_cons (ps_setLc2 (wi1 := iTup K (tDGet2 (tVar 5) (tTup (tCons (tVar 8) (tCons (tVar 14) tNil))) (tTup tNil))) (i := 9) (own := [("target", 14), ("source", 15)]) (vs1 := [15]) rfl scBlocks.nd rfl rfl (sw_true rfl rfl rfl (by decide +kernel)) (pi_list (pv 7)) (blkOk_by (own := [("target", 14), ("source", 15)]) (N := nBlocks) (sc := defScope sBlocks) (by decide +kernel)) (by decide) (fun _ _ _ _ _ => (pg_name (i := 14) scBlocks.nd rfl (.inl rfl))) (fun _ _ _ _ _ => pts_nil) (by intro _ _ _ _ _; exact pi_tup (pe_dget2 (hu_of hr) (pv 5) (pe_tup (pa_cons (pv 8) (pa_cons (pv 14) pa_nil))) (pe_tup pa_nil) ⟨rfl, rfl, rfl, rfl⟩)) (fun _ _ _ _ _ => (pg_name (i := 15) scBlocks.nd rfl (.inl rfl))) (fun _ _ _ _ _ => pts_nil) (fun _ _ _ _ _ => pv 15)) (pss_one (ps_for PassesOwn.never rfl (pi_list (pe_callB (cr_sortedSet rfl) (by rfl) ms (by decide +kernel) (pa_cons (pe_setI (own := [("source", 15)]) rfl scBlocks.nd (pi_list (pv 9)) (blkOk_by (own := [("source", 15)]) (N := nBlocks) (sc := defScope sBlocks) (by decide +kernel)) (fun _ _ _ _ _ => (pg_name (i := 15) scBlocks.nd rfl (.inl rfl))) (fun _ _ _ _ _ => (pe_ix (r := rIxL K) ix_list (pv 1) (pv 15) (fun _ _ => rfl)))) pa_nil))) (pg_name (i := 10) scBlocks.nd rfl (.inr rfl)) (pss_cons (ps_setLc (i := 11) (own := [("source", 15)]) rfl scBlocks.nd rfl rfl (sw_true rfl rfl rfl (by decide +kernel)) (pi_list (pv 9)) (blkOk_by (own := [("source", 15)]) (N := nBlocks) (sc := defScope sBlocks) (by decide +kernel)) (fun _ _ _ _ _ => (pg_name (i := 15) scBlocks.nd rfl (.inl rfl))) (fun _ _ _ _ _ => pts_one (pt_cmpR op_eq (pe_ix (r := rIxL K) ix_list (pv 1) (pv 15) (fun _ _ => rfl)) (pv 10) (nomark _))) (fun _ _ _ _ _ => pv 15)) (pss_one (ps_if (pt_cmpR op_lt (pe_callB call_len_seq (by rfl) ml PySem.boot_len (pa_cons (pv 11) pa_nil)) (pe_callB call_len_seq (by rfl) ml PySem.boot_len (pa_cons (pe_dget (hu_of hr) (pv 4) (pv 10) (fun _ _ => rfl)) pa_nil)) (nomark _)) (pss_cons (ps_set (i := 12) scBlocks.nd rfl (.inl rfl) (pe_callB call_lenD (by rfl) ml PySem.boot_len (pa_cons (pv 4) pa_nil))) (pss_cons (ps_for PassesOwn.never rfl (pi_list (pv 11)) (pg_name (i := 2) scBlocks.nd rfl (.inl rfl)) (pss_one (ps_asg (pv 12) (pg_sub (pv 1) (pv 2) set_list)))) (pss_cons (ps_dput (hu_of hr) (pv 4) (pv 12) (pv 11) rfl) (pss_cons (ps_dput (hu_of hr) (pv 4) (pv 10) (pe_lc (own := [("at", 2)]) rfl scBlocks.nd (pi_list (pe_dget (hu_of hr) (pv 4) (pv 10) (fun _ _ => rfl))) (blkOk_by (own := [("at", 2)]) (N := nBlocks) (sc := defScope sBlocks) (by decide +kernel)) (fun _ _ _ _ _ => (pg_name (i := 2) scBlocks.nd rfl (.inl rfl))) (fun _ _ _ _ _ => pts_one (pt_cmpR op_eq (pe_ix (r := rIxL K) ix_list (pv 1) (pv 2) (fun _ _ => rfl)) (pv 10) (nomark _))) (fun _ _ _ _ _ => pv 2)) rfl) (pss_one (ps_expr (pe_bm PySem.F.plainAttrs_list PySem.F.slot_list_append PySem.F.type_list_append mt_append (pv 6) (pa_cons (pe_ifExp (PW.pt (pw_or (pt_cmpR op_in_seq (pv 10) (pv 6) (by rfl)) (pw_or1 (pt_cmpR op_le (pe_callB call_len_seq (by rfl) ml PySem.boot_len (pa_cons (pv 11) pa_nil)) (pe_callB call_len_seq (by rfl) ml PySem.boot_len (pa_cons (pe_dget (hu_of hr) (pv 4) (pv 10) (fun _ _ => rfl)) pa_nil)) (nomark _))))) (pv 12) (pv 10)) pa_nil)))))))) pss_nil)))))))))) (pss_one (ps_ret (pv 1))))))))), ?_⟩
    refine seq_asg ?_
    refine rd_column (K := K) (σ := L2.start nBlocks [.ref a]) (n := 0) (v := 13) rfl ha hR (by omega) (fun _ => rfl) (fun _ => rfl) fun bl H1 nbl s1 e1 => ?_
    refine seq_asg ?_
    refine rd_where (K := K) (c := 0) (s1 _ _ ha) (hR.same s1) (by omega) fun g0 H2 n0 s2 e2 => ?_
    refine seq_asg ?_
    refine fun gr ngr => ?_
    have s3 := same_fresh (o := .dK []) ngr
    have e3 : upd H2 gr (.dK []) gr = some (.dK []) := upd_same
    have s13 := s1.trans (s2.trans s3)
    generalize upd H2 gr (.dK []) = H3 at s3 e3 s13 ⊢
    refine ⟨_, rfl, ?_⟩
    refine pairs_c ?_
    refine rd_where (K := K) (c := 1) (s13 _ _ ha) (hR.same s13) (by omega) fun g1 H4 n1 s4 e4 => ⟨s4 _ _ e3, [(Sum.inl 0, .ref g0), (Sum.inl 1, .ref g1)], rfl, show 2 ≤ 15 by decide, ?_⟩
    have s14 := s13.trans s4
    have n_gr : H gr = none := (s1.trans s2).free ngr
    have e5 : upd H4 gr (.dK (mergeK [] [(Sum.inl 0, .ref g0), (Sum.inl 1, .ref g1)])) gr = some (.dK [(Sum.inl 0, .ref g0), (Sum.inl 1, .ref g1)]) := upd_same
    have s15 : Same H (upd H4 gr (.dK (mergeK [] [(Sum.inl 0, .ref g0), (Sum.inl 1, .ref g1)]))) := same_put s14 n_gr
    have gl : ∀ {p : Addr} {l : List V}, H4 p = some (.lst l) → upd H4 gr (.dK (mergeK [] [(Sum.inl 0, .ref g0), (Sum.inl 1, .ref g1)])) p = some (.lst l) := fun {p l} hp => by
      rw [upd_ne (ne_of hp (s4 _ _ e3) (by intro z; cases z))]
      exact hp
    have eg0 := gl (s4 _ _ (s3 _ _ e2))
    have eg1 := gl e4
    have ebl := gl (s4 _ _ (s3 _ _ (s2 _ _ e1)))
    refine seq_asg ?_
    generalize upd H4 gr (.dK (mergeK [] [(Sum.inl 0, .ref g0), (Sum.inl 1, .ref g1)])) = H5 at s15 e5 eg0 eg1 ebl ⊢
    refine ⟨_, rfl, a, as, R, rfl, s15 _ _ ha, hR.same s15, by omega, fun H6 sd s6 nsd hS => ?_⟩
    have s16 := s15.trans s6
    refine seq_asg ?_
    refine ⟨show 2 ≤ sizeLine by decide, fun wk nwk => ?_⟩
    have s7 := same_fresh (o := .lst [.int 0, .int 1]) nwk
    have e7 : upd H6 wk (.lst [.int 0, .int 1]) wk = some (.lst (natsV [0, 1])) := upd_same
    generalize upd H6 wk (.lst [.int 0, .int 1]) = H7 at s7 e7 ⊢
    have s67 := s6.trans s7
    have s17 := s15.trans s67
    have f0 : cut H7 bl gr wk g0 = some (.lst (natsV (whereN R R.length 0))) := by
      refine cut_some (s67 _ _ eg0) (fun z => ?_) (ne_of (s67 _ _ eg0) (s67 _ _ e5) (by intro z; cases z)) (fun z => ?_)
      · rw [z, e1] at n0
        cases n0
      · rw [← z, s6 _ _ eg0] at nwk
        cases nwk
    have f1 : cut H7 bl gr wk g1 = some (.lst (natsV (whereN R R.length 1))) := by
      refine cut_some (s67 _ _ eg1) (fun z => ?_) (ne_of (s67 _ _ eg1) (s67 _ _ e5) (by intro z; cases z)) (fun z => ?_)
      · rw [z, s3 _ _ (s2 _ _ e1)] at n1
        cases n1
      · rw [← z, s6 _ _ eg1] at nwk
        cases nwk
    have bw : bl ≠ wk := fun z => by
      rw [← z, s6 _ _ ebl] at nwk
      cases nwk
    have stc : BlkSt (cut H7 bl gr wk) H7 bl gr wk (R.map fun r => r.2.2) [(Sum.inl 0, .ref g0), (Sum.inl 1, .ref g1)] [0, 1] :=
      ⟨cut_same, cut_none (.inl rfl), cut_none (.inr (.inl rfl)), cut_none (.inr (.inr rfl)), s67 _ _ ebl, s67 _ _ e5, e7, bw⟩
    have sH : Same H (cut H7 bl gr wk) := fun b x h => cut_some (s17 _ _ h) (fun z => by rw [z, nbl] at h; cases h) (fun z => by rw [z, n_gr] at h; cases h) (fun z => by rw [z, s16.free nwk] at h; cases h)
    have hSc : SrcAt (cut H7 bl gr wk) sd R fun _ => R.length := by
      refine (hS.same s7).keep (fun b kvs h => ?_) (fun b l h => ?_)
      · exact cut_some h (fun z => by rw [z, s67 _ _ ebl] at h; cases h) (fun z => by rw [z, s67 _ _ e5] at h; cases h) (fun z => by rw [z, e7] at h; cases h)
      · exact cut_some h (fun z => by rw [z, s67 _ _ ebl] at h; cases h) (fun z => by rw [z, s67 _ _ e5] at h; cases h) (fun z => by rw [z, e7] at h; cases h)
    have gac : GrpAt (cut H7 bl gr wk) [(Sum.inl 0, .ref g0), (Sum.inl 1, .ref g1)] [whereN R R.length 0, whereN R R.length 1] := by
      refine ⟨rfl, fun k hk => ?_, fun k hk => ?_⟩
      · match k, hk with
        | 0, _ => exact ⟨g0, rfl, f0⟩
        | 1, _ => exact ⟨g1, rfl, f1⟩
      · have hk : 2 ≤ k := hk
        rw [valV_neg (fun z => by have := key_nat (a := 0).mp z; omega), valV_neg (fun z => by have := key_nat (a := 1).mp z; omega)]
        rfl
    have ivc : KM.HInv R (R.map fun r => r.2.2) [whereN R R.length 0, whereN R R.length 1] :=
      KM.hinv_start oR (List.length_map _) (fun i hi => ins_column hi) where_nodup where_nodup (fun i => mem_where) (fun i => mem_where)
    have exc : KM.Exc R (R.map fun r => r.2.2) [0, 1] (fun _ => False) [] := KM.exc_start oR (fun i hi => ins_column hi) _ _
    have l0 := whereN_len R R.length 0
    have l1 := whereN_len R R.length 1
    have boc : BOk [whereN R R.length 0, whereN R R.length 1] [0, 1] := by
      refine ⟨?_, ?_, fun c hc => ?_⟩
      · simp only [KM.wt, List.length_cons, List.length_nil]
        omega
      · simp only [KM.mu, KM.wt, List.length_cons, List.length_nil]
        omega
      · simp at hc
        show c < 2
        omega
    generalize cut H7 bl gr wk = Hf at stc sH hSc gac
    refine ⟨fun n σ H' => ∃ Hf' x2 x7 x8 x9 x10 x11 x12 B kvs G W, σ = stB (some (.ref a)) bl x2 (some (.ref g0)) gr sd wk x7 x8 x9 x10 x11 x12 ∧ Same Hf Hf' ∧ BlkSt Hf' H' bl gr wk B kvs W ∧ GrpAt Hf' kvs G ∧ KM.HInv R B G ∧ KM.Exc R B W (fun _ => False) [] ∧ BOk G W ∧ n = KM.mu G W,
      ⟨_, Hf, none, none, none, none, none, none, none, _, _, _, _, rfl, Same.refl _, stc, gac, ivc, exc, boc, rfl⟩, fun n σ H' hW => ?_⟩
    obtain ⟨Hf', x2, x7, x8, x9, x10, x11, x12, B, kvs, G, W, rfl, sf, st, ga, iv, ex, bo, rfl⟩ := hW
    refine ⟨_, rfl, Nat.zero_le _, fun em nem => ?_⟩
    have sem := same_fresh (o := .lst []) nem
    have eem : upd H' em (.lst []) em = some (.lst []) := upd_same
    generalize upd H' em (.lst []) = H8 at sem eem ⊢
    obtain ⟨st8, sf8, _⟩ := st.on sem nem eem
    have ga8 := ga.same sf8
    have sf8 := sf.trans sf8
    generalize upd Hf' em (.lst []) = Hf8 at st8 sf8 ga8
    refine ⟨_, _, .lst (SqL.of st8.ew) (dp_nats W), .lst (SqL.of eem) .nil, shaped_nats W, shaped_nats [], _, rfl, ?_⟩
    have ee : PyData.eqv (.list (W.map natD)) (.list []) = decide (W = []) := (eqv_list _ _).trans (eqv_nats W [])
    rw [ee]
    have hWW : W = [] ∨ ∃ W0 c, W = W0 ++ [c] := by
      rcases List.eq_nil_or_concat W with h | ⟨a, b, h⟩
      · exact .inl h
      · exact .inr ⟨a, b, by rw [h, List.concat_eq_append]⟩
    rcases hWW with rfl | ⟨W0, c, rfl⟩
    · rw [decide_eq_true rfl]
      refine iteF ⟨_, rfl, q H8 bl B ((sH.trans sf8).trans st8.same) nbl ⟨iv.len, fun i j hi hj => KM.blocks_end oR iv ex hi hj⟩ st8.eb⟩
    · rw [decide_eq_false (by simp)]
      refine iteT ?_
      have hc : c < G.length := bo.2.2 c (List.mem_append_right _ (List.mem_singleton.mpr rfl))
      have ePop : (natsV (W0 ++ [c]))[(natsV (W0 ++ [c])).length - 1]? = some (natV c) := by
        rw [natsV_snoc, List.length_append, List.length_singleton, Nat.add_sub_cancel, List.getElem?_append_right (Nat.le_refl _), Nat.sub_self]
        rfl
      have eDrop : (natsV (W0 ++ [c])).dropLast = natsV W0 := by rw [natsV_snoc, List.dropLast_concat]
      have muP : KM.mu G (W0 ++ [c]) = KM.mu G W0 + 1 := KM.mu_pop
      have st9 := st8.setW W0
      obtain ⟨tg, etg, htg⟩ := ga8.2.1 c hc
      refine ⟨fun σ' H'' => ∃ Hf' x2 x7 x8 x9 x10 x11 x12 B kvs G' W', σ' = stB (some (.ref a)) bl x2 (some (.ref g0)) gr sd wk x7 x8 x9 x10 x11 x12 ∧ Same Hf Hf' ∧ BlkSt Hf' H'' bl gr wk B kvs W' ∧ GrpAt Hf' kvs G' ∧ KM.HInv R B G' ∧ KM.Exc R B W' (fun _ => False) [] ∧ BOk G' W' ∧ KM.mu G' W' < KM.mu G (W0 ++ [c]),
        fun σ' H'' ⟨z1, z2, z3, z4, z5, z6, z7, z8, z9, z10, z11, z12, y1, y2, y3, y4, y5, y6, y7, y8⟩ => ⟨_, y8, z1, z2, z3, z4, z5, z6, z7, z8, z9, z10, z11, z12, y1, y2, y3, y4, y5, y6, y7, rfl⟩, ?_⟩
      refine seq_asg ?_
      refine ⟨_, rfl, _, rfl, .inl ⟨rfl, _, SqL.of st8.ew⟩, wk, _, natV c, rfl, rfl, st8.ew, ePop, ?_⟩
      rw [eDrop]
      refine ⟨gr, _, rfl, etg ▸ DGet.k (k := Sum.inl (c : Int)) st9.eg, ?_⟩
      generalize upd H8 wk (.lst (natsV W0)) = H9 at st9 ⊢
      refine ⟨show 2 ≤ sizeLine by decide, fun U nU => ?_⟩
      have sU := same_fresh (o := .tup [bitV false, bitV true]) nU
      have eU : (upd H9 U (.tup [bitV false, bitV true])) U = some (.tup [bitV false, bitV true]) := upd_same
      obtain ⟨stU, sfU, eU'⟩ := st9.on sU nU eU
      have gaU := ga8.same sfU
      have htU := sfU _ _ htg
      have hSU := (hSc.same sf8).same sfU
      have sfU := sf8.trans sfU
      have eU2 : Hp := upd H9 U (.tup [.int 0, .int 1])
      generalize eHU : upd H9 U (.tup [bitV false, bitV true]) = HU at sU eU stU
      have eHU' : upd H9 U (.tup [.int 0, .int 1]) = HU := eHU
      rw [eHU']
      generalize upd Hf8 U _ = HfU at stU sfU eU' gaU htU hSU
      have gS : ∀ i, i ∈ G.getD c [] → i < R.length := fun i hi => ((iv.mem c hc i).mp hi).1
      have gN := iv.nd c hc
      have lT : (G.getD c []).length ≤ R.length := KM.nodup_bound gN gS
      have clT := KM.closed_grp iv hc
      have exP := KM.exc_pop oR iv hc ex
      generalize G.getD c [] = T at htU gS gN lT clT exP
      have boP : BOk G W0 := ⟨bo.1, by have := bo.2.1; omega, fun x hx => bo.2.2 x (List.mem_append_left _ hx)⟩
      refine ⟨U, rfl, ⟨_, .inl (.inl eU)⟩, for_tup (K := K) (a := U) (xs := [bitV false, bitV true]) (fun i σ H2 => ∃ Hf' x2 x8 x9 x10 x11 x12 B kvs G' W', σ = stB (some (.ref a)) bl x2 (some (.ref g0)) gr sd wk (some (.ref tg)) x8 x9 x10 x11 x12 ∧ Same HfU Hf' ∧ BlkSt Hf' H2 bl gr wk B kvs W' ∧ GrpAt Hf' kvs G' ∧ KM.HInv R B G' ∧
          KM.Exc R B W' (fun b => i ≤ (if b = true then 1 else 0)) T ∧ BOk G' W' ∧ KM.mu G' W' ≤ KM.mu G W0) ?_ ?_ ?_ ?_⟩
      · exact ⟨HfU, x2, x8, x9, x10, x11, x12, B, kvs, G, W0, rfl, Same.refl _, stU, gaU, iv, exc_op exP fun b _ => ⟨Nat.zero_le _, rfl⟩, boP, Nat.le_refl _⟩
      · rintro i σ H2 _ ⟨Hf', y2, y8, y9, y10, y11, y12, B', kvs', G', W', rfl, s', st', _⟩
        exact .inl (.inl (st'.same _ _ (s' _ _ eU')))
      · rintro i x σ H2 hi ⟨Hf', y2, y8, y9, y10, y11, y12, B', kvs', G', W', rfl, s', st', ga', iv', ex', bo', mu'⟩
        obtain ⟨d, rfl, ed⟩ : ∃ b, x = bitV b ∧ (if b = true then 1 else 0 : Nat) = i := by
          match i, hi with
          | 0, hi => exact ⟨false, (Option.some.inj hi).symm, rfl⟩
          | 1, hi => exact ⟨true, (Option.some.inj hi).symm, rfl⟩
        refine rd_dig (K := K) (w := w) (R := R) (T := T) (d := d) oR hlen st' ga' (s' _ _ htU) (hSU.same s') lT gN clT iv' ex' bo' fun Hf'' H'' z2 z9 z10 z11 z12 B'' kvs'' G'' W'' s'' st'' ga'' iv'' ex'' mu'' bo'' => ?_
        refine ⟨Hf'', z2, _, z9, z10, z11, z12, B'', kvs'', G'', W'', rfl, s'.trans s'', st'', ga'', iv'', exc_op ex'' fun b z => ⟨?_, rfl⟩, bo'', Nat.le_trans mu'' mu'⟩
        obtain ⟨z1, z2⟩ := z
        subst ed
        revert z1 z2
        cases b <;> cases d <;> simp
      · rintro σ H2 ⟨Hf', y2, y8, y9, y10, y11, y12, B', kvs', G', W', rfl, s', st', ga', iv', ex', bo', mu'⟩
        refine ⟨Hf', y2, _, y8, y9, y10, y11, y12, B', kvs', G', W', rfl, sfU.trans s', st', ga', iv', exc_op ex' fun b z => ?_, bo', by omega⟩
        exfalso
        revert z
        cases b <;> simp
end
end K35
namespace K35
open PySem PySem.Spec PyProof.Rows L2 KR
/-! ## lists that a comprehension builds -/
theorem upd_twice {H : Hp} {p : Addr} {a b : HO} : upd (upd H p a) p b = upd H p b := funext fun x => by
  by_cases h : x = p
  · subst h
    rw [upd_same, upd_same]
  · rw [upd_ne h, upd_ne h, upd_ne h]
theorem upd_own {H : Hp} {p : Addr} {a : HO} (h : H p = some a) : upd H p a = H := funext fun x => by
  by_cases e : x = p
  · subst e
    rw [upd_same, h]
  · rw [upd_ne e]
theorem rd_build {J : It} {n : Nat} {G : Hp → Prop} {Y : Nat → Hp → V → Hp → Prop} (wk : Walk J n G Y) {wi : TI} {g : TG} {te : TE} {vs : List Nat} {σ : L2.St} {H1 : Hp} {Q : VK} (E : Nat → V → Hp → Prop) (mono : ∀ i v H H', Same H H' → E i v H → E i v H')
    (hw : ∀ Rr, Rr J H1 → wi σ H1 Rr) (hG : ∀ H', Same H1 H' → G H') (hn : n ≤ 1000)
    (hs : ∀ D i x H2 H3 (k : VK), i < n → H1 D = none → Same H1 H2 → (∃ l, H2 D = some (.lst l)) → Y i H2 x H3 → (∀ y H4, Same H2 H4 → (∀ l', E i y (upd H4 D (.lst l'))) → k y H4) → g x (wipe σ vs) H3 fun σ2 H4 => wipe σ2 vs = wipe σ vs ∧ te σ2 H4 k)
    (q : ∀ D H' ys, H1 D = none → Same H1 H' → H' D = some (.lst ys) → ys.length = n → (∀ i, i < n → ∃ v, ys[i]? = some v ∧ E i v H') → Q (.ref D) H') : tLc wi g tYes te vs σ H1 Q := by
  refine hw _ fun D nD => lc_it wk (fun i H' => Same H1 H' ∧ ∃ acc, H' D = some (.lst acc) ∧ acc.length = i ∧ ∀ j, j < i → ∃ v, acc[j]? = some v ∧ ∀ l', E j v (upd H' D (.lst l'))) ?_ ?_ ?_ ?_
  · exact ⟨same_fresh nD, [], upd_same, rfl, fun j hj => absurd hj (Nat.not_lt_zero j)⟩
  · exact fun i H' _ h => hG H' h.1
  · rintro i x H2 H3 hi ⟨sm, acc, eD, la, hE⟩ hy
    refine hs D i x H2 H3 _ hi nD sm ⟨_, eD⟩ hy fun y H4 s4 e4 => ?_
    refine ⟨acc, s4 _ _ eD, ?_, ?_⟩
    · exact small_line (m := 1000) (by omega) (by decide)
    · refine ⟨same_put (sm.trans s4) nD, acc ++ [y], upd_same, by rw [List.length_append, la]; rfl, fun j hj => ?_⟩
      rcases Nat.lt_or_ge j i with lt | ge
      · obtain ⟨v, h1, h2⟩ := hE j lt
        refine ⟨v, ?_, fun l' => ?_⟩
        · rw [List.getElem?_append_left (by omega)]
          exact h1
        · rw [upd_twice]
          exact mono _ _ _ _ (same_two s4) (h2 l')
      · have e : j = acc.length := by omega
        refine ⟨y, ?_, fun l' => ?_⟩
        · rw [e, List.getElem?_append_right (Nat.le_refl _), Nat.sub_self]
          rfl
        · rw [upd_twice]
          have e2 : j = i := by omega
          subst e2
          exact e4 l'
  · rintro H' ⟨sm, acc, eD, la, hE⟩
    refine q D H' acc nD sm eD la fun i hi => ?_
    obtain ⟨v, h1, h2⟩ := hE i hi
    refine ⟨v, h1, ?_⟩
    have := h2 acc
    rwa [upd_own eD] at this
section
variable {K : PySem.W.Frag}
/-- a comprehension of rows -/
theorem rd_rows {J : It} {n : Nat} {G : Hp → Prop} {Y : Nat → Hp → V → Hp → Prop} (wk : Walk J n G Y) {wi : TI} {g : TG} {te : TE} {vs : List Nat} {σ : L2.St} {H1 : Hp} {Q : VK} (T : KM.Rows) (hT : T.length = n)
    (hw : ∀ Rr, Rr J H1 → wi σ H1 Rr) (hG : ∀ H', Same H1 H' → G H') (hn : n ≤ 1000)
    (hs : ∀ i x H2 H3 (k : VK), i < n → Same H1 H2 → Y i H2 x H3 → (∀ p H4, Same H2 H4 → H4 p = some (.tup (rowV (KM.rowAt T i))) → k (.ref p) H4) → g x (wipe σ vs) H3 fun σ2 H4 => wipe σ2 vs = wipe σ vs ∧ te σ2 H4 k)
    (q : ∀ D H' ys, H1 D = none → Same H1 H' → H' D = some (.lst ys) → RowsT K H' ys T → Q (.ref D) H') : tLc wi g tYes te vs σ H1 Q := by
  refine rd_build wk (fun i v H => ∃ p, v = .ref p ∧ H p = some (.tup (rowV (KM.rowAt T i)))) ?_ hw hG hn ?_ ?_
  · rintro i v H H' s ⟨p, e, h⟩
    exact ⟨p, e, s _ _ h⟩
  · rintro D i x H2 H3 k hi nD sm ⟨l, el⟩ hy kk
    refine hs i x H2 H3 k hi sm hy fun p H4 s4 e4 => kk _ _ s4 fun l' => ⟨p, rfl, ?_⟩
    rw [upd_ne (ne_of e4 (s4 _ _ el) (by intro z; cases z))]
    exact e4
  · rintro D H' ys nD sm eD ly hE
    refine q D H' ys nD sm eD ⟨by rw [ly, hT], fun i hi => ?_⟩
    obtain ⟨v, h1, p, rfl, h2⟩ := hE i (by omega)
    exact ⟨p, h1, h2⟩
/-- a comprehension of numbers -/
theorem rd_nats {J : It} {n : Nat} {G : Hp → Prop} {Y : Nat → Hp → V → Hp → Prop} (wk : Walk J n G Y) {wi : TI} {g : TG} {te : TE} {vs : List Nat} {σ : L2.St} {H1 : Hp} {Q : VK} (T : List Nat) (hT : T.length = n)
    (hw : ∀ Rr, Rr J H1 → wi σ H1 Rr) (hG : ∀ H', Same H1 H' → G H') (hn : n ≤ 1000)
    (hs : ∀ i x H2 H3 (k : VK), i < n → Same H1 H2 → Y i H2 x H3 → (∀ H4, Same H2 H4 → k (natV (T.getD i 0)) H4) → g x (wipe σ vs) H3 fun σ2 H4 => wipe σ2 vs = wipe σ vs ∧ te σ2 H4 k)
    (q : ∀ D H', H1 D = none → Same H1 H' → H' D = some (.lst (natsV T)) → Q (.ref D) H') : tLc wi g tYes te vs σ H1 Q := by
  refine rd_build wk (fun i v _ => v = natV (T.getD i 0)) (fun i v H H' _ h => h) hw hG hn ?_ ?_
  · rintro D i x H2 H3 k hi nD sm ⟨l, el⟩ hy kk
    exact hs i x H2 H3 k hi sm hy fun H4 s4 => kk _ _ s4 fun _ => rfl
  · rintro D H' ys nD sm eD ly hE
    refine q D H' nD sm ?_
    rw [eD]
    congr 2
    refine List.ext_getElem? fun i => ?_
    rcases Nat.lt_or_ge i n with lt | ge
    · obtain ⟨v, h1, rfl⟩ := hE i lt
      rw [h1, natsV_get (by omega)]
    · rw [List.getElem?_eq_none (by omega), List.getElem?_eq_none (by rw [natsV_len]; omega)]
end
theorem next_of {D : Ends} {σ : L2.St} {H : Hp} (h : D.nx σ H) : tNext D σ H := h
theorem seq_of {t u : TS} {D : Ends} {σ : L2.St} {H : Hp} (h : t { D with nx := u D } σ H) : tSeq t u D σ H := h
section
variable {K : PySem.W.Frag} {a : Addr} {xs : List V} {σ : L2.St} {H Hf : Hp} {i : Nat}
theorem sq_forF {g : TG} {tb : TS} {D : Ends} (hv : σ[i]? = some (some (.ref a))) (h : Sq K Hf a xs) (Pv : Nat → L2.St → Hp → Prop) (h0 : Pv 0 σ H) (hG : ∀ j σ' H', Pv j σ' H' → Same Hf H')
    (hs : ∀ j x σ' H', xs[j]? = some x → Pv j σ' H' → g x σ' H' fun σ2 H2 => tb { D with nx := Pv (j + 1), ct := Pv (j + 1), bk := D.nx } σ2 H2) (hd : ∀ σ' H', Pv xs.length σ' H' → D.nx σ' H') : tFor (iSq K (tVar i)) g tb D σ H := by
  have s0 := hG _ _ _ h0
  rcases h with h | h
  · exact .inl ⟨_, hv, a, rfl, ⟨_, s0.seq h⟩, for_list (K := K) (a := a) (xs := xs) Pv h0 (fun j σ' H' _ p => (hG j σ' H' p).seq h) hs hd⟩
  · exact .inr ⟨_, hv, a, rfl, ⟨_, same_tup s0 h⟩, for_tup (K := K) (a := a) (xs := xs) Pv h0 (fun j σ' H' _ p => same_tup (hG j σ' H' p) h) hs hd⟩
end
section
variable {K : PySem.W.Frag} {a : Addr} {xs : List V} {σ : L2.St} {H1 : Hp} {i : Nat}
/-- a comprehension over a list or a tuple -/
theorem rd_sqbuild {g : TG} {te : TE} {vs : List Nat} {Q : VK} (E : Nat → V → Hp → Prop) (mono : ∀ i v H H', Same H H' → E i v H → E i v H') (hv : σ[i]? = some (some (.ref a))) (h : Sq K H1 a xs) (hn : xs.length ≤ 1000)
    (hs : ∀ D j x H2 (k : VK), j < xs.length → xs[j]? = some x → H1 D = none → Same H1 H2 → (∃ l, H2 D = some (.lst l)) → (∀ y H4, Same H2 H4 → (∀ l', E j y (upd H4 D (.lst l'))) → k y H4) → g x (wipe σ vs) H2 fun σ2 H4 => wipe σ2 vs = wipe σ vs ∧ te σ2 H4 k)
    (q : ∀ D H' ys, H1 D = none → Same H1 H' → H' D = some (.lst ys) → ys.length = xs.length → (∀ j, j < xs.length → ∃ v, ys[j]? = some v ∧ E j v H') → Q (.ref D) H') : tLc (iSq K (tVar i)) g tYes te vs σ H1 Q := by
  have hs' : ∀ D j x H2 H3 (k : VK), j < xs.length → H1 D = none → Same H1 H2 → (∃ l, H2 D = some (.lst l)) → YAt xs j H2 x H3 → (∀ y H4, Same H2 H4 → (∀ l', E j y (upd H4 D (.lst l'))) → k y H4) → g x (wipe σ vs) H3 fun σ2 H4 => wipe σ2 vs = wipe σ vs ∧ te σ2 H4 k := by
    rintro D j x H2 H3 k hj nD sm el ⟨rfl, hy⟩ kk
    exact hs D j x H3 k hj hy nD sm el kk
  rcases h with h | h
  · exact rd_build (walk_list (K := K) (a := a) (xs := xs)) (wi := iSq K (tVar i)) E mono (fun Rr r => .inl ⟨_, hv, a, rfl, ⟨_, h⟩, r⟩) (fun H' s => s.seq h) hn hs' q
  · exact rd_build (walk_tup (K := K) (a := a) (xs := xs)) (wi := iSq K (tVar i)) E mono (fun Rr r => .inr ⟨_, hv, a, rfl, ⟨_, h⟩, r⟩) (fun H' s => same_tup s h) hn hs' q
end
/-! ## numbers by a dict -/
/-- the dict of the first places -/
def IdxK (kvs : List (Key × V)) (F : List Nat) : Prop := kvs.length ≤ F.length ∧ (∀ x, x ∈ F → valV kvs (Sum.inl ((x : Nat) : Int)) = some (natV (F.idxOf x))) ∧ ∀ x : Nat, x ∉ F → valV kvs (Sum.inl ((x : Nat) : Int)) = none
theorem IdxK.nil : IdxK [] [] := ⟨Nat.le_refl _, fun x h => absurd h (by simp), fun x _ => rfl⟩
theorem IdxK.put {kvs : List (Key × V)} {F : List Nat} (h : IdxK kvs F) {x : Nat} (hx : x ∉ F) : IdxK (putK kvs (Sum.inl ((x : Nat) : Int)) (natV F.length)) (F ++ [x]) := by
  refine ⟨?_, fun y hy => ?_, fun y hy => ?_⟩
  · have := length_putK kvs (Sum.inl ((x : Nat) : Int) : Key) (natV F.length)
    rw [List.length_append, List.length_singleton]
    have := h.1
    omega
  · rw [valV_put]
    by_cases e : y = x
    · subst e
      rw [if_pos rfl, List.idxOf_append, if_neg hx]
      simp
    · have hy' : y ∈ F := by
        rcases List.mem_append.mp hy with z | z
        · exact z
        · exact absurd (List.mem_singleton.mp z) e
      rw [if_neg (fun z => e (key_nat.mp z)), h.2.1 y hy', List.idxOf_append, if_pos hy']
  · rw [valV_put]
    have e : y ≠ x := fun z => hy (List.mem_append_right _ (List.mem_singleton.mpr z))
    rw [if_neg (fun z => e (key_nat.mp z))]
    exact h.2.2 y fun z => hy (List.mem_append_left _ z)
theorem IdxK.keep {kvs : List (Key × V)} {F : List Nat} (h : IdxK kvs F) {x : Nat} (hx : x ∈ F) : IdxK kvs (F ++ [x]) := by
  refine ⟨?_, fun y hy => ?_, fun y hy => h.2.2 y fun z => hy (List.mem_append_left _ z)⟩
  · rw [List.length_append]
    have := h.1
    omega
  · have hy' : y ∈ F := by
      rcases List.mem_append.mp hy with z | z
      · exact z
      · rw [List.mem_singleton.mp z]
        exact hx
    rw [h.2.1 y hy', List.idxOf_append, if_pos hy']
end K35
namespace K35
open PySem PySem.Spec PyProof.Rows L2 KR
/-! ## least_rows: readings of its parts -/
section
variable {K : PySem.W.Frag}
/-- [(d[rows[old][0]], d[rows[old][1]], rows[old][2]) for old in order] -/
def tRenum (K : PySem.W.Frag) (m n : Nat) : TE :=
  tLc (iList K (tVar 2)) (gName 5) tYes (tTup (tCons (tDGet (tVar n) (tOp (rIxT K) (tOp (rIxL K) (tVar m) (tVar 5)) (tC (V.int 0))))
    (tCons (tDGet (tVar n) (tOp (rIxT K) (tOp (rIxL K) (tVar m) (tVar 5)) (tC (V.int 1)))) (tCons (tOp (rIxT K) (tOp (rIxL K) (tVar m) (tVar 5)) (tC (V.int 2))) tNil)))) [5]
theorem rd_renum {σ : L2.St} {H1 : Hp} {Q : VK} {m n : Nat} {a o d : Addr} {as : List V} {R : KM.Rows} {F : List Nat} {kvs : List (Key × V)} (e2 : σ[2]? = some (some (.ref o)))
    (em : ∀ y, ((wipe σ [5]).set 5 y)[m]? = some (some (.ref a))) (en : ∀ y, ((wipe σ [5]).set 5 y)[n]? = some (some (.ref d))) (e5 : ∀ y, ((wipe σ [5]).set 5 y)[5]? = some y) (ew : ∀ y, wipe ((wipe σ [5]).set 5 y) [5] = wipe σ [5])
    (ho : H1 o = some (.lst (natsV F))) (ha : H1 a = some (.lst as)) (hd : H1 d = some (.dK kvs)) (hR : RowsT K H1 as R) (hk : IdxK kvs F) (hF : ∀ x, x ∈ F → x < R.length) (hc : ∀ x, x ∈ F → ∀ b, KM.to R x b ∈ F) (hl : F.length ≤ 1000)
    (q : ∀ D H' ys, H1 D = none → Same H1 H' → H' D = some (.lst ys) → RowsT K H' ys (KM.relabel R F) → Q (.ref D) H') : tRenum K m n σ H1 Q := by
  unfold tRenum
  refine rd_rows (K := K) (walk_list (K := K) (a := o) (xs := natsV F)) (KM.relabel R F) (by rw [KM.relabel_len, natsV_len]) (fun Rr r => ⟨_, e2, o, rfl, ⟨_, SqL.of ho⟩, r⟩) (fun H' s => SqL.of (s _ _ ho)) (by rw [natsV_len]; exact hl) ?_ q
  rintro i x H2 H3 k hi sm ⟨rfl, hy⟩ kk
  rw [natsV_len] at hi
  have ey : x = natV (F.getD i 0) := Option.some.inj (hy.symm.trans (natsV_get hi))
  subst ey
  have hm : F.getD i 0 ∈ F := KM.getD_mem hi 0
  obtain ⟨p, ep, tp⟩ := hR.2 _ (hF _ hm)
  have c0 := hk.2.1 _ (hc _ hm false)
  have c1 := hk.2.1 _ (hc _ hm true)
  have hA : SqL K H3 a as := SqL.of (sm _ _ ha)
  have hP : SqT K H3 p (rowV (KM.rowAt R (F.getD i 0))) := .inl (.inl (sm _ _ tp))
  refine ⟨ew _, ?_⟩
  refine ⟨_, en _, _, em _, _, e5 _, a, _, _, _, rfl, rfl, hA, atI_nat ep, p, _, _, _, rfl, rfl, hP, atI_nat (j := 0) (row_0 _), d, _, rfl, c0 ▸ DGet.k (k := Sum.inl ((KM.to R (F.getD i 0) false : Nat) : Int)) (sm _ _ hd),
    _, en _, _, em _, _, e5 _, a, _, _, _, rfl, rfl, hA, atI_nat ep, p, _, _, _, rfl, rfl, hP, atI_nat (j := 1) (row_1 _), d, _, rfl, c1 ▸ DGet.k (k := Sum.inl ((KM.to R (F.getD i 0) true : Nat) : Int)) (sm _ _ hd),
    _, em _, _, e5 _, a, _, _, _, rfl, rfl, hA, atI_nat ep, p, _, _, _, rfl, rfl, hP, atI_nat (j := 2) (row_2 _), show 3 ≤ sizeLine by decide, fun T nT => ?_⟩
  refine kk T _ (same_fresh nT) ?_
  rw [upd_same, KM.relabel_at hi]
  rfl
/-- [(member[block[row[0]]], member[block[row[1]]], row[2]) for row in kept] -/
def tSmall (K : PySem.W.Frag) : TE :=
  tLc (iList K (tVar 6)) (gName 12) tYes (tTup (tCons (tDGet (tVar 8) (tOp (rIxL K) (tVar 7) (tOp (rIxT K) (tVar 12) (tC (V.int 0)))))
    (tCons (tDGet (tVar 8) (tOp (rIxL K) (tVar 7) (tOp (rIxT K) (tVar 12) (tC (V.int 1))))) (tCons (tOp (rIxT K) (tVar 12) (tC (V.int 2))) tNil)))) [12]
theorem rd_small {H1 : Hp} {Q : VK} {a b d : Addr} {as : List V} {R : KM.Rows} {B : List Nat} {kvs : List (Key × V)} {x0 x1 x2 x3 x4 x5 x9 x10 x11 x12 : Option V}
    (ha : H1 a = some (.lst as)) (hb : H1 b = some (.lst (natsV B))) (hd : H1 d = some (.dK kvs)) (hR : RowsT K H1 as R) (hk : IdxK kvs B) (oR : KM.OkR R) (hB : B.length = R.length) (hl : R.length ≤ 1000)
    (q : ∀ D H' ys, H1 D = none → Same H1 H' → H' D = some (.lst ys) → RowsT K H' ys (KM.small R B) → Q (.ref D) H') : tSmall K [x0, x1, x2, x3, x4, x5, some (.ref a), some (.ref b), some (.ref d), x9, x10, x11, x12] H1 Q := by
  unfold tSmall
  refine rd_rows (K := K) (walk_list (K := K) (a := a) (xs := as)) (KM.small R B) (by rw [KM.small_len, hR.1]) (fun Rr r => ⟨_, rfl, a, rfl, ⟨_, SqL.of ha⟩, r⟩) (fun H' s => SqL.of (s _ _ ha)) (by rw [hR.1]; exact hl) ?_ q
  rintro i x H2 H3 k hi sm ⟨rfl, hy⟩ kk
  rw [hR.1] at hi
  obtain ⟨p, ep, tp⟩ := hR.2 _ hi
  rw [ep] at hy
  cases hy
  obtain ⟨o0, o1, _⟩ := oR i hi
  have g0 : (natsV B)[(KM.rowAt R i).1]? = some (natV (B.getD (KM.rowAt R i).1 0)) := natsV_get (by omega)
  have g1 : (natsV B)[(KM.rowAt R i).2.1]? = some (natV (B.getD (KM.rowAt R i).2.1 0)) := natsV_get (by omega)
  have c0 := hk.2.1 _ (KM.getD_mem (l := B) (i := (KM.rowAt R i).1) (by omega) 0)
  have c1 := hk.2.1 _ (KM.getD_mem (l := B) (i := (KM.rowAt R i).2.1) (by omega) 0)
  have hP : SqT K H3 p (rowV (KM.rowAt R i)) := .inl (.inl (sm _ _ tp))
  have hBl : SqL K H3 b (natsV B) := SqL.of (sm _ _ hb)
  refine ⟨rfl, ?_⟩
  refine ⟨_, rfl, _, rfl, _, rfl, p, _, _, _, rfl, rfl, hP, atI_nat (j := 0) (row_0 _), b, _, _, _, rfl, rfl, hBl, atI_nat g0, d, _, rfl, c0 ▸ DGet.k (k := Sum.inl ((B.getD (KM.rowAt R i).1 0 : Nat) : Int)) (sm _ _ hd),
    _, rfl, _, rfl, _, rfl, p, _, _, _, rfl, rfl, hP, atI_nat (j := 1) (row_1 _), b, _, _, _, rfl, rfl, hBl, atI_nat g1, d, _, rfl, c1 ▸ DGet.k (k := Sum.inl ((B.getD (KM.rowAt R i).2.1 0 : Nat) : Int)) (sm _ _ hd),
    _, rfl, p, _, _, _, rfl, rfl, hP, atI_nat (j := 2) (row_2 _), show 3 ≤ sizeLine by decide, fun T nT => ?_⟩
  refine kk T _ (same_fresh nT) ?_
  rw [upd_same, KM.small_at hi]
  rfl
/-- for at, old in enumerate(order): d[old] = at -/
def tNumber (K : PySem.W.Frag) (n : Nat) : TS := tFor (iEnum K (tCons (tVar 2) tNil)) (gTup K 2 (gCons (gName 4) (gCons (gName 5) gNil))) (sDPut (tVar n) (tVar 5) (tVar 4))
theorem rd_number {D : Ends} {Hf H1 : Hp} {n : Nat} {o d : Addr} {F : List Nat} {x0 x1 x3 x4 x5 x6 x7 x8 x9 x10 x11 x12 : Option V} (en : ∀ y4 y5 : Option V, ([x0, x1, some (.ref o), x3, y4, y5, x6, x7, x8, x9, x10, x11, x12] : L2.St)[n]? = some (some (.ref d)))
    (sf : Same Hf H1) (nd : Hf d = none) (ho : Hf o = some (.lst (natsV F))) (hd : H1 d = some (.dK [])) (hn : F.Nodup) (hl : F.length ≤ 1000)
    (q : ∀ y4 y5 H' kvs, Same Hf H' → H' d = some (.dK kvs) → IdxK kvs F → D.nx [x0, x1, some (.ref o), x3, y4, y5, x6, x7, x8, x9, x10, x11, x12] H') :
    tNumber K n D [x0, x1, some (.ref o), x3, x4, x5, x6, x7, x8, x9, x10, x11, x12] H1 := by
  unfold tNumber
  refine ⟨_, rfl, o, _, rfl, SqL.of (sf _ _ ho), for_enum (xs := natsV F) (fun j σ H' => ∃ y4 y5 kvs, σ = [x0, x1, some (.ref o), x3, y4, y5, x6, x7, x8, x9, x10, x11, x12] ∧ Same Hf H' ∧ H' d = some (.dK kvs) ∧ IdxK kvs (F.take j)) ?_ ?_ ?_ ?_⟩
  · exact ⟨x4, x5, [], rfl, sf, hd, IdxK.nil⟩
  · rintro j σ H' ⟨_, _, _, _, sm, _⟩
    exact SqL.of (sm _ _ ho)
  · rintro j x σ H' T e2 nT ⟨y4, y5, kvs, rfl, sm, ed, ik⟩
    have hj : j < F.length := by
      have := (List.getElem?_eq_some_iff.mp e2).1
      rwa [natsV_len] at this
    have ey : x = natV (F.getD j 0) := Option.some.inj (e2.symm.trans (natsV_get hj))
    subst ey
    have s1 := same_fresh (o := .tup [.int (j : Nat), natV (F.getD j 0)]) nT
    have eT : (upd H' T (.tup [.int (j : Nat), natV (F.getD j 0)])) T = some (.tup [.int (j : Nat), natV (F.getD j 0)]) := upd_same
    generalize upd H' T (.tup [.int (j : Nat), natV (F.getD j 0)]) = H3 at s1 eT ⊢
    have sm3 := sm.trans s1
    have hx : F.getD j 0 ∉ F.take j := fun z => by
      obtain ⟨i, hi, e⟩ := KM.mem_getD z 0
      rw [List.length_take] at hi
      have e' : (F.take j).getD i 0 = F.getD i 0 := by
        rw [List.getD_eq_getElem?_getD, List.getD_eq_getElem?_getD, List.getElem?_take_of_lt (by omega)]
      rw [e'] at e
      have := KM.nodup_inj hn (i := i) (j := j) (by omega) hj e
      omega
    have kl := ik.1
    rw [List.length_take] at kl
    have lt : (F.take j).length = j := by
      rw [List.length_take]
      omega
    refine ⟨T, _, rfl, .inl (.inl eT), rfl, _, _, rfl, _, _, rfl, rfl, ?_⟩
    refine ⟨_, rfl, _, en _ _, _, rfl, d, _, rfl, DPut.k (k := Sum.inl ((F.getD j 0 : Nat) : Int)) (s1 _ _ ed) (small_line (m := 1000) (by omega) (by decide)), ?_⟩
    refine ⟨_, _, _, rfl, same_put sm3 nd, upd_same, ?_⟩
    have := ik.put hx
    rw [lt, ← take_next hj] at this
    exact this
  · rintro σ H' ⟨y4, y5, kvs, rfl, sm, ed, ik⟩
    rw [natsV_len, List.take_of_length_le (Nat.le_refl _)] at ik
    exact q y4 y5 H' kvs sm ed ik
/-- for at, name in enumerate(block): member.setdefault(name, at) -/
def tMember (K : PySem.W.Frag) : TS := tFor (iEnum K (tCons (tVar 7) tNil)) (gTup K 2 (gCons (gName 4) (gCons (gName 9) gNil))) (tDrop (tDSetd (tVar 8) (tVar 9) (tVar 4)))
theorem rd_member {D : Ends} {Hf H1 : Hp} {o d : Addr} {B : List Nat} {x0 x1 x2 x3 x4 x5 x6 x9 x10 x11 x12 : Option V}
    (sf : Same Hf H1) (nd : Hf d = none) (ho : Hf o = some (.lst (natsV B))) (hd : H1 d = some (.dK [])) (hl : B.length ≤ 1000)
    (q : ∀ y4 y9 H' kvs, Same Hf H' → H' d = some (.dK kvs) → IdxK kvs B → D.nx [x0, x1, x2, x3, y4, x5, x6, some (.ref o), some (.ref d), y9, x10, x11, x12] H') :
    tMember K D [x0, x1, x2, x3, x4, x5, x6, some (.ref o), some (.ref d), x9, x10, x11, x12] H1 := by
  unfold tMember
  refine ⟨_, rfl, o, _, rfl, SqL.of (sf _ _ ho), for_enum (xs := natsV B) (fun j σ H' => ∃ y4 y9 kvs, σ = [x0, x1, x2, x3, y4, x5, x6, some (.ref o), some (.ref d), y9, x10, x11, x12] ∧ Same Hf H' ∧ H' d = some (.dK kvs) ∧ IdxK kvs (B.take j)) ?_ ?_ ?_ ?_⟩
  · exact ⟨x4, x9, [], rfl, sf, hd, IdxK.nil⟩
  · rintro j σ H' ⟨_, _, _, _, sm, _⟩
    exact SqL.of (sm _ _ ho)
  · rintro j x σ H' T e2 nT ⟨y4, y9, kvs, rfl, sm, ed, ik⟩
    have hj : j < B.length := by
      have := (List.getElem?_eq_some_iff.mp e2).1
      rwa [natsV_len] at this
    have ey : x = natV (B.getD j 0) := Option.some.inj (e2.symm.trans (natsV_get hj))
    subst ey
    have s1 := same_fresh (o := .tup [.int (j : Nat), natV (B.getD j 0)]) nT
    have eT : (upd H' T (.tup [.int (j : Nat), natV (B.getD j 0)])) T = some (.tup [.int (j : Nat), natV (B.getD j 0)]) := upd_same
    generalize upd H' T (.tup [.int (j : Nat), natV (B.getD j 0)]) = H3 at s1 eT ⊢
    have sm3 := sm.trans s1
    have kl := ik.1
    rw [List.length_take] at kl
    have lt : (B.take j).length = j := by
      rw [List.length_take]
      omega
    refine ⟨T, _, rfl, .inl (.inl eT), rfl, _, _, rfl, _, _, rfl, rfl, ?_⟩
    refine ⟨_, rfl, d, rfl, .inl ⟨kvs, .inl (s1 _ _ ed)⟩, _, rfl, _, rfl, kvs, Sum.inl ((B.getD j 0 : Nat) : Int), s1 _ _ ed, rfl, small_line (m := 1000) (by omega) (by decide), fun v hv => ?_, fun hv => ?_⟩
    · have hx : B.getD j 0 ∈ B.take j := by
        by_cases z : B.getD j 0 ∈ B.take j
        · exact z
        · rw [ik.2.2 _ z] at hv
          cases hv
      refine ⟨_, _, kvs, rfl, sm3, s1 _ _ ed, ?_⟩
      rw [take_next hj]
      exact ik.keep hx
    · have hx : B.getD j 0 ∉ B.take j := fun z => by
        rw [ik.2.1 _ z] at hv
        cases hv
      refine ⟨_, _, _, rfl, same_put sm3 nd, upd_same, ?_⟩
      have := ik.put hx
      rw [lt, ← take_next hj] at this
      exact this
  · rintro σ H' ⟨y4, y9, kvs, rfl, sm, ed, ik⟩
    rw [natsV_len, List.take_of_length_le (Nat.le_refl _)] at ik
    exact q y4 y9 H' kvs sm ed ik
end
end K35
namespace K35
open PySem PySem.Spec PyProof.Rows L2 KR

abbrev sLeast : Stmt := top 12
abbrev nLeast : List PySem.Str := ["rows", "start", "order", "place", "at", "old", "kept", "block", "member", "name", "small", "number", "row"]
theorem scLeast : FnScope nLeast ["rows", "start"] (defScope sLeast) := ⟨rfl, rfl, rfl, by decide +kernel, rfl, by decide +kernel, by decide +kernel⟩
def spLeast (K : PySem.W.Frag) : Sp := fun vs H Q _ => ∃ (a : Addr) (as : List V) (R : KM.Rows) (s : Nat), vs = [.ref a, natV s] ∧ H a = some (.lst as) ∧ RowsT K H as R ∧ KM.OkR R ∧ s < R.length ∧ R.length ≤ 60 ∧
  ∀ H' p ys T, Same H H' → H p = none → H' p = some (.tup ys) → RowsT K H' ys T → KM.Canon T (fun w => KM.ins R (KM.run R s w)) → T.length ≤ R.length → Q (.ref p) H'
section
variable {P : Program} {w : World} {K : PySem.W.Frag} {mg : PySem.Str → Option Value} {base : Heap}
theorem ok_least {f fO fB : Addr} {fd fdO fdB : FuncData} {k : Nat} (F : Fun K "least_rows" "least_rows" sLeast f fd)
    (FO : Fun K "order_of" "order_of" sOrder fO fdO) (bO : Binds K fdO ["rows", "start"] []) (gO : mg "order_of" = some (.ref fO)) (GO : FnOk P w K mg base CX0 k fO fdO ["rows", "start"] (spOrder K))
    (FB : Fun K "blocks_of" "blocks_of" sBlocks fB fdB) (bB : Binds K fdB ["rows"] []) (gB : mg "blocks_of" = some (.ref fB)) (GB : FnOk P w K mg base CX0 k fB fdB ["rows"] (spBlocks K))
    (me : mg "enumerate" = none) (mt : mg "tuple" = none) : FnOk P w K mg base CX0 (k + 1) f fd ["rows", "start"] (spLeast K) := by
  refine F.ok scLeast (fun vs H Q E h => ?_) (fun cdv A outer s H vs Q E hr h => ?_)
  · obtain ⟨a, as, R, s, rfl, _⟩ := h
    rfl
  · obtain ⟨a, as, R, st, rfl, ha, hR, oR, hst, hlen, q⟩ := h
    refine ⟨_, (pss_cons (ps_set (i := 2) scLeast.nd rfl (.inl rfl) (pe_call GO hr (by rfl) gO FO.kp bO .nil pass0 (pa_cons (pv 0) (pa_cons (pv 1) pa_nil)))) (pss_cons (ps_set (i := 3) scLeast.nd rfl (.inr rfl) pe_dnewK) (pss_cons (ps_for PassesOwn.never rfl (pi_enum (by rfl) me (pa_cons (pv 2) pa_nil)) (pg_tup rfl (pgs_cons (pg_name (i := 4) scLeast.nd rfl (.inl rfl)) (pgs_cons (pg_name (i := 5) scLeast.nd rfl (.inl rfl)) pgs_nil))) (pss_one (ps_dput (hu_of hr) (pv 3) (pv 5) (pv 4) rfl))) (pss_cons (ps_setLc (i := 6) (own := [("old", 5)]) rfl scLeast.nd rfl rfl (sw_true rfl rfl rfl (by decide +kernel)) (pi_list (pv 2)) (blkOk_by (own := [("old", 5)]) (N := nLeast) (sc := defScope sLeast) (by decide +kernel)) (fun _ _ _ _ _ => (pg_name (i := 5) scLeast.nd rfl (.inl rfl))) (fun _ _ _ _ _ => pts_nil) (fun _ _ _ _ _ => (pe_tup (pa_cons (pe_dget (by exact hu_of hr) (pv 3) (pe_ix (r := rIxT K) ix_tup (pe_ix (r := rIxL K) ix_list (pv 0) (pv 5) (fun _ _ => rfl)) pe_int (fun _ _ => rfl)) (fun _ _ => rfl)) (pa_cons (pe_dget (by exact hu_of hr) (pv 3) (pe_ix (r := rIxT K) ix_tup (pe_ix (r := rIxL K) ix_list (pv 0) (pv 5) (fun _ _ => rfl)) pe_int (fun _ _ => rfl)) (fun _ _ => rfl)) (pa_cons (pe_ix (r := rIxT K) ix_tup (pe_ix (r := rIxL K) ix_list (pv 0) (pv 5) (fun _ _ => rfl)) pe_int (fun _ _ => rfl)) pa_nil)))))) (pss_cons (ps_set (i := 7) scLeast.nd rfl (.inr rfl) (pe_call GB hr (by rfl) gB FB.kp bB .nil pass0 (pa_cons (pv 6) pa_nil))) (pss_cons (ps_set (i := 8) scLeast.nd rfl (.inr rfl) pe_dnewK) (pss_cons (ps_for PassesOwn.never rfl (pi_enum (by rfl) me (pa_cons (pv 7) pa_nil)) (pg_tup rfl (pgs_cons (pg_name (i := 4) scLeast.nd rfl (.inl rfl)) (pgs_cons (pg_name (i := 9) scLeast.nd rfl (.inl rfl)) pgs_nil))) (pss_one (ps_expr (pe_dsetd (pv 8) (pv 9) (pv 4) (by constructor <;> rfl))))) (pss_cons (ps_set (i := 10) scLeast.nd rfl (.inr rfl) (pe_lc (own := [("row", 12)]) rfl scLeast.nd (pi_list (pv 6)) (blkOk_by (own := [("row", 12)]) (N := nLeast) (sc := defScope sLeast) (by decide +kernel)) (fun _ _ _ _ _ => (pg_name (i := 12) scLeast.nd rfl (.inl rfl))) (fun _ _ _ _ _ => pts_nil) (fun _ _ _ _ _ => (pe_tup (pa_cons (pe_dget (by exact hu_of hr) (pv 8) (pe_ix (r := rIxL K) ix_list (pv 7) (pe_ix (r := rIxT K) ix_tup (pv 12) pe_int (fun _ _ => rfl)) (fun _ _ => rfl)) (fun _ _ => rfl)) (pa_cons (pe_dget (by exact hu_of hr) (pv 8) (pe_ix (r := rIxL K) ix_list (pv 7) (pe_ix (r := rIxT K) ix_tup (pv 12) pe_int (fun _ _ => rfl)) (fun _ _ => rfl)) (fun _ _ => rfl)) (pa_cons (pe_ix (r := rIxT K) ix_tup (pv 12) pe_int (fun _ _ => rfl)) pa_nil))))))) (pss_cons (ps_set (i := 2) scLeast.nd rfl (.inl rfl) (pe_call GO hr (by rfl) gO FO.kp bO .nil pass0 (pa_cons (pv 10) (pa_cons (pe_dget (hu_of hr) (pv 8) (pe_ix (r := rIxL K) ix_list (pv 7) pe_int (fun _ _ => rfl)) (fun _ _ => rfl)) pa_nil)))) (pss_cons (ps_set (i := 11) scLeast.nd rfl (.inr rfl) pe_dnewK) (pss_cons (ps_for PassesOwn.never rfl (pi_enum (by rfl) me (pa_cons (pv 2) pa_nil)) (pg_tup rfl (pgs_cons (pg_name (i := 4) scLeast.nd rfl (.inl rfl)) (pgs_cons (pg_name (i := 5) scLeast.nd rfl (.inl rfl)) pgs_nil))) (pss_one (ps_dput (hu_of hr) (pv 11) (pv 5) (pv 4) rfl))) (pss_one (ps_ret (pe_tupleOf (by rfl) mt (pe_lc (own := [("old", 5)]) rfl scLeast.nd (pi_list (pv 2)) (blkOk_by (own := [("old", 5)]) (N := nLeast) (sc := defScope sLeast) (by decide +kernel)) (fun _ _ _ _ _ => (pg_name (i := 5) scLeast.nd rfl (.inl rfl))) (fun _ _ _ _ _ => pts_nil) (fun _ _ _ _ _ => (pe_tup (pa_cons (pe_dget (by exact hu_of hr) (pv 11) (pe_ix (r := rIxT K) ix_tup (pe_ix (r := rIxL K) ix_list (pv 10) (pv 5) (fun _ _ => rfl)) pe_int (fun _ _ => rfl)) (fun _ _ => rfl)) (pa_cons (pe_dget (by exact hu_of hr) (pv 11) (pe_ix (r := rIxT K) ix_tup (pe_ix (r := rIxL K) ix_list (pv 10) (pv 5) (fun _ _ => rfl)) pe_int (fun _ _ => rfl)) (fun _ _ => rfl)) (pa_cons (pe_ix (r := rIxT K) ix_tup (pe_ix (r := rIxL K) ix_list (pv 10) (pv 5) (fun _ _ => rfl)) pe_int (fun _ _ => rfl)) pa_nil)))))))))))))))))))), ?_⟩
    refine seq_asg ?_
    refine ⟨_, rfl, _, rfl, a, as, R, st, rfl, ha, hR, oR, hst, by omega, fun H1 o F s1 no hO eo => ?_⟩
    have lF : F.length ≤ R.length := KM.nodup_bound hO.nodup (hO.lt oR hst)
    refine seq_asg ?_
    refine fun pd npd => ?_
    have t2 := same_fresh (o := .dK []) npd
    have epd : upd H1 pd (.dK []) pd = some (.dK []) := upd_same
    generalize upd H1 pd (.dK []) = H2 at t2 epd ⊢
    refine seq_of ?_
    refine rd_number (K := K) (n := 3) (F := F) (fun _ _ => rfl) t2 npd eo epd hO.nodup (by omega) fun y4 y5 H3 kvs t3 e3 ik => ?_
    dsimp only
    have s3 := s1.trans t3
    refine seq_asg ?_
    refine rd_renum (K := K) (m := 0) (n := 3) (R := R) (F := F) (kvs := kvs) rfl (fun _ => rfl) (fun _ => rfl) (fun _ => rfl) (fun _ => rfl) (t3 _ _ eo) (s3 _ _ ha) e3 (hR.same s3) ik (hO.lt oR hst) (fun x hx b => hO.closed hx b) (by omega) fun kp H4 ks nkp t4 ekp rk => ?_
    have lK : (KM.relabel R F).length ≤ 60 := by
      rw [KM.relabel_len]
      omega
    have oK := KM.relabel_ok hO oR hst
    refine seq_asg ?_
    refine ⟨_, rfl, kp, ks, _, rfl, ekp, rk, oK, lK, fun H5 bl B t5 nbl hB ebl => ?_⟩
    refine seq_asg ?_
    refine fun md nmd => ?_
    have t6 := same_fresh (o := .dK []) nmd
    have emd : upd H5 md (.dK []) md = some (.dK []) := upd_same
    generalize upd H5 md (.dK []) = H6 at t6 emd ⊢
    refine seq_of ?_
    refine rd_member (K := K) (B := B) t6 nmd ebl emd (by rw [hB.1]; omega) fun y4' y9 H7 mk t7 e7 im => ?_
    dsimp only
    have s47 := t5.trans t7
    have s7 := s3.trans (t4.trans s47)
    refine seq_asg ?_
    refine rd_small (K := K) (R := KM.relabel R F) (B := B) (s47 _ _ ekp) (t7 _ _ ebl) e7 (rk.same s47) im oK hB.1 (by omega) fun sm H8 ss nsm t8 esm rs => ?_
    have s8 := s7.trans t8
    have oS := KM.small_ok hB oK
    have lS : (KM.small (KM.relabel R F) B).length = (KM.relabel R F).length := KM.small_len
    have pK : 0 < (KM.relabel R F).length := by
      rw [KM.relabel_len]
      exact hO.pos
    have g0 : (natsV B)[0]? = some (natV (B.getD 0 0)) := natsV_get (by rw [hB.1]; exact pK)
    have c0 := im.2.1 _ (KM.getD_mem (l := B) (i := 0) (by rw [hB.1]; exact pK) 0)
    refine seq_asg ?_
    refine ⟨_, rfl, _, rfl, _, rfl, bl, _, _, _, rfl, rfl, SqL.of (t8 _ _ (t7 _ _ ebl)), atI_nat (j := 0) g0, md, _, rfl, c0 ▸ DGet.k (k := Sum.inl ((B.getD 0 0 : Nat) : Int)) (t8 _ _ e7), sm, ss, _, KM.rep B 0, rfl, esm, rs, oS, by rw [lS]; exact KM.rep_lt hB pK, by omega, fun H9 o2 F2 t9 no2 hO2 eo2 => ?_⟩
    have lF2 : F2.length ≤ (KM.small (KM.relabel R F) B).length := KM.nodup_bound hO2.nodup (hO2.lt oS (by rw [lS]; exact KM.rep_lt hB pK))
    refine seq_asg ?_
    refine fun nd nnd => ?_
    have t10 := same_fresh (o := .dK []) nnd
    have end_ : upd H9 nd (.dK []) nd = some (.dK []) := upd_same
    generalize upd H9 nd (.dK []) = H10 at t10 end_ ⊢
    refine seq_of ?_
    refine rd_number (K := K) (n := 11) (F := F2) (fun _ _ => rfl) t10 nnd eo2 end_ hO2.nodup (by omega) fun z4 z5 H11 kvs2 t11 e11 ik2 => ?_
    dsimp only
    have s11 := s8.trans (t9.trans t11)
    have t911 := t9.trans t11
    refine rd_renum (K := K) (m := 10) (n := 11) (R := KM.small (KM.relabel R F) B) (F := F2) (kvs := kvs2) rfl (fun _ => rfl) (fun _ => rfl) (fun _ => rfl) (fun _ => rfl) (t11 _ _ eo2) (t911 _ _ esm) e11 (rs.same t911) ik2 (hO2.lt oS (by rw [lS]; exact KM.rep_lt hB pK)) (fun x hx b => hO2.closed hx b) (by omega) fun fl H12 fs nfl t12 efl rf => ?_
    refine .inl ⟨fl, fs, rfl, SqL.of efl, fun q0 nq => ?_⟩
    have t13 := same_fresh (o := .tup fs) nq
    have s12 := s11.trans t12
    obtain ⟨hC, lC⟩ := KM.least_canon oR hst hO hB hO2
    exact q _ q0 fs _ (s12.trans t13) (s12.free nq) upd_same (rf.same t13) hC lC
end
end K35
namespace K35
open PySem PySem.Spec PyProof.Rows L2 KR

abbrev sTold : Stmt := top 13
abbrev nTold : List PySem.Str := ["rows", "start", "many", "wide", "verdict", "row"]
theorem scTold : FnScope nTold ["rows", "start"] (defScope sTold) := ⟨rfl, rfl, rfl, by decide +kernel, rfl, by decide +kernel, by decide +kernel⟩
theorem take_row {R : KM.Rows} {i : Nat} (h : i < R.length) : R.take (i + 1) = R.take i ++ [KM.rowAt R i] := by
  rw [List.take_add_one, KM.rowAt_eq h]
  rfl
theorem RowsT.put {K : PySem.W.Frag} {H : Hp} {ys l l' : List V} {T : KM.Rows} {D : Addr} (h : RowsT K H ys T) (hD : H D = some (.lst l)) : RowsT K (upd H D (.lst l')) ys T :=
  ⟨h.1, fun i hi => let ⟨p, a, b⟩ := h.2 i hi; ⟨p, a, by rw [upd_ne (ne_of b hD (by intro z; cases z))]; exact b⟩⟩
/-- a new row at the end of a list of rows -/
theorem RowsT.app {K : PySem.W.Frag} {H : Hp} {ys : List V} {T : KM.Rows} {D p : Addr} {r : KM.Row} (h : RowsT K H ys T) (hD : H D = some (.lst ys)) (hp : H p = some (.tup (rowV r))) : RowsT K (upd H D (.lst (ys ++ [.ref p]))) (ys ++ [.ref p]) (T ++ [r]) :=
  (h.snoc hp).put hD
def spTold (K : PySem.W.Frag) : Sp := fun vs H Q _ => ∃ (a : Addr) (as : List V) (R : KM.Rows), vs = [.ref a, natV 0] ∧ Sq K H a as ∧ RowsIn K H as R ∧ KM.OkR R ∧ 0 < R.length ∧ R.length ≤ 30 ∧
  ∀ H' p ys T, Same H H' → H p = none → H' p = some (.tup ys) → RowsT K H' ys T → KM.Canon T (KM.told R) → T.length ≤ 60 → Q (.ref p) H'
section
variable {P : Program} {w : World} {K : PySem.W.Frag} {mg : PySem.Str → Option Value} {base : Heap}
theorem ok_told {f fL : Addr} {fd fdL : FuncData} {k : Nat} (F : Fun K "told_rows" "told_rows" sTold f fd)
    (FL : Fun K "least_rows" "least_rows" sLeast fL fdL) (bL : Binds K fdL ["rows", "start"] []) (gL : mg "least_rows" = some (.ref fL)) (GL : FnOk P w K mg base CX0 k fL fdL ["rows", "start"] (spLeast K))
    (ml : mg "len" = none) : FnOk P w K mg base CX0 (k + 1) f fd ["rows", "start"] (spTold K) := by
  refine F.ok scTold (fun vs H Q E h => ?_) (fun cdv A outer s H vs Q E hr h => ?_)
  · obtain ⟨a, as, R, rfl, _⟩ := h
    rfl
  · obtain ⟨a, as, R, rfl, ha, hR, oR, hp, hlen, q⟩ := h
    refine ⟨_, (pss_cons (ps_set (i := 2) scTold.nd rfl (.inl rfl) (pe_callB call_len_seq (by rfl) ml PySem.boot_len (pa_cons (pv 0) pa_nil))) (pss_cons (ps_set (i := 3) scTold.nd rfl (.inl rfl) (pe_lst pa_nil)) (pss_cons (ps_for PassesOwn.never rfl (pi_tup (pe_tup (pa_cons pe_int (pa_cons pe_int pa_nil)))) (pg_name (i := 4) scTold.nd rfl (.inl rfl)) (pss_one (ps_for PassesOwn.never rfl (pi_sq (pv 0)) (pg_name (i := 5) scTold.nd rfl (.inl rfl)) (pss_one (ps_expr (pe_bm PySem.F.plainAttrs_list PySem.F.slot_list_append PySem.F.type_list_append mt_append (pv 3) (pa_cons (pe_tup (pa_cons (pe_op op_addN (pe_ix (r := rIxSq K) ix_sq (pv 5) pe_int (fun _ _ => rfl)) (pe_op op_mulN (pv 2) (pv 4))) (pa_cons (pe_op op_addN (pe_ix (r := rIxSq K) ix_sq (pv 5) pe_int (fun _ _ => rfl)) (pe_op op_mulN (pv 2) (pe_ix (r := rIxSq K) ix_sq (pe_ix (r := rIxSq K) ix_sq (pv 0) (pe_ix (r := rIxSq K) ix_sq (pv 5) pe_int (fun _ _ => rfl)) (fun _ _ => rfl)) pe_int (fun _ _ => rfl)))) (pa_cons (pv 4) pa_nil)))) pa_nil))))))) (pss_one (ps_ret (pe_call GL hr (by rfl) gL FL.kp bL .nil pass0 (pa_cons (pv 3) (pa_cons (pv 1) pa_nil)))))))), ?_⟩
    have lA : as.length = R.length := hR.1
    refine seq_asg ?_
    refine ⟨_, rfl, a, as, rfl, ha, ?_⟩
    rw [lA]
    refine seq_asg ?_
    refine ⟨Nat.zero_le _, fun wd nwd => ?_⟩
    have s1 := same_fresh (o := .lst []) nwd
    have e1 : upd H wd (.lst []) wd = some (.lst []) := upd_same
    generalize upd H wd (.lst []) = H1 at s1 e1 ⊢
    refine seq_of ?_
    refine ⟨show 2 ≤ sizeLine by decide, fun U nU => ?_⟩
    have sU := same_fresh (o := .tup [natV 0, natV 1]) nU
    have eU : (upd H1 U (.tup [natV 0, natV 1])) U = some (.tup [natV 0, natV 1]) := upd_same
    have hUn : U ≠ wd := fun z => by rw [z, e1] at nU; cases nU
    have n1 : H U = none := s1.free nU
    have lw : (KM.wide R).length = 2 * R.length := KM.wide_len
    generalize eHU : upd H1 U (.tup [natV 0, natV 1]) = H2 at sU eU
    have eHU' : upd H1 U (.tup [.int 0, .int 1]) = H2 := eHU
    rw [eHU']
    -- all that stays: H and the pair
    have fU : Same H (upd H U (.tup [natV 0, natV 1])) := same_fresh n1
    have f2 : Same (upd H U (.tup [natV 0, natV 1])) H2 := eHU ▸ same_two s1
    have nw : upd H U (.tup [natV 0, natV 1]) wd = none := by rw [upd_ne hUn.symm]; exact nwd
    have fe : upd H U (.tup [natV 0, natV 1]) U = some (.tup [natV 0, natV 1]) := upd_same
    generalize upd H U (.tup [natV 0, natV 1]) = Hf at fU f2 nw fe
    refine ⟨U, rfl, ⟨_, .inl (.inl eU)⟩, for_tup (K := K) (a := U) (xs := [natV 0, natV 1]) (fun i σ H' => ∃ y4 y5 ys, σ = [some (.ref a), some (natV 0), some (natV R.length), some (.ref wd), y4, y5] ∧ Same Hf H' ∧ H' wd = some (.lst ys) ∧ RowsT K H' ys ((KM.wide R).take (R.length * i))) ?_ ?_ ?_ ?_⟩
    · exact ⟨none, none, [], rfl, f2, sU _ _ e1, RowsT.nil⟩
    · rintro i σ H' _ ⟨y4, y5, ys, rfl, sm, _⟩
      exact .inl (.inl (sm _ _ fe))
    · rintro v x σ H' hv ⟨y4, y5, ys, rfl, sm, ew, rw_⟩
      obtain ⟨rfl, hv1⟩ : x = natV v ∧ v ≤ 1 := by
        match v, hv with
        | 0, hv => exact ⟨(Option.some.inj hv).symm, by omega⟩
        | 1, hv => exact ⟨(Option.some.inj hv).symm, by omega⟩
      refine sq_forF (K := K) (Hf := Hf) (i := 0) rfl (same_sq fU ha) (fun j σ H2 => ∃ y5 ys, σ = [some (.ref a), some (natV 0), some (natV R.length), some (.ref wd), some (natV v), y5] ∧ Same Hf H2 ∧ H2 wd = some (.lst ys) ∧ RowsT K H2 ys ((KM.wide R).take (R.length * v + j))) ?_ ?_ ?_ ?_
      · exact ⟨y5, ys, rfl, sm, ew, rw_⟩
      · rintro j σ H2 ⟨_, _, _, sm2, _⟩
        exact sm2
      · rintro j x σ H2 hj ⟨z5, zs, rfl, sm2, ez, rz⟩
        have hjR : j < R.length := by
          have := (List.getElem?_eq_some_iff.mp hj).1
          omega
        obtain ⟨p, ep, tp⟩ := hR.2 j hjR
        rw [ep] at hj
        cases hj
        obtain ⟨o0, o1, _⟩ := oR j hjR
        have sH := fU.trans sm2
        have tp2 := same_sq sH tp
        obtain ⟨p1, ep1, tp1⟩ := hR.2 _ o1
        have tp1' := same_sq sH tp1
        refine ⟨_, rfl, .inl ⟨rfl, _, SqL.of ez⟩, ?_⟩
        refine ⟨_, rfl, p, _, _, _, rfl, rfl, tp2, atI_nat (j := 0) (row_0 _), _, rfl, _, rfl, R.length, v, rfl, rfl, by omega, (KM.rowAt R j).1, R.length * v, rfl, rfl,
          _, rfl, p, _, _, _, rfl, rfl, tp2, atI_nat (j := 1) (row_1 _), _, rfl, _, rfl, _, rfl, p, _, _, _, rfl, rfl, tp2, atI_nat (j := 1) (row_1 _), a, _, _, _, rfl, rfl, same_sq sH ha, atI_nat ep1, p1, _, _, _, rfl, rfl, tp1', atI_nat (j := 2) (row_2 _),
          R.length, (KM.rowAt R (KM.rowAt R j).2.1).2.2, rfl, rfl, by omega, (KM.rowAt R j).2.1, R.length * (KM.rowAt R (KM.rowAt R j).2.1).2.2, rfl, rfl, _, rfl, show 3 ≤ sizeLine by decide, fun T nT => ?_⟩
        have s3 := same_fresh (o := .tup [natV ((KM.rowAt R j).1 + R.length * v), natV ((KM.rowAt R j).2.1 + R.length * (KM.rowAt R (KM.rowAt R j).2.1).2.2), natV v]) nT
        have e3 : upd H2 T (.tup [natV ((KM.rowAt R j).1 + R.length * v), natV ((KM.rowAt R j).2.1 + R.length * (KM.rowAt R (KM.rowAt R j).2.1).2.2), natV v]) T = some (.tup (rowV (KM.wideRow R v (KM.rowAt R j)))) := upd_same
        refine ⟨wd, zs, _, rfl, rfl, s3 _ _ ez, ?_, ?_⟩
        · rw [rz.1, List.length_take, lw]
          exact small_line (m := 1000) (by omega) (by decide)
        · refine ⟨_, _, rfl, same_put (sm2.trans s3) nw, upd_same, ?_⟩
          have hk : R.length * v + j < (KM.wide R).length := by
            rw [lw]
            rcases (show v = 0 ∨ v = 1 by omega) with rfl | rfl <;> omega
          rw [← Nat.add_assoc, take_row hk]
          have := KM.wide_at hjR hv1
          rw [Nat.add_comm (R.length * v) j, this, ← Nat.add_comm (R.length * v) j]
          exact (rz.same s3).app (s3 _ _ ez) e3
      · rintro σ H2 ⟨z5, zs, rfl, sm2, ez, rz⟩
        refine ⟨_, _, zs, rfl, sm2, ez, ?_⟩
        rw [lA, ← Nat.mul_succ] at rz
        exact rz
    · rintro σ H' ⟨y4, y5, ys, rfl, sm, ew, rw_⟩
      rw [List.take_of_length_le (show (KM.wide R).length ≤ R.length * [natV 0, natV 1].length by rw [lw]; simp; omega)] at rw_
      refine ⟨_, rfl, _, rfl, wd, ys, KM.wide R, 0, rfl, ew, rw_, KM.wide_ok oR, by omega, by omega, fun H9 r9 zs T s9 n9 e9 r9' hC lT => ?_⟩
      refine q H9 r9 zs T ((fU.trans sm).trans s9) ((fU.trans sm).free n9) e9 r9' ?_ (by omega)
      have e : (fun w => KM.ins (KM.wide R) (KM.run (KM.wide R) 0 w)) = KM.told R := funext fun w => KM.wide_told oR hp w
      rw [e] at hC
      exact hC
end
end K35
namespace K35
open PySem PySem.Spec PyProof.Rows L2 KR
section
variable {K : PySem.W.Frag} {H : Hp}
theorem tyx_l {a : Addr} {xs : List V} (h : SqL K H a xs) : TyX K H (.ref a) (.type "list") := by
  rcases h with (h | ⟨o, h⟩) | ⟨o, its, n, h1, h2, _⟩
  · exact .base (.lst h)
  · exact .base (.frz h)
  · exact .kList h1 h2
theorem tyx_t {a : Addr} {xs : List V} (h : SqT K H a xs) : TyX K H (.ref a) (.type "tuple") := by
  rcases h with (h | ⟨o, h⟩) | ⟨o, its, n, h1, h2, _⟩
  · exact .base (.tup h)
  · exact .fTuple h
  · exact .kTuple h1 h2
theorem kit_ii : PySem.W.kitOne K (.type "int") (.type "int") = some true := by
  unfold PySem.W.kitOne
  rw [if_pos (by decide)]
theorem kit_bb : PySem.W.kitOne K (.type "bool") (.type "bool") = some true := by
  unfold PySem.W.kitOne
  rw [if_pos (by decide)]
theorem kit_tt : PySem.W.kitOne K (.type "tuple") (.type "tuple") = some true := by
  unfold PySem.W.kitOne
  rw [if_pos (by decide)]
theorem kit_ib : PySem.W.kitOne K (.type "int") (.type "bool") = some false := by rfl
theorem kit_lt : PySem.W.kitAny K (.type "list") [.type "list", .type "tuple"] = some true := by rfl
theorem kit_tl : PySem.W.kitAny K (.type "tuple") [.type "list", .type "tuple"] = some true := by rfl
end
/-! ## is_integer, is_told_row -/

abbrev sIsInt : Stmt := top 27
abbrev nIsInt : List PySem.Str := ["number"]
theorem scIsInt : FnScope nIsInt ["number"] (defScope sIsInt) := ⟨rfl, rfl, rfl, by decide +kernel, rfl, by decide +kernel, by decide +kernel⟩
def spIsInt : Sp := fun vs H Q _ => ∃ n : Int, vs = [.int n] ∧ ∀ H', Same H H' → Q (.bl true) H'
section
variable {P : Program} {w : World} {K : PySem.W.Frag} {mg : PySem.Str → Option Value} {base : Heap}
theorem ok_isint {f : Addr} {fd : FuncData} {k : Nat} (F : Fun K "is_integer" "is_integer" sIsInt f fd) (mi : mg "isinstance" = none) (mn : mg "int" = none) (mb : mg "bool" = none) : FnOk P w K mg base CX0 (k + 1) f fd ["number"] spIsInt := by
  refine F.ok scIsInt (fun vs H Q E h => ?_) (fun cdv A outer s H vs Q E hr h => ?_)
  · obtain ⟨n, rfl, _⟩ := h
    rfl
  · obtain ⟨n, rfl, q⟩ := h
    refine ⟨_, (pss_one (ps_ret (pe_and (pe_callB call_isi (by rfl) mi (by decide +kernel) (pa_cons (pv 0) (pa_cons (pe_bltn (v := .ty "int") (by rfl) mn (by decide +kernel) rfl) pa_nil))) (pe_one (pe_not (pe_callB call_isi (by rfl) mi (by decide +kernel) (pa_cons (pv 0) (pa_cons (pe_bltn (v := .ty "bool") (by rfl) mb (by decide +kernel) rfl) pa_nil)))))))), ?_⟩
    refine ⟨_, rfl, _, _, _, _, true, rfl, .ty "int", .base (.int n), kit_ii, true, rfl, iteT ?_⟩
    exact ⟨_, rfl, _, _, _, _, false, rfl, .ty "bool", .base (.int n), kit_ib, false, rfl, q _ (Same.refl H)⟩
end

abbrev sTR : Stmt := top 36
abbrev nTR : List PySem.Str := ["row", "many", "part"]
theorem scTR : FnScope nTR ["row", "many"] (defScope sTR) := ⟨rfl, rfl, rfl, by decide +kernel, rfl, by decide +kernel, by decide +kernel⟩
def spTR (K : PySem.W.Frag) : Sp := fun vs H Q _ => ∃ (p : Addr) (r : KM.Row) (n : Nat), vs = [.ref p, natV n] ∧ Sq K H p (rowV r) ∧ r.1 < n ∧ r.2.1 < n ∧ r.2.2 ≤ 1 ∧ ∀ H', Same H H' → Q (.bl true) H'
section
variable {P : Program} {w : World} {K : PySem.W.Frag} {mg : PySem.Str → Option Value} {base : Heap}
theorem ok_toldrow {f fI : Addr} {fd fdI : FuncData} {k : Nat} (F : Fun K "is_told_row" "is_told_row" sTR f fd)
    (FI : Fun K "is_integer" "is_integer" sIsInt fI fdI) (bI : Binds K fdI ["number"] []) (gI : mg "is_integer" = some (.ref fI)) (GI : FnOk P w K mg base CX0 k fI fdI ["number"] spIsInt)
    (mi : mg "isinstance" = none) (ml : mg "len" = none) (ma : mg "all" = none) (mli : mg "list" = none) (mt : mg "tuple" = none) : FnOk P w K mg base CX0 (k + 1) f fd ["row", "many"] (spTR K) := by
  refine F.ok scTR (fun vs H Q E h => ?_) (fun cdv A outer s H vs Q E hr h => ?_)
  · obtain ⟨p, r, n, rfl, _⟩ := h
    rfl
  · obtain ⟨p, r, n, rfl, hp, h0, h1, h2, q⟩ := h
    refine ⟨_, (pss_cons (ps_if (PW.pt (pw_or (pt_not (pt_val (pe_callB call_isiT (by rfl) mi (by decide +kernel) (pa_cons (pv 0) (pa_cons (pe_tup (pa_cons (pe_bltn (v := .ty "list") (by rfl) mli (by decide +kernel) rfl) (pa_cons (pe_bltn (v := .ty "tuple") (by rfl) mt (by decide +kernel) rfl) pa_nil))) pa_nil))))) (pw_or (pt_cmpR op_ne (pe_callB call_len_seq (by rfl) ml PySem.boot_len (pa_cons (pv 0) pa_nil)) pe_int (nomark _)) (pw_or1 (pt_not (pt_val (pe_callB (cr_all rfl) (by rfl) ma (by decide +kernel) (pa_cons (pe_lc (own := [("part", 2)]) rfl scTR.nd (pi_sq (pv 0)) (blkOk_by (own := [("part", 2)]) (N := nTR) (sc := defScope sTR) (by decide +kernel)) (fun _ _ _ _ _ => (pg_name (i := 2) scTR.nd rfl (.inl rfl))) (fun _ _ _ _ _ => pts_nil) (fun _ _ _ _ _ => (pe_call GI hr (by rfl) gI FI.kp bI .nil pass0 (pa_cons (pv 2) pa_nil)))) pa_nil)))))))) (pss_one ps_never) pss_nil) (pss_one (ps_ret (pe_and (pe_chain op_le op_lt pe_int (pe_ix (r := rIxSq K) ix_sq (pv 0) pe_int (fun _ _ => rfl)) (pv 1)) (pe_and (pe_chain op_le op_lt pe_int (pe_ix (r := rIxSq K) ix_sq (pv 0) pe_int (fun _ _ => rfl)) (pv 1)) (pe_one (pe_chain op_le op_le pe_int (pe_ix (r := rIxSq K) ix_sq (pv 0) pe_int (fun _ _ => rfl)) pe_int))))))), ?_⟩
    refine ⟨_, rfl, show 2 ≤ sizeLine by decide, fun tp ntp => ?_⟩
    have s1 := same_fresh (o := .tup [.ty "list", .ty "tuple"]) ntp
    have e1 : upd H tp (.tup [.ty "list", .ty "tuple"]) tp = some (.tup [.ty "list", .ty "tuple"]) := upd_same
    generalize upd H tp (.tup [.ty "list", .ty "tuple"]) = H1 at s1 e1 ⊢
    have hp1 := same_sq s1 hp
    obtain ⟨t, ty, kt⟩ : ∃ t, TyX K H1 (.ref p) t ∧ PySem.W.kitAny K t [.type "list", .type "tuple"] = some true := by
      rcases hp1 with h | h
      · exact ⟨_, tyx_l h, kit_lt⟩
      · exact ⟨_, tyx_t h, kit_tl⟩
    refine ⟨_, tp, _, t, _, true, rfl, e1, .cons (.ty "list") (.cons (.ty "tuple") .nil), ty, kt, true, rfl, ?_⟩
    refine ⟨_, rfl, p, _, rfl, hp1, rfl, _, rfl, ?_⟩
    have e3 : (!decide (V.int ((rowV r).length : Nat) = V.int 3)) = false := rfl
    refine ite2 (fun c => absurd (e3.symm.trans c) (by decide)) fun _ => ?_
    dsimp only [tNot, tB, tCB, tCons]
    refine rd_sqbuild (K := K) (i := 0) (E := fun _ v _ => v = .bl true) (fun _ _ _ _ _ h => h) rfl hp1 (show 3 ≤ 1000 by decide) ?_ ?_
    · rintro D j x H2 kk hj hx nD sm el k'
      obtain ⟨m, rfl⟩ : ∃ m : Nat, x = natV m := by
        match j, hx with
        | 0, hx => exact ⟨_, (Option.some.inj hx).symm⟩
        | 1, hx => exact ⟨_, (Option.some.inj hx).symm⟩
        | 2, hx => exact ⟨_, (Option.some.inj hx).symm⟩
      exact ⟨rfl, _, rfl, (m : Int), rfl, fun H' s' => k' _ _ s' fun _ => rfl⟩
    · rintro D H2 ys nD sm eD ly hE
      have ey : ys = [true, true, true].map V.bl := by
        have l3 : ys.length = 3 := ly
        obtain ⟨v0, a0, b0⟩ := hE 0 (show 0 < 3 by decide)
        obtain ⟨v1, a1, b1⟩ := hE 1 (show 1 < 3 by decide)
        obtain ⟨v2, a2, b2⟩ := hE 2 (show 2 < 3 by decide)
        match ys, l3 with
        | [y0, y1, y2], _ =>
          cases a0
          cases a1
          cases a2
          rw [b0, b1, b2]
          rfl
      refine ⟨D, [true, true, true], rfl, SqL.of (ey ▸ eD), true, rfl, iteF ?_⟩
      have s2 := s1.trans sm
      have hp2 := same_sq s2 hp
      refine ⟨_, rfl, p, _, _, _, rfl, rfl, hp2, atI_nat (j := 0) (row_0 _), 0, _, rfl, rfl, true, congrArg V.bl (decide_eq_true (by omega)), iteT ⟨_, rfl, _, _, rfl, rfl, true, congrArg V.bl (decide_eq_true (by omega)), iteT ?_⟩⟩
      refine ⟨_, rfl, p, _, _, _, rfl, rfl, hp2, atI_nat (j := 1) (row_1 _), 0, _, rfl, rfl, true, congrArg V.bl (decide_eq_true (by omega)), iteT ⟨_, rfl, _, _, rfl, rfl, true, congrArg V.bl (decide_eq_true (by omega)), iteT ?_⟩⟩
      refine ⟨_, rfl, p, _, _, _, rfl, rfl, hp2, atI_nat (j := 2) (row_2 _), 0, _, rfl, rfl, true, congrArg V.bl (decide_eq_true (by omega)), iteT ⟨_, _, rfl, rfl, ?_⟩⟩
      have e4 : decide (((r.2.2 : Nat) : Int) ≤ 1) = true := decide_eq_true (by omega)
      show Q (.bl (decide (((r.2.2 : Nat) : Int) ≤ 1))) H2
      rw [e4]
      exact q _ s2
end
end K35
namespace K35
open PySem PySem.Spec PyProof.Rows L2 KR
/-! ## the class Sizes -/
/-- what of the text the class must have -/
structure SzC (K : PySem.W.Frag) (C : Addr) : Prop where
  cl : Cls K C
  ha : PySem.W.findIn K (.ref C) "__class__" = some (some (.builtin "object.__class__"))
  hn : PySem.W.specialIn K (.builtin "object.__class__") "__get__" = some (some (.builtin "getset_descriptor.__get__"))
  htk : PySem.W.takesIn K (.builtin "object.__class__") = some true
  hm : PySem.W.mroIn K C (.type "object") = some true
  me : PySem.W.kitOne K (.ref C) (.ref C) = some true
  na : NoAttr K C "digit_rows"
  kt : PySem.W.kitOne K (.type "tuple") (.ref C) = some false
  kn : PySem.W.kitOne K (.type "NoneType") (.ref C) = some false
  kl : PySem.W.kitOne K (.type "list") (.ref C) = some false
/-- a set of sizes: the instance at o holds the rows T -/
def SzAt (K : PySem.W.Frag) (C : Addr) (H : Hp) (o : Addr) (T : KM.Rows) : Prop := ∃ dx t ys, H o = some (.ins C dx [("digit_rows", .ref t)]) ∧ H t = some (.tup ys) ∧ RowsT K H ys T
theorem SzAt.same {K : PySem.W.Frag} {C : Addr} {H H' : Hp} {o : Addr} {T : KM.Rows} (h : SzAt K C H o T) (s : Same H H') : SzAt K C H' o T :=
  let ⟨dx, t, ys, a, b, c⟩ := h; ⟨dx, t, ys, s _ _ a, s _ _ b, c.same s⟩
theorem SzAt.ty {K : PySem.W.Frag} {C : Addr} {H : Hp} {o : Addr} {T : KM.Rows} (h : SzAt K C H o T) (c : SzC K C) : TyX K H (.ref o) (.ref C) :=
  let ⟨_, _, _, a, _⟩ := h; .base (.ins a c.cl c.ha c.hn c.htk c.hm)

abbrev sInit : Stmt := inClass (top 35) 0
abbrev nInit : List PySem.Str := ["self", "digit_rows"]
theorem scInit : FnScope nInit ["self", "digit_rows"] (defScope sInit) := ⟨rfl, rfl, rfl, by decide +kernel, rfl, by decide +kernel, by decide +kernel⟩
def spInit (C : Addr) : Sp := fun vs H Q _ => ∃ (x dx t : Addr) (ys : List V), vs = [.ref x, .ref t] ∧ H x = some (.ins C dx []) ∧ H t = some (.tup ys) ∧ ys.length ≤ 400 ∧ Q .non (upd H x (.ins C dx [("digit_rows", .ref t)]))
section
variable {P : Program} {w : World} {K : PySem.W.Frag} {mg : PySem.Str → Option Value} {base : Heap} {C : Addr}
theorem ok_init {f : Addr} {fd : FuncData} {k : Nat} (c : SzC K C) (F : Fun K "__init__" "Sizes.__init__" sInit f fd) (ml : mg "len" = none) (mr : ∃ t, mg "MOST_ROWS" = some (.int 400 t)) : FnOk P w K mg base CX0 (k + 1) f fd ["self", "digit_rows"] (spInit C) := by
  refine F.ok scInit (fun vs H Q E h => ?_) (fun cdv A outer s H vs Q E hr h => ?_)
  · obtain ⟨x, dx, t, ys, rfl, _⟩ := h
    rfl
  · obtain ⟨x, dx, t, ys, rfl, hx, ht, hl, q⟩ := h
    obtain ⟨tk, mr⟩ := mr
    refine ⟨_, (pss_cons (ps_if (pt_cmpR op_gt (pe_callB call_len_seq (by rfl) ml PySem.boot_len (pa_cons (pv 1) pa_nil)) (pe_glob (v := .int 400) (by rfl) mr ⟨_, rfl⟩) (nomark _)) (pss_one ps_never) pss_nil) (pss_one (ps_fld (pv 0) (pv 1) (by rfl)))), ?_⟩
    refine ⟨_, rfl, t, ys, rfl, .inr (.inl (.inl ht)), _, _, rfl, rfl, false, congrArg V.bl (decide_eq_false (by omega)), iteF ?_⟩
    exact ⟨_, rfl, _, rfl, x, C, dx, [], rfl, hx, c.cl, c.na, show 0 < 1000 by decide, q⟩
end

abbrev sIn : Stmt := inClass (top 35) 1
abbrev nIn : List PySem.Str := ["self", "size", "at", "digit"]
theorem scIn : FnScope nIn ["self", "size"] (defScope sIn) := ⟨rfl, rfl, rfl, by decide +kernel, rfl, by decide +kernel, by decide +kernel⟩
/-- is n one of the set's sizes -/
def isIn (T : KM.Rows) (n : Int) : Bool := decide (0 < n) && decide (KM.ledAt T 0 n.toNat = 1)
def spIn (K : PySem.W.Frag) (C : Addr) : Sp := fun vs H Q _ => ∃ (o : Addr) (T : KM.Rows) (n : Int), vs = [.ref o, .int n] ∧ SzAt K C H o T ∧ KM.OkR T ∧ 0 < T.length ∧ n.toNat < 2 ^ 1000 ∧ ∀ H', Same H H' → Q (.bl (isIn T n)) H'
section
variable {P : Program} {w : World} {K : PySem.W.Frag} {mg : PySem.Str → Option Value} {base : Heap} {C : Addr}
theorem run_snoc {R : KM.Rows} (l : List Bool) (b : Bool) (i : Nat) : KM.run R i (l ++ [b]) = KM.to R (KM.run R i l) b := by
  induction l generalizing i with
  | nil => rfl
  | cons c l ih => exact ih _
theorem ok_in {f fD : Addr} {fd fdD : FuncData} {k : Nat} (c : SzC K C) (F : Fun K "__contains__" "Sizes.__contains__" sIn f fd)
    (FD : Fun K "digits_of" "digits_of" sDigits fD fdD) (bD : Binds K fdD ["number"] []) (gD : mg "digits_of" = some (.ref fD)) (GD : FnOk P w K mg base CX0 k fD fdD ["number"] spDigits) :
    FnOk P w K mg base CX0 (k + 1) f fd ["self", "size"] (spIn K C) := by
  refine F.ok scIn (fun vs H Q E h => ?_) (fun cdv A outer s H vs Q E hr h => ?_)
  · obtain ⟨o, T, n, rfl, _⟩ := h
    rfl
  · obtain ⟨o, T, n, rfl, hs, oT, pT, hn, q⟩ := h
    refine ⟨_, (pss_cons (ps_if (pt_cmpR op_lt (pv 1) pe_int (nomark _)) (pss_one (ps_ret pe_bl)) pss_nil) (pss_cons (ps_set (i := 2) scIn.nd rfl (.inl rfl) pe_int) (pss_cons (ps_for PassesOwn.never rfl (pi_list (pe_call GD hr (by rfl) gD FD.kp bD .nil pass0 (pa_cons (pv 1) pa_nil))) (pg_name (i := 3) scIn.nd rfl (.inl rfl)) (pss_one (ps_set (i := 2) scIn.nd rfl (.inl rfl) (pe_ix (r := rIxT K) ix_tup (pe_ix (r := rIxT K) ix_tup (pe_fld (pv 0) (by rfl)) (pv 2) (fun _ _ => rfl)) (pv 3) (fun _ _ => rfl))))) (pss_one (ps_ret (pe_cmpR op_eq (pe_ix (r := rIxT K) ix_tup (pe_ix (r := rIxT K) ix_tup (pe_fld (pv 0) (by rfl)) (pv 2) (fun _ _ => rfl)) pe_int (fun _ _ => rfl)) pe_int (nomark _))))))), ?_⟩
    refine ⟨_, rfl, _, _, rfl, rfl, _, rfl, ite2 (fun z => ?_) (fun z => ?_)⟩
    · have hneg : n < 1 := of_decide_eq_true z
      have e : isIn T n = false := by
        unfold isIn
        rw [decide_eq_false (by omega)]
        rfl
      have := q H (Same.refl H)
      rw [e] at this
      exact this
    · have hpos : ¬ n < 1 := fun y => z (decide_eq_true y)
      obtain ⟨m, rfl⟩ : ∃ m : Nat, n = (m : Int) := ⟨n.toNat, by omega⟩
      have hm : m < 2 ^ 1000 := hn
      obtain ⟨dx, t, ys, ho, ht, hR⟩ := id hs
      refine next_of ?_
      dsimp only
      refine seq_asg ?_
      refine seq_of ?_
      refine ⟨_, rfl, m, rfl, hm, fun H1 dl s1 ndl edl => ?_⟩
      refine ⟨dl, rfl, ⟨_, SqL.of edl⟩, for_list (K := K) (a := dl) (xs := (KM.bits m).map bitV) (fun i σ H' => ∃ y, σ = [some (.ref o), some (natV m), some (natV (KM.run T 0 ((KM.bits m).take i))), y] ∧ Same H1 H') ?_ ?_ ?_ ?_⟩
      · exact ⟨none, rfl, Same.refl _⟩
      · rintro i σ H' _ ⟨y, rfl, sm⟩
        exact SqL.of (sm _ _ edl)
      · rintro i x σ H' hx ⟨y, rfl, sm⟩
        have sH := s1.trans sm
        have hi : i < (KM.bits m).length := by
          have := (List.getElem?_eq_some_iff.mp hx).1
          rwa [List.length_map] at this
        obtain ⟨b, eb, rfl⟩ : ∃ b, (KM.bits m)[i]? = some b ∧ x = bitV b := by
          rw [List.getElem?_map, List.getElem?_eq_getElem hi] at hx
          exact ⟨_, List.getElem?_eq_getElem hi, (Option.some.inj hx).symm⟩
        have lt := KM.run_lt oT ((KM.bits m).take i) pT
        obtain ⟨p, ep, tp⟩ := hR.2 _ lt
        have gb : atI (rowV (KM.rowAt T (KM.run T 0 ((KM.bits m).take i)))) (if b = true then 1 else 0) = some (natV (KM.to T (KM.run T 0 ((KM.bits m).take i)) b)) := at_nat (i := if b = true then 1 else 0) (by cases b <;> rfl) (row_b T _ b)
        refine ⟨_, rfl, o, C, dx, _, _, rfl, sH _ _ ho, c.cl, c.na, rfl, _, rfl, t, _, _, _, rfl, rfl, .inl (.inl (sH _ _ ht)), atI_nat ep, _, rfl, p, _, _, _, rfl, rfl, .inl (.inl (sH _ _ tp)), gb, ?_⟩
        refine ⟨some (bitV b), ?_, sm⟩
        have e : (KM.bits m).take (i + 1) = (KM.bits m).take i ++ [b] := by
          rw [List.take_add_one, eb]
          rfl
        rw [e, run_snoc]
        rfl
      · rintro σ H' ⟨y, rfl, sm⟩
        rw [List.length_map, List.take_of_length_le (Nat.le_refl _)]
        have sH := s1.trans sm
        have lt := KM.run_lt oT (KM.bits m) pT
        obtain ⟨p, ep, tp⟩ := hR.2 _ lt
        refine ⟨_, rfl, o, C, dx, _, _, rfl, sH _ _ ho, c.cl, c.na, rfl, _, rfl, t, _, _, _, rfl, rfl, .inl (.inl (sH _ _ ht)), atI_nat ep, p, _, _, _, rfl, rfl, .inl (.inl (sH _ _ tp)), atI_nat (j := 2) (row_2 _), natV_scal _ 1, ?_⟩
        have e : isIn T ((m : Nat) : Int) = decide (natV (KM.rowAt T (KM.run T 0 (KM.bits m))).2.2 = natV 1) := by
          unfold isIn
          rw [decide_eq_true (by omega), Bool.true_and, dec_nat]
          rfl
        have := q H' sH
        rw [e] at this
        exact this
end

abbrev sEq : Stmt := inClass (top 35) 2
abbrev nEq : List PySem.Str := ["self", "other"]
theorem scEq : FnScope nEq ["self", "other"] (defScope sEq) := ⟨rfl, rfl, rfl, by decide +kernel, rfl, by decide +kernel, by decide +kernel⟩
/-- the other one: a set with the rows T2, or no set -/
def spEq (K : PySem.W.Frag) (C : Addr) : Sp := fun vs H Q _ => ∃ (o : Addr) (T : KM.Rows) (y : V), vs = [.ref o, y] ∧ SzAt K C H o T ∧
  ((∃ o2 T2, y = .ref o2 ∧ SzAt K C H o2 T2 ∧ ∀ H', Same H H' → Q (.bl (decide (T = T2))) H') ∨ ∃ t, TyX K H y t ∧ PySem.W.kitOne K t (.ref C) = some false ∧ ∀ H', Same H H' → Q (.bl false) H')
section
variable {P : Program} {w : World} {K : PySem.W.Frag} {mg : PySem.Str → Option Value} {base : Heap} {C : Addr}
theorem ok_eq {f : Addr} {fd : FuncData} {k : Nat} (c : SzC K C) (F : Fun K "__eq__" "Sizes.__eq__" sEq f fd) (mi : mg "isinstance" = none) (gC : mg "Sizes" = some (.ref C)) :
    FnOk P w K mg base CX0 (k + 1) f fd ["self", "other"] (spEq K C) := by
  refine F.ok scEq (fun vs H Q E h => ?_) (fun cdv A outer s H vs Q E hr h => ?_)
  · obtain ⟨o, T, y, rfl, _⟩ := h
    rfl
  · obtain ⟨o, T, y, rfl, hs, h⟩ := h
    refine ⟨_, (pss_one (ps_ret (pe_and (pe_callB call_isi (by rfl) mi (by decide +kernel) (pa_cons (pv 1) (pa_cons (pe_glob (v := .ref C) (by rfl) gC rfl) pa_nil))) (pe_one (pe_cmpR (op_eqD hr.units) (pe_fld (pv 0) (by rfl)) (pe_fld (pv 1) (by rfl)) (nomark _)))))), ?_⟩
    obtain ⟨dx, t, ys, ho, ht, hR⟩ := id hs
    rcases h with ⟨o2, T2, rfl, hs2, q⟩ | ⟨t2, ty, kt, q⟩
    · obtain ⟨dx2, t2, ys2, ho2, ht2, hR2⟩ := id hs2
      refine ⟨_, rfl, _, _, _, _, true, rfl, .own C, hs2.ty c, c.me, true, rfl, iteT ?_⟩
      refine ⟨_, rfl, o, C, dx, _, _, rfl, ho, c.cl, c.na, rfl, _, rfl, o2, C, dx2, _, _, rfl, ho2, c.cl, c.na, rfl, _, _, .tup (.inl (.inl ht)) (dp_rows hR), .tup (.inl (.inl ht2)) (dp_rows hR2), shaped_rowsT _, shaped_rowsT _, ?_⟩
      rw [eqv_tuple, eqv_rowsAll]
      exact q H (Same.refl H)
    · exact ⟨_, rfl, _, _, _, _, false, rfl, .own C, ty, kt, false, rfl, iteF (q H (Same.refl H))⟩
end

abbrev sSor : Stmt := top 37
abbrev nSor : List PySem.Str := ["rows", "many", "at", "row"]
theorem scSor : FnScope nSor ["rows"] (defScope sSor) := ⟨rfl, rfl, rfl, by decide +kernel, rfl, by decide +kernel, by decide +kernel⟩
def spSor (K : PySem.W.Frag) (C : Addr) : Sp := fun vs H Q _ => ∃ (a : Addr) (as : List V) (R : KM.Rows), vs = [.ref a] ∧ Sq K H a as ∧ RowsIn K H as R ∧ KM.OkR R ∧ 0 < R.length ∧ R.length ≤ 30 ∧
  ∀ H' o T, Same H H' → H o = none → SzAt K C H' o T → KM.Canon T (KM.told R) → T.length ≤ 60 → Q (.ref o) H'
section
variable {P : Program} {w : World} {K : PySem.W.Frag} {mg : PySem.Str → Option Value} {base : Heap} {C : Addr}
theorem ok_sor {f fT fR fi : Addr} {fd fdT fdR fdi : FuncData} {k : Nat} (F : Fun K "sizes_of_rows" "sizes_of_rows" sSor f fd)
    (FT : Fun K "told_rows" "told_rows" sTold fT fdT) (bT : Binds K fdT ["rows", "start"] []) (gT : mg "told_rows" = some (.ref fT)) (GT : FnOk P w K mg base CX0 (k + 1) fT fdT ["rows", "start"] (spTold K))
    (FR : Fun K "is_told_row" "is_told_row" sTR fR fdR) (bR : Binds K fdR ["row", "many"] []) (gR : mg "is_told_row" = some (.ref fR)) (GR : FnOk P w K mg base CX0 (k + 1) fR fdR ["row", "many"] (spTR K))
    (M : Mk K C fi) (GI : FnOk P w K mg base CX0 k fi fdi ["self", "digit_rows"] (spInit C)) (bi : Binds K fdi ["self", "digit_rows"] []) (gC : mg "Sizes" = some (.ref C))
    (ml : mg "len" = none) (me : mg "enumerate" = none) (mt : ∃ t, mg "MOST_TOLD" = some (.int 64 t)) : FnOk P w K mg base CX0 (k + 2) f fd ["rows"] (spSor K C) := by
  refine F.ok scSor (fun vs H Q E h => ?_) (fun cdv A outer s H vs Q E hr h => ?_)
  · obtain ⟨a, as, R, rfl, _⟩ := h
    rfl
  · obtain ⟨a, as, R, rfl, ha, hR, oR, pR, hl, q⟩ := h
    obtain ⟨tk, mt⟩ := mt
    refine ⟨_, (pss_cons (ps_set (i := 1) scSor.nd rfl (.inl rfl) (pe_callB call_len_seq (by rfl) ml PySem.boot_len (pa_cons (pv 0) pa_nil))) (pss_cons (ps_if (pt_cmpR op_gt (pv 1) (pe_glob (v := .int 64) (by rfl) mt ⟨_, rfl⟩) (nomark _)) (pss_one ps_never) pss_nil) (pss_cons (ps_if (pt_cmpR op_eq (pv 1) pe_int (nomark _)) (pss_one ps_never) pss_nil) (pss_cons (ps_for PassesOwn.never rfl (pi_enumSq (by rfl) me (pa_cons (pv 0) pa_nil)) (pg_tup rfl (pgs_cons (pg_name (i := 2) scSor.nd rfl (.inl rfl)) (pgs_cons (pg_name (i := 3) scSor.nd rfl (.inl rfl)) pgs_nil))) (pss_one (ps_if (pt_not (pt_val (pe_call GR hr (by rfl) gR FR.kp bR .nil pass0 (pa_cons (pv 3) (pa_cons (pv 1) pa_nil))))) (pss_one ps_never) pss_nil))) (pss_one (ps_ret (pe_make M GI hr (by rfl) gC bi .nil pass0 (pa_cons (pe_call GT hr (by rfl) gT FT.kp bT .nil pass0 (pa_cons (pv 0) (pa_cons pe_int pa_nil))) pa_nil)))))))), ?_⟩
    have lA : as.length = R.length := hR.1
    refine seq_asg ?_
    refine ⟨_, rfl, a, as, rfl, ha, ?_⟩
    rw [lA]
    refine seq_of ?_
    refine ⟨_, rfl, _, _, rfl, rfl, false, congrArg V.bl (decide_eq_false (by omega)), iteF ?_⟩
    refine next_of ?_
    dsimp only
    refine seq_of ?_
    have e0 : decide (natV R.length = natV 0) = false := by
      rw [dec_nat, decide_eq_false (by omega)]
    refine ⟨_, rfl, natV_scal R.length 0, false, congrArg V.bl e0, iteF ?_⟩
    refine next_of ?_
    dsimp only
    refine seq_of ?_
    refine sq_forE (K := K) (i := 0) rfl ha (fun j σ H' => ∃ y2 y3, σ = [some (.ref a), some (natV R.length), y2, y3] ∧ Same H H') ?_ ?_ ?_ ?_
    · exact ⟨none, none, rfl, Same.refl H⟩
    · rintro j σ H' ⟨_, _, _, sm⟩
      exact sm
    · rintro j x σ H' T hx nT ⟨y2, y3, rfl, sm⟩
      have hj : j < R.length := by
        have := (List.getElem?_eq_some_iff.mp hx).1
        omega
      obtain ⟨p, ep, tp⟩ := hR.2 j hj
      rw [ep] at hx
      cases hx
      obtain ⟨o0, o1, o2⟩ := oR j hj
      have s1 := same_fresh (o := .tup [.int (j : Nat), .ref p]) nT
      have eT : (upd H' T (.tup [.int (j : Nat), .ref p])) T = some (.tup [.int (j : Nat), .ref p]) := upd_same
      generalize upd H' T (.tup [.int (j : Nat), .ref p]) = H3 at s1 eT ⊢
      have sm3 := sm.trans s1
      refine ⟨T, _, rfl, .inl (.inl eT), rfl, _, _, rfl, _, _, rfl, rfl, ?_⟩
      refine ⟨_, rfl, _, rfl, p, _, R.length, rfl, same_sq sm3 tp, o0, o1, o2, fun H4 s4 => ⟨true, rfl, iteF ⟨_, _, rfl, sm3.trans s4⟩⟩⟩
    · rintro σ H' ⟨y2, y3, rfl, sm⟩
      refine ⟨_, rfl, a, as, R, rfl, same_sq sm ha, hR.same sm, oR, pR, hl, fun H2 t ys T s2 nt et rt hC lT => ?_⟩
      refine fun o dx no ndx hne => ?_
      have s3 := same_fresh (o := .own o) ndx
      have no3 : upd H2 dx (.own o) o = none := by rw [upd_ne hne.symm]; exact no
      have s4 := same_fresh (o := .ins C dx []) no3
      have s5 := same_fresh (o := .ins C dx [("digit_rows", .ref t)]) no3
      have e5 : upd (upd (upd H2 dx (.own o)) o (.ins C dx [])) o (.ins C dx [("digit_rows", .ref t)]) = upd (upd H2 dx (.own o)) o (.ins C dx [("digit_rows", .ref t)]) := upd_twice
      refine ⟨o, dx, t, ys, rfl, upd_same, s4 _ _ (s3 _ _ et), by rw [rt.1]; omega, rfl, ?_⟩
      rw [e5]
      have s25 := s3.trans s5
      exact q _ o T ((sm.trans s2).trans s25) ((sm.trans s2).free no) ⟨dx, t, ys, upd_same, s25 _ _ et, rt.same s25⟩ hC lT
end
end K35
namespace K35
open PySem PySem.Spec PyProof.Rows L2 KR
/-! ## the pen -/
def penD (c : Addr) (a : Nat) (l : Int) : List (Key × V) := [(Sum.inr "cells", .ref c), (Sum.inr "at", natV a), (Sum.inr "left", .int l)]
theorem pen_cells (c : Addr) (a : Nat) (l : Int) : valV (penD c a l) (Sum.inr "cells") = some (.ref c) := rfl
theorem pen_at (c : Addr) (a : Nat) (l : Int) : valV (penD c a l) (Sum.inr "at") = some (natV a) := rfl
theorem pen_left (c : Addr) (a : Nat) (l : Int) : valV (penD c a l) (Sum.inr "left") = some (.int l) := rfl
theorem pen_put_at (c : Addr) (a : Nat) (l : Int) (x : Nat) : putK (penD c a l) (Sum.inr "at") (natV x) = penD c x l := rfl
theorem pen_put_left (c : Addr) (a : Nat) (l x : Int) : putK (penD c a l) (Sum.inr "left") (.int x) = penD c a x := rfl
/-- the heap without the object at p -/
def less (p : Addr) (H : Hp) : Hp := fun b => if b = p then none else H b
theorem less_some {p b : Addr} {H : Hp} {x : HO} (h : H b = some x) (n : b ≠ p) : less p H b = some x := by
  unfold less
  rw [if_neg n]
  exact h
theorem less_same {p : Addr} {H : Hp} : Same (less p H) H := fun b x h => by
  unfold less at h
  by_cases z : b = p
  · rw [if_pos z] at h
    cases h
  · rw [if_neg z] at h
    exact h
theorem less_none {p : Addr} {H : Hp} : less p H p = none := if_pos rfl
theorem less_put {p : Addr} {H H' : Hp} {o : HO} (s : Same (less p H) H') : Same (less p H) (upd H' p o) := same_put s less_none
theorem less_mono {p : Addr} {Hf H : Hp} (s : Same Hf H) (n : Hf p = none) : Same Hf (less p H) := fun b x h => by
  refine less_some (s _ _ h) fun z => ?_
  rw [z, n] at h
  cases h
theorem less_up {p : Addr} {H H' : Hp} (s : Same H H') : Same (less p H) (less p H') := less_mono (less_same.trans s) less_none
structure PenAt (H : Hp) (p c : Addr) (b : Nat) : Prop where
  ex : ∃ (cells : List Int) (a : Nat) (l : Int), H p = some (.dK (penD c a l)) ∧ H c = some (.lst (cells.map V.int)) ∧ a ≤ b ∧ cells.length ≤ 1000
theorem PenAt.same {H H' : Hp} {p c : Addr} {b : Nat} (h : PenAt H p c b) (s : Same H H') : PenAt H' p c b :=
  let ⟨cells, a, l, h1, h2, h3, h4⟩ := h.ex; ⟨cells, a, l, s _ _ h1, s _ _ h2, h3, h4⟩
theorem PenAt.mono {H : Hp} {p c : Addr} {b b' : Nat} (h : PenAt H p c b) (l : b ≤ b') : PenAt H p c b' :=
  let ⟨cells, a, l, h1, h2, h3, h4⟩ := h.ex; ⟨cells, a, l, h1, h2, by omega, h4⟩
/-- an object that stays is not the pen -/
theorem PenAt.ne {H : Hp} {p c q : Addr} {b : Nat} {x : HO} (h : PenAt H p c b) (hq : H q = some x) (n : ∀ kvs, x ≠ .dK kvs) : q ≠ p := fun z => by
  obtain ⟨cells, a, l, h1, _⟩ := h.ex
  rw [z, h1] at hq
  exact n _ (Option.some.inj hq).symm
theorem PenAt.stay {H H' : Hp} {p c q : Addr} {b : Nat} {x : HO} (pa : PenAt H p c b) (s : Same (less p H) H') (h : H q = some x) (n : ∀ kvs, x ≠ .dK kvs) : H' q = some x := s _ _ (less_some h (pa.ne h n))
/-- another list is written -/
theorem PenAt.put {H : Hp} {p c D : Addr} {b : Nat} {l l' : List V} (pa : PenAt H p c b) (hD : H D = some (.lst l)) (n : D ≠ c) : PenAt (upd H D (.lst l')) p c b := by
  obtain ⟨cells, a, x, h1, h2, h3, h4⟩ := pa.ex
  refine ⟨cells, a, x, ?_, ?_, h3, h4⟩
  · rw [upd_ne (ne_of h1 hD (by intro z; cases z))]
    exact h1
  · rw [upd_ne n.symm]
    exact h2
/-- what is new is not the cells -/
theorem PenAt.fresh {H : Hp} {p c D : Addr} {b : Nat} (pa : PenAt H p c b) (n : H D = none) : D ≠ c ∧ D ≠ p := by
  obtain ⟨cells, a, x, h1, h2, h3, h4⟩ := pa.ex
  refine ⟨fun z => ?_, fun z => ?_⟩
  · rw [z, h2] at n
    cases n
  · rw [z, h1] at n
    cases n
theorem mod_nat (x : Int) {m : Nat} (h : 0 < m) : ∃ r : Nat, r < m ∧ x % (m : Int) = (r : Int) := by
  have h1 := Int.emod_nonneg x (show (m : Int) ≠ 0 by omega)
  have h2 := Int.emod_lt_of_pos x (show (0 : Int) < m by omega)
  exact ⟨(x % (m : Int)).toNat, by omega, by omega⟩

abbrev sDraw : Stmt := top 51
abbrev nDraw : List PySem.Str := ["_law_pen_here", "_law_many", "_law_digit", "_law_spot", "_law_cell", "_law_mixed"]
theorem scDraw : FnScope nDraw ["_law_pen_here", "_law_many"] (defScope sDraw) := ⟨rfl, rfl, rfl, by decide +kernel, rfl, by decide +kernel, by decide +kernel⟩
def spDraw : Sp := fun vs H Q _ => ∃ (p c : Addr) (m b : Nat), vs = [.ref p, natV m] ∧ PenAt H p c b ∧ 0 < m ∧ m ≤ 1000000 ∧ b ≤ 100000 ∧
  ∀ H' x, x < m → Same (less p H) H' → PenAt H' p c (b + 1) → Q (natV x) H'
section
variable {P : Program} {w : World} {K : PySem.W.Frag} {mg : PySem.Str → Option Value} {base : Heap}
theorem ok_draw {f : Addr} {fd : FuncData} {k : Nat} (F : Fun K "_law_draw" "_law_draw" sDraw f fd) (mi : mg "int" = none) (ml : mg "len" = none) : FnOk P w K mg base CX0 (k + 1) f fd ["_law_pen_here", "_law_many"] spDraw := by
  refine F.ok scDraw (fun vs H Q E h => ?_) (fun cdv A outer s H vs Q E hr h => ?_)
  · obtain ⟨p, c, m, b, rfl, _⟩ := h
    rfl
  · obtain ⟨p, c, m, b, rfl, hp, m0, m1, hb, q⟩ := h
    refine ⟨_, (pss_cons (ps_if (pt_cmpR op_ge (pe_dget (hu_of hr) (pv 0) pe_str (fun _ _ => rfl)) (pv 1) (nomark _)) (pss_cons (ps_set (i := 2) scDraw.nd rfl (.inl rfl) (pe_op op_mod (pe_callTy call_int1 (by rfl) mi (by decide +kernel) (pa_cons (pe_dget (hu_of hr) (pv 0) pe_str (fun _ _ => rfl)) pa_nil)) (pv 1))) (pss_cons (ps_dput (hu_of hr) (pv 0) pe_str (pe_op op_fdivN (pe_dget (hu_of hr) (pv 0) pe_str (fun _ _ => rfl)) (pv 1)) rfl) (pss_one (ps_ret (pv 2))))) pss_nil) (pss_cons (ps_set (i := 3) scDraw.nd rfl (.inl rfl) (pe_dget (hu_of hr) (pv 0) pe_str (fun _ _ => rfl))) (pss_cons (ps_dput (hu_of hr) (pv 0) pe_str (pe_op op_add (pv 3) pe_int) rfl) (pss_cons (ps_if (pt_cmpR (op_eqD hr.units) (pe_dget (hu_of hr) (pv 0) pe_str (fun _ _ => rfl)) (pe_lst pa_nil) (nomark _)) (pss_one (ps_ret (pe_op op_mod (pe_callTy call_int1 (by rfl) mi (by decide +kernel) (pa_cons (pe_op op_add (pe_op op_mul pe_int (pv 3)) pe_int) pa_nil)) (pv 1)))) pss_nil) (pss_cons (ps_set (i := 4) scDraw.nd rfl (.inl rfl) (pe_ix (r := rIxL K) ix_list (pe_dget (hu_of hr) (pv 0) pe_str (fun _ _ => rfl)) (pe_op op_mod (pe_callTy call_int1 (by rfl) mi (by decide +kernel) (pa_cons (pv 3) pa_nil)) (pe_callB call_len_seq (by rfl) ml PySem.boot_len (pa_cons (pe_dget (hu_of hr) (pv 0) pe_str (fun _ _ => rfl)) pa_nil))) (fun _ _ => rfl))) (pss_cons (ps_if (PW.pt (pw_and (pt_cmpR op_lt (pv 3) (pe_callB call_len_seq (by rfl) ml PySem.boot_len (pa_cons (pe_dget (hu_of hr) (pv 0) pe_str (fun _ _ => rfl)) pa_nil)) (nomark _)) (pw_and1 (pt_cmpR op_ge (pv 4) (pe_op op_pow pe_int pe_int) (nomark _))))) (pss_cons (ps_dput (hu_of hr) (pv 0) pe_str (pe_op op_fdivN (pe_op op_sub (pv 4) (pe_op op_pow pe_int pe_int)) (pv 1)) rfl) (pss_one (ps_ret (pe_op op_mod (pe_callTy call_int1 (by rfl) mi (by decide +kernel) (pa_cons (pe_op op_sub (pv 4) (pe_op op_pow pe_int pe_int)) pa_nil)) (pv 1))))) pss_nil) (pss_cons (ps_set (i := 5) scDraw.nd rfl (.inl rfl) (pe_op op_add (pe_op op_add (pe_op op_mul (pe_op op_add (pe_op op_mod (pe_callTy call_int1 (by rfl) mi (by decide +kernel) (pa_cons (pv 4) pa_nil)) pe_int) pe_int) (pe_op op_add (pe_op op_mul pe_int (pv 3)) pe_int)) (pe_op op_mul (pe_op op_mul pe_int (pv 3)) (pv 3))) pe_int)) (pss_cons (ps_set (i := 5) scDraw.nd rfl (.inl rfl) (pe_op op_mod (pe_callTy call_int1 (by rfl) mi (by decide +kernel) (pa_cons (pv 5) pa_nil)) pe_int)) (pss_cons (ps_set (i := 5) scDraw.nd rfl (.inl rfl) (pe_op op_mod (pe_callTy call_int1 (by rfl) mi (by decide +kernel) (pa_cons (pe_op op_mul (pv 5) (pe_op op_add (pv 5) pe_int)) pa_nil)) pe_int)) (pss_cons (ps_set (i := 5) scDraw.nd rfl (.inl rfl) (pe_op op_mod (pe_callTy call_int1 (by rfl) mi (by decide +kernel) (pa_cons (pe_op op_mul (pv 5) (pv 5)) pa_nil)) pe_int)) (pss_one (ps_ret (pe_op op_mod (pe_callTy call_int1 (by rfl) mi (by decide +kernel) (pa_cons (pe_op op_fdivN (pv 5) pe_int) pa_nil)) (pv 1)))))))))))))), ?_⟩
    obtain ⟨cells, at_, left, hd, hc, hat, hlen⟩ := hp.ex
    have gl := pen_left c at_ left
    have nc : c ≠ p := ne_of hc hd (by intro z; cases z)
    have fc : less p H c = some (.lst (cells.map V.int)) := less_some hc nc
    -- what is handed back
    have fin : ∀ (H' : Hp) (x : Int) (a' : Nat) (l' : Int), Same (less p H) H' → H' p = some (.dK (penD c a' l')) → a' ≤ b + 1 → Q (.int (x % (m : Int))) H' := by
      intro H' x a' l' s' e' la
      obtain ⟨r, hr, e⟩ := mod_nat x m0
      rw [e]
      exact q H' r hr s' ⟨cells, a', l', e', s' _ _ fc, la, hlen⟩
    have hdiv : ∀ i, CDivN i (m : Int) := fun i => ⟨by omega, by omega⟩
    refine seq_of ?_
    refine ⟨_, rfl, p, _, rfl, gl ▸ DGet.k (k := Sum.inr "left") hd, _, rfl, left, _, rfl, rfl, _, rfl, ite2 (fun z => ?_) (fun z => ?_)⟩
    · refine seq_asg ?_
      refine ⟨_, rfl, p, _, rfl, gl ▸ DGet.k (k := Sum.inr "left") hd, .inl ⟨_, rfl, _, rfl, _, _, rfl, rfl, show (0 : Int) < m by omega, ?_⟩⟩
      refine seq_dput ?_
      refine ⟨_, rfl, p, _, rfl, gl ▸ DGet.k (k := Sum.inr "left") hd, _, rfl, _, _, rfl, rfl, hdiv _, _, rfl, p, _, rfl, DPut.k (k := Sum.inr "left") hd (show 3 < sizeLine by decide), ?_⟩
      rw [pen_put_left]
      refine ⟨_, rfl, fin _ _ at_ _ (less_put less_same) upd_same (by omega)⟩
    · refine next_of ?_
      dsimp only
      refine seq_asg ?_
      refine ⟨_, rfl, p, _, rfl, pen_at c at_ left ▸ DGet.k (k := Sum.inr "at") hd, ?_⟩
      refine seq_dput ?_
      refine ⟨_, rfl, _, _, rfl, rfl, _, rfl, p, _, rfl, DPut.k (k := Sum.inr "at") hd (show 3 < sizeLine by decide), ?_⟩
      have e1 : putK (penD c at_ left) (Sum.inr "at") (V.int ((at_ : Int) + 1)) = penD c (at_ + 1) left := pen_put_at c at_ left (at_ + 1)
      rw [e1]
      have s1 : Same (less p H) (upd H p (.dK (penD c (at_ + 1) left))) := less_put less_same
      have d1 : upd H p (.dK (penD c (at_ + 1) left)) p = some (.dK (penD c (at_ + 1) left)) := upd_same
      generalize upd H p (.dK (penD c (at_ + 1) left)) = H1 at s1 d1 ⊢
      have gc := pen_cells c (at_ + 1) left
      refine seq_of ?_
      refine ⟨_, rfl, p, _, rfl, gc ▸ DGet.k (k := Sum.inr "cells") d1, Nat.zero_le _, fun em nem => ?_⟩
      have s2 := same_fresh (o := .lst []) nem
      have e2 : upd H1 em (.lst []) em = some (.lst []) := upd_same
      have d2 := s2 _ _ d1
      have s12 := s1.trans s2
      generalize upd H1 em (.lst []) = H2 at s2 e2 d2 s12 ⊢
      have hc2 := s12 _ _ fc
      refine ⟨_, _, .lst (SqL.of hc2) (dp_ints cells), .lst (SqL.of e2) .nil, shaped_ints cells, shaped_ints [], _, rfl, ?_⟩
      by_cases hcell : cells = []
      · subst hcell
        have ee : PyData.eqv (.list (([] : List Int).map PyData.int)) (.list []) = true := by
          rw [eqv_list, List.map_nil, PyData.eqvAll]
        rw [ee]
        refine iteT ?_
        refine ⟨_, rfl, _, _, rfl, rfl, .inl (by decide), _, _, rfl, rfl, .inl ⟨_, rfl, _, rfl, _, _, rfl, rfl, show (0 : Int) < m by omega, ?_⟩⟩
        exact fin _ _ (at_ + 1) _ s12 d2 (by omega)
      · have ee : PyData.eqv (.list (cells.map PyData.int)) (.list []) = false := by
          rw [eqv_list]
          match cells, hcell with
          | n :: ns, _ => rw [List.map_cons, PyData.eqvAll]
        rw [ee]
        refine iteF ?_
        refine next_of ?_
        dsimp only
        have lc : 0 < cells.length := List.length_pos_iff.mpr hcell
        have lcm : (cells.map V.int).length = cells.length := List.length_map _
        refine seq_asg ?_
        obtain ⟨r, hr1, er⟩ := mod_nat (at_ : Int) lc
        obtain ⟨cell, hcl⟩ : ∃ cell : Int, (cells.map V.int)[r]? = some (.int cell) := by
          rw [List.getElem?_map, List.getElem?_eq_getElem hr1]
          exact ⟨_, rfl⟩
        have hat2 : atI (cells.map V.int) ((at_ : Int) % ((cells.map V.int).length : Nat)) = some (.int cell) := by
          rw [lcm, er]
          exact atI_nat hcl
        have hpow : CPow 10 18 := ⟨by decide, by decide, by decide⟩
        refine ⟨_, rfl, p, _, rfl, gc ▸ DGet.k (k := Sum.inr "cells") d2, _, rfl, .inl ⟨_, rfl, _, rfl, p, _, rfl, gc ▸ DGet.k (k := Sum.inr "cells") d2, c, _, rfl, .inl (SqL.of hc2), _, _, rfl, rfl, show (0 : Int) < ((cells.map V.int).length : Nat) by omega, c, _, _, .int cell, rfl, rfl, SqL.of hc2, hat2, ?_⟩⟩
        refine seq_of ?_
        refine ⟨_, rfl, _, rfl, p, _, rfl, gc ▸ DGet.k (k := Sum.inr "cells") d2, c, _, rfl, .inl (SqL.of hc2), _, _, rfl, rfl, _, rfl, ite2 (fun c1 => ⟨_, rfl, _, _, rfl, rfl, hpow, _, _, rfl, rfl, _, rfl, ite2 (fun c2 => ?_) (fun c2 => ?_)⟩) (fun c1 => iteF ?_)⟩
        · refine seq_dput ?_
          refine ⟨_, rfl, _, _, rfl, rfl, hpow, _, _, rfl, rfl, _, rfl, _, _, rfl, rfl, hdiv _, _, rfl, p, _, rfl, DPut.k (k := Sum.inr "left") d2 (show 3 < sizeLine by decide), ?_⟩
          rw [pen_put_left]
          refine ⟨_, rfl, _, _, rfl, rfl, hpow, _, _, rfl, rfl, .inl ⟨_, rfl, _, rfl, _, _, rfl, rfl, show (0 : Int) < m by omega, ?_⟩⟩
          exact fin _ _ (at_ + 1) _ (less_put s12) upd_same (by omega)
        all_goals
          refine next_of ?_
          dsimp only
          have b1 := Int.emod_nonneg cell (show (2147483629 : Int) ≠ 0 by decide)
          have b2 := Int.emod_lt_of_pos cell (show (0 : Int) < 2147483629 by decide)
          refine seq_asg ?_
          refine ⟨_, rfl, .inl ⟨_, rfl, _, _, rfl, rfl, show (0 : Int) < 2147483629 by decide, _, _, rfl, rfl, _, rfl, _, _, rfl, rfl, .inl (by decide), _, _, rfl, rfl, _, _, rfl, rfl, .inl ⟨by omega, by omega⟩, _, rfl, _, _, rfl, rfl, .inl (by decide), _, rfl, _, _, rfl, rfl, .inl ⟨by omega, by omega⟩, _, _, rfl, rfl, _, _, rfl, rfl, ?_⟩⟩
          generalize (cell % 2147483629 + 1) * (97 * (at_ : Int) + 40693) + 69623 * (at_ : Int) * (at_ : Int) + 11 = x1
          refine seq_asg ?_
          refine ⟨_, rfl, .inl ⟨_, rfl, _, _, rfl, rfl, show (0 : Int) < 2147483647 by decide, ?_⟩⟩
          have c3 := Int.emod_nonneg x1 (show (2147483647 : Int) ≠ 0 by decide)
          have c4 := Int.emod_lt_of_pos x1 (show (0 : Int) < 2147483647 by decide)
          generalize x1 % 2147483647 = x2 at c3 c4 ⊢
          refine seq_asg ?_
          refine ⟨_, rfl, _, rfl, _, _, rfl, rfl, _, _, rfl, rfl, .inl ⟨by omega, by omega⟩, .inl ⟨_, rfl, _, _, rfl, rfl, show (0 : Int) < 2147483587 by decide, ?_⟩⟩
          generalize x2 * (x2 + 16811) = x3
          have c5 := Int.emod_nonneg x3 (show (2147483587 : Int) ≠ 0 by decide)
          have c6 := Int.emod_lt_of_pos x3 (show (0 : Int) < 2147483587 by decide)
          generalize x3 % 2147483587 = x4 at c5 c6 ⊢
          refine seq_asg ?_
          refine ⟨_, rfl, _, rfl, _, _, rfl, rfl, .inl ⟨by omega, by omega⟩, .inl ⟨_, rfl, _, _, rfl, rfl, show (0 : Int) < 2147483563 by decide, ?_⟩⟩
          refine ⟨_, rfl, _, _, rfl, rfl, ⟨by decide, by decide⟩, .inl ⟨_, rfl, _, rfl, _, _, rfl, rfl, show (0 : Int) < m by omega, ?_⟩⟩
          exact fin _ _ (at_ + 1) _ s12 d2 (by omega)
end
end K35
namespace K35
open PySem PySem.Spec PyProof.Rows L2 KR

abbrev sPen : Stmt := top 50
abbrev nPen : List PySem.Str := ["_law_script"]
theorem scPen : FnScope nPen ["_law_script"] (defScope sPen) := ⟨rfl, rfl, rfl, by decide +kernel, rfl, by decide +kernel, by decide +kernel⟩
def spPen (K : PySem.W.Frag) : Sp := fun vs H Q _ => ∃ (a : Addr) (ns : List Int), vs = [.ref a] ∧ SqL K H a (ns.map V.int) ∧ ns.length ≤ 1000 ∧ ∀ H' p c, H p = none → H c = none → Same H H' → PenAt H' p c 0 → Q (.ref p) H'
theorem cut_ints (ns : List Int) (lo hi : Option Int) : ∃ ms : List Int, cutV (ns.map V.int) lo hi = ms.map V.int ∧ ms.length ≤ ns.length := by
  unfold cutV
  rw [← List.map_drop, ← List.map_take]
  refine ⟨_, rfl, ?_⟩
  rw [List.length_take, List.length_drop]
  omega
section
variable {P : Program} {w : World} {K : PySem.W.Frag} {mg : PySem.Str → Option Value} {base : Heap}
theorem ok_pen {f : Addr} {fd : FuncData} {k : Nat} (F : Fun K "_law_pen" "_law_pen" sPen f fd) (ml : mg "list" = none) : FnOk P w K mg base CX0 (k + 1) f fd ["_law_script"] (spPen K) := by
  refine F.ok scPen (fun vs H Q E h => ?_) (fun cdv A outer s H vs Q E hr h => ?_)
  · obtain ⟨a, ns, rfl, _⟩ := h
    rfl
  · obtain ⟨a, ns, rfl, ha, hl, q⟩ := h
    refine ⟨_, (pss_one (ps_ret (pe_disp (pps_cons pe_str (pe_callTy call_list_of (by rfl) ml (by decide +kernel) (pa_cons (pe_slice sl_list (pv 0) po_none (po_some pe_int)) pa_nil)) (pps_cons pe_str pe_int (pps_cons pe_str pe_int pps_nil))) (by rfl) (by rfl) (fun z => by cases z) (by decide)))), ?_⟩
    intro p np
    have s1 := same_fresh (o := .dK []) np
    have e1 : upd H p (.dK []) p = some (.dK []) := upd_same
    generalize upd H p (.dK []) = H1 at s1 e1 ⊢
    refine ⟨_, rfl, _, rfl, a, _, rfl, s1.seq ha, fun l1 nl1 => ?_⟩
    obtain ⟨ms, em, lm⟩ := cut_ints ns none (some 63)
    rw [em]
    have s2 := same_fresh (o := .lst (ms.map V.int)) nl1
    have e2 : upd H1 l1 (.lst (ms.map V.int)) l1 = some (.lst (ms.map V.int)) := upd_same
    generalize upd H1 l1 (.lst (ms.map V.int)) = H2 at s2 e2 ⊢
    refine ⟨l1, _, rfl, .inl (SqL.of e2), fun l2 nl2 => ?_⟩
    have s3 := same_fresh (o := .lst (ms.map V.int)) nl2
    have e3 : upd H2 l2 (.lst (ms.map V.int)) l2 = some (.lst (ms.map V.int)) := upd_same
    generalize upd H2 l2 (.lst (ms.map V.int)) = H3 at s3 e3 ⊢
    have ep := s3 _ _ (s2 _ _ e1)
    refine ⟨ep, [(Sum.inr "cells", .ref l2), (Sum.inr "at", .int 0), (Sum.inr "left", .int 0)], rfl, show 3 ≤ 15 by decide, ?_⟩
    refine q _ p l2 np ((s1.trans s2).free nl2) (same_put (s1.trans (s2.trans s3)) np) ⟨ms, 0, 0, upd_same, ?_, Nat.le_refl _, by omega⟩
    rw [upd_ne (ne_of e3 ep (by intro z; cases z))]
    exact e3
end

abbrev sBig : Stmt := top 52
abbrev nBig : List PySem.Str := ["_law_pen_here", "_law_many", "_law_found", "_law_k"]
theorem scBig : FnScope nBig ["_law_pen_here", "_law_many"] (defScope sBig) := ⟨rfl, rfl, rfl, by decide +kernel, rfl, by decide +kernel, by decide +kernel⟩
def spBig : Sp := fun vs H Q _ => ∃ (p c : Addr) (b : Nat), vs = [.ref p, .int (10 ^ 30)] ∧ PenAt H p c b ∧ b ≤ 90000 ∧ ∀ H' (x : Nat), x < 10 ^ 30 → Same (less p H) H' → PenAt H' p c (b + 7) → Q (natV x) H'
theorem big_len : ((toString (10 ^ 30 : Int) : String) : PySem.Str).length = 31 := by decide +kernel
section
variable {P : Program} {w : World} {K : PySem.W.Frag} {mg : PySem.Str → Option Value} {base : Heap}
theorem ok_big {f fD : Addr} {fd fdD : FuncData} {k : Nat} (F : Fun K "_law_big" "_law_big" sBig f fd)
    (FD : Fun K "_law_draw" "_law_draw" sDraw fD fdD) (bD : Binds K fdD ["_law_pen_here", "_law_many"] []) (gD : mg "_law_draw" = some (.ref fD)) (GD : FnOk P w K mg base CX0 k fD fdD ["_law_pen_here", "_law_many"] spDraw)
    (ml : mg "len" = none) (ms : mg "str" = none) (mr : mg "range" = none) (mi : mg "int" = none) : FnOk P w K mg base CX0 (k + 1) f fd ["_law_pen_here", "_law_many"] spBig := by
  refine F.ok scBig (fun vs H Q E h => ?_) (fun cdv A outer s H vs Q E hr h => ?_)
  · obtain ⟨p, c, b, rfl, _⟩ := h
    rfl
  · obtain ⟨p, c, b, rfl, hp, hb, q⟩ := h
    refine ⟨_, (pss_cons (ps_set (i := 2) scBig.nd rfl (.inl rfl) pe_int) (pss_cons (ps_for PassesOwn.never rfl (pi_range1 (by rfl) mr (pa_cons (pe_op op_add (pe_op op_fdivN (pe_callB call_len_str (by rfl) ml PySem.boot_len (pa_cons (pe_callTy call_str_int (by rfl) ms (by decide +kernel) (pa_cons (pv 1) pa_nil)) pa_nil)) pe_int) pe_int) pa_nil)) (pg_name (i := 3) scBig.nd rfl (.inl rfl)) (pss_one (ps_set (i := 2) scBig.nd rfl (.inl rfl) (pe_op op_add (pe_op op_mul (pv 2) (pe_op op_pow pe_int pe_int)) (pe_call GD hr (by rfl) gD FD.kp bD .nil pass0 (pa_cons (pv 0) (pa_cons (pe_op op_pow pe_int pe_int) pa_nil))))))) (pss_one (ps_ret (pe_op op_mod (pe_callTy call_int1 (by rfl) mi (by decide +kernel) (pa_cons (pv 2) pa_nil)) (pv 1)))))), ?_⟩
    refine seq_asg ?_
    refine seq_of ?_
    refine ⟨_, rfl, (10 ^ 30 : Int), rfl, by decide +kernel, _, rfl, by rw [big_len]; decide, _, _, rfl, rfl, ⟨by decide, by decide⟩, _, _, rfl, rfl, _, rfl, ?_, ?_, ?_⟩
    · rw [big_len]
      decide
    · rw [big_len]
      decide
    · have e7 : ((((((toString (10 ^ 30 : Int) : String) : PySem.Str).length : Nat) : Int).fdiv 6 + 2).toNat) = 7 := by
        rw [big_len]
        decide
      rw [e7]
      have hpow : CPow 10 6 := ⟨by decide, by decide, by decide⟩
      refine for_it walk_range (fun i σ H' => ∃ (x : Int) (y : Option V), σ = [some (.ref p), some (.int (10 ^ 30)), some (.int x), y] ∧ Same (less p H) H' ∧ PenAt H' p c (b + i)) ?_ (fun _ _ _ _ _ => True.intro) ?_ ?_
      · exact ⟨0, none, rfl, less_same, hp⟩
      · rintro i x σ H1 H2 hi ⟨x0, y, rfl, sm, pa⟩ ⟨rfl, rfl⟩
        refine ⟨_, rfl, _, _, rfl, rfl, hpow, _, _, rfl, rfl, .inr ⟨by decide, by decide⟩, _, rfl, _, _, rfl, rfl, hpow, p, c, 1000000, b + i, rfl, pa, by decide, by decide, by omega, fun H3 x3 lt3 s3 p3 => ?_⟩
        exact ⟨_, _, rfl, rfl, _, _, rfl, (less_mono sm less_none).trans s3, p3⟩
      · rintro σ H1 ⟨x0, y, rfl, sm, pa⟩
        refine ⟨_, rfl, .inl ⟨_, rfl, _, rfl, _, _, rfl, rfl, show (0 : Int) < 10 ^ 30 by decide, ?_⟩⟩
        obtain ⟨r, hr1, er⟩ := mod_nat x0 (m := 10 ^ 30) (by decide)
        have e30 : ((10 ^ 30 : Nat) : Int) = 10 ^ 30 := by decide
        rw [e30] at er
        show Q (V.int (x0 % 10 ^ 30)) H1
        rw [er]
        exact q H1 r hr1 sm pa
end

abbrev sSize : Stmt := top 53
abbrev nSize : List PySem.Str := ["_law_pen_here", "_law_way", "_law_near"]
theorem scSize : FnScope nSize ["_law_pen_here"] (defScope sSize) := ⟨rfl, rfl, rfl, by decide +kernel, rfl, by decide +kernel, by decide +kernel⟩
def spSize : Sp := fun vs H Q _ => ∃ (p c : Addr) (b : Nat), vs = [.ref p] ∧ PenAt H p c b ∧ b ≤ 80000 ∧ ∀ H' (x : Nat), 0 < x → x < 2 ^ 200 → Same (less p H) H' → PenAt H' p c (b + 10) → Q (natV x) H'
section
variable {P : Program} {w : World} {K : PySem.W.Frag} {mg : PySem.Str → Option Value} {base : Heap}
theorem ok_size {f fD fB : Addr} {fd fdD fdB : FuncData} {k : Nat} (F : Fun K "_law_size" "_law_size" sSize f fd)
    (FD : Fun K "_law_draw" "_law_draw" sDraw fD fdD) (bD : Binds K fdD ["_law_pen_here", "_law_many"] []) (gD : mg "_law_draw" = some (.ref fD)) (GD : FnOk P w K mg base CX0 k fD fdD ["_law_pen_here", "_law_many"] spDraw)
    (FB : Fun K "_law_big" "_law_big" sBig fB fdB) (bB : Binds K fdB ["_law_pen_here", "_law_many"] []) (gB : mg "_law_big" = some (.ref fB)) (GB : FnOk P w K mg base CX0 k fB fdB ["_law_pen_here", "_law_many"] spBig)
    (mm : mg "max" = none) : FnOk P w K mg base CX0 (k + 1) f fd ["_law_pen_here"] spSize := by
  refine F.ok scSize (fun vs H Q E h => ?_) (fun cdv A outer s H vs Q E hr h => ?_)
  · obtain ⟨p, c, b, rfl, _⟩ := h
    rfl
  · obtain ⟨p, c, b, rfl, hp, hb, q⟩ := h
    refine ⟨_, (pss_cons (ps_par (i := 1) (j := 2) rfl scSize.nd rfl rfl (by decide) rfl rfl (pa_cons (pe_call GD hr (by rfl) gD FD.kp bD .nil pass0 (pa_cons (pv 0) (pa_cons pe_int pa_nil))) (pa_cons (pe_call GD hr (by rfl) gD FD.kp bD .nil pass0 (pa_cons (pv 0) (pa_cons pe_int pa_nil))) pa_nil)) (by rfl)) (pss_cons (ps_if (pt_cmpR op_eq (pv 1) pe_int (nomark _)) (pss_one (ps_ret (pe_op op_add pe_int (pe_call GD hr (by rfl) gD FD.kp bD .nil pass0 (pa_cons (pv 0) (pa_cons pe_int pa_nil)))))) pss_nil) (pss_cons (ps_if (pt_cmpR op_eq (pv 1) pe_int (nomark _)) (pss_one (ps_ret (pe_op op_sub (pe_op op_pow pe_int pe_int) (pv 2)))) pss_nil) (pss_cons (ps_if (pt_cmpR op_lt (pv 1) pe_int (nomark _)) (pss_one (ps_ret (pe_callB (call_max2 rfl) (by rfl) mm (by decide +kernel) (pa_cons pe_int (pa_cons (pe_op op_add (pe_op op_sub (pe_op op_oneShl pe_int (pe_op op_addN pe_int (pe_call GD hr (by rfl) gD FD.kp bD .nil pass0 (pa_cons (pv 0) (pa_cons pe_int pa_nil))))) pe_int) (pv 2)) pa_nil))))) pss_nil) (pss_one (ps_ret (pe_op op_add pe_int (pe_call GB hr (by rfl) gB FB.kp bB .nil pass0 (pa_cons (pv 0) (pa_cons (pe_op op_pow pe_int pe_int) pa_nil)))))))))), ?_⟩
    refine seq_of ?_
    refine ⟨_, rfl, p, c, 6, b, rfl, hp, by decide, by decide, by omega, fun H1 way lw s1 p1 => ?_⟩
    refine ⟨_, rfl, p, c, 5, b + 1, rfl, p1, by decide, by decide, by omega, fun H2 near ln s2 p2 => ?_⟩
    have s12 := (less_mono s1 less_none).trans s2
    refine ⟨_, _, rfl, ?_⟩
    dsimp only
    refine seq_of ?_
    refine ⟨_, rfl, natV_scal way 0, _, rfl, ite2 (fun z => ?_) (fun z => ?_)⟩
    · refine ⟨_, rfl, p, c, 12, b + 2, rfl, p2, by decide, by decide, by omega, fun H3 x lx s3 p3 => ?_⟩
      refine ⟨_, _, rfl, rfl, ?_⟩
      have e : V.int (1 + ((x : Nat) : Int)) = natV (1 + x) := by
        unfold natV
        congr 1
      show Q (V.int (1 + ((x : Nat) : Int))) H3
      rw [e]
      exact q H3 (1 + x) (by omega) (Nat.lt_trans (show 1 + x < 100 by omega) (by decide)) ((less_mono s12 less_none).trans s3) (p3.mono (by omega))
    · refine next_of ?_
      dsimp only
      refine seq_of ?_
      refine ⟨_, rfl, natV_scal way 1, _, rfl, ite2 (fun z => ?_) (fun z => ?_)⟩
      · refine ⟨_, _, rfl, rfl, ⟨by decide, by decide, by decide⟩, _, rfl, _, _, rfl, rfl, ?_⟩
        have e : V.int ((10 : Int) ^ (30 : Int).toNat - ((near : Nat) : Int)) = natV (10 ^ 30 - near) := by
          unfold natV
          congr 1
          have : (10 : Int) ^ (30 : Int).toNat = 1000000000000000000000000000000 := by decide
          have h2 : (10 : Nat) ^ 30 = 1000000000000000000000000000000 := by decide
          rw [this, h2]
          omega
        show Q (V.int ((10 : Int) ^ (30 : Int).toNat - ((near : Nat) : Int))) H2
        rw [e]
        have h2 : (10 : Nat) ^ 30 = 1000000000000000000000000000000 := by decide
        exact q H2 _ (by rw [h2]; omega) (Nat.lt_of_le_of_lt (Nat.sub_le _ _) (by decide)) s12 (p2.mono (by omega))
      · refine next_of ?_
        dsimp only
        refine seq_of ?_
        refine ⟨_, rfl, _, _, rfl, rfl, _, rfl, ite2 (fun z => ?_) (fun z => ?_)⟩
        · refine ⟨_, rfl, p, c, 98, b + 2, rfl, p2, by decide, by decide, by omega, fun H3 x lx s3 p3 => ?_⟩
          refine ⟨1, x, rfl, rfl, 1 + x, rfl, rfl, by omega, _, _, rfl, rfl, _, rfl, _, _, rfl, rfl, 1, _, rfl, ?_⟩
          have k1 : (2 : Int) ^ (1 + x) = (((2 : Nat) ^ (1 + x) : Nat) : Int) := by norm_cast
          have k2 : 2 ^ (1 + x) ≤ 2 ^ 98 := Nat.pow_le_pow_right (by decide) (by omega)
          have k3 : (2 : Nat) ^ 98 + 5 < 2 ^ 200 := by decide
          have k4 : 2 ^ 1 ≤ 2 ^ (1 + x) := Nat.pow_le_pow_right (by decide) (by omega)
          have e : ∃ n : Nat, 0 < n ∧ n < 2 ^ 200 ∧ (if (2 : Int) ^ (1 + x) - 2 + ((near : Nat) : Int) > 1 then (2 : Int) ^ (1 + x) - 2 + ((near : Nat) : Int) else 1) = (n : Int) := by
            rw [k1]
            generalize (2 : Nat) ^ (1 + x) = y at k2 k4
            by_cases c : ((y : Nat) : Int) - 2 + ((near : Nat) : Int) > 1
            · rw [if_pos c]
              exact ⟨y - 2 + near, by omega, by omega, by omega⟩
            · rw [if_neg c]
              exact ⟨1, by decide, by decide, rfl⟩
          obtain ⟨n, n0, n1, en⟩ := e
          show Q (V.int (if (2 : Int) ^ (1 + x) - 2 + ((near : Nat) : Int) > 1 then (2 : Int) ^ (1 + x) - 2 + ((near : Nat) : Int) else 1)) H3
          rw [en]
          exact q H3 n n0 n1 ((less_mono s12 less_none).trans s3) (p3.mono (by omega))
        · refine next_of ?_
          dsimp only
          refine ⟨_, rfl, _, _, rfl, rfl, ⟨by decide, by decide, by decide⟩, p, c, b + 2, rfl, p2, by omega, fun H3 x lx s3 p3 => ?_⟩
          refine ⟨_, _, rfl, rfl, ?_⟩
          have e : V.int (1 + ((x : Nat) : Int)) = natV (1 + x) := by
            unfold natV
            congr 1
          show Q (V.int (1 + ((x : Nat) : Int))) H3
          rw [e]
          have h2 : (10 : Nat) ^ 30 + 1 < 2 ^ 200 := by decide
          exact q H3 (1 + x) (by omega) (by omega) ((less_mono s12 less_none).trans s3) (p3.mono (by omega))
end
end K35
namespace K35
open PySem PySem.Spec PyProof.Rows L2 KR
/-- rows that name places below m -/
def Below (R : KM.Rows) (m : Nat) : Prop := ∀ i, i < R.length → (KM.rowAt R i).1 < m ∧ (KM.rowAt R i).2.1 < m ∧ (KM.rowAt R i).2.2 ≤ 1
theorem Below.nil {m : Nat} : Below [] m := fun i h => absurd h (Nat.not_lt_zero i)
theorem Below.snoc {R : KM.Rows} {m : Nat} {r : KM.Row} (h : Below R m) (h0 : r.1 < m) (h1 : r.2.1 < m) (h2 : r.2.2 ≤ 1) : Below (R ++ [r]) m := fun i hi => by
  rw [List.length_append, List.length_singleton] at hi
  rcases Nat.lt_or_ge i R.length with lt | ge
  · rw [rowAt_snoc_lt lt]
    exact h i lt
  · have e : i = R.length := by omega
    subst e
    rw [rowAt_snoc_len]
    exact ⟨h0, h1, h2⟩
/-- rows stay where only the pen is written -/
theorem RowsT.less {K : PySem.W.Frag} {H : Hp} {ys : List V} {T : KM.Rows} {p c : Addr} {b : Nat} (h : RowsT K H ys T) (pa : PenAt H p c b) : RowsT K (less p H) ys T :=
  ⟨h.1, fun i hi => let ⟨q, a, e⟩ := h.2 i hi; ⟨q, a, less_some e (pa.ne e (fun _ z => by cases z))⟩⟩

abbrev sRule : Stmt := top 39
abbrev nRule : List PySem.Str := ["_law_pen_here", "_law_most", "_law_many", "_law_way", "_law_at", "_law_rows", "_law_near", "_law_far"]
theorem scRule : FnScope nRule ["_law_pen_here", "_law_most"] (defScope sRule) := ⟨rfl, rfl, rfl, by decide +kernel, rfl, by decide +kernel, by decide +kernel⟩
def spRule (K : PySem.W.Frag) : Sp := fun vs H Q _ => ∃ (p c : Addr) (b : Nat), vs = [.ref p, natV 6] ∧ PenAt H p c b ∧ b ≤ 70000 ∧
  ∀ H' l ys R, H l = none → Same (less p H) H' → H' l = some (.lst ys) → RowsT K H' ys R → Below R R.length → 0 < R.length → R.length ≤ 6 → PenAt H' p c (b + 30) → Q (.ref l) H'
theorem walk_rangeN {n : Nat} : Walk (Itr 0 n) n (fun _ => True) (YFn natV) := walk_range.mono (fun _ h => h) fun i H x H' _ _ y => by
  obtain ⟨a, rfl⟩ := y
  refine ⟨a, ?_⟩
  show V.int (0 + ((i : Nat) : Int)) = natV i
  unfold natV
  rw [Int.zero_add]
theorem min_nat (n m : Nat) : ∃ x : Nat, x ≤ n ∧ (if ((m : Nat) : Int) < ((n : Nat) : Int) then ((m : Nat) : Int) else ((n : Nat) : Int)) = (x : Int) := by
  by_cases h : ((m : Nat) : Int) < ((n : Nat) : Int)
  · rw [if_pos h]
    exact ⟨m, by omega, rfl⟩
  · rw [if_neg h]
    exact ⟨n, Nat.le_refl _, rfl⟩
section
variable {P : Program} {w : World} {K : PySem.W.Frag} {mg : PySem.Str → Option Value} {base : Heap}
theorem ok_rule {f fD : Addr} {fd fdD : FuncData} {k : Nat} (F : Fun K "_law_rule" "_law_rule" sRule f fd)
    (FD : Fun K "_law_draw" "_law_draw" sDraw fD fdD) (bD : Binds K fdD ["_law_pen_here", "_law_many"] []) (gD : mg "_law_draw" = some (.ref fD)) (GD : FnOk P w K mg base CX0 k fD fdD ["_law_pen_here", "_law_many"] spDraw)
    (mr : mg "range" = none) (mm : mg "min" = none) : FnOk P w K mg base CX0 (k + 1) f fd ["_law_pen_here", "_law_most"] (spRule K) := by
  refine F.ok scRule (fun vs H Q E h => ?_) (fun cdv A outer s H vs Q E hr h => ?_)
  · obtain ⟨p, c, b, rfl, _⟩ := h
    rfl
  · obtain ⟨p, c, b, rfl, hp, hb, q⟩ := h
    refine ⟨_, (pss_cons (ps_asg (pe_tup (pa_cons (pe_op op_addN pe_int (pe_call GD hr (by rfl) gD FD.kp bD .nil pass0 (pa_cons (pv 0) (pa_cons (pv 1) pa_nil)))) (pa_cons (pe_call GD hr (by rfl) gD FD.kp bD .nil pass0 (pa_cons (pv 0) (pa_cons pe_int pa_nil))) pa_nil))) (pg_tup rfl (pgs_cons (pg_name (i := 2) scRule.nd rfl (.inr rfl)) (pgs_cons (pg_name (i := 3) scRule.nd rfl (.inl rfl)) pgs_nil)))) (pss_cons (ps_if (pt_cmpR op_gt (pv 3) pe_int (nomark _)) (pss_one (ps_ret (pe_lc (own := [("_law_at", 4)]) rfl scRule.nd (pi_range1 (by rfl) mr (pa_cons (pv 2) pa_nil)) (blkOk_by (own := [("_law_at", 4)]) (N := nRule) (sc := defScope sRule) (by decide +kernel)) (fun _ _ _ _ _ => (pg_name (i := 4) scRule.nd rfl (.inl rfl))) (fun _ _ _ _ _ => pts_nil) (fun _ _ _ _ _ => (pe_tup (pa_cons (pe_call GD hr (by rfl) gD FD.kp bD .nil pass0 (pa_cons (pv 0) (pa_cons (pv 2) pa_nil))) (pa_cons (pe_call GD hr (by rfl) gD FD.kp bD .nil pass0 (pa_cons (pv 0) (pa_cons (pv 2) pa_nil))) (pa_cons (pe_call GD hr (by rfl) gD FD.kp bD .nil pass0 (pa_cons (pv 0) (pa_cons pe_int pa_nil))) pa_nil)))))))) pss_nil) (pss_cons (ps_set (i := 5) scRule.nd rfl (.inl rfl) (pe_lst pa_nil)) (pss_cons (ps_for PassesOwn.never rfl (pi_range1 (by rfl) mr (pa_cons (pe_op op_subN (pv 2) pe_int) pa_nil)) (pg_name (i := 4) scRule.nd rfl (.inl rfl)) (pss_cons (ps_par (i := 6) (j := 7) rfl scRule.nd rfl rfl (by decide) rfl rfl (pa_cons (pe_op op_addN (pe_op op_addN (pv 4) pe_int) (pe_call GD hr (by rfl) gD FD.kp bD .nil pass0 (pa_cons (pv 0) (pa_cons pe_int pa_nil)))) (pa_cons (pe_op op_addN (pe_op op_addN (pv 4) pe_int) (pe_call GD hr (by rfl) gD FD.kp bD .nil pass0 (pa_cons (pv 0) (pa_cons pe_int pa_nil)))) pa_nil)) (by rfl)) (pss_one (ps_expr (pe_bm PySem.F.plainAttrs_list PySem.F.slot_list_append PySem.F.type_list_append mt_append (pv 5) (pa_cons (pe_tup (pa_cons (pe_callB (call_min2 rfl) (by rfl) mm (by decide +kernel) (pa_cons (pe_op op_subN (pv 2) pe_int) (pa_cons (pv 6) pa_nil))) (pa_cons (pe_callB (call_min2 rfl) (by rfl) mm (by decide +kernel) (pa_cons (pe_op op_subN (pv 2) pe_int) (pa_cons (pv 7) pa_nil))) (pa_cons (pe_call GD hr (by rfl) gD FD.kp bD .nil pass0 (pa_cons (pv 0) (pa_cons pe_int pa_nil))) pa_nil)))) pa_nil)))))) (pss_one (ps_ret (pe_op op_cat (pv 5) (pe_lst (pa_cons (pe_tup (pa_cons (pe_op op_subN (pv 2) pe_int) (pa_cons (pe_op op_subN (pv 2) pe_int) (pa_cons (pv 3) pa_nil)))) pa_nil))))))))), ?_⟩
    refine seq_asg ?_
    refine ⟨_, rfl, _, rfl, p, c, 6, b, rfl, hp, by decide, by decide, by omega, fun H1 x1 l1 s1 p1 => ?_⟩
    refine ⟨1, x1, rfl, rfl, ?_⟩
    refine ⟨_, rfl, p, c, 4, b + 1, rfl, p1, by decide, by decide, by omega, fun H2 way lw s2 p2 => ?_⟩
    refine ⟨show 2 ≤ sizeLine by decide, fun T nT => ?_⟩
    have s02 := (less_mono s1 less_none).trans s2
    generalize hmn : 1 + x1 = many
    have hm0 : 0 < many := by omega
    have hm6 : many ≤ 6 := by omega
    have s3 := same_fresh (o := .tup [.int ((many : Nat) : Int), natV way]) nT
    have eT : upd H2 T (.tup [.int ((many : Nat) : Int), natV way]) T = some (.tup [natV many, natV way]) := upd_same
    have p3 := p2.same s3
    generalize upd H2 T (.tup [.int ((many : Nat) : Int), natV way]) = H3 at s3 eT p3 ⊢
    refine ⟨T, _, rfl, .inl (.inl eT), rfl, _, _, rfl, _, _, rfl, rfl, ?_⟩
    have s03 := s02.trans s3
    refine seq_of ?_
    refine ⟨_, rfl, _, _, rfl, rfl, _, rfl, ite2 (fun z => ?_) (fun z => ?_)⟩
    · -- rows by chance
      refine ⟨_, rfl, (many : Int), rfl, by omega, by omega, ?_⟩
      have e0 : ((many : Int)).toNat = many := by omega
      rw [e0]
      refine fun D nD => lc_it walk_rangeN (fun i H' => Same (less p H) H' ∧ PenAt H' p c (b + 2 + 3 * i) ∧ ∃ ys R, H' D = some (.lst ys) ∧ RowsT K H' ys R ∧ Below R many ∧ R.length = i) ?_ (fun _ _ _ _ => True.intro) ?_ ?_
      · have sD := same_fresh (o := .lst []) nD
        exact ⟨s03.trans sD, p3.same sD, [], [], upd_same, RowsT.nil, Below.nil, rfl⟩
      · rintro i x H4 H5 hi ⟨sm, pa, ys, R, eD, rt, bl, lR⟩ ⟨rfl, rfl⟩
        refine ⟨rfl, ?_⟩
        refine ⟨_, rfl, _, rfl, p, c, many, _, rfl, pa, hm0, by omega, by omega, fun H6 a0 la0 t6 p6 => ?_⟩
        refine ⟨_, rfl, _, rfl, p, c, many, _, rfl, p6, hm0, by omega, by omega, fun H7 a1 la1 t7 p7 => ?_⟩
        refine ⟨_, rfl, p, c, 2, _, rfl, p7, by decide, by decide, by omega, fun H8 a2 la2 t8 p8 => ?_⟩
        refine ⟨show 3 ≤ sizeLine by decide, fun U nU => ?_⟩
        have t48 := (less_mono ((less_mono t6 less_none).trans t7) less_none).trans t8
        have rt8 := (rt.less pa).same t48
        have eD8 := pa.stay t48 eD (fun _ z => by cases z)
        have sU := same_fresh (o := .tup [natV a0, natV a1, natV a2]) nU
        have eU : upd H8 U (.tup [natV a0, natV a1, natV a2]) U = some (.tup (rowV (a0, a1, a2))) := upd_same
        have p9 := p8.same sU
        generalize upd H8 U (.tup [natV a0, natV a1, natV a2]) = H9 at sU eU p9 ⊢
        have nDc := (p3.fresh nD).1
        have nDp := (p3.fresh nD).2
        refine ⟨ys, sU _ _ eD8, ?_, ?_⟩
        · rw [rt.1, lR]
          exact small_line (m := 1000) (by omega) (by decide)
        · have sH9 := ((less_mono sm less_none).trans t48).trans sU
          refine ⟨same_put sH9 ?_, ((p9.mono (by omega)).put (sU _ _ eD8) nDc), ys ++ [.ref U], R ++ [(a0, a1, a2)], upd_same, (rt8.same sU).app (sU _ _ eD8) eU, bl.snoc la0 la1 (by show a2 ≤ 1; omega), by rw [List.length_append, lR]; rfl⟩
          exact s03.free nD
      · rintro H4 ⟨sm, pa, ys, R, eD, rt, bl, lR⟩
        have nDH : less p H D = none := s03.free nD
        have nDp := (p3.fresh nD).2
        have nH : H D = none := by
          unfold less at nDH
          rwa [if_neg nDp] at nDH
        exact q H4 D ys R nH sm eD rt (by rw [lR]; exact bl) (by omega) (by omega) (pa.mono (by omega))
    · -- rows for a finite set
      refine next_of ?_
      dsimp only
      have hw1 : way ≤ 1 := by
        have : ¬ (1 : Int) < (way : Int) := fun y => z (decide_eq_true y)
        omega
      refine seq_asg ?_
      refine ⟨Nat.zero_le _, fun D nD => ?_⟩
      have sD := same_fresh (o := .lst []) nD
      have eD : upd H3 D (.lst []) D = some (.lst []) := upd_same
      have p4 := p3.same sD
      generalize upd H3 D (.lst []) = H4 at sD eD p4 ⊢
      have nDc := (p3.fresh nD).1
      have nDp := (p3.fresh nD).2
      have nDH : less p H D = none := s03.free nD
      have e1 : ((many - 1 : Nat) : Int).toNat = many - 1 := by omega
      refine seq_of ?_
      refine ⟨_, rfl, many, 1, rfl, rfl, hm0, ((many - 1 : Nat) : Int), rfl, by omega, by omega, ?_⟩
      rw [e1]
      refine for_it walk_rangeN (fun i σ H' => ∃ y4 y6 y7 ys R, σ = [some (.ref p), some (natV 6), some (natV many), some (natV way), y4, some (.ref D), y6, y7] ∧ Same (less p H) H' ∧ PenAt H' p c (b + 2 + 3 * i) ∧ H' D = some (.lst ys) ∧ RowsT K H' ys R ∧ Below R many ∧ R.length = i) ?_ (fun _ _ _ _ _ => True.intro) ?_ ?_
      · exact ⟨none, none, none, [], [], rfl, s03.trans sD, p4, eD, RowsT.nil, Below.nil, rfl⟩
      · rintro i x σ H5 H6 hi ⟨y4, y6, y7, ys, R, rfl, sm, pa, eD', rt, bl, lR⟩ ⟨rfl, rfl⟩
        refine seq_of ?_
        refine ⟨_, rfl, i, 1, rfl, rfl, _, rfl, p, c, 2, _, rfl, pa, by decide, by decide, by omega, fun H7 a0 la0 t7 p7 => ?_⟩
        refine ⟨i + 1, a0, rfl, rfl, _, rfl, i, 1, rfl, rfl, _, rfl, p, c, 2, _, rfl, p7, by decide, by decide, by omega, fun H8 a1 la1 t8 p8 => ?_⟩
        refine ⟨i + 1, a1, rfl, rfl, _, _, rfl, ?_⟩
        dsimp only
        refine ⟨_, rfl, .inl ⟨rfl, _, SqL.of (p7.stay t8 (pa.stay t7 eD' (fun _ z => by cases z)) (fun _ z => by cases z))⟩, ?_⟩
        obtain ⟨m0, lm0, em0⟩ := min_nat (many - 1) (i + 1 + a0)
        obtain ⟨m1, lm1, em1⟩ := min_nat (many - 1) (i + 1 + a1)
        refine ⟨_, rfl, many, 1, rfl, rfl, hm0, _, rfl, _, _, rfl, ?_⟩
        rw [em0]
        refine ⟨_, rfl, many, 1, rfl, rfl, hm0, _, rfl, _, _, rfl, ?_⟩
        rw [em1]
        refine ⟨_, rfl, p, c, 2, _, rfl, p8, by decide, by decide, by omega, fun H9 a2 la2 t9 p9 => ?_⟩
        refine ⟨show 3 ≤ sizeLine by decide, fun U nU => ?_⟩
        have t59 := (less_mono ((less_mono t7 less_none).trans t8) less_none).trans t9
        have rt9 := (rt.less pa).same t59
        have eD9 := pa.stay t59 eD' (fun _ z => by cases z)
        have sU := same_fresh (o := .tup [.int ((m0 : Nat) : Int), .int ((m1 : Nat) : Int), natV a2]) nU
        have eU : upd H9 U (.tup [.int ((m0 : Nat) : Int), .int ((m1 : Nat) : Int), natV a2]) U = some (.tup (rowV (m0, m1, a2))) := upd_same
        have p10 := p9.same sU
        generalize upd H9 U (.tup [.int ((m0 : Nat) : Int), .int ((m1 : Nat) : Int), natV a2]) = H10 at sU eU p10 ⊢
        refine ⟨D, ys, _, rfl, rfl, sU _ _ eD9, ?_, ?_⟩
        · rw [rt.1, lR]
          exact small_line (m := 1000) (by omega) (by decide)
        · have sH := ((less_mono sm less_none).trans t59).trans sU
          exact ⟨_, _, _, ys ++ [.ref U], R ++ [(m0, m1, a2)], rfl, same_put sH nDH, ((p10.mono (by omega)).put (sU _ _ eD9) nDc), upd_same, (rt9.same sU).app (sU _ _ eD9) eU, bl.snoc (by show m0 < many; omega) (by show m1 < many; omega) (by show a2 ≤ 1; omega), by rw [List.length_append, lR]; rfl⟩
      · rintro σ H5 ⟨y4, y6, y7, ys, R, rfl, sm, pa, eD', rt, bl, lR⟩
        refine ⟨_, rfl, _, rfl, many, 1, rfl, rfl, hm0, _, rfl, many, 1, rfl, rfl, hm0, _, rfl, show 3 ≤ sizeLine by decide, fun U nU => ?_⟩
        have sU := same_fresh (o := .tup [.int ((many - 1 : Nat) : Int), .int ((many - 1 : Nat) : Int), natV way]) nU
        have eU : upd H5 U (.tup [.int ((many - 1 : Nat) : Int), .int ((many - 1 : Nat) : Int), natV way]) U = some (.tup (rowV (many - 1, many - 1, way))) := upd_same
        have p6 := pa.same sU
        generalize upd H5 U (.tup [.int ((many - 1 : Nat) : Int), .int ((many - 1 : Nat) : Int), natV way]) = H6 at sU eU p6 ⊢
        refine ⟨show 1 ≤ sizeLine by decide, fun l1 nl1 => ?_⟩
        have s7 := same_fresh (o := .lst [.ref U]) nl1
        have e7 : upd H6 l1 (.lst [.ref U]) l1 = some (.lst [.ref U]) := upd_same
        have p7 := p6.same s7
        generalize upd H6 l1 (.lst [.ref U]) = H7 at s7 e7 p7 ⊢
        have s57 := sU.trans s7
        refine ⟨D, l1, ys, [.ref U], rfl, rfl, s57 _ _ eD', e7, ?_, fun l2 nl2 => ?_⟩
        · rw [rt.1, lR]
          exact Nat.le_of_lt (small_line (m := 1000) (by show many - 1 + 1 ≤ 1000; omega) (by decide))
        · have s8 := same_fresh (o := .lst (ys ++ [.ref U])) nl2
          have sH := (sm.trans s57)
          have n2 : less p H l2 = none := sH.free nl2
          have nH : H l2 = none := by
            unfold less at n2
            rwa [if_neg (p7.fresh nl2).2] at n2
          refine q _ l2 (ys ++ [.ref U]) (R ++ [(many - 1, many - 1, way)]) nH (sH.trans s8) upd_same (((rt.same s57).snoc (s7 _ _ eU)).same s8) ?_ ?_ ?_ ((p7.same s8).mono (by omega))
          · have lr : (R ++ [(many - 1, many - 1, way)]).length = many := by
              rw [List.length_append, lR]
              show many - 1 + 1 = many
              omega
            rw [lr]
            exact bl.snoc (by show many - 1 < many; omega) (by show many - 1 < many; omega) hw1
          · rw [List.length_append]
            exact Nat.lt_of_lt_of_le (show 0 < 1 by decide) (Nat.le_add_left _ _)
          · rw [List.length_append, lR]
            show many - 1 + 1 ≤ 6
            omega
end
end K35
namespace K35
open PySem PySem.Spec PyProof.Rows L2 KR
/-- so far the rows are two copies of each row -/
def DblTo (R P : KM.Rows) : Prop := ∀ k, k < P.length → (KM.rowAt P k).1 < 2 * R.length ∧ (KM.rowAt P k).2.1 < 2 * R.length ∧ (KM.rowAt P k).1 % R.length = (KM.rowAt R (k % R.length)).1 ∧ (KM.rowAt P k).2.1 % R.length = (KM.rowAt R (k % R.length)).2.1 ∧ (KM.rowAt P k).2.2 = (KM.rowAt R (k % R.length)).2.2
theorem DblTo.snoc {R P : KM.Rows} {j d0 d1 cp : Nat} (o : KM.OkR R) (h : DblTo R P) (hj : j < R.length) (hP : P.length = R.length * cp + j) (h0 : d0 < 2) (h1 : d1 < 2) :
    DblTo R (P ++ [((KM.rowAt R j).1 + R.length * d0, (KM.rowAt R j).2.1 + R.length * d1, (KM.rowAt R j).2.2)]) := fun k hk => by
  rw [List.length_append, List.length_singleton] at hk
  rcases Nat.lt_or_ge k P.length with lt | ge
  · rw [rowAt_snoc_lt lt]
    exact h k lt
  · have e : k = P.length := by omega
    rw [e, rowAt_snoc_len]
    have em : P.length % R.length = j := by
      rw [hP, Nat.mul_add_mod, Nat.mod_eq_of_lt hj]
    obtain ⟨o0, o1, _⟩ := o j hj
    rw [em]
    refine ⟨?_, ?_, ?_, ?_, rfl⟩
    · rcases (show d0 = 0 ∨ d0 = 1 by omega) with rfl | rfl <;> simp <;> omega
    · rcases (show d1 = 0 ∨ d1 = 1 by omega) with rfl | rfl <;> simp <;> omega
    · show ((KM.rowAt R j).1 + R.length * d0) % R.length = _
      rw [Nat.add_mul_mod_self_left, Nat.mod_eq_of_lt o0]
    · show ((KM.rowAt R j).2.1 + R.length * d1) % R.length = _
      rw [Nat.add_mul_mod_self_left, Nat.mod_eq_of_lt o1]

abbrev sDbl : Stmt := top 40
abbrev nDbl : List PySem.Str := ["_law_pen_here", "_law_rows", "_law_many", "_law_found", "_law_copy", "_law_row", "_law_near", "_law_far"]
theorem scDbl : FnScope nDbl ["_law_pen_here", "_law_rows"] (defScope sDbl) := ⟨rfl, rfl, rfl, by decide +kernel, rfl, by decide +kernel, by decide +kernel⟩
def spDbl (K : PySem.W.Frag) : Sp := fun vs H Q _ => ∃ (p c a : Addr) (b : Nat) (as : List V) (R : KM.Rows), vs = [.ref p, .ref a] ∧ PenAt H p c b ∧ b ≤ 70000 ∧ H a = some (.lst as) ∧ RowsT K H as R ∧ KM.OkR R ∧ 0 < R.length ∧ R.length ≤ 6 ∧
  ∀ H' l ys R2, H l = none → Same (less p H) H' → H' l = some (.lst ys) → RowsT K H' ys R2 → KM.Doubled R R2 → PenAt H' p c (b + 30) → Q (.ref l) H'
section
variable {P : Program} {w : World} {K : PySem.W.Frag} {mg : PySem.Str → Option Value} {base : Heap}
theorem ok_dbl {f fD : Addr} {fd fdD : FuncData} {k : Nat} (F : Fun K "_law_doubled" "_law_doubled" sDbl f fd)
    (FD : Fun K "_law_draw" "_law_draw" sDraw fD fdD) (bD : Binds K fdD ["_law_pen_here", "_law_many"] []) (gD : mg "_law_draw" = some (.ref fD)) (GD : FnOk P w K mg base CX0 k fD fdD ["_law_pen_here", "_law_many"] spDraw)
    (mr : mg "range" = none) (ml : mg "len" = none) : FnOk P w K mg base CX0 (k + 1) f fd ["_law_pen_here", "_law_rows"] (spDbl K) := by
  refine F.ok scDbl (fun vs H Q E h => ?_) (fun cdv A outer s H vs Q E hr h => ?_)
  · obtain ⟨p, c, a, b, as, R, rfl, _⟩ := h
    rfl
  · obtain ⟨p, c, a, b, as, R, rfl, hp, hb, ha, hR, oR, pR, lR, q⟩ := h
    refine ⟨_, (pss_cons (ps_par (i := 2) (j := 3) rfl scDbl.nd rfl rfl (by decide) rfl rfl (pa_cons (pe_callB call_len_seq (by rfl) ml PySem.boot_len (pa_cons (pv 1) pa_nil)) (pa_cons (pe_lst pa_nil) pa_nil)) (by rfl)) (pss_cons (ps_for PassesOwn.never rfl (pi_range1 (by rfl) mr (pa_cons pe_int pa_nil)) (pg_name (i := 4) scDbl.nd rfl (.inl rfl)) (pss_one (ps_for PassesOwn.never rfl (pi_list (pv 1)) (pg_name (i := 5) scDbl.nd rfl (.inl rfl)) (pss_cons (ps_par (i := 6) (j := 7) rfl scDbl.nd rfl rfl (by decide) rfl rfl (pa_cons (pe_op op_addN (pe_ix (r := rIxT K) ix_tup (pv 5) pe_int (fun _ _ => rfl)) (pe_op op_mulN (pv 2) (pe_call GD hr (by rfl) gD FD.kp bD .nil pass0 (pa_cons (pv 0) (pa_cons pe_int pa_nil))))) (pa_cons (pe_op op_addN (pe_ix (r := rIxT K) ix_tup (pv 5) pe_int (fun _ _ => rfl)) (pe_op op_mulN (pv 2) (pe_call GD hr (by rfl) gD FD.kp bD .nil pass0 (pa_cons (pv 0) (pa_cons pe_int pa_nil))))) pa_nil)) (by rfl)) (pss_one (ps_expr (pe_bm PySem.F.plainAttrs_list PySem.F.slot_list_append PySem.F.type_list_append mt_append (pv 3) (pa_cons (pe_tup (pa_cons (pv 6) (pa_cons (pv 7) (pa_cons (pe_ix (r := rIxT K) ix_tup (pv 5) pe_int (fun _ _ => rfl)) pa_nil)))) pa_nil)))))))) (pss_one (ps_ret (pv 3))))), ?_⟩
    have lA : as.length = R.length := hR.1
    refine seq_of ?_
    refine ⟨_, rfl, a, as, rfl, .inl (SqL.of ha), ?_⟩
    rw [lA]
    refine ⟨Nat.zero_le _, fun D nD => ?_⟩
    have nDc := (hp.fresh nD).1
    have nDp := (hp.fresh nD).2
    have sD := same_fresh (o := .lst []) nD
    have eD : upd H D (.lst []) D = some (.lst []) := upd_same
    have p1 := hp.same sD
    generalize upd H D (.lst []) = H1 at sD eD p1 ⊢
    have nDl : less p H D = none := by
      unfold less
      rw [if_neg nDp]
      exact nD
    have al : less p H a = some (.lst as) := less_some ha (hp.ne ha (fun _ z => by cases z))
    have Rl := hR.less hp
    refine ⟨_, _, rfl, ?_⟩
    dsimp only
    refine seq_of ?_
    refine ⟨2, rfl, by decide, by decide, ?_⟩
    refine for_it (walk_rangeN (n := 2)) (fun i σ H' => ∃ y4 y5 y6 y7 ys P, σ = [some (.ref p), some (.ref a), some (natV R.length), some (.ref D), y4, y5, y6, y7] ∧ Same (less p H) H' ∧ PenAt H' p c (b + 12 * i) ∧ H' D = some (.lst ys) ∧ RowsT K H' ys P ∧ DblTo R P ∧ P.length = R.length * i) ?_ (fun _ _ _ _ _ => True.intro) ?_ ?_
    · exact ⟨none, none, none, none, [], [], rfl, less_same.trans sD, p1, eD, RowsT.nil, (fun k h => absurd h (Nat.not_lt_zero k)), rfl⟩
    · rintro i x σ H2 H3 hi ⟨y4, y5, y6, y7, ys, P, rfl, sm, pa, eD2, rt, db, lP⟩ ⟨rfl, rfl⟩
      refine ⟨_, rfl, a, rfl, ⟨_, SqL.of (sm _ _ al)⟩, for_list (K := K) (a := a) (xs := as) (fun j σ H' => ∃ y5 y6 y7 ys P, σ = [some (.ref p), some (.ref a), some (natV R.length), some (.ref D), some (natV i), y5, y6, y7] ∧ Same (less p H) H' ∧ PenAt H' p c (b + 12 * i + 2 * j) ∧ H' D = some (.lst ys) ∧ RowsT K H' ys P ∧ DblTo R P ∧ P.length = R.length * i + j) ?_ ?_ ?_ ?_⟩
      · exact ⟨y5, y6, y7, ys, P, rfl, sm, pa, eD2, rt, db, lP⟩
      · rintro j σ H' _ ⟨_, _, _, _, _, _, sm', _⟩
        exact SqL.of (sm' _ _ al)
      · rintro j x σ H4 hj ⟨z5, z6, z7, zs, P', rfl, sm', pa', eD', rt', db', lP'⟩
        have hjR : j < R.length := by
          have := (List.getElem?_eq_some_iff.mp hj).1
          omega
        obtain ⟨r, er, tr⟩ := Rl.2 j hjR
        rw [er] at hj
        cases hj
        refine seq_of ?_
        refine ⟨_, rfl, r, _, _, _, rfl, rfl, .inl (.inl (sm' _ _ tr)), atI_nat (j := 0) (row_0 _), _, rfl, _, rfl, p, c, 2, _, rfl, pa', by decide, by decide, by omega, fun H5 d0 l0 t5 p5 => ?_⟩
        have s5 := (less_mono sm' less_none).trans t5
        refine ⟨R.length, d0, rfl, rfl, by omega, (KM.rowAt R j).1, R.length * d0, rfl, rfl, ?_⟩
        refine ⟨_, rfl, r, _, _, _, rfl, rfl, .inl (.inl (s5 _ _ tr)), atI_nat (j := 1) (row_1 _), _, rfl, _, rfl, p, c, 2, _, rfl, p5, by decide, by decide, by omega, fun H6 d1 l1 t6 p6 => ?_⟩
        have s6 := (less_mono s5 less_none).trans t6
        refine ⟨R.length, d1, rfl, rfl, by omega, (KM.rowAt R j).2.1, R.length * d1, rfl, rfl, _, _, rfl, ?_⟩
        dsimp only
        have t46 := (less_mono t5 less_none).trans t6
        have eD6 := pa'.stay t46 eD' (fun _ z => by cases z)
        have rt6 := (rt'.less pa').same t46
        refine ⟨_, rfl, .inl ⟨rfl, _, SqL.of eD6⟩, _, rfl, _, rfl, _, rfl, r, _, _, _, rfl, rfl, .inl (.inl (s6 _ _ tr)), atI_nat (j := 2) (row_2 _), show 3 ≤ sizeLine by decide, fun U nU => ?_⟩
        have sU := same_fresh (o := .tup [.int (((KM.rowAt R j).1 + R.length * d0 : Nat) : Int), .int (((KM.rowAt R j).2.1 + R.length * d1 : Nat) : Int), natV (KM.rowAt R j).2.2]) nU
        have eU : upd H6 U (.tup [.int (((KM.rowAt R j).1 + R.length * d0 : Nat) : Int), .int (((KM.rowAt R j).2.1 + R.length * d1 : Nat) : Int), natV (KM.rowAt R j).2.2]) U = some (.tup (rowV ((KM.rowAt R j).1 + R.length * d0, (KM.rowAt R j).2.1 + R.length * d1, (KM.rowAt R j).2.2))) := upd_same
        have p7 := p6.same sU
        generalize upd H6 U (.tup [.int (((KM.rowAt R j).1 + R.length * d0 : Nat) : Int), .int (((KM.rowAt R j).2.1 + R.length * d1 : Nat) : Int), natV (KM.rowAt R j).2.2]) = H7 at sU eU p7 ⊢
        refine ⟨D, zs, _, rfl, rfl, sU _ _ eD6, ?_, ?_⟩
        · rw [rt'.1, lP']
          have hi2 : i < 2 := hi
          rcases (show i = 0 ∨ i = 1 by omega) with rfl | rfl
          · exact small_line (m := 1000) (by omega) (by decide)
          · exact small_line (m := 1000) (by omega) (by decide)
        · exact ⟨_, _, _, zs ++ [.ref U], _, rfl, same_put (s6.trans sU) nDl, ((p7.mono (by omega)).put (sU _ _ eD6) nDc), upd_same, (rt6.same sU).app (sU _ _ eD6) eU, db'.snoc oR hjR lP' l0 l1, by rw [List.length_append, lP']; rfl⟩
      · rintro σ H4 ⟨z5, z6, z7, zs, P', rfl, sm', pa', eD', rt', db', lP'⟩
        exact ⟨_, z5, z6, z7, zs, P', rfl, sm', pa'.mono (by omega), eD', rt', db', by rw [lP', lA, Nat.mul_succ]⟩
    · rintro σ H2 ⟨y4, y5, y6, y7, ys, P, rfl, sm, pa, eD2, rt, db, lP⟩
      exact ⟨_, rfl, q H2 D ys P nD sm eD2 rt ⟨by omega, fun k hk => by have := db k hk; rw [lP]; rw [Nat.mul_comm]; exact this⟩ (pa.mono (by omega))⟩
end

abbrev sGiv : Stmt := top 48
abbrev nGiv : List PySem.Str := ["_law_pen_here", "_law_rows", "_law_way", "_law_row"]
theorem scGiv : FnScope nGiv ["_law_pen_here", "_law_rows"] (defScope sGiv) := ⟨rfl, rfl, rfl, by decide +kernel, rfl, by decide +kernel, by decide +kernel⟩
abbrev rListOf (K : PySem.W.Frag) : List V → Hp → VK → Prop := fun xs H Q => ∃ p ys, xs = [.ref p] ∧ (SqL K H p ys ∨ SqT K H p ys) ∧ ∀ l, H l = none → Q (.ref l) (upd H l (.lst ys))
def spGiv (K : PySem.W.Frag) : Sp := fun vs H Q _ => ∃ (p c a : Addr) (b : Nat) (as : List V) (R : KM.Rows), vs = [.ref p, .ref a] ∧ PenAt H p c b ∧ b ≤ 70000 ∧ H a = some (.lst as) ∧ RowsT K H as R ∧ R.length ≤ 100 ∧
  ∀ H' g gs, H g = none → Same (less p H) H' → Sq K H' g gs → RowsIn K H' gs R → PenAt H' p c (b + 1) → Q (.ref g) H'
section
variable {P : Program} {w : World} {K : PySem.W.Frag} {mg : PySem.Str → Option Value} {base : Heap}
theorem ok_giv {f fD : Addr} {fd fdD : FuncData} {k : Nat} (F : Fun K "_law_given" "_law_given" sGiv f fd)
    (FD : Fun K "_law_draw" "_law_draw" sDraw fD fdD) (bD : Binds K fdD ["_law_pen_here", "_law_many"] []) (gD : mg "_law_draw" = some (.ref fD)) (GD : FnOk P w K mg base CX0 k fD fdD ["_law_pen_here", "_law_many"] spDraw)
    (mt : mg "tuple" = none) (ml : mg "list" = none) : FnOk P w K mg base CX0 (k + 1) f fd ["_law_pen_here", "_law_rows"] (spGiv K) := by
  refine F.ok scGiv (fun vs H Q E h => ?_) (fun cdv A outer s H vs Q E hr h => ?_)
  · obtain ⟨p, c, a, b, as, R, rfl, _⟩ := h
    rfl
  · obtain ⟨p, c, a, b, as, R, rfl, hp, hb, ha, hR, lR, q⟩ := h
    refine ⟨_, (pss_cons (ps_set (i := 2) scGiv.nd rfl (.inl rfl) (pe_call GD hr (by rfl) gD FD.kp bD .nil pass0 (pa_cons (pv 0) (pa_cons pe_int pa_nil)))) (pss_cons (ps_if (pt_cmpR op_eq (pv 2) pe_int (nomark _)) (pss_one (ps_ret (pe_tupleOf (by rfl) mt (pv 1)))) pss_nil) (pss_cons (ps_if (pt_cmpR op_eq (pv 2) pe_int (nomark _)) (pss_one (ps_ret (pe_lc (own := [("_law_row", 3)]) rfl scGiv.nd (pi_list (pv 1)) (blkOk_by (own := [("_law_row", 3)]) (N := nGiv) (sc := defScope sGiv) (by decide +kernel)) (fun _ _ _ _ _ => (pg_name (i := 3) scGiv.nd rfl (.inl rfl))) (fun _ _ _ _ _ => pts_nil) (fun _ _ _ _ _ => pe_callTy (T := "list") (r := rListOf K) call_list_of (by rfl) ml (by decide +kernel) (pa_cons (pv 3) pa_nil))))) pss_nil) (pss_one (ps_ret (pe_callTy call_list_of (by rfl) ml (by decide +kernel) (pa_cons (pv 1) pa_nil))))))), ?_⟩
    have lA : as.length = R.length := hR.1
    refine seq_asg ?_
    refine ⟨_, rfl, p, c, 3, b, rfl, hp, by decide, by decide, by omega, fun H1 way lw s1 p1 => ?_⟩
    have ha1 := hp.stay s1 ha (fun _ z => by cases z)
    have hR1 := (hR.less hp).same s1
    have new : ∀ {l : Addr}, H1 l = none → H l = none := fun {l} n => by
      have h1 := s1.free n
      unfold less at h1
      rwa [if_neg (p1.fresh n).2] at h1
    refine seq_of ?_
    refine ⟨_, rfl, natV_scal way 0, _, rfl, ite2 (fun z => ?_) (fun z => ?_)⟩
    · refine ⟨_, rfl, .inl ⟨a, as, rfl, SqL.of ha1, fun l nl => ?_⟩⟩
      have s2 := same_fresh (o := .tup as) nl
      exact q _ l as (new nl) (s1.trans s2) (sq_t upd_same) (hR1.toIn.same s2) (p1.same s2)
    · refine next_of ?_
      dsimp only
      refine seq_of ?_
      refine ⟨_, rfl, natV_scal way 1, _, rfl, ite2 (fun z => ?_) (fun z => ?_)⟩
      · refine rd_build (walk_list (K := K) (a := a) (xs := as)) (wi := iList K (tVar 1)) (fun i v H' => ∃ r, v = .ref r ∧ H' r = some (.lst (rowV (KM.rowAt R i)))) ?_ (fun Rr r => ⟨_, rfl, a, rfl, ⟨_, SqL.of ha1⟩, r⟩) (fun H' s => SqL.of (s _ _ ha1)) (by omega) ?_ ?_
        · rintro i v H2 H3 s ⟨r, e, h⟩
          exact ⟨r, e, s _ _ h⟩
        · rintro D i x H2 H3 kk hi nD sm ⟨l, el⟩ ⟨rfl, hy⟩ k'
          obtain ⟨r, er, tr⟩ := hR1.2 i (by omega)
          rw [er] at hy
          cases hy
          refine ⟨rfl, _, rfl, r, _, rfl, .inr (.inl (.inl (sm _ _ tr))), fun l2 n2 => ?_⟩
          refine k' _ _ (same_fresh n2) fun l' => ⟨l2, rfl, ?_⟩
          rw [upd_ne (fun z => by rw [z, el] at n2; cases n2), upd_same]
        · rintro D H2 ys nD sm eD ly hE
          refine q H2 D ys (new nD) (s1.trans sm) (sq_l eD) ⟨by omega, fun i hi => ?_⟩ (p1.same sm)
          obtain ⟨v, hv, r, rfl, hr2⟩ := hE i (by omega)
          exact ⟨r, hv, sq_l hr2⟩
      · refine next_of ?_
        dsimp only
        refine ⟨_, rfl, a, as, rfl, .inl (SqL.of ha1), fun l nl => ?_⟩
        have s2 := same_fresh (o := .lst as) nl
        exact q _ l as (new nl) (s1.trans s2) (sq_l upd_same) (hR1.toIn.same s2) (p1.same s2)
end
end K35
namespace K35
open PySem PySem.Spec PyProof.Rows L2 KR
/-! ## _law_led -/
theorem bits_at : ∀ (k n : Nat), k < (KM.bits n).length → (KM.bits n)[k]? = some (decide (n / 2 ^ k % 2 = 1))
  | k, n, h => by
    by_cases hn : n = 0
    · subst hn
      rw [KM.bits_zero] at h
      exact absurd h (Nat.not_lt_zero _)
    · have hp : 0 < n := Nat.pos_of_ne_zero hn
      rw [KM.bits_pos hp] at h ⊢
      cases k with
      | zero => simp
      | succ k =>
        rw [List.getElem?_cons_succ, bits_at k (n / 2) (by simpa using h), Nat.div_div_eq_div_mul, Nat.pow_succ, Nat.mul_comm]
theorem bits_len (n : Nat) : Builtin.Int.intBits (n : Int) = (KM.bits n).length := by
  unfold Builtin.Int.intBits
  by_cases hn : n = 0
  · subst hn
    rw [KM.bits_zero]
    rfl
  · have hp : 0 < n := Nat.pos_of_ne_zero hn
    have e : (((n : Nat) : Int) == 0) = false := by
      rw [beq_eq_false_iff_ne]
      omega
    rw [e, Int.natAbs_natCast]
    show n.log2 + 1 = (KM.bits n).length
    have h1 := KM.bits_lt n
    have h2 := KM.bits_ge n hp
    have h3 : n.log2 < (KM.bits n).length := (Nat.log2_lt hn).mpr h1
    have hl : 0 < (KM.bits n).length := Nat.lt_of_le_of_lt (Nat.zero_le _) h3
    have h4 : (KM.bits n).length - 1 ≤ n.log2 := by
      rw [Nat.le_log2 hn]
      have e2 : 2 ^ (KM.bits n).length = 2 * 2 ^ ((KM.bits n).length - 1) := by
        rw [← Nat.pow_succ']
        congr 1
        omega
      omega
    omega
theorem shr_nat (n k : Nat) : ((n : Nat) : Int) / 2 ^ k = ((n / 2 ^ k : Nat) : Int) := by
  rw [Int.natCast_ediv]
  norm_cast
theorem bits_small {n : Nat} (h : n < 2 ^ 1000) : (KM.bits n).length ≤ 1000 := by
  by_cases hn : n = 0
  · subst hn
    rw [KM.bits_zero]
    exact Nat.zero_le _
  · have hp : 0 < n := Nat.pos_of_ne_zero hn
    have h2 := KM.bits_ge n hp
    rcases Nat.lt_or_ge 1000 (KM.bits n).length with lt | ge
    · exfalso
      have h4 : 2 ^ (1000 + 1) ≤ 2 ^ (KM.bits n).length := Nat.pow_le_pow_right (by decide) lt
      rw [Nat.pow_succ] at h4
      generalize 2 ^ 1000 = z at h h4
      omega
    · exact ge

abbrev sLed : Stmt := top 41
abbrev nLed : List PySem.Str := ["_law_rows", "_law_start", "_law_number", "_law_at", "_law_place"]
theorem scLed : FnScope nLed ["_law_rows", "_law_start", "_law_number"] (defScope sLed) := ⟨rfl, rfl, rfl, by decide +kernel, rfl, by decide +kernel, by decide +kernel⟩
def spLed (K : PySem.W.Frag) : Sp := fun vs H Q _ => ∃ (a : Addr) (as : List V) (R : KM.Rows) (n : Nat), vs = [.ref a, natV 0, natV n] ∧ H a = some (.lst as) ∧ RowsT K H as R ∧ KM.OkR R ∧ 0 < R.length ∧ n < 2 ^ 1000 ∧ ∀ H', Same H H' → Q (natV (KM.ledAt R 0 n)) H'
section
variable {P : Program} {w : World} {K : PySem.W.Frag} {mg : PySem.Str → Option Value} {base : Heap}
theorem ok_led {f : Addr} {fd : FuncData} {k : Nat} (F : Fun K "_law_led" "_law_led" sLed f fd) (mr : mg "range" = none) : FnOk P w K mg base CX0 (k + 1) f fd ["_law_rows", "_law_start", "_law_number"] (spLed K) := by
  refine F.ok scLed (fun vs H Q E h => ?_) (fun cdv A outer s H vs Q E hr h => ?_)
  · obtain ⟨a, as, R, n, rfl, _⟩ := h
    rfl
  · obtain ⟨a, as, R, n, rfl, ha, hR, oR, pR, hn, q⟩ := h
    refine ⟨_, (pss_cons (ps_set (i := 3) scLed.nd rfl (.inl rfl) (pv 1)) (pss_cons (ps_for PassesOwn.never rfl (pi_range1 (by rfl) mr (pa_cons (pe_bits (pv 2)) pa_nil)) (pg_name (i := 4) scLed.nd rfl (.inl rfl)) (pss_one (ps_set (i := 3) scLed.nd rfl (.inl rfl) (pe_ix (r := rIxT K) ix_tup (pe_ix (r := rIxL K) ix_list (pv 0) (pv 3) (fun _ _ => rfl)) (pe_op op_odd (pe_op op_shrN (pv 2) (pv 4)) pe_int) (fun _ _ => rfl))))) (pss_one (ps_ret (pe_ix (r := rIxT K) ix_tup (pe_ix (r := rIxL K) ix_list (pv 0) (pv 3) (fun _ _ => rfl)) pe_int (fun _ _ => rfl)))))), ?_⟩
    have lb := bits_small hn
    refine seq_asg ?_
    refine ⟨_, rfl, ?_⟩
    refine seq_of ?_
    have e0 : (((KM.bits n).length : Nat) : Int).toNat = (KM.bits n).length := by omega
    refine ⟨_, rfl, _, rfl, _, rfl, ?_⟩
    rw [bits_len, e0]
    refine ⟨by omega, by omega, ?_⟩
    refine for_it walk_rangeN (fun i σ H' => ∃ y, σ = [some (.ref a), some (natV 0), some (natV n), some (natV (KM.run R 0 ((KM.bits n).take i))), y] ∧ H' = H) ?_ (fun _ _ _ _ _ => True.intro) ?_ ?_
    · exact ⟨none, rfl, rfl⟩
    · rintro i x σ H1 H2 hi ⟨y, rfl, rfl⟩ ⟨rfl, rfl⟩
      have lt := KM.run_lt oR ((KM.bits n).take i) pR
      obtain ⟨p, ep, tp⟩ := hR.2 _ lt
      have gb := row_b R (KM.run R 0 ((KM.bits n).take i)) (decide (n / 2 ^ i % 2 = 1))
      have eb : (if decide (n / 2 ^ i % 2 = 1) = true then 1 else 0 : Nat) = n / 2 ^ i % 2 := by
        by_cases h : n / 2 ^ i % 2 = 1
        · rw [decide_eq_true h, if_pos rfl, h]
        · rw [decide_eq_false h, if_neg (by decide)]
          omega
      rw [eb] at gb
      refine ⟨_, rfl, _, rfl, a, _, _, _, rfl, rfl, SqL.of ha, atI_nat ep, _, rfl, _, rfl, _, i, rfl, rfl, ?_⟩
      refine ⟨n / 2 ^ i, congrArg V.int (shr_nat n i), rfl, p, _, _, _, rfl, rfl, .inl (.inl tp), atI_nat gb, ?_⟩
      refine ⟨some (natV i), ?_, rfl⟩
      have e : (KM.bits n).take (i + 1) = (KM.bits n).take i ++ [decide (n / 2 ^ i % 2 = 1)] := by
        rw [List.take_add_one, bits_at i n hi]
        rfl
      rw [e, run_snoc]
      rfl
    · rintro σ H1 ⟨y, rfl, rfl⟩
      rw [List.take_of_length_le (Nat.le_refl _)]
      have lt := KM.run_lt oR (KM.bits n) pR
      obtain ⟨p, ep, tp⟩ := hR.2 _ lt
      exact ⟨_, rfl, _, rfl, a, _, _, _, rfl, rfl, SqL.of ha, atI_nat ep, p, _, _, _, rfl, rfl, .inl (.inl tp), atI_nat (j := 2) (row_2 _), q H1 (Same.refl H1)⟩
end
/-! ## _law_is_truth -/

abbrev sTru : Stmt := top 49
abbrev nTru : List PySem.Str := ["_law_value", "_law_due"]
theorem scTru : FnScope nTru ["_law_value", "_law_due"] (defScope sTru) := ⟨rfl, rfl, rfl, by decide +kernel, rfl, by decide +kernel, by decide +kernel⟩
def spTru : Sp := fun vs H Q _ => ∃ a b : Bool, vs = [.bl a, .bl b] ∧ Q (.bl (decide (a = b))) H
section
variable {P : Program} {w : World} {K : PySem.W.Frag} {mg : PySem.Str → Option Value} {base : Heap}
theorem ok_tru {f : Addr} {fd : FuncData} {k : Nat} (F : Fun K "_law_is_truth" "_law_is_truth" sTru f fd) (mi : mg "isinstance" = none) (mb : mg "bool" = none) : FnOk P w K mg base CX0 (k + 1) f fd ["_law_value", "_law_due"] spTru := by
  refine F.ok scTru (fun vs H Q E h => ?_) (fun cdv A outer s H vs Q E hr h => ?_)
  · obtain ⟨a, b, rfl, _⟩ := h
    rfl
  · obtain ⟨a, b, rfl, q⟩ := h
    refine ⟨_, (pss_one (ps_ret (pe_and (pe_callB call_isi (by rfl) mi (by decide +kernel) (pa_cons (pv 0) (pa_cons (pe_bltn (v := .ty "bool") (by rfl) mb (by decide +kernel) rfl) pa_nil))) (pe_one (pe_cmpR op_eq (pv 0) (pv 1) (nomark _)))))), ?_⟩
    refine ⟨_, rfl, _, _, _, _, true, rfl, .ty "bool", .base (.bl a), kit_bb, true, rfl, iteT ⟨_, rfl, _, rfl, rfl, ?_⟩⟩
    have e : decide (V.bl a = V.bl b) = decide (a = b) := by cases a <;> cases b <;> decide
    rw [e]
    exact q
end
/-! ## _law_both_rules -/

abbrev sBoth : Stmt := top 46
abbrev nBoth : List PySem.Str := ["_law_one", "_law_other", "_law_wanted", "_law_found", "_law_row", "_law_pair", "_law_inside"]
theorem scBoth : FnScope nBoth ["_law_one", "_law_other", "_law_wanted"] (defScope sBoth) := ⟨rfl, rfl, rfl, by decide +kernel, rfl, by decide +kernel, by decide +kernel⟩
def spBoth (K : PySem.W.Frag) : Sp := fun vs H Q _ => ∃ (a a' t u v : Addr) (as as' : List V) (R R' : KM.Rows), vs = [.ref a, .ref a', .ref t] ∧ H a = some (.lst as) ∧ RowsT K H as R ∧ KM.OkR R ∧ H a' = some (.lst as') ∧ RowsT K H as' R' ∧ KM.OkR R' ∧ R.length ≤ 6 ∧ R'.length ≤ 6 ∧
  H t = some (.tup [.ref u, .ref v]) ∧ H u = some (.tup [.int 0, .int 1]) ∧ H v = some (.tup [.int 1, .int 0]) ∧
  ∀ H' l ys, H l = none → Same H H' → H' l = some (.lst ys) → RowsT K H' ys (KM.both R R') → Q (.ref l) H'
theorem wanted_any (x y : Nat) (hx : x ≤ 1) (hy : y ≤ 1) : ([PyData.tuple [.int 0, .int 1], PyData.tuple [.int 1, .int 0]].any fun z => PyData.eqv z (.tuple [natD x, natD y])) = !decide (x = y) := by
  have h1 := eqv_nats [0, 1] [x, y]
  have h2 := eqv_nats [1, 0] [x, y]
  have e1 : PyData.eqv (.tuple [.int 0, .int 1]) (.tuple [natD x, natD y]) = decide ([0, 1] = [x, y]) := (eqv_tuple _ _).trans h1
  have e2 : PyData.eqv (.tuple [.int 1, .int 0]) (.tuple [natD x, natD y]) = decide ([1, 0] = [x, y]) := (eqv_tuple _ _).trans h2
  rw [List.any_cons, List.any_cons, List.any_nil, e1, e2]
  rcases (show x = 0 ∨ x = 1 by omega) with rfl | rfl <;> rcases (show y = 0 ∨ y = 1 by omega) with rfl | rfl <;> decide
section
variable {P : Program} {w : World} {K : PySem.W.Frag} {mg : PySem.Str → Option Value} {base : Heap}
theorem ok_both {f : Addr} {fd : FuncData} {k : Nat} (F : Fun K "_law_both_rules" "_law_both_rules" sBoth f fd) (mi : mg "int" = none) (ml : mg "len" = none) : FnOk P w K mg base CX0 (k + 1) f fd ["_law_one", "_law_other", "_law_wanted"] (spBoth K) := by
  refine F.ok scBoth (fun vs H Q E h => ?_) (fun cdv A outer s H vs Q E hr h => ?_)
  · obtain ⟨a, a', t, u, v, as, as', R, R', rfl, _⟩ := h
    rfl
  · obtain ⟨a, a', t, u, v, as, as', R, R', rfl, ha, hR, oR, ha', hR', oR', lR, lR', ht, hu, hv, q⟩ := h
    have hu65 : (A.deeper (envOfC "_law_both_rules" (defScope sBoth) s.heap.objs.size f cdv)).units + 65 < cLine := by
      have := hr.un
      omega
    refine ⟨_, (pss_cons (ps_set (i := 3) scBoth.nd rfl (.inl rfl) (pe_lst pa_nil)) (pss_cons (ps_for PassesOwn.never rfl (pi_list (pv 0)) (pg_name (i := 4) scBoth.nd rfl (.inl rfl)) (pss_one (ps_for PassesOwn.never rfl (pi_list (pv 1)) (pg_name (i := 5) scBoth.nd rfl (.inl rfl)) (pss_cons (ps_set (i := 6) scBoth.nd rfl (.inl rfl) (pe_callTy call_int1 (by rfl) mi (by decide +kernel) (pa_cons (pe_cmpR (op_inDT hu65) (pe_tup (pa_cons (pe_ix (r := rIxT K) ix_tup (pv 4) pe_int (fun _ _ => rfl)) (pa_cons (pe_ix (r := rIxT K) ix_tup (pv 5) pe_int (fun _ _ => rfl)) pa_nil))) (pv 2) (by rfl)) pa_nil))) (pss_one (ps_expr (pe_bm PySem.F.plainAttrs_list PySem.F.slot_list_append PySem.F.type_list_append mt_append (pv 3) (pa_cons (pe_tup (pa_cons (pe_op op_addN (pe_op op_mulN (pe_ix (r := rIxT K) ix_tup (pv 4) pe_int (fun _ _ => rfl)) (pe_callB call_len_seq (by rfl) ml PySem.boot_len (pa_cons (pv 1) pa_nil))) (pe_ix (r := rIxT K) ix_tup (pv 5) pe_int (fun _ _ => rfl))) (pa_cons (pe_op op_addN (pe_op op_mulN (pe_ix (r := rIxT K) ix_tup (pv 4) pe_int (fun _ _ => rfl)) (pe_callB call_len_seq (by rfl) ml PySem.boot_len (pa_cons (pv 1) pa_nil))) (pe_ix (r := rIxT K) ix_tup (pv 5) pe_int (fun _ _ => rfl))) (pa_cons (pv 6) pa_nil)))) pa_nil)))))))) (pss_one (ps_ret (pv 3))))), ?_⟩
    have lA : as.length = R.length := hR.1
    have lA' : as'.length = R'.length := hR'.1
    refine seq_asg ?_
    refine ⟨Nat.zero_le _, fun D nD => ?_⟩
    have sD := same_fresh (o := .lst []) nD
    have eD : upd H D (.lst []) D = some (.lst []) := upd_same
    generalize upd H D (.lst []) = H1 at sD eD ⊢
    have lb : (KM.both R R').length = R.length * R'.length := KM.both_len R R'
    refine seq_of ?_
    refine ⟨_, rfl, a, rfl, ⟨_, SqL.of (sD _ _ ha)⟩, for_list (K := K) (a := a) (xs := as) (fun i σ H' => ∃ y4 y5 y6 ys, σ = [some (.ref a), some (.ref a'), some (.ref t), some (.ref D), y4, y5, y6] ∧ Same H H' ∧ H' D = some (.lst ys) ∧ RowsT K H' ys ((KM.both R R').take (i * R'.length))) ?_ ?_ ?_ ?_⟩
    · exact ⟨none, none, none, [], rfl, sD, eD, by rw [Nat.zero_mul]; exact RowsT.nil⟩
    · rintro i σ H' _ ⟨_, _, _, _, _, sm, _⟩
      exact SqL.of (sm _ _ ha)
    · rintro i x σ H2 hi ⟨y4, y5, y6, ys, rfl, sm, eD2, rt⟩
      have hiR : i < R.length := by
        have := (List.getElem?_eq_some_iff.mp hi).1
        omega
      obtain ⟨r, er, tr⟩ := hR.2 i hiR
      rw [er] at hi
      cases hi
      obtain ⟨_, _, o2⟩ := oR i hiR
      refine ⟨_, rfl, a', rfl, ⟨_, SqL.of (sm _ _ ha')⟩, for_list (K := K) (a := a') (xs := as') (fun j σ H' => ∃ y5 y6 ys, σ = [some (.ref a), some (.ref a'), some (.ref t), some (.ref D), some (.ref r), y5, y6] ∧ Same H H' ∧ H' D = some (.lst ys) ∧ RowsT K H' ys ((KM.both R R').take (i * R'.length + j))) ?_ ?_ ?_ ?_⟩
      · exact ⟨y5, y6, ys, rfl, sm, eD2, rt⟩
      · rintro j σ H' _ ⟨_, _, _, _, sm', _⟩
        exact SqL.of (sm' _ _ ha')
      · rintro j x σ H3 hj ⟨z5, z6, zs, rfl, sm', eD', rt'⟩
        have hjR : j < R'.length := by
          have := (List.getElem?_eq_some_iff.mp hj).1
          omega
        obtain ⟨r', er', tr'⟩ := hR'.2 j hjR
        rw [er'] at hj
        cases hj
        obtain ⟨_, _, o2'⟩ := oR' j hjR
        refine seq_asg ?_
        refine ⟨_, rfl, r, _, _, _, rfl, rfl, .inl (.inl (sm' _ _ tr)), atI_nat (j := 2) (row_2 _), _, rfl, r', _, _, _, rfl, rfl, .inl (.inl (sm' _ _ tr')), atI_nat (j := 2) (row_2 _), show 2 ≤ sizeLine by decide, fun T nT => ?_⟩
        have sT := same_fresh (o := .tup [natV (KM.rowAt R i).2.2, natV (KM.rowAt R' j).2.2]) nT
        have eT : upd H3 T (.tup [natV (KM.rowAt R i).2.2, natV (KM.rowAt R' j).2.2]) T = some (.tup (natsV [(KM.rowAt R i).2.2, (KM.rowAt R' j).2.2])) := upd_same
        generalize upd H3 T (.tup [natV (KM.rowAt R i).2.2, natV (KM.rowAt R' j).2.2]) = H4 at sT eT ⊢
        have s4 := sm'.trans sT
        refine ⟨_, rfl, .tuple [natD (KM.rowAt R i).2.2, natD (KM.rowAt R' j).2.2], [.tuple [.int 0, .int 1], .tuple [.int 1, .int 0]], .tup (.inl (.inl eT)) (dp_nats _), .tup (.inl (.inl (s4 _ _ ht))) (.cons (.tup (.inl (.inl (s4 _ _ hu))) (.cons (.int 0) (.cons (.int 1) .nil))) (.cons (.tup (.inl (.inl (s4 _ _ hv))) (.cons (.int 1) (.cons (.int 0) .nil))) .nil)), ?_, by decide +kernel, ?_⟩
        · exact shaped_tuple (lay_nats [(KM.rowAt R i).2.2, (KM.rowAt R' j).2.2]).1 (Nat.le_trans (Nat.le_of_eq (lay_nats [(KM.rowAt R i).2.2, (KM.rowAt R' j).2.2]).2) (by decide))
        · rw [wanted_any _ _ o2 o2']
          refine .inr ⟨_, rfl, ?_⟩
          have ei : V.int (if (!decide ((KM.rowAt R i).2.2 = (KM.rowAt R' j).2.2)) = true then 1 else 0) = natV (if (KM.rowAt R i).2.2 = (KM.rowAt R' j).2.2 then 0 else 1) := by
            by_cases c : (KM.rowAt R i).2.2 = (KM.rowAt R' j).2.2
            · rw [decide_eq_true c, if_pos c]
              rfl
            · rw [decide_eq_false c, if_neg c]
              rfl
          show gName 6 (V.int (if (!decide ((KM.rowAt R i).2.2 = (KM.rowAt R' j).2.2)) = true then 1 else 0)) _ _ _
          rw [ei]
          generalize hin : (if (KM.rowAt R i).2.2 = (KM.rowAt R' j).2.2 then 0 else 1) = ins_
          have hA' : SqL K H4 a' as' := SqL.of (s4 _ _ ha')
          refine ⟨_, rfl, .inl ⟨rfl, _, SqL.of (sT _ _ eD')⟩, ?_⟩
          refine ⟨_, rfl, r, _, _, _, rfl, rfl, .inl (.inl (s4 _ _ tr)), atI_nat (j := 0) (row_0 _), _, rfl, a', _, rfl, .inl hA', (KM.rowAt R i).1, as'.length, rfl, rfl, ?_, _, rfl, r', _, _, _, rfl, rfl, .inl (.inl (s4 _ _ tr')), atI_nat (j := 0) (row_0 _), _, _, rfl, rfl,
            _, rfl, r, _, _, _, rfl, rfl, .inl (.inl (s4 _ _ tr)), atI_nat (j := 1) (row_1 _), _, rfl, a', _, rfl, .inl hA', (KM.rowAt R i).2.1, as'.length, rfl, rfl, ?_, _, rfl, r', _, _, _, rfl, rfl, .inl (.inl (s4 _ _ tr')), atI_nat (j := 1) (row_1 _), _, _, rfl, rfl, _, rfl, show 3 ≤ sizeLine by decide, fun U nU => ?_⟩
          · have := (oR i hiR).1
            omega
          · have := (oR i hiR).2.1
            omega
          rw [lA']
          have sU := same_fresh (o := .tup [.int (((KM.rowAt R i).1 * R'.length + (KM.rowAt R' j).1 : Nat) : Int), .int (((KM.rowAt R i).2.1 * R'.length + (KM.rowAt R' j).2.1 : Nat) : Int), natV ins_]) nU
          have eU : upd H4 U (.tup [.int (((KM.rowAt R i).1 * R'.length + (KM.rowAt R' j).1 : Nat) : Int), .int (((KM.rowAt R i).2.1 * R'.length + (KM.rowAt R' j).2.1 : Nat) : Int), natV ins_]) U = some (.tup (rowV (KM.bothRow R'.length (KM.rowAt R i) (KM.rowAt R' j)))) := by
            rw [upd_same, ← hin]
            rfl
          generalize upd H4 U (.tup [.int (((KM.rowAt R i).1 * R'.length + (KM.rowAt R' j).1 : Nat) : Int), .int (((KM.rowAt R i).2.1 * R'.length + (KM.rowAt R' j).2.1 : Nat) : Int), natV ins_]) = H5 at sU eU ⊢
          have s35 := sT.trans sU
          refine ⟨D, zs, _, rfl, rfl, s35 _ _ eD', ?_, ?_⟩
          · have hz := rt'.1
            rw [List.length_take] at hz
            have : R.length * R'.length ≤ 6 * 6 := Nat.mul_le_mul lR lR'
            exact small_line (m := 1000) (by omega) (by decide)
          · refine ⟨_, _, zs ++ [.ref U], rfl, same_put (sm'.trans s35) nD, upd_same, ?_⟩
            have hk : i * R'.length + j < (KM.both R R').length := KM.both_lt hiR hjR
            rw [← Nat.add_assoc, take_row hk, KM.both_at hiR hjR]
            exact (rt'.same s35).app (s35 _ _ eD') eU
      · rintro σ H3 ⟨z5, z6, zs, rfl, sm', eD', rt'⟩
        refine ⟨_, _, _, zs, rfl, sm', eD', ?_⟩
        rw [lA'] at rt'
        rw [Nat.succ_mul]
        exact rt'
    · rintro σ H2 ⟨y4, y5, y6, ys, rfl, sm, eD2, rt⟩
      rw [List.take_of_length_le (by rw [lb, lA]; exact Nat.le_refl _)] at rt
      exact ⟨_, rfl, q H2 D ys nD sm eD2 rt⟩
end
end K35
namespace K35
open PySem PySem.Spec PyProof.Rows L2 KR

abbrev sMem : Stmt := top 42
abbrev nMem : List PySem.Str := ["_law_rows", "_law_start", "_law_number", "_law_less", "_law_upto", "_law_ones", "_law_place", "_law_rest", "_law_middle", "_law_after", "_law_below", "_law_row", "_law_at"]
theorem scMem : FnScope nMem ["_law_rows", "_law_start", "_law_number"] (defScope sMem) := ⟨rfl, rfl, rfl, by decide +kernel, rfl, by decide +kernel, by decide +kernel⟩
def spMem (K : PySem.W.Frag) : Sp := fun vs H Q _ => ∃ (a : Addr) (as : List V) (R : KM.Rows) (n : Nat), vs = [.ref a, natV 0, natV n] ∧ H a = some (.lst as) ∧ RowsT K H as R ∧ KM.OkR R ∧ 0 < R.length ∧ R.length ≤ 100 ∧ 0 < n ∧ n < 2 ^ 1000 ∧
  ∀ H' x, Same H H' → (x = 0 ↔ ∀ m, 0 < m → m ≤ n → KM.ledAt R 0 m = 0) → Q (natV x) H'
abbrev rInt1 : List V → Hp → VK → Prop := fun xs H Q => (∃ i, xs = [.int i] ∧ Q (.int i) H) ∨ ∃ k, xs = [.bl k] ∧ Q (.int (if k then 1 else 0)) H
section
variable {K : PySem.W.Frag}
/-- the two new lists of a turn, then the exchange -/
def tTurn (K : PySem.W.Frag) : TS :=
  tSeq (tAsg (tLc (iEnum K (tCons (tVar 0) tNil)) (gTup K 2 (gCons (gName 12) (gCons (gName 11) gNil))) tYes
      (tOp (fun x y H Q => ∃ n m : Nat, x = .int (n : Int) ∧ y = .int (m : Int) ∧ Q (.int ((n + m : Nat) : Int)) H) (tOp (fun x y H Q => ∃ n m : Nat, x = .int (n : Int) ∧ y = .int (m : Int) ∧ Q (.int ((n + m : Nat) : Int)) H)
        (tOp (rIxL K) (tVar 5) (tVar 12)) (tOp (rIxL K) (tVar 4) (tOp (rIxT K) (tVar 11) (tC (V.int 0))))) (tOp (rIxL K) (tVar 8) (tOp (rIxT K) (tVar 11) (tC (V.int 1))))) [12, 11]) (gName 9))
    (tSeq (tAsg (tLc (iEnum K (tCons (tVar 0) tNil)) (gTup K 2 (gCons (gName 12) (gCons (gName 11) gNil))) tYes
      (tOp (fun x y H Q => ∃ n m : Nat, x = .int (n : Int) ∧ y = .int (m : Int) ∧ Q (.int ((n + m : Nat) : Int)) H) (tOp (fun x y H Q => ∃ n m : Nat, x = .int (n : Int) ∧ y = .int (m : Int) ∧ Q (.int ((n + m : Nat) : Int)) H)
        (tOp (fun x y H Q => ∃ n m : Nat, x = .int (n : Int) ∧ y = .int (m : Int) ∧ n ≤ 4294967296 ∧ Q (.int ((n * m : Nat) : Int)) H) (tOp (rIxL K) (tVar 5) (tVar 12)) (tCB rInt1 (tCons (tOp (rI0 fun i j => V.bl (decide (j < i))) (tVar 7) (tC (V.int 1))) tNil)))
        (tOp (rIxL K) (tVar 8) (tOp (rIxT K) (tVar 11) (tC (V.int 0))))) (tOp (rIxL K) (tVar 3) (tOp (rIxT K) (tVar 11) (tC (V.int 1))))) [12, 11]) (gName 10))
      (tAsg (tTup (tCons (tVar 9) (tCons (tVar 10) tNil))) (gTup K 2 (gCons (gName 4) (gCons (gName 3) gNil)))))
theorem rd_turn {D : Ends} {H7 : Hp} {a on upA lsA md : Addr} {as : List V} {R : KM.Rows} {upto less_ mid : List Nat} {rest cc : Nat} {x1 x2 x6 x9 x10 : Option V} (oR : KM.OkR R) (lR : R.length ≤ 100) (ha : H7 a = some (.lst as)) (hR : RowsT K H7 as R)
    (eon : H7 on = some (.lst (natsV (KM.onesOf R)))) (eu : H7 upA = some (.lst (natsV upto))) (el : H7 lsA = some (.lst (natsV less_))) (em : H7 md = some (.lst (natsV mid))) (lu : upto.length = R.length) (ll : less_.length = R.length) (lm : mid.length = R.length) (lo : (KM.onesOf R).length = R.length)
    (hcc : cc = if 1 < rest then 1 else 0)
    (q : ∀ af be H8, Same H7 H8 → H8 af = some (.lst (natsV (KM.stepOf R 1 upto mid))) → H8 be = some (.lst (natsV (KM.stepOf R cc mid less_))) →
      D.nx [some (.ref a), x1, x2, some (.ref be), some (.ref af), some (.ref on), x6, some (natV rest), some (.ref md), some (.ref af), some (.ref be), none, none] H8) :
    tTurn K D [some (.ref a), x1, x2, some (.ref lsA), some (.ref upA), some (.ref on), x6, some (natV rest), some (.ref md), x9, x10, none, none] H7 := by
  unfold tTurn
  have lA : as.length = R.length := hR.1
  have lst_ : ∀ (c : Nat) (e u : List Nat), (KM.stepOf R c e u).length = R.length := fun c e u => by
    unfold KM.stepOf
    rw [List.length_map, List.length_range]
  refine seq_asg ?_
  refine rd_nats (walk_enum (K := K) (a := a) (xs := as)) (wi := iEnum K (tCons (tVar 0) tNil)) (KM.stepOf R 1 upto mid) (by rw [lst_, lA]) (fun Rr r => ⟨_, rfl, a, as, rfl, SqL.of ha, r⟩) (fun H' s => SqL.of (s _ _ ha)) (by omega) ?_ fun af H8 naf s8 eaf => ?_
  · rintro i x H2 H3 kk hi sm ⟨T, u, v, rfl, nT, rfl, e1, e2⟩ k'
    cases e1
    obtain ⟨p, ep, tp⟩ := hR.2 i (by omega)
    obtain rfl := Option.some.inj (ep.symm.trans e2)
    obtain ⟨o0, o1, _⟩ := oR i (by omega)
    have s1 := same_fresh (o := .tup [.int (i : Nat), .ref p]) nT
    have eT : (upd H2 T (.tup [.int (i : Nat), .ref p])) T = some (.tup [.int (i : Nat), .ref p]) := upd_same
    generalize upd H2 T (.tup [.int (i : Nat), .ref p]) = H4 at s1 eT k' ⊢
    have s4 := sm.trans s1
    refine ⟨T, _, rfl, .inl (.inl eT), rfl, _, _, rfl, _, _, rfl, rfl, rfl, ?_⟩
    refine ⟨_, rfl, _, rfl, on, _, _, _, rfl, rfl, SqL.of (s4 _ _ eon), atI_nat (natsV_get (by omega)), _, rfl, _, rfl, p, _, _, _, rfl, rfl, .inl (.inl (s4 _ _ tp)), atI_nat (j := 0) (row_0 _), upA, _, _, _, rfl, rfl, SqL.of (s4 _ _ eu), atI_nat (natsV_get (by omega)), _, _, rfl, rfl,
      _, rfl, _, rfl, p, _, _, _, rfl, rfl, .inl (.inl (s4 _ _ tp)), atI_nat (j := 1) (row_1 _), md, _, _, _, rfl, rfl, SqL.of (s4 _ _ em), atI_nat (natsV_get (by omega)), _, _, rfl, rfl, ?_⟩
    have := k' H4 s1
    rw [KM.step_at (by omega), Nat.mul_one] at this
    exact this
  refine seq_asg ?_
  have ha8 := s8 _ _ ha
  have hR8 := hR.same s8
  refine rd_nats (walk_enum (K := K) (a := a) (xs := as)) (wi := iEnum K (tCons (tVar 0) tNil)) (KM.stepOf R cc mid less_) (by rw [lst_, lA]) (fun Rr r => ⟨_, rfl, a, as, rfl, SqL.of ha8, r⟩) (fun H' s => SqL.of (s _ _ ha8)) (by omega) ?_ fun be H9 nbe s9 ebe => ?_
  · rintro i x H2 H3 kk hi sm ⟨T, u, v, rfl, nT, rfl, e1, e2⟩ k'
    cases e1
    obtain ⟨p, ep, tp⟩ := hR8.2 i (by omega)
    obtain rfl := Option.some.inj (ep.symm.trans e2)
    obtain ⟨o0, o1, _⟩ := oR i (by omega)
    have s1 := same_fresh (o := .tup [.int (i : Nat), .ref p]) nT
    have eT : (upd H2 T (.tup [.int (i : Nat), .ref p])) T = some (.tup [.int (i : Nat), .ref p]) := upd_same
    generalize upd H2 T (.tup [.int (i : Nat), .ref p]) = H4 at s1 eT k' ⊢
    have s4 := sm.trans s1
    have s84 := s8.trans s4
    have o1' := (oR _ o1).2.2
    have hone : (KM.onesOf R).getD i 0 ≤ 1 := by
      rw [KM.ones_at (by omega)]
      exact o1'
    have ec : V.int (if decide ((1 : Int) < ((rest : Nat) : Int)) = true then 1 else 0) = natV cc := by
      rw [hcc]
      by_cases z : 1 < rest
      · rw [if_pos z, if_pos (decide_eq_true (by omega))]
        rfl
      · rw [if_neg z, if_neg (fun y => z (by have := of_decide_eq_true y; omega))]
        rfl
    refine ⟨T, _, rfl, .inl (.inl eT), rfl, _, _, rfl, _, _, rfl, rfl, rfl, ?_⟩
    refine ⟨_, rfl, _, rfl, on, _, _, _, rfl, rfl, SqL.of (s84 _ _ eon), atI_nat (natsV_get (by omega)), _, rfl, _, _, rfl, rfl, .inr ⟨_, rfl, _, cc, rfl, ec, by omega, _, rfl, _, rfl, p, _, _, _, rfl, rfl, .inl (.inl (s4 _ _ tp)), atI_nat (j := 0) (row_0 _), md, _, _, _, rfl, rfl, SqL.of (s84 _ _ em), atI_nat (natsV_get (by omega)), _, _, rfl, rfl,
      _, rfl, _, rfl, p, _, _, _, rfl, rfl, .inl (.inl (s4 _ _ tp)), atI_nat (j := 1) (row_1 _), lsA, _, _, _, rfl, rfl, SqL.of (s84 _ _ el), atI_nat (natsV_get (by omega)), _, _, rfl, rfl, ?_⟩⟩
    have := k' H4 s1
    rw [KM.step_at (by omega)] at this
    exact this
  refine ⟨_, rfl, _, rfl, show 2 ≤ sizeLine by decide, fun T nT => ?_⟩
  have s3 := same_fresh (o := .tup [.ref af, .ref be]) nT
  have eT : upd H9 T (.tup [.ref af, .ref be]) T = some (.tup [.ref af, .ref be]) := upd_same
  generalize upd H9 T (.tup [.ref af, .ref be]) = H10 at s3 eT ⊢
  refine ⟨T, _, rfl, .inl (.inl eT), rfl, _, _, rfl, _, _, rfl, rfl, ?_⟩
  exact q af be H10 (s8.trans (s9.trans s3)) (s3 _ _ (s9 _ _ eaf)) (s3 _ _ ebe)
end
section
variable {P : Program} {w : World} {K : PySem.W.Frag} {mg : PySem.Str → Option Value} {base : Heap}
theorem ok_mem {f : Addr} {fd : FuncData} {k : Nat} (F : Fun K "_law_members" "_law_members" sMem f fd) (mr : mg "range" = none) (me : mg "enumerate" = none) (mi : mg "int" = none) : FnOk P w K mg base CX0 (k + 1) f fd ["_law_rows", "_law_start", "_law_number"] (spMem K) := by
  refine F.ok scMem (fun vs H Q E h => ?_) (fun cdv A outer s H vs Q E hr h => ?_)
  · obtain ⟨a, as, R, n, rfl, _⟩ := h
    rfl
  · obtain ⟨a, as, R, n, rfl, ha, hR, oR, pR, lR, n0, n1, q⟩ := h
    refine ⟨_, (pss_cons (ps_if (pt_cmpR op_lt (pv 2) pe_int (nomark _)) (pss_one (ps_ret pe_int)) pss_nil) (pss_cons (ps_asg (pe_tup (pa_cons (pe_lc (own := [("_law_row", 11)]) rfl scMem.nd (pi_list (pv 0)) (blkOk_by (own := [("_law_row", 11)]) (N := nMem) (sc := defScope sMem) (by decide +kernel)) (fun _ _ _ _ _ => (pg_name (i := 11) scMem.nd rfl (.inl rfl))) (fun _ _ _ _ _ => pts_nil) (fun _ _ _ _ _ => pe_int)) (pa_cons (pe_lc (own := [("_law_row", 11)]) rfl scMem.nd (pi_list (pv 0)) (blkOk_by (own := [("_law_row", 11)]) (N := nMem) (sc := defScope sMem) (by decide +kernel)) (fun _ _ _ _ _ => (pg_name (i := 11) scMem.nd rfl (.inl rfl))) (fun _ _ _ _ _ => pts_nil) (fun _ _ _ _ _ => pe_int)) pa_nil))) (pg_tup rfl (pgs_cons (pg_name (i := 3) scMem.nd rfl (.inr rfl)) (pgs_cons (pg_name (i := 4) scMem.nd rfl (.inr rfl)) pgs_nil)))) (pss_cons (ps_set (i := 5) scMem.nd rfl (.inr rfl) (pe_lc (own := [("_law_row", 11)]) rfl scMem.nd (pi_list (pv 0)) (blkOk_by (own := [("_law_row", 11)]) (N := nMem) (sc := defScope sMem) (by decide +kernel)) (fun _ _ _ _ _ => (pg_name (i := 11) scMem.nd rfl (.inl rfl))) (fun _ _ _ _ _ => pts_nil) (fun _ _ _ _ _ => (pe_ix (r := rIxT K) ix_tup (pe_ix (r := rIxL K) ix_list (pv 0) (pe_ix (r := rIxT K) ix_tup (pv 11) pe_int (fun _ _ => rfl)) (fun _ _ => rfl)) pe_int (fun _ _ => rfl))))) (pss_cons (ps_for PassesOwn.never rfl (pi_range3 (by rfl) mr (pa_cons (pe_op op_sub (pe_bits (pv 2)) pe_int) (pa_cons (pe_un un_neg pe_int) (pa_cons (pe_un un_neg pe_int) pa_nil)))) (pg_name (i := 6) scMem.nd rfl (.inl rfl)) (pss_cons (ps_asg (pe_tup (pa_cons (pe_op op_shrN (pv 2) (pv 6)) (pa_cons (pv 3) pa_nil))) (pg_tup rfl (pgs_cons (pg_name (i := 7) scMem.nd rfl (.inr rfl)) (pgs_cons (pg_name (i := 8) scMem.nd rfl (.inr rfl)) pgs_nil)))) (pss_cons (ps_if (pt_cmpR op_eq (pe_op op_odd (pv 7) pe_int) pe_int (nomark _)) (pss_one (ps_set (i := 8) scMem.nd rfl (.inr rfl) (pv 4))) pss_nil) (pss_cons (ps_setLc (i := 9) (own := [("_law_at", 12), ("_law_row", 11)]) rfl scMem.nd rfl rfl (sw_true rfl rfl rfl (by decide +kernel)) (g := gTup K 2 (gCons (gName 12) (gCons (gName 11) gNil))) (pi_enum (by rfl) me (pa_cons (pv 0) pa_nil)) (blkOk_by (own := [("_law_at", 12), ("_law_row", 11)]) (N := nMem) (sc := defScope sMem) (by decide +kernel)) (fun _ _ _ _ _ => pg_tup rfl (pgs_cons (pg_name (i := 12) scMem.nd rfl (.inl rfl) (hf := .inr rfl)) (pgs_cons (pg_name (i := 11) scMem.nd rfl (.inl rfl) (hf := .inr rfl)) pgs_nil))) (fun _ _ _ _ _ => pts_nil) (fun _ _ _ _ _ => (pe_op op_addN (pe_op op_addN (pe_ix (r := rIxL K) ix_list (pv 5) (pv 12) (fun _ _ => rfl)) (pe_ix (r := rIxL K) ix_list (pv 4) (pe_ix (r := rIxT K) ix_tup (pv 11) pe_int (fun _ _ => rfl)) (fun _ _ => rfl))) (pe_ix (r := rIxL K) ix_list (pv 8) (pe_ix (r := rIxT K) ix_tup (pv 11) pe_int (fun _ _ => rfl)) (fun _ _ => rfl))))) (pss_cons (ps_setLc (i := 10) (own := [("_law_at", 12), ("_law_row", 11)]) rfl scMem.nd rfl rfl (sw_true rfl rfl rfl (by decide +kernel)) (g := gTup K 2 (gCons (gName 12) (gCons (gName 11) gNil))) (pi_enum (by rfl) me (pa_cons (pv 0) pa_nil)) (blkOk_by (own := [("_law_at", 12), ("_law_row", 11)]) (N := nMem) (sc := defScope sMem) (by decide +kernel)) (fun _ _ _ _ _ => pg_tup rfl (pgs_cons (pg_name (i := 12) scMem.nd rfl (.inl rfl) (hf := .inr rfl)) (pgs_cons (pg_name (i := 11) scMem.nd rfl (.inl rfl) (hf := .inr rfl)) pgs_nil))) (fun _ _ _ _ _ => pts_nil) (fun _ _ _ _ _ => (pe_op op_addN (pe_op op_addN (pe_op op_mulN (pe_ix (r := rIxL K) ix_list (pv 5) (pv 12) (fun _ _ => rfl)) (pe_callTy (T := "int") (r := rInt1) call_int1 (by rfl) mi (by decide +kernel) (pa_cons (pe_cmpR op_gt (pv 7) pe_int (nomark _)) pa_nil))) (pe_ix (r := rIxL K) ix_list (pv 8) (pe_ix (r := rIxT K) ix_tup (pv 11) pe_int (fun _ _ => rfl)) (fun _ _ => rfl))) (pe_ix (r := rIxL K) ix_list (pv 3) (pe_ix (r := rIxT K) ix_tup (pv 11) pe_int (fun _ _ => rfl)) (fun _ _ => rfl))))) (pss_one (ps_asg (pe_tup (pa_cons (pv 9) (pa_cons (pv 10) pa_nil))) (pg_tup rfl (pgs_cons (pg_name (i := 4) scMem.nd rfl (.inr rfl)) (pgs_cons (pg_name (i := 3) scMem.nd rfl (.inr rfl)) pgs_nil)))))))))) (pss_one (ps_ret (pe_ix (r := rIxL K) ix_list (pv 4) (pv 1) (fun _ _ => rfl)))))))), ?_⟩
    have lA : as.length = R.length := hR.1
    refine seq_of ?_
    refine ⟨_, rfl, _, _, rfl, rfl, false, congrArg V.bl (decide_eq_false (by omega)), iteF ?_⟩
    refine next_of ?_
    dsimp only
    refine seq_asg ?_
    -- two lists of noughts
    have zz : ∀ i, i < R.length → (List.replicate R.length 0).getD i 0 = 0 := fun i hi => by
      rw [List.getD_eq_getElem?_getD, List.getElem?_replicate]
      by_cases h : i < R.length
      · rw [if_pos h]
        rfl
      · rw [if_neg h]
        rfl
    have zl : (List.replicate R.length 0).length = R.length := List.length_replicate ..
    dsimp only [tTup, tCons]
    refine rd_nats (walk_list (K := K) (a := a) (xs := as)) (wi := iList K (tVar 0)) (List.replicate R.length 0) (by rw [zl, lA]) (fun Rr r => ⟨_, rfl, a, rfl, ⟨_, SqL.of ha⟩, r⟩) (fun H' s => SqL.of (s _ _ ha)) (by omega) ?_ fun ls H1 nls s1 els => ?_
    · rintro i x H2 H3 kk hi sm ⟨rfl, _⟩ k'
      refine ⟨rfl, ?_⟩
      have := k' H3 (Same.refl H3)
      rw [zz i (by omega)] at this
      exact this
    have ha1 := s1 _ _ ha
    refine rd_nats (walk_list (K := K) (a := a) (xs := as)) (wi := iList K (tVar 0)) (List.replicate R.length 0) (by rw [zl, lA]) (fun Rr r => ⟨_, rfl, a, rfl, ⟨_, SqL.of ha1⟩, r⟩) (fun H' s => SqL.of (s _ _ ha1)) (by omega) ?_ fun up H2 nup s2 eup => ?_
    · rintro i x H2 H3 kk hi sm ⟨rfl, _⟩ k'
      refine ⟨rfl, ?_⟩
      have := k' H3 (Same.refl H3)
      rw [zz i (by omega)] at this
      exact this
    refine ⟨show 2 ≤ sizeLine by decide, fun T nT => ?_⟩
    have s3 := same_fresh (o := .tup [.ref ls, .ref up]) nT
    have eT : upd H2 T (.tup [.ref ls, .ref up]) T = some (.tup [.ref ls, .ref up]) := upd_same
    generalize upd H2 T (.tup [.ref ls, .ref up]) = H3 at s3 eT ⊢
    refine ⟨T, _, rfl, .inl (.inl eT), rfl, _, _, rfl, _, _, rfl, rfl, ?_⟩
    have s03 := s1.trans (s2.trans s3)
    have els3 := s3 _ _ (s2 _ _ els)
    have eup3 := s3 _ _ eup
    have ha3 := s03 _ _ ha
    have hR3 := hR.same s03
    refine seq_asg ?_
    refine rd_nats (walk_list (K := K) (a := a) (xs := as)) (wi := iList K (tVar 0)) (KM.onesOf R) (by unfold KM.onesOf; rw [List.length_map, lA]) (fun Rr r => ⟨_, rfl, a, rfl, ⟨_, SqL.of ha3⟩, r⟩) (fun H' s => SqL.of (s _ _ ha3)) (by omega) ?_ fun on H4 non s4 eon => ?_
    · rintro i x H5 H6 kk hi sm ⟨rfl, hx⟩ k'
      obtain ⟨p, ep, tp⟩ := hR3.2 i (by omega)
      rw [ep] at hx
      cases hx
      have o1 := (oR i (by omega)).2.1
      obtain ⟨p1, ep1, tp1⟩ := hR3.2 _ o1
      refine ⟨rfl, ?_⟩
      refine ⟨_, rfl, _, rfl, p, _, _, _, rfl, rfl, .inl (.inl (sm _ _ tp)), atI_nat (j := 1) (row_1 _), a, _, _, _, rfl, rfl, SqL.of (sm _ _ ha3), atI_nat ep1, p1, _, _, _, rfl, rfl, .inl (.inl (sm _ _ tp1)), atI_nat (j := 2) (row_2 _), ?_⟩
      have := k' H6 (Same.refl H6)
      rw [KM.ones_at (by omega)] at this
      exact this
    have s04 := s03.trans s4
    have bl1 : 0 < (KM.bits n).length := by
      rw [KM.bits_pos n0]
      exact Nat.succ_pos _
    have bl2 := bits_small n1
    refine seq_of ?_
    refine ⟨_, rfl, _, rfl, ?_⟩
    rw [bits_len]
    refine ⟨_, _, rfl, rfl, ?_⟩
    refine ⟨_, rfl, _, rfl, (((KM.bits n).length : Nat) : Int) - 1, -1, -1, (KM.bits n).length, rfl, ?_, ?_⟩
    · have := RgC.neg (i := (((KM.bits n).length : Nat) : Int) - 1) (j := -1) (by omega) (by omega) (by omega) (by omega)
      have e : ((((KM.bits n).length : Nat) : Int) - 1 - -1).toNat = (KM.bits n).length := by omega
      rw [e] at this
      exact this
    generalize hBL : (KM.bits n).length = BL at bl1 bl2
    refine for_it walk_rangeC (fun i σ H' => ∃ (lsA upA : Addr) (less_ upto : List Nat) (y6 y7 y8 y9 y10 : Option V), σ = [some (.ref a), some (natV 0), some (natV n), some (.ref lsA), some (.ref upA), some (.ref on), y6, y7, y8, y9, y10, none, none] ∧ Same H4 H' ∧ H' lsA = some (.lst (natsV less_)) ∧ H' upA = some (.lst (natsV upto)) ∧
      KM.Zero R less_ (fun k => k < n / 2 ^ (BL - i)) ∧ KM.Zero R upto (fun k => k ≤ n / 2 ^ (BL - i))) ?_ (fun _ _ _ _ _ => True.intro) ?_ ?_
    · have e0 : n / 2 ^ (BL - 0) = 0 := by
        rw [Nat.sub_zero, ← hBL]
        exact Nat.div_eq_of_lt (KM.bits_lt n)
      refine ⟨ls, up, _, _, none, none, none, none, none, rfl, Same.refl _, s4 _ _ els3, s4 _ _ eup3, ?_, ?_⟩
      · rw [e0]
        exact KM.zero_start zl zz fun m _ h => absurd h (Nat.not_lt_zero m)
      · rw [e0]
        exact KM.zero_start zl zz fun m hm h => by omega
    · rintro i x σ H5 H6 hi ⟨lsA, upA, less_, upto, y6, y7, y8, y9, y10, rfl, sm, el, eu, hzl, hzu⟩ ⟨rfl, rfl⟩
      have ex : V.int ((((BL : Nat) : Int) - 1) + ((i : Nat) : Int) * -1) = natV (BL - 1 - i) := by
        unfold natV
        congr 1
        omega
      show gName 6 (V.int ((((BL : Nat) : Int) - 1) + ((i : Nat) : Int) * -1)) _ _ _
      rw [ex]
      generalize hrs : n / 2 ^ (BL - 1 - i) = rest
      have hr0 : 0 < rest := by
        rw [← hrs]
        refine Nat.div_pos ?_ (Nat.pow_pos (by decide))
        have h2 := KM.bits_ge n n0
        rw [hBL] at h2
        have e2 : 2 ^ BL = 2 * 2 ^ (BL - 1) := by
          rw [← Nat.pow_succ']
          congr 1
          omega
        have h3 : 2 ^ (BL - 1 - i) ≤ 2 ^ (BL - 1) := Nat.pow_le_pow_right (by decide) (by omega)
        omega
      have hhalf : n / 2 ^ (BL - i) = rest / 2 := by
        rw [← hrs, Nat.div_div_eq_div_mul, ← Nat.pow_succ]
        congr 2
        omega
      have hnext : n / 2 ^ (BL - (i + 1)) = rest := by
        rw [← hrs]
        congr 2
        omega
      rw [hhalf] at hzl hzu
      refine seq_asg ?_
      refine ⟨_, rfl, _, rfl, n, BL - 1 - i, rfl, rfl, ?_⟩
      rw [shr_nat, hrs]
      refine ⟨_, rfl, show 2 ≤ sizeLine by decide, fun U nU => ?_⟩
      have s6 := same_fresh (o := .tup [.int ((rest : Nat) : Int), .ref lsA]) nU
      have eU : upd H6 U (.tup [.int ((rest : Nat) : Int), .ref lsA]) U = some (.tup [natV rest, .ref lsA]) := upd_same
      generalize upd H6 U (.tup [.int ((rest : Nat) : Int), .ref lsA]) = H7 at s6 eU ⊢
      refine ⟨U, _, rfl, .inl (.inl eU), rfl, _, _, rfl, _, _, rfl, rfl, ?_⟩
      have sm7 := sm.trans s6
      have el7 := s6 _ _ el
      have eu7 := s6 _ _ eu
      have eon7 := sm7 _ _ eon
      have s07 := s04.trans sm7
      have ha7 := s07 _ _ ha
      have hR7 := hR.same s07
      have hZ1 := KM.turn_upto oR hr0 hzl hzu
      have hZ2 := KM.turn_less oR hr0 hzl hzu
      have ll := hzl.1
      have lu := hzu.1
      have lo : (KM.onesOf R).length = R.length := by
        unfold KM.onesOf
        rw [List.length_map]
      refine seq_of ?_
      refine ⟨_, rfl, rest, rfl, rfl, natV_scal _ 1, _, rfl, ?_⟩
      have ed : decide (V.int ((rest % 2 : Nat) : Int) = V.int 1) = decide (rest % 2 = 1) := dec_nat (rest % 2) 1
      rw [ed]
      have back : ∀ af be (H8 : Hp) (y6 y7 y8 : Option V), Same H7 H8 → H8 af = some (.lst (natsV (KM.stepOf R 1 upto (if rest % 2 = 1 then upto else less_)))) → H8 be = some (.lst (natsV (KM.stepOf R (if 1 < rest then 1 else 0) (if rest % 2 = 1 then upto else less_) less_))) →
          ∃ (lsA upA : Addr) (less_ upto : List Nat) (y6' y7' y8' y9 y10 : Option V), [some (.ref a), some (natV 0), some (natV n), some (.ref be), some (.ref af), some (.ref on), y6, y7, y8, some (.ref af), some (.ref be), none, none] = [some (.ref a), some (natV 0), some (natV n), some (.ref lsA), some (.ref upA), some (.ref on), y6', y7', y8', y9, y10, none, none] ∧ Same H4 H8 ∧ H8 lsA = some (.lst (natsV less_)) ∧ H8 upA = some (.lst (natsV upto)) ∧
          KM.Zero R less_ (fun k => k < n / 2 ^ (BL - (i + 1))) ∧ KM.Zero R upto (fun k => k ≤ n / 2 ^ (BL - (i + 1))) := by
        intro af be H8 y6 y7 y8 s8 ea eb
        refine ⟨be, af, _, _, y6, y7, y8, _, _, rfl, sm7.trans s8, eb, ea, ?_, ?_⟩
        · rw [hnext]
          exact hZ2
        · rw [hnext]
          exact hZ1
      refine ite2 (fun c0 => ?_) (fun c0 => ?_)
      · have c1 : rest % 2 = 1 := of_decide_eq_true c0
        refine ⟨_, rfl, ?_⟩
        dsimp only
        rw [if_pos c1] at back
        exact rd_turn (K := K) (R := R) (cc := if 1 < rest then 1 else 0) oR lR ha7 hR7 eon7 eu7 el7 eu7 lu ll lu lo rfl fun af be H8 s8 ea eb => back af be H8 _ _ _ s8 ea eb
      · have c1 : ¬ rest % 2 = 1 := fun z => c0 (decide_eq_true z)
        refine next_of ?_
        dsimp only
        rw [if_neg c1] at back
        exact rd_turn (K := K) (R := R) (cc := if 1 < rest then 1 else 0) oR lR ha7 hR7 eon7 eu7 el7 el7 lu ll ll lo rfl fun af be H8 s8 ea eb => back af be H8 _ _ _ s8 ea eb
    · rintro σ H5 ⟨lsA, upA, less_, upto, y6, y7, y8, y9, y10, rfl, sm, el, eu, hzl, hzu⟩
      rw [Nat.sub_self, Nat.pow_zero, Nat.div_one] at hzu
      have lu := hzu.1
      refine ⟨_, rfl, _, rfl, upA, _, _, _, rfl, rfl, SqL.of eu, atI_nat (j := 0) (natsV_get (by omega)), q H5 _ (s04.trans sm) (hzu.2 0 pR)⟩
end
end K35
namespace K35
open PySem PySem.Spec PyProof.Rows L2 KR
/-! ## _law_is_empty -/

abbrev sEmp : Stmt := top 47
abbrev nEmp : List PySem.Str := ["_law_rows"]
theorem scEmp : FnScope nEmp ["_law_rows"] (defScope sEmp) := ⟨rfl, rfl, rfl, by decide +kernel, rfl, by decide +kernel, by decide +kernel⟩
def spEmp (K : PySem.W.Frag) : Sp := fun vs H Q _ => ∃ (a : Addr) (as : List V) (R : KM.Rows), vs = [.ref a] ∧ H a = some (.lst as) ∧ RowsT K H as R ∧ KM.OkR R ∧ 0 < R.length ∧ R.length ≤ 100 ∧
  ∀ H' b, Same H H' → (b = true ↔ ∀ m, 0 < m → KM.ledAt R 0 m = 0) → Q (.bl b) H'
section
variable {P : Program} {w : World} {K : PySem.W.Frag} {mg : PySem.Str → Option Value} {base : Heap}
theorem ok_emp {f fM : Addr} {fd fdM : FuncData} {k : Nat} (F : Fun K "_law_is_empty" "_law_is_empty" sEmp f fd)
    (FM : Fun K "_law_members" "_law_members" sMem fM fdM) (bM : Binds K fdM ["_law_rows", "_law_start", "_law_number"] []) (gM : mg "_law_members" = some (.ref fM)) (GM : FnOk P w K mg base CX0 k fM fdM ["_law_rows", "_law_start", "_law_number"] (spMem K))
    (ml : mg "len" = none) : FnOk P w K mg base CX0 (k + 1) f fd ["_law_rows"] (spEmp K) := by
  refine F.ok scEmp (fun vs H Q E h => ?_) (fun cdv A outer s H vs Q E hr h => ?_)
  · obtain ⟨a, as, R, rfl, _⟩ := h
    rfl
  · obtain ⟨a, as, R, rfl, ha, hR, oR, pR, lR, q⟩ := h
    refine ⟨_, (pss_one (ps_ret (pe_cmpR op_eq (pe_call GM hr (by rfl) gM FM.kp bM .nil pass0 (pa_cons (pv 0) (pa_cons pe_int (pa_cons (pe_op op_oneShl pe_int (pe_callB call_len_seq (by rfl) ml PySem.boot_len (pa_cons (pv 0) pa_nil))) pa_nil)))) pe_int (nomark _)))), ?_⟩
    refine ⟨_, rfl, _, rfl, a, as, rfl, .inl (SqL.of ha), ?_⟩
    rw [hR.1]
    refine ⟨R.length, rfl, rfl, by omega, ?_⟩
    have e2 : V.int ((2 : Int) ^ R.length) = natV (2 ^ R.length) := by
      unfold natV
      congr 1
    refine ⟨a, as, R, 2 ^ R.length, by rw [e2]; rfl, ha, hR, oR, pR, lR, Nat.pow_pos (by decide), Nat.lt_of_le_of_lt (Nat.pow_le_pow_right (by decide) lR) (by decide +kernel), fun H' x s' hx => ?_⟩
    refine ⟨natV_scal x 0, ?_⟩
    have ed : decide (natV x = V.int 0) = decide (x = 0) := dec_nat x 0
    rw [ed]
    refine q H' _ s' ⟨fun h m hm => ?_, fun h => ?_⟩
    · exact KM.no_member oR pR (fun n n0 n1 => hx.mp (of_decide_eq_true h) n n0 n1) m hm
    · exact decide_eq_true (hx.mpr fun m hm _ => h m hm)
end
/-! ## _law_numbered -/

abbrev sNum : Stmt := top 43
abbrev nNum : List PySem.Str := ["_law_told", "_law_seen", "_law_at", "_law_row", "_law_target", "_law_part"]
theorem scNum : FnScope nNum ["_law_told"] (defScope sNum) := ⟨rfl, rfl, rfl, by decide +kernel, rfl, by decide +kernel, by decide +kernel⟩
def spNum (K : PySem.W.Frag) : Sp := fun vs H Q _ => ∃ (t : Addr) (ys : List V) (T : KM.Rows) (seen : Nat → Nat), vs = [.ref t] ∧ H t = some (.tup ys) ∧ RowsT K H ys T ∧ KM.Num T seen ∧ 0 < T.length ∧ T.length ≤ 60 ∧ (∀ i, i < T.length → (KM.rowAt T i).2.2 ≤ 1) ∧ ∀ H', Same H H' → Q (.bl true) H'
section
variable {P : Program} {w : World} {K : PySem.W.Frag} {mg : PySem.Str → Option Value} {base : Heap}
theorem ok_num {f : Addr} {fd : FuncData} {k : Nat} (F : Fun K "_law_numbered" "_law_numbered" sNum f fd) (mi : mg "isinstance" = none) (mt : mg "tuple" = none) (mn : mg "int" = none) (mb : mg "bool" = none) (mr : mg "range" = none) (ml : mg "len" = none) :
    FnOk P w K mg base CX0 (k + 1) f fd ["_law_told"] (spNum K) := by
  refine F.ok scNum (fun vs H Q E h => ?_) (fun cdv A outer s H vs Q E hr h => ?_)
  · obtain ⟨t, ys, T, seen, rfl, _⟩ := h
    rfl
  · obtain ⟨t, ys, T, seen, rfl, ht, hT, hN, pT, lT, hone, q⟩ := h
    refine ⟨_, (pss_cons (ps_set (i := 1) scNum.nd rfl (.inl rfl) pe_int) (pss_cons (ps_if (PW.pt (pw_or (pt_not (pt_val (pe_callB call_isi (by rfl) mi (by decide +kernel) (pa_cons (pv 0) (pa_cons (pe_bltn (v := .ty "tuple") (by rfl) mt (by decide +kernel) rfl) pa_nil))))) (pw_or1 (pt_cmpR (op_eqD hr.units) (pv 0) (pe_tup pa_nil) (nomark _))))) (pss_one ps_never) pss_nil) (pss_cons (ps_for PassesOwn.never rfl (pi_range1 (by rfl) mr (pa_cons (pe_callB call_len_seq (by rfl) ml PySem.boot_len (pa_cons (pv 0) pa_nil)) pa_nil)) (pg_name (i := 2) scNum.nd rfl (.inl rfl)) (pss_cons (ps_set (i := 3) scNum.nd rfl (.inl rfl) (pe_ix (r := rIxT K) ix_tup (pv 0) (pv 2) (fun _ _ => rfl))) (pss_cons (ps_if (PW.pt (pw_or (pt_not (pt_val (pe_callB call_isi (by rfl) mi (by decide +kernel) (pa_cons (pv 3) (pa_cons (pe_bltn (v := .ty "tuple") (by rfl) mt (by decide +kernel) rfl) pa_nil))))) (pw_or (pt_cmpR op_ne (pe_callB call_len_seq (by rfl) ml PySem.boot_len (pa_cons (pv 3) pa_nil)) pe_int (nomark _)) (pw_or1 (pt_cmpR op_ge (pv 2) (pv 1) (nomark _)))))) (pss_one ps_never) pss_nil) (pss_cons (ps_if (PW.pt (pw_or (pt_cmpR (op_neD hr.units) (pe_lc (own := [("_law_part", 5)]) rfl scNum.nd (pi_tup (pv 3)) (blkOk_by (own := [("_law_part", 5)]) (N := nNum) (sc := defScope sNum) (by decide +kernel)) (fun _ _ _ _ _ => (pg_name (i := 5) scNum.nd rfl (.inl rfl))) (fun _ _ _ _ _ => pts_one (PW.pt (pw_or (pt_not (pt_val (pe_callB (r := rIsi K) call_isi (by rfl) mi (by decide +kernel) (pa_cons (pv 5) (pa_cons (pe_bltn (v := .ty "int") (by rfl) mn (by decide +kernel) rfl) pa_nil))))) (pw_or1 (pt_val (pe_callB (r := rIsi K) call_isi (by rfl) mi (by decide +kernel) (pa_cons (pv 5) (pa_cons (pe_bltn (v := .ty "bool") (by rfl) mb (by decide +kernel) rfl) pa_nil)))))))) (fun _ _ _ _ _ => pe_int)) (pe_lst pa_nil) (nomark _)) (pw_or1 (pt_cmpR op_notIn_seq (pe_ix (r := rIxT K) ix_tup (pv 3) pe_int (fun _ _ => rfl)) (pe_tup (pa_cons pe_int (pa_cons pe_int pa_nil))) (by rfl))))) (pss_one ps_never) pss_nil) (pss_one (ps_for PassesOwn.never rfl (pi_tup (pe_slice sl_tupA (pv 3) po_none (po_some pe_int))) (pg_name (i := 4) scNum.nd rfl (.inl rfl)) (pss_cons (ps_if (PW.pt (pw_or (pt_cmpR op_lt (pv 4) pe_int (nomark _)) (pw_or1 (pt_cmpR op_gt (pv 4) (pv 1) (nomark _))))) (pss_one ps_never) pss_nil) (pss_one (ps_if (pt_cmpR op_eq (pv 4) (pv 1) (nomark _)) (pss_one (ps_set (i := 1) scNum.nd rfl (.inl rfl) (pe_op op_addN (pv 1) pe_int))) pss_nil))))))))) (pss_one (ps_ret (pe_cmpR op_eq (pv 1) (pe_callB call_len_seq (by rfl) ml PySem.boot_len (pa_cons (pv 0) pa_nil)) (nomark _))))))), ?_⟩
    have lY : ys.length = T.length := hT.1
    refine seq_asg ?_
    refine seq_of ?_
    refine ⟨_, rfl, _, _, _, _, true, rfl, .ty "tuple", tyx_t (.inl (.inl ht)), kit_tt, true, rfl, iteF ?_⟩
    refine ⟨_, rfl, Nat.zero_le _, fun em nem => ?_⟩
    have s1 := same_fresh (o := .tup []) nem
    have eem : upd H em (.tup []) em = some (.tup []) := upd_same
    generalize upd H em (.tup []) = H1 at s1 eem ⊢
    have ht1 := s1 _ _ ht
    have hT1 := hT.same s1
    refine ⟨_, _, .tup (.inl (.inl ht1)) (dp_rows hT1), .tup (.inl (.inl eem)) .nil, shaped_rowsT T, shaped_rowsT [], _, rfl, ?_⟩
    have ee : PyData.eqv (.tuple (T.map fun r => PyData.tuple (rowL r))) (.tuple []) = decide (T = []) := (eqv_tuple _ _).trans (eqv_rowsAll T [])
    rw [ee, decide_eq_false (fun z => by rw [z] at pT; exact absurd pT (Nat.lt_irrefl 0))]
    refine iteF ?_
    refine next_of ?_
    dsimp only
    refine seq_of ?_
    refine ⟨_, rfl, t, ys, rfl, .inr (.inl (.inl ht1)), ((ys.length : Nat) : Int), rfl, by omega, by omega, ?_⟩
    have eN : (((ys.length : Nat) : Int)).toNat = T.length := by omega
    rw [eN]
    refine for_it walk_rangeN (fun i σ H' => ∃ y2 y3 y4, σ = [some (.ref t), some (natV (seen i)), y2, y3, y4, none] ∧ Same H1 H') ?_ (fun _ _ _ _ _ => True.intro) ?_ ?_
    · refine ⟨none, none, none, ?_, Same.refl _⟩
      rw [hN.zero]
      rfl
    · rintro i x σ H2 H3 hi ⟨y2, y3, y4, rfl, sm⟩ ⟨rfl, rfl⟩
      obtain ⟨k1, k2, k3, k4⟩ := hN.row i hi
      obtain ⟨p, ep, tp⟩ := hT1.2 i hi
      refine seq_asg ?_
      refine ⟨_, rfl, _, rfl, t, _, _, _, rfl, rfl, .inl (.inl (sm _ _ ht1)), atI_nat ep, ?_⟩
      refine seq_of ?_
      refine ⟨_, rfl, _, _, _, _, true, rfl, .ty "tuple", tyx_t (.inl (.inl (sm _ _ tp))), kit_tt, true, rfl, iteF ?_⟩
      refine ⟨_, rfl, p, _, rfl, .inr (.inl (.inl (sm _ _ tp))), rfl, false, rfl, iteF ?_⟩
      refine ⟨_, rfl, _, rfl, _, _, rfl, rfl, false, congrArg V.bl (decide_eq_false (by omega)), iteF ?_⟩
      refine next_of ?_
      dsimp only
      refine seq_of ?_
      refine ⟨_, rfl, p, rfl, ⟨_, .inl (.inl (sm _ _ tp))⟩, fun D nD => lc_it (walk_tup (K := K) (a := p) (xs := rowV (KM.rowAt T i))) (fun j H' => Same H3 H' ∧ H' D = some (.lst [])) ?_ ?_ ?_ ?_⟩
      · exact ⟨same_fresh nD, upd_same⟩
      · exact fun j H' _ h => .inl (.inl (h.1 _ _ (sm _ _ tp)))
      · rintro j x H4 H5 hj ⟨s4, e4⟩ ⟨rfl, hx⟩
        obtain ⟨m, rfl⟩ : ∃ m : Nat, x = natV m := by
          match j, hx with
          | 0, hx => exact ⟨_, (Option.some.inj hx).symm⟩
          | 1, hx => exact ⟨_, (Option.some.inj hx).symm⟩
          | 2, hx => exact ⟨_, (Option.some.inj hx).symm⟩
        refine ⟨rfl, ?_⟩
        refine ⟨_, rfl, _, _, _, _, true, rfl, .ty "int", .base (.int _), kit_ii, true, rfl, iteF ?_⟩
        exact ⟨_, rfl, _, _, _, _, false, rfl, .ty "bool", .base (.int _), kit_ib, false, rfl, iteF ⟨s4, e4⟩⟩
      · rintro H4 ⟨s4, e4⟩
        refine ⟨Nat.zero_le _, fun e5 ne5 => ?_⟩
        have s5 := same_fresh (o := .lst []) ne5
        have ee5 : upd H4 e5 (.lst []) e5 = some (.lst []) := upd_same
        generalize upd H4 e5 (.lst []) = H5 at s5 ee5 ⊢
        refine ⟨_, _, .lst (SqL.of (s5 _ _ e4)) .nil, .lst (SqL.of ee5) .nil, shaped_nats [], shaped_nats [], false, ?_, iteF ?_⟩
        · have e6 : PyData.eqv (.list []) (.list []) = true := by rw [eqv_list, PyData.eqvAll]
          rw [e6]
          rfl
        have s35 := s4.trans s5
        have sm5 := sm.trans s35
        refine ⟨_, rfl, p, _, _, _, rfl, rfl, .inl (.inl (sm5 _ _ tp)), atI_nat (j := 2) (row_2 _), show 2 ≤ sizeLine by decide, fun T2 nT2 => ?_⟩
        have s6 := same_fresh (o := .tup [.int 0, .int 1]) nT2
        have e6 : upd H5 T2 (.tup [.int 0, .int 1]) T2 = some (.tup (natsV [0, 1])) := upd_same
        generalize upd H5 T2 (.tup [.int 0, .int 1]) = H6 at s6 e6 ⊢
        have sm6 := sm5.trans s6
        refine ⟨T2, natsV [0, 1], rfl, .inr (.inl (.inl e6)), rfl, rfl, false, ?_, iteF ?_⟩
        · have h1 := hone i hi
          rw [if_pos rfl, in_nats, decide_eq_true]
          · rfl
          · rcases (show (KM.rowAt T i).2.2 = 0 ∨ (KM.rowAt T i).2.2 = 1 by omega) with e | e <;> rw [e] <;> simp
        refine next_of ?_
        dsimp only
        refine ⟨_, rfl, 2, rfl, p, _, rfl, .inl (.inl (sm6 _ _ tp)), fun z => absurd (show (0 : Nat) = 0 ∧ (2 : Nat) = 3 from z) (by decide), fun _ T3 nT3 => ?_⟩
        have ec : cutV (rowV (KM.rowAt T i)) none (some 2) = [natV (KM.rowAt T i).1, natV (KM.rowAt T i).2.1] := rfl
        rw [ec]
        have s7 := same_fresh (o := .tup [natV (KM.rowAt T i).1, natV (KM.rowAt T i).2.1]) nT3
        have e7 : upd H6 T3 (.tup [natV (KM.rowAt T i).1, natV (KM.rowAt T i).2.1]) T3 = some (.tup [natV (KM.rowAt T i).1, natV (KM.rowAt T i).2.1]) := upd_same
        generalize upd H6 T3 (.tup [natV (KM.rowAt T i).1, natV (KM.rowAt T i).2.1]) = H7 at s7 e7 ⊢
        have sm7 := sm6.trans s7
        refine ⟨T3, rfl, ⟨_, .inl (.inl e7)⟩, for_tup (K := K) (a := T3) (xs := [natV (KM.rowAt T i).1, natV (KM.rowAt T i).2.1]) (fun j σ H' => ∃ y4, σ = [some (.ref t), some (natV (if j = 0 then seen i else if j = 1 then KM.bump (KM.rowAt T i).1 (seen i) else KM.bump (KM.rowAt T i).2.1 (KM.bump (KM.rowAt T i).1 (seen i)))), some (natV i), some (.ref p), y4, none] ∧ Same H7 H') ?_ ?_ ?_ ?_⟩
        · exact ⟨y4, rfl, Same.refl _⟩
        · rintro j σ H' _ ⟨_, _, s'⟩
          exact .inl (.inl (s' _ _ e7))
        · rintro j x σ H8 hj ⟨z4, rfl, s8⟩
          obtain ⟨g, cur, rfl, ecur, hle, enext⟩ : ∃ g cur : Nat, x = natV g ∧ (if j = 0 then seen i else if j = 1 then KM.bump (KM.rowAt T i).1 (seen i) else KM.bump (KM.rowAt T i).2.1 (KM.bump (KM.rowAt T i).1 (seen i))) = cur ∧ g ≤ cur ∧
              (if j + 1 = 0 then seen i else if j + 1 = 1 then KM.bump (KM.rowAt T i).1 (seen i) else KM.bump (KM.rowAt T i).2.1 (KM.bump (KM.rowAt T i).1 (seen i))) = KM.bump g cur := by
            match j, hj with
            | 0, hj => exact ⟨_, _, (Option.some.inj hj).symm, rfl, k2, rfl⟩
            | 1, hj => exact ⟨_, _, (Option.some.inj hj).symm, rfl, k3, rfl⟩
          rw [ecur]
          simp only [enext]
          refine seq_of ?_
          refine ⟨_, rfl, _, _, rfl, rfl, false, congrArg V.bl (decide_eq_false (by omega)), iteF ?_⟩
          refine ⟨_, rfl, _, rfl, _, _, rfl, rfl, false, congrArg V.bl (decide_eq_false (by omega)), iteF ?_⟩
          refine next_of ?_
          dsimp only
          refine ⟨_, rfl, _, rfl, natV_scal _ _, _, rfl, ?_⟩
          rw [dec_nat]
          unfold KM.bump
          by_cases hg : g = cur
          · rw [decide_eq_true hg, if_pos hg]
            exact iteT ⟨_, rfl, cur, 1, rfl, rfl, _, rfl, s8⟩
          · rw [decide_eq_false hg, if_neg hg]
            exact iteF ⟨_, rfl, s8⟩
        · rintro σ H8 ⟨z4, rfl, s8⟩
          refine ⟨some (natV i), some (.ref p), z4, ?_, sm7.trans s8⟩
          rw [k4]
          rfl
    · rintro σ H2 ⟨y2, y3, y4, rfl, sm⟩
      refine ⟨_, rfl, _, rfl, t, ys, rfl, .inr (.inl (.inl (sm _ _ ht1))), natV_scal _ _, ?_⟩
      have ed : decide (natV (seen T.length) = V.int ((ys.length : Nat) : Int)) = true := by
        rw [hN.last, lY]
        exact decide_eq_true rfl
      rw [ed]
      exact q H2 (s1.trans sm)
end
end K35
namespace K35
open PySem PySem.Spec PyProof.Rows L2 KR
/-- the key of a triple -/
def keyT (r : KM.Row) : List Key := [Sum.inl ((r.1 : Nat) : Int), Sum.inl ((r.2.1 : Nat) : Int), Sum.inl ((r.2.2 : Nat) : Int)]
theorem keyT_V (r : KM.Row) : (keyT r).map kV = rowV r := rfl
theorem keyT_inj {r q : KM.Row} (h : keyT r = keyT q) : r = q := by
  unfold keyT at h
  injection h with h1 h2
  injection h2 with h2 h3
  injection h3 with h3 _
  have a := key_nat.mp h1
  have b := key_nat.mp h2
  have c := key_nat.mp h3
  obtain ⟨x, y, z⟩ := r
  obtain ⟨x', y', z'⟩ := q
  simp only at a b c
  rw [a, b, c]
/-- the dict of the names of the keys D -/
def IdxD (kvs : List (List Key × V)) (D : List KM.Row) : Prop := kvs.length = D.length ∧ (∀ (v : Nat) x, D[v]? = some x → valV kvs (keyT x) = some (natV v)) ∧ ∀ x, x ∉ D → valV kvs (keyT x) = none
theorem IdxD.nil : IdxD [] [] := ⟨rfl, fun v x h => by simp at h, fun x _ => rfl⟩
theorem IdxD.put {kvs : List (List Key × V)} {D : List KM.Row} (h : IdxD kvs D) {x : KM.Row} (hx : x ∉ D) : IdxD (putK kvs (keyT x) (natV D.length)) (D ++ [x]) := by
  refine ⟨?_, fun v y hv => ?_, fun y hy => ?_⟩
  · rw [putK_new _ (h.2.2 x hx), List.length_append, List.length_append, h.1]
    rfl
  · rw [valV_put]
    rcases Nat.lt_or_ge v D.length with lt | ge
    · rw [List.getElem?_append_left lt] at hv
      have hm : y ∈ D := List.mem_of_getElem? hv
      rw [if_neg (fun z => hx (by rw [← keyT_inj z]; exact hm))]
      exact h.2.1 v y hv
    · have hv' := (List.getElem?_eq_some_iff.mp hv).1
      rw [List.length_append, List.length_singleton] at hv'
      have e : v = D.length := by omega
      subst e
      rw [List.getElem?_append_right (Nat.le_refl _), Nat.sub_self] at hv
      have hv : x = y := Option.some.inj hv
      rw [hv, if_pos rfl]
  · rw [valV_put, if_neg (fun z => hy (List.mem_append_right _ (List.mem_singleton.mpr (keyT_inj z))))]
    exact h.2.2 y fun z => hy (List.mem_append_left _ z)

abbrev sUnl : Stmt := top 44
abbrev nUnl : List PySem.Str := ["_law_told", "_law_row", "_law_block", "_law_many", "_law_turn", "_law_names", "_law_found", "_law_at"]
theorem scUnl : FnScope nUnl ["_law_told"] (defScope sUnl) := ⟨rfl, rfl, rfl, by decide +kernel, rfl, by decide +kernel, by decide +kernel⟩
section
variable {K : PySem.W.Frag}
/-- return sorted(block) == list(range(len(told))) -/
def tEnd (K : PySem.W.Frag) : TS := tRet (tOp (rEqD K) (tCB (rSortedI K) (tCons (tVar 2) tNil)) (tLstRg (tRg1 (tCB (rLenS K) (tCons (tVar 0) tNil)))))
theorem rd_end {D : Ends} {H : Hp} {t bl : Addr} {ys : List V} {b : List Nat} {x1 x3 x4 x5 x6 x7 : Option V} (ht : H t = some (.tup ys)) (hb : H bl = some (.lst (natsV b))) (hl : ys.length ≤ 60) (hp : (List.range ys.length).Perm b)
    (q : ∀ H', Same H H' → D.rt (.bl true) H') : tEnd K D [some (.ref t), x1, some (.ref bl), x3, x4, x5, x6, x7] H := by
  unfold tEnd
  have ei : natsV b = (b.map fun n => ((n : Nat) : Int)).map V.int := by
    unfold natsV
    rw [List.map_map]
    rfl
  refine ⟨_, rfl, bl, _, rfl, SqL.of (ei ▸ hb), fun ns p hpm hs np => ?_⟩
  have s1 := same_fresh (o := .lst (ns.map V.int)) np
  have e1 : upd H p (.lst (ns.map V.int)) p = some (.lst (ns.map V.int)) := upd_same
  generalize upd H p (.lst (ns.map V.int)) = H1 at s1 e1 ⊢
  refine ⟨_, rfl, t, ys, rfl, .inr (.inl (.inl (s1 _ _ ht))), _, rfl, RgOk.of_le (by decide) (by omega) (by decide) (by omega), fun r nr => ?_⟩
  have s2 := same_fresh (o := .lst (rgV 0 ((ys.length : Nat) : Int))) nr
  have e2 : upd H1 r (.lst (rgV 0 ((ys.length : Nat) : Int))) r = some (.lst (rgV 0 ((ys.length : Nat) : Int))) := upd_same
  generalize upd H1 r (.lst (rgV 0 ((ys.length : Nat) : Int))) = H2 at s2 e2 ⊢
  have er : rgV 0 ((ys.length : Nat) : Int) = natsV (List.range ys.length) := by
    unfold rgV natsV
    have e : (((ys.length : Nat) : Int) - 0).toNat = ys.length := by omega
    rw [e]
    refine List.map_congr_left fun i _ => ?_
    unfold natV
    rw [Int.zero_add]
  -- the sorted list is the range
  obtain ⟨ms, ems, hpm2⟩ : ∃ ms : List Nat, ns = ms.map (fun n => ((n : Nat) : Int)) ∧ b.Perm ms := by
    have hall : ∀ x, x ∈ ns → ∃ n : Nat, x = (n : Int) := fun x hx => by
      obtain ⟨n, _, e⟩ := List.mem_map.mp (hpm.mem_iff.mp hx)
      exact ⟨n, e.symm⟩
    have hback : ∀ l : List Int, (∀ x, x ∈ l → ∃ n : Nat, x = (n : Int)) → l = (l.map Int.toNat).map fun n => ((n : Nat) : Int) := fun l h => by
      rw [List.map_map]
      refine (List.map_id l).symm.trans (List.map_congr_left fun x hx => ?_)
      obtain ⟨n, rfl⟩ := h x hx
      rfl
    refine ⟨ns.map Int.toNat, hback ns hall, ?_⟩
    have h1 := (hpm.map Int.toNat).symm
    have e : (b.map fun n => ((n : Nat) : Int)).map Int.toNat = b := by
      rw [List.map_map]
      refine (List.map_congr_left fun x _ => ?_).trans (List.map_id b)
      rfl
    rw [e] at h1
    exact h1
  have hsm : ms.Pairwise (· ≤ ·) := by
    rw [ems, List.pairwise_map] at hs
    exact hs.imp fun h => Int.ofNat_le.mp h
  have hms := KM.sorted_range hp hpm2 hsm
  have ens : ns.map V.int = natsV (List.range ys.length) := by
    rw [ems, hms, List.map_map]
    rfl
  rw [ens] at e1
  rw [er] at e2
  refine ⟨_, _, .lst (SqL.of (s2 _ _ e1)) (dp_nats _), .lst (SqL.of e2) (dp_nats _), shaped_nats _, shaped_nats _, ?_⟩
  have ee : PyData.eqv (.list ((List.range ys.length).map natD)) (.list ((List.range ys.length).map natD)) = true := by
    rw [eqv_list, eqv_nats, decide_eq_true rfl]
  rw [ee]
  exact q H2 (s1.trans s2)
/-- the names of the rows' keys -/
def tKeys (K : PySem.W.Frag) : TS :=
  tFor (iList K (tLc (iRng1 (tCons (tCB (rLenS K) (tCons (tVar 0) tNil)) tNil)) (gName 7) tYes (tTup (tCons (tOp (rIxL K) (tVar 2) (tVar 7)) (tCons (tOp (rIxL K) (tVar 2) (tOp (rIxT K) (tOp (rIxT K) (tVar 0) (tVar 7)) (tC (V.int 0))))
      (tCons (tOp (rIxL K) (tVar 2) (tOp (rIxT K) (tOp (rIxT K) (tVar 0) (tVar 7)) (tC (V.int 1)))) tNil)))) [7])) (gName 1)
    (tSeq (tIfS (tB (tDNotIn (tVar 1) (tVar 5))) (sDPut (tVar 5) (tVar 1) (tCB rLenT (tCons (tVar 5) tNil))) tNext) (tDrop (tBM K "list" rAppend (tVar 6) (tCons (tDGet (tVar 5) (tVar 1)) tNil))))
theorem rd_keys {E : Ends} {H : Hp} {t bl nd fl : Addr} {ys : List V} {T : KM.Rows} {b : List Nat} {x1 x3 x4 : Option V} (oT : KM.OkR T) (lT : T.length ≤ 60) (ht : H t = some (.tup ys)) (hT : RowsT K H ys T) (hb : H bl = some (.lst (natsV b))) (hbl : b.length = T.length)
    (Hf : Hp) (sf : Same Hf H) (nf1 : Hf nd = none) (nf2 : Hf fl = none) (hnd : H nd = some (.dT [])) (hfl : H fl = some (.lst []))
    (q : ∀ x1' H' kvs D f, Same Hf H' → H' nd = some (.dT kvs) → kvs.length = D.length → H' fl = some (.lst (natsV f)) → KM.Named (KM.key3 T b) T.length D f → E.nx [some (.ref t), x1', some (.ref bl), x3, x4, some (.ref nd), some (.ref fl), none] H') :
    tKeys K E [some (.ref t), x1, some (.ref bl), x3, x4, some (.ref nd), some (.ref fl), none] H := by
  unfold tKeys
  have lY : ys.length = T.length := hT.1
  have lK : ((List.range T.length).map (KM.key3 T b)).length = T.length := by rw [List.length_map, List.length_range]
  have aK : ∀ i, i < T.length → KM.rowAt ((List.range T.length).map (KM.key3 T b)) i = KM.key3 T b i := fun i hi => by
    have h := KM.rowAt_eq (R := (List.range T.length).map (KM.key3 T b)) (i := i) (by omega)
    rw [List.getElem?_map, List.getElem?_range hi] at h
    exact (Option.some.inj h).symm
  have eN : (((ys.length : Nat) : Int)).toNat = T.length := by omega
  dsimp only [tFor, iList]
  refine rd_rows (K := K) (walk_rangeN (n := T.length)) (wi := iRng1 (tCons (tCB (rLenS K) (tCons (tVar 0) tNil)) tNil)) ((List.range T.length).map (KM.key3 T b)) lK (fun Rr r => ⟨_, rfl, t, ys, rfl, .inr (.inl (.inl ht)), ((ys.length : Nat) : Int), rfl, by omega, by omega, by rw [eN]; exact r⟩) (fun _ _ => True.intro) (by omega) ?_ fun kl H1 ks nkl s1 ekl rk => ?_
  · rintro i x H2 H3 kk hi sm ⟨rfl, rfl⟩ k'
    obtain ⟨p, ep, tp⟩ := hT.2 i hi
    obtain ⟨o0, o1, _⟩ := oT i hi
    have hB : SqL K H3 bl (natsV b) := SqL.of (sm _ _ hb)
    have hY : SqT K H3 t ys := .inl (.inl (sm _ _ ht))
    have hP : SqT K H3 p (rowV (KM.rowAt T i)) := .inl (.inl (sm _ _ tp))
    refine ⟨rfl, ?_⟩
    refine ⟨_, rfl, _, rfl, bl, _, _, _, rfl, rfl, hB, atI_nat (natsV_get (by omega)), _, rfl, _, rfl, _, rfl, t, _, _, _, rfl, rfl, hY, atI_nat ep, p, _, _, _, rfl, rfl, hP, atI_nat (j := 0) (row_0 _), bl, _, _, _, rfl, rfl, hB, atI_nat (natsV_get (by omega)),
      _, rfl, _, rfl, _, rfl, t, _, _, _, rfl, rfl, hY, atI_nat ep, p, _, _, _, rfl, rfl, hP, atI_nat (j := 1) (row_1 _), bl, _, _, _, rfl, rfl, hB, atI_nat (natsV_get (by omega)), show 3 ≤ sizeLine by decide, fun U nU => ?_⟩
    refine k' U _ (same_fresh nU) ?_
    rw [upd_same, aK i hi]
    rfl
  have ne1 : nd ≠ fl := fun z => by
    rw [z, hfl] at hnd
    cases hnd
  have k1 : kl ≠ nd := fun z => by rw [z, hnd] at nkl; cases nkl
  have k2 : kl ≠ fl := fun z => by rw [z, hfl] at nkl; cases nkl
  have ekc : cut H1 nd fl fl kl = some (.lst ks) := cut_some ekl k1 k2 k2
  have rkc : RowsT K (cut H1 nd fl fl) ks ((List.range T.length).map (KM.key3 T b)) := ⟨rk.1, fun i hi => let ⟨p, a, e⟩ := rk.2 i hi; ⟨p, a, cut_some e (ne_of e (s1 _ _ hnd) (by intro z; cases z)) (ne_of e (s1 _ _ hfl) (by intro z; cases z)) (ne_of e (s1 _ _ hfl) (by intro z; cases z))⟩⟩
  have sfc : Same Hf (cut H1 nd fl fl) := fun a x h => by
    have hn1 : a ≠ nd := fun z => by rw [z, nf1] at h; cases h
    have hn2 : a ≠ fl := fun z => by rw [z, nf2] at h; cases h
    exact cut_some (s1 _ _ (sf _ _ h)) hn1 hn2 hn2
  refine ⟨kl, rfl, ⟨_, SqL.of ekl⟩, for_list (K := K) (a := kl) (xs := ks) (fun j σ H' => ∃ x1' kvs D f, σ = [some (.ref t), x1', some (.ref bl), x3, x4, some (.ref nd), some (.ref fl), none] ∧ Same (cut H1 nd fl fl) H' ∧ H' nd = some (.dT kvs) ∧ IdxD kvs D ∧ H' fl = some (.lst (natsV f)) ∧ KM.Named (KM.key3 T b) j D f) ?_ ?_ ?_ ?_⟩
  · exact ⟨x1, [], [], [], rfl, cut_same, s1 _ _ hnd, IdxD.nil, s1 _ _ hfl, KM.Named.start⟩
  · rintro j σ H' _ ⟨_, _, _, _, _, sm, _⟩
    exact SqL.of (sm _ _ ekc)
  · rintro j x σ H2 hj ⟨y1, kvs, D, f, rfl, sm, ed, ix, ef, nm⟩
    have hjT : j < T.length := by
      have := (List.getElem?_eq_some_iff.mp hj).1
      rw [rk.1] at this
      omega
    obtain ⟨p, ep, tp⟩ := rkc.2 j (by omega)
    rw [ep] at hj
    cases hj
    rw [aK j hjT] at tp
    have tp2 := sm _ _ tp
    have hlen : D.length ≤ j := by
      have h2 := List.Nodup.length_le_of_subset (l₁ := List.range D.length) (l₂ := f) List.nodup_range (fun v hv => by
        obtain ⟨i, hi, e⟩ := nm.all v (List.mem_range.mp hv)
        rw [← e]
        exact KM.getD_mem (by rw [nm.len]; exact hi) 0)
      rw [List.length_range, nm.len] at h2
      exact h2
    have hkl : kvs.length < sizeLine := by
      rw [ix.1]
      exact small_line (m := 1000) (by omega) (by decide)
    have c1 : cut H1 nd fl fl nd = none := cut_none (.inl rfl)
    have c2 : cut H1 nd fl fl fl = none := cut_none (.inr (.inl rfl))
    have hlf : (natsV f).length < sizeLine := by
      rw [natsV_len, nm.len]
      exact small_line (m := 1000) (by omega) (by decide)
    refine seq_of ?_
    by_cases hm : KM.key3 T b j ∈ D
    · obtain ⟨v, hv⟩ := List.getElem?_of_mem hm
      have hval := ix.2.1 v _ hv
      refine ⟨_, rfl, _, rfl, nd, _, rfl, hval ▸ DGet.t (k := keyT (KM.key3 T b j)) ed tp2, false, rfl, iteF ?_⟩
      refine next_of ?_
      dsimp only
      refine ⟨_, rfl, .inl ⟨rfl, _, SqL.of ef⟩, _, rfl, _, rfl, nd, _, rfl, hval ▸ DGet.t (k := keyT (KM.key3 T b j)) ed tp2, fl, _, _, rfl, rfl, ef, hlf, ?_⟩
      refine ⟨_, kvs, D, f ++ [v], rfl, same_put sm c2, ?_, ix, ?_, nm.old hv⟩
      · rw [upd_ne ne1]
        exact ed
      · rw [upd_same, natsV_snoc]
    · have hval := ix.2.2 _ hm
      refine ⟨_, rfl, _, rfl, nd, _, rfl, hval ▸ DGet.t (k := keyT (KM.key3 T b j)) ed tp2, true, rfl, iteT ?_⟩
      refine ⟨_, rfl, nd, kvs, rfl, ed, ?_⟩
      rw [ix.1]
      refine ⟨_, rfl, _, rfl, nd, _, rfl, DPut.t (k := keyT (KM.key3 T b j)) ed tp2 hkl, ?_⟩
      dsimp only
      have ix2 := ix.put hm
      have ed2 : upd H2 nd (.dT (putK kvs (keyT (KM.key3 T b j)) (natV D.length))) nd = some (.dT (putK kvs (keyT (KM.key3 T b j)) (natV D.length))) := upd_same
      have sm3 : Same (cut H1 nd fl fl) (upd H2 nd (.dT (putK kvs (keyT (KM.key3 T b j)) (natV D.length)))) := same_put sm c1
      have ef3 : upd H2 nd (.dT (putK kvs (keyT (KM.key3 T b j)) (natV D.length))) fl = some (.lst (natsV f)) := by
        rw [upd_ne ne1.symm]
        exact ef
      have tp3 := sm3 _ _ tp
      have hv2 := ix2.2.1 D.length (KM.key3 T b j) (by rw [List.getElem?_append_right (Nat.le_refl _), Nat.sub_self]; rfl)
      show tDrop _ _ _ (upd H2 nd (.dT (putK kvs (keyT (KM.key3 T b j)) (natV D.length))))
      generalize putK kvs (keyT (KM.key3 T b j)) (natV D.length) = kvs2 at ix2 ed2 sm3 ef3 tp3 hv2 ⊢
      generalize upd H2 nd (.dT kvs2) = H3 at ed2 sm3 ef3 tp3 ⊢
      refine ⟨_, rfl, .inl ⟨rfl, _, SqL.of ef3⟩, _, rfl, _, rfl, nd, _, rfl, hv2 ▸ DGet.t (k := keyT (KM.key3 T b j)) ed2 tp3, fl, _, _, rfl, rfl, ef3, hlf, ?_⟩
      refine ⟨_, kvs2, D ++ [KM.key3 T b j], f ++ [D.length], rfl, same_put sm3 c2, ?_, ix2, ?_, nm.new hm⟩
      · rw [upd_ne ne1]
        exact ed2
      · rw [upd_same, natsV_snoc]
  · rintro σ H2 ⟨y1, kvs, D, f, rfl, sm, ed, ix, ef, nm⟩
    rw [rk.1, lK] at nm
    exact q y1 H2 kvs D f (sfc.trans sm) ed ix.1 ef nm
end
def spUnl (K : PySem.W.Frag) : Sp := fun vs H Q _ => ∃ (t : Addr) (ys : List V) (T : KM.Rows) (L : List Bool → Nat), vs = [.ref t] ∧ H t = some (.tup ys) ∧ RowsT K H ys T ∧ KM.Canon T L ∧ T.length ≤ 60 ∧ ∀ H', Same H H' → Q (.bl true) H'
section
variable {P : Program} {w : World} {K : PySem.W.Frag} {mg : PySem.Str → Option Value} {base : Heap}
theorem ok_unl {f : Addr} {fd : FuncData} {k : Nat} (F : Fun K "_law_all_unlike" "_law_all_unlike" sUnl f fd) (mr : mg "range" = none) (ml : mg "len" = none) (ms : mg "sorted" = none) (mli : mg "list" = none) :
    FnOk P w K mg base CX0 (k + 1) f fd ["_law_told"] (spUnl K) := by
  refine F.ok scUnl (fun vs H Q E h => ?_) (fun cdv A outer s H vs Q E hr h => ?_)
  · obtain ⟨t, ys, T, L, rfl, _⟩ := h
    rfl
  · obtain ⟨t, ys, T, L, rfl, ht, hT, hC, lT, q⟩ := h
    refine ⟨_, (pss_cons (ps_asg (pe_tup (pa_cons (pe_lc (own := [("_law_row", 1)]) rfl scUnl.nd (pi_tup (pv 0)) (blkOk_by (own := [("_law_row", 1)]) (N := nUnl) (sc := defScope sUnl) (by decide +kernel)) (fun _ _ _ _ _ => (pg_name (i := 1) scUnl.nd rfl (.inl rfl))) (fun _ _ _ _ _ => pts_nil) (fun _ _ _ _ _ => (pe_ix (r := rIxT K) ix_tup (pv 1) pe_int (fun _ _ => rfl)))) (pa_cons pe_int pa_nil))) (pg_tup rfl (pgs_cons (pg_name (i := 2) scUnl.nd rfl (.inr rfl)) (pgs_cons (pg_name (i := 3) scUnl.nd rfl (.inl rfl)) pgs_nil)))) (pss_cons (ps_for PassesOwn.never rfl (pi_range1 (by rfl) mr (pa_cons (pe_callB call_len_seq (by rfl) ml PySem.boot_len (pa_cons (pv 0) pa_nil)) pa_nil)) (pg_name (i := 4) scUnl.nd rfl (.inl rfl)) (pss_cons (ps_par (i := 5) (j := 6) rfl scUnl.nd rfl rfl (by decide) rfl rfl (pa_cons pe_dnewT (pa_cons (pe_lst pa_nil) pa_nil)) (by rfl)) (pss_cons (ps_for PassesOwn.never rfl (pi_list (pe_lc (own := [("_law_at", 7)]) rfl scUnl.nd (pi_range1 (by rfl) mr (pa_cons (pe_callB call_len_seq (by rfl) ml PySem.boot_len (pa_cons (pv 0) pa_nil)) pa_nil)) (blkOk_by (own := [("_law_at", 7)]) (N := nUnl) (sc := defScope sUnl) (by decide +kernel)) (fun _ _ _ _ _ => (pg_name (i := 7) scUnl.nd rfl (.inl rfl))) (fun _ _ _ _ _ => pts_nil) (fun _ _ _ _ _ => (pe_tup (pa_cons (pe_ix (r := rIxL K) ix_list (pv 2) (pv 7) (fun _ _ => rfl)) (pa_cons (pe_ix (r := rIxL K) ix_list (pv 2) (pe_ix (r := rIxT K) ix_tup (pe_ix (r := rIxT K) ix_tup (pv 0) (pv 7) (fun _ _ => rfl)) pe_int (fun _ _ => rfl)) (fun _ _ => rfl)) (pa_cons (pe_ix (r := rIxL K) ix_list (pv 2) (pe_ix (r := rIxT K) ix_tup (pe_ix (r := rIxT K) ix_tup (pv 0) (pv 7) (fun _ _ => rfl)) pe_int (fun _ _ => rfl)) (fun _ _ => rfl)) pa_nil))))))) (pg_name (i := 1) scUnl.nd rfl (.inl rfl)) (pss_cons (ps_if (pt_cmp (pc_dnotin (hu_of hr) (pv 1) (pv 5))) (pss_one (ps_dput (hu_of hr) (pv 5) (pv 1) (pe_callB call_len_dT (by rfl) ml PySem.boot_len (pa_cons (pv 5) pa_nil)) rfl)) pss_nil) (pss_one (ps_expr (pe_bm PySem.F.plainAttrs_list PySem.F.slot_list_append PySem.F.type_list_append mt_append (pv 6) (pa_cons (pe_dget (hu_of hr) (pv 5) (pv 1) (fun _ _ => rfl)) pa_nil)))))) (pss_cons (ps_set (i := 2) scUnl.nd rfl (.inr rfl) (pv 6)) (pss_cons (ps_if (pt_cmpR op_eq (pe_callB call_len_dT (by rfl) ml PySem.boot_len (pa_cons (pv 5) pa_nil)) (pv 3) (nomark _)) (pss_one ps_break) pss_nil) (pss_one (ps_set (i := 3) scUnl.nd rfl (.inl rfl) (pe_callB call_len_dT (by rfl) ml PySem.boot_len (pa_cons (pv 5) pa_nil))))))))) (pss_one (ps_ret (pe_cmpR (op_eqD hr.units) (pe_callB cr_sortedI (by rfl) ms (by decide +kernel) (pa_cons (pv 2) pa_nil)) (pe_listRg rfl (by rfl) mli (prg_1 (by rfl) mr (pe_callB call_len_seq (by rfl) ml PySem.boot_len (pa_cons (pv 0) pa_nil)))) (nomark _)))))), ?_⟩
    have lY : ys.length = T.length := hT.1
    have oT := hC.ok
    have pT := hC.pos
    have eN : (((ys.length : Nat) : Int)).toNat = T.length := by omega
    refine seq_asg ?_
    dsimp only [tTup, tCons]
    refine rd_nats (walk_tup (K := K) (a := t) (xs := ys)) (wi := iTup K (tVar 0)) (T.map fun r => r.2.2) (by rw [List.length_map, lY]) (fun Rr r => ⟨_, rfl, t, rfl, ⟨_, .inl (.inl ht)⟩, r⟩) (fun H' s => .inl (.inl (s _ _ ht))) (by omega) ?_ fun bl H1 nbl s1 ebl => ?_
    · rintro i x H2 H3 kk hi sm ⟨rfl, hx⟩ k'
      obtain ⟨p, ep, tp⟩ := hT.2 i (by omega)
      rw [ep] at hx
      cases hx
      refine ⟨rfl, _, rfl, p, _, _, _, rfl, rfl, .inl (.inl (sm _ _ tp)), atI_nat (j := 2) (row_2 _), ?_⟩
      have := k' H3 (Same.refl H3)
      rw [ins_column (by omega)] at this
      exact this
    refine ⟨show 2 ≤ sizeLine by decide, fun U nU => ?_⟩
    have s2 := same_fresh (o := .tup [.ref bl, .int 0]) nU
    have eU : upd H1 U (.tup [.ref bl, .int 0]) U = some (.tup [.ref bl, natV 0]) := upd_same
    generalize upd H1 U (.tup [.ref bl, .int 0]) = H2 at s2 eU ⊢
    refine ⟨U, _, rfl, .inl (.inl eU), rfl, _, _, rfl, _, _, rfl, rfl, ?_⟩
    have s02 := s1.trans s2
    refine seq_of ?_
    refine ⟨_, rfl, t, ys, rfl, .inr (.inl (.inl (s02 _ _ ht))), ((ys.length : Nat) : Int), rfl, by omega, by omega, ?_⟩
    rw [eN]
    refine for_it walk_rangeN (fun tn σ H' => ∃ (b : List Nat) (bl : Addr) (many : Nat) (x1 x4 x5 x6 : Option V), σ = [some (.ref t), x1, some (.ref bl), some (natV many), x4, x5, x6, none] ∧ Same H H' ∧ H' bl = some (.lst (natsV b)) ∧ KM.Moore T b many tn) ?_ (fun _ _ _ _ _ => True.intro) ?_ ?_
    · exact ⟨_, bl, 0, none, none, none, none, rfl, s02, s2 _ _ ebl, KM.moore_start (List.length_map _) fun i hi => ins_column hi⟩
    · rintro tn x σ H3 H4 hi ⟨b, bl, many, x1, x4, x5, x6, rfl, sm, eb, mo⟩ ⟨rfl, rfl⟩
      refine seq_of ?_
      refine fun nd nnd => ?_
      have s5 := same_fresh (o := .dT []) nnd
      have end_ : upd H4 nd (.dT []) nd = some (.dT []) := upd_same
      generalize upd H4 nd (.dT []) = H5 at s5 end_ ⊢
      refine ⟨Nat.zero_le _, fun fl nfl => ?_⟩
      have s6 := same_fresh (o := .lst []) nfl
      have efl : upd H5 fl (.lst []) fl = some (.lst []) := upd_same
      have end6 := s6 _ _ end_
      have nf2 : H4 fl = none := s5.free nfl
      generalize upd H5 fl (.lst []) = H6 at s6 efl end6 ⊢
      have s46 := s5.trans s6
      have sm6 := sm.trans s46
      refine ⟨_, _, rfl, ?_⟩
      dsimp only
      refine seq_of ?_
      refine rd_keys (K := K) (T := T) (b := b) oT lT (sm6 _ _ ht) (hT.same sm6) (s46 _ _ eb) mo.len H4 s46 nnd nf2 end6 efl fun y1 H7 kvs D f s7 ed lk ef nm => ?_
      dsimp only
      refine seq_asg ?_
      refine ⟨_, rfl, ?_⟩
      have nam := nm.names
      refine seq_of ?_
      refine ⟨_, rfl, nd, kvs, rfl, ed, _, rfl, natV_scal _ _, _, rfl, ?_⟩
      rw [lk]
      have edc : decide (V.int ((D.length : Nat) : Int) = natV many) = decide (D.length = many) := dec_nat D.length many
      rw [edc]
      by_cases hm : D.length = many
      · rw [decide_eq_true hm]
        refine iteT ?_
        have hp := KM.moore_break hC mo (hm ▸ nam)
        rw [← lY] at hp
        exact rd_end (K := K) (b := f) ((sm.trans s7) _ _ ht) ef (by omega) hp fun H8 s8 => q H8 ((sm.trans s7).trans s8)
      · rw [decide_eq_false hm]
        refine iteF ?_
        refine next_of ?_
        dsimp only
        refine ⟨_, rfl, nd, kvs, rfl, ed, ?_⟩
        rw [lk]
        exact ⟨f, fl, D.length, _, _, _, _, rfl, sm.trans s7, ef, KM.moore_turn pT mo nam hm⟩
    · rintro σ H3 ⟨b, bl, many, x1, x4, x5, x6, rfl, sm, eb, mo⟩
      have hp := KM.moore_end pT mo
      rw [← lY] at hp
      exact rd_end (K := K) (b := b) (sm _ _ ht) eb (by omega) hp fun H8 s8 => q H8 (sm.trans s8)
end
end K35
namespace K35
open PySem PySem.Spec PyProof.Rows L2 KR
/-- the triple is met: place and verdict by the rule, place by what is told -/
def Met (R T : KM.Rows) (r : KM.Row) : Prop := ∃ w, KM.trun R 0 0 w = (r.1, r.2.1) ∧ KM.run T 0 w = r.2.2
theorem Met.start {R T : KM.Rows} : Met R T (0, 0, 0) := ⟨[], rfl, rfl⟩
theorem Met.next {R T : KM.Rows} {r : KM.Row} (h : Met R T r) (b : Bool) : Met R T (KM.to R r.1 b, (if b = true then KM.ins R (KM.to R r.1 b) else r.2.1), KM.to T r.2.2 b) := by
  obtain ⟨w, h1, h2⟩ := h
  refine ⟨w ++ [b], ?_, ?_⟩
  · rw [KM.trun_app, h1]
    rfl
  · rw [run_snoc, h2]
theorem Met.lt {R T : KM.Rows} (o : KM.OkR R) (o' : KM.OkR T) (p : 0 < R.length) (p' : 0 < T.length) {r : KM.Row} (h : Met R T r) : r.1 < R.length ∧ r.2.2 < T.length := by
  obtain ⟨w, h1, h2⟩ := h
  refine ⟨?_, ?_⟩
  · have e := KM.trun_fst (R := R) w 0 0
    rw [h1] at e
    show r.1 < R.length
    have e : r.1 = KM.run R 0 w := e
    rw [e]
    exact KM.run_lt o w p
  · rw [← h2]
    exact KM.run_lt o' w p'
theorem Met.out {R T : KM.Rows} (c : KM.Canon T (KM.told R)) {r : KM.Row} (h : Met R T r) : KM.ins T r.2.2 = r.2.1 := by
  obtain ⟨w, h1, h2⟩ := h
  rw [← h2, c.out]
  show (KM.trun R 0 0 w).2 = r.2.1
  rw [h1]
theorem RowsT.write {K : PySem.W.Frag} {H : Hp} {ys : List V} {T : KM.Rows} {D : Addr} {o o' : HO} (h : RowsT K H ys T) (hD : H D = some o) (n : ∀ l, o ≠ .tup l) : RowsT K (upd H D o') ys T :=
  ⟨h.1, fun i hi => let ⟨p, a, b⟩ := h.2 i hi; ⟨p, a, by rw [upd_ne (ne_of b hD (fun z => n _ z.symm))]; exact b⟩⟩

abbrev sExa : Stmt := top 45
abbrev nExa : List PySem.Str := ["_law_rows", "_law_start", "_law_told", "_law_waiting", "_law_known", "_law_turn", "_law_at", "_law_verdict", "_law_here", "_law_digit", "_law_to", "_law_after"]
theorem scExa : FnScope nExa ["_law_rows", "_law_start", "_law_told"] (defScope sExa) := ⟨rfl, rfl, rfl, by decide +kernel, rfl, by decide +kernel, by decide +kernel⟩
def spExa (K : PySem.W.Frag) : Sp := fun vs H Q _ => ∃ (a t : Addr) (as ys : List V) (R T : KM.Rows), vs = [.ref a, natV 0, .ref t] ∧ H a = some (.lst as) ∧ RowsT K H as R ∧ KM.OkR R ∧ 0 < R.length ∧ R.length ≤ 30 ∧ H t = some (.tup ys) ∧ RowsT K H ys T ∧ KM.Canon T (KM.told R) ∧ T.length ≤ 60 ∧ ∀ H', Same H H' → Q (.bl true) H'
section
variable {P : Program} {w : World} {K : PySem.W.Frag} {mg : PySem.Str → Option Value} {base : Heap}
theorem ok_exa {f fN fU : Addr} {fd fdN fdU : FuncData} {k : Nat} (F : Fun K "_law_exact" "_law_exact" sExa f fd)
    (FN : Fun K "_law_numbered" "_law_numbered" sNum fN fdN) (bN : Binds K fdN ["_law_told"] []) (gN : mg "_law_numbered" = some (.ref fN)) (GN : FnOk P w K mg base CX0 k fN fdN ["_law_told"] (spNum K))
    (FU : Fun K "_law_all_unlike" "_law_all_unlike" sUnl fU fdU) (bU : Binds K fdU ["_law_told"] []) (gU : mg "_law_all_unlike" = some (.ref fU)) (GU : FnOk P w K mg base CX0 k fU fdU ["_law_told"] (spUnl K))
    (mr : mg "range" = none) (ml : mg "len" = none) : FnOk P w K mg base CX0 (k + 1) f fd ["_law_rows", "_law_start", "_law_told"] (spExa K) := by
  refine F.ok scExa (fun vs H Q E h => ?_) (fun cdv A outer s H vs Q E hr h => ?_)
  · obtain ⟨a, t, as, ys, R, T, rfl, _⟩ := h
    rfl
  · obtain ⟨a, t, as, ys, R, T, rfl, ha, hR, oR, pR, lR, ht, hT, hC, lT, q⟩ := h
    refine ⟨_, (pss_cons (ps_if (PW.pt (pw_or (pt_not (pt_val (pe_call GN hr (by rfl) gN FN.kp bN .nil pass0 (pa_cons (pv 2) pa_nil)))) (pw_or1 (pt_not (pt_val (pe_call GU hr (by rfl) gU FU.kp bU .nil pass0 (pa_cons (pv 2) pa_nil))))))) (pss_one ps_never) pss_nil) (pss_cons (ps_par (i := 3) (j := 4) rfl scExa.nd rfl rfl (by decide) rfl rfl (pa_cons (pe_lst (pa_cons (pe_tup (pa_cons (pv 1) (pa_cons pe_int (pa_cons pe_int pa_nil)))) pa_nil)) (pa_cons (pe_disp1 (Nat.lt_of_succ_lt (hu_of hr)) (pe_tup (pa_cons (pv 1) (pa_cons pe_int (pa_cons pe_int pa_nil)))) pe_bl) pa_nil)) (by rfl)) (pss_cons (ps_for PassesOwn.never rfl (pi_range1 (by rfl) mr (pa_cons (pe_op op_mulN (pe_op op_mulN pe_int (pe_callB call_len_seq (by rfl) ml PySem.boot_len (pa_cons (pv 0) pa_nil))) (pe_callB call_len_seq (by rfl) ml PySem.boot_len (pa_cons (pv 2) pa_nil))) pa_nil)) (pg_name (i := 5) scExa.nd rfl (.inl rfl)) (pss_one (ps_if (pt_cmpR op_lt (pv 5) (pe_callB call_len_seq (by rfl) ml PySem.boot_len (pa_cons (pv 3) pa_nil)) (nomark _)) (pss_cons (ps_asg (pe_ix (r := rIxL K) ix_list (pv 3) (pv 5) (fun _ _ => rfl)) (pg_tup rfl (pgs_cons (pg_name (i := 6) scExa.nd rfl (.inl rfl)) (pgs_cons (pg_name (i := 7) scExa.nd rfl (.inl rfl)) (pgs_cons (pg_name (i := 8) scExa.nd rfl (.inl rfl)) pgs_nil))))) (pss_cons (ps_if (pt_cmpR op_ne (pe_ix (r := rIxT K) ix_tup (pe_ix (r := rIxT K) ix_tup (pv 2) (pv 8) (fun _ _ => rfl)) pe_int (fun _ _ => rfl)) (pv 7) (nomark _)) (pss_one ps_never) pss_nil) (pss_one (ps_for PassesOwn.never rfl (pi_tup (pe_tup (pa_cons pe_int (pa_cons pe_int pa_nil)))) (pg_name (i := 9) scExa.nd rfl (.inl rfl)) (pss_cons (ps_set (i := 10) scExa.nd rfl (.inl rfl) (pe_ix (r := rIxT K) ix_tup (pe_ix (r := rIxL K) ix_list (pv 0) (pv 6) (fun _ _ => rfl)) (pv 9) (fun _ _ => rfl))) (pss_cons (ps_set (i := 11) scExa.nd rfl (.inl rfl) (pe_tup (pa_cons (pv 10) (pa_cons (pe_ix (r := rIxL K) ix_list (pe_lst (pa_cons (pv 7) (pa_cons (pe_ix (r := rIxT K) ix_tup (pe_ix (r := rIxL K) ix_list (pv 0) (pv 10) (fun _ _ => rfl)) pe_int (fun _ _ => rfl)) pa_nil))) (pv 9) (fun _ _ => rfl)) (pa_cons (pe_ix (r := rIxT K) ix_tup (pe_ix (r := rIxT K) ix_tup (pv 2) (pv 8) (fun _ _ => rfl)) (pv 9) (fun _ _ => rfl)) pa_nil))))) (pss_one (ps_if (pt_cmp (pc_dnotin (hu_of hr) (pv 11) (pv 4))) (pss_cons (ps_dput (hu_of hr) (pv 4) (pv 11) pe_bl rfl) (pss_one (ps_expr (pe_bm PySem.F.plainAttrs_list PySem.F.slot_list_append PySem.F.type_list_append mt_append (pv 3) (pa_cons (pv 11) pa_nil))))) pss_nil)))))))) pss_nil))) (pss_one (ps_ret pe_bl))))), ?_⟩
    have lA : as.length = R.length := hR.1
    have lY : ys.length = T.length := hT.1
    have oT := hC.ok
    have pT := hC.pos
    obtain ⟨seen, hN⟩ := hC.num
    refine seq_of ?_
    refine ⟨_, rfl, t, ys, T, seen, rfl, ht, hT, hN, pT, lT, hC.one, fun H1 s1 => ⟨true, rfl, iteF ?_⟩⟩
    refine ⟨_, rfl, t, ys, T, _, rfl, s1 _ _ ht, hT.same s1, hC, lT, fun H2 s2 => ⟨true, rfl, iteF ?_⟩⟩
    refine next_of ?_
    dsimp only
    have s02 := s1.trans s2
    refine seq_of ?_
    refine ⟨_, rfl, show 3 ≤ sizeLine by decide, fun U nU => ?_⟩
    have s3 := same_fresh (o := .tup [natV 0, .int 0, .int 0]) nU
    have eU : upd H2 U (.tup [natV 0, .int 0, .int 0]) U = some (.tup (rowV (0, 0, 0))) := upd_same
    generalize upd H2 U (.tup [natV 0, .int 0, .int 0]) = H3 at s3 eU ⊢
    refine ⟨show 1 ≤ sizeLine by decide, fun wt nwt => ?_⟩
    have s4 := same_fresh (o := .lst [.ref U]) nwt
    have ewt : upd H3 wt (.lst [.ref U]) wt = some (.lst [.ref U]) := upd_same
    generalize upd H3 wt (.lst [.ref U]) = H4 at s4 ewt ⊢
    refine fun kn nkn => ?_
    have s5 := same_fresh (o := .dT []) nkn
    have ekn : upd H4 kn (.dT []) kn = some (.dT []) := upd_same
    generalize upd H4 kn (.dT []) = H5 at s5 ekn ⊢
    refine ⟨_, rfl, show 3 ≤ sizeLine by decide, fun U2 nU2 => ?_⟩
    have s6 := same_fresh (o := .tup [natV 0, .int 0, .int 0]) nU2
    have eU2 : upd H5 U2 (.tup [natV 0, .int 0, .int 0]) U2 = some (.tup (rowV (0, 0, 0))) := upd_same
    generalize upd H5 U2 (.tup [natV 0, .int 0, .int 0]) = H6 at s6 eU2 ⊢
    refine ⟨s6 _ _ ekn, U2, keyT (0, 0, 0), rfl, eU2, ?_⟩
    refine ⟨_, _, rfl, ?_⟩
    dsimp only
    have s36 := s4.trans (s5.trans s6)
    have s06 := s02.trans (s3.trans s36)
    have n_wt : H wt = none := (s02.trans s3).free nwt
    have n_kn : H kn = none := (s02.trans (s3.trans s4)).free nkn
    have ekn7 : upd H6 kn (.dT [(keyT (0, 0, 0), .bl true)]) kn = some (.dT [(keyT (0, 0, 0), .bl true)]) := upd_same
    have s07 : Same H (upd H6 kn (.dT [(keyT (0, 0, 0), .bl true)])) := same_put s06 n_kn
    have ewt7 : upd H6 kn (.dT [(keyT (0, 0, 0), .bl true)]) wt = some (.lst [.ref U]) := by
      rw [upd_ne (ne_of (s6 _ _ (s5 _ _ ewt)) (s6 _ _ ekn) (by intro z; cases z))]
      exact s6 _ _ (s5 _ _ ewt)
    have eU7 : upd H6 kn (.dT [(keyT (0, 0, 0), .bl true)]) U = some (.tup (rowV (0, 0, 0))) := by
      rw [upd_ne (ne_of (s36 _ _ eU) (s6 _ _ ekn) (by intro z; cases z))]
      exact s36 _ _ eU
    have rt7 : RowsT K (upd H6 kn (.dT [(keyT (0, 0, 0), .bl true)])) [.ref U] [(0, 0, 0)] := ⟨rfl, fun i hi => by
      have : i = 0 := by
        have : i < 1 := hi
        omega
      subst this
      exact ⟨U, rfl, eU7⟩⟩
    generalize upd H6 kn (.dT [(keyT (0, 0, 0), .bl true)]) = H7 at ekn7 s07 ewt7 rt7 ⊢
    refine seq_of ?_
    have hb : 2 * as.length * ys.length ≤ 2 * 30 * 60 := Nat.mul_le_mul (by omega) (by omega)
    refine ⟨_, rfl, a, as, rfl, .inl (SqL.of (s07 _ _ ha)), 2, as.length, rfl, rfl, by decide, _, rfl, t, ys, rfl, .inr (.inl (.inl (s07 _ _ ht))), 2 * as.length, ys.length, rfl, rfl, by omega, ((2 * as.length * ys.length : Nat) : Int), rfl, by omega, by omega, ?_⟩
    have eN : (((2 * as.length * ys.length : Nat) : Int)).toNat = 2 * as.length * ys.length := Int.toNat_natCast _
    rw [eN]
    generalize 2 * as.length * ys.length = many at hb
    refine for_it walk_rangeN (fun n σ H' => ∃ (ws : List V) (W : KM.Rows) (kvs : List (List Key × V)) (y5 y6 y7 y8 y9 y10 y11 : Option V), σ = [some (.ref a), some (natV 0), some (.ref t), some (.ref wt), some (.ref kn), y5, y6, y7, y8, y9, y10, y11] ∧ Same H H' ∧ H' wt = some (.lst ws) ∧ RowsT K H' ws W ∧
      H' kn = some (.dT kvs) ∧ W.length ≤ 1 + 2 * n ∧ kvs.length ≤ 1 + 2 * n ∧ ∀ i, i < W.length → Met R T (KM.rowAt W i)) ?_ (fun _ _ _ _ _ => True.intro) ?_ ?_
    · refine ⟨_, _, _, none, none, none, none, none, none, none, rfl, s07, ewt7, rt7, ekn7, Nat.le_refl _, Nat.le_refl _, fun i hi => ?_⟩
      have : i = 0 := by
        have : i < 1 := hi
        omega
      subst this
      exact Met.start
    · rintro n x σ H8 H9 hn ⟨ws, W, kvs, y5, y6, y7, y8, y9, y10, y11, rfl, sm, ew, rt, ek, lW, lk, met⟩ ⟨rfl, rfl⟩
      refine ⟨_, rfl, _, rfl, wt, ws, rfl, .inl (SqL.of ew), _, _, rfl, rfl, _, rfl, ite2 (fun z => ?_) (fun z => ?_)⟩
      · have hnW : n < W.length := by
          have := of_decide_eq_true z
          rw [rt.1] at this
          omega
        obtain ⟨p, ep, tp⟩ := rt.2 n hnW
        have mt := met n hnW
        have mo := Met.out hC mt
        obtain ⟨l1, l2⟩ := Met.lt oR oT pR pT mt
        generalize KM.rowAt W n = r at tp mt mo l1 l2
        refine seq_asg ?_
        refine ⟨_, rfl, _, rfl, wt, _, _, _, rfl, rfl, SqL.of ew, atI_nat ep, ?_⟩
        refine ⟨p, _, rfl, .inl (.inl tp), rfl, _, _, rfl, _, _, rfl, _, _, rfl, rfl, ?_⟩
        obtain ⟨pt_, ept, tpt⟩ := hT.2 _ l2
        have hY : SqT K H9 t ys := .inl (.inl (sm _ _ ht))
        refine seq_of ?_
        refine ⟨_, rfl, _, rfl, t, _, _, _, rfl, rfl, hY, atI_nat ept, pt_, _, _, _, rfl, rfl, .inl (.inl (sm _ _ tpt)), atI_nat (j := 2) (row_2 _), _, rfl, natV_scal _ _, false, ?_, iteF ?_⟩
        · have ed : decide (natV (KM.rowAt T r.2.2).2.2 = natV r.2.1) = true := by
            rw [dec_nat]
            exact decide_eq_true mo
          exact congrArg V.bl (by rw [ed]; rfl)
        refine next_of ?_
        dsimp only
        refine ⟨show 2 ≤ sizeLine by decide, fun DT nDT => ?_⟩
        have s10 := same_fresh (o := .tup [.int 0, .int 1]) nDT
        have eDT : upd H9 DT (.tup [.int 0, .int 1]) DT = some (.tup [bitV false, bitV true]) := upd_same
        generalize upd H9 DT (.tup [.int 0, .int 1]) = H10 at s10 eDT ⊢
        have sm10 := sm.trans s10
        -- what stays in the loop over the digits
        have cDT : cut H10 wt kn kn DT = some (.tup [bitV false, bitV true]) := cut_some eDT (ne_of eDT (s10 _ _ ew) (by intro z; cases z)) (ne_of eDT (s10 _ _ ek) (by intro z; cases z)) (ne_of eDT (s10 _ _ ek) (by intro z; cases z))
        have sHc : Same H (cut H10 wt kn kn) := fun q x h => by
          have h1 : q ≠ wt := fun z => by rw [z, n_wt] at h; cases h
          have h2 : q ≠ kn := fun z => by rw [z, n_kn] at h; cases h
          exact cut_some (sm10 _ _ h) h1 h2 h2
        have cwt : cut H10 wt kn kn wt = none := cut_none (.inl rfl)
        have ckn : cut H10 wt kn kn kn = none := cut_none (.inr (.inl rfl))
        refine ⟨DT, rfl, ⟨_, .inl (.inl eDT)⟩, for_tup (K := K) (a := DT) (xs := [bitV false, bitV true]) (fun d σ H' => ∃ (ws : List V) (W : KM.Rows) (kvs : List (List Key × V)) (y9 y10 y11 : Option V), σ = [some (.ref a), some (natV 0), some (.ref t), some (.ref wt), some (.ref kn), some (natV n), some (natV r.1), some (natV r.2.1), some (natV r.2.2), y9, y10, y11] ∧ Same (cut H10 wt kn kn) H' ∧ H' wt = some (.lst ws) ∧ RowsT K H' ws W ∧
          H' kn = some (.dT kvs) ∧ W.length ≤ 1 + 2 * n + d ∧ kvs.length ≤ 1 + 2 * n + d ∧ ∀ i, i < W.length → Met R T (KM.rowAt W i)) ?_ ?_ ?_ ?_⟩
        · exact ⟨ws, W, kvs, y9, y10, y11, rfl, cut_same, s10 _ _ ew, rt.same s10, s10 _ _ ek, lW, lk, met⟩
        · rintro d σ H' _ ⟨_, _, _, _, _, _, _, sm', _⟩
          exact .inl (.inl (sm' _ _ cDT))
        · rintro d x σ H11 hd ⟨ws, W, kvs, y9, y10, y11, rfl, sm', ew', rt', ek', lW', lk', met'⟩
          obtain ⟨b, rfl, eb⟩ : ∃ b, x = bitV b ∧ (if b = true then 1 else 0 : Nat) = d := by
            match d, hd with
            | 0, hd => exact ⟨false, (Option.some.inj hd).symm, rfl⟩
            | 1, hd => exact ⟨true, (Option.some.inj hd).symm, rfl⟩
          have d1 : d ≤ 1 := by
            rw [← eb]
            cases b <;> decide
          have sH := sHc.trans sm'
          have gR : ∀ i, atI (rowV (KM.rowAt R i)) (if b = true then 1 else 0) = some (natV (KM.to R i b)) := fun i => at_nat (i := if b = true then 1 else 0) (by cases b <;> rfl) (row_b R i b)
          have gT : ∀ i, atI (rowV (KM.rowAt T i)) (if b = true then 1 else 0) = some (natV (KM.to T i b)) := fun i => at_nat (i := if b = true then 1 else 0) (by cases b <;> rfl) (row_b T i b)
          obtain ⟨pr, er, tr⟩ := hR.2 _ l1
          have lto := KM.to_lt oR l1 b
          obtain ⟨pr2, er2, tr2⟩ := hR.2 _ lto
          have hA : SqL K H11 a as := SqL.of (sH _ _ ha)
          refine seq_asg ?_
          refine ⟨_, rfl, _, rfl, a, _, _, _, rfl, rfl, hA, atI_nat er, _, rfl, pr, _, _, _, rfl, rfl, .inl (.inl (sH _ _ tr)), gR _, ?_⟩
          refine seq_asg ?_
          refine ⟨_, rfl, _, rfl, _, rfl, _, rfl, a, _, _, _, rfl, rfl, hA, atI_nat er2, pr2, _, _, _, rfl, rfl, .inl (.inl (sH _ _ tr2)), atI_nat (j := 2) (row_2 _), show 2 ≤ sizeLine by decide, fun V2 nV2 => ?_⟩
          have s12 := same_fresh (o := .lst [natV r.2.1, natV (KM.rowAt R (KM.to R r.1 b)).2.2]) nV2
          have eV2 : upd H11 V2 (.lst [natV r.2.1, natV (KM.rowAt R (KM.to R r.1 b)).2.2]) V2 = some (.lst [natV r.2.1, natV (KM.rowAt R (KM.to R r.1 b)).2.2]) := upd_same
          generalize upd H11 V2 (.lst [natV r.2.1, natV (KM.rowAt R (KM.to R r.1 b)).2.2]) = H12 at s12 eV2 ⊢
          have sH12 := sH.trans s12
          have gV : atI [natV r.2.1, natV (KM.rowAt R (KM.to R r.1 b)).2.2] (if b = true then 1 else 0) = some (natV (if b = true then KM.ins R (KM.to R r.1 b) else r.2.1)) := by
            cases b
            · rfl
            · rfl
          refine ⟨_, rfl, V2, _, _, _, rfl, rfl, SqL.of eV2, gV, _, rfl, _, rfl, t, _, _, _, rfl, rfl, .inl (.inl (sH12 _ _ ht)), atI_nat ept, _, rfl, pt_, _, _, _, rfl, rfl, .inl (.inl (sH12 _ _ tpt)), gT _, show 3 ≤ sizeLine by decide, fun X nX => ?_⟩
          have mnext := mt.next b
          generalize hv2 : (if b = true then KM.ins R (KM.to R r.1 b) else r.2.1) = v2 at mnext
          have s13 := same_fresh (o := .tup [natV (KM.to R r.1 b), natV v2, natV (KM.to T r.2.2 b)]) nX
          have eX : upd H12 X (.tup [natV (KM.to R r.1 b), natV v2, natV (KM.to T r.2.2 b)]) X = some (.tup (rowV (KM.to R r.1 b, v2, KM.to T r.2.2 b))) := upd_same
          generalize upd H12 X (.tup [natV (KM.to R r.1 b), natV v2, natV (KM.to T r.2.2 b)]) = H13 at s13 eX ⊢
          have s113 := s12.trans s13
          have sm13 := sm'.trans s113
          have ek13 := s113 _ _ ek'
          have ew13 := s113 _ _ ew'
          have rt13 := rt'.same s113
          generalize (KM.to R r.1 b, v2, KM.to T r.2.2 b) = nr at eX mnext
          refine ⟨_, rfl, _, rfl, kn, _, rfl, DGet.t (k := keyT nr) ek13 eX, _, rfl, ?_⟩
          cases hval : valV kvs (keyT nr) with
          | some v =>
            exact iteF ⟨ws, W, kvs, _, _, _, rfl, sm13, ew13, rt13, ek13, by omega, by omega, met'⟩
          | none =>
            refine iteT ?_
            refine seq_dput ?_
            have hkl : kvs.length < sizeLine := small_line (m := 10000) (by omega) (by decide)
            refine ⟨_, rfl, _, rfl, kn, _, rfl, DPut.t (k := keyT nr) ek13 eX hkl, ?_⟩
            have e14 : upd H13 kn (.dT (putK kvs (keyT nr) (.bl true))) kn = some (.dT (putK kvs (keyT nr) (.bl true))) := upd_same
            have s14 : Same (cut H10 wt kn kn) (upd H13 kn (.dT (putK kvs (keyT nr) (.bl true)))) := same_put sm13 ckn
            have nwk : wt ≠ kn := ne_of ew13 ek13 (by intro z; cases z)
            have ew14 : upd H13 kn (.dT (putK kvs (keyT nr) (.bl true))) wt = some (.lst ws) := by
              rw [upd_ne nwk]
              exact ew13
            have eX14 : upd H13 kn (.dT (putK kvs (keyT nr) (.bl true))) X = some (.tup (rowV nr)) := by
              rw [upd_ne (ne_of eX ek13 (by intro z; cases z))]
              exact eX
            have rt14 : RowsT K (upd H13 kn (.dT (putK kvs (keyT nr) (.bl true)))) ws W := rt13.write ek13 (fun l z => by cases z)
            have lkp := length_putK kvs (keyT nr) (.bl true)
            generalize putK kvs (keyT nr) (.bl true) = kvs2 at e14 s14 ew14 eX14 rt14 lkp ⊢
            generalize upd H13 kn (.dT kvs2) = H14 at e14 s14 ew14 eX14 rt14 ⊢
            refine ⟨_, rfl, .inl ⟨rfl, _, SqL.of ew14⟩, _, rfl, wt, ws, _, rfl, rfl, ew14, ?_, ?_⟩
            · rw [rt14.1]
              exact small_line (m := 10000) (by omega) (by decide)
            · refine ⟨ws ++ [.ref X], W ++ [nr], kvs2, _, _, _, rfl, same_put s14 cwt, upd_same, rt14.app ew14 eX14, ?_, ?_, ?_, fun i hi => ?_⟩
              · rw [upd_ne nwk.symm]
                exact e14
              · rw [List.length_append, List.length_singleton]
                omega
              · omega
              · rw [List.length_append, List.length_singleton] at hi
                rcases Nat.lt_or_ge i W.length with lt | ge
                · rw [rowAt_snoc_lt lt]
                  exact met' i lt
                · have e : i = W.length := by omega
                  subst e
                  rw [rowAt_snoc_len]
                  exact mnext
        · rintro σ H11 ⟨ws, W, kvs, y9, y10, y11, rfl, sm', ew', rt', ek', lW', lk', met'⟩
          exact ⟨ws, W, kvs, _, _, _, _, y9, y10, y11, rfl, sHc.trans sm', ew', rt', ek', lW', lk', met'⟩
      · exact ⟨ws, W, kvs, _, y6, y7, y8, y9, y10, y11, rfl, sm, ew, rt, ek, by omega, by omega, met⟩
    · rintro σ H8 ⟨ws, W, kvs, y5, y6, y7, y8, y9, y10, y11, rfl, sm, _⟩
      exact q H8 sm
end
end K35
namespace K35
open PySem PySem.Spec PyProof.Rows L2 KR
section
variable {K : PySem.W.Frag}
theorem sqT_write {H : Hp} {p D : Addr} {xs l l' : List V} (h : SqT K H p xs) (hD : H D = some (.lst l)) : SqT K (upd H D (.lst l')) p xs := by
  rcases h with (h | ⟨o, h⟩) | h
  · exact .inl (.inl (by rw [upd_ne (ne_of h hD (by intro z; cases z))]; exact h))
  · exact .inl (.inr ⟨o, by rw [upd_ne (ne_of h hD (by intro z; cases z))]; exact h⟩)
  · exact .inr h
/-- rows that are tuples of any standing -/
def RowsS (K : PySem.W.Frag) (H : Hp) (as : List V) (R : KM.Rows) : Prop := as.length = R.length ∧ ∀ (i : Nat), i < R.length → ∃ p, as[i]? = some (.ref p) ∧ SqT K H p (rowV (KM.rowAt R i))
theorem RowsS.same {H H' : Hp} {as : List V} {R : KM.Rows} (h : RowsS K H as R) (e : Same H H') : RowsS K H' as R :=
  ⟨h.1, fun i hi => let ⟨p, a, b⟩ := h.2 i hi; ⟨p, a, same_tup e b⟩⟩
theorem dp_rowsS {H : Hp} : ∀ {as : List V} {R : KM.Rows}, RowsS K H as R → DpAll K H as (R.map fun r => PyData.tuple (rowL r))
  | [], [], _ => .nil
  | [], _ :: _, h => by
    have := h.1
    cases this
  | _ :: _, [], h => by
    have := h.1
    cases this
  | v :: as, r :: R, h => by
    obtain ⟨p, e, t⟩ := h.2 0 (Nat.succ_pos _)
    have e : v = .ref p := Option.some.inj e
    subst e
    refine .cons (.tup t (dp_row _)) (dp_rowsS ⟨Nat.succ.inj h.1, fun i hi => ?_⟩)
    obtain ⟨q, e', t'⟩ := h.2 (i + 1) (Nat.succ_lt_succ hi)
    exact ⟨q, e', t'⟩
abbrev rTupOf (K : PySem.W.Frag) : List V → Hp → VK → Prop := fun xs H Q => ∃ p ys, xs = [.ref p] ∧ ((SqL K H p ys ∧ ∀ l, H l = none → Q (.ref l) (upd H l (.tup ys))) ∨ (SqT K H p ys ∧ Q (.ref p) H))
/-- [tuple(row) for row in given] -/
theorem rd_tuples {σ : L2.St} {H1 : Hp} {Q : VK} {g : Addr} {gs : List V} {R : KM.Rows} (e2 : σ[2]? = some (some (.ref g))) (e7 : ∀ y, ((wipe σ [7]).set 7 y)[7]? = some y) (ew : ∀ y, wipe ((wipe σ [7]).set 7 y) [7] = wipe σ [7])
    (hg : Sq K H1 g gs) (hR : RowsIn K H1 gs R) (hl : R.length ≤ 100)
    (q : ∀ D H' ys, H1 D = none → Same H1 H' → H' D = some (.lst ys) → RowsS K H' ys R → Q (.ref D) H') : tLc (iSq K (tVar 2)) (gName 7) tYes (tCB (rTupOf K) (tCons (tVar 7) tNil)) [7] σ H1 Q := by
  have lg := hR.1
  refine rd_sqbuild (K := K) (i := 2) (E := fun i v H => ∃ p, v = .ref p ∧ SqT K H p (rowV (KM.rowAt R i))) ?_ e2 hg (by omega) ?_ ?_
  · rintro i v H H' s ⟨p, e, h⟩
    exact ⟨p, e, same_tup s h⟩
  · rintro D j x H2 kk hj hx nD sm ⟨l, el⟩ k'
    obtain ⟨p, ep, tp⟩ := hR.2 j (by omega)
    rw [ep] at hx
    cases hx
    refine ⟨ew _, _, e7 _, p, rowV (KM.rowAt R j), rfl, ?_⟩
    rcases same_sq sm tp with h | h
    · refine .inl ⟨h, fun l2 nl2 => ?_⟩
      have s2 := same_fresh (o := .tup (rowV (KM.rowAt R j))) nl2
      refine k' _ _ s2 fun l' => ⟨l2, rfl, sqT_write (.inl (.inl upd_same)) (s2 _ _ el)⟩
    · exact .inr ⟨h, k' _ _ (Same.refl H2) fun l' => ⟨p, rfl, sqT_write h el⟩⟩
  · rintro D H2 ys nD sm eD ly hE
    refine q D H2 ys nD sm eD ⟨by omega, fun i hi => ?_⟩
    obtain ⟨v, hv, p, rfl, h⟩ := hE i (by omega)
    exact ⟨p, hv, h⟩
end
theorem isIn_rule {R T : KM.Rows} (c : KM.Canon T (KM.told R)) {n : Nat} (hn : 0 < n) : isIn T ((n : Nat) : Int) = decide (KM.ledAt R 0 n = 1) := by
  unfold isIn
  rw [decide_eq_true (show (0 : Int) < ((n : Nat) : Int) by omega), Bool.true_and]
  have e : KM.ledAt T 0 n = KM.ledAt R 0 n := by
    unfold KM.ledAt
    rw [c.out]
    exact KM.told_bits hn
  rw [Int.toNat_natCast, e]
theorem isIn_low {T : KM.Rows} {n : Int} (h : n ≤ 0) : isIn T n = false := by
  unfold isIn
  rw [decide_eq_false (by omega)]
  rfl
theorem SzAt.less {K : PySem.W.Frag} {C : Addr} {H : Hp} {o p c : Addr} {b : Nat} {T : KM.Rows} (h : SzAt K C H o T) (pa : PenAt H p c b) : SzAt K C (less p H) o T :=
  let ⟨dx, t, ys, h1, h2, h3⟩ := h; ⟨dx, t, ys, less_some h1 (pa.ne h1 (fun _ z => by cases z)), less_some h2 (pa.ne h2 (fun _ z => by cases z)), h3.less pa⟩
theorem big_pow : (2 : Nat) ^ 200 + 1 < 2 ^ 1000 := by decide +kernel
theorem big_ten : (10 : Nat) ^ 30 + 100 < 2 ^ 200 := by decide +kernel

abbrev sRig : Stmt := top 54
abbrev nRig : List PySem.Str := ["_law_pen_here", "_law_rows", "_law_given_here", "_law_kept", "_law_found", "_law_far", "_law_number", "_law_row"]
theorem scRig : FnScope nRig ["_law_pen_here", "_law_rows"] (defScope sRig) := ⟨rfl, rfl, rfl, by decide +kernel, rfl, by decide +kernel, by decide +kernel⟩
def spRig (K : PySem.W.Frag) : Sp := fun vs H Q _ => ∃ (p c a : Addr) (b : Nat) (as : List V) (R : KM.Rows), vs = [.ref p, .ref a] ∧ PenAt H p c b ∧ b ≤ 60000 ∧ H a = some (.lst as) ∧ RowsT K H as R ∧ KM.OkR R ∧ 0 < R.length ∧ R.length ≤ 6 ∧
  ∀ H', Same (less p H) H' → PenAt H' p c (b + 30) → Q (.bl true) H'
section
variable {P : Program} {w : World} {K : PySem.W.Frag} {mg : PySem.Str → Option Value} {base : Heap} {C : Addr}
theorem ok_rig {f fG fS fE fZ fD fL fI : Addr} {fd fdG fdS fdE fdZ fdD fdL fdI : FuncData} {k : Nat} (cl : SzC K C) (F : Fun K "_law_set_right" "_law_set_right" sRig f fd)
    (FG : Fun K "_law_given" "_law_given" sGiv fG fdG) (bG : Binds K fdG ["_law_pen_here", "_law_rows"] []) (gG : mg "_law_given" = some (.ref fG)) (GG : FnOk P w K mg base CX0 k fG fdG ["_law_pen_here", "_law_rows"] (spGiv K))
    (FS : Fun K "sizes_of_rows" "sizes_of_rows" sSor fS fdS) (bS : Binds K fdS ["rows"] []) (gS : mg "sizes_of_rows" = some (.ref fS)) (GS : FnOk P w K mg base CX0 k fS fdS ["rows"] (spSor K C))
    (FE : Fun K "_law_exact" "_law_exact" sExa fE fdE) (bE : Binds K fdE ["_law_rows", "_law_start", "_law_told"] []) (gE : mg "_law_exact" = some (.ref fE)) (GE : FnOk P w K mg base CX0 k fE fdE ["_law_rows", "_law_start", "_law_told"] (spExa K))
    (FZ : Fun K "_law_size" "_law_size" sSize fZ fdZ) (bZ : Binds K fdZ ["_law_pen_here"] []) (gZ : mg "_law_size" = some (.ref fZ)) (GZ : FnOk P w K mg base CX0 k fZ fdZ ["_law_pen_here"] spSize)
    (FD : Fun K "_law_draw" "_law_draw" sDraw fD fdD) (bD : Binds K fdD ["_law_pen_here", "_law_many"] []) (gD : mg "_law_draw" = some (.ref fD)) (GD : FnOk P w K mg base CX0 k fD fdD ["_law_pen_here", "_law_many"] spDraw)
    (FL : Fun K "_law_led" "_law_led" sLed fL fdL) (bL : Binds K fdL ["_law_rows", "_law_start", "_law_number"] []) (gL : mg "_law_led" = some (.ref fL)) (GL : FnOk P w K mg base CX0 k fL fdL ["_law_rows", "_law_start", "_law_number"] (spLed K))
    (bI : Binds K fdI ["self", "size"] []) (GI : FnOk P w K mg base CX0 k fI fdI ["self", "size"] (spIn K C)) (hI : PySem.W.findIn K (.ref C) "__contains__" = some (some (.ref fI))) (iI : PySem.W.isFn K (.ref fI) = true)
    (mt : mg "tuple" = none) (mli : mg "list" = none) (mr : mg "range" = none) : FnOk P w K mg base CX0 (k + 1) f fd ["_law_pen_here", "_law_rows"] (spRig K) := by
  refine F.ok scRig (fun vs H Q E h => ?_) (fun cdv A outer s H vs Q E hr h => ?_)
  · obtain ⟨p, c, a, b, as, R, rfl, _⟩ := h
    rfl
  · obtain ⟨p, c, a, b, as, R, rfl, hp, hb, ha, hR, oR, pR, lR, q⟩ := h
    refine ⟨_, (pss_cons (ps_set (i := 2) scRig.nd rfl (.inl rfl) (pe_call GG hr (by rfl) gG FG.kp bG .nil pass0 (pa_cons (pv 0) (pa_cons (pv 1) pa_nil)))) (pss_cons (ps_setLc (i := 3) (own := [("_law_row", 7)]) rfl scRig.nd rfl rfl (sw_true rfl rfl rfl (by decide +kernel)) (pi_sq (pv 2)) (blkOk_by (own := [("_law_row", 7)]) (N := nRig) (sc := defScope sRig) (by decide +kernel)) (fun _ _ _ _ _ => (pg_name (i := 7) scRig.nd rfl (.inl rfl))) (fun _ _ _ _ _ => pts_nil) (fun _ _ _ _ _ => pe_callTy (T := "tuple") (r := rTupOf K) call_tuple_of (by rfl) mt (by decide +kernel) (pa_cons (pv 7) pa_nil))) (pss_cons (ps_set (i := 4) scRig.nd rfl (.inl rfl) (pe_call GS hr (by rfl) gS FS.kp bS .nil pass0 (pa_cons (pv 2) pa_nil))) (pss_cons (ps_if (PW.pt (pw_or (pt_not (pt_val (pe_call GE hr (by rfl) gE FE.kp bE .nil pass0 (pa_cons (pv 1) (pa_cons pe_int (pa_cons (pe_fld (pv 4) (by rfl)) pa_nil)))))) (pw_or1 (pt_cmpR (op_neD hr.units) (pe_lc (own := [("_law_row", 7)]) rfl scRig.nd (pi_sq (pv 2)) (blkOk_by (own := [("_law_row", 7)]) (N := nRig) (sc := defScope sRig) (by decide +kernel)) (fun _ _ _ _ _ => (pg_name (i := 7) scRig.nd rfl (.inl rfl))) (fun _ _ _ _ _ => pts_nil) (fun _ _ _ _ _ => pe_callTy (T := "tuple") (r := rTupOf K) call_tuple_of (by rfl) mt (by decide +kernel) (pa_cons (pv 7) pa_nil))) (pv 3) (nomark _))))) (pss_one ps_never) pss_nil) (pss_cons (ps_set (i := 5) scRig.nd rfl (.inl rfl) (pe_lst (pa_cons (pe_call GZ hr (by rfl) gZ FZ.kp bZ .nil pass0 (pa_cons (pv 0) pa_nil)) (pa_cons (pe_call GZ hr (by rfl) gZ FZ.kp bZ .nil pass0 (pa_cons (pv 0) pa_nil)) (pa_cons (pe_op op_add (pe_op op_pow pe_int pe_int) (pe_call GD hr (by rfl) gD FD.kp bD .nil pass0 (pa_cons (pv 0) (pa_cons pe_int pa_nil)))) pa_nil))))) (pss_cons (ps_for PassesOwn.never rfl (pi_list (pe_op op_cat (pe_listRg rfl (by rfl) mli (prg_2 (by rfl) mr pe_int pe_int)) (pv 5))) (pg_name (i := 6) scRig.nd rfl (.inl rfl)) (pss_one (ps_if (PW.pt (pw_or (pt_cmpR op_ne (pe_cmpR (op_ownIn GI hr bI pass0 hI iI) (pv 6) (pv 4) (by rfl)) (pe_cmpR op_eq (pe_call GL hr (by rfl) gL FL.kp bL .nil pass0 (pa_cons (pv 1) (pa_cons pe_int (pa_cons (pv 6) pa_nil)))) pe_int (nomark _)) (nomark _)) (pw_or1 (pt_cmpR op_eq (pe_cmpR (op_ownNotIn GI hr bI pass0 hI iI) (pv 6) (pv 4) (by rfl)) (pe_cmpR (op_ownIn GI hr bI pass0 hI iI) (pv 6) (pv 4) (by rfl)) (nomark _))))) (pss_one ps_never) pss_nil))) (pss_one (ps_ret (pe_and (pe_cmpR op_isBl (pe_cmpR (op_ownIn GI hr bI pass0 hI iI) pe_int (pv 4) (by rfl)) pe_bl (nomark _)) (pe_one (pe_cmpR op_isBl (pe_cmpR (op_ownIn GI hr bI pass0 hI iI) (pe_un un_neg (pe_ix (r := rIxL K) ix_list (pv 5) pe_int (fun _ _ => rfl))) (pv 4) (by rfl)) pe_bl (nomark _)))))))))))), ?_⟩
    refine seq_asg ?_
    refine ⟨_, rfl, _, rfl, p, c, a, b, as, R, rfl, hp, by omega, ha, hR, by omega, fun H1 g gs ng s1 hg hRI p1 => ?_⟩
    have ha1 := hp.stay s1 ha (fun _ z => by cases z)
    have hR1 := (hR.less hp).same s1
    refine seq_asg ?_
    refine rd_tuples (K := K) (R := R) rfl (fun _ => rfl) (fun _ => rfl) hg hRI (by omega) fun kp H2 ks nkp s2 ekp rk => ?_
    refine seq_asg ?_
    refine ⟨_, rfl, g, gs, R, rfl, same_sq s2 hg, hRI.same s2, oR, pR, by omega, fun H3 o T s3 no hSz hC lT => ?_⟩
    have s13 := s2.trans s3
    obtain ⟨dx, t, ys, ho, ht, hT⟩ := id hSz
    refine seq_of ?_
    refine ⟨_, rfl, _, rfl, o, C, dx, _, _, rfl, ho, cl.cl, cl.na, rfl, a, t, as, ys, R, T, rfl, s13 _ _ ha1, hR1.same s13, oR, pR, by omega, ht, hT, hC, lT, fun H4 s4 => ⟨true, rfl, iteF ?_⟩⟩
    have s14 := s13.trans s4
    dsimp only [tTest, tOp]
    refine rd_tuples (K := K) (R := R) rfl (fun _ => rfl) (fun _ => rfl) (same_sq s14 hg) (hRI.same s14) (by omega) fun kp2 H5 ks2 nkp2 s5 ekp2 rk2 => ?_
    have s15 := s14.trans s5
    have s25 := s3.trans (s4.trans s5)
    refine ⟨_, rfl, _, _, .lst (SqL.of ekp2) (dp_rowsS rk2), .lst (SqL.of (s25 _ _ ekp)) (dp_rowsS (rk.same s25)), shaped_rows R, shaped_rows R, false, ?_, iteF ?_⟩
    · rw [eqv_list, eqv_rowsAll, decide_eq_true rfl]
      rfl
    refine next_of ?_
    dsimp only
    have p5 := p1.same s15
    have hSz5 := hSz.same (s4.trans s5)
    have ha5 := s15 _ _ ha1
    have hR5 := hR1.same s15
    have s05 := s1.trans s15
    -- the far numbers
    refine seq_asg ?_
    refine ⟨_, rfl, p, c, b + 1, rfl, p5, by omega, fun H6 n1 n1p n1l s6 p6 => ?_⟩
    refine ⟨_, rfl, p, c, b + 11, rfl, p6, by omega, fun H7 n2 n2p n2l s7 p7 => ?_⟩
    refine ⟨_, _, rfl, rfl, ⟨by decide, by decide, by decide⟩, _, rfl, p, c, 99, b + 21, rfl, p7, by decide, by decide, by omega, fun H8 x lx s8 p8 => ?_⟩
    have en3 : V.int ((10 : Int) ^ (30 : Int).toNat + ((x : Nat) : Int)) = natV (10 ^ 30 + x) := by
      unfold natV
      congr 1
    refine ⟨_, _, rfl, rfl, show 3 ≤ sizeLine by decide, fun fl nfl => ?_⟩
    have s58 := (less_mono ((less_mono s6 less_none).trans s7) less_none).trans s8
    have hSz8 := (hSz5.less p5).same s58
    have ha8 := p5.stay s58 ha5 (fun _ z => by cases z)
    have hR8 := (hR5.less p5).same s58
    have s08 := (less_mono s05 less_none).trans s58
    have s9 := same_fresh (o := .lst [natV n1, natV n2, .int ((10 : Int) ^ (30 : Int).toNat + ((x : Nat) : Int))]) nfl
    have e9 : upd H8 fl (.lst [natV n1, natV n2, .int ((10 : Int) ^ (30 : Int).toNat + ((x : Nat) : Int))]) fl = some (.lst (natsV [n1, n2, 10 ^ 30 + x])) := by
      rw [upd_same, en3]
      rfl
    have n3l : 10 ^ 30 + x < 2 ^ 200 := by
      have := big_ten
      omega
    have n3p : 0 < 10 ^ 30 + x := by
      have : 0 < 10 ^ 30 := by decide
      omega
    generalize 10 ^ 30 + x = n3 at e9 n3l n3p
    generalize upd H8 fl (.lst [natV n1, natV n2, .int ((10 : Int) ^ (30 : Int).toNat + ((x : Nat) : Int))]) = H9 at s9 e9 ⊢
    have hSz9 := hSz8.same s9
    have ha9 := s9 _ _ ha8
    have hR9 := hR8.same s9
    have p9 := p8.same s9
    have s09 := s08.trans s9
    refine seq_of ?_
    refine ⟨1, 25, rfl, rfl, RgOk.of_le (by decide) (by decide) (by decide) (by decide), fun r nr => ?_⟩
    have s10 := same_fresh (o := .lst (rgV 1 25)) nr
    have e10 : upd H9 r (.lst (rgV 1 25)) r = some (.lst (rgV 1 25)) := upd_same
    generalize upd H9 r (.lst (rgV 1 25)) = H10 at s10 e10 ⊢
    refine ⟨_, rfl, r, fl, _, _, rfl, rfl, e10, s10 _ _ e9, ?_, fun al nal => ?_⟩
    · rw [rgV_length]
      exact Nat.le_of_lt (small_line (m := 1000) (show ((25 : Int) - 1).toNat + 3 ≤ 1000 by decide) (by decide))
    have s11 := same_fresh (o := .lst (rgV 1 25 ++ natsV [n1, n2, n3])) nal
    have e11 : upd H10 al (.lst (rgV 1 25 ++ natsV [n1, n2, n3])) al = some (.lst (rgV 1 25 ++ natsV [n1, n2, n3])) := upd_same
    generalize upd H10 al (.lst (rgV 1 25 ++ natsV [n1, n2, n3])) = H11 at s11 e11 ⊢
    have s911 := s10.trans s11
    have hSz11 := hSz9.same s911
    have ha11 := s911 _ _ ha9
    have hR11 := hR9.same s911
    have p11 := p9.same s911
    have e5 := s911 _ _ e9
    have oT := hC.ok
    have pT := hC.pos
    have hall : ∀ y, y ∈ rgV 1 25 ++ natsV [n1, n2, n3] → ∃ n : Nat, y = natV n ∧ 0 < n ∧ n < 2 ^ 1000 := by
      intro y hy
      have bp := big_pow
      rcases List.mem_append.mp hy with hy | hy
      · unfold rgV at hy
        obtain ⟨i, hi, rfl⟩ := List.mem_map.mp hy
        have hi := List.mem_range.mp hi
        have hi : i < 24 := hi
        refine ⟨1 + i, ?_, by omega, Nat.lt_trans (show 1 + i < 100 by omega) (by decide +kernel)⟩
        unfold natV
        congr 1
      · obtain ⟨n, hn, rfl⟩ := List.mem_map.mp hy
        refine ⟨n, rfl, ?_, ?_⟩
        · simp only [List.mem_cons, List.not_mem_nil, or_false] at hn
          rcases hn with rfl | rfl | rfl <;> assumption
        · simp only [List.mem_cons, List.not_mem_nil, or_false] at hn
          have hn2 : n < 2 ^ 200 := by rcases hn with rfl | rfl | rfl <;> assumption
          generalize 2 ^ 1000 = z at bp ⊢
          omega
    refine ⟨al, rfl, ⟨_, SqL.of e11⟩, for_list (K := K) (a := al) (xs := rgV 1 25 ++ natsV [n1, n2, n3]) (fun i σ H' => ∃ y6, σ = [some (.ref p), some (.ref a), some (.ref g), some (.ref kp), some (.ref o), some (.ref fl), y6, none] ∧ Same H11 H') ?_ ?_ ?_ ?_⟩
    · exact ⟨none, rfl, Same.refl _⟩
    · rintro i σ H' _ ⟨_, _, sm⟩
      exact SqL.of (sm _ _ e11)
    · rintro i y σ H12 hy ⟨y6, rfl, sm⟩
      obtain ⟨n, rfl, n0, nl⟩ := hall y (List.mem_of_getElem? hy)
      have hI := isIn_rule hC n0
      have hIx : ∀ {H : Hp}, Same H11 H → ∃ dx fs, H o = some (.ins C dx fs) := fun {H} s => by
        obtain ⟨dx, t, ys, h1, _⟩ := hSz11.same s
        exact ⟨dx, _, h1⟩
      obtain ⟨dx1, fs1, ho1⟩ := hIx sm
      refine ⟨_, rfl, _, rfl, o, dx1, fs1, rfl, ho1, o, T, (n : Int), rfl, hSz11.same sm, oT, pT, by rw [Int.toNat_natCast]; exact nl, fun H13 s13 => ⟨_, rfl, ?_⟩⟩
      have sm13 := sm.trans s13
      refine ⟨_, rfl, _, rfl, a, as, R, n, rfl, sm13 _ _ ha11, hR11.same sm13, oR, pR, nl, fun H14 s14' => ⟨natV_scal _ 1, rfl, false, ?_, iteF ?_⟩⟩
      · have e1 : decide (natV (KM.ledAt R 0 n) = V.int 1) = decide (KM.ledAt R 0 n = 1) := dec_nat _ 1
        rw [hI, e1, decide_eq_true rfl]
        rfl
      have sm14 := sm13.trans s14'
      obtain ⟨dx2, fs2, ho2⟩ := hIx sm14
      refine ⟨_, rfl, _, rfl, o, dx2, fs2, rfl, ho2, o, T, (n : Int), rfl, hSz11.same sm14, oT, pT, by rw [Int.toNat_natCast]; exact nl, fun H15 s15' => ⟨_, rfl, ?_⟩⟩
      have sm15 := sm14.trans s15'
      obtain ⟨dx3, fs3, ho3⟩ := hIx sm15
      refine ⟨_, rfl, _, rfl, o, dx3, fs3, rfl, ho3, o, T, (n : Int), rfl, hSz11.same sm15, oT, pT, by rw [Int.toNat_natCast]; exact nl, fun H16 s16 => ⟨_, rfl, rfl, false, ?_, iteF ?_⟩⟩
      · cases isIn T ((n : Nat) : Int) <;> decide
      exact ⟨_, rfl, sm15.trans s16⟩
    · rintro σ H12 ⟨y6, rfl, sm⟩
      obtain ⟨dx1, t1, ys1, ho1, _⟩ := hSz11.same sm
      refine ⟨_, rfl, o, dx1, _, rfl, ho1, o, T, 0, rfl, hSz11.same sm, oT, pT, Nat.pow_pos (show 0 < 2 by decide), fun H13 s13' => ⟨_, rfl, ?_⟩⟩
      have sm13 := sm.trans s13'
      obtain ⟨dx2, t2, ys2, ho2, _⟩ := hSz11.same sm13
      rw [isIn_low (Int.le_refl 0)]
      refine ⟨false, false, rfl, rfl, true, rfl, iteT ?_⟩
      refine ⟨_, rfl, fl, _, _, natV n1, rfl, rfl, SqL.of (sm13 _ _ e5), rfl, _, rfl, ?_⟩
      refine ⟨_, rfl, o, dx2, _, rfl, ho2, o, T, -((n1 : Nat) : Int), rfl, hSz11.same sm13, oT, pT, ?_, fun H14 s14' => ⟨_, rfl, ?_⟩⟩
      · have : (-((n1 : Nat) : Int)).toNat = 0 := by omega
        rw [this]
        exact Nat.pow_pos (by decide)
      rw [isIn_low (by omega)]
      refine ⟨false, false, rfl, rfl, ?_⟩
      have sfin := sm13.trans s14'
      exact q H14 (s09.trans (s911.trans sfin)) ((p11.same sfin).mono (by omega))
end
end K35
namespace K35
open PySem PySem.Spec PyProof.Rows L2 KR
theorem told_doubled {R R2 : KM.Rows} (h : KM.Doubled R R2) (p : 0 < R.length) : KM.told R2 = KM.told R := funext (KM.told_same fun n _ => KM.doubled_led h p n)
theorem both_iff {R R' T T' : KM.Rows} (o : KM.OkR R) (o' : KM.OkR R') (p : 0 < R.length) (p' : 0 < R'.length) (c : KM.Canon T (KM.told R)) (c' : KM.Canon T' (KM.told R')) : (∀ m, 0 < m → KM.ledAt (KM.both R R') 0 m = 0) ↔ T = T' := by
  constructor
  · intro h
    have e : ∀ n, 0 < n → KM.ledAt R 0 n = KM.ledAt R' 0 n := fun n hn => by
      have := h n hn
      rw [KM.both_led o o' p p'] at this
      by_cases z : KM.ledAt R 0 n = KM.ledAt R' 0 n
      · exact z
      · rw [if_neg z] at this
        cases this
    have et : KM.told R = KM.told R' := funext (KM.told_same e)
    exact KM.canon_same c c' fun w => by rw [et]
  · intro e n hn
    subst e
    rw [KM.both_led o o' p p', if_pos]
    exact KM.led_same (fun w => by rw [← c.out, ← c'.out]) hn

abbrev sLaw : Stmt := top 55
abbrev nLaw : List PySem.Str := ["_law_script", "_law_pen_here", "_law_one", "_law_other", "_law_first", "_law_second", "_law_third", "_law_same"]
theorem scLaw : FnScope nLaw ["_law_script"] (defScope sLaw) := ⟨rfl, rfl, rfl, by decide +kernel, rfl, by decide +kernel, by decide +kernel⟩
def spLaw (K : PySem.W.Frag) : Sp := fun vs H Q _ => ∃ (a : Addr) (ns : List Int), vs = [.ref a] ∧ SqL K H a (ns.map V.int) ∧ ns.length ≤ 1000 ∧ ∀ H', Q (.bl true) H'
section
variable {P : Program} {w : World} {K : PySem.W.Frag} {mg : PySem.Str → Option Value} {base : Heap} {C : Addr}
theorem ok_law {f fP fR fW fS fD fE fT fM fB fQ : Addr} {fd fdP fdR fdW fdS fdD fdE fdT fdM fdB fdQ : FuncData} {k : Nat} (cl : SzC K C) (F : Fun K "law" "law" sLaw f fd)
    (FP : Fun K "_law_pen" "_law_pen" sPen fP fdP) (bP : Binds K fdP ["_law_script"] []) (gP : mg "_law_pen" = some (.ref fP)) (GP : FnOk P w K mg base CX0 (k + 1) fP fdP ["_law_script"] (spPen K))
    (FR : Fun K "_law_rule" "_law_rule" sRule fR fdR) (bR : Binds K fdR ["_law_pen_here", "_law_most"] []) (gR : mg "_law_rule" = some (.ref fR)) (GR : FnOk P w K mg base CX0 (k + 1) fR fdR ["_law_pen_here", "_law_most"] (spRule K))
    (FW : Fun K "_law_set_right" "_law_set_right" sRig fW fdW) (bW : Binds K fdW ["_law_pen_here", "_law_rows"] []) (gW : mg "_law_set_right" = some (.ref fW)) (GW : FnOk P w K mg base CX0 (k + 1) fW fdW ["_law_pen_here", "_law_rows"] (spRig K))
    (FS : Fun K "sizes_of_rows" "sizes_of_rows" sSor fS fdS) (bS : Binds K fdS ["rows"] []) (gS : mg "sizes_of_rows" = some (.ref fS)) (GS : FnOk P w K mg base CX0 (k + 1) fS fdS ["rows"] (spSor K C))
    (FD : Fun K "_law_doubled" "_law_doubled" sDbl fD fdD) (bD : Binds K fdD ["_law_pen_here", "_law_rows"] []) (gD : mg "_law_doubled" = some (.ref fD)) (GD : FnOk P w K mg base CX0 (k + 1) fD fdD ["_law_pen_here", "_law_rows"] (spDbl K))
    (FE : Fun K "_law_exact" "_law_exact" sExa fE fdE) (bE : Binds K fdE ["_law_rows", "_law_start", "_law_told"] []) (gE : mg "_law_exact" = some (.ref fE)) (GE : FnOk P w K mg base CX0 (k + 1) fE fdE ["_law_rows", "_law_start", "_law_told"] (spExa K))
    (FT : Fun K "_law_is_truth" "_law_is_truth" sTru fT fdT) (bT : Binds K fdT ["_law_value", "_law_due"] []) (gT : mg "_law_is_truth" = some (.ref fT)) (GT : FnOk P w K mg base CX0 (k + 1) fT fdT ["_law_value", "_law_due"] spTru)
    (FM : Fun K "_law_is_empty" "_law_is_empty" sEmp fM fdM) (bM : Binds K fdM ["_law_rows"] []) (gM : mg "_law_is_empty" = some (.ref fM)) (GM : FnOk P w K mg base CX0 (k + 1) fM fdM ["_law_rows"] (spEmp K))
    (FB : Fun K "_law_both_rules" "_law_both_rules" sBoth fB fdB) (bB : Binds K fdB ["_law_one", "_law_other", "_law_wanted"] []) (gB : mg "_law_both_rules" = some (.ref fB)) (GB : FnOk P w K mg base CX0 (k + 1) fB fdB ["_law_one", "_law_other", "_law_wanted"] (spBoth K))
    (bQ : Binds K fdQ ["self", "other"] []) (GQ : FnOk P w K mg base CX0 k fQ fdQ ["self", "other"] (spEq K C)) (hQ : PySem.W.findIn K (.ref C) "__eq__" = some (some (.ref fQ))) (iQ : PySem.W.isFn K (.ref fQ) = true)
    (hn : PySem.W.findIn K (.ref C) "__ne__" = some (some (.builtin "object.__ne__"))) (nc : PySem.W.notFirst K C (.ref C) = true) (nt : PySem.W.notFirst K C (.type "tuple") = true) (nn : PySem.W.notFirst K C (.type "NoneType") = true) (nl : PySem.W.notFirst K C (.type "list") = true) :
    FnOk P w K mg base CX0 (k + 2) f fd ["_law_script"] (spLaw K) := by
  refine F.ok scLaw (fun vs H Q E h => ?_) (fun cdv A outer s H vs Q E hr h => ?_)
  · obtain ⟨a, ns, rfl, _⟩ := h
    rfl
  · obtain ⟨a, ns, rfl, ha, hl, q⟩ := h
    have EQ := op_ownEq (X := (cxOf CX0 P w K mg base nLaw "law" (defScope sLaw) f cdv A outer s H E).nox) GQ (hr.mono (Nat.le_succ k)) bQ pass0 hQ iQ
    have NE := op_ownNe (X := (cxOf CX0 P w K mg base nLaw "law" (defScope sLaw) f cdv A outer s H E).nox) GQ hr bQ pass0 cl.hm hn hQ iQ
    refine ⟨_, (pss_cons (ps_set (i := 1) scLaw.nd rfl (.inl rfl) (pe_call GP hr (by rfl) gP FP.kp bP .nil pass0 (pa_cons (pv 0) pa_nil))) (pss_cons (ps_par (i := 2) (j := 3) rfl scLaw.nd rfl rfl (by decide) rfl rfl (pa_cons (pe_call GR hr (by rfl) gR FR.kp bR .nil pass0 (pa_cons (pv 1) (pa_cons pe_int pa_nil))) (pa_cons (pe_call GR hr (by rfl) gR FR.kp bR .nil pass0 (pa_cons (pv 1) (pa_cons pe_int pa_nil))) pa_nil)) (by rfl)) (pss_cons (ps_if (PW.pt (pw_or (pt_not (pt_val (pe_call GW hr (by rfl) gW FW.kp bW .nil pass0 (pa_cons (pv 1) (pa_cons (pv 2) pa_nil))))) (pw_or1 (pt_not (pt_val (pe_call GW hr (by rfl) gW FW.kp bW .nil pass0 (pa_cons (pv 1) (pa_cons (pv 3) pa_nil)))))))) (pss_one ps_never) pss_nil) (pss_cons (ps_par (i := 4) (j := 5) rfl scLaw.nd rfl rfl (by decide) rfl rfl (pa_cons (pe_call GS hr (by rfl) gS FS.kp bS .nil pass0 (pa_cons (pv 2) pa_nil)) (pa_cons (pe_call GS hr (by rfl) gS FS.kp bS .nil pass0 (pa_cons (pv 3) pa_nil)) pa_nil)) (by rfl)) (pss_cons (ps_set (i := 6) scLaw.nd rfl (.inl rfl) (pe_call GS hr (by rfl) gS FS.kp bS .nil pass0 (pa_cons (pe_call GD hr (by rfl) gD FD.kp bD .nil pass0 (pa_cons (pv 1) (pa_cons (pv 2) pa_nil))) pa_nil))) (pss_cons (ps_if (pt_not (pt_val (pe_call GE hr (by rfl) gE FE.kp bE .nil pass0 (pa_cons (pv 2) (pa_cons pe_int (pa_cons (pe_fld (pv 6) (by rfl)) pa_nil)))))) (pss_one ps_never) pss_nil) (pss_cons (ps_if (PW.pt (pw_or (pt_not (pt_val (pe_call GT hr (by rfl) gT FT.kp bT .nil pass0 (pa_cons (pe_cmpR EQ (pv 4) (pv 6) (nomark _)) (pa_cons pe_bl pa_nil))))) (pw_or1 (pt_cmpR NE (pv 4) (pv 6) (nomark _))))) (pss_one ps_never) pss_nil) (pss_cons (ps_set (i := 7) scLaw.nd rfl (.inl rfl) (pe_call GM hr (by rfl) gM FM.kp bM .nil pass0 (pa_cons (pe_call GB hr (by rfl) gB FB.kp bB .nil pass0 (pa_cons (pv 2) (pa_cons (pv 3) (pa_cons (pe_tup (pa_cons (pe_tup (pa_cons pe_int (pa_cons pe_int pa_nil))) (pa_cons (pe_tup (pa_cons pe_int (pa_cons pe_int pa_nil))) pa_nil))) pa_nil)))) pa_nil))) (pss_cons (ps_if (PW.pt (pw_or (pt_not (pt_val (pe_call GT hr (by rfl) gT FT.kp bT .nil pass0 (pa_cons (pe_cmpR EQ (pv 4) (pv 5) (nomark _)) (pa_cons (pv 7) pa_nil))))) (pw_or1 (pt_not (pt_val (pe_call GT hr (by rfl) gT FT.kp bT .nil pass0 (pa_cons (pe_cmpR NE (pv 4) (pv 5) (nomark _)) (pa_cons (pe_not (pv 7)) pa_nil)))))))) (pss_one ps_never) pss_nil) (pss_cons (ps_if (PW.pt (pw_or (pt_cmpR EQ (pv 4) (pe_fld (pv 4) (by rfl)) (nomark _)) (pw_or1 (pt_cmpR EQ (pv 4) pe_non (nomark _))))) (pss_one ps_never) pss_nil) (pss_one (ps_ret (pe_call GT hr (by rfl) gT FT.kp bT .nil pass0 (pa_cons (pe_cmpR NE (pv 4) (pv 2) (nomark _)) (pa_cons pe_bl pa_nil))))))))))))))), ?_⟩
    refine seq_asg ?_
    refine ⟨_, rfl, a, ns, rfl, ha, hl, fun H1 p c np ncc s1 p1 => ?_⟩
    refine seq_of ?_
    refine ⟨_, rfl, p, c, 0, rfl, p1, by decide, fun H2 l1 ys1 R1 nl1 s2 e1 r1 o1 q1 z1 p2 => ?_⟩
    refine ⟨_, rfl, p, c, 30, rfl, p2, by decide, fun H3 l2 ys2 R2 nl2 s3 e2 r2 o2 q2 z2 p3 => ?_⟩
    refine ⟨_, _, rfl, ?_⟩
    dsimp only
    have o1 : KM.OkR R1 := o1
    have o2 : KM.OkR R2 := o2
    have e1 := p2.stay s3 e1 (fun _ z => by cases z)
    have r1 := (r1.less p2).same s3
    refine seq_of ?_
    refine ⟨_, rfl, _, rfl, p, c, l1, 60, ys1, R1, rfl, p3, by decide, e1, r1, o1, q1, z1, fun H4 s4 p4 => ⟨true, rfl, iteF ?_⟩⟩
    have e2 := p3.stay s4 e2 (fun _ z => by cases z)
    have r2 := (r2.less p3).same s4
    have e1 := p3.stay s4 e1 (fun _ z => by cases z)
    have r1 := (r1.less p3).same s4
    refine ⟨_, rfl, _, rfl, p, c, l2, 90, ys2, R2, rfl, p4, by decide, e2, r2, o2, q2, z2, fun H5 s5 p5 => ⟨true, rfl, iteF ?_⟩⟩
    have e2 := p4.stay s5 e2 (fun _ z => by cases z)
    have r2 := (r2.less p4).same s5
    have e1 := p4.stay s5 e1 (fun _ z => by cases z)
    have r1 := (r1.less p4).same s5
    refine next_of ?_
    dsimp only
    -- the two sets
    refine seq_of ?_
    refine ⟨_, rfl, l1, ys1, R1, rfl, sq_l e1, r1.toIn, o1, q1, by omega, fun H6 a1 T1 s6 n1 t1 c1 w1 => ?_⟩
    have e1 := s6 _ _ e1
    have r1 := r1.same s6
    have e2 := s6 _ _ e2
    have r2 := r2.same s6
    have p6 := p5.same s6
    refine ⟨_, rfl, l2, ys2, R2, rfl, sq_l e2, r2.toIn, o2, q2, by omega, fun H7 a2 T2 s7 n2 t2 c2 w2 => ?_⟩
    have e1 := s7 _ _ e1
    have r1 := r1.same s7
    have e2 := s7 _ _ e2
    have r2 := r2.same s7
    have p7 := p6.same s7
    have t1 := t1.same s7
    refine ⟨_, _, rfl, ?_⟩
    dsimp only
    -- the rule doubled
    refine seq_asg ?_
    refine ⟨_, rfl, _, rfl, p, c, l1, 120, ys1, R1, rfl, p7, by decide, e1, r1, o1, q1, z1, fun H8 l3 ys3 R3 nl3 s8 e3 r3 db p8 => ?_⟩
    have e1 := p7.stay s8 e1 (fun _ z => by cases z)
    have r1 := (r1.less p7).same s8
    have e2 := p7.stay s8 e2 (fun _ z => by cases z)
    have r2 := (r2.less p7).same s8
    have t1 := (t1.less p7).same s8
    have t2 := (t2.less p7).same s8
    have l3 := db.1
    refine ⟨_, ys3, R3, rfl, sq_l e3, r3.toIn, KM.doubled_ok o1 db q1, by omega, by omega, fun H9 a3 T3 s9 n3 t3 c3 w3 => ?_⟩
    have e1 := s9 _ _ e1
    have r1 := r1.same s9
    have e2 := s9 _ _ e2
    have r2 := r2.same s9
    have t1 := t1.same s9
    have t2 := t2.same s9
    rw [told_doubled db q1] at c3
    have e13 : T1 = T3 := KM.canon_same c1 c3 fun _ => rfl
    refine seq_of ?_
    obtain ⟨dx3, tt3, ts3, i3, it3, ir3⟩ := id t3
    refine ⟨_, rfl, _, rfl, a3, C, dx3, _, _, rfl, i3, cl.cl, cl.na, rfl, l1, tt3, ys1, ts3, R1, T3, rfl, e1, r1, o1, q1, by omega, it3, ir3, c3, w3, fun H10 s10 => ⟨true, rfl, iteF ?_⟩⟩
    have e1 := s10 _ _ e1
    have r1 := r1.same s10
    have e2 := s10 _ _ e2
    have r2 := r2.same s10
    have t1 := t1.same s10
    have t2 := t2.same s10
    have t3 := t3.same s10
    refine next_of ?_
    dsimp only
    -- the same set
    refine seq_of ?_
    obtain ⟨dx1, tt1, ts1, i1, it1, ir1⟩ := id t1
    refine ⟨_, rfl, _, rfl, a1, dx1, _, _, rfl, i1, t3.ty cl, nc, a1, T1, _, rfl, t1, .inl ⟨a3, T3, rfl, t3, fun H11 s11 => ?_⟩⟩
    have e1 := s11 _ _ e1
    have r1 := r1.same s11
    have e2 := s11 _ _ e2
    have r2 := r2.same s11
    have t1 := t1.same s11
    have t2 := t2.same s11
    have t3 := t3.same s11
    rw [decide_eq_true e13]
    refine ⟨true, true, rfl, true, rfl, iteF ?_⟩
    refine ⟨_, rfl, _, rfl, a1, dx1, _, _, rfl, s11 _ _ i1, t3.ty cl, nc, a1, T1, _, rfl, t1, .inl ⟨a3, T3, rfl, t3, fun H12 s12 => ⟨_, rfl, _, rfl, ?_⟩⟩⟩
    have e1 := s12 _ _ e1
    have r1 := r1.same s12
    have e2 := s12 _ _ e2
    have r2 := r2.same s12
    have t1 := t1.same s12
    have t2 := t2.same s12
    rw [decide_eq_true e13]
    refine iteF ?_
    refine next_of ?_
    dsimp only
    -- are the two sets the same
    refine seq_asg ?_
    refine ⟨_, rfl, _, rfl, show 2 ≤ sizeLine by decide, fun u nu => ?_⟩
    have s13 := same_fresh (o := .tup [.int 0, .int 1]) nu
    have eu : upd H12 u (.tup [.int 0, .int 1]) u = some (.tup [.int 0, .int 1]) := upd_same
    generalize upd H12 u (.tup [.int 0, .int 1]) = H13 at s13 eu ⊢
    refine ⟨show 2 ≤ sizeLine by decide, fun v nv => ?_⟩
    have s14 := same_fresh (o := .tup [.int 1, .int 0]) nv
    have ev : upd H13 v (.tup [.int 1, .int 0]) v = some (.tup [.int 1, .int 0]) := upd_same
    generalize upd H13 v (.tup [.int 1, .int 0]) = H14 at s14 ev ⊢
    refine ⟨show 2 ≤ sizeLine by decide, fun tw ntw => ?_⟩
    have s15 := same_fresh (o := .tup [.ref u, .ref v]) ntw
    have etw : upd H14 tw (.tup [.ref u, .ref v]) tw = some (.tup [.ref u, .ref v]) := upd_same
    generalize upd H14 tw (.tup [.ref u, .ref v]) = H15 at s15 etw ⊢
    have s1215 := s13.trans (s14.trans s15)
    have e1 := s1215 _ _ e1
    have r1 := r1.same s1215
    have e2 := s1215 _ _ e2
    have r2 := r2.same s1215
    have t1 := t1.same s1215
    have t2 := t2.same s1215
    have lb : (KM.both R1 R2).length = R1.length * R2.length := KM.both_len R1 R2
    have lb1 : R1.length * R2.length ≤ 6 * 6 := Nat.mul_le_mul z1 z2
    have lb2 : 0 < R1.length * R2.length := Nat.mul_pos q1 q2
    refine ⟨l1, l2, tw, u, v, ys1, ys2, R1, R2, rfl, e1, r1, o1, e2, r2, o2, z1, z2, etw, (s14.trans s15) _ _ eu, s15 _ _ ev, fun H16 lx ysx nlx s16 ex rx => ?_⟩
    have e1 := s16 _ _ e1
    have r1 := r1.same s16
    have t1 := t1.same s16
    have t2 := t2.same s16
    refine ⟨lx, ysx, _, rfl, ex, rx, KM.both_ok o1 o2, by omega, by omega, fun H17 bb s17 hbb => ?_⟩
    have e1 := s17 _ _ e1
    have t1 := t1.same s17
    have t2 := t2.same s17
    have eqs : bb = decide (T1 = T2) := by
      have := hbb.trans (both_iff o1 o2 q1 q2 c1 c2)
      rw [Bool.eq_iff_iff, decide_eq_true_eq]
      exact this
    refine seq_of ?_
    obtain ⟨dx1', tt1', ts1', i1', it1', ir1'⟩ := id t1
    refine ⟨_, rfl, _, rfl, a1, dx1', _, _, rfl, i1', t2.ty cl, nc, a1, T1, _, rfl, t1, .inl ⟨a2, T2, rfl, t2, fun H18 s18 => ?_⟩⟩
    have e1 := s18 _ _ e1
    have t1 := t1.same s18
    have t2 := t2.same s18
    refine ⟨_, rfl, decide (T1 = T2), bb, rfl, true, ?_, iteF ?_⟩
    · rw [eqs, decide_eq_true rfl]
    obtain ⟨dx4, tt4, ts4, i4, it4, ir4⟩ := id t1
    refine ⟨_, rfl, _, rfl, a1, dx4, _, _, rfl, i4, t2.ty cl, nc, a1, T1, _, rfl, t1, .inl ⟨a2, T2, rfl, t2, fun H19 s19 => ⟨_, rfl, ?_⟩⟩⟩
    have e1 := s19 _ _ e1
    have t1 := t1.same s19
    refine ⟨_, rfl, bb, rfl, !decide (T1 = T2), !bb, rfl, true, ?_, iteF ?_⟩
    · rw [eqs, decide_eq_true rfl]
    refine next_of ?_
    dsimp only
    -- a set is no tuple, nothing
    refine seq_of ?_
    obtain ⟨dx5, tt5, ts5, i5, it5, ir5⟩ := id t1
    refine ⟨_, rfl, _, rfl, a1, C, dx5, _, _, rfl, i5, cl.cl, cl.na, rfl, a1, dx5, _, _, rfl, i5, tyx_t (.inl (.inl it5)), nt, a1, T1, _, rfl, t1, .inr ⟨_, tyx_t (.inl (.inl it5)), cl.kt, fun H20 s20 => ⟨false, rfl, iteF ?_⟩⟩⟩
    have e1 := s20 _ _ e1
    have t1 := t1.same s20
    obtain ⟨dx6, tt6, ts6, i6, it6, ir6⟩ := id t1
    refine ⟨_, rfl, a1, dx6, _, _, rfl, i6, .base .non, nn, a1, T1, _, rfl, t1, .inr ⟨_, .base .non, cl.kn, fun H21 s21 => ⟨false, rfl, iteF ?_⟩⟩⟩
    have e1 := s21 _ _ e1
    have t1 := t1.same s21
    refine next_of ?_
    dsimp only
    obtain ⟨dx7, tt7, ts7, i7, it7, ir7⟩ := id t1
    refine ⟨_, rfl, _, rfl, a1, dx7, _, _, rfl, i7, tyx_l (SqL.of e1), nl, a1, T1, _, rfl, t1, .inr ⟨_, tyx_l (SqL.of e1), cl.kl, fun H22 s22 => ⟨_, rfl, ?_⟩⟩⟩
    exact ⟨true, true, rfl, q H22⟩
end
end K35
namespace K35
open PySem PySem.Spec PyProof.Rows L2 KR
/-! ## What the top has written, the head -/
theorem kit_me {K : PySem.W.Frag} {C : Addr} : PySem.W.kitOne K (.ref C) (.ref C) = some true := by
  unfold PySem.W.kitOne
  rw [if_pos (beq_self_eq_true _)]
theorem kit_own {K : PySem.W.Frag} {C : Addr} {cd : ClassData} {T : String} {b : Bool} (h1 : PySem.W.clsIn K C = some cd) (h2 : PySem.W.typeIn K (.ref C) = some (.type "type")) (h3 : PySem.W.subIn K (.type T) (.ref C) = some b) : PySem.W.kitOne K (.type T) (.ref C) = some b := by
  unfold PySem.W.kitOne
  rw [if_neg (fun z => by cases (beq_iff_eq.mp z))]
  unfold PySem.W.kitCls
  simp only [h1, h2]
  exact h3
theorem all_mk {l : PySem.W.OpenLaw} {w : World} {K : PySem.W.Frag} {h : Heap} {mg : PySem.Str → Option Value} {fa C f1 f2 f3 f4 f5 f6 f7 f8 f9 f10 f11 f12 f13 f14 f15 f16 f17 f18 f19 f20 f21 f22 f23 f24 f25 f26 fm1 fm2 fm3 : Addr} (X : K.In h) (G : h.Ns mainGlobals mg) (hfa : mg "law" = some (.ref fa))
    {od1 an1 od2 an2 od3 an3 od4 an4 od5 an5 od6 an6 od7 an7 od8 an8 od9 an9 od10 an10 od11 an11 od12 an12 od13 an13 od14 an14 od15 an15 od16 an16 od17 an17 od18 an18 od19 an19 od20 an20 od21 an21 od22 an22 od23 an23 od24 an24 od25 an25 od26 an26 odm1 anm1 odm2 anm2 odm3 anm3 : Option Addr} {sl1 sl2 sl3 sl4 sl5 sl6 sl7 sl8 sl9 sl10 sl11 sl12 sl13 sl14 sl15 sl16 sl17 sl18 sl19 sl20 sl21 sl22 sl23 sl24 sl25 sl26 slm1 slm2 slm3 : Array (Option Value)} {oc1 kV1 dc1 pm1 cd1 ct1 oc2 kV2 dc2 pm2 cd2 ct2 oc3 kV3 dc3 pm3 cd3 ct3 oc4 kV4 dc4 pm4 cd4 ct4 oc5 kV5 dc5 pm5 cd5 ct5 oc6 kV6 dc6 pm6 cd6 ct6 oc7 kV7 dc7 pm7 cd7 ct7 oc8 kV8 dc8 pm8 cd8 ct8 oc9 kV9 dc9 pm9 cd9 ct9 oc10 kV10 dc10 pm10 cd10 ct10 oc11 kV11 dc11 pm11 cd11 ct11 oc12 kV12 dc12 pm12 cd12 ct12 oc13 kV13 dc13 pm13 cd13 ct13 oc14 kV14 dc14 pm14 cd14 ct14 oc15 kV15 dc15 pm15 cd15 ct15 oc16 kV16 dc16 pm16 cd16 ct16 oc17 kV17 dc17 pm17 cd17 ct17 oc18 kV18 dc18 pm18 cd18 ct18 oc19 kV19 dc19 pm19 cd19 ct19 oc20 kV20 dc20 pm20 cd20 ct20 oc21 kV21 dc21 pm21 cd21 ct21 oc22 kV22 dc22 pm22 cd22 ct22 oc23 kV23 dc23 pm23 cd23 ct23 oc24 kV24 dc24 pm24 cd24 ct24 oc25 kV25 dc25 pm25 cd25 ct25 oc26 kV26 dc26 pm26 cd26 ct26 ocm1 kVm1 dcm1 pmm1 cdm1 ctm1 ocm2 kVm2 dcm2 pmm2 cdm2 ctm2 ocm3 kVm3 dcm3 pmm3 cdm3 ctm3 : Value} {tk1 tk2 : Tok} {cdC : ClassData}
    (aC : PySem.W.nsIn K mainGlobals "Sizes" = some (some (.ref C)))
    (a1 : PySem.W.nsIn K mainGlobals "digits_of" = some (some (.ref f1)))
    (l1 : K.lookup f1 = some ⟨oc1, od1, .func (PySem.W.fnOf "digits_of" "digits_of" (defArgs sDigits) (defBody sDigits) (defScope sDigits) .none kV1 dc1 pm1 an1 cd1 ct1), sl1⟩)
    (c1 : PySem.W.codeIn K cd1 "digits_of" = true)
    (k1 : PySem.W.keepIn K (.ref f1) = true)
    (a2 : PySem.W.nsIn K mainGlobals "order_of" = some (some (.ref f2)))
    (l2 : K.lookup f2 = some ⟨oc2, od2, .func (PySem.W.fnOf "order_of" "order_of" (defArgs sOrder) (defBody sOrder) (defScope sOrder) .none kV2 dc2 pm2 an2 cd2 ct2), sl2⟩)
    (c2 : PySem.W.codeIn K cd2 "order_of" = true)
    (k2 : PySem.W.keepIn K (.ref f2) = true)
    (a3 : PySem.W.nsIn K mainGlobals "sources_of" = some (some (.ref f3)))
    (l3 : K.lookup f3 = some ⟨oc3, od3, .func (PySem.W.fnOf "sources_of" "sources_of" (defArgs sSources) (defBody sSources) (defScope sSources) .none kV3 dc3 pm3 an3 cd3 ct3), sl3⟩)
    (c3 : PySem.W.codeIn K cd3 "sources_of" = true)
    (k3 : PySem.W.keepIn K (.ref f3) = true)
    (a4 : PySem.W.nsIn K mainGlobals "blocks_of" = some (some (.ref f4)))
    (l4 : K.lookup f4 = some ⟨oc4, od4, .func (PySem.W.fnOf "blocks_of" "blocks_of" (defArgs sBlocks) (defBody sBlocks) (defScope sBlocks) .none kV4 dc4 pm4 an4 cd4 ct4), sl4⟩)
    (c4 : PySem.W.codeIn K cd4 "blocks_of" = true)
    (k4 : PySem.W.keepIn K (.ref f4) = true)
    (a5 : PySem.W.nsIn K mainGlobals "least_rows" = some (some (.ref f5)))
    (l5 : K.lookup f5 = some ⟨oc5, od5, .func (PySem.W.fnOf "least_rows" "least_rows" (defArgs sLeast) (defBody sLeast) (defScope sLeast) .none kV5 dc5 pm5 an5 cd5 ct5), sl5⟩)
    (c5 : PySem.W.codeIn K cd5 "least_rows" = true)
    (k5 : PySem.W.keepIn K (.ref f5) = true)
    (a6 : PySem.W.nsIn K mainGlobals "told_rows" = some (some (.ref f6)))
    (l6 : K.lookup f6 = some ⟨oc6, od6, .func (PySem.W.fnOf "told_rows" "told_rows" (defArgs sTold) (defBody sTold) (defScope sTold) .none kV6 dc6 pm6 an6 cd6 ct6), sl6⟩)
    (c6 : PySem.W.codeIn K cd6 "told_rows" = true)
    (k6 : PySem.W.keepIn K (.ref f6) = true)
    (a7 : PySem.W.nsIn K mainGlobals "is_integer" = some (some (.ref f7)))
    (l7 : K.lookup f7 = some ⟨oc7, od7, .func (PySem.W.fnOf "is_integer" "is_integer" (defArgs sIsInt) (defBody sIsInt) (defScope sIsInt) .none kV7 dc7 pm7 an7 cd7 ct7), sl7⟩)
    (c7 : PySem.W.codeIn K cd7 "is_integer" = true)
    (k7 : PySem.W.keepIn K (.ref f7) = true)
    (a8 : PySem.W.nsIn K mainGlobals "is_told_row" = some (some (.ref f8)))
    (l8 : K.lookup f8 = some ⟨oc8, od8, .func (PySem.W.fnOf "is_told_row" "is_told_row" (defArgs sTR) (defBody sTR) (defScope sTR) .none kV8 dc8 pm8 an8 cd8 ct8), sl8⟩)
    (c8 : PySem.W.codeIn K cd8 "is_told_row" = true)
    (k8 : PySem.W.keepIn K (.ref f8) = true)
    (a9 : PySem.W.nsIn K mainGlobals "sizes_of_rows" = some (some (.ref f9)))
    (l9 : K.lookup f9 = some ⟨oc9, od9, .func (PySem.W.fnOf "sizes_of_rows" "sizes_of_rows" (defArgs sSor) (defBody sSor) (defScope sSor) .none kV9 dc9 pm9 an9 cd9 ct9), sl9⟩)
    (c9 : PySem.W.codeIn K cd9 "sizes_of_rows" = true)
    (k9 : PySem.W.keepIn K (.ref f9) = true)
    (a10 : PySem.W.nsIn K mainGlobals "_law_rule" = some (some (.ref f10)))
    (l10 : K.lookup f10 = some ⟨oc10, od10, .func (PySem.W.fnOf "_law_rule" "_law_rule" (defArgs sRule) (defBody sRule) (defScope sRule) .none kV10 dc10 pm10 an10 cd10 ct10), sl10⟩)
    (c10 : PySem.W.codeIn K cd10 "_law_rule" = true)
    (k10 : PySem.W.keepIn K (.ref f10) = true)
    (a11 : PySem.W.nsIn K mainGlobals "_law_doubled" = some (some (.ref f11)))
    (l11 : K.lookup f11 = some ⟨oc11, od11, .func (PySem.W.fnOf "_law_doubled" "_law_doubled" (defArgs sDbl) (defBody sDbl) (defScope sDbl) .none kV11 dc11 pm11 an11 cd11 ct11), sl11⟩)
    (c11 : PySem.W.codeIn K cd11 "_law_doubled" = true)
    (k11 : PySem.W.keepIn K (.ref f11) = true)
    (a12 : PySem.W.nsIn K mainGlobals "_law_led" = some (some (.ref f12)))
    (l12 : K.lookup f12 = some ⟨oc12, od12, .func (PySem.W.fnOf "_law_led" "_law_led" (defArgs sLed) (defBody sLed) (defScope sLed) .none kV12 dc12 pm12 an12 cd12 ct12), sl12⟩)
    (c12 : PySem.W.codeIn K cd12 "_law_led" = true)
    (k12 : PySem.W.keepIn K (.ref f12) = true)
    (a13 : PySem.W.nsIn K mainGlobals "_law_members" = some (some (.ref f13)))
    (l13 : K.lookup f13 = some ⟨oc13, od13, .func (PySem.W.fnOf "_law_members" "_law_members" (defArgs sMem) (defBody sMem) (defScope sMem) .none kV13 dc13 pm13 an13 cd13 ct13), sl13⟩)
    (c13 : PySem.W.codeIn K cd13 "_law_members" = true)
    (k13 : PySem.W.keepIn K (.ref f13) = true)
    (a14 : PySem.W.nsIn K mainGlobals "_law_numbered" = some (some (.ref f14)))
    (l14 : K.lookup f14 = some ⟨oc14, od14, .func (PySem.W.fnOf "_law_numbered" "_law_numbered" (defArgs sNum) (defBody sNum) (defScope sNum) .none kV14 dc14 pm14 an14 cd14 ct14), sl14⟩)
    (c14 : PySem.W.codeIn K cd14 "_law_numbered" = true)
    (k14 : PySem.W.keepIn K (.ref f14) = true)
    (a15 : PySem.W.nsIn K mainGlobals "_law_all_unlike" = some (some (.ref f15)))
    (l15 : K.lookup f15 = some ⟨oc15, od15, .func (PySem.W.fnOf "_law_all_unlike" "_law_all_unlike" (defArgs sUnl) (defBody sUnl) (defScope sUnl) .none kV15 dc15 pm15 an15 cd15 ct15), sl15⟩)
    (c15 : PySem.W.codeIn K cd15 "_law_all_unlike" = true)
    (k15 : PySem.W.keepIn K (.ref f15) = true)
    (a16 : PySem.W.nsIn K mainGlobals "_law_exact" = some (some (.ref f16)))
    (l16 : K.lookup f16 = some ⟨oc16, od16, .func (PySem.W.fnOf "_law_exact" "_law_exact" (defArgs sExa) (defBody sExa) (defScope sExa) .none kV16 dc16 pm16 an16 cd16 ct16), sl16⟩)
    (c16 : PySem.W.codeIn K cd16 "_law_exact" = true)
    (k16 : PySem.W.keepIn K (.ref f16) = true)
    (a17 : PySem.W.nsIn K mainGlobals "_law_both_rules" = some (some (.ref f17)))
    (l17 : K.lookup f17 = some ⟨oc17, od17, .func (PySem.W.fnOf "_law_both_rules" "_law_both_rules" (defArgs sBoth) (defBody sBoth) (defScope sBoth) .none kV17 dc17 pm17 an17 cd17 ct17), sl17⟩)
    (c17 : PySem.W.codeIn K cd17 "_law_both_rules" = true)
    (k17 : PySem.W.keepIn K (.ref f17) = true)
    (a18 : PySem.W.nsIn K mainGlobals "_law_is_empty" = some (some (.ref f18)))
    (l18 : K.lookup f18 = some ⟨oc18, od18, .func (PySem.W.fnOf "_law_is_empty" "_law_is_empty" (defArgs sEmp) (defBody sEmp) (defScope sEmp) .none kV18 dc18 pm18 an18 cd18 ct18), sl18⟩)
    (c18 : PySem.W.codeIn K cd18 "_law_is_empty" = true)
    (k18 : PySem.W.keepIn K (.ref f18) = true)
    (a19 : PySem.W.nsIn K mainGlobals "_law_given" = some (some (.ref f19)))
    (l19 : K.lookup f19 = some ⟨oc19, od19, .func (PySem.W.fnOf "_law_given" "_law_given" (defArgs sGiv) (defBody sGiv) (defScope sGiv) .none kV19 dc19 pm19 an19 cd19 ct19), sl19⟩)
    (c19 : PySem.W.codeIn K cd19 "_law_given" = true)
    (k19 : PySem.W.keepIn K (.ref f19) = true)
    (a20 : PySem.W.nsIn K mainGlobals "_law_is_truth" = some (some (.ref f20)))
    (l20 : K.lookup f20 = some ⟨oc20, od20, .func (PySem.W.fnOf "_law_is_truth" "_law_is_truth" (defArgs sTru) (defBody sTru) (defScope sTru) .none kV20 dc20 pm20 an20 cd20 ct20), sl20⟩)
    (c20 : PySem.W.codeIn K cd20 "_law_is_truth" = true)
    (k20 : PySem.W.keepIn K (.ref f20) = true)
    (a21 : PySem.W.nsIn K mainGlobals "_law_pen" = some (some (.ref f21)))
    (l21 : K.lookup f21 = some ⟨oc21, od21, .func (PySem.W.fnOf "_law_pen" "_law_pen" (defArgs sPen) (defBody sPen) (defScope sPen) .none kV21 dc21 pm21 an21 cd21 ct21), sl21⟩)
    (c21 : PySem.W.codeIn K cd21 "_law_pen" = true)
    (k21 : PySem.W.keepIn K (.ref f21) = true)
    (a22 : PySem.W.nsIn K mainGlobals "_law_draw" = some (some (.ref f22)))
    (l22 : K.lookup f22 = some ⟨oc22, od22, .func (PySem.W.fnOf "_law_draw" "_law_draw" (defArgs sDraw) (defBody sDraw) (defScope sDraw) .none kV22 dc22 pm22 an22 cd22 ct22), sl22⟩)
    (c22 : PySem.W.codeIn K cd22 "_law_draw" = true)
    (k22 : PySem.W.keepIn K (.ref f22) = true)
    (a23 : PySem.W.nsIn K mainGlobals "_law_big" = some (some (.ref f23)))
    (l23 : K.lookup f23 = some ⟨oc23, od23, .func (PySem.W.fnOf "_law_big" "_law_big" (defArgs sBig) (defBody sBig) (defScope sBig) .none kV23 dc23 pm23 an23 cd23 ct23), sl23⟩)
    (c23 : PySem.W.codeIn K cd23 "_law_big" = true)
    (k23 : PySem.W.keepIn K (.ref f23) = true)
    (a24 : PySem.W.nsIn K mainGlobals "_law_size" = some (some (.ref f24)))
    (l24 : K.lookup f24 = some ⟨oc24, od24, .func (PySem.W.fnOf "_law_size" "_law_size" (defArgs sSize) (defBody sSize) (defScope sSize) .none kV24 dc24 pm24 an24 cd24 ct24), sl24⟩)
    (c24 : PySem.W.codeIn K cd24 "_law_size" = true)
    (k24 : PySem.W.keepIn K (.ref f24) = true)
    (a25 : PySem.W.nsIn K mainGlobals "_law_set_right" = some (some (.ref f25)))
    (l25 : K.lookup f25 = some ⟨oc25, od25, .func (PySem.W.fnOf "_law_set_right" "_law_set_right" (defArgs sRig) (defBody sRig) (defScope sRig) .none kV25 dc25 pm25 an25 cd25 ct25), sl25⟩)
    (c25 : PySem.W.codeIn K cd25 "_law_set_right" = true)
    (k25 : PySem.W.keepIn K (.ref f25) = true)
    (a26 : PySem.W.nsIn K mainGlobals "law" = some (some (.ref f26)))
    (l26 : K.lookup f26 = some ⟨oc26, od26, .func (PySem.W.fnOf "law" "law" (defArgs sLaw) (defBody sLaw) (defScope sLaw) .none kV26 dc26 pm26 an26 cd26 ct26), sl26⟩)
    (c26 : PySem.W.codeIn K cd26 "law" = true)
    (k26 : PySem.W.keepIn K (.ref f26) = true)
    (am1 : PySem.W.findIn K (.ref C) "__init__" = some (some (.ref fm1)))
    (im1 : PySem.W.isFn K (.ref fm1) = true)
    (lm1 : K.lookup fm1 = some ⟨ocm1, odm1, .func (PySem.W.fnOf "__init__" "Sizes.__init__" (defArgs sInit) (defBody sInit) (defScope sInit) .none kVm1 dcm1 pmm1 anm1 cdm1 ctm1), slm1⟩)
    (cm1 : PySem.W.codeIn K cdm1 "Sizes.__init__" = true)
    (km1 : PySem.W.keepIn K (.ref fm1) = true)
    (am2 : PySem.W.findIn K (.ref C) "__contains__" = some (some (.ref fm2)))
    (im2 : PySem.W.isFn K (.ref fm2) = true)
    (lm2 : K.lookup fm2 = some ⟨ocm2, odm2, .func (PySem.W.fnOf "__contains__" "Sizes.__contains__" (defArgs sIn) (defBody sIn) (defScope sIn) .none kVm2 dcm2 pmm2 anm2 cdm2 ctm2), slm2⟩)
    (cm2 : PySem.W.codeIn K cdm2 "Sizes.__contains__" = true)
    (km2 : PySem.W.keepIn K (.ref fm2) = true)
    (am3 : PySem.W.findIn K (.ref C) "__eq__" = some (some (.ref fm3)))
    (im3 : PySem.W.isFn K (.ref fm3) = true)
    (lm3 : K.lookup fm3 = some ⟨ocm3, odm3, .func (PySem.W.fnOf "__eq__" "Sizes.__eq__" (defArgs sEq) (defBody sEq) (defScope sEq) .none kVm3 dcm3 pmm3 anm3 cdm3 ctm3), slm3⟩)
    (cm3 : PySem.W.codeIn K cdm3 "Sizes.__eq__" = true)
    (km3 : PySem.W.keepIn K (.ref fm3) = true)
    (pg : PySem.W.plainGet K C Str.empty = true)
    (hd : PySem.W.hasDictIn K C = true)
    (po : PySem.W.plainOver K C = true)
    (sa : PySem.W.findIn K (.ref C) "__setattr__" = some (some (.builtin "object.__setattr__")))
    (mk : PySem.W.makesIn K C = true)
    (kc : PySem.W.keepIn K (.ref C) = true)
    (nd : PySem.W.findIn K (.ref C) "digit_rows" = some none)
    (ha : PySem.W.findIn K (.ref C) "__class__" = some (some (.builtin "object.__class__")))
    (hg : PySem.W.specialIn K (.builtin "object.__class__") "__get__" = some (some (.builtin "getset_descriptor.__get__")))
    (ht : PySem.W.takesIn K (.builtin "object.__class__") = some true)
    (ho : PySem.W.mroIn K C (.type "object") = some true)
    (ne : PySem.W.findIn K (.ref C) "__ne__" = some (some (.builtin "object.__ne__")))
    (cC : PySem.W.clsIn K C = some cdC)
    (tC : PySem.W.typeIn K (.ref C) = some (.type "type"))
    (st : PySem.W.subIn K (.type "tuple") (.ref C) = some false)
    (sn : PySem.W.subIn K (.type "NoneType") (.ref C) = some false)
    (sl : PySem.W.subIn K (.type "list") (.ref C) = some false)
    (nc : PySem.W.notFirst K C (.ref C) = true)
    (nt : PySem.W.notFirst K C (.type "tuple") = true)
    (nn : PySem.W.notFirst K C (.type "NoneType") = true)
    (nl : PySem.W.notFirst K C (.type "list") = true)
    (mr : PySem.W.nsIn K mainGlobals "MOST_ROWS" = some (some (.int 400 tk1)))
    (mt : PySem.W.nsIn K mainGlobals "MOST_TOLD" = some (some (.int 64 tk2)))
    (z_len : PySem.W.nsIn K mainGlobals "len" = some none)
    (z_enumerate : PySem.W.nsIn K mainGlobals "enumerate" = some none)
    (z_sorted : PySem.W.nsIn K mainGlobals "sorted" = some none)
    (z_tuple : PySem.W.nsIn K mainGlobals "tuple" = some none)
    (z_isinstance : PySem.W.nsIn K mainGlobals "isinstance" = some none)
    (z_int : PySem.W.nsIn K mainGlobals "int" = some none)
    (z_bool : PySem.W.nsIn K mainGlobals "bool" = some none)
    (z_list : PySem.W.nsIn K mainGlobals "list" = some none)
    (z_all : PySem.W.nsIn K mainGlobals "all" = some none)
    (z_range : PySem.W.nsIn K mainGlobals "range" = some none)
    (z_min : PySem.W.nsIn K mainGlobals "min" = some none)
    (z_max : PySem.W.nsIn K mainGlobals "max" = some none)
    (z_str : PySem.W.nsIn K mainGlobals "str" = some none)
    : ∃ fd : FuncData, (∀ (s : Shared) (v : Value), BindsTo s fd ⟨[v], []⟩ [("_law_script", v)]) ∧ ∀ base : Heap, K.In base → base.Ns mainGlobals mg → FnOk l.prog w K mg base CX0 7 fa fd ["_law_script"] (spLaw K) := by
  have e := hfa.symm.trans (PySem.W.mg_of X G a26)
  cases e
  have F1 := fun_mk (st := sDigits) l1 c1 k1
  have b1 := F1.binds (ps := ["number"]) fun _ _ _ _ _ _ us hl => match us, hl with | [_], _ => rfl
  have F2 := fun_mk (st := sOrder) l2 c2 k2
  have b2 := F2.binds (ps := ["rows", "start"]) fun _ _ _ _ _ _ us hl => match us, hl with | [_, _], _ => rfl
  have F3 := fun_mk (st := sSources) l3 c3 k3
  have b3 := F3.binds (ps := ["rows"]) fun _ _ _ _ _ _ us hl => match us, hl with | [_], _ => rfl
  have F4 := fun_mk (st := sBlocks) l4 c4 k4
  have b4 := F4.binds (ps := ["rows"]) fun _ _ _ _ _ _ us hl => match us, hl with | [_], _ => rfl
  have F5 := fun_mk (st := sLeast) l5 c5 k5
  have b5 := F5.binds (ps := ["rows", "start"]) fun _ _ _ _ _ _ us hl => match us, hl with | [_, _], _ => rfl
  have F6 := fun_mk (st := sTold) l6 c6 k6
  have b6 := F6.binds (ps := ["rows", "start"]) fun _ _ _ _ _ _ us hl => match us, hl with | [_, _], _ => rfl
  have F7 := fun_mk (st := sIsInt) l7 c7 k7
  have b7 := F7.binds (ps := ["number"]) fun _ _ _ _ _ _ us hl => match us, hl with | [_], _ => rfl
  have F8 := fun_mk (st := sTR) l8 c8 k8
  have b8 := F8.binds (ps := ["row", "many"]) fun _ _ _ _ _ _ us hl => match us, hl with | [_, _], _ => rfl
  have F9 := fun_mk (st := sSor) l9 c9 k9
  have b9 := F9.binds (ps := ["rows"]) fun _ _ _ _ _ _ us hl => match us, hl with | [_], _ => rfl
  have F10 := fun_mk (st := sRule) l10 c10 k10
  have b10 := F10.binds (ps := ["_law_pen_here", "_law_most"]) fun _ _ _ _ _ _ us hl => match us, hl with | [_, _], _ => rfl
  have F11 := fun_mk (st := sDbl) l11 c11 k11
  have b11 := F11.binds (ps := ["_law_pen_here", "_law_rows"]) fun _ _ _ _ _ _ us hl => match us, hl with | [_, _], _ => rfl
  have F12 := fun_mk (st := sLed) l12 c12 k12
  have b12 := F12.binds (ps := ["_law_rows", "_law_start", "_law_number"]) fun _ _ _ _ _ _ us hl => match us, hl with | [_, _, _], _ => rfl
  have F13 := fun_mk (st := sMem) l13 c13 k13
  have b13 := F13.binds (ps := ["_law_rows", "_law_start", "_law_number"]) fun _ _ _ _ _ _ us hl => match us, hl with | [_, _, _], _ => rfl
  have F14 := fun_mk (st := sNum) l14 c14 k14
  have b14 := F14.binds (ps := ["_law_told"]) fun _ _ _ _ _ _ us hl => match us, hl with | [_], _ => rfl
  have F15 := fun_mk (st := sUnl) l15 c15 k15
  have b15 := F15.binds (ps := ["_law_told"]) fun _ _ _ _ _ _ us hl => match us, hl with | [_], _ => rfl
  have F16 := fun_mk (st := sExa) l16 c16 k16
  have b16 := F16.binds (ps := ["_law_rows", "_law_start", "_law_told"]) fun _ _ _ _ _ _ us hl => match us, hl with | [_, _, _], _ => rfl
  have F17 := fun_mk (st := sBoth) l17 c17 k17
  have b17 := F17.binds (ps := ["_law_one", "_law_other", "_law_wanted"]) fun _ _ _ _ _ _ us hl => match us, hl with | [_, _, _], _ => rfl
  have F18 := fun_mk (st := sEmp) l18 c18 k18
  have b18 := F18.binds (ps := ["_law_rows"]) fun _ _ _ _ _ _ us hl => match us, hl with | [_], _ => rfl
  have F19 := fun_mk (st := sGiv) l19 c19 k19
  have b19 := F19.binds (ps := ["_law_pen_here", "_law_rows"]) fun _ _ _ _ _ _ us hl => match us, hl with | [_, _], _ => rfl
  have F20 := fun_mk (st := sTru) l20 c20 k20
  have b20 := F20.binds (ps := ["_law_value", "_law_due"]) fun _ _ _ _ _ _ us hl => match us, hl with | [_, _], _ => rfl
  have F21 := fun_mk (st := sPen) l21 c21 k21
  have b21 := F21.binds (ps := ["_law_script"]) fun _ _ _ _ _ _ us hl => match us, hl with | [_], _ => rfl
  have F22 := fun_mk (st := sDraw) l22 c22 k22
  have b22 := F22.binds (ps := ["_law_pen_here", "_law_many"]) fun _ _ _ _ _ _ us hl => match us, hl with | [_, _], _ => rfl
  have F23 := fun_mk (st := sBig) l23 c23 k23
  have b23 := F23.binds (ps := ["_law_pen_here", "_law_many"]) fun _ _ _ _ _ _ us hl => match us, hl with | [_, _], _ => rfl
  have F24 := fun_mk (st := sSize) l24 c24 k24
  have b24 := F24.binds (ps := ["_law_pen_here"]) fun _ _ _ _ _ _ us hl => match us, hl with | [_], _ => rfl
  have F25 := fun_mk (st := sRig) l25 c25 k25
  have b25 := F25.binds (ps := ["_law_pen_here", "_law_rows"]) fun _ _ _ _ _ _ us hl => match us, hl with | [_, _], _ => rfl
  have F26 := fun_mk (st := sLaw) l26 c26 k26
  have b26 := F26.binds (ps := ["_law_script"]) fun _ _ _ _ _ _ us hl => match us, hl with | [_], _ => rfl
  have Fm1 := fun_mk (st := sInit) lm1 cm1 km1
  have bm1 := Fm1.binds (ps := ["self", "digit_rows"]) fun _ _ _ _ _ _ us hl => match us, hl with | [_, _], _ => rfl
  have Fm2 := fun_mk (st := sIn) lm2 cm2 km2
  have bm2 := Fm2.binds (ps := ["self", "size"]) fun _ _ _ _ _ _ us hl => match us, hl with | [_, _], _ => rfl
  have Fm3 := fun_mk (st := sEq) lm3 cm3 km3
  have bm3 := Fm3.binds (ps := ["self", "other"]) fun _ _ _ _ _ _ us hl => match us, hl with | [_, _], _ => rfl
  have g1 := PySem.W.mg_of X G a1
  have g2 := PySem.W.mg_of X G a2
  have g3 := PySem.W.mg_of X G a3
  have g4 := PySem.W.mg_of X G a4
  have g5 := PySem.W.mg_of X G a5
  have g6 := PySem.W.mg_of X G a6
  have g7 := PySem.W.mg_of X G a7
  have g8 := PySem.W.mg_of X G a8
  have g9 := PySem.W.mg_of X G a9
  have g10 := PySem.W.mg_of X G a10
  have g11 := PySem.W.mg_of X G a11
  have g12 := PySem.W.mg_of X G a12
  have g13 := PySem.W.mg_of X G a13
  have g14 := PySem.W.mg_of X G a14
  have g15 := PySem.W.mg_of X G a15
  have g16 := PySem.W.mg_of X G a16
  have g17 := PySem.W.mg_of X G a17
  have g18 := PySem.W.mg_of X G a18
  have g19 := PySem.W.mg_of X G a19
  have g20 := PySem.W.mg_of X G a20
  have g21 := PySem.W.mg_of X G a21
  have g22 := PySem.W.mg_of X G a22
  have g23 := PySem.W.mg_of X G a23
  have g24 := PySem.W.mg_of X G a24
  have g25 := PySem.W.mg_of X G a25
  have g26 := PySem.W.mg_of X G a26
  have gC := PySem.W.mg_of X G aC
  have y_len := PySem.W.mg_none_of X G z_len
  have y_enumerate := PySem.W.mg_none_of X G z_enumerate
  have y_sorted := PySem.W.mg_none_of X G z_sorted
  have y_tuple := PySem.W.mg_none_of X G z_tuple
  have y_isinstance := PySem.W.mg_none_of X G z_isinstance
  have y_int := PySem.W.mg_none_of X G z_int
  have y_bool := PySem.W.mg_none_of X G z_bool
  have y_list := PySem.W.mg_none_of X G z_list
  have y_all := PySem.W.mg_none_of X G z_all
  have y_range := PySem.W.mg_none_of X G z_range
  have y_min := PySem.W.mg_none_of X G z_min
  have y_max := PySem.W.mg_none_of X G z_max
  have y_str := PySem.W.mg_none_of X G z_str
  have cl : SzC K C := ⟨⟨pg, hd, po, sa⟩, ha, hg, ht, ho, kit_me, nd, kit_own cC tC st, kit_own cC tC sn, kit_own cC tC sl⟩
  have gmr : ∃ t, mg "MOST_ROWS" = some (.int 400 t) := ⟨_, PySem.W.mg_of X G mr⟩
  have gmt : ∃ t, mg "MOST_TOLD" = some (.int 64 t) := ⟨_, PySem.W.mg_of X G mt⟩
  refine ⟨PySem.W.fnOf "law" "law" (defArgs sLaw) (defBody sLaw) (defScope sLaw) .none kV26 dc26 pm26 an26 cd26 ct26, fun s v => .of_eq rfl, fun base _ _ => ?_⟩
  have Gdig : ∀ k, FnOk l.prog w K mg base CX0 (k + 1) f1 _ ["number"] spDigits := fun k => ok_digits F1
  have Gord : ∀ k, FnOk l.prog w K mg base CX0 (k + 1) f2 _ ["rows", "start"] (spOrder K) := fun k => ok_order F2 y_len
  have Gsrc : ∀ k, FnOk l.prog w K mg base CX0 (k + 1) f3 _ ["rows"] (spSources K) := fun k => ok_sources F3 y_enumerate
  have Gblk : ∀ k, FnOk l.prog w K mg base CX0 (k + 2) f4 _ ["rows"] (spBlocks K) := fun k => ok_blocks F4 F3 b3 g3 (Gsrc k) y_enumerate y_sorted y_len
  have Glea : ∀ k, FnOk l.prog w K mg base CX0 (k + 3) f5 _ ["rows", "start"] (spLeast K) := fun k => ok_least F5 F2 b2 g2 (Gord (k + 1)) F4 b4 g4 (Gblk k) y_enumerate y_tuple
  have Gtol : ∀ k, FnOk l.prog w K mg base CX0 (k + 4) f6 _ ["rows", "start"] (spTold K) := fun k => ok_told F6 F5 b5 g5 (Glea k) y_len
  have Gint : ∀ k, FnOk l.prog w K mg base CX0 (k + 1) f7 _ ["number"] spIsInt := fun k => ok_isint F7 y_isinstance y_int y_bool
  have Gtr : ∀ k, FnOk l.prog w K mg base CX0 (k + 2) f8 _ ["row", "many"] (spTR K) := fun k => ok_toldrow F8 F7 b7 g7 (Gint k) y_isinstance y_len y_all y_list y_tuple
  have Gini : ∀ k, FnOk l.prog w K mg base CX0 (k + 1) fm1 _ ["self", "digit_rows"] (spInit C) := fun k => ok_init cl Fm1 y_len gmr
  have Gin : ∀ k, FnOk l.prog w K mg base CX0 (k + 2) fm2 _ ["self", "size"] (spIn K C) := fun k => ok_in cl Fm2 F1 b1 g1 (Gdig k)
  have Geq : ∀ k, FnOk l.prog w K mg base CX0 (k + 1) fm3 _ ["self", "other"] (spEq K C) := fun k => ok_eq cl Fm3 y_isinstance gC
  have Gsor : ∀ k, FnOk l.prog w K mg base CX0 (k + 5) f9 _ ["rows"] (spSor K C) := fun k => ok_sor (k := k + 3) F9 F6 b6 g6 (Gtol k) F8 b8 g8 (Gtr (k + 2)) ⟨mk, am1, im1, kc⟩ (Gini (k + 2)) bm1 gC y_len y_enumerate gmt
  have Gdra : ∀ k, FnOk l.prog w K mg base CX0 (k + 1) f22 _ ["_law_pen_here", "_law_many"] spDraw := fun k => ok_draw F22 y_int y_len
  have Gpen : ∀ k, FnOk l.prog w K mg base CX0 (k + 1) f21 _ ["_law_script"] (spPen K) := fun k => ok_pen F21 y_list
  have Gbig : ∀ k, FnOk l.prog w K mg base CX0 (k + 2) f23 _ ["_law_pen_here", "_law_many"] spBig := fun k => ok_big F23 F22 b22 g22 (Gdra k) y_len y_str y_range y_int
  have Gsiz : ∀ k, FnOk l.prog w K mg base CX0 (k + 3) f24 _ ["_law_pen_here"] spSize := fun k => ok_size F24 F22 b22 g22 (Gdra (k + 1)) F23 b23 g23 (Gbig k) y_max
  have Grul : ∀ k, FnOk l.prog w K mg base CX0 (k + 2) f10 _ ["_law_pen_here", "_law_most"] (spRule K) := fun k => ok_rule F10 F22 b22 g22 (Gdra k) y_range y_min
  have Gdbl : ∀ k, FnOk l.prog w K mg base CX0 (k + 2) f11 _ ["_law_pen_here", "_law_rows"] (spDbl K) := fun k => ok_dbl F11 F22 b22 g22 (Gdra k) y_range y_len
  have Ggiv : ∀ k, FnOk l.prog w K mg base CX0 (k + 2) f19 _ ["_law_pen_here", "_law_rows"] (spGiv K) := fun k => ok_giv F19 F22 b22 g22 (Gdra k) y_tuple y_list
  have Gled : ∀ k, FnOk l.prog w K mg base CX0 (k + 1) f12 _ ["_law_rows", "_law_start", "_law_number"] (spLed K) := fun k => ok_led F12 y_range
  have Gtru : ∀ k, FnOk l.prog w K mg base CX0 (k + 1) f20 _ ["_law_value", "_law_due"] spTru := fun k => ok_tru F20 y_isinstance y_bool
  have Gbot : ∀ k, FnOk l.prog w K mg base CX0 (k + 1) f17 _ ["_law_one", "_law_other", "_law_wanted"] (spBoth K) := fun k => ok_both F17 y_int y_len
  have Gmem : ∀ k, FnOk l.prog w K mg base CX0 (k + 1) f13 _ ["_law_rows", "_law_start", "_law_number"] (spMem K) := fun k => ok_mem F13 y_range y_enumerate y_int
  have Gemp : ∀ k, FnOk l.prog w K mg base CX0 (k + 2) f18 _ ["_law_rows"] (spEmp K) := fun k => ok_emp F18 F13 b13 g13 (Gmem k) y_len
  have Gnum : ∀ k, FnOk l.prog w K mg base CX0 (k + 1) f14 _ ["_law_told"] (spNum K) := fun k => ok_num F14 y_isinstance y_tuple y_int y_bool y_range y_len
  have Gunl : ∀ k, FnOk l.prog w K mg base CX0 (k + 1) f15 _ ["_law_told"] (spUnl K) := fun k => ok_unl F15 y_range y_len y_sorted y_list
  have Gexa : ∀ k, FnOk l.prog w K mg base CX0 (k + 2) f16 _ ["_law_rows", "_law_start", "_law_told"] (spExa K) := fun k => ok_exa F16 F14 b14 g14 (Gnum k) F15 b15 g15 (Gunl k) y_range y_len
  have Grig : ∀ k, FnOk l.prog w K mg base CX0 (k + 6) f25 _ ["_law_pen_here", "_law_rows"] (spRig K) := fun k => ok_rig (k := k + 5) cl F25 F19 b19 g19 (Ggiv (k + 3)) F9 b9 g9 (Gsor k) F16 b16 g16 (Gexa (k + 3)) F24 b24 g24 (Gsiz (k + 2)) F22 b22 g22 (Gdra (k + 4)) F12 b12 g12 (Gled (k + 4)) bm2 (Gin (k + 3)) am2 im2 y_tuple y_list y_range
  exact ok_law (k := 5) cl F26 F21 b21 g21 (Gpen 5) F10 b10 g10 (Grul 4) F25 b25 g25 (Grig 0) F9 b9 g9 (Gsor 1) F11 b11 g11 (Gdbl 4) F16 b16 g16 (Gexa 4) F20 b20 g20 (Gtru 5) F18 b18 g18 (Gemp 4) F17 b17 g17 (Gbot 5) bm3 (Geq 4) am3 im3 ne nc nt nn nl
end K35
open PySem PySem.W PyProof.Rows
set_option maxHeartbeats 0 in
theorem PySem.Challenge.cw_allwordlengths_k35_whole_sets_told_by_ru_holds : PySem.Challenge.rw_allwordlengths_k35_whole_sets_told_by_ru.Holds := by
  w_on; o_law; k_head; (case hw => w_witness2)
  k_fill
  refine L2.walk_ofK (l := PySem.Challenge.rw_allwordlengths_k35_whole_sets_told_by_ru) (n := 63) (k := 7) (x := "_law_script") (CX := L2.CX0) (sp := K35.spLaw) rfl (by decide) rfl ⟨rfl, by decide, by decide⟩ (fun w h Y => PySem.W.kIn_of Y) ?F (fun K H a ns hl _ hS => ⟨a, ns, rfl, hS, Nat.le_trans hl (by decide), fun _ => rfl⟩) (fun _ _ _ _ z => z)
  case F =>
    intro w mg fa h KX G hmg
    refine' K35.all_mk KX G hmg ?aC ?a1 ?l1 ?c1 ?k1 ?a2 ?l2 ?c2 ?k2 ?a3 ?l3 ?c3 ?k3 ?a4 ?l4 ?c4 ?k4 ?a5 ?l5 ?c5 ?k5 ?a6 ?l6 ?c6 ?k6 ?a7 ?l7 ?c7 ?k7 ?a8 ?l8 ?c8 ?k8 ?a9 ?l9 ?c9 ?k9 ?a10 ?l10 ?c10 ?k10 ?a11 ?l11 ?c11 ?k11 ?a12 ?l12 ?c12 ?k12 ?a13 ?l13 ?c13 ?k13 ?a14 ?l14 ?c14 ?k14 ?a15 ?l15 ?c15 ?k15 ?a16 ?l16 ?c16 ?k16 ?a17 ?l17 ?c17 ?k17 ?a18 ?l18 ?c18 ?k18 ?a19 ?l19 ?c19 ?k19 ?a20 ?l20 ?c20 ?k20 ?a21 ?l21 ?c21 ?k21 ?a22 ?l22 ?c22 ?k22 ?a23 ?l23 ?c23 ?k23 ?a24 ?l24 ?c24 ?k24 ?a25 ?l25 ?c25 ?k25 ?a26 ?l26 ?c26 ?k26 ?am1 ?im1 ?lm1 ?cm1 ?km1 ?am2 ?im2 ?lm2 ?cm2 ?km2 ?am3 ?im3 ?lm3 ?cm3 ?km3 ?pg ?hd ?po ?sa ?mk ?kc ?nd ?ha ?hg ?ht ?ho ?ne ?cC ?tC ?st ?sn ?sl ?nc ?nt ?nn ?nl ?mr ?mt ?z_len ?z_enumerate ?z_sorted ?z_tuple ?z_isinstance ?z_int ?z_bool ?z_list ?z_all ?z_range ?z_min ?z_max ?z_str
    (case aC => k_is)
    (case a1 => k_is)
    (case l1 => k_is)
    (case c1 => k_is)
    (case k1 => k_is)
    (case a2 => k_is)
    (case l2 => k_is)
    (case c2 => k_is)
    (case k2 => k_is)
    (case a3 => k_is)
    (case l3 => k_is)
    (case c3 => k_is)
    (case k3 => k_is)
    (case a4 => k_is)
    (case l4 => k_is)
    (case c4 => k_is)
    (case k4 => k_is)
    (case a5 => k_is)
    (case l5 => k_is)
    (case c5 => k_is)
    (case k5 => k_is)
    (case a6 => k_is)
    (case l6 => k_is)
    (case c6 => k_is)
    (case k6 => k_is)
    (case a7 => k_is)
    (case l7 => k_is)
    (case c7 => k_is)
    (case k7 => k_is)
    (case a8 => k_is)
    (case l8 => k_is)
    (case c8 => k_is)
    (case k8 => k_is)
    (case a9 => k_is)
    (case l9 => k_is)
    (case c9 => k_is)
    (case k9 => k_is)
    (case a10 => k_is)
    (case l10 => k_is)
    (case c10 => k_is)
    (case k10 => k_is)
    (case a11 => k_is)
    (case l11 => k_is)
    (case c11 => k_is)
    (case k11 => k_is)
    (case a12 => k_is)
    (case l12 => k_is)
    (case c12 => k_is)
    (case k12 => k_is)
    (case a13 => k_is)
    (case l13 => k_is)
    (case c13 => k_is)
    (case k13 => k_is)
    (case a14 => k_is)
    (case l14 => k_is)
    (case c14 => k_is)
    (case k14 => k_is)
    (case a15 => k_is)
    (case l15 => k_is)
    (case c15 => k_is)
    (case k15 => k_is)
    (case a16 => k_is)
    (case l16 => k_is)
    (case c16 => k_is)
    (case k16 => k_is)
    (case a17 => k_is)
    (case l17 => k_is)
    (case c17 => k_is)
    (case k17 => k_is)
    (case a18 => k_is)
    (case l18 => k_is)
    (case c18 => k_is)
    (case k18 => k_is)
    (case a19 => k_is)
    (case l19 => k_is)
    (case c19 => k_is)
    (case k19 => k_is)
    (case a20 => k_is)
    (case l20 => k_is)
    (case c20 => k_is)
    (case k20 => k_is)
    (case a21 => k_is)
    (case l21 => k_is)
    (case c21 => k_is)
    (case k21 => k_is)
    (case a22 => k_is)
    (case l22 => k_is)
    (case c22 => k_is)
    (case k22 => k_is)
    (case a23 => k_is)
    (case l23 => k_is)
    (case c23 => k_is)
    (case k23 => k_is)
    (case a24 => k_is)
    (case l24 => k_is)
    (case c24 => k_is)
    (case k24 => k_is)
    (case a25 => k_is)
    (case l25 => k_is)
    (case c25 => k_is)
    (case k25 => k_is)
    (case a26 => k_is)
    (case l26 => k_is)
    (case c26 => k_is)
    (case k26 => k_is)
    (case am1 => k_is)
    (case im1 => k_is)
    (case lm1 => k_is)
    (case cm1 => k_is)
    (case km1 => k_is)
    (case am2 => k_is)
    (case im2 => k_is)
    (case lm2 => k_is)
    (case cm2 => k_is)
    (case km2 => k_is)
    (case am3 => k_is)
    (case im3 => k_is)
    (case lm3 => k_is)
    (case cm3 => k_is)
    (case km3 => k_is)
    (case pg => k_is)
    (case hd => k_is)
    (case po => k_is)
    (case sa => k_is)
    (case mk => k_is)
    (case kc => k_is)
    (case nd => k_is)
    (case ha => k_is)
    (case hg => k_is)
    (case ht => k_is)
    (case ho => k_is)
    (case ne => k_is)
    (case cC => k_is)
    (case tC => k_is)
    (case st => k_is)
    (case sn => k_is)
    (case sl => k_is)
    (case nc => k_is)
    (case nt => k_is)
    (case nn => k_is)
    (case nl => k_is)
    (case mr => k_is)
    (case mt => k_is)
    (case z_len => k_is)
    (case z_enumerate => k_is)
    (case z_sorted => k_is)
    (case z_tuple => k_is)
    (case z_isinstance => k_is)
    (case z_int => k_is)
    (case z_bool => k_is)
    (case z_list => k_is)
    (case z_all => k_is)
    (case z_range => k_is)
    (case z_min => k_is)
    (case z_max => k_is)
    (case z_str => k_is)
