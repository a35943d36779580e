import PyProof.Rows.All
import Wide.All
import OpenK.AllK
import Wide.FinOn
import HandS.ForMost
import HandS.Codes
import HandS.Property
import HandS.ClsMeth
import HandS.IsInst
import HandS.Defaults
import HandS.OwnEq
import KE.KOpsOwn
import PyProof.InstNe
import HandS.Walk
import HandS.Zip
import HandS.FStr
import HandS.Conv
import HandS.Style
import HandS.Flow
import KE.DataAny
import KE.KDictZip
import KE.KTurns
import PyProof.ListNew
import HandS.TryOnly
import PySem.Challenge.RW_onecrest_k37_whole_two_above
set_option Elab.async false
set_option linter.all false
set_option maxRecDepth 100000
set_option maxHeartbeats 4000000
/-! Operators of an own class: x op y by its methods, y op x reflected, -x, x != y. -/
namespace On
open PySem PySem.Spec PyProof.Rows L2

/-- an answer that is a value of the layer is never NotImplemented -/
theorem cmp_back {X : Cx} {pins : List (Addr × Obj)} {σ : L2.St} {Q : VK} {u : Value} {s' : Shared} (h : EP X pins σ Q u s') : PySem.W.CmpBack (EP X pins σ Q) u s' := by
  have h' := h
  obtain ⟨v, H', I, r, q⟩ := h
  cases v with
  | non => cases (show u = _ from r); exact h'
  | bl b => cases (show u = _ from r); exact h'
  | int i => obtain ⟨t, e⟩ := (show ∃ t, u = Value.int i t from r); cases e; exact h'
  | str i => obtain ⟨t, e⟩ := (show ∃ t, u = Value.str i t from r); cases e; exact h'
  | byt i => obtain ⟨t, e⟩ := (show ∃ t, u = Value.bytes i t from r); cases e; exact h'
  | flt i => obtain ⟨t, e⟩ := (show ∃ t, u = Value.float i t from r); cases e; exact h'
  | ref a => cases (show u = _ from r); exact h'
  | ty n => cases (show u = _ from r); exact h'

/-- what a class says of its own method for an operator -/
structure Own2 (K : PySem.W.Frag) (C f g : Addr) (op : Operator) : Prop where
  sf : PySem.W.selfFirst K C = true
  at_ : PySem.W.findIn K (.ref C) (PySem.dunder op.info.2) = some (some (.ref f))
  fn : PySem.W.isFn K (.ref f) = true
  rat : PySem.W.findIn K (.ref C) (PySem.dunderR op.info.2) = some (some (.ref g))
  rfn : PySem.W.isFn K (.ref g) = true
  fo : ∃ o, PySem.W.findIn K (.type "int") (PySem.dunder op.info.2) = some o
  ro : ∃ o, PySem.W.findIn K (.type "int") (PySem.dunderR op.info.2) = some o
  sub : PySem.W.subIn K (.type "int") (.ref C) = some false

section
variable {X : Cx} {CX : CXT} {k : Nat} {C f g : Addr} {fd : FuncData} {ps : List Str} {sp : Sp} {E : XK} {op : Operator}
/-- x op y: x an instance of the class, y one too or an int -/
def rOwn (C : Addr) (sp : Sp) (E : XK) : R2 := fun x y H Q => ∃ a dx fs, x = .ref a ∧ H a = some (.ins C dx fs) ∧ ((∃ b dy gs, y = .ref b ∧ H b = some (.ins C dy gs)) ∨ ∃ i, y = .int i) ∧ sp [x, y] H Q E
theorem op_own (o : Own2 X.K C f g op) (F : FnOk X.prog X.w X.K X.mg X.base CX k f fd ps sp) (hr : Room k X.A) (hb : Binds X.K fd ps []) (hx : Passes CX X E) : OpR X (binaryOp op) (rOwn C sp E) := by
  intro pins s σ H x y v u Q I rx ry h
  obtain ⟨a, dx, fs, rfl, ha, hy, hsp⟩ := h
  obtain rfl : v = Value.ref a := rx
  obtain ⟨mA, O, _⟩ := ins_get I.hok ha
  obtain ⟨od, J, _⟩ := O.look
  obtain ⟨m, hF⟩ := I.fr
  have hsp' : sp ([V.ref a, y] ++ []) H Q E := hsp
  have run : wpAny (model X.prog X.w) X.A (call (.ref f) [.ref a, u]) (PySem.W.CmpBack (EP X pins σ Q)) X.xe s :=
    thn (run_fn F hr hb .nil hx I (.cons (show RelV (V.ref a) (Value.ref a) from rfl) (.cons ry .nil)) hsp') fun _ _ h => cmp_back h
  rcases hy with ⟨b, dy, gs, rfl, hb2⟩ | ⟨i, rfl⟩
  · obtain rfl : u = Value.ref b := ry
    obtain ⟨mB, O', _⟩ := ins_get I.hok hb2
    obtain ⟨od', J', _⟩ := O'.look
    exact PySem.W.binop_K hF I.ok.mod.kin J J'.type o.sf o.at_ o.fn run
  · obtain ⟨t, rfl⟩ := (show ∃ t, u = Value.int i t from ry)
    obtain ⟨o1, h1⟩ := o.fo
    obtain ⟨o2, h2⟩ := o.ro
    exact PySem.W.ksp_binT hF I.ok.mod.kin J rfl o.sf o.at_ o.fn o.rat (.inr ⟨g, rfl⟩) h1 h2 o.sub run

/-- -x -/
def rNeg (C : Addr) (sp : Sp) (E : XK) : V → Hp → VK → Prop := fun x H Q => ∃ a dx fs, x = .ref a ∧ H a = some (.ins C dx fs) ∧ sp [x] H Q E
theorem un_own (hs : PySem.W.findIn X.K (.ref C) "__neg__" = some (some (.ref f))) (hf : PySem.W.isFn X.K (.ref f) = true) (F : FnOk X.prog X.w X.K X.mg X.base CX k f fd ps sp) (hr : Room k X.A) (hb : Binds X.K fd ps []) (hx : Passes CX X E) :
    UnR X (unaryOp .USub) (rNeg C sp E) := by
  intro pins s σ H x v Q I rx h
  obtain ⟨a, dx, fs, rfl, ha, hsp⟩ := h
  obtain rfl : v = Value.ref a := rx
  obtain ⟨mA, O, _⟩ := ins_get I.hok ha
  obtain ⟨od, J, _⟩ := O.look
  obtain ⟨m, hF⟩ := I.fr
  have hsp' : sp ([V.ref a] ++ []) H Q E := hsp
  exact PySem.W.ksp_neg hF I.ok.mod.kin J hs hf (run_fn F hr hb .nil hx I (.cons (show RelV (V.ref a) (Value.ref a) from rfl) .nil) hsp')
end
end On
set_option Elab.async false
set_option linter.all false
set_option maxRecDepth 100000
set_option maxHeartbeats 4000000
/-! int op x, by the reflected method of an own class; x != y by its own ==. -/
namespace On
open PySem PySem.Spec PyProof.Rows L2

section
variable {prog : Program} {w : World} {A : Around} {E : Value → Shared → Prop} {s : Shared}
theorem int_declines {nm : Str} {id : String} {n : String} {f : Int → Int → Sem Fin} {i : Int} {t : Tok} {a C dx : Addr} {Q : Value → Shared → Prop} (slot : Slot "int" nm id) (entry : entryFor table id = some (Builtin.Int.intBinary n f))
    (args : argsOk id ⟨[.int i t, .ref a], []⟩) (ha : s.heap.get? a = some (PySem.W.instObj C dx)) (q : Q .notImplemented s) : wpAny (model prog w) A (call (.builtin id) [.int i t, .ref a]) Q E s := by
  refine GQ.call_here slot (show typeOf (.int i t) = pure (.type "int") from rfl) entry args ?_
  unfold Builtin.Int.intBinary slotArgs
  simp only [List.isEmpty_nil, Bool.not_true, Bool.false_eq_true, if_false, pure_bind, List.length_cons, List.length_nil, bne_self_eq_false]
  unfold Builtin.Int.intOfSelf
  simp only [List.headD_cons]
  unfold asInt?
  refine wpAny_bind (wpAny_pure ?_)
  refine wpAny_bind ?_
  refine wpAny_bind (wpAny_load ha ?_)
  refine wpAny_pure ?_
  show wpAny (model prog w) A.in1 (do rule "int.binary.not-an-int"; ret Value.notImplemented) (GQ.FinOf prog w A (wants Q E)) (fun e s' => wants Q E (Except.error e) s') s
  exact wpAny_bind (wpAny_rule (wpAny_pure q))

variable {K : PySem.W.Frag} {x C L f g : Addr} {h₀ : Heap} {m : Str → Option Value} {dx : Addr} {od : Option Obj} {nm : String}
/-- i op x: int's own method declines, the class's reflected one answers -/
theorem binop_refl {op : Operator} {n : String} {fi : Int → Int → Sem Fin} {i : Int} {t : Tok} {Q : Value → Shared → Prop} {fo ro : Option Value} (F : Fr h₀ L s.heap m) (X₀ : K.In h₀) (I : PySem.W.InstAt s.heap x (PySem.W.instObj C dx) C od) (hc : PySem.W.selfFirst K C = true)
    {id : String} (slot : Slot "int" (PySem.dunder op.info.2) id) (entry : entryFor table id = some (Builtin.Int.intBinary n fi)) (args : ∀ a b, argsOk id ⟨[a, b], []⟩)
    (hs : PySem.W.findIn K (.ref C) (PySem.dunder op.info.2) = some (some (.ref f))) (hr : PySem.W.findIn K (.ref C) (dunderR op.info.2) = some (some (.ref g))) (hf : PySem.W.isFn K (.ref g) = true)
    (h1 : PySem.W.findIn K (.type "int") (PySem.dunder op.info.2) = some fo) (h2 : PySem.W.findIn K (.type "int") (dunderR op.info.2) = some ro) (hfo : fo = some (.builtin id)) (hseq : isSeqSlot fo = false) (hsub : PySem.W.subIn K (.ref C) (.type "int") = some false)
    (h : wpAny (model prog w) A (call (.ref g) [.ref x, .int i t]) (PySem.W.CmpBack Q) E s) : wpAny (model prog w) A (binaryOp op (.int i t) (.ref x)) Q E s := by
  have X := X₀.keeps F.keep
  obtain ⟨cd, rest, hcd, hm⟩ := PySem.W.ksp_first hc
  rcases hi : op.info with ⟨sym, nm'⟩
  rw [hi] at hs hr h1 h2 slot
  dsimp only at hs hr h1 h2 slot
  have one := PySem.W.ksp_try X I hr hf h
  have hx := I.at_
  obtain ⟨hh, gg, d, tt, os⟩ := s
  have L1 : PySem.W.Looks (model prog w) hh (typeOf (.ref x)) (.ref C) := I.type
  have L2 : PySem.W.Looks (model prog w) hh (typeOf (.int i t)) (.type "int") := PySem.W.Looks.of_pure rfl
  have L3 : PySem.W.Looks (model prog w) hh (fillsNumberSlot (.ref C) nm') true := PySem.W.fills_K X hcd hm hs
  have L4 : PySem.W.Looks (model prog w) hh (fillsNumberSlot (.type "int") nm') ((fo.isSome && !isSeqSlot fo) || (ro.isSome && !isSeqSlot ro)) := PySem.W.ksp_fillsT X h1 h2
  have e4 : ((fo.isSome && !isSeqSlot fo) || (ro.isSome && !isSeqSlot ro)) = true := by rw [hseq, hfo] <;> rfl
  rw [e4] at L4
  have L5 : PySem.W.Looks (model prog w) hh (isSubtype (.ref C) (.type "int")) false := PySem.W.looks_subIn X hsub
  have L7 : numberSlotInPython (.type "int") nm' = pure false := rfl
  have hne : (Value.type "int" == Value.ref C) = false := Bool.eq_false_iff.mpr fun q => by cases beq_iff_eq.mp q
  simp only [binaryOp, hi]
  refine wpAny_holding (wpAny_bind ?_)
  unfold binaryOp1
  refine wpAny_bind (L2.at (wpAny_bind (L1.at (wpAny_bind (L4.at ?_)))))
  simp only [hne, Bool.false_eq_true, if_false]
  refine wpAny_bind (L3.at ?_)
  simp only [Bool.and_self, if_true]
  refine wpAny_bind (L5.at ?_)
  simp only [Bool.false_eq_true, if_false, Bool.not_false, Bool.and_self, if_true, L7, pure_bind]
  refine wpAny_bind (wpAny_tryMethod_declines (show typeOf (.int i t) = pure (.type "int") from rfl) slot (int_declines slot entry (args _ _) hx ⟨rfl, ?_⟩))
  dsimp only
  refine wpAny_bind (wpAny_mono one (fun r s' hr' => ?_) fun _ _ e => e)
  obtain ⟨v, rfl, hq⟩ := hr'
  exact wpAny_bind (wpAny_rule (wpAny_pure (wpAny_pure hq)))
end
end On
set_option Elab.async false
set_option linter.all false
set_option maxRecDepth 100000
set_option maxHeartbeats 4000000
/-! x != y of an own class that has == alone. -/
namespace On
open PySem PySem.Spec PyProof.Rows L2
section
variable {prog : Program} {w : World} {A : Around} {E : Value → Shared → Prop} {s : Shared} {K : PySem.W.Frag} {x y C L f : Addr} {h₀ : Heap} {m : Str → Option Value} {ox oy : Obj} {od od' : Option Obj}
open PySem.W in
theorem ne_special {Q : Option Value → Shared → Prop} (X : K.In s.heap) (I : InstAt s.heap x ox C od) (hu : A.units + 1 < cLine) (hn : findIn K (.ref C) "__ne__" = some (some (.builtin "object.__ne__")))
    (he : findIn K (.ref C) "__eq__" = some (some (.ref f))) (hf : isFn K (.ref f) = true) (ho : subIn K (.ref C) (.type "object") = some true)
    (h : wpAny (model prog w) A.in1 (call (.ref f) [.ref x, .ref y]) (fun v s' => ∃ b, v = .bool b ∧ Q (some (.bool (!b))) s') E s) : wpAny (model prog w) A (callSpecialIfBound? (.ref x) "__ne__" [.ref y]) Q E s := by
  simp only [callSpecialIfBound?, bindSpecialIfBound?]
  refine wpAny_holding (wpAny_bind (wpAny_bind (wpAny_bind (I.type.here ((looks_findIn X hn).here ?_)))))
  simp only [F.cmp_object.ne.bind]
  refine wpAny_bind (wpAny_askSetting (wpAny_ite ?_))
  have hi : Looks (model prog w) s.heap (isInstance (.ref x) (.type "object")) true := I.type.andThen (looks_subIn X ho)
  have body : wpAny (model prog w) A (call (.builtin "object.__ne__") [.ref x, .ref y]) (fun v s' => Q (some v) s') E s := by
    refine wpAny_call (codeAny_call_builtin F.cmp_object.ne.plain F.cmpEntry_ne (check_slot F.cmpKind_ne F.cmpSplit_ne hi (F.cmpArgs_ne _ _) ?_))
    unfold Builtin.«object.__ne__» slotArgs
    simp only [List.isEmpty_nil, Bool.not_true, Bool.false_eq_true, if_false, pure_bind, List.length_cons, List.length_nil, bne_self_eq_false]
    refine wpAny_bind (wpAny_cRoomFor (show A.in1.units < cLine from hu) ?_)
    refine wpAny_bind (ifBound_K X I he hf (wpAny_mono h (fun v s' hv => ?_) fun _ _ e => e))
    obtain ⟨b, rfl, q⟩ := hv
    exact wpAny_bind (wpAny_truthy_bool (wpAny_pure q))
  have fin : wpAny (model prog w) A (call (.builtin "object.__ne__") ([.ref x] ++ [.ref y]) >>= fun v => pure (some v)) Q E s :=
    wpAny_bind (wpAny_mono body (fun v s' h' => wpAny_pure h') fun _ _ h' => h')
  split
  · exact wpAny_bind (wpAny_pure (wpAny_pure fin))
  · exact wpAny_tryCatch (wpAny_bind (wpAny_pure (wpAny_pure fin)))
open PySem.W in
theorem ne_rich {Q : Value → Shared → Prop} (X : K.In s.heap) (I : InstAt s.heap x ox C od) (J : InstAt s.heap y oy C od') (hu : A.units + 1 < cLine) (hn : findIn K (.ref C) "__ne__" = some (some (.builtin "object.__ne__")))
    (he : findIn K (.ref C) "__eq__" = some (some (.ref f))) (hf : isFn K (.ref f) = true) (ho : subIn K (.ref C) (.type "object") = some true)
    (h : wpAny (model prog w) A.in1 (call (.ref f) [.ref x, .ref y]) (fun v s' => ∃ b, v = .bool b ∧ Q (.bool (!b)) s') E s) : wpAny (model prog w) A (richCompare .NotEq (.ref x) (.ref y)) Q E s := by
  unfold richCompare
  simp only [oneThing_ref]
  refine wpAny_holding ?_
  refine wpAny_bind (wpAny_cRoomFor (Nat.lt_of_succ_lt hu) ?_)
  rw [cmpInfo_NotEq]
  dsimp only
  refine wpAny_bind (I.type.here ?_)
  refine wpAny_bind (J.type.here ?_)
  rw [show (Value.ref C != Value.ref C) = false from by simp]
  simp only [Bool.false_eq_true, if_false]
  refine wpAny_bind (wpAny_pure ?_)
  simp only [Bool.false_eq_true, if_false]
  refine wpAny_bind ?_
  simp only [tryCompare]
  refine wpAny_bind (ne_special X I hu hn he hf ho (wpAny_mono h (fun v s' hv => ?_) fun _ _ e => e))
  obtain ⟨b, rfl, hq⟩ := hv
  exact ⟨b, rfl, wpAny_pure (wpAny_pure hq)⟩
end

/-- what a class says of its own == -/
structure OwnEq (K : PySem.W.Frag) (C f : Addr) : Prop where
  ne : PySem.W.findIn K (.ref C) "__ne__" = some (some (.builtin "object.__ne__"))
  eq : PySem.W.findIn K (.ref C) "__eq__" = some (some (.ref f))
  fn : PySem.W.isFn K (.ref f) = true
  ob : PySem.W.subIn K (.ref C) (.type "object") = some true
section
variable {X : Cx} {CX : CXT} {k : Nat} {C f g : Addr} {fd : FuncData} {ps : List Str} {sp : Sp} {E : XK} {op : Operator}
/-- x != y, both instances of the class: the promise of == gives a bool -/
def rOwnNe (C : Addr) (sp : Sp) (E : XK) : R2 := fun x y H Q => ∃ a dx fs b dy gs, x = .ref a ∧ H a = some (.ins C dx fs) ∧ y = .ref b ∧ H b = some (.ins C dy gs) ∧ sp [x, y] H (fun v H' => ∃ c, v = .bl c ∧ Q (.bl (!c)) H') E
theorem op_ownNe (o : OwnEq X.K C f) (F : FnOk X.prog X.w X.K X.mg X.base CX k f fd ps sp) (hr : Room (k + 1) X.A) (hb : Binds X.K fd ps []) (hx : Passes CX X E) : OpR X (compareOp .NotEq) (rOwnNe C sp E) := by
  intro pins s σ H x y v u Q I rx ry h
  obtain ⟨a, dx, fs, b, dy, gs, rfl, ha, rfl, hb2, hsp⟩ := h
  obtain rfl : v = Value.ref a := rx
  obtain rfl : u = Value.ref b := ry
  obtain ⟨mA, O, _⟩ := ins_get I.hok ha
  obtain ⟨od, J, _⟩ := O.look
  obtain ⟨mB, O', _⟩ := ins_get I.hok hb2
  obtain ⟨od', J', _⟩ := O'.look
  have hl : ([Value.ref a, Value.ref b] ++ []).length = ps.length := by
    rw [← F.len _ _ _ _ hsp] <;> rfl
  show wpAny (model X.prog X.w) X.A (richCompare .NotEq (.ref a) (.ref b)) (EP X pins σ Q) X.xe s
  refine ne_rich I.kIn J J' (by have := hr.units; omega) o.ne o.eq o.fn o.ob (wpAny_call (codeAny_mono (F.run X.A.in1 X.stack s H ⟨[.ref a, .ref b], []⟩ [.ref a, .ref b] [.ref a, .ref b] _ E hr.in1 I.env0.in1 (hb s [.ref a, .ref b] I.kIn hl) (.cons rfl (.cons rfl .nil)) hsp) fun r s' hq => ?_))
  cases r with
  | error e => exact hx pins σ H s e s' I hq
  | ok fl =>
    cases fl with
    | ret w' =>
      obtain ⟨z, H', I', rz, c, ez, q⟩ := I.after hq
      subst ez
      obtain rfl : w' = Value.bool c := rz
      exact ⟨c, rfl, .bl (!c), H', I', rfl, q⟩
    | next => exact False.elim hq
    | brk => exact False.elim hq
    | cont => exact False.elim hq
/-- i op y, by y's reflected method -/
def rRefl (C : Addr) (sp : Sp) (E : XK) : R2 := fun x y H Q => ∃ i a dx fs, x = .int i ∧ y = .ref a ∧ H a = some (.ins C dx fs) ∧ sp [y, x] H Q E
structure OwnR (K : PySem.W.Frag) (C f g : Addr) (op : Operator) (id : String) : Prop where
  o : Own2 K C f g op
  fo : PySem.W.findIn K (.type "int") (PySem.dunder op.info.2) = some (some (.builtin id))
  sq : isSeqSlot (some (.builtin id)) = false
  sb : PySem.W.subIn K (.ref C) (.type "int") = some false
theorem op_refl {id n : String} {fi : Int → Int → Sem PySem.Fin} (slot : Slot "int" (PySem.dunder op.info.2) id) (entry : entryFor table id = some (Builtin.Int.intBinary n fi)) (args : ∀ a b, argsOk id ⟨[a, b], []⟩)
    (o : OwnR X.K C f g op id) (F : FnOk X.prog X.w X.K X.mg X.base CX k g fd ps sp) (hr : Room k X.A) (hb : Binds X.K fd ps []) (hx : Passes CX X E) : OpR X (binaryOp op) (rRefl C sp E) := by
  intro pins s σ H x y v u Q I rx ry h
  obtain ⟨i, a, dx, fs, rfl, rfl, ha, hsp⟩ := h
  obtain rfl : u = Value.ref a := ry
  obtain ⟨t, rfl⟩ := (show ∃ t, v = Value.int i t from rx)
  obtain ⟨mA, O, _⟩ := ins_get I.hok ha
  obtain ⟨od, J, _⟩ := O.look
  obtain ⟨m, hF⟩ := I.fr
  have hsp' : sp ([V.ref a, V.int i] ++ []) H Q E := hsp
  obtain ⟨o2, h2⟩ := o.o.ro
  exact binop_refl (fo := some (.builtin id)) hF I.ok.mod.kin J o.o.sf slot entry args o.o.at_ o.o.rat o.o.rfn o.fo h2 rfl o.sq o.sb
    (thn (run_fn F hr hb .nil hx I (.cons (show RelV (V.ref a) (Value.ref a) from rfl) (.cons (show RelV (V.int i) (Value.int i t) from ⟨t, rfl⟩) .nil)) hsp') fun _ _ h => cmp_back h)
end
end On
set_option Elab.async false
set_option linter.all false
set_option maxRecDepth 100000
set_option maxHeartbeats 4000000
/-! * of numbers of up to 2^26 bits each, // by any divisor. -/
namespace On
open PySem PySem.Spec PyProof.Rows L2
def CMulX (i j : Int) : Prop := i.natAbs.log2 + j.natAbs.log2 < 134000000
theorem CMulX.ok {i j : Int} (h : CMulX i j) : IntMulOk i j := by
  have b : ∀ x : Int, Builtin.Int.intBits x ≤ x.natAbs.log2 + 1 := fun x => by
    unfold Builtin.Int.intBits
    split <;> omega
  have h1 := b i
  have h2 := b j
  have h3 : i.natAbs.log2 + j.natAbs.log2 < 134000000 := h
  have hl : bitsLine = 134217728 := by decide
  intro z
  have z1 := (Bool.and_eq_true_iff.mp z).2
  unfold Builtin.Int.intTooBig at z1
  have z2 := of_decide_eq_true z1
  omega
section
variable {X : Cx}
theorem op_mulX : OpR X (binaryOp .Mult) (rI CMulX fun i j => .int (i * j)) := opI fun _ _ _ _ _ _ _ hc q => mul_int q hc.ok
/-- a body's context in which a division may go by _pylong -/
structure Pyl (X : Cx) : Prop where
  seer : X.base.NoSeer
  tree : X.prog.given.tree = none
  dp : X.A.depth + 100 < recursionLimit
  top : ∃ env l, X.stack = env :: l ∧ env.scope.isGenerator = false ∧ env.scope.isCoroutine = false ∧ env.builtins = builtinsNs ∧ env.globals = mainGlobals
theorem Pyl.room {pins : List (Addr × Obj)} {σ : L2.St} {H : Hp} {s : Shared} (P : Pyl X) (I : Inv X pins σ H s) : PylongRoom (model X.prog X.w) X.A s := by
  obtain ⟨env, l, e, h1, h2, h3, h4⟩ := P.top
  have hf : X.A.frames = some (env :: l) := e ▸ I.ok.frames
  exact PylongRoom.of I.nolimit P.dp (SeerAt.of (P.seer.keeps I.bk) P.tree hf h1 h2 h3 h4)
theorem op_fdivX (P : Pyl X) : OpR X (binaryOp .FloorDiv) (rI (fun _ j => j ≠ 0) fun i j => .int (i.fdiv j)) := by
  intro pins s σ H x y v u Q I rx ry h
  obtain ⟨i, j, rfl, rfl, hc, q⟩ := h
  obtain ⟨t, rfl⟩ := (show ∃ t, v = Value.int i t from rx)
  obtain ⟨t', rfl⟩ := (show ∃ t, u = Value.int j t from ry)
  exact floordiv_int hc ⟨.int _, H, I.tok _, ⟨_, rfl⟩, q⟩ (.inr (P.room I))
end
end On
set_option linter.all false
/-! Sizes of rationals; the normal form that Ratio's __init__ reckons. -/
namespace On

/-- the size of a rational: numerator and denominator together -/
def sz (q : Rat) : Nat := q.num.natAbs + q.den
theorem sz_pos (q : Rat) : 0 < sz q := by
  have := q.den_pos
  unfold sz
  omega
theorem rat_add (a b : Rat) : a + b = Rat.divInt (a.num * b.den + b.num * a.den) (a.den * b.den) := by
  rw [← Rat.divInt_add_divInt _ _ (by have := a.den_nz; omega) (by have := b.den_nz; omega), Rat.num_divInt_den, Rat.num_divInt_den]
theorem rat_mul (a b : Rat) : a * b = Rat.divInt (a.num * b.num) (a.den * b.den) := by
  rw [← Rat.divInt_mul_divInt, Rat.num_divInt_den, Rat.num_divInt_den]
theorem rat_neg (a : Rat) : -a = Rat.divInt (-a.num) a.den := by
  rw [← Rat.neg_divInt, Rat.num_divInt_den]
theorem rat_sub (a b : Rat) : a - b = Rat.divInt (a.num * b.den - b.num * a.den) (a.den * b.den) := by
  rw [Rat.sub_eq_add_neg, rat_add, Rat.neg_num, Rat.neg_den]
  congr 1
  rw [Int.neg_mul, ← Int.sub_eq_add_neg]
theorem rat_div (a b : Rat) : a / b = Rat.divInt (a.num * b.den) (a.den * b.num) := by
  rw [Rat.div_def, Rat.inv_def, ← Rat.divInt_mul_divInt, Rat.num_divInt_den]
theorem rat_int (i : Int) : (i : Rat) = Rat.divInt i 1 := by
  rw [← Rat.num_divInt_den (i : Rat), Rat.num_intCast, Rat.den_intCast] <;> rfl
theorem sz_divInt (n d : Int) (h : d ≠ 0) : sz (Rat.divInt n d) ≤ n.natAbs + d.natAbs := by
  unfold sz
  rw [Rat.num_divInt, Rat.den_divInt, if_neg h]
  have h1 : (d.sign * n / ((d.gcd n : Nat) : Int)).natAbs ≤ n.natAbs := by
    rw [Int.natAbs_ediv_of_dvd]
    · rw [Int.natAbs_mul, Int.natAbs_sign_of_ne_zero h, Nat.one_mul, Int.natAbs_natCast]
      exact Nat.div_le_self _ _
    · exact Int.dvd_mul_of_dvd_right (Int.gcd_dvd_right ..)
  have h2 : d.natAbs / d.gcd n ≤ d.natAbs := Nat.div_le_self _ _
  omega
theorem mul_pos_ne {a b : Nat} (ha : a ≠ 0) (hb : b ≠ 0) : ((a : Int) * (b : Int)) ≠ 0 := by
  have h : a * b ≠ 0 := Nat.mul_ne_zero ha hb
  intro q
  exact h (by exact_mod_cast q)
theorem cross {a b c d : Nat} {x : Nat} (hx : x ≤ a * d + c * b) : x + b * d ≤ (a + b) * (c + d) := by
  have e : (a + b) * (c + d) = a * c + a * d + (b * c + b * d) := by rw [Nat.add_mul, Nat.mul_add, Nat.mul_add]
  have e2 : c * b = b * c := Nat.mul_comm ..
  have := Nat.zero_le (a * c)
  omega
theorem sz_add (a b : Rat) : sz (a + b) ≤ sz a * sz b := by
  rw [rat_add]
  refine Nat.le_trans (sz_divInt _ _ (mul_pos_ne a.den_nz b.den_nz)) ?_
  unfold sz
  rw [Int.natAbs_mul, Int.natAbs_natCast, Int.natAbs_natCast]
  refine cross ?_
  refine Nat.le_trans (Int.natAbs_add_le _ _) ?_
  rw [Int.natAbs_mul, Int.natAbs_mul, Int.natAbs_natCast, Int.natAbs_natCast]
  exact Nat.le_refl _
theorem sz_neg (a : Rat) : sz (-a) = sz a := by
  unfold sz
  rw [Rat.neg_num, Rat.neg_den, Int.natAbs_neg]
theorem sz_sub (a b : Rat) : sz (a - b) ≤ sz a * sz b := by
  rw [Rat.sub_eq_add_neg]
  have := sz_add a (-b)
  rw [sz_neg] at this
  exact this
theorem sz_mul (a b : Rat) : sz (a * b) ≤ sz a * sz b := by
  rw [rat_mul]
  refine Nat.le_trans (sz_divInt _ _ (mul_pos_ne a.den_nz b.den_nz)) ?_
  unfold sz
  rw [Int.natAbs_mul, Int.natAbs_mul, Int.natAbs_natCast, Int.natAbs_natCast, Nat.add_mul, Nat.mul_add, Nat.mul_add]
  omega
theorem sz_div (a b : Rat) (h : b ≠ 0) : sz (a / b) ≤ sz a * sz b := by
  rw [rat_div]
  have hb : b.num ≠ 0 := fun q => h (Rat.num_eq_zero.mp q)
  refine Nat.le_trans (sz_divInt _ _ (Int.mul_ne_zero (by have := a.den_nz; omega) hb)) ?_
  unfold sz
  rw [Int.natAbs_mul, Int.natAbs_mul, Int.natAbs_natCast, Int.natAbs_natCast, Nat.add_mul, Nat.mul_add, Nat.mul_add]
  omega
theorem sz_inv (b : Rat) (h : b ≠ 0) : sz (1 / b) ≤ sz b := by
  rw [rat_div]
  have hb : b.num ≠ 0 := fun q => h (Rat.num_eq_zero.mp q)
  refine Nat.le_trans (sz_divInt _ _ (Int.mul_ne_zero (by decide) hb)) ?_
  unfold sz
  rw [Int.natAbs_mul, Int.natAbs_mul, Int.natAbs_natCast]
  show 1 * b.den + 1 * b.num.natAbs ≤ _
  omega
theorem sz_int (i : Int) : sz (i : Rat) = i.natAbs + 1 := by
  unfold sz
  rw [Rat.num_intCast, Rat.den_intCast]
theorem sz_zero : sz 0 = 1 := by decide
theorem sz_one : sz 1 = 2 := by decide

/-- the size of a list: the product -/
def szL : List Rat → Nat
  | [] => 1
  | q :: r => sz q * szL r
theorem szL_pos : ∀ l : List Rat, 0 < szL l
  | [] => Nat.one_pos
  | q :: r => Nat.mul_pos (sz_pos q) (szL_pos r)
theorem szL_append (a b : List Rat) : szL (a ++ b) = szL a * szL b := by
  induction a with
  | nil => rw [List.nil_append]; unfold szL; rw [Nat.one_mul]
  | cons x r ih => rw [List.cons_append]; show sz x * szL (r ++ b) = sz x * szL r * szL b; rw [ih, Nat.mul_assoc]
theorem sz_le_szL {q : Rat} {l : List Rat} (h : q ∈ l) : sz q ≤ szL l := by
  induction l with
  | nil => cases h
  | cons x r ih =>
    rcases List.mem_cons.mp h with e | h
    · subst e
      exact Nat.le_mul_of_pos_right _ (szL_pos r)
    · exact Nat.le_trans (ih h) (Nat.le_mul_of_pos_left _ (sz_pos x))

/-- what __init__ reckons -/
theorem norm_num (n d : Int) (h : d ≠ 0) : (Rat.divInt n d).num = n.fdiv (if d < 0 then 0 - (n.gcd d : Int) else (n.gcd d : Int)) := by
  have hg : (n.gcd d : Int) ≠ 0 := by
    have : n.gcd d ≠ 0 := Int.gcd_ne_zero_right h
    omega
  have hd : ((n.gcd d : Nat) : Int) ∣ n := Int.gcd_dvd_left ..
  rw [Rat.num_divInt, Int.gcd_comm d n]
  split
  · rename_i h0
    have e : d.sign = -1 := Int.sign_eq_neg_one_of_neg h0
    rw [e, Int.neg_mul, Int.one_mul, Int.zero_sub]
    rw [Int.fdiv_eq_ediv_of_dvd (Int.neg_dvd.mpr hd), Int.ediv_neg, Int.neg_ediv_of_dvd hd]
  · rename_i h0
    have e : d.sign = 1 := Int.sign_eq_one_of_pos (by omega)
    rw [e, Int.one_mul, Int.fdiv_eq_ediv_of_dvd hd]
theorem norm_den (n d : Int) (h : d ≠ 0) : ((Rat.divInt n d).den : Int) = d.fdiv (if d < 0 then 0 - (n.gcd d : Int) else (n.gcd d : Int)) := by
  have hd : ((n.gcd d : Nat) : Int) ∣ d := Int.gcd_dvd_right ..
  rw [Rat.den_divInt, if_neg h, Int.gcd_comm d n, Int.natCast_ediv]
  split
  · rename_i h0
    rw [Int.zero_sub, Int.fdiv_eq_ediv_of_dvd (Int.neg_dvd.mpr hd), Int.ediv_neg, ← Int.neg_ediv_of_dvd hd]
    congr 1
    omega
  · rename_i h0
    rw [Int.fdiv_eq_ediv_of_dvd hd]
    congr 1
    omega
end On
set_option Elab.async false
set_option linter.all false
set_option maxRecDepth 100000
set_option maxHeartbeats 4000000
/-! What an expression evaluates to, the heap only growing; lists told by what their items stand for. -/
namespace On
open PySem PySem.Spec PyProof.Rows L2

abbrev Ex (H H' : Hp) : Prop := ∀ a o, H a = some o → H' a = some o
theorem Ex.rfl {H : Hp} : Ex H H := fun _ _ h => h
theorem Ex.trans {H H1 H2 : Hp} (a : Ex H H1) (b : Ex H1 H2) : Ex H H2 := fun x o h => b x o (a x o h)
theorem Ex.new {H : Hp} {p : Addr} {o : HO} (h : H p = none) : Ex H (upd H p o) := fun a u e => by
  rw [upd_ne (ne_of_none e h)]
  exact e
theorem Ex.mut {H H' : Hp} {p : Addr} {o : HO} (e : Ex H H') (h : H p = none) : Ex H (upd H' p o) := fun a u ha => by
  rw [upd_ne (ne_of_none ha h)]
  exact e a u ha
theorem Ex.back {H H' : Hp} {p : Addr} (e : Ex H H') (h : H' p = none) : H p = none := by
  cases h1 : H p with
  | none => rfl
  | some o => rw [e p o h1] at h; cases h

/-- two lists item by item -/
inductive All2 {α β : Type} (R : α → β → Prop) : List α → List β → Prop where
  | nil : All2 R [] []
  | cons {a : α} {b : β} {l : List α} {m : List β} : R a b → All2 R l m → All2 R (a :: l) (b :: m)
section
variable {α β γ : Type} {R S : α → β → Prop}
theorem All2.len : ∀ {l : List α} {m : List β}, All2 R l m → l.length = m.length
  | _, _, .nil => rfl
  | _, _, .cons _ t => congrArg Nat.succ t.len
theorem All2.mono (h : ∀ a b, R a b → S a b) : ∀ {l : List α} {m : List β}, All2 R l m → All2 S l m
  | _, _, .nil => .nil
  | _, _, .cons r t => .cons (h _ _ r) (t.mono h)
theorem All2.monoM : ∀ {l : List α} {m : List β}, (∀ a b, b ∈ m → R a b → S a b) → All2 R l m → All2 S l m
  | _, _, _, .nil => .nil
  | _, _, h, .cons r t => .cons (h _ _ List.mem_cons_self r) (t.monoM fun a b hb => h a b (List.mem_cons_of_mem _ hb))
theorem All2.get : ∀ {l : List α} {m : List β} {i : Nat} {a : α}, All2 R l m → l[i]? = some a → ∃ b, m[i]? = some b ∧ R a b
  | _, _, _, _, .nil, h => by simp at h
  | _, _, 0, a, .cons r _, h => by simp at h; subst h; exact ⟨_, by simp, r⟩
  | _, _, i + 1, a, .cons _ t, h => by
    obtain ⟨b, h1, h2⟩ := t.get (i := i) (a := a) (by simpa using h)
    exact ⟨b, by simpa using h1, h2⟩
theorem All2.getR : ∀ {l : List α} {m : List β} {i : Nat} {b : β}, All2 R l m → m[i]? = some b → ∃ a, l[i]? = some a ∧ R a b
  | _, _, _, _, .nil, h => by simp at h
  | _, _, 0, a, .cons r _, h => by simp at h; subst h; exact ⟨_, by simp, r⟩
  | _, _, i + 1, a, .cons _ t, h => by
    obtain ⟨b, h1, h2⟩ := t.getR (i := i) (b := a) (by simpa using h)
    exact ⟨b, by simpa using h1, h2⟩
theorem All2.snoc : ∀ {l : List α} {m : List β} {a : α} {b : β}, All2 R l m → R a b → All2 R (l ++ [a]) (m ++ [b])
  | _, _, _, _, .nil, r => .cons r .nil
  | _, _, _, _, .cons q t, r => .cons q (t.snoc r)
theorem All2.append : ∀ {l l' : List α} {m m' : List β}, All2 R l m → All2 R l' m' → All2 R (l ++ l') (m ++ m')
  | _, _, _, _, .nil, r => r
  | _, _, _, _, .cons q t, r => .cons q (t.append r)
theorem All2.take : ∀ {l : List α} {m : List β} (n : Nat), All2 R l m → All2 R (l.take n) (m.take n)
  | _, _, 0, _ => .nil
  | _, _, _ + 1, .nil => .nil
  | _, _, n + 1, .cons r t => .cons r (t.take n)
theorem All2.drop : ∀ {l : List α} {m : List β} (n : Nat), All2 R l m → All2 R (l.drop n) (m.drop n)
  | _, _, 0, r => r
  | _, _, _ + 1, .nil => .nil
  | _, _, n + 1, .cons _ t => t.drop n
theorem All2.set : ∀ {l : List α} {m : List β} {a : α} {b : β} (i : Nat), All2 R l m → R a b → All2 R (l.set i a) (m.set i b)
  | _, _, _, _, _, .nil, _ => .nil
  | _, _, _, _, 0, .cons _ t, r => .cons r t
  | _, _, _, _, i + 1, .cons q t, r => .cons q (t.set i r)
theorem All2.reverse {l : List α} {m : List β} (h : All2 R l m) : All2 R l.reverse m.reverse := by
  induction h with
  | nil => exact .nil
  | cons r _ ih => rw [List.reverse_cons, List.reverse_cons]; exact ih.snoc r
theorem All2.mapR {f : β → γ} {T : α → γ → Prop} : ∀ {l : List α} {m : List β}, All2 (fun a b => T a (f b)) l m → All2 T l (m.map f)
  | _, _, .nil => .nil
  | _, _, .cons r t => .cons r t.mapR
end

/-- H: what is known, of a heap that stands as H1; behind: G is known, the heap stands as H2; what is newly known is new -/
structure Grow (H H1 G H2 : Hp) : Prop where
  kn : Ex H G
  re : Ex G H2
  ol : Ex H1 H2
  fr : ∀ a, H a = none → H1 a ≠ none → G a = none
theorem Grow.rfl {H H1 : Hp} (e : Ex H H1) : Grow H H1 H H1 := ⟨Ex.rfl, e, Ex.rfl, fun _ h _ => h⟩
theorem Ex.some {H H1 : Hp} {a : Addr} (e : Ex H H1) (h : H a ≠ none) : H1 a ≠ none := by
  cases q : H a with
  | none => exact absurd q h
  | some o => rw [e a o q]; exact Option.some_ne_none _
theorem Grow.trans {H H1 G H2 G' H3 : Hp} (a : Grow H H1 G H2) (b : Grow G H2 G' H3) : Grow H H1 G' H3 :=
  ⟨a.kn.trans b.kn, b.re, a.ol.trans b.ol, fun x h h1 => b.fr x (a.fr x h h1) (a.ol.some h1)⟩
/-- the heap grew, nothing new is known -/
theorem Grow.more {H H1 G H2 H3 : Hp} (a : Grow H H1 G H2) (b : Ex H2 H3) : Grow H H1 G H3 := ⟨a.kn, a.re.trans b, a.ol.trans b, a.fr⟩
theorem upd_ex {G H : Hp} {p : Addr} {o : HO} (e : Ex G H) : Ex (upd G p o) (upd H p o) := fun a u h => by
  by_cases q : a = p
  · subst q
    rw [upd_same] at h ⊢
    exact h
  · rw [upd_ne q] at h ⊢
    exact e a u h
/-- a new object, known from now on -/
theorem Grow.new {G H : Hp} {p : Addr} {o : HO} (e : Ex G H) (h : H p = none) : Grow G H (upd G p o) (upd H p o) :=
  ⟨Ex.new (e.back h), upd_ex e, Ex.new h, fun a ha h1 => by rw [upd_ne (fun q => h1 (by rw [q]; exact h))]; exact ha⟩
/-- a new object that is not (yet) known: it may change -/
theorem Grow.hid {G H : Hp} {p : Addr} {o : HO} (e : Ex G H) (h : H p = none) : Grow G H G (upd H p o) := ⟨Ex.rfl, e.mut (e.back h), Ex.new h, fun _ ha _ => ha⟩
/-- an object that stood not at the beginning, and of which nothing is known, changes -/
theorem Grow.mut {H H1 G H2 : Hp} {p : Addr} {o : HO} (a : Grow H H1 G H2) (h : H1 p = none) (hg : G p = none) : Grow H H1 G (upd H2 p o) := ⟨a.kn, a.re.mut hg, a.ol.mut h, a.fr⟩
/-- .. it is known from now on -/
theorem Grow.see {H H1 G H2 : Hp} {p : Addr} {o : HO} (a : Grow H H1 G H2) (h : H1 p = none) (hg : G p = none) (hp : H2 p = some o) : Grow H H1 (upd G p o) H2 :=
  ⟨a.kn.mut (a.kn.back hg), fun x u hx => by
    by_cases q : x = p
    · subst q
      rw [upd_same] at hx
      rw [hp]
      exact hx
    · rw [upd_ne q] at hx
      exact a.re x u hx, a.ol, fun x h0 h1 => by rw [upd_ne (fun q => h1 (by rw [q]; exact h))]; exact a.fr x h0 h1⟩
/-- two things known of one heap, together -/
def join (A B : Hp) : Hp := fun a => match A a with | some o => some o | none => B a
theorem join_l {A B : Hp} : Ex A (join A B) := fun a o h => by unfold join; rw [h]
theorem join_r {A B H : Hp} (ha : Ex A H) (hb : Ex B H) : Ex B (join A B) := fun a o h => by
  unfold join
  cases q : A a with
  | none => exact h
  | some u =>
    have h1 := ha a u q
    rw [hb a o h] at h1
    exact h1.symm
theorem join_ex {A B H : Hp} (ha : Ex A H) (hb : Ex B H) : Ex (join A B) H := fun a o h => by
  unfold join at h
  cases q : A a with
  | none => rw [q] at h; exact hb a o h
  | some u => rw [q] at h; cases h; exact ha a _ q
theorem join_none {A B : Hp} {a : Addr} (h : A a = none) (h' : B a = none) : join A B a = none := by unfold join; rw [h]; exact h'
theorem Grow.join {H H' H1 G H2 : Hp} (e : Ex H H') (e' : Ex H' H1) (g : Grow H H1 G H2) : Grow H' H1 (join H' G) H2 :=
  ⟨join_l, join_ex (e'.trans g.ol) g.re, g.ol, fun a h h1 => join_none h (g.fr a (e.back h) h1)⟩

/-- a word about a value that stays when more is known -/
def Up {γ : Type} (R : γ → V → Hp → Prop) : Prop := ∀ z v H H', Ex H H' → R z v H → R z v H'
/-- the value itself -/
def isV : V → V → Hp → Prop := fun w v _ => v = w
theorem up_isV : Up isV := fun _ _ _ _ _ h => h

/-- r (an expression's reading, a promise) gives a value of which P: H is known ahead, what P says is known behind -/
def Tr (r : Hp → VK → Prop) (H : Hp) (P : V → Hp → Prop) : Prop := ∀ H1, Ex H H1 → ∀ Q : VK, (∀ v G H2, Grow H H1 G H2 → P v G → Q v H2) → r H1 Q
abbrev Ev (te : TE) (σ : L2.St) (H : Hp) (P : V → Hp → Prop) : Prop := Tr (te σ) H P
def EvT (tt : TT) (σ : L2.St) (H : Hp) (b : Bool) : Prop := ∀ H1, Ex H H1 → ∀ Q : Bool → Hp → Prop, (∀ H2, Ex H1 H2 → Q b H2) → tt σ H1 Q
/-- an argument list -/
def EvA (ta : TA) (σ : L2.St) (H : Hp) (P : List V → Hp → Prop) : Prop := ∀ H1, Ex H H1 → ∀ Q : List V → Hp → Prop, (∀ vs G H2, Grow H H1 G H2 → P vs G → Q vs H2) → ta σ H1 Q

theorem Tr.imp {r : Hp → VK → Prop} {H : Hp} {P P' : V → Hp → Prop} (h : Tr r H P) (k : ∀ v G, Ex H G → P v G → P' v G) : Tr r H P' := fun H1 e Q q => h H1 e Q fun v G H2 g p => q v G H2 g (k v G g.kn p)
/-- more is known -/
theorem Tr.up {r : Hp → VK → Prop} {H H' : Hp} {P : V → Hp → Prop} (up : ∀ v G G', Ex G G' → P v G → P v G') (e : Ex H H') (h : Tr r H P) : Tr r H' P := fun H1 e1 Q q =>
  h H1 (e.trans e1) Q fun v G H2 g p => q v _ H2 (g.join e e1) (up v G _ (join_r (e1.trans g.ol) g.re) p)
theorem Tr.same {r : Hp → VK → Prop} {H : Hp} {v : V} {P : V → Hp → Prop} (p : P v H) (h : ∀ H1, Ex H H1 → ∀ Q : VK, Q v H1 → r H1 Q) : Tr r H P := fun H1 e Q q => h H1 e Q (q v H H1 (Grow.rfl e) p)
theorem EvT.up {tt : TT} {σ : L2.St} {H H' : Hp} {b : Bool} (e : Ex H H') (h : EvT tt σ H b) : EvT tt σ H' b := fun H1 a Q q => h H1 (e.trans a) Q q
theorem EvT.is {tt : TT} {σ : L2.St} {H : Hp} {a b : Bool} (h : EvT tt σ H a) (e : a = b) : EvT tt σ H b := e ▸ h

section
variable {K : PySem.W.Frag} {σ : L2.St} {H H' : Hp} {ta tb tc te : TE} {tt tu : TT} {P P' : V → Hp → Prop} {v w : V} {γ δ ε : Type} {R : γ → V → Hp → Prop} {S : δ → V → Hp → Prop} {T : ε → V → Hp → Prop} {x : γ} {y : δ} {z : ε}
theorem ev_var {i : Nat} (h : σ[i]? = some (some v)) : Ev (tVar i) σ H (isV v) := Tr.same rfl fun H1 _ _ q => ⟨v, h, q⟩
theorem ev_c : Ev (tC v) σ H (isV v) := Tr.same rfl fun H1 _ _ q => q
/-- a slot whose value a word is about -/
theorem ev_slot {i : Nat} (h : σ[i]? = some (some v)) (r : R x v H) : Ev (tVar i) σ H (R x) := Tr.same r fun H1 _ _ q => ⟨v, h, q⟩
theorem ev_op {r : R2} (ha : Ev ta σ H (R x)) (hb : Ev tb σ H (S y)) (up : Up R) (up2 : Up S) (hr : ∀ v w G, Ex H G → R x v G → S y w G → Tr (fun H1 Q => r v w H1 Q) G P) : Ev (tOp r ta tb) σ H P := fun H1 e Q q =>
  ha H1 e _ fun v G H2 g p => (hb.up (fun v G G' => up2 _ v G G') g.kn) H2 g.re _ fun w G' H3 g' s => hr v w G' (g.kn.trans g'.kn) (up _ _ _ _ g'.kn p) s H3 g'.re Q fun u G'' H4 g'' pp => q u G'' H4 ((g.trans g').trans g'') pp
theorem ev_un {r : V → Hp → VK → Prop} (ha : Ev ta σ H (R x)) (hr : ∀ v G, Ex H G → R x v G → Tr (fun H1 Q => r v H1 Q) G P) : Ev (tUn r ta) σ H P := fun H1 e Q q =>
  ha H1 e _ fun v G H2 g p => hr v G g.kn p H2 g.re Q fun u G' H4 g' pp => q u G' H4 (g.trans g') pp

/-! ### tests -/
theorem et_B {b : Bool} (h : Ev te σ H (isV (.bl b))) : EvT (tB te) σ H b := fun H1 e _ q => h H1 e _ fun v G H2 g r => ⟨b, r, q H2 g.ol⟩
theorem et_test {b : Bool} (h : Ev te σ H (isV (.bl b))) : EvT (tTest te) σ H b := fun H1 e _ q => h H1 e _ fun v G H2 g r => ⟨b, r, q H2 g.ol⟩
theorem et_and {a b : Bool} (h1 : EvT tt σ H a) (h2 : a = true → EvT tu σ H b) : EvT (tAnd tt tu) σ H (a && b) := fun H1 e Q q => h1 H1 e _ fun H2 e2 => by
  cases a with
  | true =>
    show tu σ H2 Q
    exact h2 rfl H2 (e.trans e2) Q fun H3 e3 => q H3 (e2.trans e3)
  | false =>
    show Q false H2
    exact q H2 e2
theorem et_or {a b : Bool} (h1 : EvT tt σ H a) (h2 : a = false → EvT tu σ H b) : EvT (tOr tt tu) σ H (a || b) := fun H1 e Q q => h1 H1 e _ fun H2 e2 => by
  cases a with
  | true =>
    show Q true H2
    exact q H2 e2
  | false =>
    show tu σ H2 Q
    exact h2 rfl H2 (e.trans e2) Q fun H3 e3 => q H3 (e2.trans e3)
theorem et_not {a : Bool} (h1 : EvT tt σ H a) : EvT (tNot tt) σ H (!a) := fun H1 e _ q => h1 H1 e _ fun H2 e2 => q H2 e2
theorem ev_andV {a b : Bool} (h1 : Ev ta σ H (isV (.bl a))) (h2 : a = true → Ev tb σ H (isV (.bl b))) : Ev (tAndV ta tb) σ H (isV (.bl (a && b))) := fun H1 e Q q => h1 H1 e _ fun v G H2 g r => ⟨a, r, by
  cases a with
  | true =>
    show tb σ H2 Q
    exact ((h2 rfl).up (fun v G G' => up_isV _ v G G') g.kn) H2 g.re Q fun w G' H3 g' s => q w G' H3 (g.trans g') s
  | false =>
    show Q (.bl false) H2
    exact q _ G H2 g rfl⟩
theorem ev_orV {a b : Bool} (h1 : Ev ta σ H (isV (.bl a))) (h2 : a = false → Ev tb σ H (isV (.bl b))) : Ev (tOrV ta tb) σ H (isV (.bl (a || b))) := fun H1 e Q q => h1 H1 e _ fun v G H2 g r => ⟨a, r, by
  cases a with
  | true =>
    show Q (.bl true) H2
    exact q _ G H2 g rfl
  | false =>
    show tb σ H2 Q
    exact ((h2 rfl).up (fun v G G' => up_isV _ v G G') g.kn) H2 g.re Q fun w G' H3 g' s => q w G' H3 (g.trans g') s⟩
theorem ev_notV {a : Bool} (h1 : Ev ta σ H (isV (.bl a))) : Ev (tNotV ta) σ H (isV (.bl (!a))) := fun H1 e _ q => h1 H1 e _ fun v G H2 g r => ⟨a, r, q _ G H2 g rfl⟩
theorem ev_if {b : Bool} (h : EvT tt σ H b) (h1 : b = true → Ev ta σ H P) (h2 : b = false → Ev tb σ H P) : Ev (tIf tt ta tb) σ H P := fun H1 e Q q => h H1 e _ fun H2 e2 => by
  cases b with
  | true =>
    show ta σ H2 Q
    exact h1 rfl H2 (e.trans e2) Q fun v G H3 g p => q v G H3 ⟨g.kn, g.re, e2.trans g.ol, fun a h0 h1 => g.fr a h0 (e2.some h1)⟩ p
  | false =>
    show tb σ H2 Q
    exact h2 rfl H2 (e.trans e2) Q fun v G H3 g p => q v G H3 ⟨g.kn, g.re, e2.trans g.ol, fun a h0 h1 => g.fr a h0 (e2.some h1)⟩ p

/-! ### arguments, calls -/
theorem ea_nil : EvA tNil σ H fun vs _ => vs = [] := fun H1 e _ q => q [] H H1 (Grow.rfl e) rfl
theorem ea_1 (h : Ev ta σ H P) : EvA (tCons ta tNil) σ H fun vs G => ∃ v, vs = [v] ∧ P v G := fun H1 e _ q => h H1 e _ fun v G H2 g p => q [v] G H2 g ⟨v, rfl, p⟩
theorem ea_2 (up : Up R) (up2 : Up S) (h : Ev ta σ H (R x)) (h2 : Ev tb σ H (S y)) : EvA (tCons ta (tCons tb tNil)) σ H fun vs G => ∃ v w, vs = [v, w] ∧ R x v G ∧ S y w G := fun H1 e _ q =>
  h H1 e _ fun v G H2 g p => (h2.up (fun v G G' => up2 _ v G G') g.kn) H2 g.re _ fun w G' H3 g' s => q [v, w] G' H3 (g.trans g') ⟨v, w, rfl, up _ _ _ _ g'.kn p, s⟩
theorem ea_3 (up : Up R) (up2 : Up S) (up3 : Up T) (h : Ev ta σ H (R x)) (h2 : Ev tb σ H (S y)) (h3 : Ev tc σ H (T z)) :
    EvA (tCons ta (tCons tb (tCons tc tNil))) σ H fun vs G => ∃ v w u, vs = [v, w, u] ∧ R x v G ∧ S y w G ∧ T z u G := fun H1 e _ q =>
  h H1 e _ fun v G H2 g p => (h2.up (fun v G G' => up2 _ v G G') g.kn) H2 g.re _ fun w G' H3 g' s => (h3.up (fun v G G' => up3 _ v G G') (g.kn.trans g'.kn)) H3 g'.re _ fun u G'' H4 g'' t =>
    q [v, w, u] G'' H4 ((g.trans g').trans g'') ⟨v, w, u, rfl, up _ _ _ _ (g'.kn.trans g''.kn) p, up2 _ _ _ _ g''.kn s, t⟩
theorem ev_cb {r : List V → Hp → VK → Prop} {t : TA} {PA : List V → Hp → Prop} (ha : EvA t σ H PA) (h : ∀ vs G, Ex H G → PA vs G → Tr (fun H1 Q => r vs H1 Q) G P) : Ev (tCB r t) σ H P := fun H1 e Q q =>
  ha H1 e _ fun vs G H2 g p => h vs G g.kn p H2 g.re Q fun v G' H3 g' pp => q v G' H3 (g.trans g') pp
theorem ev_call {sp : Sp} {t : TA} {PA : List V → Hp → Prop} (ha : EvA t σ H PA) (h : ∀ vs G, Ex H G → PA vs G → Tr (fun H1 Q => sp vs H1 Q E0) G P) : Ev (tCall sp [] E0 t) σ H P := fun H1 e Q q =>
  ha H1 e _ fun vs G H2 g p => by
    show sp (vs ++ []) H2 Q E0
    rw [List.append_nil]
    exact h vs G g.kn p H2 g.re Q fun v G' H3 g' pp => q v G' H3 (g.trans g') pp

/-- a promise of a def that only makes: what it asks of the arguments, what it says of the value -/
def Pu {γ : Type} (Pre : γ → List V → Hp → Prop) (Post : γ → Hp → V → Hp → Prop) : Sp := fun vs H1 Q _ => ∃ (g : γ) (H : Hp), Ex H H1 ∧ Pre g vs H ∧ ∀ v G H2, Grow H H1 G H2 → Post g H v G → Q v H2
theorem Pu.tr {γ : Type} {Pre : γ → List V → Hp → Prop} {Post : γ → Hp → V → Hp → Prop} {g : γ} {vs : List V} {H : Hp} {E : XK} (h : Pre g vs H) : Tr (fun H1 Q => Pu Pre Post vs H1 Q E) H (Post g H) := fun H1 e Q q => ⟨g, H, e, h, q⟩

/-! ### lists -/
/-- a tracked list whose items stand for zs -/
def lstOf {γ : Type} (R : γ → V → Hp → Prop) (zs : List γ) : V → Hp → Prop := fun v H => ∃ a xs, v = .ref a ∧ H a = some (.lst xs) ∧ All2 (fun x z => R z x H) xs zs
/-- .. that is new: H was known ahead -/
def newL {γ : Type} (R : γ → V → Hp → Prop) (zs : List γ) (H : Hp) : V → Hp → Prop := fun v G => ∃ a xs, v = .ref a ∧ H a = none ∧ G a = some (.lst xs) ∧ All2 (fun x z => R z x G) xs zs
theorem newL.lst {γ : Type} {R : γ → V → Hp → Prop} {zs : List γ} {H G : Hp} {v : V} (h : newL R zs H v G) : lstOf R zs v G := let ⟨a, xs, e, _, h1, h2⟩ := h; ⟨a, xs, e, h1, h2⟩
theorem up_lst {γ : Type} {R : γ → V → Hp → Prop} (up : Up R) : Up (lstOf R) := fun zs v H H' e ⟨a, xs, h1, h2, h3⟩ => ⟨a, xs, h1, e _ _ h2, h3.mono fun _ _ r => up _ _ _ _ e r⟩
theorem Tr.old {γ : Type} {R : γ → V → Hp → Prop} {zs : List γ} {r : Hp → VK → Prop} (h : Tr r H (newL R zs H)) : Tr r H (lstOf R zs) := h.imp fun _ _ _ p => p.lst
theorem Tr.upN {γ : Type} {R : γ → V → Hp → Prop} {zs : List γ} {r : Hp → VK → Prop} (up : Up R) (e : Ex H H') (h : Tr r H (newL R zs H)) : Tr r H' (newL R zs H') := fun H1 e1 Q q =>
  h H1 (e.trans e1) Q fun v G H2 g ⟨a, xs, h1, h2, h3, h4⟩ => q v _ H2 (g.join e e1) (by
    have ej := join_r (e1.trans g.ol) g.re
    refine ⟨a, xs, h1, ?_, ej _ _ h3, h4.mono fun _ _ r => up _ _ _ _ ej r⟩
    cases q : H' a with
    | none => rfl
    | some o =>
      have h5 := g.fr a h2 (by rw [e1 a o q]; exact Option.some_ne_none _)
      rw [h3] at h5
      cases h5)
end
end On
set_option Elab.async false
set_option linter.all false
set_option maxRecDepth 100000
set_option maxHeartbeats 4000000
/-! Comprehensions over lists, tuples, ranges, zip and enumerate. -/
namespace On
open PySem PySem.Spec PyProof.Rows L2

/-- the target takes the item: the slots behind it -/
def Step (g : TG) (σ : L2.St) (x : V) (H : Hp) (σ2 : L2.St) : Prop := ∀ Q : L2.St → Hp → Prop, Q σ2 H → g x σ H Q
theorem step_name {i : Nat} {σ : L2.St} {x : V} {H : Hp} : Step (gName i) σ x H (σ.set i (some x)) := fun _ q => q
theorem step_pair {K : PySem.W.Frag} {i j : Nat} {σ : L2.St} {t : Addr} {x y : V} {H : Hp} (h : H t = some (.tup [x, y])) : Step (gTup K 2 (gCons (gName i) (gCons (gName j) gNil))) σ (.ref t) H ((σ.set i (some x)).set j (some y)) :=
  fun _ q => ⟨t, [x, y], rfl, SqT.of h, rfl, x, [y], rfl, y, [], rfl, rfl, q⟩

section
variable {K : PySem.W.Frag} {σ : L2.St} {H : Hp} {wi : TI} {g : TG} {te tl : TE} {tt : TT} {ta : TA} {vs : List Nat} {γ δ ε : Type} {R : γ → V → Hp → Prop} {S : δ → V → Hp → Prop} {S' : ε → V → Hp → Prop}
/-- one turn: the item of z is taken, tested, reckoned -/
def TurnOk (g : TG) (tt : TT) (te : TE) (vs : List Nat) (σ : L2.St) (R : γ → V → Hp → Prop) (keep : δ → Bool) (f : δ → γ) (G : Hp) (z : δ) (x : V) (H'' : Hp) : Prop :=
  ∃ σ2, Step g (wipe σ vs) x H'' σ2 ∧ wipe σ2 vs = wipe σ vs ∧ EvT tt σ2 G (keep z) ∧ (keep z = true → Ev te σ2 G (R (f z)))
/-- what is walked gives the items of zs -/
def Srcs (wi : TI) (g : TG) (tt : TT) (te : TE) (vs : List Nat) (σ : L2.St) (H : Hp) (R : γ → V → Hp → Prop) (zs : List δ) (keep : δ → Bool) (f : δ → γ) : Prop :=
  ∀ H1, Ex H H1 → ∀ Rr : It → Hp → Prop, (∀ J G H2 Gw Y, Grow H H1 G H2 → Walk J zs.length Gw Y → (∀ H', Ex G H' → Gw H') →
    (∀ i z H' x H'', zs[i]? = some z → Ex G H' → Y i H' x H'' → Ex H' H'' ∧ TurnOk g tt te vs σ R keep f G z x H'') → Rr J H2) → wi σ H1 Rr
theorem ev_lcG {zs : List δ} {keep : δ → Bool} {f : δ → γ} (up : Up R) (hz : zs.length ≤ 100000) (hw : Srcs wi g tt te vs σ H R zs keep f) : Ev (tLc wi g tt te vs) σ H (newL R ((zs.filter keep).map f) H) := fun H1 e Q q =>
  hw H1 e _ fun J G H2 Gw Y g0 w hG turn D hD => by
    have gD : G D = none := g0.re.back hD
    refine lc_it w (fun i H' => ∃ Gi ys, Grow G H2 Gi H' ∧ Gi D = none ∧ H' D = some (.lst ys) ∧ All2 (fun y c => R c y Gi) ys (((zs.take i).filter keep).map f)) ?_ ?_ ?_ ?_
    · exact ⟨G, [], Grow.hid g0.re hD, gD, upd_same, by simpa using All2.nil⟩
    · rintro i H' _ ⟨Gi, ys, gr, _, _, _⟩
      exact hG H' (gr.kn.trans gr.re)
    · rintro i x H' H'' hi ⟨Gi, ys, gr, giD, hys, all⟩ hy
      have hz1 : zs[i]? = some zs[i] := List.getElem?_eq_getElem hi
      obtain ⟨e1, σ2, st, hwp, ht, he⟩ := turn i zs[i] H' x H'' hz1 (gr.kn.trans gr.re) hy
      refine st _ ⟨hwp, ?_⟩
      have eG : Ex G H'' := (gr.kn.trans gr.re).trans e1
      refine ht H'' eG _ fun H3 e3 => ?_
      have hl : ys.length ≤ 100000 := by
        rw [all.len, List.length_map]
        refine Nat.le_trans (List.length_filter_le _ _) ?_
        rw [List.length_take]
        omega
      have tk : zs.take (i + 1) = zs.take i ++ [zs[i]] := by rw [List.take_add_one, hz1] <;> rfl
      have gr1 : Grow G H2 Gi H3 := gr.more (e1.trans e3)
      cases hk : keep zs[i] with
      | true =>
        show te σ2 H3 _
        refine (he hk).up (fun v G G' => up _ v G G') gr.kn H3 gr1.re _ fun v G' H4 g' p => ?_
        have h3D : H3 D = some (.lst ys) := e3 _ _ (e1 _ _ hys)
        have g4D : G' D = none := g'.fr D giD (by rw [h3D]; exact Option.some_ne_none _)
        refine ⟨ys, g'.ol _ _ h3D, Nat.lt_of_le_of_lt hl (by decide), G', ys ++ [v], (gr1.trans g').mut hD g4D, g4D, upd_same, ?_⟩
        rw [tk, List.filter_append, List.filter_cons, if_pos hk, List.map_append]
        exact (all.mono fun _ _ r => up _ _ _ _ g'.kn r).snoc p
      | false =>
        show ∃ Gi ys, Grow G H2 Gi H3 ∧ Gi D = none ∧ H3 D = some (.lst ys) ∧ All2 (fun y c => R c y Gi) ys (((zs.take (i + 1)).filter keep).map f)
        refine ⟨Gi, ys, gr1, giD, e3 _ _ (e1 _ _ hys), ?_⟩
        rw [tk, List.filter_append, List.filter_cons, if_neg (by rw [hk]; decide), List.map_append]
        simpa using all
    · rintro H' ⟨Gi, ys, gr, giD, hys, all⟩
      refine q (.ref D) (upd Gi D (.lst ys)) H' (g0.trans (gr.see hD giD hys)) ⟨D, ys, rfl, e.back (g0.ol.back hD), upd_same, ?_⟩
      rw [List.take_length] at all
      have ee : Ex Gi (upd Gi D (.lst ys)) := Ex.new giD
      exact all.mono fun _ _ r => up _ _ _ _ ee r
theorem et_yes : EvT tYes σ H true := fun H1 _ _ q => q H1 Ex.rfl
theorem ev_lc {zs : List δ} {f : δ → γ} (up : Up R) (hz : zs.length ≤ 100000) (hw : Srcs wi g tYes te vs σ H R zs (fun _ => true) f) : Ev (tLc wi g tYes te vs) σ H (newL R (zs.map f) H) := by
  have h := ev_lcG (keep := fun _ => true) up hz hw
  rw [List.filter_eq_self.mpr (fun _ _ => rfl)] at h
  exact h

/-! ### sources -/
variable {zs : List δ} {keep : δ → Bool} {f : δ → γ} {j j2 : Nat}
/-- over a list -/
theorem src_list (upS : Up S) (h : Ev tl σ H (lstOf S zs)) (hw : ∀ x, wipe ((wipe σ vs).set j (some x)) vs = wipe σ vs)
    (turn : ∀ (i : Nat) z x G, zs[i]? = some z → Ex H G → S z x G → EvT tt ((wipe σ vs).set j (some x)) G (keep z) ∧ (keep z = true → Ev te ((wipe σ vs).set j (some x)) G (R (f z)))) :
    Srcs (iList K tl) (gName j) tt te vs σ H R zs keep f := fun H1 e Rr q => h H1 e _ fun v G H2 g ⟨a, xs, ev, ha, all⟩ => by
  refine ⟨a, ev, ⟨xs, SqL.of (g.re _ _ ha)⟩, q (Itl K a) G H2 _ _ g (all.len ▸ walk_list (xs := xs)) (fun H' e' => SqL.of (e' _ _ ha)) fun i z H' x H'' hi e' hy => ?_⟩
  obtain ⟨e2, hx⟩ := hy
  subst e2
  obtain ⟨z', hz', s⟩ := all.get hx
  rw [hi] at hz'
  cases hz'
  obtain ⟨t1, t2⟩ := turn i z x G hi g.kn s
  exact ⟨Ex.rfl, _, step_name, hw x, t1, t2⟩
/-- over a tuple -/
def tupOf {γ : Type} (R : γ → V → Hp → Prop) (zs : List γ) : V → Hp → Prop := fun v H => ∃ a xs, v = .ref a ∧ H a = some (.tup xs) ∧ All2 (fun x z => R z x H) xs zs
theorem up_tup {γ : Type} {R : γ → V → Hp → Prop} (up : Up R) : Up (tupOf R) := fun zs v H H' e ⟨a, xs, h1, h2, h3⟩ => ⟨a, xs, h1, e _ _ h2, h3.mono fun _ _ r => up _ _ _ _ e r⟩
theorem src_tup (h : Ev tl σ H (tupOf S zs)) (hw : ∀ x, wipe ((wipe σ vs).set j (some x)) vs = wipe σ vs)
    (turn : ∀ (i : Nat) z x G, zs[i]? = some z → Ex H G → S z x G → EvT tt ((wipe σ vs).set j (some x)) G (keep z) ∧ (keep z = true → Ev te ((wipe σ vs).set j (some x)) G (R (f z)))) :
    Srcs (iTup K tl) (gName j) tt te vs σ H R zs keep f := fun H1 e Rr q => h H1 e _ fun v G H2 g ⟨a, xs, ev, ha, all⟩ => by
  refine ⟨a, ev, ⟨xs, SqT.of (g.re _ _ ha)⟩, q (Itt K a) G H2 _ _ g (all.len ▸ walk_tup (xs := xs)) (fun H' e' => SqT.of (e' _ _ ha)) fun i z H' x H'' hi e' hy => ?_⟩
  obtain ⟨e2, hx⟩ := hy
  subst e2
  obtain ⟨z', hz', s⟩ := all.get hx
  rw [hi] at hz'
  cases hz'
  obtain ⟨t1, t2⟩ := turn i z x G hi g.kn s
  exact ⟨Ex.rfl, _, step_name, hw x, t1, t2⟩
/-- over range(n) -/
theorem src_range {n : Nat} {keep : Nat → Bool} {f : Nat → γ} (h : EvA ta σ H fun vs _ => vs = [.int (n : Int)]) (hn : n ≤ 100000) (hw : ∀ x, wipe ((wipe σ vs).set j (some x)) vs = wipe σ vs)
    (turn : ∀ (i : Nat) G, i < n → Ex H G → EvT tt ((wipe σ vs).set j (some (.int (i : Int)))) G (keep i) ∧ (keep i = true → Ev te ((wipe σ vs).set j (some (.int (i : Int)))) G (R (f i)))) :
    Srcs (iRng1 ta) (gName j) tt te vs σ H R (List.range n) keep f := fun H1 e Rr q => h H1 e _ fun ws G H2 g ev => by
  refine ⟨(n : Int), ev, by omega, by omega, ?_⟩
  refine q (Itr 0 n) G H2 _ _ g (by rw [List.length_range]; exact walk_range) (fun _ _ => trivial) fun i z H' x H'' hi e' hy => ?_
  obtain ⟨e2, hx⟩ := hy
  subst e2
  subst hx
  have hi2 := List.getElem?_eq_some_iff.mp hi
  obtain ⟨hi3, hz⟩ := hi2
  rw [List.length_range] at hi3
  rw [List.getElem_range] at hz
  subst hz
  obtain ⟨t1, t2⟩ := turn i G hi3 g.kn
  have e0 : (0 : Int) + (i : Int) = (i : Int) := Int.zero_add _
  show Ex H'' H'' ∧ TurnOk (gName j) tt te vs σ R keep f G i (V.int (0 + (i : Int))) H''
  rw [e0]
  exact ⟨Ex.rfl, _, step_name, hw _, t1, t2⟩
/-- over zip of two lists: as many turns as the shorter one has items -/
theorem src_zip {ys : List ε} {keep : δ × ε → Bool} {f : δ × ε → γ} (h : EvA ta σ H fun vs G => ∃ v w, vs = [v, w] ∧ lstOf S zs v G ∧ lstOf S' ys w G)
    (hw : ∀ x y, wipe (((wipe σ vs).set j (some x)).set j2 (some y)) vs = wipe σ vs)
    (turn : ∀ (i : Nat) z z' x y G, zs[i]? = some z → ys[i]? = some z' → Ex H G → S z x G → S' z' y G → EvT tt (((wipe σ vs).set j (some x)).set j2 (some y)) G (keep (z, z')) ∧ (keep (z, z') = true → Ev te (((wipe σ vs).set j (some x)).set j2 (some y)) G (R (f (z, z'))))) :
    Srcs (iZip K ta) (gTup K 2 (gCons (gName j) (gCons (gName j2) gNil))) tt te vs σ H R (zs.zip ys) keep f := fun H1 e Rr q => h H1 e _ fun ws G H2 g ⟨v, w, ew, ⟨a, xs, e1, ha, all⟩, b, us, e2, hb, all2⟩ => by
  subst e1
  subst e2
  refine ⟨a, b, xs, us, ew, SqL.of (g.re _ _ ha), SqL.of (g.re _ _ hb), q (Itz K a b) G H2 _ _ g (walk_zip (xs := xs) (ys := us) (by rw [List.length_zip, all.len, all2.len])) (fun H' e' => ⟨SqL.of (e' _ _ ha), SqL.of (e' _ _ hb)⟩) fun i z H' x H'' hi e' hy => ?_⟩
  obtain ⟨T, x1, y1, rfl, hT, rfl, hx, hy⟩ := hy
  obtain ⟨z1, h1, s1⟩ := all.get hx
  obtain ⟨z2, h2, s2⟩ := all2.get hy
  have hz : (zs.zip ys)[i]? = some (z1, z2) := List.getElem?_zip_eq_some.mpr ⟨h1, h2⟩
  rw [hi] at hz
  cases hz
  obtain ⟨t1, t2⟩ := turn i z1 z2 x1 y1 G h1 h2 g.kn s1 s2
  exact ⟨Ex.new hT, _, step_pair upd_same, hw _ _, t1, t2⟩
/-- over enumerate of a list -/
theorem src_enum {keep : δ × Nat → Bool} {f : δ × Nat → γ} (h : EvA ta σ H fun vs G => ∃ v, vs = [v] ∧ lstOf S zs v G)
    (hw : ∀ x y, wipe (((wipe σ vs).set j (some x)).set j2 (some y)) vs = wipe σ vs)
    (turn : ∀ (i : Nat) z x G, zs[i]? = some z → Ex H G → S z x G → EvT tt (((wipe σ vs).set j (some (.int (i : Int)))).set j2 (some x)) G (keep (z, i)) ∧ (keep (z, i) = true → Ev te (((wipe σ vs).set j (some (.int (i : Int)))).set j2 (some x)) G (R (f (z, i))))) :
    Srcs (iEnum K ta) (gTup K 2 (gCons (gName j) (gCons (gName j2) gNil))) tt te vs σ H R zs.zipIdx keep f := fun H1 e Rr q => h H1 e _ fun ws G H2 g ⟨v, ew, a, xs, e1, ha, all⟩ => by
  subst e1
  refine ⟨a, xs, ew, SqL.of (g.re _ _ ha), q (Ite K a) G H2 _ _ g (by rw [List.length_zipIdx, ← all.len]; exact walk_enum (xs := xs)) (fun H' e' => SqL.of (e' _ _ ha)) fun i z H' x H'' hi e' hy => ?_⟩
  obtain ⟨T, x1, y1, rfl, hT, rfl, hx, hy⟩ := hy
  have hx' := Option.some.inj hx
  subst hx'
  obtain ⟨z1, h1, s1⟩ := all.get hy
  have hz : zs.zipIdx[i]? = some (z1, i) := by rw [List.getElem?_zipIdx, h1]; simp
  rw [hi] at hz
  cases hz
  obtain ⟨t1, t2⟩ := turn i z1 y1 G h1 g.kn s1
  exact ⟨Ex.new hT, _, step_pair upd_same, hw _ _, t1, t2⟩
/-- over a list of pairs, each taken apart -/
def pairOf {γ δ : Type} (R : γ → V → Hp → Prop) (S : δ → V → Hp → Prop) (z : γ × δ) : V → Hp → Prop := fun v H => ∃ t x y, v = .ref t ∧ H t = some (.tup [x, y]) ∧ R z.1 x H ∧ S z.2 y H
theorem up_pair {γ δ : Type} {R : γ → V → Hp → Prop} {S : δ → V → Hp → Prop} (up : Up R) (up2 : Up S) : Up (pairOf R S) := fun z v H H' e ⟨t, x, y, h1, h2, h3, h4⟩ => ⟨t, x, y, h1, e _ _ h2, up _ _ _ _ e h3, up2 _ _ _ _ e h4⟩
theorem src_pairs {zs : List (δ × ε)} {keep : δ × ε → Bool} {f : δ × ε → γ} (h : Ev tl σ H (lstOf (pairOf S S') zs)) (hw : ∀ x y, wipe (((wipe σ vs).set j (some x)).set j2 (some y)) vs = wipe σ vs)
    (turn : ∀ (i : Nat) z x y G, zs[i]? = some z → Ex H G → S z.1 x G → S' z.2 y G → EvT tt (((wipe σ vs).set j (some x)).set j2 (some y)) G (keep z) ∧ (keep z = true → Ev te (((wipe σ vs).set j (some x)).set j2 (some y)) G (R (f z)))) :
    Srcs (iList K tl) (gTup K 2 (gCons (gName j) (gCons (gName j2) gNil))) tt te vs σ H R zs keep f := fun H1 e Rr q => h H1 e _ fun v G H2 g ⟨a, xs, ev, ha, all⟩ => by
  refine ⟨a, ev, ⟨xs, SqL.of (g.re _ _ ha)⟩, q (Itl K a) G H2 _ _ g (all.len ▸ walk_list (xs := xs)) (fun H' e' => SqL.of (e' _ _ ha)) fun i z H' x H'' hi e' hy => ?_⟩
  obtain ⟨e2, hx⟩ := hy
  subst e2
  obtain ⟨z', hz', t, p, r, rfl, ht, s1, s2⟩ := all.get hx
  rw [hi] at hz'
  cases hz'
  obtain ⟨t1, t2⟩ := turn i z p r G hi g.kn s1 s2
  exact ⟨Ex.rfl, _, step_pair (e' _ _ ht), hw _ _, t1, t2⟩
end
end On
set_option Elab.async false
set_option linter.all false
set_option maxRecDepth 100000
set_option maxHeartbeats 4000000
/-! The text by places, the slots of each def, what the top leaves. Printed by gentxt.py. -/
namespace On
open PySem PySem.Spec PyProof.Rows L2
def top (i : Nat) : Stmt := PySem.Challenge.pw_onecrest_k37_whole_two_above.main.body.getD i (.Pass ⟨0, 0, 0, 0⟩)
/-- a def of the module as the top leaves it -/
structure DefAt (K : PySem.W.Frag) (mg : Str → Option Value) (x : Str) (st : Stmt) : Prop where
  ex : ∃ (f : Addr) (fd : FuncData), FunD K x x (defArgs st) (defBody st) (defScope st) [] [] f fd ∧ mg x = some (.ref f)
/-- a method of the class at C -/
structure MetAt (K : PySem.W.Frag) (C : Addr) (m qual : Str) (st : Stmt) : Prop where
  ex : ∃ (f : Addr) (fd : FuncData), FunD K m qual (defArgs st) (defBody st) (defScope st) [] [] f fd ∧ Meth K C m f
/-- a property of the class at C -/
structure PrpAt (K : PySem.W.Frag) (C : Addr) (m qual : Str) (st : Stmt) : Prop where
  ex : ∃ (p f : Addr) (fd : FuncData), FunD K m qual (defArgs st) (defBody st) (defScope st) [] [] f fd ∧ PropOf K C m p f
/-- the class's __init__, with one default -/
structure IniAt (K : PySem.W.Frag) (C : Addr) (qual : Str) (st : Stmt) (d : V) : Prop where
  ex : ∃ (f : Addr) (fd : FuncData), FunD K "__init__" qual (defArgs st) (defBody st) (defScope st) [d] [] f fd ∧ Mk K C f
/-- a classmethod of the class at C -/
structure ClmAt (K : PySem.W.Frag) (C : Addr) (m qual : Str) (st : Stmt) : Prop where
  ex : ∃ (mc : Value) (p f : Addr) (fd : FuncData), FunD K m qual (defArgs st) (defBody st) (defScope st) [] [] f fd ∧ ClX.CRead K C mc ∧ ClX.CMet K C mc m p f
/-- the class's methods for an operator -/
structure OpAt (K : PySem.W.Frag) (C : Addr) (m : Str) (op : Operator) : Prop where
  ex : ∃ f g : Addr, Own2 K C f g op
abbrev s_is_integer : Stmt := top 7
abbrev N_is_integer : List Str := ["value"]
theorem sc_is_integer : FnScope N_is_integer ["value"] (defScope s_is_integer) := C8.fnScope_by (by decide +kernel)
abbrev s_is_list : Stmt := top 8
abbrev N_is_list : List Str := ["value"]
theorem sc_is_list : FnScope N_is_list ["value"] (defScope s_is_list) := C8.fnScope_by (by decide +kernel)
abbrev s_digits_of : Stmt := top 11
abbrev N_digits_of : List Str := ["number", "left", "told", "part", "sign"]
theorem sc_digits_of : FnScope N_digits_of ["number"] (defScope s_digits_of) := C8.fnScope_by (by decide +kernel)
abbrev s_common_part : Stmt := top 12
abbrev N_common_part : List Str := ["one", "other"]
theorem sc_common_part : FnScope N_common_part ["one", "other"] (defScope s_common_part) := C8.fnScope_by (by decide +kernel)
abbrev s_told_pair : Stmt := top 14
abbrev N_told_pair : List Str := ["value"]
theorem sc_told_pair : FnScope N_told_pair ["value"] (defScope s_told_pair) := C8.fnScope_by (by decide +kernel)
abbrev s_is_number : Stmt := top 15
abbrev N_is_number : List Str := ["value"]
theorem sc_is_number : FnScope N_is_number ["value"] (defScope s_is_number) := C8.fnScope_by (by decide +kernel)
abbrev s_ratio_of : Stmt := top 16
abbrev N_ratio_of : List Str := ["number"]
theorem sc_ratio_of : FnScope N_ratio_of ["number"] (defScope s_ratio_of) := C8.fnScope_by (by decide +kernel)
abbrev s_want_number : Stmt := top 17
abbrev N_want_number : List Str := ["value"]
theorem sc_want_number : FnScope N_want_number ["value"] (defScope s_want_number) := C8.fnScope_by (by decide +kernel)
abbrev s_total_of : Stmt := top 18
abbrev N_total_of : List Str := ["ratios", "found", "ratio"]
theorem sc_total_of : FnScope N_total_of ["ratios"] (defScope s_total_of) := C8.fnScope_by (by decide +kernel)
abbrev s_weighed : Stmt := top 19
abbrev N_weighed : List Str := ["weights", "values", "weight", "value"]
theorem sc_weighed : FnScope N_weighed ["weights", "values"] (defScope s_weighed) := C8.fnScope_by (by decide +kernel)
abbrev s_are_numbers : Stmt := top 22
abbrev N_are_numbers : List Str := ["value", "many", "number"]
theorem sc_are_numbers : FnScope N_are_numbers ["value", "many"] (defScope s_are_numbers) := C8.fnScope_by (by decide +kernel)
abbrev s_are_alike : Stmt := top 23
abbrev N_are_alike : List Str := ["rows", "place", "row", "other"]
theorem sc_are_alike : FnScope N_are_alike ["rows"] (defScope s_are_alike) := C8.fnScope_by (by decide +kernel)
abbrev s_is_table : Stmt := top 24
abbrev N_is_table : List Str := ["value", "row"]
theorem sc_is_table : FnScope N_is_table ["value"] (defScope s_is_table) := C8.fnScope_by (by decide +kernel)
abbrev s_ratios_of : Stmt := top 25
abbrev N_ratios_of : List Str := ["numbers", "number"]
theorem sc_ratios_of : FnScope N_ratios_of ["numbers"] (defScope s_ratios_of) := C8.fnScope_by (by decide +kernel)
abbrev s_told_rows : Stmt := top 26
abbrev N_told_rows : List Str := ["table", "row"]
theorem sc_told_rows : FnScope N_told_rows ["table"] (defScope s_told_rows) := C8.fnScope_by (by decide +kernel)
abbrev s_made_by : Stmt := top 27
abbrev N_made_by : List Str := ["rows", "numbers", "row"]
theorem sc_made_by : FnScope N_made_by ["rows", "numbers"] (defScope s_made_by) := C8.fnScope_by (by decide +kernel)
abbrev s_value_in : Stmt := top 28
abbrev N_value_in : List Str := ["rows", "first", "second"]
theorem sc_value_in : FnScope N_value_in ["rows", "first", "second"] (defScope s_value_in) := C8.fnScope_by (by decide +kernel)
abbrev s_lessened : Stmt := top 29
abbrev N_lessened : List Str := ["row", "other", "number", "one", "two"]
theorem sc_lessened : FnScope N_lessened ["row", "other", "number"] (defScope s_lessened) := C8.fnScope_by (by decide +kernel)
abbrev s_pivot_at : Stmt := top 30
abbrev N_pivot_at : List Str := ["rows", "begin", "column", "place"]
theorem sc_pivot_at : FnScope N_pivot_at ["rows", "begin", "column"] (defScope s_pivot_at) := C8.fnScope_by (by decide +kernel)
abbrev s_steps_in : Stmt := top 31
abbrev N_steps_in : List Str := ["rows", "left", "columns", "sign", "wide", "column", "begin", "place", "top", "other"]
theorem sc_steps_in : FnScope N_steps_in ["rows"] (defScope s_steps_in) := C8.fnScope_by (by decide +kernel)
abbrev s_single_at : Stmt := top 33
abbrev N_single_at : List Str := ["rows", "place", "row"]
theorem sc_single_at : FnScope N_single_at ["rows"] (defScope s_single_at) := C8.fnScope_by (by decide +kernel)
abbrev s_pair_at : Stmt := top 34
abbrev N_pair_at : List Str := ["rows", "place", "row", "other"]
theorem sc_pair_at : FnScope N_pair_at ["rows"] (defScope s_pair_at) := C8.fnScope_by (by decide +kernel)
abbrev s_less_square : Stmt := top 35
abbrev N_less_square : List Str := ["rows", "number", "form", "row", "part"]
theorem sc_less_square : FnScope N_less_square ["rows", "number", "form"] (defScope s_less_square) := C8.fnScope_by (by decide +kernel)
abbrev s_next_squares : Stmt := top 36
abbrev N_next_squares : List Str := ["rows", "place", "pair", "one", "other", "half", "both", "left", "right"]
theorem sc_next_squares : FnScope N_next_squares ["rows"] (defScope s_next_squares) := C8.fnScope_by (by decide +kernel)
abbrev s_squares_in : Stmt := top 37
abbrev N_squares_in : List Str := ["rows", "found", "more", "number", "form"]
theorem sc_squares_in : FnScope N_squares_in ["rows"] (defScope s_squares_in) := C8.fnScope_by (by decide +kernel)
abbrev s_list_with : Stmt := top 39
abbrev N_list_with : List Str := ["forms", "values", "left", "columns", "sign", "found", "row", "column", "form", "value", "part"]
theorem sc_list_with : FnScope N_list_with ["forms", "values"] (defScope s_list_with) := C8.fnScope_by (by decide +kernel)
abbrev s_above_in : Stmt := top 40
abbrev N_above_in : List Str := ["rows", "most", "squares_now", "forms", "above", "found", "place", "number", "form", "square", "other"]
theorem sc_above_in : FnScope N_above_in ["rows", "most"] (defScope s_above_in) := C8.fnScope_by (by decide +kernel)
abbrev s_two_above : Stmt := top 41
abbrev N_two_above : List Str := ["table", "above"]
theorem sc_two_above : FnScope N_two_above ["table"] (defScope s_two_above) := C8.fnScope_by (by decide +kernel)
abbrev s_is_two_above : Stmt := top 42
abbrev N_is_two_above : List Str := ["table", "value", "rows", "first", "second", "one"]
theorem sc_is_two_above : FnScope N_is_two_above ["table", "value"] (defScope s_is_two_above) := C8.fnScope_by (by decide +kernel)
abbrev s_law_pot : Stmt := top 44
abbrev N_law_pot : List Str := ["_law_script", "_law_k", "_law_cell"]
theorem sc_law_pot : FnScope N_law_pot ["_law_script", "_law_k"] (defScope s_law_pot) := C8.fnScope_by (by decide +kernel)
abbrev s_law_draw : Stmt := top 45
abbrev N_law_draw : List Str := ["_law_pot_here", "_law_size", "_law_digit"]
theorem sc_law_draw : FnScope N_law_draw ["_law_pot_here", "_law_size"] (defScope s_law_draw) := C8.fnScope_by (by decide +kernel)
abbrev s_law_pick : Stmt := top 46
abbrev N_law_pick : List Str := ["_law_pot_here", "_law_some"]
theorem sc_law_pick : FnScope N_law_pick ["_law_pot_here", "_law_some"] (defScope s_law_pick) := C8.fnScope_by (by decide +kernel)
abbrev s_law_small : Stmt := top 47
abbrev N_law_small : List Str := ["_law_pot_here", "_law_most"]
theorem sc_law_small : FnScope N_law_small ["_law_pot_here", "_law_most"] (defScope s_law_small) := C8.fnScope_by (by decide +kernel)
abbrev s_law_more : Stmt := top 48
abbrev N_law_more : List Str := ["_law_rows", "_law_number", "_law_form_here", "_law_i", "_law_j"]
theorem sc_law_more : FnScope N_law_more ["_law_rows", "_law_number", "_law_form_here"] (defScope s_law_more) := C8.fnScope_by (by decide +kernel)
abbrev s_law_table : Stmt := top 49
abbrev N_law_table : List Str := ["_law_pot_here", "_law_size", "_law_way", "_law_rows", "_law_turn", "_law_i", "_law_j", "_law_one", "_law_place"]
theorem sc_law_table : FnScope N_law_table ["_law_pot_here", "_law_size"] (defScope s_law_table) := C8.fnScope_by (by decide +kernel)
abbrev s_law_handed : Stmt := top 50
abbrev N_law_handed : List Str := ["_law_pot_here", "_law_numbers", "_law_found", "_law_one"]
theorem sc_law_handed : FnScope N_law_handed ["_law_pot_here", "_law_numbers"] (defScope s_law_handed) := C8.fnScope_by (by decide +kernel)
abbrev s_law_given : Stmt := top 51
abbrev N_law_given : List Str := ["_law_pot_here", "_law_rows", "_law_found", "_law_row"]
theorem sc_law_given : FnScope N_law_given ["_law_pot_here", "_law_rows"] (defScope s_law_given) := C8.fnScope_by (by decide +kernel)
abbrev s_law_determinant : Stmt := top 52
abbrev N_law_determinant : List Str := ["_law_rows", "_law_found", "_law_sign", "_law_at", "_law_entry", "_law_row"]
theorem sc_law_determinant : FnScope N_law_determinant ["_law_rows"] (defScope s_law_determinant) := C8.fnScope_by (by decide +kernel)
abbrev s_law_choices : Stmt := top 53
abbrev N_law_choices : List Str := ["_law_many", "_law_some", "_law_found", "_law_number", "_law_one"]
theorem sc_law_choices : FnScope N_law_choices ["_law_many", "_law_some"] (defScope s_law_choices) := C8.fnScope_by (by decide +kernel)
abbrev s_law_minor : Stmt := top 54
abbrev N_law_minor : List Str := ["_law_rows", "_law_places", "_law_i", "_law_j"]
theorem sc_law_minor : FnScope N_law_minor ["_law_rows", "_law_places"] (defScope s_law_minor) := C8.fnScope_by (by decide +kernel)
abbrev s_law_sums : Stmt := top 55
abbrev N_law_sums : List Str := ["_law_rows", "_law_found", "_law_many", "_law_places"]
theorem sc_law_sums : FnScope N_law_sums ["_law_rows"] (defScope s_law_sums) := C8.fnScope_by (by decide +kernel)
abbrev s_law_changes : Stmt := top 56
abbrev N_law_changes : List Str := ["_law_numbers", "_law_left", "_law_one", "_law_other"]
theorem sc_law_changes : FnScope N_law_changes ["_law_numbers"] (defScope s_law_changes) := C8.fnScope_by (by decide +kernel)
abbrev s_law_signs : Stmt := top 57
abbrev N_law_signs : List Str := ["_law_rows", "_law_sums_here", "_law_above", "_law_below", "_law_many", "_law_one"]
theorem sc_law_signs : FnScope N_law_signs ["_law_rows"] (defScope s_law_signs) := C8.fnScope_by (by decide +kernel)
abbrev s_law_is_number : Stmt := top 58
abbrev N_law_is_number : List Str := ["_law_value"]
theorem sc_law_is_number : FnScope N_law_is_number ["_law_value"] (defScope s_law_is_number) := C8.fnScope_by (by decide +kernel)
abbrev s_law_is_list : Stmt := top 59
abbrev N_law_is_list : List Str := ["_law_value", "_law_size", "_law_one"]
theorem sc_law_is_list : FnScope N_law_is_list ["_law_value", "_law_size"] (defScope s_law_is_list) := C8.fnScope_by (by decide +kernel)
abbrev s_law_form : Stmt := top 60
abbrev N_law_form : List Str := ["_law_rows", "_law_first", "_law_second", "_law_size", "_law_i", "_law_j"]
theorem sc_law_form : FnScope N_law_form ["_law_rows", "_law_first", "_law_second"] (defScope s_law_form) := C8.fnScope_by (by decide +kernel)
abbrev s_law_looks : Stmt := top 61
abbrev N_law_looks : List Str := ["_law_rows", "_law_value", "_law_first", "_law_second", "_law_one"]
theorem sc_law_looks : FnScope N_law_looks ["_law_rows", "_law_value"] (defScope s_law_looks) := C8.fnScope_by (by decide +kernel)
abbrev s_law_beside : Stmt := top 62
abbrev N_law_beside : List Str := ["_law_rows", "_law_first", "_law_second", "_law_worth", "_law_times", "_law_one", "_law_two"]
theorem sc_law_beside : FnScope N_law_beside ["_law_rows", "_law_first", "_law_second"] (defScope s_law_beside) := C8.fnScope_by (by decide +kernel)
abbrev s_law_list : Stmt := top 63
abbrev N_law_list : List Str := ["_law_pot_here", "_law_size", "_law_at", "_law_place"]
theorem sc_law_list : FnScope N_law_list ["_law_pot_here", "_law_size"] (defScope s_law_list) := C8.fnScope_by (by decide +kernel)
abbrev s_law_values : Stmt := top 64
abbrev N_law_values : List Str := ["_law_pot_here", "_law_rows", "_law_pair", "_law_size", "_law_found", "_law_turn", "_law_first", "_law_second", "_law_times", "_law_at", "_law_odd", "_law_one", "_law_two"]
theorem sc_law_values : FnScope N_law_values ["_law_pot_here", "_law_rows", "_law_pair"] (defScope s_law_values) := C8.fnScope_by (by decide +kernel)
abbrev s_law_right : Stmt := top 65
abbrev N_law_right : List Str := ["_law_pot_here", "_law_size", "_law_rows", "_law_given_here", "_law_above", "_law_stay", "_law_told", "_law_shown", "_law_again", "_law_value", "_law_due", "_law_found", "_law_one", "_law_part"]
theorem sc_law_right : FnScope N_law_right ["_law_pot_here"] (defScope s_law_right) := C8.fnScope_by (by decide +kernel)
abbrev s_law : Stmt := top 66
abbrev N_law : List Str := ["_law_script", "_law_k"]
theorem sc_law : FnScope N_law ["_law_script"] (defScope s_law) := C8.fnScope_by (by decide +kernel)
abbrev s_R_add : Stmt := L2.inClass (top 13) 6
abbrev N_R_add : List Str := ["self", "other", "top", "bottom"]
theorem sc_R_add : FnScope N_R_add ["self", "other"] (defScope s_R_add) := C8.fnScope_by (by decide +kernel)
abbrev s_R_sub : Stmt := L2.inClass (top 13) 8
abbrev N_R_sub : List Str := ["self", "other", "top", "bottom"]
theorem sc_R_sub : FnScope N_R_sub ["self", "other"] (defScope s_R_sub) := C8.fnScope_by (by decide +kernel)
abbrev s_R_rsub : Stmt := L2.inClass (top 13) 9
abbrev N_R_rsub : List Str := ["self", "other", "top", "bottom"]
theorem sc_R_rsub : FnScope N_R_rsub ["self", "other"] (defScope s_R_rsub) := C8.fnScope_by (by decide +kernel)
abbrev s_R_mul : Stmt := L2.inClass (top 13) 10
abbrev N_R_mul : List Str := ["self", "other", "top", "bottom"]
theorem sc_R_mul : FnScope N_R_mul ["self", "other"] (defScope s_R_mul) := C8.fnScope_by (by decide +kernel)
abbrev s_R_rmul : Stmt := L2.inClass (top 13) 11
abbrev N_R_rmul : List Str := ["self", "other", "top", "bottom"]
theorem sc_R_rmul : FnScope N_R_rmul ["self", "other"] (defScope s_R_rmul) := C8.fnScope_by (by decide +kernel)
abbrev s_R_neg : Stmt := L2.inClass (top 13) 12
abbrev N_R_neg : List Str := ["self"]
theorem sc_R_neg : FnScope N_R_neg ["self"] (defScope s_R_neg) := C8.fnScope_by (by decide +kernel)
abbrev s_R_over : Stmt := L2.inClass (top 13) 13
abbrev N_R_over : List Str := ["self", "other", "top", "bottom"]
theorem sc_R_over : FnScope N_R_over ["self", "other"] (defScope s_R_over) := C8.fnScope_by (by decide +kernel)
abbrev s_R_eq : Stmt := L2.inClass (top 13) 17
abbrev N_R_eq : List Str := ["self", "other"]
theorem sc_R_eq : FnScope N_R_eq ["self", "other"] (defScope s_R_eq) := C8.fnScope_by (by decide +kernel)
abbrev s_R_repr : Stmt := L2.inClass (top 13) 19
abbrev N_R_repr : List Str := ["self"]
theorem sc_R_repr : FnScope N_R_repr ["self"] (defScope s_R_repr) := C8.fnScope_by (by decide +kernel)
abbrev s_R_top : Stmt := L2.inClass (top 13) 1
abbrev N_R_top : List Str := ["self"]
theorem sc_R_top : FnScope N_R_top ["self"] (defScope s_R_top) := C8.fnScope_by (by decide +kernel)
abbrev s_R_bottom : Stmt := L2.inClass (top 13) 2
abbrev N_R_bottom : List Str := ["self"]
theorem sc_R_bottom : FnScope N_R_bottom ["self"] (defScope s_R_bottom) := C8.fnScope_by (by decide +kernel)
abbrev s_R_sign : Stmt := L2.inClass (top 13) 3
abbrev N_R_sign : List Str := ["self"]
theorem sc_R_sign : FnScope N_R_sign ["self"] (defScope s_R_sign) := C8.fnScope_by (by decide +kernel)
abbrev s_R_init : Stmt := L2.inClass (top 13) 0
abbrev N_R_init : List Str := ["self", "top", "bottom", "common"]
theorem sc_R_init : FnScope N_R_init ["self", "top", "bottom"] (defScope s_R_init) := C8.fnScope_by (by decide +kernel)
abbrev s_R_total : Stmt := L2.inClass (top 13) 5
abbrev N_R_total : List Str := ["cls", "numbers", "number"]
theorem sc_R_total : FnScope N_R_total ["cls", "numbers"] (defScope s_R_total) := C8.fnScope_by (by decide +kernel)
/-- what the top leaves -/
structure Txt (P : Program) (w : World) (K : PySem.W.Frag) (mg : Str → Option Value) (base : Heap) (C : Addr) : Prop where
  tree : P.given.tree = none
  seer : base.NoSeer
  cl : Cls K C
  isi : C8.InsC K C
  k_ct : ∀ t, t ∈ ["int", "bool", "list", "tuple"] → PySem.W.kitOne K (.ref C) (.type t) = some false
  k_tc : ∀ t, t ∈ ["NoneType", "bool", "int", "str", "list", "tuple", "dict"] → PySem.W.kitOne K (.type t) (.ref C) = some false
  kp : PySem.W.keepIn K (.ref C) = true
  nT : NoAttr K C "own_top"
  nB : NoAttr K C "own_bottom"
  g_Ratio : ∃ u, mg "Ratio" = some u ∧ RelV (.ref C) u
  gRatio : mg "Ratio" = some (.ref C)
  g_PART : ∃ u, mg "PART" = some u ∧ RelV (.int (10 ^ 60)) u
  g_MOST_ROWS : ∃ u, mg "MOST_ROWS" = some u ∧ RelV (.int 20) u
  n_abs : mg "abs" = none
  n_all : mg "all" = none
  n_bool : mg "bool" = none
  n_divmod : mg "divmod" = none
  n_enumerate : mg "enumerate" = none
  n_int : mg "int" = none
  n_isinstance : mg "isinstance" = none
  n_len : mg "len" = none
  n_list : mg "list" = none
  n_max : mg "max" = none
  n_min : mg "min" = none
  n_range : mg "range" = none
  n_repr : mg "repr" = none
  n_str : mg "str" = none
  n_tuple : mg "tuple" = none
  n_zip : mg "zip" = none
  d_is_integer : DefAt K mg "is_integer" s_is_integer
  d_is_list : DefAt K mg "is_list" s_is_list
  d_digits_of : DefAt K mg "digits_of" s_digits_of
  d_common_part : DefAt K mg "common_part" s_common_part
  d_told_pair : DefAt K mg "told_pair" s_told_pair
  d_is_number : DefAt K mg "is_number" s_is_number
  d_ratio_of : DefAt K mg "ratio_of" s_ratio_of
  d_want_number : DefAt K mg "want_number" s_want_number
  d_total_of : DefAt K mg "total_of" s_total_of
  d_weighed : DefAt K mg "weighed" s_weighed
  d_are_numbers : DefAt K mg "are_numbers" s_are_numbers
  d_are_alike : DefAt K mg "are_alike" s_are_alike
  d_is_table : DefAt K mg "is_table" s_is_table
  d_ratios_of : DefAt K mg "ratios_of" s_ratios_of
  d_told_rows : DefAt K mg "told_rows" s_told_rows
  d_made_by : DefAt K mg "made_by" s_made_by
  d_value_in : DefAt K mg "value_in" s_value_in
  d_lessened : DefAt K mg "lessened" s_lessened
  d_pivot_at : DefAt K mg "pivot_at" s_pivot_at
  d_steps_in : DefAt K mg "steps_in" s_steps_in
  d_single_at : DefAt K mg "single_at" s_single_at
  d_pair_at : DefAt K mg "pair_at" s_pair_at
  d_less_square : DefAt K mg "less_square" s_less_square
  d_next_squares : DefAt K mg "next_squares" s_next_squares
  d_squares_in : DefAt K mg "squares_in" s_squares_in
  d_list_with : DefAt K mg "list_with" s_list_with
  d_above_in : DefAt K mg "above_in" s_above_in
  d_two_above : DefAt K mg "two_above" s_two_above
  d_is_two_above : DefAt K mg "is_two_above" s_is_two_above
  d_law_pot : DefAt K mg "_law_pot" s_law_pot
  d_law_draw : DefAt K mg "_law_draw" s_law_draw
  d_law_pick : DefAt K mg "_law_pick" s_law_pick
  d_law_small : DefAt K mg "_law_small" s_law_small
  d_law_more : DefAt K mg "_law_more" s_law_more
  d_law_table : DefAt K mg "_law_table" s_law_table
  d_law_handed : DefAt K mg "_law_handed" s_law_handed
  d_law_given : DefAt K mg "_law_given" s_law_given
  d_law_determinant : DefAt K mg "_law_determinant" s_law_determinant
  d_law_choices : DefAt K mg "_law_choices" s_law_choices
  d_law_minor : DefAt K mg "_law_minor" s_law_minor
  d_law_sums : DefAt K mg "_law_sums" s_law_sums
  d_law_changes : DefAt K mg "_law_changes" s_law_changes
  d_law_signs : DefAt K mg "_law_signs" s_law_signs
  d_law_is_number : DefAt K mg "_law_is_number" s_law_is_number
  d_law_is_list : DefAt K mg "_law_is_list" s_law_is_list
  d_law_form : DefAt K mg "_law_form" s_law_form
  d_law_looks : DefAt K mg "_law_looks" s_law_looks
  d_law_beside : DefAt K mg "_law_beside" s_law_beside
  d_law_list : DefAt K mg "_law_list" s_law_list
  d_law_values : DefAt K mg "_law_values" s_law_values
  d_law_right : DefAt K mg "_law_right" s_law_right
  d_law : DefAt K mg "law" s_law
  d_R_add : MetAt K C "__add__" "Ratio.__add__" s_R_add
  d_R_sub : MetAt K C "__sub__" "Ratio.__sub__" s_R_sub
  d_R_rsub : MetAt K C "__rsub__" "Ratio.__rsub__" s_R_rsub
  d_R_mul : MetAt K C "__mul__" "Ratio.__mul__" s_R_mul
  d_R_rmul : MetAt K C "__rmul__" "Ratio.__rmul__" s_R_rmul
  d_R_neg : MetAt K C "__neg__" "Ratio.__neg__" s_R_neg
  d_R_over : MetAt K C "over" "Ratio.over" s_R_over
  d_R_eq : MetAt K C "__eq__" "Ratio.__eq__" s_R_eq
  d_R_repr : MetAt K C "__repr__" "Ratio.__repr__" s_R_repr
  d_R_top : PrpAt K C "top" "Ratio.top" s_R_top
  d_R_bottom : PrpAt K C "bottom" "Ratio.bottom" s_R_bottom
  d_R_sign : PrpAt K C "sign" "Ratio.sign" s_R_sign
  d_R_init : IniAt K C "Ratio.__init__" s_R_init (.int 1)
  d_R_total : ClmAt K C "total" "Ratio.total" s_R_total
  o_add : ∃ f g, Own2 K C f g .Add ∧ Meth K C "__add__" f
  o_sub : ∃ f g, Own2 K C f g .Sub ∧ Meth K C "__sub__" f
  o_mul : ∃ f g, Own2 K C f g .Mult ∧ Meth K C "__mul__" f
  o_rsub : ∃ f g, OwnR K C f g .Sub "int.__sub__" ∧ Meth K C "__rsub__" g
  o_rmul : ∃ f g, OwnR K C f g .Mult "int.__mul__" ∧ Meth K C "__rmul__" g
  o_eq : ∃ f, OwnEq K C f ∧ Meth K C "__eq__" f
end On
set_option Elab.async false
set_option linter.all false
set_option maxRecDepth 100000
set_option maxHeartbeats 4000000
/-! How a def of the text is taken: its body as a derivation, its promise. -/
namespace On
open PySem PySem.Spec PyProof.Rows L2
section
variable {P : Program} {w : World} {K : PySem.W.Frag} {mg : Str → Option Value} {base : Heap} {C : Addr}
/-- the body of a def: for each entry a derivation and its reading -/
abbrev BodyOk (P : Program) (w : World) (K : PySem.W.Frag) (mg : Str → Option Value) (base : Heap) (k : Nat) (N : List Str) (qual : Str) (st : Stmt) (f : Addr) (sp : Sp) : Prop :=
  ∀ (cdv : Value) (A : Around) (outer : List Env) (s : Shared) (H : Hp) (vs : List V) (Q : VK) (E : XK), Room k (A.deeper (envOfC qual (defScope st) s.heap.objs.size f cdv)) → sp vs H Q E →
    ∃ t, PSs (cxOf CX0 P w K mg base N qual (defScope st) f cdv A outer s H E).nox (defBody st) t ∧ t { nx := fun _ H' => Q .non H', rt := Q } (start N vs) H
theorem fn_by {x qual : Str} {st : Stmt} {dvs : List V} {kws : List (Str × V)} {f : Addr} {fd : FuncData} {N ps : List Str} {k : Nat} {sp : Sp} (F : FunD K x qual (defArgs st) (defBody st) (defScope st) dvs kws f fd) (S : FnScope N ps (defScope st))
    (len : ∀ vs H Q E, sp vs H Q E → vs.length = ps.length) (hb : BodyOk P w K mg base k N qual st f sp) : FnOk P w K mg base CX0 (k + 1) f fd ps sp :=
  F.ok S len fun cdv A outer s H vs Q E hr h => let ⟨t, h1, h2⟩ := hb cdv A outer s H vs Q E hr h; ⟨t, h1.nox, h2⟩
/-- how written arguments bind -/
abbrev BindOk (x qual : Str) (st : Stmt) (ps : List Str) : Prop := ∀ (kV doc pm : Value) (an : Option Addr) (cdv ct : Value) (us : List Value), us.length = ps.length → bindArgs (PySem.W.fnOf x qual (defArgs st) (defBody st) (defScope st) .none kV doc pm an cdv ct) ⟨us, []⟩ = pure (ps.zip us)
theorem cal_by {x : Str} {st : Stmt} {N ps : List Str} {k : Nat} {sp : Sp} (D : DefAt K mg x st) (S : FnScope N ps (defScope st)) (b : BindOk x x st ps) (len : ∀ vs H Q E, sp vs H Q E → vs.length = ps.length)
    (hb : ∀ f, BodyOk P w K mg base k N x st f sp) : C8.Cal P w K mg base (k + 1) x sp [] := by
  obtain ⟨f, fd, F, hm⟩ := D.ex
  exact ⟨f, fd, ps, [], fn_by F S len (hb f), hm, F.kp, F.bindsN b, .nil⟩
theorem met_by {m qual : Str} {st : Stmt} {N ps : List Str} {k : Nat} {sp : Sp} (c : Cls K C) (D : MetAt K C m qual st) (S : FnScope N ps (defScope st)) (b : BindOk m qual st ps) (len : ∀ vs H Q E, sp vs H Q E → vs.length = ps.length)
    (hb : ∀ f, BodyOk P w K mg base k N qual st f sp) : C8.Met P w K mg base (k + 1) C m sp [] := by
  obtain ⟨f, fd, F, hm⟩ := D.ex
  exact ⟨f, fd, ps, [], c, hm, fn_by F S len (hb f), F.bindsN b, .nil⟩
/-- a property -/
structure Prp (P : Program) (w : World) (K : PySem.W.Frag) (mg : Str → Option Value) (base : Heap) (k : Nat) (C : Addr) (f : Str) (sp : Sp) : Prop where
  ex : ∃ (p g : Addr) (fd : FuncData) (ps : List Str), Cls K C ∧ PropOf K C f p g ∧ FnOk P w K mg base CX0 k g fd ps sp ∧ Binds K fd ps []
theorem prp_by {m qual : Str} {st : Stmt} {N ps : List Str} {k : Nat} {sp : Sp} (c : Cls K C) (D : PrpAt K C m qual st) (S : FnScope N ps (defScope st)) (b : BindOk m qual st ps) (len : ∀ vs H Q E, sp vs H Q E → vs.length = ps.length)
    (hb : ∀ f, BodyOk P w K mg base k N qual st f sp) : Prp P w K mg base (k + 1) C m sp := by
  obtain ⟨p, f, fd, F, hp⟩ := D.ex
  exact ⟨p, f, fd, ps, c, hp, fn_by F S len (hb f), F.bindsN b⟩
end
section
variable {X : Cx} {k j : Nat} {C : Addr} {f : Str} {sp : Sp} {e : Expr} {pos : Pos} {ta : TE}
theorem pe_pp (c : Prp X.prog X.w X.K X.mg X.base k C f sp) (hr : Room j X.A) (hk : k + 1 ≤ j) (he : PE X e ta) (hab : attributeBase e f X.env (eval e X.env) = eval e X.env) : PE X (.Attribute e f pos) (tProp C sp [] E0 ta) := by
  obtain ⟨p, g, fd, ps, hc, hp, F, hb⟩ := c.ex
  exact pe_prop he hc hp F (hr.mono hk) hb .nil pass0 hab
/-- a constant of the module -/
theorem pe_gc {x : Str} {v : V} (hg : Gl X x) (h : ∃ u, X.mg x = some u ∧ RelV v u) (hd : (x == ("__debug__" : Str)) = false := by decide) : PE X (.Name x pos) (tC v) := by
  obtain ⟨u, h1, h2⟩ := h
  exact pe_glob hg h1 h2 hd
end
theorem bo_len : bootBuiltins "len" = some (.builtin "len") := PySem.boot_len
theorem bo_abs : bootBuiltins "abs" = some (.builtin "abs") := by decide +kernel
theorem bo_isinstance : bootBuiltins "isinstance" = some (.builtin "isinstance") := by decide +kernel
theorem bo_int : bootBuiltins "int" = some (.type "int") := by decide +kernel
theorem bo_str : bootBuiltins "str" = some (.type "str") := by decide +kernel
theorem bo_bool : bootBuiltins "bool" = some (.type "bool") := by decide +kernel
theorem bo_list : bootBuiltins "list" = some (.type "list") := by decide +kernel
theorem bo_tuple : bootBuiltins "tuple" = some (.type "tuple") := by decide +kernel
theorem bo_max : bootBuiltins "max" = some (.builtin "max") := by decide +kernel
theorem bo_min : bootBuiltins "min" = some (.builtin "min") := by decide +kernel
theorem bo_divmod : bootBuiltins "divmod" = some (.builtin "divmod") := by decide +kernel
theorem bo_all : bootBuiltins "all" = some (.builtin "all") := by decide +kernel
theorem bo_repr : bootBuiltins "repr" = some (.builtin "repr") := by decide +kernel

/-! ### what is asked of values: kinds -/
/-- a value's kind, so far as the text asks it -/
inductive Kind where
  | non | bl | int | str | rat | lst | tup | dct
  deriving DecidableEq
def kindOf (C : Addr) (k : Kind) (v : V) (H : Hp) : Prop := match k with
  | .non => v = .non
  | .bl => ∃ b, v = .bl b
  | .int => ∃ i, v = .int i
  | .str => ∃ s, v = .str s
  | .rat => ∃ a dx fs, v = .ref a ∧ H a = some (.ins C dx fs)
  | .lst => ∃ a xs, v = .ref a ∧ H a = some (.lst xs)
  | .tup => ∃ a xs, v = .ref a ∧ H a = some (.tup xs)
  | .dct => ∃ a xs, v = .ref a ∧ H a = some (.dK xs)
theorem up_kind {C : Addr} : Up (kindOf C) := fun k v H H' e h => by
  cases k with
  | non => exact h
  | bl => exact h
  | int => exact h
  | str => exact h
  | rat => obtain ⟨a, dx, fs, h1, h2⟩ := h; exact ⟨a, dx, fs, h1, e _ _ h2⟩
  | lst => obtain ⟨a, xs, h1, h2⟩ := h; exact ⟨a, xs, h1, e _ _ h2⟩
  | tup => obtain ⟨a, xs, h1, h2⟩ := h; exact ⟨a, xs, h1, e _ _ h2⟩
  | dct => obtain ⟨a, xs, h1, h2⟩ := h; exact ⟨a, xs, h1, e _ _ h2⟩
def Kind.ty (C : Addr) : Kind → Value
  | .non => .type "NoneType" | .bl => .type "bool" | .int => .type "int" | .str => .type "str" | .rat => .ref C | .lst => .type "list" | .tup => .type "tuple" | .dct => .type "dict"
theorem kind_ty {K : PySem.W.Frag} {C : Addr} (hi : C8.InsC K C) {k : Kind} {v : V} {H : Hp} (h : kindOf C k v H) : TyX K H v (k.ty C) := by
  cases k with
  | non => cases h; exact .base .non
  | bl => obtain ⟨b, rfl⟩ := h; exact .base (.bl b)
  | int => obtain ⟨b, rfl⟩ := h; exact .base (.int b)
  | str => obtain ⟨b, rfl⟩ := h; exact .base (.str b)
  | rat => obtain ⟨a, dx, fs, rfl, h⟩ := h; exact .base (.ins h hi.cl hi.ha hi.hn hi.htk hi.hm)
  | lst => obtain ⟨a, xs, rfl, h⟩ := h; exact .base (.lst h)
  | tup => obtain ⟨a, xs, rfl, h⟩ := h; exact .base (.tup h)
  | dct => obtain ⟨a, xs, rfl, h⟩ := h; exact .base (.dK h)
end On
set_option Elab.async false
set_option linter.all false
set_option maxRecDepth 100000
set_option maxHeartbeats 4000000
/-! Statements over what is known; calls of built-ins. -/
namespace On
open PySem PySem.Spec PyProof.Rows L2
section
variable {K : PySem.W.Frag} {σ : L2.St} {G0 H1 G H H' : Hp} {ta tb tc te : TE} {tt : TT} {P P' : V → Hp → Prop} {v w : V} {γ δ ε : Type} {R : γ → V → Hp → Prop} {S : δ → V → Hp → Prop} {x : γ} {y : δ} {D : Ends} {tu tw tz : TS} {Q : VK}
theorem fin_ret (g : Grow G0 H1 G H) (h : Ev te σ G P) (k : ∀ v G' H', Grow G0 H1 G' H' → P v G' → Q v H') : te σ H Q := h H g.re _ fun v G' H3 g' p => k v G' H3 (g.trans g') p
theorem s_ret (g : Grow G0 H1 G H) (h : Ev te σ G P) (k : ∀ v G' H', Grow G0 H1 G' H' → P v G' → D.rt v H') : tRet te D σ H := fin_ret g h k
theorem s_set {i : Nat} (g : Grow G0 H1 G H) (h : Ev te σ G P) (k : ∀ v G' H', Grow G0 H1 G' H' → P v G' → D.nx (σ.set i (some v)) H') : tAsg te (gName i) D σ H := fin_ret (Q := fun v H' => D.nx (σ.set i (some v)) H') g h k
theorem q_set {i : Nat} (g : Grow G0 H1 G H) (h : Ev te σ G P) (k : ∀ v G' H', Grow G0 H1 G' H' → P v G' → tz D (σ.set i (some v)) H') : tSeq (tAsg te (gName i)) tz D σ H := fin_ret (Q := fun v H' => tz D (σ.set i (some v)) H') g h k
theorem s_if {b : Bool} (g : Grow G0 H1 G H) (h : EvT tt σ G b) (h1 : b = true → ∀ H', Grow G0 H1 G H' → tu D σ H') (h2 : b = false → ∀ H', Grow G0 H1 G H' → tw D σ H') : tIfS tt tu tw D σ H := h H g.re _ fun H2 e2 => by
  cases b with
  | true =>
    show tu D σ H2
    exact h1 rfl H2 (g.more e2)
  | false =>
    show tw D σ H2
    exact h2 rfl H2 (g.more e2)
theorem q_if {b : Bool} (g : Grow G0 H1 G H) (h : EvT tt σ G b) (h1 : b = true → ∀ H', Grow G0 H1 G H' → tu { D with nx := tz D } σ H') (h2 : b = false → ∀ H', Grow G0 H1 G H' → tw { D with nx := tz D } σ H') : tSeq (tIfS tt tu tw) tz D σ H := s_if (D := { D with nx := tz D }) g h h1 h2
/-- an if that is not taken, without else -/
theorem q_skip (g : Grow G0 H1 G H) (h : EvT tt σ G false) (k : ∀ H', Grow G0 H1 G H' → tz D σ H') : tSeq (tIfS tt tu tNext) tz D σ H := q_if g h (fun z => by cases z) fun _ => k
/-- an if that is taken and does not go on -/
theorem q_take (g : Grow G0 H1 G H) (h : EvT tt σ G true) (k : ∀ H', Grow G0 H1 G H' → tu { D with nx := tz D } σ H') : tSeq (tIfS tt tu tw) tz D σ H := q_if g h (fun _ => k) fun z => by cases z
theorem s_par {i j : Nat} (up : Up R) (up2 : Up S) (g : Grow G0 H1 G H) (ha : Ev ta σ G (R x)) (hb : Ev tb σ G (S y)) (k : ∀ v w G' H', Grow G0 H1 G' H' → R x v G' → S y w G' → D.nx ((σ.set i (some v)).set j (some w)) H') :
    tPar i j (tCons ta (tCons tb tNil)) D σ H := ea_2 up up2 ha hb H g.re _ fun vs G' H' g' ⟨v, w, e, r, s⟩ => ⟨v, w, e, k v w G' H' (g.trans g') r s⟩
theorem q_par {i j : Nat} (up : Up R) (up2 : Up S) (g : Grow G0 H1 G H) (ha : Ev ta σ G (R x)) (hb : Ev tb σ G (S y)) (k : ∀ v w G' H', Grow G0 H1 G' H' → R x v G' → S y w G' → tz D ((σ.set i (some v)).set j (some w)) H') :
    tSeq (tPar i j (tCons ta (tCons tb tNil))) tz D σ H := s_par (D := { D with nx := tz D }) up up2 g ha hb k
theorem s_drop (g : Grow G0 H1 G H) (h : Ev te σ G P) (k : ∀ v G' H', Grow G0 H1 G' H' → P v G' → D.nx σ H') : tDrop te D σ H := fin_ret (Q := fun _ H' => D.nx σ H') g h k
/-- a, b = e, e a tuple of two -/
theorem q_unpack {i j : Nat} (g : Grow G0 H1 G H) (h : Ev te σ G (pairOf R S (x, y))) (k : ∀ v w G' H', Grow G0 H1 G' H' → R x v G' → S y w G' → tz D ((σ.set i (some v)).set j (some w)) H') :
    tSeq (tAsg te (gTup K 2 (gCons (gName i) (gCons (gName j) gNil)))) tz D σ H :=
  fin_ret (Q := fun v H' => gTup K 2 (gCons (gName i) (gCons (gName j) gNil)) v σ H' fun σ2 H2 => tz D σ2 H2) g h fun v G' H' g' ⟨t, a, b, e, ht, ra, sb⟩ => by
    subst e
    exact step_pair (K := K) (i := i) (j := j) (g'.re _ _ ht) (fun σ2 H2 => tz D σ2 H2) (k a b G' H' g' ra sb)

/-! ### calls of built-ins -/
theorem ev_isi {C : Addr} {k : Kind} {b : Bool} {c : V} {u : Value} (hi : C8.InsC K C) (hc : ClsV c u) (hk : PySem.W.kitOne K (k.ty C) u = some b) (h : Ev ta σ H (kindOf C k)) : Ev (tCB (rIsi K) (tCons ta (tCons (tC c) tNil))) σ H (isV (.bl b)) :=
  ev_cb (ea_2 up_kind up_isV h ev_c) fun vs G e ⟨v, w, ev, hv, hw⟩ => Tr.same rfl fun H1 e1 Q q => by
    obtain rfl : w = c := hw
    exact ⟨v, w, k.ty C, u, b, ev, hc, kind_ty hi (up_kind _ _ _ _ e1 hv), hk, q⟩
theorem ev_isi2 {C : Addr} {k : Kind} {b : Bool} {n1 n2 : String} (hi : C8.InsC K C) (hk : PySem.W.kitAny K (k.ty C) [.type n1, .type n2] = some b) (h : Ev ta σ H (kindOf C k)) :
    Ev (tCB (rIsiT K) (tCons ta (tCons (tTup (tCons (tC (.ty n1)) (tCons (tC (.ty n2)) tNil))) tNil))) σ H (isV (.bl b)) := fun H1 e Q q =>
  h H1 e _ fun v G H2 g hv => ⟨by show 2 ≤ sizeLine; decide, fun p hp => ⟨v, p, [.ty n1, .ty n2], k.ty C, [.type n1, .type n2], b, rfl, upd_same, .cons (.ty _) (.cons (.ty _) .nil), kind_ty hi (up_kind _ _ _ _ (g.re.trans (Ex.new hp)) hv), hk,
    q _ G _ (g.more (Ex.new hp)) rfl⟩⟩
theorem ev_abs {i : Int} (h : Ev ta σ H (isV (.int i))) : Ev (tCB (fun xs H Q => ∃ i : Int, xs = [.int i] ∧ Q (.int (if i < 0 then -i else i)) H) (tCons ta tNil)) σ H (isV (.int i.natAbs)) :=
  ev_cb (ea_1 h) fun vs G e ⟨v, ev, hv⟩ => Tr.same rfl fun H1 e1 Q q => by
    obtain rfl : v = .int i := hv
    refine ⟨i, ev, ?_⟩
    have : (if i < 0 then -i else i) = (i.natAbs : Int) := by split <;> omega
    rw [this]
    exact q
end
/-- is_integer of a kind -/
def Kind.isInt (k : Kind) : Bool := k == .int
theorem kit_tt {K : PySem.W.Frag} {a b : String} {r : Bool} (h : kitB a b = some r) : PySem.W.kitOne K (.type a) (.type b) = some r := kit_ty h
section
variable {P : Program} {w : World} {K : PySem.W.Frag} {mg : Str → Option Value} {base : Heap} {C : Addr}
theorem isa_int (T : Txt P w K mg base C) (k : Kind) : PySem.W.kitOne K (k.ty C) (.type "int") = some (k == .int || k == .bl) := by
  cases k <;> first | exact kit_tt (by decide +kernel) | exact T.k_ct _ (by decide)
theorem isa_bool (T : Txt P w K mg base C) (k : Kind) : PySem.W.kitOne K (k.ty C) (.type "bool") = some (k == .bl) := by
  cases k <;> first | exact kit_tt (by decide +kernel) | exact T.k_ct _ (by decide)
theorem isa_list (T : Txt P w K mg base C) (k : Kind) : PySem.W.kitOne K (k.ty C) (.type "list") = some (k == .lst) := by
  cases k <;> first | exact kit_tt (by decide +kernel) | exact T.k_ct _ (by decide)
theorem isa_tuple (T : Txt P w K mg base C) (k : Kind) : PySem.W.kitOne K (k.ty C) (.type "tuple") = some (k == .tup) := by
  cases k <;> first | exact kit_tt (by decide +kernel) | exact T.k_ct _ (by decide)
theorem isa_ratio (T : Txt P w K mg base C) (k : Kind) : PySem.W.kitOne K (k.ty C) (.ref C) = some (k == .rat) := by
  cases k <;> first | exact T.isi.me | exact T.k_tc _ (by decide)
theorem isa_lt (T : Txt P w K mg base C) (k : Kind) : PySem.W.kitAny K (k.ty C) [.type "list", .type "tuple"] = some (k == .lst || k == .tup) := by
  refine kitAny_cons (isa_list T k) (fun h => kitAny_cons (isa_tuple T k) (fun h2 => ?_) fun h2 => ?_) fun h => ?_
  · rw [h, h2]; exact kitAny_nil
  · rw [h, h2]; rfl
  · rw [h]; rfl

/-! ### is_integer, is_list, common_part -/
def spKind (f : Kind → Bool) (C : Addr) : Sp := Pu (γ := Kind) (fun k vs H => ∃ v, vs = [v] ∧ kindOf C k v H) fun k _ v _ => v = .bl (f k)
theorem len1 {γ : Type} {Pre : γ → List V → Hp → Prop} {Post : γ → Hp → V → Hp → Prop} {n : Nat} (h : ∀ g vs H, Pre g vs H → vs.length = n) : ∀ vs H Q E, Pu Pre Post vs H Q E → vs.length = n := fun _ _ _ _ ⟨g, H0, _, p, _⟩ => h g _ _ p
theorem c_is_integer (T : Txt P w K mg base C) : C8.Cal P w K mg base 1 "is_integer" (spKind Kind.isInt C) [] := by
  refine cal_by T.d_is_integer sc_is_integer (fun _ _ _ _ _ _ us hl => match us, hl with | [_], _ => rfl) (len1 fun g vs H ⟨v, e, _⟩ => by rw [e] <;> rfl) fun f cdv A outer s H vs Q E hr h => ?_
  obtain ⟨k, G, e, ⟨v, rfl, hk⟩, q⟩ := h
  refine ⟨_, (pss_one (ps_ret (pe_and (pe_callB call_isi (by rfl) T.n_isinstance bo_isinstance (pa_cons (pv 0) (pa_cons (pe_bltn (v := .ty "int") rfl T.n_int bo_int rfl) pa_nil))) (pe_one (pe_not (pe_callB call_isi (by rfl) T.n_isinstance bo_isinstance (pa_cons (pv 0) (pa_cons (pe_bltn (v := .ty "bool") rfl T.n_bool bo_bool rfl) pa_nil)))))))), ?_⟩
  refine s_ret (Grow.rfl e) (ev_andV (ev_isi T.isi (.ty _) (isa_int T k) (ev_slot rfl hk)) fun _ => ev_notV (ev_isi T.isi (.ty _) (isa_bool T k) (ev_slot rfl hk))) fun v' G' H' g p => q v' G' H' g ?_
  obtain rfl : v' = _ := p
  cases k <;> rfl
theorem c_is_list (T : Txt P w K mg base C) : C8.Cal P w K mg base 1 "is_list" (spKind (fun k => k == .lst || k == .tup) C) [] := by
  refine cal_by T.d_is_list sc_is_list (fun _ _ _ _ _ _ us hl => match us, hl with | [_], _ => rfl) (len1 fun g vs H ⟨v, e, _⟩ => by rw [e] <;> rfl) fun f cdv A outer s H vs Q E hr h => ?_
  obtain ⟨k, G, e, ⟨v, rfl, hk⟩, q⟩ := h
  refine ⟨_, (pss_one (ps_ret (pe_callB call_isiT (by rfl) T.n_isinstance bo_isinstance (pa_cons (pv 0) (pa_cons (pe_tup (pa_cons (pe_bltn (v := .ty "list") rfl T.n_list bo_list rfl) (pa_cons (pe_bltn (v := .ty "tuple") rfl T.n_tuple bo_tuple rfl) pa_nil))) pa_nil))))), ?_⟩
  exact s_ret (Grow.rfl e) (ev_isi2 T.isi (isa_lt T k) (ev_slot rfl hk)) q
end
end On
set_option Elab.async false
set_option linter.all false
set_option maxRecDepth 100000
set_option maxHeartbeats 4000000
/-! common_part; a Ratio object and its __init__. -/
namespace On
open PySem PySem.Spec PyProof.Rows L2
section
variable {K : PySem.W.Frag} {σ : L2.St} {G0 H1 G H H' : Hp} {ta tb tc te : TE} {tt : TT} {P P' : V → Hp → Prop} {v w : V} {D : Ends} {tu tw tz : TS} {Q : VK}
/-- while, by a word of the slots, of what is known and of the heap, and a number that falls -/
theorem q_while (I : Nat → L2.St → Hp → Hp → Prop) (m0 : Nat) (g : Grow G0 H1 G H) (i0 : I m0 σ G H)
    (hs : ∀ m σ G H, Grow G0 H1 G H → I m σ G H → ∃ b, EvT tt σ G b ∧ (b = true → ∀ H', Grow G0 H1 G H' → Ex H H' → ∀ N : L2.St → Hp → Prop, (∀ m' σ' G' H'', m' < m → Grow G0 H1 G' H'' → I m' σ' G' H'' → N σ' H'') → tu { D with nx := N, ct := N, bk := tz D } σ H') ∧ (b = false → ∀ H', Grow G0 H1 G H' → Ex H H' → tz D σ H')) :
    tSeq (tWhile tt tu) tz D σ H := by
  refine ⟨fun m σ H => ∃ G, Grow G0 H1 G H ∧ I m σ G H, ⟨m0, G, g, i0⟩, ?_⟩
  rintro m σ H ⟨G, g, i⟩
  obtain ⟨b, ht, h1, h2⟩ := hs m σ G H g i
  refine ht H g.re _ fun H2 e2 => ?_
  cases b with
  | true => exact ⟨fun σ' H'' => ∃ m', m' < m ∧ ∃ G', Grow G0 H1 G' H'' ∧ I m' σ' G' H'', fun σ' H'' ⟨m', l, G', g', i'⟩ => ⟨m', l, G', g', i'⟩, h1 rfl H2 (g.more e2) e2 _ fun m' σ' G' H'' l g' i' => ⟨m', l, G', g', i'⟩⟩
  | false => exact h2 rfl H2 (g.more e2) e2
theorem ev_int2 {op : Int → Int → V} {C : Int → Int → Prop} {i j : Int} (hc : C i j) (ha : Ev ta σ H (isV (.int i))) (hb : Ev tb σ H (isV (.int j))) : Ev (tOp (rI C op) ta tb) σ H (isV (op i j)) :=
  ev_op ha hb up_isV up_isV fun v w G _ hv hw => Tr.same rfl fun H1 e Q q => ⟨i, j, hv, hw, hc, q⟩
theorem ev_int0 {op : Int → Int → V} {i j : Int} (ha : Ev ta σ H (isV (.int i))) (hb : Ev tb σ H (isV (.int j))) : Ev (tOp (rI0 op) ta tb) σ H (isV (op i j)) :=
  ev_op ha hb up_isV up_isV fun v w G _ hv hw => Tr.same rfl fun H1 e Q q => ⟨i, j, hv, hw, q⟩
theorem ev_eqS {x y : V} (hs : scal x y = true) (ha : Ev ta σ H (isV x)) (hb : Ev tb σ H (isV y)) : Ev (tOp rEq ta tb) σ H (isV (.bl (decide (x = y)))) :=
  ev_op ha hb up_isV up_isV fun v w G _ hv hw => Tr.same rfl fun H1 e Q q => by
    obtain rfl : v = x := hv
    obtain rfl : w = y := hw
    exact ⟨hs, q⟩
theorem ev_neS {x y : V} (hs : scal x y = true) (ha : Ev ta σ H (isV x)) (hb : Ev tb σ H (isV y)) : Ev (tOp rNe ta tb) σ H (isV (.bl (!decide (x = y)))) :=
  ev_op ha hb up_isV up_isV fun v w G _ hv hw => Tr.same rfl fun H1 e Q q => by
    obtain rfl : v = x := hv
    obtain rfl : w = y := hw
    exact ⟨hs, q⟩
/-- int of an int, of a bool -/
def rInt1 : List V → Hp → VK → Prop := fun xs H Q => (∃ i, xs = [.int i] ∧ Q (.int i) H) ∨ ∃ k, xs = [.bl k] ∧ Q (.int (if k then 1 else 0)) H
theorem ev_int1 {i : Int} (h : Ev ta σ H (isV (.int i))) : Ev (tCB rInt1 (tCons ta tNil)) σ H (isV (.int i)) :=
  ev_cb (ea_1 h) fun vs G e ⟨v, ev, hv⟩ => Tr.same rfl fun H1 e1 Q q => by
    obtain rfl : v = .int i := hv
    exact .inl ⟨i, ev, q⟩
theorem ev_intB {b : Bool} (h : Ev ta σ H (isV (.bl b))) : Ev (tCB rInt1 (tCons ta tNil)) σ H (isV (.int (if b then 1 else 0))) :=
  ev_cb (ea_1 h) fun vs G e ⟨v, ev, hv⟩ => Tr.same rfl fun H1 e1 Q q => by
    obtain rfl : v = .bl b := hv
    exact .inr ⟨b, ev, q⟩
end

/-! ### a Ratio -/
/-- the attributes of the Ratio that stands for q -/
def rfs (q : Rat) : List (Str × V) := [("own_top", .int q.num), ("own_bottom", .int q.den)]
theorem ntb : ¬ (("own_top" : Str) = "own_bottom") := by decide +kernel
theorem nbt : ¬ (("own_bottom" : Str) = "own_top") := by decide +kernel
theorem rfs_top (q : Rat) : (rfs q).lookup ("own_top" : Str) = some (.int q.num) := by
  unfold rfs
  rw [List.lookup_cons, beq_self_eq_true]
theorem rfs_bot (q : Rat) : (rfs q).lookup ("own_bottom" : Str) = some (.int q.den) := by
  unfold rfs
  rw [List.lookup_cons, beq_false_of_ne nbt, List.lookup_cons, beq_self_eq_true]
theorem rfs_put (q : Rat) : putF "own_bottom" (.int q.den) (putF "own_top" (.int q.num) []) = rfs q := by
  show (if ("own_top" : Str) = "own_bottom" then [(("own_top" : Str), V.int q.den)] else (("own_top" : Str), V.int q.num) :: putF "own_bottom" (V.int q.den) []) = rfs q
  rw [if_neg ntb] <;> rfl
/-- v is a Ratio that stands for q -/
def isR (C : Addr) : Rat → V → Hp → Prop := fun q v H => ∃ a dx, v = .ref a ∧ H a = some (.ins C dx (rfs q))
theorem up_isR {C : Addr} : Up (isR C) := fun q v H H' e ⟨a, dx, h1, h2⟩ => ⟨a, dx, h1, e _ _ h2⟩
theorem isR.kind {C : Addr} {q : Rat} {v : V} {H : Hp} (h : isR C q v H) : kindOf C .rat v H := let ⟨a, dx, h1, h2⟩ := h; ⟨a, dx, _, h1, h2⟩
/-- v is an int or a Ratio that stands for q -/
def isN (C : Addr) : Rat → V → Hp → Prop := fun q v H => (∃ i : Int, v = .int i ∧ q = (i : Rat)) ∨ isR C q v H
theorem up_isN {C : Addr} : Up (isN C) := fun q v H H' e h => h.elim .inl fun h => .inr (up_isR _ _ _ _ e h)
/-- a number's kind -/
theorem isN.kind {C : Addr} {q : Rat} {v : V} {H : Hp} (h : isN C q v H) : ∃ k, kindOf C k v H ∧ (k = .int ∨ k = .rat) := by
  rcases h with ⟨i, e, _⟩ | h
  · exact ⟨.int, ⟨i, e⟩, .inl rfl⟩
  · exact ⟨.rat, h.kind, .inr rfl⟩
/-- sizes: the Ratios that are reckoned stay below this -/
def LIM : Nat := 130000000
def Bd (n : Nat) (q : Rat) : Prop := sz q ≤ 2 ^ n

section
variable {P : Program} {w : World} {K : PySem.W.Frag} {mg : Str → Option Value} {base : Heap} {C : Addr}
def spGcd : Sp := Pu (γ := Int × Int) (fun g vs _ => vs = [.int g.1, .int g.2]) fun g _ v _ => v = .int (Int.gcd g.1 g.2)
theorem c_common_part (T : Txt P w K mg base C) : C8.Cal P w K mg base 1 "common_part" spGcd [] := by
  refine cal_by T.d_common_part sc_common_part (fun _ _ _ _ _ _ us hl => match us, hl with | [_, _], _ => rfl) (len1 fun g vs H e => by rw [e] <;> rfl) fun f cdv A outer s H vs Q E hr h => ?_
  obtain ⟨⟨i, j⟩, G, e, rfl, q⟩ := h
  refine ⟨_, (pss_cons (ps_par (i := 0) (j := 1) rfl sc_common_part.nd rfl rfl (by decide) rfl rfl (pa_cons (pe_callB call_abs (by rfl) T.n_abs bo_abs (pa_cons (pv 0) pa_nil)) (pa_cons (pe_callB call_abs (by rfl) T.n_abs bo_abs (pa_cons (pv 1) pa_nil)) pa_nil)) (by rfl)) (pss_cons (ps_while PassesOwn.never (pt_cmpR op_gt (pv 1) pe_int (nomark _)) (pss_one (ps_par (i := 0) (j := 1) rfl sc_common_part.nd rfl rfl (by decide) rfl rfl (pa_cons (pv 1) (pa_cons (pe_op op_mod (pe_callTy call_int1 (by rfl) T.n_int bo_int (pa_cons (pv 0) pa_nil)) (pv 1)) pa_nil)) (by rfl)))) (pss_one (ps_ret (pv 0))))), ?_⟩
  refine q_par up_isV up_isV (Grow.rfl e) (ev_abs (ev_var rfl)) (ev_abs (ev_var rfl)) fun v w G1 H1 g1 ev ew => ?_
  subst ev
  subst ew
  refine q_while (fun m σ _ _ => ∃ a b : Nat, σ = [some (.int a), some (.int b)] ∧ m = b ∧ a.gcd b = Int.gcd i j) j.natAbs g1 ⟨i.natAbs, j.natAbs, rfl, rfl, rfl⟩ ?_
  rintro b σ G2 H2 g2 ⟨a, _, rfl, rfl, hg⟩
  refine ⟨decide ((0 : Int) < b), et_test (ev_int0 (ev_var rfl) ev_c), fun hb H3 g3 _ N hN => ?_, fun hb H3 g3 _ => ?_⟩
  · have hb' : (0 : Int) < b := of_decide_eq_true hb
    refine s_par up_isV up_isV g3 (ev_var rfl) (ev_int2 (C := fun _ j => 0 < j) hb' (ev_int1 (ev_var rfl)) (ev_var rfl)) fun v w G4 H4 g4 ev ew => ?_
    subst ev
    subst ew
    refine hN (a % b) _ G4 H4 (Nat.mod_lt _ (by omega)) g4 ⟨b, a % b, rfl, rfl, ?_⟩
    rw [← hg, Nat.gcd_comm b, ← Nat.gcd_rec, Nat.gcd_comm]
  · have hb' : b = 0 := by
      have := of_decide_eq_false hb
      omega
    subst hb'
    refine s_ret g3 (ev_var rfl) fun v G4 H4 g4 ev => q v G4 H4 g4 ?_
    obtain rfl : v = _ := ev
    rw [← hg, Nat.gcd_zero_right]
end
end On
set_option Elab.async false
set_option linter.all false
set_option maxRecDepth 100000
set_option maxHeartbeats 4000000
/-! Ratio(top, bottom). -/
namespace On
open PySem PySem.Spec PyProof.Rows L2
section
variable {P : Program} {w : World} {K : PySem.W.Frag} {mg : Str → Option Value} {base : Heap} {C : Addr}
/-- __init__: the new instance at x gets its two attributes, all else that stood stands -/
def spInit (C : Addr) : Sp := fun vs H Q _ => ∃ (x dx : Addr) (t b : Int), vs = [.ref x, .int t, .int b] ∧ b ≠ 0 ∧ H x = some (.ins C dx []) ∧
  ∀ H', (∀ a o, a ≠ x → H a = some o → H' a = some o) → H' x = some (.ins C dx (rfs (Rat.divInt t b))) → Q .non H'
theorem init_ok (T : Txt P w K mg base C) {f : Addr} : BodyOk P w K mg base 34 N_R_init "Ratio.__init__" s_R_init f (spInit C) := by
  intro cdv A outer s H vs Q E hr h
  obtain ⟨x, dx, t, b, rfl, hb, hx, q⟩ := h
  have py : Pyl (cxOf CX0 P w K mg base N_R_init "Ratio.__init__" (defScope s_R_init) f cdv A outer s H E).nox :=
    ⟨T.seer, T.tree, by have := hr.dp; show (A.deeper _).depth + 100 < _; omega, _, _, rfl, sc_R_init.gen, sc_R_init.co, rfl, rfl⟩
  refine ⟨_, (pss_cons (ps_if (pt_not (pt_val (C8.pe_c (c_is_integer T) hr (by decide) rfl (pa_cons (pv 1) pa_nil)))) pss_never pss_nil) (pss_cons (ps_if (PW.pt (pw_or (pt_not (pt_val (C8.pe_c (c_is_integer T) hr (by decide) rfl (pa_cons (pv 2) pa_nil)))) (pw_or1 (pt_cmpR op_eq (pv 2) pe_int (nomark _))))) pss_never pss_nil) (pss_cons (ps_set (i := 3) sc_R_init.nd rfl (by first | exact Or.inl rfl | exact Or.inr rfl) (C8.pe_c (c_common_part T) hr (by decide) rfl (pa_cons (pv 1) (pa_cons (pv 2) pa_nil)))) (pss_cons (ps_if (pt_cmpR op_lt (pv 2) pe_int (nomark _)) (pss_one (ps_set (i := 3) sc_R_init.nd rfl (by first | exact Or.inl rfl | exact Or.inr rfl) (pe_op op_sub pe_int (pv 3)))) pss_nil) (pss_cons (ps_fld (pv 0) (pe_op (op_fdivX py) (pv 1) (pv 3)) rfl) (pss_one (ps_fld (pv 0) (pe_op (op_fdivX py) (pv 2) (pv 3)) rfl))))))), ?_⟩
  have isInt : ∀ {σ : L2.St} {G : Hp} {i : Nat} {n : Int}, σ[i]? = some (some (.int n)) → Ev (tCall (spKind Kind.isInt C) [] E0 (tCons (tVar i) tNil)) σ G (isV (.bl true)) := fun {σ G i n} hs =>
    ev_call (ea_1 (ev_var hs)) fun vs G' e ⟨v, ev, hv⟩ => (Pu.tr (g := Kind.int) ⟨v, ev, n, hv⟩)
  refine q_skip (Grow.rfl Ex.rfl) (et_not (et_B (isInt rfl))) fun H1 g1 => ?_
  refine q_skip g1 (EvT.is (et_or (et_not (et_B (isInt rfl))) fun _ => et_test (ev_eqS rfl (ev_var rfl) ev_c)) (by
    have : ¬ (V.int b = V.int 0) := fun z => hb (V.int.inj z)
    rw [decide_eq_false this] <;> rfl)) fun H2 g2 => ?_
  refine q_set g2 (ev_call (sp := spGcd) (ea_2 up_isV up_isV (ev_var rfl) (ev_var rfl)) fun vs G' e ⟨v, w, ev, hv, hw⟩ => Pu.tr (g := (t, b)) (by rw [ev]; cases hv; cases hw; rfl)) fun v G3 H3 g3 ev => ?_
  obtain rfl : v = _ := ev
  refine q_if g3 (et_test (ev_int0 (ev_var rfl) ev_c)) (fun h0 H4 g4 => ?_) (fun h0 H4 g4 => ?_)
  case' refine_1 => refine s_set g4 (ev_int0 ev_c (ev_var rfl)) fun v G5 H5 g5 ev => ?_
  case' refine_1 => obtain rfl : v = _ := ev
  case' refine_2 => have g5 := g4
  all_goals
    have hb1 := of_decide_eq_true (p := (if b < 0 then 0 - (t.gcd b : Int) else (t.gcd b : Int)) ≠ 0) (by
      have h1 : t.gcd b ≠ 0 := Int.gcd_ne_zero_right hb
      refine decide_eq_true ?_
      split <;> omega)
    have en := norm_num t b hb
    have ed := norm_den t b hb
  case refine_1 =>
    rw [if_pos (of_decide_eq_true h0)] at hb1 en ed
    refine fin_ret (Q := fun v H => _) g5 (ev_int2 (C := fun _ j => j ≠ 0) hb1 (ev_var rfl) (ev_var rfl)) fun v G6 H6 g6 ev => ?_
    obtain rfl : v = _ := ev
    refine ⟨_, rfl, x, C, dx, [], rfl, g6.ol _ _ hx, T.cl, T.nT, by decide, ?_⟩
    refine ⟨_, rfl, _, rfl, _, _, rfl, rfl, hb1, _, rfl, x, C, dx, _, rfl, upd_same, T.cl, T.nB, by show 1 < 1000; decide, ?_⟩
    refine q _ (fun a o ha he => by rw [upd_ne ha, upd_ne ha]; exact g6.ol _ _ he) ?_
    rw [upd_same]
    show some (HO.ins C dx (putF "own_bottom" (V.int (b.fdiv _)) (putF "own_top" (V.int (t.fdiv _)) []))) = _
    rw [← ed, ← en, rfs_put]
  case refine_2 =>
    rw [if_neg (of_decide_eq_false h0)] at hb1 en ed
    refine fin_ret (Q := fun v H => _) g5 (ev_int2 (C := fun _ j => j ≠ 0) hb1 (ev_var rfl) (ev_var rfl)) fun v G6 H6 g6 ev => ?_
    obtain rfl : v = _ := ev
    refine ⟨_, rfl, x, C, dx, [], rfl, g6.ol _ _ hx, T.cl, T.nT, by decide, ?_⟩
    refine ⟨_, rfl, _, rfl, _, _, rfl, rfl, hb1, _, rfl, x, C, dx, _, rfl, upd_same, T.cl, T.nB, by show 1 < 1000; decide, ?_⟩
    refine q _ (fun a o ha he => by rw [upd_ne ha, upd_ne ha]; exact g6.ol _ _ he) ?_
    rw [upd_same]
    show some (HO.ins C dx (putF "own_bottom" (V.int (b.fdiv _)) (putF "own_top" (V.int (t.fdiv _)) []))) = _
    rw [← ed, ← en, rfs_put]
end
end On
set_option Elab.async false
set_option linter.all false
set_option maxRecDepth 100000
set_option maxHeartbeats 4000000
/-! Ratio made; told_pair; sums, differences, products, quotients. -/
namespace On
open PySem PySem.Spec PyProof.Rows L2
theorem log2_le {x m : Nat} (h : x ≤ 2 ^ m) : x.log2 ≤ m := by
  by_cases h0 : x = 0
  · subst h0
    rw [show Nat.log2 0 = 0 from by decide]
    exact Nat.zero_le _
  · have h2 : x < 2 ^ (m + 1) := Nat.lt_of_le_of_lt h (Nat.pow_lt_pow_right (by decide) (Nat.lt_succ_self m))
    have := (Nat.log2_lt h0).mpr h2
    omega
theorem mulX {i j : Int} {m n : Nat} (hi : i.natAbs ≤ 2 ^ m) (hj : j.natAbs ≤ 2 ^ n) (h : m + n ≤ LIM) : CMulX i j := by
  have h1 := log2_le hi
  have h2 := log2_le hj
  have h3 : m + n ≤ 130000000 := h
  show i.natAbs.log2 + j.natAbs.log2 < 134000000
  omega
theorem Bd.num {n : Nat} {q : Rat} (h : Bd n q) : q.num.natAbs ≤ 2 ^ n := Nat.le_trans (Nat.le_add_right _ _) h
theorem Bd.den {n : Nat} {q : Rat} (h : Bd n q) : ((q.den : Int)).natAbs ≤ 2 ^ n := by
  rw [Int.natAbs_natCast]
  exact Nat.le_trans (Nat.le_add_left _ _) h
theorem Bd.of {n m : Nat} {q p : Rat} {r : Rat} (h : sz r ≤ sz p * sz q) (hp : Bd m p) (hq : Bd n q) : Bd (m + n) r := by
  show sz r ≤ 2 ^ (m + n)
  rw [Nat.pow_add]
  exact Nat.le_trans h (Nat.mul_le_mul hp hq)
theorem Bd.add {n m : Nat} {q p : Rat} (hp : Bd m p) (hq : Bd n q) : Bd (m + n) (p + q) := Bd.of (sz_add p q) hp hq
theorem Bd.sub {n m : Nat} {q p : Rat} (hp : Bd m p) (hq : Bd n q) : Bd (m + n) (p - q) := Bd.of (sz_sub p q) hp hq
theorem Bd.mul {n m : Nat} {q p : Rat} (hp : Bd m p) (hq : Bd n q) : Bd (m + n) (p * q) := Bd.of (sz_mul p q) hp hq
theorem Bd.div {n m : Nat} {q p : Rat} (hp : Bd m p) (hq : Bd n q) (h : q ≠ 0) : Bd (m + n) (p / q) := Bd.of (sz_div p q h) hp hq
theorem Bd.neg {n : Nat} {q : Rat} (h : Bd n q) : Bd n (-q) := by
  show sz (-q) ≤ 2 ^ n
  rw [sz_neg]
  exact h
theorem Bd.le {n m : Nat} {q : Rat} (h : Bd n q) (l : n ≤ m) : Bd m q := Nat.le_trans h (Nat.pow_le_pow_right (by decide) l)
theorem Bd.zero : Bd 0 0 := by show sz 0 ≤ 2 ^ 0; decide
theorem Bd.one : Bd 1 1 := by show sz 1 ≤ 2 ^ 1; decide

section
variable {K : PySem.W.Frag} {σ : L2.St} {G0 H1 G H H' : Hp} {ta tb tc te : TE} {t : TA} {tt : TT} {P' : V → Hp → Prop} {v w : V} {D : Ends} {tu tw tz : TS} {Q : VK} {C : Addr}
theorem grow_ins {x dx : Addr} {H2 : Hp} {o : HO} (g : Grow H H1 G H2) (hx : H2 x = none) (hdx : H2 dx = none) (keep : ∀ a u, a ≠ x → (upd (upd H2 dx (.own x)) x (.ins C dx [])) a = some u → H' a = some u) (hx' : H' x = some o) : Grow H H1 (upd G x o) H' := by
  have e2 : Ex H2 H' := fun a u h => keep a u (ne_of_none h hx) (by rw [upd_ne (ne_of_none h hx), upd_ne (ne_of_none h hdx)]; exact h)
  exact (g.more e2).see (g.ol.back hx) (g.re.back hx) hx'
theorem ev_mk {a b : Int} {dvs ws : List V} (hb : b ≠ 0) (ha : EvA t σ H fun vs _ => vs = ws) (hw : ws ++ dvs = [.int a, .int b]) : Ev (tMake C (spInit C) dvs E0 t) σ H (isR C (Rat.divInt a b)) := fun H1 e Q q =>
  ha H1 e _ fun vs G H2 g ev x dx hx hdx hne => ⟨x, dx, a, b, by rw [ev, hw], hb, upd_same, fun H' keep hx' => ⟨rfl, q (.ref x) _ H' (grow_ins g hx hdx keep hx') ⟨x, dx, rfl, upd_same⟩⟩⟩
theorem ev_mk2 {a b : Int} (hb : b ≠ 0) (h1 : Ev ta σ H (isV (.int a))) (h2 : Ev tb σ H (isV (.int b))) : Ev (tMake C (spInit C) [] E0 (tCons ta (tCons tb tNil))) σ H (isR C (Rat.divInt a b)) :=
  ev_mk (ws := [.int a, .int b]) hb (fun H1 e Q q => ea_2 up_isV up_isV h1 h2 H1 e Q fun vs G H2 g ⟨v, w, ev, hv, hw⟩ => q vs G H2 g (by rw [ev]; cases hv; cases hw; rfl)) rfl
theorem ev_mk1 {a : Int} (h1 : Ev ta σ H (isV (.int a))) : Ev (tMake C (spInit C) [.int 1] E0 (tCons ta tNil)) σ H (isR C (a : Rat)) := by
  rw [rat_int]
  exact ev_mk (ws := [.int a]) (by decide) (fun H1 e Q q => ea_1 h1 H1 e Q fun vs G H2 g ⟨v, ev, hv⟩ => q vs G H2 g (by rw [ev]; cases hv; rfl)) rfl
theorem ev_top {q : Rat} (cl : Cls K C) (n : NoAttr K C "own_top") (h : Ev ta σ H (isR C q)) : Ev (tFld K ta "own_top") σ H (isV (.int q.num)) := fun H1 e Q k =>
  h H1 e _ fun v G H2 g ⟨a, dx, ev, ha⟩ => ⟨a, C, dx, _, _, ev, g.re _ _ ha, cl, n, rfs_top q, k _ G H2 g rfl⟩
theorem ev_bot {q : Rat} (cl : Cls K C) (n : NoAttr K C "own_bottom") (h : Ev ta σ H (isR C q)) : Ev (tFld K ta "own_bottom") σ H (isV (.int q.den)) := fun H1 e Q k =>
  h H1 e _ fun v G H2 g ⟨a, dx, ev, ha⟩ => ⟨a, C, dx, _, _, ev, g.re _ _ ha, cl, n, rfs_bot q, k _ G H2 g rfl⟩
/-- a new pair -/
theorem ev_pair {γ δ : Type} {R : γ → V → Hp → Prop} {S : δ → V → Hp → Prop} {x : γ} {y : δ} (up : Up R) (up2 : Up S) (h1 : Ev ta σ H (R x)) (h2 : Ev tb σ H (S y)) : Ev (tTup (tCons ta (tCons tb tNil))) σ H (pairOf R S (x, y)) := fun H1 e Q q =>
  ea_2 up up2 h1 h2 H1 e _ fun vs G H2 g ⟨v, w, ev, hv, hw⟩ => by
    subst ev
    refine ⟨by show 2 ≤ sizeLine; decide, fun p hp => ?_⟩
    have g2 := g.trans (Grow.new (o := .tup [v, w]) g.re hp)
    exact q _ _ _ g2 ⟨p, v, w, rfl, upd_same, up _ _ _ _ (Ex.new (g.re.back hp)) hv, up2 _ _ _ _ (Ex.new (g.re.back hp)) hw⟩
end

section
variable {P : Program} {w : World} {K : PySem.W.Frag} {mg : Str → Option Value} {base : Heap} {C : Addr}
theorem k_ratio2 (T : Txt P w K mg base C) : C8.Mak P w K mg base 35 "Ratio" C (spInit C) [] := by
  obtain ⟨f, fd, F, M⟩ := T.d_R_init.ex
  obtain ⟨ds, vd, B⟩ := F.binds1 (ps := ["self", "top", "bottom"]) 3 1 (by simp) rfl fun T kV doc pm an cdv ct us its hl hi => match us, its, hl, hi with | [_, _, _], [_], _, _ => ⟨_, rfl, rfl⟩
  exact ⟨f, fd, _, ds, M, fn_by F sc_R_init (fun vs H Q E ⟨x, dx, t, b, e, _⟩ => by rw [e] <;> rfl) (init_ok T), T.gRatio, B, vd⟩
theorem k_ratio1 (T : Txt P w K mg base C) : C8.Mak P w K mg base 35 "Ratio" C (spInit C) [.int 1] := by
  obtain ⟨f, fd, F, M⟩ := T.d_R_init.ex
  obtain ⟨ds, vd, B⟩ := F.binds1 (ps := ["self", "top", "bottom"]) 2 0 (by simp) rfl fun T kV doc pm an cdv ct us its hl hi => match us, its, hl, hi with | [_, _], [_], _, _ => ⟨_, rfl, rfl⟩
  exact ⟨f, fd, _, ds, M, fn_by F sc_R_init (fun vs H Q E ⟨x, dx, t, b, e, _⟩ => by rw [e] <;> rfl) (init_ok T), T.gRatio, B, vd⟩

theorem ev_kind {f : Kind → Bool} {k : Kind} {ta : TE} {σ : L2.St} {H : Hp} (h : Ev ta σ H (kindOf C k)) : Ev (tCall (spKind f C) [] E0 (tCons ta tNil)) σ H (isV (.bl (f k))) :=
  ev_call (ea_1 h) fun vs G e ⟨v, ev, hv⟩ => Pu.tr (g := k) ⟨v, ev, hv⟩
def spTold (C : Addr) : Sp := Pu (γ := Rat) (fun q vs H => ∃ v, vs = [v] ∧ isN C q v H) fun q _ v G => pairOf isV isV (.int q.num, .int q.den) v G
theorem c_told_pair (T : Txt P w K mg base C) : C8.Cal P w K mg base 2 "told_pair" (spTold C) [] := by
  refine cal_by T.d_told_pair sc_told_pair (fun _ _ _ _ _ _ us hl => match us, hl with | [_], _ => rfl) (len1 fun g vs H ⟨v, e, _⟩ => by rw [e] <;> rfl) fun f cdv A outer s H vs Q E hr h => ?_
  obtain ⟨x, G, e, ⟨v, rfl, hv⟩, q⟩ := h
  refine ⟨_, (pss_cons (ps_if (pt_val (pe_callB call_isi (by rfl) T.n_isinstance bo_isinstance (pa_cons (pv 0) (pa_cons (pe_gc rfl T.g_Ratio) pa_nil)))) (pss_one (ps_ret (pe_tup (pa_cons (pe_fld (pv 0) rfl) (pa_cons (pe_fld (pv 0) rfl) pa_nil))))) pss_nil) (pss_cons (ps_if (pt_not (pt_val (C8.pe_c (c_is_integer T) hr (by decide) rfl (pa_cons (pv 0) pa_nil)))) pss_never pss_nil) (pss_one (ps_ret (pe_tup (pa_cons (pv 0) (pa_cons pe_int pa_nil))))))), ?_⟩
  rcases hv with ⟨i, rfl, rfl⟩ | hv
  · refine q_skip (Grow.rfl e) (et_B (ev_isi (k := .int) T.isi (.own C) (isa_ratio T .int) (ev_slot (R := kindOf C) rfl ⟨i, rfl⟩))) fun H1 g1 => ?_
    refine q_skip g1 (et_not (et_B (ev_kind (k := .int) (ev_slot (R := kindOf C) rfl ⟨i, rfl⟩)))) fun H2 g2 => ?_
    refine s_ret g2 (ev_pair up_isV up_isV (ev_var rfl) ev_c) q
  · refine q_take (Grow.rfl e) (et_B (ev_isi (k := .rat) T.isi (.own C) (isa_ratio T .rat) (ev_slot (R := kindOf C) rfl hv.kind))) fun H1 g1 => ?_
    exact s_ret g1 (ev_pair up_isV up_isV (ev_top T.cl T.nT (ev_slot rfl hv)) (ev_bot T.cl T.nB (ev_slot rfl hv))) q

/-- what the operators ask: a Ratio and a number, not too large; what they give -/
def spOp (C : Addr) (ok : Rat → Rat → Prop) (f : Rat → Rat → Rat) : Sp := Pu (γ := Rat × Rat) (fun g vs H => (∃ v w, vs = [v, w] ∧ isR C g.1 v H ∧ isN C g.2 w H) ∧ ok g.1 g.2 ∧ ∃ m n, Bd m g.1 ∧ Bd n g.2 ∧ m + n ≤ LIM) fun g _ v G => isR C (f g.1 g.2) v G
theorem len_op {C : Addr} {ok : Rat → Rat → Prop} {f : Rat → Rat → Rat} : ∀ vs H Q E, spOp C ok f vs H Q E → vs.length = 2 := len1 fun g vs H ⟨⟨v, w, e, _⟩, _⟩ => by rw [e] <;> rfl
abbrev okAll : Rat → Rat → Prop := fun _ _ => True
/-- the beginning of each: the other number told -/
theorem told_ev {σ : L2.St} {G : Hp} {i : Nat} {w : V} {q : Rat} (hs : σ[i]? = some (some w)) (hw : isN C q w G) : Ev (tCall (spTold C) [] E0 (tCons (tVar i) tNil)) σ G (pairOf isV isV (.int q.num, .int q.den)) :=
  ev_call (ea_1 (ev_slot hs hw)) fun vs G' e ⟨v, ev, hv⟩ => Pu.tr (g := q) ⟨v, ev, hv⟩
theorem den_ne (p q : Rat) : ((p.den : Int) * (q.den : Int)) ≠ 0 := mul_pos_ne p.den_nz q.den_nz
theorem m_add (T : Txt P w K mg base C) : C8.Met P w K mg base 37 C "__add__" (spOp C okAll (· + ·)) [] := by
  refine met_by T.cl T.d_R_add sc_R_add (fun _ _ _ _ _ _ us hl => match us, hl with | [_, _], _ => rfl) len_op fun f cdv A outer s H vs Q E hr h => ?_
  obtain ⟨⟨x, y⟩, G, e, ⟨⟨v, w, rfl, hv, hw⟩, _, m, n, bm, bn, hmn⟩, q⟩ := h
  refine ⟨_, (pss_cons (ps_asg (C8.pe_c (c_told_pair T) hr (by decide) rfl (pa_cons (pv 1) pa_nil)) (pg_tup rfl (pgs_cons (pg_name (i := 2) sc_R_add.nd rfl (by first | exact Or.inl rfl | exact Or.inr rfl)) (pgs_cons (pg_name (i := 3) sc_R_add.nd rfl (by first | exact Or.inl rfl | exact Or.inr rfl)) pgs_nil)))) (pss_one (ps_ret (C8.pe_mk (k_ratio2 T) hr (by decide) rfl (pa_cons (pe_op op_add (pe_op op_mulX (pe_fld (pv 0) rfl) (pv 3)) (pe_op op_mulX (pv 2) (pe_fld (pv 0) rfl))) (pa_cons (pe_op op_mulX (pe_fld (pv 0) rfl) (pv 3)) pa_nil)))))), ?_⟩
  refine q_unpack (Grow.rfl e) (told_ev rfl hw) fun a b G1 H1 g1 ea eb => ?_
  subst ea
  subst eb
  have sv := fun {σ : L2.St} (h : σ[0]? = some (some v)) => ev_slot h (up_isR _ _ _ _ g1.kn hv)
  refine s_ret g1 (ev_mk2 (den_ne x y) (ev_int0 (ev_int2 (mulX bm.num bn.den hmn) (ev_top T.cl T.nT (sv rfl)) (ev_var rfl)) (ev_int2 (mulX bn.num bm.den (by omega)) (ev_var rfl) (ev_bot T.cl T.nB (sv rfl)))) (ev_int2 (mulX bm.den bn.den hmn) (ev_bot T.cl T.nB (sv rfl)) (ev_var rfl))) fun v G2 H2 g2 p => q v G2 H2 g2 ?_
  show isR C (x + y) v G2
  rw [rat_add]
  exact p
end
end On
set_option Elab.async false
set_option linter.all false
set_option maxRecDepth 100000
set_option maxHeartbeats 4000000
/-! The other methods of Ratio; is_number, ratio_of, want_number. -/
namespace On
open PySem PySem.Spec PyProof.Rows L2
section
variable {P : Program} {w : World} {K : PySem.W.Frag} {mg : Str → Option Value} {base : Heap} {C : Addr}
theorem m_sub (T : Txt P w K mg base C) : C8.Met P w K mg base 37 C "__sub__" (spOp C okAll (· - ·)) [] := by
  refine met_by T.cl T.d_R_sub sc_R_sub (fun _ _ _ _ _ _ us hl => match us, hl with | [_, _], _ => rfl) len_op fun f cdv A outer s H vs Q E hr h => ?_
  obtain ⟨⟨x, y⟩, G, e, ⟨⟨v, w, rfl, hv, hw⟩, _, m, n, bm, bn, hmn⟩, q⟩ := h
  refine ⟨_, (pss_cons (ps_asg (C8.pe_c (c_told_pair T) hr (by decide) rfl (pa_cons (pv 1) pa_nil)) (pg_tup rfl (pgs_cons (pg_name (i := 2) sc_R_sub.nd rfl (by first | exact Or.inl rfl | exact Or.inr rfl)) (pgs_cons (pg_name (i := 3) sc_R_sub.nd rfl (by first | exact Or.inl rfl | exact Or.inr rfl)) pgs_nil)))) (pss_one (ps_ret (C8.pe_mk (k_ratio2 T) hr (by decide) rfl (pa_cons (pe_op op_sub (pe_op op_mulX (pe_fld (pv 0) rfl) (pv 3)) (pe_op op_mulX (pv 2) (pe_fld (pv 0) rfl))) (pa_cons (pe_op op_mulX (pe_fld (pv 0) rfl) (pv 3)) pa_nil)))))), ?_⟩
  refine q_unpack (Grow.rfl e) (told_ev rfl hw) fun a b G1 H1 g1 ea eb => ?_
  subst ea
  subst eb
  have sv := fun {σ : L2.St} (h : σ[0]? = some (some v)) => ev_slot h (up_isR _ _ _ _ g1.kn hv)
  refine s_ret g1 (ev_mk2 (den_ne x y) (ev_int0 (ev_int2 (mulX bm.num bn.den hmn) (ev_top T.cl T.nT (sv rfl)) (ev_var rfl)) (ev_int2 (mulX bn.num bm.den (by omega)) (ev_var rfl) (ev_bot T.cl T.nB (sv rfl)))) (ev_int2 (mulX bm.den bn.den hmn) (ev_bot T.cl T.nB (sv rfl)) (ev_var rfl))) fun v G2 H2 g2 p => q v G2 H2 g2 ?_
  show isR C (x - y) v G2
  rw [rat_sub]
  exact p
theorem m_rsub (T : Txt P w K mg base C) : C8.Met P w K mg base 37 C "__rsub__" (spOp C okAll (fun a b => b - a)) [] := by
  refine met_by T.cl T.d_R_rsub sc_R_rsub (fun _ _ _ _ _ _ us hl => match us, hl with | [_, _], _ => rfl) len_op fun f cdv A outer s H vs Q E hr h => ?_
  obtain ⟨⟨x, y⟩, G, e, ⟨⟨v, w, rfl, hv, hw⟩, _, m, n, bm, bn, hmn⟩, q⟩ := h
  refine ⟨_, (pss_cons (ps_asg (C8.pe_c (c_told_pair T) hr (by decide) rfl (pa_cons (pv 1) pa_nil)) (pg_tup rfl (pgs_cons (pg_name (i := 2) sc_R_rsub.nd rfl (by first | exact Or.inl rfl | exact Or.inr rfl)) (pgs_cons (pg_name (i := 3) sc_R_rsub.nd rfl (by first | exact Or.inl rfl | exact Or.inr rfl)) pgs_nil)))) (pss_one (ps_ret (C8.pe_mk (k_ratio2 T) hr (by decide) rfl (pa_cons (pe_op op_sub (pe_op op_mulX (pv 2) (pe_fld (pv 0) rfl)) (pe_op op_mulX (pe_fld (pv 0) rfl) (pv 3))) (pa_cons (pe_op op_mulX (pe_fld (pv 0) rfl) (pv 3)) pa_nil)))))), ?_⟩
  refine q_unpack (Grow.rfl e) (told_ev rfl hw) fun a b G1 H1 g1 ea eb => ?_
  subst ea
  subst eb
  have sv := fun {σ : L2.St} (h : σ[0]? = some (some v)) => ev_slot h (up_isR _ _ _ _ g1.kn hv)
  refine s_ret g1 (ev_mk2 (den_ne x y) (ev_int0 (ev_int2 (mulX bn.num bm.den (by omega)) (ev_var rfl) (ev_bot T.cl T.nB (sv rfl))) (ev_int2 (mulX bm.num bn.den hmn) (ev_top T.cl T.nT (sv rfl)) (ev_var rfl))) (ev_int2 (mulX bm.den bn.den hmn) (ev_bot T.cl T.nB (sv rfl)) (ev_var rfl))) fun v G2 H2 g2 p => q v G2 H2 g2 ?_
  show isR C (y - x) v G2
  rw [rat_sub, Int.mul_comm (y.den : Int)]
  exact p
theorem m_mul (T : Txt P w K mg base C) : C8.Met P w K mg base 37 C "__mul__" (spOp C okAll (· * ·)) [] := by
  refine met_by T.cl T.d_R_mul sc_R_mul (fun _ _ _ _ _ _ us hl => match us, hl with | [_, _], _ => rfl) len_op fun f cdv A outer s H vs Q E hr h => ?_
  obtain ⟨⟨x, y⟩, G, e, ⟨⟨v, w, rfl, hv, hw⟩, _, m, n, bm, bn, hmn⟩, q⟩ := h
  refine ⟨_, (pss_cons (ps_asg (C8.pe_c (c_told_pair T) hr (by decide) rfl (pa_cons (pv 1) pa_nil)) (pg_tup rfl (pgs_cons (pg_name (i := 2) sc_R_mul.nd rfl (by first | exact Or.inl rfl | exact Or.inr rfl)) (pgs_cons (pg_name (i := 3) sc_R_mul.nd rfl (by first | exact Or.inl rfl | exact Or.inr rfl)) pgs_nil)))) (pss_one (ps_ret (C8.pe_mk (k_ratio2 T) hr (by decide) rfl (pa_cons (pe_op op_mulX (pe_fld (pv 0) rfl) (pv 2)) (pa_cons (pe_op op_mulX (pe_fld (pv 0) rfl) (pv 3)) pa_nil)))))), ?_⟩
  refine q_unpack (Grow.rfl e) (told_ev rfl hw) fun a b G1 H1 g1 ea eb => ?_
  subst ea
  subst eb
  have sv := fun {σ : L2.St} (h : σ[0]? = some (some v)) => ev_slot h (up_isR _ _ _ _ g1.kn hv)
  refine s_ret g1 (ev_mk2 (den_ne x y) (ev_int2 (mulX bm.num bn.num hmn) (ev_top T.cl T.nT (sv rfl)) (ev_var rfl)) (ev_int2 (mulX bm.den bn.den hmn) (ev_bot T.cl T.nB (sv rfl)) (ev_var rfl))) fun v G2 H2 g2 p => q v G2 H2 g2 ?_
  show isR C (x * y) v G2
  rw [rat_mul]
  exact p
theorem m_rmul (T : Txt P w K mg base C) : C8.Met P w K mg base 37 C "__rmul__" (spOp C okAll (· * ·)) [] := by
  refine met_by T.cl T.d_R_rmul sc_R_rmul (fun _ _ _ _ _ _ us hl => match us, hl with | [_, _], _ => rfl) len_op fun f cdv A outer s H vs Q E hr h => ?_
  obtain ⟨⟨x, y⟩, G, e, ⟨⟨v, w, rfl, hv, hw⟩, _, m, n, bm, bn, hmn⟩, q⟩ := h
  refine ⟨_, (pss_cons (ps_asg (C8.pe_c (c_told_pair T) hr (by decide) rfl (pa_cons (pv 1) pa_nil)) (pg_tup rfl (pgs_cons (pg_name (i := 2) sc_R_rmul.nd rfl (by first | exact Or.inl rfl | exact Or.inr rfl)) (pgs_cons (pg_name (i := 3) sc_R_rmul.nd rfl (by first | exact Or.inl rfl | exact Or.inr rfl)) pgs_nil)))) (pss_one (ps_ret (C8.pe_mk (k_ratio2 T) hr (by decide) rfl (pa_cons (pe_op op_mulX (pe_fld (pv 0) rfl) (pv 2)) (pa_cons (pe_op op_mulX (pe_fld (pv 0) rfl) (pv 3)) pa_nil)))))), ?_⟩
  refine q_unpack (Grow.rfl e) (told_ev rfl hw) fun a b G1 H1 g1 ea eb => ?_
  subst ea
  subst eb
  have sv := fun {σ : L2.St} (h : σ[0]? = some (some v)) => ev_slot h (up_isR _ _ _ _ g1.kn hv)
  refine s_ret g1 (ev_mk2 (den_ne x y) (ev_int2 (mulX bm.num bn.num hmn) (ev_top T.cl T.nT (sv rfl)) (ev_var rfl)) (ev_int2 (mulX bm.den bn.den hmn) (ev_bot T.cl T.nB (sv rfl)) (ev_var rfl))) fun v G2 H2 g2 p => q v G2 H2 g2 ?_
  show isR C (x * y) v G2
  rw [rat_mul]
  exact p
theorem m_over (T : Txt P w K mg base C) : C8.Met P w K mg base 37 C "over" (spOp C (fun _ b => b ≠ 0) (· / ·)) [] := by
  refine met_by T.cl T.d_R_over sc_R_over (fun _ _ _ _ _ _ us hl => match us, hl with | [_, _], _ => rfl) len_op fun f cdv A outer s H vs Q E hr h => ?_
  obtain ⟨⟨x, y⟩, G, e, ⟨⟨v, w, rfl, hv, hw⟩, hy, m, n, bm, bn, hmn⟩, q⟩ := h
  refine ⟨_, (pss_cons (ps_asg (C8.pe_c (c_told_pair T) hr (by decide) rfl (pa_cons (pv 1) pa_nil)) (pg_tup rfl (pgs_cons (pg_name (i := 2) sc_R_over.nd rfl (by first | exact Or.inl rfl | exact Or.inr rfl)) (pgs_cons (pg_name (i := 3) sc_R_over.nd rfl (by first | exact Or.inl rfl | exact Or.inr rfl)) pgs_nil)))) (pss_cons (ps_if (pt_cmpR op_eq (pv 2) pe_int (nomark _)) pss_never pss_nil) (pss_one (ps_ret (C8.pe_mk (k_ratio2 T) hr (by decide) rfl (pa_cons (pe_op op_mulX (pe_fld (pv 0) rfl) (pv 3)) (pa_cons (pe_op op_mulX (pe_fld (pv 0) rfl) (pv 2)) pa_nil))))))), ?_⟩
  refine q_unpack (Grow.rfl e) (told_ev rfl hw) fun a b G1 H1 g1 ea eb => ?_
  subst ea
  subst eb
  have hy' : y.num ≠ 0 := fun z => hy (Rat.num_eq_zero.mp z)
  refine q_skip g1 (EvT.is (et_test (ev_eqS rfl (ev_var rfl) ev_c)) (decide_eq_false fun z => hy' (V.int.inj z))) fun H2 g2 => ?_
  have sv := fun {σ : L2.St} (h : σ[0]? = some (some v)) => ev_slot h (up_isR _ _ _ _ g2.kn hv)
  refine s_ret g2 (ev_mk2 (Int.mul_ne_zero (show ((x.den : Nat) : Int) ≠ 0 by have := x.den_nz; omega) hy') (ev_int2 (mulX bm.num bn.den hmn) (ev_top T.cl T.nT (sv rfl)) (ev_var rfl)) (ev_int2 (mulX bm.den bn.num hmn) (ev_bot T.cl T.nB (sv rfl)) (ev_var rfl))) fun v G2 H2 g2 p => q v G2 H2 g2 ?_
  show isR C (x / y) v G2
  rw [rat_div]
  exact p
def spNeg (C : Addr) : Sp := Pu (γ := Rat) (fun q vs H => ∃ v, vs = [v] ∧ isR C q v H) fun q _ v G => isR C (-q) v G
theorem m_neg (T : Txt P w K mg base C) : C8.Met P w K mg base 37 C "__neg__" (spNeg C) [] := by
  refine met_by T.cl T.d_R_neg sc_R_neg (fun _ _ _ _ _ _ us hl => match us, hl with | [_], _ => rfl) (len1 fun g vs H ⟨v, e, _⟩ => by rw [e] <;> rfl) fun f cdv A outer s H vs Q E hr h => ?_
  obtain ⟨x, G, e, ⟨v, rfl, hv⟩, q⟩ := h
  refine ⟨_, (pss_one (ps_ret (C8.pe_mk (k_ratio2 T) hr (by decide) rfl (pa_cons (pe_op op_sub pe_int (pe_fld (pv 0) rfl)) (pa_cons (pe_fld (pv 0) rfl) pa_nil))))), ?_⟩
  have sv := fun {σ : L2.St} (h : σ[0]? = some (some v)) => ev_slot h hv
  refine s_ret (Grow.rfl e) (ev_mk2 (by have := x.den_nz; omega) (ev_int0 ev_c (ev_top T.cl T.nT (sv rfl))) (ev_bot T.cl T.nB (sv rfl))) fun v G2 H2 g2 p => q v G2 H2 g2 ?_
  show isR C (-x) v G2
  rw [rat_neg, ← Int.zero_sub]
  exact p
def spEqR (C : Addr) : Sp := Pu (γ := Rat × Rat) (fun g vs H => ∃ v w, vs = [v, w] ∧ isR C g.1 v H ∧ isR C g.2 w H) fun g _ v G => v = .bl (decide (g.1 = g.2))
theorem m_eq (T : Txt P w K mg base C) : C8.Met P w K mg base 37 C "__eq__" (spEqR C) [] := by
  refine met_by T.cl T.d_R_eq sc_R_eq (fun _ _ _ _ _ _ us hl => match us, hl with | [_, _], _ => rfl) (len1 fun g vs H ⟨v, w, e, _⟩ => by rw [e] <;> rfl) fun f cdv A outer s H vs Q E hr h => ?_
  obtain ⟨⟨x, y⟩, G, e, ⟨v, w, rfl, hv, hw⟩, q⟩ := h
  refine ⟨_, (pss_cons (ps_if (pt_not (pt_val (pe_callB (r := rIsi K) call_isi (by rfl) T.n_isinstance bo_isinstance (pa_cons (pv 1) (pa_cons (pe_gc rfl T.g_Ratio) pa_nil))))) (pss_one (ps_ret pe_bl)) pss_nil) (pss_one (ps_ret (pe_and (pe_cmpR op_eq (pe_fld (pv 0) rfl) (pe_fld (pv 1) rfl) (nomark _)) (pe_one (pe_cmpR op_eq (pe_fld (pv 0) rfl) (pe_fld (pv 1) rfl) (nomark _))))))), ?_⟩
  refine q_skip (Grow.rfl e) (EvT.is (et_not (et_B (ev_isi (k := .rat) T.isi (.own C) (isa_ratio T .rat) (ev_slot (R := kindOf C) rfl hw.kind)))) rfl) fun H1 g1 => ?_
  have sv := fun {σ : L2.St} (h : σ[0]? = some (some v)) => ev_slot h hv
  have sw := fun {σ : L2.St} (h : σ[1]? = some (some w)) => ev_slot h hw
  refine s_ret g1 (ev_andV (ev_eqS rfl (ev_top T.cl T.nT (sv rfl)) (ev_top T.cl T.nT (sw rfl))) fun _ => ev_eqS rfl (ev_bot T.cl T.nB (sv rfl)) (ev_bot T.cl T.nB (sw rfl))) fun v G2 H2 g2 p => q v G2 H2 g2 ?_
  obtain rfl : v = _ := p
  show V.bl _ = V.bl (decide (x = y))
  congr 1
  by_cases hxy : x = y
  · subst hxy
    simp
  · rw [decide_eq_false hxy]
    refine Bool.eq_false_iff.mpr fun z => hxy ?_
    have z2 := Bool.and_eq_true_iff.mp z
    have z3 := V.int.inj (of_decide_eq_true z2.1)
    have z4 := V.int.inj (of_decide_eq_true z2.2)
    exact Rat.ext z3 (by exact_mod_cast z4)

/-! ### properties -/
def spGet (C : Addr) (f : Rat → Int) : Sp := Pu (γ := Rat) (fun q vs H => ∃ v, vs = [v] ∧ isR C q v H) fun q _ v G => v = .int (f q)
theorem p_top (T : Txt P w K mg base C) : Prp P w K mg base 1 C "top" (spGet C Rat.num) := by
  refine prp_by T.cl T.d_R_top sc_R_top (fun _ _ _ _ _ _ us hl => match us, hl with | [_], _ => rfl) (len1 fun g vs H ⟨v, e, _⟩ => by rw [e] <;> rfl) fun f cdv A outer s H vs Q E hr h => ?_
  obtain ⟨x, G, e, ⟨v, rfl, hv⟩, q⟩ := h
  exact ⟨_, (pss_one (ps_ret (pe_fld (pv 0) rfl))), s_ret (Grow.rfl e) (ev_top T.cl T.nT (ev_slot rfl hv)) q⟩
theorem p_bottom (T : Txt P w K mg base C) : Prp P w K mg base 1 C "bottom" (spGet C fun q => q.den) := by
  refine prp_by T.cl T.d_R_bottom sc_R_bottom (fun _ _ _ _ _ _ us hl => match us, hl with | [_], _ => rfl) (len1 fun g vs H ⟨v, e, _⟩ => by rw [e] <;> rfl) fun f cdv A outer s H vs Q E hr h => ?_
  obtain ⟨x, G, e, ⟨v, rfl, hv⟩, q⟩ := h
  exact ⟨_, (pss_one (ps_ret (pe_fld (pv 0) rfl))), s_ret (Grow.rfl e) (ev_bot T.cl T.nB (ev_slot rfl hv)) q⟩
/-- -1, 0 or 1 -/
def sgn (q : Rat) : Int := (if decide (0 < q.num) then 1 else 0) - (if decide (q.num < 0) then 1 else 0)
theorem p_sign (T : Txt P w K mg base C) : Prp P w K mg base 1 C "sign" (spGet C sgn) := by
  refine prp_by T.cl T.d_R_sign sc_R_sign (fun _ _ _ _ _ _ us hl => match us, hl with | [_], _ => rfl) (len1 fun g vs H ⟨v, e, _⟩ => by rw [e] <;> rfl) fun f cdv A outer s H vs Q E hr h => ?_
  obtain ⟨x, G, e, ⟨v, rfl, hv⟩, q⟩ := h
  have sv := fun {σ : L2.St} (h : σ[0]? = some (some v)) => ev_slot h hv
  exact ⟨_, (pss_one (ps_ret (pe_op op_sub (pe_callTy call_int1 (by rfl) T.n_int bo_int (pa_cons (pe_cmpR op_gt (pe_fld (pv 0) rfl) pe_int (nomark _)) pa_nil)) (pe_callTy call_int1 (by rfl) T.n_int bo_int (pa_cons (pe_cmpR op_lt (pe_fld (pv 0) rfl) pe_int (nomark _)) pa_nil))))), s_ret (Grow.rfl e) (ev_int0 (ev_intB (ev_int0 (ev_top T.cl T.nT (sv rfl)) ev_c)) (ev_intB (ev_int0 (ev_top T.cl T.nT (sv rfl)) ev_c))) q⟩

/-! ### numbers -/
theorem c_is_number (T : Txt P w K mg base C) : C8.Cal P w K mg base 2 "is_number" (spKind (fun k => k == .int || k == .rat) C) [] := by
  refine cal_by T.d_is_number sc_is_number (fun _ _ _ _ _ _ us hl => match us, hl with | [_], _ => rfl) (len1 fun g vs H ⟨v, e, _⟩ => by rw [e] <;> rfl) fun f cdv A outer s H vs Q E hr h => ?_
  obtain ⟨k, G, e, ⟨v, rfl, hk⟩, q⟩ := h
  refine ⟨_, (pss_one (ps_ret (pe_or (C8.pe_c (c_is_integer T) hr (by decide) rfl (pa_cons (pv 0) pa_nil)) (pe_one (pe_callB (r := rIsi K) call_isi (by rfl) T.n_isinstance bo_isinstance (pa_cons (pv 0) (pa_cons (pe_gc rfl T.g_Ratio) pa_nil))))))), ?_⟩
  refine s_ret (Grow.rfl e) (ev_orV (ev_kind (ev_slot rfl hk)) fun _ => ev_isi T.isi (.own C) (isa_ratio T k) (ev_slot rfl hk)) fun v' G' H' g p => q v' G' H' g ?_
  obtain rfl : v' = _ := p
  cases k <;> rfl
def spRatio (C : Addr) : Sp := Pu (γ := Rat) (fun q vs H => ∃ v, vs = [v] ∧ isN C q v H) fun q _ v G => isR C q v G
theorem c_ratio_of (T : Txt P w K mg base C) : C8.Cal P w K mg base 37 "ratio_of" (spRatio C) [] := by
  refine cal_by T.d_ratio_of sc_ratio_of (fun _ _ _ _ _ _ us hl => match us, hl with | [_], _ => rfl) (len1 fun g vs H ⟨v, e, _⟩ => by rw [e] <;> rfl) fun f cdv A outer s H vs Q E hr h => ?_
  obtain ⟨x, G, e, ⟨v, rfl, hv⟩, q⟩ := h
  refine ⟨_, (pss_one (ps_ret (pe_ifExp (pt_val (pe_callB (r := rIsi K) call_isi (by rfl) T.n_isinstance bo_isinstance (pa_cons (pv 0) (pa_cons (pe_gc rfl T.g_Ratio) pa_nil)))) (pv 0) (C8.pe_mk (k_ratio1 T) hr (by decide) rfl (pa_cons (pv 0) pa_nil))))), ?_⟩
  rcases hv with ⟨i, rfl, rfl⟩ | hv
  · exact s_ret (Grow.rfl e) (ev_if (et_B (ev_isi (k := .int) T.isi (.own C) (isa_ratio T .int) (ev_slot (R := kindOf C) rfl ⟨i, rfl⟩))) (fun z => by cases z) fun _ => ev_mk1 (ev_var rfl)) q
  · exact s_ret (Grow.rfl e) (ev_if (et_B (ev_isi (k := .rat) T.isi (.own C) (isa_ratio T .rat) (ev_slot (R := kindOf C) rfl hv.kind))) (fun _ => ev_slot rfl hv) fun z => by cases z) q
theorem c_want_number (T : Txt P w K mg base C) : C8.Cal P w K mg base 38 "want_number" (spRatio C) [] := by
  refine cal_by T.d_want_number sc_want_number (fun _ _ _ _ _ _ us hl => match us, hl with | [_], _ => rfl) (len1 fun g vs H ⟨v, e, _⟩ => by rw [e] <;> rfl) fun f cdv A outer s H vs Q E hr h => ?_
  obtain ⟨x, G, e, ⟨v, rfl, hv⟩, q⟩ := h
  refine ⟨_, (pss_cons (ps_if (pt_not (pt_val (C8.pe_c (c_is_number T) hr (by decide) rfl (pa_cons (pv 0) pa_nil)))) pss_never pss_nil) (pss_one (ps_ret (C8.pe_c (c_ratio_of T) hr (by decide) rfl (pa_cons (pv 0) pa_nil))))), ?_⟩
  obtain ⟨k, hk, hk2⟩ := hv.kind
  refine q_skip (Grow.rfl e) (EvT.is (et_not (et_B (ev_kind (ev_slot (R := kindOf C) rfl hk)))) (by rcases hk2 with rfl | rfl <;> rfl)) fun H1 g1 => ?_
  exact s_ret g1 (ev_call (ea_1 (ev_slot rfl hv)) fun vs G' e ⟨v, ev, hv⟩ => Pu.tr (g := x) ⟨v, ev, hv⟩) q
end
end On
set_option Elab.async false
set_option linter.all false
set_option maxRecDepth 100000
set_option maxHeartbeats 4000000
/-! xs == [], xs != []; the operators, whatever they are given. -/
namespace On
open PySem PySem.Spec PyProof.Rows L2 PySem.SeqAt
open AutoSeq1 (wpAny_loadPart')
section
variable {prog : Program} {w : World} {A : Around} {E : Value → Shared → Prop} {s : Shared}
theorem list_eq_ne {l b : Addr} {items items2 : Array Value} {n n2 : Nat} {R : Result → Shared → Prop} (hl : s.heap.get? l = some { cls := .type "list", data := .seq items n }) (hb : s.heap.get? b = some { cls := .type "list", data := .seq items2 n2 }) (hne : items.size ≠ items2.size)
    (q : R (.ok (.ret (.bool false))) s) : wpAny (model prog w) A.in1 (Builtin.«list.__eq__» ⟨[.ref l, .ref b], []⟩) (GQ.FinOf prog w A R) (fun e s' => R (.error e) s') s := by
  obtain ⟨hp, g, d, tk, os⟩ := s
  have f3 := AutoSeq1.sub_list_list
  have hne' : (items.size != items2.size) = true := by simp [hne]
  wp_walk using wpAny_loadPart' hl, wpAny_loadPart' hb
  exact q
theorem list_ne_ne {l b : Addr} {items items2 : Array Value} {n n2 : Nat} {R : Result → Shared → Prop} (hl : s.heap.get? l = some { cls := .type "list", data := .seq items n }) (hb : s.heap.get? b = some { cls := .type "list", data := .seq items2 n2 }) (hne : items.size ≠ items2.size)
    (q : R (.ok (.ret (.bool true))) s) : wpAny (model prog w) A.in1 (Builtin.«list.__ne__» ⟨[.ref l, .ref b], []⟩) (GQ.FinOf prog w A R) (fun e s' => R (.error e) s') s := by
  obtain ⟨hp, g, d, tk, os⟩ := s
  have f3 := AutoSeq1.sub_list_list
  have hne' : (items.size != items2.size) = true := by simp [hne]
  wp_walk using wpAny_loadPart' hl, wpAny_loadPart' hb
  exact q
theorem list_ne_nil {l b : Addr} {n n2 : Nat} {R : Result → Shared → Prop} (hl : s.heap.get? l = some { cls := .type "list", data := .seq #[] n }) (hb : s.heap.get? b = some { cls := .type "list", data := .seq #[] n2 })
    (q : R (.ok (.ret (.bool false))) s) : wpAny (model prog w) A.in1 (Builtin.«list.__ne__» ⟨[.ref l, .ref b], []⟩) (GQ.FinOf prog w A R) (fun e s' => R (.error e) s') s := by
  obtain ⟨hp, g, d, tk, os⟩ := s
  have f3 := AutoSeq1.sub_list_list
  have hne : ¬ ((#[] : Array Value).size != (#[] : Array Value).size) = true := by simp
  wp_walk using wpAny_loadPart' hl, wpAny_loadPart' hb
  refine ⟨plainId_quiet MeetsSeq3.plain_eq_loop _, codeAny_builtin MeetsSeq3.entry_eq_loop ?_⟩
  rw [Around.under_plainId MeetsSeq3.plain_eq_loop _]
  wp_walk using wpAny_loadPart' hl, wpAny_loadPart' hb
  exact q
end
section
variable {X : Cx} {f : Value → Value → Sem Value} {r r' : R2}
theorem or_op (h : OpR X f r) (h' : OpR X f r') : OpR X f fun x y H Q => r x y H Q ∨ r' x y H Q := fun pins s σ H x y v u Q I rx ry q => q.elim (h pins s σ H x y v u Q I rx ry) (h' pins s σ H x y v u Q I rx ry)
/-- xs == [], xs != [] -/
def rNil (neg : Bool) : R2 := fun x y H Q => ∃ a b xs, x = .ref a ∧ y = .ref b ∧ H a = some (.lst xs) ∧ H b = some (.lst []) ∧ Q (.bl (if neg then !xs.isEmpty else xs.isEmpty)) H
theorem op_eqNil {k : Nat} (hr : Room k X.A) : OpR X (compareOp .Eq) (rNil false) := by
  intro pins s σ H x y v u Q I rx ry h
  obtain ⟨a, b, xs, rfl, rfl, ha, hb, q⟩ := h
  obtain rfl : v = Value.ref a := rx
  obtain rfl : u = Value.ref b := ry
  obtain ⟨z, its, n, rv, e⟩ := I.hok a _ ha
  obtain ⟨z2, its2, n2, rv2, e2⟩ := I.hok b _ hb
  cases rv2
  show wpAny (model X.prog X.w) X.A (richCompare .Eq (.ref a) (.ref b)) (EP X pins σ Q) X.xe s
  cases xs with
  | nil =>
    cases rv
    refine GQ.rc_listG (N := 0) hr.units0 (fun _ s' => s' = s) (fun i s' hs => ?_) (fun s' hs => ?_) rfl
    · subst hs
      exact ⟨_, _, _, _, e, e2, rfl, rfl, fun h1 _ => absurd h1 (by simp)⟩
    · subst hs
      exact ⟨.bl true, H, I, rfl, q⟩
  | cons x1 xr =>
    refine wpAny_richCompare_same_room (op := .Eq) ⟨_, e, rfl⟩ ⟨_, e2, rfl⟩ F.slot_list_eq (GQ.call_here F.slot_list_eq ⟨_, e, rfl⟩ F.entry_list_eq (F.args_list_eq_2 _ _) (list_eq_ne e e2 ?_ ?_)) hr.units0
    · have := rv.length
      simp at this ⊢
      intro z
      rw [z] at this
      simp at this
    · exact ⟨fun z => (nomatch z), .bl false, H, I, rfl, q⟩
theorem op_neNil {k : Nat} (hr : Room k X.A) : OpR X (compareOp .NotEq) (rNil true) := by
  intro pins s σ H x y v u Q I rx ry h
  obtain ⟨a, b, xs, rfl, rfl, ha, hb, q⟩ := h
  obtain rfl : v = Value.ref a := rx
  obtain rfl : u = Value.ref b := ry
  obtain ⟨z, its, n, rv, e⟩ := I.hok a _ ha
  obtain ⟨z2, its2, n2, rv2, e2⟩ := I.hok b _ hb
  cases rv2
  show wpAny (model X.prog X.w) X.A (richCompare .NotEq (.ref a) (.ref b)) (EP X pins σ Q) X.xe s
  cases xs with
  | nil =>
    cases rv
    refine wpAny_richCompare_same_room (op := .NotEq) ⟨_, e, rfl⟩ ⟨_, e2, rfl⟩ F.slot_list_ne (GQ.call_here F.slot_list_ne ⟨_, e, rfl⟩ F.entry_list_ne (F.args_list_ne_2 _ _) (list_ne_nil e e2 ?_)) hr.units0
    exact ⟨fun z => (nomatch z), .bl false, H, I, rfl, q⟩
  | cons x1 xr =>
    refine wpAny_richCompare_same_room (op := .NotEq) ⟨_, e, rfl⟩ ⟨_, e2, rfl⟩ F.slot_list_ne (GQ.call_here F.slot_list_ne ⟨_, e, rfl⟩ F.entry_list_ne (F.args_list_ne_2 _ _) (list_ne_ne e e2 ?_ ?_)) hr.units0
    · have := rv.length
      simp at this ⊢
      intro z
      rw [z] at this
      simp at this
    · exact ⟨fun z => (nomatch z), .bl true, H, I, rfl, q⟩

variable {C : Addr} {j : Nat}
theorem meth_inj {K : PySem.W.Frag} {m : Str} {f g : Addr} (a : Meth K C m f) (b : Meth K C m g) : f = g := by
  have h := a.at_.symm.trans b.at_
  cases h
  rfl
abbrev rAddU (C : Addr) : R2 := fun x y H Q => rI0 (fun i j => .int (i + j)) x y H Q ∨ (rOwn C (spOp C okAll (· + ·)) E0 x y H Q ∨ rCat x y H Q)
theorem opAdd (T : Txt X.prog X.w X.K X.mg X.base C) (hr : Room j X.A) (hk : 40 ≤ j) : OpR X (binaryOp .Add) (rAddU C) := by
  obtain ⟨f, g, o, mf⟩ := T.o_add
  obtain ⟨f', fd, ps, ds, cl, mf', Fn, hb, hd⟩ := (m_add T).ex
  cases meth_inj mf mf'
  cases hd
  exact or_op op_add (or_op (op_own o Fn (hr.mono (by omega)) hb pass0) op_cat)
abbrev rSubU (C : Addr) : R2 := fun x y H Q => rI0 (fun i j => .int (i - j)) x y H Q ∨ (rOwn C (spOp C okAll (· - ·)) E0 x y H Q ∨ rRefl C (spOp C okAll fun a b => b - a) E0 x y H Q)
theorem opSub (T : Txt X.prog X.w X.K X.mg X.base C) (hr : Room j X.A) (hk : 40 ≤ j) : OpR X (binaryOp .Sub) (rSubU C) := by
  obtain ⟨f, g, o, mf⟩ := T.o_sub
  obtain ⟨f', fd, ps, ds, cl, mf', Fn, hb, hd⟩ := (m_sub T).ex
  cases meth_inj mf mf'
  cases hd
  obtain ⟨f2, g2, o2, mg2⟩ := T.o_rsub
  obtain ⟨f2', fd2, ps2, ds2, cl2, mg2', F2, hb2, hd2⟩ := (m_rsub T).ex
  cases meth_inj mg2 mg2'
  cases hd2
  exact or_op op_sub (or_op (op_own o Fn (hr.mono (by omega)) hb pass0) (op_refl F.slot_int_sub F.entry_int_sub F.args_int_sub_2 o2 F2 (hr.mono (by omega)) hb2 pass0))
abbrev rMulU (C : Addr) : R2 := fun x y H Q => rI CMulX (fun i j => .int (i * j)) x y H Q ∨ (rOwn C (spOp C okAll (· * ·)) E0 x y H Q ∨ (rRefl C (spOp C okAll (· * ·)) E0 x y H Q ∨ rRep x y H Q))
theorem opMul (T : Txt X.prog X.w X.K X.mg X.base C) (hr : Room j X.A) (hk : 40 ≤ j) : OpR X (binaryOp .Mult) (rMulU C) := by
  obtain ⟨f, g, o, mf⟩ := T.o_mul
  obtain ⟨f', fd, ps, ds, cl, mf', Fn, hb, hd⟩ := (m_mul T).ex
  cases meth_inj mf mf'
  cases hd
  obtain ⟨f2, g2, o2, mg2⟩ := T.o_rmul
  obtain ⟨f2', fd2, ps2, ds2, cl2, mg2', F2, hb2, hd2⟩ := (m_rmul T).ex
  cases meth_inj mg2 mg2'
  cases hd2
  exact or_op op_mulX (or_op (op_own o Fn (hr.mono (by omega)) hb pass0) (or_op (op_refl F.slot_int_mul F.entry_int_mul F.args_int_mul_2 o2 F2 (hr.mono (by omega)) hb2 pass0) op_rep))
theorem opNeg (T : Txt X.prog X.w X.K X.mg X.base C) (hr : Room j X.A) (hk : 40 ≤ j) : UnR X (unaryOp .USub) (rNeg C (spNeg C) E0) := by
  obtain ⟨f, fd, ps, ds, cl, mf, Fn, hb, hd⟩ := (m_neg T).ex
  cases hd
  exact un_own mf.at_ mf.fn Fn (hr.mono (by omega)) hb pass0
abbrev rEqU : R2 := fun x y H Q => rEq x y H Q ∨ rNil false x y H Q
theorem cmEq (T : Txt X.prog X.w X.K X.mg X.base C) (hr : Room j X.A) (hk : 40 ≤ j) : OpR X (compareOp .Eq) rEqU := or_op op_eq (op_eqNil hr)
abbrev rNeU (C : Addr) : R2 := fun x y H Q => rNe x y H Q ∨ (rNil true x y H Q ∨ rOwnNe C (spEqR C) E0 x y H Q)
theorem cmNe (T : Txt X.prog X.w X.K X.mg X.base C) (hr : Room j X.A) (hk : 40 ≤ j) : OpR X (compareOp .NotEq) (rNeU C) := by
  obtain ⟨f, o, mf⟩ := T.o_eq
  obtain ⟨f', fd, ps, ds, cl, mf', Fn, hb, hd⟩ := (m_eq T).ex
  cases meth_inj mf mf'
  cases hd
  exact or_op op_ne (or_op (op_neNil hr) (op_ownNe o Fn (hr.mono (by omega)) hb pass0))
end
end On
set_option linter.all false
/-! Sizes of sums and of lists. -/
namespace On
def total (l : List Rat) : Rat := l.foldl (· + ·) 0
def dot (u v : List Rat) : Rat := total ((u.zip v).map fun z => z.1 * z.2)
theorem total_snoc (l : List Rat) (x : Rat) : total (l ++ [x]) = total l + x := by
  unfold total
  rw [List.foldl_append] <;> rfl
theorem foldl_add (l : List Rat) (a : Rat) : l.foldl (· + ·) a = a + l.foldl (· + ·) 0 := by
  induction l generalizing a with
  | nil => exact (Rat.add_zero a).symm
  | cons x r ih =>
    rw [List.foldl_cons, List.foldl_cons, ih (a + x), ih (0 + x), Rat.zero_add, Rat.add_assoc]
theorem total_cons (x : Rat) (l : List Rat) : total (x :: l) = x + total l := by
  unfold total
  rw [List.foldl_cons, foldl_add, Rat.zero_add]
theorem total_nil : total [] = 0 := rfl
theorem dot_cons (a b : Rat) (u v : List Rat) : dot (a :: u) (b :: v) = a * b + dot u v := by
  unfold dot
  rw [List.zip_cons_cons, List.map_cons, total_cons]
theorem dot_nil (v : List Rat) : dot [] v = 0 := rfl
theorem dot_nil2 (v : List Rat) : dot v [] = 0 := by cases v <;> rfl
/-- a sum is no greater than the product of the sizes -/
theorem sz_foldl (l : List Rat) (a : Rat) : sz (l.foldl (· + ·) a) ≤ sz a * szL l := by
  induction l generalizing a with
  | nil => exact Nat.le_of_eq (Nat.mul_one _).symm
  | cons x r ih =>
    rw [List.foldl_cons]
    refine Nat.le_trans (ih (a + x)) ?_
    show sz (a + x) * szL r ≤ sz a * (sz x * szL r)
    rw [← Nat.mul_assoc]
    exact Nat.mul_le_mul_right _ (sz_add a x)
theorem sz_total (l : List Rat) : sz (total l) ≤ szL l := by
  have h := sz_foldl l 0
  rw [sz_zero, Nat.one_mul] at h
  exact h
theorem szL_zip (u v : List Rat) : szL ((u.zip v).map fun z => z.1 * z.2) ≤ szL u * szL v := by
  induction u generalizing v with
  | nil => exact Nat.mul_pos Nat.one_pos (szL_pos v)
  | cons a r ih =>
    cases v with
    | nil => exact Nat.mul_pos (szL_pos _) Nat.one_pos
    | cons b s =>
      show sz (a * b) * szL ((r.zip s).map _) ≤ sz a * szL r * (sz b * szL s)
      refine Nat.le_trans (Nat.mul_le_mul (sz_mul a b) (ih s)) (Nat.le_of_eq ?_)
      ac_rfl
theorem sz_dot (u v : List Rat) : sz (dot u v) ≤ szL u * szL v := Nat.le_trans (sz_total _) (szL_zip u v)
theorem szL_take (l : List Rat) (n : Nat) : szL (l.take n) ≤ szL l := by
  have e : l = l.take n ++ l.drop n := (List.take_append_drop n l).symm
  have h : szL l = szL (l.take n) * szL (l.drop n) := by rw [← szL_append, ← e]
  rw [h]
  exact Nat.le_mul_of_pos_right _ (szL_pos _)
theorem szL_drop (l : List Rat) (n : Nat) : szL (l.drop n) ≤ szL l := by
  have e : l = l.take n ++ l.drop n := (List.take_append_drop n l).symm
  have h : szL l = szL (l.take n) * szL (l.drop n) := by rw [← szL_append, ← e]
  rw [h]
  exact Nat.le_mul_of_pos_left _ (szL_pos _)
/-- every element below, so the list -/
theorem szL_le {b : Nat} : ∀ {l : List Rat}, (∀ q ∈ l, sz q ≤ 2 ^ b) → szL l ≤ 2 ^ (l.length * b)
  | [], _ => by show 1 ≤ 2 ^ (0 * b); rw [Nat.zero_mul] <;> exact Nat.le_refl _
  | q :: r, h => by
    show sz q * szL r ≤ 2 ^ ((r.length + 1) * b)
    rw [Nat.add_mul, Nat.one_mul, Nat.pow_add, Nat.mul_comm (2 ^ (r.length * b))]
    exact Nat.mul_le_mul (h q List.mem_cons_self) (szL_le fun p hp => h p (List.mem_cons_of_mem _ hp))
/-- the sizes of the rows together -/
def szM (m : List (List Rat)) : Nat := m.foldr (fun r n => szL r * n) 1
theorem szM_nil : szM [] = 1 := rfl
theorem szM_cons (r : List Rat) (m : List (List Rat)) : szM (r :: m) = szL r * szM m := rfl
theorem szM_pos : ∀ m : List (List Rat), 0 < szM m
  | [] => Nat.one_pos
  | r :: m => Nat.mul_pos (szL_pos r) (szM_pos m)
theorem szL_le_szM {r : List Rat} {m : List (List Rat)} (h : r ∈ m) : szL r ≤ szM m := by
  induction m with
  | nil => cases h
  | cons x t ih =>
    rw [szM_cons]
    rcases List.mem_cons.mp h with e | h
    · subst e
      exact Nat.le_mul_of_pos_right _ (szM_pos t)
    · exact Nat.le_trans (ih h) (Nat.le_mul_of_pos_left _ (szL_pos x))
/-- rows times a list -/
def made (m : List (List Rat)) (v : List Rat) : List Rat := m.map fun r => dot r v
def value (m : List (List Rat)) (u v : List Rat) : Rat := dot u (made m v)
theorem szL_made (m : List (List Rat)) (v : List Rat) : szL (made m v) ≤ szM m * szL v ^ m.length := by
  induction m with
  | nil => exact Nat.le_refl _
  | cons r t ih =>
    show sz (dot r v) * szL (made t v) ≤ szL r * szM t * szL v ^ (t.length + 1)
    refine Nat.le_trans (Nat.mul_le_mul (sz_dot r v) ih) (Nat.le_of_eq ?_)
    rw [Nat.pow_succ]
    ac_rfl
theorem sz_value (m : List (List Rat)) (u v : List Rat) : sz (value m u v) ≤ szL u * (szM m * szL v ^ m.length) := Nat.le_trans (sz_dot _ _) (Nat.mul_le_mul_left _ (szL_made m v))
theorem two_exps {a b n : Nat} (ha : 0 < a) (hb : 0 < b) (h : a * b ≤ 2 ^ n) : ∃ i j, a ≤ 2 ^ i ∧ b ≤ 2 ^ j ∧ i + j ≤ n + 2 := by
  have h1 := Nat.log2_self_le (Nat.ne_of_gt ha)
  have h2 := Nat.log2_self_le (Nat.ne_of_gt hb)
  refine ⟨a.log2 + 1, b.log2 + 1, Nat.le_of_lt Nat.lt_log2_self, Nat.le_of_lt Nat.lt_log2_self, ?_⟩
  have h3 : 2 ^ (a.log2 + b.log2) ≤ 2 ^ n := by
    rw [Nat.pow_add]
    exact Nat.le_trans (Nat.mul_le_mul h1 h2) h
  have := (Nat.pow_le_pow_iff_right (by decide : 1 < 2)).mp h3
  omega
end On
set_option Elab.async false
set_option linter.all false
set_option maxRecDepth 100000
set_option maxHeartbeats 4000000
/-! for loops; operators of Ratios in expressions; subscripts, slices, lengths. -/
namespace On
open PySem PySem.Spec PyProof.Rows L2
section
variable {K : PySem.W.Frag} {σ : L2.St} {G0 H1 G H : Hp} {wi : TI} {g : TG} {te tl : TE} {tt : TT} {ta : TA} {tb tz : TS} {D : Ends} {γ δ ε : Type} {S : δ → V → Hp → Prop} {S' : ε → V → Hp → Prop}
/-- what a loop's turns keep: I of the turn, the slots, what is known, the heap -/
theorem for_core {J : It} {n : Nat} {Gw : Hp → Prop} {Y : Nat → Hp → V → Hp → Prop} {Gs Hs : Hp} (w : Walk J n Gw Y) (hG : ∀ H', Ex Gs H' → Gw H') (gr : Grow G0 H1 Gs Hs) (I : Nat → L2.St → Hp → Hp → Prop) (i0 : I 0 σ Gs Hs)
    (hs : ∀ i x σ' G' H' H'', i < n → Ex Gs G' → Grow G0 H1 G' H' → I i σ' G' H' → Y i H' x H'' → Ex H' H'' ∧ ∃ σ2, Step g σ' x H'' σ2 ∧
      ∀ N : L2.St → Hp → Prop, (∀ σ3 G3 H3, Ex Gs G3 → Grow G0 H1 G3 H3 → I (i + 1) σ3 G3 H3 → N σ3 H3) → tb { D with nx := N, ct := N, bk := D.nx } σ2 H'')
    (hd : ∀ σ' G' H', Ex Gs G' → Grow G0 H1 G' H' → I n σ' G' H' → D.nx σ' H') :
    ∃ W : Nat → Nat → L2.St → Hp → Prop, (∃ m, W 0 m σ Hs) ∧ ∀ i m σ H, W i m σ H →
      (J.stop i H ∧ D.nx σ H) ∨ (J.go i H ∧ ∃ N : L2.St → Hp → Prop, (∀ σ' H', N σ' H' → ∃ m', m' < m ∧ W (i + 1) m' σ' H') ∧ ∀ x H', J.yld i H x H' → g x σ H' fun σ2 H2 => tb { D with nx := N, ct := N, bk := D.nx } σ2 H2) := by
  refine for_it w (fun i σ' H' => ∃ G', Ex Gs G' ∧ Grow G0 H1 G' H' ∧ I i σ' G' H') ⟨Gs, Ex.rfl, gr, i0⟩ ?_ ?_ ?_
  · rintro i σ' H' _ ⟨G', e, g', _⟩
    exact hG H' (e.trans g'.re)
  · rintro i x σ' H' H'' hi ⟨G', e, g', iv⟩ hy
    obtain ⟨e1, σ2, st, body⟩ := hs i x σ' G' H' H'' hi e g' iv hy
    exact st _ (body _ fun σ3 G3 H3 e3 g3 i3 => ⟨G3, e3, g3, i3⟩)
  · rintro σ' H' ⟨G', e, g', iv⟩
    exact hd σ' G' H' e g' iv
/-- for x in a list -/
theorem q_forL {zs : List δ} {j : Nat} (up : Up S) (gr : Grow G0 H1 G H) (h : Ev tl σ G (lstOf S zs)) (I : Nat → L2.St → Hp → Hp → Prop) (i0 : ∀ G' H', Ex G G' → Ex H H' → Grow G0 H1 G' H' → I 0 σ G' H')
    (hs : ∀ (i : Nat) z x σ' G' H', zs[i]? = some z → S z x G' → Ex G G' → Grow G0 H1 G' H' → I i σ' G' H' → ∀ N : L2.St → Hp → Prop, (∀ σ3 G3 H3, Ex G' G3 → Grow G0 H1 G3 H3 → I (i + 1) σ3 G3 H3 → N σ3 H3) → tb { D with nx := N, ct := N, bk := tz D } (σ'.set j (some x)) H')
    (hd : ∀ σ' G' H', Ex G G' → Grow G0 H1 G' H' → I zs.length σ' G' H' → tz D σ' H') : tSeq (tFor (iList K tl) (gName j) tb) tz D σ H :=
  h H gr.re _ fun v Gs Hs g1 ⟨a, xs, ev, ha, all⟩ => by
    refine ⟨a, ev, ⟨xs, SqL.of (g1.re _ _ ha)⟩, ?_⟩
    refine for_core (D := { D with nx := tz D }) (walk_list (xs := xs)) (fun H' e => SqL.of (e _ _ ha)) (gr.trans g1) I (i0 Gs Hs g1.kn g1.ol (gr.trans g1)) (fun i x σ' G' H' H'' hi e g' iv hy => ?_) fun σ' G' H' e g' iv => hd σ' G' H' (g1.kn.trans e) g' (by rw [← all.len]; exact iv)
    obtain ⟨e2, hx⟩ := hy
    subst e2
    obtain ⟨z, hz, s⟩ := all.get hx
    exact ⟨Ex.rfl, _, step_name, fun N hN => hs i z x σ' G' _ hz (up _ _ _ _ e s) (g1.kn.trans e) g' iv N fun σ3 G3 H3 e3 => hN σ3 G3 H3 (e.trans e3)⟩
/-- for x, y in a list of pairs -/
theorem q_forP {zs : List (δ × ε)} {j j2 : Nat} (up : Up S) (up2 : Up S') (gr : Grow G0 H1 G H) (h : Ev tl σ G (lstOf (pairOf S S') zs)) (I : Nat → L2.St → Hp → Hp → Prop) (i0 : ∀ G' H', Ex G G' → Ex H H' → Grow G0 H1 G' H' → I 0 σ G' H')
    (hs : ∀ (i : Nat) z x y σ' G' H', zs[i]? = some z → S z.1 x G' → S' z.2 y G' → Ex G G' → Grow G0 H1 G' H' → I i σ' G' H' → ∀ N : L2.St → Hp → Prop, (∀ σ3 G3 H3, Ex G' G3 → Grow G0 H1 G3 H3 → I (i + 1) σ3 G3 H3 → N σ3 H3) → tb { D with nx := N, ct := N, bk := tz D } ((σ'.set j (some x)).set j2 (some y)) H')
    (hd : ∀ σ' G' H', Ex G G' → Grow G0 H1 G' H' → I zs.length σ' G' H' → tz D σ' H') : tSeq (tFor (iList K tl) (gTup K 2 (gCons (gName j) (gCons (gName j2) gNil))) tb) tz D σ H :=
  h H gr.re _ fun v Gs Hs g1 ⟨a, xs, ev, ha, all⟩ => by
    refine ⟨a, ev, ⟨xs, SqL.of (g1.re _ _ ha)⟩, ?_⟩
    refine for_core (D := { D with nx := tz D }) (walk_list (xs := xs)) (fun H' e => SqL.of (e _ _ ha)) (gr.trans g1) I (i0 Gs Hs g1.kn g1.ol (gr.trans g1)) (fun i x σ' G' H' H'' hi e g' iv hy => ?_) fun σ' G' H' e g' iv => hd σ' G' H' (g1.kn.trans e) g' (by rw [← all.len]; exact iv)
    obtain ⟨e2, hx⟩ := hy
    subst e2
    obtain ⟨z, hz, t, p, r, rfl, ht, s1, s2⟩ := all.get hx
    exact ⟨Ex.rfl, _, step_pair (g'.re _ _ (e _ _ ht)), fun N hN => hs i z p r σ' G' _ hz (up _ _ _ _ e s1) (up2 _ _ _ _ e s2) (g1.kn.trans e) g' iv N fun σ3 G3 H3 e3 => hN σ3 G3 H3 (e.trans e3)⟩
/-- for i, x in enumerate(a list) -/
theorem q_forE {zs : List δ} {j j2 : Nat} (up : Up S) (gr : Grow G0 H1 G H) (h : EvA ta σ G fun vs G => ∃ v, vs = [v] ∧ lstOf S zs v G) (I : Nat → L2.St → Hp → Hp → Prop) (i0 : ∀ G' H', Ex G G' → Ex H H' → Grow G0 H1 G' H' → I 0 σ G' H')
    (hs : ∀ (i : Nat) z x σ' G' H' H'', zs[i]? = some z → S z x G' → Ex G G' → Grow G0 H1 G' H' → I i σ' G' H' → Ex H' H'' → Grow G0 H1 G' H'' → ∀ N : L2.St → Hp → Prop, (∀ σ3 G3 H3, Ex G' G3 → Grow G0 H1 G3 H3 → I (i + 1) σ3 G3 H3 → N σ3 H3) → tb { D with nx := N, ct := N, bk := tz D } ((σ'.set j (some (.int (i : Int)))).set j2 (some x)) H'')
    (hd : ∀ σ' G' H', Ex G G' → Grow G0 H1 G' H' → I zs.length σ' G' H' → tz D σ' H') : tSeq (tFor (iEnum K ta) (gTup K 2 (gCons (gName j) (gCons (gName j2) gNil))) tb) tz D σ H :=
  h H gr.re _ fun ws Gs Hs g1 ⟨v, ew, a, xs, ev, ha, all⟩ => by
    subst ev
    refine ⟨a, xs, ew, SqL.of (g1.re _ _ ha), ?_⟩
    refine for_core (D := { D with nx := tz D }) (walk_enum (xs := xs)) (fun H' e => SqL.of (e _ _ ha)) (gr.trans g1) I (i0 Gs Hs g1.kn g1.ol (gr.trans g1)) (fun i x σ' G' H' H'' hi e g' iv hy => ?_) fun σ' G' H' e g' iv => hd σ' G' H' (g1.kn.trans e) g' (by rw [← all.len]; exact iv)
    obtain ⟨T, x1, y1, rfl, hT, rfl, hx, hy⟩ := hy
    have hx' := Option.some.inj hx
    subst hx'
    obtain ⟨z, hz, s⟩ := all.get hy
    exact ⟨Ex.new hT, _, step_pair upd_same, fun N hN => hs i z y1 σ' G' H' _ hz (up _ _ _ _ e s) (g1.kn.trans e) g' iv (Ex.new hT) (g'.more (Ex.new hT)) N fun σ3 G3 H3 e3 => hN σ3 G3 H3 (e.trans e3)⟩
/-- for i in range(n) -/
theorem q_forR {n : Nat} {j : Nat} (gr : Grow G0 H1 G H) (h : EvA ta σ G fun vs _ => vs = [.int (n : Int)]) (hn : n ≤ 100000) (I : Nat → L2.St → Hp → Hp → Prop) (i0 : ∀ G' H', Ex G G' → Ex H H' → Grow G0 H1 G' H' → I 0 σ G' H')
    (hs : ∀ (i : Nat) σ' G' H', i < n → Ex G G' → Grow G0 H1 G' H' → I i σ' G' H' → ∀ N : L2.St → Hp → Prop, (∀ σ3 G3 H3, Ex G' G3 → Grow G0 H1 G3 H3 → I (i + 1) σ3 G3 H3 → N σ3 H3) → tb { D with nx := N, ct := N, bk := tz D } (σ'.set j (some (.int (i : Int)))) H')
    (hd : ∀ σ' G' H', Ex G G' → Grow G0 H1 G' H' → I n σ' G' H' → tz D σ' H') : tSeq (tFor (iRng1 ta) (gName j) tb) tz D σ H :=
  h H gr.re _ fun ws Gs Hs g1 ew => by
    refine ⟨(n : Int), ew, by omega, by omega, ?_⟩
    refine for_core (D := { D with nx := tz D }) (walk_range (lo := 0) (n := n)) (fun H' e => trivial) (gr.trans g1) I (i0 Gs Hs g1.kn g1.ol (gr.trans g1)) (fun i x σ' G' H' H'' hi e g' iv hy => ?_) fun σ' G' H' e g' iv => hd σ' G' H' (g1.kn.trans e) g' iv
    obtain ⟨e2, hx⟩ := hy
    subst e2
    subst hx
    refine ⟨Ex.rfl, σ'.set j (some (.int (i : Int))), ?_, fun N hN => hs i σ' G' _ hi (g1.kn.trans e) g' iv N fun σ3 G3 H3 e3 => hN σ3 G3 H3 (e.trans e3)⟩
    have e0 : (0 : Int) + (i : Int) = (i : Int) := Int.zero_add _
    show Step (gName j) σ' (V.int (0 + (i : Int))) _ _
    rw [e0]
    exact step_name
/-- for i in range(a, b) -/
theorem q_forR2 {a n : Nat} {b : Int} {j : Nat} (gr : Grow G0 H1 G H) (h : EvA ta σ G fun vs _ => vs = [.int (a : Int), .int b]) (hb : b = (a : Int) + n) (hn : a + n ≤ 100000) (I : Nat → L2.St → Hp → Hp → Prop) (i0 : ∀ G' H', Ex G G' → Ex H H' → Grow G0 H1 G' H' → I 0 σ G' H')
    (hs : ∀ (i : Nat) σ' G' H', i < n → Ex G G' → Grow G0 H1 G' H' → I i σ' G' H' → ∀ N : L2.St → Hp → Prop, (∀ σ3 G3 H3, Ex G' G3 → Grow G0 H1 G3 H3 → I (i + 1) σ3 G3 H3 → N σ3 H3) → tb { D with nx := N, ct := N, bk := tz D } (σ'.set j (some (.int ((a + i : Nat) : Int)))) H')
    (hd : ∀ σ' G' H', Ex G G' → Grow G0 H1 G' H' → I n σ' G' H' → tz D σ' H') : tSeq (tFor (iRng2 ta) (gName j) tb) tz D σ H :=
  h H gr.re _ fun ws Gs Hs g1 ew => by
    subst hb
    refine ⟨(a : Int), (a : Int) + n, ew, ⟨by omega, by omega, by omega, by omega⟩, ?_⟩
    have en : ((a : Int) + n - a).toNat = n := by omega
    rw [en]
    refine for_core (D := { D with nx := tz D }) (walk_range (lo := (a : Int)) (n := n)) (fun H' e => trivial) (gr.trans g1) I (i0 Gs Hs g1.kn g1.ol (gr.trans g1)) (fun i x σ' G' H' H'' hi e g' iv hy => ?_) fun σ' G' H' e g' iv => hd σ' G' H' (g1.kn.trans e) g' iv
    obtain ⟨e2, hx⟩ := hy
    subst e2
    subst hx
    refine ⟨Ex.rfl, σ'.set j (some (.int ((a + i : Nat) : Int))), ?_, fun N hN => hs i σ' G' _ hi (g1.kn.trans e) g' iv N fun σ3 G3 H3 e3 => hN σ3 G3 H3 (e.trans e3)⟩
    have e0 : (a : Int) + (i : Int) = ((a + i : Nat) : Int) := by omega
    show Step (gName j) σ' (V.int ((a : Int) + (i : Int))) _ _
    rw [e0]
    exact step_name
end

/-! ### Ratios in expressions -/
/-- two that may be reckoned with -/
def Ok2 (p q : Rat) : Prop := ∃ m n, Bd m p ∧ Bd n q ∧ m + n ≤ LIM
theorem Ok2.of {p q : Rat} {n : Nat} (h : sz p * sz q ≤ 2 ^ n) (hn : n + 2 ≤ LIM) : Ok2 p q := by
  obtain ⟨i, j, h1, h2, h3⟩ := two_exps (sz_pos p) (sz_pos q) h
  exact ⟨i, j, h1, h2, by omega⟩
theorem Ok2.bd {p q : Rat} {m n : Nat} (h : Bd m p) (h2 : Bd n q) (hn : m + n ≤ LIM) : Ok2 p q := ⟨m, n, h, h2, hn⟩
theorem Ok2.symm {p q : Rat} (h : Ok2 p q) : Ok2 q p := by
  obtain ⟨m, n, h1, h2, h3⟩ := h
  exact ⟨n, m, h2, h1, by omega⟩
section
variable {K : PySem.W.Frag} {σ : L2.St} {H : Hp} {ta tb : TE} {C : Addr} {p q : Rat} {ok : Rat → Rat → Prop} {f : Rat → Rat → Rat}
theorem op_tr {v w : V} {G : Hp} {E : XK} (hv : isR C p v G) (hw : isN C q w G) (ho : ok p q) (h2 : Ok2 p q) : Tr (fun H1 Q => spOp C ok f [v, w] H1 Q E) G (isR C (f p q)) := Pu.tr (γ := Rat × Rat) (g := (p, q)) ⟨⟨v, w, rfl, hv, hw⟩, ho, h2⟩
theorem own_tr {v w : V} {G : Hp} (hv : isR C p v G) (hw : isN C q w G) (ho : ok p q) (h2 : Ok2 p q) : Tr (fun H1 Q => rOwn C (spOp C ok f) E0 v w H1 Q) G (isR C (f p q)) := fun H1 e Q k => by
  obtain ⟨a, dx, ev, ha⟩ := id hv
  refine ⟨a, dx, _, ev, e _ _ ha, ?_, Pu.tr (γ := Rat × Rat) (g := (p, q)) ⟨⟨v, w, rfl, hv, hw⟩, ho, h2⟩ H1 e Q k⟩
  rcases hw with ⟨i, e2, _⟩ | ⟨b, dy, e2, hb⟩
  · exact .inr ⟨i, e2⟩
  · exact .inl ⟨b, dy, _, e2, e _ _ hb⟩
theorem refl_tr {i : Int} {w : V} {G : Hp} (hw : isR C p w G) (ho : ok p i) (h2 : Ok2 p i) : Tr (fun H1 Q => rRefl C (spOp C ok f) E0 (.int i) w H1 Q) G (isR C (f p i)) := fun H1 e Q k => by
  obtain ⟨a, dx, ev, ha⟩ := id hw
  exact ⟨i, a, dx, _, rfl, ev, e _ _ ha, Pu.tr (γ := Rat × Rat) (g := (p, (i : Rat))) ⟨⟨w, .int i, rfl, hw, .inl ⟨i, rfl, rfl⟩⟩, ho, h2⟩ H1 e Q k⟩
theorem isR.n {v : V} {G : Hp} (h : isR C q v G) : isN C q v G := .inr h
theorem ev_addN (h1 : Ev ta σ H (isR C p)) (h2 : Ev tb σ H (isN C q)) (h : Ok2 p q) : Ev (tOp (rAddU C) ta tb) σ H (isR C (p + q)) :=
  ev_op h1 h2 up_isR up_isN fun v w G e hv hw H1 e1 Q k => .inr (.inl (own_tr (f := (· + ·)) hv hw trivial h H1 e1 Q k))
theorem ev_subN (h1 : Ev ta σ H (isR C p)) (h2 : Ev tb σ H (isN C q)) (h : Ok2 p q) : Ev (tOp (rSubU C) ta tb) σ H (isR C (p - q)) :=
  ev_op h1 h2 up_isR up_isN fun v w G e hv hw H1 e1 Q k => .inr (.inl (own_tr (f := (· - ·)) hv hw trivial h H1 e1 Q k))
theorem ev_mulN (h1 : Ev ta σ H (isR C p)) (h2 : Ev tb σ H (isN C q)) (h : Ok2 p q) : Ev (tOp (rMulU C) ta tb) σ H (isR C (p * q)) :=
  ev_op h1 h2 up_isR up_isN fun v w G e hv hw H1 e1 Q k => .inr (.inl (own_tr (f := (· * ·)) hv hw trivial h H1 e1 Q k))
/-- any number less a Ratio, times a Ratio -/
theorem ev_subF (h1 : Ev ta σ H (isN C p)) (h2 : Ev tb σ H (isR C q)) (h : Ok2 p q) : Ev (tOp (rSubU C) ta tb) σ H (isR C (p - q)) :=
  ev_op h1 h2 up_isN up_isR fun v w G e hv hw H1 e1 Q k => by
    rcases hv with ⟨i, rfl, rfl⟩ | hv
    · exact .inr (.inr (refl_tr (f := fun a b => b - a) hw trivial h.symm H1 e1 Q k))
    · exact .inr (.inl (own_tr (f := (· - ·)) hv hw.n trivial h H1 e1 Q k))
theorem ev_mulF (h1 : Ev ta σ H (isN C p)) (h2 : Ev tb σ H (isR C q)) (h : Ok2 p q) : Ev (tOp (rMulU C) ta tb) σ H (isR C (p * q)) :=
  ev_op h1 h2 up_isN up_isR fun v w G e hv hw H1 e1 Q k => by
    rcases hv with ⟨i, rfl, rfl⟩ | hv
    · exact .inr (.inr (.inl (refl_tr (ok := okAll) (f := (· * ·)) hw trivial h.symm H1 e1 Q (by rw [Rat.mul_comm]; exact k))))
    · exact .inr (.inl (own_tr (f := (· * ·)) hv hw.n trivial h H1 e1 Q k))
theorem Tr.num {r : Hp → VK → Prop} (h : Tr r H (isR C q)) : Tr r H (isN C q) := h.imp fun _ _ _ p => .inr p
theorem ev_addR (h1 : Ev ta σ H (isR C p)) (h2 : Ev tb σ H (isR C q)) (h : Ok2 p q) : Ev (tOp (rAddU C) ta tb) σ H (isR C (p + q)) := ev_addN h1 (Tr.num h2) h
theorem ev_subR (h1 : Ev ta σ H (isR C p)) (h2 : Ev tb σ H (isR C q)) (h : Ok2 p q) : Ev (tOp (rSubU C) ta tb) σ H (isR C (p - q)) := ev_subN h1 (Tr.num h2) h
theorem ev_mulR (h1 : Ev ta σ H (isR C p)) (h2 : Ev tb σ H (isR C q)) (h : Ok2 p q) : Ev (tOp (rMulU C) ta tb) σ H (isR C (p * q)) := ev_mulN h1 (Tr.num h2) h
/-- ints by the same operators -/
theorem ev_addI {i j : Int} (h1 : Ev ta σ H (isV (.int i))) (h2 : Ev tb σ H (isV (.int j))) : Ev (tOp (rAddU C) ta tb) σ H (isV (.int (i + j))) :=
  ev_op h1 h2 up_isV up_isV fun v w G e hv hw => Tr.same rfl fun H1 _ Q k => .inl ⟨i, j, hv, hw, k⟩
theorem ev_subI {i j : Int} (h1 : Ev ta σ H (isV (.int i))) (h2 : Ev tb σ H (isV (.int j))) : Ev (tOp (rSubU C) ta tb) σ H (isV (.int (i - j))) :=
  ev_op h1 h2 up_isV up_isV fun v w G e hv hw => Tr.same rfl fun H1 _ Q k => .inl ⟨i, j, hv, hw, k⟩
theorem ev_mulI {i j : Int} (hc : CMulX i j) (h1 : Ev ta σ H (isV (.int i))) (h2 : Ev tb σ H (isV (.int j))) : Ev (tOp (rMulU C) ta tb) σ H (isV (.int (i * j))) :=
  ev_op h1 h2 up_isV up_isV fun v w G e hv hw => Tr.same rfl fun H1 _ Q k => .inl ⟨i, j, hv, hw, hc, k⟩
theorem ev_eqU {x y : V} (hs : scal x y = true) (h1 : Ev ta σ H (isV x)) (h2 : Ev tb σ H (isV y)) : Ev (tOp rEqU ta tb) σ H (isV (.bl (decide (x = y)))) :=
  ev_op h1 h2 up_isV up_isV fun v w G e hv hw => Tr.same rfl fun H1 _ Q k => .inl (by
    obtain rfl : v = x := hv
    obtain rfl : w = y := hw
    exact ⟨hs, k⟩)
theorem ev_neU {x y : V} (hs : scal x y = true) (h1 : Ev ta σ H (isV x)) (h2 : Ev tb σ H (isV y)) : Ev (tOp (rNeU C) ta tb) σ H (isV (.bl (!decide (x = y)))) :=
  ev_op h1 h2 up_isV up_isV fun v w G e hv hw => Tr.same rfl fun H1 _ Q k => .inl (by
    obtain rfl : v = x := hv
    obtain rfl : w = y := hw
    exact ⟨hs, k⟩)
/-- ints: their equality as a test's answer -/
theorem vint_eq {i j : Int} : decide (V.int i = V.int j) = decide (i = j) := by
  by_cases h : i = j
  · subst h
    simp
  · rw [decide_eq_false h, decide_eq_false fun z => h (V.int.inj z)]
theorem ev_neR (h1 : Ev ta σ H (isR C p)) (h2 : Ev tb σ H (isR C q)) : Ev (tOp (rNeU C) ta tb) σ H (isV (.bl (!decide (p = q)))) :=
  ev_op h1 h2 up_isR up_isR fun v w G e hv hw H1 e1 Q k => by
    obtain ⟨a, dx, ev, ha⟩ := id hv
    obtain ⟨b, dy, ew, hb⟩ := id hw
    exact .inr (.inr ⟨a, dx, _, b, dy, _, ev, e1 _ _ ha, ew, e1 _ _ hb, Pu.tr (γ := Rat × Rat) (g := (p, q)) ⟨v, w, rfl, hv, hw⟩ H1 e1 _ fun u G' H2 g' eu => ⟨_, eu, k _ G' H2 g' rfl⟩⟩)
/-- xs != [] -/
theorem ev_neNil {γ : Type} {R : γ → V → Hp → Prop} {zs : List γ} (up : Up R) (h1 : Ev ta σ H (lstOf R zs)) : Ev (tOp (rNeU C) ta (tLst tNil)) σ H (isV (.bl (!zs.isEmpty))) := fun H1 e Q k =>
  h1 H1 e _ fun v G H2 g ⟨a, xs, ev, ha, all⟩ => ⟨Nat.zero_le _, fun p hp => .inr (.inl ⟨a, p, xs, ev, rfl, Ex.new hp _ _ (g.re _ _ ha), upd_same, by
    have he : xs.isEmpty = zs.isEmpty := by
      have := all.len
      cases xs <;> cases zs <;> first | rfl | simp at this
    rw [show (if true = true then !xs.isEmpty else xs.isEmpty) = !zs.isEmpty from by rw [he] <;> rfl]
    exact k _ G _ (g.more (Ex.new hp)) rfl⟩)⟩
theorem ev_eqNil {γ : Type} {R : γ → V → Hp → Prop} {zs : List γ} (up : Up R) (h1 : Ev ta σ H (lstOf R zs)) : Ev (tOp rEqU ta (tLst tNil)) σ H (isV (.bl zs.isEmpty)) := fun H1 e Q k =>
  h1 H1 e _ fun v G H2 g ⟨a, xs, ev, ha, all⟩ => ⟨Nat.zero_le _, fun p hp => .inr ⟨a, p, xs, ev, rfl, Ex.new hp _ _ (g.re _ _ ha), upd_same, by
    have he : xs.isEmpty = zs.isEmpty := by
      have := all.len
      cases xs <;> cases zs <;> first | rfl | simp at this
    rw [show (if false = true then !xs.isEmpty else xs.isEmpty) = zs.isEmpty from by rw [he] <;> rfl]
    exact k _ G _ (g.more (Ex.new hp)) rfl⟩⟩
theorem ev_negR (h1 : Ev ta σ H (isR C p)) : Ev (tUn (rNeg C (spNeg C) E0) ta) σ H (isR C (-p)) :=
  ev_un h1 fun v G e hv H1 e1 Q k => by
    obtain ⟨a, dx, ev, ha⟩ := id hv
    exact ⟨a, dx, _, ev, e1 _ _ ha, Pu.tr (γ := Rat) (g := p) ⟨v, rfl, hv⟩ H1 e1 Q k⟩
theorem ev_over (h1 : Ev ta σ H (isR C p)) (h2 : Ev tb σ H (isN C q)) (hq : q ≠ 0) (h : Ok2 p q) : Ev (tMeth C "over" (spOp C (fun _ b => b ≠ 0) (· / ·)) [] E0 ta (tCons tb tNil)) σ H (isR C (p / q)) := fun H1 e Q k =>
  h1 H1 e _ fun v G H2 g hv => by
    obtain ⟨a, dx, ev, ha⟩ := id hv
    refine ⟨a, dx, _, ev, g.re _ _ ha, by simp [rfs]; decide +kernel, ?_⟩
    refine (h2.up (fun v G G' => up_isN _ v G G') g.kn) H2 g.re _ fun w G' H3 g' hw => ?_
    exact op_tr (ok := fun _ b => b ≠ 0) (f := (· / ·)) (up_isR _ _ _ _ g'.kn hv) hw hq h H3 g'.re Q fun u G'' H4 g'' pu => k u G'' H4 ((g.trans g').trans g'') pu
theorem ev_prop {f : Rat → Int} (h1 : Ev ta σ H (isR C p)) : Ev (tProp C (spGet C f) [] E0 ta) σ H (isV (.int (f p))) := fun H1 e Q k =>
  h1 H1 e _ fun v G H2 g hv => by
    obtain ⟨a, dx, ev, ha⟩ := id hv
    subst ev
    exact ⟨a, dx, _, rfl, g.re _ _ ha, Pu.tr (γ := Rat) (g := p) ⟨_, rfl, hv⟩ H2 g.re Q fun u G' H3 g' pu => k u G' H3 (g.trans g') pu⟩
end
end On
set_option Elab.async false
set_option linter.all false
set_option maxRecDepth 100000
set_option maxHeartbeats 4000000
/-! Subscripts, slices, lengths, displays, all of bools. -/
namespace On
open PySem PySem.Spec PyProof.Rows L2
/-! ### rules -/
section
variable {X : Cx}
def rIxLT (K : PySem.W.Frag) : R2 := fun x y H Q => rIxL K x y H Q ∨ rIxT K x y H Q
theorem ix_lt : IxR X (rIxLT X.K) := ix_list.or ix_tup
abbrev rLen (K : PySem.W.Frag) : List V → Hp → VK → Prop := fun xs H Q => ∃ p ys, xs = [.ref p] ∧ (SqL K H p ys ∨ SqT K H p ys) ∧ Q (.int ys.length) H
theorem call_len_lt : CallR X (.builtin "len") (rLen X.K) := call_len_seq
abbrev rListOf (K : PySem.W.Frag) : List V → Hp → VK → Prop := fun xs H Q => ∃ p ys, xs = [.ref p] ∧ (SqL K H p ys ∨ SqT K H p ys) ∧ ∀ l, H l = none → Q (.ref l) (upd H l (.lst ys))
abbrev rTupleOf (K : PySem.W.Frag) : List V → Hp → VK → Prop := fun xs H Q => ∃ p ys, xs = [.ref p] ∧ ((SqL K H p ys ∧ ∀ l, H l = none → Q (.ref l) (upd H l (.tup ys))) ∨ (SqT K H p ys ∧ Q (.ref p) H))
/-- all of a list of bools -/
abbrev rAllB : List V → Hp → VK → Prop := fun xs H Q => ∃ (a : Addr) (bs : List Bool), xs = [.ref a] ∧ H a = some (.lst (bs.map V.bl)) ∧ Q (.bl (bs.all id)) H
theorem readsAll_bools {h : Heap} : ∀ {bs : List Bool} {us : List Value}, Vals (bs.map V.bl) us → ReadsAll h us (bs.map PyData.bool) []
  | [], us, r => by cases r; exact .nil
  | b :: bs, us, r => by
    cases r with
    | cons r1 r2 =>
      cases r1
      exact readsAll_cons_val (.bool b) (readsAll_bools r2)
theorem plain_bools : ∀ bs : List Bool, PyData.plainAll (bs.map PyData.bool) = true
  | [] => rfl
  | b :: bs => plain_bools bs
theorem call_allB (hc : X.calm = true) : CallR X (.builtin "all") rAllB := by
  intro pins s σ H xs us Q I r h
  obtain ⟨a, bs, rfl, ha, q⟩ := h
  obtain ⟨u, rfl, rx⟩ := vals1 r
  cases rx
  obtain ⟨its, n, rv, e, hz⟩ := I.lst ha
  refine PySem.W.all_list_data (xs := bs.map PyData.bool) (as := []) (I.ok.hd hc) ⟨_, e, rfl, n, rfl⟩ (readsAll_bools rv) (plain_bools bs) (fun x hx => ?_) fun h' tk hk => ?_
  · obtain ⟨b, _, rfl⟩ := List.mem_map.mp hx
    exact trivial
  · refine ⟨.bl (bs.all id), H, I.kept (t' := tk) hk, ?_, q⟩
    show Value.bool _ = Value.bool _
    rw [List.all_map]
    rfl
end
section
variable {X : Cx} {C : Addr} {j : Nat}
end

/-! ### expressions -/
theorem All2.getI {α β : Type} {R : α → β → Prop} {l : List α} {m : List β} {i : Int} {b : β} (h : All2 R l m) (e : atI m i = some b) : ∃ a, atI l i = some a ∧ R a b := by
  unfold atI at e ⊢
  rw [h.len]
  cases q : ixN m.length i with
  | none => rw [q] at e; cases e
  | some j => rw [q] at e; exact h.getR e
/-- the items of a slice -/
def cut {α : Type} (xs : List α) (lo hi : Option Int) : List α := (xs.drop (HT.sIx xs.length 0 lo)).take (HT.sIx xs.length xs.length hi - HT.sIx xs.length 0 lo)
theorem cut_to {α : Type} (xs : List α) (k : Nat) : cut xs none (some (k : Int)) = xs.take k := by
  unfold cut
  rw [HT.sIx_none, HT.sIx_nat, List.drop_zero, Nat.sub_zero]
  by_cases h : k ≤ xs.length
  · rw [Nat.min_eq_left h]
  · rw [Nat.min_eq_right (by omega), List.take_of_length_le (Nat.le_refl _), List.take_of_length_le (by omega)]
theorem cut_from {α : Type} (xs : List α) (k : Nat) : cut xs (some (k : Int)) none = xs.drop k := by
  unfold cut
  rw [HT.sIx_none, HT.sIx_nat]
  by_cases h : k ≤ xs.length
  · rw [Nat.min_eq_left h, List.take_of_length_le (by rw [List.length_drop]; exact Nat.le_refl _)]
  · rw [Nat.min_eq_right (by omega), List.drop_eq_nil_of_le (Nat.le_refl _), List.drop_eq_nil_of_le (by omega), List.take_nil]
theorem cut_last {α : Type} (xs : List α) : cut xs none (some (-1)) = xs.dropLast := by
  unfold cut
  rw [HT.sIx_none, List.drop_zero, Nat.sub_zero, List.dropLast_eq_take]
  congr 1
  show (if (-1 : Int) < 0 then ((-1 : Int) + (xs.length : Int)).toNat else min (-1 : Int).toNat xs.length) = _
  rw [if_pos (by decide)]
  omega
section
variable {K : PySem.W.Frag} {σ : L2.St} {H : Hp} {ta tb tc te : TE} {tl th : TO} {γ δ : Type} {R : γ → V → Hp → Prop} {S : δ → V → Hp → Prop} {zs : List γ} {z : γ} {y : δ}
theorem ev_ixL {i : Int} (up : Up R) (h1 : Ev ta σ H (lstOf R zs)) (h2 : Ev tb σ H (isV (.int i))) (hz : atI zs i = some z) : Ev (tOp (rIxLT K) ta tb) σ H (R z) :=
  ev_op h1 h2 (up_lst up) up_isV fun v w G e ⟨a, xs, ev, ha, all⟩ hw => by
    obtain ⟨x, hx, r⟩ := all.getI hz
    exact Tr.same r fun H1 e1 Q q => .inl ⟨a, xs, i, x, ev, hw, SqL.of (e1 _ _ ha), hx, q⟩
theorem ev_ixT {i : Int} (up : Up R) (h1 : Ev ta σ H (tupOf R zs)) (h2 : Ev tb σ H (isV (.int i))) (hz : atI zs i = some z) : Ev (tOp (rIxLT K) ta tb) σ H (R z) :=
  ev_op h1 h2 (up_tup up) up_isV fun v w G e ⟨a, xs, ev, ha, all⟩ hw => by
    obtain ⟨x, hx, r⟩ := all.getI hz
    exact Tr.same r fun H1 e1 Q q => .inr ⟨a, xs, i, x, ev, hw, SqT.of (e1 _ _ ha), hx, q⟩
theorem ev_ix0 {z : γ × δ} (up : Up R) (up2 : Up S) (h1 : Ev ta σ H (pairOf R S z)) (h2 : Ev tb σ H (isV (.int 0))) : Ev (tOp (rIxLT K) ta tb) σ H (R z.1) :=
  ev_op h1 h2 (up_pair up up2) up_isV fun v w G e ⟨t, a, b, ev, ht, r, s⟩ hw => Tr.same r fun H1 e1 Q q => .inr ⟨t, [a, b], 0, a, ev, hw, SqT.of (e1 _ _ ht), rfl, q⟩
theorem ev_ix1 {z : γ × δ} (up : Up R) (up2 : Up S) (h1 : Ev ta σ H (pairOf R S z)) (h2 : Ev tb σ H (isV (.int 1))) : Ev (tOp (rIxLT K) ta tb) σ H (S z.2) :=
  ev_op h1 h2 (up_pair up up2) up_isV fun v w G e ⟨t, a, b, ev, ht, r, s⟩ hw => Tr.same s fun H1 e1 Q q => .inr ⟨t, [a, b], 1, b, ev, hw, SqT.of (e1 _ _ ht), rfl, q⟩
theorem ev_lenL (h : Ev ta σ H (lstOf R zs)) : Ev (tCB (rLen K) (tCons ta tNil)) σ H (isV (.int zs.length)) :=
  ev_cb (ea_1 h) fun vs G e ⟨v, ev, a, xs, ex, ha, all⟩ => Tr.same (v := .int zs.length) rfl fun H1 e1 Q q => by
    subst ex
    exact ⟨a, xs, ev, .inl (SqL.of (e1 _ _ ha)), by rw [all.len]; exact q⟩
theorem ev_lenT (h : Ev ta σ H (tupOf R zs)) : Ev (tCB (rLen K) (tCons ta tNil)) σ H (isV (.int zs.length)) :=
  ev_cb (ea_1 h) fun vs G e ⟨v, ev, a, xs, ex, ha, all⟩ => Tr.same (v := .int zs.length) rfl fun H1 e1 Q q => by
    subst ex
    exact ⟨a, xs, ev, .inr (SqT.of (e1 _ _ ha)), by rw [all.len]; exact q⟩
/-- a slice's bounds -/
def EvO (to : TO) (σ : L2.St) (H : Hp) (o : Option Int) : Prop := ∀ H1, Ex H H1 → ∀ Q : Option Int → Hp → Prop, (∀ G H2, Grow H H1 G H2 → Q o H2) → to σ H1 Q
theorem eo_none : EvO tNoPart σ H none := fun H1 e Q q => q H H1 (Grow.rfl e)
theorem eo_some {i : Int} (h : Ev te σ H (isV (.int i))) : EvO (tPart te) σ H (some i) := fun H1 e Q q => h H1 e _ fun v G H2 g ev => ⟨i, ev, q G H2 g⟩
theorem EvO.up {to : TO} {H' : Hp} {o : Option Int} (e : Ex H H') (h : EvO to σ H o) : EvO to σ H' o := fun H1 e1 Q q => h H1 (e.trans e1) Q fun G H2 g => q _ H2 (g.join e e1)
/-- a new list, known from now on -/
theorem new_lst {H H1 G H2 : Hp} {p : Addr} {xs : List V} (up : Up R) (e : Ex H H1) (g : Grow H H1 G H2) (hp : H2 p = none) (all : All2 (fun x z => R z x G) xs zs) :
    Grow H H1 (upd G p (.lst xs)) (upd H2 p (.lst xs)) ∧ newL R zs H (.ref p) (upd G p (.lst xs)) :=
  ⟨g.trans (Grow.new g.re hp), p, xs, rfl, e.back (g.ol.back hp), upd_same, all.mono fun _ _ r => up _ _ _ _ (Ex.new (g.re.back hp)) r⟩
theorem ev_sl {lo hi : Option Int} (up : Up R) (h : Ev te σ H (lstOf R zs)) (h1 : EvO tl σ H lo) (h2 : EvO th σ H hi) : Ev (tSl (rSlL K) te tl th) σ H (newL R (cut zs lo hi) H) := fun H1 e Q q =>
  h H1 e _ fun v G H2 g ⟨a, xs, ev, ha, all⟩ => (h1.up g.kn) H2 g.re _ fun G' H3 g' => (h2.up (g.kn.trans g'.kn)) H3 g'.re _ fun G'' H4 g'' => by
    have g4 := (g.trans g').trans g''
    have ek : Ex G G'' := g'.kn.trans g''.kn
    refine ⟨a, xs, ev, SqL.of (g''.re _ _ (ek _ _ ha)), fun p hp => ?_⟩
    have all2 : All2 (fun x z => R z x G'') (cutV xs lo hi) (cut zs lo hi) := by
      unfold cutV cut
      rw [all.len]
      exact ((all.mono fun _ _ r => up _ _ _ _ ek r).drop _).take _
    obtain ⟨n1, n2⟩ := new_lst up e g4 hp all2
    exact q _ _ _ n1 n2
theorem ev_listL (up : Up R) (h : Ev te σ H (lstOf R zs)) : Ev (tCB (rListOf K) (tCons te tNil)) σ H (newL R zs H) := fun H1 e Q q =>
  h H1 e _ fun v G H2 g ⟨a, xs, ev, ha, all⟩ => by
    subst ev
    refine ⟨a, xs, rfl, .inl (SqL.of (g.re _ _ ha)), fun p hp => ?_⟩
    obtain ⟨n1, n2⟩ := new_lst up e g hp all
    exact q _ _ _ n1 n2
theorem ev_listT (up : Up R) (h : Ev te σ H (tupOf R zs)) : Ev (tCB (rListOf K) (tCons te tNil)) σ H (newL R zs H) := fun H1 e Q q =>
  h H1 e _ fun v G H2 g ⟨a, xs, ev, ha, all⟩ => by
    subst ev
    refine ⟨a, xs, rfl, .inr (SqT.of (g.re _ _ ha)), fun p hp => ?_⟩
    obtain ⟨n1, n2⟩ := new_lst up e g hp all
    exact q _ _ _ n1 n2
theorem new_tup {H H1 G H2 : Hp} {p : Addr} {xs : List V} (up : Up R) (e : Ex H H1) (g : Grow H H1 G H2) (hp : H2 p = none) (all : All2 (fun x z => R z x G) xs zs) :
    Grow H H1 (upd G p (.tup xs)) (upd H2 p (.tup xs)) ∧ tupOf R zs (.ref p) (upd G p (.tup xs)) :=
  ⟨g.trans (Grow.new g.re hp), p, xs, rfl, upd_same, all.mono fun _ _ r => up _ _ _ _ (Ex.new (g.re.back hp)) r⟩
theorem ev_tupleL (up : Up R) (h : Ev te σ H (lstOf R zs)) : Ev (tCB (rTupleOf K) (tCons te tNil)) σ H (tupOf R zs) := fun H1 e Q q =>
  h H1 e _ fun v G H2 g ⟨a, xs, ev, ha, all⟩ => by
    subst ev
    refine ⟨a, xs, rfl, .inl ⟨SqL.of (g.re _ _ ha), fun p hp => ?_⟩⟩
    obtain ⟨n1, n2⟩ := new_tup up e g hp all
    exact q _ _ _ n1 n2
theorem ev_tupleT (h : Ev te σ H (tupOf R zs)) : Ev (tCB (rTupleOf K) (tCons te tNil)) σ H (tupOf R zs) := fun H1 e Q q =>
  h H1 e _ fun v G H2 g ⟨a, xs, ev, ha, all⟩ => by
    subst ev
    exact ⟨a, xs, rfl, .inr ⟨SqT.of (g.re _ _ ha), q _ _ _ g ⟨a, xs, rfl, ha, all⟩⟩⟩
/-- arguments that all say the same kind of thing -/
theorem ea_nilR : EvA tNil σ H fun vs G => All2 (fun x z => R z x G) vs [] := fun H1 e _ q => q [] H H1 (Grow.rfl e) .nil
theorem ea_consR {ts : TA} (up : Up R) (h : Ev te σ H (R z)) (h2 : EvA ts σ H fun vs G => All2 (fun x z => R z x G) vs zs) : EvA (tCons te ts) σ H fun vs G => All2 (fun x z => R z x G) vs (z :: zs) := fun H1 e Q q =>
  h H1 e _ fun v G H2 g p => h2 H2 (e.trans g.ol) _ fun vs G' H3 g' all => by
    have ej : Ex G (join G G') := join_l
    have g2 := g'.join g.kn g.re
    exact q (v :: vs) _ H3 (g.trans g2) (.cons (up _ _ _ _ ej p) (all.mono fun _ _ r => up _ _ _ _ (join_r (g.re.trans g'.ol) g'.re) r))
theorem ev_lst {ts : TA} (up : Up R) (hz : zs.length ≤ 100000) (h : EvA ts σ H fun vs G => All2 (fun x z => R z x G) vs zs) : Ev (tLst ts) σ H (newL R zs H) := fun H1 e Q q =>
  h H1 e _ fun vs G H2 g all => ⟨by rw [all.len]; exact Nat.le_trans hz (by show _ ≤ 2 ^ 24; decide), fun p hp => by
    obtain ⟨n1, n2⟩ := new_lst up e g hp all
    exact q _ _ _ n1 n2⟩
theorem ev_tup {ts : TA} (up : Up R) (hz : zs.length ≤ 100000) (h : EvA ts σ H fun vs G => All2 (fun x z => R z x G) vs zs) : Ev (tTup ts) σ H (tupOf R zs) := fun H1 e Q q =>
  h H1 e _ fun vs G H2 g all => ⟨by rw [all.len]; exact Nat.le_trans hz (by show _ ≤ 2 ^ 24; decide), fun p hp => by
    obtain ⟨n1, n2⟩ := new_tup up e g hp all
    exact q _ _ _ n1 n2⟩
/-- a + b of lists -/
theorem ev_cat {C : Addr} {ys : List γ} (up : Up R) (hz : zs.length + ys.length ≤ 100000) (h1 : Ev ta σ H (lstOf R zs)) (h2 : Ev tb σ H (lstOf R ys)) : Ev (tOp (rAddU C) ta tb) σ H (newL R (zs ++ ys) H) := fun H1 e Q q =>
  h1 H1 e _ fun v G H2 g ⟨a, xs, ev, ha, all⟩ => (h2.up (fun v G G' => up_lst up _ v G G') g.kn) H2 g.re _ fun w G' H3 g' ⟨b, us, ew, hb, all2⟩ =>
    .inr (.inr ⟨a, b, xs, us, ev, ew, g'.re _ _ (g'.kn _ _ ha), g'.re _ _ hb, by rw [all.len, all2.len]; exact Nat.le_trans hz (by show _ ≤ 2 ^ 24; decide), fun p hp => by
      obtain ⟨n1, n2⟩ := new_lst up e (g.trans g') hp ((all.mono fun _ _ r => up _ _ _ _ g'.kn r).append all2)
      exact q _ _ _ n1 n2⟩)
/-- all of a list of bools -/
theorem bools_of {G : Hp} : ∀ {xs : List V} {bs : List Bool}, All2 (fun x b => isV (.bl b) x G) xs bs → xs = bs.map V.bl
  | _, _, .nil => rfl
  | _, _, .cons r t => by rw [bools_of t]; cases r; rfl
theorem ev_all {bs : List Bool} (h : Ev ta σ H (lstOf (fun b => isV (.bl b)) bs)) : Ev (tCB rAllB (tCons ta tNil)) σ H (isV (.bl (bs.all id))) :=
  ev_cb (ea_1 h) fun vs G e ⟨v, ev, a, xs, ex, ha, all⟩ => Tr.same rfl fun H1 e1 Q q => by
    subst ex
    rw [bools_of all] at ha
    exact ⟨a, bs, ev, e1 _ _ ha, q⟩
theorem up_bl : Up fun (b : Bool) => isV (.bl b) := fun _ _ _ _ _ h => h
theorem up_int : Up fun (i : Int) => isV (.int i) := fun _ _ _ _ _ h => h
theorem up_nat : Up fun (i : Nat) => isV (.int (i : Int)) := fun _ _ _ _ _ h => h
end
section
variable {X : Cx} {C : Addr} {j : Nat}
/-- Ratio.total(..) -/
theorem pe_totOf {k : Nat} {sp : Sp} {E : XK} {o e : Expr} {es : List Expr} {ta : TE} {t : TA} {pos apos : Pos} {pl : Sem Bool} (D : ClmAt X.K C "total" "Ratio.total" s_R_total)
    (F : ∀ f fd, FunD X.K "total" "Ratio.total" (defArgs s_R_total) (defBody s_R_total) (defScope s_R_total) [] [] f fd → FnR X.prog X.w X.K X.mg X.base CX0 k f sp) (hr : Room k X.A) (hx : Passes CX0 X E) (he : PE X o ta) (ha : PA X (e :: es) t)
    (hst : starEach (e :: es) X.env = (false, eval e X.env) :: starEach es X.env := by rfl) (hpl : (backTo pos (starEach es X.env)).any (·.1) = false := by rfl)
    (ht : eval (.Call (.Attribute o "total" apos) (e :: es) [] pos) X.env = (do
      let ov ← eval o X.env
      standAt apos.atName
      let (f, first) ← holding [ov] (getMethod ov "total" pl)
      callWith pos f first (backTo pos (starEach (e :: es) X.env)) (backToKw pos (keywordEach [] X.env))) := by rfl) :
    PE X (.Call (.Attribute o "total" apos) (e :: es) [] pos) (ClX.tCMeth C sp E ta t) := by
  obtain ⟨mc, p, f, fd, FD, r, c⟩ := D.ex
  exact ClX.pe_cmeth he r c (F f fd FD) hr hx ha hst hpl ht
end
end On
set_option Elab.async false
set_option linter.all false
set_option maxRecDepth 100000
set_option maxHeartbeats 4000000
/-! Statements that hand what was known ahead; sizes that fit. -/
namespace On
open PySem PySem.Spec PyProof.Rows L2
section
variable {K : PySem.W.Frag} {σ : L2.St} {G0 H1 G H H' : Hp} {ta tb tc te : TE} {tt : TT} {P P' : V → Hp → Prop} {v w : V} {γ δ ε : Type} {R : γ → V → Hp → Prop} {S : δ → V → Hp → Prop} {x : γ} {y : δ} {D : Ends} {tu tw tz : TS} {Q : VK}
theorem fin_x (g : Grow G0 H1 G H) (h : Ev te σ G P) (k : ∀ v G' H', Ex G G' → Grow G0 H1 G' H' → P v G' → Q v H') : te σ H Q := h H g.re _ fun v G' H3 g' p => k v G' H3 g'.kn (g.trans g') p
theorem z_set {i : Nat} (g : Grow G0 H1 G H) (h : Ev te σ G P) (k : ∀ v G' H', Ex G G' → Grow G0 H1 G' H' → P v G' → D.nx (σ.set i (some v)) H') : tAsg te (gName i) D σ H := fin_x (Q := fun v H' => D.nx (σ.set i (some v)) H') g h k
theorem t_set {i : Nat} (g : Grow G0 H1 G H) (h : Ev te σ G P) (k : ∀ v G' H', Ex G G' → Grow G0 H1 G' H' → P v G' → tz D (σ.set i (some v)) H') : tSeq (tAsg te (gName i)) tz D σ H := fin_x (Q := fun v H' => tz D (σ.set i (some v)) H') g h k
theorem z_par {i j : Nat} (up : Up R) (up2 : Up S) (g : Grow G0 H1 G H) (ha : Ev ta σ G (R x)) (hb : Ev tb σ G (S y)) (k : ∀ v w G' H', Ex G G' → Grow G0 H1 G' H' → R x v G' → S y w G' → D.nx ((σ.set i (some v)).set j (some w)) H') :
    tPar i j (tCons ta (tCons tb tNil)) D σ H := ea_2 up up2 ha hb H g.re _ fun vs G' H' g' ⟨v, w, e, r, s⟩ => ⟨v, w, e, k v w G' H' g'.kn (g.trans g') r s⟩
theorem t_par {i j : Nat} (up : Up R) (up2 : Up S) (g : Grow G0 H1 G H) (ha : Ev ta σ G (R x)) (hb : Ev tb σ G (S y)) (k : ∀ v w G' H', Ex G G' → Grow G0 H1 G' H' → R x v G' → S y w G' → tz D ((σ.set i (some v)).set j (some w)) H') :
    tSeq (tPar i j (tCons ta (tCons tb tNil))) tz D σ H := z_par (D := { D with nx := tz D }) up up2 g ha hb k
/-- a, b = e, e a tuple of two -/
theorem t_unpack {i j : Nat} (g : Grow G0 H1 G H) (h : Ev te σ G (pairOf R S (x, y))) (k : ∀ v w G' H', Ex G G' → Grow G0 H1 G' H' → R x v G' → S y w G' → tz D ((σ.set i (some v)).set j (some w)) H') :
    tSeq (tAsg te (gTup K 2 (gCons (gName i) (gCons (gName j) gNil)))) tz D σ H :=
  fin_x (Q := fun v H' => gTup K 2 (gCons (gName i) (gCons (gName j) gNil)) v σ H' fun σ2 H2 => tz D σ2 H2) g h fun v G' H' ex g' ⟨t, a, b, e, ht, ra, sb⟩ => by
    subst e
    exact step_pair (K := K) (i := i) (j := j) (g'.re _ _ ht) (fun σ2 H2 => tz D σ2 H2) (k a b G' H' ex g' ra sb)
end
/-- a size that may be reckoned with -/
def Fits (x : Nat) : Prop := ∃ n, x ≤ 2 ^ n ∧ n + 2 ≤ LIM
theorem Fits.le {x y : Nat} (h : Fits x) (l : y ≤ x) : Fits y := let ⟨n, h1, h2⟩ := h; ⟨n, Nat.le_trans l h1, h2⟩
theorem Fits.ok2 {p q : Rat} (h : Fits (sz p * sz q)) : Ok2 p q := let ⟨n, h1, h2⟩ := h; Ok2.of h1 h2
theorem Fits.bd {p : Rat} (h : Fits (sz p)) : ∃ n, Bd n p ∧ n + 2 ≤ LIM := h
abbrev isRow (C : Addr) : List Rat → V → Hp → Prop := lstOf (isR C)
abbrev isMat (C : Addr) : List (List Rat) → V → Hp → Prop := lstOf (isRow C)
theorem up_row {C : Addr} : Up (isRow C) := up_lst up_isR
theorem up_mat {C : Addr} : Up (isMat C) := up_lst up_row
/-- the heads of a def's promise: one value, two values, three values -/
theorem len_1 {γ : Type} {Pre : γ → V → Hp → Prop} {Post : γ → Hp → V → Hp → Prop} : ∀ vs H Q E, Pu (fun g vs H => ∃ v, vs = [v] ∧ Pre g v H) Post vs H Q E → vs.length = 1 := len1 fun g vs H ⟨v, e, _⟩ => by rw [e] <;> rfl
theorem len_2 {γ : Type} {Pre : γ → V → V → Hp → Prop} {Post : γ → Hp → V → Hp → Prop} : ∀ vs H Q E, Pu (fun g vs H => ∃ v w, vs = [v, w] ∧ Pre g v w H) Post vs H Q E → vs.length = 2 := len1 fun g vs H ⟨v, w, e, _⟩ => by rw [e] <;> rfl
theorem len_3 {γ : Type} {Pre : γ → V → V → V → Hp → Prop} {Post : γ → Hp → V → Hp → Prop} : ∀ vs H Q E, Pu (fun g vs H => ∃ v w u, vs = [v, w, u] ∧ Pre g v w u H) Post vs H Q E → vs.length = 3 := len1 fun g vs H ⟨v, w, u, e, _⟩ => by rw [e] <;> rfl
theorem szL_snoc (l : List Rat) (x : Rat) : szL (l ++ [x]) = szL l * sz x := by
  rw [szL_append]
  show szL l * (sz x * 1) = _
  rw [Nat.mul_one]
theorem take_snoc {α : Type} {l : List α} {i : Nat} {z : α} (h : l[i]? = some z) : l.take (i + 1) = l.take i ++ [z] := by
  rw [List.take_add_one, h]
  rfl
theorem total_take {l : List Rat} {i : Nat} {z : Rat} (h : l[i]? = some z) : total (l.take (i + 1)) = total (l.take i) + z := by
  rw [take_snoc h, total_snoc]
theorem fits_take {l : List Rat} {i : Nat} {z : Rat} (hf : Fits (szL l)) (h : l[i]? = some z) : Ok2 (total (l.take i)) z := by
  refine Fits.ok2 (hf.le ?_)
  refine Nat.le_trans (Nat.mul_le_mul_right _ (sz_total _)) ?_
  rw [← szL_snoc, ← take_snoc h]
  exact szL_take l _
theorem mem_of_get {α : Type} {l : List α} {i : Nat} {z : α} (h : l[i]? = some z) : z ∈ l := List.mem_of_getElem? h
theorem fits_zip {u v : List Rat} {i : Nat} {a b : Rat} (hf : Fits (szL u * szL v)) (h1 : u[i]? = some a) (h2 : v[i]? = some b) : Ok2 a b := Fits.ok2 (hf.le (Nat.mul_le_mul (sz_le_szL (mem_of_get h1)) (sz_le_szL (mem_of_get h2))))
theorem ev_lcI {σ : L2.St} {H : Hp} {wi : TI} {g : TG} {te : TE} {vs : List Nat} {γ : Type} {R : γ → V → Hp → Prop} {zs : List γ} (up : Up R) (hz : zs.length ≤ 100000) (hw : Srcs wi g tYes te vs σ H R zs (fun _ => true) id) : Ev (tLc wi g tYes te vs) σ H (newL R zs H) := by
  have h := ev_lc up hz hw
  rw [List.map_id] at h
  exact h
/-- None, or a value that is not None -/
def optOf {γ : Type} (R : γ → V → Hp → Prop) : Option γ → V → Hp → Prop := fun o v H => match o with
  | none => v = .non
  | some z => v ≠ .non ∧ R z v H
theorem up_opt {γ : Type} {R : γ → V → Hp → Prop} (up : Up R) : Up (optOf R) := fun o v H H' e h => match o, h with
  | none, h => h
  | some _, h => ⟨h.1, up _ _ _ _ e h.2⟩
section
variable {K : PySem.W.Frag} {σ : L2.St} {H : Hp} {ta : TE} {γ : Type} {R : γ → V → Hp → Prop} {o : Option γ}
theorem opt_dec {v : V} (h : optOf R o v H) : decide (v = .non) = o.isNone := by
  cases o with
  | none => exact decide_eq_true h
  | some z => exact decide_eq_false h.1
theorem ev_isN (up : Up R) (h : Ev ta σ H (optOf R o)) : Ev (tOp (fun x y H Q => y = .non ∧ Q (.bl (decide (x = .non))) H) ta (tC .non)) σ H (isV (.bl o.isNone)) :=
  ev_op (S := isV) (y := .non) h ev_c (up_opt up) up_isV fun v w G e hv hw => Tr.same rfl fun H1 e1 Q q => ⟨hw, by rw [opt_dec hv]; exact q⟩
theorem ev_notN (up : Up R) (h : Ev ta σ H (optOf R o)) : Ev (tOp (fun x y H Q => y = .non ∧ Q (.bl (!decide (x = .non))) H) ta (tC .non)) σ H (isV (.bl (!o.isNone))) :=
  ev_op (S := isV) (y := .non) h ev_c (up_opt up) up_isV fun v w G e hv hw => Tr.same rfl fun H1 e1 Q q => ⟨hw, by rw [opt_dec hv]; exact q⟩
end
end On
set_option Elab.async false
set_option linter.all false
set_option maxRecDepth 100000
set_option maxHeartbeats 4000000
/-! total_of, weighed, Ratio.total, made_by, value_in, lessened. -/
namespace On
open PySem PySem.Spec PyProof.Rows L2
section
variable {P : Program} {w : World} {K : PySem.W.Frag} {mg : Str → Option Value} {base : Heap} {C : Addr}
def spTotal (C : Addr) : Sp := Pu (γ := List Rat) (fun l vs H => ∃ v, vs = [v] ∧ isRow C l v H ∧ Fits (szL l)) fun l _ v G => isR C (total l) v G
theorem c_total_of (T : Txt P w K mg base C) : C8.Cal P w K mg base 41 "total_of" (spTotal C) [] := by
  refine cal_by T.d_total_of sc_total_of (fun _ _ _ _ _ _ us hl => match us, hl with | [_], _ => rfl) len_1 fun f cdv A outer s H vs Q E hr h => ?_
  obtain ⟨l, G, e, ⟨v, rfl, hv, hf⟩, q⟩ := h
  refine ⟨_, (pss_cons (ps_set (i := 1) sc_total_of.nd rfl (by first | exact Or.inl rfl | exact Or.inr rfl) (C8.pe_mk (k_ratio1 T) hr (by decide) rfl (pa_cons pe_int pa_nil))) (pss_cons (ps_for PassesOwn.never rfl (pi_list (pv 0)) (pg_name (i := 2) sc_total_of.nd rfl (by first | exact Or.inl rfl | exact Or.inr rfl)) (pss_one (ps_set (i := 1) sc_total_of.nd rfl (by first | exact Or.inl rfl | exact Or.inr rfl) (pe_op (opAdd T hr (by decide)) (pv 1) (pv 2))))) (pss_one (ps_ret (pv 1))))), ?_⟩
  refine t_set (Grow.rfl e) (ev_mk1 (a := 0) ev_c) fun x G1 H1 e1 g1 hx => ?_
  refine q_forL up_isR g1 (ev_slot rfl (up_row _ _ _ _ g1.kn hv)) (fun i σ G' _ => ∃ x o, σ = [some v, some x, o] ∧ isR C (total (l.take i)) x G') (fun G' H' eG _ _ => ⟨x, _, rfl, up_isR _ _ _ _ eG hx⟩) ?_ ?_
  · rintro i z y σ' G' H' hz hy eG gr ⟨x, o, rfl, hx⟩ N hN
    refine z_set gr (ev_addR (ev_slot rfl hx) (ev_slot rfl hy) (fits_take hf hz)) fun u G3 H3 e3 g3 p => hN _ G3 H3 e3 g3 ⟨u, _, rfl, ?_⟩
    rw [total_take hz]
    exact p
  · rintro σ' G' H' eG gr ⟨x, o, rfl, hx⟩
    rw [List.take_length] at hx
    exact s_ret gr (ev_slot rfl hx) q
theorem tot_ev {σ : L2.St} {G : Hp} {ta : TE} {l : List Rat} (h : Ev ta σ G (isRow C l)) (hf : Fits (szL l)) : Ev (tCall (spTotal C) [] E0 (tCons ta tNil)) σ G (isR C (total l)) :=
  ev_call (ea_1 h) fun vs G' e ⟨v, ev, hv⟩ => Pu.tr (g := l) ⟨v, ev, hv, hf⟩
def spDot (C : Addr) : Sp := Pu (γ := List Rat × List Rat) (fun g vs H => ∃ v w, vs = [v, w] ∧ isRow C g.1 v H ∧ isRow C g.2 w H ∧ Fits (szL g.1 * szL g.2) ∧ g.1.length ≤ 100000) fun g _ v G => isR C (dot g.1 g.2) v G
theorem c_weighed (T : Txt P w K mg base C) : C8.Cal P w K mg base 42 "weighed" (spDot C) [] := by
  refine cal_by T.d_weighed sc_weighed (fun _ _ _ _ _ _ us hl => match us, hl with | [_, _], _ => rfl) len_2 fun f cdv A outer s H vs Q E hr h => ?_
  obtain ⟨⟨a, b⟩, G, e, ⟨v, w, rfl, hv, hw, hf, hn⟩, q⟩ := h
  refine ⟨_, (pss_one (ps_ret (C8.pe_c (c_total_of T) hr (by decide) rfl (pa_cons (pe_lc (own := [("weight", 2), ("value", 3)]) (g := gTup K 2 (gCons (gName 2) (gCons (gName 3) gNil))) (tt := tYes) rfl sc_weighed.nd (pi_zip (by rfl) T.n_zip (pa_cons (pv 0) (pa_cons (pv 1) pa_nil))) (blkOk_by (own := [("weight", 2), ("value", 3)]) (by kernel_rfl)) (fun _ _ _ _ _ => (pg_tup rfl (pgs_cons (pg_name (i := 2) sc_weighed.nd rfl (by first | exact Or.inl rfl | exact Or.inr rfl)) (pgs_cons (pg_name (i := 3) sc_weighed.nd rfl (by first | exact Or.inl rfl | exact Or.inr rfl)) pgs_nil)))) (fun _ _ _ _ _ => pts_nil) (fun _ _ _ _ _ => (pe_op (opMul T hr (by decide)) (pv 2) (pv 3)))) pa_nil)))), ?_⟩
  refine s_ret (Grow.rfl e) (tot_ev (ev_lc (f := fun z : Rat × Rat => z.1 * z.2) up_isR (by rw [List.length_zip]; exact Nat.le_trans (Nat.min_le_left _ _) hn) (src_zip (ea_2 up_row up_row (ev_slot rfl hv) (ev_slot rfl hw)) (fun _ _ => rfl) ?_)).old (hf.le (szL_zip a b))) q
  intro i x y vx vy G' hx hy eG sx sy
  exact ⟨et_yes, fun _ => ev_mulR (ev_slot rfl sx) (ev_slot rfl sy) (fits_zip hf hx hy)⟩
theorem dot_ev {σ : L2.St} {G : Hp} {ta tb : TE} {l m : List Rat} (h : Ev ta σ G (isRow C l)) (h2 : Ev tb σ G (isRow C m)) (hf : Fits (szL l * szL m)) (hn : l.length ≤ 100000) : Ev (tCall (spDot C) [] E0 (tCons ta (tCons tb tNil))) σ G (isR C (dot l m)) :=
  ev_call (ea_2 up_row up_row h h2) fun vs G' e ⟨v, w, ev, hv, hw⟩ => Pu.tr (g := (l, m)) ⟨v, w, ev, hv, hw, hf, hn⟩
/-- a square table -/
structure Sq (n : Nat) (m : List (List Rat)) : Prop where
  len : m.length = n
  row : ∀ r ∈ m, r.length = n
def spMade (C : Addr) : Sp := Pu (γ := List (List Rat) × List Rat) (fun g vs H => ∃ v w, vs = [v, w] ∧ isMat C g.1 v H ∧ isRow C g.2 w H ∧ Fits (szM g.1 * szL g.2) ∧ g.1.length ≤ 100000 ∧ ∀ r ∈ g.1, r.length ≤ 100000) fun g H v G => isRow C (made g.1 g.2) v G
theorem c_made_by (T : Txt P w K mg base C) : C8.Cal P w K mg base 43 "made_by" (spMade C) [] := by
  refine cal_by T.d_made_by sc_made_by (fun _ _ _ _ _ _ us hl => match us, hl with | [_, _], _ => rfl) len_2 fun f cdv A outer s H vs Q E hr h => ?_
  obtain ⟨⟨m, b⟩, G, e, ⟨v, w, rfl, hv, hw, hf, hn, hn2⟩, q⟩ := h
  refine ⟨_, (pss_one (ps_ret (pe_lc (own := [("row", 2)]) (g := gName 2) (tt := tYes) rfl sc_made_by.nd (pi_list (pv 0)) (blkOk_by (own := [("row", 2)]) (by kernel_rfl)) (fun _ _ _ _ _ => (pg_name (i := 2) sc_made_by.nd rfl (by first | exact Or.inl rfl | exact Or.inr rfl))) (fun _ _ _ _ _ => pts_nil) (fun _ _ _ _ _ => (C8.pe_c (c_weighed T) hr (by decide) rfl (pa_cons (pv 2) (pa_cons (pv 1) pa_nil))))))), ?_⟩
  refine s_ret (Grow.rfl e) (ev_lc (f := fun r => dot r b) up_isR hn (src_list up_row (ev_slot rfl hv) (fun _ => rfl) ?_)).old q
  intro i r vx G' hx eG sx
  exact ⟨et_yes, fun _ => dot_ev (ev_slot rfl sx) (ev_slot rfl (up_row _ _ _ _ eG hw)) (hf.le (Nat.mul_le_mul_right _ (szL_le_szM (mem_of_get hx)))) (hn2 r (mem_of_get hx))⟩
def spValue (C : Addr) : Sp := Pu (γ := List (List Rat) × List Rat × List Rat) (fun g vs H => ∃ v w u, vs = [v, w, u] ∧ isMat C g.1 v H ∧ isRow C g.2.1 w H ∧ isRow C g.2.2 u H ∧ Fits (szL g.2.1 * (szM g.1 * szL g.2.2 ^ g.1.length)) ∧ Fits (szM g.1 * szL g.2.2) ∧ g.1.length ≤ 100000 ∧ g.2.1.length ≤ 100000 ∧ ∀ r ∈ g.1, r.length ≤ 100000) fun g H v G => isR C (value g.1 g.2.1 g.2.2) v G
theorem c_value_in (T : Txt P w K mg base C) : C8.Cal P w K mg base 44 "value_in" (spValue C) [] := by
  refine cal_by T.d_value_in sc_value_in (fun _ _ _ _ _ _ us hl => match us, hl with | [_, _, _], _ => rfl) len_3 fun f cdv A outer s H vs Q E hr h => ?_
  obtain ⟨⟨m, a, b⟩, G, e, ⟨v, w, u, rfl, hv, hw, hu, hf, hf2, hn, hn1, hn2⟩, q⟩ := h
  refine ⟨_, (pss_one (ps_ret (C8.pe_c (c_weighed T) hr (by decide) rfl (pa_cons (pv 1) (pa_cons (C8.pe_c (c_made_by T) hr (by decide) rfl (pa_cons (pv 0) (pa_cons (pv 2) pa_nil))) pa_nil))))), ?_⟩
  refine s_ret (Grow.rfl e) (dot_ev (ev_slot rfl hw) (ev_call (sp := spMade C) (P := isRow C (made m b)) (ea_2 up_mat up_row (ev_slot rfl hv) (ev_slot rfl hu)) fun vs G' e ⟨v, w, ev, hv, hw⟩ => Pu.tr (g := (m, b)) ⟨v, w, ev, hv, hw, hf2, hn, hn2⟩) (hf.le (Nat.mul_le_mul_left _ (szL_made m b))) hn1) q
/-- a row less another one times a number -/
def lessRow (row other : List Rat) (q : Rat) : List Rat := (row.zip other).map fun z => z.1 - z.2 * q
def spLess (C : Addr) : Sp := Pu (γ := List Rat × List Rat × Rat) (fun g vs H => ∃ v w u, vs = [v, w, u] ∧ isRow C g.1 v H ∧ isRow C g.2.1 w H ∧ isR C g.2.2 u H ∧ Fits (szL g.1 * (szL g.2.1 * sz g.2.2)) ∧ g.1.length ≤ 100000) fun g H v G => newL (isR C) (lessRow g.1 g.2.1 g.2.2) H v G
theorem c_lessened (T : Txt P w K mg base C) : C8.Cal P w K mg base 41 "lessened" (spLess C) [] := by
  refine cal_by T.d_lessened sc_lessened (fun _ _ _ _ _ _ us hl => match us, hl with | [_, _, _], _ => rfl) len_3 fun f cdv A outer s H vs Q E hr h => ?_
  obtain ⟨⟨a, b, t⟩, G, e, ⟨v, w, u, rfl, hv, hw, hu, hf, hn⟩, q⟩ := h
  refine ⟨_, (pss_one (ps_ret (pe_lc (own := [("one", 3), ("two", 4)]) (g := gTup K 2 (gCons (gName 3) (gCons (gName 4) gNil))) (tt := tYes) rfl sc_lessened.nd (pi_zip (by rfl) T.n_zip (pa_cons (pv 0) (pa_cons (pv 1) pa_nil))) (blkOk_by (own := [("one", 3), ("two", 4)]) (by kernel_rfl)) (fun _ _ _ _ _ => (pg_tup rfl (pgs_cons (pg_name (i := 3) sc_lessened.nd rfl (by first | exact Or.inl rfl | exact Or.inr rfl)) (pgs_cons (pg_name (i := 4) sc_lessened.nd rfl (by first | exact Or.inl rfl | exact Or.inr rfl)) pgs_nil)))) (fun _ _ _ _ _ => pts_nil) (fun _ _ _ _ _ => (pe_op (opSub T hr (by decide)) (pv 3) (pe_op (opMul T hr (by decide)) (pv 4) (pv 2))))))), ?_⟩
  refine s_ret (Grow.rfl e) (ev_lc (f := fun z : Rat × Rat => z.1 - z.2 * t) up_isR (by rw [List.length_zip]; exact Nat.le_trans (Nat.min_le_left _ _) hn) (src_zip (ea_2 up_row up_row (ev_slot rfl hv) (ev_slot rfl hw)) (fun _ _ => rfl) ?_)) q
  intro i x y vx vy G' hx hy eG sx sy
  have h1 : sz y * sz t ≤ szL b * sz t := Nat.mul_le_mul_right _ (sz_le_szL (mem_of_get hy))
  have h2 : sz x ≤ szL a := sz_le_szL (mem_of_get hx)
  refine ⟨et_yes, fun _ => ev_subR (ev_slot rfl sx) (ev_mulR (ev_slot rfl sy) (ev_slot rfl (up_isR _ _ _ _ eG hu)) (Fits.ok2 (hf.le ?_))) (Fits.ok2 (hf.le ?_))⟩
  · exact Nat.le_trans h1 (Nat.le_mul_of_pos_left _ (szL_pos a))
  · exact Nat.mul_le_mul h2 (Nat.le_trans (sz_mul y t) h1)
end
end On
set_option Elab.async false
set_option linter.all false
set_option maxRecDepth 100000
set_option maxHeartbeats 4000000
/-! Values that are looked at: numbers and others, lists of them, lists of lists. -/
namespace On
open PySem PySem.Spec PyProof.Rows L2
inductive Atom where
  | non | bl (b : Bool) | int (i : Int) | rat (q : Rat) | str (s : Str)
inductive Item where
  | atom (a : Atom) | lst (xs : List Atom) | tup (xs : List Atom) | dct
inductive Dat where
  | atom (a : Atom) | dct | lst (xs : List Item) | tup (xs : List Item)
def isAtom (C : Addr) (a : Atom) (v : V) (H : Hp) : Prop := match a with
  | .non => v = .non
  | .bl b => v = .bl b
  | .int i => v = .int i
  | .rat q => isR C q v H
  | .str s => v = .str s
theorem up_atom {C : Addr} : Up (isAtom C) := fun a v H H' e h => match a, h with
  | .non, h | .bl _, h | .int _, h | .str _, h => h
  | .rat _, h => up_isR _ _ _ _ e h
def isItem (C : Addr) (a : Item) (v : V) (H : Hp) : Prop := match a with
  | .atom a => isAtom C a v H
  | .lst xs => lstOf (isAtom C) xs v H
  | .tup xs => tupOf (isAtom C) xs v H
  | .dct => ∃ a, v = .ref a ∧ H a = some (.dK [])
theorem up_item {C : Addr} : Up (isItem C) := fun a v H H' e h => match a, h with
  | .atom _, h => up_atom _ _ _ _ e h
  | .lst _, h => up_lst up_atom _ _ _ _ e h
  | .tup _, h => up_tup up_atom _ _ _ _ e h
  | .dct, ⟨a, h1, h2⟩ => ⟨a, h1, e _ _ h2⟩
def isDat (C : Addr) (a : Dat) (v : V) (H : Hp) : Prop := match a with
  | .atom a => isAtom C a v H
  | .dct => ∃ a, v = .ref a ∧ H a = some (.dK [])
  | .lst xs => lstOf (isItem C) xs v H
  | .tup xs => tupOf (isItem C) xs v H
theorem up_dat {C : Addr} : Up (isDat C) := fun a v H H' e h => match a, h with
  | .atom _, h => up_atom _ _ _ _ e h
  | .dct, ⟨a, h1, h2⟩ => ⟨a, h1, e _ _ h2⟩
  | .lst _, h => up_lst up_item _ _ _ _ e h
  | .tup _, h => up_tup up_item _ _ _ _ e h
def Atom.kind : Atom → Kind
  | .non => .non | .bl _ => .bl | .int _ => .int | .rat _ => .rat | .str _ => .str
def Item.kind : Item → Kind
  | .atom a => a.kind | .lst _ => .lst | .tup _ => .tup | .dct => .dct
def Dat.kind : Dat → Kind
  | .atom a => a.kind | .dct => .dct | .lst _ => .lst | .tup _ => .tup
theorem lst_kind {C : Addr} {γ : Type} {R : γ → V → Hp → Prop} {zs : List γ} {v : V} {H : Hp} (h : lstOf R zs v H) : kindOf C .lst v H := let ⟨a, xs, e, ha, _⟩ := h; ⟨a, xs, e, ha⟩
theorem tup_kind {C : Addr} {γ : Type} {R : γ → V → Hp → Prop} {zs : List γ} {v : V} {H : Hp} (h : tupOf R zs v H) : kindOf C .tup v H := let ⟨a, xs, e, ha, _⟩ := h; ⟨a, xs, e, ha⟩
theorem atom_kind {C : Addr} {a : Atom} {v : V} {H : Hp} (h : isAtom C a v H) : kindOf C a.kind v H := match a, h with
  | .non, h => h
  | .bl b, h => ⟨b, h⟩
  | .int i, h => ⟨i, h⟩
  | .rat q, h => isR.kind h
  | .str s, h => ⟨s, h⟩
theorem item_kind {C : Addr} {a : Item} {v : V} {H : Hp} (h : isItem C a v H) : kindOf C a.kind v H := match a, h with
  | .atom a, h => atom_kind h
  | .lst _, h => lst_kind h
  | .tup _, h => tup_kind h
  | .dct, ⟨a, h1, h2⟩ => ⟨a, [], h1, h2⟩
theorem dat_kind {C : Addr} {a : Dat} {v : V} {H : Hp} (h : isDat C a v H) : kindOf C a.kind v H := match a, h with
  | .atom a, h => atom_kind h
  | .dct, ⟨a, h1, h2⟩ => ⟨a, [], h1, h2⟩
  | .lst _, h => lst_kind h
  | .tup _, h => tup_kind h
/-- a number -/
def Atom.isNum : Atom → Bool
  | .int _ => true | .rat _ => true | _ => false
def Atom.val : Atom → Rat
  | .int i => (i : Rat) | .rat q => q | _ => 0
theorem atom_num {C : Addr} {a : Atom} {v : V} {H : Hp} (h : isAtom C a v H) (n : a.isNum = true) : isN C a.val v H := match a, h with
  | .int i, h => .inl ⟨i, h, rfl⟩
  | .rat q, h => .inr h
theorem kind_num (a : Atom) : (a.kind == .int || a.kind == .rat) = a.isNum := by cases a <;> rfl
/-- a list or tuple of n numbers -/
def Item.nums (n : Int) : Item → Bool
  | .lst xs => decide ((xs.length : Int) = n) && xs.all Atom.isNum
  | .tup xs => decide ((xs.length : Int) = n) && xs.all Atom.isNum
  | _ => false
def Item.vals : Item → List Rat
  | .lst xs => xs.map Atom.val
  | .tup xs => xs.map Atom.val
  | _ => []
/-- a list or tuple -/
def seqOf {γ : Type} (R : γ → V → Hp → Prop) (zs : List γ) (v : V) (H : Hp) : Prop := lstOf R zs v H ∨ tupOf R zs v H
theorem up_seq {γ : Type} {R : γ → V → Hp → Prop} (up : Up R) : Up (seqOf R) := fun zs v H H' e h => h.elim (fun h => .inl (up_lst up _ _ _ _ e h)) fun h => .inr (up_tup up _ _ _ _ e h)
/-- numbers as atoms -/
theorem num_atom {C : Addr} {q : Rat} {v : V} {H : Hp} (h : isN C q v H) : ∃ a : Atom, isAtom C a v H ∧ a.isNum = true ∧ a.val = q := by
  rcases h with ⟨i, e, eq⟩ | h
  · exact ⟨.int i, e, rfl, eq.symm⟩
  · exact ⟨.rat q, h, rfl, rfl⟩
theorem nums_atoms {C : Addr} {H : Hp} : ∀ {xs : List V} {zs : List Rat}, All2 (fun x z => isN C z x H) xs zs → ∃ as : List Atom, All2 (fun x a => isAtom C a x H) xs as ∧ as.all Atom.isNum = true ∧ as.map Atom.val = zs
  | _, _, .nil => ⟨[], .nil, rfl, rfl⟩
  | _, _, .cons r t => by
    obtain ⟨a, h1, h2, h3⟩ := num_atom r
    obtain ⟨as, k1, k2, k3⟩ := nums_atoms t
    exact ⟨a :: as, .cons h1 k1, by rw [List.all_cons, h2, k2] <;> rfl, by rw [List.map_cons, h3, k3]⟩
theorem atoms_nums {C : Addr} {H : Hp} : ∀ {xs : List V} {as : List Atom}, All2 (fun x a => isAtom C a x H) xs as → as.all Atom.isNum = true → All2 (fun x z => isN C z x H) xs (as.map Atom.val)
  | _, _, .nil, _ => .nil
  | _, _, .cons (b := b) r t, h => by
    rw [List.all_cons, Bool.and_eq_true] at h
    exact .cons (atom_num r h.1) (atoms_nums t h.2)
/-- a row as it may be given -/
abbrev gRow (C : Addr) : List Rat → V → Hp → Prop := seqOf (isN C)
/-- a table as it may be given -/
abbrev gMat (C : Addr) : List (List Rat) → V → Hp → Prop := seqOf (gRow C)
theorem up_gRow {C : Addr} : Up (gRow C) := up_seq up_isN
theorem up_gMat {C : Addr} : Up (gMat C) := up_seq up_gRow
theorem row_item {C : Addr} {r : List Rat} {v : V} {H : Hp} (h : gRow C r v H) : ∃ it : Item, isItem C it v H ∧ (∀ n : Int, it.nums n = decide ((r.length : Int) = n)) ∧ it.vals = r := by
  rcases h with ⟨a, xs, e, ha, all⟩ | ⟨a, xs, e, ha, all⟩
  · obtain ⟨as, k1, k2, k3⟩ := nums_atoms all
    refine ⟨.lst as, ⟨a, xs, e, ha, k1⟩, fun n => ?_, k3⟩
    show (decide ((as.length : Int) = n) && as.all Atom.isNum) = _
    rw [k2, Bool.and_true, ← k3, List.length_map]
  · obtain ⟨as, k1, k2, k3⟩ := nums_atoms all
    refine ⟨.tup as, ⟨a, xs, e, ha, k1⟩, fun n => ?_, k3⟩
    show (decide ((as.length : Int) = n) && as.all Atom.isNum) = _
    rw [k2, Bool.and_true, ← k3, List.length_map]
theorem item_row {C : Addr} {it : Item} {n : Int} {v : V} {H : Hp} (h : isItem C it v H) (hn : it.nums n = true) : gRow C it.vals v H ∧ (it.vals.length : Int) = n := by
  cases it with
  | atom a => cases hn
  | dct => cases hn
  | lst as =>
    obtain ⟨a, xs, e, ha, all⟩ := h
    have h2 : (decide ((as.length : Int) = n) && as.all Atom.isNum) = true := hn
    rw [Bool.and_eq_true] at h2
    refine ⟨.inl ⟨a, xs, e, ha, atoms_nums all h2.2⟩, ?_⟩
    show ((as.map Atom.val).length : Int) = n
    rw [List.length_map]
    exact of_decide_eq_true h2.1
  | tup as =>
    obtain ⟨a, xs, e, ha, all⟩ := h
    have h2 : (decide ((as.length : Int) = n) && as.all Atom.isNum) = true := hn
    rw [Bool.and_eq_true] at h2
    refine ⟨.inr ⟨a, xs, e, ha, atoms_nums all h2.2⟩, ?_⟩
    show ((as.map Atom.val).length : Int) = n
    rw [List.length_map]
    exact of_decide_eq_true h2.1
theorem row_g {C : Addr} {r : List Rat} {v : V} {H : Hp} (h : isRow C r v H) : gRow C r v H := let ⟨a, xs, e, ha, all⟩ := h; .inl ⟨a, xs, e, ha, all.mono fun _ _ r => .inr r⟩
theorem mat_g {C : Addr} {m : List (List Rat)} {v : V} {H : Hp} (h : isMat C m v H) : gMat C m v H := let ⟨a, xs, e, ha, all⟩ := h; .inl ⟨a, xs, e, ha, all.mono fun _ _ r => row_g r⟩
/-- an entry -/
def at2 (m : List (List Rat)) (i j : Nat) : Rat := (m.getD i []).getD j 0
theorem at2_get {m : List (List Rat)} {i j : Nat} {r : List Rat} {x : Rat} (h1 : m[i]? = some r) (h2 : r[j]? = some x) : at2 m i j = x := by
  simp [at2, List.getD_eq_getElem?_getD, h1, h2]
def Sym (m : List (List Rat)) : Prop := ∀ i j, at2 m i j = at2 m j i
end On
set_option Elab.async false
set_option linter.all false
set_option maxRecDepth 100000
set_option maxHeartbeats 4000000
/-! Ratio.total; ratios_of, are_numbers. -/
namespace On
open PySem PySem.Spec PyProof.Rows L2
section
variable {P : Program} {w : World} {K : PySem.W.Frag} {mg : Str → Option Value} {base : Heap} {C : Addr}
theorem want_ev {σ : L2.St} {G : Hp} {ta : TE} {q : Rat} (h : Ev ta σ G (isN C q)) : Ev (tCall (spRatio C) [] E0 (tCons ta tNil)) σ G (isR C q) :=
  ev_call (ea_1 h) fun vs G' e ⟨v, ev, hv⟩ => Pu.tr (g := q) ⟨v, ev, hv⟩
theorem kind_ev {σ : L2.St} {G : Hp} {ta : TE} {f : Kind → Bool} {k : Kind} (h : Ev ta σ G (kindOf C k)) : Ev (tCall (spKind f C) [] E0 (tCons ta tNil)) σ G (isV (.bl (f k))) := ev_kind h
def spTotM (C : Addr) : Sp := Pu (γ := List Rat) (fun l vs H => ∃ c v, vs = [c, v] ∧ (isRow C l v H ∧ Fits (szL l) ∧ l.length ≤ 100000)) fun l _ v G => isR C (total l) v G
theorem tot_fn (T : Txt P w K mg base C) {f : Addr} {fd : FuncData} (F : FunD K "total" "Ratio.total" (defArgs s_R_total) (defBody s_R_total) (defScope s_R_total) [] [] f fd) : FnR P w K mg base CX0 42 f (fun vs H Q E => spTotM C (vs ++ []) H Q E) := by
  have h1 : FnOk P w K mg base CX0 42 f fd ["cls", "numbers"] (spTotM C) := by
    refine fn_by F sc_R_total len_2 fun cdv A outer s H vs Q E hr h => ?_
    obtain ⟨l, G, e, ⟨c, v, rfl, hv, hf, hn⟩, q⟩ := h
    refine ⟨_, (pss_cons (ps_if (pt_not (pt_val (C8.pe_c (c_is_list T) hr (by decide) rfl (pa_cons (pv 1) pa_nil)))) pss_never pss_nil) (pss_one (ps_ret (C8.pe_c (c_total_of T) hr (by decide) rfl (pa_cons (pe_lc (own := [("number", 2)]) (g := gName 2) (tt := tYes) rfl sc_R_total.nd (pi_list (pv 1)) (blkOk_by (own := [("number", 2)]) (by kernel_rfl)) (fun _ _ _ _ _ => (pg_name (i := 2) sc_R_total.nd rfl (by first | exact Or.inl rfl | exact Or.inr rfl))) (fun _ _ _ _ _ => pts_nil) (fun _ _ _ _ _ => (C8.pe_c (c_want_number T) hr (by decide) rfl (pa_cons (pv 2) pa_nil)))) pa_nil))))), ?_⟩
    refine q_skip (Grow.rfl e) (et_not (et_B (ev_kind (k := .lst) (ev_slot (R := kindOf C) rfl (lst_kind hv))))) fun H2 g2 => ?_
    refine s_ret g2 (tot_ev (ev_lc (f := id) up_isR hn (src_list up_isR (ev_slot rfl hv) (fun _ => rfl) ?_)).old (by rw [List.map_id]; exact hf)) fun v G' H' g p => q v G' H' g (by rw [List.map_id] at p; exact p)
    intro i x vx G' hx eG sx
    exact ⟨et_yes, fun _ => want_ev (ev_slot (R := isN C) rfl (.inr sx))⟩
  exact FnOk.raw h1 (F.bindsN fun _ _ _ _ _ _ us hl => match us, hl with | [_, _], _ => rfl) .nil
/-- Ratio.total(..) in a text -/
theorem pe_tot {X : Cx} {j : Nat} {C : Addr} {e : Expr} {es : List Expr} {t : TA} {pos apos p : Pos} {pl : Sem Bool} (T : Txt X.prog X.w X.K X.mg X.base C) (hr : Room j X.A) (hk : 42 ≤ j) (hg : Gl X "Ratio") (ha : PA X (e :: es) t)
    (hst : starEach (e :: es) X.env = (false, eval e X.env) :: starEach es X.env := by rfl) (hpl : (backTo pos (starEach es X.env)).any (·.1) = false := by rfl)
    (ht : eval (.Call (.Attribute (.Name "Ratio" p) "total" apos) (e :: es) [] pos) X.env = (do
      let ov ← eval (.Name "Ratio" p) X.env
      standAt apos.atName
      let (f, first) ← holding [ov] (getMethod ov "total" pl)
      callWith pos f first (backTo pos (starEach (e :: es) X.env)) (backToKw pos (keywordEach [] X.env))) := by rfl) :
    PE X (.Call (.Attribute (.Name "Ratio" p) "total" apos) (e :: es) [] pos) (ClX.tCMeth C (fun vs H Q E => spTotM C (vs ++ []) H Q E) E0 (tC (.ref C)) t) :=
  pe_totOf T.d_R_total (fun f fd F => tot_fn T F) (hr.mono hk) pass0 (pe_gc hg T.g_Ratio) ha hst hpl ht
theorem totM_ev {σ : L2.St} {G : Hp} {ta : TE} {l : List Rat} (h : Ev ta σ G (isRow C l)) (hf : Fits (szL l)) (hn : l.length ≤ 100000) :
    Ev (ClX.tCMeth C (fun vs H Q E => spTotM C (vs ++ []) H Q E) E0 (tC (.ref C)) (tCons ta tNil)) σ G (isR C (total l)) := fun H1 e Q q =>
  ⟨rfl, ea_1 h H1 e _ fun vs G2 H2 g ⟨v, ev, hv⟩ => by
    subst ev
    exact Pu.tr (γ := List Rat) (g := l) (H := G2) ⟨.ref C, v, rfl, hv, hf, hn⟩ H2 g.re Q fun u G' H3 g' p => q u G' H3 (g.trans g') p⟩
/-- numbers told as Ratios -/
def spRatios (C : Addr) : Sp := Pu (γ := List Rat) (fun l vs H => ∃ v, vs = [v] ∧ (gRow C l v H ∧ l.length ≤ 100000)) fun l H v G => newL (isR C) l H v G
theorem c_ratios_of (T : Txt P w K mg base C) : C8.Cal P w K mg base 38 "ratios_of" (spRatios C) [] := by
  refine cal_by T.d_ratios_of sc_ratios_of (fun _ _ _ _ _ _ us hl => match us, hl with | [_], _ => rfl) len_1 fun f cdv A outer s H vs Q E hr h => ?_
  obtain ⟨l, G, e, ⟨v, rfl, hv, hn⟩, q⟩ := h
  have turn : ∀ (i : Nat) (z : Rat) (x : V) (G' : Hp), l[i]? = some z → Ex G G' → isN C z x G' → EvT tYes ((wipe [some v, none] [1]).set 1 (some x)) G' true ∧ (true = true → Ev (tCall (spRatio C) [] E0 (tCons (tVar 1) tNil)) ((wipe [some v, none] [1]).set 1 (some x)) G' (isR C (id z))) :=
    fun i z x G' hz eG sx => ⟨et_yes, fun _ => want_ev (ev_slot rfl sx)⟩
  rcases hv with hv | hv
  · refine ⟨_, (pss_one (ps_ret (pe_lc (own := [("number", 1)]) (g := gName 1) (tt := tYes) rfl sc_ratios_of.nd (pi_list (pv 0)) (blkOk_by (own := [("number", 1)]) (by kernel_rfl)) (fun _ _ _ _ _ => (pg_name (i := 1) sc_ratios_of.nd rfl (by first | exact Or.inl rfl | exact Or.inr rfl))) (fun _ _ _ _ _ => pts_nil) (fun _ _ _ _ _ => (C8.pe_c (c_ratio_of T) hr (by decide) rfl (pa_cons (pv 1) pa_nil)))))), ?_⟩
    exact s_ret (Grow.rfl e) (ev_lc (f := id) up_isR hn (src_list up_isN (ev_slot rfl hv) (fun _ => rfl) turn)) fun v G' H' g p => q v G' H' g (by rw [List.map_id] at p; exact p)
  · refine ⟨_, (pss_one (ps_ret (pe_lc (own := [("number", 1)]) (g := gName 1) (tt := tYes) rfl sc_ratios_of.nd (pi_tup (pv 0)) (blkOk_by (own := [("number", 1)]) (by kernel_rfl)) (fun _ _ _ _ _ => (pg_name (i := 1) sc_ratios_of.nd rfl (by first | exact Or.inl rfl | exact Or.inr rfl))) (fun _ _ _ _ _ => pts_nil) (fun _ _ _ _ _ => (C8.pe_c (c_ratio_of T) hr (by decide) rfl (pa_cons (pv 1) pa_nil)))))), ?_⟩
    exact s_ret (Grow.rfl e) (ev_lc (f := id) up_isR hn (src_tup (ev_slot rfl hv) (fun _ => rfl) turn)) fun v G' H' g p => q v G' H' g (by rw [List.map_id] at p; exact p)
theorem ratios_ev {σ : L2.St} {G : Hp} {ta : TE} {l : List Rat} (h : Ev ta σ G (gRow C l)) (hn : l.length ≤ 100000) : Ev (tCall (spRatios C) [] E0 (tCons ta tNil)) σ G (newL (isR C) l G) := fun H1 e Q q =>
  ea_1 h H1 e _ fun vs G' H2 g ⟨v, ev, hv⟩ => by
    show spRatios C (vs ++ []) H2 Q E0
    rw [List.append_nil]
    refine Pu.tr (g := l) ⟨v, ev, hv, hn⟩ H2 g.re Q fun u G2 H3 g' ⟨a, xs, e1, e2, e3, e4⟩ => q u G2 H3 (g.trans g') ⟨a, xs, e1, ?_, e3, e4⟩
    exact g.kn.back e2
/-- all items numbers, and as many as that -/
def spNums (C : Addr) : Sp := Pu (γ := Item × Int) (fun g vs H => ∃ v w, vs = [v, w] ∧ (isItem C g.1 v H ∧ w = .int g.2 ∧ g.2 ≤ 100000)) fun g H v G => v = .bl (g.1.nums g.2)
theorem c_are_numbers (T : Txt P w K mg base C) : C8.Cal P w K mg base 41 "are_numbers" (spNums C) [] := by
  refine cal_by T.d_are_numbers sc_are_numbers (fun _ _ _ _ _ _ us hl => match us, hl with | [_, _], _ => rfl) len_2 fun f cdv A outer s H vs Q E hr h => ?_
  obtain ⟨⟨it, n⟩, G, e, ⟨v, _, rfl, hv, rfl, hn⟩, q⟩ := h
  have hk := fun {σ : L2.St} (h : σ[0]? = some (some v)) => ev_kind (f := fun k => k == .lst || k == .tup) (ev_slot (R := kindOf C) h (item_kind hv))
  have turn : ∀ (as : List Atom) (i : Nat) (z : Atom) (x : V) (G' : Hp), as[i]? = some z → Ex G G' → isAtom C z x G' → EvT tYes ((wipe [some v, some (.int n), none] [2]).set 2 (some x)) G' true ∧ (true = true → Ev (tCall (spKind (fun k => k == .int || k == .rat) C) [] E0 (tCons (tVar 2) tNil)) ((wipe [some v, some (.int n), none] [2]).set 2 (some x)) G' (isV (.bl z.isNum))) :=
    fun as i z x G' hz eG sx => ⟨et_yes, fun _ => by
      rw [← kind_num]
      exact ev_kind (ev_slot (R := kindOf C) rfl (atom_kind sx))⟩
  cases it with
  | atom a =>
    refine ⟨_, (pss_one (ps_ret (pe_and (C8.pe_c (c_is_list T) hr (by decide) rfl (pa_cons (pv 0) pa_nil)) (pe_and (pe_cmpR (cmEq T hr (by decide)) (pe_callB (r := rLen K) call_len_lt (by rfl) T.n_len bo_len (pa_cons (pv 0) pa_nil)) (pv 1) (nomark _)) (pe_one (pe_callB (call_allB rfl) (by rfl) T.n_all bo_all (pa_cons (pe_lc (own := [("number", 2)]) (g := gName 2) (tt := tYes) rfl sc_are_numbers.nd (pi_list (pv 0)) (blkOk_by (own := [("number", 2)]) (by kernel_rfl)) (fun _ _ _ _ _ => (pg_name (i := 2) sc_are_numbers.nd rfl (by first | exact Or.inl rfl | exact Or.inr rfl))) (fun _ _ _ _ _ => pts_nil) (fun _ _ _ _ _ => (C8.pe_c (c_is_number T) hr (by decide) rfl (pa_cons (pv 2) pa_nil)))) pa_nil))))))), ?_⟩
    refine s_ret (Grow.rfl e) (ev_andV (b := false) (hk rfl) fun h => absurd h ?_) fun v G' H' g p => q v G' H' g ?_
    · cases a <;> exact Bool.false_ne_true
    · rw [Bool.and_false] at p
      exact p
  | dct =>
    refine ⟨_, (pss_one (ps_ret (pe_and (C8.pe_c (c_is_list T) hr (by decide) rfl (pa_cons (pv 0) pa_nil)) (pe_and (pe_cmpR (cmEq T hr (by decide)) (pe_callB (r := rLen K) call_len_lt (by rfl) T.n_len bo_len (pa_cons (pv 0) pa_nil)) (pv 1) (nomark _)) (pe_one (pe_callB (call_allB rfl) (by rfl) T.n_all bo_all (pa_cons (pe_lc (own := [("number", 2)]) (g := gName 2) (tt := tYes) rfl sc_are_numbers.nd (pi_list (pv 0)) (blkOk_by (own := [("number", 2)]) (by kernel_rfl)) (fun _ _ _ _ _ => (pg_name (i := 2) sc_are_numbers.nd rfl (by first | exact Or.inl rfl | exact Or.inr rfl))) (fun _ _ _ _ _ => pts_nil) (fun _ _ _ _ _ => (C8.pe_c (c_is_number T) hr (by decide) rfl (pa_cons (pv 2) pa_nil)))) pa_nil))))))), ?_⟩
    refine s_ret (Grow.rfl e) (ev_andV (b := false) (hk rfl) fun h => absurd h Bool.false_ne_true) fun v G' H' g p => q v G' H' g ?_
    rw [Bool.and_false] at p
    exact p
  | lst as =>
    refine ⟨_, (pss_one (ps_ret (pe_and (C8.pe_c (c_is_list T) hr (by decide) rfl (pa_cons (pv 0) pa_nil)) (pe_and (pe_cmpR (cmEq T hr (by decide)) (pe_callB (r := rLen K) call_len_lt (by rfl) T.n_len bo_len (pa_cons (pv 0) pa_nil)) (pv 1) (nomark _)) (pe_one (pe_callB (call_allB rfl) (by rfl) T.n_all bo_all (pa_cons (pe_lc (own := [("number", 2)]) (g := gName 2) (tt := tYes) rfl sc_are_numbers.nd (pi_list (pv 0)) (blkOk_by (own := [("number", 2)]) (by kernel_rfl)) (fun _ _ _ _ _ => (pg_name (i := 2) sc_are_numbers.nd rfl (by first | exact Or.inl rfl | exact Or.inr rfl))) (fun _ _ _ _ _ => pts_nil) (fun _ _ _ _ _ => (C8.pe_c (c_is_number T) hr (by decide) rfl (pa_cons (pv 2) pa_nil)))) pa_nil))))))), ?_⟩
    refine s_ret (Grow.rfl e) (ev_andV (hk rfl) fun _ => ev_andV (ev_eqU rfl (ev_lenL (ev_slot rfl hv)) (ev_var rfl)) fun h => ev_all (ev_lc (f := Atom.isNum) up_bl ?_ (src_list up_atom (ev_slot rfl hv) (fun _ => rfl) (turn as))).old) fun v G' H' g p => q v G' H' g ?_
    · have := V.int.inj (of_decide_eq_true h)
      have h3 : n ≤ 100000 := hn
      omega
    · obtain rfl : v = _ := p
      show V.bl (true && _) = V.bl (decide ((as.length : Int) = n) && as.all Atom.isNum)
      rw [Bool.true_and, vint_eq, List.all_map] <;> rfl
  | tup as =>
    refine ⟨_, (pss_one (ps_ret (pe_and (C8.pe_c (c_is_list T) hr (by decide) rfl (pa_cons (pv 0) pa_nil)) (pe_and (pe_cmpR (cmEq T hr (by decide)) (pe_callB (r := rLen K) call_len_lt (by rfl) T.n_len bo_len (pa_cons (pv 0) pa_nil)) (pv 1) (nomark _)) (pe_one (pe_callB (call_allB rfl) (by rfl) T.n_all bo_all (pa_cons (pe_lc (own := [("number", 2)]) (g := gName 2) (tt := tYes) rfl sc_are_numbers.nd (pi_tup (pv 0)) (blkOk_by (own := [("number", 2)]) (by kernel_rfl)) (fun _ _ _ _ _ => (pg_name (i := 2) sc_are_numbers.nd rfl (by first | exact Or.inl rfl | exact Or.inr rfl))) (fun _ _ _ _ _ => pts_nil) (fun _ _ _ _ _ => (C8.pe_c (c_is_number T) hr (by decide) rfl (pa_cons (pv 2) pa_nil)))) pa_nil))))))), ?_⟩
    refine s_ret (Grow.rfl e) (ev_andV (hk rfl) fun _ => ev_andV (ev_eqU rfl (ev_lenT (ev_slot rfl hv)) (ev_var rfl)) fun h => ev_all (ev_lc (f := Atom.isNum) up_bl ?_ (src_tup (ev_slot rfl hv) (fun _ => rfl) (turn as))).old) fun v G' H' g p => q v G' H' g ?_
    · have := V.int.inj (of_decide_eq_true h)
      have h3 : n ≤ 100000 := hn
      omega
    · obtain rfl : v = _ := p
      show V.bl (true && _) = V.bl (decide ((as.length : Int) = n) && as.all Atom.isNum)
      rw [Bool.true_and, vint_eq, List.all_map] <;> rfl
theorem nums_ev {σ : L2.St} {G : Hp} {ta tb : TE} {it : Item} {n : Int} (h : Ev ta σ G (isItem C it)) (h2 : Ev tb σ G (isV (.int n))) (hn : n ≤ 100000) : Ev (tCall (spNums C) [] E0 (tCons ta (tCons tb tNil))) σ G (isV (.bl (it.nums n))) :=
  ev_call (ea_2 up_item up_isV h h2) fun vs G' e ⟨v, w, ev, hv, hw⟩ => Pu.tr (g := (it, n)) ⟨v, w, ev, hv, hw, hn⟩
end
end On
set_option Elab.async false
set_option linter.all false
set_option maxRecDepth 100000
set_option maxHeartbeats 4000000
/-! are_alike, is_table, told_rows, pivot_at, single_at, pair_at. -/
namespace On
open PySem PySem.Spec PyProof.Rows L2
section
variable {K : PySem.W.Frag} {σ : L2.St} {G0 H1 G H : Hp} {ta tb' tc : TE} {tb : TS} {g : TG} {wi : TI} {D : Ends} {Q : TS}
/-- a loop at the end of a suite -/
theorem s_for (h : tSeq (tFor wi g tb) tNext D σ H) : tFor wi g tb D σ H := h
theorem s_skip {tt : TT} {tu : TS} (gr : Grow G0 H1 G H) (h : EvT tt σ G false) (k : ∀ H', Grow G0 H1 G H' → D.nx σ H') : tIfS tt tu tNext D σ H := s_if gr h (fun z => by cases z) fun _ => k
theorem s_take {tt : TT} {tu tw : TS} (gr : Grow G0 H1 G H) (h : EvT tt σ G true) (k : ∀ H', Grow G0 H1 G H' → tu D σ H') : tIfS tt tu tw D σ H := s_if gr h (fun _ => k) fun z => by cases z
theorem ev_chainI {f f' : Int → Int → Bool} {i j k : Int} (h1 : Ev ta σ H (isV (.int i))) (h2 : Ev tb' σ H (isV (.int j))) (h3 : Ev tc σ H (isV (.int k))) :
    Ev (tChain (rI0 fun i j => .bl (f i j)) (rI0 fun i j => .bl (f' i j)) ta tb' tc) σ H (isV (.bl (f i j && f' j k))) := fun H1 e Q q =>
  h1 H1 e _ fun v G H2 g ev => (h2.up (fun v G G' => up_isV _ v G G') g.kn) H2 g.re _ fun w G' H3 g' ew => ⟨i, j, ev, ew, f i j, rfl, by
    cases hf : f i j with
    | true =>
      exact (h3.up (fun v G G' => up_isV _ v G G') (g.kn.trans g'.kn)) H3 g'.re _ fun u G'' H4 g'' eu => ⟨j, k, ew, eu, q _ G'' H4 ((g.trans g').trans g'') (by rw [hf] <;> rfl)⟩
    | false => exact q _ G' H3 (g.trans g') (by rw [hf] <;> rfl)⟩
end
section
variable {P : Program} {w : World} {K : PySem.W.Frag} {mg : Str → Option Value} {base : Heap} {C : Addr}
theorem Sq.get {n : Nat} {m : List (List Rat)} (h : Sq n m) {i : Nat} (hi : i < n) : ∃ r, m[i]? = some r ∧ r.length = n := by
  have hi' : i < m.length := by rw [h.len]; exact hi
  exact ⟨m[i], List.getElem?_eq_getElem hi', h.row _ (List.getElem_mem hi')⟩
theorem Sq.at {n : Nat} {m : List (List Rat)} (h : Sq n m) {i j : Nat} {r : List Rat} (hr : m[i]? = some r) (hj : j < n) : r[j]? = some (at2 m i j) := by
  have hl : r.length = n := h.row r (mem_of_get hr)
  have hj' : j < r.length := by omega
  rw [List.getElem?_eq_getElem hj']
  congr 1
  exact (at2_get hr (List.getElem?_eq_getElem hj')).symm
theorem Sq.lt {n : Nat} {m : List (List Rat)} (h : Sq n m) {i : Nat} {r : List Rat} (hr : m[i]? = some r) : i < n := by
  rw [← h.len]
  exact (List.getElem?_eq_some_iff.mp hr).1
/-- rows[i][j], row[j] -/
theorem at_ev {σ : L2.St} {G : Hp} {ta tb tc : TE} {n : Nat} {m : List (List Rat)} {i j : Nat} (h : Sq n m) (hi : i < n) (hj : j < n) (h1 : Ev ta σ G (isMat C m)) (h2 : Ev tb σ G (isV (.int (i : Int)))) (h3 : Ev tc σ G (isV (.int (j : Int)))) :
    Ev (tOp (rIxLT K) (tOp (rIxLT K) ta tb) tc) σ G (isR C (at2 m i j)) := by
  obtain ⟨r, hr, _⟩ := h.get hi
  exact ev_ixL up_isR (ev_ixL up_row h1 h2 (atI_nat hr)) h3 (atI_nat (h.at hr hj))
theorem at_row {σ : L2.St} {G : Hp} {ta tc : TE} {n : Nat} {m : List (List Rat)} {i j : Nat} {r : List Rat} (h : Sq n m) (hr : m[i]? = some r) (hj : j < n) (h1 : Ev ta σ G (isRow C r)) (h3 : Ev tc σ G (isV (.int (j : Int)))) :
    Ev (tOp (rIxLT K) ta tc) σ G (isR C (at2 m i j)) := ev_ixL up_isR h1 h3 (atI_nat (h.at hr hj))
def spAlike (C : Addr) : Sp := Pu (γ := List (List Rat)) (fun m vs H => ∃ v, vs = [v] ∧ (isMat C m v H ∧ (∃ n, Sq n m ∧ n ≤ 100000) ∧ Sym m)) fun m H v G => v = .bl true
theorem c_are_alike (T : Txt P w K mg base C) : C8.Cal P w K mg base 41 "are_alike" (spAlike C) [] := by
  refine cal_by T.d_are_alike sc_are_alike (fun _ _ _ _ _ _ us hl => match us, hl with | [_], _ => rfl) len_1 fun f cdv A outer s H vs Q E hr h => ?_
  obtain ⟨m, G, e, ⟨v, rfl, hv, ⟨n, hq, hn⟩, hs⟩, q⟩ := h
  refine ⟨_, (pss_cons (ps_for PassesOwn.never rfl (pi_enum (by rfl) T.n_enumerate (pa_cons (pv 0) pa_nil)) (pg_tup rfl (pgs_cons (pg_name (i := 1) sc_are_alike.nd rfl (by first | exact Or.inl rfl | exact Or.inr rfl)) (pgs_cons (pg_name (i := 2) sc_are_alike.nd rfl (by first | exact Or.inl rfl | exact Or.inr rfl)) pgs_nil))) (pss_one (ps_for PassesOwn.never rfl (pi_range1 rfl T.n_range (pa_cons (pv 1) pa_nil)) (pg_name (i := 3) sc_are_alike.nd rfl (by first | exact Or.inl rfl | exact Or.inr rfl)) (pss_one (ps_if (pt_cmpR (cmNe T hr (by decide)) (pe_ix (r := rIxLT K) ix_lt (pv 2) (pv 3) (fun _ _ => rfl)) (pe_ix (r := rIxLT K) ix_lt (pe_ix (r := rIxLT K) ix_lt (pv 0) (pv 3) (fun _ _ => rfl)) (pv 1) (fun _ _ => rfl)) (nomark _)) (pss_one (ps_ret pe_bl)) pss_nil))))) (pss_one (ps_ret pe_bl))), ?_⟩
  refine q_forE up_row (Grow.rfl e) (ea_1 (ev_slot rfl hv)) (fun i σ _ _ => ∃ o1 o2 o3, σ = [some v, o1, o2, o3]) (fun _ _ _ _ _ => ⟨_, _, _, rfl⟩) ?_ ?_
  · rintro i r x σ' G' H' H'' hr' hx eG gr ⟨o1, o2, o3, rfl⟩ e2 gr2 N hN
    refine s_for (q_forR gr2 (n := i) (fun H1 e1 Q1 q1 => ea_1 (ev_var (v := .int (i : Int)) rfl) H1 e1 Q1 fun vs G2 H2 g2 ⟨v', ev, hv'⟩ => q1 vs G2 H2 g2 (by rw [ev, hv'])) (by have := hq.lt hr'; omega) (fun _ σ _ _ => ∃ o3, σ = [some v, some (.int i), some x, o3]) (fun _ _ _ _ _ => ⟨_, rfl⟩) ?_ ?_)
    · rintro k σ3 G3 H3 hk eG3 gr3 ⟨o, rfl⟩ N3 hN3
      have hi := hq.lt hr'
      refine s_skip gr3 (EvT.is (et_test (ev_neR (at_row hq hr' (by omega) (ev_slot rfl (up_row _ _ _ _ eG3 hx)) (ev_var rfl)) (at_ev (i := k) (j := i) hq (by omega) hi (ev_slot rfl (up_mat _ _ _ _ (eG.trans eG3) hv)) (ev_var rfl) (ev_var rfl)))) ?_) fun H4 g4 => hN3 _ G3 H4 Ex.rfl g4 ⟨_, rfl⟩
      rw [hs i k, decide_eq_true rfl] <;> rfl
    · rintro σ3 G3 H3 eG3 gr3 ⟨o, rfl⟩
      exact hN _ G3 H3 eG3 gr3 ⟨_, _, _, rfl⟩
  · rintro σ' G' H' eG gr ⟨o1, o2, o3, rfl⟩
    exact s_ret gr ev_c q
/-- is_table: of a table that is one -/
structure TabOk (m : List (List Rat)) : Prop where
  sq : Sq m.length m
  sym : Sym m
  pos : 1 ≤ m.length
  le : m.length ≤ 4
def spTable (C : Addr) : Sp := Pu (γ := List (List Rat)) (fun m vs H => ∃ v, vs = [v] ∧ (gMat C m v H ∧ TabOk m)) fun m H v G => v = .bl true
theorem c_is_table (T : Txt P w K mg base C) : C8.Cal P w K mg base 42 "is_table" (spTable C) [] := by
  refine cal_by T.d_is_table sc_is_table (fun _ _ _ _ _ _ us hl => match us, hl with | [_], _ => rfl) len_1 fun f cdv A outer s H vs Q E hr h => ?_
  obtain ⟨m, G, e, ⟨v, rfl, hv, hm⟩, q⟩ := h
  have h4 := hm.le
  have h1 := hm.pos
  have hall : (m.map fun _ => true).all id = true := by rw [List.all_map]; exact List.all_eq_true.mpr fun _ _ => rfl
  have alike : ∀ {G' : Hp} {σ : L2.St} {ta : TE}, Ev ta σ G' (isMat C m) → Ev (tCall (spAlike C) [] E0 (tCons ta tNil)) σ G' (isV (.bl true)) := fun h =>
    ev_call (ea_1 h) fun vs G' e ⟨v, ev, hv⟩ => Pu.tr (g := m) ⟨v, ev, hv, ⟨_, hm.sq, by omega⟩, hm.sym⟩
  have rat : ∀ (i : Nat) (r : List Rat) (x : V) (G' : Hp), m[i]? = some r → Ex G G' → gRow C r x G' → EvT tYes ((wipe [some v, none] [1]).set 1 (some x)) G' true ∧ (true = true → Ev (tCall (spRatios C) [] E0 (tCons (tVar 1) tNil)) ((wipe [some v, none] [1]).set 1 (some x)) G' (isRow C r)) := fun i r x G' hz eG sx =>
    ⟨et_yes, fun _ => (ratios_ev (ev_slot rfl sx) (by have := hm.sq.row r (mem_of_get hz); omega)).old⟩
  have chain : (decide ((1 : Int) ≤ (m.length : Int)) && decide ((m.length : Int) ≤ 20)) = true := by
    rw [decide_eq_true (by omega : (1 : Int) ≤ (m.length : Int)), decide_eq_true (by omega : (m.length : Int) ≤ 20)] <;> rfl
  rcases hv with hv | hv
  · refine ⟨_, (pss_cons (ps_if (PW.pt (pw_or (pt_not (pt_val (C8.pe_c (c_is_list T) hr (by decide) rfl (pa_cons (pv 0) pa_nil)))) (pw_or1 (pt_not (pt_chain op_le op_le pe_int (pe_callB (r := rLen K) call_len_lt (by rfl) T.n_len bo_len (pa_cons (pv 0) pa_nil)) (pe_gc rfl T.g_MOST_ROWS)))))) (pss_one (ps_ret pe_bl)) pss_nil) (pss_cons (ps_if (pt_not (pt_val (pe_callB (call_allB rfl) (by rfl) T.n_all bo_all (pa_cons (pe_lc (own := [("row", 1)]) (g := gName 1) (tt := tYes) rfl sc_is_table.nd (pi_list (pv 0)) (blkOk_by (own := [("row", 1)]) (by kernel_rfl)) (fun _ _ _ _ _ => (pg_name (i := 1) sc_is_table.nd rfl (by first | exact Or.inl rfl | exact Or.inr rfl))) (fun _ _ _ _ _ => pts_nil) (fun _ _ _ _ _ => (C8.pe_c (c_are_numbers T) hr (by decide) rfl (pa_cons (pv 1) (pa_cons (pe_callB (r := rLen K) call_len_lt (by rfl) T.n_len bo_len (pa_cons (pv 0) pa_nil)) pa_nil))))) pa_nil)))) (pss_one (ps_ret pe_bl)) pss_nil) (pss_one (ps_ret (C8.pe_c (c_are_alike T) hr (by decide) rfl (pa_cons (pe_lc (own := [("row", 1)]) (g := gName 1) (tt := tYes) rfl sc_is_table.nd (pi_list (pv 0)) (blkOk_by (own := [("row", 1)]) (by kernel_rfl)) (fun _ _ _ _ _ => (pg_name (i := 1) sc_is_table.nd rfl (by first | exact Or.inl rfl | exact Or.inr rfl))) (fun _ _ _ _ _ => pts_nil) (fun _ _ _ _ _ => (C8.pe_c (c_ratios_of T) hr (by decide) rfl (pa_cons (pv 1) pa_nil)))) pa_nil)))))), ?_⟩
    refine q_skip (Grow.rfl e) (EvT.is (et_or (et_not (et_B (ev_kind (k := .lst) (ev_slot (R := kindOf C) rfl (lst_kind hv))))) fun _ => et_not (et_test (ev_chainI ev_c (ev_lenL (ev_slot rfl hv)) ev_c))) (by rw [chain] <;> rfl)) fun H2 g2 => ?_
    refine q_skip g2 (EvT.is (et_not (et_B (ev_all (ev_lc (f := fun _ => true) up_bl (by omega) (src_list up_gRow (ev_slot rfl hv) (fun _ => rfl) ?_)).old))) (by rw [hall] <;> rfl)) fun H3 g3 => ?_
    · intro i r x G' hz eG sx
      refine ⟨et_yes, fun _ => ?_⟩
      obtain ⟨it, hit, hn, _⟩ := row_item sx
      have hl := hm.sq.row r (mem_of_get hz)
      refine Tr.imp (nums_ev (n := (m.length : Int)) (ev_slot rfl hit) (ev_lenL (ev_slot rfl (up_lst up_gRow _ _ _ _ eG hv))) (by omega)) fun u G2 _ eu => ?_
      obtain rfl : u = _ := eu
      rw [hn, hl, decide_eq_true rfl] <;> rfl
    · exact s_ret g3 (alike (ev_lcI up_row (by omega) (src_list (K := K) up_gRow (ev_slot rfl hv) (fun _ => rfl) rat)).old) q
  · refine ⟨_, (pss_cons (ps_if (PW.pt (pw_or (pt_not (pt_val (C8.pe_c (c_is_list T) hr (by decide) rfl (pa_cons (pv 0) pa_nil)))) (pw_or1 (pt_not (pt_chain op_le op_le pe_int (pe_callB (r := rLen K) call_len_lt (by rfl) T.n_len bo_len (pa_cons (pv 0) pa_nil)) (pe_gc rfl T.g_MOST_ROWS)))))) (pss_one (ps_ret pe_bl)) pss_nil) (pss_cons (ps_if (pt_not (pt_val (pe_callB (call_allB rfl) (by rfl) T.n_all bo_all (pa_cons (pe_lc (own := [("row", 1)]) (g := gName 1) (tt := tYes) rfl sc_is_table.nd (pi_tup (pv 0)) (blkOk_by (own := [("row", 1)]) (by kernel_rfl)) (fun _ _ _ _ _ => (pg_name (i := 1) sc_is_table.nd rfl (by first | exact Or.inl rfl | exact Or.inr rfl))) (fun _ _ _ _ _ => pts_nil) (fun _ _ _ _ _ => (C8.pe_c (c_are_numbers T) hr (by decide) rfl (pa_cons (pv 1) (pa_cons (pe_callB (r := rLen K) call_len_lt (by rfl) T.n_len bo_len (pa_cons (pv 0) pa_nil)) pa_nil))))) pa_nil)))) (pss_one (ps_ret pe_bl)) pss_nil) (pss_one (ps_ret (C8.pe_c (c_are_alike T) hr (by decide) rfl (pa_cons (pe_lc (own := [("row", 1)]) (g := gName 1) (tt := tYes) rfl sc_is_table.nd (pi_tup (pv 0)) (blkOk_by (own := [("row", 1)]) (by kernel_rfl)) (fun _ _ _ _ _ => (pg_name (i := 1) sc_is_table.nd rfl (by first | exact Or.inl rfl | exact Or.inr rfl))) (fun _ _ _ _ _ => pts_nil) (fun _ _ _ _ _ => (C8.pe_c (c_ratios_of T) hr (by decide) rfl (pa_cons (pv 1) pa_nil)))) pa_nil)))))), ?_⟩
    refine q_skip (Grow.rfl e) (EvT.is (et_or (et_not (et_B (ev_kind (k := .tup) (ev_slot (R := kindOf C) rfl (tup_kind hv))))) fun _ => et_not (et_test (ev_chainI ev_c (ev_lenT (ev_slot rfl hv)) ev_c))) (by rw [chain] <;> rfl)) fun H2 g2 => ?_
    refine q_skip g2 (EvT.is (et_not (et_B (ev_all (ev_lc (f := fun _ => true) up_bl (by omega) (src_tup (ev_slot rfl hv) (fun _ => rfl) ?_)).old))) (by rw [hall] <;> rfl)) fun H3 g3 => ?_
    · intro i r x G' hz eG sx
      refine ⟨et_yes, fun _ => ?_⟩
      obtain ⟨it, hit, hn, _⟩ := row_item sx
      have hl := hm.sq.row r (mem_of_get hz)
      refine Tr.imp (nums_ev (n := (m.length : Int)) (ev_slot rfl hit) (ev_lenT (ev_slot rfl (up_tup up_gRow _ _ _ _ eG hv))) (by omega)) fun u G2 _ eu => ?_
      obtain rfl : u = _ := eu
      rw [hn, hl, decide_eq_true rfl] <;> rfl
    · exact s_ret g3 (alike (ev_lcI up_row (by omega) (src_tup (K := K) (ev_slot rfl hv) (fun _ => rfl) rat)).old) q
end
end On
set_option linter.all false
/-! The first of a run of numbers. -/
namespace On
def firstFrom (p : Nat → Bool) : Nat → Nat → Option Nat
  | _, 0 => none
  | b, k + 1 => if p b then some b else firstFrom p (b + 1) k
theorem firstFrom_eq {p : Nat → Bool} : ∀ {n b i : Nat}, i < n → (∀ k, k < i → p (b + k) = false) → p (b + i) = true → firstFrom p b n = some (b + i)
  | n + 1, b, 0, _, _, h => by
    rw [Nat.add_zero] at h
    show (if p b = true then some b else _) = _
    rw [if_pos h, Nat.add_zero]
  | n + 1, b, i + 1, hi, hk, h => by
    have h0 := hk 0 (Nat.succ_pos i)
    rw [Nat.add_zero] at h0
    show (if p b = true then some b else firstFrom p (b + 1) n) = _
    rw [if_neg (by rw [h0]; decide), firstFrom_eq (i := i) (by omega) (fun k hk' => by have := hk (k + 1) (by omega); rw [← this]; congr 1; omega) (by rw [← h]; congr 1; omega)]
    congr 1
    omega
theorem firstFrom_none {p : Nat → Bool} : ∀ {n b : Nat}, (∀ k, k < n → p (b + k) = false) → firstFrom p b n = none
  | 0, _, _ => rfl
  | n + 1, b, hk => by
    have h0 := hk 0 (Nat.succ_pos n)
    rw [Nat.add_zero] at h0
    show (if p b = true then some b else firstFrom p (b + 1) n) = _
    rw [if_neg (by rw [h0]; decide)]
    exact firstFrom_none fun k hk' => by have := hk (k + 1) (by omega); rw [← this]; congr 1; omega
theorem firstFrom_some {p : Nat → Bool} : ∀ {n b c : Nat}, firstFrom p b n = some c → b ≤ c ∧ c < b + n ∧ p c = true ∧ ∀ i, b ≤ i → i < c → p i = false
  | 0, _, _, h => by cases h
  | n + 1, b, c, h => by
    have h' : (if p b = true then some b else firstFrom p (b + 1) n) = some c := h
    by_cases hp : p b = true
    · rw [if_pos hp] at h'
      cases h'
      exact ⟨Nat.le_refl _, by omega, hp, fun i h1 h2 => by omega⟩
    · rw [if_neg hp] at h'
      obtain ⟨h1, h2, h3, h4⟩ := firstFrom_some h'
      refine ⟨by omega, by omega, h3, fun i i1 i2 => ?_⟩
      by_cases hb : i = b
      · subst hb; simpa using hp
      · exact h4 i (by omega) i2
theorem firstFrom_no {p : Nat → Bool} : ∀ {n b : Nat}, firstFrom p b n = none → ∀ i, b ≤ i → i < b + n → p i = false
  | 0, b, _, i, h1, h2 => by omega
  | n + 1, b, h, i, h1, h2 => by
    have h' : (if p b = true then some b else firstFrom p (b + 1) n) = none := h
    by_cases hp : p b = true
    · rw [if_pos hp] at h'; cases h'
    · rw [if_neg hp] at h'
      by_cases hb : i = b
      · subst hb; simpa using hp
      · exact firstFrom_no h' i (by omega) (by omega)
/-- not zero -/
def nz (q : Rat) : Bool := !decide (q = 0)
theorem sgn_zero (q : Rat) : sgn q = 0 ↔ q = 0 := by
  have h : sgn q = 0 ↔ q.num = 0 := by
    unfold sgn
    by_cases h1 : 0 < q.num
    · have h2 : ¬ q.num < 0 := by omega
      rw [decide_eq_true h1, decide_eq_false h2]
      constructor
      · intro z; exact absurd z (by decide)
      · intro z; omega
    · by_cases h2 : q.num < 0
      · rw [decide_eq_false h1, decide_eq_true h2]
        constructor
        · intro z; exact absurd z (by decide)
        · intro z; omega
      · rw [decide_eq_false h1, decide_eq_false h2]
        exact ⟨fun _ => by omega, fun _ => by decide⟩
  rw [h, Rat.num_eq_zero]
theorem nz_sgn (q : Rat) : (!decide (L2.V.int (sgn q) = L2.V.int 0)) = nz q := by
  unfold nz
  rw [vint_eq]
  congr 1
  exact decide_eq_decide.mpr (sgn_zero q)
def pivotAt (m : List (List Rat)) (b c : Nat) : Option Nat := firstFrom (fun i => nz (at2 m i c)) b (m.length - b)
def singleAt (m : List (List Rat)) : Option Nat := firstFrom (fun i => nz (at2 m i i)) 0 m.length
def pairRow (m : List (List Rat)) (i : Nat) : Option Nat := firstFrom (fun j => nz (at2 m i j)) (i + 1) (m.length - (i + 1))
def pairFrom (m : List (List Rat)) : Nat → Nat → Option (Nat × Nat)
  | _, 0 => none
  | i, k + 1 => match pairRow m i with
    | some j => some (i, j)
    | none => pairFrom m (i + 1) k
def pairAt (m : List (List Rat)) : Option (Nat × Nat) := pairFrom m 0 m.length
theorem pairFrom_eq {m : List (List Rat)} : ∀ {n b i j : Nat}, i < n → (∀ k, k < i → pairRow m (b + k) = none) → pairRow m (b + i) = some j → pairFrom m b n = some (b + i, j)
  | n + 1, b, 0, j, _, _, h => by
    rw [Nat.add_zero] at h
    unfold pairFrom
    rw [h]
    rfl
  | n + 1, b, i + 1, j, hi, hk, h => by
    have h0 := hk 0 (Nat.succ_pos i)
    rw [Nat.add_zero] at h0
    unfold pairFrom
    rw [h0]
    show pairFrom m (b + 1) n = _
    rw [pairFrom_eq (i := i) (j := j) (by omega) (fun k hk' => by have := hk (k + 1) (by omega); rw [← this]; congr 1; omega) (by rw [← h]; congr 1; omega)]
    congr 2
    omega
theorem pairFrom_none {m : List (List Rat)} : ∀ {n b : Nat}, (∀ k, k < n → pairRow m (b + k) = none) → pairFrom m b n = none
  | 0, _, _ => rfl
  | n + 1, b, hk => by
    have h0 := hk 0 (Nat.succ_pos n)
    rw [Nat.add_zero] at h0
    unfold pairFrom
    rw [h0]
    exact pairFrom_none fun k hk' => by have := hk (k + 1) (by omega); rw [← this]; congr 1; omega
theorem pairFrom_some {m : List (List Rat)} : ∀ {n b : Nat} {p : Nat × Nat}, pairFrom m b n = some p → b ≤ p.1 ∧ p.1 < b + n ∧ pairRow m p.1 = some p.2
  | 0, _, _, h => by cases h
  | n + 1, b, p, h => by
    unfold pairFrom at h
    cases hr : pairRow m b with
    | some j =>
      rw [hr] at h
      cases h
      exact ⟨Nat.le_refl _, by omega, hr⟩
    | none =>
      rw [hr] at h
      obtain ⟨h1, h2, h3⟩ := pairFrom_some (show pairFrom m (b + 1) n = some p from h)
      exact ⟨by omega, by omega, h3⟩
theorem pairFrom_no {m : List (List Rat)} : ∀ {n b : Nat}, pairFrom m b n = none → ∀ i, b ≤ i → i < b + n → pairRow m i = none
  | 0, b, _, i, h1, h2 => by omega
  | n + 1, b, h, i, h1, h2 => by
    unfold pairFrom at h
    cases hr : pairRow m b with
    | some j => rw [hr] at h; cases h
    | none =>
      rw [hr] at h
      by_cases hb : i = b
      · subst hb; exact hr
      · exact pairFrom_no (show pairFrom m (b + 1) n = none from h) i (by omega) (by omega)
end On
set_option Elab.async false
set_option linter.all false
set_option maxRecDepth 100000
set_option maxHeartbeats 4000000
/-! told_rows, pivot_at, single_at, pair_at. -/
namespace On
open PySem PySem.Spec PyProof.Rows L2
section
variable {P : Program} {w : World} {K : PySem.W.Frag} {mg : Str → Option Value} {base : Heap} {C : Addr}
def spTold2 (C : Addr) : Sp := Pu (γ := List (List Rat)) (fun m vs H => ∃ v, vs = [v] ∧ (gMat C m v H ∧ TabOk m)) fun m H v G => newL (isRow C) m H v G
theorem c_told_rows (T : Txt P w K mg base C) : C8.Cal P w K mg base 43 "told_rows" (spTold2 C) [] := by
  refine cal_by T.d_told_rows sc_told_rows (fun _ _ _ _ _ _ us hl => match us, hl with | [_], _ => rfl) len_1 fun f cdv A outer s H vs Q E hr h => ?_
  obtain ⟨m, G, e, ⟨v, rfl, hv, hm⟩, q⟩ := h
  have h4 := hm.le
  have tab : ∀ {σ : L2.St}, σ[0]? = some (some v) → Ev (tCall (spTable C) [] E0 (tCons (tVar 0) tNil)) σ G (isV (.bl true)) := fun hs =>
    ev_call (ea_1 (ev_slot hs hv)) fun vs G' e ⟨v, ev, hv⟩ => Pu.tr (g := m) ⟨v, ev, hv, hm⟩
  have rat : ∀ (i : Nat) (r : List Rat) (x : V) (G' : Hp), m[i]? = some r → Ex G G' → gRow C r x G' → EvT tYes ((wipe [some v, none] [1]).set 1 (some x)) G' true ∧ (true = true → Ev (tCall (spRatios C) [] E0 (tCons (tVar 1) tNil)) ((wipe [some v, none] [1]).set 1 (some x)) G' (isRow C r)) := fun i r x G' hz eG sx =>
    ⟨et_yes, fun _ => (ratios_ev (ev_slot rfl sx) (by have := hm.sq.row r (mem_of_get hz); omega)).old⟩
  rcases hv with hv | hv
  · refine ⟨_, (pss_cons (ps_if (pt_not (pt_val (C8.pe_c (c_is_table T) hr (by decide) rfl (pa_cons (pv 0) pa_nil)))) pss_never pss_nil) (pss_one (ps_ret (pe_lc (own := [("row", 1)]) (g := gName 1) (tt := tYes) rfl sc_told_rows.nd (pi_list (pv 0)) (blkOk_by (own := [("row", 1)]) (by kernel_rfl)) (fun _ _ _ _ _ => (pg_name (i := 1) sc_told_rows.nd rfl (by first | exact Or.inl rfl | exact Or.inr rfl))) (fun _ _ _ _ _ => pts_nil) (fun _ _ _ _ _ => (C8.pe_c (c_ratios_of T) hr (by decide) rfl (pa_cons (pv 1) pa_nil))))))), ?_⟩
    refine q_skip (Grow.rfl e) (et_not (et_B (tab rfl))) fun H2 g2 => ?_
    exact s_ret g2 (ev_lcI up_row (by omega) (src_list (K := K) up_gRow (ev_slot rfl hv) (fun _ => rfl) rat)) q
  · refine ⟨_, (pss_cons (ps_if (pt_not (pt_val (C8.pe_c (c_is_table T) hr (by decide) rfl (pa_cons (pv 0) pa_nil)))) pss_never pss_nil) (pss_one (ps_ret (pe_lc (own := [("row", 1)]) (g := gName 1) (tt := tYes) rfl sc_told_rows.nd (pi_tup (pv 0)) (blkOk_by (own := [("row", 1)]) (by kernel_rfl)) (fun _ _ _ _ _ => (pg_name (i := 1) sc_told_rows.nd rfl (by first | exact Or.inl rfl | exact Or.inr rfl))) (fun _ _ _ _ _ => pts_nil) (fun _ _ _ _ _ => (C8.pe_c (c_ratios_of T) hr (by decide) rfl (pa_cons (pv 1) pa_nil))))))), ?_⟩
    refine q_skip (Grow.rfl e) (et_not (et_B (tab rfl))) fun H2 g2 => ?_
    exact s_ret g2 (ev_lcI up_row (by omega) (src_tup (K := K) (ev_slot rfl hv) (fun _ => rfl) rat)) q
/-- what a call gives that makes a new list -/
theorem newL_up {γ : Type} {R : γ → V → Hp → Prop} {zs : List γ} {G G' : Hp} {r : Hp → VK → Prop} {H1 H2 : Hp} {P : V → Hp → Prop} {Q : VK} (g : Grow G H1 G' H2) (h : Tr r G' (newL R zs G')) (q : ∀ v G2 H3, Grow G H1 G2 H3 → newL R zs G v G2 → Q v H3) : r H2 Q :=
  h H2 g.re Q fun u G2 H3 g' ⟨a, xs, e1, e2, e3, e4⟩ => q u G2 H3 (g.trans g') ⟨a, xs, e1, g.kn.back e2, e3, e4⟩
theorem ev_callN {γ : Type} {R : γ → V → Hp → Prop} {zs : List γ} {σ : L2.St} {H : Hp} {sp : Sp} {t : TA} {PA : List V → Hp → Prop} (ha : EvA t σ H PA) (h : ∀ vs G, Ex H G → PA vs G → Tr (fun H1 Q => sp vs H1 Q E0) G (newL R zs G)) : Ev (tCall sp [] E0 t) σ H (newL R zs H) := fun H1 e Q q =>
  ha H1 e _ fun vs G H2 g p => by
    show sp (vs ++ []) H2 Q E0
    rw [List.append_nil]
    exact newL_up (P := fun _ _ => True) g (h vs G g.kn p) q
theorem told_rows_ev {σ : L2.St} {G : Hp} {ta : TE} {m : List (List Rat)} (h : Ev ta σ G (gMat C m)) (hm : TabOk m) : Ev (tCall (spTold2 C) [] E0 (tCons ta tNil)) σ G (newL (isRow C) m G) :=
  ev_callN (ea_1 h) fun vs G' e ⟨v, ev, hv⟩ => Pu.tr (g := m) ⟨v, ev, hv, hm⟩
/-- columns that every row has -/
def Wide (m : List (List Rat)) (c : Nat) : Prop := ∀ r ∈ m, c < r.length
theorem at2_of {m : List (List Rat)} {i c : Nat} {r : List Rat} (hr : m[i]? = some r) (hc : c < r.length) : r[c]? = some (at2 m i c) := by
  rw [List.getElem?_eq_getElem hc]
  congr 1
  exact (at2_get hr (List.getElem?_eq_getElem hc)).symm
theorem at_evW {σ : L2.St} {G : Hp} {ta tb tc : TE} {m : List (List Rat)} {i j : Nat} (hi : i < m.length) (hj : Wide m j) (h1 : Ev ta σ G (isMat C m)) (h2 : Ev tb σ G (isV (.int (i : Int)))) (h3 : Ev tc σ G (isV (.int (j : Int)))) :
    Ev (tOp (rIxLT K) (tOp (rIxLT K) ta tb) tc) σ G (isR C (at2 m i j)) := by
  have hr : m[i]? = some m[i] := List.getElem?_eq_getElem hi
  exact ev_ixL up_isR (ev_ixL up_row h1 h2 (atI_nat hr)) h3 (atI_nat (at2_of hr (hj _ (List.getElem_mem hi))))
abbrev isNat : Nat → V → Hp → Prop := fun n => isV (.int (n : Int))
theorem opt_nat {n : Nat} {v : V} {H : Hp} (h : isV (.int (n : Int)) v H) : optOf isNat (some n) v H := by
  obtain rfl : v = _ := h
  exact ⟨(fun z => nomatch z), rfl⟩
def spPivot (C : Addr) : Sp := Pu (γ := List (List Rat) × Nat × Nat) (fun g vs H => ∃ v w u, vs = [v, w, u] ∧ (isMat C g.1 v H ∧ w = .int (g.2.1 : Int) ∧ u = .int (g.2.2 : Int) ∧ g.2.1 ≤ g.1.length ∧ g.1.length ≤ 100000 ∧ Wide g.1 g.2.2)) fun g H v G => optOf isNat (pivotAt g.1 g.2.1 g.2.2) v G
theorem c_pivot_at (T : Txt P w K mg base C) : C8.Cal P w K mg base 41 "pivot_at" (spPivot C) [] := by
  refine cal_by T.d_pivot_at sc_pivot_at (fun _ _ _ _ _ _ us hl => match us, hl with | [_, _, _], _ => rfl) len_3 fun f cdv A outer s H vs Q E hr h => ?_
  obtain ⟨⟨m, b, c⟩, G, e, ⟨v, _, _, rfl, hv, rfl, rfl, hb, hn, hw⟩, q⟩ := h
  refine ⟨_, (pss_cons (ps_for PassesOwn.never rfl (pi_range2 rfl T.n_range (pa_cons (pv 1) (pa_cons (pe_callB (r := rLen K) call_len_lt (by rfl) T.n_len bo_len (pa_cons (pv 0) pa_nil)) pa_nil))) (pg_name (i := 3) sc_pivot_at.nd rfl (by first | exact Or.inl rfl | exact Or.inr rfl)) (pss_one (ps_if (pt_cmpR (cmNe T hr (by decide)) (pe_pp (p_sign T) hr (by decide) (pe_ix (r := rIxLT K) ix_lt (pe_ix (r := rIxLT K) ix_lt (pv 0) (pv 3) (fun _ _ => rfl)) (pv 2) (fun _ _ => rfl)) rfl) pe_int (nomark _)) (pss_one (ps_ret (pv 3))) pss_nil))) (pss_one (ps_ret pe_non))), ?_⟩
  refine q_forR2 (a := b) (n := m.length - b) (b := (m.length : Int)) (Grow.rfl e) (fun H1 e1 Q1 q1 => ea_2 up_isV up_isV (ev_var (v := .int (b : Int)) rfl) (ev_lenL (ev_slot rfl hv)) H1 e1 Q1 fun vs G2 H2 g2 ⟨v1, v2, ev, h1, h2⟩ => q1 vs G2 H2 g2 (by rw [ev, h1, h2])) (by
    have hb' : b ≤ m.length := hb
    omega) (by have hb' : b ≤ m.length := hb; have hn' : m.length ≤ 100000 := hn; omega) (fun i σ _ _ => (∃ o, σ = [some v, some (.int b), some (.int c), o]) ∧ ∀ k, k < i → nz (at2 m (b + k) c) = false) (fun _ _ _ _ _ => ⟨⟨_, rfl⟩, fun k hk => absurd hk (Nat.not_lt_zero k)⟩) ?_ ?_
  · rintro i σ' G' H' hi eG gr ⟨⟨o, rfl⟩, hk⟩ N hN
    have hin : b + i < m.length := by omega
    have ht : EvT (tTest (tOp (rNeU C) (tProp C (spGet C sgn) [] E0 (tOp (rIxLT K) (tOp (rIxLT K) (tVar 0) (tVar 3)) (tVar 2))) (tC (.int 0)))) [some v, some (.int b), some (.int c), some (.int ((b + i : Nat) : Int))] G' (nz (at2 m (b + i) c)) :=
      EvT.is (et_test (ev_neU rfl (ev_prop (at_evW hin hw (ev_slot rfl (up_mat _ _ _ _ eG hv)) (ev_var rfl) (ev_var rfl))) ev_c)) (nz_sgn _)
    refine s_if gr ht (fun hz H2 g2 => ?_) (fun hz H2 g2 => ?_)
    · refine s_ret g2 (ev_var (v := .int ((b + i : Nat) : Int)) rfl) fun v' G3 H3 g3 ev => q v' G3 H3 g3 ?_
      show optOf isNat (pivotAt m b c) v' G3
      rw [show pivotAt m b c = some (b + i) from firstFrom_eq (by omega) hk hz]
      exact opt_nat ev
    · refine hN _ G' H2 Ex.rfl g2 ⟨⟨_, rfl⟩, fun k hk' => ?_⟩
      by_cases hki : k = i
      · subst hki; exact hz
      · exact hk k (by omega)
  · rintro σ' G' H' eG gr ⟨⟨o, rfl⟩, hk⟩
    refine s_ret gr ev_c fun v' G3 H3 g3 ev => q v' G3 H3 g3 ?_
    show optOf isNat (pivotAt m b c) v' G3
    rw [show pivotAt m b c = none from firstFrom_none hk]
    exact ev
theorem pivot_ev {σ : L2.St} {G : Hp} {ta tb tc : TE} {m : List (List Rat)} {b c : Nat} (h1 : Ev ta σ G (isMat C m)) (h2 : Ev tb σ G (isV (.int (b : Int)))) (h3 : Ev tc σ G (isV (.int (c : Int)))) (hb : b ≤ m.length) (hn : m.length ≤ 100000) (hw : Wide m c) :
    Ev (tCall (spPivot C) [] E0 (tCons ta (tCons tb (tCons tc tNil)))) σ G (optOf isNat (pivotAt m b c)) :=
  ev_call (ea_3 up_mat up_isV up_isV h1 h2 h3) fun vs G' e ⟨v, w, u, ev, hv, hw', hu⟩ => Pu.tr (g := (m, b, c)) ⟨v, w, u, ev, hv, hw', hu, hb, hn, hw⟩
def spFind {γ : Type} (C : Addr) (R : γ → V → Hp → Prop) (f : List (List Rat) → Option γ) : Sp := Pu (γ := List (List Rat)) (fun m vs H => ∃ v, vs = [v] ∧ (isMat C m v H ∧ Sq m.length m ∧ m.length ≤ 100000)) fun m H v G => optOf R (f m) v G
theorem find_ev {γ : Type} {R : γ → V → Hp → Prop} {f : List (List Rat) → Option γ} {σ : L2.St} {G : Hp} {ta : TE} {m : List (List Rat)} (h1 : Ev ta σ G (isMat C m)) (hs : Sq m.length m) (hn : m.length ≤ 100000) : Ev (tCall (spFind C R f) [] E0 (tCons ta tNil)) σ G (optOf R (f m)) :=
  ev_call (ea_1 h1) fun vs G' e ⟨v, ev, hv⟩ => Pu.tr (g := m) ⟨v, ev, hv, hs, hn⟩
theorem c_single_at (T : Txt P w K mg base C) : C8.Cal P w K mg base 41 "single_at" (spFind C isNat singleAt) [] := by
  refine cal_by T.d_single_at sc_single_at (fun _ _ _ _ _ _ us hl => match us, hl with | [_], _ => rfl) len_1 fun f cdv A outer s H vs Q E hr h => ?_
  obtain ⟨m, G, e, ⟨v, rfl, hv, hs, hn⟩, q⟩ := h
  refine ⟨_, (pss_cons (ps_for PassesOwn.never rfl (pi_enum (by rfl) T.n_enumerate (pa_cons (pv 0) pa_nil)) (pg_tup rfl (pgs_cons (pg_name (i := 1) sc_single_at.nd rfl (by first | exact Or.inl rfl | exact Or.inr rfl)) (pgs_cons (pg_name (i := 2) sc_single_at.nd rfl (by first | exact Or.inl rfl | exact Or.inr rfl)) pgs_nil))) (pss_one (ps_if (pt_cmpR (cmNe T hr (by decide)) (pe_pp (p_sign T) hr (by decide) (pe_ix (r := rIxLT K) ix_lt (pv 2) (pv 1) (fun _ _ => rfl)) rfl) pe_int (nomark _)) (pss_one (ps_ret (pv 1))) pss_nil))) (pss_one (ps_ret pe_non))), ?_⟩
  refine q_forE up_row (Grow.rfl e) (ea_1 (ev_slot rfl hv)) (fun i σ _ _ => (∃ o1 o2, σ = [some v, o1, o2]) ∧ ∀ k, k < i → nz (at2 m (0 + k) (0 + k)) = false) (fun _ _ _ _ _ => ⟨⟨_, _, rfl⟩, fun k hk => absurd hk (Nat.not_lt_zero k)⟩) ?_ ?_
  · rintro i r x σ' G' H' H'' hr' hx eG gr ⟨⟨o1, o2, rfl⟩, hk⟩ e2 gr2 N hN
    have hi := hs.lt hr'
    have ht : EvT (tTest (tOp (rNeU C) (tProp C (spGet C sgn) [] E0 (tOp (rIxLT K) (tVar 2) (tVar 1))) (tC (.int 0)))) [some v, some (.int (i : Int)), some x] G' (nz (at2 m (0 + i) (0 + i))) :=
      EvT.is (et_test (ev_neU rfl (ev_prop (at_row hs hr' hi (ev_slot rfl hx) (ev_var rfl))) ev_c)) (by rw [Nat.zero_add]; exact nz_sgn _)
    refine s_if gr2 ht (fun hz H2 g2 => ?_) (fun hz H2 g2 => ?_)
    · refine s_ret g2 (ev_var (v := .int (i : Int)) rfl) fun v' G3 H3 g3 ev => q v' G3 H3 g3 ?_
      show optOf isNat (singleAt m) v' G3
      rw [show singleAt m = some (0 + i) from firstFrom_eq hi hk hz, Nat.zero_add]
      exact opt_nat ev
    · refine hN _ G' H2 Ex.rfl g2 ⟨⟨_, _, rfl⟩, fun k hk' => ?_⟩
      by_cases hki : k = i
      · subst hki; exact hz
      · exact hk k (by omega)
  · rintro σ' G' H' eG gr ⟨⟨o1, o2, rfl⟩, hk⟩
    refine s_ret gr ev_c fun v' G3 H3 g3 ev => q v' G3 H3 g3 ?_
    show optOf isNat (singleAt m) v' G3
    rw [show singleAt m = none from firstFrom_none hk]
    exact ev
abbrev isPlaces : Nat × Nat → V → Hp → Prop := pairOf isNat isNat
theorem up_places : Up isPlaces := up_pair up_nat up_nat
theorem c_pair_at (T : Txt P w K mg base C) : C8.Cal P w K mg base 41 "pair_at" (spFind C isPlaces pairAt) [] := by
  refine cal_by T.d_pair_at sc_pair_at (fun _ _ _ _ _ _ us hl => match us, hl with | [_], _ => rfl) len_1 fun f cdv A outer s H vs Q E hr h => ?_
  obtain ⟨m, G, e, ⟨v, rfl, hv, hs, hn⟩, q⟩ := h
  refine ⟨_, (pss_cons (ps_for PassesOwn.never rfl (pi_enum (by rfl) T.n_enumerate (pa_cons (pv 0) pa_nil)) (pg_tup rfl (pgs_cons (pg_name (i := 1) sc_pair_at.nd rfl (by first | exact Or.inl rfl | exact Or.inr rfl)) (pgs_cons (pg_name (i := 2) sc_pair_at.nd rfl (by first | exact Or.inl rfl | exact Or.inr rfl)) pgs_nil))) (pss_one (ps_for PassesOwn.never rfl (pi_range2 rfl T.n_range (pa_cons (pe_op (opAdd T hr (by decide)) (pv 1) pe_int) (pa_cons (pe_callB (r := rLen K) call_len_lt (by rfl) T.n_len bo_len (pa_cons (pv 0) pa_nil)) pa_nil))) (pg_name (i := 3) sc_pair_at.nd rfl (by first | exact Or.inl rfl | exact Or.inr rfl)) (pss_one (ps_if (pt_cmpR (cmNe T hr (by decide)) (pe_pp (p_sign T) hr (by decide) (pe_ix (r := rIxLT K) ix_lt (pv 2) (pv 3) (fun _ _ => rfl)) rfl) pe_int (nomark _)) (pss_one (ps_ret (pe_tup (pa_cons (pv 1) (pa_cons (pv 3) pa_nil))))) pss_nil))))) (pss_one (ps_ret pe_non))), ?_⟩
  refine q_forE up_row (Grow.rfl e) (ea_1 (ev_slot rfl hv)) (fun i σ _ _ => (∃ o1 o2 o3, σ = [some v, o1, o2, o3]) ∧ ∀ k, k < i → pairRow m (0 + k) = none) (fun _ _ _ _ _ => ⟨⟨_, _, _, rfl⟩, fun k hk => absurd hk (Nat.not_lt_zero k)⟩) ?_ ?_
  · rintro i r x σ' G' H' H'' hr' hx eG gr ⟨⟨o1, o2, o3, rfl⟩, hk⟩ e2 gr2 N hN
    have hi := hs.lt hr'
    refine s_for (q_forR2 (a := i + 1) (n := m.length - (i + 1)) (b := (m.length : Int)) gr2 (fun H1 e1 Q1 q1 => ea_2 up_isV up_isV (ev_addI (ev_var (v := .int (i : Int)) rfl) ev_c) (ev_lenL (ev_slot rfl (up_mat _ _ _ _ eG hv))) H1 e1 Q1 fun vs G2 H2 g2 ⟨v1, v2, ev, h1, h2⟩ => q1 vs G2 H2 g2 (by rw [ev, h1, h2] <;> rfl)) (by omega) (by omega)
      (fun j σ _ _ => (∃ o, σ = [some v, some (.int i), some x, o]) ∧ ∀ k, k < j → nz (at2 m i (i + 1 + k)) = false) (fun _ _ _ _ _ => ⟨⟨_, rfl⟩, fun k hk => absurd hk (Nat.not_lt_zero k)⟩) ?_ ?_)
    · rintro j σ3 G3 H3 hj eG3 gr3 ⟨⟨o, rfl⟩, hk3⟩ N3 hN3
      have ht : EvT (tTest (tOp (rNeU C) (tProp C (spGet C sgn) [] E0 (tOp (rIxLT K) (tVar 2) (tVar 3))) (tC (.int 0)))) [some v, some (.int (i : Int)), some x, some (.int ((i + 1 + j : Nat) : Int))] G3 (nz (at2 m i (i + 1 + j))) :=
        EvT.is (et_test (ev_neU rfl (ev_prop (at_row hs hr' (by omega) (ev_slot rfl (up_row _ _ _ _ eG3 hx)) (ev_var rfl))) ev_c)) (nz_sgn _)
      refine s_if gr3 ht (fun hz H2 g2 => ?_) (fun hz H2 g2 => ?_)
      · refine s_ret g2 (ev_pair up_nat up_nat (ev_var (v := .int (i : Int)) rfl) (ev_var (v := .int ((i + 1 + j : Nat) : Int)) rfl)) fun v' G4 H4 g4 ev => q v' G4 H4 g4 ?_
        show optOf isPlaces (pairAt m) v' G4
        rw [show pairAt m = some (0 + i, i + 1 + j) from pairFrom_eq hi hk (by rw [Nat.zero_add]; exact firstFrom_eq (by omega) hk3 hz), Nat.zero_add]
        refine ⟨?_, ev⟩
        obtain ⟨t, a, b, e1, _⟩ := ev
        rw [e1]
        exact fun z => nomatch z
      · refine hN3 _ G3 H2 Ex.rfl g2 ⟨⟨_, rfl⟩, fun k hk' => ?_⟩
        by_cases hki : k = j
        · subst hki; exact hz
        · exact hk3 k (by omega)
    · rintro σ3 G3 H3 eG3 gr3 ⟨⟨o, rfl⟩, hk3⟩
      refine hN _ G3 H3 eG3 gr3 ⟨⟨_, _, _, rfl⟩, fun k hk' => ?_⟩
      by_cases hki : k = i
      · subst hki
        rw [Nat.zero_add]
        exact firstFrom_none hk3
      · exact hk k (by omega)
  · rintro σ' G' H' eG gr ⟨⟨o1, o2, o3, rfl⟩, hk⟩
    refine s_ret gr ev_c fun v' G3 H3 g3 ev => q v' G3 H3 g3 ?_
    show optOf isPlaces (pairAt m) v' G3
    rw [show pairAt m = none from pairFrom_none hk]
    exact ev
end
end On
set_option Elab.async false
set_option linter.all false
set_option maxRecDepth 100000
set_option maxHeartbeats 4000000
/-! Lists that change: for the while of an expression they are known as they stand. -/
namespace On
open PySem PySem.Spec PyProof.Rows L2
/-- what is known, less what stands in M -/
def sub (G M : Hp) : Hp := fun x => match M x with
  | none => G x
  | some _ => none
theorem sub_ex {G M : Hp} : Ex (sub G M) G := fun a o h => by
  unfold sub at h
  cases q : M a with
  | none => rw [q] at h; exact h
  | some u => rw [q] at h; cases h
theorem sub_at {G M : Hp} {a : Addr} (h : M a = none) : sub G M a = G a := by unfold sub; rw [h]
theorem sub_no {G M : Hp} {a : Addr} (h : M a ≠ none) : sub G M a = none := by
  unfold sub
  cases q : M a with
  | none => exact absurd q h
  | some u => rfl
/-- M is apart from what is known -/
def Apart (G M : Hp) : Prop := ∀ x, M x ≠ none → G x = none
theorem Apart.no {G M : Hp} (d : Apart G M) {x : Addr} {o : HO} (h : G x = some o) : M x = none := by
  cases q : M x with
  | none => rfl
  | some u => rw [d x (by rw [q]; exact Option.some_ne_none _)] at h; cases h
theorem Apart.sub {G M : Hp} : Apart (sub G M) M := fun x h => sub_no h
/-- M holds lists alone -/
def Lists (M : Hp) : Prop := ∀ x o, M x = some o → ∃ ys, o = .lst ys
section
variable {K : PySem.W.Frag} {σ : L2.St} {G0 H1 G H H' M : Hp} {ta tb tc te : TE} {tt : TT} {P P' : V → Hp → Prop} {v w : V} {γ δ ε : Type} {R : γ → V → Hp → Prop} {S : δ → V → Hp → Prop} {x : γ} {y : δ} {D : Ends} {tu tw tz : TS} {Q : VK}
theorem sub_grow (g : Grow G0 H1 G H) (hM : Ex M H) (d : Apart G M) {G' H' : Hp} (g' : Grow (join G M) H G' H') : Grow G0 H1 (sub G' M) H' ∧ Ex G (sub G' M) ∧ Ex M H' ∧ Ex M G' := by
  have e1 : Ex G (sub G' M) := fun x o h => by
    rw [sub_at (d.no h)]
    exact g'.kn x o (join_l x o h)
  have e2 : Ex M G' := (join_r g.re hM).trans g'.kn
  refine ⟨⟨g.kn.trans e1, sub_ex.trans g'.re, g.ol.trans g'.ol, fun x h0 h1 => ?_⟩, e1, e2.trans g'.re, e2⟩
  by_cases hm : M x = none
  · rw [sub_at hm]
    exact g'.fr x (join_none (g.fr x h0 h1) hm) (g.ol.some h1)
  · exact sub_no hm
theorem fin_m (g : Grow G0 H1 G H) (hM : Ex M H) (d : Apart G M) (h : Ev te σ (join G M) P) (k : ∀ v G' H', Ex G (sub G' M) → Ex M G' → Ex (join G M) G' → Grow G0 H1 (sub G' M) H' → Ex H H' → P v G' → Q v H') : te σ H Q := h H (join_ex g.re hM) _ fun v G' H' g' p => by
  obtain ⟨a, b, c, e⟩ := sub_grow g hM d g'
  exact k v G' H' b e g'.kn a g'.ol p
/-- an assignment to any target -/
theorem m_asg {tg : TG} (g : Grow G0 H1 G H) (hM : Ex M H) (d : Apart G M) (h : Ev te σ (join G M) P) (k : ∀ v G' H', Ex G (sub G' M) → Ex M G' → Ex (join G M) G' → Ex G' H' → Grow G0 H1 (sub G' M) H' → Ex H H' → P v G' → tg v σ H' D.nx) : tAsg te tg D σ H := h H (join_ex g.re hM) _ fun v G' H' g' p => by
  obtain ⟨a, b, c, e⟩ := sub_grow g hM d g'
  exact k v G' H' b e g'.kn g'.re a g'.ol p
/-- an if without else that goes on: what holds behind it, either way -/
theorem m_ifj {b : Bool} (I : L2.St → Hp → Hp → Prop) (g : Grow G0 H1 G H) (hM : Ex M H) (h : EvT tt σ (join G M) b) (h1 : b = true → ∀ H', Grow G0 H1 G H' → Ex H H' → ∀ N : L2.St → Hp → Prop, (∀ σ' G' H'', Grow G0 H1 G' H'' → I σ' G' H'' → N σ' H'') → tu { D with nx := N } σ H')
    (h2 : b = false → ∀ H', Grow G0 H1 G H' → Ex H H' → I σ G H') (k : ∀ σ' G' H', Grow G0 H1 G' H' → I σ' G' H' → tz D σ' H') : tSeq (tIfS tt tu tNext) tz D σ H := h H (join_ex g.re hM) _ fun H2 e2 => by
  cases b with
  | true =>
    show tu { D with nx := tz D } σ H2
    exact h1 rfl H2 (g.more e2) e2 _ k
  | false =>
    show tz D σ H2
    exact k _ G H2 (g.more e2) (h2 rfl H2 (g.more e2) e2)
theorem m_set {i : Nat} (g : Grow G0 H1 G H) (hM : Ex M H) (d : Apart G M) (h : Ev te σ (join G M) P) (k : ∀ v G' H', Ex G (sub G' M) → Ex M G' → Ex (join G M) G' → Grow G0 H1 (sub G' M) H' → Ex H H' → P v G' → tz D (σ.set i (some v)) H') : tSeq (tAsg te (gName i)) tz D σ H := fin_m (Q := fun v H' => tz D (σ.set i (some v)) H') g hM d h k
theorem m_if {b : Bool} (g : Grow G0 H1 G H) (hM : Ex M H) (h : EvT tt σ (join G M) b) (h1 : b = true → ∀ H', Grow G0 H1 G H' → Ex H H' → tu D σ H') (h2 : b = false → ∀ H', Grow G0 H1 G H' → Ex H H' → tw D σ H') : tIfS tt tu tw D σ H := h H (join_ex g.re hM) _ fun H2 e2 => by
  cases b with
  | true =>
    show tu D σ H2
    exact h1 rfl H2 (g.more e2) e2
  | false =>
    show tw D σ H2
    exact h2 rfl H2 (g.more e2) e2
theorem m_ifq {b : Bool} (g : Grow G0 H1 G H) (hM : Ex M H) (h : EvT tt σ (join G M) b) (h1 : b = true → ∀ H', Grow G0 H1 G H' → Ex H H' → tu { D with nx := tz D } σ H') (h2 : b = false → ∀ H', Grow G0 H1 G H' → Ex H H' → tw { D with nx := tz D } σ H') : tSeq (tIfS tt tu tw) tz D σ H := m_if (D := { D with nx := tz D }) g hM h h1 h2
/-- a new object that is told apart from what is known -/
theorem unk {a : Addr} {o : HO} (g : Grow G0 H1 G H) (h0 : G0 a = none) (ha : G a = some o) : H1 a = none ∧ Grow G0 H1 (sub G (upd (fun _ => none) a o)) H := by
  have e1 : Ex G0 (sub G (upd (fun _ => none) a o)) := fun x u h => by
    have hx : x ≠ a := fun z => by rw [z, h0] at h; cases h
    rw [sub_at (by rw [upd_ne hx])]
    exact g.kn x u h
  have h1 : H1 a = none := by
    cases q : H1 a with
    | none => rfl
    | some u =>
      have := g.fr a h0 (by rw [q]; exact Option.some_ne_none _)
      rw [ha] at this
      cases this
  refine ⟨h1, ⟨e1, sub_ex.trans g.re, g.ol, fun x hx hx1 => ?_⟩⟩
  by_cases hxa : x = a
  · subst hxa
    exact sub_no (by rw [upd_same]; exact Option.some_ne_none _)
  · rw [sub_at (by rw [upd_ne hxa])]
    exact g.fr x hx hx1
/-- facts that stay when lists are told apart -/
theorem isR.off {C : Addr} {q : Rat} {v : V} (hl : Lists M) (e : Ex M G) (h : isR C q v G) : isR C q v (sub G M) := by
  obtain ⟨a, dx, ev, ha⟩ := h
  refine ⟨a, dx, ev, ?_⟩
  rw [sub_at]
  · exact ha
  · cases q : M a with
    | none => rfl
    | some o =>
      obtain ⟨ys, rfl⟩ := hl a o q
      rw [e a _ q] at ha
      cases ha
theorem row_off {C : Addr} {r : List Rat} {a : Addr} {xs : List V} (hl : Lists M) (e : Ex M G) (hm : M a = none) (ha : G a = some (.lst xs)) (all : All2 (fun x z => isR C z x G) xs r) : isRow C r (.ref a) (sub G M) :=
  ⟨a, xs, rfl, by rw [sub_at hm]; exact ha, all.mono fun _ _ h => isR.off hl e h⟩
theorem newL_base {γ : Type} {R : γ → V → Hp → Prop} {zs : List γ} {G G1 G2 : Hp} {v : V} (e : Ex G G1) (h : newL R zs G1 v G2) : newL R zs G v G2 := by
  obtain ⟨a, xs, e1, e2, e3, e4⟩ := h
  exact ⟨a, xs, e1, e.back e2, e3, e4⟩
theorem newL_off {C : Addr} {r : List Rat} {v : V} (hl : Lists M) (e : Ex M G') (hM : Ex M H) (g : Ex G H) (h : newL (isR C) r (join G M) v G') : isRow C r v (sub G' M) := by
  obtain ⟨a, xs, rfl, h1, h2, h3⟩ := h
  refine row_off hl e ?_ h2 h3
  cases q : M a with
  | none => rfl
  | some o =>
    rw [join_r g hM a o q] at h1
    cases h1
theorem ixN_n {n j : Nat} (hj : j < n) : ixN n (j : Int) = some j := by
  unfold ixN
  rw [if_pos (by omega), if_pos (by omega)]
  simp
/-- any int -/
def anyInt : Unit → V → Hp → Prop := fun _ v _ => ∃ i, v = .int i
theorem up_any : Up anyInt := fun _ _ _ _ _ h => h
/-- one list, two lists -/
def one (a : Addr) (o : HO) : Hp := upd (fun _ => none) a o
def two (a : Addr) (o : HO) (b : Addr) (u : HO) : Hp := upd (one a o) b u
theorem one_ex {a : Addr} {o : HO} (h : H a = some o) : Ex (one a o) H := fun x u hx => by
  unfold one at hx
  by_cases q : x = a
  · subst q
    rw [upd_same] at hx
    rw [h]
    exact hx
  · rw [upd_ne q] at hx
    cases hx
theorem two_ex {a b : Addr} {o u : HO} (h : H a = some o) (h2 : H b = some u) : Ex (two a o b u) H := fun x w hx => by
  unfold two at hx
  by_cases q : x = b
  · subst q
    rw [upd_same] at hx
    rw [h2]
    exact hx
  · rw [upd_ne q] at hx
    exact one_ex h x w hx
theorem one_apart {a : Addr} {o : HO} (h : G a = none) : Apart G (one a o) := fun x hx => by
  by_cases q : x = a
  · subst q; exact h
  · unfold one at hx
    rw [upd_ne q] at hx
    exact absurd rfl hx
theorem two_apart {a b : Addr} {o u : HO} (h : G a = none) (h2 : G b = none) : Apart G (two a o b u) := fun x hx => by
  by_cases q : x = b
  · subst q; exact h2
  · unfold two at hx
    rw [upd_ne q] at hx
    exact one_apart h x hx
theorem one_lists {a : Addr} {xs : List V} : Lists (one a (.lst xs)) := fun x o hx => by
  by_cases q : x = a
  · subst q
    unfold one at hx
    rw [upd_same] at hx
    cases hx
    exact ⟨_, rfl⟩
  · unfold one at hx
    rw [upd_ne q] at hx
    cases hx
theorem two_lists {a b : Addr} {xs ys : List V} : Lists (two a (.lst xs) b (.lst ys)) := fun x o hx => by
  by_cases q : x = b
  · subst q
    unfold two at hx
    rw [upd_same] at hx
    cases hx
    exact ⟨_, rfl⟩
  · unfold two at hx
    rw [upd_ne q] at hx
    exact one_lists x o hx
theorem one_at {a : Addr} {o : HO} : one a o a = some o := upd_same
theorem two_l {a b : Addr} {o u : HO} (h : a ≠ b) : two a o b u a = some o := by
  unfold two
  rw [upd_ne h]
  exact one_at
theorem two_r {a b : Addr} {o u : HO} : two a o b u b = some u := upd_same
/-- what stands in a join -/
theorem join_at {a : Addr} {o : HO} (e : Ex G H) (hM : Ex M H) (h : M a = some o) : join G M a = some o := join_r e hM a o h
/-- o[i] = v, o a list that changes -/
theorem set_m {a : Addr} {xs : List V} {j : Int} {n : Nat} {to ti : TE} {Q : L2.St → Hp → Prop} (ho : ∀ Q' : VK, Q' (.ref a) H → to σ H Q') (hi : ∀ Q' : VK, Q' (.int j) H → ti σ H Q') (ha : H a = some (.lst xs)) (hj : ixN xs.length j = some n) (q : Q σ (upd H a (.lst (xs.set n v)))) :
    gSub to ti rSetL v σ H Q := ho _ (hi _ ⟨a, xs, j, n, rfl, rfl, ha, hj, q⟩)
theorem var_m {i : Nat} (h : σ[i]? = some (some v)) : ∀ Q' : VK, Q' v H → tVar i σ H Q' := fun Q' q => ⟨v, h, q⟩
/-- o.append(e) at a list that changes -/
theorem app_m {a : Addr} {i : Nat} {xs : List V} (g : Grow G0 H1 G H) (hM : Ex M H) (d : Apart G M) (hs : σ[i]? = some (some (.ref a))) (ha : M a = some (.lst xs)) (hn : xs.length ≤ 100000) (h1 : H1 a = none) (h : Ev te σ (join G M) P)
    (k : ∀ v G' H', Ex G (sub G' M) → Ex M G' → Grow G0 H1 (sub G' M) (upd H' a (.lst (xs ++ [v]))) → Ex H H' → P v G' → D.nx σ (upd H' a (.lst (xs ++ [v])))) : tDrop (tBM K "list" rAppend (tVar i) (tCons te tNil)) D σ H := by
  refine ⟨.ref a, hs, .inl ⟨rfl, xs, SqL.of (hM _ _ ha)⟩, ?_⟩
  refine fin_m (Q := fun v H' => rAppend (.ref a) [v] H' fun _ H2 => D.nx σ H2) g hM d h fun v G' H' e1 e2 _ g' e3 p => ?_
  refine ⟨a, xs, v, rfl, rfl, e3 _ _ (hM _ _ ha), Nat.lt_of_le_of_lt hn (by show _ < 2 ^ 24; decide), k v G' H' e1 e2 (g'.mut h1 (sub_no (by rw [ha]; exact Option.some_ne_none _))) e3 p⟩
theorem Tr.upT {b : Bool} (e : Ex G H) (h : EvT tt σ G b) : EvT tt σ H b := fun H1 a Q q => h H1 (e.trans a) Q q
end
section
variable {K : PySem.W.Frag} {σ : L2.St} {G0 H1 G H M : Hp} {ta : TA} {tb tz : TS} {D : Ends}
/-- for i in range(n), n told by what changes -/
theorem m_forR {n : Nat} {j : Nat} (gr : Grow G0 H1 G H) (hM : Ex M H) (h : EvA ta σ (join G M) fun vs _ => vs = [.int (n : Int)]) (hn : n ≤ 100000) (I : Nat → L2.St → Hp → Hp → Prop) (i0 : ∀ H', Ex H H' → Grow G0 H1 G H' → I 0 σ G H')
    (hs : ∀ (i : Nat) σ' G' H', i < n → Ex G G' → Grow G0 H1 G' H' → I i σ' G' H' → ∀ N : L2.St → Hp → Prop, (∀ σ3 G3 H3, Ex G G3 → Grow G0 H1 G3 H3 → I (i + 1) σ3 G3 H3 → N σ3 H3) → tb { D with nx := N, ct := N, bk := tz D } (σ'.set j (some (.int (i : Int)))) H')
    (hd : ∀ σ' G' H', Ex G G' → Grow G0 H1 G' H' → I n σ' G' H' → tz D σ' H') : tSeq (tFor (iRng1 ta) (gName j) tb) tz D σ H :=
  h H (join_ex gr.re hM) _ fun ws Gs Hs g1 ew => by
    refine ⟨(n : Int), ew, by omega, by omega, ?_⟩
    have g2 := gr.more g1.ol
    refine for_it (D := { D with nx := tz D }) (walk_range (lo := 0) (n := n)) (fun i σ' H' => ∃ G', Ex G G' ∧ Grow G0 H1 G' H' ∧ I i σ' G' H') ⟨G, Ex.rfl, g2, i0 Hs g1.ol g2⟩ (fun _ _ _ _ _ => trivial) ?_ ?_
    · rintro i x σ' H' H'' hi ⟨G', e, g', iv⟩ hy
      obtain ⟨e2, hx⟩ := hy
      subst e2
      subst hx
      have e0 : (0 : Int) + (i : Int) = (i : Int) := Int.zero_add _
      show gName j (V.int (0 + (i : Int))) σ' _ _
      rw [e0]
      exact hs i σ' G' _ hi e g' iv _ fun σ3 G3 H3 e3 g3 i3 => ⟨G3, e3, g3, i3⟩
    · rintro σ' H' ⟨G', e, g', iv⟩
      exact hd σ' G' H' e g' iv
theorem m_forR2 {a n : Nat} {b : Int} {j : Nat} (gr : Grow G0 H1 G H) (hM : Ex M H) (h : EvA ta σ (join G M) fun vs _ => vs = [.int (a : Int), .int b]) (hb : b = (a : Int) + n) (hn : a + n ≤ 100000) (I : Nat → L2.St → Hp → Hp → Prop) (i0 : ∀ H', Ex H H' → Grow G0 H1 G H' → I 0 σ G H')
    (hs : ∀ (i : Nat) σ' G' H', i < n → Ex G G' → Grow G0 H1 G' H' → I i σ' G' H' → ∀ N : L2.St → Hp → Prop, (∀ σ3 G3 H3, Ex G G3 → Grow G0 H1 G3 H3 → I (i + 1) σ3 G3 H3 → N σ3 H3) → tb { D with nx := N, ct := N, bk := tz D } (σ'.set j (some (.int ((a + i : Nat) : Int)))) H')
    (hd : ∀ σ' G' H', Ex G G' → Grow G0 H1 G' H' → I n σ' G' H' → tz D σ' H') : tSeq (tFor (iRng2 ta) (gName j) tb) tz D σ H :=
  h H (join_ex gr.re hM) _ fun ws Gs Hs g1 ew => by
    subst hb
    refine ⟨(a : Int), (a : Int) + n, ew, ⟨by omega, by omega, by omega, by omega⟩, ?_⟩
    have en : ((a : Int) + n - a).toNat = n := by omega
    rw [en]
    have g2 := gr.more g1.ol
    refine for_it (D := { D with nx := tz D }) (walk_range (lo := (a : Int)) (n := n)) (fun i σ' H' => ∃ G', Ex G G' ∧ Grow G0 H1 G' H' ∧ I i σ' G' H') ⟨G, Ex.rfl, g2, i0 Hs g1.ol g2⟩ (fun _ _ _ _ _ => trivial) ?_ ?_
    · rintro i x σ' H' H'' hi ⟨G', e, g', iv⟩ hy
      obtain ⟨e2, hx⟩ := hy
      subst e2
      subst hx
      have e0 : (a : Int) + (i : Int) = ((a + i : Nat) : Int) := by omega
      show gName j (V.int ((a : Int) + (i : Int))) σ' _ _
      rw [e0]
      exact hs i σ' G' _ hi e g' iv _ fun σ3 G3 H3 e3 g3 i3 => ⟨G3, e3, g3, i3⟩
    · rintro σ' H' ⟨G', e, g', iv⟩
      exact hd σ' G' H' e g' iv
end
end On
set_option linter.all false
/-! The elimination, as a reckoning. -/
namespace On
def swapAt (l : List (List Rat)) (i j : Nat) : List (List Rat) := (l.set i (l.getD j [])).set j (l.getD i [])
/-- a row less the top one, so that it has zero there -/
def elimRow (top : List Rat) (c : Nat) (r : List Rat) : List Rat := if nz (r.getD c 0) then lessRow r top (r.getD c 0 / top.getD c 0) else r
/-- rows lo .. hi - 1 -/
def elimTo (l : List (List Rat)) (top : List Rat) (c lo hi : Nat) : List (List Rat) := l.mapIdx fun j r => if lo ≤ j ∧ j < hi then elimRow top c r else r
def swapPivot (l : List (List Rat)) (b p : Nat) : List (List Rat) := if p = b then l else swapAt l b p
def stepCol (l : List (List Rat)) (cols : List Nat) (c : Nat) : List (List Rat) × List Nat := match pivotAt l cols.length c with
  | none => (l, cols)
  | some p => (elimTo (swapPivot l cols.length p) ((swapPivot l cols.length p).getD cols.length []) c (cols.length + 1) l.length, cols ++ [c])
def stepsTo (m : List (List Rat)) : Nat → List (List Rat) × List Nat
  | 0 => (m, [])
  | c + 1 => stepCol (stepsTo m c).1 (stepsTo m c).2 c
def stepsIn (m : List (List Rat)) : List (List Rat) × List Nat := stepsTo m (m.getD 0 []).length
theorem swapAt_len (l : List (List Rat)) (i j : Nat) : (swapAt l i j).length = l.length := by
  unfold swapAt
  rw [List.length_set, List.length_set]
theorem swapPivot_len (l : List (List Rat)) (i j : Nat) : (swapPivot l i j).length = l.length := by
  unfold swapPivot
  split
  · rfl
  · exact swapAt_len _ _ _
theorem elimTo_len (l : List (List Rat)) (top : List Rat) (c lo hi : Nat) : (elimTo l top c lo hi).length = l.length := by
  unfold elimTo
  rw [List.length_mapIdx]
theorem stepCol_len (l : List (List Rat)) (cols : List Nat) (c : Nat) : (stepCol l cols c).1.length = l.length := by
  unfold stepCol
  split
  · rfl
  · show (elimTo _ _ _ _ _).length = _
    rw [elimTo_len, swapPivot_len]
theorem stepsTo_len (m : List (List Rat)) (c : Nat) : (stepsTo m c).1.length = m.length := by
  induction c with
  | zero => rfl
  | succ c ih => exact (stepCol_len _ _ _).trans ih
theorem getD_at {α : Type} {l : List α} {i : Nat} {x d : α} (h : l[i]? = some x) : l.getD i d = x := by
  rw [List.getD_eq_getElem?_getD, h]
  rfl
theorem elimTo_get {l : List (List Rat)} {top : List Rat} {c lo hi j : Nat} {r : List Rat} (h : l[j]? = some r) : (elimTo l top c lo hi)[j]? = some (if lo ≤ j ∧ j < hi then elimRow top c r else r) := by
  unfold elimTo
  rw [List.getElem?_mapIdx, h]
  rfl
theorem elimTo_none {l : List (List Rat)} {top : List Rat} {c lo hi j : Nat} (h : l[j]? = none) : (elimTo l top c lo hi)[j]? = none := by
  unfold elimTo
  rw [List.getElem?_mapIdx, h]
  rfl
theorem elimTo_start (l : List (List Rat)) (top : List Rat) (c lo : Nat) : elimTo l top c lo lo = l := by
  refine List.ext_getElem? fun j => ?_
  cases h : l[j]? with
  | none => exact elimTo_none h
  | some r =>
    rw [elimTo_get h, if_neg (by omega)]
theorem elimTo_next {l : List (List Rat)} {top : List Rat} {c lo hi : Nat} {r : List Rat} (h : l[hi]? = some r) (hl : lo ≤ hi) : (elimTo l top c lo hi).set hi (elimRow top c r) = elimTo l top c lo (hi + 1) := by
  refine List.ext_getElem? fun j => ?_
  rw [List.getElem?_set]
  by_cases hj : hi = j
  · subst hj
    have hlt : hi < (elimTo l top c lo hi).length := by
      rw [elimTo_len]
      exact (List.getElem?_eq_some_iff.mp h).1
    rw [if_pos rfl, if_pos hlt, elimTo_get h, if_pos (by omega)]
  · rw [if_neg hj]
    cases hq : l[j]? with
    | none => rw [elimTo_none hq, elimTo_none hq]
    | some u =>
      rw [elimTo_get hq, elimTo_get hq]
      congr 1
      by_cases h1 : lo ≤ j ∧ j < hi
      · rw [if_pos h1, if_pos (by omega)]
      · rw [if_neg h1, if_neg (by omega)]
theorem elimTo_skip {l : List (List Rat)} {top : List Rat} {c lo hi : Nat} {r : List Rat} (h : l[hi]? = some r) (hz : nz (r.getD c 0) = false) : elimTo l top c lo hi = elimTo l top c lo (hi + 1) := by
  refine List.ext_getElem? fun j => ?_
  cases hq : l[j]? with
  | none => rw [elimTo_none hq, elimTo_none hq]
  | some u =>
    rw [elimTo_get hq, elimTo_get hq]
    congr 1
    by_cases hj : j = hi
    · subst hj
      rw [h] at hq
      cases hq
      rw [if_neg (by omega)]
      split
      · unfold elimRow
        rw [if_neg (by rw [hz]; decide)]
      · rfl
    · by_cases h1 : lo ≤ j ∧ j < hi
      · rw [if_pos h1, if_pos (by omega)]
      · rw [if_neg h1, if_neg (by omega)]
/-- entries below 2 ^ e, rows of one length -/
structure Ents (w e : Nat) (l : List (List Rat)) : Prop where
  len : ∀ r ∈ l, r.length = w
  le : ∀ r ∈ l, ∀ q ∈ r, sz q ≤ 2 ^ e
theorem Ents.mono {w e e' : Nat} {l : List (List Rat)} (h : Ents w e l) (he : e ≤ e') : Ents w e' l := ⟨h.len, fun r hr q hq => Nat.le_trans (h.le r hr q hq) (Nat.pow_le_pow_right (by decide) he)⟩
theorem Ents.szL {w e : Nat} {l : List (List Rat)} (h : Ents w e l) {r : List Rat} (hr : r ∈ l) : szL r ≤ 2 ^ (w * e) := by
  rw [← h.len r hr]
  exact szL_le (h.le r hr)
theorem Ents.at {w e : Nat} {l : List (List Rat)} (h : Ents w e l) {r : List Rat} (hr : r ∈ l) (c : Nat) : sz (r.getD c 0) ≤ 2 ^ e := by
  by_cases hc : c < r.length
  · rw [getD_at (List.getElem?_eq_getElem hc)]
    exact h.le r hr _ (List.getElem_mem hc)
  · rw [List.getD_eq_getElem?_getD, List.getElem?_eq_none (by omega)]
    exact Nat.le_trans (Nat.le_of_eq sz_zero) Nat.one_le_two_pow
theorem swapAt_mem {l : List (List Rat)} {i j : Nat} (hi : i < l.length) (hj : j < l.length) {r : List Rat} (h : r ∈ swapAt l i j) : r ∈ l := by
  unfold swapAt at h
  rcases List.mem_or_eq_of_mem_set h with h | h
  · rcases List.mem_or_eq_of_mem_set h with h | h
    · exact h
    · rw [h, getD_at (List.getElem?_eq_getElem hj)]
      exact List.getElem_mem hj
  · rw [h, getD_at (List.getElem?_eq_getElem hi)]
    exact List.getElem_mem hi
theorem swapPivot_mem {l : List (List Rat)} {i j : Nat} (hi : i < l.length) (hj : j < l.length) {r : List Rat} (h : r ∈ swapPivot l i j) : r ∈ l := by
  unfold swapPivot at h
  split at h
  · exact h
  · exact swapAt_mem hi hj h
theorem elim_sz {w e : Nat} {l : List (List Rat)} (h : Ents w e l) {r top : List Rat} {c : Nat} (hr : r ∈ l) (ht : top ∈ l) (hc : nz (top.getD c 0) = true) : sz (r.getD c 0 / top.getD c 0) ≤ 2 ^ (2 * e) := by
  have hne : top.getD c 0 ≠ 0 := by
    intro z
    rw [z] at hc
    exact absurd hc (by decide)
  refine Nat.le_trans (sz_div _ _ hne) ?_
  rw [Nat.two_mul, Nat.pow_add]
  exact Nat.mul_le_mul (h.at hr c) (h.at ht c)
theorem lessRow_len {r top : List Rat} {q : Rat} : (lessRow r top q).length = min r.length top.length := by
  unfold lessRow
  rw [List.length_map, List.length_zip]
theorem lessRow_sz {r top : List Rat} {q x : Rat} {a b d : Nat} (h1 : ∀ z ∈ r, sz z ≤ 2 ^ a) (h2 : ∀ z ∈ top, sz z ≤ 2 ^ b) (h3 : sz q ≤ 2 ^ d) (hx : x ∈ lessRow r top q) : sz x ≤ 2 ^ (a + (b + d)) := by
  unfold lessRow at hx
  obtain ⟨⟨u, v⟩, hz, rfl⟩ := List.mem_map.mp hx
  have m1 := List.of_mem_zip hz
  refine Nat.le_trans (sz_sub _ _) ?_
  rw [Nat.pow_add, Nat.pow_add]
  exact Nat.mul_le_mul (h1 _ m1.1) (Nat.le_trans (sz_mul _ _) (Nat.mul_le_mul (h2 _ m1.2) h3))
theorem elimRow_ents {w e : Nat} {l : List (List Rat)} (h : Ents w e l) {r top : List Rat} {c : Nat} (hr : r ∈ l) (ht : top ∈ l) (hc : nz (top.getD c 0) = true) : (elimRow top c r).length = w ∧ ∀ x ∈ elimRow top c r, sz x ≤ 2 ^ (4 * e) := by
  unfold elimRow
  split
  · refine ⟨by rw [lessRow_len, h.len r hr, h.len top ht, Nat.min_self], fun x hx => ?_⟩
    have := lessRow_sz (h.le r hr) (h.le top ht) (elim_sz h hr ht hc) hx
    rw [show 4 * e = e + (e + 2 * e) from by omega]
    exact this
  · exact ⟨h.len r hr, fun x hx => Nat.le_trans (h.le r hr x hx) (Nat.pow_le_pow_right (by decide) (by omega))⟩
theorem elimTo_ents {w e : Nat} {l : List (List Rat)} (h : Ents w e l) {top : List Rat} {c lo hi : Nat} (ht : top ∈ l) (hc : nz (top.getD c 0) = true) : Ents w (4 * e) (elimTo l top c lo hi) := by
  have key : ∀ r ∈ elimTo l top c lo hi, r.length = w ∧ ∀ x ∈ r, sz x ≤ 2 ^ (4 * e) := fun r hr => by
    obtain ⟨j, hj⟩ := List.getElem?_of_mem hr
    cases hq : l[j]? with
    | none => rw [elimTo_none hq] at hj; cases hj
    | some u =>
      rw [elimTo_get hq] at hj
      have hu := List.mem_of_getElem? hq
      have hj := (Option.some.inj hj).symm
      subst hj
      split
      · exact elimRow_ents h hu ht hc
      · exact ⟨h.len u hu, fun x hx => Nat.le_trans (h.le u hu x hx) (Nat.pow_le_pow_right (by decide) (by omega))⟩
  exact ⟨fun r hr => (key r hr).1, fun r hr => (key r hr).2⟩
theorem elimTo_end (l : List (List Rat)) (top : List Rat) (c lo hi : Nat) (h : l.length ≤ lo) : elimTo l top c lo hi = l := by
  refine List.ext_getElem? fun j => ?_
  cases hq : l[j]? with
  | none => exact elimTo_none hq
  | some r =>
    have := (List.getElem?_eq_some_iff.mp hq).1
    rw [elimTo_get hq, if_neg (by omega)]
/-- the exponents of the entries after b pivots in k rows -/
def grow4 (k b e : Nat) : Nat := 4 ^ min b (k - 1) * e
theorem grow4_le (k b e : Nat) : e ≤ grow4 k b e := Nat.le_mul_of_pos_left _ (Nat.pow_pos (by decide))
theorem grow4_step {k b e : Nat} (h : b + 1 < k) : grow4 k (b + 1) e = 4 * grow4 k b e := by
  unfold grow4
  rw [Nat.min_eq_left (by omega), Nat.min_eq_left (by omega), Nat.pow_succ, Nat.mul_comm (4 ^ b) 4, Nat.mul_assoc]
theorem grow4_last {k b e : Nat} (h : k ≤ b + 1) : grow4 k (b + 1) e = grow4 k b e := by
  unfold grow4
  rw [Nat.min_eq_right (by omega), Nat.min_eq_right (by omega)]
theorem grow4_max {k b e : Nat} (h : k ≤ 4) : grow4 k b e ≤ 64 * e := by
  unfold grow4
  refine Nat.mul_le_mul_right _ ?_
  calc 4 ^ min b (k - 1) ≤ 4 ^ 3 := Nat.pow_le_pow_right (by decide) (by omega)
    _ = 64 := rfl
theorem grow4_mono {k b b' e : Nat} (h : b ≤ b') : grow4 k b e ≤ grow4 k b' e := by
  unfold grow4
  exact Nat.mul_le_mul_right _ (Nat.pow_le_pow_right (by decide) (by omega))
/-- what a pivot says -/
theorem pivot_nz {l : List (List Rat)} {b c p : Nat} (h : pivotAt l b c = some p) : b ≤ p ∧ p < l.length ∧ nz (at2 l p c) = true := by
  obtain ⟨h1, h2, h3, _⟩ := firstFrom_some h
  exact ⟨h1, by omega, h3⟩
theorem swapPivot_top {l : List (List Rat)} {b p : Nat} (hb : b < l.length) (hp : p < l.length) : (swapPivot l b p)[b]? = some (l.getD p []) := by
  unfold swapPivot
  split
  · next h => subst h; rw [getD_at (List.getElem?_eq_getElem hp)]; exact List.getElem?_eq_getElem hp
  · next h =>
    unfold swapAt
    rw [List.getElem?_set, if_neg h, List.getElem?_set, if_pos rfl, if_pos hb]
theorem stepCol_ents {w e : Nat} {l : List (List Rat)} {cols : List Nat} {c : Nat} (h : Ents w (grow4 l.length cols.length e) l) : Ents w (grow4 l.length (stepCol l cols c).2.length e) (stepCol l cols c).1 := by
  unfold stepCol
  cases hp : pivotAt l cols.length c with
  | none => exact h
  | some p =>
    obtain ⟨h1, h2, h3⟩ := pivot_nz hp
    have hs : Ents w (grow4 l.length cols.length e) (swapPivot l cols.length p) := ⟨fun r hr => h.len r (swapPivot_mem (by omega) h2 hr), fun r hr => h.le r (swapPivot_mem (by omega) h2 hr)⟩
    have htop := swapPivot_top (l := l) (b := cols.length) (p := p) (by omega) h2
    show Ents w (grow4 l.length (cols ++ [c]).length e) (elimTo (swapPivot l cols.length p) ((swapPivot l cols.length p).getD cols.length []) c (cols.length + 1) l.length)
    rw [getD_at htop, List.length_append, List.length_singleton]
    by_cases hk : cols.length + 1 < l.length
    · rw [grow4_step hk]
      exact elimTo_ents hs (List.mem_of_getElem? htop) h3
    · rw [grow4_last (by omega), elimTo_end _ _ _ _ _ (by rw [swapPivot_len]; omega)]
      exact hs
theorem stepCol_cols {l : List (List Rat)} {cols : List Nat} {c : Nat} (h : cols.length ≤ l.length) : (stepCol l cols c).2.length ≤ l.length := by
  unfold stepCol
  cases hp : pivotAt l cols.length c with
  | none => exact h
  | some p =>
    obtain ⟨h1, h2, h3⟩ := pivot_nz hp
    show (cols ++ [c]).length ≤ _
    rw [List.length_append, List.length_singleton]
    omega
theorem stepsTo_cols (m : List (List Rat)) (c : Nat) : (stepsTo m c).2.length ≤ m.length := by
  induction c with
  | zero => exact Nat.zero_le _
  | succ c ih =>
    rw [← stepsTo_len m c] at ih ⊢
    exact stepCol_cols ih
theorem stepsTo_ents {w e : Nat} {m : List (List Rat)} (h : Ents w e m) (c : Nat) : Ents w (grow4 m.length (stepsTo m c).2.length e) (stepsTo m c).1 := by
  induction c with
  | zero => exact h.mono (grow4_le _ _ _)
  | succ c ih =>
    have := stepCol_ents (c := c) (l := (stepsTo m c).1) (cols := (stepsTo m c).2) (e := e) (w := w) (by rw [stepsTo_len]; exact ih)
    rw [stepsTo_len] at this
    exact this
end On
set_option Elab.async false
set_option linter.all false
set_option maxRecDepth 100000
set_option maxHeartbeats 4000000
/-! steps_in. -/
namespace On
open PySem PySem.Spec PyProof.Rows L2
/-- a new list of old items -/
def newS {γ : Type} (R : γ → V → Hp → Prop) (zs : List γ) (H : Hp) : V → Hp → Prop := fun v G => ∃ a xs, v = .ref a ∧ H a = none ∧ G a = some (.lst xs) ∧ All2 (fun x z => R z x H) xs zs
/-- a row that was known in G -/
abbrev rowIn (C : Addr) (G : Hp) : List Rat → V → Hp → Prop := fun z v _ => isRow C z v G
theorem up_rowIn {C : Addr} {G : Hp} : Up (rowIn C G) := fun _ _ _ _ _ h => h
section
variable {K : PySem.W.Frag} {σ : L2.St} {G0 H1 G H M : Hp} {ta tb tc te : TE} {P : V → Hp → Prop} {P2 : V → Hp → V → Hp → Prop} {γ : Type} {R : γ → V → Hp → Prop} {zs : List γ} {D : Ends} {tz : TS} {C : Addr}
theorem ev_listS (h : ∃ a xs, (∀ (H' : Hp) (Q : VK), Q (.ref a) H' → te σ H' Q) ∧ G a = some (.lst xs) ∧ All2 (fun x z => R z x G) xs zs) : Ev (tCB (rListOf K) (tCons te tNil)) σ G (newS R zs G) := fun H1 e Q q => by
  obtain ⟨a, xs, ht, ha, all⟩ := h
  refine ht H1 _ ⟨a, xs, rfl, .inl (SqL.of (e _ _ ha)), fun p hp => ?_⟩
  exact q _ _ _ (Grow.new e hp) ⟨p, xs, rfl, e.back hp, upd_same, all⟩
theorem t_par3c {i j l : Nat} {c : V} (g : Grow G0 H1 G H) (ha : Ev ta σ G P) (hb : ∀ v G', Ex G G' → P v G' → Ev tb σ G' (P2 v G')) (k : ∀ v w G1 G' H', Ex G G1 → Ex G1 G' → Grow G0 H1 G' H' → P v G1 → P2 v G1 w G' → tz D (((σ.set i (some v)).set j (some w)).set l (some c)) H') :
    tSeq (tPar3 i j l (tCons ta (tCons tb (tCons (tC c) tNil)))) tz D σ H := ha H g.re _ fun v G1 H2 g1 p => hb v G1 g1.kn p H2 g1.re _ fun w G2 H3 g2 p2 => ⟨v, w, c, rfl, k v w G1 G2 H3 g1.kn g2.kn ((g.trans g1).trans g2) p p2⟩
theorem sub_keep {G' : Hp} (e : Ex G G') (d : Apart G M) : Ex G (sub G' M) := fun x o h => by
  rw [sub_at (d.no h)]
  exact e x o h
/-- a tuple of three -/
def tripOf {α β γ : Type} (A : α → V → Hp → Prop) (B : β → V → Hp → Prop) (R : γ → V → Hp → Prop) (a : α) (b : β) (c : γ) : V → Hp → Prop := fun v H => ∃ t x y z, v = .ref t ∧ H t = some (.tup [x, y, z]) ∧ A a x H ∧ B b y H ∧ R c z H
theorem ev_trip {α β : Type} {A : α → V → Hp → Prop} {B : β → V → Hp → Prop} {a : α} {b : β} {c : γ} (u1 : Up A) (u2 : Up B) (u3 : Up R) (h1 : Ev ta σ H (A a)) (h2 : Ev tb σ H (B b)) (h3 : Ev tc σ H (R c)) : Ev (tTup (tCons ta (tCons tb (tCons tc tNil)))) σ H (tripOf A B R a b c) := fun H1 e Q q =>
  ea_3 u1 u2 u3 h1 h2 h3 H1 e _ fun vs G H2 g ⟨v, w, u, ev, hv, hw, hu⟩ => by
    subst ev
    refine ⟨by show 3 ≤ sizeLine; decide, fun p hp => ?_⟩
    have g2 := g.trans (Grow.new (o := .tup [v, w, u]) g.re hp)
    have en : Ex G (upd G p (.tup [v, w, u])) := Ex.new (g.re.back hp)
    exact q _ _ _ g2 ⟨p, v, w, u, rfl, upd_same, u1 _ _ _ _ en hv, u2 _ _ _ _ en hw, u3 _ _ _ _ en hu⟩
/-- the two lists of steps_in as they stand -/
def StM (C a c : Addr) (l : List (List Rat)) (cols : List Nat) (G H : Hp) : Prop := ∃ xs, H a = some (.lst xs) ∧ H c = some (.lst (cols.map fun (n : Nat) => V.int (n : Int))) ∧ G a = none ∧ G c = none ∧ All2 (fun x z => isRow C z x G) xs l
theorem nats_all {G : Hp} : ∀ cols : List Nat, All2 (fun x z => isNat z x G) (cols.map fun (n : Nat) => V.int (n : Int)) cols
  | [] => .nil
  | _ :: r => .cons rfl (nats_all r)
theorem StM.more {a c : Addr} {l : List (List Rat)} {cols : List Nat} {G' H' : Hp} (h : StM C a c l cols G H) (e : Ex G G') (ga : G' a = none) (gc : G' c = none) (eH : Ex H H') : StM C a c l cols G' H' := by
  obtain ⟨xs, h1, h2, _, _, h5⟩ := h
  exact ⟨xs, eH _ _ h1, eH _ _ h2, ga, gc, h5.mono fun _ _ r => up_row _ _ _ _ e r⟩
theorem StM.use {a c : Addr} {l : List (List Rat)} {cols : List Nat} (h : StM C a c l cols G H) (e : Ex G H) (hac : a ≠ c) : ∃ M xs, Ex M H ∧ Apart G M ∧ M a ≠ none ∧ M c ≠ none ∧ Lists M ∧ isMat C l (.ref a) (join G M) ∧ lstOf (rowIn C G) l (.ref a) (join G M) ∧ lstOf isNat cols (.ref c) (join G M) ∧ M a = some (.lst xs) ∧ All2 (fun x z => isRow C z x G) xs l ∧ M c = some (.lst (cols.map fun (n : Nat) => V.int (n : Int))) := by
  obtain ⟨xs, h1, h2, h3, h4, h5⟩ := h
  have e1 := two_ex h1 h2
  have m1 : two a (.lst xs) c (.lst (cols.map fun (n : Nat) => V.int (n : Int))) a = some (.lst xs) := two_l hac
  have m2 : two a (.lst xs) c (.lst (cols.map fun (n : Nat) => V.int (n : Int))) c = some _ := two_r
  exact ⟨two a (.lst xs) c (.lst (cols.map fun (n : Nat) => V.int (n : Int))), xs, e1, two_apart h3 h4, (by rw [m1]; exact Option.some_ne_none _), (by rw [m2]; exact Option.some_ne_none _), two_lists,
    ⟨a, xs, rfl, join_at e e1 m1, h5.mono fun _ _ r => up_row _ _ _ _ join_l r⟩, ⟨a, xs, rfl, join_at e e1 m1, h5⟩, ⟨c, _, rfl, join_at e e1 m2, nats_all cols⟩, m1, h5, m2⟩
end
section
variable {P : Program} {w : World} {K : PySem.W.Frag} {mg : Str → Option Value} {base : Heap} {C : Addr}
def spSteps (C : Addr) : Sp := Pu (γ := List (List Rat) × Nat × Nat) (fun g vs H => ∃ v, vs = [v] ∧ (isMat C g.1 v H ∧ g.1 ≠ [] ∧ g.1.length ≤ 4 ∧ Ents g.2.1 g.2.2 g.1 ∧ g.2.1 ≤ 5 ∧ g.2.2 ≤ 160000)) fun g H v G => tripOf (isMat C) (lstOf isNat) anyInt (stepsIn g.1).1 (stepsIn g.1).2 () v G
theorem fitsE {n : Nat} (h : n + 2 ≤ LIM) {x : Nat} (hx : x ≤ 2 ^ n) : Fits x := ⟨n, hx, h⟩
set_option maxHeartbeats 8000000 in
theorem c_steps_in (T : Txt P w K mg base C) : C8.Cal P w K mg base 42 "steps_in" (spSteps C) [] := by
  refine cal_by T.d_steps_in sc_steps_in (fun _ _ _ _ _ _ us hl => match us, hl with | [_], _ => rfl) len_1 fun f cdv A outer s H vs Q E hr h => ?_
  obtain ⟨⟨m, wd, ee⟩, G, e, ⟨v, rfl, hv, hne, hk, hen, hw5, he⟩, q⟩ := h
  have hk : m.length ≤ 4 := hk
  have hw5 : wd ≤ 5 := hw5
  have he : ee ≤ 160000 := he
  have hen : Ents wd ee m := hen
  have hne : m ≠ [] := hne
  refine ⟨_, (pss_cons (ps_par3 (i := 1) (j := 2) (l := 3) rfl sc_steps_in.nd rfl rfl rfl (by decide) (by decide) (by decide) rfl rfl rfl (pa_cons (pe_callTy (r := rListOf K) call_list_of (by rfl) T.n_list bo_list (pa_cons (pv 0) pa_nil)) (pa_cons (pe_lst pa_nil) (pa_cons pe_int pa_nil))) (by rfl)) (pss_cons (ps_set (i := 4) sc_steps_in.nd rfl (by first | exact Or.inl rfl | exact Or.inr rfl) (pe_ifExp (pt_cmpR (cmNe T hr (by decide)) (pv 0) (pe_lst pa_nil) (nomark _)) (pe_callB (r := rLen K) call_len_lt (by rfl) T.n_len bo_len (pa_cons (pe_ix (r := rIxLT K) ix_lt (pv 0) pe_int (fun _ _ => rfl)) pa_nil)) pe_int)) (pss_cons (ps_for PassesOwn.never rfl (pi_range1 rfl T.n_range (pa_cons (pv 4) pa_nil)) (pg_name (i := 5) sc_steps_in.nd rfl (by first | exact Or.inl rfl | exact Or.inr rfl)) (pss_cons (ps_set (i := 6) sc_steps_in.nd rfl (by first | exact Or.inl rfl | exact Or.inr rfl) (pe_callB (r := rLen K) call_len_lt (by rfl) T.n_len bo_len (pa_cons (pv 2) pa_nil))) (pss_cons (ps_set (i := 7) sc_steps_in.nd rfl (by first | exact Or.inl rfl | exact Or.inr rfl) (C8.pe_c (c_pivot_at T) hr (by decide) rfl (pa_cons (pv 1) (pa_cons (pv 6) (pa_cons (pv 5) pa_nil))))) (pss_one (ps_if (pt_cmpR op_notN (pv 7) pe_non (nomark _)) (pss_cons (ps_if (pt_cmpR (cmNe T hr (by decide)) (pv 7) (pv 6) (nomark _)) (pss_one (ps_asg (pe_tup (pa_cons (pe_ix (r := rIxLT K) ix_lt (pv 1) (pv 7) (fun _ _ => rfl)) (pa_cons (pe_ix (r := rIxLT K) ix_lt (pv 1) (pv 6) (fun _ _ => rfl)) (pa_cons (pe_op (opSub T hr (by decide)) pe_int (pv 3)) pa_nil)))) (pg_tup rfl (pgs_cons (pg_sub (pv 1) (pv 6) set_list) (pgs_cons (pg_sub (pv 1) (pv 7) set_list) (pgs_cons (pg_name (i := 3) sc_steps_in.nd rfl (by first | exact Or.inl rfl | exact Or.inr rfl)) pgs_nil)))))) pss_nil) (pss_cons (ps_set (i := 8) sc_steps_in.nd rfl (by first | exact Or.inl rfl | exact Or.inr rfl) (pe_ix (r := rIxLT K) ix_lt (pv 1) (pv 6) (fun _ _ => rfl))) (pss_cons (ps_for PassesOwn.never rfl (pi_range2 rfl T.n_range (pa_cons (pe_op (opAdd T hr (by decide)) (pv 6) pe_int) (pa_cons (pe_callB (r := rLen K) call_len_lt (by rfl) T.n_len bo_len (pa_cons (pv 1) pa_nil)) pa_nil))) (pg_name (i := 9) sc_steps_in.nd rfl (by first | exact Or.inl rfl | exact Or.inr rfl)) (pss_one (ps_if (pt_cmpR (cmNe T hr (by decide)) (pe_pp (p_sign T) hr (by decide) (pe_ix (r := rIxLT K) ix_lt (pe_ix (r := rIxLT K) ix_lt (pv 1) (pv 9) (fun _ _ => rfl)) (pv 5) (fun _ _ => rfl)) rfl) pe_int (nomark _)) (pss_one (ps_asg (C8.pe_c (c_lessened T) hr (by decide) rfl (pa_cons (pe_ix (r := rIxLT K) ix_lt (pv 1) (pv 9) (fun _ _ => rfl)) (pa_cons (pv 8) (pa_cons (C8.pe_mt (m_over T) hr (by decide) (pe_ix (r := rIxLT K) ix_lt (pe_ix (r := rIxLT K) ix_lt (pv 1) (pv 9) (fun _ _ => rfl)) (pv 5) (fun _ _ => rfl)) (pa_cons (pe_ix (r := rIxLT K) ix_lt (pv 8) (pv 5) (fun _ _ => rfl)) pa_nil)) pa_nil)))) (pg_sub (pv 1) (pv 9) set_list))) pss_nil))) (pss_one (ps_expr (pe_bm PySem.F.plainAttrs_list PySem.F.slot_list_append PySem.F.type_list_append mt_append (pv 2) (pa_cons (pv 5) pa_nil))))))) pss_nil))))) (pss_one (ps_ret (pe_tup (pa_cons (pv 1) (pa_cons (pv 2) (pa_cons (pv 3) pa_nil))))))))), ?_⟩
  obtain ⟨av, xv, rfl, hav, allv⟩ := id hv
  refine t_par3c (P2 := fun _ G1 => newL isNat [] G1) (Grow.rfl e) (ev_listS (R := isRow C) ⟨av, xv, fun H' Q q => ⟨_, rfl, q⟩, hav, allv⟩) (fun v' G' _ _ => ev_lst up_nat (Nat.zero_le _) ea_nilR) ?_
  rintro _ _ G1 G2 H2 e1 e2 g2 ⟨a, xs, rfl, ha0, ha1, all0⟩ ⟨c, ys, rfl, hc0, hc1, ally⟩
  have hys : ys = [] := by cases ally; rfl
  subst hys
  have hac : a ≠ c := fun z => by rw [z, hc0] at ha1; cases ha1
  obtain ⟨h1a, ga⟩ := unk g2 ha0 (e2 _ _ ha1)
  have hGc : G c = none := e1.back hc0
  obtain ⟨h1c, gc⟩ := unk (o := .lst []) ga hGc (by
    rw [sub_at (by rw [upd_ne (Ne.symm hac)])]
    exact hc1)
  have eG2 : Ex G (sub (sub G2 (one a (.lst xs))) (one c (.lst []))) := sub_keep (sub_keep (e1.trans e2) (one_apart ha0)) (one_apart hGc)
  have st0 : StM C a c m [] (sub (sub G2 (one a (.lst xs))) (one c (.lst []))) H2 := ⟨xs, g2.re _ _ (e2 _ _ ha1), g2.re _ _ hc1, by
    rw [sub_at (show one c (.lst []) a = none from upd_ne hac)]
    exact sub_no (by rw [one_at]; exact Option.some_ne_none _), sub_no (by rw [one_at]; exact Option.some_ne_none _), all0.mono fun _ _ h => up_row _ _ _ _ eG2 h⟩
  replace gc : Grow G H (sub (sub G2 (one a (.lst xs))) (one c (.lst []))) H2 := gc
  revert gc st0
  generalize sub (sub G2 (one a (.lst xs))) (one c (.lst [])) = G3 at eG2 ⊢
  intro st0 gc
  -- wide
  have hm0 : m[0]? = some (m.getD 0 []) := by
    cases m with
    | nil => exact absurd rfl hne
    | cons r t => rfl
  have hisE : m.isEmpty = false := by
    cases m with
    | nil => exact absurd rfl hne
    | cons r t => rfl
  have rows3 := up_mat _ _ _ _ eG2 hv
  have hwd : (m.getD 0 []).length = wd := hen.len _ (mem_of_get hm0)
  obtain ⟨M0, _, hM0, d0, n0a, n0c, _⟩ := st0.use gc.re hac
  refine m_set (P := isV (.int (wd : Int))) gc hM0 d0 (Tr.up (fun v G G' => up_isV _ v G G') join_l (ev_if (et_test (ev_neNil up_row (ev_slot rfl rows3))) (fun _ => by
    rw [← hwd]
    exact ev_lenL (ev_ixL up_row (ev_slot rfl rows3) ev_c (atI_nat (j := 0) hm0))) (fun z => by rw [hisE] at z; cases z))) fun vw G4 H4 e4 _ _ g4 eH4 hvw => ?_
  obtain rfl : vw = _ := hvw
  have st1 := st0.more e4 (sub_no n0a) (sub_no n0c) eH4
  generalize sub G4 M0 = G5 at st1 g4 e4
  obtain ⟨M1, _, hM1, d1, n1a, n1c, _⟩ := st1.use g4.re hac
  refine m_forR (n := wd) g4 hM1 (fun Hx ex Qx qx => ea_1 (ev_var (v := .int (wd : Int)) rfl) Hx ex Qx fun vs G2 H2 g2 ⟨v', ev, hv'⟩ => qx vs G2 H2 g2 (by rw [ev, hv'])) (by omega)
    (fun i σ G' H' => (∃ sg o5 o6 o7 o8 o9, σ = [some (.ref av), some (.ref a), some (.ref c), some (.int sg), some (.int (wd : Int)), o5, o6, o7, o8, o9]) ∧ StM C a c (stepsTo m i).1 (stepsTo m i).2 G' H') (fun H' eH' g' => ⟨⟨_, _, _, _, _, _, rfl⟩, st1.more Ex.rfl (d1 _ n1a) (d1 _ n1c) eH'⟩) ?_ ?_
  · rintro i σ' G6 H6 hi eG6 g6 ⟨⟨sg, o5, o6, o7, o8, o9, rfl⟩, st⟩ N hN
    have hlen := stepsTo_len m i
    have hcols := stepsTo_cols m i
    have hents := stepsTo_ents hen i
    have hnext : stepsTo m (i + 1) = stepCol (stepsTo m i).1 (stepsTo m i).2 i := rfl
    rw [hnext] at hN
    revert hlen hcols hents hN st
    generalize (stepsTo m i).1 = l
    generalize (stepsTo m i).2 = cols
    intro st hN hlen hcols hents
    -- begin
    obtain ⟨M2, xs2, hM2, d2, n2a, n2c, _, _, _, hc2, _⟩ := st.use g6.re hac
    refine m_set (P := isV (.int (cols.length : Int))) g6 hM2 d2 (ev_lenL (ev_slot rfl hc2)) fun vb G7 H7 e7 _ _ g7 eH7 hvb => ?_
    obtain rfl : vb = _ := hvb
    have st7 := st.more e7 (sub_no n2a) (sub_no n2c) eH7
    generalize sub G7 M2 = G8 at st7 g7 e7
    -- place
    obtain ⟨M3, xs3, hM3, d3, n3a, n3c, _, hl3, _⟩ := st7.use g7.re hac
    refine m_set (P := optOf isNat (pivotAt l cols.length i)) g7 hM3 d3 (pivot_ev (ev_slot rfl hl3) (ev_var rfl) (ev_var rfl) (by omega) (by omega) (fun r hr => by rw [hents.len r hr]; exact hi)) fun vp G9 H9 e9 _ _ g9 eH9 hvp => ?_
    have st9 := st7.more e9 (sub_no n3a) (sub_no n3c) eH9
    replace hvp : optOf isNat (pivotAt l cols.length i) vp (sub G9 M3) := by
      revert hvp
      cases pivotAt l cols.length i with
      | none => exact fun h => h
      | some p => exact fun h => h
    generalize sub G9 M3 = G10 at st9 g9 e9 hvp
    obtain ⟨M4, xs4, hM4, d4, n4a, n4c, _⟩ := st9.use g9.re hac
    refine m_if g9 hM4 (Tr.upT join_l (et_test (ev_notN up_nat (ev_slot rfl hvp)))) (fun hb H11 g11 eH11 => ?_) (fun hb H11 g11 eH11 => ?_)
    case refine_2 =>
      have hp : pivotAt l cols.length i = none := by
        cases hq : pivotAt l cols.length i with
        | none => rfl
        | some p => rw [hq] at hb; cases hb
      refine hN _ G10 H11 (eG6.trans (e7.trans e9)) g11 ⟨⟨_, _, _, _, _, _, rfl⟩, ?_⟩
      rw [show stepCol l cols i = (l, cols) from by unfold stepCol; rw [hp]]
      exact st9.more Ex.rfl (d4 _ n4a) (d4 _ n4c) eH11
    case refine_1 =>
      obtain ⟨p, hp⟩ : ∃ p, pivotAt l cols.length i = some p := by
        cases hq : pivotAt l cols.length i with
        | none => rw [hq] at hb; cases hb
        | some p => exact ⟨p, rfl⟩
      rw [hp] at hvp
      obtain ⟨hp1, hp2, hp3⟩ := pivot_nz hp
      obtain rfl : vp = .int (p : Int) := hvp.2
      have st11 := st9.more Ex.rfl (d4 _ n4a) (d4 _ n4c) eH11
      have hb : cols.length < l.length := by omega
      -- swap
      obtain ⟨M5, xs5, hM5, d5, n5a, n5c, _, hm5, hr5, hc5, ma5, all5, mc5⟩ := st11.use g11.re hac
      refine m_ifj (fun σ' G' H' => Ex G10 G' ∧ (∃ sg o8 o9, σ' = [some (.ref av), some (.ref a), some (.ref c), some (.int sg), some (.int (wd : Int)), some (.int (i : Int)), some (.int (cols.length : Int)), some (.int (p : Int)), o8, o9]) ∧ StM C a c (swapPivot l cols.length p) cols G' H') g11 hM5
        (EvT.is (et_test (ev_neU rfl (ev_var rfl) (ev_var rfl))) rfl) (fun hpb H12 g12 eH12 N2 hN2 => ?_) (fun hpb H12 g12 eH12 => ?_) ?_
      · have hpb : p ≠ cols.length := fun z => by
          rw [z, decide_eq_true rfl] at hpb
          cases hpb
        have st12 := st11.more Ex.rfl (d5 _ n5a) (d5 _ n5c) eH12
        obtain ⟨M6, xs6, hM6, d6, n6a, n6c, _, hm6, hr6, hc6, ma6, all6, mc6⟩ := st12.use g12.re hac
        have lp : l[p]? = some (l.getD p []) := by rw [getD_at (List.getElem?_eq_getElem hp2)]; exact List.getElem?_eq_getElem hp2
        have lb : l[cols.length]? = some (l.getD cols.length []) := by rw [getD_at (List.getElem?_eq_getElem hb)]; exact List.getElem?_eq_getElem hb
        refine m_asg (P := tripOf (rowIn C G10) (rowIn C G10) anyInt (l.getD p []) (l.getD cols.length []) ()) g12 hM6 d6 (ev_trip up_rowIn up_rowIn up_any (ev_ixL up_rowIn (ev_slot rfl hr6) (ev_var rfl) (atI_nat lp)) (ev_ixL up_rowIn (ev_slot rfl hr6) (ev_var rfl) (atI_nat lb)) (Tr.imp (ev_subI ev_c (ev_var rfl)) fun _ _ _ h => ⟨_, h⟩)) ?_
        rintro _ G13 H13 e13 eM13 _ eG13 g13 eH13 ⟨t, x, y, z, rfl, ht, hx, hy, sg', rfl⟩
        have hlx : xs6.length = l.length := all6.len
        have ha13 := eH13 _ _ (hM6 _ _ ma6)
        have hc13 := eH13 _ _ (hM6 _ _ mc6)
        refine ⟨t, [x, y, .int sg'], rfl, SqT.of (eG13 _ _ ht), rfl, x, [y, .int sg'], rfl, set_m (var_m rfl) (var_m rfl) ha13 (ixN_n (by omega)) ⟨y, [.int sg'], rfl, set_m (var_m rfl) (var_m rfl) upd_same (ixN_n (by rw [List.length_set]; omega)) ⟨.int sg', [], rfl, rfl, ?_⟩⟩⟩
        refine hN2 _ (sub G13 M6) _ ((g13.mut h1a (sub_no n6a)).mut h1a (sub_no n6a)) ⟨e13, ⟨sg', _, _, rfl⟩, _, upd_same, ?_, sub_no n6a, sub_no n6c, ?_⟩
        · rw [upd_ne (Ne.symm hac), upd_ne (Ne.symm hac)]
          exact hc13
        · unfold swapPivot swapAt
          rw [if_neg hpb]
          exact ((all6.mono fun _ _ r => up_row _ _ _ _ e13 r).set _ (up_row _ _ _ _ e13 hx)).set _ (up_row _ _ _ _ e13 hy)
      · have hpb : p = cols.length := by
          by_cases z : p = cols.length
          · exact z
          · rw [decide_eq_false (fun q => z (by have := V.int.inj q; omega))] at hpb
            cases hpb
        refine ⟨Ex.rfl, ⟨_, _, _, rfl⟩, ?_⟩
        unfold swapPivot
        rw [if_pos hpb]
        exact st11.more Ex.rfl (d5 _ n5a) (d5 _ n5c) eH12
      · rintro _ G14 H14 g14 ⟨e14, ⟨sg', o8', o9', rfl⟩, st14⟩
        have htop := swapPivot_top (l := l) (b := cols.length) (p := p) hb hp2
        have hs : Ents wd (grow4 m.length cols.length ee) (swapPivot l cols.length p) := ⟨fun r hr => hents.len r (swapPivot_mem hb hp2 hr), fun r hr => hents.le r (swapPivot_mem hb hp2 hr)⟩
        have hl1 := swapPivot_len l cols.length p
        have hcol : stepCol l cols i = (elimTo (swapPivot l cols.length p) ((swapPivot l cols.length p).getD cols.length []) i (cols.length + 1) l.length, cols ++ [i]) := by unfold stepCol; rw [hp]
        rw [hcol, getD_at htop] at hN
        have hnz : nz ((l.getD p []).getD i 0) = true := hp3
        revert st14 htop hs hl1 hN
        generalize swapPivot l cols.length p = l1
        generalize l.getD p [] = top at hnz ⊢
        intro hN st14 htop hs hl1
        have htl : top.length = wd := hs.len _ (mem_of_get htop)
        -- top
        obtain ⟨M7, xs7, hM7, d7, n7a, n7c, _, hm7, hr7, hc7, ma7, all7, mc7⟩ := st14.use g14.re hac
        refine m_set (P := rowIn C G14 top) g14 hM7 d7 (ev_ixL up_rowIn (ev_slot rfl hr7) (ev_var rfl) (atI_nat htop)) fun vt G15 H15 e15 _ _ g15 eH15 hvt => ?_
        have st15 := st14.more e15 (sub_no n7a) (sub_no n7c) eH15
        have hvt : isRow C top vt (sub G15 M7) := up_row _ _ _ _ e15 hvt
        generalize sub G15 M7 = G16 at st15 g15 e15 hvt
        -- the rows below
        obtain ⟨M8, xs8, hM8, d8, n8a, n8c, _, hm8, hr8, hc8, ma8, all8, mc8⟩ := st15.use g15.re hac
        refine m_forR2 (a := cols.length + 1) (n := l.length - (cols.length + 1)) (b := (l.length : Int)) g15 hM8 (fun Hx ex Qx qx => ea_2 up_isV up_isV (ev_addI (ev_var (v := .int (cols.length : Int)) rfl) ev_c) (ev_lenL (ev_slot rfl hm8)) Hx ex Qx fun vs G2 H2 g2 ⟨v1, v2, ev, h1, h2⟩ => qx vs G2 H2 g2 (by rw [ev, h1, h2, hl1] <;> rfl)) (by omega) (by omega)
          (fun j σ G' H' => (∃ o9, σ = [some (.ref av), some (.ref a), some (.ref c), some (.int sg'), some (.int (wd : Int)), some (.int (i : Int)), some (.int (cols.length : Int)), some (.int (p : Int)), some vt, o9]) ∧ StM C a c (elimTo l1 top i (cols.length + 1) (cols.length + 1 + j)) cols G' H')
          (fun H' eH' g' => ⟨⟨_, rfl⟩, by rw [Nat.add_zero, elimTo_start]; exact st15.more Ex.rfl (d8 _ n8a) (d8 _ n8c) eH'⟩) ?_ ?_
        · rintro j _ G17 H17 hj e17 g17 ⟨⟨o9'', rfl⟩, st17⟩ N3 hN3
          have hot : cols.length + 1 + j < l1.length := by omega
          have hr0 : l1[cols.length + 1 + j]? = some l1[cols.length + 1 + j] := List.getElem?_eq_getElem hot
          revert hr0
          generalize l1[cols.length + 1 + j] = r
          intro hr0
          have hrw : r.length = wd := hs.len _ (mem_of_get hr0)
          have hre : (elimTo l1 top i (cols.length + 1) (cols.length + 1 + j))[cols.length + 1 + j]? = some r := by rw [elimTo_get hr0, if_neg (by omega)]
          have hri : r[i]? = some (r.getD i 0) := by rw [getD_at (List.getElem?_eq_getElem (by omega))]; exact List.getElem?_eq_getElem (by omega)
          have hti : top[i]? = some (top.getD i 0) := by rw [getD_at (List.getElem?_eq_getElem (by omega))]; exact List.getElem?_eq_getElem (by omega)
          obtain ⟨M9, xs9, hM9, d9, n9a, n9c, l9, hm9, hr9, hc9, ma9, all9, mc9⟩ := st17.use g17.re hac
          refine m_if g17 hM9 (EvT.is (et_test (ev_neU rfl (ev_prop (ev_ixL up_isR (ev_ixL up_row (ev_slot rfl hm9) (ev_var rfl) (atI_nat hre)) (ev_var rfl) (atI_nat hri))) ev_c)) (nz_sgn _)) (fun hz H18 g18 eH18 => ?_) (fun hz H18 g18 eH18 => ?_)
          · have st18 := st17.more Ex.rfl (d9 _ n9a) (d9 _ n9c) eH18
            obtain ⟨M10, xs10, hM10, d10, n10a, n10c, l10, hm10, hr10, hc10, ma10, all10, mc10⟩ := st18.use g18.re hac
            have hvt10 : isRow C top vt (join G17 M10) := up_row _ _ _ _ (e17.trans join_l) hvt
            have hE : grow4 m.length cols.length ee ≤ 64 * ee := grow4_max hk
            have hne : top.getD i 0 ≠ 0 := fun z => by rw [z] at hnz; exact absurd hnz (by decide)
            have hq := elim_sz hs (mem_of_get hr0) (mem_of_get htop) hnz (c := i)
            have hL : ∀ x : Nat, x ≤ 12 * (64 * 160000) → x + 2 ≤ LIM := fun x hx => by show x + 2 ≤ 130000000; omega
            have hf2 : Ok2 (r.getD i 0) (top.getD i 0) := Fits.ok2 (fitsE (n := grow4 m.length cols.length ee + grow4 m.length cols.length ee) (hL _ (by omega)) (by rw [Nat.pow_add]; exact Nat.mul_le_mul (hs.at (mem_of_get hr0) i) (hs.at (mem_of_get htop) i)))
            have hw1 : wd * grow4 m.length cols.length ee ≤ 5 * (64 * ee) := Nat.mul_le_mul hw5 hE
            have hf : Fits (szL r * (szL top * sz (r.getD i 0 / top.getD i 0))) := fitsE (n := wd * grow4 m.length cols.length ee + (wd * grow4 m.length cols.length ee + 2 * grow4 m.length cols.length ee)) (hL _ (by omega)) (by
              rw [Nat.pow_add, Nat.pow_add]
              exact Nat.mul_le_mul (hs.szL (mem_of_get hr0)) (Nat.mul_le_mul (hs.szL (mem_of_get htop)) hq))
            refine m_asg (P := newL (isR C) (lessRow r top (r.getD i 0 / top.getD i 0)) (join G17 M10)) g18 hM10 d10 (ev_callN (sp := spLess C) (ea_3 up_row up_row up_isR (ev_ixL up_row (ev_slot rfl hm10) (ev_var rfl) (atI_nat hre)) (ev_slot rfl hvt10)
              (ev_over (ev_ixL up_isR (ev_ixL up_row (ev_slot rfl hm10) (ev_var rfl) (atI_nat hre)) (ev_var rfl) (atI_nat hri)) (Tr.num (ev_ixL up_isR (ev_slot rfl hvt10) (ev_var rfl) (atI_nat hti))) hne hf2)) fun vs G' e ⟨v, w, u, ev, hv, hw, hu⟩ => Pu.tr (g := (r, top, r.getD i 0 / top.getD i 0)) ⟨v, w, u, ev, hv, hw, hu, hf, by show r.length ≤ 100000; omega⟩) ?_
            rintro vn G19 H19 e19 eM19 _ _ g19 eH19 hvn
            have hnew := newL_off l10 eM19 hM10 g18.re hvn
            have ha19 := eH19 _ _ (hM10 _ _ ma10)
            have hc19 := eH19 _ _ (hM10 _ _ mc10)
            refine set_m (var_m rfl) (var_m rfl) ha19 (ixN_n (by rw [all10.len, elimTo_len]; omega)) ?_
            refine hN3 _ (sub G19 M10) _ (e17.trans e19) (g19.mut h1a (sub_no n10a)) ⟨⟨_, rfl⟩, _, upd_same, ?_, sub_no n10a, sub_no n10c, ?_⟩
            · rw [upd_ne (Ne.symm hac)]
              exact hc19
            · rw [← Nat.add_assoc, ← elimTo_next hr0 (by omega)]
              refine (all10.mono fun _ _ r => up_row _ _ _ _ e19 r).set _ ?_
              unfold elimRow
              rw [if_pos hz]
              exact hnew
          · refine hN3 _ G17 H18 e17 g18 ⟨⟨_, rfl⟩, ?_⟩
            rw [← Nat.add_assoc, ← elimTo_skip hr0 hz]
            exact st17.more Ex.rfl (d9 _ n9a) (d9 _ n9c) eH18
        · rintro _ G17 H17 e17 g17 ⟨⟨o9'', rfl⟩, st17⟩
          rw [show cols.length + 1 + (l.length - (cols.length + 1)) = l.length from by omega] at st17
          obtain ⟨M9, xs9, hM9, d9, n9a, n9c, l9, hm9, hr9, hc9, ma9, all9, mc9⟩ := st17.use g17.re hac
          refine app_m (P := isV (.int (i : Int))) g17 hM9 d9 rfl mc9 (by rw [List.length_map]; omega) h1c (ev_var rfl) fun va G18 H18 e18 _ g18 eH18 hva => ?_
          obtain rfl : va = _ := hva
          refine hN _ (sub G18 M9) _ (eG6.trans (e7.trans (e9.trans (e14.trans (e15.trans (e17.trans e18)))))) g18 ⟨⟨_, _, _, _, _, _, rfl⟩, xs9, ?_, ?_, sub_no n9a, sub_no n9c, all9.mono fun _ _ r => up_row _ _ _ _ e18 r⟩
          · rw [upd_ne hac]
            exact eH18 _ _ (hM9 _ _ ma9)
          · rw [upd_same, List.map_append] <;> rfl
  · rintro _ G6 H6 eG6 g6 ⟨⟨sg, o5, o6, o7, o8, o9, rfl⟩, st⟩
    obtain ⟨xs, hxa, hxc, hga, hgc, all⟩ := st
    have s1 := g6.see h1a hga hxa
    have s2 := s1.see h1c (by rw [upd_ne (Ne.symm hac)]; exact hgc) hxc
    have eu : Ex G6 (upd (upd G6 a (.lst xs)) c (.lst ((stepsTo m wd).2.map fun (n : Nat) => V.int (n : Int)))) := (Ex.new hga).trans (Ex.new (by rw [upd_ne (Ne.symm hac)]; exact hgc))
    refine s_ret s2 (ev_trip up_mat (up_lst up_nat) up_any (ev_slot (R := isMat C) (x := (stepsTo m wd).1) rfl ⟨a, xs, rfl, by rw [upd_ne hac, upd_same], all.mono fun _ _ r => up_row _ _ _ _ eu r⟩) (ev_slot (R := lstOf isNat) (x := (stepsTo m wd).2) rfl ⟨c, _, rfl, upd_same, nats_all _⟩) (Tr.imp (P' := anyInt ()) (ev_var (v := .int sg) rfl) fun _ _ _ h => ⟨_, h⟩)) fun v' G7 H7 g7 p => q v' G7 H7 g7 ?_
    show tripOf _ _ _ (stepsIn m).1 (stepsIn m).2 () v' G7
    unfold stepsIn
    rw [hwd]
    exact p
end
end On
set_option linter.all false
/-! The squares, as a reckoning. -/
namespace On
def addRows (u v : List Rat) : List Rat := (u.zip v).map fun z => z.1 + z.2
def subRows (u v : List Rat) : List Rat := (u.zip v).map fun z => z.1 - z.2
def lessSq (m : List (List Rat)) (c : Rat) (f : List Rat) : List (List Rat) := (m.zip f).map fun z => lessRow z.1 f (c * z.2)
def half (m : List (List Rat)) (p q : Nat) : Rat := 1 / (at2 m p q * 2)
def nextSq (m : List (List Rat)) : List (Rat × List Rat) := match singleAt m with
  | some p => [(1 / at2 m p p, m.getD p [])]
  | none => match pairAt m with
    | none => []
    | some (p, q) => [(half m p q, addRows (m.getD p []) (m.getD q [])), (-half m p q, subRows (m.getD p []) (m.getD q []))]
def lessAll (m : List (List Rat)) (l : List (Rat × List Rat)) : List (List Rat) := l.foldl (fun m z => lessSq m z.1 z.2) m
def sqLoop : Nat → List (List Rat) → List (Rat × List Rat) → List (Rat × List Rat)
  | 0, _, found => found
  | k + 1, m, found => match nextSq m with
    | [] => found
    | z :: l => sqLoop k (lessAll m (z :: l)) (found ++ z :: l)
def squaresIn (m : List (List Rat)) : List (Rat × List Rat) := sqLoop (m.length + 1) m []

/-! ### entries -/
theorem getD_nil {i : Nat} : ([] : List Rat).getD i 0 = 0 := by cases i <;> rfl
theorem zip_getD (g : Rat → Rat → Rat) (h0 : g 0 0 = 0) {u v : List Rat} (h : u.length = v.length) (j : Nat) : ((u.zip v).map fun z => g z.1 z.2).getD j 0 = g (u.getD j 0) (v.getD j 0) := by
  by_cases hj : j < u.length
  · have hv : j < v.length := by omega
    have hz : (u.zip v)[j]? = some (u[j], v[j]) := List.getElem?_zip_eq_some.mpr ⟨List.getElem?_eq_getElem hj, List.getElem?_eq_getElem hv⟩
    rw [getD_at (List.getElem?_eq_getElem hj), getD_at (List.getElem?_eq_getElem hv)]
    refine getD_at ?_
    rw [List.getElem?_map, hz]
    rfl
  · have h1 : u.getD j 0 = 0 := by rw [List.getD_eq_getElem?_getD, List.getElem?_eq_none (by omega)]; rfl
    have h2 : v.getD j 0 = 0 := by rw [List.getD_eq_getElem?_getD, List.getElem?_eq_none (by omega)]; rfl
    have h3 : ((u.zip v).map fun z => g z.1 z.2).getD j 0 = 0 := by
      rw [List.getD_eq_getElem?_getD, List.getElem?_eq_none (by rw [List.length_map, List.length_zip]; omega)]
      rfl
    rw [h1, h2, h3, h0]
theorem lessRow_at {u v : List Rat} {q : Rat} (h : u.length = v.length) (j : Nat) : (lessRow u v q).getD j 0 = u.getD j 0 - v.getD j 0 * q := by
  have := zip_getD (fun a b => a - b * q) (by show (0 : Rat) - 0 * q = 0; grind) h j
  exact this
theorem addRows_at {u v : List Rat} (h : u.length = v.length) (j : Nat) : (addRows u v).getD j 0 = u.getD j 0 + v.getD j 0 := zip_getD (fun a b => a + b) (by show (0 : Rat) + 0 = 0; grind) h j
theorem subRows_at {u v : List Rat} (h : u.length = v.length) (j : Nat) : (subRows u v).getD j 0 = u.getD j 0 - v.getD j 0 := zip_getD (fun a b => a - b) (by show (0 : Rat) - 0 = 0; grind) h j
theorem row_none {m : List (List Rat)} {i : Nat} (h : m.length ≤ i) : m.getD i [] = [] := by
  rw [List.getD_eq_getElem?_getD, List.getElem?_eq_none h]
  rfl
theorem at2_none {m : List (List Rat)} {i j : Nat} (h : m.length ≤ i) : at2 m i j = 0 := by
  unfold at2
  rw [row_none h, getD_nil]
theorem at2_row (m : List (List Rat)) (i j : Nat) : at2 m i j = (m.getD i []).getD j 0 := rfl
theorem Sq.rowLen {n : Nat} {m : List (List Rat)} (h : Sq n m) {i : Nat} (hi : i < n) : (m.getD i []).length = n := by
  have hi' : i < m.length := by rw [h.len]; exact hi
  rw [getD_at (List.getElem?_eq_getElem hi')]
  exact h.row _ (List.getElem_mem hi')
theorem lessSq_len {m : List (List Rat)} {c : Rat} {f : List Rat} : (lessSq m c f).length = min m.length f.length := by
  unfold lessSq
  rw [List.length_map, List.length_zip]
theorem lessSq_row {n : Nat} {m : List (List Rat)} (h : Sq n m) {c : Rat} {f : List Rat} (hf : f.length = n) {i : Nat} (hi : i < n) : (lessSq m c f)[i]? = some (lessRow (m.getD i []) f (c * f.getD i 0)) := by
  have hi' : i < m.length := by rw [h.len]; exact hi
  have hi2 : i < f.length := by omega
  have hz : (m.zip f)[i]? = some (m[i], f[i]) := List.getElem?_zip_eq_some.mpr ⟨List.getElem?_eq_getElem hi', List.getElem?_eq_getElem hi2⟩
  unfold lessSq
  rw [List.getElem?_map, hz, getD_at (List.getElem?_eq_getElem hi'), getD_at (List.getElem?_eq_getElem hi2)]
  rfl
theorem at2_less {n : Nat} {m : List (List Rat)} (h : Sq n m) {c : Rat} {f : List Rat} (hf : f.length = n) (i j : Nat) : at2 (lessSq m c f) i j = at2 m i j - f.getD j 0 * (c * f.getD i 0) := by
  by_cases hi : i < n
  · rw [at2_row, getD_at (lessSq_row h hf hi), lessRow_at (by rw [h.rowLen hi, hf])]
    rfl
  · have h1 : f.getD i 0 = 0 := by rw [List.getD_eq_getElem?_getD, List.getElem?_eq_none (by omega)]; rfl
    rw [at2_none (by rw [lessSq_len, h.len, hf]; omega), at2_none (by rw [h.len]; omega), h1]
    grind
theorem lessSq_sq {n : Nat} {m : List (List Rat)} (h : Sq n m) {c : Rat} {f : List Rat} (hf : f.length = n) : Sq n (lessSq m c f) := by
  refine ⟨by rw [lessSq_len, h.len, hf, Nat.min_self], fun r hr => ?_⟩
  unfold lessSq at hr
  obtain ⟨⟨u, v⟩, hz, rfl⟩ := List.mem_map.mp hr
  have hu := (List.of_mem_zip hz).1
  rw [lessRow_len, h.row u hu, hf, Nat.min_self]
theorem lessSq_sym {n : Nat} {m : List (List Rat)} (h : Sq n m) (hs : Sym m) {c : Rat} {f : List Rat} (hf : f.length = n) : Sym (lessSq m c f) := fun i j => by
  rw [at2_less h hf, at2_less h hf, hs i j]
  grind
theorem addRows_len {u v : List Rat} : (addRows u v).length = min u.length v.length := by unfold addRows; rw [List.length_map, List.length_zip]
theorem subRows_len {u v : List Rat} : (subRows u v).length = min u.length v.length := by unfold subRows; rw [List.length_map, List.length_zip]

/-! ### what the next squares are -/
inductive Next (n : Nat) (m : List (List Rat)) : List (Rat × List Rat) → Prop where
  | single (p : Nat) (hp : p < n) (hz : at2 m p p ≠ 0) : Next n m [(1 / at2 m p p, m.getD p [])]
  | pair (p q : Nat) (hp : p < n) (hq : q < n) (hpq : p < q) (hz : at2 m p q ≠ 0) (hd : ∀ i, at2 m i i = 0) : Next n m [(half m p q, addRows (m.getD p []) (m.getD q [])), (-half m p q, subRows (m.getD p []) (m.getD q []))]
  | none (h0 : ∀ i j, at2 m i j = 0) : Next n m []
theorem nz_ne {q : Rat} (h : nz q = true) : q ≠ 0 := fun z => by rw [z] at h; exact absurd h (by decide)
theorem nz_eq {q : Rat} (h : nz q = false) : q = 0 := by
  unfold nz at h
  simpa using h
theorem next_is {n : Nat} {m : List (List Rat)} (h : Sq n m) (hs : Sym m) : Next n m (nextSq m) := by
  unfold nextSq
  cases h1 : singleAt m with
  | some p =>
    obtain ⟨_, h2, h3, _⟩ := firstFrom_some h1
    exact .single p (by rw [← h.len]; omega) (nz_ne h3)
  | none =>
    have hd : ∀ i, at2 m i i = 0 := fun i => by
      by_cases hi : i < m.length
      · exact nz_eq (firstFrom_no h1 i (Nat.zero_le _) (by omega))
      · exact at2_none (by omega)
    cases h2 : pairAt m with
    | some p =>
      obtain ⟨p, q⟩ := p
      obtain ⟨_, h4, h5⟩ := pairFrom_some h2
      obtain ⟨h6, h7, h8, _⟩ := firstFrom_some h5
      have hl := h.len
      exact .pair p q (by simp at h4; omega) (by simp at h4 h7; omega) (by simp at h6; omega) (nz_ne h8) hd
    | none =>
      have up : ∀ i j, i < j → at2 m i j = 0 := fun i j hij => by
        by_cases hj : j < m.length
        · have := pairFrom_no h2 i (Nat.zero_le _) (by omega)
          exact nz_eq (firstFrom_no this j hij (by omega))
        · rw [hs i j]
          exact at2_none (by omega)
      refine .none fun i j => ?_
      rcases Nat.lt_trichotomy i j with hij | rfl | hij
      · exact up i j hij
      · exact hd i
      · rw [hs i j]; exact up j i hij

/-! ### rows that are not zero -/
def live (m : List (List Rat)) (i : Nat) : Bool := (List.range m.length).any fun j => nz (at2 m i j)
theorem live_no {n : Nat} {m : List (List Rat)} (h : Sq n m) (i : Nat) : live m i = false ↔ ∀ j, at2 m i j = 0 := by
  unfold live
  rw [List.any_eq_false]
  constructor
  · intro z j
    by_cases hj : j < n
    · have := z j (List.mem_range.mpr (by rw [h.len]; exact hj))
      exact nz_eq (by simpa using this)
    · by_cases hi : i < n
      · have := h.rowLen hi
        rw [at2_row, List.getD_eq_getElem?_getD, List.getElem?_eq_none (by omega)]
        rfl
      · exact at2_none (by rw [h.len]; omega)
  · intro z j _
    rw [z j]
    decide
def cnt (g : Nat → Bool) : Nat → Nat
  | 0 => 0
  | n + 1 => cnt g n + if g n then 1 else 0
theorem cnt_le {g g' : Nat → Bool} : ∀ {n : Nat}, (∀ i, i < n → g' i = true → g i = true) → cnt g' n ≤ cnt g n
  | 0, _ => Nat.le_refl _
  | n + 1, h => by
    have h1 := cnt_le (n := n) fun i hi => h i (by omega)
    show cnt g' n + (if g' n = true then 1 else 0) ≤ cnt g n + (if g n = true then 1 else 0)
    have h2 := h n (Nat.lt_succ_self n)
    by_cases hg : g' n = true
    · rw [if_pos hg, if_pos (h2 hg)]; omega
    · rw [if_neg hg]; omega
theorem cnt_lt {g g' : Nat → Bool} {p : Nat} : ∀ {n : Nat}, (∀ i, i < n → g' i = true → g i = true) → p < n → g p = true → g' p = false → cnt g' n + 1 ≤ cnt g n
  | 0, _, h, _, _ => by omega
  | n + 1, h, hp, h1, h2 => by
    show cnt g' n + (if g' n = true then 1 else 0) + 1 ≤ cnt g n + (if g n = true then 1 else 0)
    by_cases hn : p = n
    · subst hn
      have := cnt_le (n := p) fun i hi => h i (by omega)
      rw [if_pos h1, if_neg (by rw [h2]; decide)]
      omega
    · have h3 := cnt_lt (n := n) (p := p) (fun i hi => h i (by omega)) (by omega) h1 h2
      have h4 := h n (Nat.lt_succ_self n)
      by_cases hg : g' n = true
      · rw [if_pos hg, if_pos (h4 hg)]; omega
      · rw [if_neg hg]; omega
theorem cnt_lt2 {g g' : Nat → Bool} {p q n : Nat} (h : ∀ i, i < n → g' i = true → g i = true) (hpq : p ≠ q) (hp : p < n) (hq : q < n) (h1 : g p = true) (h2 : g' p = false) (h3 : g q = true) (h4 : g' q = false) : cnt g' n + 2 ≤ cnt g n := by
  have a := cnt_lt (g := fun i => g' i || decide (i = q)) (g' := g') (p := q) (n := n) (fun i _ hi => by rw [hi]; rfl) hq (by simp) h4
  have b := cnt_lt (g := g) (g' := fun i => g' i || decide (i = q)) (p := p) (n := n) (fun i hi hh => by
    rcases Bool.or_eq_true_iff.mp hh with z | z
    · exact h i hi z
    · rw [of_decide_eq_true z]; exact h3) hp h1 (by
    rw [h2, decide_eq_false hpq]
    rfl)
  omega
theorem cnt_all (g : Nat → Bool) : ∀ n, cnt g n ≤ n
  | 0 => Nat.le_refl _
  | n + 1 => by
    have := cnt_all g n
    show cnt g n + (if g n = true then 1 else 0) ≤ n + 1
    split <;> omega
def nzRows (m : List (List Rat)) : Nat := cnt (live m) m.length
theorem nzRows_le (m : List (List Rat)) : nzRows m ≤ m.length := cnt_all _ _

/-! ### one step of squares -/
theorem lessAll_nil (m : List (List Rat)) : lessAll m [] = m := rfl
theorem lessAll_cons (m : List (List Rat)) (z : Rat × List Rat) (l : List (Rat × List Rat)) : lessAll m (z :: l) = lessAll (lessSq m z.1 z.2) l := rfl
/-- what a step keeps and takes -/
structure Stepped (n : Nat) (m : List (List Rat)) (l : List (Rat × List Rat)) : Prop where
  forms : ∀ z ∈ l, z.2.length = n
  sq : Sq n (lessAll m l)
  sym : Sym (lessAll m l)
  fall : l ≠ [] → nzRows (lessAll m l) + l.length ≤ nzRows m
theorem addRows_n {n p q : Nat} {m : List (List Rat)} (h : Sq n m) (hp : p < n) (hq : q < n) : (addRows (m.getD p []) (m.getD q [])).length = n := by rw [addRows_len, h.rowLen hp, h.rowLen hq, Nat.min_self]
theorem subRows_n {n p q : Nat} {m : List (List Rat)} (h : Sq n m) (hp : p < n) (hq : q < n) : (subRows (m.getD p []) (m.getD q [])).length = n := by rw [subRows_len, h.rowLen hp, h.rowLen hq, Nat.min_self]
theorem single_at2 {n p : Nat} {m : List (List Rat)} (h : Sq n m) (hp : p < n) (i j : Nat) : at2 (lessAll m [(1 / at2 m p p, m.getD p [])]) i j = at2 m i j - at2 m p j * (1 / at2 m p p * at2 m p i) := at2_less h (h.rowLen hp) i j
theorem pair_at2 {n p q : Nat} {m : List (List Rat)} (h : Sq n m) (hp : p < n) (hq : q < n) (i j : Nat) : at2 (lessAll m [(half m p q, addRows (m.getD p []) (m.getD q [])), (-half m p q, subRows (m.getD p []) (m.getD q []))]) i j =
    at2 m i j - (at2 m p j + at2 m q j) * (half m p q * (at2 m p i + at2 m q i)) - (at2 m p j - at2 m q j) * (-half m p q * (at2 m p i - at2 m q i)) := by
  rw [lessAll_cons, lessAll_cons, lessAll_nil]
  rw [at2_less (lessSq_sq h (addRows_n h hp hq)) (subRows_n h hp hq), at2_less h (addRows_n h hp hq)]
  rw [addRows_at (by rw [h.rowLen hp, h.rowLen hq]), addRows_at (by rw [h.rowLen hp, h.rowLen hq]), subRows_at (by rw [h.rowLen hp, h.rowLen hq]), subRows_at (by rw [h.rowLen hp, h.rowLen hq])]
  rfl
theorem single_zero {n p : Nat} {m : List (List Rat)} (h : Sq n m) (hs : Sym m) (hp : p < n) (hz : at2 m p p ≠ 0) : (∀ j, at2 (lessAll m [(1 / at2 m p p, m.getD p [])]) p j = 0) ∧ ∀ i, (∀ j, at2 m i j = 0) → ∀ j, at2 (lessAll m [(1 / at2 m p p, m.getD p [])]) i j = 0 := by
  refine ⟨fun j => ?_, fun i hi j => ?_⟩
  · rw [single_at2 h hp]
    grind
  · rw [single_at2 h hp, hi j, hs p i, hi p]
    grind
theorem pair_zero {n p q : Nat} {m : List (List Rat)} (h : Sq n m) (hs : Sym m) (hp : p < n) (hq : q < n) (hz : at2 m p q ≠ 0) (hd : ∀ i, at2 m i i = 0) (l : List (List Rat)) (hl : l = lessAll m [(half m p q, addRows (m.getD p []) (m.getD q [])), (-half m p q, subRows (m.getD p []) (m.getD q []))]) : (∀ j, at2 l p j = 0) ∧ (∀ j, at2 l q j = 0) ∧ ∀ i, (∀ j, at2 m i j = 0) → ∀ j, at2 l i j = 0 := by
  subst hl
  refine ⟨fun j => ?_, fun j => ?_, fun i hi j => ?_⟩
  · rw [pair_at2 h hp hq, hd p, hs q p]
    unfold half
    grind
  · rw [pair_at2 h hp hq, hd q]
    unfold half
    grind
  · rw [pair_at2 h hp hq, hi j, hs p i, hs q i, hi p, hi q]
    grind
theorem next_step {n : Nat} {m : List (List Rat)} (h : Sq n m) (hs : Sym m) {l : List (Rat × List Rat)} (hl : Next n m l) : Stepped n m l := by
  have lv : ∀ {m' : List (List Rat)}, Sq n m' → (∀ i, (∀ j, at2 m i j = 0) → ∀ j, at2 m' i j = 0) → ∀ i, i < n → live m' i = true → live m i = true := fun {m'} h' hk i _ hi => by
    cases hq : live m i with
    | true => rfl
    | false =>
      rw [(live_no h' i).mpr (hk i ((live_no h i).mp hq))] at hi
      cases hi
  have lt : ∀ {p q : Nat}, at2 m p q ≠ 0 → live m p = true := fun {p q} hz => by
    cases hq : live m p with
    | true => rfl
    | false => exact absurd ((live_no h p).mp hq q) hz
  cases hl with
  | none h0 => exact ⟨fun z hz => (nomatch hz), h, hs, fun z => absurd rfl z⟩
  | single p hp hz =>
    have h' : Sq n (lessAll m [(1 / at2 m p p, m.getD p [])]) := lessSq_sq h (h.rowLen hp)
    obtain ⟨z1, z2⟩ := single_zero h hs hp hz
    refine ⟨fun z hz => by rw [List.mem_singleton.mp hz]; exact h.rowLen hp, h', lessSq_sym h hs (h.rowLen hp), fun _ => ?_⟩
    unfold nzRows
    rw [h'.len, h.len]
    exact cnt_lt (lv h' z2) hp (lt hz) ((live_no h' p).mpr z1)
  | pair p q hp hq hpq hz hd =>
    have h1 : Sq n (lessSq m (half m p q) (addRows (m.getD p []) (m.getD q []))) := lessSq_sq h (addRows_n h hp hq)
    have h' : Sq n (lessAll m [(half m p q, addRows (m.getD p []) (m.getD q [])), (-half m p q, subRows (m.getD p []) (m.getD q []))]) := lessSq_sq h1 (subRows_n h hp hq)
    obtain ⟨z1, z2, z3⟩ := pair_zero h hs hp hq hz hd _ rfl
    refine ⟨fun z hz => ?_, h', lessSq_sym h1 (lessSq_sym h hs (addRows_n h hp hq)) (subRows_n h hp hq), fun _ => ?_⟩
    · rcases List.mem_cons.mp hz with e | hz
      · rw [e]; exact addRows_n h hp hq
      · rw [List.mem_singleton.mp hz]; exact subRows_n h hp hq
    · unfold nzRows
      rw [h'.len, h.len]
      exact cnt_lt2 (lv h' z3) (Nat.ne_of_lt hpq) hp hq (lt hz) ((live_no h' p).mpr z1) (lt (q := p) (by rw [hs q p]; exact hz)) ((live_no h' q).mpr z2)
end On
set_option linter.all false
/-! Sizes of the squares. -/
namespace On
theorem pow_le2 {a b : Nat} (h : a ≤ b) : 2 ^ a ≤ 2 ^ b := Nat.pow_le_pow_right (by decide) h
theorem sz_one_div {q : Rat} {e : Nat} (h : sz q ≤ 2 ^ e) : sz (1 / q) ≤ 2 ^ e := by
  by_cases hq : q = 0
  · subst hq
    rw [show (1 : Rat) / 0 = 0 from by decide +kernel]
    exact h
  · exact Nat.le_trans (sz_inv q hq) h
theorem row_le {n e i : Nat} {m : List (List Rat)} (h : Ents n e m) (hi : i < m.length) : ∀ x ∈ m.getD i [], sz x ≤ 2 ^ e := by
  rw [getD_at (List.getElem?_eq_getElem hi)]
  exact h.le _ (List.getElem_mem hi)
theorem at2_le {n e : Nat} {m : List (List Rat)} (h : Ents n e m) (i j : Nat) : sz (at2 m i j) ≤ 2 ^ e := by
  by_cases hi : i < m.length
  · rw [at2_row, getD_at (List.getElem?_eq_getElem hi)]
    exact h.at (List.getElem_mem hi) j
  · rw [at2_none (by omega), sz_zero]
    exact Nat.one_le_two_pow
theorem lessSq_ents {n a b d : Nat} {m : List (List Rat)} (hs : Sq n m) (h : Ents n a m) {c : Rat} {f : List Rat} (hf : f.length = n) (hfe : ∀ x ∈ f, sz x ≤ 2 ^ b) (hc : sz c ≤ 2 ^ d) : Ents n (a + (b + (d + b))) (lessSq m c f) := by
  refine ⟨(lessSq_sq hs hf).row, fun r hr x hx => ?_⟩
  unfold lessSq at hr
  obtain ⟨⟨u, v⟩, hz, rfl⟩ := List.mem_map.mp hr
  have hm := List.of_mem_zip hz
  refine lessRow_sz (h.le u hm.1) hfe ?_ hx
  refine Nat.le_trans (sz_mul _ _) ?_
  rw [Nat.pow_add]
  exact Nat.mul_le_mul hc (hfe _ hm.2)
theorem addRows_sz {u v : List Rat} {e : Nat} (h1 : ∀ x ∈ u, sz x ≤ 2 ^ e) (h2 : ∀ x ∈ v, sz x ≤ 2 ^ e) : ∀ x ∈ addRows u v, sz x ≤ 2 ^ (2 * e) := fun x hx => by
  unfold addRows at hx
  obtain ⟨⟨a, b⟩, hz, rfl⟩ := List.mem_map.mp hx
  have hm := List.of_mem_zip hz
  rw [Nat.two_mul, Nat.pow_add]
  exact Nat.le_trans (sz_add _ _) (Nat.mul_le_mul (h1 _ hm.1) (h2 _ hm.2))
theorem subRows_sz {u v : List Rat} {e : Nat} (h1 : ∀ x ∈ u, sz x ≤ 2 ^ e) (h2 : ∀ x ∈ v, sz x ≤ 2 ^ e) : ∀ x ∈ subRows u v, sz x ≤ 2 ^ (2 * e) := fun x hx => by
  unfold subRows at hx
  obtain ⟨⟨a, b⟩, hz, rfl⟩ := List.mem_map.mp hx
  have hm := List.of_mem_zip hz
  rw [Nat.two_mul, Nat.pow_add]
  exact Nat.le_trans (sz_sub _ _) (Nat.mul_le_mul (h1 _ hm.1) (h2 _ hm.2))
theorem sz_two : sz 2 ≤ 2 ^ 2 := by decide
theorem half_sz {n e p q : Nat} {m : List (List Rat)} (h : Ents n e m) : sz (half m p q) ≤ 2 ^ (e + 2) := by
  unfold half
  refine sz_one_div (Nat.le_trans (sz_mul _ _) ?_)
  rw [Nat.pow_add]
  exact Nat.mul_le_mul (at2_le h p q) sz_two
/-- sizes of a step -/
structure StepSz (n e : Nat) (m : List (List Rat)) (l : List (Rat × List Rat)) : Prop where
  num : ∀ z ∈ l, sz z.1 ≤ 2 ^ (e + 2)
  form : ∀ z ∈ l, ∀ x ∈ z.2, sz x ≤ 2 ^ (2 * e)
  form1 : l.length = 1 → ∀ z ∈ l, ∀ x ∈ z.2, sz x ≤ 2 ^ e
  mid : ∀ j, Sq n (lessAll m (l.take j)) ∧ Ents n (16 * e) (lessAll m (l.take j))
  fin : Ents n (4 ^ l.length * e) (lessAll m l)
  two : l.length ≤ 2
theorem step_sz {n e : Nat} {m : List (List Rat)} (hs : Sq n m) (h : Ents n e m) (he : 1 ≤ e) {l : List (Rat × List Rat)} (hl : Next n m l) : StepSz n e m l := by
  have hn : ∀ {i}, i < n → i < m.length := fun {i} hi => by rw [hs.len]; exact hi
  have hm0 : Sq n (lessAll m []) ∧ Ents n (16 * e) (lessAll m []) := ⟨hs, h.mono (by omega)⟩
  cases hl with
  | none h0 => exact ⟨fun z hz => (nomatch hz), fun z hz => (nomatch hz), fun _ z hz => (nomatch hz), fun j => by rw [List.take_nil]; exact hm0, by
      show Ents n (4 ^ 0 * e) m
      rw [Nat.pow_zero, Nat.one_mul]
      exact h, by decide⟩
  | single p hp hz =>
    have hc := sz_one_div (at2_le h p p)
    have hf := row_le h (hn hp)
    have h4 : Ents n (4 * e) (lessAll m [(1 / at2 m p p, m.getD p [])]) := (lessSq_ents hs h (hs.rowLen hp) hf hc).mono (by omega)
    refine ⟨fun z hz => ?_, fun z hz x hx => ?_, fun _ z hz x hx => ?_, fun j => ?_, ?_, by show 1 ≤ 2; omega⟩
    · rw [List.mem_singleton.mp hz]
      exact Nat.le_trans hc (pow_le2 (by omega))
    · rw [List.mem_singleton.mp hz] at hx
      exact Nat.le_trans (hf x hx) (pow_le2 (by omega))
    · rw [List.mem_singleton.mp hz] at hx
      exact hf x hx
    · cases j with
      | zero => exact hm0
      | succ j =>
        rw [List.take_succ_cons, List.take_nil]
        exact ⟨lessSq_sq hs (hs.rowLen hp), h4.mono (by omega)⟩
    · exact h4
  | pair p q hp hq hpq hz hd =>
    have hc := half_sz (p := p) (q := q) h
    have hc2 : sz (-half m p q) ≤ 2 ^ (e + 2) := by rw [sz_neg]; exact hc
    have hf := addRows_sz (row_le h (hn hp)) (row_le h (hn hq))
    have hg := subRows_sz (row_le h (hn hp)) (row_le h (hn hq))
    have q1 := lessSq_sq hs (addRows_n hs hp hq) (c := half m p q)
    have e1 := lessSq_ents hs h (addRows_n hs hp hq) hf hc
    have q2 := lessSq_sq q1 (subRows_n hs hp hq) (c := -half m p q)
    have e2 := lessSq_ents q1 e1 (subRows_n hs hp hq) hg hc2
    have h16 : Ents n (16 * e) (lessAll m [(half m p q, addRows (m.getD p []) (m.getD q [])), (-half m p q, subRows (m.getD p []) (m.getD q []))]) := e2.mono (by omega)
    refine ⟨fun z hz => ?_, fun z hz x hx => ?_, fun h1 => absurd h1 (by show ¬ (2 = 1); omega), fun j => ?_, ?_, by show 2 ≤ 2; omega⟩
    · rcases List.mem_cons.mp hz with r | hz
      · rw [r]; exact hc
      · rw [List.mem_singleton.mp hz]; exact hc2
    · rcases List.mem_cons.mp hz with r | hz
      · rw [r] at hx; exact hf x hx
      · rw [List.mem_singleton.mp hz] at hx; exact hg x hx
    · match j with
      | 0 => exact hm0
      | 1 => exact ⟨q1, e1.mono (by omega)⟩
      | j + 2 =>
        rw [List.take_succ_cons, List.take_succ_cons, List.take_nil]
        exact ⟨q2, h16⟩
    · exact h16
end On
set_option Elab.async false
set_option linter.all false
set_option maxRecDepth 100000
set_option maxHeartbeats 4000000
/-! less_square, next_squares, squares_in. -/
namespace On
open PySem PySem.Spec PyProof.Rows L2
section
variable {K : PySem.W.Frag} {σ : L2.St} {G0 H1 G H M : Hp} {te : TE} {P : V → Hp → Prop} {γ δ ε : Type} {S : δ → V → Hp → Prop} {S' : ε → V → Hp → Prop} {D : Ends} {tb tz : TS} {C : Addr}
theorem m_setz {i : Nat} (g : Grow G0 H1 G H) (hM : Ex M H) (d : Apart G M) (h : Ev te σ (join G M) P) (k : ∀ v G' H', Ex G (sub G' M) → Ex M G' → Ex (join G M) G' → Grow G0 H1 (sub G' M) H' → Ex H H' → P v G' → D.nx (σ.set i (some v)) H') : tAsg te (gName i) D σ H := fin_m (Q := fun v H' => D.nx (σ.set i (some v)) H') g hM d h k
/-- for x, y in a list of pairs that stands in a slot -/
theorem q_forPv {zs : List (δ × ε)} {i j j2 : Nat} {v : V} (up : Up S) (up2 : Up S') (gr : Grow G0 H1 G H) (hs : σ[i]? = some (some v)) (h : lstOf (pairOf S S') zs v G) (I : Nat → L2.St → Hp → Hp → Prop) (i0 : I 0 σ G H)
    (hs : ∀ (i : Nat) z x y σ' G' H', zs[i]? = some z → S z.1 x G' → S' z.2 y G' → Ex G G' → Grow G0 H1 G' H' → I i σ' G' H' → ∀ N : L2.St → Hp → Prop, (∀ σ3 G3 H3, Ex G' G3 → Grow G0 H1 G3 H3 → I (i + 1) σ3 G3 H3 → N σ3 H3) → tb { D with nx := N, ct := N, bk := tz D } ((σ'.set j (some x)).set j2 (some y)) H')
    (hd : ∀ σ' G' H', Ex G G' → Grow G0 H1 G' H' → I zs.length σ' G' H' → tz D σ' H') : tSeq (tFor (iList K (tVar i)) (gTup K 2 (gCons (gName j) (gCons (gName j2) gNil))) tb) tz D σ H := by
  obtain ⟨a, xs, ev, ha, all⟩ := h
  refine ⟨v, ‹_›, a, ev, ⟨xs, SqL.of (gr.re _ _ ha)⟩, ?_⟩
  refine for_core (D := { D with nx := tz D }) (walk_list (xs := xs)) (fun H' e => SqL.of (e _ _ ha)) gr I i0 (fun i x σ' G' H' H'' hi e g' iv hy => ?_) fun σ' G' H' e g' iv => hd σ' G' H' e g' (by rw [← all.len]; exact iv)
  obtain ⟨e2, hx⟩ := hy
  subst e2
  obtain ⟨z, hz, t, p, r, rfl, ht, s1, s2⟩ := all.get hx
  exact ⟨Ex.rfl, _, step_pair (g'.re _ _ (e _ _ ht)), fun N hN => hs i z p r σ' G' _ hz (up _ _ _ _ e s1) (up2 _ _ _ _ e s2) e g' iv N fun σ3 G3 H3 e3 => hN σ3 G3 H3 (e.trans e3)⟩
/-- o.extend(e) at a list that changes -/
theorem ext_m {γ : Type} {R : γ → V → Hp → Prop} {a : Addr} {i k : Nat} {xs : List V} {v : V} {zs : List γ} (g : Grow G0 H1 G H) (hs : σ[i]? = some (some (.ref a))) (ha : H a = some (.lst xs)) (hn : xs.length + zs.length ≤ 100000) (h1 : H1 a = none) (hg : G a = none) (hk : σ[k]? = some (some v)) (h : lstOf R zs v G)
    (c : ∀ ys, All2 (fun x z => R z x G) ys zs → Grow G0 H1 G (upd H a (.lst (xs ++ ys))) → tz D σ (upd H a (.lst (xs ++ ys)))) : tSeq (tDrop (tBM K "list" rExtend (tVar i) (tCons (tVar k) tNil))) tz D σ H := by
  obtain ⟨b, ys, ev, hb, all⟩ := h
  refine ⟨.ref a, hs, .inl ⟨rfl, xs, SqL.of ha⟩, v, hk, a, b, xs, ys, rfl, by rw [ev], ha, g.re _ _ hb, ?_, ?_⟩
  · rw [all.len]
    exact Nat.le_trans hn (by show _ ≤ 2 ^ 24; decide)
  · exact c ys all (g.mut h1 hg)
end
section
variable {P : Program} {w : World} {K : PySem.W.Frag} {mg : Str → Option Value} {base : Heap} {C : Addr}
abbrev isSq (C : Addr) : Rat × List Rat → V → Hp → Prop := pairOf (isR C) (isRow C)
theorem up_sq {C : Addr} : Up (isSq C) := up_pair up_isR up_row
def spLessSq (C : Addr) : Sp := Pu (γ := List (List Rat) × Rat × List Rat) (fun g vs H => ∃ v w u, vs = [v, w, u] ∧ (isMat C g.1 v H ∧ isR C g.2.1 w H ∧ isRow C g.2.2 u H ∧ ∃ n a b d, Ents n a g.1 ∧ g.1.length ≤ 4 ∧ n ≤ 4 ∧ g.2.2.length = n ∧ (∀ x ∈ g.2.2, sz x ≤ 2 ^ b) ∧ sz g.2.1 ≤ 2 ^ d ∧ a ≤ 5000000 ∧ b ≤ 5000000 ∧ d ≤ 5000000)) fun g H v G => isMat C (lessSq g.1 g.2.1 g.2.2) v G
theorem c_less_square (T : Txt P w K mg base C) : C8.Cal P w K mg base 42 "less_square" (spLessSq C) [] := by
  refine cal_by T.d_less_square sc_less_square (fun _ _ _ _ _ _ us hl => match us, hl with | [_, _, _], _ => rfl) len_3 fun f cdv A outer s H vs Q E hr h => ?_
  obtain ⟨⟨m, c, f'⟩, G, e, ⟨v, w, u, rfl, hv, hw, hu, n, a, b, d, hen, hm4, hn4, hfl, hfb, hcd, ha, hb, hd⟩, q⟩ := h
  have hL : ∀ x : Nat, x ≤ 100000000 → x + 2 ≤ LIM := fun x hx => by show x + 2 ≤ 130000000; omega
  refine ⟨_, (pss_one (ps_ret (pe_lc (own := [("row", 3), ("part", 4)]) (g := gTup K 2 (gCons (gName 3) (gCons (gName 4) gNil))) (tt := tYes) rfl sc_less_square.nd (pi_zip (by rfl) T.n_zip (pa_cons (pv 0) (pa_cons (pv 2) pa_nil))) (blkOk_by (own := [("row", 3), ("part", 4)]) (by kernel_rfl)) (fun _ _ _ _ _ => (pg_tup rfl (pgs_cons (pg_name (i := 3) sc_less_square.nd rfl (by first | exact Or.inl rfl | exact Or.inr rfl)) (pgs_cons (pg_name (i := 4) sc_less_square.nd rfl (by first | exact Or.inl rfl | exact Or.inr rfl)) pgs_nil)))) (fun _ _ _ _ _ => pts_nil) (fun _ _ _ _ _ => (C8.pe_c (c_lessened T) hr (by decide) rfl (pa_cons (pv 3) (pa_cons (pv 2) (pa_cons (pe_op (opMul T hr (by decide)) (pv 1) (pv 4)) pa_nil)))))))), ?_⟩
  refine s_ret (Grow.rfl e) (ev_lc (f := fun z : List Rat × Rat => lessRow z.1 f' (c * z.2)) up_row (by rw [List.length_zip]; have : m.length ≤ 4 := hm4; omega) (src_zip (ea_2 up_mat up_row (ev_slot rfl hv) (ev_slot rfl hu)) (fun _ _ => rfl) ?_)).old q
  intro i r x vx vy G' hr' hx eG sx sy
  have hr1 := mem_of_get hr'
  have hx1 : sz x ≤ 2 ^ b := hfb x (mem_of_get hx)
  have hq : sz (c * x) ≤ 2 ^ (d + b) := Nat.le_trans (sz_mul _ _) (by rw [Nat.pow_add]; exact Nat.mul_le_mul hcd hx1)
  have h1 : szL f' ≤ 2 ^ (n * b) := by
    have hfl' : f'.length = n := hfl
    rw [← hfl']
    exact szL_le hfb
  have hnn : n * a ≤ 4 * a := Nat.mul_le_mul_right _ hn4
  have hnb : n * b ≤ 4 * b := Nat.mul_le_mul_right _ hn4
  have hf : Fits (szL r * (szL f' * sz (c * x))) := fitsE (n := n * a + (n * b + (d + b))) (hL _ (by omega)) (by
    rw [Nat.pow_add, Nat.pow_add (2) (n * b)]
    exact Nat.mul_le_mul (hen.szL hr1) (Nat.mul_le_mul h1 hq))
  have hrl : r.length = n := hen.len r hr1
  exact ⟨et_yes, fun _ => (ev_callN (sp := spLess C) (ea_3 up_row up_row up_isR (ev_slot rfl sx) (ev_slot rfl (up_row _ _ _ _ eG hu)) (ev_mulR (ev_slot rfl (up_isR _ _ _ _ eG hw)) (ev_slot rfl sy) (Fits.ok2 (fitsE (n := d + b) (hL _ (by omega)) (by rw [Nat.pow_add]; exact Nat.mul_le_mul hcd hx1))))) fun vs G' e ⟨v, w, u, ev, hv, hw, hu⟩ => Pu.tr (g := (r, f', c * x)) ⟨v, w, u, ev, hv, hw, hu, hf, by show r.length ≤ 100000; omega⟩).old⟩
theorem ev_rowsOf {σ : L2.St} {G : Hp} {ta tb : TE} {n : Nat} {m : List (List Rat)} {i : Nat} (h : Sq n m) (hi : i < n) (h1 : Ev ta σ G (isMat C m)) (h2 : Ev tb σ G (isV (.int (i : Int)))) : Ev (tOp (rIxLT K) ta tb) σ G (isRow C (m.getD i [])) := by
  obtain ⟨r, hr, _⟩ := h.get hi
  rw [getD_at hr]
  exact ev_ixL up_row h1 h2 (atI_nat hr)
def spNext (C : Addr) : Sp := Pu (γ := List (List Rat)) (fun m vs H => ∃ v, vs = [v] ∧ (isMat C m v H ∧ ∃ n e, Sq n m ∧ Sym m ∧ n ≤ 4 ∧ Ents n e m ∧ 1 ≤ e ∧ e ≤ 1000000)) fun m H v G => newL (isSq C) (nextSq m) H v G
theorem c_next_squares (T : Txt P w K mg base C) : C8.Cal P w K mg base 42 "next_squares" (spNext C) [] := by
  refine cal_by T.d_next_squares sc_next_squares (fun _ _ _ _ _ _ us hl => match us, hl with | [_], _ => rfl) len_1 fun f cdv A outer s H vs Q E hr h => ?_
  obtain ⟨m, G, e, ⟨v, rfl, hv, n, ee, hs, hsy, hn4, hen, he1, he⟩, q⟩ := h
  have hL : ∀ x : Nat, x ≤ 100000000 → x + 2 ≤ LIM := fun x hx => by show x + 2 ≤ 130000000; omega
  have hml := hs.len
  have hs' : Sq m.length m := by rw [hml]; exact hs
  have hnext := next_is hs hsy
  refine ⟨_, (pss_cons (ps_set (i := 1) sc_next_squares.nd rfl (by first | exact Or.inl rfl | exact Or.inr rfl) (C8.pe_c (c_single_at T) hr (by decide) rfl (pa_cons (pv 0) pa_nil))) (pss_cons (ps_if (pt_cmpR op_notN (pv 1) pe_non (nomark _)) (pss_one (ps_ret (pe_lst (pa_cons (pe_tup (pa_cons (C8.pe_mt (m_over T) hr (by decide) (C8.pe_mk (k_ratio1 T) hr (by decide) rfl (pa_cons pe_int pa_nil)) (pa_cons (pe_ix (r := rIxLT K) ix_lt (pe_ix (r := rIxLT K) ix_lt (pv 0) (pv 1) (fun _ _ => rfl)) (pv 1) (fun _ _ => rfl)) pa_nil)) (pa_cons (pe_ix (r := rIxLT K) ix_lt (pv 0) (pv 1) (fun _ _ => rfl)) pa_nil))) pa_nil)))) pss_nil) (pss_cons (ps_set (i := 2) sc_next_squares.nd rfl (by first | exact Or.inl rfl | exact Or.inr rfl) (C8.pe_c (c_pair_at T) hr (by decide) rfl (pa_cons (pv 0) pa_nil))) (pss_cons (ps_if (pt_cmpR op_isN (pv 2) pe_non (nomark _)) (pss_one (ps_ret (pe_lst pa_nil))) pss_nil) (pss_cons (ps_par (i := 3) (j := 4) rfl sc_next_squares.nd rfl rfl (by decide) rfl rfl (pa_cons (pe_ix (r := rIxLT K) ix_lt (pv 0) (pe_ix (r := rIxLT K) ix_lt (pv 2) pe_int (fun _ _ => rfl)) (fun _ _ => rfl)) (pa_cons (pe_ix (r := rIxLT K) ix_lt (pv 0) (pe_ix (r := rIxLT K) ix_lt (pv 2) pe_int (fun _ _ => rfl)) (fun _ _ => rfl)) pa_nil)) (by rfl)) (pss_cons (ps_set (i := 5) sc_next_squares.nd rfl (by first | exact Or.inl rfl | exact Or.inr rfl) (C8.pe_mt (m_over T) hr (by decide) (C8.pe_mk (k_ratio1 T) hr (by decide) rfl (pa_cons pe_int pa_nil)) (pa_cons (pe_op (opMul T hr (by decide)) (pe_ix (r := rIxLT K) ix_lt (pv 3) (pe_ix (r := rIxLT K) ix_lt (pv 2) pe_int (fun _ _ => rfl)) (fun _ _ => rfl)) pe_int) pa_nil))) (pss_cons (ps_setLc (i := 6) (own := [("left", 7), ("right", 8)]) (g := gTup K 2 (gCons (gName 7) (gCons (gName 8) gNil))) (tt := tYes) rfl sc_next_squares.nd rfl rfl (sw_true rfl rfl rfl (by kernel_rfl)) (pi_zip (by rfl) T.n_zip (pa_cons (pv 3) (pa_cons (pv 4) pa_nil))) (blkOk_by (own := [("left", 7), ("right", 8)]) (by kernel_rfl)) (fun _ _ _ _ _ => (pg_tup rfl (pgs_cons (pg_name (i := 7) sc_next_squares.nd rfl (by first | exact Or.inl rfl | exact Or.inr rfl)) (pgs_cons (pg_name (i := 8) sc_next_squares.nd rfl (by first | exact Or.inl rfl | exact Or.inr rfl)) pgs_nil)))) (fun _ _ _ _ _ => pts_nil) (fun _ _ _ _ _ => (pe_op (opAdd T hr (by decide)) (pv 7) (pv 8)))) (pss_one (ps_ret (pe_lst (pa_cons (pe_tup (pa_cons (pv 5) (pa_cons (pv 6) pa_nil))) (pa_cons (pe_tup (pa_cons (pe_un (opNeg T hr (by decide)) (pv 5)) (pa_cons (pe_lc (own := [("left", 7), ("right", 8)]) (g := gTup K 2 (gCons (gName 7) (gCons (gName 8) gNil))) (tt := tYes) rfl sc_next_squares.nd (pi_zip (by rfl) T.n_zip (pa_cons (pv 3) (pa_cons (pv 4) pa_nil))) (blkOk_by (own := [("left", 7), ("right", 8)]) (by kernel_rfl)) (fun _ _ _ _ _ => (pg_tup rfl (pgs_cons (pg_name (i := 7) sc_next_squares.nd rfl (by first | exact Or.inl rfl | exact Or.inr rfl)) (pgs_cons (pg_name (i := 8) sc_next_squares.nd rfl (by first | exact Or.inl rfl | exact Or.inr rfl)) pgs_nil)))) (fun _ _ _ _ _ => pts_nil) (fun _ _ _ _ _ => (pe_op (opSub T hr (by decide)) (pv 7) (pv 8)))) pa_nil))) pa_nil)))))))))))), ?_⟩
  refine t_set (P := optOf isNat (singleAt m)) (Grow.rfl e) (find_ev (ev_slot rfl hv) hs' (by omega)) fun vp G1 H1 e1 g1 hvp => ?_
  cases h1 : singleAt m with
  | some p =>
    rw [h1] at hvp
    obtain ⟨_, hp2, hp3, _⟩ := firstFrom_some h1
    have hp : p < n := by omega
    have hpz : at2 m p p ≠ 0 := nz_ne hp3
    obtain rfl : vp = .int (p : Int) := hvp.2
    refine q_take g1 (EvT.is (et_test (ev_notN (o := some p) up_nat (ev_slot rfl hvp))) rfl) fun H2 g2 => ?_
    have hv1 := up_mat _ _ _ _ g1.kn hv
    have e1 : nextSq m = [(1 / at2 m p p, m.getD p [])] := by unfold nextSq; rw [h1]
    refine s_ret g2 (ev_lst up_sq (zs := nextSq m) (by rw [e1]; simp) (by
      rw [e1]
      exact ea_consR up_sq (ev_pair up_isR up_row (ev_over (p := 1) (ev_mk1 (a := 1) ev_c) (Tr.num (at_ev hs hp hp (ev_slot rfl hv1) (ev_var rfl) (ev_var rfl))) hpz (Fits.ok2 (fitsE (n := 1 + ee) (hL _ (by omega)) (by rw [Nat.pow_add]; exact Nat.mul_le_mul (Nat.le_of_eq sz_one) (at2_le hen p p))))) (ev_rowsOf hs hp (ev_slot rfl hv1) (ev_var rfl))) ea_nilR)) fun v' G' H' g p => q v' G' H' g ?_
    exact newL_base g1.kn p
  | none =>
    rw [h1] at hvp
    obtain rfl : vp = .non := hvp
    refine q_skip g1 (EvT.is (et_test (ev_notN (o := (none : Option Nat)) up_nat (ev_slot (R := optOf isNat) (x := none) rfl rfl))) rfl) fun H2 g2 => ?_
    refine t_set (P := optOf isPlaces (pairAt m)) g2 (find_ev (ev_slot rfl (up_mat _ _ _ _ g1.kn hv)) hs' (by omega)) fun vq G3 H3 e3 g3 hvq => ?_
    cases h2 : pairAt m with
    | none =>
      rw [h2] at hvq
      obtain rfl : vq = .non := hvq
      refine q_take g3 (EvT.is (et_test (ev_isN (o := (none : Option (Nat × Nat))) up_places (ev_slot (R := optOf isPlaces) (x := none) rfl rfl))) rfl) fun H4 g4 => ?_
      have e1 : nextSq m = [] := by unfold nextSq; rw [h1, h2]
      exact s_ret g4 (ev_lst up_sq (zs := nextSq m) (by rw [e1]; simp) (by rw [e1]; exact ea_nilR)) fun v' G' H' g p => q v' G' H' g (newL_base g3.kn p)
    | some pq =>
      obtain ⟨p, r⟩ := pq
      rw [h2] at hvq
      obtain ⟨_, h4, h5⟩ := pairFrom_some h2
      obtain ⟨h6, h7, h8, _⟩ := firstFrom_some h5
      have hp : p < n := by simp at h4; omega
      have hr2 : r < n := by simp at h4 h7; omega
      have hpz : at2 m p r ≠ 0 := nz_ne h8
      have e1 : nextSq m = [(half m p r, addRows (m.getD p []) (m.getD r [])), (-half m p r, subRows (m.getD p []) (m.getD r []))] := by unfold nextSq; rw [h1, h2]
      refine q_skip g3 (EvT.is (et_test (ev_isN (o := some (p, r)) up_places (ev_slot rfl hvq))) rfl) fun H4 g4 => ?_
      have hv3 := up_mat _ _ _ _ g3.kn hv
      have i0 : ∀ {σ : L2.St}, σ[2]? = some (some vq) → Ev (tOp (rIxLT K) (tVar 2) (tC (.int 0))) σ G3 (isV (.int (p : Int))) := fun hs => ev_ix0 (z := (p, r)) up_nat up_nat (ev_slot hs hvq.2) ev_c
      have i1 : ∀ {σ : L2.St}, σ[2]? = some (some vq) → Ev (tOp (rIxLT K) (tVar 2) (tC (.int 1))) σ G3 (isV (.int (r : Int))) := fun hs => ev_ix1 (z := (p, r)) up_nat up_nat (ev_slot hs hvq.2) ev_c
      refine t_par up_row up_row g4 (ev_rowsOf hs hp (ev_slot rfl hv3) (i0 rfl)) (ev_rowsOf hs hr2 (ev_slot rfl hv3) (i1 rfl)) fun vo vt G5 H5 e5 g5 hvo hvt => ?_
      have hrl := hs.rowLen hp
      have hrl2 := hs.rowLen hr2
      have ha2 := at2_le hen p r
      have hm2 : sz (at2 m p r * 2) ≤ 2 ^ (ee + 2) := Nat.le_trans (sz_mul _ _) (by rw [Nat.pow_add]; exact Nat.mul_le_mul ha2 sz_two)
      have hm2z : at2 m p r * 2 ≠ 0 := by grind
      have i1' : ∀ {σ : L2.St}, σ[2]? = some (some vq) → Ev (tOp (rIxLT K) (tVar 2) (tC (.int 1))) σ G5 (isV (.int (r : Int))) := fun hs => ev_ix1 (z := (p, r)) up_nat up_nat (ev_slot hs (up_places _ _ _ _ e5 hvq.2)) ev_c
      have hxi : (m.getD p [])[r]? = some (at2 m p r) := by
        rw [at2_row, getD_at (List.getElem?_eq_getElem (show r < (m.getD p []).length by omega))]
        exact List.getElem?_eq_getElem (by omega)
      refine t_set (P := isR C (half m p r)) g5 (ev_over (p := 1) (ev_mk1 (a := 1) ev_c) (Tr.num (ev_mulN (q := 2) (ev_ixL up_isR (ev_slot rfl hvo) (i1' rfl) (atI_nat hxi)) (Tr.imp (ev_c (v := .int 2)) fun _ _ _ h => .inl ⟨2, h, rfl⟩) (Fits.ok2 (fitsE (n := ee + 2) (hL _ (by omega)) (by rw [Nat.pow_add]; exact Nat.mul_le_mul ha2 sz_two))))) hm2z (Fits.ok2 (fitsE (n := 1 + (ee + 2)) (hL _ (by omega)) (by rw [Nat.pow_add]; exact Nat.mul_le_mul (Nat.le_of_eq sz_one) hm2)))) fun vh G6 H6 e6 g6 hvh => ?_
      have hru := row_le hen (i := p) (by omega)
      have hrv := row_le hen (i := r) (by omega)
      have fz : ∀ {x y : Rat} {i : Nat}, (m.getD p [])[i]? = some x → (m.getD r [])[i]? = some y → Ok2 x y := fun {x y i} h1 h2 => Fits.ok2 (fitsE (n := ee + ee) (hL _ (by omega)) (by rw [Nat.pow_add]; exact Nat.mul_le_mul (hru _ (mem_of_get h1)) (hrv _ (mem_of_get h2))))
      have hvo6 := up_row _ _ _ _ e6 hvo
      have hvt6 := up_row _ _ _ _ e6 hvt
      refine t_set (P := isRow C (addRows (m.getD p []) (m.getD r []))) g6 (ev_lc (f := fun z : Rat × Rat => z.1 + z.2) up_isR (by rw [List.length_zip]; omega) (src_zip (ea_2 up_row up_row (ev_slot rfl hvo6) (ev_slot rfl hvt6)) (fun _ _ => rfl) fun i x y vx vy G' hx hy eG sx sy => ⟨et_yes, fun _ => ev_addR (ev_slot rfl sx) (ev_slot rfl sy) (fz hx hy)⟩)).old fun vb G7 H7 e7 g7 hvb => ?_
      have hvh7 := up_isR _ _ _ _ e7 hvh
      have hvo7 := up_row _ _ _ _ e7 hvo6
      have hvt7 := up_row _ _ _ _ e7 hvt6
      refine s_ret g7 (ev_lst up_sq (zs := nextSq m) (by rw [e1]; simp) (by
        rw [e1]
        exact ea_consR up_sq (ev_pair up_isR up_row (ev_slot rfl hvh7) (ev_slot rfl hvb)) (ea_consR up_sq (ev_pair up_isR up_row (ev_negR (ev_slot rfl hvh7)) (ev_lc (f := fun z : Rat × Rat => z.1 - z.2) up_isR (by rw [List.length_zip]; omega) (src_zip (ea_2 up_row up_row (ev_slot rfl hvo7) (ev_slot rfl hvt7)) (fun _ _ => rfl) fun i x y vx vy G' hx hy eG sx sy => ⟨et_yes, fun _ => ev_subR (ev_slot rfl sx) (ev_slot rfl sy) (fz hx hy)⟩)).old) ea_nilR))) fun v' G' H' g p => q v' G' H' g (newL_base g7.kn p)
end
end On
set_option Elab.async false
set_option linter.all false
set_option maxRecDepth 100000
set_option maxHeartbeats 4000000
/-! squares_in. -/
namespace On
open PySem PySem.Spec PyProof.Rows L2
section
variable {K : PySem.W.Frag} {σ : L2.St} {G0 H1 G H M : Hp} {te ta tb : TE} {P : V → Hp → Prop} {D : Ends} {tz : TS} {C : Addr} {Q : VK} {γ δ : Type} {R : γ → V → Hp → Prop} {S : δ → V → Hp → Prop} {x : γ} {y : δ}
/-- what is not known and stands stays unknown -/
theorem fin_y (g : Grow G0 H1 G H) (h : Ev te σ G P) (k : ∀ v G' H', Grow G H G' H' → Grow G0 H1 G' H' → P v G' → Q v H') : te σ H Q := h H g.re _ fun v G' H3 g' p => k v G' H3 g' (g.trans g') p
theorem n_set {i : Nat} (g : Grow G0 H1 G H) (h : Ev te σ G P) (k : ∀ v G' H', Grow G H G' H' → Grow G0 H1 G' H' → P v G' → tz D (σ.set i (some v)) H') : tSeq (tAsg te (gName i)) tz D σ H := fin_y (Q := fun v H' => tz D (σ.set i (some v)) H') g h k
theorem n_setz {i : Nat} (g : Grow G0 H1 G H) (h : Ev te σ G P) (k : ∀ v G' H', Grow G H G' H' → Grow G0 H1 G' H' → P v G' → D.nx (σ.set i (some v)) H') : tAsg te (gName i) D σ H := fin_y (Q := fun v H' => D.nx (σ.set i (some v)) H') g h k
theorem Grow.away {G' H' : Hp} {a : Addr} {o : HO} (g : Grow G H G' H') (h : G a = none) (ha : H a = some o) : G' a = none := g.fr a h (by rw [ha]; exact Option.some_ne_none _)
/-- xs, y = [], e: the new list stays unknown -/
theorem t_parN {i j : Nat} (g : Grow G0 H1 G H) (hb : Ev tb σ G P) (k : ∀ a w G' H', H1 a = none → G a = none → G' a = none → H' a = some (.lst []) → Ex G G' → Grow G0 H1 G' H' → P w G' → tz D ((σ.set i (some (.ref a))).set j (some w)) H') :
    tSeq (tPar i j (tCons (tLst tNil) (tCons tb tNil))) tz D σ H := ⟨Nat.zero_le _, fun p hp => hb (upd H p (.lst [])) (g.trans (Grow.hid g.re hp)).re _ fun w G' H3 g' pw =>
      ⟨.ref p, w, rfl, k p w G' H3 (g.ol.back hp) (g.re.back hp) (g'.fr p (g.re.back hp) (by rw [upd_same]; exact Option.some_ne_none _)) (g'.ol _ _ upd_same) g'.kn ((g.trans (Grow.hid g.re hp)).trans g') pw⟩⟩
/-- xs = []: the new list stays unknown -/
theorem t_setN {i : Nat} (g : Grow G0 H1 G H) (k : ∀ a H', H1 a = none → G a = none → H' a = some (.lst []) → Grow G0 H1 G H' → tz D (σ.set i (some (.ref a))) H') :
    tSeq (tAsg (tLst tNil) (gName i)) tz D σ H := ⟨Nat.zero_le _, fun p hp => k p _ (g.ol.back hp) (g.re.back hp) upd_same (g.trans (Grow.hid g.re hp))⟩
end
section
variable {P : Program} {w : World} {K : PySem.W.Frag} {mg : Str → Option Value} {base : Heap} {C : Addr}
theorem lessAll_take {m : List (List Rat)} {l : List (Rat × List Rat)} {j : Nat} {z : Rat × List Rat} (h : l[j]? = some z) : lessAll m (l.take (j + 1)) = lessSq (lessAll m (l.take j)) z.1 z.2 := by
  unfold lessAll
  rw [take_snoc h, List.foldl_append]
  rfl
def spSquares (C : Addr) : Sp := Pu (γ := List (List Rat)) (fun m vs H => ∃ v, vs = [v] ∧ (isMat C m v H ∧ ∃ n e, Sq n m ∧ Sym m ∧ n ≤ 4 ∧ Ents n e m ∧ 1 ≤ e ∧ e ≤ 1000)) fun m H v G => lstOf (isSq C) (squaresIn m) v G
theorem c_squares_in (T : Txt P w K mg base C) : C8.Cal P w K mg base 43 "squares_in" (spSquares C) [] := by
  refine cal_by T.d_squares_in sc_squares_in (fun _ _ _ _ _ _ us hl => match us, hl with | [_], _ => rfl) len_1 fun f cdv A outer s H vs Q E hr h => ?_
  obtain ⟨m, G, e, ⟨v, rfl, hv, n, ee, hs, hsy, hn4, hen, he1, he⟩, q⟩ := h
  refine ⟨_, (pss_cons (ps_par (i := 1) (j := 2) rfl sc_squares_in.nd rfl rfl (by decide) rfl rfl (pa_cons (pe_lst pa_nil) (pa_cons (C8.pe_c (c_next_squares T) hr (by decide) rfl (pa_cons (pv 0) pa_nil)) pa_nil)) (by rfl)) (pss_cons (ps_while PassesOwn.never (pt_cmpR (cmNe T hr (by decide)) (pv 2) (pe_lst pa_nil) (nomark _)) (pss_cons (ps_for PassesOwn.never rfl (pi_list (pv 2)) (pg_tup rfl (pgs_cons (pg_name (i := 3) sc_squares_in.nd rfl (by first | exact Or.inl rfl | exact Or.inr rfl)) (pgs_cons (pg_name (i := 4) sc_squares_in.nd rfl (by first | exact Or.inl rfl | exact Or.inr rfl)) pgs_nil))) (pss_one (ps_set (i := 0) sc_squares_in.nd rfl (by first | exact Or.inl rfl | exact Or.inr rfl) (C8.pe_c (c_less_square T) hr (by decide) rfl (pa_cons (pv 0) (pa_cons (pv 3) (pa_cons (pv 4) pa_nil))))))) (pss_cons (ps_expr (pe_bm PySem.F.plainAttrs_list PySem.F.slot_list_extend PySem.F.type_list_extend mt_extend (pv 1) (pa_cons (pv 2) pa_nil))) (pss_one (ps_set (i := 2) sc_squares_in.nd rfl (by first | exact Or.inl rfl | exact Or.inr rfl) (C8.pe_c (c_next_squares T) hr (by decide) rfl (pa_cons (pv 0) pa_nil))))))) (pss_one (ps_ret (pv 1))))), ?_⟩
  have next : ∀ {σ : L2.St} {G' : Hp} {mc : List (List Rat)} {rv : V} {E : Nat}, σ[0]? = some (some rv) → isMat C mc rv G' → Sq n mc → Sym mc → Ents n E mc → 1 ≤ E → E ≤ 1000000 → Ev (tCall (spNext C) [] E0 (tCons (tVar 0) tNil)) σ G' (lstOf (isSq C) (nextSq mc)) := fun {σ G' mc rv E} h0 hv h1 h2 h3 h4 h5 =>
    (ev_callN (sp := spNext C) (R := isSq C) (zs := nextSq mc) (ea_1 (ev_slot h0 hv)) fun vs G' e ⟨v, ev, hv⟩ => Pu.tr (g := mc) ⟨v, ev, hv, n, E, h1, h2, hn4, h3, h4, h5⟩).old
  refine t_parN (Grow.rfl e) (next rfl hv hs hsy hen he1 (by omega)) ?_
  rintro a mv G2 H2 h1a hga0 hga ha e2 g2 hmv
  refine q_while (fun k σ G' H' => ∃ mc fnd rv mv xs o3 o4, σ = [some rv, some (.ref a), some mv, o3, o4] ∧ isMat C mc rv G' ∧ lstOf (isSq C) (nextSq mc) mv G' ∧ H' a = some (.lst xs) ∧ G' a = none ∧ All2 (fun x z => isSq C z x G') xs fnd ∧ Sq n mc ∧ Sym mc ∧ Ents n (4 ^ fnd.length * ee) mc ∧ nzRows mc + fnd.length ≤ n ∧ sqLoop k mc fnd = squaresIn m ∧ nzRows mc + 1 ≤ k)
    (m.length + 1) g2 ⟨m, [], v, mv, [], _, _, rfl, up_mat _ _ _ _ e2 hv, hmv, ha, hga, .nil, hs, hsy, by show Ents n (1 * ee) m; rw [Nat.one_mul]; exact hen, by show nzRows m + 0 ≤ n; have := nzRows_le m; have := hs.len; omega, rfl, by have := nzRows_le m; omega⟩ ?_
  rintro k σ G3 H3 g3 ⟨mc, fnd, rv, mv, xs, o3, o4, rfl, hmc, hmv, ha, hga, hall, hs, hsy, hen, hnz, hk, hk1⟩
  obtain ⟨k, rfl⟩ : ∃ k', k = k' + 1 := ⟨k - 1, by omega⟩
  have hnext := next_is hs hsy
  have hst := next_step hs hsy hnext
  have hfl : fnd.length ≤ 4 := by omega
  have hE1 : 1 ≤ 4 ^ fnd.length * ee := Nat.mul_pos (Nat.pow_pos (by decide)) (by omega)
  have hp4 : (4 : Nat) ^ fnd.length ≤ 256 := Nat.le_trans (Nat.pow_le_pow_right (by decide) hfl) (by decide)
  have hE2 : 4 ^ fnd.length * ee ≤ 256 * 1000 := Nat.mul_le_mul hp4 he
  have hsz := step_sz hs hen hE1 hnext
  refine ⟨!(nextSq mc).isEmpty, et_test (ev_neNil up_sq (ev_slot rfl hmv)), fun hb H4 g4 eH4 N hN => ?_, fun hb H4 g4 eH4 => ?_⟩
  · have hne : nextSq mc ≠ [] := fun z => by rw [z] at hb; cases hb
    have hloop : sqLoop k (lessAll mc (nextSq mc)) (fnd ++ nextSq mc) = squaresIn m := by
      rw [← hk]
      show _ = (match nextSq mc with | [] => fnd | z :: l => sqLoop k (lessAll mc (z :: l)) (fnd ++ z :: l))
      cases hq : nextSq mc with
      | nil => exact absurd hq hne
      | cons z l => rfl
    have hfall := hst.fall hne
    have h2 := hsz.two
    refine q_forPv (i := 2) up_isR up_row g4 rfl hmv (fun j σ G' H' => ∃ rv o3 o4, σ = [some rv, some (.ref a), some mv, o3, o4] ∧ isMat C (lessAll mc ((nextSq mc).take j)) rv G' ∧ H' a = some (.lst xs) ∧ G' a = none) ⟨rv, _, _, rfl, hmc, eH4 _ _ ha, hga⟩ ?_ ?_
    · rintro j z x y σ' G5 H5 hz hx hy e5 g5 ⟨rv', o3', o4', rfl, hm5, ha5, hga5⟩ N2 hN2
      obtain ⟨hq5, hen5⟩ := hsz.mid j
      have hzm := mem_of_get hz
      refine n_setz (P := isMat C (lessSq (lessAll mc ((nextSq mc).take j)) z.1 z.2)) g5 (ev_call (sp := spLessSq C) (ea_3 up_mat up_isR up_row (ev_slot rfl hm5) (ev_slot rfl hx) (ev_slot rfl hy)) fun vs G' e ⟨v, w, u, ev, hv, hw, hu⟩ => Pu.tr (g := (_, z.1, z.2)) ⟨v, w, u, ev, hv, hw, hu, n, _, _, _, hen5, by show (lessAll mc ((nextSq mc).take j)).length ≤ 4; rw [hq5.len]; exact hn4, hn4, hst.forms z hzm, hsz.form z hzm, hsz.num z hzm, by omega, by omega, by omega⟩) fun rv2 G6 H6 g6' g6 hm6 => ?_
      refine hN2 _ G6 H6 g6'.kn g6 ⟨rv2, _, _, rfl, ?_, g6'.ol _ _ ha5, g6'.away hga5 ha5⟩
      rw [lessAll_take hz]
      exact hm6
    · rintro σ' G5 H5 e5 g5 ⟨rv', o3', o4', rfl, hm5, ha5, hga5⟩
      rw [List.take_length] at hm5
      have hlen := hall.len
      refine ext_m (R := isSq C) (i := 1) (k := 2) g5 rfl ha5 (by rw [hlen]; omega) h1a hga5 rfl (up_lst up_sq _ _ _ _ e5 hmv) fun ys hys g6 => ?_
      have hend : Ents n (4 ^ (fnd ++ nextSq mc).length * ee) (lessAll mc (nextSq mc)) := by
        rw [List.length_append, Nat.pow_add, Nat.mul_comm (4 ^ fnd.length), Nat.mul_assoc]
        exact hsz.fin
      have hl4 : (fnd ++ nextSq mc).length ≤ 4 := by rw [List.length_append]; omega
      have hp4' : (4 : Nat) ^ (fnd ++ nextSq mc).length ≤ 256 := Nat.le_trans (Nat.pow_le_pow_right (by decide) hl4) (by decide)
      have hE2' : 4 ^ (fnd ++ nextSq mc).length * ee ≤ 256 * 1000 := Nat.mul_le_mul hp4' he
      refine n_setz g6 (next rfl hm5 hst.sq hst.sym hend (Nat.mul_pos (Nat.pow_pos (by decide)) (by omega)) (by omega)) fun mv2 G7 H7 g7' g7 hmv2 => ?_
      refine hN k _ G7 H7 (Nat.lt_succ_self k) g7 ⟨lessAll mc (nextSq mc), fnd ++ nextSq mc, rv', mv2, xs ++ ys, _, _, rfl, up_mat _ _ _ _ g7'.kn hm5, hmv2, g7'.ol _ _ upd_same, g7'.away hga5 upd_same, ?_, hst.sq, hst.sym, hend, by rw [List.length_append]; omega, hloop, ?_⟩
      · exact (hall.mono fun _ _ r => up_sq _ _ _ _ (e5.trans g7'.kn) r).append (hys.mono fun _ _ r => up_sq _ _ _ _ g7'.kn r)
      · have : 1 ≤ (nextSq mc).length := by
          cases hq : nextSq mc with
          | nil => exact absurd hq hne
          | cons z l => simp
        omega
  · have hnil : nextSq mc = [] := by
      cases hq : nextSq mc with
      | nil => rfl
      | cons z l => rw [hq] at hb; cases hb
    have hres : fnd = squaresIn m := by
      rw [← hk]
      show fnd = (match nextSq mc with | [] => fnd | z :: l => sqLoop k (lessAll mc (z :: l)) (fnd ++ z :: l))
      rw [hnil]
    have s1 := g4.see h1a hga (eH4 _ _ ha)
    refine s_ret s1 (ev_slot (i := 1) (R := lstOf (isSq C)) (x := fnd) rfl ⟨a, xs, rfl, upd_same, hall.mono fun _ _ r => up_sq _ _ _ _ (Ex.new hga) r⟩) fun v' G5 H5 g5 p => q v' G5 H5 g5 ?_
    show lstOf (isSq C) (squaresIn m) v' G5
    rw [← hres]
    exact p
end
end On
set_option Elab.async false
set_option linter.all false
set_option maxRecDepth 100000
set_option maxHeartbeats 4000000
/-! list(zip(xs, ys)). -/
namespace On
open PySem PySem.Spec PyProof.Rows L2
theorem zip_no_len : typeLookup (.type "zip") "__len__" = pure none := by rw [typeLookup_type, builtinLookup_eq_fast]; kernel_rfl
theorem zip_no_hint : typeLookup (.type "zip") "__length_hint__" = pure none := by rw [typeLookup_type, builtinLookup_eq_fast]; kernel_rfl
/-- the zip at its turn i -/
def ZSt (z TI TO i1 i2 l1 l2 : Addr) (i : Nat) (h : Heap) : Prop := IsPair h TI (.ref i1) (.ref i2) ∧ h.IsListIter i1 l1 i ∧ h.IsListIter i2 l2 i ∧
  ((IsZip h z TI TO .none ∧ ∃ a b, IsPair h TO a b) ∨ ∃ T f oT, IsZipHeld h z TI TO T f ∧ h.get? T = some oT ∧ T ≠ z ∧ T ≠ i1 ∧ T ≠ i2)
theorem ZSt.there {z TI TO i1 i2 l1 l2 : Addr} {i : Nat} {h : Heap} (st : ZSt z TI TO i1 i2 l1 l2 i h) : ∀ b ∈ [z, TI, i1, i2], b < h.objs.size := fun b hb => by
  obtain ⟨hTI, ⟨o1, h1, _⟩, ⟨o2, h2, _⟩, hz⟩ := st
  have hzz : z < h.objs.size := by
    rcases hz with ⟨hz, _⟩ | ⟨T, f, oT, hz, _⟩
    · exact Heap.lt_size hz
    · exact Heap.lt_size hz
  simp only [List.mem_cons, List.not_mem_nil, or_false] at hb
  rcases hb with rfl | rfl | rfl | rfl
  · exact hzz
  · exact Heap.lt_size hTI
  · exact Heap.lt_size h1
  · exact Heap.lt_size h2
section
variable {X : Cx} {A : Around} {pins : List (Addr × Obj)} {σ : L2.St} {R : Result → Shared → Prop} {z TI TO i1 i2 l1 l2 S : Addr} {xs ys : List V} {res : Value}
theorem vals_snoc {vs : List V} {us : List Value} (r : Vals vs us) {T : Addr} : Vals (vs ++ [.ref T]) (us ++ [.ref T]) := r.append (.cons rfl .nil)
/-- one turn: the item, tracked -/
theorem zip_turn {E : Value → Shared → Prop} {Q : Option Value → Shared → Prop} {i : Nat} {s : Shared} {H : Hp} {x y : V} (D : ZipApart z TI TO i1 i2 l1 l2) (I : Inv X pins σ H s) (hf : ∀ b ∈ [z, TI, TO, i1, i2], FpOk X pins H b) (st : ZSt z TI TO i1 i2 l1 l2 i s.heap)
    (h1 : H l1 = some (.lst xs)) (h2 : H l2 = some (.lst ys)) (hx : xs[i]? = some x) (hy : ys[i]? = some y)
    (hQ : ∀ h', H s.heap.objs.size = none → Inv X pins σ (upd H s.heap.objs.size (.tup [x, y])) { s with heap := h' } → ZSt z TI TO i1 i2 l1 l2 (i + 1) h' → h'.objs.size = s.heap.objs.size + 1 → (∀ c o, c ∉ [z, TI, TO, i1, i2] → s.heap.get? c = some o → h'.get? c = some o) → Q (some (.ref s.heap.objs.size)) { s with heap := h' }) :
    wpAny (model X.prog X.w) A (pyNext (.ref z)) Q E s := by
  obtain ⟨its, n, rv, e1, hz1⟩ := I.lst h1
  obtain ⟨its2, n2, rv2, e2, hz2⟩ := I.lst h2
  obtain ⟨u, hu, ru⟩ := rv.get hx
  obtain ⟨u2, hu2, ru2⟩ := rv2.get hy
  have p1 : s.heap.IsList l1 its.toArray := ⟨_, e1, rfl, n, rfl⟩
  have p2 : s.heap.IsList l2 its2.toArray := ⟨_, e2, rfl, n2, rfl⟩
  have fin : ∀ h', IsPair h' s.heap.objs.size u u2 → h'.objs.size = s.heap.objs.size + 1 → (∀ c o, c ∉ [z, TI, TO, i1, i2] → s.heap.get? c = some o → h'.get? c = some o) → Inv X pins σ (upd H s.heap.objs.size (.tup [x, y])) { s with heap := h' } := fun h' hT _ hk =>
    I.turnedNew (t' := s.toks) (ch := [z, TI, TO, i1, i2]) hk hf (Nat.le_refl _) ⟨by show 2 ≤ sizeLine; decide, [u, u2], .cons ru (.cons ru2 .nil), ⟨_, hT, rfl, _, rfl⟩⟩
  have hn := I.hok.fresh (Nat.le_refl s.heap.objs.size)
  have lt : ∀ {c o}, s.heap.get? c = some o → s.heap.objs.size ≠ c := fun e => Nat.ne_of_gt (Heap.lt_size e)
  obtain ⟨hTI, s1, s2, hz⟩ := st
  have n1 : s.heap.objs.size ≠ i1 := let ⟨_, e, _⟩ := s1; lt e
  have n2' : s.heap.objs.size ≠ i2 := let ⟨_, e, _⟩ := s2; lt e
  rcases hz with ⟨hz, a, b, hTO⟩ | ⟨T, f, oT, hz, hT, r1, r2, r3⟩
  · refine wpAny_pyNext_zip_item D hz hTI hTO s1 s2 p1 p2 (x := u) (y := u2) (by simpa using hu) (by simpa using hu2) fun h' a1 a2 a3 a4 a5 a6 hk => ?_
    have hk' : ∀ c o, c ∉ [z, TI, TO, i1, i2] → s.heap.get? c = some o → h'.get? c = some o := fun c o hc e => hk c o (fun x => hc (by simp [x])) (fun x => hc (by simp [x])) (fun x => hc (by simp [x])) (fun x => hc (by simp [x])) e
    exact hQ h' hn (fin h' a5 a6 hk') ⟨hk _ _ D.TIz D.TITO D.TIi1 D.TIi2 hTI, a3, a4, .inr ⟨_, false, _, a1, a5, lt hz, n1, n2'⟩⟩ a6 hk'
  · refine wpAny_pyNext_zip_item_held D hz hT hTI s1 s2 p1 p2 (x := u) (y := u2) (by simpa using hu) (by simpa using hu2) fun h' a1 a3 a4 a5 a6 hk => ?_
    have hk' : ∀ c o, c ∉ [z, TI, TO, i1, i2] → s.heap.get? c = some o → h'.get? c = some o := fun c o hc e => hk c o (fun x => hc (by simp [x])) (fun x => hc (by simp [x])) (fun x => hc (by simp [x])) e
    exact hQ h' hn (fin h' a5 a6 hk') ⟨hk _ _ D.TIz D.TIi1 D.TIi2 hTI, a3, a4, .inr ⟨T, true, oT, a1, hk _ _ r1 r2 r3 hT, r1, r2, r3⟩⟩ a6 hk'
theorem zip_end {E : Value → Shared → Prop} {Q : Option Value → Shared → Prop} {i : Nat} {s : Shared} {H : Hp} (hh : A.handled = none) (D : ZipApart z TI TO i1 i2 l1 l2) (I : Inv X pins σ H s) (hf : ∀ b ∈ [z, TI, TO, i1, i2], FpOk X pins H b) (st : ZSt z TI TO i1 i2 l1 l2 i s.heap)
    (h1 : H l1 = some (.lst xs)) (h2 : H l2 = some (.lst ys)) (he : xs.length ≤ i ∨ ys.length ≤ i) (hQ : ∀ h', Inv X pins σ H { s with heap := h' } → Q none { s with heap := h' }) :
    wpAny (model X.prog X.w) A (pyNext (.ref z)) Q E s := by
  obtain ⟨its, n, rv, e1, hz1⟩ := I.lst h1
  obtain ⟨its2, n2, rv2, e2, hz2⟩ := I.lst h2
  have p1 : s.heap.IsList l1 its.toArray := ⟨_, e1, rfl, n, rfl⟩
  have p2 : s.heap.IsList l2 its2.toArray := ⟨_, e2, rfl, n2, rfl⟩
  have q1 := rv.length
  have q2 := rv2.length
  have hend : its.toArray[i]? = none ∨ its2.toArray[i]? = none := by
    rcases he with q | q
    · exact .inl (by simp; omega)
    · exact .inr (by simp; omega)
  have fin : ∀ h', (∀ c o, c ∉ [z, TI, TO, i1, i2] → s.heap.get? c = some o → h'.get? c = some o) → Inv X pins σ H { s with heap := h' } := fun h' hk => I.turnedL (t' := s.toks) (ch := [z, TI, TO, i1, i2]) hk hf
  obtain ⟨hTI, s1, s2, hz⟩ := st
  rcases hz with ⟨hz, a, b, hTO⟩ | ⟨T, f, oT, hz, hT, r1, r2, r3⟩
  · exact wpAny_pyNext_zip_end hh D hz hTI hTO s1 s2 p1 p2 hend fun h' hk => hQ h' (fin h' fun c o hc e => hk c o (fun x => hc (by simp [x])) (fun x => hc (by simp [x])) (fun x => hc (by simp [x])) (fun x => hc (by simp [x])) e)
  · exact wpAny_pyNext_zip_end_held hh D hz hT hTI s1 s2 p1 p2 hend fun h' hk => hQ h' (fin h' fun c o hc e => hk c o (fun x => hc (by simp [x])) (fun x => hc (by simp [x])) (fun x => hc (by simp [x])) e)
/-- what the loop leaves -/
def Zipped (H H' : Hp) (S : Addr) (xs ys : List V) (ts0 ts : List Addr) (i : Nat) : Prop :=
  (∀ a o, a ≠ S → H a = some o → H' a = some o) ∧ H' S = some (.lst (ts.map V.ref)) ∧ ts.length = min xs.length ys.length ∧ (∀ j t, j < i → ts0[j]? = some t → ts[j]? = some t) ∧
  (∀ j x y, i ≤ j → xs[j]? = some x → ys[j]? = some y → ∃ t, ts[j]? = some t ∧ t ≠ S ∧ H t = none ∧ H' t = some (.tup [x, y]))
theorem zip_loop (hh : A.handled = none) (D : ZipApart z TI TO i1 i2 l1 l2) (hn : min xs.length ys.length ≤ 100000) : ∀ (k i : Nat) (s : Shared) (H : Hp) (ts : List Addr), min xs.length ys.length - i = k → i ≤ min xs.length ys.length → Inv X pins σ H s → (∀ b ∈ [z, TI, TO, i1, i2], FpOk X pins H b) → ZSt z TI TO i1 i2 l1 l2 i s.heap →
    TO < s.heap.objs.size → H S = some (.lst (ts.map V.ref)) → ts.length = i → S ≠ l1 → S ≠ l2 → H l1 = some (.lst xs) → H l2 = some (.lst ys) →
    (∀ s' H' ts', Inv X pins σ H' s' → Zipped H H' S xs ys ts ts' i → R (.ok (.ret res)) s') →
    codeAny (model X.prog X.w) A (.builtin "list.extend.loop" ⟨[.ref S, .ref z, res], []⟩) R s := by
  intro k
  induction k with
  | zero =>
    intro i s H ts hk hi I hf st hTO hS hl n1 n2 h1 h2 hR
    refine codeAny_builtin F.entry_extend_loop ?_
    rw [Around.under_plainId F.plain_extend_loop _]
    show wpAny _ A.in1 (pyNext (.ref z) >>= _) _ _ s
    refine wpAny_bind (zip_end (A := A.in1) hh D I hf st h1 h2 (by omega) fun h' I' => ?_)
    refine wpAny_pure (hR _ H ts I' ⟨fun a o _ e => e, hS, by omega, fun j t _ e => e, fun j x y hj hx hy => ?_⟩)
    have a1 := (List.getElem?_eq_some_iff.mp hx).1
    have a2 := (List.getElem?_eq_some_iff.mp hy).1
    omega
  | succ k ih =>
    intro i s H ts hk hi I hf st hTO hS hl n1 n2 h1 h2 hR
    have hlx : i < xs.length := by omega
    have hly : i < ys.length := by omega
    refine codeAny_builtin F.entry_extend_loop ?_
    rw [Around.under_plainId F.plain_extend_loop _]
    show wpAny _ A.in1 (pyNext (.ref z) >>= _) _ _ s
    refine wpAny_bind (zip_turn (A := A.in1) D I hf st h1 h2 (List.getElem?_eq_getElem hlx) (List.getElem?_eq_getElem hly) fun h' hT I' st' hsz hk' => ?_)
    have hST : S ≠ s.heap.objs.size := fun q => by rw [q, hT] at hS; cases hS
    have hS' : (upd H s.heap.objs.size (.tup [xs[i], ys[i]])) S = some (.lst (ts.map V.ref)) := by rw [upd_ne hST]; exact hS
    obtain ⟨its, n, rv, e1, hz1⟩ := I'.lst hS'
    have hlen := rv.length
    rw [List.length_map] at hlen
    show wpAny _ A.in1 (updateSeq S (·.push (Value.ref s.heap.objs.size)) >>= _) _ _ _
    refine wpAny_bind (wpAny_updateSeq e1 rfl ?_ (by rw [List.size_toArray]; exact Nat.le_trans (show its.length ≤ 100000 by omega) (by show _ ≤ 2 ^ 24; decide)) (by show (its.toArray.push _).size ≤ sizeLine + 1; rw [Array.size_push, List.size_toArray]; exact Nat.le_trans (show its.length + 1 ≤ 100001 by omega) (by show _ ≤ 2 ^ 24 + 1; decide)))
    have I2 := I'.lset (t' := s.toks) (f := (·.push (Value.ref s.heap.objs.size))) (ys := ts.map V.ref ++ [.ref s.heap.objs.size]) (its' := its ++ [.ref s.heap.objs.size]) hS' e1 (by simp) (vals_snoc rv) (by rw [List.length_append, List.length_map]; exact Nat.le_trans (show ts.length + 1 ≤ 100001 by omega) (by show _ ≤ 2 ^ 24; decide))
    have nS : ∀ b ∈ [z, TI, TO, i1, i2], b ≠ S := fun b hb q => by
      have := (hf b hb).1
      rw [q, hS] at this
      cases this
    have nT : ∀ b ∈ [z, TI, TO, i1, i2], b ≠ s.heap.objs.size := fun b hb => by
      have h4 := st.there
      simp only [List.mem_cons, List.not_mem_nil, or_false] at hb h4
      rcases hb with rfl | rfl | rfl | rfl | rfl
      · exact Nat.ne_of_lt (h4 _ (.inl rfl))
      · exact Nat.ne_of_lt (h4 _ (.inr (.inl rfl)))
      · exact Nat.ne_of_lt hTO
      · exact Nat.ne_of_lt (h4 _ (.inr (.inr (.inl rfl))))
      · exact Nat.ne_of_lt (h4 _ (.inr (.inr (.inr rfl))))
    have up : ∀ b o, b ≠ S → h'.get? b = some o → (h'.update S (Obj.mapSeq (·.push (Value.ref s.heap.objs.size)))).get? b = some o := fun b o hb e => (Heap.get?_update_other _ _ (Ne.symm hb)).trans e
    have st2 : ZSt z TI TO i1 i2 l1 l2 (i + 1) (h'.update S (Obj.mapSeq (·.push (Value.ref s.heap.objs.size)))) := by
      obtain ⟨q1, q2, q3, q4⟩ := st'
      refine ⟨up _ _ (nS TI (by simp)) q1, q2.at fun o e => up _ o (nS i1 (by simp)) e, q3.at fun o e => up _ o (nS i2 (by simp)) e, ?_⟩
      rcases q4 with ⟨hz, a, b, hTO⟩ | ⟨T, f, oT, hz, hT2, r1, r2, r3⟩
      · exact .inl ⟨up _ _ (nS z (by simp)) hz, a, b, up _ _ (nS TO (by simp)) hTO⟩
      · by_cases hq : T = S
        · subst hq
          exact .inr ⟨T, f, _, up _ _ (nS z (by simp)) hz, Heap.get?_update_self _ hT2 (by rw [hT2] at e1; cases e1; rfl), r1, r2, r3⟩
        · exact .inr ⟨T, f, oT, up _ _ (nS z (by simp)) hz, up _ _ hq hT2, r1, r2, r3⟩
    refine wpAny_pure ⟨plainId_quiet F.plain_extend_loop _, ?_⟩
    refine ih (i + 1) _ (upd (upd H s.heap.objs.size (.tup [xs[i], ys[i]])) S (.lst ((ts ++ [s.heap.objs.size]).map V.ref))) (ts ++ [s.heap.objs.size]) (by omega) (by omega) (by rw [List.map_append]; exact I2) (fun b hb => ?_) st2 ?_ upd_same (by rw [List.length_append, hl]; rfl) n1 n2 ?_ ?_ fun s' H' ts' I3 hz3 => ?_
    · obtain ⟨g1, g2⟩ := hf b hb
      exact ⟨by rw [upd_ne (nS b hb), upd_ne (nT b hb)]; exact g1, g2⟩
    · show TO < (h'.update S _).objs.size
      rw [Heap.size_update, hsz]
      exact Nat.lt_succ_of_lt hTO
    · rw [upd_ne (Ne.symm n1), upd_ne (fun q => by rw [q, hT] at h1; cases h1)]
      exact h1
    · rw [upd_ne (Ne.symm n2), upd_ne (fun q => by rw [q, hT] at h2; cases h2)]
      exact h2
    · obtain ⟨w1, w2, w3, w4, w5⟩ := hz3
      refine hR s' H' ts' I3 ⟨fun a o ha e => ?_, w2, w3, fun j t hj e => ?_, fun j x y hj hx hy => ?_⟩
      · have hne : a ≠ s.heap.objs.size := fun q => by rw [q, hT] at e; cases e
        exact w1 a o ha (by rw [upd_ne ha, upd_ne hne]; exact e)
      · refine w4 j t (by omega) ?_
        rw [List.getElem?_append_left (by omega)]
        exact e
      · by_cases hji : j = i
        · subst hji
          rw [List.getElem?_eq_getElem hlx] at hx
          rw [List.getElem?_eq_getElem hly] at hy
          cases hx
          cases hy
          refine ⟨s.heap.objs.size, w4 j _ (by omega) (by rw [List.getElem?_append_right (by omega), hl]; simp), Ne.symm hST, hT, w1 _ _ (Ne.symm hST) (by rw [upd_ne (Ne.symm hST), upd_same])⟩
        · obtain ⟨t, b1, b2, b3, b4⟩ := w5 j x y (by omega) hx hy
          rw [upd_ne b2] at b3
          have hne : t ≠ s.heap.objs.size := fun q => by rw [q, upd_same] at b3; cases b3
          rw [upd_ne hne] at b3
          exact ⟨t, b1, b2, b3, b4⟩
/-- list(z), z a zip of two lists -/
theorem call_list_zip {s : Shared} {H : Hp} {Q : VK} (hh : X.A.handled = none) (D : ZipApart z TI TO i1 i2 l1 l2) (hn : min xs.length ys.length ≤ 100000) (I : Inv X pins σ H s) (hf : ∀ b ∈ [z, TI, TO, i1, i2], FpOk X pins H b)
    (hz : IsZip s.heap z TI TO .none) (hTI : IsPair s.heap TI (.ref i1) (.ref i2)) (hTO : IsPair s.heap TO .none .none) (it1 : s.heap.IsListIter i1 l1 0) (it2 : s.heap.IsListIter i2 l2 0) (h1 : H l1 = some (.lst xs)) (h2 : H l2 = some (.lst ys)) (q : ∀ H' ts S, H S = none → Zipped (upd H S (.lst [])) H' S xs ys [] ts 0 → Q (.ref S) H') :
    wpAny (model X.prog X.w) X.A (call (.type "list") [.ref z]) (EP X pins σ Q) X.xe s := by
  have hS0 := I.hok.fresh (Nat.le_refl s.heap.objs.size)
  have hSz : s.heap.objs.size ≠ z := Nat.ne_of_gt (Heap.lt_size hz)
  refine callType_codes (Q₁ := fun obj s₁ => obj = .ref s.heap.objs.size ∧ s₁ = { s with heap := s.heap.push { cls := .type "list", data := .seq #[] } }) F.called_list (F.typeCall_list_1 _) F.entry_list_init
    (code_list_new _ ⟨rfl, rfl⟩) fun obj s₁ h₁ => ?_
  obtain ⟨rfl, rfl⟩ := h₁
  have hS : (s.heap.push { cls := .type "list", data := .seq #[] }).get? s.heap.objs.size = some { cls := .type "list", data := .seq #[] } := Heap.get?_push_size _ rfl
  have I1 : Inv X pins σ (upd H s.heap.objs.size (.lst [])) { s with heap := s.heap.push { cls := .type "list", data := .seq #[] } } := I.lnew (its := []) (t' := s.toks) .nil (Nat.zero_le _)
  refine ⟨⟨_, hS, rfl⟩, F.args_list_init_2 _ _, ?_⟩
  show wpAny _ X.A.in1.in1 (do let old ← Builtin.List.listItems (.ref s.heap.objs.size); Builtin.List.listUpdate (.ref s.heap.objs.size) (fun _ => #[]); letGo old.toList.reverse; Builtin.List.listExtendWith (.ref s.heap.objs.size) (.ref z) .none) _ _ _
  refine wpAny_bind ?_
  unfold Builtin.List.listItems
  refine wpAny_bind (wpAny_seqItems hS rfl (wpAny_pure ?_))
  show wpAny _ X.A.in1.in1 (updateSeq s.heap.objs.size (fun _ => #[]) >>= fun _ => letGo (#[] : Array Value).toList.reverse >>= fun _ => Builtin.List.listExtendWith (.ref s.heap.objs.size) (.ref z) .none) _ _ _
  refine wpAny_bind (wpAny_updateSeq hS rfl ?_)
  have hS2 := Heap.get?_update_self (Obj.mapSeq (fun _ => (#[] : Array Value))) hS rfl
  have I2 := I1.lset (t' := s.toks) (its := []) (its' := []) (f := fun _ => (#[] : Array Value)) (ys := []) upd_same hS rfl .nil (Nat.zero_le _)
  refine wpAny_bind (wpAny_letGo ?_)
  unfold Builtin.List.listExtendWith
  have up : ∀ (h : Heap) (f : Obj → Obj), (∀ b o, s.heap.get? b = some o → h.get? b = some o) → ∀ b o, s.heap.get? b = some o → (h.update s.heap.objs.size f).get? b = some o := fun h f q b o e =>
    (Heap.get?_update_other _ _ (Ne.symm (Nat.ne_of_lt (Heap.lt_size e)))).trans (q b o e)
  have k1 : ∀ b o, s.heap.get? b = some o → (s.heap.push { cls := .type "list", data := .seq #[] }).get? b = some o := fun b o e => Heap.get?_push_of_some _ e
  have k2 := up _ (Obj.mapSeq (fun _ => (#[] : Array Value))) k1
  have hz2 := k2 _ _ hz
  refine wpAny_bind (wpAny_typeOf (T := "zip") (s := { s with heap := _ }) ⟨_, hz2, rfl⟩ ?_)
  have g1 : Builtin.List.listSameRef (.ref s.heap.objs.size) (.ref z) = false := by simp [Builtin.List.listSameRef, hSz]
  have g2 : (Value.type "zip" == Value.type "list") = false := by decide
  have g3 : (Value.type "zip" == Value.type "tuple") = false := by decide
  simp only [g1, g2, g3, Bool.or_false, Bool.false_eq_true, if_false]
  refine wpAny_bind (wpAny_pyIter_zip (s := { s with heap := _ }) hz2 ?_)
  refine wpAny_bind (wpAny_holding ?_)
  unfold Builtin.List.listLengthHint
  refine wpAny_bind (wpAny_specialOf (T := "zip") (s := { s with heap := _ }) ⟨_, hz2, rfl⟩ zip_no_len ?_)
  show wpAny _ X.A.in1.in1 (specialOf (Value.ref z) (Str.ofString "__length_hint__") >>= _) _ _ _
  refine wpAny_bind (wpAny_specialOf (T := "zip") (s := { s with heap := _ }) ⟨_, hz2, rfl⟩ zip_no_hint ?_)
  refine wpAny_pure ?_
  show wpAny _ X.A.in1.in1 (rule "list.extend.makes-room" >>= fun _ => Builtin.List.listTouch (.ref s.heap.objs.size) >>= fun _ =>
    again (.builtin "list.extend.loop" ⟨[.ref s.heap.objs.size, .ref z, .none], []⟩)) _ _ _
  refine wpAny_bind (wpAny_rule ?_)
  refine wpAny_bind ?_
  show wpAny _ X.A.in1.in1 (updateSeq s.heap.objs.size (·.push .none) >>= fun _ => updateSeq s.heap.objs.size (·.pop)) _ _ _
  refine wpAny_bind (wpAny_updateSeq hS2 rfl ?_)
  have hS3 := Heap.get?_update_self (Obj.mapSeq (·.push Value.none)) hS2 rfl
  have I3 := I2.lset (t' := s.toks) (its := []) (its' := [.none]) (f := (·.push Value.none)) (ys := [.non]) upd_same hS2 rfl (.cons rfl .nil) (by show 1 ≤ 2 ^ 24; decide)
  refine wpAny_updateSeq (hz := by seq_fits) hS3 rfl ?_
  have hS4 := Heap.get?_update_self (Obj.mapSeq (·.pop)) hS3 rfl
  have I4 := I3.lset (t' := s.toks) (its := [.none]) (its' := []) (f := (·.pop)) (ys := []) upd_same hS3 rfl .nil (Nat.zero_le _)
  have k4 := up _ (Obj.mapSeq (·.pop)) (up _ (Obj.mapSeq (·.push Value.none)) k2)
  have ids : ∀ a (o o' : HO) (G : Hp), upd (upd G a o) a o' = upd G a o' := fun a o o' G => by
    funext b
    by_cases hb : b = a
    · subst hb
      rw [upd_same, upd_same]
    · rw [upd_ne hb, upd_ne hb, upd_ne hb]
  rw [ids, ids, ids] at I4
  refine wpAny_pure ⟨plainId_quiet F.plain_extend_loop _, ?_⟩
  have nS : ∀ {b : Addr} {o : Obj}, s.heap.get? b = some o → b ≠ s.heap.objs.size := fun e => Nat.ne_of_lt (Heap.lt_size e)
  have nI : ∀ b ∈ [z, TI, TO, i1, i2], b ≠ s.heap.objs.size := fun b hb => by
    simp only [List.mem_cons, List.not_mem_nil, or_false] at hb
    obtain ⟨o1, e1, _⟩ := id it1
    obtain ⟨o2, e2, _⟩ := id it2
    rcases hb with rfl | rfl | rfl | rfl | rfl
    · exact nS hz
    · exact nS hTI
    · exact nS hTO
    · exact nS e1
    · exact nS e2
  have n1 : s.heap.objs.size ≠ l1 := fun q => by rw [← q, hS0] at h1; cases h1
  have n2 : s.heap.objs.size ≠ l2 := fun q => by rw [← q, hS0] at h2; cases h2
  refine zip_loop (A := X.A.in1) (S := s.heap.objs.size) (res := .none) hh D hn (min xs.length ys.length) 0 _ _ [] (Nat.sub_zero _) (Nat.zero_le _) I4 (fun b hb => ?_)
    ⟨k4 _ _ hTI, it1.at fun o e => k4 _ o e, it2.at fun o e => k4 _ o e, .inl ⟨k4 _ _ hz, _, _, k4 _ _ hTO⟩⟩ (Heap.lt_size (k4 _ _ hTO)) upd_same rfl n1 n2 (by rw [upd_ne (Ne.symm n1)]; exact h1) (by rw [upd_ne (Ne.symm n2)]; exact h2) fun s' H' ts' I5 hzp => ?_
  · obtain ⟨w1, w2⟩ := hf b hb
    exact ⟨by rw [upd_ne (nI b hb)]; exact w1, w2⟩
  · exact ⟨rfl, .ref s.heap.objs.size, H', I5, rfl, q H' ts' _ hS0 hzp⟩
/-- list(zip(xs, ys)) -/
def tListZip (ta : TA) : TE := fun σ H Q => ta σ H fun vs H1 => ∃ a b xs ys, vs = [.ref a, .ref b] ∧ H1 a = some (.lst xs) ∧ H1 b = some (.lst ys) ∧ min xs.length ys.length ≤ 100000 ∧ ∀ H' ts S, H1 S = none → Zipped (upd H1 S (.lst [])) H' S xs ys [] ts 0 → Q (.ref S) H'
theorem pe_listzip {e e2 : Expr} {ta : TA} {p p2 pos pos2 : Pos} (hc : X.calm = true) (hg : Gl X "list") (hm : X.mg "list" = none) (hg2 : Gl X "zip") (hm2 : X.mg "zip" = none) (ha : PA X [e, e2] ta)
    (he : starEach [.Call (.Name "zip" p2) [e, e2] [] pos2] X.env = (false, eval (.Call (.Name "zip" p2) [e, e2] [] pos2) X.env) :: starEach [] X.env := by rfl)
    (hs : starEach [e, e2] X.env = (false, eval e X.env) :: starEach [e2] X.env := by rfl) (hpl : (backTo pos2 (starEach [e2] X.env)).any (·.1) = false := by rfl) :
    PE X (.Call (.Name "list" p) [.Call (.Name "zip" p2) [e, e2] [] pos2] [] pos) (tListZip ta) := by
  refine ⟨fun pins s σ H Q I h => ?_⟩
  refine wpAny_Call_Name_kw (ld_blt I hg hm bo_list ?_)
  refine PyProof.Rows.callWith_type1 ?_ he rfl
  rw [he]
  show wpAny _ _ (spliced ((false, eval (.Call (.Name "zip" p2) [e, e2] [] pos2) X.env) :: backTo pos (starEach [] X.env))) _ _ s
  refine Calls.spliced_cons ?_
  refine wpAny_Call_Name_kw (ld_blt I hg2 hm2 PyProof.Rows.boot_zip (PyProof.Rows.callWith_type1 (thn (ha.run pos2 pins s σ H _ I h) fun us s1 ⟨vs, H1, I1, r1, q1⟩ => ?_) hs hpl))
  obtain ⟨a, b, xs, ys, ex, hx, hy, hn, q⟩ := q1
  subst ex
  cases r1 with
  | cons r rr =>
    cases rr with
    | cons r' rr =>
      cases rr
      cases r
      cases r'
      obtain ⟨its, n1, rv, e1, z1⟩ := I1.lst hx
      obtain ⟨its2, n2, rv2, e2, z2⟩ := I1.lst hy
      have p1 : s1.heap.IsList a its.toArray := ⟨_, e1, rfl, n1, rfl⟩
      have p2 : s1.heap.IsList b its2.toArray := ⟨_, e2, rfl, n2, rfl⟩
      refine call_zip_2 p1 p2 fun h' hz hTI hTO h1 h2 hsz hk => ?_
      refine Calls.spliced_nil ?_
      have I2 : Inv X pins σ H1 { s1 with heap := h' } := I1.kept (t' := s1.toks) hk
      refine call_list_zip (I.ok.hd hc) (PySem.W.ktu_apart s1.heap.objs.size a b (Heap.lt_size e1) (Heap.lt_size e2)) hn I2 (fun c hcm => ?_) hz hTI hTO h1 h2 hx hy q
      have e' : c = s1.heap.objs.size + 4 ∨ c = s1.heap.objs.size + 2 ∨ c = s1.heap.objs.size + 3 ∨ c = s1.heap.objs.size ∨ c = s1.heap.objs.size + 1 := by simpa using hcm
      have hle : s1.heap.objs.size ≤ c := by
        rcases e' with z | z | z | z | z
        · rw [z]; exact Nat.le_add_right _ _
        · rw [z]; exact Nat.le_add_right _ _
        · rw [z]; exact Nat.le_add_right _ _
        · rw [z]; exact Nat.le_refl _
        · rw [z]; exact Nat.le_add_right _ _
      exact I1.fpOk hle (I1.hok.fresh hle)
end
section
variable {σ : L2.St} {H : Hp} {ta : TA} {γ δ : Type} {R : γ → V → Hp → Prop} {T : δ → V → Hp → Prop} {zs : List γ} {ws : List δ}
theorem all2_at {α β : Type} {R : α → β → Prop} : ∀ {l : List α} {m : List β}, l.length = m.length → (∀ (i : Nat) (b : β), m[i]? = some b → ∃ a, l[i]? = some a ∧ R a b) → All2 R l m
  | [], [], _, _ => .nil
  | a :: l, b :: m, h, hr => by
    refine .cons ?_ (all2_at (by simpa using h) fun i b hb => ?_)
    · obtain ⟨a', h1, h2⟩ := hr 0 b rfl
      cases h1
      exact h2
    · obtain ⟨a', h1, h2⟩ := hr (i + 1) b (by simpa using hb)
      exact ⟨a', by simpa using h1, h2⟩
theorem ev_listzip (up : Up R) (up2 : Up T) (hn : zs.length ≤ 100000) (h : EvA ta σ H fun vs G => ∃ v w, vs = [v, w] ∧ lstOf R zs v G ∧ lstOf T ws w G) : Ev (tListZip ta) σ H (lstOf (pairOf R T) (zs.zip ws)) := fun H1 e Q q =>
  h H1 e _ fun vs G H2 g ⟨v, w, ev, ⟨a, xs, e1, ha, all⟩, b, ys, e2, hb, all2⟩ => by
    subst e1
    subst e2
    refine ⟨a, b, xs, ys, ev, g.re _ _ ha, g.re _ _ hb, by rw [all.len]; omega, fun H' ts S hS hz => ?_⟩
    obtain ⟨w1, w2, w3, _, w5⟩ := hz
    have k1 : Ex H2 H' := fun x o hx => w1 x o (fun q => by rw [q, hS] at hx; cases hx) (by rw [upd_ne (fun q => by rw [q, hS] at hx; cases hx)]; exact hx)
    -- what is new is known
    have gg : Grow G H2 (fun x => match H2 x with | none => H' x | some _ => G x) H' := by
      refine ⟨fun x o hx => ?_, fun x o hx => ?_, k1, fun x hx hx1 => ?_⟩
      · show (match H2 x with | none => H' x | some _ => G x) = some o
        rw [g.re x o hx]
        exact hx
      · have hx' : (match H2 x with | none => H' x | some _ => G x) = some o := hx
        cases q : H2 x with
        | none => rw [q] at hx'; exact hx'
        | some u => rw [q] at hx'; exact k1 _ _ (g.re _ _ hx')
      · show (match H2 x with | none => H' x | some _ => G x) = none
        cases q : H2 x with
        | none => exact absurd q hx1
        | some u => exact hx
    refine q (.ref S) _ H' (g.trans gg) ⟨S, ts.map V.ref, rfl, ?_, ?_⟩
    · show (match H2 S with | none => H' S | some _ => G S) = _
      rw [hS]
      exact w2
    · refine all2_at (by rw [List.length_map, w3, List.length_zip, all.len, all2.len]) fun i z hz => ?_
      obtain ⟨z1, z2⟩ := z
      obtain ⟨hz1, hz2⟩ := List.getElem?_zip_eq_some.mp hz
      obtain ⟨x, hx, rx⟩ := all.getR hz1
      obtain ⟨y, hy, ry⟩ := all2.getR hz2
      obtain ⟨t, ht, hne, hnone, htup⟩ := w5 i x y (Nat.zero_le _) hx hy
      rw [upd_ne hne] at hnone
      refine ⟨.ref t, by rw [List.getElem?_map, ht] <;> rfl, t, x, y, rfl, ?_, up _ _ _ _ gg.kn rx, up2 _ _ _ _ gg.kn ry⟩
      show (match H2 t with | none => H' t | some _ => G t) = _
      rw [hnone]
      exact htup
/-- xs[::-1] -/
theorem ev_rev {K : PySem.W.Frag} {te : TE} (up : Up R) (h : Ev te σ H (lstOf R zs)) : Ev (tRevL K te) σ H (newL R zs.reverse H) := fun H1 e Q q =>
  h H1 e _ fun v G H2 g ⟨a, xs, ev, ha, all⟩ => ⟨a, xs, ev, SqL.of (g.re _ _ ha), fun p hp => by
    obtain ⟨n1, n2⟩ := new_lst up e g hp all.reverse
    exact q _ _ _ n1 n2⟩
end
end On
set_option linter.all false
/-! A list with given products, as a reckoning. -/
namespace On
def augment (fs : List (List Rat)) (vs : List Rat) : List (List Rat) := (fs.zip vs).map fun z => z.1 ++ [z.2]
def lastOf (r : List Rat) : Rat := r.getD (r.length - 1) 0
def backStep (x : List Rat) (z : List Rat × Nat) : List Rat := x.set z.2 ((lastOf z.1 - dot z.1.dropLast x) / z.1.getD z.2 0)
def backFrom (l : List (List Rat × Nat)) (x : List Rat) : List Rat := l.foldl backStep x
def zerosOf (r : List Rat) : List Rat := r.map fun _ => 0
def withList (fs : List (List Rat)) (vs : List Rat) : List Rat := backFrom (((stepsIn (augment fs vs)).1.zip (stepsIn (augment fs vs)).2).reverse) (zerosOf (fs.getD 0 []))
/-- the elimination finds in every row a place of a form -/
def Good (n : Nat) (fs : List (List Rat)) (vs : List Rat) : Prop := ∀ z ∈ (stepsIn (augment fs vs)).1.zip (stepsIn (augment fs vs)).2, z.2 < n ∧ z.1.getD z.2 0 ≠ 0
theorem szL_set {l : List Rat} {i : Nat} {v : Rat} : szL (l.set i v) ≤ szL l * sz v := by
  induction l generalizing i with
  | nil => exact Nat.mul_pos (szL_pos _) (sz_pos v)
  | cons a r ih =>
    cases i with
    | zero =>
      show sz v * szL r ≤ sz a * szL r * sz v
      rw [Nat.mul_comm (sz v), Nat.mul_assoc]
      exact Nat.le_mul_of_pos_left _ (sz_pos a)
    | succ i =>
      show sz a * szL (r.set i v) ≤ sz a * szL r * sz v
      rw [Nat.mul_assoc]
      exact Nat.mul_le_mul_left _ ih
theorem augment_len {fs : List (List Rat)} {vs : List Rat} (h : vs.length = fs.length) : (augment fs vs).length = fs.length := by
  unfold augment
  rw [List.length_map, List.length_zip, h, Nat.min_self]
theorem augment_ents {n e : Nat} {fs : List (List Rat)} {vs : List Rat} (h : Ents n e fs) (hv : ∀ v ∈ vs, sz v ≤ 2 ^ e) : Ents (n + 1) e (augment fs vs) := by
  have key : ∀ r ∈ augment fs vs, r.length = n + 1 ∧ ∀ q ∈ r, sz q ≤ 2 ^ e := fun r hr => by
    unfold augment at hr
    obtain ⟨⟨f, v⟩, hz, rfl⟩ := List.mem_map.mp hr
    have hm := List.of_mem_zip hz
    refine ⟨by rw [List.length_append, h.len f hm.1]; rfl, fun q hq => ?_⟩
    rcases List.mem_append.mp hq with hq | hq
    · exact h.le f hm.1 q hq
    · rw [List.mem_singleton.mp hq]; exact hv v hm.2
  exact ⟨fun r hr => (key r hr).1, fun r hr => (key r hr).2⟩
theorem steps_ents {w e : Nat} {m : List (List Rat)} (h : Ents w e m) (hm : m.length ≤ 4) : Ents w (64 * e) (stepsIn m).1 := (stepsTo_ents h _).mono (grow4_max hm)
theorem zeros_sz (r : List Rat) : szL (zerosOf r) = 1 := by
  induction r with
  | nil => rfl
  | cons a r ih =>
    show sz 0 * szL (zerosOf r) = 1
    rw [ih, sz_zero]
/-- how great the found list may be after j steps -/
def backSz (E : Nat) : Nat → Nat
  | 0 => 0
  | j + 1 => 2 * backSz E j + 6 * E
theorem backSz_le (E : Nat) : ∀ {j : Nat}, j ≤ 4 → backSz E j ≤ 90 * E := fun {j} hj => by
  match j, hj with
  | 0, _ => exact Nat.zero_le _
  | 1, _ => show 2 * 0 + 6 * E ≤ _; omega
  | 2, _ => show 2 * (2 * 0 + 6 * E) + 6 * E ≤ _; omega
  | 3, _ => show 2 * (2 * (2 * 0 + 6 * E) + 6 * E) + 6 * E ≤ _; omega
  | 4, _ => show 2 * (2 * (2 * (2 * 0 + 6 * E) + 6 * E) + 6 * E) + 6 * E ≤ _; omega
theorem dropLast_sz {r : List Rat} {n E : Nat} (hr : r.length = n + 1) (h : ∀ q ∈ r, sz q ≤ 2 ^ E) : szL r.dropLast ≤ 2 ^ (n * E) := by
  have hl : r.dropLast.length = n := by rw [List.length_dropLast, hr]; rfl
  rw [← hl]
  exact szL_le fun q hq => h q (List.dropLast_subset r hq)
theorem back_elem {r x : List Rat} {c n E F : Nat} (hr : r.length = n + 1) (hn : n ≤ 4) (h : ∀ q ∈ r, sz q ≤ 2 ^ E) (hx : szL x ≤ 2 ^ F) (hz : r.getD c 0 ≠ 0) : sz ((lastOf r - dot r.dropLast x) / r.getD c 0) ≤ 2 ^ (6 * E + F) := by
  have h1 : ∀ i, sz (r.getD i 0) ≤ 2 ^ E := fun i => by
    by_cases hi : i < r.length
    · rw [getD_at (List.getElem?_eq_getElem hi)]
      exact h _ (List.getElem_mem hi)
    · rw [List.getD_eq_getElem?_getD, List.getElem?_eq_none (by omega)]
      exact Nat.le_trans (Nat.le_of_eq sz_zero) Nat.one_le_two_pow
  have h2 : sz (dot r.dropLast x) ≤ 2 ^ (4 * E + F) := by
    refine Nat.le_trans (sz_dot _ _) ?_
    rw [Nat.pow_add]
    exact Nat.mul_le_mul (Nat.le_trans (dropLast_sz hr h) (pow_le2 (Nat.mul_le_mul_right _ hn))) hx
  refine Nat.le_trans (sz_div _ _ hz) ?_
  rw [show 6 * E + F = (E + (4 * E + F)) + E from by omega, Nat.pow_add, Nat.pow_add 2 E]
  exact Nat.mul_le_mul (Nat.le_trans (sz_sub _ _) (Nat.mul_le_mul (h1 _) h2)) (h1 c)
theorem backStep_sz {x : List Rat} {z : List Rat × Nat} {n E F : Nat} (hr : z.1.length = n + 1) (hn : n ≤ 4) (h : ∀ q ∈ z.1, sz q ≤ 2 ^ E) (hx : szL x ≤ 2 ^ F) (hz : z.1.getD z.2 0 ≠ 0) : szL (backStep x z) ≤ 2 ^ (2 * F + 6 * E) := by
  refine Nat.le_trans szL_set ?_
  rw [show 2 * F + 6 * E = F + (6 * E + F) from by omega, Nat.pow_add]
  exact Nat.mul_le_mul hx (back_elem hr hn h hx hz)
theorem backFrom_len (l : List (List Rat × Nat)) : ∀ x : List Rat, (backFrom l x).length = x.length := by
  induction l with
  | nil => intro x; rfl
  | cons z l ih =>
    intro x
    show (backFrom l (backStep x z)).length = _
    rw [ih]
    exact List.length_set
theorem withList_len (fs : List (List Rat)) (vs : List Rat) : (withList fs vs).length = (fs.getD 0 []).length := by
  unfold withList
  rw [backFrom_len]
  unfold zerosOf
  rw [List.length_map]
theorem backFrom_sz {n E : Nat} (hn : n ≤ 4) : ∀ {l : List (List Rat × Nat)} {j : Nat} {x : List Rat}, (∀ z ∈ l, z.1.length = n + 1 ∧ (∀ q ∈ z.1, sz q ≤ 2 ^ E) ∧ z.1.getD z.2 0 ≠ 0) → szL x ≤ 2 ^ backSz E j → szL (backFrom l x) ≤ 2 ^ backSz E (j + l.length)
  | [], j, x, _, hx => hx
  | z :: l, j, x, h, hx => by
    obtain ⟨h1, h2, h3⟩ := h z List.mem_cons_self
    have := backFrom_sz hn (l := l) (j := j + 1) (x := backStep x z) (fun z hz => h z (List.mem_cons_of_mem _ hz)) (backStep_sz h1 hn h2 hx h3)
    rw [show j + (z :: l).length = j + 1 + l.length from by rw [List.length_cons]; omega]
    exact this
theorem pairs_ok {n e : Nat} {fs : List (List Rat)} {vs : List Rat} (h : Ents n e fs) (hv : ∀ v ∈ vs, sz v ≤ 2 ^ e) (hl : vs.length = fs.length) (h4 : fs.length ≤ 4) (g : Good n fs vs) : ∀ z ∈ ((stepsIn (augment fs vs)).1.zip (stepsIn (augment fs vs)).2).reverse, z.1.length = n + 1 ∧ (∀ q ∈ z.1, sz q ≤ 2 ^ (64 * e)) ∧ z.1.getD z.2 0 ≠ 0 := fun z hz => by
  have hz := List.mem_reverse.mp hz
  have hen := steps_ents (augment_ents h hv) (by rw [augment_len hl]; exact h4)
  have hm := List.of_mem_zip (a := z.1) (b := z.2) hz
  exact ⟨hen.len _ hm.1, hen.le _ hm.1, (g z hz).2⟩
theorem pairs_len {fs : List (List Rat)} {vs : List Rat} (hl : vs.length = fs.length) (h4 : fs.length ≤ 4) : ((stepsIn (augment fs vs)).1.zip (stepsIn (augment fs vs)).2).reverse.length ≤ 4 := by
  rw [List.length_reverse, List.length_zip]
  have : (stepsIn (augment fs vs)).1.length = fs.length := by
    unfold stepsIn
    rw [stepsTo_len, augment_len hl]
  omega
theorem withList_sz {n e : Nat} {fs : List (List Rat)} {vs : List Rat} (h : Ents n e fs) (hn : n ≤ 4) (hv : ∀ v ∈ vs, sz v ≤ 2 ^ e) (hl : vs.length = fs.length) (h4 : fs.length ≤ 4) (g : Good n fs vs) : szL (withList fs vs) ≤ 2 ^ (5760 * e) := by
  have h0 : szL (zerosOf (fs.getD 0 [])) ≤ 2 ^ backSz (64 * e) 0 := by rw [zeros_sz]; exact Nat.one_le_two_pow
  have := backFrom_sz hn (j := 0) (pairs_ok h hv hl h4 g) h0
  rw [Nat.zero_add] at this
  refine Nat.le_trans this (pow_le2 ?_)
  have := backSz_le (64 * e) (pairs_len hl h4)
  omega
end On
set_option Elab.async false
set_option linter.all false
set_option maxRecDepth 100000
set_option maxHeartbeats 4000000
/-! list_with. -/
namespace On
open PySem PySem.Spec PyProof.Rows L2
section
variable {K : PySem.W.Frag} {σ : L2.St} {G0 H1 G H M : Hp} {te tl ta tb' tc : TE} {P : V → Hp → Prop} {α β γ δ ε : Type} {R : γ → V → Hp → Prop} {S : δ → V → Hp → Prop} {S' : ε → V → Hp → Prop} {D : Ends} {tb tz : TS} {C : Addr} {A : α → V → Hp → Prop} {B : β → V → Hp → Prop}
theorem ev_negC : Ev (tUn (rU fun i => .int (-i)) (tC (.int 1))) σ H (isV (.int (-1))) := Tr.same rfl fun H1 _ Q q => ⟨1, rfl, q⟩
/-- a, b, c = e -/
theorem t_unpack3 {i j k : Nat} {a : α} {b : β} {c : γ} (g : Grow G0 H1 G H) (h : Ev te σ G (tripOf A B R a b c)) (q : ∀ x y z G' H', Grow G H G' H' → Grow G0 H1 G' H' → A a x G' → B b y G' → R c z G' → tz D (((σ.set i (some x)).set j (some y)).set k (some z)) H') :
    tSeq (tAsg te (gTup K 3 (gCons (gName i) (gCons (gName j) (gCons (gName k) gNil))))) tz D σ H :=
  fin_y (Q := fun v H' => gTup K 3 (gCons (gName i) (gCons (gName j) (gCons (gName k) gNil))) v σ H' fun σ2 H2 => tz D σ2 H2) g h fun v G' H' ex g' ⟨t, x, y, z, e, ht, h1, h2, h3⟩ => by
    subst e
    exact ⟨t, [x, y, z], rfl, SqT.of (g'.re _ _ ht), rfl, x, [y, z], rfl, y, [z], rfl, z, [], rfl, rfl, q x y z G' H' ex g' h1 h2 h3⟩
/-- for x, y in a list of pairs; what stands unknown stays so -/
theorem q_forPy {zs : List (δ × ε)} {j j2 : Nat} (up : Up S) (up2 : Up S') (gr : Grow G0 H1 G H) (h : Ev tl σ G (lstOf (pairOf S S') zs)) (I : Nat → L2.St → Hp → Hp → Prop) (i0 : ∀ G' H', Grow G H G' H' → Grow G0 H1 G' H' → I 0 σ G' H')
    (hs : ∀ (i : Nat) z x y σ' G' H', zs[i]? = some z → S z.1 x G' → S' z.2 y G' → Ex G G' → Grow G0 H1 G' H' → I i σ' G' H' → ∀ N : L2.St → Hp → Prop, (∀ σ3 G3 H3, Ex G' G3 → Grow G0 H1 G3 H3 → I (i + 1) σ3 G3 H3 → N σ3 H3) → tb { D with nx := N, ct := N, bk := tz D } ((σ'.set j (some x)).set j2 (some y)) H')
    (hd : ∀ σ' G' H', Ex G G' → Grow G0 H1 G' H' → I zs.length σ' G' H' → tz D σ' H') : tSeq (tFor (iList K tl) (gTup K 2 (gCons (gName j) (gCons (gName j2) gNil))) tb) tz D σ H :=
  h H gr.re _ fun v Gs Hs g1 ⟨a, xs, ev, ha, all⟩ => by
    refine ⟨a, ev, ⟨xs, SqL.of (g1.re _ _ ha)⟩, ?_⟩
    refine for_core (D := { D with nx := tz D }) (walk_list (xs := xs)) (fun H' e => SqL.of (e _ _ ha)) (gr.trans g1) I (i0 Gs Hs g1 (gr.trans g1)) (fun i x σ' G' H' H'' hi e g' iv hy => ?_) fun σ' G' H' e g' iv => hd σ' G' H' (g1.kn.trans e) g' (by rw [← all.len]; exact iv)
    obtain ⟨e2, hx⟩ := hy
    subst e2
    obtain ⟨z, hz, t, p, r, rfl, ht, s1, s2⟩ := all.get hx
    exact ⟨Ex.rfl, _, step_pair (g'.re _ _ (e _ _ ht)), fun N hN => hs i z p r σ' G' _ hz (up _ _ _ _ e s1) (up2 _ _ _ _ e s2) (g1.kn.trans e) g' iv N fun σ3 G3 H3 e3 => hN σ3 G3 H3 (e.trans e3)⟩
theorem atI_neg1 {l : List Rat} (h : l ≠ []) : atI l (-1) = some (lastOf l) := by
  obtain ⟨i, x, rfl⟩ : ∃ i x, l = i ++ [x] := ⟨l.dropLast, l.getLast h, (List.dropLast_concat_getLast h).symm⟩
  rw [atI_last]
  unfold lastOf
  rw [getD_at (x := x)]
  rw [List.length_append, List.length_singleton, Nat.add_sub_cancel, List.getElem?_append_right (Nat.le_refl _), Nat.sub_self]
  rfl
theorem isR.sub1 {a : Addr} {xs : List V} {q : Rat} {v : V} {G' : Hp} (e : Ex (one a (.lst xs)) G') (h : isR C q v G') : isR C q v (sub G' (one a (.lst xs))) := isR.off one_lists e h
end
section
variable {P : Program} {w : World} {K : PySem.W.Frag} {mg : Str → Option Value} {base : Heap} {C : Addr}
structure WithOk (n e : Nat) (fs : List (List Rat)) (vs : List Rat) : Prop where
  ents : Ents n e fs
  vals : ∀ v ∈ vs, sz v ≤ 2 ^ e
  len : vs.length = fs.length
  k4 : fs.length ≤ 4
  n4 : n ≤ 4
  ne : fs ≠ []
  e1 : e ≤ 1600
  good : Good n fs vs
def spWith (C : Addr) : Sp := Pu (γ := List (List Rat) × List Rat) (fun g vs H => ∃ v w, vs = [v, w] ∧ (isMat C g.1 v H ∧ isRow C g.2 w H ∧ ∃ n e, WithOk n e g.1 g.2)) fun g H v G => newL (isR C) (withList g.1 g.2) H v G
set_option maxHeartbeats 8000000 in
theorem c_list_with (T : Txt P w K mg base C) : C8.Cal P w K mg base 43 "list_with" (spWith C) [] := by
  refine cal_by T.d_list_with sc_list_with (fun _ _ _ _ _ _ us hl => match us, hl with | [_, _], _ => rfl) len_2 fun f cdv A outer s H vs Q E hr h => ?_
  obtain ⟨⟨fs, vs0⟩, G, e, ⟨v, w, rfl, hv, hw, n, ee, ok⟩, q⟩ := h
  have hL : ∀ x : Nat, x ≤ 100000000 → x + 2 ≤ LIM := fun x hx => by show x + 2 ≤ 130000000; omega
  have k4 : fs.length ≤ 4 := ok.k4
  have hlen : vs0.length = fs.length := ok.len
  have n4 : n ≤ 4 := ok.n4
  have e1 : ee ≤ 1600 := ok.e1
  have hne : fs ≠ [] := ok.ne
  have halen := augment_len hlen
  have haug := augment_ents ok.ents ok.vals
  have hane : augment fs vs0 ≠ [] := fun z => by
    rw [z] at halen
    cases fs with
    | nil => exact hne rfl
    | cons a r => cases halen
  refine ⟨_, (pss_cons (ps_asg (C8.pe_c (c_steps_in T) hr (by decide) rfl (pa_cons (pe_lc (own := [("form", 8), ("value", 9)]) (g := gTup K 2 (gCons (gName 8) (gCons (gName 9) gNil))) (tt := tYes) rfl sc_list_with.nd (pi_zip (by rfl) T.n_zip (pa_cons (pv 0) (pa_cons (pv 1) pa_nil))) (blkOk_by (own := [("form", 8), ("value", 9)]) (by kernel_rfl)) (fun _ _ _ _ _ => (pg_tup rfl (pgs_cons (pg_name (i := 8) sc_list_with.nd rfl (by first | exact Or.inl rfl | exact Or.inr rfl)) (pgs_cons (pg_name (i := 9) sc_list_with.nd rfl (by first | exact Or.inl rfl | exact Or.inr rfl)) pgs_nil)))) (fun _ _ _ _ _ => pts_nil) (fun _ _ _ _ _ => (pe_op (opAdd T hr (by decide)) (pv 8) (pe_lst (pa_cons (pv 9) pa_nil))))) pa_nil)) (pg_tup rfl (pgs_cons (pg_name (i := 2) sc_list_with.nd rfl (by first | exact Or.inl rfl | exact Or.inr rfl)) (pgs_cons (pg_name (i := 3) sc_list_with.nd rfl (by first | exact Or.inl rfl | exact Or.inr rfl)) (pgs_cons (pg_name (i := 4) sc_list_with.nd rfl (by first | exact Or.inl rfl | exact Or.inr rfl)) pgs_nil))))) (pss_cons (ps_setLc (i := 5) (own := [("part", 10)]) (g := gName 10) (tt := tYes) rfl sc_list_with.nd rfl rfl (sw_true rfl rfl rfl (by kernel_rfl)) (pi_list (pe_ix (r := rIxLT K) ix_lt (pv 0) pe_int (fun _ _ => rfl))) (blkOk_by (own := [("part", 10)]) (by kernel_rfl)) (fun _ _ _ _ _ => (pg_name (i := 10) sc_list_with.nd rfl (by first | exact Or.inl rfl | exact Or.inr rfl))) (fun _ _ _ _ _ => pts_nil) (fun _ _ _ _ _ => (C8.pe_mk (k_ratio1 T) hr (by decide) rfl (pa_cons pe_int pa_nil)))) (pss_cons (ps_for PassesOwn.never rfl (pi_list (pe_revL (pe_listzip rfl (by rfl) T.n_list (by rfl) T.n_zip (pa_cons (pv 2) (pa_cons (pv 3) pa_nil))))) (pg_tup rfl (pgs_cons (pg_name (i := 6) sc_list_with.nd rfl (by first | exact Or.inl rfl | exact Or.inr rfl)) (pgs_cons (pg_name (i := 7) sc_list_with.nd rfl (by first | exact Or.inl rfl | exact Or.inr rfl)) pgs_nil))) (pss_one (ps_asg (C8.pe_mt (m_over T) hr (by decide) (pe_op (opSub T hr (by decide)) (pe_ix (r := rIxLT K) ix_lt (pv 6) (pe_un un_neg pe_int) (fun _ _ => rfl)) (C8.pe_c (c_weighed T) hr (by decide) rfl (pa_cons (pe_slice (r := rSlL K) sl_list (pv 6) po_none (po_some (pe_un un_neg pe_int))) (pa_cons (pv 5) pa_nil)))) (pa_cons (pe_ix (r := rIxLT K) ix_lt (pv 6) (pv 7) (fun _ _ => rfl)) pa_nil)) (pg_sub (pv 5) (pv 7) set_list)))) (pss_one (ps_ret (pv 5)))))), ?_⟩
  -- left, columns, sign
  refine t_unpack3 (A := isMat C) (B := lstOf isNat) (R := anyInt) (a := (stepsIn (augment fs vs0)).1) (b := (stepsIn (augment fs vs0)).2) (c := ()) (Grow.rfl e) (ev_call (sp := spSteps C) (P := tripOf (isMat C) (lstOf isNat) anyInt (stepsIn (augment fs vs0)).1 (stepsIn (augment fs vs0)).2 ()) (ea_1 (ev_lc (f := fun z : List Rat × Rat => z.1 ++ [z.2]) up_row (by rw [List.length_zip]; show min fs.length vs0.length ≤ 100000; omega) (src_zip (ea_2 up_mat up_row (ev_slot rfl hv) (ev_slot rfl hw)) (fun _ _ => rfl) ?_)).old) fun vs G' e ⟨v, ev, hv⟩ => Pu.tr (g := (augment fs vs0, n + 1, ee)) ⟨v, ev, hv, hane, by show (augment fs vs0).length ≤ 4; omega, haug, by show n + 1 ≤ 5; omega, by show ee ≤ 160000; omega⟩) ?_
  · intro i x y vx vy G' hx hy eG sx sy
    have : x.length = n := ok.ents.len x (mem_of_get hx)
    exact ⟨et_yes, fun _ => (ev_cat up_isR (by show x.length + 1 ≤ 100000; omega) (ev_slot rfl sx) (ev_lst up_isR (zs := [y]) (by show 1 ≤ 100000; omega) (ea_consR up_isR (ev_slot rfl sy) ea_nilR)).old).old⟩
  rintro lv cv sv G1 H1 _ g1 hlv hcv _
  -- found
  have hf0 : fs[0]? = some (fs.getD 0 []) := by
    cases fs with
    | nil => exact absurd rfl hne
    | cons r t => rfl
  have hfn : (fs.getD 0 []).length = n := ok.ents.len _ (mem_of_get hf0)
  refine t_set (P := newL (isR C) (zerosOf (fs.getD 0 [])) G1) g1 (ev_lc (f := fun _ : Rat => (0 : Rat)) up_isR (by omega) (src_list up_isR (ev_ixL up_row (ev_slot rfl (up_mat _ _ _ _ g1.kn hv)) ev_c (atI_nat (j := 0) hf0)) (fun _ => rfl) fun i x vx G' hx eG sx => ⟨et_yes, fun _ => ev_mk1 (a := 0) ev_c⟩)) ?_
  rintro _ G2 H2 e2 g2 ⟨a, xs, rfl, ha0, ha2, all0⟩
  have ha00 : G a = none := g1.kn.back ha0
  obtain ⟨h1a, ga⟩ := unk g2 ha00 ha2
  replace ga : Grow G H (sub G2 (one a (.lst xs))) H2 := ga
  have e3 : Ex G1 (sub G2 (one a (.lst xs))) := sub_keep e2 (one_apart ha0)
  have all3 : All2 (fun x z => isR C z x (sub G2 (one a (.lst xs)))) xs (zerosOf (fs.getD 0 [])) := all0.mono fun _ _ r => isR.sub1 (one_ex ha2) r
  have ha3 : sub G2 (one a (.lst xs)) a = none := sub_no (by rw [one_at]; exact Option.some_ne_none _)
  have haH := g2.re _ _ ha2
  revert ga e3 all3 ha3
  generalize sub G2 (one a (.lst xs)) = G3
  intro ga e3 all3 ha3
  -- the rows, from the last to the first
  have hok := pairs_ok ok.ents ok.vals hlen k4 ok.good
  have hpl := pairs_len hlen k4
  have hgood : ∀ z ∈ ((stepsIn (augment fs vs0)).1.zip (stepsIn (augment fs vs0)).2).reverse, z.2 < n := fun z hz => (ok.good z (List.mem_reverse.mp hz)).1
  have hlv3 := up_mat _ _ _ _ e3 hlv
  have hcv3 := up_lst up_nat _ _ _ _ e3 hcv
  have hres : withList fs vs0 = backFrom ((stepsIn (augment fs vs0)).1.zip (stepsIn (augment fs vs0)).2).reverse (zerosOf (fs.getD 0 [])) := rfl
  have hsl : (stepsIn (augment fs vs0)).1.length ≤ 100000 := by
    show (stepsTo (augment fs vs0) _).1.length ≤ _
    rw [stepsTo_len]
    omega
  refine q_forPy (S := isRow C) (S' := isNat) up_row up_nat ga ((ev_rev (up_pair up_row up_nat) (ev_listzip up_row up_nat hsl (ea_2 up_mat (up_lst up_nat) (ev_slot rfl hlv3) (ev_slot rfl hcv3)))).old)
    (fun j σ G' H' => (∃ xs o6 o7 o8 o9 o10, σ = [some v, some w, some lv, some cv, some sv, some (.ref a), o6, o7, o8, o9, o10] ∧ H' a = some (.lst xs) ∧ All2 (fun x z => isR C z x G') xs (backFrom (((stepsIn (augment fs vs0)).1.zip (stepsIn (augment fs vs0)).2).reverse.take j) (zerosOf (fs.getD 0 [])))) ∧ G' a = none)
    (fun G' H' g' gg => ⟨⟨xs, _, _, _, _, _, rfl, g'.ol _ _ haH, all3.mono fun _ _ r => up_isR _ _ _ _ g'.kn r⟩, g'.away ha3 haH⟩) ?_ ?_
  · revert hok hpl hgood
    generalize ((stepsIn (augment fs vs0)).1.zip (stepsIn (augment fs vs0)).2).reverse = l
    intro hok hpl hgood
    rintro j ⟨r, c⟩ rv cv' σ' G4 H4 hz hrv hcv' e4 g4 ⟨⟨xs, o6, o7, o8, o9, o10, rfl, ha4, all4⟩, hga⟩ N hN
    obtain rfl : cv' = .int (c : Int) := hcv'
    obtain ⟨hr1, hr2, hr3⟩ := hok _ (mem_of_get hz)
    have hcn : c < n := hgood _ (mem_of_get hz)
    have hj4 : j < 4 := by
      have := (List.getElem?_eq_some_iff.mp hz).1
      omega
    have hxs : szL (backFrom (l.take j) (zerosOf (fs.getD 0 []))) ≤ 2 ^ backSz (64 * ee) j := by
      have := backFrom_sz n4 (j := 0) (l := l.take j) (x := zerosOf (fs.getD 0 [])) (fun z hz => hok z (List.mem_of_mem_take hz)) (by rw [zeros_sz]; exact Nat.one_le_two_pow)
      rw [Nat.zero_add, List.length_take, Nat.min_eq_left (by have := (List.getElem?_eq_some_iff.mp hz).1; omega)] at this
      exact this
    have hxl : (backFrom (l.take j) (zerosOf (fs.getD 0 []))).length = n := by
      rw [backFrom_len]
      unfold zerosOf
      rw [List.length_map, hfn]
    have hB := backSz_le (64 * ee) (j := j) (by omega)
    have hnext : backFrom (l.take (j + 1)) (zerosOf (fs.getD 0 [])) = backStep (backFrom (l.take j) (zerosOf (fs.getD 0 []))) (r, c) := by
      unfold backFrom
      rw [take_snoc hz, List.foldl_append]
      rfl
    revert hnext hxs hxl all4
    generalize backFrom (l.take j) (zerosOf (fs.getD 0 [])) = x
    intro all4 hxs hxl hnext
    have hM4 : Ex (one a (.lst xs)) H4 := one_ex ha4
    have hxv : isRow C x (.ref a) (join G4 (one a (.lst xs))) := ⟨a, xs, rfl, join_at g4.re hM4 one_at, all4.mono fun _ _ r => up_isR _ _ _ _ join_l r⟩
    have hrv4 := up_row _ _ _ _ (join_l (B := one a (.lst xs))) hrv
    have hrne : r ≠ [] := fun z => by rw [z] at hr1; cases hr1
    have hrc : r[c]? = some (r.getD c 0) := by rw [getD_at (List.getElem?_eq_getElem (by have : r.length = n + 1 := hr1; omega))]; exact List.getElem?_eq_getElem _
    have hlast : sz (lastOf r) ≤ 2 ^ (64 * ee) := by
      unfold lastOf
      rw [getD_at (List.getElem?_eq_getElem (by have : r.length = n + 1 := hr1; omega))]
      exact hr2 _ (List.getElem_mem _)
    have hdot : sz (dot r.dropLast x) ≤ 2 ^ (4 * (64 * ee) + backSz (64 * ee) j) := by
      refine Nat.le_trans (sz_dot _ _) ?_
      rw [Nat.pow_add]
      exact Nat.mul_le_mul (Nat.le_trans (dropLast_sz hr1 hr2) (pow_le2 (Nat.mul_le_mul_right _ n4))) hxs
    have hfd : Fits (szL r.dropLast * szL x) := fitsE (n := 4 * (64 * ee) + backSz (64 * ee) j) (hL _ (by omega)) (by
      rw [Nat.pow_add]
      exact Nat.mul_le_mul (Nat.le_trans (dropLast_sz hr1 hr2) (pow_le2 (Nat.mul_le_mul_right _ n4))) hxs)
    have hsubk : Ok2 (lastOf r) (dot r.dropLast x) := Fits.ok2 (fitsE (n := 64 * ee + (4 * (64 * ee) + backSz (64 * ee) j)) (hL _ (by omega)) (by rw [Nat.pow_add]; exact Nat.mul_le_mul hlast hdot))
    have hdiv : Ok2 (lastOf r - dot r.dropLast x) (r.getD c 0) := Fits.ok2 (fitsE (n := (64 * ee + (4 * (64 * ee) + backSz (64 * ee) j)) + 64 * ee) (hL _ (by omega)) (by
      rw [Nat.pow_add, Nat.pow_add 2 (64 * ee)]
      exact Nat.mul_le_mul (Nat.le_trans (sz_sub _ _) (Nat.mul_le_mul hlast hdot)) (hr2 _ (mem_of_get hrc))))
    refine m_asg (M := one a (.lst xs)) (P := isR C ((lastOf r - dot r.dropLast x) / r.getD c 0)) g4 hM4 (one_apart hga)
      (ev_over (ev_subR (ev_ixL up_isR (ev_slot rfl hrv4) ev_negC (atI_neg1 hrne)) (dot_ev (l := r.dropLast) (by
        rw [← cut_last]
        exact (ev_sl up_isR (ev_slot rfl hrv4) eo_none (eo_some ev_negC)).old) (ev_slot rfl hxv) hfd (by rw [List.length_dropLast]; have : r.length = n + 1 := hr1; omega)) hsubk) (Tr.num (ev_ixL up_isR (ev_slot rfl hrv4) (ev_var (v := .int (c : Int)) rfl) (atI_nat hrc))) hr3 hdiv) ?_
    rintro vn G5 H5 e5 eM5 _ _ g5 eH5 hvn
    have ha5 := eH5 _ _ ha4
    refine set_m (var_m rfl) (var_m (v := .int (c : Int)) rfl) ha5 (ixN_n (by rw [all4.len, hxl]; exact hcn)) ?_
    refine hN _ (sub G5 (one a (.lst xs))) _ e5 (g5.mut h1a (sub_no (by rw [one_at]; exact Option.some_ne_none _))) ⟨⟨_, _, _, _, _, _, rfl, upd_same, ?_⟩, sub_no (by rw [one_at]; exact Option.some_ne_none _)⟩
    rw [hnext]
    exact (all4.mono fun _ _ r => up_isR _ _ _ _ e5 r).set _ (isR.sub1 eM5 hvn)
  · rintro σ' G4 H4 e4 g4 ⟨⟨xs, o6, o7, o8, o9, o10, rfl, ha4, all4⟩, hga⟩
    rw [List.take_length] at all4
    have s1 := g4.see h1a hga ha4
    refine s_ret s1 (ev_slot (i := 5) (R := fun z => newL (isR C) z G) (x := withList fs vs0) rfl ⟨a, xs, rfl, ha00, upd_same, ?_⟩) q
    rw [hres]
    exact all4.mono fun _ _ r => up_isR _ _ _ _ (Ex.new hga) r
end
end On
set_option linter.all false
/-! The squares above, as a reckoning. -/
namespace On
def formsOf (m : List (List Rat)) : List (List Rat) := (squaresIn m).map (·.2)
def abovesOf (m : List (List Rat)) : List Nat := ((squaresIn m).zipIdx.filter fun z => decide ((0 : Int) < sgn z.1.1)).map (·.2)
def unitAt (k p : Nat) : List Rat := (List.range k).map fun o => if o = p then 1 else 0
def aboveLists (m : List (List Rat)) : List (List Rat) := ((abovesOf m).take 2).map fun p => withList (formsOf m) (unitAt (formsOf m).length p)
def twoAbove (m : List (List Rat)) : Option (List Rat × List Rat) := match aboveLists m with
  | x :: y :: _ => some (x, y)
  | _ => none
/-- what the loop of squares keeps -/
structure SqInv (n e : Nat) (m : List (List Rat)) (fnd : List (Rat × List Rat)) : Prop where
  sq : Sq n m
  sym : Sym m
  ents : Ents n (4 ^ fnd.length * e) m
  rank : nzRows m + fnd.length ≤ n
  len : ∀ z ∈ fnd, z.2.length = n
  form : ∀ z ∈ fnd, ∀ x ∈ z.2, sz x ≤ 2 ^ (64 * e)
theorem SqInv.next {n e : Nat} {m : List (List Rat)} {fnd : List (Rat × List Rat)} (h : SqInv n e m fnd) (hn : n ≤ 4) (he : 1 ≤ e) (hne : nextSq m ≠ []) : SqInv n e (lessAll m (nextSq m)) (fnd ++ nextSq m) ∧ nzRows (lessAll m (nextSq m)) + (nextSq m).length ≤ nzRows m := by
  have hnext := next_is h.sq h.sym
  have hst := next_step h.sq h.sym hnext
  have hE : 1 ≤ 4 ^ fnd.length * e := Nat.mul_pos (Nat.pow_pos (by decide)) he
  have hsz := step_sz h.sq h.ents hE hnext
  have hfall := hst.fall hne
  have hr := h.rank
  have h2 := hsz.two
  have h1 : 1 ≤ (nextSq m).length := by
    cases hq : nextSq m with
    | nil => exact absurd hq hne
    | cons z l => simp
  refine ⟨⟨hst.sq, hst.sym, ?_, by rw [List.length_append]; omega, fun z hz => ?_, fun z hz x hx => ?_⟩, hfall⟩
  · rw [List.length_append, Nat.pow_add, Nat.mul_comm (4 ^ fnd.length), Nat.mul_assoc]
    exact hsz.fin
  · rcases List.mem_append.mp hz with hz | hz
    · exact h.len z hz
    · exact hst.forms z hz
  · rcases List.mem_append.mp hz with hz | hz
    · exact h.form z hz x hx
    · by_cases hl : (nextSq m).length = 1
      · refine Nat.le_trans (hsz.form1 hl z hz x hx) (pow_le2 (Nat.mul_le_mul_right _ ?_))
        calc 4 ^ fnd.length ≤ 4 ^ 3 := Nat.pow_le_pow_right (by decide) (by omega)
          _ = 64 := rfl
      · refine Nat.le_trans (hsz.form z hz x hx) (pow_le2 ?_)
        rw [← Nat.mul_assoc]
        refine Nat.mul_le_mul_right _ ?_
        calc 2 * 4 ^ fnd.length ≤ 2 * 4 ^ 2 := Nat.mul_le_mul_left _ (Nat.pow_le_pow_right (by decide) (by omega))
          _ ≤ 64 := by decide
theorem sqLoop_inv {n e : Nat} (hn : n ≤ 4) (he : 1 ≤ e) : ∀ {k : Nat} {m : List (List Rat)} {fnd : List (Rat × List Rat)}, SqInv n e m fnd → nzRows m + 1 ≤ k → ∃ m', SqInv n e m' (sqLoop k m fnd) ∧ nextSq m' = []
  | 0, m, fnd, h, hk => by omega
  | k + 1, m, fnd, h, hk => by
    show ∃ m', SqInv n e m' (match nextSq m with | [] => fnd | z :: l => sqLoop k (lessAll m (z :: l)) (fnd ++ z :: l)) ∧ nextSq m' = []
    cases hq : nextSq m with
    | nil => exact ⟨m, h, hq⟩
    | cons z l =>
      have hne : nextSq m ≠ [] := by rw [hq]; exact List.cons_ne_nil _ _
      obtain ⟨h1, h2⟩ := h.next hn he hne
      rw [hq] at h1 h2
      have hl : 1 ≤ (z :: l).length := by simp
      exact sqLoop_inv hn he h1 (by omega)
theorem squares_inv {n e : Nat} {m : List (List Rat)} (hs : Sq n m) (hy : Sym m) (hn : n ≤ 4) (he : 1 ≤ e) (h : Ents n e m) : ∃ m', SqInv n e m' (squaresIn m) ∧ nextSq m' = [] := by
  have hl := hs.len
  have hz := nzRows_le m
  exact sqLoop_inv hn he ⟨hs, hy, by show Ents n (1 * e) m; rw [Nat.one_mul]; exact h, by show nzRows m + 0 ≤ n; omega, fun z hz => (nomatch hz), fun z hz => (nomatch hz)⟩ (by omega)
theorem formsOf_len (m : List (List Rat)) : (formsOf m).length = (squaresIn m).length := by unfold formsOf; rw [List.length_map]
theorem forms_ok {n e : Nat} {m : List (List Rat)} (hs : Sq n m) (hy : Sym m) (hn : n ≤ 4) (he : 1 ≤ e) (h : Ents n e m) : Ents n (64 * e) (formsOf m) ∧ (formsOf m).length ≤ n := by
  obtain ⟨m', hi, _⟩ := squares_inv hs hy hn he h
  refine ⟨⟨fun r hr => ?_, fun r hr => ?_⟩, by rw [formsOf_len]; have := hi.rank; omega⟩
  · obtain ⟨z, hz, rfl⟩ := List.mem_map.mp hr
    exact hi.len z hz
  · obtain ⟨z, hz, rfl⟩ := List.mem_map.mp hr
    exact hi.form z hz
theorem unitAt_len (k p : Nat) : (unitAt k p).length = k := by unfold unitAt; rw [List.length_map, List.length_range]
theorem unitAt_sz {k p e : Nat} (he : 1 ≤ e) : ∀ v ∈ unitAt k p, sz v ≤ 2 ^ e := fun v hv => by
  obtain ⟨o, _, rfl⟩ := List.mem_map.mp hv
  have h1 : 2 ≤ 2 ^ e := Nat.le_trans (by decide : 2 ≤ 2 ^ 1) (pow_le2 he)
  by_cases h : o = p
  · rw [if_pos h, sz_one]; exact h1
  · rw [if_neg h, sz_zero]; omega
theorem above_lt {m : List (List Rat)} {p : Nat} (h : p ∈ abovesOf m) : p < (formsOf m).length := by
  unfold abovesOf at h
  obtain ⟨z, hz, rfl⟩ := List.mem_map.mp h
  have hz := (List.mem_filter.mp hz).1
  obtain ⟨q, i⟩ := z
  have := List.mem_zipIdx hz
  rw [formsOf_len]
  omega
/-- the elimination finds its places, for each of the two lists -/
def Found (n : Nat) (m : List (List Rat)) : Prop := ∀ p ∈ (abovesOf m).take 2, Good n (formsOf m) (unitAt (formsOf m).length p)
end On
set_option Elab.async false
set_option linter.all false
set_option maxRecDepth 100000
set_option maxHeartbeats 4000000
/-! above_in, two_above. -/
namespace On
open PySem PySem.Spec PyProof.Rows L2
section
variable {K : PySem.W.Frag} {σ : L2.St} {G0 H1 G H M : Hp} {te tl ta tb' tc : TE} {P : V → Hp → Prop} {δ : Type} {S : δ → V → Hp → Prop} {D : Ends} {tb tz : TS} {C : Addr}
/-- for x in a list; what stands unknown stays so -/
theorem q_forLy {zs : List δ} {j : Nat} (up : Up S) (gr : Grow G0 H1 G H) (h : Ev tl σ G (lstOf S zs)) (I : Nat → L2.St → Hp → Hp → Prop) (i0 : ∀ G' H', Grow G H G' H' → Grow G0 H1 G' H' → I 0 σ G' H')
    (hs : ∀ (i : Nat) z x σ' G' H', zs[i]? = some z → S z x G' → Ex G G' → Grow G0 H1 G' H' → I i σ' G' H' → ∀ N : L2.St → Hp → Prop, (∀ σ3 G3 H3, Ex G' G3 → Grow G0 H1 G3 H3 → I (i + 1) σ3 G3 H3 → N σ3 H3) → tb { D with nx := N, ct := N, bk := tz D } (σ'.set j (some x)) H')
    (hd : ∀ σ' G' H', Ex G G' → Grow G0 H1 G' H' → I zs.length σ' G' H' → tz D σ' H') : tSeq (tFor (iList K tl) (gName j) tb) tz D σ H :=
  h H gr.re _ fun v Gs Hs g1 ⟨a, xs, ev, ha, all⟩ => by
    refine ⟨a, ev, ⟨xs, SqL.of (g1.re _ _ ha)⟩, ?_⟩
    refine for_core (D := { D with nx := tz D }) (walk_list (xs := xs)) (fun H' e => SqL.of (e _ _ ha)) (gr.trans g1) I (i0 Gs Hs g1 (gr.trans g1)) (fun i x σ' G' H' H'' hi e g' iv hy => ?_) fun σ' G' H' e g' iv => hd σ' G' H' (g1.kn.trans e) g' (by rw [← all.len]; exact iv)
    obtain ⟨e2, hx⟩ := hy
    subst e2
    obtain ⟨z, hz, s⟩ := all.get hx
    exact ⟨Ex.rfl, _, step_name, fun N hN => hs i z x σ' G' _ hz (up _ _ _ _ e s) (g1.kn.trans e) g' iv N fun σ3 G3 H3 e3 => hN σ3 G3 H3 (e.trans e3)⟩
theorem up_newL {γ : Type} {R : γ → V → Hp → Prop} {H : Hp} (up : Up R) : Up fun z => newL R z H := fun z v G G' e ⟨a, xs, h1, h2, h3, h4⟩ => ⟨a, xs, h1, h2, e _ _ h3, h4.mono fun _ _ r => up _ _ _ _ e r⟩
theorem newL_offN {r : List Rat} {v : V} {G' : Hp} (hl : Lists M) (e : Ex M G') (hM : Ex M H) (g : Ex G H) (e0 : Ex G0 G) (h : newL (isR C) r (join G M) v G') : newL (isR C) r G0 v (sub G' M) := by
  obtain ⟨a, xs, rfl, h1, h2, h3⟩ := h
  have hm : M a = none := by
    cases q : M a with
    | none => rfl
    | some o => rw [join_r g hM a o q] at h1; cases h1
  exact ⟨a, xs, rfl, (e0.trans join_l).back h1, by rw [sub_at hm]; exact h2, h3.mono fun _ _ h => isR.off hl e h⟩
theorem all_self : ∀ xs : List V, All2 (fun (x z : V) => x = z) xs xs
  | [] => .nil
  | _ :: r => .cons rfl (all_self r)
theorem new_not {r : List Rat} {v : V} {G' : Hp} {xs : List V} {zs : List (List Rat)} (h : newL (isR C) r (join G M) v G') (all : All2 (fun x z => newL (isR C) z G0 x G) xs zs) : v ∉ xs := fun hm => by
  obtain ⟨a, ys, rfl, h1, _, _⟩ := h
  obtain ⟨i, hi⟩ := List.getElem?_of_mem hm
  obtain ⟨z, _, b, us, e1, _, h2, _⟩ := all.get hi
  cases e1
  rw [join_l a _ h2] at h1
  cases h1
end
section
variable {P : Program} {w : World} {K : PySem.W.Frag} {mg : Str → Option Value} {base : Heap} {C : Addr}
/-- a table of sizes that are held -/
structure TabSz (n e : Nat) (m : List (List Rat)) : Prop where
  sq : Sq n m
  sym : Sym m
  n1 : 1 ≤ n
  n4 : n ≤ 4
  e1 : 1 ≤ e
  e2 : e ≤ 25
  ents : Ents n e m
  found : Found n m
/-- new lists, each apart from the others -/
def newRows (C : Addr) (zs : List (List Rat)) (H : Hp) : V → Hp → Prop := fun v G => ∃ a xs, v = .ref a ∧ H a = none ∧ G a = some (.lst xs) ∧ All2 (fun x z => newL (isR C) z H x G) xs zs ∧ xs.Nodup
def spAbove (C : Addr) : Sp := Pu (γ := List (List Rat)) (fun m vs H => ∃ v w, vs = [v, w] ∧ (isMat C m v H ∧ w = .int 2 ∧ ∃ n e, TabSz n e m)) fun m H v G => newRows C (aboveLists m) H v G
theorem c_above_in (T : Txt P w K mg base C) : C8.Cal P w K mg base 44 "above_in" (spAbove C) [] := by
  refine cal_by T.d_above_in sc_above_in (fun _ _ _ _ _ _ us hl => match us, hl with | [_, _], _ => rfl) len_2 fun f cdv A outer s H vs Q E hr h => ?_
  obtain ⟨m, G, e, ⟨v, _, rfl, hv, rfl, n, ee, hm⟩, q⟩ := h
  obtain ⟨hfe, hfl⟩ := forms_ok hm.sq hm.sym hm.n4 hm.e1 hm.ents
  have hn4 := hm.n4
  have he1 := hm.e1
  have he2 := hm.e2
  have hsl : (squaresIn m).length ≤ 4 := by rw [← formsOf_len]; omega
  refine ⟨_, (pss_cons (ps_set (i := 2) sc_above_in.nd rfl (by first | exact Or.inl rfl | exact Or.inr rfl) (C8.pe_c (c_squares_in T) hr (by decide) rfl (pa_cons (pv 0) pa_nil))) (pss_cons (ps_setLc (i := 3) (own := [("number", 7), ("form", 8)]) (g := gTup K 2 (gCons (gName 7) (gCons (gName 8) gNil))) (tt := tYes) rfl sc_above_in.nd rfl rfl (sw_true rfl rfl rfl (by kernel_rfl)) (pi_list (pv 2)) (blkOk_by (own := [("number", 7), ("form", 8)]) (by kernel_rfl)) (fun _ _ _ _ _ => (pg_tup rfl (pgs_cons (pg_name (i := 7) sc_above_in.nd rfl (by first | exact Or.inl rfl | exact Or.inr rfl)) (pgs_cons (pg_name (i := 8) sc_above_in.nd rfl (by first | exact Or.inl rfl | exact Or.inr rfl)) pgs_nil)))) (fun _ _ _ _ _ => pts_nil) (fun _ _ _ _ _ => (pv 8))) (pss_cons (ps_setLc (i := 4) (own := [("place", 6), ("square", 9)]) (g := gTup K 2 (gCons (gName 6) (gCons (gName 9) gNil))) (tt := _) rfl sc_above_in.nd rfl rfl (sw_true rfl rfl rfl (by kernel_rfl)) (pi_enum (by rfl) T.n_enumerate (pa_cons (pv 2) pa_nil)) (blkOk_by (own := [("place", 6), ("square", 9)]) (by kernel_rfl)) (fun _ _ _ _ _ => (pg_tup rfl (pgs_cons (pg_name (i := 6) sc_above_in.nd rfl (by first | exact Or.inl rfl | exact Or.inr rfl)) (pgs_cons (pg_name (i := 9) sc_above_in.nd rfl (by first | exact Or.inl rfl | exact Or.inr rfl)) pgs_nil)))) (fun _ _ _ _ _ => (pts_one (pt_cmpR op_gt (pe_pp (p_sign T) hr (by decide) (pe_ix (r := rIxLT K) ix_lt (pv 9) pe_int (fun _ _ => rfl)) rfl) pe_int (nomark _)))) (fun _ _ _ _ _ => (pv 6))) (pss_cons (ps_set (i := 5) sc_above_in.nd rfl (by first | exact Or.inl rfl | exact Or.inr rfl) (pe_lst pa_nil)) (pss_cons (ps_for PassesOwn.never rfl (pi_list (pe_slice (r := rSlL K) sl_list (pv 4) po_none (po_some (pv 1)))) (pg_name (i := 6) sc_above_in.nd rfl (by first | exact Or.inl rfl | exact Or.inr rfl)) (pss_one (ps_expr (pe_bm PySem.F.plainAttrs_list PySem.F.slot_list_append PySem.F.type_list_append mt_append (pv 5) (pa_cons (C8.pe_c (c_list_with T) hr (by decide) rfl (pa_cons (pv 3) (pa_cons (pe_lc (own := [("other", 10)]) (g := gName 10) (tt := tYes) rfl sc_above_in.nd (pi_range1 rfl T.n_range (pa_cons (pe_callB (r := rLen K) call_len_lt (by rfl) T.n_len bo_len (pa_cons (pv 3) pa_nil)) pa_nil)) (blkOk_by (own := [("other", 10)]) (by kernel_rfl)) (fun _ _ _ _ _ => (pg_name (i := 10) sc_above_in.nd rfl (by first | exact Or.inl rfl | exact Or.inr rfl))) (fun _ _ _ _ _ => pts_nil) (fun _ _ _ _ _ => (pe_ifExp (pt_cmpR (cmEq T hr (by decide)) (pv 10) (pv 6) (nomark _)) (C8.pe_mk (k_ratio1 T) hr (by decide) rfl (pa_cons pe_int pa_nil)) (C8.pe_mk (k_ratio1 T) hr (by decide) rfl (pa_cons pe_int pa_nil))))) pa_nil))) pa_nil))))) (pss_one (ps_ret (pv 5)))))))), ?_⟩
  refine t_set (P := lstOf (isSq C) (squaresIn m)) (Grow.rfl e) (ev_call (sp := spSquares C) (ea_1 (ev_slot rfl hv)) fun vs G' e ⟨v, ev, hv⟩ => Pu.tr (g := m) ⟨v, ev, hv, n, ee, hm.sq, hm.sym, hm.n4, hm.ents, hm.e1, by omega⟩) fun sv G1 H1 e1 g1 hsv => ?_
  refine t_set (P := isMat C (formsOf m)) g1 (ev_lc (f := fun z : Rat × List Rat => z.2) up_row (by omega) (src_pairs (ev_slot rfl hsv) (fun _ _ => rfl) fun i z x y G' hz eG hx hy => ⟨et_yes, fun _ => ev_slot rfl hy⟩)).old fun fv G2 H2 e2 g2 hfv => ?_
  refine t_set (P := lstOf isNat (abovesOf m)) g2 (ev_lcG (f := fun z : (Rat × List Rat) × Nat => z.2) (keep := fun z => decide ((0 : Int) < sgn z.1.1)) up_nat (by rw [List.length_zipIdx]; omega) (src_enum (ea_1 (ev_slot rfl (up_lst up_sq _ _ _ _ e2 hsv))) (fun _ _ => rfl) fun i z x G' hz eG hx => ⟨et_test (ev_int0 (ev_prop (ev_ix0 up_isR up_row (ev_slot rfl hx) ev_c)) ev_c), fun _ => ev_var rfl⟩)).old fun av G3 H3 e3 g3 hav => ?_
  refine t_setN g3 fun a H4 h1a hga ha g4 => ?_
  have hk : (formsOf m).length ≤ 4 := by omega
  have hfv3 := up_mat _ _ _ _ e3 hfv
  refine q_forLy (S := isNat) (zs := (abovesOf m).take 2) up_nat g4 (by
    rw [← cut_to]
    exact (ev_sl up_nat (ev_slot rfl hav) eo_none (eo_some (ev_var (v := .int 2) rfl))).old)
    (fun j σ G' H' => (∃ xs o6 o7 o8 o9 o10, σ = [some v, some (.int 2), some sv, some fv, some av, some (.ref a), o6, o7, o8, o9, o10] ∧ H' a = some (.lst xs) ∧ All2 (fun x z => newL (isR C) z G x G') xs (((abovesOf m).take 2 |>.take j).map fun p => withList (formsOf m) (unitAt (formsOf m).length p)) ∧ xs.Nodup) ∧ G' a = none)
    (fun G' H' g' gg => ⟨⟨[], _, _, _, _, _, rfl, g'.ol _ _ ha, .nil, List.nodup_nil⟩, g'.away hga ha⟩) ?_ ?_
  · rintro j p pv σ' G5 H5 hz hpv e5 g5 ⟨⟨xs, o6, o7, o8, o9, o10, rfl, ha5, all5, hnd⟩, hga5⟩ N hN
    obtain rfl : pv = .int (p : Int) := hpv
    have hM5 : Ex (one a (.lst xs)) H5 := one_ex ha5
    have hp := mem_of_get hz
    have hpk := above_lt (List.mem_of_mem_take hp)
    have hwith : WithOk n (64 * ee) (formsOf m) (unitAt (formsOf m).length p) := ⟨hfe, unitAt_sz (by omega), unitAt_len _ _, hk, hn4, (fun z => by rw [z] at hpk; exact absurd hpk (Nat.not_lt_zero p)), by omega, hm.found p hp⟩
    have hxl : xs.length ≤ 4 := by
      rw [all5.len, List.length_map, List.length_take, List.length_take]
      omega
    have hfv5 := up_mat _ _ _ _ (e5.trans (join_l (B := one a (.lst xs)))) hfv3
    refine app_m (K := K) (M := one a (.lst xs)) (P := newL (isR C) (withList (formsOf m) (unitAt (formsOf m).length p)) (join G5 (one a (.lst xs)))) g5 hM5 (one_apart hga5) rfl one_at (by omega) h1a
      (ev_callN (sp := spWith C) (ea_2 up_mat up_row (ev_slot rfl hfv5) ((ev_lc (f := fun o => if o = p then (1 : Rat) else 0) up_isR (by rw [List.length_range]; omega) (src_range (n := (formsOf m).length) (fun Hx ex Qx qx => ea_1 (ev_lenL (ev_slot rfl hfv5)) Hx ex Qx fun vs G2 H2 g2 ⟨v', ev, hv'⟩ => qx vs G2 H2 g2 (by rw [ev, hv'])) (by omega) (fun _ => rfl) fun o G' ho eG =>
        ⟨et_yes, fun _ => ev_if (et_test (ev_eqU rfl (ev_var (v := .int (o : Int)) rfl) (ev_var (v := .int (p : Int)) rfl))) (fun hb => by
          have hop : o = p := by have := V.int.inj (of_decide_eq_true hb); omega
          rw [if_pos hop]
          exact ev_mk1 (a := 1) ev_c) (fun hb => by
          have hop : o ≠ p := fun z => of_decide_eq_false hb (by rw [z])
          rw [if_neg hop]
          exact ev_mk1 (a := 0) ev_c)⟩)).old)) fun vs G' e ⟨v, w, ev, hv, hw⟩ => Pu.tr (g := (formsOf m, unitAt (formsOf m).length p)) ⟨v, w, ev, hv, hw, n, 64 * ee, hwith⟩) ?_
    rintro vn G6 H6 e6 eM6 g6 eH6 hvn
    refine hN _ (sub G6 (one a (.lst xs))) _ e6 g6 ⟨⟨xs ++ [vn], _, _, _, _, _, rfl, upd_same, ?_, ?_⟩, sub_no (by rw [one_at]; exact Option.some_ne_none _)⟩
    · rw [take_snoc hz, List.map_append]
      exact (all5.mono fun _ _ r => up_newL up_isR _ _ _ _ e6 r).snoc (newL_offN one_lists eM6 hM5 g5.re g5.kn hvn)
    · exact List.nodup_append.mpr ⟨hnd, List.nodup_cons.mpr ⟨List.not_mem_nil, List.nodup_nil⟩, fun x hx y hy => by
        rw [List.mem_singleton.mp hy]
        exact fun z => new_not hvn all5 (z ▸ hx)⟩
  · rintro σ' G5 H5 e5 g5 ⟨⟨xs, o6, o7, o8, o9, o10, rfl, ha5, all5, hnd⟩, hga5⟩
    rw [List.take_length] at all5
    have s1 := g5.see h1a hga5 ha5
    exact s_ret s1 (ev_slot (i := 5) (R := fun z => newRows C z G) (x := aboveLists m) rfl ⟨a, xs, rfl, g5.kn.back hga5, upd_same, all5.mono fun _ _ r => up_newL up_isR _ _ _ _ (Ex.new hga5) r, hnd⟩) q
/-- None, or a new tuple of two new lists -/
def newPair (C : Addr) (o : Option (List Rat × List Rat)) (H : Hp) : V → Hp → Prop := fun v G => match o with
  | none => v = .non
  | some (x, y) => ∃ t a b xs ys, v = .ref t ∧ G t = some (.tup [.ref a, .ref b]) ∧ H t = none ∧ H a = none ∧ H b = none ∧ a ≠ b ∧ G a = some (.lst xs) ∧ G b = some (.lst ys) ∧ All2 (fun x z => isR C z x G) xs x ∧ All2 (fun x z => isR C z x G) ys y
theorem tab_rows {n e : Nat} {m : List (List Rat)} (h : TabSz n e m) : TabOk m := by
  have hl := h.sq.len
  exact ⟨by rw [hl]; exact h.sq, h.sym, by have := h.n1; omega, by have := h.n4; omega⟩
def spTwo (C : Addr) : Sp := Pu (γ := List (List Rat)) (fun m vs H => ∃ v, vs = [v] ∧ (gMat C m v H ∧ ∃ n e, TabSz n e m)) fun m H v G => newPair C (twoAbove m) H v G
theorem body_two_above (T : Txt P w K mg base C) (f : Addr) : BodyOk P w K mg base 44 N_two_above "two_above" s_two_above f (spTwo C) := by
  intro cdv A outer s H vs Q E hr h
  obtain ⟨m, G, e, ⟨v, rfl, hv, n, ee, hm⟩, q⟩ := h
  refine ⟨_, (pss_cons (ps_set (i := 1) sc_two_above.nd rfl (by first | exact Or.inl rfl | exact Or.inr rfl) (C8.pe_c (c_above_in T) hr (by decide) rfl (pa_cons (C8.pe_c (c_told_rows T) hr (by decide) rfl (pa_cons (pv 0) pa_nil)) (pa_cons pe_int pa_nil)))) (pss_one (ps_ret (pe_ifExp (pt_cmpR op_gt (pe_callB (r := rLen K) call_len_lt (by rfl) T.n_len bo_len (pa_cons (pv 1) pa_nil)) pe_int (nomark _)) (pe_tup (pa_cons (pe_ix (r := rIxLT K) ix_lt (pv 1) pe_int (fun _ _ => rfl)) (pa_cons (pe_ix (r := rIxLT K) ix_lt (pv 1) pe_int (fun _ _ => rfl)) pa_nil))) pe_non)))), ?_⟩
  refine t_set (P := fun v G' => ∃ G1, Ex G G1 ∧ newRows C (aboveLists m) G1 v G') (Grow.rfl e) (ev_call (sp := spAbove C) (PA := fun vs G' => ∃ v w, vs = [v, w] ∧ isMat C m v G' ∧ isV (.int 2) w G') (ea_2 up_mat up_isV (told_rows_ev (ev_slot rfl hv) (tab_rows hm)).old ev_c) fun vs G' e ⟨v, w, ev, hv, hw⟩ => Tr.imp (Pu.tr (g := m) ⟨v, w, ev, hv, hw, n, ee, hm⟩) fun v G'' _ p => ⟨G', e, p⟩) ?_
  rintro _ G1 H1 e1 g1 ⟨Gx, ex, a, xs, rfl, ha0, ha1, all, hnd⟩
  have hl : Ev (tCB (rLen K) (tCons (tVar 1) tNil)) [some v, some (.ref a)] G1 (isV (.int (aboveLists m).length)) := ev_lenL (ev_slot (R := lstOf fun z => newL (isR C) z Gx) rfl ⟨a, xs, rfl, ha1, all⟩)
  refine s_ret (P := newPair C (twoAbove m) G) g1 (ev_if (et_test (ev_int0 hl ev_c)) (fun hb => ?_) fun hb => ?_) q
  · have hb := of_decide_eq_true hb
    obtain ⟨x, y, rest, hxy⟩ : ∃ x y rest, aboveLists m = x :: y :: rest := by
      cases h1 : aboveLists m with
      | nil => rw [h1] at hb; exact absurd hb (by decide)
      | cons x l =>
        cases l with
        | nil => rw [h1] at hb; exact absurd hb (by simp)
        | cons y r => exact ⟨x, y, r, rfl⟩
    have htwo : twoAbove m = some (x, y) := by unfold twoAbove; rw [hxy]
    rw [htwo]
    rw [hxy] at all
    cases all with
    | cons r1 t1 =>
      cases t1 with
      | cons r2 t2 =>
        obtain ⟨b, us, rfl, hb1, hb2, hb3⟩ := r1
        obtain ⟨c, ws, rfl, hc1, hc2, hc3⟩ := r2
        have hne : b ≠ c := fun z => by
          rw [z] at hnd
          exact (List.nodup_cons.mp hnd).1 List.mem_cons_self
        intro H2 e2 Q2 q2
        refine ea_2 up_isV up_isV (Tr.imp (ev_ixL (R := fun v u (_ : Hp) => u = v) (zs := V.ref b :: V.ref c :: _) (fun _ _ _ _ _ h => h) (ev_slot rfl ⟨a, _, rfl, ha1, all_self _⟩) ev_c (z := .ref b) (atI_nat (j := 0) rfl)) fun _ _ _ h => h) (Tr.imp (ev_ixL (R := fun v u (_ : Hp) => u = v) (zs := V.ref b :: V.ref c :: _) (fun _ _ _ _ _ h => h) (ev_slot rfl ⟨a, _, rfl, ha1, all_self _⟩) ev_c (z := .ref c) (atI_nat (j := 1) rfl)) fun _ _ _ h => h) H2 e2 _ fun vs G3 H3 g3 ⟨v1, v2, ev, h1, h2⟩ => ?_
        subst ev
        obtain rfl : v1 = .ref b := h1
        obtain rfl : v2 = .ref c := h2
        refine ⟨by show 2 ≤ 2 ^ 24; decide, fun p hp => ?_⟩
        have g4 := g3.trans (Grow.new (o := .tup [.ref b, .ref c]) g3.re hp)
        have e4 : Ex G1 (upd G3 p (.tup [.ref b, .ref c])) := g4.kn
        exact q2 _ _ _ g4 ⟨p, b, c, us, ws, rfl, upd_same, e1.back ((g3.kn).back (g3.re.back hp)), ex.back hb1, ex.back hc1, hne, e4 _ _ hb2, e4 _ _ hc2, hb3.mono fun _ _ r => up_isR _ _ _ _ e4 r, hc3.mono fun _ _ r => up_isR _ _ _ _ e4 r⟩
  · have hb := of_decide_eq_false hb
    have htwo : twoAbove m = none := by
      unfold twoAbove
      cases h1 : aboveLists m with
      | nil => rfl
      | cons x l =>
        cases l with
        | nil => rfl
        | cons y r => rw [h1] at hb; exact absurd (by simp; omega) hb
    rw [htwo]
    exact ev_c
theorem c_two_above (T : Txt P w K mg base C) : C8.Cal P w K mg base 45 "two_above" (spTwo C) [] :=
  cal_by T.d_two_above sc_two_above (fun _ _ _ _ _ _ us hl => match us, hl with | [_], _ => rfl) len_1 (body_two_above T)
end
end On
set_option Elab.async false
set_option linter.all false
set_option maxRecDepth 100000
set_option maxHeartbeats 4000000
/-! is_two_above. -/
namespace On
open PySem PySem.Spec PyProof.Rows L2
/-- what the values' two lists may be -/
structure ValFits (m : List (List Rat)) (p q : List Rat) : Prop where
  prod : Fits (szL p * (szM m * szL q ^ m.length))
  made : Fits (szM m * szL q)
/-- two lists of numbers that show two squares above -/
def shows (m : List (List Rat)) (p q : List Rat) : Bool := !decide (sgn (value m p p) ≤ 0) && (!decide (sgn (value m q q) ≤ 0) && decide (sgn (value m p q) = 0))
def looks (m : List (List Rat)) : Dat → Bool
  | .tup [a, b] => a.nums m.length && (b.nums m.length && shows m a.vals b.vals)
  | _ => false
/-- a value's sizes -/
def DatFits (m : List (List Rat)) (d : Dat) : Prop := ∀ a b, d = .tup [a, b] → a.nums m.length = true → b.nums m.length = true → ValFits m a.vals a.vals ∧ ValFits m b.vals b.vals ∧ ValFits m a.vals b.vals
section
variable {K : PySem.W.Frag} {σ : L2.St} {G0 H1 G H : Hp} {te : TE} {γ : Type} {R : γ → V → Hp → Prop} {x y : γ} {D : Ends} {tz : TS}
/-- a, b = e, e a list of two -/
theorem t_unpackL {i j : Nat} (g : Grow G0 H1 G H) (h : Ev te σ G (lstOf R [x, y])) (k : ∀ v w G' H', Grow G H G' H' → Grow G0 H1 G' H' → R x v G' → R y w G' → tz D ((σ.set i (some v)).set j (some w)) H') :
    tSeq (tAsg te (gLst K 2 (gCons (gName i) (gCons (gName j) gNil)))) tz D σ H :=
  fin_y (Q := fun v H' => gLst K 2 (gCons (gName i) (gCons (gName j) gNil)) v σ H' fun σ2 H2 => tz D σ2 H2) g h fun v G' H' ex g' ⟨a, xs, e, ha, all⟩ => by
    subst e
    cases all with
    | cons r1 t1 =>
      cases t1 with
      | cons r2 t2 =>
        cases t2
        exact ⟨a, _, rfl, SqL.of (g'.re _ _ ha), rfl, _, _, rfl, _, _, rfl, rfl, k _ _ G' H' ex g' r1 r2⟩
end
section
variable {P : Program} {w : World} {K : PySem.W.Frag} {mg : Str → Option Value} {base : Heap} {C : Addr}
theorem nums_len {it : Item} {n : Int} (h : it.nums n = true) : (it.vals.length : Int) = n := by
  cases it with
  | atom a => cases h
  | dct => cases h
  | lst as =>
    show ((as.map Atom.val).length : Int) = n
    rw [List.length_map]
    exact of_decide_eq_true (Bool.and_eq_true_iff.mp h).1
  | tup as =>
    show ((as.map Atom.val).length : Int) = n
    rw [List.length_map]
    exact of_decide_eq_true (Bool.and_eq_true_iff.mp h).1
theorem value_ev {σ : L2.St} {G : Hp} {ta tb tc : TE} {m : List (List Rat)} {p q : List Rat} (h1 : Ev ta σ G (isMat C m)) (h2 : Ev tb σ G (isRow C p)) (h3 : Ev tc σ G (isRow C q)) (hf : ValFits m p q) (hm : TabOk m) (hp : p.length ≤ 100000) :
    Ev (tCall (spValue C) [] E0 (tCons ta (tCons tb (tCons tc tNil)))) σ G (isR C (value m p q)) :=
  ev_call (ea_3 up_mat up_row up_row h1 h2 h3) fun vs G' e ⟨v, w, u, ev, hv, hw, hu⟩ => Pu.tr (g := (m, p, q)) ⟨v, w, u, ev, hv, hw, hu, hf.prod, hf.made, by have := hm.le; show m.length ≤ 100000; omega, hp, fun r hr => by have h1 := hm.sq.row r hr; have h2 := hm.le; omega⟩
def spIs (C : Addr) : Sp := Pu (γ := List (List Rat) × Dat) (fun g vs H => ∃ v w, vs = [v, w] ∧ (gMat C g.1 v H ∧ isDat C g.2 w H ∧ TabOk g.1 ∧ DatFits g.1 g.2)) fun g H v G => v = .bl (looks g.1 g.2)
theorem body_is_two_above (T : Txt P w K mg base C) (f : Addr) : BodyOk P w K mg base 45 N_is_two_above "is_two_above" s_is_two_above f (spIs C) := by
  intro cdv A outer s H vs Q E hr h
  obtain ⟨⟨m, d⟩, G, e, ⟨v, wv, rfl, hv, hd, hm, hf⟩, q⟩ := h
  have hd : isDat C d wv G := hd
  have h4 : m.length ≤ 4 := hm.le
  have isT : ∀ {σ : L2.St} {G' : Hp}, Ex G G' → σ[1]? = some (some wv) → Ev (tCB (rIsi K) (tCons (tVar 1) (tCons (tC (.ty "tuple")) tNil))) σ G' (isV (.bl (d.kind == .tup))) := fun eG h => ev_isi (k := d.kind) T.isi (.ty _) (isa_tuple T _) (ev_slot (R := kindOf C) h (up_kind _ _ _ _ eG (dat_kind hd)))
  have told : ∀ {σ : L2.St}, σ[0]? = some (some v) → Ev (tCall (spTold2 C) [] E0 (tCons (tVar 0) tNil)) σ G (isMat C m) := fun h => (told_rows_ev (ev_slot h hv) hm).old
  by_cases hk : d.kind = .tup
  case neg =>
    refine ⟨_, (pss_cons (ps_set (i := 2) sc_is_two_above.nd rfl (by first | exact Or.inl rfl | exact Or.inr rfl) (C8.pe_c (c_told_rows T) hr (by decide) rfl (pa_cons (pv 0) pa_nil))) (pss_cons (ps_if (PW.pt (pw_or (pt_not (pt_val (pe_callB (r := rIsi K) call_isi (by rfl) T.n_isinstance bo_isinstance (pa_cons (pv 1) (pa_cons (pe_bltn (v := .ty "tuple") rfl T.n_tuple bo_tuple rfl) pa_nil))))) (pw_or (pt_cmpR (cmNe T hr (by decide)) (pe_callB (r := rLen K) call_len_lt (by rfl) T.n_len bo_len (pa_cons (pv 1) pa_nil)) pe_int (nomark _)) (pw_or1 (pt_not (pt_val (pe_callB (call_allB rfl) (by rfl) T.n_all bo_all (pa_cons (pe_lc (own := [("one", 5)]) (g := gName 5) (tt := tYes) rfl sc_is_two_above.nd (pi_list (pv 1)) (blkOk_by (own := [("one", 5)]) (by kernel_rfl)) (fun _ _ _ _ _ => (pg_name (i := 5) sc_is_two_above.nd rfl (by first | exact Or.inl rfl | exact Or.inr rfl))) (fun _ _ _ _ _ => pts_nil) (fun _ _ _ _ _ => (C8.pe_c (c_are_numbers T) hr (by decide) rfl (pa_cons (pv 5) (pa_cons (pe_callB (r := rLen K) call_len_lt (by rfl) T.n_len bo_len (pa_cons (pv 2) pa_nil)) pa_nil))))) pa_nil)))))))) (pss_one (ps_ret pe_bl)) pss_nil) (pss_cons (ps_asg (pe_lc (own := [("one", 5)]) (g := gName 5) (tt := tYes) rfl sc_is_two_above.nd (pi_list (pv 1)) (blkOk_by (own := [("one", 5)]) (by kernel_rfl)) (fun _ _ _ _ _ => (pg_name (i := 5) sc_is_two_above.nd rfl (by first | exact Or.inl rfl | exact Or.inr rfl))) (fun _ _ _ _ _ => pts_nil) (fun _ _ _ _ _ => (C8.pe_c (c_ratios_of T) hr (by decide) rfl (pa_cons (pv 5) pa_nil)))) (pg_lst rfl (pgs_cons (pg_name (i := 3) sc_is_two_above.nd rfl (by first | exact Or.inl rfl | exact Or.inr rfl)) (pgs_cons (pg_name (i := 4) sc_is_two_above.nd rfl (by first | exact Or.inl rfl | exact Or.inr rfl)) pgs_nil)))) (pss_cons (ps_if (PW.pt (pw_or (pt_cmpR op_le (pe_pp (p_sign T) hr (by decide) (C8.pe_c (c_value_in T) hr (by decide) rfl (pa_cons (pv 2) (pa_cons (pv 3) (pa_cons (pv 3) pa_nil)))) rfl) pe_int (nomark _)) (pw_or1 (pt_cmpR op_le (pe_pp (p_sign T) hr (by decide) (C8.pe_c (c_value_in T) hr (by decide) rfl (pa_cons (pv 2) (pa_cons (pv 4) (pa_cons (pv 4) pa_nil)))) rfl) pe_int (nomark _))))) (pss_one (ps_ret pe_bl)) pss_nil) (pss_one (ps_ret (pe_cmpR (cmEq T hr (by decide)) (pe_pp (p_sign T) hr (by decide) (C8.pe_c (c_value_in T) hr (by decide) rfl (pa_cons (pv 2) (pa_cons (pv 3) (pa_cons (pv 4) pa_nil)))) rfl) pe_int (nomark _)))))))), ?_⟩
    refine t_set (P := isMat C m) (Grow.rfl e) (told rfl) fun rv G1 H1 e1 g1 hrv => ?_
    refine q_take g1 (EvT.is (et_or (b := true) (et_not (et_B (isT e1 rfl))) fun hb => ?_) (by rw [Bool.or_true])) fun H2 g2 => ?_
    · rw [beq_false_of_ne hk] at hb
      cases hb
    · refine s_ret g2 ev_c fun v' G3 H3 g3 p => q v' G3 H3 g3 ?_
      obtain rfl : v' = _ := p
      show V.bl false = V.bl (looks m d)
      cases d with
      | tup xs => exact absurd rfl hk
      | atom a => rfl
      | dct => rfl
      | lst xs => rfl
  case pos =>
    obtain ⟨xs, rfl⟩ : ∃ xs, d = .tup xs := by
      cases d with
      | tup xs => exact ⟨xs, rfl⟩
      | atom a => cases a <;> cases hk
      | dct => cases hk
      | lst xs => cases hk
    have hd : tupOf (isItem C) xs wv G := hd
    have hbeq : ((Dat.tup xs).kind == Kind.tup) = true := by show (Kind.tup == Kind.tup) = true; decide
    refine ⟨_, (pss_cons (ps_set (i := 2) sc_is_two_above.nd rfl (by first | exact Or.inl rfl | exact Or.inr rfl) (C8.pe_c (c_told_rows T) hr (by decide) rfl (pa_cons (pv 0) pa_nil))) (pss_cons (ps_if (PW.pt (pw_or (pt_not (pt_val (pe_callB (r := rIsi K) call_isi (by rfl) T.n_isinstance bo_isinstance (pa_cons (pv 1) (pa_cons (pe_bltn (v := .ty "tuple") rfl T.n_tuple bo_tuple rfl) pa_nil))))) (pw_or (pt_cmpR (cmNe T hr (by decide)) (pe_callB (r := rLen K) call_len_lt (by rfl) T.n_len bo_len (pa_cons (pv 1) pa_nil)) pe_int (nomark _)) (pw_or1 (pt_not (pt_val (pe_callB (call_allB rfl) (by rfl) T.n_all bo_all (pa_cons (pe_lc (own := [("one", 5)]) (g := gName 5) (tt := tYes) rfl sc_is_two_above.nd (pi_tup (pv 1)) (blkOk_by (own := [("one", 5)]) (by kernel_rfl)) (fun _ _ _ _ _ => (pg_name (i := 5) sc_is_two_above.nd rfl (by first | exact Or.inl rfl | exact Or.inr rfl))) (fun _ _ _ _ _ => pts_nil) (fun _ _ _ _ _ => (C8.pe_c (c_are_numbers T) hr (by decide) rfl (pa_cons (pv 5) (pa_cons (pe_callB (r := rLen K) call_len_lt (by rfl) T.n_len bo_len (pa_cons (pv 2) pa_nil)) pa_nil))))) pa_nil)))))))) (pss_one (ps_ret pe_bl)) pss_nil) (pss_cons (ps_asg (pe_lc (own := [("one", 5)]) (g := gName 5) (tt := tYes) rfl sc_is_two_above.nd (pi_tup (pv 1)) (blkOk_by (own := [("one", 5)]) (by kernel_rfl)) (fun _ _ _ _ _ => (pg_name (i := 5) sc_is_two_above.nd rfl (by first | exact Or.inl rfl | exact Or.inr rfl))) (fun _ _ _ _ _ => pts_nil) (fun _ _ _ _ _ => (C8.pe_c (c_ratios_of T) hr (by decide) rfl (pa_cons (pv 5) pa_nil)))) (pg_lst rfl (pgs_cons (pg_name (i := 3) sc_is_two_above.nd rfl (by first | exact Or.inl rfl | exact Or.inr rfl)) (pgs_cons (pg_name (i := 4) sc_is_two_above.nd rfl (by first | exact Or.inl rfl | exact Or.inr rfl)) pgs_nil)))) (pss_cons (ps_if (PW.pt (pw_or (pt_cmpR op_le (pe_pp (p_sign T) hr (by decide) (C8.pe_c (c_value_in T) hr (by decide) rfl (pa_cons (pv 2) (pa_cons (pv 3) (pa_cons (pv 3) pa_nil)))) rfl) pe_int (nomark _)) (pw_or1 (pt_cmpR op_le (pe_pp (p_sign T) hr (by decide) (C8.pe_c (c_value_in T) hr (by decide) rfl (pa_cons (pv 2) (pa_cons (pv 4) (pa_cons (pv 4) pa_nil)))) rfl) pe_int (nomark _))))) (pss_one (ps_ret pe_bl)) pss_nil) (pss_one (ps_ret (pe_cmpR (cmEq T hr (by decide)) (pe_pp (p_sign T) hr (by decide) (C8.pe_c (c_value_in T) hr (by decide) rfl (pa_cons (pv 2) (pa_cons (pv 3) (pa_cons (pv 4) pa_nil)))) rfl) pe_int (nomark _)))))))), ?_⟩
    refine t_set (P := isMat C m) (Grow.rfl e) (told rfl) fun rv G1 H1 e1 g1 hrv => ?_
    by_cases hl : xs.length = 2
    case neg =>
      refine q_take g1 (EvT.is (et_or (b := true) (et_not (et_B (isT e1 rfl))) fun _ => EvT.is (et_or (b := true) (et_test (ev_neU rfl (ev_lenT (ev_slot rfl (up_tup up_item _ _ _ _ e1 hd))) ev_c)) fun hb => ?_) (by rw [Bool.or_true])) (by rw [Bool.or_true])) fun H2 g2 => ?_
      · rw [decide_eq_false (fun z => hl (by have := V.int.inj z; omega))] at hb
        cases hb
      · refine s_ret g2 ev_c fun v' G3 H3 g3 p => q v' G3 H3 g3 ?_
        obtain rfl : v' = _ := p
        show V.bl false = V.bl (looks m (.tup xs))
        match xs, hl with
        | [], _ => rfl
        | [_], _ => rfl
        | [_, _], hl => exact absurd rfl hl
        | _ :: _ :: _ :: _, _ => rfl
    case pos =>
      obtain ⟨a, b, rfl⟩ : ∃ a b, xs = [a, b] := match xs, hl with
        | [a, b], _ => ⟨a, b, rfl⟩
      have hd1 := up_tup up_item _ _ _ _ e1 hd
      refine q_if (b := !(a.nums m.length && b.nums m.length)) g1 (EvT.is (et_or (et_not (et_B (isT e1 rfl))) fun _ => et_or (et_test (ev_neU rfl (ev_lenT (ev_slot rfl hd1)) ev_c)) fun _ =>
        et_not (et_B (ev_all (ev_lc (f := fun it : Item => it.nums m.length) up_bl (by show 2 ≤ 100000; omega) (src_tup (K := K) (ev_slot rfl hd1) (fun _ => rfl) fun i it x G' hz eG hx => ⟨et_yes, fun _ => nums_ev (ev_slot rfl hx) (ev_lenL (ev_slot rfl (up_mat _ _ _ _ eG hrv))) (by omega)⟩)).old))) (by
          rw [hbeq]
          show (!true || ((!decide (V.int (([a, b] : List Item).length : Int) = V.int 2)) || !([a.nums m.length, b.nums m.length].all id))) = _
          rw [show decide (V.int (([a, b] : List Item).length : Int) = V.int 2) = true from rfl]
          simp)) (fun hb H2 g2 => ?_) (fun hb H2 g2 => ?_)
      · refine s_ret g2 ev_c fun v' G3 H3 g3 p => q v' G3 H3 g3 ?_
        obtain rfl : v' = _ := p
        show V.bl false = V.bl (a.nums m.length && (b.nums m.length && shows m a.vals b.vals))
        rw [← Bool.and_assoc, show (a.nums m.length && b.nums m.length) = false from by revert hb; cases (a.nums m.length && b.nums m.length) <;> simp]
        rfl
      · have hab : (a.nums m.length && b.nums m.length) = true := by simpa using hb
        obtain ⟨ha, hb⟩ := Bool.and_eq_true_iff.mp hab
        obtain ⟨f1, f2, f3⟩ := hf a b rfl ha hb
        refine t_unpackL (R := isRow C) (x := a.vals) (y := b.vals) g2 (ev_lc (f := Item.vals) up_row (zs := [a, b]) (by show 2 ≤ 100000; omega) (src_tup (K := K) (ev_slot rfl hd1) (fun _ => rfl) fun i it x G' hz eG hx => ⟨et_yes, fun _ => ?_⟩)).old ?_
        · have hit : it.nums m.length = true := by
            rcases List.mem_cons.mp (mem_of_get hz) with rfl | h
            · exact ha
            · rw [List.mem_singleton.mp h]; exact hb
          obtain ⟨h1, h2⟩ := item_row hx hit
          exact (ratios_ev (ev_slot rfl h1) (by omega)).old
        rintro fv sv G3 H3 g3' g3 hfv hsv
        have hla := nums_len ha
        have hlb := nums_len hb
        have hrv3 := up_mat _ _ _ _ g3'.kn hrv
        refine q_if (b := decide (sgn (value m a.vals a.vals) ≤ 0) || decide (sgn (value m b.vals b.vals) ≤ 0)) g3 (et_or (et_test (ev_int0 (ev_prop (value_ev (ev_slot rfl hrv3) (ev_slot rfl hfv) (ev_slot rfl hfv) f1 hm (by omega))) ev_c)) fun _ => et_test (ev_int0 (ev_prop (value_ev (ev_slot rfl hrv3) (ev_slot rfl hsv) (ev_slot rfl hsv) f2 hm (by omega))) ev_c)) (fun hc H4 g4 => ?_) (fun hc H4 g4 => ?_)
        · refine s_ret g4 ev_c fun v' G5 H5 g5 p => q v' G5 H5 g5 ?_
          obtain rfl : v' = _ := p
          show V.bl false = V.bl (a.nums m.length && (b.nums m.length && shows m a.vals b.vals))
          rw [ha, hb]
          unfold shows
          rcases Bool.or_eq_true_iff.mp hc with h | h
          · rw [h]
            rfl
          · rw [h]
            simp
        · refine s_ret g4 (ev_eqU rfl (ev_prop (value_ev (ev_slot rfl hrv3) (ev_slot rfl hfv) (ev_slot rfl hsv) f3 hm (by omega))) ev_c) fun v' G5 H5 g5 p => q v' G5 H5 g5 ?_
          obtain rfl : v' = _ := p
          show V.bl _ = V.bl (a.nums m.length && (b.nums m.length && shows m a.vals b.vals))
          obtain ⟨h1, h2⟩ := Bool.or_eq_false_iff.mp hc
          rw [ha, hb, vint_eq]
          unfold shows
          rw [h1, h2]
          rfl
theorem c_is_two_above (T : Txt P w K mg base C) : C8.Cal P w K mg base 46 "is_two_above" (spIs C) [] :=
  cal_by T.d_is_two_above sc_is_two_above (fun _ _ _ _ _ _ us hl => match us, hl with | [_, _], _ => rfl) len_2 (body_is_two_above T)
end
end On
set_option Elab.async false
set_option linter.all false
set_option maxRecDepth 100000
set_option maxHeartbeats 4000000
/-! Reckoning while the pot, a list of two ints at p, changes. -/
namespace On
open PySem PySem.Spec PyProof.Rows L2
def PotOk (p : Addr) (H : Hp) : Prop := ∃ a b : Int, H p = some (.lst [.int a, .int b]) ∧ 0 ≤ a ∧ 0 ≤ b ∧ b < 2147483648
/-- known: H, without the pot; the heap: H1 -/
structure Pt (p : Addr) (H H1 : Hp) : Prop where
  ex : Ex H H1
  np : H p = none
  ok : PotOk p H1
theorem PotOk.some {p : Addr} {H : Hp} (h : PotOk p H) : H p ≠ none := by
  obtain ⟨a, b, e, _⟩ := h
  rw [e]
  exact Option.some_ne_none _
abbrev Ep (p : Addr) (H H' : Hp) : Prop := ∀ a o, a ≠ p → H a = some o → H' a = some o
structure Gp (p : Addr) (H H1 G H2 : Hp) : Prop where
  kn : Ex H G
  st : Pt p G H2
  ol : Ep p H1 H2
  fr : ∀ a, H a = none → H1 a ≠ none → G a = none
theorem Ep.trans {p : Addr} {H H1 H2 : Hp} (a : Ep p H H1) (b : Ep p H1 H2) : Ep p H H2 := fun x o h e => b x o h (a x o h e)
theorem Ep.some {p : Addr} {H H1 : Hp} {a : Addr} (e : Ep p H H1) (ha : a ≠ p) (h : H a ≠ none) : H1 a ≠ none := by
  cases q : H a with
  | none => exact absurd q h
  | some o => rw [e a o ha q]; exact Option.some_ne_none _
theorem Gp.rfl {p : Addr} {H H1 : Hp} (h : Pt p H H1) : Gp p H H1 H H1 := ⟨Ex.rfl, h, fun _ _ _ e => e, fun _ h _ => h⟩
theorem Gp.of {p : Addr} {H H1 G H2 : Hp} (h : Pt p H H1) (g : Grow H H1 G H2) : Gp p H H1 G H2 :=
  ⟨g.kn, ⟨g.re, g.fr p h.np h.ok.some, let ⟨a, b, e, r⟩ := h.ok; ⟨a, b, g.ol _ _ e, r⟩⟩, fun a o _ e => g.ol a o e, g.fr⟩
theorem Gp.trans {p : Addr} {H H1 G H2 G' H3 : Hp} (a : Gp p H H1 G H2) (b : Gp p G H2 G' H3) : Gp p H H1 G' H3 :=
  ⟨a.kn.trans b.kn, b.st, a.ol.trans b.ol, fun x h h1 => by
    by_cases hx : x = p
    · subst hx; exact b.st.np
    · exact b.fr x (a.fr x h h1) (a.ol.some hx h1)⟩
theorem Gp.more {p : Addr} {H H1 G H2 H3 : Hp} (a : Gp p H H1 G H2) (b : Pt p G H3) (e : Ep p H2 H3) : Gp p H H1 G H3 := ⟨a.kn, b, a.ol.trans e, a.fr⟩
theorem Gp.join {p : Addr} {H H' H1 G H2 : Hp} (e : Ex H H') (h : Pt p H' H1) (g : Gp p H H1 G H2) : Gp p H' H1 (join H' G) H2 := by
  have hk : Ex H' H2 := fun x o hx => g.ol x o (fun q => by rw [q, h.np] at hx; cases hx) (h.ex x o hx)
  exact ⟨join_l, ⟨join_ex hk g.st.ex, join_none h.np g.st.np, g.st.ok⟩, g.ol, fun a ha h1 => join_none ha (g.fr a (e.back ha) h1)⟩
theorem Gp.away {p : Addr} {H H1 G H2 : Hp} {a : Addr} {o : HO} (g : Gp p H H1 G H2) (h : H a = none) (ha : H1 a = some o) : G a = none := g.fr a h (by rw [ha]; exact Option.some_ne_none _)
/-- a changed object -/
theorem Gp.mut {p : Addr} {H H1 G H2 : Hp} {a : Addr} {o : HO} (g : Gp p H H1 G H2) (ha : a ≠ p) (h : H1 a = none) (hg : G a = none) : Gp p H H1 G (upd H2 a o) :=
  ⟨g.kn, ⟨g.st.ex.mut hg, g.st.np, let ⟨x, y, e, r⟩ := g.st.ok; ⟨x, y, by rw [upd_ne (Ne.symm ha)]; exact e, r⟩⟩, fun x u hx e => by
    by_cases q : x = a
    · rw [q, h] at e; cases e
    · rw [upd_ne q]; exact g.ol x u hx e, g.fr⟩
theorem Gp.see {p : Addr} {H H1 G H2 : Hp} {a : Addr} {o : HO} (g : Gp p H H1 G H2) (hp : a ≠ p) (h : H1 a = none) (hg : G a = none) (ha : H2 a = some o) : Gp p H H1 (upd G a o) H2 :=
  ⟨g.kn.mut (g.kn.back hg), ⟨fun x u hx => by
    by_cases q : x = a
    · subst q
      rw [upd_same] at hx
      rw [ha]
      exact hx
    · rw [upd_ne q] at hx
      exact g.st.ex x u hx, by rw [upd_ne (Ne.symm hp)]; exact g.st.np, g.st.ok⟩, g.ol, fun x h0 h1 => by rw [upd_ne (fun q => h1 (by rw [q]; exact h))]; exact g.fr x h0 h1⟩

def TrP (p : Addr) (r : Hp → VK → Prop) (H : Hp) (P : V → Hp → Prop) : Prop := ∀ H1, Pt p H H1 → ∀ Q : VK, (∀ v G H2, Gp p H H1 G H2 → P v G → Q v H2) → r H1 Q
abbrev EvP (p : Addr) (te : TE) (σ : L2.St) (H : Hp) (P : V → Hp → Prop) : Prop := TrP p (te σ) H P
def EvTP (p : Addr) (tt : TT) (σ : L2.St) (H : Hp) (b : Bool) : Prop := ∀ H1, Pt p H H1 → ∀ Q : Bool → Hp → Prop, (∀ H2, Pt p H H2 → Ep p H1 H2 → Q b H2) → tt σ H1 Q
def EvAP (p : Addr) (ta : TA) (σ : L2.St) (H : Hp) (P : List V → Hp → Prop) : Prop := ∀ H1, Pt p H H1 → ∀ Q : List V → Hp → Prop, (∀ vs G H2, Gp p H H1 G H2 → P vs G → Q vs H2) → ta σ H1 Q
section
variable {p : Addr} {r : Hp → VK → Prop} {H H' : Hp} {P P' : V → Hp → Prop}
theorem Tr.pot (h : Tr r H P) : TrP p r H P := fun H1 s Q q => h H1 s.ex Q fun v G H2 g pv => q v G H2 (Gp.of s g) pv
theorem TrP.imp (h : TrP p r H P) (k : ∀ v G, Ex H G → P v G → P' v G) : TrP p r H P' := fun H1 e Q q => h H1 e Q fun v G H2 g p => q v G H2 g (k v G g.kn p)
theorem TrP.up (up : ∀ v G G', Ex G G' → P v G → P v G') (e : Ex H H') (h : TrP p r H P) : TrP p r H' P := fun H1 s Q q =>
  h H1 ⟨e.trans s.ex, e.back s.np, s.ok⟩ Q fun v G H2 g pv => q v _ H2 (g.join e s) (up v G _ (join_r (fun x o hx => g.ol x o (fun q => by rw [q, s.np] at hx; cases hx) (s.ex x o hx)) g.st.ex) pv)
end
section
variable {p : Addr} {K : PySem.W.Frag} {σ : L2.St} {H H' : Hp} {ta tb tc te : TE} {tt tu : TT} {P P' : V → Hp → Prop} {v w : V} {γ δ ε : Type} {R : γ → V → Hp → Prop} {S : δ → V → Hp → Prop} {T : ε → V → Hp → Prop} {x : γ} {y : δ} {z : ε}
theorem EvT.pot {b : Bool} (h : EvT tt σ H b) : EvTP p tt σ H b := fun H1 s Q q => h H1 s.ex Q fun H2 e => q H2 ⟨s.ex.trans e, s.np, let ⟨a, b, e1, r⟩ := s.ok; ⟨a, b, e _ _ e1, r⟩⟩ fun a o _ h => e a o h
theorem EvA.pot {t : TA} {PA : List V → Hp → Prop} (h : EvA t σ H PA) : EvAP p t σ H PA := fun H1 s Q q => h H1 s.ex Q fun vs G H2 g pv => q vs G H2 (Gp.of s g) pv
theorem EvAP.imp {t : TA} {PA PB : List V → Hp → Prop} (h : EvAP p t σ H PA) (k : ∀ vs G, PA vs G → PB vs G) : EvAP p t σ H PB := fun H1 s Q q => h H1 s Q fun vs G H2 g pv => q vs G H2 g (k vs G pv)
theorem EvTP.is {a b : Bool} (h : EvTP p tt σ H a) (e : a = b) : EvTP p tt σ H b := e ▸ h
theorem pv_op {r : R2} (ha : EvP p ta σ H (R x)) (hb : EvP p tb σ H (S y)) (up : Up R) (up2 : Up S) (hr : ∀ v w G, Ex H G → R x v G → S y w G → Tr (fun H1 Q => r v w H1 Q) G P) : EvP p (tOp r ta tb) σ H P := fun H1 s Q q =>
  ha H1 s _ fun v G H2 g pv => (hb.up (fun v G G' => up2 _ v G G') g.kn) H2 g.st _ fun w G' H3 g' sv => (hr v w G' (g.kn.trans g'.kn) (up _ _ _ _ g'.kn pv) sv).pot H3 g'.st Q fun u G'' H4 g'' pp => q u G'' H4 ((g.trans g').trans g'') pp
theorem qt_test {b : Bool} (h : EvP p te σ H (isV (.bl b))) : EvTP p (tTest te) σ H b := fun H1 s _ q => h H1 s _ fun v G H2 g r => ⟨b, r, q H2 ⟨g.kn.trans g.st.ex, s.np, g.st.ok⟩ g.ol⟩
theorem qt_B {b : Bool} (h : EvP p te σ H (isV (.bl b))) : EvTP p (tB te) σ H b := fun H1 s _ q => h H1 s _ fun v G H2 g r => ⟨b, r, q H2 ⟨g.kn.trans g.st.ex, s.np, g.st.ok⟩ g.ol⟩
theorem qt_and {a b : Bool} (h1 : EvTP p tt σ H a) (h2 : a = true → EvTP p tu σ H b) : EvTP p (tAnd tt tu) σ H (a && b) := fun H1 s Q q => h1 H1 s _ fun H2 s2 e2 => by
  cases a with
  | true =>
    show tu σ H2 Q
    exact h2 rfl H2 s2 Q fun H3 s3 e3 => q H3 s3 (e2.trans e3)
  | false =>
    show Q false H2
    exact q H2 s2 e2
theorem qt_or {a b : Bool} (h1 : EvTP p tt σ H a) (h2 : a = false → EvTP p tu σ H b) : EvTP p (tOr tt tu) σ H (a || b) := fun H1 s Q q => h1 H1 s _ fun H2 s2 e2 => by
  cases a with
  | true =>
    show Q true H2
    exact q H2 s2 e2
  | false =>
    show tu σ H2 Q
    exact h2 rfl H2 s2 Q fun H3 s3 e3 => q H3 s3 (e2.trans e3)
theorem qt_not {a : Bool} (h1 : EvTP p tt σ H a) : EvTP p (tNot tt) σ H (!a) := fun H1 s _ q => h1 H1 s _ fun H2 s2 e2 => q H2 s2 e2
/-- a test whose answer the pot tells -/
def EvTQ (p : Addr) (tt : TT) (σ : L2.St) (H : Hp) (C : Bool → Prop) : Prop := ∀ H1, Pt p H H1 → ∀ Q : Bool → Hp → Prop, (∀ b H2, C b → Pt p H H2 → Ep p H1 H2 → Q b H2) → tt σ H1 Q
theorem EvTP.any {b : Bool} {C : Bool → Prop} (h : EvTP p tt σ H b) (c : C b) : EvTQ p tt σ H C := fun H1 s Q q => h H1 s Q fun H2 s2 e2 => q b H2 c s2 e2
/-- a test of what a call with the pot gave -/
theorem pq_test {C : Bool → Prop} (h : EvP p te σ H fun v _ => ∃ b, v = .bl b ∧ C b) : EvTQ p (tTest te) σ H C := fun H1 s _ q => h H1 s _ fun v G H2 g ⟨b, e, c⟩ => ⟨b, e, q b H2 c ⟨g.kn.trans g.st.ex, s.np, g.st.ok⟩ g.ol⟩
theorem pq_and {C C' : Bool → Prop} (h1 : EvTQ p tt σ H C) (h2 : C true → EvTQ p tu σ H C') (hf : C false → C' false) : EvTQ p (tAnd tt tu) σ H C' := fun H1 s Q q => h1 H1 s _ fun b H2 c s2 e2 => by
  cases b with
  | true =>
    show tu σ H2 Q
    exact h2 c H2 s2 Q fun b H3 c3 s3 e3 => q b H3 c3 s3 (e2.trans e3)
  | false =>
    show Q false H2
    exact q false H2 (hf c) s2 e2
theorem pq_or {C C' : Bool → Prop} (h1 : EvTQ p tt σ H C) (h2 : C false → EvTQ p tu σ H C') (hf : C true → C' true) : EvTQ p (tOr tt tu) σ H C' := fun H1 s Q q => h1 H1 s _ fun b H2 c s2 e2 => by
  cases b with
  | true =>
    show Q true H2
    exact q true H2 (hf c) s2 e2
  | false =>
    show tu σ H2 Q
    exact h2 c H2 s2 Q fun b H3 c3 s3 e3 => q b H3 c3 s3 (e2.trans e3)
theorem pv_if {C : Bool → Prop} (h : EvTQ p tt σ H C) (h1 : C true → EvP p ta σ H P) (h2 : C false → EvP p tb σ H P) : EvP p (tIf tt ta tb) σ H P := fun H1 s Q q => h H1 s _ fun b H2 c s2 e2 => by
  have key : ∀ v G H3, Gp p H H2 G H3 → P v G → Q v H3 := fun v G H3 g pv => q v G H3 ⟨g.kn, g.st, e2.trans g.ol, fun a h0 h1 => by
    by_cases ha : a = p
    · subst ha; exact g.st.np
    · exact g.fr a h0 (e2.some ha h1)⟩ pv
  cases b with
  | true =>
    show ta σ H2 Q
    exact h1 c H2 s2 Q key
  | false =>
    show tb σ H2 Q
    exact h2 c H2 s2 Q key
theorem pa_1 (h : EvP p ta σ H P) : EvAP p (tCons ta tNil) σ H fun vs G => ∃ v, vs = [v] ∧ P v G := fun H1 e _ q => h H1 e _ fun v G H2 g p => q [v] G H2 g ⟨v, rfl, p⟩
theorem pa_2 (up : ∀ v G G', Ex G G' → P v G → P v G') (up2 : ∀ v G G', Ex G G' → P' v G → P' v G') (h : EvP p ta σ H P) (h2 : EvP p tb σ H P') : EvAP p (tCons ta (tCons tb tNil)) σ H fun vs G => ∃ v w, vs = [v, w] ∧ P v G ∧ P' w G := fun H1 e _ q =>
  h H1 e _ fun v G H2 g p => (h2.up up2 g.kn) H2 g.st _ fun w G' H3 g' s => q [v, w] G' H3 (g.trans g') ⟨v, w, rfl, up _ _ _ g'.kn p, s⟩
theorem pv_cb {r : List V → Hp → VK → Prop} {t : TA} {PA : List V → Hp → Prop} (ha : EvAP p t σ H PA) (h : ∀ vs G, Ex H G → PA vs G → Tr (fun H1 Q => r vs H1 Q) G P) : EvP p (tCB r t) σ H P := fun H1 e Q q =>
  ha H1 e _ fun vs G H2 g pv => (h vs G g.kn pv).pot H2 g.st Q fun v G' H3 g' pp => q v G' H3 (g.trans g') pp
theorem pv_call {sp : Sp} {t : TA} {PA : List V → Hp → Prop} (ha : EvAP p t σ H PA) (h : ∀ vs G, Ex H G → G p = none → PA vs G → TrP p (fun H1 Q => sp vs H1 Q E0) G P) : EvP p (tCall sp [] E0 t) σ H P := fun H1 e Q q =>
  ha H1 e _ fun vs G H2 g pv => by
    show sp (vs ++ []) H2 Q E0
    rw [List.append_nil]
    exact h vs G g.kn g.st.np pv H2 g.st Q fun v G' H3 g' pp => q v G' H3 (g.trans g') pp
/-- a promise of a def that draws from the pot -/
def PuP {γ : Type} (Pre : Addr → γ → List V → Hp → Prop) (Post : γ → Hp → V → Hp → Prop) : Sp := fun vs H1 Q _ => ∃ (p : Addr) (g : γ) (H : Hp), Pt p H H1 ∧ Pre p g vs H ∧ ∀ v G H2, Gp p H H1 G H2 → Post g H v G → Q v H2
theorem PuP.tr {γ : Type} {Pre : Addr → γ → List V → Hp → Prop} {Post : γ → Hp → V → Hp → Prop} {g : γ} {vs : List V} {H : Hp} {E : XK} (h : Pre p g vs H) : TrP p (fun H1 Q => PuP Pre Post vs H1 Q E) H (Post g H) := fun H1 e Q q => ⟨p, g, H, e, h, q⟩
theorem lenP {γ : Type} {Pre : Addr → γ → List V → Hp → Prop} {Post : γ → Hp → V → Hp → Prop} {n : Nat} (h : ∀ p g vs H, Pre p g vs H → vs.length = n) : ∀ vs H Q E, PuP Pre Post vs H Q E → vs.length = n := fun _ _ _ _ ⟨p, g, H0, _, q, _⟩ => h p g _ _ q
end
section
variable {p : Addr} {K : PySem.W.Frag} {σ : L2.St} {G0 H1 G H H' : Hp} {ta tb tc te : TE} {tt : TT} {P P' : V → Hp → Prop} {v w : V} {γ δ ε : Type} {R : γ → V → Hp → Prop} {S : δ → V → Hp → Prop} {x : γ} {y : δ} {D : Ends} {tu tw tz tbd : TS} {Q : VK}
theorem p_fin (g : Gp p G0 H1 G H) (h : EvP p te σ G P) (k : ∀ v G' H', Gp p G H G' H' → Gp p G0 H1 G' H' → P v G' → Q v H') : te σ H Q := h H g.st _ fun v G' H3 g' pv => k v G' H3 g' (g.trans g') pv
theorem p_ret (g : Gp p G0 H1 G H) (h : EvP p te σ G P) (k : ∀ v G' H', Gp p G H G' H' → Gp p G0 H1 G' H' → P v G' → D.rt v H') : tRet te D σ H := p_fin g h k
theorem p_set {i : Nat} (g : Gp p G0 H1 G H) (h : EvP p te σ G P) (k : ∀ v G' H', Gp p G H G' H' → Gp p G0 H1 G' H' → P v G' → tz D (σ.set i (some v)) H') : tSeq (tAsg te (gName i)) tz D σ H := p_fin (Q := fun v H' => tz D (σ.set i (some v)) H') g h k
theorem p_setz {i : Nat} (g : Gp p G0 H1 G H) (h : EvP p te σ G P) (k : ∀ v G' H', Gp p G H G' H' → Gp p G0 H1 G' H' → P v G' → D.nx (σ.set i (some v)) H') : tAsg te (gName i) D σ H := p_fin (Q := fun v H' => D.nx (σ.set i (some v)) H') g h k
theorem p_ifz {C : Bool → Prop} (g : Gp p G0 H1 G H) (h : EvTQ p tt σ G C) (h1 : C true → ∀ H', Gp p G0 H1 G H' → Ep p H H' → tu D σ H') (h2 : C false → ∀ H', Gp p G0 H1 G H' → Ep p H H' → tw D σ H') : tIfS tt tu tw D σ H := h H g.st _ fun b H2 c s2 e2 => by
  cases b with
  | true =>
    show tu D σ H2
    exact h1 c H2 (g.more s2 e2) e2
  | false =>
    show tw D σ H2
    exact h2 c H2 (g.more s2 e2) e2
theorem p_if {C : Bool → Prop} (g : Gp p G0 H1 G H) (h : EvTQ p tt σ G C) (h1 : C true → ∀ H', Gp p G0 H1 G H' → Ep p H H' → tu { D with nx := tz D } σ H') (h2 : C false → ∀ H', Gp p G0 H1 G H' → Ep p H H' → tw { D with nx := tz D } σ H') : tSeq (tIfS tt tu tw) tz D σ H := p_ifz (D := { D with nx := tz D }) g h h1 h2
/-- an if without else: what holds behind it either way -/
theorem p_ifj {C : Bool → Prop} (I : L2.St → Hp → Hp → Prop) (g : Gp p G0 H1 G H) (h : EvTQ p tt σ G C) (h1 : C true → ∀ H', Gp p G0 H1 G H' → Ep p H H' → ∀ N : L2.St → Hp → Prop, (∀ σ' G' H'', Gp p G0 H1 G' H'' → I σ' G' H'' → N σ' H'') → tu { D with nx := N } σ H')
    (h2 : C false → ∀ H', Gp p G0 H1 G H' → Ep p H H' → I σ G H') (k : ∀ σ' G' H', Gp p G0 H1 G' H' → I σ' G' H' → tz D σ' H') : tSeq (tIfS tt tu tNext) tz D σ H := h H g.st _ fun b H2 c s2 e2 => by
  cases b with
  | true =>
    show tu { D with nx := tz D } σ H2
    exact h1 c H2 (g.more s2 e2) e2 _ k
  | false =>
    show tz D σ H2
    exact k _ G H2 (g.more s2 e2) (h2 c H2 (g.more s2 e2) e2)
/-- for i in range(n) -/
theorem p_forR {ta : TA} {n : Nat} {j : Nat} (gr : Gp p G0 H1 G H) (h : EvAP p ta σ G fun vs _ => vs = [.int (n : Int)]) (hn : n ≤ 100000) (I : Nat → L2.St → Hp → Hp → Prop) (i0 : ∀ G' H', Gp p G H G' H' → Gp p G0 H1 G' H' → I 0 σ G' H')
    (hs : ∀ (i : Nat) σ' G' H', i < n → Ex G G' → Gp p G0 H1 G' H' → I i σ' G' H' → ∀ N : L2.St → Hp → Prop, (∀ σ3 G3 H3, Ex G' G3 → Gp p G0 H1 G3 H3 → I (i + 1) σ3 G3 H3 → N σ3 H3) → tbd { D with nx := N, ct := N, bk := tz D } (σ'.set j (some (.int (i : Int)))) H')
    (hd : ∀ σ' G' H', Ex G G' → Gp p G0 H1 G' H' → I n σ' G' H' → tz D σ' H') : tSeq (tFor (iRng1 ta) (gName j) tbd) tz D σ H :=
  h H gr.st _ fun ws Gs Hs g1 ew => by
    refine ⟨(n : Int), ew, by omega, by omega, ?_⟩
    refine for_it (D := { D with nx := tz D }) (walk_range (lo := 0) (n := n)) (fun i σ' H' => ∃ G', Ex Gs G' ∧ Gp p G0 H1 G' H' ∧ I i σ' G' H') ⟨Gs, Ex.rfl, gr.trans g1, i0 Gs Hs g1 (gr.trans g1)⟩ (fun _ _ _ _ _ => trivial) ?_ ?_
    · rintro i x σ' H' H'' hi ⟨G', e, g', iv⟩ hy
      obtain ⟨e2, hx⟩ := hy
      subst e2
      subst hx
      have e0 : (0 : Int) + (i : Int) = (i : Int) := Int.zero_add _
      show gName j (V.int (0 + (i : Int))) σ' _ _
      rw [e0]
      exact hs i σ' G' _ hi (g1.kn.trans e) g' iv _ fun σ3 G3 H3 e3 g3 i3 => ⟨G3, e.trans e3, g3, i3⟩
    · rintro σ' H' ⟨G', e, g', iv⟩
      exact hd σ' G' H' (g1.kn.trans e) g' iv
end
section
variable {p : Addr} {K : PySem.W.Frag} {σ : L2.St} {H : Hp} {wi : TI} {g : TG} {te tl : TE} {ta : TA} {vs : List Nat} {γ δ ε : Type} {R : γ → V → Hp → Prop} {S : δ → V → Hp → Prop} {zs : List δ} {f : δ → γ} {j : Nat}
/-- what is walked gives the items of zs, each turn may draw -/
def SrcsP (p : Addr) (wi : TI) (g : TG) (te : TE) (vs : List Nat) (σ : L2.St) (H : Hp) (R' : δ → V → Hp → Prop) (zs : List δ) : Prop :=
  ∀ H1, Pt p H H1 → ∀ Rr : It → Hp → Prop, (∀ J G H2 Gw Y, Gp p H H1 G H2 → Walk J zs.length Gw Y → (∀ H', Ex G H' → Gw H') →
    (∀ i z H' x H'', zs[i]? = some z → Ex G H' → Y i H' x H'' → H'' = H' ∧ ∃ σ2, Step g (wipe σ vs) x H'' σ2 ∧ wipe σ2 vs = wipe σ vs ∧ EvP p te σ2 G (R' z)) → Rr J H2) → wi σ H1 Rr
/-- a comprehension whose turns draw: each item as R' of its z says -/
theorem pv_lc {R' : δ → V → Hp → Prop} (up : Up R') (hz : zs.length ≤ 100000) (hw : SrcsP p wi g te vs σ H R' zs) : EvP p (tLc wi g tYes te vs) σ H (newL R' zs H) := fun H1 s Q q =>
  hw H1 s _ fun J G H2 Gw Y g0 w hG turn D hD => by
    have gD : G D = none := g0.st.ex.back hD
    have hDp : D ≠ p := fun z => g0.st.ok.some (by rw [← z]; exact hD)
    have g1 : Gp p G H2 G (upd H2 D (.lst [])) := (Gp.rfl g0.st).mut hDp hD gD
    refine lc_it w (fun i H' => ∃ Gi ys, Gp p G H2 Gi H' ∧ Gi D = none ∧ H' D = some (.lst ys) ∧ All2 (fun y c => R' c y Gi) ys (zs.take i)) ?_ ?_ ?_ ?_
    · exact ⟨G, [], g1, gD, upd_same, by simpa using All2.nil⟩
    · rintro i H' _ ⟨Gi, ys, gr, _, _, _⟩
      exact hG H' (gr.kn.trans gr.st.ex)
    · rintro i x H' H'' hi ⟨Gi, ys, gr, giD, hys, all⟩ hy
      have hz1 : zs[i]? = some zs[i] := List.getElem?_eq_getElem hi
      obtain ⟨e1, σ2, st, hwp, he⟩ := turn i zs[i] H' x H'' hz1 (gr.kn.trans gr.st.ex) hy
      subst e1
      refine st _ ⟨hwp, ?_⟩
      have hl : ys.length ≤ 100000 := by
        rw [all.len, List.length_take]
        omega
      show te σ2 H'' _
      refine (he.up (fun v G G' => up _ v G G') gr.kn) H'' gr.st _ fun v G' H4 g' pv => ?_
      have h4D := g'.ol _ _ hDp hys
      have g4D : G' D = none := g'.away giD hys
      exact ⟨ys, h4D, Nat.lt_of_le_of_lt hl (by show _ < 2 ^ 24; decide), G', ys ++ [v], (gr.trans g').mut hDp hD g4D, g4D, upd_same, by
        rw [take_snoc hz1]
        exact (all.mono fun _ _ r => up _ _ _ _ g'.kn r).snoc pv⟩
    · rintro H' ⟨Gi, ys, gr, giD, hys, all⟩
      rw [List.take_length] at all
      refine q (.ref D) (upd Gi D (.lst ys)) H' (g0.trans (gr.see hDp hD giD hys)) ⟨D, ys, rfl, g0.kn.back gD, upd_same, all.mono fun _ _ r => up _ _ _ _ (Ex.new giD) r⟩
theorem srcP_list {R' : δ → V → Hp → Prop} (upS : Up S) (h : EvP p tl σ H (lstOf S zs)) (hw : ∀ x, wipe ((wipe σ vs).set j (some x)) vs = wipe σ vs)
    (turn : ∀ (i : Nat) z x G, zs[i]? = some z → Ex H G → S z x G → EvP p te ((wipe σ vs).set j (some x)) G (R' z)) :
    SrcsP p (iList K tl) (gName j) te vs σ H R' zs := fun H1 s Rr q => h H1 s _ fun v G H2 g ⟨a, xs, ev, ha, all⟩ => by
  refine ⟨a, ev, ⟨xs, SqL.of (g.st.ex _ _ ha)⟩, q (Itl K a) G H2 _ _ g (all.len ▸ walk_list (xs := xs)) (fun H' e' => SqL.of (e' _ _ ha)) fun i z H' x H'' hi e' hy => ?_⟩
  obtain ⟨e2, hx⟩ := hy
  obtain ⟨z', hz', sz⟩ := all.get hx
  rw [hi] at hz'
  cases hz'
  exact ⟨e2, _, step_name, hw x, turn i z x G hi g.kn sz⟩
theorem srcP_range {n : Nat} {R' : Nat → V → Hp → Prop} (h : EvAP p ta σ H fun vs _ => vs = [.int (n : Int)]) (hn : n ≤ 100000) (hw : ∀ x, wipe ((wipe σ vs).set j (some x)) vs = wipe σ vs)
    (turn : ∀ (i : Nat) G, i < n → Ex H G → EvP p te ((wipe σ vs).set j (some (.int (i : Int)))) G (R' i)) :
    SrcsP p (iRng1 ta) (gName j) te vs σ H R' (List.range n) := fun H1 s Rr q => h H1 s _ fun ws G H2 g ev => by
  refine ⟨(n : Int), ev, by omega, by omega, ?_⟩
  refine q (Itr 0 n) G H2 _ _ g (by rw [List.length_range]; exact walk_range) (fun _ _ => trivial) fun i z H' x H'' hi e' hy => ?_
  obtain ⟨e2, hx⟩ := hy
  subst hx
  obtain ⟨hi3, hz⟩ := List.getElem?_eq_some_iff.mp hi
  rw [List.length_range] at hi3
  rw [List.getElem_range] at hz
  subst hz
  have e0 : (0 : Int) + (i : Int) = (i : Int) := Int.zero_add _
  show H'' = H' ∧ ∃ σ2, Step (gName j) (wipe σ vs) (V.int (0 + (i : Int))) H'' σ2 ∧ _
  rw [e0]
  exact ⟨e2, _, step_name, hw _, turn i G hi3 g.kn⟩
end
end On
set_option Elab.async false
set_option linter.all false
set_option maxRecDepth 100000
set_option maxHeartbeats 4000000
/-! _law_pot, _law_draw, _law_pick, _law_small. -/
namespace On
open PySem PySem.Spec PyProof.Rows L2
section
variable {K : PySem.W.Frag} {σ : L2.St} {H : Hp} {ta tb : TE}
theorem ev_mod {i j : Int} (hj : 0 < j) (h1 : Ev ta σ H (isV (.int i))) (h2 : Ev tb σ H (isV (.int j))) : Ev (tOp (rI (fun _ j => 0 < j) fun i j => .int (i % j)) ta tb) σ H (isV (.int (i % j))) := ev_int2 (C := fun _ j => 0 < j) hj h1 h2
theorem ev_max {i j : Int} (h1 : Ev ta σ H (isV (.int i))) (h2 : Ev tb σ H (isV (.int j))) : Ev (tCB (fun xs H Q => ∃ i j, xs = [.int i, .int j] ∧ Q (.int (if j > i then j else i)) H) (tCons ta (tCons tb tNil))) σ H (isV (.int (if j > i then j else i))) :=
  ev_cb (ea_2 up_isV up_isV h1 h2) fun vs G e ⟨v, w, ev, hv, hw⟩ => Tr.same rfl fun H1 e1 Q q => by
    obtain rfl : v = .int i := hv
    obtain rfl : w = .int j := hw
    exact ⟨i, j, ev, q⟩
theorem ev_min {i j : Int} (h1 : Ev ta σ H (isV (.int i))) (h2 : Ev tb σ H (isV (.int j))) : Ev (tCB (fun xs H Q => ∃ i j, xs = [.int i, .int j] ∧ Q (.int (if j < i then j else i)) H) (tCons ta (tCons tb tNil))) σ H (isV (.int (if j < i then j else i))) :=
  ev_cb (ea_2 up_isV up_isV h1 h2) fun vs G e ⟨v, w, ev, hv, hw⟩ => Tr.same rfl fun H1 e1 Q q => by
    obtain rfl : v = .int i := hv
    obtain rfl : w = .int j := hw
    exact ⟨i, j, ev, q⟩
theorem ev_divmod {i j : Int} (h0 : 0 < j) (hj : j < 1073741824) (h1 : Ev ta σ H (isV (.int i))) (h2 : Ev tb σ H (isV (.int j))) : Ev (tCB (fun xs H Q => ∃ i j, xs = [.int i, .int j] ∧ CDiv i j ∧ ∀ p, H p = none → Q (.ref p) (upd H p (.tup [.int (i / j), .int (i % j)]))) (tCons ta (tCons tb tNil))) σ H (pairOf isV isV (.int (i / j), .int (i % j))) := fun H1 e Q q =>
  ea_2 up_isV up_isV h1 h2 H1 e _ fun vs G H2 g ⟨v, w, ev, hv, hw⟩ => by
    obtain rfl : v = .int i := hv
    obtain rfl : w = .int j := hw
    exact ⟨i, j, ev, ⟨h0, hj⟩, fun p hp => q _ _ _ (g.trans (Grow.new g.re hp)) ⟨p, _, _, rfl, upd_same, rfl, rfl⟩⟩
theorem mulS {i j : Int} (hi : i.natAbs < 2 ^ 40) (hj : j.natAbs < 2 ^ 40) : CMulX i j := mulX (m := 40) (n := 40) (Nat.le_of_lt hi) (Nat.le_of_lt hj) (by show 80 ≤ 130000000; omega)
/-- d below n, drawn -/
def drawn (n : Nat) : V → Hp → Prop := fun v _ => ∃ d : Nat, d < n ∧ v = .int (d : Int)
theorem Gp.pot {p : Addr} {G H1 Gs H' : Hp} {o : HO} (s : Pt p G H1) (g : Grow G H1 Gs H') (hp : Gs p = none) (ok : PotOk p (upd H' p o)) : Gp p G H1 Gs (upd H' p o) :=
  ⟨g.kn, ⟨g.re.mut hp, hp, ok⟩, fun a u ha e => by rw [upd_ne ha]; exact g.ol a u e, g.fr⟩
theorem emod_nat {i : Int} {n : Nat} (hn : 0 < n) : ∃ d : Nat, d < n ∧ i % (n : Int) = (d : Int) := by
  have h1 := Int.emod_nonneg i (show ((n : Int)) ≠ 0 by omega)
  have h2 := Int.emod_lt_of_pos i (show (0 : Int) < n by omega)
  exact ⟨(i % (n : Int)).toNat, by omega, by omega⟩
theorem m_asgq {G0 H1 G M : Hp} {te : TE} {P : V → Hp → Prop} {D : Ends} {tz : TS} {tg : TG} (g : Grow G0 H1 G H) (hM : Ex M H) (d : Apart G M) (h : Ev te σ (join G M) P) (k : ∀ v G' H', Ex G (sub G' M) → Ex M G' → Ex (join G M) G' → Ex G' H' → Grow G0 H1 (sub G' M) H' → Ex H H' → P v G' → tg v σ H' fun σ2 H2 => tz D σ2 H2) : tSeq (tAsg te tg) tz D σ H := m_asg (D := { D with nx := fun σ2 H2 => tz D σ2 H2 }) g hM d h k
end
section
variable {P : Program} {w : World} {K : PySem.W.Frag} {mg : Str → Option Value} {base : Heap} {C : Addr}
/-- a new pot -/
def newPot (H : Hp) : V → Hp → Prop := fun v G => ∃ p a b, v = .ref p ∧ H p = none ∧ G p = some (.lst [.int a, .int b]) ∧ 0 ≤ a ∧ 0 ≤ b ∧ b < 2147483648
abbrev isInt : Int → V → Hp → Prop := fun i => isV (.int i)
def spPot : Sp := Pu (γ := List Int × Nat) (fun g vs H => ∃ v w, vs = [v, w] ∧ (lstOf isInt g.1 v H ∧ w = .int (g.2 : Int) ∧ g.2 ≤ 1000)) fun g H v G => newPot H v G
theorem c__law_pot (T : Txt P w K mg base C) : C8.Cal P w K mg base 41 "_law_pot" spPot [] := by
  refine cal_by T.d_law_pot sc_law_pot (fun _ _ _ _ _ _ us hl => match us, hl with | [_, _], _ => rfl) len_2 fun f cdv A outer s H vs Q E hr h => ?_
  obtain ⟨⟨zs, k⟩, G, e, ⟨v, _, rfl, hv, rfl, hk⟩, q⟩ := h
  have hk : k ≤ 1000 := hk
  refine ⟨_, (pss_cons (ps_set (i := 2) sc_law_pot.nd rfl (by first | exact Or.inl rfl | exact Or.inr rfl) (pe_ifExp (pt_cmpR op_lt (pv 1) (pe_callB (r := rLen K) call_len_lt (by rfl) T.n_len bo_len (pa_cons (pv 0) pa_nil)) (nomark _)) (pe_callB call_abs (by rfl) T.n_abs bo_abs (pa_cons (pe_ix (r := rIxLT K) ix_lt (pv 0) (pv 1) (fun _ _ => rfl)) pa_nil)) (pe_op op_add (pe_op op_mulX pe_int (pv 1)) pe_int))) (pss_one (ps_ret (pe_lst (pa_cons (pe_callB (call_max2 rfl) (by rfl) T.n_max bo_max (pa_cons pe_int (pa_cons (pe_op op_sub (pv 2) (pe_op op_pow pe_int pe_int)) pa_nil))) (pa_cons (pe_op op_add (pe_op op_mod (pe_callTy call_int1 (by rfl) T.n_int bo_int (pa_cons (pe_op op_add (pe_op op_add (pe_op op_mulX (pe_op op_mod (pe_callTy call_int1 (by rfl) T.n_int bo_int (pa_cons (pv 2) pa_nil)) pe_int) pe_int) (pe_op op_mulX pe_int (pv 1))) pe_int) pa_nil)) pe_int) pe_int) pa_nil)))))), ?_⟩
  refine t_set (P := fun v _ => ∃ c : Int, v = .int c) (Grow.rfl e) (ev_if (et_test (ev_int0 (ev_var (v := .int (k : Int)) rfl) (ev_lenL (ev_slot rfl hv)))) (fun hb => ?_) fun _ => Tr.imp (ev_int0 (ev_int2 (mulS (by decide) (by omega)) ev_c (ev_var (v := .int (k : Int)) rfl)) ev_c) fun _ _ _ h => ⟨_, h⟩) ?_
  · have hlt : k < zs.length := by
      have h2 : (k : Int) < (zs.length : Int) := of_decide_eq_true hb
      omega
    exact Tr.imp (ev_abs (ev_ixL (R := isInt) (z := zs[k]) up_int (ev_slot rfl hv) (ev_var (v := .int (k : Int)) rfl) (atI_nat (List.getElem?_eq_getElem hlt)))) fun _ _ _ h => ⟨_, h⟩
  rintro _ G1 H1 e1 g1 ⟨c, rfl⟩
  have hm := Int.emod_nonneg c (show (2147483549 : Int) ≠ 0 by decide)
  have hm2 := Int.emod_lt_of_pos c (show (0 : Int) < 2147483549 by decide)
  have hpow : CPow 10 18 := ⟨by decide, by decide, by decide⟩
  refine s_ret (P := newL isInt [if c - 10 ^ 18 > 0 then c - 10 ^ 18 else 0, (c % 2147483549 * 40177 + 1019 * (k : Int) + 107) % 2147483563 + 1] G1) g1 (ev_lst up_int (by show 2 ≤ 100000; omega) (ea_consR up_int (ev_max ev_c (ev_int0 (ev_var (v := .int c) rfl) (ev_int2 (C := CPow) hpow ev_c ev_c))) (ea_consR up_int
    (ev_int0 (ev_mod (by decide) (ev_int1 (ev_int0 (ev_int0 (ev_int2 (mulS (by omega) (by decide)) (ev_mod (by decide) (ev_int1 (ev_var (v := .int c) rfl)) ev_c) ev_c) (ev_int2 (mulS (by decide) (by omega)) ev_c (ev_var (v := .int (k : Int)) rfl))) ev_c)) ev_c) ev_c) ea_nilR))) fun v' G2 H2 g2 p => q v' G2 H2 g2 ?_
  obtain ⟨p', xs, rfl, h1, h2, h3⟩ := p
  cases h3 with
  | cons r1 t1 =>
    cases t1 with
    | cons r2 t2 =>
      cases t2
      cases r1
      cases r2
      have a1 := Int.emod_nonneg (c % 2147483549 * 40177 + 1019 * (k : Int) + 107) (show (2147483563 : Int) ≠ 0 by decide)
      have a2 := Int.emod_lt_of_pos (c % 2147483549 * 40177 + 1019 * (k : Int) + 107) (show (0 : Int) < 2147483563 by decide)
      exact ⟨p', _, _, rfl, g1.kn.back h1, h2, by split <;> omega, by omega, by omega⟩
def spDraw : Sp := PuP (γ := Nat) (fun p n vs H => vs = [.ref p, .int (n : Int)] ∧ 0 < n ∧ n ≤ 1000000) fun n _ v G => drawn n v G
theorem len_draw : ∀ vs H Q E, spDraw vs H Q E → vs.length = 2 := lenP fun p g vs H ⟨e, _⟩ => by rw [e] <;> rfl
theorem c__law_draw (T : Txt P w K mg base C) : C8.Cal P w K mg base 41 "_law_draw" spDraw [] := by
  refine cal_by T.d_law_draw sc_law_draw (fun _ _ _ _ _ _ us hl => match us, hl with | [_, _], _ => rfl) len_draw fun f cdv A outer s H vs Q E hr h => ?_
  obtain ⟨p, n, G, st, ⟨rfl, hn, hn2⟩, q⟩ := h
  obtain ⟨a, b, hp, ha, hb, hb2⟩ := id st.ok
  have hM : Ex (one p (.lst [.int a, .int b])) H := one_ex hp
  have hall : ∀ {G' : Hp} {x y : Int}, All2 (fun v i => isInt i v G') [V.int x, V.int y] [x, y] := .cons rfl (.cons rfl .nil)
  have hpv : lstOf isInt [a, b] (.ref p) (join G (one p (.lst [.int a, .int b]))) := ⟨p, _, rfl, join_at st.ex hM one_at, hall⟩
  refine ⟨_, (pss_cons (ps_if (pt_cmpR op_gt (pe_ix (r := rIxLT K) ix_lt (pv 0) pe_int (fun _ _ => rfl)) pe_int (nomark _)) (pss_cons (ps_asg (pe_callB call_divmod (by rfl) T.n_divmod bo_divmod (pa_cons (pe_ix (r := rIxLT K) ix_lt (pv 0) pe_int (fun _ _ => rfl)) (pa_cons (pv 1) pa_nil))) (pg_tup rfl (pgs_cons (pg_sub (pv 0) pe_int set_list) (pgs_cons (pg_name (i := 2) sc_law_draw.nd rfl (by first | exact Or.inl rfl | exact Or.inr rfl)) pgs_nil)))) (pss_one (ps_ret (pv 2)))) pss_nil) (pss_cons (ps_asg (pe_op op_mod (pe_callTy call_int1 (by rfl) T.n_int bo_int (pa_cons (pe_op op_add (pe_op op_mulX (pe_ix (r := rIxLT K) ix_lt (pv 0) pe_int (fun _ _ => rfl)) pe_int) pe_int) pa_nil)) pe_int) (pg_sub (pv 0) pe_int set_list)) (pss_one (ps_ret (pe_op op_mod (pe_callTy call_int1 (by rfl) T.n_int bo_int (pa_cons (pe_op op_fdiv (pe_op op_mod (pe_callTy call_int1 (by rfl) T.n_int bo_int (pa_cons (pe_op op_mulX (pe_ix (r := rIxLT K) ix_lt (pv 0) pe_int (fun _ _ => rfl)) (pe_ix (r := rIxLT K) ix_lt (pv 0) pe_int (fun _ _ => rfl))) pa_nil)) pe_int) pe_int) pa_nil)) (pv 1)))))), ?_⟩
  have g0 : Grow G H G H := Grow.rfl st.ex
  have i0 : ∀ {σ : L2.St} {x y : Int} {G' : Hp}, σ[0]? = some (some (.ref p)) → lstOf isInt [x, y] (.ref p) G' → Ev (tOp (rIxLT K) (tVar 0) (tC (.int 0))) σ G' (isV (.int x)) := fun h hv => ev_ixL (R := isInt) up_int (ev_slot h hv) ev_c (atI_nat (j := 0) rfl)
  have i1 : ∀ {σ : L2.St} {x y : Int} {G' : Hp}, σ[0]? = some (some (.ref p)) → lstOf isInt [x, y] (.ref p) G' → Ev (tOp (rIxLT K) (tVar 0) (tC (.int 1))) σ G' (isV (.int y)) := fun h hv => ev_ixL (R := isInt) up_int (ev_slot h hv) ev_c (atI_nat (j := 1) rfl)
  refine m_ifq g0 hM (et_test (ev_int0 (i0 rfl hpv) ev_c)) (fun hpos H1 g1 e1 => ?_) (fun hpos H1 g1 e1 => ?_)
  · have hpos : 0 < a := of_decide_eq_true hpos
    have hM1 := hM.trans e1
    refine m_asg (tg := gTup K 2 (gCons (gSub (tVar 0) (tC (.int 0)) rSetL) (gCons (gName 2) gNil))) g1 hM1 (one_apart st.np) (ev_divmod (by omega) (by omega) (i0 rfl hpv) (ev_var (v := .int (n : Int)) rfl)) ?_
    rintro _ G2 H2 e2 eM2 _ eG2 g2 eH2 ⟨t, x, y, rfl, ht, rfl, rfl⟩
    have hp2 := eH2 _ _ (hM1 _ _ one_at)
    refine ⟨t, _, rfl, SqT.of (eG2 _ _ ht), rfl, _, _, rfl, set_m (n := 0) (var_m rfl) (fun Q' q => q) hp2 rfl ⟨_, [], rfl, rfl, ?_⟩⟩
    have hq0 : 0 ≤ a / (n : Int) := Int.ediv_nonneg ha (by omega)
    have gp : Gp p G H (sub G2 (one p (.lst [.int a, .int b]))) (upd H2 p (.lst [.int (a / (n : Int)), .int b])) := Gp.pot st g2 (sub_no (by rw [one_at]; exact Option.some_ne_none _)) ⟨_, _, upd_same, hq0, hb, hb2⟩
    obtain ⟨d, hd, he⟩ := emod_nat (i := a) hn
    refine p_ret gp (Tr.pot (ev_var (v := .int (a % (n : Int))) rfl)) fun v' G3 H3 _ g3 ev => q v' G3 H3 g3 ⟨d, hd, ?_⟩
    rw [← he]
    exact ev
  · have hM1 := hM.trans e1
    have hn1 : b.natAbs < 2 ^ 40 := by omega
    unfold tNext
    dsimp only
    refine m_asgq (P := isV (.int ((b * 39373 + 20077) % 2147483563))) g1 hM1 (one_apart st.np) (ev_mod (by decide) (ev_int1 (ev_int0 (ev_int2 (mulS hn1 (by decide)) (i1 rfl hpv) ev_c) ev_c)) ev_c) ?_
    rintro _ G2 H2 e2 eM2 _ eG2 g2 eH2 rfl
    have hp2 := eH2 _ _ (hM1 _ _ one_at)
    refine set_m (n := 1) (var_m rfl) (fun Q' q => q) hp2 rfl ?_
    have a1 := Int.emod_nonneg (b * 39373 + 20077) (show (2147483563 : Int) ≠ 0 by decide)
    have a2 := Int.emod_lt_of_pos (b * 39373 + 20077) (show (0 : Int) < 2147483563 by decide)
    have hnp : sub G2 (one p (.lst [.int a, .int b])) p = none := sub_no (by rw [one_at]; exact Option.some_ne_none _)
    have gp : Gp p G H (sub G2 (one p (.lst [.int a, .int b]))) (upd H2 p (.lst [.int a, .int ((b * 39373 + 20077) % 2147483563)])) := Gp.pot st g2 hnp ⟨_, _, upd_same, ha, a1, by omega⟩
    revert gp hnp
    generalize sub G2 (one p (.lst [.int a, .int b])) = G3
    generalize (b * 39373 + 20077) % 2147483563 = c at a1 a2
    intro hnp gp
    have hM2 : Ex (one p (.lst [.int a, .int c])) (upd H2 p (.lst [.int a, .int c])) := one_ex upd_same
    have hpv2 : lstOf isInt [a, c] (.ref p) (join G3 (one p (.lst [.int a, .int c]))) := ⟨p, _, rfl, join_at gp.st.ex hM2 one_at, hall⟩
    have hc1 : c.natAbs < 2 ^ 40 := by omega
    have b1 := Int.emod_nonneg (c * c) (show (2147483477 : Int) ≠ 0 by decide)
    have b2 := Int.emod_lt_of_pos (c * c) (show (0 : Int) < 2147483477 by decide)
    obtain ⟨d, hd, he⟩ := emod_nat (i := c * c % 2147483477 / 23) hn
    refine fin_m (Q := fun v H' => Q v H') (Grow.rfl gp.st.ex) hM2 (one_apart hnp) (ev_mod (by omega) (ev_int1 (ev_int2 (C := CDiv) (op := fun i j => .int (i / j)) ⟨by decide, by decide⟩ (ev_mod (by decide) (ev_int1 (ev_int2 (mulS hc1 hc1) (i1 rfl hpv2) (i1 rfl hpv2))) ev_c) ev_c)) (ev_var (v := .int (n : Int)) rfl)) fun v' G4 H4 e4 _ _ g4 eH4 ev => q v' (sub G4 (one p (.lst [.int a, .int c]))) H4 (gp.trans (Gp.of gp.st g4)) ⟨d, hd, ?_⟩
    rw [← he]
    exact ev
theorem draw_ev {σ : L2.St} {G : Hp} {p : Addr} {i n : Nat} {te : TE} (hs : σ[i]? = some (some (.ref p))) (h : EvP p te σ G (isV (.int (n : Int)))) (hn : 0 < n) (hn2 : n ≤ 1000000) : EvP p (tCall spDraw [] E0 (tCons (tVar i) (tCons te tNil))) σ G (drawn n) :=
  pv_call (pa_2 (fun _ _ _ _ h => h) (fun _ _ _ _ h => h) (Tr.pot (ev_var hs)) h) fun vs G' e hp ⟨v, w, ev, hv, hw⟩ => PuP.tr (g := n) ⟨by rw [ev, hv, hw], hn, hn2⟩
/-- one of a list, drawn -/
def spPick : Sp := PuP (γ := (Rat → V → Hp → Prop) × List Rat) (fun p g vs H => ∃ v, vs = [.ref p, v] ∧ Up g.1 ∧ lstOf g.1 g.2 v H ∧ g.2 ≠ [] ∧ g.2.length ≤ 1000) fun g _ v G => ∃ z ∈ g.2, g.1 z v G
theorem len_pick : ∀ vs H Q E, spPick vs H Q E → vs.length = 2 := lenP fun p g vs H ⟨v, e, _⟩ => by rw [e] <;> rfl
theorem c__law_pick (T : Txt P w K mg base C) : C8.Cal P w K mg base 42 "_law_pick" spPick [] := by
  refine cal_by T.d_law_pick sc_law_pick (fun _ _ _ _ _ _ us hl => match us, hl with | [_, _], _ => rfl) len_pick fun f cdv A outer s H vs Q E hr h => ?_
  obtain ⟨p, ⟨R, zs⟩, G, st, ⟨v, rfl, up, hv, hne, hl⟩, q⟩ := h
  have hpos : 0 < zs.length := List.length_pos_iff.mpr hne
  have hl : zs.length ≤ 1000 := hl
  refine ⟨_, (pss_one (ps_ret (pe_ix (r := rIxLT K) ix_lt (pv 1) (C8.pe_c (c__law_draw T) hr (by decide) rfl (pa_cons (pv 0) (pa_cons (pe_callB (r := rLen K) call_len_lt (by rfl) T.n_len bo_len (pa_cons (pv 1) pa_nil)) pa_nil))) (fun _ _ => rfl)))), ?_⟩
  refine p_ret (P := fun v G => ∃ z ∈ zs, R z v G) (Gp.rfl st) ?_ fun v' G3 H3 _ g3 ev => q v' G3 H3 g3 ev
  have hs : Ev (tVar 1) [some (.ref p), some v] G (lstOf R zs) := ev_slot rfl hv
  intro H1 s1 Q1 q1
  refine (Tr.pot hs) H1 s1 _ fun lv G1 H2 g1 hlv => ?_
  refine ((draw_ev (i := 0) rfl (Tr.pot (ev_lenL (ev_slot (i := 1) rfl (up_lst up _ _ _ _ g1.kn hv)))) hpos (by omega))) H2 g1.st _ fun dv G2 H3 g2 ⟨d, hd, hdv⟩ => ?_
  obtain ⟨a, xs, ea, ha, all⟩ := up_lst up _ _ _ _ g2.kn hlv
  have hz : zs[d]? = some zs[d] := List.getElem?_eq_getElem hd
  obtain ⟨x, hx, r⟩ := all.getR hz
  refine .inl ⟨a, xs, (d : Int), x, ea, hdv, SqL.of (g2.st.ex _ _ ha), atI_nat hx, ?_⟩
  exact q1 x G2 H3 (g1.trans g2) ⟨zs[d], List.getElem_mem hd, r⟩
theorem pick_ev {σ : L2.St} {G : Hp} {p : Addr} {i : Nat} {te : TE} {R : Rat → V → Hp → Prop} {zs : List Rat} (up : Up R) (hs : σ[i]? = some (some (.ref p))) (h : Ev te σ G (lstOf R zs)) (hne : zs ≠ []) (hl : zs.length ≤ 1000) : EvP p (tCall spPick [] E0 (tCons (tVar i) (tCons te tNil))) σ G (fun v G => ∃ z ∈ zs, R z v G) :=
  pv_call (pa_2 (fun _ _ _ _ h => h) (fun v G G' e => up_lst up _ v G G' e) (Tr.pot (ev_var hs)) (Tr.pot h)) fun vs G' e hp ⟨v, w, ev, hv, hw⟩ => PuP.tr (g := (R, zs)) ⟨w, by rw [ev, hv], up, hw, hne, hl⟩
/-- a small Ratio, drawn -/
def smallR (C : Addr) (k : Nat) : V → Hp → Prop := fun v G => ∃ q, isR C q v G ∧ sz q ≤ k
theorem up_small {C : Addr} {k : Nat} : ∀ v G G', Ex G G' → smallR C k v G → smallR C k v G' := fun v G G' e ⟨q, h1, h2⟩ => ⟨q, up_isR _ _ _ _ e h1, h2⟩
def spSmall (C : Addr) : Sp := PuP (γ := Nat) (fun p k vs H => vs = [.ref p, .int (k : Int)] ∧ k ≤ 1000) fun k _ v G => smallR C (k + 3) v G
theorem len_small : ∀ vs H Q E, spSmall C vs H Q E → vs.length = 2 := lenP fun p g vs H ⟨e, _⟩ => by rw [e] <;> rfl
/-- ints by their numbers -/
def numI : Rat → V → Hp → Prop := fun q v _ => ∃ i : Int, v = .int i ∧ q = (i : Rat)
theorem up_numI : Up numI := fun _ _ _ _ _ h => h
theorem c__law_small (T : Txt P w K mg base C) : C8.Cal P w K mg base 43 "_law_small" (spSmall C) [] := by
  refine cal_by T.d_law_small sc_law_small (fun _ _ _ _ _ _ us hl => match us, hl with | [_, _], _ => rfl) len_small fun f cdv A outer s H vs Q E hr h => ?_
  obtain ⟨p, k, G, st, ⟨rfl, hk⟩, q⟩ := h
  refine ⟨_, (pss_one (ps_ret (C8.pe_mk (k_ratio2 T) hr (by decide) rfl (pa_cons (pe_op op_sub (C8.pe_c (c__law_draw T) hr (by decide) rfl (pa_cons (pv 0) (pa_cons (pe_op op_add (pe_op op_mulX pe_int (pv 1)) pe_int) pa_nil))) (pv 1)) (pa_cons (C8.pe_c (c__law_pick T) hr (by decide) rfl (pa_cons (pv 0) (pa_cons (pe_lst (pa_cons pe_int (pa_cons pe_int (pa_cons pe_int (pa_cons pe_int (pa_cons pe_int (pa_cons pe_int pa_nil))))))) pa_nil))) pa_nil))))), ?_⟩
  refine p_ret (P := smallR C (k + 3)) (Gp.rfl st) ?_ fun v' G3 H3 _ g3 ev => q v' G3 H3 g3 ev
  intro H1 s1 Q1 q1
  have h1 : EvP p (tOp (rI0 fun i j => .int (i - j)) (tCall spDraw [] E0 (tCons (tVar 0) (tCons (tOp (rI0 fun i j => .int (i + j)) (tOp (rI CMulX fun i j => .int (i * j)) (tC (.int 2)) (tVar 1)) (tC (.int 1))) tNil))) (tVar 1)) [some (.ref p), some (.int (k : Int))] G fun v _ => ∃ i : Int, v = .int i ∧ i.natAbs ≤ k := by
    intro H1 s1 Q1 q1
    have he : Ev (tOp (rI0 fun i j => .int (i + j)) (tOp (rI CMulX fun i j => .int (i * j)) (tC (.int 2)) (tVar 1)) (tC (.int 1))) [some (.ref p), some (.int (k : Int))] G (isV (.int ((2 * k + 1 : Nat) : Int))) := ev_int0 (op := fun i j => .int (i + j)) (i := 2 * (k : Int)) (j := 1) (ev_int2 (C := CMulX) (op := fun i j => .int (i * j)) (mulS (by decide) (by omega)) ev_c (ev_var rfl)) ev_c
    refine (draw_ev (i := 0) (n := 2 * k + 1) rfl (Tr.pot he) (by omega) (by omega)) H1 s1 _ fun v G2 H2 g2 ⟨d, hd, hv⟩ => ?_
    refine ⟨_, rfl, (d : Int), (k : Int), hv, rfl, q1 _ G2 H2 g2 ⟨_, rfl, by omega⟩⟩
  have hlst : Ev (tLst (tCons (tC (.int 1)) (tCons (tC (.int 1)) (tCons (tC (.int 1)) (tCons (tC (.int 1)) (tCons (tC (.int 2)) (tCons (tC (.int 3)) tNil))))))) [some (.ref p), some (.int (k : Int))] G (lstOf numI [1, 1, 1, 1, 2, 3]) := by
    have cn : ∀ {σ : L2.St} {G : Hp} (i : Int) (q : Rat), q = (i : Rat) → Ev (tC (.int i)) σ G (numI q) := fun i q h => Tr.imp ev_c fun _ _ _ e => ⟨i, e, h⟩
    exact (ev_lst up_numI (by show 6 ≤ 100000; omega) (ea_consR up_numI (cn 1 1 rfl) (ea_consR up_numI (cn 1 1 rfl) (ea_consR up_numI (cn 1 1 rfl) (ea_consR up_numI (cn 1 1 rfl) (ea_consR up_numI (cn 2 2 rfl) (ea_consR up_numI (cn 3 3 rfl) ea_nilR))))))).old
  refine (pa_2 (fun _ _ _ _ h => h) (fun _ _ _ _ h => h) h1 (TrP.imp (pick_ev (i := 0) up_numI rfl hlst (List.cons_ne_nil _ _) (by show 6 ≤ 1000; omega)) (P' := fun v _ => ∃ j : Int, v = .int j ∧ j ≠ 0 ∧ j.natAbs ≤ 3) ?_)) H1 s1 _ ?_
  · rintro v G' _ ⟨z, hz, i, hi, hzi⟩
    refine ⟨i, hi, ?_⟩
    have key : z = 1 ∨ z = 2 ∨ z = 3 := by
      simp only [List.mem_cons, List.not_mem_nil, or_false] at hz
      rcases hz with h | h | h | h | h | h <;> simp [h]
    rcases key with h | h | h
    · have : i = 1 := by rw [h] at hzi; exact_mod_cast hzi.symm
      omega
    · have : i = 2 := by rw [h] at hzi; exact_mod_cast hzi.symm
      omega
    · have : i = 3 := by rw [h] at hzi; exact_mod_cast hzi.symm
      omega
  · rintro vs G2 H2 g2 ⟨v, w, rfl, ⟨i, rfl, hi⟩, ⟨j, rfl, hj, hj3⟩⟩
    refine fun x dx hx hdx hne => ⟨x, dx, i, j, rfl, hj, upd_same, fun H' keep hx' => ⟨rfl, ?_⟩⟩
    have gg : Grow G2 H2 (upd G2 x (.ins C dx (rfs (Rat.divInt i j)))) H' := grow_ins (Grow.rfl g2.st.ex) hx hdx keep hx'
    refine q1 _ _ H' (g2.trans (Gp.of g2.st gg)) ⟨Rat.divInt i j, ⟨x, dx, rfl, upd_same⟩, ?_⟩
    have := sz_divInt i j hj
    omega
end
end On
set_option Elab.async false
set_option linter.all false
set_option maxRecDepth 100000
set_option maxHeartbeats 4000000
/-! _law_more, _law_handed, _law_given, _law_list. -/
namespace On
open PySem PySem.Spec PyProof.Rows L2
def moreM (m : List (List Rat)) (q : Rat) (f : List Rat) : List (List Rat) := (List.range m.length).map fun i => (List.range m.length).map fun j => at2 m i j + q * f.getD i 0 * f.getD j 0
section
variable {P : Program} {w : World} {K : PySem.W.Frag} {mg : Str → Option Value} {base : Heap} {C : Addr}
abbrev gList (C : Addr) : List Rat → V → Hp → Prop := lstOf (isN C)
theorem up_gList {C : Addr} : Up (gList C) := up_lst up_isN
theorem rng_len {σ : L2.St} {G : Hp} {ta : TE} {γ : Type} {R : γ → V → Hp → Prop} {zs : List γ} (h : Ev ta σ G (lstOf R zs)) : EvA (tCons (tCB (rLen K) (tCons ta tNil)) tNil) σ G fun vs _ => vs = [.int (zs.length : Int)] := fun Hx ex Qx qx =>
  ea_1 (ev_lenL h) Hx ex Qx fun vs G2 H2 g2 ⟨v', ev, hv'⟩ => qx vs G2 H2 g2 (by rw [ev, hv'])
theorem rng_int {σ : L2.St} {G : Hp} {ta : TE} {n : Nat} (h : Ev ta σ G (isV (.int (n : Int)))) : EvA (tCons ta tNil) σ G fun vs _ => vs = [.int (n : Int)] := fun Hx ex Qx qx =>
  ea_1 h Hx ex Qx fun vs G2 H2 g2 ⟨v', ev, hv'⟩ => qx vs G2 H2 g2 (by rw [ev, hv'])
def spMore (C : Addr) : Sp := Pu (γ := List (List Rat) × Rat × List Rat) (fun g vs H => ∃ v w u, vs = [v, w, u] ∧ (isMat C g.1 v H ∧ isR C g.2.1 w H ∧ gList C g.2.2 u H ∧ ∃ n e, Sq n g.1 ∧ n ≤ 4 ∧ Ents n e g.1 ∧ e ≤ 1000 ∧ g.2.2.length = n ∧ sz g.2.1 ≤ 6 ∧ ∀ x ∈ g.2.2, sz x ≤ 3)) fun g H v G => isMat C (moreM g.1 g.2.1 g.2.2) v G
theorem c__law_more (T : Txt P w K mg base C) : C8.Cal P w K mg base 41 "_law_more" (spMore C) [] := by
  refine cal_by T.d_law_more sc_law_more (fun _ _ _ _ _ _ us hl => match us, hl with | [_, _, _], _ => rfl) len_3 fun f cdv A outer s H vs Q E hr h => ?_
  obtain ⟨⟨m, q0, fr⟩, G, e, ⟨v, w, u, rfl, hv, hw, hu, n, ee, hs, hn, hen, he, hfl, hq, hf⟩, q⟩ := h
  have hs : Sq n m := hs
  have hml := hs.len
  have hfl : fr.length = n := hfl
  have hL : ∀ x : Nat, x ≤ 100000000 → x + 2 ≤ LIM := fun x hx => by show x + 2 ≤ 130000000; omega
  refine ⟨_, (pss_one (ps_ret (pe_lc (own := [("_law_i", 3)]) (g := gName 3) (tt := tYes) rfl sc_law_more.nd (pi_range1 rfl T.n_range (pa_cons (pe_callB (r := rLen K) call_len_lt (by rfl) T.n_len bo_len (pa_cons (pv 0) pa_nil)) pa_nil)) (blkOk_by (own := [("_law_i", 3)]) (by kernel_rfl)) (fun _ _ _ _ _ => (pg_name (i := 3) sc_law_more.nd rfl (by first | exact Or.inl rfl | exact Or.inr rfl))) (fun _ _ _ _ _ => pts_nil) (fun _ _ _ _ _ => (pe_lc (own := [("_law_j", 4)]) (g := gName 4) (tt := tYes) rfl sc_law_more.nd (pi_range1 rfl T.n_range (pa_cons (pe_callB (r := rLen K) call_len_lt (by rfl) T.n_len bo_len (pa_cons (pv 0) pa_nil)) pa_nil)) (blkOk_by (own := [("_law_j", 4)]) (by kernel_rfl)) (fun _ _ _ _ _ => (pg_name (i := 4) sc_law_more.nd rfl (by first | exact Or.inl rfl | exact Or.inr rfl))) (fun _ _ _ _ _ => pts_nil) (fun _ _ _ _ _ => (pe_op (opAdd T hr (by decide)) (pe_ix (r := rIxLT K) ix_lt (pe_ix (r := rIxLT K) ix_lt (pv 0) (pv 3) (fun _ _ => rfl)) (pv 4) (fun _ _ => rfl)) (pe_op (opMul T hr (by decide)) (pe_op (opMul T hr (by decide)) (pv 1) (pe_ix (r := rIxLT K) ix_lt (pv 2) (pv 3) (fun _ _ => rfl))) (pe_ix (r := rIxLT K) ix_lt (pv 2) (pv 4) (fun _ _ => rfl)))))))))), ?_⟩
  refine s_ret (Grow.rfl e) (ev_lc (f := fun i => (List.range m.length).map fun j => at2 m i j + q0 * fr.getD i 0 * fr.getD j 0) up_row (by rw [List.length_range]; omega) (src_range (n := m.length) (rng_len (ev_slot rfl hv)) (by omega) (fun _ => rfl) ?_)).old q
  intro i G1 hi e1
  refine ⟨et_yes, fun _ => (ev_lc (f := fun j => at2 m i j + q0 * fr.getD i 0 * fr.getD j 0) up_isR (by rw [List.length_range]; omega) (src_range (n := m.length) (rng_len (ev_slot rfl (up_mat _ _ _ _ e1 hv))) (by omega) (fun _ => rfl) ?_)).old⟩
  intro j G2 hj e2
  have e12 := e1.trans e2
  have fi : ∀ {k : Nat}, k < m.length → fr[k]? = some (fr.getD k 0) := fun {k} hk => by
    rw [getD_at (List.getElem?_eq_getElem (show k < fr.length by omega))]
    exact List.getElem?_eq_getElem _
  have hq1 : sz q0 ≤ 2 ^ 3 := Nat.le_trans hq (by decide)
  have hfi : ∀ k, k < m.length → sz (fr.getD k 0) ≤ 2 ^ 2 := fun k hk => Nat.le_trans (hf _ (mem_of_get (fi hk))) (by decide)
  have h1 : sz (q0 * fr.getD i 0) ≤ 2 ^ (3 + 2) := Nat.le_trans (sz_mul _ _) (by rw [Nat.pow_add]; exact Nat.mul_le_mul hq1 (hfi i hi))
  have h2 : sz (q0 * fr.getD i 0 * fr.getD j 0) ≤ 2 ^ (3 + 2 + 2) := Nat.le_trans (sz_mul _ _) (by rw [Nat.pow_add 2 (3 + 2)]; exact Nat.mul_le_mul h1 (hfi j hj))
  refine ⟨et_yes, fun _ => ev_addR (at_ev hs (by omega) (by omega) (ev_slot rfl (up_mat _ _ _ _ e12 hv)) (ev_var rfl) (ev_var rfl)) (ev_mulN (ev_mulN (ev_slot rfl (up_isR _ _ _ _ e12 hw)) (ev_ixL up_isN (ev_slot rfl (up_gList _ _ _ _ e12 hu)) (ev_var rfl) (atI_nat (fi hi))) (Fits.ok2 (fitsE (n := 3 + 2) (hL _ (by omega)) ?_))) (ev_ixL up_isN (ev_slot rfl (up_gList _ _ _ _ e12 hu)) (ev_var rfl) (atI_nat (fi hj))) (Fits.ok2 (fitsE (n := 3 + 2 + 2) (hL _ (by omega)) ?_))) (Fits.ok2 (fitsE (n := ee + (3 + 2 + 2)) (hL _ (by have h9 : ee ≤ 1000 := he; omega)) ?_))⟩
  · rw [Nat.pow_add]; exact Nat.mul_le_mul hq1 (hfi i hi)
  · rw [Nat.pow_add 2 (3 + 2)]; exact Nat.mul_le_mul h1 (hfi j hj)
  · rw [Nat.pow_add 2 ee]; exact Nat.mul_le_mul (at2_le hen i j) h2
/-- draw(pot, n) == k -/
theorem drawEq {σ : L2.St} {G : Hp} {p : Addr} {i n : Nat} {k : Int} (hs : σ[i]? = some (some (.ref p))) (hn : 0 < n) (hn2 : n ≤ 1000000) : EvP p (tOp rEqU (tCall spDraw [] E0 (tCons (tVar i) (tCons (tC (.int (n : Int))) tNil))) (tC (.int k))) σ G (fun v _ => ∃ b, v = .bl b ∧ True) := fun H1 s Q q =>
  draw_ev hs (Tr.pot ev_c) hn hn2 H1 s _ fun v G2 H2 g ⟨d, hd, hv⟩ => .inl (by
    subst hv
    exact ⟨rfl, q _ G2 H2 g ⟨_, rfl, trivial⟩⟩)
theorem drawGt {σ : L2.St} {G : Hp} {p : Addr} {i n : Nat} {k : Int} (hs : σ[i]? = some (some (.ref p))) (hn : 0 < n) (hn2 : n ≤ 1000000) : EvP p (tOp (rI0 fun i j => .bl (decide (j < i))) (tCall spDraw [] E0 (tCons (tVar i) (tCons (tC (.int (n : Int))) tNil))) (tC (.int k))) σ G (fun v _ => ∃ b, v = .bl b ∧ True) := fun H1 s Q q =>
  draw_ev hs (Tr.pot ev_c) hn hn2 H1 s _ fun v G2 H2 g ⟨d, hd, hv⟩ => ⟨_, _, hv, rfl, q _ G2 H2 g ⟨_, rfl, trivial⟩⟩
theorem den_one {q : Rat} (h : q.den = 1) : q = (q.num : Rat) := by
  refine Rat.ext (Rat.num_intCast _).symm ?_
  rw [h, Rat.den_intCast]
def spHanded (C : Addr) : Sp := PuP (γ := List Rat) (fun p l vs H => ∃ v, vs = [.ref p, v] ∧ isRow C l v H ∧ l.length ≤ 1000) fun l _ v G => gRow C l v G
theorem len_handed : ∀ vs H Q E, spHanded C vs H Q E → vs.length = 2 := lenP fun p g vs H ⟨v, e, _⟩ => by rw [e] <;> rfl
theorem pv_pick {σ : L2.St} {G : Hp} {p : Addr} {i : Nat} {γ : Type} {R : γ → V → Hp → Prop} {zs : List γ} {v : V} (up : Up R) {pn : Nat} (hs : σ[pn]? = some (some (.ref p))) (hv : Ev (tVar i) σ G (lstOf R zs)) :
    EvP p (tIf (tTest (tOp rEqU (tCall spDraw [] E0 (tCons (tVar pn) (tCons (tC (.int 4)) tNil))) (tC (.int 0)))) (tCB (rTupleOf K) (tCons (tVar i) tNil)) (tVar i)) σ G (seqOf R zs) :=
  pv_if (C := fun _ => True) (pq_test (drawEq (n := 4) hs (by decide) (by decide))) (fun _ => Tr.pot (Tr.imp (ev_tupleL up hv) fun _ _ _ h => .inr h)) fun _ => Tr.pot (Tr.imp hv fun _ _ _ h => .inl h)
theorem c__law_handed (T : Txt P w K mg base C) : C8.Cal P w K mg base 42 "_law_handed" (spHanded C) [] := by
  refine cal_by T.d_law_handed sc_law_handed (fun _ _ _ _ _ _ us hl => match us, hl with | [_, _], _ => rfl) len_handed fun f cdv A outer s H vs Q E hr h => ?_
  obtain ⟨p, l, G, st, ⟨v, rfl, hv, hl⟩, q⟩ := h
  have hl : l.length ≤ 1000 := hl
  refine ⟨_, (pss_cons (ps_setLc (i := 2) (own := [("_law_one", 3)]) (g := gName 3) (tt := tYes) rfl sc_law_handed.nd rfl rfl (sw_true rfl rfl rfl (by kernel_rfl)) (pi_list (pv 1)) (blkOk_by (own := [("_law_one", 3)]) (by kernel_rfl)) (fun _ _ _ _ _ => (pg_name (i := 3) sc_law_handed.nd rfl (by first | exact Or.inl rfl | exact Or.inr rfl))) (fun _ _ _ _ _ => pts_nil) (fun _ _ _ _ _ => (pe_ifExp (PW.pt (pw_and (pt_cmpR (cmEq T hr (by decide)) (pe_pp (p_bottom T) hr (by decide) (pv 3) rfl) pe_int (nomark _)) (pw_and1 (pt_cmpR (cmEq T hr (by decide)) (C8.pe_c (c__law_draw T) hr (by decide) rfl (pa_cons (pv 0) (pa_cons pe_int pa_nil))) pe_int (nomark _))))) (pe_pp (p_top T) hr (by decide) (pv 3) rfl) (pv 3)))) (pss_one (ps_ret (pe_ifExp (pt_cmpR (cmEq T hr (by decide)) (C8.pe_c (c__law_draw T) hr (by decide) rfl (pa_cons (pv 0) (pa_cons pe_int pa_nil))) pe_int (nomark _)) (pe_callTy (r := rTupleOf K) call_tuple_of (by rfl) T.n_tuple bo_tuple (pa_cons (pv 2) pa_nil)) (pv 2))))), ?_⟩
  refine p_set (P := newL (isN C) l G) (Gp.rfl st) (pv_lc up_isN (by omega) (srcP_list (K := K) up_isR (Tr.pot (ev_slot rfl hv)) (fun _ => rfl) fun i z x G1 hz e1 hx => ?_)) fun fv G2 H2 g2' g2 hfv => ?_
  · refine pv_if (C := fun b => b = true → z.den = 1) (pq_and (C := fun b => b = decide (V.int (z.den : Int) = V.int 1)) ((EvT.pot (et_test (ev_eqU rfl (ev_prop (ev_slot rfl hx)) ev_c))).any rfl) (fun c => ?_) (fun _ => fun h => by cases h)) (fun c => Tr.pot (Tr.imp (ev_prop (ev_slot rfl hx)) fun v G' _ hv => ?_)) fun _ => Tr.pot (Tr.imp (ev_slot rfl hx) fun v G' _ hv => .inr hv)
    · have hd : z.den = 1 := by
        have := V.int.inj (of_decide_eq_true c.symm)
        omega
      exact pq_test (TrP.imp (drawEq (n := 2) (i := 0) rfl (by decide) (by decide)) fun v G' _ ⟨b, hb, _⟩ => ⟨b, hb, fun _ => hd⟩)
    · have hd := c rfl
      exact .inl ⟨z.num, hv, den_one hd⟩
  · exact p_ret (P := gRow C l) g2 (pv_pick (v := fv) (pn := 0) up_isN rfl (ev_slot rfl hfv.lst)) fun v' G3 H3 _ g3 ev => q v' G3 H3 g3 ev
def spGiven (C : Addr) : Sp := PuP (γ := List (List Rat)) (fun p m vs H => ∃ v, vs = [.ref p, v] ∧ isMat C m v H ∧ m.length ≤ 1000 ∧ ∀ r ∈ m, r.length ≤ 1000) fun m _ v G => gMat C m v G
theorem len_given : ∀ vs H Q E, spGiven C vs H Q E → vs.length = 2 := lenP fun p g vs H ⟨v, e, _⟩ => by rw [e] <;> rfl
theorem c__law_given (T : Txt P w K mg base C) : C8.Cal P w K mg base 43 "_law_given" (spGiven C) [] := by
  refine cal_by T.d_law_given sc_law_given (fun _ _ _ _ _ _ us hl => match us, hl with | [_, _], _ => rfl) len_given fun f cdv A outer s H vs Q E hr h => ?_
  obtain ⟨p, m, G, st, ⟨v, rfl, hv, hl, hr2⟩, q⟩ := h
  have hl : m.length ≤ 1000 := hl
  refine ⟨_, (pss_cons (ps_setLc (i := 2) (own := [("_law_row", 3)]) (g := gName 3) (tt := tYes) rfl sc_law_given.nd rfl rfl (sw_true rfl rfl rfl (by kernel_rfl)) (pi_list (pv 1)) (blkOk_by (own := [("_law_row", 3)]) (by kernel_rfl)) (fun _ _ _ _ _ => (pg_name (i := 3) sc_law_given.nd rfl (by first | exact Or.inl rfl | exact Or.inr rfl))) (fun _ _ _ _ _ => pts_nil) (fun _ _ _ _ _ => (C8.pe_c (c__law_handed T) hr (by decide) rfl (pa_cons (pv 0) (pa_cons (pv 3) pa_nil))))) (pss_one (ps_ret (pe_ifExp (pt_cmpR (cmEq T hr (by decide)) (C8.pe_c (c__law_draw T) hr (by decide) rfl (pa_cons (pv 0) (pa_cons pe_int pa_nil))) pe_int (nomark _)) (pe_callTy (r := rTupleOf K) call_tuple_of (by rfl) T.n_tuple bo_tuple (pa_cons (pv 2) pa_nil)) (pv 2))))), ?_⟩
  refine p_set (P := newL (gRow C) m G) (Gp.rfl st) (pv_lc up_gRow (by omega) (srcP_list (K := K) up_row (Tr.pot (ev_slot rfl hv)) (fun _ => rfl) fun i z x G1 hz e1 hx => ?_)) fun fv G2 H2 g2' g2 hfv => ?_
  · exact pv_call (pa_2 (P := isV (.ref p)) (P' := isRow C z) (fun _ _ _ _ h => h) (fun v G G' e => up_row _ v G G' e) (Tr.pot (ev_var rfl)) (Tr.pot (ev_slot rfl hx))) fun vs G' e hp ⟨v, w, ev, hv, hw⟩ => PuP.tr (g := z) ⟨w, by rw [ev, hv], hw, hr2 z (mem_of_get hz)⟩
  · exact p_ret (P := gMat C m) g2 (pv_pick (v := fv) (pn := 0) up_gRow rfl (ev_slot rfl hfv.lst)) fun v' G3 H3 _ g3 ev => q v' G3 H3 g3 ev
/-- a list of n numbers, small -/
def smallL (C : Addr) (n : Nat) : V → Hp → Prop := fun v G => ∃ l : List Rat, gList C l v G ∧ l.length = n ∧ ∀ x ∈ l, sz x ≤ 2 ^ 3
theorem small_ev {σ : L2.St} {G : Hp} {p : Addr} {i k : Nat} {te : TE} (hs : σ[i]? = some (some (.ref p))) (h : Ev te σ G (isV (.int (k : Int)))) (hk : k ≤ 1000) : EvP p (tCall (spSmall C) [] E0 (tCons (tVar i) (tCons te tNil))) σ G (smallR C (k + 3)) :=
  pv_call (pa_2 (fun _ _ _ _ h => h) (fun _ _ _ _ h => h) (Tr.pot (ev_var hs)) (Tr.pot h)) fun vs G' e hp ⟨v, w, ev, hv, hw⟩ => PuP.tr (g := k) ⟨by rw [ev, hv, hw], hk⟩
def spList (C : Addr) : Sp := PuP (γ := Nat) (fun p n vs H => vs = [.ref p, .int (n : Int)] ∧ 0 < n ∧ n ≤ 1000) fun n _ v G => smallL C n v G
theorem len_list : ∀ vs H Q E, spList C vs H Q E → vs.length = 2 := lenP fun p g vs H ⟨e, _⟩ => by rw [e] <;> rfl
/-- items each of some number -/
theorem some_all {n : Nat} {G : Hp} {B : Rat → Prop} {zs : List Nat} : ∀ {xs : List V}, All2 (fun x (_ : Nat) => ∃ q, isN C q x G ∧ B q) xs zs → ∃ l : List Rat, All2 (fun x z => isN C z x G) xs l ∧ (∀ q ∈ l, B q) := by
  intro xs h
  induction h with
  | nil => exact ⟨[], .nil, fun _ h => (nomatch h)⟩
  | cons r _ ih =>
    obtain ⟨q, h1, h2⟩ := r
    obtain ⟨l, k1, k2⟩ := ih
    exact ⟨q :: l, .cons h1 k1, fun x hx => by
      rcases List.mem_cons.mp hx with rfl | hx
      · exact h2
      · exact k2 x hx⟩
theorem c__law_list (T : Txt P w K mg base C) : C8.Cal P w K mg base 44 "_law_list" (spList C) [] := by
  refine cal_by T.d_law_list sc_law_list (fun _ _ _ _ _ _ us hl => match us, hl with | [_, _], _ => rfl) len_list fun f cdv A outer s H vs Q E hr h => ?_
  obtain ⟨p, n, G, st, ⟨rfl, hn0, hn⟩, q⟩ := h
  refine ⟨_, (pss_cons (ps_if (pt_cmpR (cmEq T hr (by decide)) (C8.pe_c (c__law_draw T) hr (by decide) rfl (pa_cons (pv 0) (pa_cons pe_int pa_nil))) pe_int (nomark _)) (pss_cons (ps_set (i := 2) sc_law_list.nd rfl (by first | exact Or.inl rfl | exact Or.inr rfl) (C8.pe_c (c__law_draw T) hr (by decide) rfl (pa_cons (pv 0) (pa_cons (pv 1) pa_nil)))) (pss_one (ps_ret (pe_lc (own := [("_law_place", 3)]) (g := gName 3) (tt := tYes) rfl sc_law_list.nd (pi_range1 rfl T.n_range (pa_cons (pv 1) pa_nil)) (blkOk_by (own := [("_law_place", 3)]) (by kernel_rfl)) (fun _ _ _ _ _ => (pg_name (i := 3) sc_law_list.nd rfl (by first | exact Or.inl rfl | exact Or.inr rfl))) (fun _ _ _ _ _ => pts_nil) (fun _ _ _ _ _ => (pe_callTy call_int1 (by rfl) T.n_int bo_int (pa_cons (pe_cmpR (cmEq T hr (by decide)) (pv 3) (pv 2) (nomark _)) pa_nil))))))) pss_nil) (pss_one (ps_ret (pe_lc (own := [("_law_place", 3)]) (g := gName 3) (tt := tYes) rfl sc_law_list.nd (pi_range1 rfl T.n_range (pa_cons (pv 1) pa_nil)) (blkOk_by (own := [("_law_place", 3)]) (by kernel_rfl)) (fun _ _ _ _ _ => (pg_name (i := 3) sc_law_list.nd rfl (by first | exact Or.inl rfl | exact Or.inr rfl))) (fun _ _ _ _ _ => pts_nil) (fun _ _ _ _ _ => (C8.pe_c (c__law_small T) hr (by decide) rfl (pa_cons (pv 0) (pa_cons pe_int pa_nil)))))))), ?_⟩
  have fin : ∀ {v : V} {G' : Hp}, newL (fun (_ : Nat) x G => ∃ q, isN C q x G ∧ sz q ≤ 2 ^ 3) (List.range n) G v G' → smallL C n v G' := fun {v G'} ⟨a, xs, e, _, ha, all⟩ => by
    obtain ⟨l, h1, h2⟩ := some_all (n := n) all
    exact ⟨l, ⟨a, xs, e, ha, h1⟩, by rw [← h1.len, all.len, List.length_range], h2⟩
  have upS : Up (fun (_ : Nat) x G => ∃ q, isN C q x G ∧ sz q ≤ 2 ^ 3) := fun _ v H H' e ⟨q, h1, h2⟩ => ⟨q, up_isN _ _ _ _ e h1, h2⟩
  refine p_if (C := fun _ => True) (Gp.rfl st) (pq_test (drawEq (n := 3) (i := 0) rfl (by decide) (by decide))) (fun _ H1 g1 _ => ?_) (fun _ H1 g1 _ => ?_)
  · refine p_set (P := drawn n) g1 (draw_ev (i := 0) rfl (Tr.pot (ev_var rfl)) hn0 (by omega)) ?_
    rintro _ G2 H2 _ g2 ⟨d, hd, rfl⟩
    refine p_ret g2 (Tr.pot (ev_lc (R := fun q x G => isN C q x G ∧ sz q ≤ 2 ^ 3) (f := fun i : Nat => if i = d then (1 : Rat) else 0) (fun _ v H H' e ⟨h1, h2⟩ => ⟨up_isN _ _ _ _ e h1, h2⟩) (by rw [List.length_range]; omega) (src_range (n := n) (rng_int (ev_var rfl)) (by omega) (fun _ => rfl) fun i G' hi e => ⟨et_yes, fun _ => ?_⟩))) fun v' G3 H3 _ g3 ev => q v' G3 H3 g3 ?_
    · refine Tr.imp (ev_intB (ev_eqU rfl (ev_var (v := .int (i : Int)) rfl) (ev_var (v := .int (d : Int)) rfl))) fun v G' _ hv => ?_
      rw [vint_eq] at hv
      by_cases hid : i = d
      · subst hid
        rw [if_pos rfl]
        rw [decide_eq_true rfl] at hv
        exact ⟨.inl ⟨1, hv, rfl⟩, by decide⟩
      · rw [if_neg hid]
        rw [decide_eq_false (by omega)] at hv
        exact ⟨.inl ⟨0, hv, rfl⟩, by decide⟩
    · obtain ⟨a, xs, e1, _, ha, all⟩ := ev
      refine ⟨_, ⟨a, xs, e1, ha, all.mono fun _ _ h => h.1⟩, by rw [List.length_map, List.length_range], fun x hx => ?_⟩
      obtain ⟨i, hi⟩ := List.getElem?_of_mem hx
      obtain ⟨_, _, _, h2⟩ := all.getR hi
      exact h2
  · refine p_ret g1 (pv_lc upS (by rw [List.length_range]; omega) (srcP_range (n := n) (EvA.pot (rng_int (ev_var rfl))) (by omega) (fun _ => rfl) fun i G' hi e => TrP.imp (small_ev (C := C) (k := 3) rfl ev_c (by omega)) fun v G'' _ ⟨q, h1, h2⟩ => ⟨q, .inr h1, by omega⟩)) fun v' G3 H3 _ g3 ev => q v' G3 H3 g3 (fin ev)
end
end On
set_option Elab.async false
set_option linter.all false
set_option maxRecDepth 100000
set_option maxHeartbeats 4000000
/-! A table whose rows change. -/
namespace On
open PySem PySem.Spec PyProof.Rows L2
/-- new lists in a new list, all apart -/
def newTab (C : Addr) (zs : List (List Rat)) (H : Hp) : V → Hp → Prop := fun v G => ∃ a as, v = .ref a ∧ H a = none ∧ G a = some (.lst (as.map V.ref)) ∧ All2 (fun b z => newL (isR C) z H (.ref b) G) as zs ∧ as.Nodup ∧ a ∉ as
section
variable {C : Addr} {K : PySem.W.Frag} {σ : L2.St} {H : Hp} {te : TE} {ta : TA} {vs : List Nat} {j n : Nat} {f : Nat → List Rat}
theorem newTab.mat {zs : List (List Rat)} {v : V} {G : Hp} (h : newTab C zs H v G) : isMat C zs v G := by
  obtain ⟨a, as, e, _, h2, h3, _, _⟩ := h
  have key : ∀ {as : List Addr} {zs : List (List Rat)}, All2 (fun b z => newL (isR C) z H (.ref b) G) as zs → All2 (fun x z => isRow C z x G) (as.map V.ref) zs := fun {as zs} h => by
    induction h with
    | nil => exact .nil
    | cons r _ ih => exact .cons r.lst ih
  exact ⟨a, _, e, h2, key h3⟩
theorem ev_lcN (h : EvA ta σ H fun vs _ => vs = [.int (n : Int)]) (hn : n ≤ 100000) (hw : ∀ x, wipe ((wipe σ vs).set j (some x)) vs = wipe σ vs)
    (turn : ∀ (i : Nat) G, i < n → Ex H G → Ev te ((wipe σ vs).set j (some (.int (i : Int)))) G (newL (isR C) (f i) G)) : Ev (tLc (iRng1 ta) (gName j) tYes te vs) σ H (newTab C ((List.range n).map f) H) := fun H1 e Q q =>
  h H1 e _ fun ws G H2 g0 ev => by
    refine ⟨(n : Int), ev, by omega, by omega, fun D hD => ?_⟩
    have gD : G D = none := g0.re.back hD
    refine lc_it (walk_range (lo := 0) (n := n)) (fun i H' => ∃ Gi as, Grow G H2 Gi H' ∧ Gi D = none ∧ H' D = some (.lst (as.map V.ref)) ∧ All2 (fun b c => newL (isR C) (f c) G (.ref b) Gi) as ((List.range n).take i) ∧ as.Nodup ∧ D ∉ as) ?_ ?_ ?_ ?_
    · exact ⟨G, [], Grow.hid g0.re hD, gD, upd_same, by simpa using All2.nil, List.nodup_nil, List.not_mem_nil⟩
    · rintro i H' _ _
      trivial
    · rintro i x H' H'' hi ⟨Gi, as, gr, giD, hys, all, hnd, hnm⟩ hy
      obtain ⟨e2, hx⟩ := hy
      subst e2
      subst hx
      have hz1 : (List.range n)[i]? = some i := by rw [List.getElem?_range hi]
      have e0 : (0 : Int) + (i : Int) = (i : Int) := Int.zero_add _
      show gName j (V.int (0 + (i : Int))) (wipe σ vs) _ _
      rw [e0]
      refine ⟨hw _, ?_⟩
      show te _ H'' _
      refine (turn i Gi hi (g0.kn.trans gr.kn)) H'' gr.re _ fun v G' H4 g' pv => ?_
      obtain ⟨b, ys, rfl, hb0, hb1, hb2⟩ := pv
      have h4D := g'.ol _ _ hys
      have g4D : G' D = none := g'.away giD hys
      have hbD : b ≠ D := fun z => by rw [z, g4D] at hb1; cases hb1
      have hbn : b ∉ as := fun hm => by
        obtain ⟨k, hk⟩ := List.getElem?_of_mem hm
        obtain ⟨_, _, c, us, e1, _, h5, _⟩ := all.get hk
        cases e1
        rw [hb0] at h5
        cases h5
      have hlen : (as.map V.ref).length ≤ 100000 := by
        rw [List.length_map, all.len, List.length_take, List.length_range]
        omega
      refine ⟨as.map V.ref, h4D, Nat.lt_of_le_of_lt hlen (by show _ < 2 ^ 24; decide), G', as ++ [b], (gr.trans g').mut hD g4D, g4D, by rw [upd_same, List.map_append] <;> rfl, ?_, ?_, ?_⟩
      · rw [take_snoc hz1]
        exact (all.mono fun _ _ r => up_newL up_isR _ _ _ _ g'.kn r).snoc (newL_base gr.kn ⟨b, ys, rfl, hb0, hb1, hb2⟩)
      · exact List.nodup_append.mpr ⟨hnd, List.nodup_cons.mpr ⟨List.not_mem_nil, List.nodup_nil⟩, fun x hx y hy => by
          rw [List.mem_singleton.mp hy]
          exact fun z => hbn (z ▸ hx)⟩
      · intro hm
        rcases List.mem_append.mp hm with hm | hm
        · exact hnm hm
        · exact hbD (List.mem_singleton.mp hm).symm
    · rintro H' ⟨Gi, as, gr, giD, hys, all, hnd, hnm⟩
      have hl : ((List.range n).take (Int.toNat (n : Int))) = List.range n := by
        rw [Int.toNat_natCast]
        exact List.take_of_length_le (by rw [List.length_range]; exact Nat.le_refl _)
      have hl2 : (List.range n).take n = List.range n := List.take_of_length_le (by rw [List.length_range]; exact Nat.le_refl _)
      rw [hl2] at all
      refine q (.ref D) (upd Gi D (.lst (as.map V.ref))) H' (g0.trans (gr.see hD giD hys)) ⟨D, as, rfl, e.back (g0.ol.back hD), upd_same, ?_, hnd, hnm⟩
      refine All2.mapR (f := f) (T := fun b z => newL (isR C) z H (.ref b) (upd Gi D (.lst (as.map V.ref)))) ?_
      exact all.mono fun _ _ r => newL_base g0.kn (up_newL up_isR _ _ _ _ (Ex.new giD) r)
end
/-! ### rows that change -/
/-- the outer list is known, the rows stand unknown -/
structure TabM (C : Addr) (r : Addr) (as : List Addr) (m : List (List Rat)) (G H : Hp) : Prop where
  out : G r = some (.lst (as.map V.ref))
  rows : All2 (fun a z => ∃ xs, H a = some (.lst xs) ∧ G a = none ∧ All2 (fun x q => isR C q x G) xs z) as m
  nd : as.Nodup
section
variable {C : Addr} {p r : Addr} {as : List Addr} {m : List (List Rat)} {G0 H1 G H : Hp}
/-- the heap and what is known grow, the rows stay unknown -/
theorem TabM.more {G' H' : Hp} (h : TabM C r as m G H) (np : ∀ a ∈ as, a ≠ p) (e : Ex G G') (away : ∀ a, G a = none → H a ≠ none → G' a = none) (eH : Ep p H H') : TabM C r as m G' H' := by
  have key : ∀ {as : List Addr} {m : List (List Rat)}, (∀ a ∈ as, a ≠ p) → All2 (fun a z => ∃ xs, H a = some (.lst xs) ∧ G a = none ∧ All2 (fun x q => isR C q x G) xs z) as m → All2 (fun a z => ∃ xs, H' a = some (.lst xs) ∧ G' a = none ∧ All2 (fun x q => isR C q x G') xs z) as m := fun {as m} np h => by
    induction h with
    | nil => exact .nil
    | cons r1 _ ih =>
      obtain ⟨xs, k1, k2, k3⟩ := r1
      exact .cons ⟨xs, eH _ _ (np _ List.mem_cons_self) k1, away _ k2 (by rw [k1]; exact Option.some_ne_none _), k3.mono fun _ _ q => up_isR _ _ _ _ e q⟩ (ih fun a ha => np a (List.mem_cons_of_mem _ ha))
  exact ⟨e _ _ h.out, key np h.rows, h.nd⟩
/-- one row changes -/
theorem TabM.set {i : Nat} {a : Addr} {xs' : List V} {z' : List Rat} (h : TabM C r as m G H) (ha : as[i]? = some a) (hx : All2 (fun x q => isR C q x G) xs' z') : TabM C r as (m.set i z') G (upd H a (.lst xs')) := by
  refine ⟨h.out, ?_, h.nd⟩
  have key : ∀ {as : List Addr} {m : List (List Rat)} {i : Nat}, as.Nodup → as[i]? = some a → All2 (fun a z => ∃ xs, H a = some (.lst xs) ∧ G a = none ∧ All2 (fun x q => isR C q x G) xs z) as m → All2 (fun b z => ∃ xs, (upd H a (.lst xs')) b = some (.lst xs) ∧ G b = none ∧ All2 (fun x q => isR C q x G) xs z) as (m.set i z') := by
    intro as m i nd hi all
    induction all generalizing i with
    | nil => cases hi
    | @cons b z l k r1 t ih =>
      obtain ⟨n1, n2⟩ := List.nodup_cons.mp nd
      cases i with
      | zero =>
        have hb : b = a := by simpa using hi
        subst hb
        obtain ⟨xs, k1, k2, k3⟩ := r1
        refine .cons ⟨xs', upd_same, k2, hx⟩ ?_
        clear ih hi
        induction t with
        | nil => exact .nil
        | @cons c y l' k' r2 t2 ih2 =>
          obtain ⟨xs2, j1, j2, j3⟩ := r2
          have hc : c ≠ b := fun q => n1 (by rw [← q]; exact List.mem_cons_self)
          exact .cons ⟨xs2, by rw [upd_ne hc]; exact j1, j2, j3⟩ (ih2 (List.nodup_cons.mpr ⟨fun q => n1 (List.mem_cons_of_mem _ q), (List.nodup_cons.mp n2).2⟩) (fun q => n1 (List.mem_cons_of_mem _ q)) (List.nodup_cons.mp n2).2)
      | succ i =>
        have hi' : l[i]? = some a := by simpa using hi
        obtain ⟨xs, k1, k2, k3⟩ := r1
        have hb : b ≠ a := fun q => n1 (by rw [q]; exact List.mem_of_getElem? hi')
        exact .cons ⟨xs, by rw [upd_ne hb]; exact k1, k2, k3⟩ (ih n2 hi')
  exact key h.nd ha h.rows
theorem unkP {a : Addr} {o : HO} (g : Gp p G0 H1 G H) (h0 : G0 a = none) (ha : G a = some o) : H1 a = none ∧ Gp p G0 H1 (sub G (one a o)) H := by
  have e1 : Ex G0 (sub G (one a o)) := fun x u h => by
    have hx : x ≠ a := fun z => by rw [z, h0] at h; cases h
    rw [sub_at (show one a o x = none from upd_ne hx)]
    exact g.kn x u h
  have h1 : H1 a = none := by
    cases q : H1 a with
    | none => rfl
    | some u =>
      have := g.fr a h0 (by rw [q]; exact Option.some_ne_none _)
      rw [ha] at this
      cases this
  refine ⟨h1, ⟨e1, ⟨sub_ex.trans g.st.ex, ?_, g.st.ok⟩, g.ol, fun x hx hx1 => ?_⟩⟩
  · have := g.st.np
    unfold sub
    rw [this]
    cases one a o p <;> rfl
  · by_cases hxa : x = a
    · subst hxa
      exact sub_no (by rw [one_at]; exact Option.some_ne_none _)
    · rw [sub_at (show one a o x = none from upd_ne hxa)]
      exact g.fr x hx hx1
/-- the part of a heap that stands at these -/
def part (as : List Addr) (H : Hp) : Hp := fun x => if x ∈ as then H x else none
theorem part_in {as : List Addr} {H : Hp} {a : Addr} (h : a ∈ as) : part as H a = H a := if_pos h
theorem part_out {as : List Addr} {H : Hp} {a : Addr} (h : a ∉ as) : part as H a = none := if_neg h
theorem part_ex {as : List Addr} {H : Hp} : Ex (part as H) H := fun a o h => by
  by_cases ha : a ∈ as
  · rw [part_in ha] at h; exact h
  · rw [part_out ha] at h; cases h
theorem all2_mem {α β : Type} {R : α → β → Prop} {l : List α} {k : List β} (h : All2 R l k) {a : α} (ha : a ∈ l) : ∃ b, R a b := by
  obtain ⟨i, hi⟩ := List.getElem?_of_mem ha
  obtain ⟨b, _, r⟩ := h.get hi
  exact ⟨b, r⟩
/-- a new table's rows are told apart -/
theorem unkTab {v : V} (g : Gp p G0 H1 G H) (h : newTab C m G0 v G) : ∃ r as G', v = .ref r ∧ Gp p G0 H1 G' H ∧ TabM C r as m G' H ∧ (∀ a ∈ as, H1 a = none ∧ a ≠ p ∧ G0 a = none) ∧ (∀ x o, G0 x = some o → G' x = some o) := by
  obtain ⟨r, as, rfl, h1, h2, h3, h4, h5⟩ := h
  have hm : ∀ a ∈ as, ∃ xs, G a = some (.lst xs) ∧ G0 a = none := fun a ha => by
    obtain ⟨z, b, xs, e1, e2, e3, _⟩ := all2_mem h3 ha
    cases e1
    exact ⟨xs, e3, e2⟩
  have hl : Lists (part as G) := fun x o hx => by
    by_cases hxa : x ∈ as
    · obtain ⟨xs, e, _⟩ := hm x hxa
      rw [part_in hxa, e] at hx
      cases hx
      exact ⟨xs, rfl⟩
    · rw [part_out hxa] at hx; cases hx
  have hn : ∀ a ∈ as, sub G (part as G) a = none := fun a ha => sub_no (by
    obtain ⟨xs, e, _⟩ := hm a ha
    rw [part_in ha, e]
    exact Option.some_ne_none _)
  have h1n : ∀ a ∈ as, H1 a = none := fun a ha => by
    obtain ⟨xs, e, e0⟩ := hm a ha
    cases q : H1 a with
    | none => rfl
    | some u =>
      have := g.fr a e0 (by rw [q]; exact Option.some_ne_none _)
      rw [e] at this
      cases this
  have kn : Ex G0 (sub G (part as G)) := fun x o hx => by
    have hxa : x ∉ as := fun q => by
      obtain ⟨xs, _, e0⟩ := hm x q
      rw [e0] at hx
      cases hx
    rw [sub_at (part_out hxa)]
    exact g.kn x o hx
  have nn : ∀ x, G x = none → sub G (part as G) x = none := fun x hx => by
    unfold sub
    cases part as G x with
    | none => exact hx
    | some o => rfl
  refine ⟨r, as, sub G (part as G), rfl, ⟨kn, ⟨sub_ex.trans g.st.ex, nn _ g.st.np, g.st.ok⟩, g.ol, fun x a b => nn _ (g.fr x a b)⟩, ⟨by rw [sub_at (part_out h5)]; exact h2, ?_, h4⟩, fun a ha => ⟨h1n a ha, fun q => ?_, (hm a ha).elim fun _ h => h.2⟩, kn⟩
  · have key : ∀ {l : List Addr} {k : List (List Rat)}, (∀ a ∈ l, a ∈ as) → All2 (fun b z => newL (isR C) z G0 (.ref b) G) l k → All2 (fun a z => ∃ xs, H a = some (.lst xs) ∧ sub G (part as G) a = none ∧ All2 (fun x q => isR C q x (sub G (part as G))) xs z) l k := fun {l k} hin h => by
      induction h with
      | nil => exact .nil
      | cons r1 _ ih =>
        obtain ⟨b, xs, e1, e2, e3, e4⟩ := r1
        cases e1
        exact .cons ⟨xs, g.st.ex _ _ e3, hn _ (hin _ List.mem_cons_self), e4.mono fun _ _ q => isR.off hl part_ex q⟩ (ih fun a ha => hin a (List.mem_cons_of_mem _ ha))
    exact key (fun _ h => h) h3
  · obtain ⟨xs, e, _⟩ := hm a ha
    rw [q, g.st.np] at e
    cases e
/-- the rows as they stand are known from now on -/
theorem seeTab (g : Gp p G0 H1 G H) (h : TabM C r as m G H) (ha : ∀ a ∈ as, H1 a = none ∧ a ≠ p) : ∃ G', Gp p G0 H1 G' H ∧ Ex G G' ∧ isMat C m (.ref r) G' := by
  have hp : p ∉ as := fun q => (ha p q).2 rfl
  have e1 : Ex G (join G (part as H)) := join_l
  refine ⟨join G (part as H), ⟨g.kn.trans e1, ⟨join_ex g.st.ex part_ex, join_none g.st.np (part_out hp), g.st.ok⟩, g.ol, fun x h0 h1 => join_none (g.fr x h0 h1) ?_⟩, e1, r, as.map V.ref, rfl, e1 _ _ h.out, ?_⟩
  · by_cases hx : x ∈ as
    · exact absurd (ha x hx).1 h1
    · exact part_out hx
  · have key : ∀ {l : List Addr} {k : List (List Rat)}, (∀ a ∈ l, a ∈ as) → All2 (fun a z => ∃ xs, H a = some (.lst xs) ∧ G a = none ∧ All2 (fun x q => isR C q x G) xs z) l k → All2 (fun x z => isRow C z x (join G (part as H))) (l.map V.ref) k := fun {l k} hin h => by
      induction h with
      | nil => exact .nil
      | @cons a z l' k' r1 _ ih =>
        obtain ⟨xs, k1, k2, k3⟩ := r1
        refine .cons ⟨a, xs, rfl, ?_, k3.mono fun _ _ q => up_isR _ _ _ _ e1 q⟩ (ih fun a ha => hin a (List.mem_cons_of_mem _ ha))
        unfold join
        rw [k2]
        show part as H a = _
        rw [part_in (hin _ List.mem_cons_self)]
        exact k1
    exact key (fun _ h => h) h.rows
end
/-! ### symmetric changes -/
def set2 (m : List (List Rat)) (i j : Nat) (q : Rat) : List (List Rat) := (m.set i ((m.getD i []).set j q)).set j (((m.set i ((m.getD i []).set j q)).getD j []).set i q)
theorem at2_set {n : Nat} {m : List (List Rat)} (h : Sq n m) {i j : Nat} (hi : i < n) (hj : j < n) (q : Rat) (a b : Nat) : at2 (m.set i ((m.getD i []).set j q)) a b = if a = i ∧ b = j then q else at2 m a b := by
  have hl := h.len
  by_cases ha : a = i
  · subst ha
    have hr := h.rowLen hi
    have e1 : (m.set a ((m.getD a []).set j q))[a]? = some ((m.getD a []).set j q) := by rw [List.getElem?_set, if_pos rfl, if_pos (by omega)]
    rw [at2_row, getD_at e1]
    by_cases hb : b = j
    · subst hb
      rw [if_pos ⟨rfl, rfl⟩]
      exact getD_at (by rw [List.getElem?_set, if_pos rfl, if_pos (by omega)])
    · rw [if_neg (fun z => hb z.2), at2_row, List.getD_eq_getElem?_getD, List.getElem?_set, if_neg (Ne.symm hb), ← List.getD_eq_getElem?_getD]
  · rw [if_neg (fun z => ha z.1)]
    have e1 : (m.set i ((m.getD i []).set j q)).getD a [] = m.getD a [] := by rw [List.getD_eq_getElem?_getD, List.getElem?_set, if_neg (Ne.symm ha), ← List.getD_eq_getElem?_getD]
    rw [at2_row, e1]
    rfl
theorem set_sq {n : Nat} {m : List (List Rat)} (h : Sq n m) {i j : Nat} (hi : i < n) (q : Rat) : Sq n (m.set i ((m.getD i []).set j q)) :=
  ⟨by rw [List.length_set]; exact h.len, fun r hr => by
    rcases List.mem_or_eq_of_mem_set hr with hr | hr
    · exact h.row r hr
    · rw [hr, List.length_set]; exact h.rowLen hi⟩
theorem set2_sq {n : Nat} {m : List (List Rat)} (h : Sq n m) {i j : Nat} (hi : i < n) (hj : j < n) (q : Rat) : Sq n (set2 m i j q) := set_sq (set_sq h hi q) hj q
theorem at2_set2 {n : Nat} {m : List (List Rat)} (h : Sq n m) {i j : Nat} (hi : i < n) (hj : j < n) (q : Rat) (a b : Nat) : at2 (set2 m i j q) a b = if (a = i ∧ b = j) ∨ (a = j ∧ b = i) then q else at2 m a b := by
  unfold set2
  rw [at2_set (set_sq h hi q) hj hi, at2_set h hi hj]
  by_cases h1 : a = j ∧ b = i
  · rw [if_pos h1, if_pos (.inr h1)]
  · rw [if_neg h1]
    by_cases h2 : a = i ∧ b = j
    · rw [if_pos h2, if_pos (.inl h2)]
    · rw [if_neg h2, if_neg (fun z => z.elim h2 h1)]
theorem set2_sym {n : Nat} {m : List (List Rat)} (h : Sq n m) (hs : Sym m) {i j : Nat} (hi : i < n) (hj : j < n) (q : Rat) : Sym (set2 m i j q) := fun a b => by
  rw [at2_set2 h hi hj, at2_set2 h hi hj, hs a b]
  by_cases h1 : (a = i ∧ b = j) ∨ (a = j ∧ b = i)
  · rw [if_pos h1, if_pos (h1.elim (fun z => .inr ⟨z.2, z.1⟩) fun z => .inl ⟨z.2, z.1⟩)]
  · rw [if_neg h1, if_neg (fun z => h1 (z.elim (fun z => .inr ⟨z.2, z.1⟩) fun z => .inl ⟨z.2, z.1⟩))]
/-- entries by places -/
theorem ents_of {n e : Nat} {m : List (List Rat)} (h : Sq n m) (he : ∀ i j, i < n → j < n → sz (at2 m i j) ≤ 2 ^ e) : Ents n e m :=
  ⟨h.row, fun r hr q hq => by
    obtain ⟨i, hi⟩ := List.getElem?_of_mem hr
    obtain ⟨j, hj⟩ := List.getElem?_of_mem hq
    have := he i j (h.lt hi) (by have := (List.getElem?_eq_some_iff.mp hj).1; have := h.row r hr; omega)
    rw [at2_get hi hj] at this
    exact this⟩
theorem set2_ents {n e : Nat} {m : List (List Rat)} (h : Sq n m) (hen : Ents n e m) {i j : Nat} (hi : i < n) (hj : j < n) {q : Rat} (hq : sz q ≤ 2 ^ e) : Ents n e (set2 m i j q) := ents_of (set2_sq h hi hj q) fun a b _ _ => by
  rw [at2_set2 h hi hj]
  split
  · exact hq
  · exact at2_le hen a b
/-- the table of zeros -/
def zeroM (n : Nat) : List (List Rat) := (List.range n).map fun _ => (List.range n).map fun _ => (0 : Rat)
theorem zeroM_sq (n : Nat) : Sq n (zeroM n) := ⟨by unfold zeroM; rw [List.length_map, List.length_range], fun r hr => by
  obtain ⟨_, _, rfl⟩ := List.mem_map.mp hr
  rw [List.length_map, List.length_range]⟩
theorem zeroM_at (n i j : Nat) : at2 (zeroM n) i j = 0 := by
  by_cases hi : i < n
  · have e1 : (zeroM n)[i]? = some ((List.range n).map fun _ => (0 : Rat)) := by
      unfold zeroM
      rw [List.getElem?_map, List.getElem?_range hi]
      rfl
    rw [at2_row, getD_at e1]
    by_cases hj : j < n
    · exact getD_at (by rw [List.getElem?_map, List.getElem?_range hj]; rfl)
    · rw [List.getD_eq_getElem?_getD, List.getElem?_eq_none (by rw [List.length_map, List.length_range]; omega)]
      rfl
  · exact at2_none (by rw [(zeroM_sq n).len]; omega)
theorem moreM_sq {n : Nat} {m : List (List Rat)} (h : Sq n m) (q : Rat) (f : List Rat) : Sq n (moreM m q f) := by
  have hl := h.len
  refine ⟨by unfold moreM; rw [List.length_map, List.length_range, hl], fun r hr => ?_⟩
  obtain ⟨_, _, rfl⟩ := List.mem_map.mp hr
  rw [List.length_map, List.length_range, hl]
theorem moreM_at {n : Nat} {m : List (List Rat)} (h : Sq n m) (q : Rat) (f : List Rat) {i j : Nat} (hi : i < n) (hj : j < n) : at2 (moreM m q f) i j = at2 m i j + q * f.getD i 0 * f.getD j 0 := by
  have hl := h.len
  refine at2_get (r := (List.range m.length).map fun j => at2 m i j + q * f.getD i 0 * f.getD j 0) ?_ ?_
  · unfold moreM
    rw [List.getElem?_map, List.getElem?_range (by omega)]
    rfl
  · rw [List.getElem?_map, List.getElem?_range (by omega)]
    rfl
theorem moreM_sym {n : Nat} {m : List (List Rat)} (h : Sq n m) (hs : Sym m) (q : Rat) (f : List Rat) : Sym (moreM m q f) := fun i j => by
  have hm := moreM_sq h q f
  by_cases hi : i < n
  · by_cases hj : j < n
    · rw [moreM_at h q f hi hj, moreM_at h q f hj hi, hs i j]
      grind
    · rw [at2_none (i := j) (by rw [hm.len]; omega)]
      have := hm.rowLen hi
      rw [at2_row, List.getD_eq_getElem?_getD, List.getElem?_eq_none (by omega)]
      rfl
  · rw [at2_none (i := i) (by rw [hm.len]; omega)]
    by_cases hj : j < n
    · have := hm.rowLen hj
      rw [at2_row, List.getD_eq_getElem?_getD, List.getElem?_eq_none (by omega)]
      rfl
    · rw [at2_none (by rw [hm.len]; omega)]
theorem moreM_ents {n e : Nat} {m : List (List Rat)} (h : Sq n m) (hen : Ents n e m) {q : Rat} {f : List Rat} (hq : sz q ≤ 6) (hf : ∀ x ∈ f, sz x ≤ 3) : Ents n (e + 6) (moreM m q f) := ents_of (moreM_sq h q f) fun i j hi hj => by
  rw [moreM_at h q f hi hj]
  have hfi : ∀ k, sz (f.getD k 0) ≤ 3 := fun k => by
    by_cases hk : k < f.length
    · rw [getD_at (List.getElem?_eq_getElem hk)]; exact hf _ (List.getElem_mem hk)
    · rw [List.getD_eq_getElem?_getD, List.getElem?_eq_none (by omega)]
      exact Nat.le_trans (Nat.le_of_eq sz_zero) (by decide)
  have h1 : sz (q * f.getD i 0 * f.getD j 0) ≤ 6 * 3 * 3 := Nat.le_trans (sz_mul _ _) (Nat.mul_le_mul (Nat.le_trans (sz_mul _ _) (Nat.mul_le_mul hq (hfi i))) (hfi j))
  refine Nat.le_trans (sz_add _ _) ?_
  rw [Nat.pow_add]
  exact Nat.mul_le_mul (at2_le hen i j) (Nat.le_trans h1 (by decide))
end On
set_option Elab.async false
set_option linter.all false
set_option maxRecDepth 100000
set_option maxHeartbeats 4000000
/-! _law_table. -/
namespace On
open PySem PySem.Spec PyProof.Rows L2
section
variable {p : Addr} {K : PySem.W.Frag} {σ : L2.St} {G0 H1 G H : Hp} {ta tb tc : TE} {P P' P'' : V → Hp → Prop} {D : Ends} {tz tbd : TS} {C : Addr}
theorem pa_3 (up : ∀ v G G', Ex G G' → P v G → P v G') (up2 : ∀ v G G', Ex G G' → P' v G → P' v G') (up3 : ∀ v G G', Ex G G' → P'' v G → P'' v G') (h : EvP p ta σ H P) (h2 : EvP p tb σ H P') (h3 : EvP p tc σ H P'') : EvAP p (tCons ta (tCons tb (tCons tc tNil))) σ H fun vs G => ∃ v w u, vs = [v, w, u] ∧ P v G ∧ P' w G ∧ P'' u G := fun H1 e _ q =>
  h H1 e _ fun v G H2 g p => (h2.up up2 g.kn) H2 g.st _ fun w G' H3 g' s => (h3.up up3 (g.kn.trans g'.kn)) H3 g'.st _ fun u G'' H4 g'' t => q [v, w, u] G'' H4 ((g.trans g').trans g'') ⟨v, w, u, rfl, up _ _ _ (g'.kn.trans g''.kn) p, up2 _ _ _ g''.kn s, t⟩
/-- for i in range(d), d drawn -/
theorem p_forRd {t : TA} {N : Nat} {j : Nat} (gr : Gp p G0 H1 G H) (h : EvAP p t σ G fun vs _ => ∃ d : Nat, d < N ∧ vs = [.int (d : Int)]) (hN : N ≤ 100000) (I : Nat → L2.St → Hp → Hp → Prop) (i0 : ∀ G' H', Gp p G H G' H' → Gp p G0 H1 G' H' → I 0 σ G' H')
    (hs : ∀ (i : Nat) σ' G' H', i + 1 < N → Ex G G' → Gp p G0 H1 G' H' → I i σ' G' H' → ∀ Nx : L2.St → Hp → Prop, (∀ σ3 G3 H3, Ex G' G3 → Gp p G0 H1 G3 H3 → I (i + 1) σ3 G3 H3 → Nx σ3 H3) → tbd { D with nx := Nx, ct := Nx, bk := tz D } (σ'.set j (some (.int (i : Int)))) H')
    (hd : ∀ d σ' G' H', d < N → Ex G G' → Gp p G0 H1 G' H' → I d σ' G' H' → tz D σ' H') : tSeq (tFor (iRng1 t) (gName j) tbd) tz D σ H :=
  h H gr.st _ fun ws Gs Hs g1 ⟨n, hn, ew⟩ => by
    refine ⟨(n : Int), ew, by omega, by omega, ?_⟩
    refine for_it (D := { D with nx := tz D }) (walk_range (lo := 0) (n := n)) (fun i σ' H' => ∃ G', Ex Gs G' ∧ Gp p G0 H1 G' H' ∧ I i σ' G' H') ⟨Gs, Ex.rfl, gr.trans g1, i0 Gs Hs g1 (gr.trans g1)⟩ (fun _ _ _ _ _ => trivial) ?_ ?_
    · rintro i x σ' H' H'' hi ⟨G', e, g', iv⟩ hy
      obtain ⟨e2, hx⟩ := hy
      subst e2
      subst hx
      have e0 : (0 : Int) + (i : Int) = (i : Int) := Int.zero_add _
      show gName j (V.int (0 + (i : Int))) σ' _ _
      rw [e0]
      exact hs i σ' G' _ (by omega) (g1.kn.trans e) g' iv _ fun σ3 G3 H3 e3 g3 i3 => ⟨G3, e.trans e3, g3, i3⟩
    · rintro σ' H' ⟨G', e, g', iv⟩
      exact hd n σ' G' H' hn (g1.kn.trans e) g' iv
end
section
variable {P : Program} {w : World} {K : PySem.W.Frag} {mg : Str → Option Value} {base : Heap} {C : Addr}
/-- a Ratio below 2 ^ k -/
def someR (C : Addr) (k : Nat) : V → Hp → Prop := fun v G => ∃ q, isR C q v G ∧ sz q ≤ 2 ^ k
theorem up_someR {k : Nat} : ∀ v G G', Ex G G' → someR C k v G → someR C k v G' := fun v G G' e ⟨q, h1, h2⟩ => ⟨q, up_isR _ _ _ _ e h1, h2⟩
/-- Ratio(draw(pot, n)) -/
theorem mkDraw {σ : L2.St} {G : Hp} {p : Addr} {i : Nat} (hs : σ[i]? = some (some (.ref p))) : EvP p (tMake C (spInit C) [.int 1] E0 (tCons (tCall spDraw [] E0 (tCons (tVar i) (tCons (tC (.int 5)) tNil))) tNil)) σ G (someR C 20) := fun H1 s1 Q1 q1 =>
  draw_ev (n := 5) hs (Tr.pot ev_c) (by decide) (by decide) H1 s1 _ fun v G2 H2 g2 ⟨d, hd, hv⟩ => by
    subst hv
    intro x dx hx hdx hne
    refine ⟨x, dx, (d : Int), 1, rfl, by decide, upd_same, fun H' keep hx' => ⟨rfl, ?_⟩⟩
    have gg : Grow G2 H2 (upd G2 x (.ins C dx (rfs (Rat.divInt d 1)))) H' := grow_ins (Grow.rfl g2.st.ex) hx hdx keep hx'
    refine q1 _ _ H' (g2.trans (Gp.of g2.st gg)) ⟨Rat.divInt d 1, ⟨x, dx, rfl, upd_same⟩, ?_⟩
    have := sz_divInt (d : Int) 1 (by decide)
    omega
theorem newTab_base {zs : List (List Rat)} {G G1 G2 : Hp} {v : V} (e : Ex G G1) (h : newTab C zs G1 v G2) : newTab C zs G v G2 := by
  obtain ⟨a, as, h1, h2, h3, h4, h5, h6⟩ := h
  exact ⟨a, as, h1, e.back h2, h3, h4.mono fun _ _ r => newL_base e r, h5, h6⟩
/-- rows[i][j] = v -/
theorem setTab {σ : L2.St} {H : Hp} {r a : Addr} {as : List Addr} {xs : List V} {v : V} {ri ii ji i j : Nat} {Q : L2.St → Hp → Prop} (hr : σ[ri]? = some (some (.ref r))) (hi : σ[ii]? = some (some (.int (i : Int)))) (hj : σ[ji]? = some (some (.int (j : Int)))) (hH : H r = some (.lst (as.map V.ref))) (ha : as[i]? = some a) (hx : H a = some (.lst xs)) (hjl : j < xs.length)
    (q : Q σ (upd H a (.lst (xs.set j v)))) : gSub (tOp (rIxLT K) (tVar ri) (tVar ii)) (tVar ji) rSetL v σ H Q :=
  ⟨.ref r, hr, .int (i : Int), hi, .inl ⟨r, as.map V.ref, (i : Int), .ref a, rfl, rfl, SqL.of hH, atI_nat (by rw [List.getElem?_map, ha] <;> rfl), ⟨.int (j : Int), hj, a, xs, (j : Int), j, rfl, rfl, hx, ixN_n hjl, q⟩⟩⟩
/-- what a drawn table is -/
structure Drawn (n : Nat) (m : List (List Rat)) : Prop where
  sq : Sq n m
  sym : Sym m
  ents : Ents n 24 m
def spTab (C : Addr) : Sp := PuP (γ := Nat) (fun p n vs H => vs = [.ref p, .int (n : Int)] ∧ 1 ≤ n ∧ n ≤ 4) fun n _ v G => ∃ m, isMat C m v G ∧ Drawn n m
theorem len_tab : ∀ vs H Q E, spTab C vs H Q E → vs.length = 2 := lenP fun p g vs H ⟨e, _⟩ => by rw [e] <;> rfl
set_option maxHeartbeats 8000000 in
theorem c__law_table (T : Txt P w K mg base C) : C8.Cal P w K mg base 45 "_law_table" (spTab C) [] := by
  refine cal_by T.d_law_table sc_law_table (fun _ _ _ _ _ _ us hl => match us, hl with | [_, _], _ => rfl) len_tab fun f cdv A outer s H vs Q E hr h => ?_
  obtain ⟨p, n, G, st, ⟨rfl, hn1, hn4⟩, q⟩ := h
  refine ⟨_, (pss_cons (ps_set (i := 2) sc_law_table.nd rfl (by first | exact Or.inl rfl | exact Or.inr rfl) (C8.pe_c (c__law_draw T) hr (by decide) rfl (pa_cons (pv 0) (pa_cons pe_int pa_nil)))) (pss_cons (ps_setLc (i := 3) (own := [("_law_i", 5)]) (g := gName 5) (tt := tYes) rfl sc_law_table.nd rfl rfl (sw_true rfl rfl rfl (by kernel_rfl)) (pi_range1 rfl T.n_range (pa_cons (pv 1) pa_nil)) (blkOk_by (own := [("_law_i", 5)]) (by kernel_rfl)) (fun _ _ _ _ _ => (pg_name (i := 5) sc_law_table.nd rfl (by first | exact Or.inl rfl | exact Or.inr rfl))) (fun _ _ _ _ _ => pts_nil) (fun _ _ _ _ _ => (pe_lc (own := [("_law_j", 6)]) (g := gName 6) (tt := tYes) rfl sc_law_table.nd (pi_range1 rfl T.n_range (pa_cons (pv 1) pa_nil)) (blkOk_by (own := [("_law_j", 6)]) (by kernel_rfl)) (fun _ _ _ _ _ => (pg_name (i := 6) sc_law_table.nd rfl (by first | exact Or.inl rfl | exact Or.inr rfl))) (fun _ _ _ _ _ => pts_nil) (fun _ _ _ _ _ => (C8.pe_mk (k_ratio1 T) hr (by decide) rfl (pa_cons pe_int pa_nil)))))) (pss_cons (ps_if (pt_cmpR (cmEq T hr (by decide)) (pv 2) pe_int (nomark _)) (pss_cons (ps_for PassesOwn.never rfl (pi_range1 rfl T.n_range (pa_cons (C8.pe_c (c__law_draw T) hr (by decide) rfl (pa_cons (pv 0) (pa_cons (pe_op (opAdd T hr (by decide)) (pv 1) pe_int) pa_nil))) pa_nil)) (pg_name (i := 4) sc_law_table.nd rfl (by first | exact Or.inl rfl | exact Or.inr rfl)) (pss_one (ps_set (i := 3) sc_law_table.nd rfl (by first | exact Or.inl rfl | exact Or.inr rfl) (C8.pe_c (c__law_more T) hr (by decide) rfl (pa_cons (pv 3) (pa_cons (C8.pe_c (c__law_small T) hr (by decide) rfl (pa_cons (pv 0) (pa_cons pe_int pa_nil))) (pa_cons (pe_lc (own := [("_law_place", 8)]) (g := gName 8) (tt := tYes) rfl sc_law_table.nd (pi_range1 rfl T.n_range (pa_cons (pv 1) pa_nil)) (blkOk_by (own := [("_law_place", 8)]) (by kernel_rfl)) (fun _ _ _ _ _ => (pg_name (i := 8) sc_law_table.nd rfl (by first | exact Or.inl rfl | exact Or.inr rfl))) (fun _ _ _ _ _ => pts_nil) (fun _ _ _ _ _ => (pe_op (opSub T hr (by decide)) (C8.pe_c (c__law_draw T) hr (by decide) rfl (pa_cons (pv 0) (pa_cons pe_int pa_nil))) pe_int))) pa_nil))))))) (pss_one (ps_ret (pv 3)))) pss_nil) (pss_cons (ps_for PassesOwn.never rfl (pi_range1 rfl T.n_range (pa_cons (pv 1) pa_nil)) (pg_name (i := 5) sc_law_table.nd rfl (by first | exact Or.inl rfl | exact Or.inr rfl)) (pss_one (ps_for PassesOwn.never rfl (pi_range1 rfl T.n_range (pa_cons (pe_op (opAdd T hr (by decide)) (pv 5) pe_int) pa_nil)) (pg_name (i := 6) sc_law_table.nd rfl (by first | exact Or.inl rfl | exact Or.inr rfl)) (pss_cons (ps_set (i := 7) sc_law_table.nd rfl (by first | exact Or.inl rfl | exact Or.inr rfl) (pe_ifExp (pt_cmpR (cmEq T hr (by decide)) (pv 2) pe_int (nomark _)) (C8.pe_c (c__law_small T) hr (by decide) rfl (pa_cons (pv 0) (pa_cons pe_int pa_nil))) (C8.pe_mk (k_ratio1 T) hr (by decide) rfl (pa_cons (C8.pe_c (c__law_draw T) hr (by decide) rfl (pa_cons (pv 0) (pa_cons pe_int pa_nil))) pa_nil)))) (pss_cons (ps_if (PW.pt (pw_and (pt_cmpR (cmEq T hr (by decide)) (pv 2) pe_int (nomark _)) (pw_and1 (pt_cmpR (cmEq T hr (by decide)) (C8.pe_c (c__law_draw T) hr (by decide) rfl (pa_cons (pv 0) (pa_cons pe_int pa_nil))) pe_int (nomark _))))) (pss_one (ps_set (i := 7) sc_law_table.nd rfl (by first | exact Or.inl rfl | exact Or.inr rfl) (C8.pe_mk (k_ratio2 T) hr (by decide) rfl (pa_cons pe_int (pa_cons pe_int pa_nil))))) pss_nil) (pss_cons (ps_if (PW.pt (pw_or (PW.pt (pw_and (pt_cmpR (cmEq T hr (by decide)) (pv 2) pe_int (nomark _)) (pw_and1 (pt_cmpR op_gt (C8.pe_c (c__law_draw T) hr (by decide) rfl (pa_cons (pv 0) (pa_cons pe_int pa_nil))) pe_int (nomark _))))) (pw_or1 (PW.pt (pw_and (pt_cmpR (cmEq T hr (by decide)) (pv 2) pe_int (nomark _)) (pw_and1 (pt_cmpR (cmEq T hr (by decide)) (pv 5) (pv 6) (nomark _)))))))) (pss_one (ps_set (i := 7) sc_law_table.nd rfl (by first | exact Or.inl rfl | exact Or.inr rfl) (C8.pe_mk (k_ratio1 T) hr (by decide) rfl (pa_cons pe_int pa_nil)))) pss_nil) (pss_one (ps_asg (pe_tup (pa_cons (pv 7) (pa_cons (pv 7) pa_nil))) (pg_tup rfl (pgs_cons (pg_sub (pe_ix (r := rIxLT K) ix_lt (pv 3) (pv 5) (fun _ _ => rfl)) (pv 6) set_list) (pgs_cons (pg_sub (pe_ix (r := rIxLT K) ix_lt (pv 3) (pv 6) (fun _ _ => rfl)) (pv 5) set_list) pgs_nil))))))))))) (pss_one (ps_ret (pv 3))))))), ?_⟩
  refine p_set (P := drawn 4) (Gp.rfl st) (draw_ev (i := 0) (n := 4) rfl (Tr.pot ev_c) (by decide) (by decide)) ?_
  rintro _ G1 H1 _ g1 ⟨way, hway, rfl⟩
  refine p_set (P := newTab C (zeroM n) G1) g1 (Tr.pot (ev_lcN (n := n) (f := fun _ => (List.range n).map fun _ => (0 : Rat)) (rng_int (ev_var rfl)) (by omega) (fun _ => rfl) fun i G' hi e => ?_)) fun rv G2 H2 g2' g2 hrv => ?_
  · exact ev_lc (f := fun _ : Nat => (0 : Rat)) up_isR (by rw [List.length_range]; omega) (src_range (n := n) (rng_int (ev_var rfl)) (by omega) (fun _ => rfl) fun i G' hi e => ⟨et_yes, fun _ => ev_mk1 (a := 0) ev_c⟩)
  refine p_if (C := fun _ => True) g2 (pq_test (Tr.pot (Tr.imp (ev_eqU rfl (ev_var (v := .int (way : Int)) rfl) (ev_c (v := .int 1))) fun v G' _ h => ⟨_, h, trivial⟩))) (fun _ H3 g3 e3 => ?_) (fun _ H3 g3 e3 => ?_)
  · -- sums of squares
    refine p_forRd (N := n + 1) g3 (EvAP.imp (pa_1 (draw_ev (i := 0) (n := n + 1) rfl (Tr.pot (ev_addI (ev_var (v := .int (n : Int)) rfl) ev_c)) (by omega) (by omega))) fun vs G' ⟨v, ev, d, hd, hv⟩ => ⟨d, hd, by rw [ev, hv]⟩) (by omega)
      (fun i σ' G' H' => ∃ m rv o4 o5 o6 o7 o8, σ' = [some (.ref p), some (.int (n : Int)), some (.int (way : Int)), some rv, o4, o5, o6, o7, o8] ∧ isMat C m rv G' ∧ Sq n m ∧ Sym m ∧ Ents n (6 * i) m)
      (fun G' H' g' _ => ⟨zeroM n, rv, _, _, _, _, _, rfl, up_mat _ _ _ _ g'.kn hrv.mat, zeroM_sq n, fun i j => by rw [zeroM_at, zeroM_at], ents_of (zeroM_sq n) fun i j _ _ => by rw [zeroM_at]; exact Nat.le_of_eq sz_zero⟩) ?_ ?_
    · rintro i σ' G' H' hi eG gg ⟨m, rv', o4, o5, o6, o7, o8, rfl, hm, hs, hy, hen⟩ N hN
      refine p_setz (P := fun v G => ∃ m', isMat C m' v G ∧ Sq n m' ∧ Sym m' ∧ Ents n (6 * (i + 1)) m') gg (pv_call (pa_3 (P := isMat C m) (P' := smallR C 6) (P'' := fun u G => ∃ l : List Rat, gList C l u G ∧ l.length = n ∧ ∀ x ∈ l, sz x ≤ 3) (fun v G G' e => up_mat _ v G G' e) up_small (fun v G G' e ⟨l, h1, h2⟩ => ⟨l, up_gList _ _ _ _ e h1, h2⟩) (Tr.pot (ev_slot rfl hm)) (small_ev (k := 3) rfl ev_c (by omega)) ?_) fun vs G'' e hp ⟨v, w, u, ev, hv, ⟨q0, hq, hq2⟩, l, hl, hl2, hl3⟩ => ?_) fun rv2 G3 H3 g3' g3 ⟨m', k1, k2, k3, k4⟩ => ?_
      · refine TrP.imp (pv_lc (R' := fun (_ : Nat) x G => ∃ q, isN C q x G ∧ sz q ≤ 3) (fun _ v H H' e ⟨q, h1, h2⟩ => ⟨q, up_isN _ _ _ _ e h1, h2⟩) (by rw [List.length_range]; omega) (srcP_range (n := n) (EvA.pot (rng_int (ev_var rfl))) (by omega) (fun _ => rfl) fun k Gk hk ek => ?_)) fun v G' _ ⟨a, xs, e, _, ha, all⟩ => ?_
        · intro H5 s5 Q5 q5
          refine draw_ev (i := 0) (n := 5) rfl (Tr.pot ev_c) (by decide) (by decide) H5 s5 _ fun v G6 H6 g6 ⟨d, hd, hv⟩ => .inl ⟨(d : Int), 2, hv, rfl, q5 _ G6 H6 g6 ⟨((d : Int) - 2 : Int), .inl ⟨_, rfl, rfl⟩, ?_⟩⟩
          rw [sz_int]
          omega
        · obtain ⟨l, h1, h2⟩ := some_all (n := n) all
          exact ⟨l, ⟨a, xs, e, ha, h1⟩, by rw [← h1.len, all.len, List.length_range], h2⟩
      · refine TrP.imp (Tr.pot (Pu.tr (γ := List (List Rat) × Rat × List Rat) (g := (m, q0, l)) ⟨v, w, u, ev, hv, hq, hl, n, 6 * i, hs, hn4, hen, by omega, hl2, hq2, hl3⟩)) fun v G3 _ h => ⟨_, h, moreM_sq hs _ _, moreM_sym hs hy _ _, ?_⟩
        rw [Nat.mul_add, Nat.mul_one]
        exact moreM_ents hs hen hq2 hl3
      · exact hN _ G3 H3 g3'.kn g3 ⟨m', rv2, _, _, _, _, _, rfl, k1, k2, k3, k4⟩
    · rintro d σ' G' H' hd eG gg ⟨m, rv', o4, o5, o6, o7, o8, rfl, hm, hs, hy, hen⟩
      exact p_ret gg (Tr.pot (ev_slot (i := 3) rfl hm)) fun v' G3 H3 _ g3 ev => q v' G3 H3 g3 ⟨m, ev, hs, hy, hen.mono (by omega)⟩
  · -- drawn entries
    unfold tNext
    dsimp only
    obtain ⟨r, as, G4, rfl, g4, tm, hax, _⟩ := unkTab g3 (newTab_base g1.kn hrv)
    have np : ∀ a ∈ as, a ≠ p := fun a ha => (hax a ha).2.1
    have hal : as.length = n := by rw [tm.rows.len, (zeroM_sq n).len]
    have d0 : Drawn n (zeroM n) := ⟨zeroM_sq n, fun i j => by rw [zeroM_at, zeroM_at], ents_of (zeroM_sq n) fun i j _ _ => by rw [zeroM_at, sz_zero]; exact Nat.one_le_two_pow⟩
    refine p_forR (n := n) g4 (EvA.pot (rng_int (ev_var rfl))) (by omega) (fun i σ' G' H' => ∃ m o4 o5 o6 o7 o8, σ' = [some (.ref p), some (.int (n : Int)), some (.int (way : Int)), some (.ref r), o4, o5, o6, o7, o8] ∧ TabM C r as m G' H' ∧ Drawn n m)
      (fun G' H' g' _ => ⟨zeroM n, _, _, _, _, _, rfl, tm.more np g'.kn g'.fr g'.ol, d0⟩) ?_ ?_
    · rintro i σ' G5 H5 hi e5 g5 ⟨m, o4, o5, o6, o7, o8, rfl, tm5, dm5⟩ N hN
      refine s_for (p_forR (n := i + 1) g5 (EvA.pot (rng_int (ev_addI (ev_var (v := .int (i : Int)) rfl) ev_c))) (by omega) (fun j σ' G' H' => ∃ m o6 o7 o8, σ' = [some (.ref p), some (.int (n : Int)), some (.int (way : Int)), some (.ref r), o4, some (.int (i : Int)), o6, o7, o8] ∧ TabM C r as m G' H' ∧ Drawn n m)
        (fun G' H' g' _ => ⟨m, _, _, _, rfl, tm5.more np g'.kn g'.fr g'.ol, dm5⟩) ?_ ?_)
      · rintro j σ' G6 H6 hj e6 g6 ⟨m, o6, o7, o8, rfl, tm6, dm6⟩ N2 hN2
        have isW : ∀ {σ : L2.St} {G' : Hp} (k : Int), σ[2]? = some (some (.int (way : Int))) → EvTQ p (tTest (tOp rEqU (tVar 2) (tC (.int k)))) σ G' fun _ => True := fun k hs => pq_test (Tr.pot (Tr.imp (ev_eqU rfl (ev_var hs) (ev_c (v := .int k))) fun v G' _ h => ⟨_, h, trivial⟩))
        refine p_set (P := someR C 20) g6 (pv_if (C := fun _ => True) (isW 0 rfl) (fun _ => TrP.imp (small_ev (C := C) (k := 6) rfl ev_c (by omega)) fun v G' _ ⟨q, h1, h2⟩ => ⟨q, h1, Nat.le_trans h2 (by decide)⟩) fun _ => mkDraw rfl) fun ov G7 H7 g7' g7 hov => ?_
        have tm7 := tm6.more np g7'.kn g7'.fr g7'.ol
        refine p_ifj (C := fun _ => True) (fun σ' G' H' => ∃ ov, σ' = [some (.ref p), some (.int (n : Int)), some (.int (way : Int)), some (.ref r), o4, some (.int (i : Int)), some (.int (j : Int)), some ov, o8] ∧ someR C 20 ov G' ∧ TabM C r as m G' H' ∧ Ex G6 G') g7
          (pq_and (isW 0 rfl) (fun _ => pq_test (drawEq (n := 16) (i := 0) rfl (by decide) (by decide))) fun _ => trivial) (fun _ H8 g8 e8 N3 hN3 => ?_) (fun _ H8 g8 e8 => ?_) ?_
        · have tm8 := tm7.more np Ex.rfl (fun a h _ => h) e8
          refine p_setz (P := isR C (Rat.divInt 99991 7)) g8 (Tr.pot (ev_mk2 (by decide) ev_c ev_c)) fun ov2 G9 H9 g9' g9 hov2 => ?_
          exact hN3 _ G9 H9 g9 ⟨ov2, rfl, ⟨_, hov2, by decide +kernel⟩, tm8.more np g9'.kn g9'.fr g9'.ol, g7'.kn.trans g9'.kn⟩
        · exact ⟨ov, rfl, hov, tm7.more np Ex.rfl (fun a h _ => h) e8, g7'.kn⟩
        rintro _ G8 H8 g8 ⟨ov2, rfl, hov2, tm8, e68⟩
        refine p_ifj (C := fun _ => True) (fun σ' G' H' => ∃ ov, σ' = [some (.ref p), some (.int (n : Int)), some (.int (way : Int)), some (.ref r), o4, some (.int (i : Int)), some (.int (j : Int)), some ov, o8] ∧ someR C 20 ov G' ∧ TabM C r as m G' H' ∧ Ex G6 G') g8
          (pq_or (C := fun _ => True) (pq_and (C := fun _ => True) (isW 3 rfl) (fun _ => pq_test (drawGt (n := 3) (i := 0) rfl (by decide) (by decide))) fun _ => trivial) (fun _ => pq_and (C := fun _ => True) (isW 2 rfl) (fun _ => pq_test (Tr.pot (Tr.imp (ev_eqU rfl (ev_var (v := .int (i : Int)) rfl) (ev_var (v := .int (j : Int)) rfl)) fun v G' _ h => ⟨_, h, trivial⟩))) fun _ => trivial) fun _ => trivial) (fun _ H9 g9 e9 N3 hN3 => ?_) (fun _ H9 g9 e9 => ?_) ?_
        · have tm9 := tm8.more np Ex.rfl (fun a h _ => h) e9
          refine p_setz (P := isR C ((0 : Int) : Rat)) g9 (Tr.pot (ev_mk1 ev_c)) fun ov3 G10 H10 g10' g10 hov3 => ?_
          exact hN3 _ G10 H10 g10 ⟨ov3, rfl, ⟨_, hov3, by decide⟩, tm9.more np g10'.kn g10'.fr g10'.ol, e68.trans g10'.kn⟩
        · exact ⟨ov2, rfl, hov2, tm8.more np Ex.rfl (fun a h _ => h) e9, e68⟩
        rintro _ G9 H9 g9 ⟨ov3, rfl, ⟨q0, hq0, hqz⟩, tm9, e69⟩
        -- the two entries
        have hi' : i < as.length := by omega
        have hj' : j < as.length := by omega
        have ha : as[i]? = some as[i] := List.getElem?_eq_getElem hi'
        have hb : as[j]? = some as[j] := List.getElem?_eq_getElem hj'
        refine ⟨ov3, rfl, ov3, rfl, by show 2 ≤ 2 ^ 24; decide, fun t ht => ?_⟩
        have gt : Gp p G9 H9 G9 (upd H9 t (.tup [ov3, ov3])) := Gp.of g9.st (Grow.hid g9.st.ex ht)
        have tm10 := tm9.more np Ex.rfl (fun a h _ => h) gt.ol
        refine ⟨t, [ov3, ov3], rfl, SqT.of upd_same, rfl, ov3, [ov3], rfl, ?_⟩
        have row : ∀ {m' : List (List Rat)} {H' : Hp} {k : Nat} {a : Addr}, TabM C r as m' G9 H' → Sq n m' → as[k]? = some a → k < n → ∃ xs, H' a = some (.lst xs) ∧ G9 a = none ∧ All2 (fun x q => isR C q x G9) xs (m'.getD k []) ∧ xs.length = n := fun {m' H' k a} tm hs hk hkn => by
          obtain ⟨z, hz, xs, h1, h2, h3⟩ := tm.rows.get hk
          rw [getD_at hz]
          exact ⟨xs, h1, h2, h3, by rw [h3.len]; exact hs.row z (mem_of_get hz)⟩
        obtain ⟨xs, hx1, hx2, hx3, hx4⟩ := row tm10 dm6.sq ha hi
        refine setTab (r := r) (i := i) (j := j) rfl rfl rfl (gt.st.ex _ _ tm10.out) ha hx1 (by omega) ?_
        have tm11 := tm10.set (i := i) ha (hx3.set j hq0)
        have hsq11 := set_sq dm6.sq (i := i) (j := j) hi q0
        obtain ⟨ys, hy1, hy2, hy3, hy4⟩ := row tm11 hsq11 hb (by omega)
        have hpi : ∀ k, k < as.length → ∀ a, as[k]? = some a → H a = none ∧ a ≠ p := fun k _ a hk => ⟨(hax a (List.mem_of_getElem? hk)).1, np a (List.mem_of_getElem? hk)⟩
        have g11 : Gp p G H G9 (upd (upd H9 t (.tup [ov3, ov3])) as[i] (.lst (xs.set j ov3))) := (g9.trans gt).mut (hpi i hi' _ ha).2 (hpi i hi' _ ha).1 hx2
        refine ⟨ov3, [], rfl, setTab (r := r) (i := j) (j := i) rfl rfl rfl (g11.st.ex _ _ tm11.out) hb hy1 (by omega) ⟨rfl, ?_⟩⟩
        have tm12 := tm11.set (i := j) hb (hy3.set i hq0)
        have g12 := g11.mut (o := .lst (ys.set i ov3)) (hpi j hj' _ hb).2 (hpi j hj' _ hb).1 hy2
        exact hN2 _ G9 _ e69 g12 ⟨set2 m i j q0, _, _, _, rfl, tm12, set2_sq dm6.sq hi (by omega) q0, set2_sym dm6.sq dm6.sym hi (by omega) q0, set2_ents dm6.sq dm6.ents hi (by omega) (Nat.le_trans hqz (pow_le2 (by omega)))⟩
      · rintro σ' G6 H6 e6 g6 ⟨m, o6, o7, o8, rfl, tm6, dm6⟩
        exact hN _ G6 H6 e6 g6 ⟨m, _, _, _, _, _, rfl, tm6, dm6⟩
    · rintro σ' G5 H5 e5 g5 ⟨m, o4, o5, o6, o7, o8, rfl, tm5, dm5⟩
      obtain ⟨G6, g6, e6, hm6⟩ := seeTab g5 tm5 fun a ha => ⟨(hax a ha).1, np a ha⟩
      exact p_ret g6 (Tr.pot (ev_slot (i := 3) rfl hm6)) fun v' G7 H7 _ g7 ev => q v' G7 H7 g7 ⟨m, ev, dm5⟩
end
end On
set_option linter.all false
/-! The law's determinant, as a reckoning. -/
namespace On
def cutCol (m : List (List Rat)) (a : Nat) : List (List Rat) := (m.drop 1).map fun row => row.take a ++ row.drop (a + 1)
/-- found, sign behind the entries of the first row -/
def detStep (d : List (List Rat) → Rat) (m : List (List Rat)) (s : Rat × Int) (z : Rat × Nat) : Rat × Int := (if nz z.1 then s.1 + d (cutCol m z.2) * z.1 * (s.2 : Rat) else s.1, 0 - s.2)
def detN : Nat → List (List Rat) → Rat
  | 0, _ => 1
  | n + 1, m => ((m.getD 0 []).zipIdx.foldl (detStep (detN n) m) (0, 1)).1
def det (m : List (List Rat)) : Rat := detN m.length m
/-- the exponents -/
def detE (e : Nat) : Nat → Nat
  | 0 => 1
  | n + 1 => (n + 1) * (detE e n + e + 1)
theorem cutCol_sq {n a : Nat} {m : List (List Rat)} (h : Sq (n + 1) m) (ha : a < n + 1) : Sq n (cutCol m a) := by
  refine ⟨by unfold cutCol; rw [List.length_map, List.length_drop, h.len]; rfl, fun r hr => ?_⟩
  unfold cutCol at hr
  obtain ⟨row, hrow, rfl⟩ := List.mem_map.mp hr
  have := h.row row (List.mem_of_mem_drop hrow)
  rw [List.length_append, List.length_take, List.length_drop]
  omega
theorem cutCol_ents {n a e : Nat} {m : List (List Rat)} (h : Sq (n + 1) m) (hen : Ents (n + 1) e m) (ha : a < n + 1) : Ents n e (cutCol m a) := by
  refine ⟨(cutCol_sq h ha).row, fun r hr q hq => ?_⟩
  unfold cutCol at hr
  obtain ⟨row, hrow, rfl⟩ := List.mem_map.mp hr
  rcases List.mem_append.mp hq with hq | hq
  · exact hen.le row (List.mem_of_mem_drop hrow) q (List.mem_of_mem_take hq)
  · exact hen.le row (List.mem_of_mem_drop hrow) q (List.mem_of_mem_drop hq)
/-- the state of the loop: found below, the sign 1 or -1 -/
def DetSt (D : Nat) (k : Nat) (s : Rat × Int) : Prop := sz s.1 ≤ 2 ^ (k * D) ∧ (s.2 = 1 ∨ s.2 = -1)
theorem sign_sz {i : Int} (h : i = 1 ∨ i = -1) : sz (i : Rat) ≤ 2 ^ 1 := by
  rcases h with rfl | rfl <;> decide
theorem detStep_st {d : List (List Rat) → Rat} {m : List (List Rat)} {E e k : Nat} {s : Rat × Int} {z : Rat × Nat} (hs : DetSt (E + e + 1) k s) (hd : sz (d (cutCol m z.2)) ≤ 2 ^ E) (hz : sz z.1 ≤ 2 ^ e) : DetSt (E + e + 1) (k + 1) (detStep d m s z) := by
  refine ⟨?_, by rcases hs.2 with h | h <;> · show 0 - s.2 = 1 ∨ 0 - s.2 = -1; omega⟩
  show sz (if nz z.1 = true then s.1 + d (cutCol m z.2) * z.1 * (s.2 : Rat) else s.1) ≤ _
  rw [Nat.add_mul, Nat.one_mul, Nat.pow_add]
  split
  · refine Nat.le_trans (sz_add _ _) (Nat.mul_le_mul hs.1 ?_)
    rw [Nat.pow_add, Nat.pow_add]
    exact Nat.le_trans (sz_mul _ _) (Nat.mul_le_mul (Nat.le_trans (sz_mul _ _) (Nat.mul_le_mul hd hz)) (sign_sz hs.2))
  · exact Nat.le_trans hs.1 (Nat.le_mul_of_pos_right _ (Nat.pow_pos (by decide)))
theorem detFold {d : List (List Rat) → Rat} {m : List (List Rat)} {E e : Nat} : ∀ {l : List (Rat × Nat)} {k : Nat} {s : Rat × Int}, DetSt (E + e + 1) k s → (∀ z ∈ l, sz (d (cutCol m z.2)) ≤ 2 ^ E ∧ sz z.1 ≤ 2 ^ e) → DetSt (E + e + 1) (k + l.length) (l.foldl (detStep d m) s)
  | [], k, s, h, _ => h
  | z :: l, k, s, h, hl => by
    obtain ⟨h1, h2⟩ := hl z List.mem_cons_self
    have := detFold (detStep_st h h1 h2) fun z hz => hl z (List.mem_cons_of_mem _ hz)
    rw [List.length_cons, show k + (l.length + 1) = k + 1 + l.length from by omega]
    exact this
theorem detSt0 (D : Nat) : DetSt D 0 (0, 1) := ⟨by rw [Nat.zero_mul]; exact Nat.le_of_eq sz_zero, .inl rfl⟩
theorem detN_sz {e : Nat} : ∀ {n : Nat} {m : List (List Rat)}, Sq n m → Ents n e m → sz (detN n m) ≤ 2 ^ detE e n
  | 0, m, _, _ => Nat.le_of_eq sz_one
  | n + 1, m, h, hen => by
    have h0 : (m.getD 0 []).length = n + 1 := h.rowLen (Nat.succ_pos n)
    have := detFold (d := detN n) (m := m) (E := detE e n) (e := e) (l := (m.getD 0 []).zipIdx) (detSt0 _) fun z hz => by
      obtain ⟨q, i⟩ := z
      have hi := List.mem_zipIdx hz
      have hm : q ∈ m.getD 0 [] := by
        have := hi.2.2
        rw [this]
        exact List.getElem_mem _
      exact ⟨detN_sz (cutCol_sq h (by omega)) (cutCol_ents h hen (by omega)), row_le hen (by rw [h.len]; omega) q hm⟩
    rw [Nat.zero_add, List.length_zipIdx, h0] at this
    exact this.1
theorem det_sz {n e : Nat} {m : List (List Rat)} (h : Sq n m) (hen : Ents n e m) : sz (det m) ≤ 2 ^ detE e n := by
  unfold det
  rw [h.len]
  exact detN_sz h hen
end On
set_option linter.all false
/-! Sums of minors, changes of sign, as a reckoning. -/
namespace On
def chStep (some : Nat) (found : List (List Nat)) (number : Nat) : List (List Nat) := found ++ (found.filter fun o => decide (o.length < some)).map fun o => o ++ [number]
def chFrom (some many : Nat) : List (List Nat) := (List.range many).foldl (chStep some) [[]]
def choices (many some : Nat) : List (List Nat) := (chFrom some many).filter fun o => decide (o.length = some)
def subOf (m : List (List Rat)) (ps : List Nat) : List (List Rat) := ps.map fun i => ps.map fun j => at2 m i j
def minor (m : List (List Rat)) (ps : List Nat) : Rat := det (subOf m ps)
def sumOf (m : List (List Rat)) (k : Nat) : Rat := total ((choices m.length k).map (minor m))
def sumsOf (m : List (List Rat)) : List Rat := (List.range (m.length + 1)).map (sumOf m)
def changes (l : List Rat) : Nat := ((((l.filter nz).map sgn).zip (((l.filter nz).map sgn).drop 1)).filter fun z => !decide (z.1 = z.2)).length
def altern (l : List Rat) : List Rat := l.zipIdx.map fun z => if (z.2 : Int) % 2 = 0 then z.1 else -z.1
def aboveOf (m : List (List Rat)) : Nat := changes (altern (sumsOf m))
theorem chFrom_succ (some many : Nat) : chFrom some (many + 1) = chStep some (chFrom some many) many := by
  unfold chFrom
  rw [List.range_succ, List.foldl_append]
  rfl
theorem chFrom_len (some : Nat) : ∀ many, (chFrom some many).length ≤ 2 ^ many
  | 0 => Nat.le_refl _
  | many + 1 => by
    rw [chFrom_succ]
    unfold chStep
    rw [List.length_append, List.length_map]
    have h1 := chFrom_len some many
    have h2 := List.length_filter_le (fun o : List Nat => decide (o.length < some)) (chFrom some many)
    rw [Nat.pow_succ]
    omega
theorem chFrom_ok (some : Nat) : ∀ many, ∀ o ∈ chFrom some many, o.length ≤ many ∧ ∀ i ∈ o, i < many
  | 0, o, h => by
    have : o = [] := by simpa [chFrom] using h
    subst this
    exact ⟨Nat.le_refl _, fun _ h => (nomatch h)⟩
  | many + 1, o, h => by
    rw [chFrom_succ] at h
    unfold chStep at h
    rcases List.mem_append.mp h with h | h
    · obtain ⟨h1, h2⟩ := chFrom_ok some many o h
      exact ⟨by omega, fun i hi => Nat.lt_succ_of_lt (h2 i hi)⟩
    · obtain ⟨o', ho', rfl⟩ := List.mem_map.mp h
      obtain ⟨h1, h2⟩ := chFrom_ok some many o' (List.mem_filter.mp ho').1
      refine ⟨by rw [List.length_append, List.length_singleton]; omega, fun i hi => ?_⟩
      rcases List.mem_append.mp hi with hi | hi
      · exact Nat.lt_succ_of_lt (h2 i hi)
      · rw [List.mem_singleton.mp hi]; exact Nat.lt_succ_self _
theorem choices_ok {many some : Nat} {o : List Nat} (h : o ∈ choices many some) : o.length = some ∧ o.length ≤ many ∧ ∀ i ∈ o, i < many := by
  unfold choices at h
  obtain ⟨h1, h2⟩ := List.mem_filter.mp h
  obtain ⟨h3, h4⟩ := chFrom_ok some many o h1
  exact ⟨of_decide_eq_true h2, h3, h4⟩
theorem choices_len (many some : Nat) : (choices many some).length ≤ 2 ^ many := Nat.le_trans (List.length_filter_le _ _) (chFrom_len some many)
theorem subOf_sq (m : List (List Rat)) (ps : List Nat) : Sq ps.length (subOf m ps) := ⟨by unfold subOf; rw [List.length_map], fun r hr => by
  obtain ⟨i, _, rfl⟩ := List.mem_map.mp hr
  rw [List.length_map]⟩
theorem subOf_ents {n e : Nat} {m : List (List Rat)} (hen : Ents n e m) (ps : List Nat) : Ents ps.length e (subOf m ps) := ⟨(subOf_sq m ps).row, fun r hr q hq => by
  obtain ⟨i, _, rfl⟩ := List.mem_map.mp hr
  obtain ⟨j, _, rfl⟩ := List.mem_map.mp hq
  exact at2_le hen i j⟩
theorem detE_le {e k : Nat} (hk : k ≤ 4) : detE e k ≤ 64 * (e + 2) := by
  match k, hk with
  | 0, _ => show 1 ≤ _; omega
  | 1, _ => show (0 + 1) * (1 + e + 1) ≤ _; omega
  | 2, _ => show (1 + 1) * ((0 + 1) * (1 + e + 1) + e + 1) ≤ _; omega
  | 3, _ => show (2 + 1) * ((1 + 1) * ((0 + 1) * (1 + e + 1) + e + 1) + e + 1) ≤ _; omega
  | 4, _ => show (3 + 1) * ((2 + 1) * ((1 + 1) * ((0 + 1) * (1 + e + 1) + e + 1) + e + 1) + e + 1) ≤ _; omega
theorem minor_sz {n e : Nat} {m : List (List Rat)} (hen : Ents n e m) {ps : List Nat} (hp : ps.length ≤ 4) : sz (minor m ps) ≤ 2 ^ (64 * (e + 2)) :=
  Nat.le_trans (det_sz (subOf_sq m ps) (subOf_ents hen ps)) (pow_le2 (detE_le hp))
theorem minors_sz {n e k : Nat} {m : List (List Rat)} (hen : Ents n e m) (hn : m.length ≤ 4) : szL ((choices m.length k).map (minor m)) ≤ 2 ^ (16 * (64 * (e + 2))) := by
  refine Nat.le_trans (szL_le (b := 64 * (e + 2)) fun q hq => ?_) (pow_le2 (Nat.mul_le_mul_right _ ?_))
  · obtain ⟨ps, hps, rfl⟩ := List.mem_map.mp hq
    exact minor_sz hen (by have := (choices_ok hps).2.1; omega)
  · rw [List.length_map]
    refine Nat.le_trans (choices_len _ _) ?_
    calc 2 ^ m.length ≤ 2 ^ 4 := pow_le2 hn
      _ = 16 := rfl
end On
set_option Elab.async false
set_option linter.all false
set_option maxRecDepth 100000
set_option maxHeartbeats 4000000
/-! _law_determinant. -/
namespace On
open PySem PySem.Spec PyProof.Rows L2
section
variable {P : Program} {w : World} {K : PySem.W.Frag} {mg : Str → Option Value} {base : Heap} {C : Addr}
def spDet (C : Addr) : Nat → Sp
  | 0 => fun _ _ _ _ => False
  | n + 1 => Pu (γ := List (List Rat)) (fun m vs H => ∃ v, vs = [v] ∧ (isMat C m v H ∧ ∃ k e, k ≤ n ∧ k ≤ 4 ∧ Sq k m ∧ Ents k e m ∧ e ≤ 1000)) fun m _ v G => isR C (det m) v G
theorem det_tr {n : Nat} {vs : List V} {H : Hp} {E : XK} {m : List (List Rat)} (h : ∃ v, vs = [v] ∧ (isMat C m v H ∧ ∃ k e, k ≤ n ∧ k ≤ 4 ∧ Sq k m ∧ Ents k e m ∧ e ≤ 1000)) : Tr (fun H1 Q => spDet C (n + 1) vs H1 Q E) H (isR C (det m)) := fun H1 e Q q => ⟨m, H, e, h, q⟩
theorem len_det {n : Nat} : ∀ vs H Q E, spDet C n vs H Q E → vs.length = 1 := match n with
  | 0 => fun _ _ _ _ h => h.elim
  | _ + 1 => len_1
theorem c_det_n (T : Txt P w K mg base C) : ∀ n, C8.Cal P w K mg base (41 + n) "_law_determinant" (spDet C n) []
  | 0 => by
    obtain ⟨f, fd, F, hm⟩ := T.d_law_determinant.ex
    exact ⟨f, fd, ["_law_rows"], [], F.ok sc_law_determinant len_det fun cdv A outer s H vs Q E hr h => h.elim, hm, F.kp, F.bindsN (fun _ _ _ _ _ _ us hl => match us, hl with | [_], _ => rfl), .nil⟩
  | n + 1 => by
    have c__law_determinant : Txt P w K mg base C → C8.Cal P w K mg base (41 + n) "_law_determinant" (spDet C n) [] := fun _ => c_det_n T n
    refine cal_by T.d_law_determinant sc_law_determinant (fun _ _ _ _ _ _ us hl => match us, hl with | [_], _ => rfl) len_det fun f cdv A outer s H vs Q E hr h => ?_
    obtain ⟨m, G, e, ⟨v, rfl, hv, k, ee, hkn, hk4, hs, hen, he⟩, q⟩ := h
    have hL : ∀ x : Nat, x ≤ 100000000 → x + 2 ≤ LIM := fun x hx => by show x + 2 ≤ 130000000; omega
    have hml := hs.len
    have hr : Room (41 + n) (A.deeper (envOfC "_law_determinant" (defScope s_law_determinant) s.heap.objs.size f cdv)) := hr
    refine ⟨_, (pss_cons (ps_if (pt_cmpR (cmEq T hr (by omega)) (pe_callB (r := rLen K) call_len_lt (by rfl) T.n_len bo_len (pa_cons (pv 0) pa_nil)) pe_int (nomark _)) (pss_one (ps_ret (C8.pe_mk (k_ratio1 T) hr (by omega) rfl (pa_cons pe_int pa_nil)))) pss_nil) (pss_cons (ps_par (i := 1) (j := 2) rfl sc_law_determinant.nd rfl rfl (by decide) rfl rfl (pa_cons (C8.pe_mk (k_ratio1 T) hr (by omega) rfl (pa_cons pe_int pa_nil)) (pa_cons pe_int pa_nil)) (by rfl)) (pss_cons (ps_for PassesOwn.never rfl (pi_enum (by rfl) T.n_enumerate (pa_cons (pe_ix (r := rIxLT K) ix_lt (pv 0) pe_int (fun _ _ => rfl)) pa_nil)) (pg_tup rfl (pgs_cons (pg_name (i := 3) sc_law_determinant.nd rfl (by first | exact Or.inl rfl | exact Or.inr rfl)) (pgs_cons (pg_name (i := 4) sc_law_determinant.nd rfl (by first | exact Or.inl rfl | exact Or.inr rfl)) pgs_nil))) (pss_cons (ps_if (pt_cmpR (cmNe T hr (by omega)) (pe_pp (p_sign T) hr (by omega) (pv 4) rfl) pe_int (nomark _)) (pss_one (ps_set (i := 1) sc_law_determinant.nd rfl (by first | exact Or.inl rfl | exact Or.inr rfl) (pe_op (opAdd T hr (by omega)) (pv 1) (pe_op (opMul T hr (by omega)) (pe_op (opMul T hr (by omega)) (C8.pe_c (c__law_determinant T) hr (by omega) rfl (pa_cons (pe_lc (own := [("_law_row", 5)]) (g := gName 5) (tt := tYes) rfl sc_law_determinant.nd (pi_list (pe_slice (r := rSlL K) sl_list (pv 0) (po_some pe_int) po_none)) (blkOk_by (own := [("_law_row", 5)]) (by kernel_rfl)) (fun _ _ _ _ _ => (pg_name (i := 5) sc_law_determinant.nd rfl (by first | exact Or.inl rfl | exact Or.inr rfl))) (fun _ _ _ _ _ => pts_nil) (fun _ _ _ _ _ => (pe_op (opAdd T hr (by omega)) (pe_slice (r := rSlL K) sl_list (pv 5) po_none (po_some (pv 3))) (pe_slice (r := rSlL K) sl_list (pv 5) (po_some (pe_op (opAdd T hr (by omega)) (pv 3) pe_int)) po_none)))) pa_nil)) (pv 4)) (pv 2))))) pss_nil) (pss_one (ps_set (i := 2) sc_law_determinant.nd rfl (by first | exact Or.inl rfl | exact Or.inr rfl) (pe_op (opSub T hr (by omega)) pe_int (pv 2)))))) (pss_one (ps_ret (pv 1)))))), ?_⟩
    have ht : EvT (tTest (tOp rEqU (tCB (rLen K) (tCons (tVar 0) tNil)) (tC (.int 0)))) (L2.start N_law_determinant [v]) G (decide (k = 0)) := EvT.is (et_test (ev_eqU rfl (ev_lenL (ev_slot rfl hv)) ev_c)) (by
      rw [vint_eq, hml]
      exact decide_eq_decide.mpr (by omega))
    refine q_if (Grow.rfl e) ht (fun hb H1 g1 => ?_) (fun hb H1 g1 => ?_)
    · refine s_ret g1 (ev_mk1 (a := 1) ev_c) fun v' G2 H2 g2 p => q v' G2 H2 g2 ?_
      show isR C (det m) v' G2
      unfold det
      rw [hml, of_decide_eq_true hb]
      exact p
    · have hk0 : k ≠ 0 := of_decide_eq_false hb
      obtain ⟨k, rfl⟩ : ∃ k', k = k' + 1 := ⟨k - 1, by omega⟩
      obtain ⟨n, rfl⟩ : ∃ n', n = n' + 1 := ⟨n - 1, by omega⟩
      unfold tNext
      dsimp only
      have h0 : (m.getD 0 []).length = k + 1 := hs.rowLen (Nat.succ_pos k)
      refine t_par (R := isR C) (S := fun (i : Int) => isV (.int i)) (x := ((0 : Int) : Rat)) (y := 1) up_isR up_int g1 (ev_mk1 ev_c) ev_c ?_
      rintro fv _ G2 H2 e2 g2 hfv rfl
      have hE := detE_le (e := ee) (k := k) (by omega)
      have hrow := row_le hen (i := 0) (by omega)
      refine q_forE up_isR g2 (ea_1 (ev_rowsOf hs (Nat.succ_pos k) (ev_slot rfl (up_mat _ _ _ _ g2.kn hv)) (ev_c (v := .int 0)))) (fun i σ' G' H' => ∃ fv o3 o4 o5, ∃ st : Rat × Int, σ' = [some v, some fv, some (.int st.2), o3, o4, o5] ∧ isR C st.1 fv G' ∧ st = ((m.getD 0 []).zipIdx.take i).foldl (detStep (detN k) m) (0, 1)) (fun G' H' e' _ _ => ⟨fv, _, _, _, (0, 1), rfl, up_isR _ _ _ _ e' hfv, rfl⟩) ?_ ?_
      · rintro i z x σ' G3 H3 H3' hz hx e3 g3 ⟨fv', o3, o4, o5, st, rfl, hfv', hst⟩ e3' g3' N hN
        have hi : i < k + 1 := by
          have := (List.getElem?_eq_some_iff.mp hz).1
          omega
        have hzi : (m.getD 0 []).zipIdx[i]? = some (z, i) := by rw [List.getElem?_zipIdx, hz]; simp
        have hnext : ((m.getD 0 []).zipIdx.take (i + 1)).foldl (detStep (detN k) m) (0, 1) = detStep (detN k) m st (z, i) := by
          rw [take_snoc hzi, List.foldl_append, ← hst]
          rfl
        have hsz : DetSt (detE ee k + ee + 1) i st := by
          have := detFold (d := detN k) (m := m) (E := detE ee k) (e := ee) (l := (m.getD 0 []).zipIdx.take i) (detSt0 _) fun z hz => by
            obtain ⟨q, i'⟩ := z
            have hi' := List.mem_zipIdx (List.mem_of_mem_take hz)
            have hm : q ∈ m.getD 0 [] := by
              rw [hi'.2.2]
              exact List.getElem_mem _
            exact ⟨detN_sz (cutCol_sq hs (by omega)) (cutCol_ents hs hen (by omega)), hrow q hm⟩
          rw [← hst, Nat.zero_add, List.length_take, List.length_zipIdx, h0, Nat.min_eq_left (by omega)] at this
          exact this
        have hzz : sz z ≤ 2 ^ ee := hrow z (mem_of_get hz)
        have hD : sz (detN k (cutCol m i)) ≤ 2 ^ detE ee k := detN_sz (cutCol_sq hs hi) (cutCol_ents hs hen hi)
        have hv3 := up_mat _ _ _ _ (g2.kn.trans e3) hv
        have hcutl : (cutCol m i).length = k := (cutCol_sq hs hi).len
        have hdet : Ev (tCall (spDet C (n + 1)) [] E0 (tCons (tLc (iList K (tSl (rSlL K) (tVar 0) (tPart (tC (.int 1))) tNoPart)) (gName 5) tYes (tOp (rAddU C) (tSl (rSlL K) (tVar 5) tNoPart (tPart (tVar 3))) (tSl (rSlL K) (tVar 5) (tPart (tOp (rAddU C) (tVar 3) (tC (.int 1)))) tNoPart)) [5]) tNil)) [some v, some fv', some (.int st.2), some (.int (i : Int)), some x, o5] G3 (isR C (detN k (cutCol m i))) := by
          refine ev_call (PA := fun vs G => ∃ v, vs = [v] ∧ isMat C (cutCol m i) v G) (ea_1 ?_) fun vs G' e' ⟨v', ev, hv'⟩ => Tr.imp (det_tr (n := n) ⟨v', ev, hv', k, ee, by omega, by omega, cutCol_sq hs hi, cutCol_ents hs hen hi, he⟩) fun v'' G'' _ h => by
            have h' : isR C (det (cutCol m i)) v'' G'' := h
            unfold det at h'
            rw [hcutl] at h'
            exact h'
          have c1 : cut m (some 1) none = m.drop 1 := cut_from m 1
          unfold cutCol
          rw [← c1]
          refine (ev_lc (f := fun row : List Rat => row.take i ++ row.drop (i + 1)) up_row (by rw [c1, List.length_drop]; omega) (src_list (K := K) up_row (ev_sl up_row (ev_slot rfl hv3) (eo_some ev_c) eo_none).old (fun _ => rfl) fun a row rv G4 hrow e4 hr => ⟨et_yes, fun _ => ?_⟩)).old
          have hl : row.length = k + 1 := by
            rw [c1] at hrow
            exact hs.row row (List.mem_of_mem_drop (mem_of_get hrow))
          have c2 : cut row (some ((i : Int) + 1)) none = row.drop (i + 1) := cut_from row (i + 1)
          rw [← cut_to row i, ← c2]
          refine (ev_cat up_isR ?_ (ev_sl up_isR (ev_slot rfl hr) eo_none (eo_some (ev_var (v := .int (i : Int)) rfl))).old (ev_sl up_isR (ev_slot rfl hr) (eo_some (ev_addI (ev_var (v := .int (i : Int)) rfl) ev_c)) eo_none).old).old
          rw [cut_to, c2, List.length_take, List.length_drop]
          omega
        have hk1 : (k + 1) ≤ 4 := hk4
        have hsum : i * (detE ee k + ee + 1) ≤ 4 * (detE ee k + ee + 1) := Nat.mul_le_mul_right _ (by omega)
        have m1 : sz (detN k (cutCol m i) * z) ≤ 2 ^ (detE ee k + ee) := Nat.le_trans (sz_mul _ _) (by rw [Nat.pow_add]; exact Nat.mul_le_mul hD hzz)
        have m2 : sz (detN k (cutCol m i) * z * (st.2 : Rat)) ≤ 2 ^ (detE ee k + ee + 1) := Nat.le_trans (sz_mul _ _) (by rw [Nat.pow_add 2 (detE ee k + ee)]; exact Nat.mul_le_mul m1 (sign_sz hsz.2))
        have fin : ∀ {σ2 : L2.St} {fv2 : V} {G4 H4 : Hp}, σ2 = [some v, some fv2, some (.int st.2), some (.int (i : Int)), some x, o5] → isR C (if nz z then st.1 + detN k (cutCol m i) * z * (st.2 : Rat) else st.1) fv2 G4 → Ex G3 G4 → Grow G H G4 H4 → tAsg (tOp (rSubU C) (tC (.int 0)) (tVar 2)) (gName 2) { nx := N, rt := Q, ct := N, bk := tRet (tVar 1) { nx := fun _ H' => Q .non H', rt := Q } } σ2 H4 := fun {σ2 fv2 G4 H4} hσ hf e4 g4 => by
          subst hσ
          refine z_set (P := isV (.int (0 - st.2))) g4 (ev_subI ev_c (ev_var (v := .int st.2) rfl)) ?_
          rintro _ G5 H5 e5 g5 rfl
          exact hN _ G5 H5 (e4.trans e5) g5 ⟨fv2, _, _, _, detStep (detN k) m st (z, i), rfl, up_isR _ _ _ _ e5 hf, hnext.symm⟩
        refine q_if (b := nz z) g3' (EvT.is (et_test (ev_neU rfl (ev_prop (ev_slot rfl hx)) ev_c)) (nz_sgn z)) (fun hb H4 g4 => ?_) (fun hb H4 g4 => ?_)
        · refine z_set (P := isR C (st.1 + detN k (cutCol m i) * z * (st.2 : Rat))) g4 (ev_addR (ev_slot rfl hfv') (ev_mulN (ev_mulR hdet (ev_slot rfl hx) (Fits.ok2 (fitsE (n := detE ee k + ee) (hL _ (by omega)) (by rw [Nat.pow_add]; exact Nat.mul_le_mul hD hzz)))) (Tr.imp (ev_var (v := .int st.2) rfl) fun _ _ _ h => .inl ⟨_, h, rfl⟩) (Fits.ok2 (fitsE (n := detE ee k + ee + 1) (hL _ (by omega)) (by rw [Nat.pow_add 2 (detE ee k + ee)]; exact Nat.mul_le_mul m1 (sign_sz hsz.2))))) (Fits.ok2 (fitsE (n := i * (detE ee k + ee + 1) + (detE ee k + ee + 1)) (hL _ (by omega)) (by rw [Nat.pow_add]; exact Nat.mul_le_mul hsz.1 m2)))) fun fv2 G5 H5 e5 g5 hf2 => ?_
          exact fin rfl (by rw [if_pos hb]; exact hf2) e5 g5
        · exact fin rfl (by rw [if_neg (by rw [hb]; decide)]; exact hfv') Ex.rfl g4
      · rintro σ' G3 H3 e3 g3 ⟨fv', o3, o4, o5, st, rfl, hfv', hst⟩
        refine s_ret g3 (ev_slot rfl hfv') fun v' G4 H4 g4 p => q v' G4 H4 g4 ?_
        show isR C (det m) v' G4
        unfold det
        rw [hml]
        show isR C ((m.getD 0 []).zipIdx.foldl (detStep (detN k) m) (0, 1)).1 v' G4
        rw [List.take_of_length_le (by rw [List.length_zipIdx]; exact Nat.le_refl _)] at hst
        rw [← hst]
        exact p
theorem c__law_determinant (T : Txt P w K mg base C) : C8.Cal P w K mg base 46 "_law_determinant" (spDet C 5) [] := c_det_n T 5
theorem det_ev {σ : L2.St} {G : Hp} {ta : TE} {m : List (List Rat)} {k e : Nat} (h : Ev ta σ G (isMat C m)) (hk : k ≤ 4) (hs : Sq k m) (hen : Ents k e m) (he : e ≤ 1000) : Ev (tCall (spDet C 5) [] E0 (tCons ta tNil)) σ G (isR C (det m)) :=
  ev_call (PA := fun vs G => ∃ v, vs = [v] ∧ isMat C m v G) (ea_1 h) fun vs G' e ⟨v, ev, hv⟩ => det_tr (n := 4) ⟨v, ev, hv, k, _, hk, hk, hs, hen, he⟩
end
end On
set_option Elab.async false
set_option linter.all false
set_option maxRecDepth 100000
set_option maxHeartbeats 4000000
/-! _law_choices, _law_minor, _law_sums, _law_changes, _law_signs. -/
namespace On
open PySem PySem.Spec PyProof.Rows L2
section
variable {σ : L2.St} {G0 H1 G H : Hp} {ta : TA} {D : Ends} {tb tz : TS}
/-- for i in range(n); what stands unknown stays so -/
theorem q_forRy {n : Nat} {j : Nat} (gr : Grow G0 H1 G H) (h : EvA ta σ G fun vs _ => vs = [.int (n : Int)]) (hn : n ≤ 100000) (I : Nat → L2.St → Hp → Hp → Prop) (i0 : ∀ G' H', Grow G H G' H' → Grow G0 H1 G' H' → I 0 σ G' H')
    (hs : ∀ (i : Nat) σ' G' H', i < n → Ex G G' → Grow G0 H1 G' H' → I i σ' G' H' → ∀ N : L2.St → Hp → Prop, (∀ σ3 G3 H3, Ex G' G3 → Grow G0 H1 G3 H3 → I (i + 1) σ3 G3 H3 → N σ3 H3) → tb { D with nx := N, ct := N, bk := tz D } (σ'.set j (some (.int (i : Int)))) H')
    (hd : ∀ σ' G' H', Ex G G' → Grow G0 H1 G' H' → I n σ' G' H' → tz D σ' H') : tSeq (tFor (iRng1 ta) (gName j) tb) tz D σ H :=
  h H gr.re _ fun ws Gs Hs g1 ew => by
    refine ⟨(n : Int), ew, by omega, by omega, ?_⟩
    refine for_it (D := { D with nx := tz D }) (walk_range (lo := 0) (n := n)) (fun i σ' H' => ∃ G', Ex Gs G' ∧ Grow G0 H1 G' H' ∧ I i σ' G' H') ⟨Gs, Ex.rfl, gr.trans g1, i0 Gs Hs g1 (gr.trans g1)⟩ (fun _ _ _ _ _ => trivial) ?_ ?_
    · rintro i x σ' H' H'' hi ⟨G', e, g', iv⟩ hy
      obtain ⟨e2, hx⟩ := hy
      subst e2
      subst hx
      have e0 : (0 : Int) + (i : Int) = (i : Int) := Int.zero_add _
      show gName j (V.int (0 + (i : Int))) σ' _ _
      rw [e0]
      exact hs i σ' G' _ hi (g1.kn.trans e) g' iv _ fun σ3 G3 H3 e3 g3 i3 => ⟨G3, e.trans e3, g3, i3⟩
    · rintro σ' H' ⟨G', e, g', iv⟩
      exact hd σ' G' H' (g1.kn.trans e) g' iv
end
section
variable {P : Program} {w : World} {K : PySem.W.Frag} {mg : Str → Option Value} {base : Heap} {C : Addr}
abbrev isNats : List Nat → V → Hp → Prop := lstOf isNat
theorem up_nats : Up isNats := up_lst up_nat
def spChoices : Sp := Pu (γ := Nat × Nat) (fun g vs H => ∃ v w, vs = [v, w] ∧ (v = .int (g.1 : Int) ∧ w = .int (g.2 : Int) ∧ g.1 ≤ 4)) fun g _ v G => lstOf isNats (choices g.1 g.2) v G
theorem c__law_choices (T : Txt P w K mg base C) : C8.Cal P w K mg base 41 "_law_choices" spChoices [] := by
  refine cal_by T.d_law_choices sc_law_choices (fun _ _ _ _ _ _ us hl => match us, hl with | [_, _], _ => rfl) len_2 fun f cdv A outer s H vs Q E hr h => ?_
  obtain ⟨⟨many, some'⟩, G, e, ⟨_, _, rfl, rfl, rfl, h4⟩, q⟩ := h
  have h4 : many ≤ 4 := h4
  have hpow : ∀ i, i ≤ 4 → 2 ^ i ≤ 16 := fun i hi => Nat.le_trans (pow_le2 hi) (by decide)
  refine ⟨_, (pss_cons (ps_set (i := 2) sc_law_choices.nd rfl (by first | exact Or.inl rfl | exact Or.inr rfl) (pe_lst (pa_cons (pe_lst pa_nil) pa_nil))) (pss_cons (ps_for PassesOwn.never rfl (pi_range1 rfl T.n_range (pa_cons (pv 0) pa_nil)) (pg_name (i := 3) sc_law_choices.nd rfl (by first | exact Or.inl rfl | exact Or.inr rfl)) (pss_one (ps_set (i := 2) sc_law_choices.nd rfl (by first | exact Or.inl rfl | exact Or.inr rfl) (pe_op (opAdd T hr (by decide)) (pv 2) (pe_lc (own := [("_law_one", 4)]) (g := gName 4) (tt := _) rfl sc_law_choices.nd (pi_list (pv 2)) (blkOk_by (own := [("_law_one", 4)]) (by kernel_rfl)) (fun _ _ _ _ _ => (pg_name (i := 4) sc_law_choices.nd rfl (by first | exact Or.inl rfl | exact Or.inr rfl))) (fun _ _ _ _ _ => (pts_one (pt_cmpR op_lt (pe_callB (r := rLen K) call_len_lt (by rfl) T.n_len bo_len (pa_cons (pv 4) pa_nil)) (pv 1) (nomark _)))) (fun _ _ _ _ _ => (pe_op (opAdd T hr (by decide)) (pv 4) (pe_lst (pa_cons (pv 3) pa_nil))))))))) (pss_one (ps_ret (pe_lc (own := [("_law_one", 4)]) (g := gName 4) (tt := _) rfl sc_law_choices.nd (pi_list (pv 2)) (blkOk_by (own := [("_law_one", 4)]) (by kernel_rfl)) (fun _ _ _ _ _ => (pg_name (i := 4) sc_law_choices.nd rfl (by first | exact Or.inl rfl | exact Or.inr rfl))) (fun _ _ _ _ _ => (pts_one (pt_cmpR (cmEq T hr (by decide)) (pe_callB (r := rLen K) call_len_lt (by rfl) T.n_len bo_len (pa_cons (pv 4) pa_nil)) (pv 1) (nomark _)))) (fun _ _ _ _ _ => (pv 4))))))), ?_⟩
  refine t_set (P := lstOf isNats (chFrom some' 0)) (Grow.rfl e) (ev_lst up_nats (zs := [[]]) (by show 1 ≤ 100000; omega) (ea_consR up_nats (ev_lst up_nat (zs := []) (Nat.zero_le _) ea_nilR).old ea_nilR)).old fun fv G1 H1 e1 g1 hfv => ?_
  refine q_forR (n := many) g1 (rng_int (ev_var rfl)) (by omega) (fun i σ G' _ => ∃ fv o3 o4, σ = [some (.int (many : Int)), some (.int (some' : Int)), some fv, o3, o4] ∧ lstOf isNats (chFrom some' i) fv G') (fun G' H' e' _ _ => ⟨fv, _, _, rfl, up_lst up_nats _ _ _ _ e' hfv⟩) ?_ ?_
  · rintro i σ G2 H2 hi e2 g2 ⟨fv', o3, o4, rfl, hfv'⟩ N hN
    have hlen := chFrom_len some' i
    have hp := hpow i (by omega)
    have hfl := List.length_filter_le (fun o : List Nat => decide (o.length < some')) (chFrom some' i)
    refine z_set (P := lstOf isNats (chFrom some' (i + 1))) g2 ?_ fun v' G3 H3 e3 g3 hv => hN _ G3 H3 e3 g3 ⟨v', _, _, rfl, hv⟩
    rw [chFrom_succ]
    refine (ev_cat up_nats (by rw [List.length_map]; omega) (ev_slot rfl hfv') (ev_lcG (f := fun o : List Nat => o ++ [i]) (keep := fun o : List Nat => decide (o.length < some')) up_nats (by omega) (src_list (K := K) up_nats (ev_slot rfl hfv') (fun _ => rfl) fun k o x G4 ho e4 hx => ⟨EvT.is (et_test (ev_int0 (ev_lenL (ev_slot rfl hx)) (ev_var (v := .int (some' : Int)) rfl))) (decide_eq_decide.mpr (by omega)), fun _ => ?_⟩)).old).old
    have hol := (chFrom_ok some' i o (mem_of_get ho)).1
    exact (ev_cat up_nat (by show o.length + 1 ≤ 100000; omega) (ev_slot rfl hx) (ev_lst up_nat (zs := [i]) (by show 1 ≤ 100000; omega) (ea_consR up_nat (ev_var rfl) ea_nilR)).old).old
  · rintro σ G2 H2 e2 g2 ⟨fv', o3, o4, rfl, hfv'⟩
    have hlen := chFrom_len some' many
    have hp := hpow many h4
    refine s_ret g2 (ev_lcG (f := fun o : List Nat => o) (keep := fun o : List Nat => decide (o.length = some')) up_nats (by omega) (src_list (K := K) up_nats (ev_slot rfl hfv') (fun _ => rfl) fun k o x G4 ho e4 hx => ⟨EvT.is (et_test (ev_eqU rfl (ev_lenL (ev_slot rfl hx)) (ev_var (v := .int (some' : Int)) rfl))) (by rw [vint_eq]; exact decide_eq_decide.mpr (by omega)), fun _ => ev_slot rfl hx⟩)).old fun v' G3 H3 g3 p => q v' G3 H3 g3 ?_
    rw [List.map_id'] at p
    exact p
def spMinor (C : Addr) : Sp := Pu (γ := List (List Rat) × List Nat) (fun g vs H => ∃ v w, vs = [v, w] ∧ (isMat C g.1 v H ∧ isNats g.2 w H ∧ ∃ n e, Sq n g.1 ∧ Ents n e g.1 ∧ g.2.length ≤ 4 ∧ (∀ i ∈ g.2, i < n) ∧ e ≤ 1000)) fun g _ v G => isR C (minor g.1 g.2) v G
theorem c__law_minor (T : Txt P w K mg base C) : C8.Cal P w K mg base 47 "_law_minor" (spMinor C) [] := by
  refine cal_by T.d_law_minor sc_law_minor (fun _ _ _ _ _ _ us hl => match us, hl with | [_, _], _ => rfl) len_2 fun f cdv A outer s H vs Q E hr h => ?_
  obtain ⟨⟨m, ps⟩, G, e, ⟨v, w, rfl, hv, hw, n, ee, hs, hen, hp4, hpn, he⟩, q⟩ := h
  have hp4 : ps.length ≤ 4 := hp4
  have hs : Sq n m := hs
  refine ⟨_, (pss_one (ps_ret (C8.pe_c (c__law_determinant T) hr (by decide) rfl (pa_cons (pe_lc (own := [("_law_i", 2)]) (g := gName 2) (tt := tYes) rfl sc_law_minor.nd (pi_list (pv 1)) (blkOk_by (own := [("_law_i", 2)]) (by kernel_rfl)) (fun _ _ _ _ _ => (pg_name (i := 2) sc_law_minor.nd rfl (by first | exact Or.inl rfl | exact Or.inr rfl))) (fun _ _ _ _ _ => pts_nil) (fun _ _ _ _ _ => (pe_lc (wi := iList K (tVar 1)) (own := [("_law_j", 3)]) (g := gName 3) (tt := tYes) rfl sc_law_minor.nd (pi_list (pv 1)) (blkOk_by (own := [("_law_j", 3)]) (by kernel_rfl)) (fun _ _ _ _ _ => (pg_name (i := 3) sc_law_minor.nd rfl (by first | exact Or.inl rfl | exact Or.inr rfl))) (fun _ _ _ _ _ => pts_nil) (fun _ _ _ _ _ => (pe_ix (r := rIxLT K) ix_lt (pe_ix (r := rIxLT K) ix_lt (pv 0) (pv 2) (fun _ _ => rfl)) (pv 3) (fun _ _ => rfl)))))) pa_nil)))), ?_⟩
  refine s_ret (Grow.rfl e) (det_ev (m := subOf m ps) (k := ps.length) (e := ee) (ev_lc (f := fun i : Nat => ps.map fun j => at2 m i j) up_row (by show ps.length ≤ 100000; omega) (src_list (K := K) up_nat (ev_slot rfl hw) (fun _ => rfl) fun a i x G1 hi e1 hx => ⟨et_yes, fun _ => (ev_lc (f := fun j : Nat => at2 m i j) up_isR (by show ps.length ≤ 100000; omega) (src_list (K := K) up_nat (ev_slot rfl (up_nats _ _ _ _ e1 hw)) (fun _ => rfl) fun b j y G2 hj e2 hy => ⟨et_yes, fun _ => ?_⟩)).old⟩)).old hp4 (subOf_sq m ps) (subOf_ents hen ps) he) q
  exact at_ev hs (hpn i (mem_of_get hi)) (hpn j (mem_of_get hj)) (ev_slot rfl (up_mat _ _ _ _ (e1.trans e2) hv)) (ev_slot rfl (up_nat _ _ _ _ e2 hx)) (ev_slot rfl hy)
def spSums (C : Addr) : Sp := Pu (γ := List (List Rat)) (fun m vs H => ∃ v, vs = [v] ∧ (isMat C m v H ∧ ∃ n, Sq n m ∧ n ≤ 4 ∧ Ents n 24 m)) fun m _ v G => isRow C (sumsOf m) v G
theorem c__law_sums (T : Txt P w K mg base C) : C8.Cal P w K mg base 48 "_law_sums" (spSums C) [] := by
  refine cal_by T.d_law_sums sc_law_sums (fun _ _ _ _ _ _ us hl => match us, hl with | [_], _ => rfl) len_1 fun f cdv A outer s H vs Q E hr h => ?_
  obtain ⟨m, G, e, ⟨v, rfl, hv, n, hs, hn, hen⟩, q⟩ := h
  have hml := hs.len
  refine ⟨_, (pss_cons (ps_set (i := 1) sc_law_sums.nd rfl (by first | exact Or.inl rfl | exact Or.inr rfl) (pe_lst pa_nil)) (pss_cons (ps_for PassesOwn.never rfl (pi_range1 rfl T.n_range (pa_cons (pe_op (opAdd T hr (by decide)) (pe_callB (r := rLen K) call_len_lt (by rfl) T.n_len bo_len (pa_cons (pv 0) pa_nil)) pe_int) pa_nil)) (pg_name (i := 2) sc_law_sums.nd rfl (by first | exact Or.inl rfl | exact Or.inr rfl)) (pss_one (ps_expr (pe_bm PySem.F.plainAttrs_list PySem.F.slot_list_append PySem.F.type_list_append mt_append (pv 1) (pa_cons (pe_tot T hr (by decide) rfl (pa_cons (pe_lc (own := [("_law_places", 3)]) (g := gName 3) (tt := tYes) rfl sc_law_sums.nd (pi_list (C8.pe_c (c__law_choices T) hr (by decide) rfl (pa_cons (pe_callB (r := rLen K) call_len_lt (by rfl) T.n_len bo_len (pa_cons (pv 0) pa_nil)) (pa_cons (pv 2) pa_nil)))) (blkOk_by (own := [("_law_places", 3)]) (by kernel_rfl)) (fun _ _ _ _ _ => (pg_name (i := 3) sc_law_sums.nd rfl (by first | exact Or.inl rfl | exact Or.inr rfl))) (fun _ _ _ _ _ => pts_nil) (fun _ _ _ _ _ => (C8.pe_c (c__law_minor T) hr (by decide) rfl (pa_cons (pv 0) (pa_cons (pv 3) pa_nil))))) pa_nil)) pa_nil))))) (pss_one (ps_ret (pv 1))))), ?_⟩
  refine t_setN (Grow.rfl e) fun a H1 h1a hga ha g1 => ?_
  have sl : ∀ {xs : List V} {G' : Hp} {k : Nat}, All2 (fun x z => isR C z x G') xs ((List.range k).map (sumOf m)) → xs.length = k := fun h => by rw [h.len, List.length_map, List.length_range]
  refine q_forRy (n := m.length + 1) g1 (fun Hx ex Qx qx => ea_1 (ev_addI (ev_lenL (ev_slot rfl hv)) ev_c) Hx ex Qx fun vs G2 H2 g2 ⟨v', ev, hv'⟩ => qx vs G2 H2 g2 (by rw [ev, hv'] <;> rfl)) (by omega) (fun i σ G' H' => ∃ xs o2 o3, σ = [some v, some (.ref a), o2, o3] ∧ H' a = some (.lst xs) ∧ G' a = none ∧ All2 (fun x z => isR C z x G') xs ((List.range i).map (sumOf m))) (fun G' H' g' _ => ⟨[], _, _, rfl, g'.ol _ _ ha, g'.away hga ha, .nil⟩) ?_ ?_
  · rintro i σ G2 H2 hi e2 g2 ⟨xs, o2, o3, rfl, ha2, hga2, all⟩ N hN
    have hM : Ex (one a (.lst xs)) H2 := one_ex ha2
    have hv2 := up_mat _ _ _ _ (e2.trans (join_l (B := one a (.lst xs)))) hv
    have hch := choices_len m.length i
    have hp : 2 ^ m.length ≤ 16 := Nat.le_trans (pow_le2 (show m.length ≤ 4 by omega)) (by decide)
    refine app_m (K := K) (M := one a (.lst xs)) (P := isR C (sumOf m i)) g2 hM (one_apart hga2) rfl one_at (by rw [sl all]; omega) h1a (totM_ev (ev_lc (f := minor m) up_isR (by omega) (src_list (K := K) up_nats (ev_call (sp := spChoices) (P := lstOf isNats (choices m.length i)) (ea_2 up_isV up_isV (ev_lenL (ev_slot rfl hv2)) (ev_var (v := .int (i : Int)) rfl)) fun vs G' e ⟨v, w, ev, hv, hw⟩ => Pu.tr (g := (m.length, i)) ⟨v, w, ev, hv, hw, by show m.length ≤ 4; omega⟩) (fun _ => rfl) fun k ps x G3 hps e3 hx => ⟨et_yes, fun _ => ?_⟩)).old (fitsE (n := 16 * (64 * (24 + 2))) (by show _ ≤ 130000000; omega) (minors_sz hen (by omega))) (by rw [List.length_map]; omega)) ?_
    · obtain ⟨_, h2, h3⟩ := choices_ok (mem_of_get hps)
      exact ev_call (sp := spMinor C) (P := isR C (minor m ps)) (ea_2 up_mat up_nats (ev_slot rfl (up_mat _ _ _ _ e3 hv2)) (ev_slot rfl hx)) fun vs G' e ⟨v, w, ev, hv, hw⟩ => Pu.tr (g := (m, ps)) ⟨v, w, ev, hv, hw, n, 24, hs, hen, by show ps.length ≤ 4; omega, fun i hi => by have := h3 i hi; omega, by decide⟩
    · rintro vn G3 H3 e3 eM3 g3 eH3 hvn
      refine hN _ (sub G3 (one a (.lst xs))) _ e3 g3 ⟨xs ++ [vn], _, _, rfl, upd_same, sub_no (by rw [one_at]; exact Option.some_ne_none _), ?_⟩
      rw [List.range_succ, List.map_append]
      exact (all.mono fun _ _ r => up_isR _ _ _ _ e3 r).snoc (isR.sub1 eM3 hvn)
  · rintro σ G2 H2 e2 g2 ⟨xs, o2, o3, rfl, ha2, hga2, all⟩
    have s1 := g2.see h1a hga2 ha2
    exact s_ret s1 (ev_slot (i := 1) (R := isRow C) (x := sumsOf m) rfl ⟨a, xs, rfl, upd_same, all.mono fun _ _ r => up_isR _ _ _ _ (Ex.new hga2) r⟩) q
def spChanges (C : Addr) : Sp := Pu (γ := List Rat) (fun l vs H => ∃ v, vs = [v] ∧ (isRow C l v H ∧ l.length ≤ 1000)) fun l _ v G => v = .int (changes l : Int)
theorem c__law_changes (T : Txt P w K mg base C) : C8.Cal P w K mg base 41 "_law_changes" (spChanges C) [] := by
  refine cal_by T.d_law_changes sc_law_changes (fun _ _ _ _ _ _ us hl => match us, hl with | [_], _ => rfl) len_1 fun f cdv A outer s H vs Q E hr h => ?_
  obtain ⟨l, G, e, ⟨v, rfl, hv, hl⟩, q⟩ := h
  have hfl : (l.filter nz).length ≤ 1000 := Nat.le_trans (List.length_filter_le _ _) hl
  refine ⟨_, (pss_cons (ps_setLc (i := 1) (own := [("_law_one", 2)]) (g := gName 2) (tt := _) rfl sc_law_changes.nd rfl rfl (sw_true rfl rfl rfl (by kernel_rfl)) (pi_list (pv 0)) (blkOk_by (own := [("_law_one", 2)]) (by kernel_rfl)) (fun _ _ _ _ _ => (pg_name (i := 2) sc_law_changes.nd rfl (by first | exact Or.inl rfl | exact Or.inr rfl))) (fun _ _ _ _ _ => (pts_one (pt_cmpR (cmNe T hr (by decide)) (pe_pp (p_sign T) hr (by decide) (pv 2) rfl) pe_int (nomark _)))) (fun _ _ _ _ _ => (pe_pp (p_sign T) hr (by decide) (pv 2) rfl))) (pss_one (ps_ret (pe_callB (r := rLen K) call_len_lt (by rfl) T.n_len bo_len (pa_cons (pe_lc (own := [("_law_one", 2), ("_law_other", 3)]) (g := gTup K 2 (gCons (gName 2) (gCons (gName 3) gNil))) (tt := _) rfl sc_law_changes.nd (pi_zip (by rfl) T.n_zip (pa_cons (pv 1) (pa_cons (pe_slice (r := rSlL K) sl_list (pv 1) (po_some pe_int) po_none) pa_nil))) (blkOk_by (own := [("_law_one", 2), ("_law_other", 3)]) (by kernel_rfl)) (fun _ _ _ _ _ => (pg_tup rfl (pgs_cons (pg_name (i := 2) sc_law_changes.nd rfl (by first | exact Or.inl rfl | exact Or.inr rfl)) (pgs_cons (pg_name (i := 3) sc_law_changes.nd rfl (by first | exact Or.inl rfl | exact Or.inr rfl)) pgs_nil)))) (fun _ _ _ _ _ => (pts_one (pt_cmpR (cmNe T hr (by decide)) (pv 2) (pv 3) (nomark _)))) (fun _ _ _ _ _ => pe_int)) pa_nil))))), ?_⟩
  refine t_set (P := lstOf isInt ((l.filter nz).map sgn)) (Grow.rfl e) (ev_lcG (f := sgn) (keep := nz) up_int (by omega) (src_list (K := K) up_isR (ev_slot rfl hv) (fun _ => rfl) fun i z x G1 hz e1 hx => ⟨EvT.is (et_test (ev_neU rfl (ev_prop (ev_slot rfl hx)) ev_c)) (nz_sgn z), fun _ => ev_prop (ev_slot rfl hx)⟩)).old fun lv G1 H1 e1 g1 hlv => ?_
  have c1 : cut ((l.filter nz).map sgn) (some 1) none = ((l.filter nz).map sgn).drop 1 := cut_from _ 1
  have hres : lstOf isInt (((((l.filter nz).map sgn).zip (((l.filter nz).map sgn).drop 1)).filter fun z => !decide (z.1 = z.2)).map fun _ => (1 : Int)) = lstOf isInt (((((l.filter nz).map sgn).zip (((l.filter nz).map sgn).drop 1)).filter fun z => !decide (z.1 = z.2)).map fun _ => (1 : Int)) := rfl
  refine s_ret g1 (ev_lenL (ev_lcG (f := fun _ : Int × Int => (1 : Int)) (keep := fun z => !decide (z.1 = z.2)) up_int (zs := ((l.filter nz).map sgn).zip (((l.filter nz).map sgn).drop 1)) (by rw [List.length_zip, List.length_map]; omega) (src_zip (K := K) (ea_2 (up_lst up_int) (up_lst up_int) (ev_slot rfl hlv) (by rw [← c1]; exact (ev_sl up_int (ev_slot rfl hlv) (eo_some ev_c) eo_none).old)) (fun _ _ => rfl) fun i z z' x y G2 hz hz' e2 hx hy => ⟨?_, fun _ => ev_c⟩)).old) fun v' G3 H3 g3 p => q v' G3 H3 g3 ?_
  · refine EvT.is (et_test (ev_neU rfl (ev_slot (R := isInt) rfl hx) (ev_slot (R := isInt) rfl hy))) ?_
    rw [vint_eq]
  · obtain rfl : v' = _ := p
    rw [List.length_map]
    rfl
def spSigns (C : Addr) : Sp := Pu (γ := List (List Rat)) (fun m vs H => ∃ v, vs = [v] ∧ (isMat C m v H ∧ ∃ n, Sq n m ∧ n ≤ 4 ∧ Ents n 24 m)) fun m _ v G => tripOf isNat anyInt anyInt (aboveOf m) () () v G
theorem c__law_signs (T : Txt P w K mg base C) : C8.Cal P w K mg base 49 "_law_signs" (spSigns C) [] := by
  refine cal_by T.d_law_signs sc_law_signs (fun _ _ _ _ _ _ us hl => match us, hl with | [_], _ => rfl) len_1 fun f cdv A outer s H vs Q E hr h => ?_
  obtain ⟨m, G, e, ⟨v, rfl, hv, n, hs, hn, hen⟩, q⟩ := h
  have hml := hs.len
  have hsl : (sumsOf m).length ≤ 1000 := by unfold sumsOf; rw [List.length_map, List.length_range]; omega
  refine ⟨_, (pss_cons (ps_set (i := 1) sc_law_signs.nd rfl (by first | exact Or.inl rfl | exact Or.inr rfl) (C8.pe_c (c__law_sums T) hr (by decide) rfl (pa_cons (pv 0) pa_nil))) (pss_cons (ps_set (i := 2) sc_law_signs.nd rfl (by first | exact Or.inl rfl | exact Or.inr rfl) (C8.pe_c (c__law_changes T) hr (by decide) rfl (pa_cons (pe_lc (own := [("_law_many", 4), ("_law_one", 5)]) (g := gTup K 2 (gCons (gName 4) (gCons (gName 5) gNil))) (tt := tYes) rfl sc_law_signs.nd (pi_enum (by rfl) T.n_enumerate (pa_cons (pv 1) pa_nil)) (blkOk_by (own := [("_law_many", 4), ("_law_one", 5)]) (by kernel_rfl)) (fun _ _ _ _ _ => (pg_tup rfl (pgs_cons (pg_name (i := 4) sc_law_signs.nd rfl (by first | exact Or.inl rfl | exact Or.inr rfl)) (pgs_cons (pg_name (i := 5) sc_law_signs.nd rfl (by first | exact Or.inl rfl | exact Or.inr rfl)) pgs_nil)))) (fun _ _ _ _ _ => pts_nil) (fun _ _ _ _ _ => (pe_ifExp (pt_cmpR (cmEq T hr (by decide)) (pe_op op_mod (pe_callTy call_int1 (by rfl) T.n_int bo_int (pa_cons (pv 4) pa_nil)) pe_int) pe_int (nomark _)) (pv 5) (pe_un (opNeg T hr (by decide)) (pv 5))))) pa_nil))) (pss_cons (ps_set (i := 3) sc_law_signs.nd rfl (by first | exact Or.inl rfl | exact Or.inr rfl) (C8.pe_c (c__law_changes T) hr (by decide) rfl (pa_cons (pv 1) pa_nil))) (pss_one (ps_ret (pe_tup (pa_cons (pv 2) (pa_cons (pv 3) (pa_cons (pe_op (opSub T hr (by decide)) (pe_op (opSub T hr (by decide)) (pe_callB (r := rLen K) call_len_lt (by rfl) T.n_len bo_len (pa_cons (pv 0) pa_nil)) (pv 2)) (pv 3)) pa_nil))))))))), ?_⟩
  refine t_set (P := isRow C (sumsOf m)) (Grow.rfl e) (ev_call (sp := spSums C) (ea_1 (ev_slot rfl hv)) fun vs G' e ⟨v, ev, hv⟩ => Pu.tr (g := m) ⟨v, ev, hv, n, hs, hn, hen⟩) fun sv G1 H1 e1 g1 hsv => ?_
  have chg : ∀ {σ : L2.St} {G' : Hp} {te : TE} {l : List Rat}, Ev te σ G' (isRow C l) → l.length ≤ 1000 → Ev (tCall (spChanges C) [] E0 (tCons te tNil)) σ G' (isV (.int (changes l : Int))) := fun {σ G' te l} h hl => ev_call (ea_1 h) fun vs G' e ⟨v, ev, hv⟩ => Pu.tr (g := l) ⟨v, ev, hv, hl⟩
  refine t_set (P := isV (.int (aboveOf m : Int))) g1 (chg (l := altern (sumsOf m)) (ev_lc (f := fun z : Rat × Nat => if (z.2 : Int) % 2 = 0 then z.1 else -z.1) up_isR (by rw [List.length_zipIdx]; omega) (src_enum (K := K) (ea_1 (ev_slot rfl hsv)) (fun _ _ => rfl) fun i z x G2 hz e2 hx => ⟨et_yes, fun _ => ev_if (b := decide ((i : Int) % 2 = 0)) (EvT.is (et_test (ev_eqU rfl (ev_mod (by decide) (ev_int1 (ev_var (v := .int (i : Int)) rfl)) ev_c) ev_c)) vint_eq) (fun hb => ?_) fun hb => ?_⟩)).old (by unfold altern; rw [List.length_map, List.length_zipIdx]; exact hsl)) fun av G2 H2 e2 g2 hav => ?_
  · rw [if_pos (of_decide_eq_true hb)]
    exact ev_slot rfl hx
  · rw [if_neg (of_decide_eq_false hb)]
    exact ev_negR (ev_slot rfl hx)
  obtain rfl : av = _ := hav
  refine t_set (P := isV (.int (changes (sumsOf m) : Int))) g2 (chg (ev_slot rfl (up_row _ _ _ _ e2 hsv)) hsl) fun bv G3 H3 e3 g3 hbv => ?_
  obtain rfl : bv = _ := hbv
  exact s_ret g3 (ev_trip up_nat up_any up_any (ev_var rfl) (Tr.imp (P' := anyInt ()) (ev_var rfl) fun _ _ _ h => ⟨_, h⟩) (Tr.imp (P' := anyInt ()) (ev_subI (ev_subI (ev_lenL (ev_slot (R := isMat C) rfl (up_mat _ _ _ _ g3.kn hv))) (ev_var (v := .int (aboveOf m : Int)) rfl)) (ev_var (v := .int (changes (sumsOf m) : Int)) rfl)) fun _ _ _ h => ⟨_, h⟩)) q
end
end On
set_option linter.all false
/-! The law's plain sums. -/
namespace On
def lform (m : List (List Rat)) (p q : List Rat) : Rat := total ((List.range m.length).map fun i => total ((List.range m.length).map fun j => at2 m i j * q.getD j 0) * p.getD i 0)
theorem getD_eq {l : List Rat} {i : Nat} (h : i < l.length) : l[i]? = some (l.getD i 0) := by
  rw [getD_at (List.getElem?_eq_getElem h)]
  exact List.getElem?_eq_getElem h
theorem inner_eq {n : Nat} {m : List (List Rat)} (h : Sq n m) {q : List Rat} (hq : q.length = n) {i : Nat} (hi : i < n) : (List.range m.length).map (fun j => at2 m i j * q.getD j 0) = ((m.getD i []).zip q).map fun z => z.1 * z.2 := by
  have hr := h.rowLen hi
  have hl := h.len
  refine List.ext_getElem? fun j => ?_
  by_cases hj : j < n
  · have hz : ((m.getD i []).zip q)[j]? = some (at2 m i j, q.getD j 0) := List.getElem?_zip_eq_some.mpr ⟨getD_eq (by omega), getD_eq (by omega)⟩
    rw [List.getElem?_map, List.getElem?_map, List.getElem?_range (by omega), hz]
    rfl
  · rw [List.getElem?_eq_none (by rw [List.length_map, List.length_range]; omega), List.getElem?_eq_none (by rw [List.length_map, List.length_zip]; omega)]
theorem outer_eq {n : Nat} {m : List (List Rat)} (h : Sq n m) {p q : List Rat} (hp : p.length = n) (hq : q.length = n) : (List.range m.length).map (fun i => total ((List.range m.length).map fun j => at2 m i j * q.getD j 0) * p.getD i 0) = (p.zip (made m q)).map fun z => z.1 * z.2 := by
  have hl := h.len
  have hml : (made m q).length = n := by unfold made; rw [List.length_map, hl]
  refine List.ext_getElem? fun i => ?_
  by_cases hi : i < n
  · have hm : (made m q)[i]? = some (dot (m.getD i []) q) := by
      unfold made
      have hr : m[i]? = some (m.getD i []) := by rw [getD_at (List.getElem?_eq_getElem (show i < m.length by omega))]; exact List.getElem?_eq_getElem _
      rw [List.getElem?_map, hr]
      rfl
    have hz : (p.zip (made m q))[i]? = some (p.getD i 0, dot (m.getD i []) q) := List.getElem?_zip_eq_some.mpr ⟨getD_eq (by omega), hm⟩
    rw [List.getElem?_map, List.getElem?_map, List.getElem?_range (by omega), hz]
    show some (total ((List.range m.length).map fun j => at2 m i j * q.getD j 0) * p.getD i 0) = some (p.getD i 0 * dot (m.getD i []) q)
    rw [inner_eq h hq hi, Rat.mul_comm]
    rfl
  · rw [List.getElem?_eq_none (by rw [List.length_map, List.length_range]; omega), List.getElem?_eq_none (by rw [List.length_map, List.length_zip]; omega)]
theorem lform_eq {n : Nat} {m : List (List Rat)} (h : Sq n m) {p q : List Rat} (hp : p.length = n) (hq : q.length = n) : lform m p q = value m p q := by
  unfold lform value dot
  rw [outer_eq h hp hq]
/-- sizes of the two sums -/
theorem inner_fits {n : Nat} {m : List (List Rat)} (h : Sq n m) {q : List Rat} (hq : q.length = n) {i : Nat} (hi : i < n) : szL ((List.range m.length).map fun j => at2 m i j * q.getD j 0) ≤ szM m * szL q := by
  rw [inner_eq h hq hi]
  refine Nat.le_trans (szL_zip _ _) (Nat.mul_le_mul_right _ ?_)
  rw [getD_at (List.getElem?_eq_getElem (show i < m.length by rw [h.len]; exact hi))]
  exact szL_le_szM (List.getElem_mem _)
theorem outer_fits {n : Nat} {m : List (List Rat)} (h : Sq n m) {p q : List Rat} (hp : p.length = n) (hq : q.length = n) : szL ((List.range m.length).map fun i => total ((List.range m.length).map fun j => at2 m i j * q.getD j 0) * p.getD i 0) ≤ szL p * (szM m * szL q ^ m.length) := by
  rw [outer_eq h hp hq]
  exact Nat.le_trans (szL_zip _ _) (Nat.mul_le_mul_left _ (szL_made m q))
/-- lists so large may be reckoned with a table's entries -/
theorem valFits {n : Nat} {m : List (List Rat)} (h : Sq n m) (hn : n ≤ 4) (hen : Ents n 24 m) {p q : List Rat} (hp : szL p ≤ 2 ^ 25000000) (hq : szL q ≤ 2 ^ 25000000) : ValFits m p q := by
  have hl := h.len
  have hM : szM m ≤ 2 ^ 384 := by
    have key : ∀ (l : List (List Rat)), (∀ r ∈ l, szL r ≤ 2 ^ 96) → szM l ≤ 2 ^ (l.length * 96) := fun l => by
      induction l with
      | nil => intro _; exact Nat.le_refl _
      | cons r t ih =>
        intro hr
        rw [szM_cons, List.length_cons, Nat.add_mul, Nat.one_mul, Nat.add_comm, Nat.pow_add]
        exact Nat.mul_le_mul (hr r List.mem_cons_self) (ih fun x hx => hr x (List.mem_cons_of_mem _ hx))
    refine Nat.le_trans (key m fun r hr => ?_) (pow_le2 (by omega))
    have := hen.szL hr
    exact Nat.le_trans this (pow_le2 (by omega))
  have hpow : szL q ^ m.length ≤ 2 ^ (25000000 * 4) := by
    refine Nat.le_trans (Nat.pow_le_pow_left hq _) ?_
    rw [← Nat.pow_mul]
    exact pow_le2 (Nat.mul_le_mul_left _ (by omega))
  refine ⟨fitsE (n := 25000000 + (384 + 25000000 * 4)) (by show _ ≤ 130000000; omega) ?_, fitsE (n := 384 + 25000000) (by show _ ≤ 130000000; omega) ?_⟩
  · rw [Nat.pow_add, Nat.pow_add 2 384]
    exact Nat.mul_le_mul hp (Nat.mul_le_mul hM hpow)
  · rw [Nat.pow_add]
    exact Nat.mul_le_mul hM hq
end On
set_option Elab.async false
set_option linter.all false
set_option maxRecDepth 100000
set_option maxHeartbeats 4000000
/-! _law_is_number, _law_is_list, _law_form, _law_looks, _law_beside. -/
namespace On
open PySem PySem.Spec PyProof.Rows L2
section
variable {K : PySem.W.Frag} {σ : L2.St} {H : Hp} {ta tb : TE} {γ : Type} {R : γ → V → Hp → Prop} {zs : List γ} {z : γ}
theorem ev_ixS {i : Int} (up : Up R) (h1 : Ev ta σ H (seqOf R zs)) (h2 : Ev tb σ H (isV (.int i))) (hz : atI zs i = some z) : Ev (tOp (rIxLT K) ta tb) σ H (R z) :=
  ev_op h1 h2 (up_seq up) up_isV fun v w G e hv hw => by
    rcases hv with ⟨a, xs, ev, ha, all⟩ | ⟨a, xs, ev, ha, all⟩
    · obtain ⟨x, hx, r⟩ := all.getI hz
      exact Tr.same r fun H1 e1 Q q => .inl ⟨a, xs, i, x, ev, hw, SqL.of (e1 _ _ ha), hx, q⟩
    · obtain ⟨x, hx, r⟩ := all.getI hz
      exact Tr.same r fun H1 e1 Q q => .inr ⟨a, xs, i, x, ev, hw, SqT.of (e1 _ _ ha), hx, q⟩
end
section
variable {P : Program} {w : World} {K : PySem.W.Frag} {mg : Str → Option Value} {base : Heap} {C : Addr}
theorem c__law_is_number (T : Txt P w K mg base C) : C8.Cal P w K mg base 41 "_law_is_number" (spKind (fun k => k == .int || k == .rat) C) [] := by
  refine cal_by T.d_law_is_number sc_law_is_number (fun _ _ _ _ _ _ us hl => match us, hl with | [_], _ => rfl) (len1 fun g vs H ⟨v, e, _⟩ => by rw [e] <;> rfl) fun f cdv A outer s H vs Q E hr h => ?_
  obtain ⟨k, G, e, ⟨v, rfl, hk⟩, q⟩ := h
  refine ⟨_, (pss_one (ps_ret (pe_or (pe_callB (r := rIsi K) call_isi (by rfl) T.n_isinstance bo_isinstance (pa_cons (pv 0) (pa_cons (pe_gc rfl T.g_Ratio) pa_nil))) (pe_one (pe_and (pe_callB (r := rIsi K) call_isi (by rfl) T.n_isinstance bo_isinstance (pa_cons (pv 0) (pa_cons (pe_bltn (v := .ty "int") rfl T.n_int bo_int rfl) pa_nil))) (pe_one (pe_not (pe_callB (r := rIsi K) call_isi (by rfl) T.n_isinstance bo_isinstance (pa_cons (pv 0) (pa_cons (pe_bltn (v := .ty "bool") rfl T.n_bool bo_bool rfl) pa_nil)))))))))), ?_⟩
  refine s_ret (Grow.rfl e) (ev_orV (ev_isi T.isi (.own C) (isa_ratio T k) (ev_slot rfl hk)) fun _ => ev_andV (ev_isi T.isi (.ty _) (isa_int T k) (ev_slot rfl hk)) fun _ => ev_notV (ev_isi T.isi (.ty _) (isa_bool T k) (ev_slot rfl hk))) fun v' G' H' g p => q v' G' H' g ?_
  obtain rfl : v' = _ := p
  cases k <;> rfl
theorem isList_ev (T : Txt P w K mg base C) {σ : L2.St} {G : Hp} {it : Item} {v : V} {i : Nat} (hs : σ[i]? = some (some v)) (hv : isItem C it v G) : Ev (tCB (rIsiT K) (tCons (tVar i) (tCons (tTup (tCons (tC (.ty "list")) (tCons (tC (.ty "tuple")) tNil))) tNil))) σ G (isV (.bl (it.kind == .lst || it.kind == .tup))) :=
  ev_isi2 (C := C) T.isi (isa_lt T _) (ev_slot (R := kindOf C) hs (item_kind hv))
theorem c__law_is_list (T : Txt P w K mg base C) : C8.Cal P w K mg base 42 "_law_is_list" (spNums C) [] := by
  refine cal_by T.d_law_is_list sc_law_is_list (fun _ _ _ _ _ _ us hl => match us, hl with | [_, _], _ => rfl) len_2 fun f cdv A outer s H vs Q E hr h => ?_
  obtain ⟨⟨it, n⟩, G, e, ⟨v, _, rfl, hv, rfl, hn⟩, q⟩ := h
  have hn : n ≤ 100000 := hn
  have hk := fun {σ : L2.St} (h : σ[0]? = some (some v)) => isList_ev (K := K) T h hv
  have turn : ∀ (as : List Atom) (i : Nat) (z : Atom) (x : V) (G' : Hp), as[i]? = some z → Ex G G' → isAtom C z x G' → EvT (tNot (tB (tCall (spKind (fun k => k == .int || k == .rat) C) [] E0 (tCons (tVar 2) tNil)))) ((wipe [some v, some (.int n), none] [2]).set 2 (some x)) G' (!z.isNum) ∧ ((!z.isNum) = true → Ev (tVar 2) ((wipe [some v, some (.int n), none] [2]).set 2 (some x)) G' (isAtom C z)) :=
    fun as i z x G' hz eG sx => ⟨EvT.is (et_not (et_B (ev_kind (ev_slot (R := kindOf C) rfl (atom_kind sx))))) (by rw [kind_num]), fun _ => ev_slot rfl sx⟩
  have fin : ∀ as : List Atom, ((as.filter fun z => !z.isNum).map fun z : Atom => z).isEmpty = as.all Atom.isNum := fun as => by
    rw [List.map_id']
    induction as with
    | nil => rfl
    | cons a r ih =>
      rw [List.all_cons, List.filter_cons]
      cases h : a.isNum
      · rfl
      · rw [if_neg (by simp)]
        rw [ih]
        rfl
  cases it with
  | atom a =>
    refine ⟨_, (pss_one (ps_ret (pe_and (pe_callB (r := rIsiT K) call_isiT (by rfl) T.n_isinstance bo_isinstance (pa_cons (pv 0) (pa_cons (pe_tup (pa_cons (pe_bltn (v := .ty "list") rfl T.n_list bo_list rfl) (pa_cons (pe_bltn (v := .ty "tuple") rfl T.n_tuple bo_tuple rfl) pa_nil))) pa_nil))) (pe_and (pe_cmpR (cmEq T hr (by decide)) (pe_callB (r := rLen K) call_len_lt (by rfl) T.n_len bo_len (pa_cons (pv 0) pa_nil)) (pv 1) (nomark _)) (pe_one (pe_cmpR (cmEq T hr (by decide)) (pe_lc (own := [("_law_one", 2)]) (g := gName 2) (tt := _) rfl sc_law_is_list.nd (pi_list (pv 0)) (blkOk_by (own := [("_law_one", 2)]) (by kernel_rfl)) (fun _ _ _ _ _ => (pg_name (i := 2) sc_law_is_list.nd rfl (by first | exact Or.inl rfl | exact Or.inr rfl))) (fun _ _ _ _ _ => (pts_one (pt_not (pt_val (C8.pe_c (c__law_is_number T) hr (by decide) rfl (pa_cons (pv 2) pa_nil)))))) (fun _ _ _ _ _ => (pv 2))) (pe_lst pa_nil) (nomark _))))))), ?_⟩
    refine s_ret (Grow.rfl e) (ev_andV (b := false) (hk rfl) fun h => absurd h ?_) fun v' G' H' g p => q v' G' H' g ?_
    · cases a <;> exact Bool.false_ne_true
    · rw [Bool.and_false] at p
      exact p
  | dct =>
    refine ⟨_, (pss_one (ps_ret (pe_and (pe_callB (r := rIsiT K) call_isiT (by rfl) T.n_isinstance bo_isinstance (pa_cons (pv 0) (pa_cons (pe_tup (pa_cons (pe_bltn (v := .ty "list") rfl T.n_list bo_list rfl) (pa_cons (pe_bltn (v := .ty "tuple") rfl T.n_tuple bo_tuple rfl) pa_nil))) pa_nil))) (pe_and (pe_cmpR (cmEq T hr (by decide)) (pe_callB (r := rLen K) call_len_lt (by rfl) T.n_len bo_len (pa_cons (pv 0) pa_nil)) (pv 1) (nomark _)) (pe_one (pe_cmpR (cmEq T hr (by decide)) (pe_lc (own := [("_law_one", 2)]) (g := gName 2) (tt := _) rfl sc_law_is_list.nd (pi_list (pv 0)) (blkOk_by (own := [("_law_one", 2)]) (by kernel_rfl)) (fun _ _ _ _ _ => (pg_name (i := 2) sc_law_is_list.nd rfl (by first | exact Or.inl rfl | exact Or.inr rfl))) (fun _ _ _ _ _ => (pts_one (pt_not (pt_val (C8.pe_c (c__law_is_number T) hr (by decide) rfl (pa_cons (pv 2) pa_nil)))))) (fun _ _ _ _ _ => (pv 2))) (pe_lst pa_nil) (nomark _))))))), ?_⟩
    refine s_ret (Grow.rfl e) (ev_andV (b := false) (hk rfl) fun h => absurd h Bool.false_ne_true) fun v' G' H' g p => q v' G' H' g ?_
    rw [Bool.and_false] at p
    exact p
  | lst as =>
    refine ⟨_, (pss_one (ps_ret (pe_and (pe_callB (r := rIsiT K) call_isiT (by rfl) T.n_isinstance bo_isinstance (pa_cons (pv 0) (pa_cons (pe_tup (pa_cons (pe_bltn (v := .ty "list") rfl T.n_list bo_list rfl) (pa_cons (pe_bltn (v := .ty "tuple") rfl T.n_tuple bo_tuple rfl) pa_nil))) pa_nil))) (pe_and (pe_cmpR (cmEq T hr (by decide)) (pe_callB (r := rLen K) call_len_lt (by rfl) T.n_len bo_len (pa_cons (pv 0) pa_nil)) (pv 1) (nomark _)) (pe_one (pe_cmpR (cmEq T hr (by decide)) (pe_lc (own := [("_law_one", 2)]) (g := gName 2) (tt := _) rfl sc_law_is_list.nd (pi_list (pv 0)) (blkOk_by (own := [("_law_one", 2)]) (by kernel_rfl)) (fun _ _ _ _ _ => (pg_name (i := 2) sc_law_is_list.nd rfl (by first | exact Or.inl rfl | exact Or.inr rfl))) (fun _ _ _ _ _ => (pts_one (pt_not (pt_val (C8.pe_c (c__law_is_number T) hr (by decide) rfl (pa_cons (pv 2) pa_nil)))))) (fun _ _ _ _ _ => (pv 2))) (pe_lst pa_nil) (nomark _))))))), ?_⟩
    refine s_ret (Grow.rfl e) (ev_andV (hk rfl) fun _ => ev_andV (ev_eqU rfl (ev_lenL (ev_slot rfl hv)) (ev_var rfl)) fun h => ev_eqNil up_atom (ev_lcG (f := fun z : Atom => z) (keep := fun z => !z.isNum) up_atom ?_ (src_list up_atom (ev_slot rfl hv) (fun _ => rfl) (turn as))).old) fun v' G' H' g p => q v' G' H' g ?_
    · have := V.int.inj (of_decide_eq_true h)
      omega
    · obtain rfl : v' = _ := p
      show V.bl (true && _) = V.bl (decide ((as.length : Int) = n) && as.all Atom.isNum)
      rw [Bool.true_and, vint_eq, fin] <;> rfl
  | tup as =>
    refine ⟨_, (pss_one (ps_ret (pe_and (pe_callB (r := rIsiT K) call_isiT (by rfl) T.n_isinstance bo_isinstance (pa_cons (pv 0) (pa_cons (pe_tup (pa_cons (pe_bltn (v := .ty "list") rfl T.n_list bo_list rfl) (pa_cons (pe_bltn (v := .ty "tuple") rfl T.n_tuple bo_tuple rfl) pa_nil))) pa_nil))) (pe_and (pe_cmpR (cmEq T hr (by decide)) (pe_callB (r := rLen K) call_len_lt (by rfl) T.n_len bo_len (pa_cons (pv 0) pa_nil)) (pv 1) (nomark _)) (pe_one (pe_cmpR (cmEq T hr (by decide)) (pe_lc (own := [("_law_one", 2)]) (g := gName 2) (tt := _) rfl sc_law_is_list.nd (pi_tup (pv 0)) (blkOk_by (own := [("_law_one", 2)]) (by kernel_rfl)) (fun _ _ _ _ _ => (pg_name (i := 2) sc_law_is_list.nd rfl (by first | exact Or.inl rfl | exact Or.inr rfl))) (fun _ _ _ _ _ => (pts_one (pt_not (pt_val (C8.pe_c (c__law_is_number T) hr (by decide) rfl (pa_cons (pv 2) pa_nil)))))) (fun _ _ _ _ _ => (pv 2))) (pe_lst pa_nil) (nomark _))))))), ?_⟩
    refine s_ret (Grow.rfl e) (ev_andV (hk rfl) fun _ => ev_andV (ev_eqU rfl (ev_lenT (ev_slot rfl hv)) (ev_var rfl)) fun h => ev_eqNil up_atom (ev_lcG (f := fun z : Atom => z) (keep := fun z => !z.isNum) up_atom ?_ (src_tup (ev_slot rfl hv) (fun _ => rfl) (turn as))).old) fun v' G' H' g p => q v' G' H' g ?_
    · have := V.int.inj (of_decide_eq_true h)
      omega
    · obtain rfl : v' = _ := p
      show V.bl (true && _) = V.bl (decide ((as.length : Int) = n) && as.all Atom.isNum)
      rw [Bool.true_and, vint_eq, fin] <;> rfl
def spForm (C : Addr) : Sp := Pu (γ := List (List Rat) × List Rat × List Rat) (fun g vs H => ∃ v w u, vs = [v, w, u] ∧ (isMat C g.1 v H ∧ gRow C g.2.1 w H ∧ gRow C g.2.2 u H ∧ ∃ n, Sq n g.1 ∧ n ≤ 4 ∧ g.2.1.length = n ∧ g.2.2.length = n ∧ ValFits g.1 g.2.1 g.2.2)) fun g _ v G => isR C (value g.1 g.2.1 g.2.2) v G
theorem c__law_form (T : Txt P w K mg base C) : C8.Cal P w K mg base 43 "_law_form" (spForm C) [] := by
  refine cal_by T.d_law_form sc_law_form (fun _ _ _ _ _ _ us hl => match us, hl with | [_, _, _], _ => rfl) len_3 fun f cdv A outer s H vs Q E hr h => ?_
  obtain ⟨⟨m, a, b⟩, G, e, ⟨v, w, u, rfl, hv, hw, hu, n, hs, hn, ha, hb, hf⟩, q⟩ := h
  have hs : Sq n m := hs
  have ha : a.length = n := ha
  have hb : b.length = n := hb
  have hml := hs.len
  refine ⟨_, (pss_cons (ps_set (i := 3) sc_law_form.nd rfl (by first | exact Or.inl rfl | exact Or.inr rfl) (pe_callB (r := rLen K) call_len_lt (by rfl) T.n_len bo_len (pa_cons (pv 0) pa_nil))) (pss_one (ps_ret (pe_tot T hr (by decide) rfl (pa_cons (pe_lc (own := [("_law_i", 4)]) (g := gName 4) (tt := tYes) rfl sc_law_form.nd (pi_range1 rfl T.n_range (pa_cons (pv 3) pa_nil)) (blkOk_by (own := [("_law_i", 4)]) (by kernel_rfl)) (fun _ _ _ _ _ => (pg_name (i := 4) sc_law_form.nd rfl (by first | exact Or.inl rfl | exact Or.inr rfl))) (fun _ _ _ _ _ => pts_nil) (fun _ _ _ _ _ => (pe_op (opMul T hr (by decide)) (pe_tot T hr (by decide) rfl (pa_cons (pe_lc (own := [("_law_j", 5)]) (g := gName 5) (tt := tYes) rfl sc_law_form.nd (pi_range1 rfl T.n_range (pa_cons (pv 3) pa_nil)) (blkOk_by (own := [("_law_j", 5)]) (by kernel_rfl)) (fun _ _ _ _ _ => (pg_name (i := 5) sc_law_form.nd rfl (by first | exact Or.inl rfl | exact Or.inr rfl))) (fun _ _ _ _ _ => pts_nil) (fun _ _ _ _ _ => (pe_op (opMul T hr (by decide)) (pe_ix (r := rIxLT K) ix_lt (pe_ix (r := rIxLT K) ix_lt (pv 0) (pv 4) (fun _ _ => rfl)) (pv 5) (fun _ _ => rfl)) (pe_ix (r := rIxLT K) ix_lt (pv 2) (pv 5) (fun _ _ => rfl))))) pa_nil)) (pe_ix (r := rIxLT K) ix_lt (pv 1) (pv 4) (fun _ _ => rfl))))) pa_nil))))), ?_⟩
  refine t_set (P := isV (.int (n : Int))) (Grow.rfl e) (by rw [← hml]; exact ev_lenL (ev_slot rfl hv)) ?_
  rintro _ G1 H1 e1 g1 rfl
  have pr : ∀ i, i < n → Fits (szL ((List.range m.length).map fun j => at2 m i j * b.getD j 0)) := fun i hi => hf.made.le (inner_fits hs hb hi)
  have hf2 := hf.prod.le (outer_fits hs ha hb)
  refine s_ret g1 (totM_ev (l := (List.range m.length).map fun i => total ((List.range m.length).map fun j => at2 m i j * b.getD j 0) * a.getD i 0) ?_ hf2 (by rw [List.length_map, List.length_range]; omega)) fun v' G' H' g p => q v' G' H' g ?_
  · rw [hml]
    refine (ev_lc up_isR (by rw [List.length_range]; omega) (src_range (n := n) (rng_int (ev_var rfl)) (by omega) (fun _ => rfl) fun i G2 hi e2 => ⟨et_yes, fun _ => ?_⟩)).old
    have hai := getD_eq (show i < a.length by omega)
    have hpi := pr i hi
    rw [hml] at hpi
    have hok : Ok2 (total ((List.range n).map fun j => at2 m i j * b.getD j 0)) (a.getD i 0) := by
      have h1 := inner_fits hs hb hi
      rw [hml] at h1
      refine Fits.ok2 (hf.prod.le ?_)
      show sz (total ((List.range n).map fun j => at2 m i j * b.getD j 0)) * sz (a.getD i 0) ≤ szL a * (szM m * szL b ^ m.length)
      rw [Nat.mul_comm]
      refine Nat.mul_le_mul (sz_le_szL (mem_of_get hai)) (Nat.le_trans (sz_total _) (Nat.le_trans h1 (Nat.mul_le_mul_left _ ?_)))
      exact Nat.le_self_pow (by omega) _
    refine ev_mulN (totM_ev (ev_lc (f := fun j : Nat => at2 m i j * b.getD j 0) up_isR (by rw [List.length_range]; omega) (src_range (n := n) (rng_int (ev_var rfl)) (by omega) (fun _ => rfl) fun j G3 hj e3 => ⟨et_yes, fun _ => ?_⟩)).old hpi (by rw [List.length_map, List.length_range]; omega)) (ev_ixS up_isN (ev_slot rfl (up_gRow _ _ _ _ (g1.kn.trans e2) hw)) (ev_var rfl) (atI_nat hai)) hok
    have hbj := getD_eq (show j < b.length by omega)
    have e13 := (g1.kn.trans e2).trans e3
    refine ev_mulN (at_ev hs hi hj (ev_slot rfl (up_mat _ _ _ _ e13 hv)) (ev_var rfl) (ev_var rfl)) (ev_ixS up_isN (ev_slot rfl (up_gRow _ _ _ _ e13 hu)) (ev_var rfl) (atI_nat hbj)) (Fits.ok2 (hf.made.le (Nat.mul_le_mul ?_ (sz_le_szL (mem_of_get hbj)))))
    obtain ⟨r, hr1, hr2⟩ := hs.get hi
    exact Nat.le_trans (sz_le_szL (mem_of_get (hs.at hr1 hj))) (szL_le_szM (mem_of_get hr1))
  · show isR C (value m a b) v' G'
    rw [← lform_eq hs ha hb]
    exact p
theorem form_ev {σ : L2.St} {G : Hp} {ta tb tc : TE} {m : List (List Rat)} {p q : List Rat} {n : Nat} (h1 : Ev ta σ G (isMat C m)) (h2 : Ev tb σ G (gRow C p)) (h3 : Ev tc σ G (gRow C q)) (hs : Sq n m) (hn : n ≤ 4) (hp : p.length = n) (hq : q.length = n) (hf : ValFits m p q) :
    Ev (tCall (spForm C) [] E0 (tCons ta (tCons tb (tCons tc tNil)))) σ G (isR C (value m p q)) :=
  ev_call (ea_3 up_mat up_gRow up_gRow h1 h2 h3) fun vs G' e ⟨v, w, u, ev, hv, hw, hu⟩ => Pu.tr (g := (m, p, q)) ⟨v, w, u, ev, hv, hw, hu, n, hs, hn, hp, hq, hf⟩
end
end On
set_option Elab.async false
set_option linter.all false
set_option maxRecDepth 100000
set_option maxHeartbeats 4000000
/-! _law_looks, _law_beside. -/
namespace On
open PySem PySem.Spec PyProof.Rows L2
section
variable {P : Program} {w : World} {K : PySem.W.Frag} {mg : Str → Option Value} {base : Heap} {C : Addr}
theorem two_pair {γ : Type} {R : γ → V → Hp → Prop} {a b : γ} {v : V} {G : Hp} (h : tupOf R [a, b] v G) : pairOf R R (a, b) v G := by
  obtain ⟨t, xs, e, ht, all⟩ := h
  cases all with
  | cons r1 t1 =>
    cases t1 with
    | cons r2 t2 =>
      cases t2
      exact ⟨t, _, _, e, ht, r1, r2⟩
theorem sgn_lt (q : Rat) : decide (sgn q < 1) = decide (sgn q ≤ 0) := decide_eq_decide.mpr (by omega)
def spLooks (C : Addr) : Sp := Pu (γ := List (List Rat) × Dat) (fun g vs H => ∃ v w, vs = [v, w] ∧ (isMat C g.1 v H ∧ isDat C g.2 w H ∧ (∃ n, Sq n g.1 ∧ n ≤ 4) ∧ DatFits g.1 g.2)) fun g H v G => v = .bl (looks g.1 g.2)
theorem c__law_looks (T : Txt P w K mg base C) : C8.Cal P w K mg base 44 "_law_looks" (spLooks C) [] := by
  refine cal_by T.d_law_looks sc_law_looks (fun _ _ _ _ _ _ us hl => match us, hl with | [_, _], _ => rfl) len_2 fun f cdv A outer s H vs Q E hr h => ?_
  obtain ⟨⟨m, d⟩, G, e, ⟨v, wv, rfl, hv, hd, ⟨n, hs, hn4⟩, hf⟩, q⟩ := h
  have hd : isDat C d wv G := hd
  have hs : Sq n m := hs
  have hml := hs.len
  have isT : ∀ {σ : L2.St} {G' : Hp}, Ex G G' → σ[1]? = some (some wv) → Ev (tCB (rIsi K) (tCons (tVar 1) (tCons (tC (.ty "tuple")) tNil))) σ G' (isV (.bl (d.kind == .tup))) := fun eG h => ev_isi (k := d.kind) T.isi (.ty _) (isa_tuple T _) (ev_slot (R := kindOf C) h (up_kind _ _ _ _ eG (dat_kind hd)))
  by_cases hk : d.kind = .tup
  case neg =>
    refine ⟨_, (pss_cons (ps_if (PW.pt (pw_or (pt_not (pt_val (pe_callB (r := rIsi K) call_isi (by rfl) T.n_isinstance bo_isinstance (pa_cons (pv 1) (pa_cons (pe_bltn (v := .ty "tuple") rfl T.n_tuple bo_tuple rfl) pa_nil))))) (pw_or (pt_cmpR (cmNe T hr (by decide)) (pe_callB (r := rLen K) call_len_lt (by rfl) T.n_len bo_len (pa_cons (pv 1) pa_nil)) pe_int (nomark _)) (pw_or1 (pt_not (pt_val (pe_callB (call_allB rfl) (by rfl) T.n_all bo_all (pa_cons (pe_lc (own := [("_law_one", 4)]) (g := gName 4) (tt := tYes) rfl sc_law_looks.nd (pi_list (pv 1)) (blkOk_by (own := [("_law_one", 4)]) (by kernel_rfl)) (fun _ _ _ _ _ => (pg_name (i := 4) sc_law_looks.nd rfl (by first | exact Or.inl rfl | exact Or.inr rfl))) (fun _ _ _ _ _ => pts_nil) (fun _ _ _ _ _ => (C8.pe_c (c__law_is_list T) hr (by decide) rfl (pa_cons (pv 4) (pa_cons (pe_callB (r := rLen K) call_len_lt (by rfl) T.n_len bo_len (pa_cons (pv 0) pa_nil)) pa_nil))))) pa_nil)))))))) (pss_one (ps_ret pe_bl)) pss_nil) (pss_cons (ps_asg (pv 1) (pg_tup rfl (pgs_cons (pg_name (i := 2) sc_law_looks.nd rfl (by first | exact Or.inl rfl | exact Or.inr rfl)) (pgs_cons (pg_name (i := 3) sc_law_looks.nd rfl (by first | exact Or.inl rfl | exact Or.inr rfl)) pgs_nil)))) (pss_cons (ps_if (PW.pt (pw_or (pt_cmpR op_lt (pe_pp (p_sign T) hr (by decide) (C8.pe_c (c__law_form T) hr (by decide) rfl (pa_cons (pv 0) (pa_cons (pv 2) (pa_cons (pv 2) pa_nil)))) rfl) pe_int (nomark _)) (pw_or1 (pt_cmpR op_lt (pe_pp (p_sign T) hr (by decide) (C8.pe_c (c__law_form T) hr (by decide) rfl (pa_cons (pv 0) (pa_cons (pv 3) (pa_cons (pv 3) pa_nil)))) rfl) pe_int (nomark _))))) (pss_one (ps_ret pe_bl)) pss_nil) (pss_one (ps_ret (pe_cmpR (cmEq T hr (by decide)) (pe_pp (p_sign T) hr (by decide) (C8.pe_c (c__law_form T) hr (by decide) rfl (pa_cons (pv 0) (pa_cons (pv 2) (pa_cons (pv 3) pa_nil)))) rfl) pe_int (nomark _))))))), ?_⟩
    refine q_take (Grow.rfl e) (EvT.is (et_or (b := true) (et_not (et_B (isT Ex.rfl rfl))) fun hb => ?_) (by rw [Bool.or_true])) fun H2 g2 => ?_
    · rw [beq_false_of_ne hk] at hb
      cases hb
    · refine s_ret g2 ev_c fun v' G3 H3 g3 p => q v' G3 H3 g3 ?_
      obtain rfl : v' = _ := p
      show V.bl false = V.bl (looks m d)
      cases d with
      | tup xs => exact absurd rfl hk
      | atom a => rfl
      | dct => rfl
      | lst xs => rfl
  case pos =>
    obtain ⟨xs, rfl⟩ : ∃ xs, d = .tup xs := by
      cases d with
      | tup xs => exact ⟨xs, rfl⟩
      | atom a => cases a <;> cases hk
      | dct => cases hk
      | lst xs => cases hk
    have hd : tupOf (isItem C) xs wv G := hd
    have hbeq : ((Dat.tup xs).kind == Kind.tup) = true := by show (Kind.tup == Kind.tup) = true; decide
    refine ⟨_, (pss_cons (ps_if (PW.pt (pw_or (pt_not (pt_val (pe_callB (r := rIsi K) call_isi (by rfl) T.n_isinstance bo_isinstance (pa_cons (pv 1) (pa_cons (pe_bltn (v := .ty "tuple") rfl T.n_tuple bo_tuple rfl) pa_nil))))) (pw_or (pt_cmpR (cmNe T hr (by decide)) (pe_callB (r := rLen K) call_len_lt (by rfl) T.n_len bo_len (pa_cons (pv 1) pa_nil)) pe_int (nomark _)) (pw_or1 (pt_not (pt_val (pe_callB (call_allB rfl) (by rfl) T.n_all bo_all (pa_cons (pe_lc (own := [("_law_one", 4)]) (g := gName 4) (tt := tYes) rfl sc_law_looks.nd (pi_tup (pv 1)) (blkOk_by (own := [("_law_one", 4)]) (by kernel_rfl)) (fun _ _ _ _ _ => (pg_name (i := 4) sc_law_looks.nd rfl (by first | exact Or.inl rfl | exact Or.inr rfl))) (fun _ _ _ _ _ => pts_nil) (fun _ _ _ _ _ => (C8.pe_c (c__law_is_list T) hr (by decide) rfl (pa_cons (pv 4) (pa_cons (pe_callB (r := rLen K) call_len_lt (by rfl) T.n_len bo_len (pa_cons (pv 0) pa_nil)) pa_nil))))) pa_nil)))))))) (pss_one (ps_ret pe_bl)) pss_nil) (pss_cons (ps_asg (pv 1) (pg_tup rfl (pgs_cons (pg_name (i := 2) sc_law_looks.nd rfl (by first | exact Or.inl rfl | exact Or.inr rfl)) (pgs_cons (pg_name (i := 3) sc_law_looks.nd rfl (by first | exact Or.inl rfl | exact Or.inr rfl)) pgs_nil)))) (pss_cons (ps_if (PW.pt (pw_or (pt_cmpR op_lt (pe_pp (p_sign T) hr (by decide) (C8.pe_c (c__law_form T) hr (by decide) rfl (pa_cons (pv 0) (pa_cons (pv 2) (pa_cons (pv 2) pa_nil)))) rfl) pe_int (nomark _)) (pw_or1 (pt_cmpR op_lt (pe_pp (p_sign T) hr (by decide) (C8.pe_c (c__law_form T) hr (by decide) rfl (pa_cons (pv 0) (pa_cons (pv 3) (pa_cons (pv 3) pa_nil)))) rfl) pe_int (nomark _))))) (pss_one (ps_ret pe_bl)) pss_nil) (pss_one (ps_ret (pe_cmpR (cmEq T hr (by decide)) (pe_pp (p_sign T) hr (by decide) (C8.pe_c (c__law_form T) hr (by decide) rfl (pa_cons (pv 0) (pa_cons (pv 2) (pa_cons (pv 3) pa_nil)))) rfl) pe_int (nomark _))))))), ?_⟩
    by_cases hl : xs.length = 2
    case neg =>
      refine q_take (Grow.rfl e) (EvT.is (et_or (b := true) (et_not (et_B (isT Ex.rfl rfl))) fun _ => EvT.is (et_or (b := true) (et_test (ev_neU rfl (ev_lenT (ev_slot rfl hd)) ev_c)) fun hb => ?_) (by rw [Bool.or_true])) (by rw [Bool.or_true])) fun H2 g2 => ?_
      · rw [decide_eq_false (fun z => hl (by have := V.int.inj z; omega))] at hb
        cases hb
      · refine s_ret g2 ev_c fun v' G3 H3 g3 p => q v' G3 H3 g3 ?_
        obtain rfl : v' = _ := p
        show V.bl false = V.bl (looks m (.tup xs))
        match xs, hl with
        | [], _ => rfl
        | [_], _ => rfl
        | [_, _], hl => exact absurd rfl hl
        | _ :: _ :: _ :: _, _ => rfl
    case pos =>
      obtain ⟨a, b, rfl⟩ : ∃ a b, xs = [a, b] := match xs, hl with
        | [a, b], _ => ⟨a, b, rfl⟩
      have isl : ∀ {σ : L2.St} {G : Hp} {ta tb : TE} {it : Item} {n : Int}, Ev ta σ G (isItem C it) → Ev tb σ G (isV (.int n)) → n ≤ 100000 → Ev (tCall (spNums C) [] E0 (tCons ta (tCons tb tNil))) σ G (isV (.bl (it.nums n))) := nums_ev
      refine q_if (b := !(a.nums m.length && b.nums m.length)) (Grow.rfl e) (EvT.is (et_or (et_not (et_B (isT Ex.rfl rfl))) fun _ => et_or (et_test (ev_neU rfl (ev_lenT (ev_slot rfl hd)) ev_c)) fun _ =>
        et_not (et_B (ev_all (ev_lc (f := fun it : Item => it.nums m.length) up_bl (by show 2 ≤ 100000; omega) (src_tup (K := K) (ev_slot rfl hd) (fun _ => rfl) fun i it x G' hz eG hx => ⟨et_yes, fun _ => isl (ev_slot rfl hx) (ev_lenL (ev_slot rfl (up_mat _ _ _ _ eG hv))) (by show ((m.length : Nat) : Int) ≤ 100000; omega)⟩)).old))) (by
          rw [hbeq]
          show (!true || ((!decide (V.int (([a, b] : List Item).length : Int) = V.int 2)) || !([a.nums m.length, b.nums m.length].all id))) = _
          rw [show decide (V.int (([a, b] : List Item).length : Int) = V.int 2) = true from rfl]
          simp)) (fun hb H2 g2 => ?_) (fun hb H2 g2 => ?_)
      · refine s_ret g2 ev_c fun v' G3 H3 g3 p => q v' G3 H3 g3 ?_
        obtain rfl : v' = _ := p
        show V.bl false = V.bl (a.nums m.length && (b.nums m.length && shows m a.vals b.vals))
        rw [← Bool.and_assoc, show (a.nums m.length && b.nums m.length) = false from by revert hb; cases (a.nums m.length && b.nums m.length) <;> simp]
        rfl
      · have hab : (a.nums m.length && b.nums m.length) = true := by simpa using hb
        obtain ⟨ha, hb⟩ := Bool.and_eq_true_iff.mp hab
        obtain ⟨f1, f2, f3⟩ := hf a b rfl ha hb
        have hla : a.vals.length = n := by have := nums_len ha; omega
        have hlb : b.vals.length = n := by have := nums_len hb; omega
        refine t_unpack (R := isItem C) (S := isItem C) (x := a) (y := b) g2 (ev_slot rfl (two_pair hd)) fun fv sv G3 H3 e3 g3 hfv hsv => ?_
        have hfr := (item_row hfv ha).1
        have hsr := (item_row hsv hb).1
        have hv3 := up_mat _ _ _ _ g3.kn hv
        refine q_if (b := decide (sgn (value m a.vals a.vals) ≤ 0) || decide (sgn (value m b.vals b.vals) ≤ 0)) g3 (EvT.is (et_or (et_test (ev_int0 (ev_prop (form_ev (ev_slot rfl hv3) (ev_slot rfl hfr) (ev_slot rfl hfr) hs hn4 hla hla f1)) ev_c)) fun _ => et_test (ev_int0 (ev_prop (form_ev (ev_slot rfl hv3) (ev_slot rfl hsr) (ev_slot rfl hsr) hs hn4 hlb hlb f2)) ev_c)) (by rw [sgn_lt, sgn_lt])) (fun hc H4 g4 => ?_) (fun hc H4 g4 => ?_)
        · refine s_ret g4 ev_c fun v' G5 H5 g5 p => q v' G5 H5 g5 ?_
          obtain rfl : v' = _ := p
          show V.bl false = V.bl (a.nums m.length && (b.nums m.length && shows m a.vals b.vals))
          rw [ha, hb]
          unfold shows
          rcases Bool.or_eq_true_iff.mp hc with h | h
          · rw [h]
            rfl
          · rw [h]
            simp
        · refine s_ret g4 (ev_eqU rfl (ev_prop (form_ev (ev_slot rfl hv3) (ev_slot rfl hfr) (ev_slot rfl hsr) hs hn4 hla hlb f3)) ev_c) fun v' G5 H5 g5 p => q v' G5 H5 g5 ?_
          obtain rfl : v' = _ := p
          show V.bl _ = V.bl (a.nums m.length && (b.nums m.length && shows m a.vals b.vals))
          obtain ⟨h1, h2⟩ := Bool.or_eq_false_iff.mp hc
          rw [ha, hb, vint_eq]
          unfold shows
          rw [h1, h2]
          rfl
end
end On
set_option Elab.async false
set_option linter.all false
set_option maxRecDepth 100000
set_option maxHeartbeats 4000000
/-! _law_beside. -/
namespace On
open PySem PySem.Spec PyProof.Rows L2
section
variable {P : Program} {w : World} {K : PySem.W.Frag} {mg : Str → Option Value} {base : Heap} {C : Addr}
/-- a list of n numbers below 2 ^ k -/
def numL (C : Addr) (n k : Nat) : V → Hp → Prop := fun v G => ∃ l : List Rat, gList C l v G ∧ l.length = n ∧ ∀ x ∈ l, sz x ≤ 2 ^ k
theorem up_numL {n k : Nat} : ∀ v G G', Ex G G' → numL C n k v G → numL C n k v G' := fun v G G' e ⟨l, h1, h2, h3⟩ => ⟨l, up_gList _ _ _ _ e h1, h2, h3⟩
theorem list_g {l : List Rat} {v : V} {G : Hp} (h : gList C l v G) : gRow C l v G := .inl h
theorem small_fits {n : Nat} {m : List (List Rat)} (hs : Sq n m) (hn : n ≤ 4) (hen : Ents n 24 m) {p q : List Rat} (hp : p.length = n) (hq : q.length = n) (h1 : ∀ x ∈ p, sz x ≤ 2 ^ 1000) (h2 : ∀ x ∈ q, sz x ≤ 2 ^ 1000) : ValFits m p q :=
  valFits hs hn hen (Nat.le_trans (szL_le h1) (pow_le2 (by omega))) (Nat.le_trans (szL_le h2) (pow_le2 (by omega)))
theorem value_small {n : Nat} {m : List (List Rat)} (hs : Sq n m) (hn : n ≤ 4) (hen : Ents n 24 m) {p q : List Rat} (hp : p.length = n) (hq : q.length = n) (h1 : ∀ x ∈ p, sz x ≤ 2 ^ 3) (h2 : ∀ x ∈ q, sz x ≤ 2 ^ 3) : sz (value m p q) ≤ 2 ^ 444 := by
  have hl := hs.len
  have a1 : szL p ≤ 2 ^ 12 := Nat.le_trans (szL_le h1) (pow_le2 (by omega))
  have a2 : szL q ≤ 2 ^ 12 := Nat.le_trans (szL_le h2) (pow_le2 (by omega))
  have aM : szM m ≤ 2 ^ 384 := by
    have key : ∀ (l : List (List Rat)), (∀ r ∈ l, szL r ≤ 2 ^ 96) → szM l ≤ 2 ^ (l.length * 96) := fun l => by
      induction l with
      | nil => intro _; exact Nat.le_refl _
      | cons r t ih =>
        intro hr
        rw [szM_cons, List.length_cons, Nat.add_mul, Nat.one_mul, Nat.add_comm, Nat.pow_add]
        exact Nat.mul_le_mul (hr r List.mem_cons_self) (ih fun x hx => hr x (List.mem_cons_of_mem _ hx))
    exact Nat.le_trans (key m fun r hr => Nat.le_trans (hen.szL hr) (pow_le2 (by omega))) (pow_le2 (by omega))
  have hpow : szL q ^ m.length ≤ 2 ^ (12 * 4) := by
    refine Nat.le_trans (Nat.pow_le_pow_left a2 _) ?_
    rw [← Nat.pow_mul]
    exact pow_le2 (Nat.mul_le_mul_left _ (by omega))
  refine Nat.le_trans (sz_value m p q) ?_
  rw [show (444 : Nat) = 12 + (384 + 12 * 4) from rfl, Nat.pow_add, Nat.pow_add 2 384]
  exact Nat.mul_le_mul a1 (Nat.mul_le_mul aM hpow)
def spBeside (C : Addr) : Sp := Pu (γ := List (List Rat) × List Rat × List Rat) (fun g vs H => ∃ v w u, vs = [v, w, u] ∧ (isMat C g.1 v H ∧ gList C g.2.1 w H ∧ gList C g.2.2 u H ∧ ∃ n, Sq n g.1 ∧ n ≤ 4 ∧ Ents n 24 g.1 ∧ g.2.1.length = n ∧ g.2.2.length = n ∧ (∀ x ∈ g.2.1, sz x ≤ 2 ^ 3) ∧ ∀ x ∈ g.2.2, sz x ≤ 2 ^ 3)) fun g _ v G => numL C g.2.1.length 1000 v G
theorem c__law_beside (T : Txt P w K mg base C) : C8.Cal P w K mg base 44 "_law_beside" (spBeside C) [] := by
  refine cal_by T.d_law_beside sc_law_beside (fun _ _ _ _ _ _ us hl => match us, hl with | [_, _, _], _ => rfl) len_3 fun f cdv A outer s H vs Q E hr h => ?_
  obtain ⟨⟨m, a, b⟩, G, e, ⟨v, w, u, rfl, hv, hw, hu, n, hs, hn, hen, ha, hb, hsa, hsb⟩, q⟩ := h
  have hs : Sq n m := hs
  have ha : a.length = n := ha
  have hb : b.length = n := hb
  have hL : ∀ x : Nat, x ≤ 100000000 → x + 2 ≤ LIM := fun x hx => by show x + 2 ≤ 130000000; omega
  have up1000 : ∀ {l : List Rat}, (∀ x ∈ l, sz x ≤ 2 ^ 3) → ∀ x ∈ l, sz x ≤ 2 ^ 1000 := fun h x hx => Nat.le_trans (h x hx) (pow_le2 (by omega))
  refine ⟨_, (pss_cons (ps_set (i := 3) sc_law_beside.nd rfl (by first | exact Or.inl rfl | exact Or.inr rfl) (C8.pe_c (c__law_form T) hr (by decide) rfl (pa_cons (pv 0) (pa_cons (pv 1) (pa_cons (pv 1) pa_nil))))) (pss_cons (ps_if (pt_cmpR (cmEq T hr (by decide)) (pe_pp (p_sign T) hr (by decide) (pv 3) rfl) pe_int (nomark _)) (pss_one (ps_ret (pv 2))) pss_nil) (pss_cons (ps_set (i := 4) sc_law_beside.nd rfl (by first | exact Or.inl rfl | exact Or.inr rfl) (C8.pe_mt (m_over T) hr (by decide) (C8.pe_c (c__law_form T) hr (by decide) rfl (pa_cons (pv 0) (pa_cons (pv 1) (pa_cons (pv 2) pa_nil)))) (pa_cons (pv 3) pa_nil))) (pss_one (ps_ret (pe_lc (own := [("_law_one", 5), ("_law_two", 6)]) (g := gTup K 2 (gCons (gName 5) (gCons (gName 6) gNil))) (tt := tYes) rfl sc_law_beside.nd (pi_zip (by rfl) T.n_zip (pa_cons (pv 1) (pa_cons (pv 2) pa_nil))) (blkOk_by (own := [("_law_one", 5), ("_law_two", 6)]) (by kernel_rfl)) (fun _ _ _ _ _ => (pg_tup rfl (pgs_cons (pg_name (i := 5) sc_law_beside.nd rfl (by first | exact Or.inl rfl | exact Or.inr rfl)) (pgs_cons (pg_name (i := 6) sc_law_beside.nd rfl (by first | exact Or.inl rfl | exact Or.inr rfl)) pgs_nil)))) (fun _ _ _ _ _ => pts_nil) (fun _ _ _ _ _ => (pe_op (opSub T hr (by decide)) (pv 6) (pe_op (opMul T hr (by decide)) (pv 4) (pv 5)))))))))), ?_⟩
  refine t_set (P := isR C (value m a a)) (Grow.rfl e) (form_ev (ev_slot rfl hv) (ev_slot rfl (list_g hw)) (ev_slot rfl (list_g hw)) hs hn ha ha (small_fits hs hn hen ha ha (up1000 hsa) (up1000 hsa))) fun wv G1 H1 e1 g1 hwv => ?_
  refine q_if (b := decide (sgn (value m a a) = 0)) g1 (EvT.is (et_test (ev_eqU rfl (ev_prop (ev_slot rfl hwv)) ev_c)) vint_eq) (fun hz H2 g2 => ?_) (fun hz H2 g2 => ?_)
  · refine s_ret g2 (ev_slot (R := gList C) rfl (up_gList _ _ _ _ g1.kn hu)) fun v' G' H' g p => q v' G' H' g ⟨b, p, by show b.length = a.length; omega, up1000 hsb⟩
  · have hz0 : value m a a ≠ 0 := fun z => of_decide_eq_false hz ((sgn_zero _).mpr z)
    have s1 := value_small hs hn hen ha ha hsa hsa
    have s2 := value_small hs hn hen ha hb hsa hsb
    unfold tNext
    dsimp only
    refine t_set (P := isR C (value m a b / value m a a)) g2 (ev_over (form_ev (ev_slot rfl (up_mat _ _ _ _ g1.kn hv)) (ev_slot rfl (list_g (up_gList _ _ _ _ g1.kn hw))) (ev_slot rfl (list_g (up_gList _ _ _ _ g1.kn hu))) hs hn ha hb (small_fits hs hn hen ha hb (up1000 hsa) (up1000 hsb))) (Tr.num (ev_slot rfl hwv)) hz0 (Fits.ok2 (fitsE (n := 444 + 444) (hL _ (by omega)) (by rw [Nat.pow_add]; exact Nat.mul_le_mul s2 s1)))) fun tv G3 H3 e3 g3 htv => ?_
    have st : sz (value m a b / value m a a) ≤ 2 ^ (444 + 444) := Nat.le_trans (sz_div _ _ hz0) (by rw [Nat.pow_add]; exact Nat.mul_le_mul s2 s1)
    refine s_ret (P := isRow C ((a.zip b).map fun z : Rat × Rat => z.2 - value m a b / value m a a * z.1)) g3 (ev_lc (R := isR C) (f := fun z : Rat × Rat => z.2 - value m a b / value m a a * z.1) up_isR (by rw [List.length_zip]; omega) (src_zip (K := K) (ea_2 up_gList up_gList (ev_slot rfl (up_gList _ _ _ _ g3.kn hw)) (ev_slot rfl (up_gList _ _ _ _ g3.kn hu))) (fun _ _ => rfl) fun i x y vx vy G4 hx hy e4 sx sy => ⟨et_yes, fun _ => ?_⟩)).old fun v' G' H' g p => q v' G' H' g ?_
    · have hxs := hsa _ (mem_of_get hx)
      have hys := hsb _ (mem_of_get hy)
      have m1 : sz (value m a b / value m a a * x) ≤ 2 ^ (444 + 444 + 3) := Nat.le_trans (sz_mul _ _) (by rw [Nat.pow_add 2 (444 + 444)]; exact Nat.mul_le_mul st hxs)
      refine ev_subF (ev_slot rfl sy) (ev_mulN (ev_slot rfl (up_isR _ _ _ _ e4 htv)) (ev_slot rfl sx) (Fits.ok2 (fitsE (n := 444 + 444 + 3) (hL _ (by omega)) ?_))) (Fits.ok2 (fitsE (n := 3 + (444 + 444 + 3)) (hL _ (by omega)) ?_))
      · rw [Nat.pow_add 2 (444 + 444)]; exact Nat.mul_le_mul st hxs
      · rw [Nat.pow_add 2 3]; exact Nat.mul_le_mul hys m1
    · obtain ⟨ad, xs, e1', ha', all⟩ := p
      refine ⟨_, ⟨ad, xs, e1', ha', all.mono fun _ _ h => .inr h⟩, by rw [List.length_map, List.length_zip]; show min a.length b.length = a.length; omega, fun x hx => ?_⟩
      obtain ⟨⟨x1, y1⟩, hz', rfl⟩ := List.mem_map.mp hx
      have hm := List.of_mem_zip hz'
      have hxs := hsa _ hm.1
      have hys := hsb _ hm.2
      refine Nat.le_trans (sz_sub _ _) (Nat.le_trans (Nat.mul_le_mul hys (Nat.le_trans (sz_mul _ _) (Nat.mul_le_mul st hxs))) ?_)
      rw [← Nat.pow_add, ← Nat.pow_add]
      exact pow_le2 (by omega)
end
end On
set_option Elab.async false
set_option linter.all false
set_option maxRecDepth 100000
set_option maxHeartbeats 4000000
/-! Values of any kind, whose numbers are not too large. -/
namespace On
open PySem PySem.Spec PyProof.Rows L2
/-- a component's numbers are not too large -/
def ItemFit (it : Item) : Prop := szL it.vals ≤ 2 ^ 25000000
def DatOk (d : Dat) : Prop := ∀ a b, d = .tup [a, b] → ItemFit a ∧ ItemFit b
def okI (C : Addr) : Unit → V → Hp → Prop := fun _ v G => ∃ it, isItem C it v G ∧ ItemFit it
def okD (C : Addr) : Unit → V → Hp → Prop := fun _ v G => ∃ d, isDat C d v G ∧ DatOk d
theorem up_okI {C : Addr} : Up (okI C) := fun _ v H H' e ⟨it, h1, h2⟩ => ⟨it, up_item _ _ _ _ e h1, h2⟩
theorem up_okD {C : Addr} : Up (okD C) := fun _ v H H' e ⟨d, h1, h2⟩ => ⟨d, up_dat _ _ _ _ e h1, h2⟩
section
variable {C : Addr}
theorem okI_all {G : Hp} : ∀ {xs : List V} {us : List Unit}, All2 (fun x z => okI C z x G) xs us → ∃ its : List Item, All2 (fun x z => isItem C z x G) xs its ∧ ∀ it ∈ its, ItemFit it
  | _, _, .nil => ⟨[], .nil, fun _ h => (nomatch h)⟩
  | _, _, .cons r t => by
    obtain ⟨it, h1, h2⟩ := r
    obtain ⟨its, k1, k2⟩ := okI_all t
    exact ⟨it :: its, .cons h1 k1, fun x hx => by
      rcases List.mem_cons.mp hx with rfl | hx
      · exact h2
      · exact k2 x hx⟩
/-- a tuple, a list of such -/
theorem okD_tup {us : List Unit} {v : V} {G : Hp} (h : tupOf (okI C) us v G) : okD C () v G := by
  obtain ⟨a, xs, e, ha, all⟩ := h
  obtain ⟨its, k1, k2⟩ := okI_all all
  exact ⟨.tup its, ⟨a, xs, e, ha, k1⟩, fun x y hxy => by
    cases hxy
    exact ⟨k2 _ (by simp), k2 _ (by simp)⟩⟩
theorem okD_lst {us : List Unit} {v : V} {G : Hp} (h : lstOf (okI C) us v G) : okD C () v G := by
  obtain ⟨a, xs, e, ha, all⟩ := h
  obtain ⟨its, k1, _⟩ := okI_all all
  exact ⟨.lst its, ⟨a, xs, e, ha, k1⟩, fun x y hxy => by cases hxy⟩
theorem okD_non {G : Hp} : okD C () .non G := ⟨.atom .non, rfl, fun x y h => by cases h⟩
theorem okD_str {s : Str} {G : Hp} : okD C () (.str s) G := ⟨.atom (.str s), rfl, fun x y h => by cases h⟩
theorem okI_non {G : Hp} : okI C () .non G := ⟨.atom .non, rfl, Nat.one_le_two_pow⟩
/-- a list or tuple of numbers -/
theorem okI_row {l : List Rat} {v : V} {G : Hp} (h : gRow C l v G) (hl : szL l ≤ 2 ^ 25000000) : okI C () v G := by
  obtain ⟨it, h1, _, h3⟩ := row_item h
  refine ⟨it, h1, ?_⟩
  unfold ItemFit
  rw [h3]
  exact hl
theorem okI_num {n k : Nat} {v : V} {G : Hp} (hn : n ≤ 4) (hk : k ≤ 1000) (h : numL C n k v G) : okI C () v G := by
  obtain ⟨l, h1, h2, h3⟩ := h
  refine okI_row (list_g h1) (Nat.le_trans (szL_le h3) (pow_le2 ?_))
  have : l.length * k ≤ 4 * 1000 := Nat.mul_le_mul (by omega) hk
  omega
/-- a list of atoms -/
theorem okI_atoms {as : List Atom} {v : V} {G : Hp} (h : lstOf (isAtom C) as v G) (hl : szL (as.map Atom.val) ≤ 2 ^ 25000000) : okI C () v G := ⟨.lst as, h, hl⟩
/-- sizes that are looked at -/
theorem DatOk.fits {n : Nat} {m : List (List Rat)} {d : Dat} (h : DatOk d) (hs : Sq n m) (hn : n ≤ 4) (hen : Ents n 24 m) : DatFits m d := fun a b e _ _ => by
  obtain ⟨h1, h2⟩ := h a b e
  exact ⟨valFits hs hn hen h1 h1, valFits hs hn hen h2 h2, valFits hs hn hen h1 h2⟩
end
section
variable {p : Addr} {K : PySem.W.Frag} {σ : L2.St} {G0 H1 G H : Hp} {ta te : TE} {t : TA} {P P' : V → Hp → Prop} {D : Ends} {tz : TS} {γ : Type} {R : γ → V → Hp → Prop} {zs ws : List γ}
theorem EvA.upA {PA : List V → Hp → Prop} {H' : Hp} (up : ∀ vs G G', Ex G G' → PA vs G → PA vs G') (e : Ex H H') (h : EvA t σ H PA) : EvA t σ H' PA := fun H1 e1 Q q => h H1 (e.trans e1) Q fun vs G H2 g p => q vs _ H2 (g.join e e1) (up vs G _ (join_r (e1.trans g.ol) g.re) p)
theorem Gp.free {a : Addr} {G' H' : Hp} (g : Gp p G0 H1 G H) (e : Ex H H') (h : H' a = none) : H1 a = none ∧ a ≠ p ∧ G a = none := by
  have hH := e.back h
  have hp : a ≠ p := fun q => g.st.ok.some (by rw [← q]; exact hH)
  refine ⟨?_, hp, g.st.ex.back hH⟩
  cases q : H1 a with
  | none => rfl
  | some u => rw [g.ol a u hp q] at hH; cases hH
/-- x, xs = e, [..]: the new list stays unknown -/
theorem p_parH {i j : Nat} {x : V} (up : Up R) (g : Gp p G0 H1 G H) (ha : Ev ta σ G (isV x)) (hb : EvA t σ G fun vs G => All2 (fun x z => R z x G) vs zs) (hz : zs.length ≤ 100000)
    (k : ∀ a xs G' H', H1 a = none → a ≠ p → G a = none → G' a = none → H' a = some (.lst xs) → All2 (fun x z => R z x G') xs zs → Ex G G' → Gp p G0 H1 G' H' → tz D ((σ.set i (some x)).set j (some (.ref a))) H') :
    tSeq (tPar i j (tCons ta (tCons (tLst t) tNil))) tz D σ H := ha H g.st.ex _ fun v G1 H2 g1 ev => by
  subst ev
  refine (hb.upA (fun vs G G' e all => all.mono fun _ _ r => up _ _ _ _ e r) g1.kn) H2 g1.re _ fun vs G2 H3 g2 all => ?_
  refine ⟨by rw [all.len]; exact Nat.le_trans hz (by show _ ≤ 2 ^ 24; decide), fun a hn => ?_⟩
  have g3 := g1.trans g2
  obtain ⟨f1, f2, f3⟩ := g.free (G' := G) g3.ol hn
  exact ⟨v, .ref a, rfl, k a vs G2 _ f1 f2 f3 (g3.re.back hn) upd_same all g3.kn (g.trans (Gp.of g.st (g3.trans (Grow.hid g3.re hn))))⟩
/-- o.extend(e) at a list that changes -/
theorem p_ext {a : Addr} {i : Nat} {xs : List V} (up : Up R) (g : Gp p G0 H1 G H) (hs : σ[i]? = some (some (.ref a))) (ha : H a = some (.lst xs)) (hl : xs.length + zs.length ≤ 100000) (h1 : H1 a = none) (hp : a ≠ p) (hg : G a = none) (h : Ev te σ G (lstOf R zs))
    (c : ∀ ys G' H', All2 (fun x z => R z x G') ys zs → Ex G G' → G' a = none → H' a = some (.lst (xs ++ ys)) → Gp p G0 H1 G' H' → D.nx σ H') : tDrop (tBM K "list" rExtend (tVar i) (tCons te tNil)) D σ H := by
  refine ⟨.ref a, hs, .inl ⟨rfl, xs, SqL.of ha⟩, ?_⟩
  refine h H g.st.ex _ fun v G2 H2 g2 ⟨b, ys, ev, hb, all⟩ => ?_
  have ha2 := g2.ol _ _ ha
  refine ⟨a, b, xs, ys, rfl, by rw [ev], ha2, g2.re _ _ hb, ?_, ?_⟩
  · rw [all.len]
    exact Nat.le_trans hl (by show _ ≤ 2 ^ 24; decide)
  · exact c ys G2 _ all g2.kn (g2.away hg ha) upd_same ((g.trans (Gp.of g.st g2)).mut hp h1 (g2.away hg ha))
/-- o.append(e) -/
theorem p_app {a : Addr} {i : Nat} {xs : List V} {z : γ} (up : Up R) (g : Gp p G0 H1 G H) (hs : σ[i]? = some (some (.ref a))) (ha : H a = some (.lst xs)) (hl : xs.length ≤ 100000) (h1 : H1 a = none) (hp : a ≠ p) (hg : G a = none) (h : Ev te σ G (R z))
    (c : ∀ v G' H', R z v G' → Ex G G' → G' a = none → H' a = some (.lst (xs ++ [v])) → Gp p G0 H1 G' H' → D.nx σ H') : tDrop (tBM K "list" rAppend (tVar i) (tCons te tNil)) D σ H := by
  refine ⟨.ref a, hs, .inl ⟨rfl, xs, SqL.of ha⟩, ?_⟩
  refine h H g.st.ex _ fun v G2 H2 g2 r => ?_
  exact ⟨a, xs, v, rfl, rfl, g2.ol _ _ ha, Nat.lt_of_le_of_lt hl (by show _ < 2 ^ 24; decide), c v G2 _ r g2.kn (g2.away hg ha) upd_same ((g.trans (Gp.of g.st g2)).mut hp h1 (g2.away hg ha))⟩
end
end On
set_option Elab.async false
set_option linter.all false
set_option maxRecDepth 100000
set_option maxHeartbeats 4000000
/-! _law_values. -/
namespace On
open PySem PySem.Spec PyProof.Rows L2
section
variable {p : Addr} {K : PySem.W.Frag} {σ : L2.St} {G : Hp} {C : Addr} {ta tb : TE} {t : TA}
theorem ev_okT {us : List Unit} (hz : us.length ≤ 100000) (h : EvA t σ G fun vs G => All2 (fun x z => okI C z x G) vs us) : Ev (tTup t) σ G (okD C ()) := Tr.imp (ev_tup up_okI hz h) fun _ _ _ h => okD_tup h
theorem ev_okL {us : List Unit} (hz : us.length ≤ 100000) (h : EvA t σ G fun vs G => All2 (fun x z => okI C z x G) vs us) : Ev (tLst t) σ G (okD C ()) := Tr.imp (ev_lst up_okI hz h).old fun _ _ _ h => okD_lst h
theorem ea_i1 (h : Ev ta σ G (okI C ())) : EvA (tCons ta tNil) σ G fun vs G => All2 (fun x z => okI C z x G) vs [()] := ea_consR up_okI h ea_nilR
theorem ea_i2 (h : Ev ta σ G (okI C ())) (h2 : Ev tb σ G (okI C ())) : EvA (tCons ta (tCons tb tNil)) σ G fun vs G => All2 (fun x z => okI C z x G) vs [(), ()] := ea_consR up_okI h (ea_i1 h2)
theorem ev_dict : Ev tDNewK σ G (okD C ()) := fun H1 e Q q a ha => q (.ref a) _ _ (Grow.new e ha) ⟨.dct, ⟨a, rfl, upd_same⟩, fun x y h => by cases h⟩
end
section
variable {p : Addr} {K : PySem.W.Frag} {σ : L2.St} {G0 H1 G H : Hp} {te tl : TE} {D : Ends} {tb tz : TS} {γ δ : Type} {R : γ → V → Hp → Prop} {S : δ → V → Hp → Prop} {x : γ} {y : δ}
theorem p_unpack {i j : Nat} (g : Gp p G0 H1 G H) (h : Ev te σ G (pairOf R S (x, y))) (k : ∀ v w G' H', Gp p G H G' H' → Gp p G0 H1 G' H' → R x v G' → S y w G' → tz D ((σ.set i (some v)).set j (some w)) H') :
    tSeq (tAsg te (gTup K 2 (gCons (gName i) (gCons (gName j) gNil)))) tz D σ H :=
  p_fin (Q := fun v H' => gTup K 2 (gCons (gName i) (gCons (gName j) gNil)) v σ H' fun σ2 H2 => tz D σ2 H2) g (Tr.pot h) fun v G' H' ex g' ⟨t, a, b, e, ht, ra, sb⟩ => by
    subst e
    exact step_pair (K := K) (i := i) (j := j) (g'.st.ex _ _ ht) (fun σ2 H2 => tz D σ2 H2) (k a b G' H' ex g' ra sb)
/-- for x in a list, while the pot may change -/
theorem p_forL {zs : List δ} {j : Nat} (up : Up S) (gr : Gp p G0 H1 G H) (h : Ev tl σ G (lstOf S zs)) (I : Nat → L2.St → Hp → Hp → Prop) (i0 : ∀ G' H', Gp p G H G' H' → Gp p G0 H1 G' H' → I 0 σ G' H')
    (hs : ∀ (i : Nat) z x σ' G' H', zs[i]? = some z → S z x G' → Ex G G' → Gp p G0 H1 G' H' → I i σ' G' H' → ∀ N : L2.St → Hp → Prop, (∀ σ3 G3 H3, Ex G' G3 → Gp p G0 H1 G3 H3 → I (i + 1) σ3 G3 H3 → N σ3 H3) → tb { D with nx := N, ct := N, bk := tz D } (σ'.set j (some x)) H')
    (hd : ∀ σ' G' H', Ex G G' → Gp p G0 H1 G' H' → I zs.length σ' G' H' → tz D σ' H') : tSeq (tFor (iList K tl) (gName j) tb) tz D σ H :=
  (Tr.pot h) H gr.st _ fun v Gs Hs g1 ⟨a, xs, ev, ha, all⟩ => by
    refine ⟨a, ev, ⟨xs, SqL.of (g1.st.ex _ _ ha)⟩, ?_⟩
    refine for_it (D := { D with nx := tz D }) (walk_list (xs := xs)) (fun i σ' H' => ∃ G', Ex Gs G' ∧ Gp p G0 H1 G' H' ∧ I i σ' G' H') ⟨Gs, Ex.rfl, gr.trans g1, i0 Gs Hs g1 (gr.trans g1)⟩ ?_ ?_ ?_
    · rintro i σ' H' _ ⟨G', e, g', _⟩
      exact SqL.of (g'.st.ex _ _ (e _ _ ha))
    · rintro i x σ' H' H'' hi ⟨G', e, g', iv⟩ hy
      obtain ⟨e2, hx⟩ := hy
      subst e2
      obtain ⟨z, hz, s⟩ := all.get hx
      exact hs i z x σ' G' _ hz (up _ _ _ _ e s) (g1.kn.trans e) g' iv _ fun σ3 G3 H3 e3 g3 i3 => ⟨G3, e.trans e3, g3, i3⟩
    · rintro σ' H' ⟨G', e, g', iv⟩
      exact hd σ' G' H' (g1.kn.trans e) g' (by rw [← all.len]; exact iv)
end
section
variable {P : Program} {w : World} {K : PySem.W.Frag} {mg : Str → Option Value} {base : Heap} {C : Addr}
theorem szL_times {z : Rat} : ∀ x : List Rat, szL (x.map fun q => z * q) ≤ sz z ^ x.length * szL x
  | [] => Nat.le_refl _
  | a :: r => by
    show sz (z * a) * szL (r.map fun q => z * q) ≤ sz z ^ (r.length + 1) * (sz a * szL r)
    refine Nat.le_trans (Nat.mul_le_mul (sz_mul z a) (szL_times r)) (Nat.le_of_eq ?_)
    rw [Nat.pow_succ]
    ac_rfl
theorem szL_add (u v : List Rat) : szL ((u.zip v).map fun z => z.1 + z.2) ≤ szL u * szL v := by
  induction u generalizing v with
  | nil => exact Nat.mul_pos Nat.one_pos (szL_pos v)
  | cons a r ih =>
    cases v with
    | nil => exact Nat.mul_pos (szL_pos _) Nat.one_pos
    | cons b s =>
      show sz (a + b) * szL ((r.zip s).map _) ≤ sz a * szL r * (sz b * szL s)
      refine Nat.le_trans (Nat.mul_le_mul (sz_add a b) (ih s)) (Nat.le_of_eq ?_)
      ac_rfl
theorem szL_cut (x : List Rat) (k : Nat) : szL (x.take k) * szL (x.drop (k + 1)) ≤ szL x := by
  have h1 : szL (x.drop (k + 1)) ≤ szL (x.drop k) := by
    rw [show x.drop (k + 1) = (x.drop k).drop 1 from by rw [List.drop_drop]]
    exact szL_drop _ _
  refine Nat.le_trans (Nat.mul_le_mul_left _ h1) (Nat.le_of_eq ?_)
  rw [← szL_append, List.take_append_drop]
/-- a row's numbers as atoms -/
theorem row_atoms {C : Addr} {l : List Rat} {v : V} {G : Hp} (h : isRow C l v G) : lstOf (isAtom C) (l.map Atom.rat) v G := by
  obtain ⟨a, xs, e, ha, all⟩ := h
  exact ⟨a, xs, e, ha, All2.mapR (f := Atom.rat) (T := fun x z => isAtom C z x G) all⟩
theorem vals_rat (l : List Rat) : (l.map Atom.rat).map Atom.val = l := by
  rw [List.map_map]
  exact List.map_id' l
/-- a told pair, or None -/
def toldOk (n : Nat) (o : Option (List Rat × List Rat)) : Prop := ∀ x y, o = some (x, y) → x.length = n ∧ y.length = n ∧ szL x ≤ 2 ^ 9000000 ∧ szL y ≤ 2 ^ 9000000
abbrev isTold (C : Addr) : Option (List Rat × List Rat) → V → Hp → Prop := optOf (pairOf (isRow C) (isRow C))
def spVals (C : Addr) : Sp := PuP (γ := List (List Rat) × Option (List Rat × List Rat)) (fun p g vs H => ∃ v w, vs = [.ref p, v, w] ∧ isMat C g.1 v H ∧ isTold C g.2 w H ∧ ∃ n, Sq n g.1 ∧ 1 ≤ n ∧ n ≤ 4 ∧ Ents n 24 g.1 ∧ toldOk n g.2) fun g _ v G => ∃ us, lstOf (okD C) us v G ∧ us.length ≤ 1000
theorem len_vals : ∀ vs H Q E, spVals C vs H Q E → vs.length = 3 := lenP fun p g vs H ⟨v, w, e, _⟩ => by rw [e] <;> rfl
theorem list_ev {σ : L2.St} {G : Hp} {p : Addr} {i k n : Nat} (hs : σ[i]? = some (some (.ref p))) (hk : σ[k]? = some (some (.int (n : Int)))) (h0 : 0 < n) (hn : n ≤ 1000) : EvP p (tCall (spList C) [] E0 (tCons (tVar i) (tCons (tVar k) tNil))) σ G (numL C n 3) :=
  pv_call (pa_2 (P := isV (.ref p)) (P' := isV (.int (n : Int))) (fun _ _ _ _ h => h) (fun _ _ _ _ h => h) (Tr.pot (ev_var hs)) (Tr.pot (ev_var hk))) fun vs G' e hp ⟨v, w, ev, hv, hw⟩ => PuP.tr (g := n) ⟨by rw [ev, hv, hw], h0, hn⟩
theorem c__law_values (T : Txt P w K mg base C) : C8.Cal P w K mg base 45 "_law_values" (spVals C) [] := by
  refine cal_by T.d_law_values sc_law_values (fun _ _ _ _ _ _ us hl => match us, hl with | [_, _, _], _ => rfl) len_vals fun f cdv A outer s H vs Q E hr h => ?_
  obtain ⟨p, ⟨m, told⟩, G, st, ⟨v, tv, rfl, hv, htv, n, hs, hn1, hn4, hen, htold⟩, q⟩ := h
  have hs : Sq n m := hs
  have hml := hs.len
  refine ⟨_, (pss_cons (ps_par (i := 3) (j := 4) rfl sc_law_values.nd rfl rfl (by decide) rfl rfl (pa_cons (pe_callB (r := rLen K) call_len_lt (by rfl) T.n_len bo_len (pa_cons (pv 1) pa_nil)) (pa_cons (pe_lst (pa_cons pe_non (pa_cons (pe_tup pa_nil) (pa_cons (pe_lst pa_nil) (pa_cons pe_str (pa_cons pe_dnewK pa_nil)))))) pa_nil)) (by rfl)) (pss_cons (ps_for PassesOwn.never rfl (pi_range1 rfl T.n_range (pa_cons pe_int pa_nil)) (pg_name (i := 5) sc_law_values.nd rfl (by first | exact Or.inl rfl | exact Or.inr rfl)) (pss_cons (ps_set (i := 6) sc_law_values.nd rfl (by first | exact Or.inl rfl | exact Or.inr rfl) (C8.pe_c (c__law_list T) hr (by decide) rfl (pa_cons (pv 0) (pa_cons (pv 3) pa_nil)))) (pss_cons (ps_set (i := 7) sc_law_values.nd rfl (by first | exact Or.inl rfl | exact Or.inr rfl) (C8.pe_c (c__law_list T) hr (by decide) rfl (pa_cons (pv 0) (pa_cons (pv 3) pa_nil)))) (pss_one (ps_expr (pe_bm PySem.F.plainAttrs_list PySem.F.slot_list_extend PySem.F.type_list_extend mt_extend (pv 4) (pa_cons (pe_lst (pa_cons (pe_tup (pa_cons (pv 6) (pa_cons (pv 7) pa_nil))) (pa_cons (pe_tup (pa_cons (pv 6) (pa_cons (C8.pe_c (c__law_beside T) hr (by decide) rfl (pa_cons (pv 1) (pa_cons (pv 6) (pa_cons (pv 7) pa_nil)))) pa_nil))) pa_nil))) pa_nil))))))) (pss_cons (ps_if (pt_cmpR op_isN (pv 2) pe_non (nomark _)) (pss_one (ps_ret (pv 4))) pss_nil) (pss_cons (ps_asg (pv 2) (pg_tup rfl (pgs_cons (pg_name (i := 6) sc_law_values.nd rfl (by first | exact Or.inl rfl | exact Or.inr rfl)) (pgs_cons (pg_name (i := 7) sc_law_values.nd rfl (by first | exact Or.inl rfl | exact Or.inr rfl)) pgs_nil)))) (pss_cons (ps_expr (pe_bm PySem.F.plainAttrs_list PySem.F.slot_list_extend PySem.F.type_list_extend mt_extend (pv 4) (pa_cons (pe_lst (pa_cons (pe_tup (pa_cons (pv 7) (pa_cons (pv 6) pa_nil))) (pa_cons (pe_tup (pa_cons (pe_callTy (r := rTupleOf K) call_tuple_of (by rfl) T.n_tuple bo_tuple (pa_cons (pv 6) pa_nil)) (pa_cons (pe_callTy (r := rListOf K) call_list_of (by rfl) T.n_list bo_list (pa_cons (pv 7) pa_nil)) pa_nil))) (pa_cons (pe_lst (pa_cons (pv 6) (pa_cons (pv 7) pa_nil))) (pa_cons (pe_tup (pa_cons (pv 6) (pa_cons (pv 7) (pa_cons (pv 6) pa_nil)))) (pa_cons (pe_tup (pa_cons (pv 6) pa_nil)) (pa_cons (pe_tup (pa_cons (pv 6) (pa_cons (pv 6) pa_nil))) pa_nil))))))) pa_nil))) (pss_cons (ps_set (i := 8) sc_law_values.nd rfl (by first | exact Or.inl rfl | exact Or.inr rfl) (C8.pe_c (c__law_pick T) hr (by decide) rfl (pa_cons (pv 0) (pa_cons (pe_lst (pa_cons pe_int (pa_cons (pe_un un_neg pe_int) (pa_cons (C8.pe_mk (k_ratio2 T) hr (by decide) rfl (pa_cons pe_int (pa_cons pe_int pa_nil))) (pa_cons pe_int pa_nil))))) pa_nil)))) (pss_cons (ps_expr (pe_bm PySem.F.plainAttrs_list PySem.F.slot_list_extend PySem.F.type_list_extend mt_extend (pv 4) (pa_cons (pe_lst (pa_cons (pe_tup (pa_cons (pe_lc (own := [("_law_one", 11)]) (g := gName 11) (tt := tYes) rfl sc_law_values.nd (pi_list (pv 6)) (blkOk_by (own := [("_law_one", 11)]) (by kernel_rfl)) (fun _ _ _ _ _ => (pg_name (i := 11) sc_law_values.nd rfl (by first | exact Or.inl rfl | exact Or.inr rfl))) (fun _ _ _ _ _ => pts_nil) (fun _ _ _ _ _ => (pe_op (opMul T hr (by decide)) (pv 8) (pv 11)))) (pa_cons (pv 7) pa_nil))) (pa_cons (pe_tup (pa_cons (pv 6) (pa_cons (pe_lc (own := [("_law_one", 11), ("_law_two", 12)]) (g := gTup K 2 (gCons (gName 11) (gCons (gName 12) gNil))) (tt := tYes) rfl sc_law_values.nd (pi_zip (by rfl) T.n_zip (pa_cons (pv 6) (pa_cons (pv 7) pa_nil))) (blkOk_by (own := [("_law_one", 11), ("_law_two", 12)]) (by kernel_rfl)) (fun _ _ _ _ _ => (pg_tup rfl (pgs_cons (pg_name (i := 11) sc_law_values.nd rfl (by first | exact Or.inl rfl | exact Or.inr rfl)) (pgs_cons (pg_name (i := 12) sc_law_values.nd rfl (by first | exact Or.inl rfl | exact Or.inr rfl)) pgs_nil)))) (fun _ _ _ _ _ => pts_nil) (fun _ _ _ _ _ => (pe_op (opAdd T hr (by decide)) (pv 11) (pv 12)))) pa_nil))) pa_nil))) pa_nil))) (pss_cons (ps_set (i := 9) sc_law_values.nd rfl (by first | exact Or.inl rfl | exact Or.inr rfl) (C8.pe_c (c__law_draw T) hr (by decide) rfl (pa_cons (pv 0) (pa_cons (pv 3) pa_nil)))) (pss_cons (ps_for PassesOwn.never rfl (pi_list (pe_lst (pa_cons pe_non (pa_cons pe_bl (pa_cons pe_str (pa_cons (pe_op (opAdd T hr (by decide)) (pe_ix (r := rIxLT K) ix_lt (pv 6) (pv 9) (fun _ _ => rfl)) pe_int) pa_nil)))))) (pg_name (i := 10) sc_law_values.nd rfl (by first | exact Or.inl rfl | exact Or.inr rfl)) (pss_one (ps_expr (pe_bm PySem.F.plainAttrs_list PySem.F.slot_list_append PySem.F.type_list_append mt_append (pv 4) (pa_cons (pe_tup (pa_cons (pe_op (opAdd T hr (by decide)) (pe_op (opAdd T hr (by decide)) (pe_slice (r := rSlL K) sl_list (pv 6) po_none (po_some (pv 9))) (pe_lst (pa_cons (pv 10) pa_nil))) (pe_slice (r := rSlL K) sl_list (pv 6) (po_some (pe_op (opAdd T hr (by decide)) (pv 9) pe_int)) po_none)) (pa_cons (pv 7) pa_nil))) pa_nil))))) (pss_one (ps_ret (pe_op (opAdd T hr (by decide)) (pv 4) (pe_lst (pa_cons (pe_tup (pa_cons (pe_op (opAdd T hr (by decide)) (pv 6) (pe_lst (pa_cons pe_int pa_nil))) (pa_cons (pv 7) pa_nil))) (pa_cons (pe_tup (pa_cons (pv 6) (pa_cons (pe_slice (r := rSlL K) sl_list (pv 7) (po_some pe_int) po_none) pa_nil))) (pa_cons (pe_tup (pa_cons (pv 6) (pa_cons pe_non pa_nil))) pa_nil)))))))))))))))), ?_⟩
  refine p_parH (R := okD C) (zs := [(), (), (), (), ()]) (x := .int (n : Int)) up_okD (Gp.rfl st) (by rw [← hml]; exact ev_lenL (ev_slot rfl hv)) (ea_consR up_okD (Tr.imp ev_c fun _ _ _ e => by rw [e]; exact okD_non) (ea_consR up_okD (ev_okT (us := []) (Nat.zero_le _) ea_nilR) (ea_consR up_okD (ev_okL (us := []) (Nat.zero_le _) ea_nilR) (ea_consR up_okD (Tr.imp ev_c fun _ _ _ e => by rw [e]; exact okD_str) (ea_consR up_okD ?_ ea_nilR))))) (by decide) fun a xs G1 H1 h1a hap hGa hga ha all e1 g1 => ?_
  · exact ev_dict
  have nfit : ∀ {v : V} {G' : Hp} {k : Nat}, k ≤ 1000 → numL C n k v G' → okI C () v G' := fun hk h => okI_num hn4 hk h
  refine p_forR (n := 4) g1 (EvA.pot (rng_int (ev_c (v := .int ((4 : Nat) : Int))))) (by decide) (fun i σ' G' H' => ∃ xs us o5 o6 o7, σ' = [some (.ref p), some v, some tv, some (.int (n : Int)), some (.ref a), o5, o6, o7, none, none, none, none, none] ∧ H' a = some (.lst xs) ∧ G' a = none ∧ All2 (fun x z => okD C z x G') xs us ∧ us.length = 5 + 2 * i)
    (fun G' H' g' _ => ⟨xs, _, _, _, _, rfl, g'.ol _ _ hap ha, g'.away hga ha, all.mono fun _ _ r => up_okD _ _ _ _ g'.kn r, rfl⟩) ?_ ?_
  · rintro i σ' G2 H2 hi e2 g2 ⟨xs, us, o5, o6, o7, rfl, ha2, hga2, all2, hul⟩ N hN
    refine p_set (P := numL C n 3) g2 (list_ev (i := 0) (k := 3) rfl rfl (by omega) (by omega)) fun fv G3 H3 g3' g3 hfv => ?_
    refine p_set (P := numL C n 3) g3 (list_ev (i := 0) (k := 3) rfl rfl (by omega) (by omega)) fun sv G4 H4 g4' g4 hsv => ?_
    have hfv4 := up_numL _ _ _ g4'.kn hfv
    have ha4 := g4'.ol _ _ hap (g3'.ol _ _ hap ha2)
    have hga4 := g4'.away (g3'.away hga2 ha2) (g3'.ol _ _ hap ha2)
    have hv4 := up_mat _ _ _ _ g4.kn hv
    have hb : ∀ {σ : L2.St}, σ[1]? = some (some v) → σ[6]? = some (some fv) → σ[7]? = some (some sv) → Ev (tCall (spBeside C) [] E0 (tCons (tVar 1) (tCons (tVar 6) (tCons (tVar 7) tNil)))) σ G4 (okI C ()) := fun h1 h6 h7 => by
      obtain ⟨l, hl1, hl2, hl3⟩ := hfv4
      obtain ⟨k, hk1, hk2, hk3⟩ := hsv
      refine Tr.imp (ev_call (sp := spBeside C) (P := numL C l.length 1000) (ea_3 up_mat up_gList up_gList (ev_slot h1 hv4) (ev_slot h6 hl1) (ev_slot h7 hk1)) fun vs G' e ⟨v, w, u, ev, hv, hw, hu⟩ => Pu.tr (g := (m, l, k)) ⟨v, w, u, ev, hv, hw, hu, n, hs, hn4, hen, hl2, hk2, hl3, hk3⟩) fun v' G' _ h => ?_
      rw [hl2] at h
      exact nfit (by omega) h
    refine p_ext (R := okD C) (zs := [(), ()]) up_okD g4 rfl ha4 (by rw [all2.len, hul]; show 5 + 2 * i + 2 ≤ 100000; omega) h1a hap hga4 (ev_lst up_okD (by decide) (ea_consR up_okD (ev_okT (us := [(), ()]) (by decide) (ea_i2 (ev_slot rfl (nfit (by omega) hfv4)) (ev_slot rfl (nfit (by omega) hsv)))) (ea_consR up_okD (ev_okT (us := [(), ()]) (by decide) (ea_i2 (ev_slot rfl (nfit (by omega) hfv4)) (hb rfl rfl rfl))) ea_nilR))).old fun ys G5 H5 hys e5 hga5 ha5 g5 => ?_
    exact hN _ G5 H5 ((g3'.kn.trans g4'.kn).trans e5) g5 ⟨xs ++ ys, us ++ [(), ()], _, _, _, rfl, ha5, hga5, (all2.mono fun _ _ r => up_okD _ _ _ _ ((g3'.kn.trans g4'.kn).trans e5) r).append hys, by rw [List.length_append, hul]; show 5 + 2 * i + 2 = 5 + 2 * (i + 1); omega⟩
  · rintro σ' G2 H2 e2 g2 ⟨xs, us, o5, o6, o7, rfl, ha2, hga2, all2, hul⟩
    have htv2 := up_opt (up_pair up_row up_row) _ _ _ _ g2.kn htv
    refine p_if (C := fun b => b = told.isNone) g2 ((EvT.pot (et_test (ev_isN (up_pair up_row up_row) (ev_slot rfl htv2)))).any rfl) (fun hc H3 g3 e3 => ?_) (fun hc H3 g3 e3 => ?_)
    · have s1 := g3.see hap h1a hga2 (e3 _ _ hap ha2)
      exact p_ret s1 (Tr.pot (ev_slot (i := 4) (R := lstOf (okD C)) (x := us) rfl ⟨a, xs, rfl, upd_same, all2.mono fun _ _ r => up_okD _ _ _ _ (Ex.new hga2) r⟩)) fun v' G4 H4 _ g4 pv => q v' G4 H4 g4 ⟨us, pv, by omega⟩
    · obtain ⟨x, y, rfl⟩ : ∃ x y, told = some (x, y) := by
        cases told with
        | none => cases hc
        | some z => exact ⟨z.1, z.2, rfl⟩
      obtain ⟨hx, hy, hxs, hys⟩ := htold x y rfl
      have hL : ∀ x : Nat, x ≤ 100000000 → x + 2 ≤ LIM := fun x hx => by show x + 2 ≤ 130000000; omega
      have big : ∀ {z : Nat}, z ≤ 2 ^ 9000000 → z ≤ 2 ^ 25000000 := fun h => Nat.le_trans h (pow_le2 (by omega))
      unfold tNext
      dsimp only
      have ha3 := e3 _ _ hap ha2
      refine p_unpack (R := isRow C) (S := isRow C) (x := x) (y := y) g3 (ev_slot (R := pairOf (isRow C) (isRow C)) rfl htv2.2) fun fv sv G4 H4 g4' g4 hfv hsv => ?_
      have ha4 := g4'.ol _ _ hap ha3
      have hga4 := g4'.away hga2 ha3
      have all4 := all2.mono fun _ _ r => up_okD _ _ _ _ g4'.kn r
      have rI : ∀ {l : List Rat} {v : V} {G' : Hp}, isRow C l v G' → szL l ≤ 2 ^ 9000000 → okI C () v G' := fun h hl => okI_row (row_g h) (big hl)
      have f6 : ∀ {σ : L2.St} {G' : Hp}, σ[6]? = some (some fv) → Ex G4 G' → Ev (tVar 6) σ G' (okI C ()) := fun h e => ev_slot h (rI (up_row _ _ _ _ e hfv) hxs)
      have f7 : ∀ {σ : L2.St} {G' : Hp}, σ[7]? = some (some sv) → Ex G4 G' → Ev (tVar 7) σ G' (okI C ()) := fun h e => ev_slot h (rI (up_row _ _ _ _ e hsv) hys)
      -- exchanged, of other kinds
      refine p_ext (D := { nx := _, rt := Q }) (R := okD C) (zs := [(), (), (), (), (), ()]) up_okD g4 rfl ha4 (by rw [all4.len, hul]; decide) h1a hap hga4 (ev_lst up_okD (by decide)
        (ea_consR up_okD (ev_okT (us := [(), ()]) (by decide) (ea_i2 (f7 rfl Ex.rfl) (f6 rfl Ex.rfl)))
        (ea_consR up_okD (ev_okT (us := [(), ()]) (by decide) (ea_i2 (Tr.imp (ev_tupleL up_isR (ev_slot rfl hfv)) fun v G' _ h => okI_row (.inr (let ⟨a, xs, e, ha, all⟩ := h; ⟨a, xs, e, ha, all.mono fun _ _ r => .inr r⟩)) (big hxs)) (Tr.imp (ev_listL up_isR (ev_slot rfl hsv)) fun v G' _ h => rI h.lst hys)))
        (ea_consR up_okD (ev_okL (us := [(), ()]) (by decide) (ea_i2 (f6 rfl Ex.rfl) (f7 rfl Ex.rfl)))
        (ea_consR up_okD (ev_okT (us := [(), (), ()]) (by decide) (ea_consR up_okI (f6 rfl Ex.rfl) (ea_i2 (f7 rfl Ex.rfl) (f6 rfl Ex.rfl))))
        (ea_consR up_okD (ev_okT (us := [()]) (by decide) (ea_i1 (f6 rfl Ex.rfl)))
        (ea_consR up_okD (ev_okT (us := [(), ()]) (by decide) (ea_i2 (f6 rfl Ex.rfl) (f6 rfl Ex.rfl))) ea_nilR))))))).old fun zs5 G5 H5 hz5 e5 hga5 ha5 g5 => ?_
      have all5 : All2 (fun x z => okD C z x G5) (xs ++ zs5) (us ++ [(), (), (), (), (), ()]) := (all4.mono fun _ _ r => up_okD _ _ _ _ e5 r).append hz5
      have hl5 : (us ++ [(), (), (), (), (), ()]).length ≤ 19 := by rw [List.length_append, hul]; decide
      -- times
      have hlst : ∀ {σ : L2.St} {G' : Hp}, Ev (tLst (tCons (tC (.int 2)) (tCons (tUn (rU fun i => .int (-i)) (tC (.int 1))) (tCons (tMake C (spInit C) [] E0 (tCons (tC (.int 1)) (tCons (tC (.int 3)) tNil))) (tCons (tC (.int 0)) tNil))))) σ G' (lstOf (isN C) [2, -1, Rat.divInt 1 3, 0]) := fun {σ G'} =>
        (ev_lst up_isN (by decide) (ea_consR up_isN (Tr.imp ev_c fun _ _ _ e => .inl ⟨2, e, rfl⟩) (ea_consR up_isN (Tr.imp ev_negC fun _ _ _ e => .inl ⟨-1, e, rfl⟩) (ea_consR up_isN (Tr.num (ev_mk2 (by decide) ev_c ev_c)) (ea_consR up_isN (Tr.imp ev_c fun _ _ _ e => .inl ⟨0, e, rfl⟩) ea_nilR))))).old
      refine p_set (P := fun v G => ∃ z, isN C z v G ∧ sz z ≤ 2 ^ 2) g5 (TrP.imp (pick_ev (i := 0) up_isN rfl hlst (List.cons_ne_nil _ _) (by decide)) fun v G' _ ⟨z, hz, h⟩ => ⟨z, h, ?_⟩) fun mv G6 H6 g6' g6 ⟨z, hz, hzs⟩ => ?_
      · simp only [List.mem_cons, List.not_mem_nil, or_false] at hz
        rcases hz with rfl | rfl | rfl | rfl <;> decide +kernel
      have ha6 := g6'.ol _ _ hap ha5
      have hga6 := g6'.away hga5 ha5
      have all6 := all5.mono fun _ _ r => up_okD _ _ _ _ g6'.kn r
      have e46 := e5.trans g6'.kn
      have hfv6 := up_row _ _ _ _ e46 hfv
      have hsv6 := up_row _ _ _ _ e46 hsv
      have mem9 : ∀ {q : Rat} {l : List Rat} {i : Nat}, szL l ≤ 2 ^ 9000000 → l[i]? = some q → sz q ≤ 2 ^ 9000000 := fun h hi => Nat.le_trans (sz_le_szL (mem_of_get hi)) h
      have ht : ∀ {σ : L2.St}, σ[6]? = some (some fv) → σ[8]? = some (some mv) → (∀ x, wipe ((wipe σ [11]).set 11 (some x)) [11] = wipe σ [11]) → (∀ x, ((wipe σ [11]).set 11 (some x))[8]? = some (some mv)) → (∀ x, ((wipe σ [11]).set 11 (some x))[11]? = some (some x)) → Ev (tLc (iList K (tVar 6)) (gName 11) tYes (tOp (rMulU C) (tVar 8) (tVar 11)) [11]) σ G6 (okI C ()) := fun {σ} h6 h8 hw h8' h11 => Tr.imp (ev_lc (R := isR C) (f := fun q : Rat => z * q) up_isR (by omega) (src_list (K := K) up_isR (ev_slot h6 hfv6) hw fun i q xq G7 hq e7 hxq => ⟨et_yes, fun _ => ev_mulF (ev_slot (h8' xq) (up_isN _ _ _ _ e7 hz)) (ev_slot (h11 xq) hxq) (Fits.ok2 (fitsE (n := 2 + 9000000) (hL _ (by omega)) (by rw [Nat.pow_add]; exact Nat.mul_le_mul hzs (mem9 hxs hq))))⟩)) fun v G' _ h => okI_row (row_g h.lst) (by
        refine Nat.le_trans (szL_times x) ?_
        refine Nat.le_trans (Nat.mul_le_mul (Nat.pow_le_pow_left hzs _) hxs) ?_
        rw [← Nat.pow_mul, ← Nat.pow_add]
        exact pow_le2 (by omega))
      have hsum : ∀ {σ : L2.St}, σ[6]? = some (some fv) → σ[7]? = some (some sv) → (∀ x y, wipe (((wipe σ [11, 12]).set 11 (some x)).set 12 (some y)) [11, 12] = wipe σ [11, 12]) → (∀ x y, (((wipe σ [11, 12]).set 11 (some x)).set 12 (some y))[11]? = some (some x)) → (∀ x y, (((wipe σ [11, 12]).set 11 (some x)).set 12 (some y))[12]? = some (some y)) → Ev (tLc (iZip K (tCons (tVar 6) (tCons (tVar 7) tNil))) (gTup K 2 (gCons (gName 11) (gCons (gName 12) gNil))) tYes (tOp (rAddU C) (tVar 11) (tVar 12)) [11, 12]) σ G6 (okI C ()) := fun {σ} h6 h7 hw h11 h12 => Tr.imp (ev_lc (R := isR C) (f := fun q : Rat × Rat => q.1 + q.2) up_isR (by rw [List.length_zip]; omega) (src_zip (K := K) (ea_2 up_row up_row (ev_slot h6 hfv6) (ev_slot h7 hsv6)) hw fun i q r xq xr G7 hq hr e7 hxq hxr => ⟨et_yes, fun _ => ev_addR (ev_slot (h11 xq xr) hxq) (ev_slot (h12 xq xr) hxr) (Fits.ok2 (fitsE (n := 9000000 + 9000000) (hL _ (by omega)) (by rw [Nat.pow_add]; exact Nat.mul_le_mul (mem9 hxs hq) (mem9 hys hr))))⟩)) fun v G' _ h => okI_row (row_g h.lst) (by
        refine Nat.le_trans (szL_add x y) (Nat.le_trans (Nat.mul_le_mul hxs hys) ?_)
        rw [← Nat.pow_add]
        exact pow_le2 (by omega))
      have g6f : ∀ {σ : L2.St} {G' : Hp}, σ[6]? = some (some fv) → Ex G6 G' → Ev (tVar 6) σ G' (okI C ()) := fun h e => f6 h (e46.trans e)
      have g7f : ∀ {σ : L2.St} {G' : Hp}, σ[7]? = some (some sv) → Ex G6 G' → Ev (tVar 7) σ G' (okI C ()) := fun h e => f7 h (e46.trans e)
      refine p_ext (D := { nx := _, rt := Q }) (R := okD C) (zs := [(), ()]) up_okD g6 rfl ha6 (by rw [all6.len]; show _ + 2 ≤ 100000; omega) h1a hap hga6 (ev_lst up_okD (by decide)
        (ea_consR up_okD (ev_okT (us := [(), ()]) (by decide) (ea_i2 (ht rfl rfl (fun _ => rfl) (fun _ => rfl) (fun _ => rfl)) (g7f rfl Ex.rfl)))
        (ea_consR up_okD (ev_okT (us := [(), ()]) (by decide) (ea_i2 (g6f rfl Ex.rfl) (hsum rfl rfl (fun _ _ => rfl) (fun _ _ => rfl) (fun _ _ => rfl)))) ea_nilR))).old fun zs7 G7 H7 hz7 e7 hga7 ha7 g7 => ?_
      have all7 : All2 (fun x z => okD C z x G7) (xs ++ zs5 ++ zs7) (us ++ [(), (), (), (), (), ()] ++ [(), ()]) := (all6.mono fun _ _ r => up_okD _ _ _ _ e7 r).append hz7
      have hl7 : (us ++ [(), (), (), (), (), ()] ++ [(), ()]).length ≤ 21 := by rw [List.length_append]; show _ + 2 ≤ 21; omega
      refine p_set (P := drawn n) g7 (draw_ev (i := 0) rfl (Tr.pot (ev_var rfl)) (by omega) (by omega)) ?_
      rintro _ G8 H8 g8' g8 ⟨at', hat, rfl⟩
      have ha8 := g8'.ol _ _ hap ha7
      have hga8 := g8'.away hga7 ha7
      have all8 := all7.mono fun _ _ r => up_okD _ _ _ _ g8'.kn r
      have e48 := (e46.trans e7).trans g8'.kn
      have hfv8 := up_row _ _ _ _ e48 hfv
      have hq0 := getD_eq (show at' < x.length by omega)
      have hqs := mem9 hxs hq0
      have hval : ∀ z ∈ [Atom.non, Atom.bl true, Atom.str "1", Atom.rat (x.getD at' 0 + 1)], sz z.val ≤ 2 ^ 9000001 := fun z hz => by
        have h1 : sz 0 ≤ 2 ^ 9000001 := by rw [sz_zero]; exact Nat.one_le_two_pow
        simp only [List.mem_cons, List.not_mem_nil, or_false] at hz
        rcases hz with rfl | rfl | rfl | rfl
        · exact h1
        · exact h1
        · exact h1
        · refine Nat.le_trans (sz_add _ _) ?_
          rw [show (9000001 : Nat) = 9000000 + 1 from rfl, Nat.pow_add]
          exact Nat.mul_le_mul hqs (Nat.le_of_eq sz_one)
      refine p_forL (S := isAtom C) (zs := [Atom.non, Atom.bl true, Atom.str "1", Atom.rat (x.getD at' 0 + 1)]) up_atom g8 (ev_lst (R := isAtom C) (zs := [Atom.non, Atom.bl true, Atom.str "1", Atom.rat (x.getD at' 0 + 1)]) up_atom (by show 4 ≤ 100000; omega) (ea_consR up_atom (Tr.imp (P' := isAtom C Atom.non) ev_c fun _ _ _ h => h) (ea_consR up_atom (Tr.imp (P' := isAtom C (Atom.bl true)) ev_c fun _ _ _ h => h) (ea_consR up_atom (Tr.imp (P' := isAtom C (Atom.str "1")) ev_c fun _ _ _ h => h) (ea_consR up_atom (Tr.imp (P' := isAtom C (Atom.rat (x.getD at' 0 + 1))) (ev_addN (q := 1) (ev_ixL up_isR (ev_slot rfl hfv8) (ev_var (v := .int (at' : Int)) rfl) (atI_nat hq0)) (Tr.imp ev_c fun _ _ _ h => .inl ⟨1, h, rfl⟩) (Fits.ok2 (fitsE (n := 9000000 + 1) (hL _ (by omega)) (by rw [Nat.pow_add]; exact Nat.mul_le_mul hqs (Nat.le_of_eq sz_one))))) fun _ _ _ h => h) ea_nilR))))).old
        (fun j σ' G' H' => ∃ xs us o10, σ' = [some (.ref p), some v, some tv, some (.int (n : Int)), some (.ref a), o5, some fv, some sv, some mv, some (.int (at' : Int)), o10, none, none] ∧ H' a = some (.lst xs) ∧ G' a = none ∧ All2 (fun x z => okD C z x G') xs us ∧ us.length ≤ 21 + j)
        (fun G' H' g' _ => ⟨_, _, _, rfl, g'.ol _ _ hap ha8, g'.away hga8 ha8, all8.mono fun _ _ r => up_okD _ _ _ _ g'.kn r, hl7⟩) ?_ ?_
      · rintro j z ov σ' G9 H9 hz hov e9 g9 ⟨xs9, us9, o10, rfl, ha9, hga9, all9, hl9⟩ N hN
        have hj : j < 4 := (List.getElem?_eq_some_iff.mp hz).1
        have e49 := e48.trans e9
        have hfv9 := up_row _ _ _ _ e49 hfv
        have c2 : cut x (some ((at' : Int) + 1)) none = x.drop (at' + 1) := cut_from x (at' + 1)
        have hcat : Ev (tOp (rAddU C) (tOp (rAddU C) (tSl (rSlL K) (tVar 6) tNoPart (tPart (tVar 9))) (tLst (tCons (tVar 10) tNil))) (tSl (rSlL K) (tVar 6) (tPart (tOp (rAddU C) (tVar 9) (tC (.int 1)))) tNoPart)) [some (.ref p), some v, some tv, some (.int (n : Int)), some (.ref a), o5, some fv, some sv, some mv, some (.int (at' : Int)), some ov, none, none] G9 (okI C ()) := by
          refine Tr.imp (ev_cat (R := isAtom C) (zs := (x.take at').map Atom.rat ++ [z]) (ys := (x.drop (at' + 1)).map Atom.rat) up_atom (by rw [List.length_append, List.length_map, List.length_map, List.length_take, List.length_drop]; show _ + 1 + _ ≤ 100000; omega) (ev_cat up_atom (by rw [List.length_map, List.length_take]; show _ + 1 ≤ 100000; omega) (Tr.imp (ev_sl up_isR (ev_slot rfl hfv9) eo_none (eo_some (ev_var (v := .int (at' : Int)) rfl))).old fun _ _ _ h => by rw [cut_to] at h; exact row_atoms h) (ev_lst up_atom (zs := [z]) (by show 1 ≤ 100000; omega) (ea_consR up_atom (ev_slot rfl hov) ea_nilR)).old).old (Tr.imp (ev_sl up_isR (ev_slot rfl hfv9) (eo_some (ev_addI (ev_var (v := .int (at' : Int)) rfl) ev_c)) eo_none).old fun _ _ _ h => by rw [c2] at h; exact row_atoms h)) fun v' G' _ h => okI_atoms h.lst ?_
          rw [List.map_append, List.map_append, vals_rat, vals_rat, szL_append, szL_append]
          have h1 : szL ([z].map Atom.val) ≤ 2 ^ 9000001 := by
            show sz z.val * 1 ≤ _
            rw [Nat.mul_one]
            exact hval z (mem_of_get hz)
          refine Nat.le_trans (Nat.le_of_eq (show _ = szL ([z].map Atom.val) * (szL (x.take at') * szL (x.drop (at' + 1))) by ac_rfl)) ?_
          refine Nat.le_trans (Nat.mul_le_mul h1 (Nat.le_trans (szL_cut x at') hxs)) ?_
          rw [← Nat.pow_add]
          exact pow_le2 (by omega)
        refine p_app (R := okD C) (z := ()) up_okD g9 rfl ha9 (by rw [all9.len]; omega) h1a hap hga9 (ev_okT (us := [(), ()]) (by decide) (ea_i2 hcat (f7 rfl e49))) fun v' G10 H10 hv10 e10 hga10 ha10 g10 => ?_
        exact hN _ G10 H10 e10 g10 ⟨xs9 ++ [v'], us9 ++ [()], _, rfl, ha10, hga10, (all9.mono fun _ _ r => up_okD _ _ _ _ e10 r).snoc hv10, by rw [List.length_append]; show _ + 1 ≤ _; omega⟩
      · rintro σ' G9 H9 e9 g9 ⟨xs9, us9, o10, rfl, ha9, hga9, all9, hl9⟩
        have hl9' : us9.length ≤ 25 := hl9
        have s1 := g9.see hap h1a hga9 ha9
        have eu : Ex G9 (upd G9 a (.lst xs9)) := Ex.new hga9
        have e4u := (e48.trans e9).trans eu
        have hfvu := up_row _ _ _ _ e4u hfv
        have hsvu := up_row _ _ _ _ e4u hsv
        have c3 : cut y (some 1) none = y.drop 1 := cut_from y 1
        refine p_ret s1 (Tr.pot (ev_cat (R := okD C) (zs := us9) (ys := [(), (), ()]) up_okD (by show us9.length + 3 ≤ 100000; omega) (ev_slot (i := 4) rfl ⟨a, xs9, rfl, upd_same, all9.mono fun _ _ r => up_okD _ _ _ _ eu r⟩) (ev_lst up_okD (by decide)
          (ea_consR up_okD (ev_okT (us := [(), ()]) (by decide) (ea_i2 (Tr.imp (ev_cat (R := isAtom C) (zs := x.map Atom.rat) (ys := [Atom.int 0]) up_atom (by rw [List.length_map]; show _ + 1 ≤ 100000; omega) (ev_slot rfl (row_atoms hfvu)) (ev_lst up_atom (zs := [Atom.int 0]) (by decide) (ea_consR up_atom (Tr.imp (P' := isAtom C (Atom.int 0)) ev_c fun _ _ _ h => h) ea_nilR)).old) fun v' G' _ h => okI_atoms h.lst (by
            rw [List.map_append, vals_rat, szL_append]
            show szL x * (sz ((0 : Int) : Rat) * 1) ≤ _
            rw [Nat.mul_one, show sz ((0 : Int) : Rat) = 1 from by decide, Nat.mul_one]
            exact big hxs)) (f7 rfl e4u)))
          (ea_consR up_okD (ev_okT (us := [(), ()]) (by decide) (ea_i2 (f6 rfl e4u) (Tr.imp (ev_sl up_isR (ev_slot rfl hsvu) (eo_some ev_c) eo_none).old fun v' G' _ h => by
            rw [c3] at h
            exact rI h (Nat.le_trans (szL_drop y 1) hys))))
          (ea_consR up_okD (ev_okT (us := [(), ()]) (by decide) (ea_i2 (f6 rfl e4u) (Tr.imp ev_c fun _ _ _ h => by rw [h]; exact okI_non))) ea_nilR)))).old).old) fun v' G10 H10 _ g10 pv => q v' G10 H10 g10 ⟨_, pv, by rw [List.length_append]; show _ + 3 ≤ 1000; omega⟩
end
end On
set_option Elab.async false
set_option linter.all false
set_option maxRecDepth 100000
set_option maxHeartbeats 4000000
/-! Calls by keywords alone. -/
namespace On
open PySem PySem.Spec PyProof.Rows L2
section
variable {X : Cx} {CX : CXT} {k : Nat} {f : Addr} {fd : FuncData} {ps ks : List Str} {sp : Sp} {E : XK} {x : Str} {p pos : Pos} {kws : List Keyword} {tk : TA} {g : List Value → List Value → List Value} {gV : List V → List V → List V}
theorem pe_callK0 (F : FnOk X.prog X.w X.K X.mg X.base CX k f fd ps sp) (hr : Room k X.A) (hg : Gl X x) (hm : X.mg x = some (.ref f)) (hk : PySem.W.keepIn X.K (.ref f) = true) (hb : KBinds X.K fd ps ks g gV) (hx : Passes CX X E)
    (hkw : PK X kws tk) (hall : (backToKw pos (keywordEach kws X.env)).all (·.1.isSome) = true := by rfl) (hks : (backToKw pos (keywordEach kws X.env)).filterMap (·.1) = ks := by rfl)
    (hdb : (x == ("__debug__" : Str)) = false := by decide) (hpl : ((backTo pos (starEach [] X.env)).any (·.1) || (backToKw pos (keywordEach kws X.env)).any (·.1.isNone)) = false := by rfl) :
    PE X (.Call (.Name x p) [] kws pos) (tCallK sp gV E tNil tk) := by
  refine ⟨fun pins s σ H Q I h => ?_⟩
  refine wpAny_Call_Name_kw (ld_glob I hg hm ?_ hdb)
  refine PySem.W.callWith_KW0 (h₀ := X.base) I.ok.mod.kin hk hall (thn (hkw.run pos pins s σ H _ I h) fun ws s2 ⟨zs, H2, I2, rz, q2⟩ => ⟨I2.kIn, ?_⟩) hpl
  rw [hks]
  exact run_fnk F hr hb hx I2 .nil rz q2
end
end On
set_option linter.all false
/-! The form as a sum of squares. -/
namespace On
theorem dot_less (r f v : List Rat) (q : Rat) (h : r.length = f.length) : dot (lessRow r f q) v = dot r v - q * dot f v := by
  induction r generalizing f v with
  | nil =>
    cases f with
    | nil =>
      show (0 : Rat) = 0 - q * 0
      grind
    | cons a b => cases h
  | cons a r ih =>
    cases f with
    | nil => cases h
    | cons b f =>
      cases v with
      | nil =>
        rw [dot_nil2, dot_nil2, dot_nil2]
        grind
      | cons c v =>
        show dot ((a - b * q) :: lessRow r f q) (c :: v) = _
        rw [dot_cons, dot_cons, dot_cons, ih f v (by simpa using h)]
        grind
theorem value_nil (u v : List Rat) : value [] u v = 0 := dot_nil2 u
theorem value_cons (r : List Rat) (m : List (List Rat)) (a : Rat) (u v : List Rat) : value (r :: m) (a :: u) v = a * dot r v + value m u v := dot_cons _ _ _ _
theorem value_less (m : List (List Rat)) (c : Rat) (f g u v : List Rat) (hr : ∀ r ∈ m, r.length = f.length) (hg : g.length = m.length) (hu : u.length = m.length) :
    value ((m.zip g).map fun z => lessRow z.1 f (c * z.2)) u v = value m u v - c * dot g u * dot f v := by
  induction m generalizing g u with
  | nil =>
    have : g = [] := List.length_eq_zero_iff.mp hg
    subst this
    rw [show (([] : List (List Rat)).zip ([] : List Rat)).map (fun z => lessRow z.1 f (c * z.2)) = [] from rfl, value_nil, dot_nil]
    grind
  | cons r m ih =>
    cases g with
    | nil => cases hg
    | cons b g =>
      cases u with
      | nil => cases hu
      | cons a u =>
        show value (lessRow r f (c * b) :: ((m.zip g).map fun z => lessRow z.1 f (c * z.2))) (a :: u) v = _
        rw [value_cons, value_cons, ih g u (fun r hr' => hr r (List.mem_cons_of_mem _ hr')) (by simpa using hg) (by simpa using hu), dot_less _ _ _ _ (hr r List.mem_cons_self), dot_cons]
        grind
theorem value_lessSq {n : Nat} {m : List (List Rat)} (h : Sq n m) {c : Rat} {f u v : List Rat} (hf : f.length = n) (hu : u.length = n) : value (lessSq m c f) u v = value m u v - c * dot f u * dot f v :=
  value_less m c f f u v (fun r hr => by rw [h.row r hr, hf]) (by rw [hf, h.len]) (by rw [hu, h.len])
/-- the squares at two lists -/
def sqSum (l : List (Rat × List Rat)) (u v : List Rat) : Rat := total (l.map fun z => z.1 * dot z.2 u * dot z.2 v)
theorem sqSum_nil (u v : List Rat) : sqSum [] u v = 0 := rfl
theorem sqSum_cons (z : Rat × List Rat) (l : List (Rat × List Rat)) (u v : List Rat) : sqSum (z :: l) u v = z.1 * dot z.2 u * dot z.2 v + sqSum l u v := total_cons _ _
theorem sqSum_append (a b : List (Rat × List Rat)) (u v : List Rat) : sqSum (a ++ b) u v = sqSum a u v + sqSum b u v := by
  induction a with
  | nil => rw [List.nil_append, sqSum_nil]; grind
  | cons z a ih => rw [List.cons_append, sqSum_cons, sqSum_cons, ih]; grind
theorem value_lessAll {n : Nat} {u v : List Rat} (hu : u.length = n) : ∀ {l : List (Rat × List Rat)} {m : List (List Rat)}, Sq n m → (∀ z ∈ l, z.2.length = n) → value (lessAll m l) u v + sqSum l u v = value m u v
  | [], m, _, _ => by
    rw [lessAll_nil, sqSum_nil]
    grind
  | z :: l, m, hs, hl => by
    have hz := hl z List.mem_cons_self
    rw [lessAll_cons, sqSum_cons]
    have h1 := value_lessAll (v := v) hu (l := l) (lessSq_sq hs hz (c := z.1)) fun z hz => hl z (List.mem_cons_of_mem _ hz)
    have h2 := value_lessSq hs (c := z.1) (v := v) hz hu
    grind
theorem dot_zero {r : List Rat} (h : ∀ q ∈ r, q = 0) (v : List Rat) : dot r v = 0 := by
  induction r generalizing v with
  | nil => rfl
  | cons a r ih =>
    cases v with
    | nil => exact dot_nil2 _
    | cons b v =>
      rw [dot_cons, ih (fun q hq => h q (List.mem_cons_of_mem _ hq)), h a List.mem_cons_self]
      grind
theorem value_zero {m : List (List Rat)} (h : ∀ r ∈ m, ∀ q ∈ r, q = 0) (u v : List Rat) : value m u v = 0 := by
  induction m generalizing u with
  | nil => exact value_nil u v
  | cons r m ih =>
    cases u with
    | nil => exact dot_nil _
    | cons a u =>
      rw [value_cons, ih (fun r hr => h r (List.mem_cons_of_mem _ hr)), dot_zero (h r List.mem_cons_self)]
      grind
theorem rest_zero {n : Nat} {m : List (List Rat)} (hs : Sq n m) (hy : Sym m) (hq : nextSq m = []) : ∀ r ∈ m, ∀ q ∈ r, q = 0 := fun r hr q hq' => by
  have h := next_is hs hy
  rw [hq] at h
  cases h with
  | none h0 =>
    obtain ⟨i, hi⟩ := List.getElem?_of_mem hr
    obtain ⟨j, hj⟩ := List.getElem?_of_mem hq'
    rw [← at2_get hi hj]
    exact h0 i j
theorem sqLoop_value {n e : Nat} (hn : n ≤ 4) (he : 1 ≤ e) {u v : List Rat} (hu : u.length = n) : ∀ {k : Nat} {m : List (List Rat)} {fnd : List (Rat × List Rat)}, SqInv n e m fnd → nzRows m + 1 ≤ k → sqSum (sqLoop k m fnd) u v = value m u v + sqSum fnd u v
  | 0, m, fnd, h, hk => by omega
  | k + 1, m, fnd, h, hk => by
    show sqSum (match nextSq m with | [] => fnd | z :: l => sqLoop k (lessAll m (z :: l)) (fnd ++ z :: l)) u v = _
    cases hq : nextSq m with
    | nil =>
      rw [value_zero (rest_zero h.sq h.sym hq)]
      show sqSum fnd u v = _
      grind
    | cons z l =>
      have hne : nextSq m ≠ [] := by rw [hq]; exact List.cons_ne_nil _ _
      obtain ⟨h1, h2⟩ := h.next hn he hne
      have hst := next_step h.sq h.sym (next_is h.sq h.sym)
      have h3 := value_lessAll (v := v) hu h.sq hst.forms
      rw [hq] at h1 h2 h3
      have hl : 1 ≤ (z :: l).length := by simp
      show sqSum (sqLoop k (lessAll m (z :: l)) (fnd ++ z :: l)) u v = _
      rw [sqLoop_value hn he hu h1 (by omega), sqSum_append]
      grind
theorem value_squares {n e : Nat} {m : List (List Rat)} (hs : Sq n m) (hy : Sym m) (hn : n ≤ 4) (he : 1 ≤ e) (h : Ents n e m) {u v : List Rat} (hu : u.length = n) : value m u v = sqSum (squaresIn m) u v := by
  have hl := hs.len
  have hz := nzRows_le m
  have := sqLoop_value (v := v) hn he hu (k := m.length + 1) (m := m) (fnd := []) ⟨hs, hy, by show Ents n (1 * e) m; rw [Nat.one_mul]; exact h, by show nzRows m + 0 ≤ n; omega, fun z hz => (nomatch hz), fun z hz => (nomatch hz)⟩ (by omega)
  rw [sqSum_nil] at this
  unfold squaresIn
  rw [this]
  grind
end On
set_option linter.all false
/-! At most one square above: nothing shows two. -/
namespace On
theorem sq_nonneg (x : Rat) : 0 ≤ x * x := by
  rcases Rat.le_total (a := 0) (b := x) with h | h
  · exact Rat.mul_nonneg h h
  · have h1 : 0 ≤ -x := by grind
    have h2 := Rat.mul_nonneg h1 h1
    grind
theorem neg_sq {c x : Rat} (h : c ≤ 0) : c * (x * x) ≤ 0 := by
  have h1 := Rat.mul_nonneg (show 0 ≤ -c by grind) (sq_nonneg x)
  grind
theorem below_sum (u v : List Rat) (s t : Rat) : ∀ {l : List (Rat × List Rat)}, (∀ z ∈ l, z.1 ≤ 0) → s * s * sqSum l u u - 2 * s * t * sqSum l u v + t * t * sqSum l v v ≤ 0
  | [], _ => by
    rw [sqSum_nil, sqSum_nil, sqSum_nil]
    grind
  | z :: l, h => by
    have h1 := below_sum u v s t (l := l) fun z hz => h z (List.mem_cons_of_mem _ hz)
    have h2 := neg_sq (x := s * dot z.2 u - t * dot z.2 v) (h z List.mem_cons_self)
    rw [sqSum_cons, sqSum_cons, sqSum_cons]
    grind
theorem sq_pos {x : Rat} (h : x ≠ 0) : 0 < x * x := by
  have h1 := sq_nonneg x
  have h2 : x * x ≠ 0 := fun z => (Rat.mul_eq_zero.mp z).elim h h
  exact Rat.lt_of_le_of_ne h1 (Ne.symm h2)
/-- one square above and else none: no two lists show two -/
theorem one_above {a b : List (Rat × List Rat)} {z : Rat × List Rat} (ha : ∀ z ∈ a, z.1 ≤ 0) (hb : ∀ z ∈ b, z.1 ≤ 0) {u v : List Rat} (h1 : 0 < sqSum (a ++ z :: b) u u) (h2 : 0 < sqSum (a ++ z :: b) v v) (h3 : sqSum (a ++ z :: b) u v = 0) : False := by
  rw [sqSum_append, sqSum_cons] at h1 h2 h3
  have k1 := below_sum u v (dot z.2 v) (dot z.2 u) ha
  have k2 := below_sum u v (dot z.2 v) (dot z.2 u) hb
  have e1 : dot z.2 v * dot z.2 v * (sqSum a u u + (z.1 * dot z.2 u * dot z.2 u + sqSum b u u)) + dot z.2 u * dot z.2 u * (sqSum a v v + (z.1 * dot z.2 v * dot z.2 v + sqSum b v v)) ≤ 0 := by
    have h4 : dot z.2 v * dot z.2 u * (sqSum a u v + (z.1 * dot z.2 u * dot z.2 v + sqSum b u v)) = 0 := by rw [h3, Rat.mul_zero]
    have k3 : ∀ a b : Rat, a ≤ 0 → b ≤ 0 → a + b + 2 * 0 ≤ 0 := fun a b _ _ => by grind
    have : dot z.2 v * dot z.2 v * (sqSum a u u + (z.1 * dot z.2 u * dot z.2 u + sqSum b u u)) + dot z.2 u * dot z.2 u * (sqSum a v v + (z.1 * dot z.2 v * dot z.2 v + sqSum b v v)) = (dot z.2 v * dot z.2 v * sqSum a u u - 2 * dot z.2 v * dot z.2 u * sqSum a u v + dot z.2 u * dot z.2 u * sqSum a v v) + (dot z.2 v * dot z.2 v * sqSum b u u - 2 * dot z.2 v * dot z.2 u * sqSum b u v + dot z.2 u * dot z.2 u * sqSum b v v) + 2 * (dot z.2 v * dot z.2 u * (sqSum a u v + (z.1 * dot z.2 u * dot z.2 v + sqSum b u v))) := by grind
    rw [this, h4]
    exact k3 _ _ k1 k2
  have p1 := Rat.mul_nonneg (sq_nonneg (dot z.2 v)) (Rat.le_of_lt h1)
  have p2 := Rat.mul_nonneg (sq_nonneg (dot z.2 u)) (Rat.le_of_lt h2)
  have hv : dot z.2 v = 0 := Classical.byContradiction fun hn => by
    have := Rat.mul_pos (sq_pos hn) h1
    grind
  have hu : dot z.2 u = 0 := Classical.byContradiction fun hn => by
    have := Rat.mul_pos (sq_pos hn) h2
    grind
  have q1 := below_sum u v 1 0 ha
  have q2 := below_sum u v 1 0 hb
  rw [hu] at h1
  grind
theorem none_above {a : List (Rat × List Rat)} (ha : ∀ z ∈ a, z.1 ≤ 0) {u : List Rat} (h1 : 0 < sqSum a u u) : False := by
  have q1 := below_sum u u 1 0 ha
  grind
end On
set_option linter.all false
/-! Sums of squares in four places: the first law of signs. -/
namespace On
theorem sqn (x : Rat) : 0 ≤ x * x := by
  rcases Rat.le_total (a := 0) (b := x) with h | h
  · exact Rat.mul_nonneg h h
  · have h1 : 0 ≤ -x := by grind
    have h2 := Rat.mul_nonneg h1 h1
    grind
theorem sqp {x : Rat} (h : x ≠ 0) : 0 < x * x := Rat.lt_of_le_of_ne (sqn x) fun z => (Rat.mul_eq_zero.mp z.symm).elim h h
abbrev Vec := Nat → Rat
def dot4 (f g : Vec) : Rat := f 0 * g 0 + f 1 * g 1 + f 2 * g 2 + f 3 * g 3
def wed (f g : Vec) (i j : Nat) : Rat := f i * g j - f j * g i
def gram (f g : Vec) : Rat := wed f g 0 1 * wed f g 0 1 + wed f g 0 2 * wed f g 0 2 + wed f g 0 3 * wed f g 0 3 + wed f g 1 2 * wed f g 1 2 + wed f g 1 3 * wed f g 1 3 + wed f g 2 3 * wed f g 2 3
theorem gram_is (f g : Vec) : gram f g = dot4 f f * dot4 g g - dot4 f g * dot4 f g := by
  unfold gram wed dot4
  grind
theorem gram_nonneg (f g : Vec) : 0 ≤ gram f g := by
  have h1 := sqn (wed f g 0 1)
  have h2 := sqn (wed f g 0 2)
  have h3 := sqn (wed f g 0 3)
  have h4 := sqn (wed f g 1 2)
  have h5 := sqn (wed f g 1 3)
  have h6 := sqn (wed f g 2 3)
  unfold gram
  grind
theorem gram_pos {f g : Vec} {i j : Nat} (hi : i < 4) (hj : j < 4) (h : wed f g i j ≠ 0) : 0 < gram f g := by
  have h1 := sqn (wed f g 0 1)
  have h2 := sqn (wed f g 0 2)
  have h3 := sqn (wed f g 0 3)
  have h4 := sqn (wed f g 1 2)
  have h5 := sqn (wed f g 1 3)
  have h6 := sqn (wed f g 2 3)
  have h7 := sqp h
  have e : wed f g i j * wed f g i j ≤ gram f g := by
    unfold gram
    match i, hi, j, hj with
    | 0, _, 0, _ => unfold wed at h; grind
    | 0, _, 1, _ => grind
    | 0, _, 2, _ => grind
    | 0, _, 3, _ => grind
    | 1, _, 0, _ => have : wed f g 1 0 * wed f g 1 0 = wed f g 0 1 * wed f g 0 1 := by { unfold wed; grind }
                    grind
    | 1, _, 1, _ => unfold wed at h; grind
    | 1, _, 2, _ => grind
    | 1, _, 3, _ => grind
    | 2, _, 0, _ => have : wed f g 2 0 * wed f g 2 0 = wed f g 0 2 * wed f g 0 2 := by { unfold wed; grind }
                    grind
    | 2, _, 1, _ => have : wed f g 2 1 * wed f g 2 1 = wed f g 1 2 * wed f g 1 2 := by { unfold wed; grind }
                    grind
    | 2, _, 2, _ => unfold wed at h; grind
    | 2, _, 3, _ => grind
    | 3, _, 0, _ => have : wed f g 3 0 * wed f g 3 0 = wed f g 0 3 * wed f g 0 3 := by { unfold wed; grind }
                    grind
    | 3, _, 1, _ => have : wed f g 3 1 * wed f g 3 1 = wed f g 1 3 * wed f g 1 3 := by { unfold wed; grind }
                    grind
    | 3, _, 2, _ => have : wed f g 3 2 * wed f g 3 2 = wed f g 2 3 * wed f g 2 3 := by { unfold wed; grind }
                    grind
    | 3, _, 3, _ => unfold wed at h; grind
  grind
theorem dot4_nonneg (f : Vec) : 0 ≤ dot4 f f := by
  have h1 := sqn (f 0)
  have h2 := sqn (f 1)
  have h3 := sqn (f 2)
  have h4 := sqn (f 3)
  unfold dot4
  grind
theorem dot4_pos {f : Vec} {i : Nat} (hi : i < 4) (h : f i ≠ 0) : 0 < dot4 f f := by
  have h1 := sqn (f 0)
  have h2 := sqn (f 1)
  have h3 := sqn (f 2)
  have h4 := sqn (f 3)
  have h5 := sqp h
  unfold dot4
  match i, hi with
  | 0, _ => grind
  | 1, _ => grind
  | 2, _ => grind
  | 3, _ => grind
theorem schwarz (f g : Vec) : dot4 f g * dot4 f g ≤ dot4 f f * dot4 g g := by
  have := gram_nonneg f g
  rw [gram_is] at this
  grind
/-- a sum of four weighted things -/
def sum4 (c : Vec) (g : Nat → Rat) : Rat := c 0 * g 0 + c 1 * g 1 + c 2 * g 2 + c 3 * g 3
def one4 (c : Vec) (F : Nat → Vec) : Rat := sum4 c fun k => dot4 (F k) (F k)
def two4 (c : Vec) (F : Nat → Vec) : Rat := c 0 * c 1 * gram (F 0) (F 1) + c 0 * c 2 * gram (F 0) (F 2) + c 0 * c 3 * gram (F 0) (F 3) + c 1 * c 2 * gram (F 1) (F 2) + c 1 * c 3 * gram (F 1) (F 3) + c 2 * c 3 * gram (F 2) (F 3)
/-- the matrix of the squares -/
def mat4 (c : Vec) (F : Nat → Vec) (i j : Nat) : Rat := sum4 c fun k => F k i * F k j
/-- all entries' squares -/
def all4 (A : Nat → Vec) : Rat := dot4 (A 0) (A 0) + dot4 (A 1) (A 1) + dot4 (A 2) (A 2) + dot4 (A 3) (A 3)
def app4 (A : Nat → Vec) (v : Vec) : Vec := fun i => dot4 (A i) v
theorem mat_one (c : Vec) (F : Nat → Vec) : mat4 c F 0 0 + mat4 c F 1 1 + mat4 c F 2 2 + mat4 c F 3 3 = one4 c F := by
  unfold mat4 one4 sum4 dot4
  grind
theorem app_le (A : Nat → Vec) (v : Vec) : dot4 (app4 A v) (app4 A v) ≤ all4 A * dot4 v v := by
  have h0 := schwarz (A 0) v
  have h1 := schwarz (A 1) v
  have h2 := schwarz (A 2) v
  have h3 := schwarz (A 3) v
  have e : dot4 (app4 A v) (app4 A v) = dot4 (A 0) v * dot4 (A 0) v + dot4 (A 1) v * dot4 (A 1) v + dot4 (A 2) v * dot4 (A 2) v + dot4 (A 3) v * dot4 (A 3) v := rfl
  rw [e]
  unfold all4
  grind
/-- the matrix at f twice -/
theorem mat_at (c : Vec) (F : Nat → Vec) (f : Vec) : dot4 f (app4 (mat4 c F) f) = sum4 c fun k => dot4 f (F k) * dot4 f (F k) := by
  unfold app4 mat4 sum4 dot4
  grind
theorem all_two (c : Vec) (F : Nat → Vec) : one4 c F * one4 c F = 2 * two4 c F + all4 (mat4 c F) := by
  have e : all4 (mat4 c F) = sum4 c fun k => sum4 c fun l => dot4 (F k) (F l) * dot4 (F k) (F l) := by
    unfold all4 mat4 sum4 dot4
    grind
  rw [e]
  unfold two4 one4 sum4
  dsimp only
  rw [gram_is, gram_is, gram_is, gram_is, gram_is, gram_is]
  have s : ∀ k l, dot4 (F k) (F l) = dot4 (F l) (F k) := fun k l => by unfold dot4; grind
  rw [s 1 0, s 2 0, s 3 0, s 2 1, s 3 1, s 3 2]
  grind
theorem less_one (c : Vec) (F : Nat → Vec) (f : Vec) : dot4 f f * one4 c F - dot4 f (app4 (mat4 c F) f) = sum4 c fun k => gram f (F k) := by
  rw [mat_at]
  unfold one4 sum4
  simp only [gram_is]
  grind
/-- one square below alone, and one above: not both signs of two squares below -/
theorem first_law {c : Vec} {F : Nat → Vec} {a b : Nat} (ha : a < 4) (hb : b < 4) (hab : a ≠ b) (hc : ∀ k, k < 4 → k ≠ a → 0 ≤ c k) (hp : 0 < c b) (hw : 0 < dot4 (F a) (F a)) (hg : 0 < gram (F a) (F b)) (h1 : one4 c F ≤ 0) : two4 c F < 0 := by
  have hz : gram (F a) (F a) = 0 := by rw [gram_is]; grind
  have k1 : ∀ k, k < 4 → 0 ≤ c k * gram (F a) (F k) := fun k hk => by
    by_cases h : k = a
    · subst h; rw [hz]; grind
    · exact Rat.mul_nonneg (hc k hk h) (gram_nonneg _ _)
  have k2 : 0 < c b * gram (F a) (F b) := Rat.mul_pos hp hg
  have t0 : 0 < sum4 c fun k => gram (F a) (F k) := by
    have := k1 0 (by decide)
    have := k1 1 (by decide)
    have := k1 2 (by decide)
    have := k1 3 (by decide)
    unfold sum4
    match b, hb with
    | 0, _ => grind
    | 1, _ => grind
    | 2, _ => grind
    | 3, _ => grind
  rw [← less_one] at t0
  have q1 := app_le (mat4 c F) (F a)
  have q2 := schwarz (F a) (app4 (mat4 c F) (F a))
  have q3 := all_two c F
  generalize dot4 (F a) (F a) = w at *
  generalize dot4 (F a) (app4 (mat4 c F) (F a)) = s at *
  generalize dot4 (app4 (mat4 c F) (F a)) (app4 (mat4 c F) (F a)) = n at *
  generalize all4 (mat4 c F) = al at *
  generalize one4 c F = e at *
  generalize two4 c F = e2 at *
  have q4 := Rat.mul_le_mul_of_nonneg_left q1 (Rat.le_of_lt hw)
  have q5 : 0 ≤ w * -e := Rat.mul_nonneg (Rat.le_of_lt hw) (by grind)
  have q6 : 0 < (w * e - s) * (w * e - s) := Rat.mul_pos t0 t0
  have q7 : 0 ≤ (w * e - s) * (w * -e) := Rat.mul_nonneg (Rat.le_of_lt t0) q5
  have q9 : w * (w * (2 * e2)) = w * (w * (e * e)) - w * (w * al) := by rw [q3]; grind
  have q8 : w * (w * (2 * e2)) < 0 := by
    rw [q9]
    clear q3 q9 h1 t0 q1 hw
    grind
  refine Rat.not_le.mp fun h => ?_
  have := Rat.mul_nonneg (Rat.le_of_lt hw) (Rat.mul_nonneg (Rat.le_of_lt hw) (show 0 ≤ 2 * e2 by grind))
  grind
end On
set_option linter.all false
/-! Independent forms in four places: their minors. -/
namespace On
/-- the first r are independent -/
def Ind (r : Nat) (F : Nat → Vec) : Prop := ∀ y : Vec, (∀ i, i < 4 → y 0 * F 0 i + y 1 * F 1 i + y 2 * F 2 i + y 3 * F 3 i = 0) → ∀ k, k < r → y k = 0
def tri (f g h : Vec) (i j k : Nat) : Rat := f i * wed g h j k - f j * wed g h i k + f k * wed g h i j
def crossV (f g h : Vec) : Vec
  | 0 => tri f g h 1 2 3
  | 1 => -tri f g h 0 2 3
  | 2 => tri f g h 0 1 3
  | 3 => -tri f g h 0 1 2
  | _ => 0
/-- two pairs of places -/
def pair4 (a b : Nat → Nat → Rat) : Rat := a 0 1 * b 2 3 - a 0 2 * b 1 3 + a 0 3 * b 1 2 + a 1 2 * b 0 3 - a 1 3 * b 0 2 + a 2 3 * b 0 1
def det4 (f g h k : Vec) : Rat := pair4 (wed f g) (wed h k)
theorem dot_cross (x f g h : Vec) : dot4 x (crossV f g h) = det4 x f g h := by
  unfold dot4 det4 pair4
  simp only [crossV]
  unfold tri wed
  grind
/-! ### none of the minors vanish all -/
theorem only_two {F : Nat → Vec} {a b i : Nat} {s t : Rat} (ha : a < 4) (hb : b < 4) (h : a ≠ b) (y : Vec) (hy : ∀ k, y k = if k = a then s else if k = b then t else 0) : y 0 * F 0 i + y 1 * F 1 i + y 2 * F 2 i + y 3 * F 3 i = s * F a i + t * F b i := by
  have h0 := hy 0
  have h1 := hy 1
  have h2 := hy 2
  have h3 := hy 3
  match a, ha, b, hb with
  | 0, _, 0, _ => exact absurd rfl h
  | 1, _, 1, _ => exact absurd rfl h
  | 2, _, 2, _ => exact absurd rfl h
  | 3, _, 3, _ => exact absurd rfl h
  | 0, _, 1, _ => simp at h0 h1 h2 h3; grind
  | 0, _, 2, _ => simp at h0 h1 h2 h3; grind
  | 0, _, 3, _ => simp at h0 h1 h2 h3; grind
  | 1, _, 0, _ => simp at h0 h1 h2 h3; grind
  | 1, _, 2, _ => simp at h0 h1 h2 h3; grind
  | 1, _, 3, _ => simp at h0 h1 h2 h3; grind
  | 2, _, 0, _ => simp at h0 h1 h2 h3; grind
  | 2, _, 1, _ => simp at h0 h1 h2 h3; grind
  | 2, _, 3, _ => simp at h0 h1 h2 h3; grind
  | 3, _, 0, _ => simp at h0 h1 h2 h3; grind
  | 3, _, 1, _ => simp at h0 h1 h2 h3; grind
  | 3, _, 2, _ => simp at h0 h1 h2 h3; grind
theorem ind_two {r : Nat} {F : Nat → Vec} (hF : Ind r F) {a b : Nat} (ha : a < 4) (hb : b < 4) (h : a ≠ b) {s t : Rat} (hz : ∀ i, i < 4 → s * F a i + t * F b i = 0) : (a < r → s = 0) ∧ (b < r → t = 0) := by
  have k := hF (fun k => if k = a then s else if k = b then t else 0) fun i hi => by
    rw [only_two ha hb h _ fun _ => rfl]
    exact hz i hi
  refine ⟨fun hr => ?_, fun hr => ?_⟩
  · have := k a hr
    simpa using this
  · have := k b hr
    simpa [Ne.symm h] using this
theorem ind_ne {r : Nat} {F : Nat → Vec} (hF : Ind r F) {a : Nat} (hr : r ≤ 4) (ha : a < r) : 0 < dot4 (F a) (F a) := by
  refine Classical.byContradiction fun hn => ?_
  have hz : ∀ i, i < 4 → F a i = 0 := fun i hi => Classical.byContradiction fun h => hn (dot4_pos hi h)
  have : ∃ b, b < 4 ∧ a ≠ b := by
    by_cases h : a = 0
    · exact ⟨1, by decide, by omega⟩
    · exact ⟨0, by decide, h⟩
  obtain ⟨b, hb, hab⟩ := this
  have := (ind_two hF (by omega) hb hab (s := 1) (t := 0) fun i hi => by rw [hz i hi]; grind).1 ha
  grind
theorem ind_gram {r : Nat} {F : Nat → Vec} (hF : Ind r F) {a b : Nat} (hr : r ≤ 4) (ha : a < r) (hb : b < r) (h : a ≠ b) : 0 < gram (F a) (F b) := by
  refine Classical.byContradiction fun hn => ?_
  have hz : ∀ i j, i < 4 → j < 4 → wed (F a) (F b) i j = 0 := fun i j hi hj => Classical.byContradiction fun h => hn (gram_pos hi hj h)
  have hf : ∀ i, i < 4 → F a i = 0 := fun i hi => by
    have := (ind_two hF (by omega) (by omega) h (s := F b i) (t := -F a i) fun j hj => by
      have := hz i j hi hj
      unfold wed at this
      grind).2 hb
    grind
  have h1 := ind_ne hF hr ha
  have h2 : dot4 (F a) (F a) = 0 := by
    unfold dot4
    rw [hf 0 (by decide), hf 1 (by decide), hf 2 (by decide), hf 3 (by decide)]
    grind
  grind
theorem ind_cross {r : Nat} {F : Nat → Vec} (hF : Ind r F) (hr : r ≤ 4) (h3 : 3 ≤ r) : 0 < dot4 (crossV (F 0) (F 1) (F 2)) (crossV (F 0) (F 1) (F 2)) := by
  refine Classical.byContradiction fun hn => ?_
  have hz : ∀ i, i < 4 → crossV (F 0) (F 1) (F 2) i = 0 := fun i hi => Classical.byContradiction fun h => hn (dot4_pos hi h)
  have z0 := hz 0 (by decide)
  have z1 := hz 1 (by decide)
  have z2 := hz 2 (by decide)
  have z3 := hz 3 (by decide)
  simp only [crossV] at z0 z1 z2 z3
  have hw : ∀ i j, i < 4 → j < 4 → wed (F 0) (F 1) i j = 0 := fun i j hi hj => by
    refine hF (fun k => match k with | 0 => wed (F 1) (F 2) i j | 1 => -wed (F 0) (F 2) i j | 2 => wed (F 0) (F 1) i j | _ => 0) (fun l hl => ?_) 2 (by omega)
    show wed (F 1) (F 2) i j * F 0 l + -wed (F 0) (F 2) i j * F 1 l + wed (F 0) (F 1) i j * F 2 l + 0 * F 3 l = 0
    unfold tri wed at *
    match i, hi, j, hj, l, hl with
    | 0, _, 0, _, l, _ => grind
    | 1, _, 1, _, l, _ => grind
    | 2, _, 2, _, l, _ => grind
    | 3, _, 3, _, l, _ => grind
    | 0, _, 1, _, 0, _ => grind
    | 0, _, 1, _, 1, _ => grind
    | 0, _, 1, _, 2, _ => grind
    | 0, _, 1, _, 3, _ => grind
    | 0, _, 2, _, 0, _ => grind
    | 0, _, 2, _, 1, _ => grind
    | 0, _, 2, _, 2, _ => grind
    | 0, _, 2, _, 3, _ => grind
    | 0, _, 3, _, 0, _ => grind
    | 0, _, 3, _, 1, _ => grind
    | 0, _, 3, _, 2, _ => grind
    | 0, _, 3, _, 3, _ => grind
    | 1, _, 0, _, 0, _ => grind
    | 1, _, 0, _, 1, _ => grind
    | 1, _, 0, _, 2, _ => grind
    | 1, _, 0, _, 3, _ => grind
    | 1, _, 2, _, 0, _ => grind
    | 1, _, 2, _, 1, _ => grind
    | 1, _, 2, _, 2, _ => grind
    | 1, _, 2, _, 3, _ => grind
    | 1, _, 3, _, 0, _ => grind
    | 1, _, 3, _, 1, _ => grind
    | 1, _, 3, _, 2, _ => grind
    | 1, _, 3, _, 3, _ => grind
    | 2, _, 0, _, 0, _ => grind
    | 2, _, 0, _, 1, _ => grind
    | 2, _, 0, _, 2, _ => grind
    | 2, _, 0, _, 3, _ => grind
    | 2, _, 1, _, 0, _ => grind
    | 2, _, 1, _, 1, _ => grind
    | 2, _, 1, _, 2, _ => grind
    | 2, _, 1, _, 3, _ => grind
    | 2, _, 3, _, 0, _ => grind
    | 2, _, 3, _, 1, _ => grind
    | 2, _, 3, _, 2, _ => grind
    | 2, _, 3, _, 3, _ => grind
    | 3, _, 0, _, 0, _ => grind
    | 3, _, 0, _, 1, _ => grind
    | 3, _, 0, _, 2, _ => grind
    | 3, _, 0, _, 3, _ => grind
    | 3, _, 1, _, 0, _ => grind
    | 3, _, 1, _, 1, _ => grind
    | 3, _, 1, _, 2, _ => grind
    | 3, _, 1, _, 3, _ => grind
    | 3, _, 2, _, 0, _ => grind
    | 3, _, 2, _, 1, _ => grind
    | 3, _, 2, _, 2, _ => grind
    | 3, _, 2, _, 3, _ => grind
  have h1 := ind_gram hF hr (a := 0) (b := 1) (by omega) (by omega) (by decide)
  have h2 : gram (F 0) (F 1) = 0 := by
    unfold gram
    rw [hw 0 1 (by decide) (by decide), hw 0 2 (by decide) (by decide), hw 0 3 (by decide) (by decide), hw 1 2 (by decide) (by decide), hw 1 3 (by decide) (by decide), hw 2 3 (by decide) (by decide)]
    grind
  grind
/-- the lists beside the forms: the dual, times the determinant -/
def dual (F : Nat → Vec) : Nat → Vec
  | 0 => crossV (F 1) (F 2) (F 3)
  | 1 => fun i => -crossV (F 0) (F 2) (F 3) i
  | 2 => crossV (F 0) (F 1) (F 3)
  | 3 => fun i => -crossV (F 0) (F 1) (F 2) i
  | _ => fun _ => 0
def whole (F : Nat → Vec) : Rat := det4 (F 0) (F 1) (F 2) (F 3)
theorem dual_col (F : Nat → Vec) (i j : Nat) (hi : i < 4) (hj : j < 4) : dual F 0 i * F 0 j + dual F 1 i * F 1 j + dual F 2 i * F 2 j + dual F 3 i * F 3 j = if i = j then whole F else 0 := by
  match i, hi, j, hj with
  | 0, _, 0, _ => simp [dual, crossV, whole, det4, pair4, tri, wed]; grind
  | 0, _, 1, _ => simp [dual, crossV, whole, det4, pair4, tri, wed]; grind
  | 0, _, 2, _ => simp [dual, crossV, whole, det4, pair4, tri, wed]; grind
  | 0, _, 3, _ => simp [dual, crossV, whole, det4, pair4, tri, wed]; grind
  | 1, _, 0, _ => simp [dual, crossV, whole, det4, pair4, tri, wed]; grind
  | 1, _, 1, _ => simp [dual, crossV, whole, det4, pair4, tri, wed]; grind
  | 1, _, 2, _ => simp [dual, crossV, whole, det4, pair4, tri, wed]; grind
  | 1, _, 3, _ => simp [dual, crossV, whole, det4, pair4, tri, wed]; grind
  | 2, _, 0, _ => simp [dual, crossV, whole, det4, pair4, tri, wed]; grind
  | 2, _, 1, _ => simp [dual, crossV, whole, det4, pair4, tri, wed]; grind
  | 2, _, 2, _ => simp [dual, crossV, whole, det4, pair4, tri, wed]; grind
  | 2, _, 3, _ => simp [dual, crossV, whole, det4, pair4, tri, wed]; grind
  | 3, _, 0, _ => simp [dual, crossV, whole, det4, pair4, tri, wed]; grind
  | 3, _, 1, _ => simp [dual, crossV, whole, det4, pair4, tri, wed]; grind
  | 3, _, 2, _ => simp [dual, crossV, whole, det4, pair4, tri, wed]; grind
  | 3, _, 3, _ => simp [dual, crossV, whole, det4, pair4, tri, wed]; grind
theorem dual_row (F : Nat → Vec) (k l : Nat) (hk : k < 4) (hl : l < 4) : dot4 (F k) (dual F l) = if k = l then whole F else 0 := by
  match k, hk, l, hl with
  | 0, _, 0, _ => simp [dual, dot4, crossV, whole, det4, pair4, tri, wed]; grind
  | 0, _, 1, _ => simp [dual, dot4, crossV, whole, det4, pair4, tri, wed]; grind
  | 0, _, 2, _ => simp [dual, dot4, crossV, whole, det4, pair4, tri, wed]; grind
  | 0, _, 3, _ => simp [dual, dot4, crossV, whole, det4, pair4, tri, wed]; grind
  | 1, _, 0, _ => simp [dual, dot4, crossV, whole, det4, pair4, tri, wed]; grind
  | 1, _, 1, _ => simp [dual, dot4, crossV, whole, det4, pair4, tri, wed]; grind
  | 1, _, 2, _ => simp [dual, dot4, crossV, whole, det4, pair4, tri, wed]; grind
  | 1, _, 3, _ => simp [dual, dot4, crossV, whole, det4, pair4, tri, wed]; grind
  | 2, _, 0, _ => simp [dual, dot4, crossV, whole, det4, pair4, tri, wed]; grind
  | 2, _, 1, _ => simp [dual, dot4, crossV, whole, det4, pair4, tri, wed]; grind
  | 2, _, 2, _ => simp [dual, dot4, crossV, whole, det4, pair4, tri, wed]; grind
  | 2, _, 3, _ => simp [dual, dot4, crossV, whole, det4, pair4, tri, wed]; grind
  | 3, _, 0, _ => simp [dual, dot4, crossV, whole, det4, pair4, tri, wed]; grind
  | 3, _, 1, _ => simp [dual, dot4, crossV, whole, det4, pair4, tri, wed]; grind
  | 3, _, 2, _ => simp [dual, dot4, crossV, whole, det4, pair4, tri, wed]; grind
  | 3, _, 3, _ => simp [dual, dot4, crossV, whole, det4, pair4, tri, wed]; grind
theorem ind_whole {F : Nat → Vec} (hF : Ind 4 F) : whole F ≠ 0 := fun hz => by
  have hd : ∀ i, i < 4 → ∀ k, k < 4 → dual F k i = 0 := fun i hi => hF (fun k => dual F k i) fun j hj => by
    show dual F 0 i * F 0 j + dual F 1 i * F 1 j + dual F 2 i * F 2 j + dual F 3 i * F 3 j = 0
    rw [dual_col F i j hi hj, hz]
    split <;> rfl
  have h1 := ind_cross hF (by decide) (by decide)
  have hc : ∀ i, i < 4 → crossV (F 0) (F 1) (F 2) i = 0 := fun i hi => by
    have : -crossV (F 0) (F 1) (F 2) i = 0 := hd i hi 3 (by decide)
    grind
  have h2 : dot4 (crossV (F 0) (F 1) (F 2)) (crossV (F 0) (F 1) (F 2)) = 0 := by
    unfold dot4
    rw [hc 0 (by decide), hc 1 (by decide), hc 2 (by decide), hc 3 (by decide)]
    grind
  grind
/-- four independent rows: every four numbers are reached -/
theorem ind_onto {F : Nat → Vec} (hF : Ind 4 F) (u : Vec) : ∃ w : Vec, ∀ k, k < 4 → dot4 (F k) w = u k := by
  have hD := ind_whole hF
  refine ⟨fun i => (u 0 * dual F 0 i + u 1 * dual F 1 i + u 2 * dual F 2 i + u 3 * dual F 3 i) / whole F, fun k hk => ?_⟩
  have e : dot4 (F k) (fun i => (u 0 * dual F 0 i + u 1 * dual F 1 i + u 2 * dual F 2 i + u 3 * dual F 3 i) / whole F) = (u 0 * dot4 (F k) (dual F 0) + u 1 * dot4 (F k) (dual F 1) + u 2 * dot4 (F k) (dual F 2) + u 3 * dot4 (F k) (dual F 3)) / whole F := by
    unfold dot4
    grind
  rw [e, dual_row F k 0 hk (by decide), dual_row F k 1 hk (by decide), dual_row F k 2 hk (by decide), dual_row F k 3 hk (by decide)]
  match k, hk with
  | 0, _ => simp; grind
  | 1, _ => simp; grind
  | 2, _ => simp; grind
  | 3, _ => simp; grind
end On
set_option linter.all false
/-! The sums of minors of a sum of squares. -/
namespace On
/-- the third and the fourth sum of minors, of the squares -/
def three4 (c : Vec) (F : Nat → Vec) : Rat := c 1 * c 2 * c 3 * dot4 (dual F 0) (dual F 0) + c 0 * c 2 * c 3 * dot4 (dual F 1) (dual F 1) + c 0 * c 1 * c 3 * dot4 (dual F 2) (dual F 2) + c 0 * c 1 * c 2 * dot4 (dual F 3) (dual F 3)
def four4 (c : Vec) (F : Nat → Vec) : Rat := c 0 * c 1 * c 2 * c 3 * (whole F * whole F)
/-- a matrix' minor of three rows and columns, of two by two -/
def mtri (A : Nat → Vec) (i j k : Nat) : Rat := tri (A i) (A j) (A k) i j k
theorem mat_wed (c : Vec) (F : Nat → Vec) (i j k l : Nat) : wed (mat4 c F i) (mat4 c F j) k l =
    c 0 * c 1 * (wed (F 0) (F 1) i j * wed (F 0) (F 1) k l) + c 0 * c 2 * (wed (F 0) (F 2) i j * wed (F 0) (F 2) k l) + c 0 * c 3 * (wed (F 0) (F 3) i j * wed (F 0) (F 3) k l) + c 1 * c 2 * (wed (F 1) (F 2) i j * wed (F 1) (F 2) k l) + c 1 * c 3 * (wed (F 1) (F 3) i j * wed (F 1) (F 3) k l) + c 2 * c 3 * (wed (F 2) (F 3) i j * wed (F 2) (F 3) k l) := by
  unfold wed mat4 sum4
  grind
theorem tri_same (f g : Vec) (i j k : Nat) : tri f f g i j k = 0 := by
  unfold tri wed
  grind
theorem tri_same2 (f g : Vec) (i j k : Nat) : tri g f g i j k = 0 := by
  unfold tri wed
  grind
theorem tri_turn (f g h : Vec) (i j k : Nat) : tri g f h i j k = -tri f g h i j k := by
  unfold tri wed
  grind
theorem tri_turn2 (f g h : Vec) (i j k : Nat) : tri f h g i j k = -tri f g h i j k := by
  unfold tri wed
  grind
theorem tri_wed (f g h : Vec) (i j k : Nat) : f i * wed g h j k - f j * wed g h i k + f k * wed g h i j = tri f g h i j k := rfl
theorem mat_tri (c : Vec) (F : Nat → Vec) (i j k : Nat) : tri (mat4 c F i) (mat4 c F j) (mat4 c F k) i j k =
    c 1 * c 2 * c 3 * (tri (F 1) (F 2) (F 3) i j k * tri (F 1) (F 2) (F 3) i j k) + c 0 * c 2 * c 3 * (tri (F 0) (F 2) (F 3) i j k * tri (F 0) (F 2) (F 3) i j k) + c 0 * c 1 * c 3 * (tri (F 0) (F 1) (F 3) i j k * tri (F 0) (F 1) (F 3) i j k) + c 0 * c 1 * c 2 * (tri (F 0) (F 1) (F 2) i j k * tri (F 0) (F 1) (F 2) i j k) := by
  unfold tri
  rw [mat_wed, mat_wed, mat_wed]
  unfold mat4 sum4 wed
  grind
theorem mat_three (c : Vec) (F : Nat → Vec) : mtri (mat4 c F) 1 2 3 + mtri (mat4 c F) 0 2 3 + mtri (mat4 c F) 0 1 3 + mtri (mat4 c F) 0 1 2 = three4 c F := by
  unfold mtri three4
  rw [mat_tri, mat_tri, mat_tri, mat_tri]
  unfold dot4
  simp only [dual, crossV]
  generalize tri (F 1) (F 2) (F 3) = t0
  generalize tri (F 0) (F 2) (F 3) = t1
  generalize tri (F 0) (F 1) (F 3) = t2
  generalize tri (F 0) (F 1) (F 2) = t3
  grind
/-! ### the fourth -/
theorem pair_self (f g h : Vec) : pair4 (wed f g) (wed f h) = 0 := by
  unfold pair4 wed
  grind
theorem pair_self2 (f g h : Vec) : pair4 (wed f g) (wed h g) = 0 := by
  unfold pair4 wed
  grind
theorem pair_self3 (f g h : Vec) : pair4 (wed f g) (wed h f) = 0 := by
  unfold pair4 wed
  grind
theorem pair_self4 (f g h : Vec) : pair4 (wed f g) (wed g h) = 0 := by
  unfold pair4 wed
  grind
theorem pair_comm (a b : Nat → Nat → Rat) : pair4 a b = pair4 b a := by
  unfold pair4
  grind
theorem pair_turn (f g h k : Vec) : pair4 (wed f h) (wed g k) = -pair4 (wed f g) (wed h k) := by
  unfold pair4 wed
  grind
theorem pair_turn2 (f g h k : Vec) : pair4 (wed f k) (wed g h) = pair4 (wed f g) (wed h k) := by
  unfold pair4 wed
  grind
theorem pair_lin (w01 w02 w03 w12 w13 w23 : Nat → Nat → Rat) (a01 a02 a03 a12 a13 a23 b01 b02 b03 b12 b13 b23 : Rat) : pair4 (fun k l => a01 * w01 k l + a02 * w02 k l + a03 * w03 k l + a12 * w12 k l + a13 * w13 k l + a23 * w23 k l) (fun k l => b01 * w01 k l + b02 * w02 k l + b03 * w03 k l + b12 * w12 k l + b13 * w13 k l + b23 * w23 k l) =
    a01 * b01 * pair4 w01 w01 + a01 * b02 * pair4 w01 w02 + a01 * b03 * pair4 w01 w03 + a01 * b12 * pair4 w01 w12 + a01 * b13 * pair4 w01 w13 + a01 * b23 * pair4 w01 w23 + a02 * b01 * pair4 w02 w01 + a02 * b02 * pair4 w02 w02 + a02 * b03 * pair4 w02 w03 + a02 * b12 * pair4 w02 w12 + a02 * b13 * pair4 w02 w13 + a02 * b23 * pair4 w02 w23 + a03 * b01 * pair4 w03 w01 + a03 * b02 * pair4 w03 w02 + a03 * b03 * pair4 w03 w03 + a03 * b12 * pair4 w03 w12 + a03 * b13 * pair4 w03 w13 + a03 * b23 * pair4 w03 w23 + a12 * b01 * pair4 w12 w01 + a12 * b02 * pair4 w12 w02 + a12 * b03 * pair4 w12 w03 + a12 * b12 * pair4 w12 w12 + a12 * b13 * pair4 w12 w13 + a12 * b23 * pair4 w12 w23 + a13 * b01 * pair4 w13 w01 + a13 * b02 * pair4 w13 w02 + a13 * b03 * pair4 w13 w03 + a13 * b12 * pair4 w13 w12 + a13 * b13 * pair4 w13 w13 + a13 * b23 * pair4 w13 w23 + a23 * b01 * pair4 w23 w01 + a23 * b02 * pair4 w23 w02 + a23 * b03 * pair4 w23 w03 + a23 * b12 * pair4 w23 w12 + a23 * b13 * pair4 w23 w13 + a23 * b23 * pair4 w23 w23 := by
  unfold pair4
  grind
theorem whole_cols (F : Nat → Vec) : whole F = wed (F 0) (F 1) 0 1 * wed (F 2) (F 3) 2 3 - wed (F 0) (F 2) 0 1 * wed (F 1) (F 3) 2 3 + wed (F 0) (F 3) 0 1 * wed (F 1) (F 2) 2 3 + wed (F 1) (F 2) 0 1 * wed (F 0) (F 3) 2 3 - wed (F 1) (F 3) 0 1 * wed (F 0) (F 2) 2 3 + wed (F 2) (F 3) 0 1 * wed (F 0) (F 1) 2 3 := by
  unfold whole det4 pair4 wed
  grind
theorem mat_four (c : Vec) (F : Nat → Vec) : whole (mat4 c F) = four4 c F := by
  have e : whole (mat4 c F) = pair4 (wed (mat4 c F 0) (mat4 c F 1)) (wed (mat4 c F 2) (mat4 c F 3)) := rfl
  have e1 : wed (mat4 c F 0) (mat4 c F 1) = fun k l => c 0 * c 1 * wed (F 0) (F 1) 0 1 * wed (F 0) (F 1) k l + c 0 * c 2 * wed (F 0) (F 2) 0 1 * wed (F 0) (F 2) k l + c 0 * c 3 * wed (F 0) (F 3) 0 1 * wed (F 0) (F 3) k l + c 1 * c 2 * wed (F 1) (F 2) 0 1 * wed (F 1) (F 2) k l + c 1 * c 3 * wed (F 1) (F 3) 0 1 * wed (F 1) (F 3) k l + c 2 * c 3 * wed (F 2) (F 3) 0 1 * wed (F 2) (F 3) k l := funext fun k => funext fun l => by
    rw [mat_wed]
    grind
  have e2 : wed (mat4 c F 2) (mat4 c F 3) = fun k l => c 0 * c 1 * wed (F 0) (F 1) 2 3 * wed (F 0) (F 1) k l + c 0 * c 2 * wed (F 0) (F 2) 2 3 * wed (F 0) (F 2) k l + c 0 * c 3 * wed (F 0) (F 3) 2 3 * wed (F 0) (F 3) k l + c 1 * c 2 * wed (F 1) (F 2) 2 3 * wed (F 1) (F 2) k l + c 1 * c 3 * wed (F 1) (F 3) 2 3 * wed (F 1) (F 3) k l + c 2 * c 3 * wed (F 2) (F 3) 2 3 * wed (F 2) (F 3) k l := funext fun k => funext fun l => by
    rw [mat_wed]
    grind
  rw [e, e1, e2, pair_lin]
  have s01x01 : pair4 (wed (F 0) (F 1)) (wed (F 0) (F 1)) = 0 := pair_self (F 0) (F 1) (F 1)
  have s01x02 : pair4 (wed (F 0) (F 1)) (wed (F 0) (F 2)) = 0 := pair_self (F 0) (F 1) (F 2)
  have s01x03 : pair4 (wed (F 0) (F 1)) (wed (F 0) (F 3)) = 0 := pair_self (F 0) (F 1) (F 3)
  have s01x12 : pair4 (wed (F 0) (F 1)) (wed (F 1) (F 2)) = 0 := pair_self4 (F 0) (F 1) (F 2)
  have s01x13 : pair4 (wed (F 0) (F 1)) (wed (F 1) (F 3)) = 0 := pair_self4 (F 0) (F 1) (F 3)
  have s01x23 : pair4 (wed (F 0) (F 1)) (wed (F 2) (F 3)) = whole F := rfl
  have s02x01 : pair4 (wed (F 0) (F 2)) (wed (F 0) (F 1)) = 0 := pair_self (F 0) (F 2) (F 1)
  have s02x02 : pair4 (wed (F 0) (F 2)) (wed (F 0) (F 2)) = 0 := pair_self (F 0) (F 2) (F 2)
  have s02x03 : pair4 (wed (F 0) (F 2)) (wed (F 0) (F 3)) = 0 := pair_self (F 0) (F 2) (F 3)
  have s02x12 : pair4 (wed (F 0) (F 2)) (wed (F 1) (F 2)) = 0 := pair_self2 (F 0) (F 2) (F 1)
  have s02x13 : pair4 (wed (F 0) (F 2)) (wed (F 1) (F 3)) = -whole F := pair_turn _ _ _ _
  have s02x23 : pair4 (wed (F 0) (F 2)) (wed (F 2) (F 3)) = 0 := pair_self4 (F 0) (F 2) (F 3)
  have s03x01 : pair4 (wed (F 0) (F 3)) (wed (F 0) (F 1)) = 0 := pair_self (F 0) (F 3) (F 1)
  have s03x02 : pair4 (wed (F 0) (F 3)) (wed (F 0) (F 2)) = 0 := pair_self (F 0) (F 3) (F 2)
  have s03x03 : pair4 (wed (F 0) (F 3)) (wed (F 0) (F 3)) = 0 := pair_self (F 0) (F 3) (F 3)
  have s03x12 : pair4 (wed (F 0) (F 3)) (wed (F 1) (F 2)) = whole F := pair_turn2 _ _ _ _
  have s03x13 : pair4 (wed (F 0) (F 3)) (wed (F 1) (F 3)) = 0 := pair_self2 (F 0) (F 3) (F 1)
  have s03x23 : pair4 (wed (F 0) (F 3)) (wed (F 2) (F 3)) = 0 := pair_self2 (F 0) (F 3) (F 2)
  have s12x01 : pair4 (wed (F 1) (F 2)) (wed (F 0) (F 1)) = 0 := pair_self3 (F 1) (F 2) (F 0)
  have s12x02 : pair4 (wed (F 1) (F 2)) (wed (F 0) (F 2)) = 0 := pair_self2 (F 1) (F 2) (F 0)
  have s12x03 : pair4 (wed (F 1) (F 2)) (wed (F 0) (F 3)) = whole F := (pair_comm _ _).trans (pair_turn2 _ _ _ _)
  have s12x12 : pair4 (wed (F 1) (F 2)) (wed (F 1) (F 2)) = 0 := pair_self (F 1) (F 2) (F 2)
  have s12x13 : pair4 (wed (F 1) (F 2)) (wed (F 1) (F 3)) = 0 := pair_self (F 1) (F 2) (F 3)
  have s12x23 : pair4 (wed (F 1) (F 2)) (wed (F 2) (F 3)) = 0 := pair_self4 (F 1) (F 2) (F 3)
  have s13x01 : pair4 (wed (F 1) (F 3)) (wed (F 0) (F 1)) = 0 := pair_self3 (F 1) (F 3) (F 0)
  have s13x02 : pair4 (wed (F 1) (F 3)) (wed (F 0) (F 2)) = -whole F := (pair_comm _ _).trans (pair_turn _ _ _ _)
  have s13x03 : pair4 (wed (F 1) (F 3)) (wed (F 0) (F 3)) = 0 := pair_self2 (F 1) (F 3) (F 0)
  have s13x12 : pair4 (wed (F 1) (F 3)) (wed (F 1) (F 2)) = 0 := pair_self (F 1) (F 3) (F 2)
  have s13x13 : pair4 (wed (F 1) (F 3)) (wed (F 1) (F 3)) = 0 := pair_self (F 1) (F 3) (F 3)
  have s13x23 : pair4 (wed (F 1) (F 3)) (wed (F 2) (F 3)) = 0 := pair_self2 (F 1) (F 3) (F 2)
  have s23x01 : pair4 (wed (F 2) (F 3)) (wed (F 0) (F 1)) = whole F := pair_comm _ _
  have s23x02 : pair4 (wed (F 2) (F 3)) (wed (F 0) (F 2)) = 0 := pair_self3 (F 2) (F 3) (F 0)
  have s23x03 : pair4 (wed (F 2) (F 3)) (wed (F 0) (F 3)) = 0 := pair_self2 (F 2) (F 3) (F 0)
  have s23x12 : pair4 (wed (F 2) (F 3)) (wed (F 1) (F 2)) = 0 := pair_self3 (F 2) (F 3) (F 1)
  have s23x13 : pair4 (wed (F 2) (F 3)) (wed (F 1) (F 3)) = 0 := pair_self2 (F 2) (F 3) (F 1)
  have s23x23 : pair4 (wed (F 2) (F 3)) (wed (F 2) (F 3)) = 0 := pair_self (F 2) (F 3) (F 3)
  rw [s01x01, s01x02, s01x03, s01x12, s01x13, s01x23, s02x01, s02x02, s02x03, s02x12, s02x13, s02x23, s03x01, s03x02, s03x03, s03x12, s03x13, s03x23, s12x01, s12x02, s12x03, s12x12, s12x13, s12x23, s13x01, s13x02, s13x03, s13x12, s13x13, s13x23, s23x01, s23x02, s23x03, s23x12, s23x13, s23x23]
  have hD := whole_cols F
  unfold four4
  refine Eq.trans (b := c 0 * c 1 * c 2 * c 3 * (whole F * (wed (F 0) (F 1) 0 1 * wed (F 2) (F 3) 2 3 - wed (F 0) (F 2) 0 1 * wed (F 1) (F 3) 2 3 + wed (F 0) (F 3) 0 1 * wed (F 1) (F 2) 2 3 + wed (F 1) (F 2) 0 1 * wed (F 0) (F 3) 2 3 - wed (F 1) (F 3) 0 1 * wed (F 0) (F 2) 2 3 + wed (F 2) (F 3) 0 1 * wed (F 0) (F 1) 2 3))) ?_ (by rw [← hD])
  clear hD
  grind
/-! ### the dual's -/
theorem wed_dual (f g x y : Vec) : gram (crossV g x y) (crossV f x y) = det4 f g x y * det4 f g x y * gram x y := by
  have k01 : wed (crossV g x y) (crossV f x y) 0 1 = -(det4 f g x y * wed x y 2 3) := by
    unfold det4 pair4 wed; simp only [crossV]; unfold tri wed; grind
  have k02 : wed (crossV g x y) (crossV f x y) 0 2 = det4 f g x y * wed x y 1 3 := by
    unfold det4 pair4 wed; simp only [crossV]; unfold tri wed; grind
  have k03 : wed (crossV g x y) (crossV f x y) 0 3 = -(det4 f g x y * wed x y 1 2) := by
    unfold det4 pair4 wed; simp only [crossV]; unfold tri wed; grind
  have k12 : wed (crossV g x y) (crossV f x y) 1 2 = -(det4 f g x y * wed x y 0 3) := by
    unfold det4 pair4 wed; simp only [crossV]; unfold tri wed; grind
  have k13 : wed (crossV g x y) (crossV f x y) 1 3 = det4 f g x y * wed x y 0 2 := by
    unfold det4 pair4 wed; simp only [crossV]; unfold tri wed; grind
  have k23 : wed (crossV g x y) (crossV f x y) 2 3 = -(det4 f g x y * wed x y 0 1) := by
    unfold det4 pair4 wed; simp only [crossV]; unfold tri wed; grind
  unfold gram
  rw [k01, k02, k03, k12, k13, k23]
  grind
end On
set_option linter.all false
/-! No sum of minors below: nothing is below. -/
namespace On
def tr1 (M : Nat → Vec) : Rat := M 0 0 + M 1 1 + M 2 2 + M 3 3
def tr2 (M : Nat → Vec) : Rat := wed (M 0) (M 1) 0 1 + wed (M 0) (M 2) 0 2 + wed (M 0) (M 3) 0 3 + wed (M 1) (M 2) 1 2 + wed (M 1) (M 3) 1 3 + wed (M 2) (M 3) 2 3
def tr3 (M : Nat → Vec) : Rat := mtri M 1 2 3 + mtri M 0 2 3 + mtri M 0 1 3 + mtri M 0 1 2
theorem cof_is (M : Nat → Vec) (x : Vec) (i : Nat) (hi : i < 4) : dual M 0 i * x 0 + dual M 1 i * x 1 + dual M 2 i * x 2 + dual M 3 i * x 3 = tr3 M * x i - tr2 M * app4 M x i + tr1 M * app4 M (app4 M x) i - app4 M (app4 M (app4 M x)) i := by
  match i, hi with
  | 0, _ => simp only [dual, crossV, tr3, tr2, tr1, mtri, tri, wed, app4, dot4]; grind
  | 1, _ => simp only [dual, crossV, tr3, tr2, tr1, mtri, tri, wed, app4, dot4]; grind
  | 2, _ => simp only [dual, crossV, tr3, tr2, tr1, mtri, tri, wed, app4, dot4]; grind
  | 3, _ => simp only [dual, crossV, tr3, tr2, tr1, mtri, tri, wed, app4, dot4]; grind
theorem cayley (M : Nat → Vec) (v : Vec) (i : Nat) (hi : i < 4) : app4 M (app4 M (app4 M (app4 M v))) i + tr2 M * app4 M (app4 M v) i + whole M * v i = tr1 M * app4 M (app4 M (app4 M v)) i + tr3 M * app4 M v i := by
  have h := cof_is M (app4 M v) i hi
  have d0 := dual_col M i 0 hi (by decide)
  have d1 := dual_col M i 1 hi (by decide)
  have d2 := dual_col M i 2 hi (by decide)
  have d3 := dual_col M i 3 hi (by decide)
  have e : dual M 0 i * app4 M v 0 + dual M 1 i * app4 M v 1 + dual M 2 i * app4 M v 2 + dual M 3 i * app4 M v 3 = whole M * v i := by
    have : dual M 0 i * app4 M v 0 + dual M 1 i * app4 M v 1 + dual M 2 i * app4 M v 2 + dual M 3 i * app4 M v 3 = (dual M 0 i * M 0 0 + dual M 1 i * M 1 0 + dual M 2 i * M 2 0 + dual M 3 i * M 3 0) * v 0 + (dual M 0 i * M 0 1 + dual M 1 i * M 1 1 + dual M 2 i * M 2 1 + dual M 3 i * M 3 1) * v 1 + (dual M 0 i * M 0 2 + dual M 1 i * M 1 2 + dual M 2 i * M 2 2 + dual M 3 i * M 3 2) * v 2 + (dual M 0 i * M 0 3 + dual M 1 i * M 1 3 + dual M 2 i * M 2 3 + dual M 3 i * M 3 3) * v 3 := by
      unfold app4 dot4
      grind
    rw [this, d0, d1, d2, d3]
    match i, hi with
    | 0, _ => simp; grind
    | 1, _ => simp; grind
    | 2, _ => simp; grind
    | 3, _ => simp; grind
  rw [e] at h
  grind
theorem app_sym {M : Nat → Vec} (hM : ∀ i j, i < 4 → j < 4 → M i j = M j i) (x y : Vec) : dot4 (app4 M x) y = dot4 x (app4 M y) := by
  have h1 := hM 0 1 (by decide) (by decide)
  have h2 := hM 0 2 (by decide) (by decide)
  have h3 := hM 0 3 (by decide) (by decide)
  have h4 := hM 1 2 (by decide) (by decide)
  have h5 := hM 1 3 (by decide) (by decide)
  have h6 := hM 2 3 (by decide) (by decide)
  unfold app4 dot4
  dsimp only
  rw [h1, h2, h3, h4, h5, h6]
  grind
theorem dot_ext {x y : Vec} (h : ∀ i, i < 4 → x i = y i) (z : Vec) : dot4 x z = dot4 y z := by
  unfold dot4
  rw [h 0 (by decide), h 1 (by decide), h 2 (by decide), h 3 (by decide)]
theorem app_ext {M : Nat → Vec} {x y : Vec} (h : ∀ i, i < 4 → x i = y i) (j : Nat) : app4 M x j = app4 M y j := by
  unfold app4 dot4
  rw [h 0 (by decide), h 1 (by decide), h 2 (by decide), h 3 (by decide)]
theorem dot_comm (x y : Vec) : dot4 x y = dot4 y x := by
  unfold dot4
  grind
/-- e1 M^2 + e3 at v -/
def nof (M : Nat → Vec) (v : Vec) : Vec := fun i => tr1 M * app4 M (app4 M v) i + tr3 M * v i
theorem app_nof (M : Nat → Vec) (v : Vec) (i : Nat) : app4 M (nof M v) i = tr1 M * app4 M (app4 M (app4 M v)) i + tr3 M * app4 M v i := by
  generalize hu : app4 M (app4 M v) = u
  have : app4 M (nof M v) i = tr1 M * app4 M u i + tr3 M * app4 M v i := by
    have e : nof M v = fun i => tr1 M * u i + tr3 M * v i := by unfold nof; rw [hu]
    rw [e]
    generalize tr1 M = a
    generalize tr3 M = b
    unfold app4 dot4
    grind
  exact this
theorem app_nof2 (M : Nat → Vec) (v : Vec) (i : Nat) (hi : i < 4) : app4 M (nof M v) i = app4 M (app4 M (app4 M (app4 M v))) i + tr2 M * app4 M (app4 M v) i + whole M * v i := by
  rw [app_nof, cayley M v i hi]
section
variable {M : Nat → Vec} (hM : ∀ i j, i < 4 → j < 4 → M i j = M j i) (h1 : 0 ≤ tr1 M) (h2 : 0 ≤ tr2 M) (h3 : 0 ≤ tr3 M) (h4 : 0 < whole M)
include hM h1 h2 h3 h4
theorem at_nof (v : Vec) : 0 ≤ dot4 (app4 M (nof M v)) (nof M v) := by
  rw [dot_ext (app_nof2 M v)]
  have e : dot4 (fun i => app4 M (app4 M (app4 M (app4 M v))) i + tr2 M * app4 M (app4 M v) i + whole M * v i) (nof M v) =
      tr1 M * dot4 (app4 M (app4 M (app4 M (app4 M v)))) (app4 M (app4 M v)) + tr3 M * dot4 (app4 M (app4 M (app4 M (app4 M v)))) v + tr2 M * tr1 M * dot4 (app4 M (app4 M v)) (app4 M (app4 M v)) + tr2 M * tr3 M * dot4 (app4 M (app4 M v)) v + whole M * tr1 M * dot4 (app4 M (app4 M v)) v + whole M * tr3 M * dot4 v v := by
    unfold nof
    generalize app4 M (app4 M (app4 M (app4 M v))) = v4
    generalize app4 M (app4 M v) = v2
    generalize tr1 M = a
    generalize tr2 M = b
    generalize tr3 M = d
    generalize whole M = f
    unfold dot4
    grind
  have s1 : dot4 (app4 M (app4 M (app4 M (app4 M v)))) (app4 M (app4 M v)) = dot4 (app4 M (app4 M (app4 M v))) (app4 M (app4 M (app4 M v))) := app_sym hM _ _
  have s2 : dot4 (app4 M (app4 M (app4 M (app4 M v)))) v = dot4 (app4 M (app4 M v)) (app4 M (app4 M v)) := by rw [app_sym hM, app_sym hM]
  have s3 : dot4 (app4 M (app4 M v)) v = dot4 (app4 M v) (app4 M v) := app_sym hM _ _
  have e' : dot4 (fun i => app4 M (app4 M (app4 M (app4 M v))) i + tr2 M * app4 M (app4 M v) i + whole M * v i) (nof M v) = _ := e
  show 0 ≤ dot4 (fun i => app4 M (app4 M (app4 M (app4 M v))) i + tr2 M * app4 M (app4 M v) i + whole M * v i) (nof M v)
  rw [e', s1, s2, s3]
  have h4 := Rat.le_of_lt h4
  have n3 := dot4_nonneg (app4 M (app4 M (app4 M v)))
  have n2 := dot4_nonneg (app4 M (app4 M v))
  have n1 := dot4_nonneg (app4 M v)
  have n0 := dot4_nonneg v
  have m1 := Rat.mul_nonneg h1 n3
  have m2 := Rat.mul_nonneg h3 n2
  have m3 := Rat.mul_nonneg (Rat.mul_nonneg h2 h1) n2
  have m4 := Rat.mul_nonneg (Rat.mul_nonneg h2 h3) n1
  have m5 := Rat.mul_nonneg (Rat.mul_nonneg h4 h1) n1
  have m6 := Rat.mul_nonneg (Rat.mul_nonneg h4 h3) n0
  grind
theorem nof_inj {v : Vec} (hz : ∀ i, i < 4 → nof M v i = 0) : ∀ i, i < 4 → v i = 0 := by
  have e0 : ∀ i, i < 4 → app4 M (nof M v) i = 0 := fun i hi => by
    unfold app4 dot4
    rw [hz 0 (by decide), hz 1 (by decide), hz 2 (by decide), hz 3 (by decide)]
    grind
  have e : dot4 (app4 M (nof M v)) v = 0 := by
    unfold dot4
    rw [e0 0 (by decide), e0 1 (by decide), e0 2 (by decide), e0 3 (by decide)]
    grind
  rw [dot_ext (app_nof2 M v)] at e
  have e2 : dot4 (fun i => app4 M (app4 M (app4 M (app4 M v))) i + tr2 M * app4 M (app4 M v) i + whole M * v i) v = dot4 (app4 M (app4 M (app4 M (app4 M v)))) v + tr2 M * dot4 (app4 M (app4 M v)) v + whole M * dot4 v v := by
    generalize app4 M (app4 M (app4 M (app4 M v))) = v4
    generalize app4 M (app4 M v) = v2
    generalize tr2 M = b
    generalize whole M = f
    unfold dot4
    grind
  have e : dot4 (fun i => app4 M (app4 M (app4 M (app4 M v))) i + tr2 M * app4 M (app4 M v) i + whole M * v i) v = 0 := e
  have s2 : dot4 (app4 M (app4 M (app4 M (app4 M v)))) v = dot4 (app4 M (app4 M v)) (app4 M (app4 M v)) := by rw [app_sym hM, app_sym hM]
  have s3 : dot4 (app4 M (app4 M v)) v = dot4 (app4 M v) (app4 M v) := app_sym hM _ _
  rw [e2, s2, s3] at e
  have n2 := dot4_nonneg (app4 M (app4 M v))
  have n1 := Rat.mul_nonneg h2 (dot4_nonneg (app4 M v))
  intro i hi
  refine Classical.byContradiction fun h => ?_
  have := Rat.mul_pos h4 (dot4_pos hi h)
  grind
/-- a form whose sums of minors are not below, the whole above: nowhere below -/
theorem not_below (u : Vec) : 0 ≤ dot4 (app4 M u) u := by
  let N : Nat → Vec := fun k i => nof M (fun l => if l = k then 1 else 0) i
  have hN : ∀ (w : Vec) i, i < 4 → nof M w i = w 0 * N 0 i + w 1 * N 1 i + w 2 * N 2 i + w 3 * N 3 i := fun w i hi => by
    show _ = w 0 * nof M (fun l => if l = 0 then 1 else 0) i + w 1 * nof M (fun l => if l = 1 then 1 else 0) i + w 2 * nof M (fun l => if l = 2 then 1 else 0) i + w 3 * nof M (fun l => if l = 3 then 1 else 0) i
    unfold nof
    generalize tr1 M = a
    generalize tr3 M = b
    simp only [app4, dot4]
    match i, hi with
    | 0, _ => simp; grind
    | 1, _ => simp; grind
    | 2, _ => simp; grind
    | 3, _ => simp; grind
  have hS : ∀ i k, i < 4 → k < 4 → N k i = N i k := fun i k hi hk => by
    have s01 := hM 0 1 (by decide) (by decide)
    have s02 := hM 0 2 (by decide) (by decide)
    have s03 := hM 0 3 (by decide) (by decide)
    have s12 := hM 1 2 (by decide) (by decide)
    have s13 := hM 1 3 (by decide) (by decide)
    have s23 := hM 2 3 (by decide) (by decide)
    show nof M (fun l => if l = k then 1 else 0) i = nof M (fun l => if l = i then 1 else 0) k
    unfold nof
    generalize tr1 M = a
    generalize tr3 M = b
    simp only [app4, dot4]
    match i, hi, k, hk with
    | 0, _, 0, _ => rfl
    | 1, _, 1, _ => rfl
    | 2, _, 2, _ => rfl
    | 3, _, 3, _ => rfl
    | 0, _, 1, _ => simp; grind
    | 0, _, 2, _ => simp; grind
    | 0, _, 3, _ => simp; grind
    | 1, _, 0, _ => simp; grind
    | 1, _, 2, _ => simp; grind
    | 1, _, 3, _ => simp; grind
    | 2, _, 0, _ => simp; grind
    | 2, _, 1, _ => simp; grind
    | 2, _, 3, _ => simp; grind
    | 3, _, 0, _ => simp; grind
    | 3, _, 1, _ => simp; grind
    | 3, _, 2, _ => simp; grind
  have hI : Ind 4 N := fun y hy => nof_inj hM h1 h2 h3 h4 fun i hi => by rw [hN y i hi]; exact hy i hi
  obtain ⟨w, hw⟩ := ind_onto hI u
  have e : ∀ i, i < 4 → nof M w i = u i := fun i hi => by
    rw [← hw i hi, hN w i hi]
    unfold dot4
    rw [hS i 0 hi (by decide), hS i 1 hi (by decide), hS i 2 hi (by decide), hS i 3 hi (by decide)]
    grind
  have := at_nof hM h1 h2 h3 h4 w
  rw [dot_ext (y := app4 M u) (fun i _ => app_ext e i), dot_comm, dot_ext e, dot_comm] at this
  exact this
end
end On
set_option linter.all false
/-! The turns of sign tell whether two squares are above. -/
namespace On
def Turns (a b d e : Rat) : Prop := (a < 0 ∧ 0 < b) ∨ (a < 0 ∧ 0 < d) ∨ (a < 0 ∧ 0 < e) ∨ (b < 0 ∧ 0 < d) ∨ (b < 0 ∧ 0 < e) ∨ (d < 0 ∧ 0 < e)
def TurnsOf (c : Vec) (F : Nat → Vec) : Prop := Turns (-one4 c F) (two4 c F) (-three4 c F) (four4 c F)
theorem dot4_ext {x y : Vec} (h : ∀ i, i < 4 → x i = y i) : dot4 x x = dot4 y y := by
  unfold dot4
  rw [h 0 (by decide), h 1 (by decide), h 2 (by decide), h 3 (by decide)]
theorem gram_sgn {f g f' g' : Vec} (s t : Rat) (hs : s * s = 1) (ht : t * t = 1) (hf : ∀ i, i < 4 → f i = s * f' i) (hg : ∀ i, i < 4 → g i = t * g' i) : gram f g = gram f' g' := by
  unfold gram wed
  rw [hf 0 (by decide), hf 1 (by decide), hf 2 (by decide), hf 3 (by decide), hg 0 (by decide), hg 1 (by decide), hg 2 (by decide), hg 3 (by decide)]
  have k : ∀ i j, (s * f' i * (t * g' j) - s * f' j * (t * g' i)) * (s * f' i * (t * g' j) - s * f' j * (t * g' i)) = (f' i * g' j - f' j * g' i) * (f' i * g' j - f' j * g' i) := fun i j => by
    have : (s * f' i * (t * g' j) - s * f' j * (t * g' i)) * (s * f' i * (t * g' j) - s * f' j * (t * g' i)) = (s * s) * (t * t) * ((f' i * g' j - f' j * g' i) * (f' i * g' j - f' j * g' i)) := by grind
    rw [this, hs, ht]
    grind
  rw [k, k, k, k, k, k]
theorem cross_turn (f g h : Vec) (i : Nat) (hi : i < 4) : crossV f g h i = -1 * crossV g f h i := by
  match i, hi with
  | 0, _ => simp only [crossV]; unfold tri wed; grind
  | 1, _ => simp only [crossV]; unfold tri wed; grind
  | 2, _ => simp only [crossV]; unfold tri wed; grind
  | 3, _ => simp only [crossV]; unfold tri wed; grind
theorem cross_round (f g h : Vec) (i : Nat) (hi : i < 4) : crossV f g h i = 1 * crossV h f g i := by
  match i, hi with
  | 0, _ => simp only [crossV]; unfold tri wed; grind
  | 1, _ => simp only [crossV]; unfold tri wed; grind
  | 2, _ => simp only [crossV]; unfold tri wed; grind
  | 3, _ => simp only [crossV]; unfold tri wed; grind
def dualc (c : Vec) : Vec
  | 0 => c 1 * c 2 * c 3
  | 1 => c 0 * c 2 * c 3
  | 2 => c 0 * c 1 * c 3
  | 3 => c 0 * c 1 * c 2
  | _ => 0
theorem dual_gram (F : Nat → Vec) :
    gram (dual F 0) (dual F 1) = whole F * whole F * gram (F 2) (F 3) ∧ gram (dual F 0) (dual F 2) = whole F * whole F * gram (F 1) (F 3) ∧ gram (dual F 0) (dual F 3) = whole F * whole F * gram (F 1) (F 2) ∧
    gram (dual F 1) (dual F 2) = whole F * whole F * gram (F 0) (F 3) ∧ gram (dual F 1) (dual F 3) = whole F * whole F * gram (F 0) (F 2) ∧ gram (dual F 2) (dual F 3) = whole F * whole F * gram (F 0) (F 1) := by
  have p : ∀ x : Rat, x = 1 * x := fun x => by grind
  have n : ∀ x : Rat, -x = -1 * x := fun x => by grind
  have np : ∀ {x y : Rat}, x = 1 * y → -x = -1 * y := fun {x y} h => by grind
  have nn : ∀ {x y : Rat}, x = -1 * y → -x = 1 * y := fun {x y} h => by grind
  have d : ∀ {a b : Rat}, a = b ∨ a = -b → a * a = b * b := fun {a b} h => by rcases h with rfl | rfl <;> grind
  refine ⟨?_, ?_, ?_, ?_, ?_, ?_⟩
  · rw [gram_sgn (f := dual F 0) (g := dual F 1) 1 (-1) (by grind) (by grind) (f' := crossV (F 1) (F 2) (F 3)) (g' := crossV (F 0) (F 2) (F 3)) (fun i hi => p _) (fun i hi => n _), wed_dual]; rfl
  · rw [gram_sgn (f := dual F 0) (g := dual F 2) (-1) 1 (by grind) (by grind) (f' := crossV (F 2) (F 1) (F 3)) (g' := crossV (F 0) (F 1) (F 3)) (fun i hi => cross_turn _ _ _ i hi) (fun i hi => p _), wed_dual]
    rw [d (a := det4 (F 0) (F 2) (F 1) (F 3)) (b := whole F) (by unfold whole det4 pair4 wed; right; grind)]
  · rw [gram_sgn (f := dual F 0) (g := dual F 3) 1 (-1) (by grind) (by grind) (f' := crossV (F 3) (F 1) (F 2)) (g' := crossV (F 0) (F 1) (F 2)) (fun i hi => cross_round _ _ _ i hi) (fun i hi => n _), wed_dual]
    rw [d (a := det4 (F 0) (F 3) (F 1) (F 2)) (b := whole F) (by unfold whole det4 pair4 wed; left; grind)]
  · rw [gram_sgn (f := dual F 1) (g := dual F 2) 1 (-1) (by grind) (by grind) (f' := crossV (F 2) (F 0) (F 3)) (g' := crossV (F 1) (F 0) (F 3)) (fun i hi => nn (cross_turn _ _ _ i hi)) (fun i hi => cross_turn _ _ _ i hi), wed_dual]
    rw [d (a := det4 (F 1) (F 2) (F 0) (F 3)) (b := whole F) (by unfold whole det4 pair4 wed; left; grind)]
  · rw [gram_sgn (f := dual F 1) (g := dual F 3) (-1) 1 (by grind) (by grind) (f' := crossV (F 3) (F 0) (F 2)) (g' := crossV (F 1) (F 0) (F 2)) (fun i hi => np (cross_round _ _ _ i hi)) (fun i hi => nn (cross_turn _ _ _ i hi)), wed_dual]
    rw [d (a := det4 (F 1) (F 3) (F 0) (F 2)) (b := whole F) (by unfold whole det4 pair4 wed; right; grind)]
  · rw [gram_sgn (f := dual F 2) (g := dual F 3) 1 (-1) (by grind) (by grind) (f' := crossV (F 3) (F 0) (F 1)) (g' := crossV (F 2) (F 0) (F 1)) (fun i hi => cross_round _ _ _ i hi) (fun i hi => np (cross_round _ _ _ i hi)), wed_dual]
    rw [d (a := det4 (F 2) (F 3) (F 0) (F 1)) (b := whole F) (by unfold whole det4 pair4 wed; left; grind)]
theorem dual_one (c : Vec) (F : Nat → Vec) : one4 (dualc c) (dual F) = three4 c F := by
  unfold one4 sum4 three4
  simp only [dualc]
theorem dual_two (c : Vec) (F : Nat → Vec) : two4 (dualc c) (dual F) = four4 c F * two4 c F := by
  obtain ⟨h1, h2, h3, h4, h5, h6⟩ := dual_gram F
  unfold two4 four4
  rw [h1, h2, h3, h4, h5, h6]
  simp only [dualc]
  grind
theorem neg_one (c : Vec) (F : Nat → Vec) : one4 (fun k => -c k) F = -one4 c F := by
  unfold one4 sum4
  grind
theorem neg_two (c : Vec) (F : Nat → Vec) : two4 (fun k => -c k) F = two4 c F := by
  unfold two4
  grind
theorem neg_three (c : Vec) (F : Nat → Vec) : three4 (fun k => -c k) F = -three4 c F := by
  unfold three4
  grind
theorem neg_four (c : Vec) (F : Nat → Vec) : four4 (fun k => -c k) F = four4 c F := by
  unfold four4
  grind
theorem dual_ne {F : Nat → Vec} (hF : Ind 4 F) {a : Nat} (ha : a < 4) : 0 < dot4 (dual F a) (dual F a) := by
  refine Classical.byContradiction fun hn => ?_
  have hz : ∀ i, i < 4 → dual F a i = 0 := fun i hi => Classical.byContradiction fun h => hn (dot4_pos hi h)
  have := dual_row F a a ha ha
  rw [if_pos rfl] at this
  refine ind_whole hF (this.symm.trans ?_)
  unfold dot4
  rw [hz 0 (by decide), hz 1 (by decide), hz 2 (by decide), hz 3 (by decide)]
  grind
theorem dual_pos {F : Nat → Vec} (hF : Ind 4 F) {a b : Nat} (ha : a < 4) (hb : b < 4) (h : a ≠ b) : 0 < gram (dual F a) (dual F b) := by
  have hs : ∀ f g : Vec, gram f g = gram g f := fun f g => by unfold gram wed; grind
  have hw := sqp (ind_whole hF)
  obtain ⟨h1, h2, h3, h4, h5, h6⟩ := dual_gram F
  have key : ∀ a b, a < 4 → b < 4 → a < b → 0 < gram (dual F a) (dual F b) := fun a b ha hb h => by
    match a, ha, b, hb, h with
    | 0, _, 1, _, _ => rw [h1]; exact Rat.mul_pos hw (ind_gram hF (by decide) (by decide) (by decide) (by decide))
    | 0, _, 2, _, _ => rw [h2]; exact Rat.mul_pos hw (ind_gram hF (by decide) (by decide) (by decide) (by decide))
    | 0, _, 3, _, _ => rw [h3]; exact Rat.mul_pos hw (ind_gram hF (by decide) (by decide) (by decide) (by decide))
    | 1, _, 2, _, _ => rw [h4]; exact Rat.mul_pos hw (ind_gram hF (by decide) (by decide) (by decide) (by decide))
    | 1, _, 3, _, _ => rw [h5]; exact Rat.mul_pos hw (ind_gram hF (by decide) (by decide) (by decide) (by decide))
    | 2, _, 3, _, _ => rw [h6]; exact Rat.mul_pos hw (ind_gram hF (by decide) (by decide) (by decide) (by decide))
    | 3, _, b, hb, h => omega
  rcases Nat.lt_or_gt_of_ne h with h | h
  · exact key a b ha hb h
  · rw [hs]
    exact key b a hb ha h
end On
set_option linter.all false
/-! The squares' signs, case by case. -/
namespace On
section
variable {c : Vec} {F : Nat → Vec}
theorem two_pos {r : Nat} (hF : Ind r F) (hr : r ≤ 4) (hc : ∀ k, k < 4 → 0 ≤ c k) {i j : Nat} (hi : i < r) (hj : j < r) (hij : i < j) (pi : 0 < c i) (pj : 0 < c j) : TurnsOf c F := by
  have n : ∀ k, k < 4 → 0 ≤ c k * dot4 (F k) (F k) := fun k hk => Rat.mul_nonneg (hc k hk) (dot4_nonneg _)
  have n2 : ∀ k l, k < 4 → l < 4 → 0 ≤ c k * c l * gram (F k) (F l) := fun k l hk hl => Rat.mul_nonneg (Rat.mul_nonneg (hc k hk) (hc l hl)) (gram_nonneg _ _)
  have s1 : 0 < c i * dot4 (F i) (F i) := Rat.mul_pos pi (ind_ne hF hr hi)
  have s2 : 0 < c i * c j * gram (F i) (F j) := Rat.mul_pos (Rat.mul_pos pi pj) (ind_gram hF hr hi hj (Nat.ne_of_lt hij))
  have a0 := n 0 (by decide)
  have a1 := n 1 (by decide)
  have a2 := n 2 (by decide)
  have a3 := n 3 (by decide)
  have b01 := n2 0 1 (by decide) (by decide)
  have b02 := n2 0 2 (by decide) (by decide)
  have b03 := n2 0 3 (by decide) (by decide)
  have b12 := n2 1 2 (by decide) (by decide)
  have b13 := n2 1 3 (by decide) (by decide)
  have b23 := n2 2 3 (by decide) (by decide)
  have g1 : 0 < one4 c F := by
    unfold one4 sum4
    have : i < 4 := by omega
    match i, this with
    | 0, _ => grind
    | 1, _ => grind
    | 2, _ => grind
    | 3, _ => grind
  have g2 : 0 < two4 c F := by
    unfold two4
    have hi4 : i < 4 := by omega
    have hj4 : j < 4 := by omega
    match i, hi4, j, hj4, hij with
    | 0, _, 1, _, _ => grind
    | 0, _, 2, _, _ => grind
    | 0, _, 3, _, _ => grind
    | 1, _, 2, _, _ => grind
    | 1, _, 3, _, _ => grind
    | 2, _, 3, _, _ => grind
    | 3, _, j, hj, h => omega
  exact .inl ⟨by grind, g2⟩
/-- the first law for one below -/
theorem one_below {r : Nat} (hF : Ind r F) (hr : r ≤ 4) {a b : Nat} (ha : a < r) (hb : b < r) (hab : a ≠ b) (hc : ∀ k, k < 4 → k ≠ a → 0 ≤ c k) (hp : 0 < c b) (h1 : one4 c F ≤ 0) : two4 c F < 0 :=
  first_law (by omega) (by omega) hab hc hp (ind_ne hF hr ha) (ind_gram hF hr ha hb hab) h1
theorem three_below (hF : Ind 3 F) (h3 : c 3 = 0) {a b : Nat} (ha : a < 3) (hb : b < 3) (hab : a ≠ b) (hc : ∀ k, k < 4 → k ≠ a → 0 ≤ c k) (hp : 0 < c b) (hn : c 0 * c 1 * c 2 < 0) : TurnsOf c F := by
  have k := one_below hF (by decide) ha hb hab hc hp
  have g : 0 < dot4 (dual F 3) (dual F 3) := by
    have := ind_cross hF (by decide) (by decide)
    have e : dot4 (dual F 3) (dual F 3) = dot4 (crossV (F 0) (F 1) (F 2)) (crossV (F 0) (F 1) (F 2)) := by
      simp only [dual]
      unfold dot4
      grind
    rw [e]
    exact this
  have e3 : three4 c F = c 0 * c 1 * c 2 * dot4 (dual F 3) (dual F 3) := by
    unfold three4
    rw [h3]
    grind
  have k3 := Rat.mul_pos (show 0 < -(c 0 * c 1 * c 2) by grind) g
  unfold TurnsOf Turns
  rw [e3]
  by_cases h : one4 c F ≤ 0
  · exact .inr (.inr (.inr (.inl ⟨k h, by grind⟩)))
  · exact .inr (.inl ⟨by grind, by grind⟩)
theorem whole_sq (hF : Ind 4 F) : 0 < whole F * whole F := sqp (ind_whole hF)
theorem four_neg (hF : Ind 4 F) (h : c 0 * c 1 * c 2 * c 3 < 0) : four4 c F < 0 := by
  have := Rat.mul_pos (show 0 < -(c 0 * c 1 * c 2 * c 3) by grind) (whole_sq hF)
  unfold four4
  grind
theorem four_pos (hF : Ind 4 F) (h : 0 < c 0 * c 1 * c 2 * c 3) : 0 < four4 c F := Rat.mul_pos h (whole_sq hF)
/-- the first law for the dual -/
theorem dual_below (hF : Ind 4 F) {d : Vec} {a b : Nat} (ha : a < 4) (hb : b < 4) (hab : a ≠ b) (hc : ∀ k, k < 4 → k ≠ a → 0 ≤ d k) (hp : 0 < d b) (h1 : one4 d (dual F) ≤ 0) : two4 d (dual F) < 0 :=
  first_law ha hb hab hc hp (dual_ne hF ha) (dual_pos hF ha hb hab) h1
theorem neg_of_mul {x y : Rat} (hx : x < 0) (h : x * y < 0) : 0 < y := by
  refine Rat.not_le.mp fun hy => ?_
  have := Rat.mul_nonneg (show 0 ≤ -x by grind) (show 0 ≤ -y by grind)
  grind
theorem four_below (hF : Ind 4 F) {a b : Nat} (ha : a < 4) (hb : b < 4) (hab : a ≠ b) (hc : ∀ k, k < 4 → k ≠ a → 0 ≤ c k) (hp : 0 < c b) (hd : ∀ k, k < 4 → k ≠ a → 0 ≤ -dualc c k) (hq : 0 < -dualc c b) (hn : c 0 * c 1 * c 2 * c 3 < 0) : TurnsOf c F := by
  have k1 := one_below hF (by decide) ha hb hab hc hp
  have k2 := dual_below hF ha hb hab (d := fun k => -dualc c k) hd hq
  rw [neg_one, neg_two, dual_one, dual_two] at k2
  have k3 := four_neg hF hn
  unfold TurnsOf Turns
  by_cases h1 : one4 c F ≤ 0
  · have := k1 h1
    by_cases h3 : 0 ≤ three4 c F
    · have := neg_of_mul k3 (k2 (by grind))
      grind
    · exact .inr (.inr (.inr (.inl ⟨this, by grind⟩)))
  · by_cases h3 : 0 ≤ three4 c F
    · have := neg_of_mul k3 (k2 (by grind))
      exact .inl ⟨by grind, this⟩
    · exact .inr (.inl ⟨by grind, by grind⟩)
theorem mat_tr1 (c : Vec) (F : Nat → Vec) : tr1 (mat4 c F) = one4 c F := mat_one c F
theorem mat_tr2 (c : Vec) (F : Nat → Vec) : tr2 (mat4 c F) = two4 c F := by
  unfold tr2
  rw [mat_wed, mat_wed, mat_wed, mat_wed, mat_wed, mat_wed]
  unfold two4 gram
  generalize wed (F 0) (F 1) = w01
  generalize wed (F 0) (F 2) = w02
  generalize wed (F 0) (F 3) = w03
  generalize wed (F 1) (F 2) = w12
  generalize wed (F 1) (F 3) = w13
  generalize wed (F 2) (F 3) = w23
  grind
theorem mat_tr3 (c : Vec) (F : Nat → Vec) : tr3 (mat4 c F) = three4 c F := mat_three c F
theorem two_below (hF : Ind 4 F) {i : Nat} (hi : i < 4) (hp : 0 < c i) (hn : 0 < c 0 * c 1 * c 2 * c 3) : TurnsOf c F := by
  have k4 := four_pos hF hn
  unfold TurnsOf Turns
  by_cases h1 : 0 < one4 c F
  · exact .inr (.inr (.inl ⟨by grind, k4⟩))
  by_cases h2 : two4 c F < 0
  · exact .inr (.inr (.inr (.inr (.inl ⟨by grind, k4⟩))))
  by_cases h3 : 0 < three4 c F
  · exact .inr (.inr (.inr (.inr (.inr ⟨by grind, k4⟩))))
  exfalso
  have := not_below (M := mat4 (fun k => -c k) F) (fun i j _ _ => by unfold mat4 sum4; grind) (by rw [mat_tr1, neg_one]; grind) (by rw [mat_tr2, neg_two]; grind) (by rw [mat_tr3, neg_three]; grind) (by rw [mat_four, neg_four]; exact k4) (dual F i)
  rw [dot_comm, mat_at] at this
  have d : ∀ k, k < 4 → dot4 (dual F i) (F k) = if k = i then whole F else 0 := fun k hk => by rw [dot_comm]; exact dual_row F k i hk hi
  unfold sum4 at this
  dsimp only at this
  rw [d 0 (by decide), d 1 (by decide), d 2 (by decide), d 3 (by decide)] at this
  have hw := Rat.mul_pos hp (whole_sq hF)
  match i, hi with
  | 0, _ => simp at this; grind
  | 1, _ => simp at this; grind
  | 2, _ => simp at this; grind
  | 3, _ => simp at this; grind
/-! ### none or one above -/
theorem no_above (hc : ∀ k, k < 4 → c k ≤ 0) : ¬ TurnsOf c F := by
  have m2 : ∀ k l, k < 4 → l < 4 → 0 ≤ c k * c l := fun k l hk hl => by
    have := Rat.mul_nonneg (show 0 ≤ -c k by have := hc k hk; grind) (show 0 ≤ -c l by have := hc l hl; grind)
    grind
  have m3 : ∀ k l m, k < 4 → l < 4 → m < 4 → 0 ≤ -(c k * c l * c m) := fun k l m hk hl hm => by
    have := Rat.mul_nonneg (m2 k l hk hl) (show 0 ≤ -c m by have := hc m hm; grind)
    grind
  have n1 : ∀ k, k < 4 → 0 ≤ -c k * dot4 (F k) (F k) := fun k hk => Rat.mul_nonneg (by have := hc k hk; grind) (dot4_nonneg _)
  have n2 : ∀ k l, k < 4 → l < 4 → 0 ≤ c k * c l * gram (F k) (F l) := fun k l hk hl => Rat.mul_nonneg (m2 k l hk hl) (gram_nonneg _ _)
  have n3 : ∀ k l m p, k < 4 → l < 4 → m < 4 → 0 ≤ -(c k * c l * c m) * dot4 (dual F p) (dual F p) := fun k l m p hk hl hm => Rat.mul_nonneg (m3 k l m hk hl hm) (dot4_nonneg _)
  have g1 : one4 c F ≤ 0 := by
    have := n1 0 (by decide)
    have := n1 1 (by decide)
    have := n1 2 (by decide)
    have := n1 3 (by decide)
    unfold one4 sum4
    grind
  have g2 : 0 ≤ two4 c F := by
    have := n2 0 1 (by decide) (by decide)
    have := n2 0 2 (by decide) (by decide)
    have := n2 0 3 (by decide) (by decide)
    have := n2 1 2 (by decide) (by decide)
    have := n2 1 3 (by decide) (by decide)
    have := n2 2 3 (by decide) (by decide)
    unfold two4
    grind
  have g3 : three4 c F ≤ 0 := by
    have := n3 1 2 3 0 (by decide) (by decide) (by decide)
    have := n3 0 2 3 1 (by decide) (by decide) (by decide)
    have := n3 0 1 3 2 (by decide) (by decide) (by decide)
    have := n3 0 1 2 3 (by decide) (by decide) (by decide)
    unfold three4
    grind
  have g4 : 0 ≤ four4 c F := by
    have := Rat.mul_nonneg (m2 0 1 (by decide) (by decide)) (m2 2 3 (by decide) (by decide))
    have := Rat.mul_nonneg this (sqn (whole F))
    unfold four4
    grind
  unfold TurnsOf Turns
  grind
/-- one square alone -/
theorem alone (h1 : c 1 = 0) (h2 : c 2 = 0) (h3 : c 3 = 0) : ¬ TurnsOf c F := by
  have g2 : two4 c F = 0 := by
    unfold two4
    rw [h1, h2, h3]
    grind
  have g3 : three4 c F = 0 := by
    unfold three4
    rw [h1, h2, h3]
    grind
  have g4 : four4 c F = 0 := by
    unfold four4
    rw [h1, h2, h3]
    grind
  unfold TurnsOf Turns
  rw [g2, g3, g4]
  grind
theorem one_above3 {r : Nat} (hF : Ind r F) (hr : r ≤ 4) (h3 : c 3 = 0) {a b : Nat} (ha : a < r) (hb : b < r) (hab : a ≠ b) (hc : ∀ k, k < 4 → k ≠ a → c k ≤ 0) (hp : c b < 0) (hn : 0 ≤ c 0 * c 1 * c 2) : ¬ TurnsOf c F := by
  have k := one_below (c := fun k => -c k) hF hr ha hb hab (fun k hk h => by have := hc k hk h; grind) (by grind)
  rw [neg_one, neg_two] at k
  have e3 : three4 c F = c 0 * c 1 * c 2 * dot4 (dual F 3) (dual F 3) := by
    unfold three4
    rw [h3]
    grind
  have e4 : four4 c F = 0 := by
    unfold four4
    rw [h3]
    grind
  have k3 := Rat.mul_nonneg hn (dot4_nonneg (dual F 3))
  rw [← e3] at k3
  unfold TurnsOf Turns
  rw [e4]
  rintro (h | h | h | h | h | h)
  · have := k (by grind); grind
  · grind
  · grind
  · grind
  · grind
  · grind
theorem one_above4 (hF : Ind 4 F) {a b : Nat} (ha : a < 4) (hb : b < 4) (hab : a ≠ b) (hc : ∀ k, k < 4 → k ≠ a → c k ≤ 0) (hp : c b < 0) (hd : ∀ k, k < 4 → k ≠ a → 0 ≤ dualc c k) (hq : 0 < dualc c b) (hn : c 0 * c 1 * c 2 * c 3 < 0) : ¬ TurnsOf c F := by
  have k := one_below (c := fun k => -c k) hF (by decide) ha hb hab (fun k hk h => by have := hc k hk h; grind) (by grind)
  rw [neg_one, neg_two] at k
  have k2 := dual_below hF ha hb hab (d := dualc c) hd hq
  rw [dual_one, dual_two] at k2
  have k3 := four_neg hF hn
  unfold TurnsOf Turns
  have q1 : one4 c F < 0 ∨ two4 c F < 0 ∨ 0 < one4 c F := by
    by_cases h : 0 ≤ one4 c F
    · by_cases h' : 0 < one4 c F
      · exact .inr (.inr h')
      · exact .inr (.inl (k (by grind)))
    · exact .inl (by grind)
  have q2 : three4 c F ≤ 0 → 0 < two4 c F := fun h => neg_of_mul k3 (k2 h)
  rintro (h | h | h | h | h | h)
  · have := k (by grind); grind
  · have := k (by grind); have := q2 (by grind); grind
  · grind
  · have := q2 (by grind); grind
  · grind
  · grind
/-- how many are above -/
def ups (c : Vec) : Nat := (if 0 < c 0 then 1 else 0) + (if 0 < c 1 then 1 else 0) + (if 0 < c 2 then 1 else 0) + (if 0 < c 3 then 1 else 0)
theorem mp {x y : Rat} (hx : 0 < x) (hy : 0 < y) : 0 < x * y := Rat.mul_pos hx hy
theorem mn {x y : Rat} (hx : 0 < x) (hy : y < 0) : x * y < 0 := by
  have := Rat.mul_pos hx (show 0 < -y by grind)
  grind
theorem nm {x y : Rat} (hx : x < 0) (hy : 0 < y) : x * y < 0 := by
  have := Rat.mul_pos (show 0 < -x by grind) hy
  grind
theorem nn {x y : Rat} (hx : x < 0) (hy : y < 0) : 0 < x * y := by
  have := Rat.mul_pos (show 0 < -x by grind) (show 0 < -y by grind)
  grind
theorem all_4 {P : Nat → Prop} (h0 : P 0) (h1 : P 1) (h2 : P 2) (h3 : P 3) : ∀ k, k < 4 → P k := fun k hk => match k, hk with
  | 0, _ => h0
  | 1, _ => h1
  | 2, _ => h2
  | 3, _ => h3
end
theorem neg_le {x : Rat} (h : x < 0) : 0 ≤ -x := by grind
theorem neg_lt {x : Rat} (h : x < 0) : 0 < -x := by grind
theorem case0_ {c : Vec} {F : Nat → Vec} (hF : Ind 0 F)  (h0 : c 0 = 0) (h1 : c 1 = 0) (h2 : c 2 = 0) (h3 : c 3 = 0) : ¬ TurnsOf c F :=
  no_above (all_4 (P := fun k => c k ≤ 0) (by rw [h0]; exact Rat.le_refl) (by rw [h1]; exact Rat.le_refl) (by rw [h2]; exact Rat.le_refl) (by rw [h3]; exact Rat.le_refl))
theorem case1_p {c : Vec} {F : Nat → Vec} (hF : Ind 1 F) (h0 : 0 < c 0) (h1 : c 1 = 0) (h2 : c 2 = 0) (h3 : c 3 = 0) : ¬ TurnsOf c F :=
  alone h1 h2 h3
theorem case1_n {c : Vec} {F : Nat → Vec} (hF : Ind 1 F) (h0 : c 0 < 0) (h1 : c 1 = 0) (h2 : c 2 = 0) (h3 : c 3 = 0) : ¬ TurnsOf c F :=
  no_above (all_4 (P := fun k => c k ≤ 0) (Rat.le_of_lt h0) (by rw [h1]; exact Rat.le_refl) (by rw [h2]; exact Rat.le_refl) (by rw [h3]; exact Rat.le_refl))
theorem case2_pp {c : Vec} {F : Nat → Vec} (hF : Ind 2 F) (h0 : 0 < c 0) (h1 : 0 < c 1) (h2 : c 2 = 0) (h3 : c 3 = 0) : TurnsOf c F :=
  two_pos hF (by decide) (all_4 (P := fun k => 0 ≤ c k) (Rat.le_of_lt h0) (Rat.le_of_lt h1) (by rw [h2]; exact Rat.le_refl) (by rw [h3]; exact Rat.le_refl)) (i := 0) (j := 1) (by decide) (by decide) (by decide) h0 h1
theorem case2_pn {c : Vec} {F : Nat → Vec} (hF : Ind 2 F) (h0 : 0 < c 0) (h1 : c 1 < 0) (h2 : c 2 = 0) (h3 : c 3 = 0) : ¬ TurnsOf c F :=
  one_above3 hF (by decide) h3 (a := 0) (b := 1) (by decide) (by decide) (by decide) (all_4 (P := fun k => k ≠ 0 → c k ≤ 0) (fun h => absurd rfl h) (fun _ => (Rat.le_of_lt h1)) (fun _ => (by rw [h2]; exact Rat.le_refl)) (fun _ => (by rw [h3]; exact Rat.le_refl))) h1 (by rw [h2]; grind)
theorem case2_np {c : Vec} {F : Nat → Vec} (hF : Ind 2 F) (h0 : c 0 < 0) (h1 : 0 < c 1) (h2 : c 2 = 0) (h3 : c 3 = 0) : ¬ TurnsOf c F :=
  one_above3 hF (by decide) h3 (a := 1) (b := 0) (by decide) (by decide) (by decide) (all_4 (P := fun k => k ≠ 1 → c k ≤ 0) (fun _ => (Rat.le_of_lt h0)) (fun h => absurd rfl h) (fun _ => (by rw [h2]; exact Rat.le_refl)) (fun _ => (by rw [h3]; exact Rat.le_refl))) h0 (by rw [h2]; grind)
theorem case2_nn {c : Vec} {F : Nat → Vec} (hF : Ind 2 F) (h0 : c 0 < 0) (h1 : c 1 < 0) (h2 : c 2 = 0) (h3 : c 3 = 0) : ¬ TurnsOf c F :=
  no_above (all_4 (P := fun k => c k ≤ 0) (Rat.le_of_lt h0) (Rat.le_of_lt h1) (by rw [h2]; exact Rat.le_refl) (by rw [h3]; exact Rat.le_refl))
theorem case3_ppp {c : Vec} {F : Nat → Vec} (hF : Ind 3 F) (h0 : 0 < c 0) (h1 : 0 < c 1) (h2 : 0 < c 2) (h3 : c 3 = 0) : TurnsOf c F :=
  two_pos hF (by decide) (all_4 (P := fun k => 0 ≤ c k) (Rat.le_of_lt h0) (Rat.le_of_lt h1) (Rat.le_of_lt h2) (by rw [h3]; exact Rat.le_refl)) (i := 0) (j := 1) (by decide) (by decide) (by decide) h0 h1
theorem case3_ppn {c : Vec} {F : Nat → Vec} (hF : Ind 3 F) (h0 : 0 < c 0) (h1 : 0 < c 1) (h2 : c 2 < 0) (h3 : c 3 = 0) : TurnsOf c F :=
  three_below hF h3 (a := 2) (b := 0) (by decide) (by decide) (by decide) (all_4 (P := fun k => k ≠ 2 → 0 ≤ c k) (fun _ => (Rat.le_of_lt h0)) (fun _ => (Rat.le_of_lt h1)) (fun h => absurd rfl h) (fun _ => (by rw [h3]; exact Rat.le_refl))) h0 (mn (mp h0 h1) h2)
theorem case3_pnp {c : Vec} {F : Nat → Vec} (hF : Ind 3 F) (h0 : 0 < c 0) (h1 : c 1 < 0) (h2 : 0 < c 2) (h3 : c 3 = 0) : TurnsOf c F :=
  three_below hF h3 (a := 1) (b := 0) (by decide) (by decide) (by decide) (all_4 (P := fun k => k ≠ 1 → 0 ≤ c k) (fun _ => (Rat.le_of_lt h0)) (fun h => absurd rfl h) (fun _ => (Rat.le_of_lt h2)) (fun _ => (by rw [h3]; exact Rat.le_refl))) h0 (nm (mn h0 h1) h2)
theorem case3_pnn {c : Vec} {F : Nat → Vec} (hF : Ind 3 F) (h0 : 0 < c 0) (h1 : c 1 < 0) (h2 : c 2 < 0) (h3 : c 3 = 0) : ¬ TurnsOf c F :=
  one_above3 hF (by decide) h3 (a := 0) (b := 1) (by decide) (by decide) (by decide) (all_4 (P := fun k => k ≠ 0 → c k ≤ 0) (fun h => absurd rfl h) (fun _ => (Rat.le_of_lt h1)) (fun _ => (Rat.le_of_lt h2)) (fun _ => (by rw [h3]; exact Rat.le_refl))) h1 (Rat.le_of_lt (nn (mn h0 h1) h2))
theorem case3_npp {c : Vec} {F : Nat → Vec} (hF : Ind 3 F) (h0 : c 0 < 0) (h1 : 0 < c 1) (h2 : 0 < c 2) (h3 : c 3 = 0) : TurnsOf c F :=
  three_below hF h3 (a := 0) (b := 1) (by decide) (by decide) (by decide) (all_4 (P := fun k => k ≠ 0 → 0 ≤ c k) (fun h => absurd rfl h) (fun _ => (Rat.le_of_lt h1)) (fun _ => (Rat.le_of_lt h2)) (fun _ => (by rw [h3]; exact Rat.le_refl))) h1 (nm (nm h0 h1) h2)
theorem case3_npn {c : Vec} {F : Nat → Vec} (hF : Ind 3 F) (h0 : c 0 < 0) (h1 : 0 < c 1) (h2 : c 2 < 0) (h3 : c 3 = 0) : ¬ TurnsOf c F :=
  one_above3 hF (by decide) h3 (a := 1) (b := 0) (by decide) (by decide) (by decide) (all_4 (P := fun k => k ≠ 1 → c k ≤ 0) (fun _ => (Rat.le_of_lt h0)) (fun h => absurd rfl h) (fun _ => (Rat.le_of_lt h2)) (fun _ => (by rw [h3]; exact Rat.le_refl))) h0 (Rat.le_of_lt (nn (nm h0 h1) h2))
theorem case3_nnp {c : Vec} {F : Nat → Vec} (hF : Ind 3 F) (h0 : c 0 < 0) (h1 : c 1 < 0) (h2 : 0 < c 2) (h3 : c 3 = 0) : ¬ TurnsOf c F :=
  one_above3 hF (by decide) h3 (a := 2) (b := 0) (by decide) (by decide) (by decide) (all_4 (P := fun k => k ≠ 2 → c k ≤ 0) (fun _ => (Rat.le_of_lt h0)) (fun _ => (Rat.le_of_lt h1)) (fun h => absurd rfl h) (fun _ => (by rw [h3]; exact Rat.le_refl))) h0 (Rat.le_of_lt (mp (nn h0 h1) h2))
theorem case3_nnn {c : Vec} {F : Nat → Vec} (hF : Ind 3 F) (h0 : c 0 < 0) (h1 : c 1 < 0) (h2 : c 2 < 0) (h3 : c 3 = 0) : ¬ TurnsOf c F :=
  no_above (all_4 (P := fun k => c k ≤ 0) (Rat.le_of_lt h0) (Rat.le_of_lt h1) (Rat.le_of_lt h2) (by rw [h3]; exact Rat.le_refl))
theorem case4_pppp {c : Vec} {F : Nat → Vec} (hF : Ind 4 F) (h0 : 0 < c 0) (h1 : 0 < c 1) (h2 : 0 < c 2) (h3 : 0 < c 3)  : TurnsOf c F :=
  two_pos hF (by decide) (all_4 (P := fun k => 0 ≤ c k) (Rat.le_of_lt h0) (Rat.le_of_lt h1) (Rat.le_of_lt h2) (Rat.le_of_lt h3)) (i := 0) (j := 1) (by decide) (by decide) (by decide) h0 h1
theorem case4_pppn {c : Vec} {F : Nat → Vec} (hF : Ind 4 F) (h0 : 0 < c 0) (h1 : 0 < c 1) (h2 : 0 < c 2) (h3 : c 3 < 0)  : TurnsOf c F :=
  four_below hF (a := 3) (b := 0) (by decide) (by decide) (by decide) (all_4 (P := fun k => k ≠ 3 → 0 ≤ c k) (fun _ => (Rat.le_of_lt h0)) (fun _ => (Rat.le_of_lt h1)) (fun _ => (Rat.le_of_lt h2)) (fun h => absurd rfl h)) h0 (all_4 (P := fun k => k ≠ 3 → 0 ≤ -dualc c k) (fun _ => (neg_le (mn (mp h1 h2) h3))) (fun _ => (neg_le (mn (mp h0 h2) h3))) (fun _ => (neg_le (mn (mp h0 h1) h3))) (fun h => absurd rfl h)) (neg_lt (mn (mp h1 h2) h3)) (mn (mp (mp h0 h1) h2) h3)
theorem case4_ppnp {c : Vec} {F : Nat → Vec} (hF : Ind 4 F) (h0 : 0 < c 0) (h1 : 0 < c 1) (h2 : c 2 < 0) (h3 : 0 < c 3)  : TurnsOf c F :=
  four_below hF (a := 2) (b := 0) (by decide) (by decide) (by decide) (all_4 (P := fun k => k ≠ 2 → 0 ≤ c k) (fun _ => (Rat.le_of_lt h0)) (fun _ => (Rat.le_of_lt h1)) (fun h => absurd rfl h) (fun _ => (Rat.le_of_lt h3))) h0 (all_4 (P := fun k => k ≠ 2 → 0 ≤ -dualc c k) (fun _ => (neg_le (nm (mn h1 h2) h3))) (fun _ => (neg_le (nm (mn h0 h2) h3))) (fun h => absurd rfl h) (fun _ => (neg_le (mn (mp h0 h1) h2)))) (neg_lt (nm (mn h1 h2) h3)) (nm (mn (mp h0 h1) h2) h3)
theorem case4_ppnn {c : Vec} {F : Nat → Vec} (hF : Ind 4 F) (h0 : 0 < c 0) (h1 : 0 < c 1) (h2 : c 2 < 0) (h3 : c 3 < 0)  : TurnsOf c F :=
  two_below hF (i := 0) (by decide) h0 (nn (mn (mp h0 h1) h2) h3)
theorem case4_pnpp {c : Vec} {F : Nat → Vec} (hF : Ind 4 F) (h0 : 0 < c 0) (h1 : c 1 < 0) (h2 : 0 < c 2) (h3 : 0 < c 3)  : TurnsOf c F :=
  four_below hF (a := 1) (b := 0) (by decide) (by decide) (by decide) (all_4 (P := fun k => k ≠ 1 → 0 ≤ c k) (fun _ => (Rat.le_of_lt h0)) (fun h => absurd rfl h) (fun _ => (Rat.le_of_lt h2)) (fun _ => (Rat.le_of_lt h3))) h0 (all_4 (P := fun k => k ≠ 1 → 0 ≤ -dualc c k) (fun _ => (neg_le (nm (nm h1 h2) h3))) (fun h => absurd rfl h) (fun _ => (neg_le (nm (mn h0 h1) h3))) (fun _ => (neg_le (nm (mn h0 h1) h2)))) (neg_lt (nm (nm h1 h2) h3)) (nm (nm (mn h0 h1) h2) h3)
theorem case4_pnpn {c : Vec} {F : Nat → Vec} (hF : Ind 4 F) (h0 : 0 < c 0) (h1 : c 1 < 0) (h2 : 0 < c 2) (h3 : c 3 < 0)  : TurnsOf c F :=
  two_below hF (i := 0) (by decide) h0 (nn (nm (mn h0 h1) h2) h3)
theorem case4_pnnp {c : Vec} {F : Nat → Vec} (hF : Ind 4 F) (h0 : 0 < c 0) (h1 : c 1 < 0) (h2 : c 2 < 0) (h3 : 0 < c 3)  : TurnsOf c F :=
  two_below hF (i := 0) (by decide) h0 (mp (nn (mn h0 h1) h2) h3)
theorem case4_pnnn {c : Vec} {F : Nat → Vec} (hF : Ind 4 F) (h0 : 0 < c 0) (h1 : c 1 < 0) (h2 : c 2 < 0) (h3 : c 3 < 0)  : ¬ TurnsOf c F :=
  one_above4 hF (a := 0) (b := 1) (by decide) (by decide) (by decide) (all_4 (P := fun k => k ≠ 0 → c k ≤ 0) (fun h => absurd rfl h) (fun _ => (Rat.le_of_lt h1)) (fun _ => (Rat.le_of_lt h2)) (fun _ => (Rat.le_of_lt h3))) h1 (all_4 (P := fun k => k ≠ 0 → 0 ≤ dualc c k) (fun h => absurd rfl h) (fun _ => Rat.le_of_lt (nn (mn h0 h2) h3)) (fun _ => Rat.le_of_lt (nn (mn h0 h1) h3)) (fun _ => Rat.le_of_lt (nn (mn h0 h1) h2))) (nn (mn h0 h2) h3) (mn (nn (mn h0 h1) h2) h3)
theorem case4_nppp {c : Vec} {F : Nat → Vec} (hF : Ind 4 F) (h0 : c 0 < 0) (h1 : 0 < c 1) (h2 : 0 < c 2) (h3 : 0 < c 3)  : TurnsOf c F :=
  four_below hF (a := 0) (b := 1) (by decide) (by decide) (by decide) (all_4 (P := fun k => k ≠ 0 → 0 ≤ c k) (fun h => absurd rfl h) (fun _ => (Rat.le_of_lt h1)) (fun _ => (Rat.le_of_lt h2)) (fun _ => (Rat.le_of_lt h3))) h1 (all_4 (P := fun k => k ≠ 0 → 0 ≤ -dualc c k) (fun h => absurd rfl h) (fun _ => (neg_le (nm (nm h0 h2) h3))) (fun _ => (neg_le (nm (nm h0 h1) h3))) (fun _ => (neg_le (nm (nm h0 h1) h2)))) (neg_lt (nm (nm h0 h2) h3)) (nm (nm (nm h0 h1) h2) h3)
theorem case4_nppn {c : Vec} {F : Nat → Vec} (hF : Ind 4 F) (h0 : c 0 < 0) (h1 : 0 < c 1) (h2 : 0 < c 2) (h3 : c 3 < 0)  : TurnsOf c F :=
  two_below hF (i := 1) (by decide) h1 (nn (nm (nm h0 h1) h2) h3)
theorem case4_npnp {c : Vec} {F : Nat → Vec} (hF : Ind 4 F) (h0 : c 0 < 0) (h1 : 0 < c 1) (h2 : c 2 < 0) (h3 : 0 < c 3)  : TurnsOf c F :=
  two_below hF (i := 1) (by decide) h1 (mp (nn (nm h0 h1) h2) h3)
theorem case4_npnn {c : Vec} {F : Nat → Vec} (hF : Ind 4 F) (h0 : c 0 < 0) (h1 : 0 < c 1) (h2 : c 2 < 0) (h3 : c 3 < 0)  : ¬ TurnsOf c F :=
  one_above4 hF (a := 1) (b := 0) (by decide) (by decide) (by decide) (all_4 (P := fun k => k ≠ 1 → c k ≤ 0) (fun _ => (Rat.le_of_lt h0)) (fun h => absurd rfl h) (fun _ => (Rat.le_of_lt h2)) (fun _ => (Rat.le_of_lt h3))) h0 (all_4 (P := fun k => k ≠ 1 → 0 ≤ dualc c k) (fun _ => Rat.le_of_lt (nn (mn h1 h2) h3)) (fun h => absurd rfl h) (fun _ => Rat.le_of_lt (nn (nm h0 h1) h3)) (fun _ => Rat.le_of_lt (nn (nm h0 h1) h2))) (nn (mn h1 h2) h3) (mn (nn (nm h0 h1) h2) h3)
theorem case4_nnpp {c : Vec} {F : Nat → Vec} (hF : Ind 4 F) (h0 : c 0 < 0) (h1 : c 1 < 0) (h2 : 0 < c 2) (h3 : 0 < c 3)  : TurnsOf c F :=
  two_below hF (i := 2) (by decide) h2 (mp (mp (nn h0 h1) h2) h3)
theorem case4_nnpn {c : Vec} {F : Nat → Vec} (hF : Ind 4 F) (h0 : c 0 < 0) (h1 : c 1 < 0) (h2 : 0 < c 2) (h3 : c 3 < 0)  : ¬ TurnsOf c F :=
  one_above4 hF (a := 2) (b := 0) (by decide) (by decide) (by decide) (all_4 (P := fun k => k ≠ 2 → c k ≤ 0) (fun _ => (Rat.le_of_lt h0)) (fun _ => (Rat.le_of_lt h1)) (fun h => absurd rfl h) (fun _ => (Rat.le_of_lt h3))) h0 (all_4 (P := fun k => k ≠ 2 → 0 ≤ dualc c k) (fun _ => Rat.le_of_lt (nn (nm h1 h2) h3)) (fun _ => Rat.le_of_lt (nn (nm h0 h2) h3)) (fun h => absurd rfl h) (fun _ => Rat.le_of_lt (mp (nn h0 h1) h2))) (nn (nm h1 h2) h3) (mn (mp (nn h0 h1) h2) h3)
theorem case4_nnnp {c : Vec} {F : Nat → Vec} (hF : Ind 4 F) (h0 : c 0 < 0) (h1 : c 1 < 0) (h2 : c 2 < 0) (h3 : 0 < c 3)  : ¬ TurnsOf c F :=
  one_above4 hF (a := 3) (b := 0) (by decide) (by decide) (by decide) (all_4 (P := fun k => k ≠ 3 → c k ≤ 0) (fun _ => (Rat.le_of_lt h0)) (fun _ => (Rat.le_of_lt h1)) (fun _ => (Rat.le_of_lt h2)) (fun h => absurd rfl h)) h0 (all_4 (P := fun k => k ≠ 3 → 0 ≤ dualc c k) (fun _ => Rat.le_of_lt (mp (nn h1 h2) h3)) (fun _ => Rat.le_of_lt (mp (nn h0 h2) h3)) (fun _ => Rat.le_of_lt (mp (nn h0 h1) h3)) (fun h => absurd rfl h)) (mp (nn h1 h2) h3) (nm (mn (nn h0 h1) h2) h3)
theorem case4_nnnn {c : Vec} {F : Nat → Vec} (hF : Ind 4 F) (h0 : c 0 < 0) (h1 : c 1 < 0) (h2 : c 2 < 0) (h3 : c 3 < 0)  : ¬ TurnsOf c F :=
  no_above (all_4 (P := fun k => c k ≤ 0) (Rat.le_of_lt h0) (Rat.le_of_lt h1) (Rat.le_of_lt h2) (Rat.le_of_lt h3))
theorem not_lt_of {x : Rat} (h : x < 0) : ¬ 0 < x := by grind
theorem sign_of {x : Rat} (h : x ≠ 0) : 0 < x ∨ x < 0 := by
  by_cases h1 : 0 < x
  · exact .inl h1
  · exact .inr (Rat.lt_of_le_of_ne (by grind) h)
/-- two above: there are turns of sign enough -/
theorem turns_ups {r : Nat} {c : Vec} {F : Nat → Vec} (hr : r ≤ 4) (hF : Ind r F) (hc : ∀ k, k < r → c k ≠ 0) (hz : ∀ k, r ≤ k → k < 4 → c k = 0) : TurnsOf c F ↔ 2 ≤ ups c := by
  have z : ¬ (0 : Rat) < 0 := by grind
  match r, hr with
  | 0, _ =>
    have h0 := hz 0 (by decide) (by decide)
    have h1 := hz 1 (by decide) (by decide)
    have h2 := hz 2 (by decide) (by decide)
    have h3 := hz 3 (by decide) (by decide)
    exact ⟨fun h => absurd h (case0_ hF h0 h1 h2 h3), fun h => absurd h (by unfold ups; simp [h0, h1, h2, h3, z])⟩
  | 1, _ =>
    have c0 := sign_of (hc 0 (by decide))
    have h1 := hz 1 (by decide) (by decide)
    have h2 := hz 2 (by decide) (by decide)
    have h3 := hz 3 (by decide) (by decide)
    rcases c0 with h0 | h0
    · exact ⟨fun h => absurd h (case1_p hF h0 h1 h2 h3), fun h => absurd h (by unfold ups; simp [h0, h1, h2, h3, z])⟩
    · exact ⟨fun h => absurd h (case1_n hF h0 h1 h2 h3), fun h => absurd h (by unfold ups; simp [h0, not_lt_of h0, h1, h2, h3, z])⟩
  | 2, _ =>
    have c0 := sign_of (hc 0 (by decide))
    have c1 := sign_of (hc 1 (by decide))
    have h2 := hz 2 (by decide) (by decide)
    have h3 := hz 3 (by decide) (by decide)
    rcases c0 with h0 | h0
    · rcases c1 with h1 | h1
      · exact ⟨fun _ => by unfold ups; simp [h0, h1, h2, h3, z], fun _ => case2_pp hF h0 h1 h2 h3⟩
      · exact ⟨fun h => absurd h (case2_pn hF h0 h1 h2 h3), fun h => absurd h (by unfold ups; simp [h0, h1, not_lt_of h1, h2, h3, z])⟩
    · rcases c1 with h1 | h1
      · exact ⟨fun h => absurd h (case2_np hF h0 h1 h2 h3), fun h => absurd h (by unfold ups; simp [h0, not_lt_of h0, h1, h2, h3, z])⟩
      · exact ⟨fun h => absurd h (case2_nn hF h0 h1 h2 h3), fun h => absurd h (by unfold ups; simp [h0, not_lt_of h0, h1, not_lt_of h1, h2, h3, z])⟩
  | 3, _ =>
    have c0 := sign_of (hc 0 (by decide))
    have c1 := sign_of (hc 1 (by decide))
    have c2 := sign_of (hc 2 (by decide))
    have h3 := hz 3 (by decide) (by decide)
    rcases c0 with h0 | h0
    · rcases c1 with h1 | h1
      · rcases c2 with h2 | h2
        · exact ⟨fun _ => by unfold ups; simp [h0, h1, h2, h3, z], fun _ => case3_ppp hF h0 h1 h2 h3⟩
        · exact ⟨fun _ => by unfold ups; simp [h0, h1, h2, not_lt_of h2, h3, z], fun _ => case3_ppn hF h0 h1 h2 h3⟩
      · rcases c2 with h2 | h2
        · exact ⟨fun _ => by unfold ups; simp [h0, h1, not_lt_of h1, h2, h3, z], fun _ => case3_pnp hF h0 h1 h2 h3⟩
        · exact ⟨fun h => absurd h (case3_pnn hF h0 h1 h2 h3), fun h => absurd h (by unfold ups; simp [h0, h1, not_lt_of h1, h2, not_lt_of h2, h3, z])⟩
    · rcases c1 with h1 | h1
      · rcases c2 with h2 | h2
        · exact ⟨fun _ => by unfold ups; simp [h0, not_lt_of h0, h1, h2, h3, z], fun _ => case3_npp hF h0 h1 h2 h3⟩
        · exact ⟨fun h => absurd h (case3_npn hF h0 h1 h2 h3), fun h => absurd h (by unfold ups; simp [h0, not_lt_of h0, h1, h2, not_lt_of h2, h3, z])⟩
      · rcases c2 with h2 | h2
        · exact ⟨fun h => absurd h (case3_nnp hF h0 h1 h2 h3), fun h => absurd h (by unfold ups; simp [h0, not_lt_of h0, h1, not_lt_of h1, h2, h3, z])⟩
        · exact ⟨fun h => absurd h (case3_nnn hF h0 h1 h2 h3), fun h => absurd h (by unfold ups; simp [h0, not_lt_of h0, h1, not_lt_of h1, h2, not_lt_of h2, h3, z])⟩
  | 4, _ =>
    have c0 := sign_of (hc 0 (by decide))
    have c1 := sign_of (hc 1 (by decide))
    have c2 := sign_of (hc 2 (by decide))
    have c3 := sign_of (hc 3 (by decide))
    rcases c0 with h0 | h0
    · rcases c1 with h1 | h1
      · rcases c2 with h2 | h2
        · rcases c3 with h3 | h3
          · exact ⟨fun _ => by unfold ups; simp [h0, h1, h2, h3, z], fun _ => case4_pppp hF h0 h1 h2 h3⟩
          · exact ⟨fun _ => by unfold ups; simp [h0, h1, h2, h3, not_lt_of h3, z], fun _ => case4_pppn hF h0 h1 h2 h3⟩
        · rcases c3 with h3 | h3
          · exact ⟨fun _ => by unfold ups; simp [h0, h1, h2, not_lt_of h2, h3, z], fun _ => case4_ppnp hF h0 h1 h2 h3⟩
          · exact ⟨fun _ => by unfold ups; simp [h0, h1, h2, not_lt_of h2, h3, not_lt_of h3, z], fun _ => case4_ppnn hF h0 h1 h2 h3⟩
      · rcases c2 with h2 | h2
        · rcases c3 with h3 | h3
          · exact ⟨fun _ => by unfold ups; simp [h0, h1, not_lt_of h1, h2, h3, z], fun _ => case4_pnpp hF h0 h1 h2 h3⟩
          · exact ⟨fun _ => by unfold ups; simp [h0, h1, not_lt_of h1, h2, h3, not_lt_of h3, z], fun _ => case4_pnpn hF h0 h1 h2 h3⟩
        · rcases c3 with h3 | h3
          · exact ⟨fun _ => by unfold ups; simp [h0, h1, not_lt_of h1, h2, not_lt_of h2, h3, z], fun _ => case4_pnnp hF h0 h1 h2 h3⟩
          · exact ⟨fun h => absurd h (case4_pnnn hF h0 h1 h2 h3), fun h => absurd h (by unfold ups; simp [h0, h1, not_lt_of h1, h2, not_lt_of h2, h3, not_lt_of h3, z])⟩
    · rcases c1 with h1 | h1
      · rcases c2 with h2 | h2
        · rcases c3 with h3 | h3
          · exact ⟨fun _ => by unfold ups; simp [h0, not_lt_of h0, h1, h2, h3, z], fun _ => case4_nppp hF h0 h1 h2 h3⟩
          · exact ⟨fun _ => by unfold ups; simp [h0, not_lt_of h0, h1, h2, h3, not_lt_of h3, z], fun _ => case4_nppn hF h0 h1 h2 h3⟩
        · rcases c3 with h3 | h3
          · exact ⟨fun _ => by unfold ups; simp [h0, not_lt_of h0, h1, h2, not_lt_of h2, h3, z], fun _ => case4_npnp hF h0 h1 h2 h3⟩
          · exact ⟨fun h => absurd h (case4_npnn hF h0 h1 h2 h3), fun h => absurd h (by unfold ups; simp [h0, not_lt_of h0, h1, h2, not_lt_of h2, h3, not_lt_of h3, z])⟩
      · rcases c2 with h2 | h2
        · rcases c3 with h3 | h3
          · exact ⟨fun _ => by unfold ups; simp [h0, not_lt_of h0, h1, not_lt_of h1, h2, h3, z], fun _ => case4_nnpp hF h0 h1 h2 h3⟩
          · exact ⟨fun h => absurd h (case4_nnpn hF h0 h1 h2 h3), fun h => absurd h (by unfold ups; simp [h0, not_lt_of h0, h1, not_lt_of h1, h2, h3, not_lt_of h3, z])⟩
        · rcases c3 with h3 | h3
          · exact ⟨fun h => absurd h (case4_nnnp hF h0 h1 h2 h3), fun h => absurd h (by unfold ups; simp [h0, not_lt_of h0, h1, not_lt_of h1, h2, not_lt_of h2, h3, z])⟩
          · exact ⟨fun h => absurd h (case4_nnnn hF h0 h1 h2 h3), fun h => absurd h (by unfold ups; simp [h0, not_lt_of h0, h1, not_lt_of h1, h2, not_lt_of h2, h3, not_lt_of h3, z])⟩
end On
set_option linter.all false
/-! The found squares are independent, and reach every list of numbers. -/
namespace On
theorem sqLoop_acc : ∀ (k : Nat) (m : List (List Rat)) (fnd : List (Rat × List Rat)), sqLoop k m fnd = fnd ++ sqLoop k m []
  | 0, m, fnd => (List.append_nil fnd).symm
  | k + 1, m, fnd => by
    show (match nextSq m with | [] => fnd | z :: l => sqLoop k (lessAll m (z :: l)) (fnd ++ z :: l)) = fnd ++ (match nextSq m with | [] => [] | z :: l => sqLoop k (lessAll m (z :: l)) ([] ++ z :: l))
    cases nextSq m with
    | nil => exact (List.append_nil fnd).symm
    | cons z l =>
      show sqLoop k (lessAll m (z :: l)) (fnd ++ z :: l) = fnd ++ sqLoop k (lessAll m (z :: l)) ([] ++ z :: l)
      rw [sqLoop_acc k _ (fnd ++ z :: l), sqLoop_acc k _ ([] ++ z :: l), List.nil_append, List.append_assoc]
/-- a sum of forms -/
def comb (y : Nat → Rat) : List (Rat × List Rat) → Nat → Rat
  | [], _ => 0
  | z :: l, i => y 0 * z.2.getD i 0 + comb (fun k => y (k + 1)) l i
theorem comb_zero {i : Nat} : ∀ {l : List (Rat × List Rat)} {y : Nat → Rat}, (∀ z ∈ l, z.2.getD i 0 = 0) → comb y l i = 0
  | [], y, _ => rfl
  | z :: l, y, h => by
    show y 0 * z.2.getD i 0 + comb _ l i = 0
    rw [comb_zero fun z hz => h z (List.mem_cons_of_mem _ hz), h z List.mem_cons_self]
    grind
/-- no sum of the forms vanishes -/
def Indep (l : List (Rat × List Rat)) : Prop := ∀ y : Nat → Rat, (∀ i, comb y l i = 0) → ∀ k, k < l.length → y k = 0
/-- every list of numbers is reached -/
def Onto (n : Nat) (l : List (Rat × List Rat)) : Prop := ∀ t : Nat → Rat, ∃ x : List Rat, x.length = n ∧ ∀ k z, l[k]? = some z → dot z.2 x = t k
theorem dot_set : ∀ {f x : List Rat} {p : Nat} (a : Rat), f.length = x.length → p < x.length → dot f (x.set p a) = dot f x + f.getD p 0 * (a - x.getD p 0)
  | [], [], p, a, _, hp => by cases hp
  | [], _ :: _, p, a, h, _ => by cases h
  | _ :: _, [], p, a, h, _ => by cases h
  | b :: f, c :: x, 0, a, _, _ => by
    show dot (b :: f) (a :: x) = dot (b :: f) (c :: x) + b * (a - c)
    rw [dot_cons, dot_cons]
    grind
  | b :: f, c :: x, p + 1, a, h, hp => by
    show dot (b :: f) (c :: x.set p a) = dot (b :: f) (c :: x) + f.getD p 0 * (a - x.getD p 0)
    rw [dot_cons, dot_cons, dot_set a (by simpa using h) (by simpa using hp)]
    grind
theorem sqLoop_next {n : Nat} : ∀ (k : Nat) (m : List (List Rat)), Sq n m → Sym m → (∀ z ∈ sqLoop k m [], z.2.length = n) ∧ (∀ i, (∀ j, at2 m i j = 0) → ∀ z ∈ sqLoop k m [], z.2.getD i 0 = 0) ∧ Indep (sqLoop k m []) ∧ Onto n (sqLoop k m [])
  | 0, m, hs, hy => ⟨fun z hz => (nomatch hz), fun i _ z hz => (nomatch hz), fun y _ k hk => absurd hk (Nat.not_lt_zero _), fun t => ⟨(List.range n).map fun _ => 0, by rw [List.length_map, List.length_range], fun k z hz => (nomatch hz)⟩⟩
  | k + 1, m, hs, hy => by
    have e : sqLoop (k + 1) m [] = match nextSq m with | [] => [] | z :: l => sqLoop k (lessAll m (z :: l)) ([] ++ z :: l) := rfl
    have hx := next_is hs hy
    have hst := next_step hs hy hx
    generalize hq : nextSq m = q at e hx hst
    rw [e]
    cases hx with
    | none h0 => exact ⟨fun z hz => (nomatch hz), fun i _ z hz => (nomatch hz), fun y _ k hk => absurd hk (Nat.not_lt_zero _), fun t => ⟨(List.range n).map fun _ => 0, by rw [List.length_map, List.length_range], fun k z hz => (nomatch hz)⟩⟩
    | single p hp hz =>
      obtain ⟨z1, z2⟩ := single_zero hs hy hp hz
      obtain ⟨i0, i1, i2, i3⟩ := sqLoop_next k _ hst.sq hst.sym
      show (∀ z ∈ sqLoop k (lessAll m [(1 / at2 m p p, m.getD p [])]) ([] ++ [(1 / at2 m p p, m.getD p [])]), z.2.length = n) ∧ (∀ i, (∀ j, at2 m i j = 0) → ∀ z ∈ sqLoop k (lessAll m [(1 / at2 m p p, m.getD p [])]) ([] ++ [(1 / at2 m p p, m.getD p [])]), z.2.getD i 0 = 0) ∧ Indep (sqLoop k (lessAll m [(1 / at2 m p p, m.getD p [])]) ([] ++ [(1 / at2 m p p, m.getD p [])])) ∧ Onto n (sqLoop k (lessAll m [(1 / at2 m p p, m.getD p [])]) ([] ++ [(1 / at2 m p p, m.getD p [])]))
      rw [sqLoop_acc k, List.nil_append]
      generalize sqLoop k (lessAll m [(1 / at2 m p p, m.getD p [])]) [] = L at *
      have hlen := hs.rowLen hp
      refine ⟨fun z hz => ?_, fun i hi z hz => ?_, fun y hy0 => ?_, fun t => ?_⟩
      · rcases List.mem_cons.mp hz with rfl | hz
        · exact hlen
        · exact i0 z hz
      · rcases List.mem_cons.mp hz with rfl | hz
        · show at2 m p i = 0
          rw [hy p i]
          exact hi p
        · exact i1 i (z2 i hi) z hz
      · have hh : ∀ i, y 0 * at2 m p i + comb (fun k => y (k + 1)) L i = 0 := hy0
        have h0 : y 0 = 0 := by
          have := hh p
          rw [comb_zero (i1 p z1)] at this
          rcases Rat.mul_eq_zero.mp (show y 0 * at2 m p p = 0 by grind) with h | h
          · exact h
          · exact absurd h hz
        have hr := i2 (fun k => y (k + 1)) fun i => by
          have := hh i
          rw [h0] at this
          grind
        intro j hj
        cases j with
        | zero => exact h0
        | succ j => exact hr j (by simpa using hj)
      · obtain ⟨x, hx, hr⟩ := i3 fun k => t (k + 1)
        refine ⟨x.set p (x.getD p 0 + (t 0 - dot (m.getD p []) x) / at2 m p p), by rw [List.length_set, hx], fun j z hz' => ?_⟩
        cases j with
        | zero =>
          have : (1 / at2 m p p, m.getD p []) = z := Option.some.inj hz'
          subst this
          show dot (m.getD p []) _ = t 0
          rw [dot_set _ (by rw [hlen, hx]) (by omega)]
          show dot (m.getD p []) x + at2 m p p * _ = t 0
          grind
        | succ j =>
          have hz' : L[j]? = some z := hz'
          have hm := List.mem_of_getElem? hz'
          rw [dot_set _ (by rw [i0 z hm, hx]) (by omega), i1 p z1 z hm, hr j z hz']
          grind
    | pair p q hp hq' hpq hz hd =>
      obtain ⟨z1, z2, z3⟩ := pair_zero hs hy hp hq' hz hd _ rfl
      obtain ⟨i0, i1, i2, i3⟩ := sqLoop_next k _ hst.sq hst.sym
      have sh : (match [(half m p q, addRows (m.getD p []) (m.getD q [])), (-half m p q, subRows (m.getD p []) (m.getD q []))] with | [] => [] | z :: l => sqLoop k (lessAll m (z :: l)) ([] ++ z :: l)) = (half m p q, addRows (m.getD p []) (m.getD q [])) :: (-half m p q, subRows (m.getD p []) (m.getD q [])) :: sqLoop k (lessAll m [(half m p q, addRows (m.getD p []) (m.getD q [])), (-half m p q, subRows (m.getD p []) (m.getD q []))]) [] := by
        show sqLoop k _ _ = _
        rw [sqLoop_acc k]
        rfl
      rw [sh]
      generalize sqLoop k (lessAll m [(half m p q, addRows (m.getD p []) (m.getD q [])), (-half m p q, subRows (m.getD p []) (m.getD q []))]) [] = L at *
      clear sh
      have hl1 := addRows_n hs hp hq'
      have hl2 := subRows_n hs hp hq'
      have hlen : (m.getD p []).length = (m.getD q []).length := by rw [hs.rowLen hp, hs.rowLen hq']
      have a1 : ∀ j, (addRows (m.getD p []) (m.getD q [])).getD j 0 = at2 m p j + at2 m q j := fun j => addRows_at hlen j
      have a2 : ∀ j, (subRows (m.getD p []) (m.getD q [])).getD j 0 = at2 m p j - at2 m q j := fun j => subRows_at hlen j
      generalize addRows (m.getD p []) (m.getD q []) = f at *
      generalize subRows (m.getD p []) (m.getD q []) = g at *
      have hqp := hy q p
      refine ⟨fun z hz => ?_, fun i hi z hz => ?_, fun y hy0 => ?_, fun t => ?_⟩
      · rcases List.mem_cons.mp hz with rfl | hz
        · exact hl1
        rcases List.mem_cons.mp hz with rfl | hz
        · exact hl2
        · exact i0 z hz
      · rcases List.mem_cons.mp hz with rfl | hz
        · show f.getD i 0 = 0
          rw [a1, hy p i, hy q i, hi p, hi q]
          grind
        rcases List.mem_cons.mp hz with rfl | hz
        · show g.getD i 0 = 0
          rw [a2, hy p i, hy q i, hi p, hi q]
          grind
        · exact i1 i (z3 i hi) z hz
      · have hh : ∀ i, y 0 * f.getD i 0 + (y 1 * g.getD i 0 + comb (fun k => y (k + 1 + 1)) L i) = 0 := hy0
        have e1 := hh p
        have e2 := hh q
        rw [comb_zero (i1 p z1), a1, a2, hd p, hqp] at e1
        rw [comb_zero (i1 q z2), a1, a2, hd q] at e2
        have h0 : y 0 = 0 := by
          rcases Rat.mul_eq_zero.mp (show y 0 * at2 m p q = 0 by grind) with h | h
          · exact h
          · exact absurd h hz
        have h1 : y 1 = 0 := by
          rcases Rat.mul_eq_zero.mp (show y 1 * at2 m p q = 0 by grind) with h | h
          · exact h
          · exact absurd h hz
        have hr := i2 (fun k => y (k + 1 + 1)) fun i => by
          have := hh i
          rw [h0, h1] at this
          grind
        intro j hj
        match j with
        | 0 => exact h0
        | 1 => exact h1
        | j + 2 => exact hr j (by simpa using hj)
      · obtain ⟨x, hx, hr⟩ := i3 fun k => t (k + 1 + 1)
        let u := (t 0 - dot f x) / at2 m p q
        let v := (t 1 - dot g x) / at2 m p q
        have hpl : p < x.length := by omega
        have hql : q < (x.set p (x.getD p 0 + (u - v) / 2)).length := by rw [List.length_set]; omega
        have hgq : (x.set p (x.getD p 0 + (u - v) / 2)).getD q 0 = x.getD q 0 := by
          rw [List.getD_eq_getElem?_getD, List.getElem?_set, if_neg (Nat.ne_of_lt hpq), List.getD_eq_getElem?_getD]
        have ds : ∀ r : List Rat, r.length = n → dot r ((x.set p (x.getD p 0 + (u - v) / 2)).set q (x.getD q 0 + (u + v) / 2)) = dot r x + r.getD p 0 * ((u - v) / 2) + r.getD q 0 * ((u + v) / 2) := fun r hr => by
          rw [dot_set _ (by rw [List.length_set, hr, hx]) hql, dot_set _ (by rw [hr, hx]) hpl, hgq]
          grind
        have hu : u * at2 m p q = t 0 - dot f x := by show (t 0 - dot f x) / at2 m p q * at2 m p q = _; grind
        have hv : v * at2 m p q = t 1 - dot g x := by show (t 1 - dot g x) / at2 m p q * at2 m p q = _; grind
        refine ⟨(x.set p (x.getD p 0 + (u - v) / 2)).set q (x.getD q 0 + (u + v) / 2), by rw [List.length_set, List.length_set, hx], fun j z hz' => ?_⟩
        clear_value u v
        match j with
        | 0 =>
          have : (half m p q, f) = z := Option.some.inj hz'
          subst this
          show dot f _ = t 0
          rw [ds f hl1, a1, a1, hd p, hd q, hqp]
          grind
        | 1 =>
          have : (-half m p q, g) = z := Option.some.inj hz'
          subst this
          show dot g _ = t 1
          rw [ds g hl2, a2, a2, hd p, hd q, hqp]
          grind
        | j + 2 =>
          have hz' : L[j]? = some z := hz'
          have hm := List.mem_of_getElem? hz'
          rw [ds _ (i0 z hm), i1 p z1 z hm, i1 q z2 z hm, hr j z hz']
          grind
end On
set_option linter.all false
/-! The elimination finds its places, and the list it tells has the given products. -/
namespace On
theorem elimRow_at {top r : List Rat} {c : Nat} (h : r.length = top.length) (hc : top.getD c 0 ≠ 0) : (elimRow top c r).length = r.length ∧ (elimRow top c r).getD c 0 = 0 ∧ ∃ q : Rat, (∀ j, (elimRow top c r).getD j 0 = r.getD j 0 - top.getD j 0 * q) ∧ ∀ y, dot (elimRow top c r) y = dot r y - q * dot top y := by
  unfold elimRow
  by_cases hz : nz (r.getD c 0) = true
  · rw [if_pos hz]
    refine ⟨by rw [lessRow_len, h, Nat.min_self], ?_, r.getD c 0 / top.getD c 0, fun j => lessRow_at h j, fun y => dot_less _ _ _ _ h⟩
    rw [lessRow_at h]
    grind
  · rw [if_neg hz]
    refine ⟨rfl, nz_eq (by simpa using hz), 0, fun j => by grind, fun y => by grind⟩
/-- what the elimination keeps, up to column c -/
structure Ech (n k c : Nat) (m l : List (List Rat)) (cols : List Nat) : Prop where
  len : l.length = k
  row : ∀ r ∈ l, r.length = n + 1
  cl : cols.length ≤ k
  low : ∀ j, cols.length ≤ j → ∀ c', c' < c → at2 l j c' = 0
  piv : ∀ b q, cols[b]? = some q → q < c ∧ at2 l b q ≠ 0 ∧ ∀ j, b < j → at2 l j q = 0
  onto : ∀ t : Nat → Rat, ∃ x : List Rat, x.length = n ∧ ∀ j r, l[j]? = some r → dot r (x ++ [0]) = t j
  sol : ∀ y, (∀ r ∈ l, dot r y = 0) → ∀ r ∈ m, dot r y = 0
theorem swap_get {l : List (List Rat)} {b p : Nat} (hb : b < l.length) (hp : p < l.length) (j : Nat) : (swapPivot l b p)[j]? = if j = b then l[p]? else if j = p then l[b]? else l[j]? := by
  unfold swapPivot
  by_cases h : p = b
  · subst h
    rw [if_pos rfl]
    split
    · next h => rw [h]
    · rfl
  · rw [if_neg h]
    unfold swapAt
    rw [List.getElem?_set, List.getElem?_set, getD_at (List.getElem?_eq_getElem hb), getD_at (List.getElem?_eq_getElem hp)]
    by_cases h1 : j = b
    · subst h1
      rw [if_neg (by omega), if_pos rfl, if_pos hb, if_pos rfl]
      exact (List.getElem?_eq_getElem hp).symm
    · by_cases h2 : j = p
      · subst h2
        rw [if_pos rfl, List.length_set, if_pos hp, if_neg h1, if_pos rfl]
        exact (List.getElem?_eq_getElem hb).symm
      · rw [if_neg (by omega), if_neg (by omega), if_neg h1, if_neg h2]
theorem at2_same {l l' : List (List Rat)} {i j : Nat} (h : l[i]? = l'[j]?) (c : Nat) : at2 l i c = at2 l' j c := by
  have : l.getD i [] = l'.getD j [] := by rw [List.getD_eq_getElem?_getD, List.getD_eq_getElem?_getD, h]
  unfold at2
  rw [this]
theorem Ech.swap {n k c p : Nat} {m l : List (List Rat)} {cols : List Nat} (h : Ech n k c m l cols) (hb : cols.length ≤ p) (hp : p < k) : Ech n k c m (swapPivot l cols.length p) cols := by
  have hl := h.len
  have hg := swap_get (l := l) (b := cols.length) (p := p) (by omega) (by omega)
  refine ⟨by rw [swapPivot_len, hl], fun r hr => h.row r (swapPivot_mem (by omega) (by omega) hr), h.cl, fun j hj c' hc => ?_, fun b q hq => ?_, fun t => ?_, fun y hy r hr => h.sol y (fun r hr => ?_) r hr⟩
  · have e := hg j
    by_cases h1 : j = cols.length
    · rw [if_pos h1] at e
      rw [at2_same e]
      exact h.low p hb c' hc
    · rw [if_neg h1] at e
      by_cases h2 : j = p
      · rw [if_pos h2] at e
        rw [at2_same e]
        exact h.low _ (Nat.le_refl _) c' hc
      · rw [if_neg h2] at e
        rw [at2_same e]
        exact h.low j hj c' hc
  · obtain ⟨h1, h2, h3⟩ := h.piv b q hq
    have hbl := (List.getElem?_eq_some_iff.mp hq).1
    refine ⟨h1, ?_, fun j hj => ?_⟩
    · have e := hg b
      rw [if_neg (by omega), if_neg (by omega)] at e
      rw [at2_same e]
      exact h2
    · have e := hg j
      by_cases h4 : j = cols.length
      · rw [if_pos h4] at e
        rw [at2_same e]
        exact h3 p (by omega)
      · rw [if_neg h4] at e
        by_cases h5 : j = p
        · rw [if_pos h5] at e
          rw [at2_same e]
          exact h3 _ hbl
        · rw [if_neg h5] at e
          rw [at2_same e]
          exact h3 j hj
  · obtain ⟨x, hx, hr⟩ := h.onto fun j => if j = p then t cols.length else if j = cols.length then t p else t j
    refine ⟨x, hx, fun j r hj => ?_⟩
    rw [hg j] at hj
    by_cases h1 : j = cols.length
    · rw [if_pos h1] at hj
      rw [hr p r hj, if_pos rfl, h1]
    · rw [if_neg h1] at hj
      by_cases h2 : j = p
      · rw [if_pos h2] at hj
        rw [hr _ r hj, if_neg (by omega), if_pos rfl, h2]
      · rw [if_neg h2] at hj
        rw [hr j r hj, if_neg h2, if_neg h1]
  · obtain ⟨j, hj⟩ := List.getElem?_of_mem hr
    by_cases h1 : j = p
    · refine hy r (List.mem_of_getElem? (i := cols.length) ?_)
      rw [hg, if_pos rfl, ← h1]
      exact hj
    · by_cases h2 : j = cols.length
      · refine hy r (List.mem_of_getElem? (i := p) ?_)
        rw [hg]
        by_cases h3 : p = cols.length
        · rw [if_pos h3, h3, ← h2]
          exact hj
        · rw [if_neg h3, if_pos rfl, ← h2]
          exact hj
      · refine hy r (List.mem_of_getElem? (i := j) ?_)
        rw [hg, if_neg h2, if_neg h1]
        exact hj
theorem Ech.elim {n k c : Nat} {m l : List (List Rat)} {cols : List Nat} {top : List Rat} (h : Ech n k c m l cols) (ht : l[cols.length]? = some top) (hz : top.getD c 0 ≠ 0) : Ech n k (c + 1) m (elimTo l top c (cols.length + 1) k) (cols ++ [c]) := by
  have hl := h.len
  have hbk := (List.getElem?_eq_some_iff.mp ht).1
  have htl := h.row top (List.mem_of_getElem? ht)
  have hrow : ∀ r ∈ l, r.length = top.length := fun r hr => by rw [h.row r hr, htl]
  have tz : ∀ c', c' < c → top.getD c' 0 = 0 := fun c' hc => by
    have := h.low cols.length (Nat.le_refl _) c' hc
    rw [at2_row, getD_at ht] at this
    exact this
  have hup : ∀ j, j ≤ cols.length → (elimTo l top c (cols.length + 1) k)[j]? = l[j]? := fun j hj => by
    cases hq : l[j]? with
    | none => exact elimTo_none hq
    | some r => rw [elimTo_get hq, if_neg (by omega)]
  have hdn : ∀ j, cols.length < j → ∀ r, l[j]? = some r → (elimTo l top c (cols.length + 1) k)[j]? = some (elimRow top c r) := fun j hj r hq => by
    have := (List.getElem?_eq_some_iff.mp hq).1
    rw [elimTo_get hq, if_pos (by omega)]
  have hout : ∀ j, k ≤ j → ∀ c', at2 (elimTo l top c (cols.length + 1) k) j c' = 0 := fun j hj c' => at2_none (by rw [elimTo_len, hl]; exact hj)
  have low2 : ∀ j, cols.length < j → ∀ c', (c' < c → at2 l j c' = 0) → c' < c + 1 → at2 (elimTo l top c (cols.length + 1) k) j c' = 0 := fun j hj c' h0 hc => by
    by_cases hk : j < k
    · have hq : l[j]? = some (l[j]'(by omega)) := List.getElem?_eq_getElem (by omega)
      obtain ⟨e1, e2, q, e3, e4⟩ := elimRow_at (hrow _ (List.mem_of_getElem? hq)) hz
      rw [at2_row, getD_at (hdn j hj _ hq)]
      by_cases hcc : c' = c
      · rw [hcc]; exact e2
      · have h0 := h0 (by omega)
        rw [at2_row, getD_at hq] at h0
        rw [e3, h0, tz c' (by omega)]
        grind
    · exact hout j (by omega) c'
  refine ⟨by rw [elimTo_len, hl], fun r hr => ?_, by rw [List.length_append, List.length_singleton]; omega, fun j hj c' hc => ?_, fun b q hq => ?_, fun t => ?_, fun y hy r hr => h.sol y (fun r hr => ?_) r hr⟩
  · obtain ⟨j, hj⟩ := List.getElem?_of_mem hr
    have hjl := (List.getElem?_eq_some_iff.mp hj).1
    rw [elimTo_len] at hjl
    have hq : l[j]? = some (l[j]) := List.getElem?_eq_getElem hjl
    by_cases h1 : j ≤ cols.length
    · rw [hup j h1] at hj
      exact h.row r (List.mem_of_getElem? hj)
    · rw [hdn j (by omega) _ hq] at hj
      have := Option.some.inj hj
      rw [← this, (elimRow_at (hrow _ (List.mem_of_getElem? hq)) hz).1]
      exact h.row _ (List.mem_of_getElem? hq)
  · rw [List.length_append, List.length_singleton] at hj
    exact low2 j (by omega) c' (fun hc => h.low j (by omega) c' hc) hc
  · by_cases hb : b < cols.length
    · rw [List.getElem?_append_left hb] at hq
      obtain ⟨h1, h2, h3⟩ := h.piv b q hq
      refine ⟨by omega, ?_, fun j hj => ?_⟩
      · rw [at2_same (hup b (by omega))]
        exact h2
      · by_cases h4 : j ≤ cols.length
        · rw [at2_same (hup j h4)]
          exact h3 j hj
        · exact low2 j (by omega) q (fun _ => h3 j hj) (by omega)
    · rw [List.getElem?_append_right (by omega)] at hq
      have hb' : b - cols.length = 0 := by
        have := (List.getElem?_eq_some_iff.mp hq).1
        rw [List.length_singleton] at this
        omega
      rw [hb'] at hq
      have hqc : c = q := Option.some.inj hq
      have hbb : b = cols.length := by omega
      subst hqc
      subst hbb
      refine ⟨by omega, ?_, fun j hj => low2 j hj c (fun h => absurd h (Nat.lt_irrefl _)) (by omega)⟩
      rw [at2_same (hup _ (Nat.le_refl _)), at2_row, getD_at ht]
      exact hz
  · have hex : ∀ j, ∃ q : Rat, cols.length < j → ∀ r, l[j]? = some r → ∀ y, dot (elimRow top c r) y = dot r y - q * dot top y := fun j => by
      cases hq : l[j]? with
      | none => exact ⟨0, fun _ r hr => (nomatch hr)⟩
      | some r =>
        obtain ⟨_, _, q, _, e4⟩ := elimRow_at (hrow r (List.mem_of_getElem? hq)) hz
        exact ⟨q, fun _ r' hr' => by cases hr'; exact e4⟩
    obtain ⟨x, hx, hr⟩ := h.onto fun j => if cols.length < j then t j + (hex j).choose * t cols.length else t j
    refine ⟨x, hx, fun j r hj => ?_⟩
    by_cases h1 : j ≤ cols.length
    · rw [hup j h1] at hj
      rw [hr j r hj, if_neg (by omega)]
    · have hjl := (List.getElem?_eq_some_iff.mp hj).1
      rw [elimTo_len] at hjl
      have hq : l[j]? = some (l[j]) := List.getElem?_eq_getElem hjl
      rw [hdn j (by omega) _ hq] at hj
      have := Option.some.inj hj
      rw [← this, (hex j).choose_spec (by omega) _ hq, hr j _ hq, if_pos (by omega), hr _ _ ht, if_neg (by omega)]
      grind
  · obtain ⟨j, hj⟩ := List.getElem?_of_mem hr
    have ht0 : dot top y = 0 := hy top (List.mem_of_getElem? (i := cols.length) (by rw [hup _ (Nat.le_refl _)]; exact ht))
    by_cases h1 : j ≤ cols.length
    · exact hy r (List.mem_of_getElem? (i := j) (by rw [hup j h1]; exact hj))
    · have := hy _ (List.mem_of_getElem? (hdn j (by omega) r hj))
      obtain ⟨_, _, q, _, e4⟩ := elimRow_at (hrow r (List.mem_of_getElem? hj)) hz
      rw [e4, ht0] at this
      grind
theorem Ech.step {n k c : Nat} {m l : List (List Rat)} {cols : List Nat} (h : Ech n k c m l cols) : Ech n k (c + 1) m (stepCol l cols c).1 (stepCol l cols c).2 := by
  unfold stepCol
  cases hp : pivotAt l cols.length c with
  | none =>
    show Ech n k (c + 1) m l cols
    refine ⟨h.len, h.row, h.cl, fun j hj c' hc => ?_, fun b q hq => ?_, h.onto, h.sol⟩
    · by_cases hcc : c' = c
      · subst hcc
        by_cases hk : j < l.length
        · exact nz_eq (firstFrom_no hp j hj (by omega))
        · exact at2_none (by omega)
      · exact h.low j hj c' (by omega)
    · obtain ⟨h1, h2, h3⟩ := h.piv b q hq
      exact ⟨by omega, h2, h3⟩
  | some p =>
    obtain ⟨h1, h2, h3⟩ := pivot_nz hp
    have hl := h.len
    have htop := swapPivot_top (l := l) (b := cols.length) (p := p) (by omega) h2
    show Ech n k (c + 1) m (elimTo (swapPivot l cols.length p) ((swapPivot l cols.length p).getD cols.length []) c (cols.length + 1) l.length) (cols ++ [c])
    rw [getD_at htop, hl]
    exact (h.swap h1 (by omega)).elim htop (nz_ne h3)
theorem Ech.steps {n k : Nat} {m : List (List Rat)} (h : Ech n k 0 m m []) : ∀ c, Ech n k c m (stepsTo m c).1 (stepsTo m c).2
  | 0 => h
  | c + 1 => (Ech.steps h c).step
theorem dot_snoc0 (r x : List Rat) (h : r.length ≤ x.length) (a : Rat) : dot r (x ++ [a]) = dot r x := by
  induction r generalizing x with
  | nil => rfl
  | cons b r ih =>
    cases x with
    | nil => cases h
    | cons d x =>
      show dot (b :: r) (d :: (x ++ [a])) = _
      rw [dot_cons, dot_cons, ih x (by simpa using h)]
theorem dot_snoc {r x : List Rat} (h : r.length = x.length) (a b : Rat) : dot (r ++ [b]) (x ++ [a]) = dot r x + b * a := by
  induction r generalizing x with
  | nil =>
    have : x = [] := List.length_eq_zero_iff.mp h.symm
    subst this
    show dot [b] [a] = 0 + b * a
    rw [dot_cons, dot_nil]
    grind
  | cons c r ih =>
    cases x with
    | nil => cases h
    | cons d x =>
      show dot (c :: (r ++ [b])) (d :: (x ++ [a])) = _
      rw [dot_cons, dot_cons, ih (by simpa using h)]
      grind
theorem row_split {r : List Rat} {n : Nat} (h : r.length = n + 1) : r = r.dropLast ++ [lastOf r] := by
  have hne : r ≠ [] := fun z => by rw [z] at h; cases h
  have hl : lastOf r = r.getLast hne := by
    unfold lastOf
    rw [List.getLast_eq_getElem, getD_at (List.getElem?_eq_getElem (by omega))]
  rw [hl]
  exact (List.dropLast_concat_getLast hne).symm
theorem dot_row {r x : List Rat} {n : Nat} (h : r.length = n + 1) (hx : x.length = n) (a : Rat) : dot r (x ++ [a]) = dot r.dropLast x + lastOf r * a := by
  have e := row_split h
  have hd : r.dropLast.length = x.length := by rw [List.length_dropLast, h, hx]; rfl
  generalize r.dropLast = d at *
  generalize lastOf r = v at *
  rw [e, dot_snoc hd]
/-- the forms reach every list of numbers: the elimination goes through -/
structure Reach (n : Nat) (fs : List (List Rat)) : Prop where
  len : ∀ f ∈ fs, f.length = n
  onto : ∀ t : Nat → Rat, ∃ x : List Rat, x.length = n ∧ ∀ k f, fs[k]? = some f → dot f x = t k
theorem augment_get {fs : List (List Rat)} {vs : List Rat} (h : vs.length = fs.length) {j : Nat} {f : List Rat} (hj : fs[j]? = some f) : (augment fs vs)[j]? = some (f ++ [vs.getD j 0]) := by
  have hl := (List.getElem?_eq_some_iff.mp hj).1
  have hv : vs[j]? = some (vs[j]'(by omega)) := List.getElem?_eq_getElem (by omega)
  have hz : (fs.zip vs)[j]? = some (f, vs[j]'(by omega)) := List.getElem?_zip_eq_some.mpr ⟨hj, hv⟩
  unfold augment
  rw [List.getElem?_map, hz, getD_at hv]
  rfl
theorem ech_start {n : Nat} {fs : List (List Rat)} {vs : List Rat} (h : Reach n fs) (hl : vs.length = fs.length) : Ech n fs.length 0 (augment fs vs) (augment fs vs) [] := by
  refine ⟨augment_len hl, fun r hr => ?_, Nat.zero_le _, fun j _ c hc => absurd hc (Nat.not_lt_zero _), fun b q hq => (nomatch hq), fun t => ?_, fun y hy => hy⟩
  · unfold augment at hr
    obtain ⟨⟨f, v⟩, hz, rfl⟩ := List.mem_map.mp hr
    rw [List.length_append, h.len f (List.of_mem_zip hz).1]
    rfl
  · obtain ⟨x, hx, hr⟩ := h.onto t
    refine ⟨x, hx, fun j r hj => ?_⟩
    have hjl := (List.getElem?_eq_some_iff.mp hj).1
    rw [augment_len hl] at hjl
    have hf : fs[j]? = some fs[j] := List.getElem?_eq_getElem hjl
    rw [augment_get hl hf] at hj
    rw [← Option.some.inj hj, dot_snoc (by rw [h.len _ (List.mem_of_getElem? hf), hx]), hr j _ hf]
    grind
theorem dot_dead {r : List Rat} {n : Nat} (h : r.length = n + 1) {x : List Rat} (hx : x.length = n) (hz : ∀ c, c < n → r.getD c 0 = 0) : dot r (x ++ [0]) = 0 := by
  rw [dot_row h hx, dot_zero fun q hq => ?_]
  · grind
  · obtain ⟨i, hi⟩ := List.getElem?_of_mem hq
    have hil := (List.getElem?_eq_some_iff.mp hi).1
    rw [List.length_dropLast] at hil
    have := hz i (by omega)
    rw [List.getElem?_dropLast, if_pos (by omega)] at hi
    rw [getD_at hi] at this
    exact this
theorem Ech.full {n k : Nat} {m l : List (List Rat)} {cols : List Nat} (h : Ech n k n m l cols) : cols.length = k := by
  refine Nat.le_antisymm h.cl (Nat.not_lt.mp fun hlt => ?_)
  have hl := h.len
  have hq : l[cols.length]? = some (l[cols.length]'(by omega)) := List.getElem?_eq_getElem (by omega)
  obtain ⟨x, hx, hr⟩ := h.onto fun _ => 1
  have e := hr _ _ hq
  rw [dot_dead (h.row _ (List.mem_of_getElem? hq)) hx fun c hc => by
    have := h.low cols.length (Nat.le_refl _) c hc
    rw [at2_row, getD_at hq] at this
    exact this] at e
  grind
/-- the last column finds no place -/
theorem steps_last {n : Nat} {fs : List (List Rat)} {vs : List Rat} (h : Reach n fs) (hl : vs.length = fs.length) (hne : fs ≠ []) : Ech n fs.length n (augment fs vs) (stepsIn (augment fs vs)).1 (stepsIn (augment fs vs)).2 := by
  have hs := ech_start h hl
  have he := hs.steps n
  have hf := he.full
  have hw : ((augment fs vs).getD 0 []).length = n + 1 := by
    cases fs with
    | nil => exact absurd rfl hne
    | cons f fs =>
      rw [getD_at (augment_get hl (j := 0) rfl), List.length_append, h.len f List.mem_cons_self]
      rfl
  have e : stepsIn (augment fs vs) = stepsTo (augment fs vs) n := by
    unfold stepsIn
    rw [hw]
    show stepCol (stepsTo (augment fs vs) n).1 (stepsTo (augment fs vs) n).2 n = _
    have : pivotAt (stepsTo (augment fs vs) n).1 (stepsTo (augment fs vs) n).2.length n = none := by
      unfold pivotAt
      rw [hf, he.len, Nat.sub_self]
      rfl
    unfold stepCol
    rw [this]
  rw [e]
  exact he
theorem good_all {n : Nat} {fs : List (List Rat)} {vs : List Rat} (h : Reach n fs) (hl : vs.length = fs.length) (hne : fs ≠ []) : Good n fs vs := fun z hz => by
  have he := steps_last h hl hne
  obtain ⟨i, hi⟩ := List.getElem?_of_mem hz
  obtain ⟨h1, h2⟩ := List.getElem?_zip_eq_some.mp (show ((stepsIn (augment fs vs)).1.zip (stepsIn (augment fs vs)).2)[i]? = some (z.1, z.2) from hi)
  obtain ⟨k1, k2, _⟩ := he.piv i z.2 h2
  rw [at2_row, getD_at h1] at k2
  exact ⟨k1, k2⟩
/-! ### the back steps -/
/-- z is lower, z' is higher -/
def Loose (z z' : List Rat × Nat) : Prop := z.1.getD z'.2 0 = 0 ∧ z.2 ≠ z'.2
theorem dropLast_at {r : List Rat} {n i : Nat} (h : r.length = n + 1) (hi : i < n) : r.dropLast.getD i 0 = r.getD i 0 := by
  rw [List.getD_eq_getElem?_getD, List.getD_eq_getElem?_getD, List.getElem?_dropLast, if_pos (by omega)]
theorem back_all {n : Nat} : ∀ {L : List (List Rat × Nat)} {x : List Rat}, x.length = n → (∀ z ∈ L, z.1.length = n + 1 ∧ z.2 < n ∧ z.1.getD z.2 0 ≠ 0 ∧ x.getD z.2 0 = 0) → L.Pairwise Loose → (backFrom L x).length = n ∧ (∀ z ∈ L, dot z.1.dropLast (backFrom L x) = lastOf z.1) ∧ ∀ r : List Rat, r.length = n + 1 → (∀ z ∈ L, r.getD z.2 0 = 0) → dot r.dropLast (backFrom L x) = dot r.dropLast x
  | [], x, hx, _, _ => ⟨hx, fun z hz => (nomatch hz), fun r _ _ => rfl⟩
  | z :: L, x, hx, h, hp => by
    obtain ⟨z1, z2, z3, z4⟩ := h z List.mem_cons_self
    obtain ⟨p1, p2⟩ := List.pairwise_cons.mp hp
    have hx1 : (backStep x z).length = n := by unfold backStep; rw [List.length_set, hx]
    obtain ⟨i1, i2, i3⟩ := back_all (L := L) (x := backStep x z) hx1 (fun z' hz' => by
      obtain ⟨y1, y2, y3, y4⟩ := h z' (List.mem_cons_of_mem _ hz')
      refine ⟨y1, y2, y3, ?_⟩
      unfold backStep
      rw [List.getD_eq_getElem?_getD, List.getElem?_set, if_neg (p1 z' hz').2, ← List.getD_eq_getElem?_getD]
      exact y4) p2
    have ds : ∀ r : List Rat, r.length = n + 1 → dot r.dropLast (backStep x z) = dot r.dropLast x + r.getD z.2 0 * ((lastOf z.1 - dot z.1.dropLast x) / z.1.getD z.2 0) := fun r hr => by
      unfold backStep
      rw [dot_set _ (by rw [List.length_dropLast, hr, hx]; rfl) (by omega), z4, dropLast_at hr z2]
      grind
    refine ⟨i1, fun z' hz' => ?_, fun r hr hz' => ?_⟩
    · rcases List.mem_cons.mp hz' with rfl | hz'
      · show dot z'.1.dropLast (backFrom L (backStep x z')) = _
        rw [i3 z'.1 z1 fun w hw => (p1 w hw).1, ds z'.1 z1]
        grind
      · exact i2 z' hz'
    · show dot r.dropLast (backFrom L (backStep x z)) = _
      rw [i3 r hr fun w hw => hz' w (List.mem_cons_of_mem _ hw), ds r hr, hz' z List.mem_cons_self]
      grind
/-- the list has the given products -/
theorem with_dots {n : Nat} {fs : List (List Rat)} {vs : List Rat} (h : Reach n fs) (hl : vs.length = fs.length) (hne : fs ≠ []) : (withList fs vs).length = n ∧ ∀ k f, fs[k]? = some f → dot f (withList fs vs) = vs.getD k 0 := by
  have he := steps_last h hl hne
  have hf := he.full
  have h0 : (zerosOf (fs.getD 0 [])).length = n := by
    unfold zerosOf
    rw [List.length_map]
    cases fs with
    | nil => exact absurd rfl hne
    | cons f fs => exact h.len f List.mem_cons_self
  have hz0 : ∀ i, (zerosOf (fs.getD 0 [])).getD i 0 = 0 := fun i => by
    unfold zerosOf
    rw [List.getD_eq_getElem?_getD, List.getElem?_map]
    cases (fs.getD 0 [])[i]? <;> rfl
  have hin : ∀ {i : Nat} {z : List Rat × Nat}, ((stepsIn (augment fs vs)).1.zip (stepsIn (augment fs vs)).2)[i]? = some z → (stepsIn (augment fs vs)).1[i]? = some z.1 ∧ (stepsIn (augment fs vs)).2[i]? = some z.2 := fun {i z} hi =>
    List.getElem?_zip_eq_some.mp (show _ = some (z.1, z.2) from hi)
  obtain ⟨b1, b2, _⟩ := back_all (n := n) (L := ((stepsIn (augment fs vs)).1.zip (stepsIn (augment fs vs)).2).reverse) (x := zerosOf (fs.getD 0 [])) h0 (fun z hz => by
    have hz := List.mem_reverse.mp hz
    obtain ⟨i, hi⟩ := List.getElem?_of_mem hz
    obtain ⟨h1, h2⟩ := hin hi
    obtain ⟨k1, k2, _⟩ := he.piv i z.2 h2
    rw [at2_row, getD_at h1] at k2
    exact ⟨he.row _ (List.mem_of_getElem? h1), k1, k2, hz0 _⟩) (by
    rw [List.pairwise_reverse]
    refine List.pairwise_iff_getElem.mpr fun i j hi hj hij => ?_
    obtain ⟨a1, a2⟩ := hin (List.getElem?_eq_getElem hi)
    obtain ⟨c1, c2⟩ := hin (List.getElem?_eq_getElem hj)
    obtain ⟨_, _, k3⟩ := he.piv i _ a2
    obtain ⟨_, k2, _⟩ := he.piv j _ c2
    have k4 := k3 j hij
    refine ⟨?_, fun e => ?_⟩
    · rw [at2_row, getD_at c1] at k4
      exact k4
    · rw [e] at k2
      exact k2 k4)
  have b1 : (withList fs vs).length = n := b1
  have b2 : ∀ z ∈ ((stepsIn (augment fs vs)).1.zip (stepsIn (augment fs vs)).2).reverse, dot z.1.dropLast (withList fs vs) = lastOf z.1 := b2
  refine ⟨b1, fun k f hk => ?_⟩
  have hall : ∀ r ∈ (stepsIn (augment fs vs)).1, dot r (withList fs vs ++ [-1]) = 0 := fun r hr => by
    obtain ⟨i, hi⟩ := List.getElem?_of_mem hr
    have hil := (List.getElem?_eq_some_iff.mp hi).1
    rw [he.len] at hil
    have hc : (stepsIn (augment fs vs)).2[i]? = some ((stepsIn (augment fs vs)).2[i]'(by omega)) := List.getElem?_eq_getElem (by omega)
    have hm : (r, (stepsIn (augment fs vs)).2[i]'(by omega)) ∈ (stepsIn (augment fs vs)).1.zip (stepsIn (augment fs vs)).2 := List.mem_of_getElem? (List.getElem?_zip_eq_some.mpr ⟨hi, hc⟩)
    rw [dot_row (he.row r hr) b1, b2 _ (List.mem_reverse.mpr hm)]
    grind
  have := he.sol _ hall _ (List.mem_of_getElem? (augment_get hl hk))
  rw [dot_snoc (by rw [h.len f (List.mem_of_getElem? hk), b1])] at this
  grind
end On
set_option linter.all false
/-! The sums of minors, and what they tell of the squares. -/
namespace On
/-! ### determinants of given entries -/
theorem detStep_eq (d : List (List Rat) → Rat) (m : List (List Rat)) (s : Rat × Int) (z : Rat × Nat) : detStep d m s z = (s.1 + d (cutCol m z.2) * z.1 * (s.2 : Rat), 0 - s.2) := by
  unfold detStep
  by_cases h : nz z.1 = true
  · rw [if_pos h]
  · rw [if_neg h, nz_eq (q := z.1) (by simpa using h)]
    congr 1
    grind
theorem i1 : ((1 : Int) : Rat) = 1 := rfl
theorem i2 : ((0 - 1 : Int) : Rat) = -1 := rfl
theorem i3 : ((0 - (0 - 1) : Int) : Rat) = 1 := rfl
theorem i4 : ((0 - (0 - (0 - 1)) : Int) : Rat) = -1 := rfl
theorem detN1 (a : Rat) : detN 1 [[a]] = a := by
  show (detStep (detN 0) [[a]] (0, 1) (a, 0)).1 = a
  rw [detStep_eq]
  show 0 + 1 * a * ((1 : Int) : Rat) = a
  rw [i1]
  grind
theorem detN2 (a b c d : Rat) : detN 2 [[a, b], [c, d]] = a * d - b * c := by
  show (detStep (detN 1) [[a, b], [c, d]] (detStep (detN 1) [[a, b], [c, d]] (0, 1) (a, 0)) (b, 1)).1 = _
  rw [detStep_eq, detStep_eq]
  show 0 + detN 1 [[d]] * a * ((1 : Int) : Rat) + detN 1 [[c]] * b * ((0 - 1 : Int) : Rat) = _
  rw [detN1, detN1, i1, i2]
  grind
theorem detN3 (a b c d e f g h i : Rat) : detN 3 [[a, b, c], [d, e, f], [g, h, i]] = a * (e * i - f * h) - b * (d * i - f * g) + c * (d * h - e * g) := by
  show (detStep (detN 2) [[a, b, c], [d, e, f], [g, h, i]] (detStep (detN 2) [[a, b, c], [d, e, f], [g, h, i]] (detStep (detN 2) [[a, b, c], [d, e, f], [g, h, i]] (0, 1) (a, 0)) (b, 1)) (c, 2)).1 = _
  rw [detStep_eq, detStep_eq, detStep_eq]
  show 0 + detN 2 [[e, f], [h, i]] * a * ((1 : Int) : Rat) + detN 2 [[d, f], [g, i]] * b * ((0 - 1 : Int) : Rat) + detN 2 [[d, e], [g, h]] * c * ((0 - (0 - 1) : Int) : Rat) = _
  rw [detN2, detN2, detN2, i1, i2, i3]
  grind
theorem detN4 (A : Nat → Vec) : detN 4 [[A 0 0, A 0 1, A 0 2, A 0 3], [A 1 0, A 1 1, A 1 2, A 1 3], [A 2 0, A 2 1, A 2 2, A 2 3], [A 3 0, A 3 1, A 3 2, A 3 3]] = whole A := by
  generalize hm : [[A 0 0, A 0 1, A 0 2, A 0 3], [A 1 0, A 1 1, A 1 2, A 1 3], [A 2 0, A 2 1, A 2 2, A 2 3], [A 3 0, A 3 1, A 3 2, A 3 3]] = m
  have e : detN 4 m = (detStep (detN 3) m (detStep (detN 3) m (detStep (detN 3) m (detStep (detN 3) m (0, 1) (A 0 0, 0)) (A 0 1, 1)) (A 0 2, 2)) (A 0 3, 3)).1 := by
    subst hm
    rfl
  rw [e, detStep_eq, detStep_eq, detStep_eq, detStep_eq]
  subst hm
  show 0 + detN 3 [[A 1 1, A 1 2, A 1 3], [A 2 1, A 2 2, A 2 3], [A 3 1, A 3 2, A 3 3]] * A 0 0 * ((1 : Int) : Rat) + detN 3 [[A 1 0, A 1 2, A 1 3], [A 2 0, A 2 2, A 2 3], [A 3 0, A 3 2, A 3 3]] * A 0 1 * ((0 - 1 : Int) : Rat) + detN 3 [[A 1 0, A 1 1, A 1 3], [A 2 0, A 2 1, A 2 3], [A 3 0, A 3 1, A 3 3]] * A 0 2 * ((0 - (0 - 1) : Int) : Rat) + detN 3 [[A 1 0, A 1 1, A 1 2], [A 2 0, A 2 1, A 2 2], [A 3 0, A 3 1, A 3 2]] * A 0 3 * ((0 - (0 - (0 - 1)) : Int) : Rat) = _
  rw [detN3, detN3, detN3, detN3, i1, i2, i3, i4]
  unfold whole det4 pair4 wed
  grind
/-! ### the sums -/
theorem tot1 (a : Rat) : total [a] = a := by rw [total_cons, total_nil]; grind
theorem minor0 (m : List (List Rat)) : minor m [] = 1 := rfl
theorem minor1 (m : List (List Rat)) (i : Nat) : minor m [i] = at2 m i i := detN1 _
theorem minor2 (m : List (List Rat)) (i j : Nat) : minor m [i, j] = wed (at2 m i) (at2 m j) i j := detN2 _ _ _ _
theorem minor3 (m : List (List Rat)) (i j k : Nat) : minor m [i, j, k] = mtri (at2 m) i j k := by
  show detN 3 [[at2 m i i, at2 m i j, at2 m i k], [at2 m j i, at2 m j j, at2 m j k], [at2 m k i, at2 m k j, at2 m k k]] = _
  rw [detN3]
  unfold mtri tri wed
  grind
theorem minor4 (m : List (List Rat)) : minor m [0, 1, 2, 3] = whole (at2 m) := detN4 (at2 m)
def first5 (m : List (List Rat)) : List Rat := [1, tr1 (at2 m), tr2 (at2 m), tr3 (at2 m), whole (at2 m)]
theorem sums1 {m : List (List Rat)} (h : m.length = 1) (hz : ∀ i j, 1 ≤ i ∨ 1 ≤ j → at2 m i j = 0) : sumsOf m = [1, tr1 (at2 m)] ∧ tr2 (at2 m) = 0 ∧ tr3 (at2 m) = 0 ∧ whole (at2 m) = 0 := by
  have z1 : at2 m 1 = fun _ => 0 := funext fun j => hz 1 j (.inl (by decide))
  have z2 : at2 m 2 = fun _ => 0 := funext fun j => hz 2 j (.inl (by decide))
  have z3 : at2 m 3 = fun _ => 0 := funext fun j => hz 3 j (.inl (by decide))
  refine ⟨?_, ?_, ?_, ?_⟩
  · unfold sumsOf sumOf
    rw [h]
    show [total [minor m []], total [minor m [0]]] = _
    rw [tot1, tot1, minor0, minor1]
    unfold tr1
    rw [z1, z2, z3]
    dsimp only
    congr 2
    grind
  · unfold tr2 wed
    rw [z1, z2, z3]
    grind
  · unfold tr3 mtri tri wed
    rw [z1, z2, z3]
    grind
  · unfold whole det4 pair4 wed
    rw [z1, z2, z3]
    grind
theorem sums2 {m : List (List Rat)} (h : m.length = 2) (hz : ∀ i j, 2 ≤ i ∨ 2 ≤ j → at2 m i j = 0) : sumsOf m = [1, tr1 (at2 m), tr2 (at2 m)] ∧ tr3 (at2 m) = 0 ∧ whole (at2 m) = 0 := by
  have z2 : at2 m 2 = fun _ => 0 := funext fun j => hz 2 j (.inl (by decide))
  have z3 : at2 m 3 = fun _ => 0 := funext fun j => hz 3 j (.inl (by decide))
  refine ⟨?_, ?_, ?_⟩
  · unfold sumsOf sumOf
    rw [h]
    show [total [minor m []], total [minor m [0], minor m [1]], total [minor m [0, 1]]] = _
    rw [tot1, tot1, total_cons, tot1, minor0, minor1, minor1, minor2]
    unfold tr1 tr2 wed
    rw [z2, z3]
    dsimp only
    congr 2
    · grind
    · congr 1
      grind
  · unfold tr3 mtri tri wed
    rw [z2, z3]
    grind
  · unfold whole det4 pair4 wed
    rw [z2, z3]
    grind
theorem sums3 {m : List (List Rat)} (h : m.length = 3) (hz : ∀ i j, 3 ≤ i ∨ 3 ≤ j → at2 m i j = 0) : sumsOf m = [1, tr1 (at2 m), tr2 (at2 m), tr3 (at2 m)] ∧ whole (at2 m) = 0 := by
  have z3 : at2 m 3 = fun _ => 0 := funext fun j => hz 3 j (.inl (by decide))
  refine ⟨?_, ?_⟩
  · unfold sumsOf sumOf
    rw [h]
    show [total [minor m []], total [minor m [0], minor m [1], minor m [2]], total [minor m [0, 1], minor m [0, 2], minor m [1, 2]], total [minor m [0, 1, 2]]] = _
    rw [tot1, tot1, total_cons, total_cons, tot1, total_cons, total_cons, tot1, minor0, minor1, minor1, minor1, minor2, minor2, minor2, minor3]
    have e1 : at2 m 0 0 + (at2 m 1 1 + at2 m 2 2) = tr1 (at2 m) := by unfold tr1; rw [z3]; grind
    have e2 : wed (at2 m 0) (at2 m 1) 0 1 + (wed (at2 m 0) (at2 m 2) 0 2 + wed (at2 m 1) (at2 m 2) 1 2) = tr2 (at2 m) := by
      have z : ∀ f i, wed f (at2 m 3) i 3 = 0 - f 3 * at2 m 3 i := fun f i => by unfold wed; rw [z3]; grind
      unfold tr2
      rw [z, z, z, z3]
      grind
    have e3 : mtri (at2 m) 0 1 2 = tr3 (at2 m) := by
      have z : ∀ i j, mtri (at2 m) i j 3 = 0 := fun i j => by
        unfold mtri tri wed
        rw [z3, hz i 3 (.inr (by decide)), hz j 3 (.inr (by decide))]
        grind
      unfold tr3
      rw [z, z, z]
      grind
    rw [e1, e2, e3]
  · unfold whole det4 pair4 wed
    rw [z3]
    have a := hz 0 3 (.inr (by decide))
    have b := hz 1 3 (.inr (by decide))
    have c := hz 2 3 (.inr (by decide))
    grind
theorem sums4 {m : List (List Rat)} (h : m.length = 4) : sumsOf m = [1, tr1 (at2 m), tr2 (at2 m), tr3 (at2 m), whole (at2 m)] := by
  unfold sumsOf sumOf
  rw [h]
  show [total [minor m []], total [minor m [0], minor m [1], minor m [2], minor m [3]], total [minor m [0, 1], minor m [0, 2], minor m [1, 2], minor m [0, 3], minor m [1, 3], minor m [2, 3]], total [minor m [0, 1, 2], minor m [0, 1, 3], minor m [0, 2, 3], minor m [1, 2, 3]], total [minor m [0, 1, 2, 3]]] = _
  rw [tot1, tot1, minor4, minor0]
  simp only [total_cons, total_nil, minor1, minor2, minor3]
  unfold tr1 tr2 tr3
  congr 2
  · grind
  · congr 1
    · grind
    · congr 1
      grind
/-! ### changes of sign -/
def chS (s : List Int) : Nat := (((s.filter fun x => !decide (x = 0)).zip ((s.filter fun x => !decide (x = 0)).drop 1)).filter fun z => !decide (z.1 = z.2)).length
theorem changes_sgn (l : List Rat) : changes l = chS (l.map sgn) := by
  have e : (l.filter nz).map sgn = (l.map sgn).filter fun x => !decide (x = 0) := by
    induction l with
    | nil => rfl
    | cons a l ih =>
      rw [List.map_cons, List.filter_cons, List.filter_cons]
      have : nz a = !decide (sgn a = 0) := by
        unfold nz
        congr 1
        exact decide_eq_decide.mpr (sgn_zero a).symm
      rw [← this]
      split
      · rw [List.map_cons, ih]
      · exact ih
  unfold changes chS
  rw [e]
def TurnsI (a b d e : Int) : Prop := (a < 0 ∧ 0 < b) ∨ (a < 0 ∧ 0 < d) ∨ (a < 0 ∧ 0 < e) ∨ (b < 0 ∧ 0 < d) ∨ (b < 0 ∧ 0 < e) ∨ (d < 0 ∧ 0 < e)
instance (a b d e : Int) : Decidable (TurnsI a b d e) := by unfold TurnsI; infer_instance
theorem chS_all : ∀ a ∈ [(-1 : Int), 0, 1], ∀ b ∈ [(-1 : Int), 0, 1], ∀ d ∈ [(-1 : Int), 0, 1], ∀ e ∈ [(-1 : Int), 0, 1], (2 ≤ chS [1, a, b, d, e] ↔ TurnsI a b d e) := by decide
theorem chS_all3 : ∀ a ∈ [(-1 : Int), 0, 1], ∀ b ∈ [(-1 : Int), 0, 1], ∀ d ∈ [(-1 : Int), 0, 1], (2 ≤ chS [1, a, b, d] ↔ TurnsI a b d 0) := by decide
theorem chS_all2 : ∀ a ∈ [(-1 : Int), 0, 1], ∀ b ∈ [(-1 : Int), 0, 1], (2 ≤ chS [1, a, b] ↔ TurnsI a b 0 0) := by decide
theorem chS_all1 : ∀ a ∈ [(-1 : Int), 0, 1], (2 ≤ chS [1, a] ↔ TurnsI a 0 0 0) := by decide
theorem sgn_in (q : Rat) : sgn q ∈ [(-1 : Int), 0, 1] := by
  unfold sgn
  by_cases h1 : 0 < q.num
  · have h2 : ¬ q.num < 0 := by omega
    rw [decide_eq_true h1, decide_eq_false h2]
    decide
  · by_cases h2 : q.num < 0
    · rw [decide_eq_false h1, decide_eq_true h2]
      decide
    · rw [decide_eq_false h1, decide_eq_false h2]
      decide
theorem sgn_pos (q : Rat) : 0 < sgn q ↔ 0 < q := by
  rw [show 0 < q ↔ 0 < q.num from by simp [Rat.lt_iff]]
  unfold sgn
  by_cases h1 : 0 < q.num
  · have h2 : ¬ q.num < 0 := by omega
    rw [decide_eq_true h1, decide_eq_false h2]
    exact ⟨fun _ => h1, fun _ => by decide⟩
  · rw [decide_eq_false h1]
    refine ⟨fun h => ?_, fun h => absurd h h1⟩
    by_cases h2 : q.num < 0
    · rw [decide_eq_true h2] at h
      exact absurd h (by decide)
    · rw [decide_eq_false h2] at h
      exact absurd h (by decide)
theorem sgn_neg (q : Rat) : sgn q < 0 ↔ q < 0 := by
  have h1 := sgn_pos q
  have h2 := sgn_zero q
  constructor
  · intro h
    have a : ¬ 0 < q := fun z => by have := h1.mpr z; omega
    have b : ¬ q = 0 := fun z => by have := h2.mpr z; omega
    exact Rat.lt_of_le_of_ne (by grind) b
  · intro h
    have a : ¬ 0 < sgn q := fun z => by have := h1.mp z; grind
    have b : ¬ sgn q = 0 := fun z => by have := h2.mp z; grind
    omega
theorem turns_sgn (a b d e : Rat) : TurnsI (sgn a) (sgn b) (sgn d) (sgn e) ↔ Turns a b d e := by
  unfold TurnsI Turns
  rw [sgn_neg, sgn_neg, sgn_neg, sgn_pos, sgn_pos, sgn_pos]
theorem sgn_one : sgn 1 = 1 := by decide
theorem sgn_0 : sgn 0 = 0 := by decide
theorem alt3 (a b c : Rat) : altern [a, b, c] = [a, -b, c] := by simp [altern, List.zipIdx, List.zipIdx_cons]
theorem alt4 (a b c d : Rat) : altern [a, b, c, d] = [a, -b, c, -d] := by simp [altern, List.zipIdx]
theorem alt5 (a b c d e : Rat) : altern [a, b, c, d, e] = [a, -b, c, -d, e] := by simp [altern, List.zipIdx]
theorem above_turns {n : Nat} {m : List (List Rat)} (hs : Sq n m) (h1 : 1 ≤ n) (h4 : n ≤ 4) : 2 ≤ aboveOf m ↔ Turns (-tr1 (at2 m)) (tr2 (at2 m)) (-tr3 (at2 m)) (whole (at2 m)) := by
  have hz : ∀ i j, n ≤ i ∨ n ≤ j → at2 m i j = 0 := fun i j h => by
    by_cases hi : n ≤ i
    · exact at2_none (by rw [hs.len]; exact hi)
    · have := hs.rowLen (i := i) (by omega)
      rw [at2_row, List.getD_eq_getElem?_getD, List.getElem?_eq_none (by omega)]
      rfl
  have n0 : (-0 : Rat) = 0 := rfl
  rw [← turns_sgn]
  unfold aboveOf
  match n, h1, h4 with
  | 1, _, _ =>
    obtain ⟨e, e2, e3, e4⟩ := sums1 hs.len hz
    rw [e, e2, e3, e4, changes_sgn, n0, sgn_0]
    show 2 ≤ chS [sgn 1, sgn (-tr1 (at2 m))] ↔ _
    rw [sgn_one]
    exact chS_all1 _ (sgn_in _)
  | 2, _, _ =>
    obtain ⟨e, e3, e4⟩ := sums2 hs.len hz
    rw [e, e3, e4, alt3, changes_sgn, n0, sgn_0]
    show 2 ≤ chS [sgn 1, sgn (-tr1 (at2 m)), sgn (tr2 (at2 m))] ↔ _
    rw [sgn_one]
    exact chS_all2 _ (sgn_in _) _ (sgn_in _)
  | 3, _, _ =>
    obtain ⟨e, e4⟩ := sums3 hs.len hz
    rw [e, e4, alt4, changes_sgn, sgn_0]
    show 2 ≤ chS [sgn 1, sgn (-tr1 (at2 m)), sgn (tr2 (at2 m)), sgn (-tr3 (at2 m))] ↔ _
    rw [sgn_one]
    exact chS_all3 _ (sgn_in _) _ (sgn_in _) _ (sgn_in _)
  | 4, _, _ =>
    rw [sums4 hs.len, alt5, changes_sgn]
    show 2 ≤ chS [sgn 1, sgn (-tr1 (at2 m)), sgn (tr2 (at2 m)), sgn (-tr3 (at2 m)), sgn (whole (at2 m))] ↔ _
    rw [sgn_one]
    exact chS_all _ (sgn_in _) _ (sgn_in _) _ (sgn_in _) _ (sgn_in _)
end On
set_option linter.all false
/-! What the found squares tell: the laws wanted of the program. -/
namespace On
def sqAt : List (Rat × List Rat) → Nat → Nat → Rat
  | [], _, _ => 0
  | z :: l, i, j => z.1 * (z.2.getD i 0 * z.2.getD j 0) + sqAt l i j
theorem sqAt_append (a b : List (Rat × List Rat)) (i j : Nat) : sqAt (a ++ b) i j = sqAt a i j + sqAt b i j := by
  induction a with
  | nil => show sqAt b i j = 0 + sqAt b i j; grind
  | cons z a ih => show z.1 * _ + sqAt (a ++ b) i j = z.1 * _ + sqAt a i j + sqAt b i j; rw [ih]; grind
theorem at2_lessAll {n : Nat} (i j : Nat) : ∀ {l : List (Rat × List Rat)} {m : List (List Rat)}, Sq n m → (∀ z ∈ l, z.2.length = n) → at2 (lessAll m l) i j + sqAt l i j = at2 m i j
  | [], m, _, _ => by
    rw [lessAll_nil]
    show at2 m i j + 0 = _
    grind
  | z :: l, m, hs, hl => by
    have hz := hl z List.mem_cons_self
    have h1 := at2_lessAll i j (l := l) (lessSq_sq hs hz (c := z.1)) fun z hz => hl z (List.mem_cons_of_mem _ hz)
    have h2 := at2_less hs (c := z.1) hz i j
    rw [lessAll_cons]
    show _ + (z.1 * (z.2.getD i 0 * z.2.getD j 0) + sqAt l i j) = _
    grind
theorem sqLoop_at {n e : Nat} (hn : n ≤ 4) (he : 1 ≤ e) (i j : Nat) : ∀ {k : Nat} {m : List (List Rat)} {fnd : List (Rat × List Rat)}, SqInv n e m fnd → nzRows m + 1 ≤ k → sqAt (sqLoop k m fnd) i j = at2 m i j + sqAt fnd i j
  | 0, m, fnd, h, hk => by omega
  | k + 1, m, fnd, h, hk => by
    show sqAt (match nextSq m with | [] => fnd | z :: l => sqLoop k (lessAll m (z :: l)) (fnd ++ z :: l)) i j = _
    cases hq : nextSq m with
    | nil =>
      have h0 := next_is h.sq h.sym
      rw [hq] at h0
      cases h0 with
      | none h0 =>
        rw [h0 i j]
        show sqAt fnd i j = _
        grind
    | cons z l =>
      have hne : nextSq m ≠ [] := by rw [hq]; exact List.cons_ne_nil _ _
      obtain ⟨h1, h2⟩ := h.next hn he hne
      have hst := next_step h.sq h.sym (next_is h.sq h.sym)
      have h3 := at2_lessAll i j h.sq hst.forms
      rw [hq] at h1 h2 h3
      have hl : 1 ≤ (z :: l).length := by simp
      show sqAt (sqLoop k (lessAll m (z :: l)) (fnd ++ z :: l)) i j = _
      rw [sqLoop_at hn he i j h1 (by omega), sqAt_append]
      grind
theorem sqLoop_ne {n : Nat} : ∀ (k : Nat) (m : List (List Rat)), Sq n m → Sym m → ∀ z ∈ sqLoop k m [], z.1 ≠ 0
  | 0, m, hs, hy, z, hz => (nomatch hz)
  | k + 1, m, hs, hy, z, hz => by
    have hz : z ∈ (match nextSq m with | [] => [] | z :: l => sqLoop k (lessAll m (z :: l)) ([] ++ z :: l)) := hz
    have hx := next_is hs hy
    have hst := next_step hs hy hx
    generalize hq : nextSq m = q at hz hx hst
    cases hx with
    | none h0 => exact (nomatch hz)
    | single p hp hz' =>
      have hz : z ∈ sqLoop k (lessAll m [(1 / at2 m p p, m.getD p [])]) ([] ++ [(1 / at2 m p p, m.getD p [])]) := hz
      rw [sqLoop_acc k] at hz
      rcases List.mem_cons.mp hz with rfl | hz
      · show 1 / at2 m p p ≠ 0
        intro h
        have : 1 / at2 m p p * at2 m p p = 1 := by grind
        rw [h] at this
        grind
      · exact sqLoop_ne k _ hst.sq hst.sym z hz
    | pair p q hp hq' hpq hz' hd =>
      have hz : z ∈ sqLoop k (lessAll m [(half m p q, addRows (m.getD p []) (m.getD q [])), (-half m p q, subRows (m.getD p []) (m.getD q []))]) ([] ++ [(half m p q, addRows (m.getD p []) (m.getD q [])), (-half m p q, subRows (m.getD p []) (m.getD q []))]) := hz
      rw [sqLoop_acc k] at hz
      have hh : half m p q ≠ 0 := by
        intro h
        have : half m p q * (at2 m p q * 2) = 1 := by unfold half; grind
        rw [h] at this
        grind
      rcases List.mem_cons.mp hz with rfl | hz
      · exact hh
      rcases List.mem_cons.mp hz with rfl | hz
      · show -half m p q ≠ 0
        grind
      · exact sqLoop_ne k _ hst.sq hst.sym z hz
/-! ### as four weights and four forms -/
def coefs (l : List (Rat × List Rat)) : Vec := fun k => (l.getD k (0, [])).1
def forms4 (l : List (Rat × List Rat)) : Nat → Vec := fun k i => (l.getD k (0, [])).2.getD i 0
theorem sqAt_mat (l : List (Rat × List Rat)) (h : l.length ≤ 4) (i j : Nat) : sqAt l i j = mat4 (coefs l) (forms4 l) i j := by
  match l, h with
  | [], _ =>
    show (0 : Rat) = 0 * _ + 0 * _ + 0 * _ + 0 * _
    grind
  | [a], _ =>
    show a.1 * (a.2.getD i 0 * a.2.getD j 0) + 0 = a.1 * (a.2.getD i 0 * a.2.getD j 0) + 0 * _ + 0 * _ + 0 * _
    grind
  | [a, b], _ =>
    show a.1 * (a.2.getD i 0 * a.2.getD j 0) + (b.1 * (b.2.getD i 0 * b.2.getD j 0) + 0) = a.1 * (a.2.getD i 0 * a.2.getD j 0) + b.1 * (b.2.getD i 0 * b.2.getD j 0) + 0 * _ + 0 * _
    grind
  | [a, b, c], _ =>
    show a.1 * (a.2.getD i 0 * a.2.getD j 0) + (b.1 * (b.2.getD i 0 * b.2.getD j 0) + (c.1 * (c.2.getD i 0 * c.2.getD j 0) + 0)) = a.1 * (a.2.getD i 0 * a.2.getD j 0) + b.1 * (b.2.getD i 0 * b.2.getD j 0) + c.1 * (c.2.getD i 0 * c.2.getD j 0) + 0 * _
    grind
  | [a, b, c, d], _ =>
    show a.1 * (a.2.getD i 0 * a.2.getD j 0) + (b.1 * (b.2.getD i 0 * b.2.getD j 0) + (c.1 * (c.2.getD i 0 * c.2.getD j 0) + (d.1 * (d.2.getD i 0 * d.2.getD j 0) + 0))) = a.1 * (a.2.getD i 0 * a.2.getD j 0) + b.1 * (b.2.getD i 0 * b.2.getD j 0) + c.1 * (c.2.getD i 0 * c.2.getD j 0) + d.1 * (d.2.getD i 0 * d.2.getD j 0)
    grind
  | _ :: _ :: _ :: _ :: _ :: _, h => simp at h
theorem comb_four (l : List (Rat × List Rat)) (h : l.length ≤ 4) (y : Vec) (i : Nat) : comb y l i = y 0 * forms4 l 0 i + y 1 * forms4 l 1 i + y 2 * forms4 l 2 i + y 3 * forms4 l 3 i := by
  have z : ∀ {k}, l.length ≤ k → forms4 l k i = 0 := fun {k} hk => by
    have : l.getD k (0, []) = (0, []) := by rw [List.getD_eq_getElem?_getD, List.getElem?_eq_none hk]; rfl
    unfold forms4
    rw [this]
    exact getD_nil
  match l, h with
  | [], _ =>
    show (0 : Rat) = _
    rw [z (Nat.zero_le _), z (Nat.zero_le _), z (Nat.zero_le _), z (Nat.zero_le _)]
    grind
  | [a], _ =>
    rw [z (k := 1) (by simp), z (k := 2) (by simp), z (k := 3) (by simp)]
    show y 0 * a.2.getD i 0 + 0 = y 0 * a.2.getD i 0 + _ + _ + _
    grind
  | [a, b], _ =>
    rw [z (k := 2) (by simp), z (k := 3) (by simp)]
    show y 0 * a.2.getD i 0 + (y 1 * b.2.getD i 0 + 0) = y 0 * a.2.getD i 0 + y 1 * b.2.getD i 0 + _ + _
    grind
  | [a, b, c], _ =>
    rw [z (k := 3) (by simp)]
    show y 0 * a.2.getD i 0 + (y 1 * b.2.getD i 0 + (y 2 * c.2.getD i 0 + 0)) = y 0 * a.2.getD i 0 + y 1 * b.2.getD i 0 + y 2 * c.2.getD i 0 + _
    grind
  | [a, b, c, d], _ =>
    show y 0 * a.2.getD i 0 + (y 1 * b.2.getD i 0 + (y 2 * c.2.getD i 0 + (y 3 * d.2.getD i 0 + 0))) = y 0 * a.2.getD i 0 + y 1 * b.2.getD i 0 + y 2 * c.2.getD i 0 + y 3 * d.2.getD i 0
    grind
  | _ :: _ :: _ :: _ :: _ :: _, h => simp at h
/-- how many squares are above -/
def upsL : List (Rat × List Rat) → Nat
  | [] => 0
  | z :: l => (if 0 < z.1 then 1 else 0) + upsL l
theorem ups_list (l : List (Rat × List Rat)) (h : l.length ≤ 4) : ups (coefs l) = upsL l := by
  have z : ¬ (0 : Rat) < 0 := by grind
  match l, h with
  | [], _ =>
    show (if (0 : Rat) < 0 then 1 else 0) + (if (0 : Rat) < 0 then 1 else 0) + (if (0 : Rat) < 0 then 1 else 0) + (if (0 : Rat) < 0 then 1 else 0) = 0
    rw [if_neg z]
  | [a], _ =>
    show (if 0 < a.1 then 1 else 0) + (if (0 : Rat) < 0 then 1 else 0) + (if (0 : Rat) < 0 then 1 else 0) + (if (0 : Rat) < 0 then 1 else 0) = (if 0 < a.1 then 1 else 0) + 0
    rw [if_neg z]
  | [a, b], _ =>
    show (if 0 < a.1 then 1 else 0) + (if 0 < b.1 then 1 else 0) + (if (0 : Rat) < 0 then 1 else 0) + (if (0 : Rat) < 0 then 1 else 0) = (if 0 < a.1 then 1 else 0) + ((if 0 < b.1 then 1 else 0) + 0)
    rw [if_neg z]
    omega
  | [a, b, c], _ =>
    show (if 0 < a.1 then 1 else 0) + (if 0 < b.1 then 1 else 0) + (if 0 < c.1 then 1 else 0) + (if (0 : Rat) < 0 then 1 else 0) = (if 0 < a.1 then 1 else 0) + ((if 0 < b.1 then 1 else 0) + ((if 0 < c.1 then 1 else 0) + 0))
    rw [if_neg z]
    omega
  | [a, b, c, d], _ =>
    show (if 0 < a.1 then 1 else 0) + (if 0 < b.1 then 1 else 0) + (if 0 < c.1 then 1 else 0) + (if 0 < d.1 then 1 else 0) = (if 0 < a.1 then 1 else 0) + ((if 0 < b.1 then 1 else 0) + ((if 0 < c.1 then 1 else 0) + ((if 0 < d.1 then 1 else 0) + 0)))
    omega
  | _ :: _ :: _ :: _ :: _ :: _, h => simp at h
/-! ### what is known of the squares -/
structure Known (n : Nat) (m : List (List Rat)) : Prop where
  sq : Sq n m
  n1 : 1 ≤ n
  n4 : n ≤ 4
  len : (squaresIn m).length ≤ n
  row : ∀ z ∈ squaresIn m, z.2.length = n
  ne : ∀ z ∈ squaresIn m, z.1 ≠ 0
  ind : Indep (squaresIn m)
  onto : Onto n (squaresIn m)
  at2 : ∀ i j, at2 m i j = sqAt (squaresIn m) i j
  val : ∀ u v : List Rat, u.length = n → value m u v = sqSum (squaresIn m) u v
theorem known {n e : Nat} {m : List (List Rat)} (hs : Sq n m) (hy : Sym m) (h1 : 1 ≤ n) (hn : n ≤ 4) (he : 1 ≤ e) (h : Ents n e m) : Known n m := by
  obtain ⟨m', hi, _⟩ := squares_inv hs hy hn he h
  obtain ⟨l1, _, l3, l4⟩ := sqLoop_next (n := n) (m.length + 1) m hs hy
  have hz := nzRows_le m
  refine ⟨hs, h1, hn, by have := hi.rank; omega, l1, sqLoop_ne (m.length + 1) m hs hy, l3, l4, fun i j => ?_, fun u v hu => value_squares hs hy hn he h hu⟩
  have := sqLoop_at hn he i j (k := m.length + 1) (m := m) (fnd := []) ⟨hs, hy, by show Ents n (1 * e) m; rw [Nat.one_mul]; exact h, by show nzRows m + 0 ≤ n; have := hs.len; omega, fun z hz => (nomatch hz), fun z hz => (nomatch hz)⟩ (by omega)
  unfold squaresIn
  rw [this]
  show _ = _ + 0
  grind
section
variable {n : Nat} {m : List (List Rat)} (K : Known n m)
include K
/-- the sums of minors tell how many squares are above -/
theorem above_ups : 2 ≤ aboveOf m ↔ 2 ≤ upsL (squaresIn m) := by
  have h4 : (squaresIn m).length ≤ 4 := Nat.le_trans K.len K.n4
  have e : at2 m = mat4 (coefs (squaresIn m)) (forms4 (squaresIn m)) := funext fun i => funext fun j => by rw [K.at2 i j, sqAt_mat _ h4]
  rw [above_turns K.sq K.n1 K.n4, e, mat_tr1, mat_tr2, mat_tr3, mat_four, ← ups_list _ h4]
  refine turns_ups (r := (squaresIn m).length) h4 (fun y hy => ?_) (fun k hk => ?_) fun k hk _ => ?_
  · refine K.ind y fun i => ?_
    by_cases hi : i < 4
    · rw [comb_four _ h4]
      exact hy i hi
    · refine comb_zero fun z hz => ?_
      have := K.row z hz
      have := K.n4
      rw [List.getD_eq_getElem?_getD, List.getElem?_eq_none (by omega)]
      rfl
  · unfold coefs
    rw [List.getD_eq_getElem?_getD, List.getElem?_eq_getElem hk]
    exact K.ne _ (List.getElem_mem hk)
  · unfold coefs
    rw [List.getD_eq_getElem?_getD, List.getElem?_eq_none hk]
    rfl
theorem reach : Reach n (formsOf m) := by
  refine ⟨fun f hf => ?_, fun t => ?_⟩
  · unfold formsOf at hf
    obtain ⟨z, hz, rfl⟩ := List.mem_map.mp hf
    exact K.row z hz
  · obtain ⟨x, hx, hr⟩ := K.onto t
    refine ⟨x, hx, fun k f hk => ?_⟩
    unfold formsOf at hk
    rw [List.getElem?_map] at hk
    cases hq : (squaresIn m)[k]? with
    | none => rw [hq] at hk; cases hk
    | some z =>
      rw [hq] at hk
      have := Option.some.inj hk
      rw [← this]
      exact hr k z hq
/-- the elimination finds its places -/
theorem found_all : Found n m := fun p hp => by
  have h := above_lt (List.mem_of_mem_take hp)
  exact good_all (reach K) (unitAt_len _ _) fun z => by rw [z] at h; exact absurd h (Nat.not_lt_zero _)
theorem unitAt_get {k p i : Nat} (h : i < k) : (unitAt k p).getD i 0 = if i = p then 1 else 0 := by
  unfold unitAt
  rw [List.getD_eq_getElem?_getD, List.getElem?_map, List.getElem?_range h]
  rfl
theorem unit_dots {p : Nat} (hp : p ∈ abovesOf m) : (withList (formsOf m) (unitAt (formsOf m).length p)).length = n ∧ ∀ k z, (squaresIn m)[k]? = some z → dot z.2 (withList (formsOf m) (unitAt (formsOf m).length p)) = if k = p then 1 else 0 := by
  have h := above_lt hp
  obtain ⟨w1, w2⟩ := with_dots (reach K) (vs := unitAt (formsOf m).length p) (unitAt_len _ _) fun z => by rw [z] at h; exact absurd h (Nat.not_lt_zero _)
  refine ⟨w1, fun k z hk => ?_⟩
  have hf : (formsOf m)[k]? = some z.2 := by
    unfold formsOf
    rw [List.getElem?_map, hk]
    rfl
  rw [w2 k _ hf, unitAt_get K (List.getElem?_eq_some_iff.mp hf).1]
end
theorem sqSum_none {u v : List Rat} : ∀ {l : List (Rat × List Rat)}, (∀ z ∈ l, dot z.2 u = 0 ∨ dot z.2 v = 0) → sqSum l u v = 0
  | [], _ => rfl
  | z :: l, h => by
    rw [sqSum_cons, sqSum_none fun z hz => h z (List.mem_cons_of_mem _ hz)]
    rcases h z List.mem_cons_self with h | h <;> rw [h] <;> grind
theorem sqSum_unit {u v : List Rat} : ∀ {l : List (Rat × List Rat)} {p q : Nat}, (∀ k z, l[k]? = some z → dot z.2 u = if k = p then 1 else 0) → (∀ k z, l[k]? = some z → dot z.2 v = if k = q then 1 else 0) → sqSum l u v = if p = q then coefs l p else 0
  | [], p, q, _, _ => by
    show (0 : Rat) = if p = q then 0 else 0
    split <;> rfl
  | z :: l, 0, 0, hu, hv => by
    rw [sqSum_cons, hu 0 z rfl, hv 0 z rfl, sqSum_none fun w hw => by
      obtain ⟨k, hk⟩ := List.getElem?_of_mem hw
      exact .inl (by rw [hu (k + 1) w hk, if_neg (by omega)])]
    show z.1 * (if 0 = 0 then 1 else 0) * (if 0 = 0 then 1 else 0) + 0 = if 0 = 0 then z.1 else 0
    rw [if_pos rfl, if_pos rfl]
    grind
  | z :: l, 0, q + 1, hu, hv => by
    rw [sqSum_cons, hv 0 z rfl, sqSum_none fun w hw => by
      obtain ⟨k, hk⟩ := List.getElem?_of_mem hw
      exact .inl (by rw [hu (k + 1) w hk, if_neg (by omega)])]
    rw [if_neg (by omega), if_neg (by omega)]
    grind
  | z :: l, p + 1, 0, hu, hv => by
    rw [sqSum_cons, hu 0 z rfl, sqSum_none fun w hw => by
      obtain ⟨k, hk⟩ := List.getElem?_of_mem hw
      exact .inr (by rw [hv (k + 1) w hk, if_neg (by omega)])]
    rw [if_neg (by omega), if_neg (by omega)]
    grind
  | z :: l, p + 1, q + 1, hu, hv => by
    rw [sqSum_cons, hu 0 z rfl, hv 0 z rfl, sqSum_unit (l := l) (p := p) (q := q) (fun k w hk => by
      rw [hu (k + 1) w hk]
      by_cases h : k = p
      · rw [if_pos h, if_pos (by omega)]
      · rw [if_neg h, if_neg (by omega)]) fun k w hk => by
      rw [hv (k + 1) w hk]
      by_cases h : k = q
      · rw [if_pos h, if_pos (by omega)]
      · rw [if_neg h, if_neg (by omega)]]
    rw [if_neg (by omega), if_neg (by omega)]
    show z.1 * 0 * 0 + (if p = q then coefs l p else 0) = if p + 1 = q + 1 then coefs l p else 0
    by_cases h : p = q
    · rw [if_pos h, if_pos (by omega)]
      grind
    · rw [if_neg h, if_neg (by omega)]
      grind
/-! ### the indices above -/
theorem ups_len : ∀ (l : List (Rat × List Rat)) (k : Nat), ((l.zipIdx k).filter fun z => decide ((0 : Int) < sgn z.1.1)).length = upsL l
  | [], _ => rfl
  | z :: l, k => by
    rw [List.zipIdx_cons, List.filter_cons]
    show (if decide ((0 : Int) < sgn z.1) = true then _ else _ : List _).length = (if 0 < z.1 then 1 else 0) + upsL l
    by_cases h : 0 < z.1
    · rw [if_pos (decide_eq_true ((sgn_pos _).mpr h)), if_pos h, List.length_cons, ups_len l (k + 1)]
      omega
    · rw [if_neg (by rw [decide_eq_false (fun z => h ((sgn_pos _).mp z))]; decide), if_neg h, ups_len l (k + 1)]
      omega
theorem aboves_len (m : List (List Rat)) : (abovesOf m).length = upsL (squaresIn m) := by
  unfold abovesOf
  rw [List.length_map, ups_len]
theorem aboves_pos {m : List (List Rat)} {p : Nat} (h : p ∈ abovesOf m) : 0 < coefs (squaresIn m) p := by
  unfold abovesOf at h
  obtain ⟨⟨z, i⟩, hz, rfl⟩ := List.mem_map.mp h
  obtain ⟨h1, h2⟩ := List.mem_filter.mp hz
  have h3 := List.mk_mem_zipIdx_iff_getElem?.mp h1
  unfold coefs
  rw [List.getD_eq_getElem?_getD, h3]
  exact (sgn_pos _).mp (of_decide_eq_true h2)
theorem aboves_nodup (m : List (List Rat)) : (abovesOf m).Nodup := by
  have h : (abovesOf m).Sublist ((squaresIn m).zipIdx.map (·.2)) := List.Sublist.map _ List.filter_sublist
  refine h.nodup ?_
  have e : (squaresIn m).zipIdx.map (·.2) = List.range' 0 (squaresIn m).length := List.zipIdx_map_snd 0 _
  rw [e]
  exact List.nodup_range'
section
variable {n : Nat} {m : List (List Rat)} (K : Known n m)
include K
/-- two are told: they show two squares above -/
theorem two_shows {x y : List Rat} (h : twoAbove m = some (x, y)) : x.length = n ∧ y.length = n ∧ shows m x y = true := by
  unfold twoAbove aboveLists at h
  have hnd := aboves_nodup m
  have hu := fun p (hp : p ∈ abovesOf m) => unit_dots K hp
  have hc := fun p (hp : p ∈ abovesOf m) => aboves_pos hp
  generalize abovesOf m = ps at *
  match ps with
  | [] => cases h
  | [p] => cases h
  | p :: q :: ps =>
    have h := Option.some.inj h
    have e1 : withList (formsOf m) (unitAt (formsOf m).length p) = x := (Prod.mk.inj h).1
    have e2 : withList (formsOf m) (unitAt (formsOf m).length q) = y := (Prod.mk.inj h).2
    have hp : p ∈ p :: q :: ps := List.mem_cons_self
    have hq : q ∈ p :: q :: ps := List.mem_cons_of_mem _ List.mem_cons_self
    obtain ⟨a1, a2⟩ := hu p hp
    obtain ⟨b1, b2⟩ := hu q hq
    rw [e1] at a1 a2
    rw [e2] at b1 b2
    have hpq : p ≠ q := fun z => (List.nodup_cons.mp hnd).1 (by rw [z]; exact List.mem_cons_self)
    refine ⟨a1, b1, ?_⟩
    have v1 := K.val x x a1
    have v2 := K.val y y b1
    have v3 := K.val x y a1
    rw [sqSum_unit a2 a2, if_pos rfl] at v1
    rw [sqSum_unit b2 b2, if_pos rfl] at v2
    rw [sqSum_unit a2 b2, if_neg hpq] at v3
    have c1 := (sgn_pos _).mpr (hc p hp)
    have c2 := (sgn_pos _).mpr (hc q hq)
    unfold shows
    rw [v1, v2, v3, decide_eq_false (by omega), decide_eq_false (by omega), decide_eq_true sgn_0]
    rfl
/-- none are told: fewer than two are above -/
theorem none_few (h : twoAbove m = none) : aboveOf m < 2 := by
  refine Nat.not_le.mp fun h2 => ?_
  have := (above_ups K).mp h2
  rw [← aboves_len] at this
  unfold twoAbove aboveLists at h
  generalize abovesOf m = ps at *
  match ps with
  | [] => simp at this
  | [p] => simp at this
  | p :: q :: ps => cases h
/-- two told: two are above -/
theorem some_many {x y : List Rat} (h : twoAbove m = some (x, y)) : 2 ≤ aboveOf m := by
  refine (above_ups K).mpr ?_
  rw [← aboves_len]
  unfold twoAbove aboveLists at h
  generalize abovesOf m = ps at *
  match ps with
  | [] => cases h
  | [p] => cases h
  | p :: q :: ps => simp
theorem ups_split : ∀ {l : List (Rat × List Rat)}, upsL l < 2 → (∀ z ∈ l, z.1 ≤ 0) ∨ ∃ a z b, l = a ++ z :: b ∧ (∀ z ∈ a, z.1 ≤ 0) ∧ ∀ z ∈ b, z.1 ≤ 0
  | [], _ => .inl fun z hz => (nomatch hz)
  | z :: l, h => by
    have h : (if 0 < z.1 then 1 else 0) + upsL l < 2 := h
    by_cases hz : 0 < z.1
    · rw [if_pos hz] at h
      refine .inr ⟨[], z, l, rfl, fun z hz => (nomatch hz), ?_⟩
      have h0 : upsL l = 0 := by omega
      have key : ∀ {l : List (Rat × List Rat)}, upsL l = 0 → ∀ z ∈ l, z.1 ≤ 0 := fun {l} => by
        induction l with
        | nil => exact fun _ z hz => (nomatch hz)
        | cons w l ih =>
          intro h0 z hz
          have h0 : (if 0 < w.1 then 1 else 0) + upsL l = 0 := h0
          by_cases hw : 0 < w.1
          · rw [if_pos hw] at h0; omega
          · rw [if_neg hw] at h0
            rcases List.mem_cons.mp hz with rfl | hz
            · grind
            · exact ih (by omega) z hz
      exact key h0
    · rw [if_neg hz] at h
      rcases ups_split (l := l) (by omega) with h1 | ⟨a, w, b, h1, h2, h3⟩
      · left
        intro w hw
        rcases List.mem_cons.mp hw with rfl | hw
        · grind
        · exact h1 w hw
      · refine .inr ⟨z :: a, w, b, by rw [h1]; rfl, fun w hw => ?_, h3⟩
        rcases List.mem_cons.mp hw with rfl | hw
        · grind
        · exact h2 w hw
/-- lists that show two: two are above -/
theorem shows_many {u v : List Rat} (hu : u.length = n) (hv : v.length = n) (h : shows m u v = true) : 2 ≤ aboveOf m := by
  refine Nat.not_lt.mp fun h2 => ?_
  have h2 : upsL (squaresIn m) < 2 := Nat.not_le.mp fun z => absurd ((above_ups K).mpr z) (by omega)
  unfold shows at h
  simp only [Bool.and_eq_true, Bool.not_eq_true', decide_eq_false_iff_not, decide_eq_true_eq] at h
  obtain ⟨s1, s2, s3⟩ := h
  have p1 := (sgn_pos (value m u u)).mp (by omega)
  have p2 := (sgn_pos (value m v v)).mp (by omega)
  have p3 := (sgn_zero _).mp s3
  rw [K.val u u hu] at p1
  rw [K.val v v hv] at p2
  rw [K.val u v hu] at p3
  rcases ups_split K h2 with h | ⟨a, z, b, e, ha, hb⟩
  · exact none_above h p1
  · rw [e] at p1 p2 p3
    exact one_above ha hb p1 p2 p3
end
end On
set_option Elab.async false
set_option linter.all false
set_option maxRecDepth 100000
set_option maxHeartbeats 4000000
/-! repr of lists and tuples of numbers of an own class, whatever the class's own text does. -/
namespace On
open PySem PySem.Spec PyProof.Rows L2
open Builtin
/-- what a piece of work leaves behind it -/
structure Stp (P : Program) (w : World) (outer : List Env) (s : Shared) (H : Hp) (z : Shared) (G : Hp) : Prop where
  os : z.os = s.os
  bare : AllBare z.gens
  un : Un (frs outer) [] H G s.heap z.heap
  hok : HOk P w G z.heap
  ex : Ex H G
section
variable {P : Program} {w : World} {K : PySem.W.Frag} {mg : Str → Option Value} {base : Heap} {outer : List Env} {s z y : Shared} {H G F : Hp} {A : Around}
theorem Stp.rfl (h : HOk P w H s.heap) (b : AllBare s.gens) : Stp P w outer s H s H := ⟨Eq.refl _, b, Un.refl, h, Ex.rfl⟩
theorem Stp.tk (st : Stp P w outer s H z G) (t : Nat) : Stp P w outer s H { z with toks := t } G := ⟨st.os, st.bare, st.un, st.hok, st.ex⟩
theorem Stp.trans (a : Stp P w outer s H z G) (b : Stp P w outer z G y F) : Stp P w outer s H y F := ⟨b.os.trans a.os, b.bare, a.un.trans b.un, b.hok, a.ex.trans b.ex⟩
/-- an object that was not there ahead is made or changed -/
theorem Stp.touch {p : Addr} {h2 : Heap} {t : Nat} (st : Stp P w outer s H z G) (hp : s.heap.get? p = none) (hG : G p = none) (k : ∀ b o, b ≠ p → z.heap.get? b = some o → h2.get? b = some o) : Stp P w outer s H { z with heap := h2, toks := t } G := by
  have ne : ∀ b o, s.heap.get? b = some o → b ≠ p := fun b o e q => by rw [q, hp] at e; cases e
  have nG : ∀ b o, G b = some o → b ≠ p := fun b o e q => by rw [q, hG] at e; cases e
  refine ⟨st.os, st.bare, ⟨fun b o e n f x => k b o (ne b o e) (st.un.keep b o e n f x), fun b o e n f x => ?_, st.un.free, fun b o e x => ?_, st.un.tups, st.un.frzs, st.un.tbls⟩, fun a o e => ?_, st.ex⟩
  · obtain ⟨sl, q⟩ := st.un.slot b o e n f x
    exact ⟨sl, k b _ (ne b o e) q⟩
  · obtain ⟨o', q⟩ := st.un.there b o e x
    exact ⟨o', k b _ (ne b o e) q⟩
  · refine (st.hok a o e).stay (fun b u hb q => k b u ?_ q) (fun _ q => q) fun _ _ q => q
    rcases hb with rfl | hb
    · exact nG _ _ e
    · exact nG _ _ hb
theorem funs_on {l : List Env} (st : Stp P w outer s H z G) (hl : s.heap.FunFrames base l) (hs : ∀ b ∈ frs l, b ∈ frs outer) (hf : ∀ b ∈ frs outer, H b = none) : z.heap.FunFrames base l := by
  induction l with
  | nil => trivial
  | cons env rest ih =>
    obtain ⟨h1, ⟨L, o, h2, h3, h4, h5⟩, h6⟩ := hl
    have hm : L ∈ frs outer := hs L (by unfold frs; rw [List.filterMap_cons, h2]; exact List.mem_cons_self)
    obtain ⟨sl, q⟩ := st.un.slot L o h4 (hf L hm) hm (fun x => nomatch x)
    exact ⟨h1, ⟨L, _, h2, h3, q, h5⟩, ih h6 fun b hb => hs b (by unfold frs; rw [List.filterMap_cons, h2]; exact List.mem_cons_of_mem _ hb)⟩
/-- a callee's state behind it -/
theorem Stp.env (st : Stp P w outer s H z G) (e : Env0 P w K mg base A outer s H) (top : ∃ L ∈ frs outer, base.objs.size ≤ L) : Env0 P w K mg base A outer z G := by
  have fu := funs_on st e.funs (fun _ q => q) e.frf
  refine ⟨e.frames, e.mod, fun b o q => ?_, ?_, fu, fun b hb => ?_, st.hok, st.bare⟩
  · obtain ⟨h1, h2⟩ := e.bs b o q
    refine ⟨st.un.keep b o h1 h2 (fun x => ?_) (fun x => nomatch x), st.un.free b o h1 h2 fun x => nomatch x⟩
    have := (e.funs.mem x).1
    rw [q] at this
    cases this
  · obtain ⟨L, hL, hb⟩ := top
    obtain ⟨_, o, ho, _⟩ := fu.mem hL
    exact Nat.le_trans hb (Nat.le_of_lt (Heap.lt_size ho))
  · obtain ⟨_, o, ho, _⟩ := e.funs.mem hb
    exact st.un.free b o ho (e.frf b hb) fun x => nomatch x
/-- a new object is in no frame -/
theorem new_out (e : Env0 P w K mg base A outer s H) {p : Addr} (hp : s.heap.get? p = none) : p ∉ frs outer := fun x => by
  obtain ⟨_, o, ho, _⟩ := e.funs.mem x
  rw [hp] at ho
  cases ho
end
/-- a code of repr's own that is under way -/
structure Held1 (c : Code) : Prop where
  gd : c.isGuard = true
  wt : c.weight = 1
  un : c.cUnits = 1
  ev : c.envs = []
theorem held_list (args : Args) : Held1 (.builtin "list.__repr__.loop" args) := by
  have hg : (Code.builtin "list.__repr__.loop" args).isGuard = true := isGuard_list_loop args
  refine ⟨hg, ?_, ?_, ?_⟩
  · simp [Code.weight, Code.frames, Code.isCreation, Code.isCaller, hg]
    try first | rfl | simp [Code.isFrame]
  · first | rfl | simp [Code.cUnits, Code.frames, Code.isFrame]
  · first | rfl | simp [Code.envs, Code.isFrame]
theorem held_tup (args : Args) : Held1 (.builtin "tuple.__repr__" args) := by
  have hg : (Code.builtin "tuple.__repr__" args).isGuard = true := isGuard_tuple_repr args
  refine ⟨hg, ?_, ?_, ?_⟩
  · simp [Code.weight, Code.frames, Code.isCreation, Code.isCaller, hg]
    try first | rfl | simp [Code.isFrame]
  · first | rfl | simp [Code.cUnits, Code.frames, Code.isFrame]
  · first | rfl | simp [Code.envs, Code.isFrame]
theorem held_tupU (args : Args) : Held1 (.builtin "tuple.__repr__.under" args) := by
  have hg : (Code.builtin "tuple.__repr__.under" args).isGuard = true := isGuard_tuple_repr_under args
  refine ⟨hg, ?_, ?_, ?_⟩
  · simp [Code.weight, Code.frames, Code.isCreation, Code.isCaller, hg]
    try first | rfl | simp [Code.isFrame]
  · first | rfl | simp [Code.cUnits, Code.frames, Code.isFrame]
  · first | rfl | simp [Code.envs, Code.isFrame]
section
variable {P : Program} {w : World} {K : PySem.W.Frag} {mg : Str → Option Value} {base : Heap} {outer : List Env} {s : Shared} {H : Hp} {A : Around} {c : Code} {k : Nat} {g : List Code}
theorem Held1.room (h : Held1 c) (r : Room (k + 1) A) : Room k (A.under c) :=
  ⟨r.hd, by have := r.dp; show A.depth + c.weight + 3 * k + 5 < _; rw [h.wt]; omega, by have := r.un; show A.units + c.cUnits + 16 * k + 200 < _; rw [h.un]; omega⟩
theorem Held1.env (h : Held1 c) (e : Env0 P w K mg base A outer s H) : Env0 P w K mg base (A.under c) outer s H :=
  ⟨by show pushEnvs c.envs A.frames = some outer; rw [h.ev]; exact e.frames, e.mod, e.bs, e.bsz, e.funs, e.frf, e.hok, e.bare⟩
theorem Held1.gds (h : Held1 c) (hg : A.guards = some g) : (A.under c).guards = some (c :: g) := guards_under_guard h.gd hg
/-- x is shown as t: while no repr of as is under way -/
def Shows (P : Program) (w : World) (K : PySem.W.Frag) (mg : Str → Option Value) (base : Heap) (outer : List Env) (k : Nat) (as : List Addr) (G : Hp) (x : V) (t : Str) : Prop :=
  ∀ (n : Nat), n + t.length ≤ sizeLine → ∀ (A : Around) (g : List Code) (E : Value → Shared → Prop) (s : Shared) (H : Hp) (Q : Str → Shared → Prop) (u : Value), A.guards = some g → (∀ b ∈ as, Clear g b) → Room k A → Env0 P w K mg base A outer s H → Ex G H → RelV x u →
    (∀ z F, Stp P w outer s H z F → Q t z) → wpAny (model P w) A (pyReprUnder n u) Q E s
theorem Shows.more {as bs : List Addr} {G : Hp} {x : V} {t : Str} (h : Shows P w K mg base outer k as G x t) (hs : ∀ b ∈ as, b ∈ bs) {j : Nat} (hj : k ≤ j) {G' : Hp} (e : Ex G G') : Shows P w K mg base outer j bs G' x t :=
  fun n hn A g E s H Q u hg hc hr he ex r q => h n hn A g E s H Q u hg (fun b hb => hc b (hs b hb)) (hr.mono hj) he (e.trans ex) r q
theorem Shows.leaf {x : V} {t : Str} (h : ∀ u, RelV x u → ReprIs P w u t) (as : List Addr) (G : Hp) : Shows P w K mg base outer k as G x t :=
  fun n hn A g E s H Q u _ _ _ he _ r q => h u r n hn A E s Q fun tk => q _ H ((Stp.rfl he.hok he.bare).tk tk)
theorem Shows.int {i : Int} (hi : i.natAbs.log2 < 1920) (as : List Addr) (G : Hp) : Shows P w K mg base outer k as G (.int i) (toString i) := .leaf (fun u r => by
  obtain ⟨t, rfl⟩ := (show ∃ t, u = Value.int i t from r)
  exact ReprIs.int t hi) as G
theorem Shows.non (as : List Addr) (G : Hp) : Shows P w K mg base outer k as G .non "None" := .leaf (fun u e => (show u = Value.none from e) ▸ ReprIs.none) as G
/-! ### an instance, by its class's own text -/
theorem under_own {M : Model} {x C f : Addr} {ox : Obj} {od : Option Obj} {n : Nat} {E : Value → Shared → Prop} {Q : Str → Shared → Prop} (hn : n ≤ sizeLine) (X : K.In s.heap) (I : PySem.W.InstAt s.heap x ox C od)
    (hs : PySem.W.findIn K (.ref C) "__repr__" = some (some (.ref f))) (hf : PySem.W.isFn K (.ref f) = true) (hu : A.units < cLine)
    (h : wpAny M A (call (.ref f) [.ref x]) (fun v z => ∃ t u, v = .str t u ∧ Q t z) E s) : wpAny M A (pyReprUnder n (.ref x)) Q E s := by
  refine wpAny_pyReprUnder_ref hn ?_
  unfold pyReprObjUnder pyReprObjBy
  refine wpAny_bind (wpAny_cRoomFor hu ?_)
  have look : ∀ {Q' : Option Value → Shared → Prop}, Q' (some (.ref f)) s → wpAny M A (specialOf (.ref x) "__repr__") Q' E s := fun {Q'} q => wpAny_bind (I.type.here ((PySem.W.looks_findIn X hs).here q))
  refine wpAny_bind (look ?_)
  simp only [Option.isNone_some, Bool.false_eq_true, if_false]
  have last : wpAny M A (call (.ref f) ([.ref x] ++ []) >>= fun v => pure (some v)) (fun r z => ∃ t u, r = some (.str t u) ∧ Q t z) E s := wpAny_bind (wpAny_mono h (fun v z ⟨t, u, e, q⟩ => wpAny_pure ⟨t, u, by rw [e], q⟩) fun _ _ q => q)
  have one : wpAny M A (callSpecialIfBoundBy? (fun g first => match reprUnder? g, first with
      | some twin, [self] => call twin [self, rawInt n]
      | _, _ => call g (first ++ [])) (.ref x) "__repr__") (fun r z => ∃ t u, r = some (.str t u) ∧ Q t z) E s := by
    simp only [callSpecialIfBoundBy?, bindSpecialIfBound?]
    refine wpAny_holding (wpAny_bind (wpAny_bind (look ?_)))
    refine wpAny_bind (wpAny_askSetting (wpAny_ite ?_))
    have b := PySem.W.bind_fn (M := M) X (Value.ref x) (beq_iff_eq.mp hf)
    split
    · exact wpAny_bind (b.here (wpAny_pure (by exact last)))
    · exact wpAny_tryCatch (wpAny_bind (b.here (wpAny_pure (by exact last))))
  refine wpAny_bind (wpAny_mono one (fun r z hr => ?_) fun _ _ q => q)
  obtain ⟨t, u, rfl, q⟩ := hr
  exact wpAny_bind (wpAny_isInstance (T := "str") (b := true) (typeIs_str _ _ _) isSubtype_str_str (wpAny_pure ⟨t, u, by first | rfl | simp, q⟩))
theorem Shows.own {C : Addr} {sp : Sp} {a dx : Addr} {fs : List (Str × V)} {G : Hp} {t : Str} (m : C8.Met P w K mg base k C "__repr__" sp []) (ha : G a = some (.ins C dx fs)) (as : List Addr)
    (h : Tr (fun H Q => sp [.ref a] H Q E0) G (isV (.str t))) : Shows P w K mg base outer k as G (.ref a) t := by
  intro n hn A g E s H Q u hg hc hr he ex r q
  obtain ⟨f, fd, ps, ds, cl, me, F, hb, hd⟩ := m.ex
  cases hd
  obtain rfl : u = Value.ref a := r
  obtain ⟨mA, O, _⟩ := ins_get he.hok (ex _ _ ha)
  obtain ⟨od, J, _⟩ := O.look
  have KX : K.In s.heap := he.mod.kin.keeps fun b o e => (he.bs b o e).1
  refine under_own (by omega) KX J me.at_ me.fn (hr.units0) ?_
  have hsp : sp [.ref a] H (fun v F => v = .str t ∧ Ex H F) E0 := h H ex _ fun v F1 F2 gr ev => ⟨ev, gr.ol⟩
  have hl := F.len _ _ _ _ hsp
  have hb' := hb s [.ref a] KX (by rw [List.append_nil]; exact hl)
  refine wpAny_call (codeAny_mono (F.run A outer s H ⟨[.ref a], []⟩ ([.ref a] ++ []) [.ref a] _ E0 hr he hb' (.cons (by rfl) .nil) hsp) fun r z hz => ?_)
  cases r with
  | error e => exact False.elim hz
  | ok fl =>
    cases fl with
    | ret v =>
      obtain ⟨v', F', h1, h2, h3, h4, h5, rfl, h6⟩ := hz
      obtain ⟨tk, rfl⟩ := (show ∃ tk, v = Value.str t tk from h5)
      exact ⟨t, tk, rfl, q z F' ⟨h1, h2, h3, h4, h6⟩⟩
    | next => exact False.elim hz
    | brk => exact False.elim hz
    | cont => exact False.elim hz
end
end On
set_option Elab.async false
set_option linter.all false
set_option maxRecDepth 100000
set_option maxHeartbeats 4000000
/-! repr of a list, of a tuple. -/
namespace On
open PySem PySem.Spec PyProof.Rows L2
open Builtin Builtin.List
section
variable {P : Program} {w : World} {K : PySem.W.Frag} {mg : Str → Option Value} {base : Heap} {outer : List Env} {A : Around} {k n : Nat} {g : List Code} {as : List Addr} {G : Hp} {ts : List Str} {xs : List V} {a : Addr}
theorem lst_at {H : Hp} {h : Heap} (hok : HOk P w H h) (e : H a = some (.lst xs)) : ∃ (us : List Value) (m : Nat), Vals xs us ∧ h.get? a = some { cls := .type "list", data := .seq us.toArray m } := by
  obtain ⟨_, us, m, r, q⟩ := hok a _ e
  exact ⟨us, m, r, q⟩
/-- the loop of list.__repr__ -/
theorem loop_shows {s : Shared} {H : Hp} {p : Addr} {R : Result → Shared → Prop} (top : ∃ L ∈ frs outer, base.objs.size ≤ L) (hg : A.guards = some g) (hcl : ∀ b ∈ as, Clear g b) (hr : Room (k + 1) A) (hna : a ∉ as) (hlen : ts.length = xs.length)
    (hT : ∀ (i : Nat) (x : V), xs[i]? = some x → ∃ t, ts[i]? = some t ∧ Shows P w K mg base outer k as G x t) (hsz : n + (listText ts).length ≤ sizeLine)
    (e0 : Env0 P w K mg base A outer s H) (hx : Ex G H) (ha : G a = some (.lst xs)) (hp : s.heap.get? p = none)
    (hR : ∀ z F u, Stp P w outer s H z F → R (.ok (.ret (.str (listText ts) u))) z) :
    ∀ (j i : Nat) (y : Shared) (F : Hp) (acc : Array Value) (c : Nat) (done : List (Str × Tok)), xs.length - i = j → i ≤ xs.length → Stp P w outer s H y F → F p = none →
      y.heap.get? p = some { cls := .type "list", dict := none, data := .seq acc c, slots := #[] } → acc.toList = strValues done → done.map (·.1) = ts.take i →
      codeAny (model P w) A (.builtin "list.__repr__.loop" ⟨[.ref a, rawInt i, .ref p, rawInt ((n + piled (ts.take i) : Nat) : Int)], []⟩) R y := by
  have fit : (listText ts).length ≤ sizeLine := by omega
  have whole_ : (listText ts).length = (textFrom 0 "[" ts).length + 1 := by
    show (textFrom 0 "[" ts ++ "]").length = _
    rw [strLen_append] <;> rfl
  obtain ⟨w1, w2, _⟩ := textFrom_len ts 0 "["
  rw [if_neg (Nat.lt_irrefl 0)] at w1
  have few : xs.length ≤ sizeLine := by omega
  have pl := piled_le_listText ts
  intro j
  induction j with
  | zero =>
    intro i y F acc c done hj hi st hF hP hacc hdone
    have hin : i = xs.length := by omega
    obtain ⟨us, m, rv, hu⟩ := lst_at st.hok (st.ex _ _ (hx _ _ ha))
    have lu := rv.length
    refine codeAny_builtin PySem.F.entry_list_repr_loop ?_
    show wpAny _ _ («list.__repr__.loop» ⟨[.ref a, .int i 0, .ref p, .int ((n + piled (ts.take i) : Nat) : Int) 0], []⟩) _ _ y
    rw [repr_loop_tree]
    refine wpAny_bind (wpAny_listItems hu rfl ?_)
    have none_ : us.toArray[(i : Int).toNat]? = none := by simp [hin, lu]
    simp only [none_]
    unfold reprEnd
    refine wpAny_bind (wpAny_listItems hP rfl ?_)
    rw [hacc, repr_fold]
    refine wpAny_bind (wpAny_pure ?_)
    rw [show done.map (·.1) = ts from by rw [hdone, hin, ← hlen, List.take_length]]
    refine wpAny_bind (wpAny_mkStr (wpAny_pure ?_) fit)
    exact hR _ F _ (st.tk _)
  | succ j ih =>
    intro i y F acc c done hj hi st hF hP hacc hdone
    obtain ⟨us, m, rv, hu⟩ := lst_at st.hok (st.ex _ _ (hx _ _ ha))
    have lu := rv.length
    have hlt : i < xs.length := by omega
    obtain ⟨u, hui, ru⟩ := rv.get (i := i) (x := xs[i]) (List.getElem?_eq_getElem hlt)
    obtain ⟨t, ht, sh⟩ := hT i xs[i] (List.getElem?_eq_getElem hlt)
    have p1 := piled_take_succ ht
    have p2 := piled_take_le ts (i + 1)
    have hl := held_list ⟨[.ref a, .int i 0, .ref p, .int ((n + piled (ts.take i) : Nat) : Int) 0], []⟩
    refine codeAny_builtin PySem.F.entry_list_repr_loop ?_
    show wpAny _ _ («list.__repr__.loop» ⟨[.ref a, .int i 0, .ref p, .int ((n + piled (ts.take i) : Nat) : Int) 0], []⟩) _ _ y
    rw [repr_loop_tree]
    refine wpAny_bind (wpAny_listItems hu rfl ?_)
    have some_ : us.toArray[(i : Int).toNat]? = some u := by simpa using hui
    simp only [some_]
    rw [Int.toNat_natCast]
    refine wpAny_bind (wpAny_holding (sh (n + piled (ts.take i) + 1) (by omega) _ _ _ _ F _ u (hl.gds hg) (fun b hb => (hcl b hb).cons (a := a) fun e => hna (e ▸ hb)) (hl.room hr) (hl.env (st.env e0 top)) (hx.trans st.ex) ru fun z F' st' => ?_))
    have hP' := st'.un.keep p _ hP hF (new_out e0 hp) (fun x => nomatch x)
    have hF' := st'.un.free p _ hP hF (fun x => nomatch x)
    refine wpAny_bind (wpAny_mkStr ?_ (Nat.le_trans (w2 t (List.mem_of_getElem? ht)) (by omega)))
    refine wpAny_bind ?_
    show wpAny _ _ (updateSeq p _) _ _ _
    have small : acc.size ≤ sizeLine := by
      have e1 : acc.toList.length = acc.size := by simp
      have e2 : (strValues done).length = done.length := by simp [strValues]
      have e3 : done.length = (ts.take i).length := by rw [← hdone, List.length_map]
      have e4 : (ts.take i).length ≤ i := by rw [List.length_take]; omega
      rw [hacc] at e1
      omega
    refine wpAny_updateSeq hP' rfl (wpAny_pure ⟨PySem.F.quiet_list_repr_loop _, ?_⟩) small
    rw [show ((i : Int) + 1) = ((i + 1 : Nat) : Int) from by omega, show n + piled (ts.take i) + (t.length + 2) = n + piled (ts.take (i + 1)) from by omega]
    exact ih (i + 1) _ F' (acc.push (.str t z.toks)) _ (done ++ [(t, z.toks)]) (by omega) hlt ((st.trans st').touch hp hF' fun b o hb q => (Heap.get?_update_other _ _ (fun h : p = b => hb h.symm)).trans q) hF' (Heap.get?_update_self _ hP' rfl) (by simp [hacc, strValues]) (by simp [List.take_add_one, ht, hdone])
/-- list.__repr__ of a list that is not empty, at any of its two names -/
theorem list_at {s : Shared} {H : Hp} {R : Result → Shared → Prop} (top : ∃ L ∈ frs outer, base.objs.size ≤ L) (hg : A.guards = some g) (hcl : ∀ b ∈ a :: as, Clear g b) (hr : Room (k + 1) A) (hna : a ∉ as) (hlen : ts.length = xs.length) (hne : xs ≠ [])
    (hT : ∀ (i : Nat) (x : V), xs[i]? = some x → ∃ t, ts[i]? = some t ∧ Shows P w K mg base outer k as G x t) (hsz : n + (listText ts).length ≤ sizeLine)
    (e0 : Env0 P w K mg base A outer s H) (hx : Ex G H) (ha : G a = some (.lst xs)) (hR : ∀ z F u, Stp P w outer s H z F → R (.ok (.ret (.str (listText ts) u))) z) :
    wpAny (model P w) A.in1 (Builtin.listReprAt n ⟨[.ref a], []⟩) (fun fin z => match fin with | .done f => R (.ok f) z | .again c' => c'.quiet = true ∧ codeAny (model P w) A c' R z) (fun e z => R (.error e) z) s := by
  obtain ⟨us, m, rv, hu⟩ := lst_at e0.hok (hx _ _ ha)
  have mine : Clear g a := hcl a (.head _)
  have fresh : s.heap.get? s.heap.objs.size = none := by
    cases q : s.heap.get? s.heap.objs.size with
    | none => rfl
    | some o => exact absurd (Heap.lt_size q) (Nat.lt_irrefl _)
  cases rv with
  | nil => exact absurd rfl hne
  | cons r1 r2 =>
    refine wpAny_list_repr_head (A := A.in1) hg (fun v rest kw hm => listSameRef_of_ne (mine _ _ _ _ hm)) hu rfl ?_
    refine wpAny_bind (m := newList []) (wpAny_newObj_type ?_)
    refine wpAny_pure ⟨PySem.F.quiet_list_repr_loop _, ?_⟩
    have hH : H s.heap.objs.size = none := e0.hok.fresh (Nat.le_refl _)
    exact loop_shows (p := s.heap.objs.size) top hg (fun b hb => hcl b (.tail _ hb)) hr hna hlen hT hsz e0 hx ha fresh hR _ 0 _ H #[] _ [] rfl (Nat.zero_le _)
      ((Stp.rfl e0.hok e0.bare).touch fresh hH fun b o _ q => Heap.get?_push_of_some _ q) hH (Heap.get?_push_size _ rfl) rfl (by simp)
theorem Shows.list (top : ∃ L ∈ frs outer, base.objs.size ≤ L) (hna : a ∉ as) (hlen : ts.length = xs.length) (hne : xs ≠ []) (ha : G a = some (.lst xs)) (hT : ∀ (i : Nat) (x : V), xs[i]? = some x → ∃ t, ts[i]? = some t ∧ Shows P w K mg base outer k as G x t) :
    Shows P w K mg base outer (k + 1) (a :: as) G (.ref a) (listText ts) := by
  intro n hn A g E s H Q u hg hc hr he ex r q
  obtain rfl : u = Value.ref a := r
  obtain ⟨us, m, rv, hu⟩ := lst_at he.hok (ex _ _ ha)
  have ty : s.TypeIs (.ref a) "list" := ⟨_, hu, rfl⟩
  refine wpAny_pyReprUnder_ref (by omega) ?_
  refine wpAny_pyReprObjUnder_twin (twin := "list.__repr__.under") ty PySem.F.slot_list_repr.toG rfl hr.units0 ?_
  refine call_twin_plain PySem.F.plain_list_repr_under PySem.F.entry_list_repr_under PySem.F.check_list_repr_under ty PySem.F.slot_list_repr.toG (PySem.F.args_list_repr_1 _) ?_
  exact list_at (R := callEnd _ E) top hg hc hr hna hlen hne hT hn he ex ha fun z F u st => ⟨⟨_, _, rfl⟩, _, _, rfl, q z F st⟩
/-- repr(a list) -/
theorem call_list_shows (top : ∃ L ∈ frs outer, base.objs.size ≤ L) (hna : a ∉ as) (hlen : ts.length = xs.length) (hne : xs ≠ []) (ha : G a = some (.lst xs)) (hT : ∀ (i : Nat) (x : V), xs[i]? = some x → ∃ t, ts[i]? = some t ∧ Shows P w K mg base outer k as G x t)
    (hsz : (listText ts).length ≤ sizeLine) {E : Value → Shared → Prop} {s : Shared} {H : Hp} {Q : Value → Shared → Prop} (hg : A.guards = some []) (hr : Room (k + 2) A) (he : Env0 P w K mg base A outer s H) (ex : Ex G H)
    (q : ∀ z F u, Stp P w outer s H z F → Q (.str (listText ts) u) z) : wpAny (model P w) A (call (.builtin "repr") [.ref a]) Q E s := by
  obtain ⟨us, m, rv, hu⟩ := lst_at he.hok (ex _ _ ha)
  have ty : s.TypeIs (.ref a) "list" := ⟨_, hu, rfl⟩
  refine call_repr_slot (by have := hr.units; omega) ty PySem.F.slot_list_repr.toG ?_
  refine wpAny_call (codeAny_call_builtin PySem.F.slot_list_repr.plain PySem.F.entry_list_repr (PySem.F.slot_list_repr.check _ _ _ _ _ _ _ _ ty (PySem.F.args_list_repr_1 _) ?_))
  exact list_at (n := 0) (A := A.in1) (R := callEnd _ E) top hg (fun b _ => Clear.nil b) hr.in1 hna hlen hne hT (by omega) he.in1 ex ha fun z F u st => ⟨_, _, rfl, q z F u st⟩
end
end On
set_option Elab.async false
set_option linter.all false
set_option maxRecDepth 100000
set_option maxHeartbeats 4000000
/-! repr of a tuple; repr of what is known. -/
namespace On
open PySem PySem.Spec PyProof.Rows L2
open Builtin Builtin.Tuple
section
variable {P : Program} {w : World} {K : PySem.W.Frag} {mg : Str → Option Value} {base : Heap} {outer : List Env} {A : Around} {k n : Nat} {g : List Code} {as : List Addr} {G : Hp} {ts : List Str} {xs : List V} {a : Addr}
theorem tup_at {H : Hp} {h : Heap} (hok : HOk P w H h) (e : H a = some (.tup xs)) : ∃ (us : List Value), Vals xs us ∧ ∃ o m, h.get? a = some o ∧ o.cls = .type "tuple" ∧ o.data = .seq us.toArray m := by
  obtain ⟨_, us, r, o, h1, h2, m, h3⟩ := hok a _ e
  exact ⟨us, r, o, m, h1, h2, h3⟩
theorem fold_shows (top : ∃ L ∈ frs outer, base.objs.size ≤ L) {E : Value → Shared → Prop} (hg : A.guards = some g) (hcl : ∀ b ∈ as, Clear g b) (hr : Room k A) {s : Shared} {H : Hp} (e0 : Env0 P w K mg base A outer s H) (hx : Ex G H) :
    ∀ (xs : List V) (us : List Value) (ts : List Str) (acc : Array Str) (n : Nat) (y : Shared) (F : Hp) (Q : (Array Str × Nat) → Shared → Prop), Vals xs us → All2 (Shows P w K mg base outer k as G) xs ts → n + piled ts ≤ sizeLine → Stp P w outer s H y F →
      (∀ z F', Stp P w outer s H z F' → Q ⟨acc ++ ts.toArray, n + piled ts⟩ z) → wpAny (model P w) A (forIn us (⟨acc, n⟩ : (Array Str × Nat)) tupBody) Q E y := by
  intro xs
  induction xs with
  | nil =>
    intro us ts acc n y F Q r hT _ st q
    cases r
    cases hT
    have := q y F st
    simp only [List.forIn_nil]
    exact wpAny_pure (by simpa [piled] using this)
  | cons x xs ih =>
    intro us ts acc n y F Q r hT hn st q
    cases r with
    | cons r1 r2 =>
      rename_i u us
      cases hT with
      | cons h1 h2 =>
        rename_i t ts
        rw [piled_cons] at hn
        rw [List.forIn_cons]
        refine wpAny_bind (wpAny_bind (h1 (n + 1) (by omega) _ _ _ _ F _ u hg hcl hr (st.env e0 top) (hx.trans st.ex) r1 fun z F' st' => wpAny_pure ?_))
        refine ih us ts (acc.push t) (n + (t.length + 2)) z F' Q r2 h2 (by omega) (st.trans st') fun z2 F2 st2 => ?_
        have := q z2 F2 st2
        rw [show n + piled (t :: ts) = n + (t.length + 2) + piled ts from by rw [piled_cons]; omega] at this
        simpa using this
/-- tuple.__repr__, at any of its two names -/
theorem tuple_at {s : Shared} {H : Hp} {R : Result → Shared → Prop} {id : String} {rest : List Value} (hh : Held1 (.builtin id ⟨.ref a :: rest, []⟩)) (top : ∃ L ∈ frs outer, base.objs.size ≤ L) (hg : A.guards = some g) (hcl : ∀ b ∈ a :: as, Clear g b) (hr : Room (k + 1) A) (hna : a ∉ as)
    (hT : All2 (Shows P w K mg base outer k as G) xs ts) (hsz : n + (tupleText ts).length ≤ sizeLine)
    (e0 : Env0 P w K mg base A outer s H) (hx : Ex G H) (ha : G a = some (.tup xs)) (hR : ∀ z F u, Stp P w outer s H z F → R (.ok (.ret (.str (tupleText ts) u))) z) :
    wpOwn (model P w) A (.builtin id ⟨.ref a :: rest, []⟩) (Builtin.tupleReprAt n ⟨[.ref a], []⟩) (fun fin z => match fin with | .done f => R (.ok f) z | .again c' => c'.quiet = true ∧ codeAny (model P w) A c' R z) (fun e z => R (.error e) z) s := by
  obtain ⟨us, rv, o, m, h1, h2, h3⟩ := tup_at e0.hok (hx _ _ ha)
  have mine : Clear g a := hcl a (.head _)
  have hlen : ts.length = us.length := by rw [← hT.len, rv.length]
  have hp := piled_le_tupleText ts
  have fit : (tupleText ts).length ≤ sizeLine := by omega
  rw [tuple_repr_tree, tupleReprUnderWay_eq]
  refine wpOwn_bind (wpOwn_stackTailAny hg (tupGuardF_off _) (tupGuardF_pos _) ?_)
  have hn : (g.any fun c => tupGuardF (.ref a) (c, default)) = false := by
    rw [List.any_eq_false]
    intro c hc
    rw [tupGuardF_of_clear mine c hc]
    exact Bool.false_ne_true
  rw [hn]
  refine wpOwn_of_wpAny ?_
  show wpAny _ _ (tupleReprRest n (.ref a)) _ _ s
  unfold tupleReprRest Builtin.Tuple.tupleItemsOf
  refine wpAny_bind (wpAny_bind (wpAny_seqItems h1 h3 (wpAny_pure ?_)))
  rw [← Array.forIn_toList]
  refine wpAny_bind (fold_shows top (hh.gds hg) (fun b hb => (hcl b (.tail _ hb)).cons (a := a) fun e => hna (e ▸ hb)) (hh.room hr) (hh.env e0) hx xs us ts #[] n s H _ rv hT (by omega) (Stp.rfl e0.hok e0.bare) fun z F st => ?_)
  refine wpAny_bind (wpAny_mkStr (wpAny_pure ?_) (by simpa [tupleText, hlen] using fit))
  have := hR _ F z.toks (st.tk (z.toks + 1))
  simpa [tupleText, hlen] using this
theorem Shows.tuple (top : ∃ L ∈ frs outer, base.objs.size ≤ L) (hna : a ∉ as) (ha : G a = some (.tup xs)) (hT : All2 (Shows P w K mg base outer k as G) xs ts) : Shows P w K mg base outer (k + 1) (a :: as) G (.ref a) (tupleText ts) := by
  intro n hn A g E s H Q u hg hc hr he ex r q
  obtain rfl : u = Value.ref a := r
  obtain ⟨us, rv, o, m, h1, h2, h3⟩ := tup_at he.hok (ex _ _ ha)
  have ty : s.TypeIs (.ref a) "tuple" := ⟨_, h1, h2⟩
  refine wpAny_pyReprUnder_ref (by omega) ?_
  refine wpAny_pyReprObjUnder_twin (twin := "tuple.__repr__.under") ty PySem.F.slot_tuple_repr rfl hr.units0 ?_
  refine call_twin_own (PySem.F.quiet_tuple_repr_under _) PySem.F.entry_tuple_repr_under PySem.F.check_tuple_repr_under ty PySem.F.slot_tuple_repr (PySem.F.args_tuple_repr_1 _) ?_
  exact tuple_at (R := callEnd _ E) (held_tupU _) top hg hc hr hna hT hn he ex ha fun z F u st => ⟨⟨_, _, rfl⟩, _, _, rfl, q z F st⟩
/-- repr(a tuple) -/
theorem call_tuple_shows (top : ∃ L ∈ frs outer, base.objs.size ≤ L) (hna : a ∉ as) (ha : G a = some (.tup xs)) (hT : All2 (Shows P w K mg base outer k as G) xs ts)
    (hsz : (tupleText ts).length ≤ sizeLine) {E : Value → Shared → Prop} {s : Shared} {H : Hp} {Q : Value → Shared → Prop} (hg : A.guards = some []) (hr : Room (k + 2) A) (he : Env0 P w K mg base A outer s H) (ex : Ex G H)
    (q : ∀ z F u, Stp P w outer s H z F → Q (.str (tupleText ts) u) z) : wpAny (model P w) A (call (.builtin "repr") [.ref a]) Q E s := by
  obtain ⟨us, rv, o, m, h1, h2, h3⟩ := tup_at he.hok (ex _ _ ha)
  have ty : s.TypeIs (.ref a) "tuple" := ⟨_, h1, h2⟩
  refine call_repr_slot (by have := hr.units; omega) ty PySem.F.slot_tuple_repr ?_
  refine wpAny_call (codeAny_call_builtin_own (Code.quiet_builtin _ (by decide +kernel)) PySem.F.entry_tuple_repr (PySem.F.slot_tuple_repr.check _ _ _ _ _ _ _ _ ty (PySem.F.args_tuple_repr_1 _) ?_))
  exact tuple_at (n := 0) (A := A.in1) (R := callEnd _ E) (held_tup _) top hg (fun b _ => Clear.nil b) hr.in1 hna hT (by omega) he.in1 ex ha fun z F u st => ⟨_, _, rfl, q z F u st⟩
/-- a list, by what its items are shown as -/
theorem Shows.lst (top : ∃ L ∈ frs outer, base.objs.size ≤ L) (hna : a ∉ as) (hne : xs ≠ []) (ha : G a = some (.lst xs)) (hT : All2 (Shows P w K mg base outer k as G) xs ts) : Shows P w K mg base outer (k + 1) (a :: as) G (.ref a) (listText ts) :=
  Shows.list top hna hT.len.symm hne ha fun i x hx => hT.get hx
/-! ### what is known, at the top of a def -/
/-- repr(x) is t, wherever all of G is still known -/
def Top (X : Cx) (G : Hp) (x : V) (t : Str) : Prop := ∀ (pins : List (Addr × Obj)) (s : Shared) (σ : L2.St) (H : Hp) (u : Value) (Q : VK), Inv X pins σ H s → Ex G H → RelV x u → (∀ F, Ex H F → Q (.str t) F) → wpAny (model X.prog X.w) X.A (call (.builtin "repr") [u]) (EP X pins σ Q) X.xe s
/-- a body's own frame stands above the base -/
structure Own0 (X : Cx) : Prop where
  stk : X.stack = X.env :: X.outer
  fr : X.env.frame = some X.env.locals
  gd : X.A.guards = some []
theorem Own0.top {X : Cx} (o : Own0 X) (ok : X.Ok) : ∃ L ∈ frs X.stack, X.base.objs.size ≤ L :=
  ⟨X.env.locals, by rw [o.stk]; unfold frs; rw [List.filterMap_cons, o.fr]; exact List.mem_cons_self, Nat.le_trans ok.bsz ok.above⟩
theorem ep_of {X : Cx} {pins : List (Addr × Obj)} {s z : Shared} {σ : L2.St} {H F : Hp} {Q : VK} {t : Str} {u : Tok} (I : Inv X pins σ H s) (st : Stp X.prog X.w X.stack s H z F) (q : Q (.str t) F) : EP X pins σ Q (.str t u) z :=
  I.after ⟨.str t, F, st.os, st.bare, st.un, st.hok, ⟨u, rfl⟩, q⟩
theorem Top.list {X : Cx} (o : Own0 X) (hr : Room (k + 2) X.A) (hna : a ∉ as) (hne : xs ≠ []) (ha : G a = some (.lst xs)) (hT : (∃ L ∈ frs X.stack, X.base.objs.size ≤ L) → All2 (Shows X.prog X.w X.K X.mg X.base X.stack k as G) xs ts) (hsz : (listText ts).length ≤ sizeLine) : Top X G (.ref a) (listText ts) := by
  intro pins s σ H u Q I ex r q
  obtain rfl : u = Value.ref a := r
  have hT := hT (o.top I.ok)
  exact call_list_shows (o.top I.ok) hna hT.len.symm hne ha (fun i x hx => hT.get hx) hsz o.gd hr I.env0 ex fun z F u st => ep_of I st (q F st.ex)
theorem Top.tuple {X : Cx} (o : Own0 X) (hr : Room (k + 2) X.A) (hna : a ∉ as) (ha : G a = some (.tup xs)) (hT : (∃ L ∈ frs X.stack, X.base.objs.size ≤ L) → All2 (Shows X.prog X.w X.K X.mg X.base X.stack k as G) xs ts) (hsz : (tupleText ts).length ≤ sizeLine) : Top X G (.ref a) (tupleText ts) := by
  intro pins s σ H u Q I ex r q
  obtain rfl : u = Value.ref a := r
  exact call_tuple_shows (o.top I.ok) hna ha (hT (o.top I.ok)) hsz o.gd hr I.env0 ex fun z F u st => ep_of I st (q F st.ex)
theorem Top.non {X : Cx} (G : Hp) : Top X G .non "None" := by
  intro pins s σ H u Q I ex r q
  obtain rfl : u = Value.none := r
  exact PySem.P.repr_of_none ⟨.str "None", H, I.tok _, ⟨_, rfl⟩, q H Ex.rfl⟩
def boolText (b : Bool) : Str := if b then "True" else "False"
theorem Top.bl {X : Cx} (G : Hp) (b : Bool) : Top X G (.bl b) (boolText b) := by
  intro pins s σ H u Q I ex r q
  obtain rfl : u = Value.bool b := r
  refine PySem.P.repr_of_bool ⟨.str (boolText b), H, I.tok _, ⟨s.toks, ?_⟩, q H Ex.rfl⟩
  cases b <;> rfl
/-- repr(e), as a call's rule -/
def rRepr (X : Cx) : List V → Hp → VK → Prop := fun vs H Q => ∃ x t G, vs = [x] ∧ Ex G H ∧ Top X G x t ∧ ∀ F, Ex H F → Q (.str t) F
theorem call_repr (X : Cx) : CallR X (.builtin "repr") (rRepr X) := by
  intro pins s σ H vs us Q I r h
  obtain ⟨x, t, G, rfl, ex, top, q⟩ := h
  cases r with
  | cons r1 r2 =>
    cases r2
    exact top pins s σ H _ Q I ex r1 q
end
end On
set_option linter.all false
/-! How long the told lists' numbers may be. -/
namespace On
def nzc : List Rat → Nat
  | [] => 0
  | a :: l => (if a = 0 then 0 else 1) + nzc l
theorem sz_dot_nz {E : Nat} : ∀ {r x : List Rat}, (∀ q ∈ r, sz q ≤ 2 ^ E) → sz (dot r x) ≤ 2 ^ (E * nzc x) * szL x
  | [], x, _ => by
    rw [dot_nil, sz_zero]
    exact Nat.mul_pos (Nat.pow_pos (by decide)) (szL_pos x)
  | a :: r, [], _ => by
    rw [dot_nil2, sz_zero]
    exact Nat.mul_pos (Nat.pow_pos (by decide)) (szL_pos [])
  | a :: r, b :: x, h => by
    have ih := sz_dot_nz (r := r) (x := x) fun q hq => h q (List.mem_cons_of_mem _ hq)
    rw [dot_cons]
    show sz (a * b + dot r x) ≤ 2 ^ (E * ((if b = 0 then 0 else 1) + nzc x)) * (sz b * szL x)
    by_cases hb : b = 0
    · rw [if_pos hb, hb, Rat.mul_zero, Rat.zero_add, sz_zero, Nat.zero_add, Nat.one_mul]
      exact ih
    · rw [if_neg hb]
      have h1 : sz (a * b) ≤ 2 ^ E * sz b := Nat.le_trans (sz_mul a b) (Nat.mul_le_mul_right _ (h a List.mem_cons_self))
      refine Nat.le_trans (Nat.le_trans (sz_add _ _) (Nat.mul_le_mul h1 ih)) (Nat.le_of_eq ?_)
      rw [Nat.mul_add, Nat.mul_one, Nat.pow_add]
      rw [Nat.mul_assoc, Nat.mul_assoc (2 ^ E), Nat.mul_left_comm (sz b)]
theorem nzc_set : ∀ {l : List Rat} {i : Nat} {v : Rat}, nzc (l.set i v) ≤ nzc l + 1
  | [], i, v => Nat.zero_le _
  | a :: l, 0, v => by
    show (if v = 0 then 0 else 1) + nzc l ≤ (if a = 0 then 0 else 1) + nzc l + 1
    split <;> split <;> omega
  | a :: l, i + 1, v => by
    have := nzc_set (l := l) (i := i) (v := v)
    show (if a = 0 then 0 else 1) + nzc (l.set i v) ≤ (if a = 0 then 0 else 1) + nzc l + 1
    omega
theorem nzc_zeros (r : List Rat) : nzc (zerosOf r) = 0 := by
  induction r with
  | nil => rfl
  | cons a r ih =>
    show (if (0 : Rat) = 0 then 0 else 1) + nzc (zerosOf r) = 0
    rw [if_pos rfl, ih]
def back2 (E : Nat) : Nat → Nat
  | 0 => 0
  | j + 1 => 2 * back2 E j + (2 + j) * E
theorem back2_le (E : Nat) : ∀ {j : Nat}, j ≤ 4 → back2 E j ≤ 41 * E := fun {j} hj => by
  match j, hj with
  | 0, _ => exact Nat.zero_le _
  | 1, _ => show 2 * 0 + (2 + 0) * E ≤ _; omega
  | 2, _ => show 2 * (2 * 0 + (2 + 0) * E) + (2 + 1) * E ≤ _; omega
  | 3, _ => show 2 * (2 * (2 * 0 + (2 + 0) * E) + (2 + 1) * E) + (2 + 2) * E ≤ _; omega
  | 4, _ => show 2 * (2 * (2 * (2 * 0 + (2 + 0) * E) + (2 + 1) * E) + (2 + 2) * E) + (2 + 3) * E ≤ _; omega
theorem last_sz {r : List Rat} {n E : Nat} (hr : r.length = n + 1) (h : ∀ q ∈ r, sz q ≤ 2 ^ E) : sz (lastOf r) ≤ 2 ^ E := by
  unfold lastOf
  rw [getD_at (List.getElem?_eq_getElem (by omega))]
  exact h _ (List.getElem_mem _)
theorem piv_sz {r : List Rat} {E i : Nat} (h : ∀ q ∈ r, sz q ≤ 2 ^ E) : sz (r.getD i 0) ≤ 2 ^ E := by
  by_cases hi : i < r.length
  · rw [getD_at (List.getElem?_eq_getElem hi)]
    exact h _ (List.getElem_mem _)
  · rw [List.getD_eq_getElem?_getD, List.getElem?_eq_none (by omega)]
    show sz 0 ≤ _
    rw [sz_zero]
    exact Nat.one_le_two_pow
theorem back_sz2 {n E j s : Nat} {z : List Rat × Nat} {x : List Rat} (h1 : z.1.length = n + 1) (h2 : ∀ q ∈ z.1, sz q ≤ 2 ^ E) (h3 : z.1.getD z.2 0 ≠ 0) (hj : nzc x ≤ j) (hs : szL x ≤ 2 ^ s) : nzc (backStep x z) ≤ j + 1 ∧ szL (backStep x z) ≤ 2 ^ (2 * s + (2 + j) * E) := by
  refine ⟨Nat.le_trans nzc_set (by omega), ?_⟩
  have hd : sz (dot z.1.dropLast x) ≤ 2 ^ (E * j) * 2 ^ s := Nat.le_trans (sz_dot_nz fun q hq => h2 q (List.dropLast_subset _ hq)) (Nat.mul_le_mul (pow_le2 (Nat.mul_le_mul_left _ hj)) hs)
  have hv : sz ((lastOf z.1 - dot z.1.dropLast x) / z.1.getD z.2 0) ≤ (2 ^ E * (2 ^ (E * j) * 2 ^ s)) * 2 ^ E :=
    Nat.le_trans (sz_div _ _ h3) (Nat.mul_le_mul (Nat.le_trans (sz_sub _ _) (Nat.mul_le_mul (last_sz h1 h2) hd)) (piv_sz h2))
  refine Nat.le_trans (Nat.le_trans szL_set (Nat.mul_le_mul hs hv)) (Nat.le_of_eq ?_)
  rw [← Nat.pow_add, ← Nat.pow_add, ← Nat.pow_add, ← Nat.pow_add]
  congr 1
  rw [Nat.add_mul, Nat.mul_comm E j]
  omega
theorem backFrom2 {n E : Nat} : ∀ {l : List (List Rat × Nat)} {j : Nat} {x : List Rat}, (∀ z ∈ l, z.1.length = n + 1 ∧ (∀ q ∈ z.1, sz q ≤ 2 ^ E) ∧ z.1.getD z.2 0 ≠ 0) → nzc x ≤ j → szL x ≤ 2 ^ back2 E j → szL (backFrom l x) ≤ 2 ^ back2 E (j + l.length)
  | [], j, x, _, _, hx => hx
  | z :: l, j, x, h, hj, hx => by
    obtain ⟨h1, h2, h3⟩ := h z List.mem_cons_self
    obtain ⟨k1, k2⟩ := back_sz2 h1 h2 h3 hj hx
    have := backFrom2 (l := l) (j := j + 1) (x := backStep x z) (fun z hz => h z (List.mem_cons_of_mem _ hz)) k1 k2
    rw [show j + (z :: l).length = j + 1 + l.length from by rw [List.length_cons]; omega]
    exact this
theorem with_sz2 {n e : Nat} {fs : List (List Rat)} {vs : List Rat} (h : Ents n e fs) (hv : ∀ v ∈ vs, sz v ≤ 2 ^ e) (hl : vs.length = fs.length) (h4 : fs.length ≤ 4) (g : Good n fs vs) : szL (withList fs vs) ≤ 2 ^ (2624 * e) := by
  have h0 : szL (zerosOf (fs.getD 0 [])) ≤ 2 ^ back2 (64 * e) 0 := by rw [zeros_sz]; exact Nat.one_le_two_pow
  have := backFrom2 (j := 0) (pairs_ok h hv hl h4 g) (by rw [nzc_zeros]; exact Nat.le_refl _) h0
  rw [Nat.zero_add] at this
  refine Nat.le_trans this (pow_le2 ?_)
  have := back2_le (64 * e) (pairs_len hl h4)
  omega
/-- the told lists: their lengths, their numbers' sizes -/
structure ToldFit (n : Nat) (o : Option (List Rat × List Rat)) : Prop where
  n1 : 1 ≤ n
  n4 : n ≤ 4
  is : ∀ x y, o = some (x, y) → x.length = n ∧ y.length = n ∧ szL x ≤ 2 ^ 4030464 ∧ szL y ≤ 2 ^ 4030464
theorem told_fit {n : Nat} {m : List (List Rat)} (K : Known n m) (hy : Sym m) (h : Ents n 24 m) : ToldFit n (twoAbove m) := by
  refine ⟨K.n1, K.n4, fun x y e => ?_⟩
  obtain ⟨l1, l2, _⟩ := two_shows K e
  obtain ⟨fe, fl⟩ := forms_ok K.sq hy K.n4 (by decide) h
  have f4 : (formsOf m).length ≤ 4 := Nat.le_trans fl K.n4
  have hF := found_all K
  have key : ∀ p ∈ (abovesOf m).take 2, szL (withList (formsOf m) (unitAt (formsOf m).length p)) ≤ 2 ^ 4030464 := fun p hp =>
    Nat.le_trans (with_sz2 fe (fun v hv => unitAt_sz (by decide) v hv) (unitAt_len _ _) f4 (hF p hp)) (pow_le2 (by omega))
  unfold twoAbove aboveLists at e
  generalize abovesOf m = ps at *
  match ps with
  | [] => cases e
  | [p] => cases e
  | p :: q :: ps =>
    have e := Option.some.inj e
    have e1 : withList (formsOf m) (unitAt (formsOf m).length p) = x := (Prod.mk.inj e).1
    have e2 : withList (formsOf m) (unitAt (formsOf m).length q) = y := (Prod.mk.inj e).2
    refine ⟨l1, l2, ?_, ?_⟩
    · rw [← e1]
      exact key p (by simp)
    · rw [← e2]
      exact key q (by simp)
/-! ### the digits -/
def lg (q : Rat) : Nat := q.num.natAbs.log2 + q.den.log2
def lgL : List Rat → Nat
  | [] => 0
  | q :: l => lg q + lgL l
theorem log_le (a b : Nat) (h : a ≤ b) (hb : 0 < b) : 2 ^ a.log2 ≤ b := by
  by_cases ha : a = 0
  · subst ha
    exact hb
  · exact Nat.le_trans (Nat.log2_self_le ha) h
theorem lg_le (q : Rat) : 2 ^ lg q ≤ sz q * sz q := by
  unfold lg
  rw [Nat.pow_add]
  have := sz_pos q
  exact Nat.mul_le_mul (log_le _ _ (by unfold sz; omega) this) (log_le _ _ (by unfold sz; omega) this)
theorem lgL_le : ∀ l : List Rat, 2 ^ lgL l ≤ szL l * szL l
  | [] => Nat.le_refl _
  | q :: l => by
    show 2 ^ (lg q + lgL l) ≤ sz q * szL l * (sz q * szL l)
    rw [Nat.pow_add]
    refine Nat.le_trans (Nat.mul_le_mul (lg_le q) (lgL_le l)) (Nat.le_of_eq ?_)
    rw [Nat.mul_assoc, Nat.mul_assoc, Nat.mul_left_comm (szL l)]
theorem lgL_fit {l : List Rat} {B : Nat} (h : szL l ≤ 2 ^ B) : lgL l ≤ 2 * B := by
  have h1 : 2 ^ lgL l ≤ 2 ^ (2 * B) := by
    refine Nat.le_trans (lgL_le l) (Nat.le_trans (Nat.mul_le_mul h h) (Nat.le_of_eq ?_))
    rw [← Nat.pow_add, Nat.two_mul]
  exact (Nat.pow_le_pow_iff_right (by decide)).mp h1
theorem lg_mem {q : Rat} : ∀ {l : List Rat}, q ∈ l → lg q ≤ lgL l
  | a :: l, h => by
    rcases List.mem_cons.mp h with rfl | h
    · exact Nat.le_add_right _ _
    · exact Nat.le_trans (lg_mem h) (Nat.le_add_left _ _)
end On
set_option Elab.async false
set_option linter.all false
set_option maxRecDepth 100000
set_option maxHeartbeats 4000000
/-! digits_of, Ratio.__repr__: some text, by the number alone. -/
namespace On
open PySem PySem.Spec PyProof.Rows L2
/-! ### the text -/
def PARTN : Nat := 10 ^ 60
theorem part_pos : 0 < PARTN := Nat.pow_pos (by decide)
def chunk (n : Nat) : Str := cutS ((toString (((n % PARTN : Nat) : Int) + (PARTN : Int)) : String) : Str) (some 1) none
def digs (n : Nat) (t : Str) : Nat × Str := if h : PARTN ≤ n then digs (n / PARTN) ((Str.empty ++ chunk n) ++ t) else (n, t)
termination_by n
decreasing_by exact Nat.div_lt_self (Nat.lt_of_lt_of_le part_pos h) (by unfold PARTN; decide)
def signTxt (i : Int) : Str := if i < 0 then ("-" : String) else ("" : String)
def dig (i : Int) : Str := ((Str.empty ++ signTxt i) ++ ((toString ((digs i.natAbs "").1 : Int) : String) : Str)) ++ (digs i.natAbs "").2
theorem digs_more {n : Nat} {t : Str} (h : PARTN ≤ n) : digs n t = digs (n / PARTN) ((Str.empty ++ chunk n) ++ t) := by
  rw [digs, dif_pos h]
theorem digs_end {n : Nat} {t : Str} (h : ¬ PARTN ≤ n) : digs n t = (n, t) := by
  rw [digs, dif_neg h]
theorem log_div {n : Nat} (h : PARTN ≤ n) : (n / PARTN).log2 + 199 ≤ n.log2 := by
  have hp : 2 ^ 199 ≤ PARTN := by unfold PARTN; decide
  have hn : n ≠ 0 := by have := part_pos; omega
  have hq : n / PARTN ≠ 0 := by
    have := Nat.div_pos h part_pos
    omega
  rw [Nat.le_log2 hn, Nat.pow_add]
  have h1 : 2 ^ (n / PARTN).log2 ≤ n / PARTN := Nat.log2_self_le hq
  calc 2 ^ (n / PARTN).log2 * 2 ^ 199 ≤ n / PARTN * PARTN := Nat.mul_le_mul h1 hp
    _ ≤ n := Nat.div_mul_le_self _ _
theorem small_txt {i : Int} (h0 : 0 ≤ i) (h : i < 10 ^ 61) : ((toString i : String) : Str).length ≤ 61 := toString_length_le h0 (by decide) h
theorem small_log {i : Int} (h0 : 0 ≤ i) (h : i < 10 ^ 61) : i.natAbs.log2 < 1920 := by
  by_cases hz : i.natAbs = 0
  · rw [hz]; decide
  · rw [Nat.log2_lt hz]
    have h1 : i.natAbs < 10 ^ 61 := by omega
    exact Nat.lt_of_lt_of_le h1 (by decide)
theorem part_lt (n : Nat) : 0 ≤ ((n % PARTN : Nat) : Int) + (PARTN : Int) ∧ ((n % PARTN : Nat) : Int) + (PARTN : Int) < 10 ^ 61 := by
  have h1 := Nat.mod_lt n part_pos
  have e : (10 : Int) ^ 61 = ((10 ^ 61 : Nat) : Int) := by decide
  have h2 : PARTN + PARTN ≤ 10 ^ 61 := by unfold PARTN; decide
  rw [e]
  omega
theorem chunk_len (n : Nat) : (chunk n).length ≤ 61 := Nat.le_trans (cutS_length _ _ _) (small_txt (part_lt n).1 (part_lt n).2)
theorem len_cat (a b : Str) : (a ++ b).length = a.length + b.length := strLen_append a b
theorem len_empty : Str.empty.length = 0 := rfl
theorem digs_len : ∀ (n : Nat) (t : Str), 199 * (digs n t).2.length ≤ 199 * t.length + 61 * n.log2 ∧ (digs n t).1 < PARTN := fun n => by
  induction n using Nat.strongRecOn with
  | ind n ih =>
    intro t
    by_cases h : PARTN ≤ n
    · rw [digs_more h]
      have hl : n / PARTN < n := Nat.div_lt_self (Nat.lt_of_lt_of_le part_pos h) (by unfold PARTN; decide)
      obtain ⟨h1, h2⟩ := ih (n / PARTN) hl ((Str.empty ++ chunk n) ++ t)
      refine ⟨?_, h2⟩
      have h3 := log_div h
      have h4 := chunk_len n
      rw [len_cat, len_cat, len_empty] at h1
      omega
    · rw [digs_end h]
      exact ⟨by show 199 * t.length ≤ _; omega, by show n < PARTN; omega⟩
theorem len_none : ((("" : String) : Str)).length = 0 := by decide
theorem sign_len (i : Int) : (signTxt i).length ≤ 1 := by
  unfold signTxt
  split
  · exact Nat.le_of_eq (by decide)
  · exact Nat.le_trans (Nat.le_of_eq len_none) (by decide)
theorem dig_len (i : Int) : 199 * (dig i).length ≤ 61 * i.natAbs.log2 + 199 * 62 := by
  obtain ⟨h1, h2⟩ := digs_len i.natAbs ""
  have h3 := sign_len i
  have h4 : ((toString ((digs i.natAbs "").1 : Int) : String) : Str).length ≤ 61 := small_txt (by omega) (by
    have e : (10 : Int) ^ 61 = ((10 ^ 61 : Nat) : Int) := by decide
    have h5 : PARTN ≤ 10 ^ 61 := by unfold PARTN; decide
    rw [e]
    omega)
  rw [len_none] at h1
  unfold dig
  rw [len_cat, len_cat, len_cat, len_empty]
  omega
def digFit (i : Int) : Prop := i.natAbs.log2 ≤ 50000000
theorem dig_fits {i : Int} (h : digFit i) : (dig i).length ≤ 15400000 := by
  have := dig_len i
  have h : i.natAbs.log2 ≤ 50000000 := h
  omega
/-- a Ratio's text -/
def rtx (q : Rat) : Str := ((((Str.empty ++ ("Ratio(" : String)) ++ dig q.num) ++ (", " : String)) ++ dig (q.den : Int)) ++ (")" : String)
theorem rtx_len (q : Rat) : 199 * (rtx q).length ≤ 61 * (q.num.natAbs.log2 + q.den.log2) + 199 * 140 := by
  have h1 := dig_len q.num
  have h2 := dig_len (q.den : Int)
  have e : (q.den : Int).natAbs = q.den := Int.natAbs_natCast _
  rw [e] at h2
  have c1 : ((("Ratio(" : String) : Str)).length = 6 := by decide
  have c2 : (((", " : String) : Str)).length = 2 := by decide
  have c3 : (((")" : String) : Str)).length = 1 := by decide
  unfold rtx
  rw [len_cat, len_cat, len_cat, len_cat, len_cat, c1, c2, c3, len_empty]
  omega
/-! ### readings of f-strings -/
section
variable {σ : L2.St} {H H1 G0 G : Hp} {te ta tb : TE} {y z : Str} {i : Int}
theorem ev_fmtS (h : Ev te σ H (isV (.str y))) (hy : y.length ≤ sizeLine) : Ev (tFmt te) σ H (isV (.str y)) := fun H1 e Q q => h H1 e _ fun v G H2 g ev => .inl ⟨y, ev, hy, q _ G H2 g rfl⟩
theorem ev_fmtI (h : Ev te σ H (isV (.int i))) (hi : i.natAbs.log2 < 1920) : Ev (tFmt te) σ H (isV (.str ((toString i : String) : Str))) := fun H1 e Q q => h H1 e _ fun v G H2 g ev => .inr ⟨i, ev, hi, q _ G H2 g rfl⟩
/-- the parts one behind the other -/
theorem ev_js : ∀ {ts : List TE} {ys : List Str} {acc : Str}, All2 (fun t y => Ev t σ H (isV (.str y))) ts ys → (ys.foldl (· ++ ·) acc).length ≤ sizeLine → ∀ H1, Ex H H1 → ∀ Q : Str → Hp → Prop, (∀ H2, Ex H1 H2 → Q (ys.foldl (· ++ ·) acc) H2) → tJs ts acc σ H1 Q
  | [], [], acc, _, _, H1, e, Q, q => q H1 Ex.rfl
  | t :: ts, y :: ys, acc, h, hz, H1, e, Q, q => by
    cases h with
    | cons h1 h2 =>
      refine h1 H1 e _ fun v G H2 g ev => ⟨y, ev, ?_, ?_⟩
      · refine Nat.le_trans ?_ hz
        have mono : ∀ (ys : List Str) (a : Str), a.length ≤ (ys.foldl (· ++ ·) a).length := fun ys => by
          induction ys with
          | nil => exact fun a => Nat.le_refl _
          | cons y ys ih =>
            intro a
            refine Nat.le_trans ?_ (ih (a ++ y))
            rw [len_cat]
            omega
        exact mono ys (acc ++ y)
      · exact ev_js h2 hz H2 (e.trans g.ol) Q fun H3 e3 => q H3 (g.ol.trans e3)
theorem ev_joined {ts : List TE} {ys : List Str} (h : All2 (fun t y => Ev t σ H (isV (.str y))) ts ys) (hz : (ys.foldl (· ++ ·) Str.empty).length ≤ sizeLine) :
    Ev (fun σ H Q => tJs ts Str.empty σ H fun out H1 => Q (.str out) H1) σ H (isV (.str (ys.foldl (· ++ ·) Str.empty))) := fun H1 e Q q =>
  ev_js h hz H1 e _ fun H2 e2 => q _ H H2 ((Grow.rfl e).more e2) rfl
theorem ev_cut {lo : Int} (h : Ev te σ H (isV (.str y))) (hy : y.length ≤ sizeLine) : Ev (tSl rSlS te (tPart (tC (.int lo))) tNoPart) σ H (isV (.str (cutS y (some lo) none))) := fun H1 e Q q =>
  h H1 e _ fun v G H2 g ev => ⟨lo, rfl, y, ev, hy, q _ G H2 g rfl⟩
theorem ev_strI (h : Ev te σ H (isV (.int i))) (hi : i.natAbs.log2 < 1920) : Ev (tCB (fun xs H Q => ∃ i, xs = [.int i] ∧ i.natAbs.log2 < 1920 ∧ Q (.str (toString i)) H) (tCons te tNil)) σ H (isV (.str ((toString i : String) : Str))) := fun H1 e Q q =>
  h H1 e _ fun v G H2 g ev => ⟨i, by rw [show v = .int i from ev], hi, q _ G H2 g rfl⟩
end
section
variable {P : Program} {w : World} {K : PySem.W.Frag} {mg : Str → Option Value} {base : Heap} {C : Addr}
def spDig : Sp := Pu (γ := Int) (fun i vs _ => vs = [.int i] ∧ digFit i) fun i _ v _ => v = .str (dig i)
theorem c_digits_of (T : Txt P w K mg base C) : C8.Cal P w K mg base 35 "digits_of" spDig [] := by
  refine cal_by T.d_digits_of sc_digits_of (fun _ _ _ _ _ _ us hl => match us, hl with | [_], _ => rfl) (len1 fun g vs H ⟨e, _⟩ => by rw [e] <;> rfl) fun f cdv A outer s H vs Q E hr h => ?_
  obtain ⟨i, G, e, ⟨rfl, hf⟩, q⟩ := h
  have hf : i.natAbs.log2 ≤ 50000000 := hf
  have py : Pyl (cxOf CX0 P w K mg base N_digits_of "digits_of" (defScope s_digits_of) f cdv A outer s H E).nox :=
    ⟨T.seer, T.tree, by have := hr.dp; show (A.deeper _).depth + 100 < _; omega, _, _, rfl, sc_digits_of.gen, sc_digits_of.co, rfl, rfl⟩
  refine ⟨_, (pss_cons (ps_par (i := 1) (j := 2) rfl sc_digits_of.nd rfl rfl (by decide) rfl rfl (pa_cons (pe_ifExp (pt_cmpR op_ge (pv 0) pe_int (nomark _)) (pv 0) (pe_op op_sub pe_int (pv 0))) (pa_cons pe_str pa_nil)) (by rfl)) (pss_cons (ps_while PassesOwn.never (pt_cmpR op_ge (pv 1) (pe_gc rfl T.g_PART) (nomark _)) (pss_cons (ps_set (i := 3) sc_digits_of.nd rfl (by first | exact Or.inl rfl | exact Or.inr rfl) (pe_op op_add (pe_op op_mod (pe_callTy call_int1 (by rfl) T.n_int bo_int (pa_cons (pv 1) pa_nil)) (pe_gc rfl T.g_PART)) (pe_gc rfl T.g_PART))) (pss_cons (ps_set (i := 2) sc_digits_of.nd rfl (by first | exact Or.inl rfl | exact Or.inr rfl) (pe_joined (PJ.cons (pe_fmt (pe_slice sl_str (pe_callTy call_str_int (by rfl) T.n_str bo_str (pa_cons (pv 3) pa_nil)) (po_some pe_int) po_none)) (PJ.cons (pe_fmt (pv 2)) PJ.nil)))) (pss_one (ps_set (i := 1) sc_digits_of.nd rfl (by first | exact Or.inl rfl | exact Or.inr rfl) (pe_op (op_fdivX py) (pv 1) (pe_gc rfl T.g_PART))))))) (pss_cons (ps_set (i := 4) sc_digits_of.nd rfl (by first | exact Or.inl rfl | exact Or.inr rfl) (pe_ifExp (pt_cmpR op_lt (pv 0) pe_int (nomark _)) pe_str pe_str)) (pss_one (ps_ret (pe_joined (PJ.cons (pe_fmt (pv 4)) (PJ.cons (pe_fmt (pv 1)) (PJ.cons (pe_fmt (pv 2)) PJ.nil))))))))), ?_⟩
  have pn : ((10 ^ 60 : Int)) = ((PARTN : Nat) : Int) := by unfold PARTN; decide
  refine q_par up_isV up_isV (x := .int (i.natAbs : Int)) (y := .str "") (Grow.rfl e) (ev_if (et_test (ev_int0 (ev_var rfl) ev_c)) (fun hb => ?_) (fun hb => ?_)) ev_c fun v w' G1 H1 g1 ev ew => ?_
  · have : (i.natAbs : Int) = i := by have := of_decide_eq_true hb; omega
    rw [this]
    exact ev_var rfl
  · have : (i.natAbs : Int) = 0 - i := by have := of_decide_eq_false hb; omega
    rw [this]
    exact ev_int0 ev_c (ev_var rfl)
  subst ev
  subst ew
  refine q_while (fun m σ _ _ => ∃ t o3, σ = [some (.int i), some (.int (m : Int)), some (.str t), o3, none] ∧ digs m t = digs i.natAbs "" ∧ 199 * t.length + 61 * m.log2 ≤ 61 * i.natAbs.log2) i.natAbs g1 ⟨"", none, rfl, rfl, by rw [len_none]; omega⟩ ?_
  rintro m σ G2 H2 g2 ⟨t, o3, rfl, hd, hl⟩
  have htl : t.length ≤ 15400000 := by omega
  refine ⟨decide ((m : Int) ≥ 10 ^ 60), et_test (ev_int0 (ev_var rfl) ev_c), fun hb H3 g3 _ N hN => ?_, fun hb H3 g3 _ => ?_⟩
  · have hm : PARTN ≤ m := by
      have := of_decide_eq_true hb
      rw [pn] at this
      omega
    have hlg := log_div hm
    have hcl := chunk_len m
    refine q_set g3 (P := isV (.int (((m % PARTN : Nat) : Int) + (PARTN : Int)))) ?_ fun v G4 H4 g4 ev => ?_
    · have : (((m % PARTN : Nat) : Int) + (PARTN : Int)) = (m : Int) % (10 ^ 60) + 10 ^ 60 := by rw [pn]; omega
      rw [this]
      exact ev_int0 (ev_int2 (C := fun _ j => 0 < j) (by decide) (ev_int1 (ev_var rfl)) ev_c) ev_c
    obtain rfl : v = _ := ev
    have pl := part_lt m
    refine q_set g4 (ev_joined (ys := [chunk m, t]) (.cons (ev_fmtS (ev_cut (ev_strI (ev_var rfl) (small_log pl.1 pl.2)) (Nat.le_trans (small_txt pl.1 pl.2) (by decide))) (Nat.le_trans hcl (by decide))) (.cons (ev_fmtS (ev_var rfl) (Nat.le_trans htl (by decide))) .nil)) (by
      show ((Str.empty ++ chunk m) ++ t).length ≤ _
      rw [len_cat, len_cat, len_empty, sizeLine_eq]
      omega)) fun v G5 H5 g5 ev => ?_
    obtain rfl : v = _ := ev
    refine s_set g5 (P := isV (.int ((m / PARTN : Nat) : Int))) ?_ fun v G6 H6 g6 ev => ?_
    · have : ((m / PARTN : Nat) : Int) = (m : Int).fdiv (10 ^ 60) := by
        rw [pn, Int.fdiv_eq_ediv_of_nonneg _ (by omega)]
        exact Int.natCast_ediv _ _
      rw [this]
      exact ev_int2 (C := fun _ j => j ≠ 0) (by decide) (ev_var rfl) ev_c
    obtain rfl : v = _ := ev
    refine hN (m / PARTN) _ G6 H6 (Nat.div_lt_self (Nat.lt_of_lt_of_le part_pos hm) (by unfold PARTN; decide)) g6 ⟨(Str.empty ++ chunk m) ++ t, _, rfl, ?_, ?_⟩
    · rw [← digs_more hm]
      exact hd
    · rw [len_cat, len_cat, len_empty]
      omega
  · have hm : ¬ PARTN ≤ m := by
      have := of_decide_eq_false hb
      rw [pn] at this
      omega
    have hm' : (m : Int) < 10 ^ 61 := by
      have e : (10 : Int) ^ 61 = ((10 ^ 61 : Nat) : Int) := by decide
      have h5 : PARTN ≤ 10 ^ 61 := by unfold PARTN; decide
      rw [e]
      omega
    have hdd : digs i.natAbs "" = (m, t) := by rw [← hd, digs_end hm]
    have hdl := dig_fits (i := i) hf
    refine q_set g3 (P := isV (.str (signTxt i))) ?_ fun v G4 H4 g4 ev => ?_
    · refine ev_if (et_test (ev_int0 (ev_var rfl) ev_c)) (fun hb => ?_) (fun hb => ?_)
      · unfold signTxt
        rw [if_pos (of_decide_eq_true hb)]
        exact ev_c
      · unfold signTxt
        rw [if_neg (of_decide_eq_false hb)]
        exact ev_c
    obtain rfl : v = _ := ev
    have hdig : dig i = ((Str.empty ++ signTxt i) ++ ((toString (m : Int) : String) : Str)) ++ t := by unfold dig; rw [hdd]
    refine s_ret g4 (ev_joined (ys := [signTxt i, ((toString (m : Int) : String) : Str), t]) (.cons (ev_fmtS (ev_var rfl) (Nat.le_trans (sign_len i) (by decide))) (.cons (ev_fmtI (ev_var rfl) (small_log (by omega) hm')) (.cons (ev_fmtS (ev_var rfl) (Nat.le_trans htl (by decide))) .nil))) ?_) fun v G5 H5 g5 ev => q v G5 H5 g5 ?_
    · show (((Str.empty ++ signTxt i) ++ ((toString (m : Int) : String) : Str)) ++ t).length ≤ _
      rw [← hdig, sizeLine_eq]
      omega
    · show v = .str (dig i)
      rw [show v = _ from ev, hdig]
      rfl
/-- repr(a Ratio) -/
def ratFit (q : Rat) : Prop := digFit q.num ∧ digFit (q.den : Int) ∧ (rtx q).length ≤ sizeLine
def spRepr (C : Addr) : Sp := Pu (γ := Rat) (fun q vs H => ∃ v, vs = [v] ∧ isR C q v H ∧ ratFit q) fun q _ v _ => v = .str (rtx q)
theorem m_repr (T : Txt P w K mg base C) : C8.Met P w K mg base 36 C "__repr__" (spRepr C) [] := by
  refine met_by T.cl T.d_R_repr sc_R_repr (fun _ _ _ _ _ _ us hl => match us, hl with | [_], _ => rfl) (len1 fun g vs H ⟨v, e, _⟩ => by rw [e] <;> rfl) fun f cdv A outer s H vs Q E hr h => ?_
  obtain ⟨x, G, e, ⟨v, rfl, hv, hf⟩, q⟩ := h
  refine ⟨_, (pss_one (ps_ret (pe_joined (PJ.cons pe_str (PJ.cons (pe_fmt (C8.pe_c (c_digits_of T) hr (by decide) rfl (pa_cons (pe_fld (pv 0) rfl) pa_nil))) (PJ.cons pe_str (PJ.cons (pe_fmt (C8.pe_c (c_digits_of T) hr (by decide) rfl (pa_cons (pe_fld (pv 0) rfl) pa_nil))) (PJ.cons pe_str PJ.nil)))))))), ?_⟩
  obtain ⟨f1, f2, f3⟩ := hf
  have l1 := Nat.le_trans (dig_fits f1) (by decide : 15400000 ≤ sizeLine)
  have l2 := Nat.le_trans (dig_fits f2) (by decide : 15400000 ≤ sizeLine)
  have sv : ∀ {σ : L2.St}, σ[0]? = some (some v) → Ev (tVar 0) σ G (isR C x) := fun h => ev_slot h hv
  refine s_ret (Grow.rfl e) (ev_joined (ys := [("Ratio(" : String), dig x.num, (", " : String), dig (x.den : Int), (")" : String)]) (.cons ev_c (.cons (ev_fmtS (ev_call (sp := spDig) (ea_1 (ev_top T.cl T.nT (sv rfl))) fun vs G' e ⟨u, eu, hu⟩ => Pu.tr (g := x.num) ⟨by rw [eu, show u = _ from hu], f1⟩) l1) (.cons ev_c (.cons (ev_fmtS (ev_call (sp := spDig) (ea_1 (ev_bot T.cl T.nB (sv rfl))) fun vs G' e ⟨u, eu, hu⟩ => Pu.tr (g := (x.den : Int)) ⟨by rw [eu, show u = _ from hu], f2⟩) l2) (.cons ev_c .nil))))) f3) fun v G5 H5 g5 ev => q v G5 H5 g5 ev
end
end On
set_option Elab.async false
set_option linter.all false
set_option maxRecDepth 100000
set_option maxHeartbeats 4000000
/-! What is shown of the told lists, of the given table. -/
namespace On
open PySem PySem.Spec PyProof.Rows L2
/-! ### lengths -/
theorem lst_len (ts : List Str) : (listText ts).length ≤ piled ts + 2 := by
  have e : (listText ts).length = (textFrom 0 "[" ts).length + 1 := by
    show (textFrom 0 "[" ts ++ "]").length = _
    rw [strLen_append] <;> rfl
  cases ts with
  | nil => exact Nat.le_of_eq (by rw [e] <;> rfl)
  | cons t r =>
    have h := textFrom_length_pos r 1 (("[" : Str) ++ (if (0 : Nat) > 0 then ", " else "" : String) ++ t) (Nat.succ_pos 0)
    have e2 : ((("[" : Str) ++ (if (0 : Nat) > 0 then ", " else "" : String) ++ t)).length = 1 + t.length := by
      rw [strLen_append, strLen_append] <;> rfl
    have e3 : (textFrom 0 "[" (t :: r)).length = (textFrom 1 (("[" : Str) ++ (if (0 : Nat) > 0 then ", " else "" : String) ++ t) r).length := rfl
    rw [e, e3, h, e2, piled_cons]
    omega
theorem tup_len (ts : List Str) : (tupleText ts).length ≤ piled ts + 3 := by
  unfold tupleText
  rw [strLen_append, strLen_append]
  have e1 : ((("(" : String) : Str)).length = 1 := rfl
  have e3 : (((if ts.length == 1 then ",)" else ")" : String) : Str)).length ≤ 2 := by split <;> decide
  by_cases h : ts = []
  · subst h
    have : (Str.join ", " ([] : List Str)).length = 0 := rfl
    omega
  · have := join_length_add ts h
    omega
theorem row_len : ∀ l : List Rat, 199 * piled (l.map rtx) ≤ 61 * lgL l + 199 * 142 * l.length
  | [] => Nat.zero_le _
  | q :: l => by
    have h1 := rtx_len q
    have h2 := row_len l
    rw [List.map_cons, piled_cons]
    show _ ≤ 61 * (lg q + lgL l) + 199 * 142 * (l.length + 1)
    have h3 : 199 * (rtx q).length ≤ 61 * lg q + 199 * 140 := h1
    omega
theorem rat_fit {q : Rat} (h : lg q ≤ 9000000) : ratFit q := by
  have h1 := rtx_len q
  have h2 : q.num.natAbs.log2 + q.den.log2 ≤ 9000000 := h
  refine ⟨by show q.num.natAbs.log2 ≤ 50000000; omega, by show (q.den : Int).natAbs.log2 ≤ 50000000; rw [Int.natAbs_natCast]; omega, ?_⟩
  rw [sizeLine_eq]
  have h3 : 199 * (rtx q).length ≤ 61 * (q.num.natAbs.log2 + q.den.log2) + 199 * 140 := h1
  omega
def rowTxt (l : List Rat) : Str := listText (l.map rtx)
theorem rowTxt_len {l : List Rat} (h : szL l ≤ 2 ^ 4030464) (hl : l.length ≤ 4) : (rowTxt l).length ≤ 2480000 := by
  have h1 := lst_len (l.map rtx)
  have h2 := row_len l
  have h3 := lgL_fit h
  unfold rowTxt
  omega
/-- what is shown of what two_above tells -/
def toldTxt : Option (List Rat × List Rat) → Str
  | none => "None"
  | some (x, y) => tupleText [rowTxt x, rowTxt y]
theorem toldTxt_len {n : Nat} {o : Option (List Rat × List Rat)} (h : ToldFit n o) : (toldTxt o).length ≤ 4970000 := by
  cases o with
  | none => exact Nat.le_trans (Nat.le_of_eq (by rfl : ((("None" : String) : Str)).length = 4)) (by decide)
  | some z =>
    obtain ⟨x, y⟩ := z
    obtain ⟨h1, h2, h3, h4⟩ := h.is x y rfl
    have h5 := h.n4
    have k1 := rowTxt_len h3 (by omega)
    have k2 := rowTxt_len h4 (by omega)
    have k3 := tup_len [rowTxt x, rowTxt y]
    rw [piled_cons, piled_cons, piled_nil] at k3
    show (tupleText [rowTxt x, rowTxt y]).length ≤ _
    omega
section
variable {P : Program} {w : World} {K : PySem.W.Frag} {mg : Str → Option Value} {base : Heap} {C : Addr} {outer : List Env} {G : Hp} {v : V}
theorem Shows.rat (T : Txt P w K mg base C) {q : Rat} (h : isR C q v G) (hf : ratFit q) : Shows P w K mg base outer 36 [] G v (rtx q) := by
  obtain ⟨a, dx, rfl, ha⟩ := id h
  exact Shows.own (m_repr T) ha [] (Pu.tr (g := q) ⟨_, rfl, h, hf⟩)
theorem rats_shown (T : Txt P w K mg base C) : ∀ {xs : List V} {l : List Rat}, All2 (fun x z => isR C z x G) xs l → (∀ q ∈ l, ratFit q) → All2 (Shows P w K mg base outer 36 [] G) xs (l.map rtx)
  | _, _, .nil, _ => .nil
  | _, _, .cons h1 h2, hf => .cons (Shows.rat T h1 (hf _ List.mem_cons_self)) (rats_shown T h2 fun q hq => hf q (List.mem_cons_of_mem _ hq))
theorem Shows.row (T : Txt P w K mg base C) (top : ∃ L ∈ frs outer, base.objs.size ≤ L) {a : Addr} {xs : List V} {l : List Rat} (ha : G a = some (.lst xs)) (all : All2 (fun x z => isR C z x G) xs l) (hf : szL l ≤ 2 ^ 4030464) (hl : 1 ≤ l.length) : Shows P w K mg base outer 37 [a] G (.ref a) (rowTxt l) := by
  have hg := lgL_fit hf
  refine Shows.lst top (fun x => nomatch x) (fun z => ?_) ha (rats_shown T all fun q hq => rat_fit (by have := lg_mem hq; omega))
  have := all.len
  rw [z] at this
  simp at this
  omega
/-- a told pair: its tuple, its lists -/
theorem told_at {x y : List Rat} (h : isTold C (some (x, y)) v G) : ∃ t a b xs ys, v = .ref t ∧ G t = some (.tup [.ref a, .ref b]) ∧ G a = some (.lst xs) ∧ G b = some (.lst ys) ∧ All2 (fun x z => isR C z x G) xs x ∧ All2 (fun x z => isR C z x G) ys y := by
  obtain ⟨_, t, p, q, e, ht, ⟨a, xs, e1, ha, h1⟩, b, ys, e2, hb, h2⟩ := h
  subst e1
  subst e2
  exact ⟨t, a, b, xs, ys, e, ht, ha, hb, h1, h2⟩
theorem Shows.told (T : Txt P w K mg base C) (top : ∃ L ∈ frs outer, base.objs.size ≤ L) {n : Nat} {x y : List Rat} (hf : ToldFit n (some (x, y))) (h : isTold C (some (x, y)) v G) :
    ∃ t a b xs ys, v = .ref t ∧ G t = some (.tup [.ref a, .ref b]) ∧ G a = some (.lst xs) ∧ G b = some (.lst ys) ∧ All2 (fun x z => isR C z x G) xs x ∧ All2 (fun x z => isR C z x G) ys y ∧ All2 (Shows P w K mg base outer 37 [a, b] G) [.ref a, .ref b] [rowTxt x, rowTxt y] ∧ t ∉ [a, b] := by
  obtain ⟨t, a, b, xs, ys, e, ht, ha, hb, h1, h2⟩ := told_at h
  obtain ⟨l1, l2, s1, s2⟩ := hf.is x y rfl
  have n1 := hf.n1
  refine ⟨t, a, b, xs, ys, e, ht, ha, hb, h1, h2, .cons ((Shows.row T top ha h1 s1 (by omega)).more (fun c hc => by simp at hc; simp [hc]) (Nat.le_refl _) Ex.rfl) (.cons ((Shows.row T top hb h2 s2 (by omega)).more (fun c hc => by simp at hc; simp [hc]) (Nat.le_refl _) Ex.rfl) .nil), fun hm => ?_⟩
  rcases List.mem_cons.mp hm with rfl | hm
  · rw [ht] at ha; cases ha
  · have := List.mem_singleton.mp hm
    subst this
    rw [ht] at hb; cases hb
end
section
variable {X : Cx} {C : Addr} {G : Hp} {v : V} {n : Nat}
/-- repr of what two_above tells -/
theorem Top.told (T : Txt X.prog X.w X.K X.mg X.base C) (o : Own0 X) (hr : Room 39 X.A) {t : Option (List Rat × List Rat)} (hf : ToldFit n t) (h : isTold C t v G) : Top X G v (toldTxt t) := by
  cases t with
  | none =>
    obtain rfl : v = .non := h
    exact Top.non G
  | some z =>
    obtain ⟨x, y⟩ := z
    obtain ⟨t, a, b, xs, ys, e, ht, ha, hb, h1, h2⟩ := told_at h
    subst e
    have hlen := toldTxt_len hf
    refine Top.tuple (k := 37) (as := [a, b]) (ts := [rowTxt x, rowTxt y]) o hr (fun hm => ?_) ht (fun top => ?_) (by rw [sizeLine_eq]; exact Nat.le_trans hlen (by decide))
    · rcases List.mem_cons.mp hm with rfl | hm
      · rw [ht] at ha; cases ha
      · have := List.mem_singleton.mp hm
        subst this
        rw [ht] at hb; cases hb
    · obtain ⟨t', a', b', xs', ys', e', ht', _, _, _, _, sh, _⟩ := Shows.told T top hf h
      cases e'
      rw [ht] at ht'
      cases ht'
      exact sh
/-- repr of a list of two told ones -/
theorem Top.two (T : Txt X.prog X.w X.K X.mg X.base C) (o : Own0 X) (hr : Room 40 X.A) {x y : List Rat} {v' : V} {q : Addr} (hf : ToldFit n (some (x, y))) (h : isTold C (some (x, y)) v G) (h' : isTold C (some (x, y)) v' G) (hq : G q = some (.lst [v, v'])) :
    Top X G (.ref q) (listText [toldTxt (some (x, y)), toldTxt (some (x, y))]) := by
  obtain ⟨t, a, b, xs, ys, e, ht, ha, hb, h1, h2⟩ := told_at h
  obtain ⟨t', a', b', xs', ys', e', ht', ha', hb', h1', h2'⟩ := told_at h'
  subst e
  subst e'
  obtain ⟨l1, l2, _, _⟩ := hf.is x y rfl
  have n1 := hf.n1
  have hlen := toldTxt_len hf
  have no : ∀ {c : Addr} {zs : List V} {l : List Rat}, G c = some (.lst zs) → All2 (fun x z => isR C z x G) zs l → 1 ≤ l.length → q ≠ c := fun {c zs l} hc all hl z => by
    subst z
    rw [hq] at hc
    cases hc
    cases all with
    | cons r _ =>
      obtain ⟨d, dx, e, hd⟩ := r
      cases e
      rw [ht] at hd
      cases hd
  have noT : ∀ {c : Addr} {zs : List V}, G c = some (.tup zs) → q ≠ c := fun {c zs} hc z => by
    subst z
    rw [hq] at hc
    cases hc
  have q1 := no ha h1 (by omega)
  have q2 := no hb h2 (by omega)
  have q3 := no ha' h1' (by omega)
  have q4 := no hb' h2' (by omega)
  have q5 := noT ht
  have q6 := noT ht'
  refine Top.list (k := 38) (as := [t, a, b, t', a', b']) (ts := [toldTxt (some (x, y)), toldTxt (some (x, y))]) o hr (fun hm => ?_) (List.cons_ne_nil _ _) hq (fun top => ?_) ?_
  · simp only [List.mem_cons, List.not_mem_nil, or_false] at hm
    rcases hm with h | h | h | h | h | h
    · exact q5 h
    · exact q1 h
    · exact q2 h
    · exact q6 h
    · exact q3 h
    · exact q4 h
  · have one : ∀ {v : V} (h : isTold C (some (x, y)) v G), ∃ t a b, v = .ref t ∧ G t = some (.tup [.ref a, .ref b]) ∧ Shows X.prog X.w X.K X.mg X.base X.stack 38 [t, a, b] G v (toldTxt (some (x, y))) := fun {v} h => by
      obtain ⟨t, a, b, xs, ys, e, ht, ha, hb, h1, h2, sh, hn⟩ := Shows.told T top hf h
      subst e
      exact ⟨t, a, b, rfl, ht, Shows.tuple top hn ht sh⟩
    obtain ⟨t1, a1, b1, e1, k1, s1⟩ := one h
    obtain ⟨t2, a2, b2, e2, k2, s2⟩ := one h'
    cases e1
    cases e2
    rw [ht] at k1
    cases k1
    rw [ht'] at k2
    cases k2
    refine .cons (s1.more (fun c hc => ?_) (Nat.le_refl _) Ex.rfl) (.cons (s2.more (fun c hc => ?_) (Nat.le_refl _) Ex.rfl) .nil)
    · simp only [List.mem_cons, List.not_mem_nil, or_false] at hc ⊢
      rcases hc with h | h | h
      · exact .inl h
      · exact .inr (.inl h)
      · exact .inr (.inr (.inl h))
    · simp only [List.mem_cons, List.not_mem_nil, or_false] at hc ⊢
      rcases hc with h | h | h
      · exact .inr (.inr (.inr (.inl h)))
      · exact .inr (.inr (.inr (.inr (.inl h))))
      · exact .inr (.inr (.inr (.inr (.inr h))))
  · have := lst_len [toldTxt (some (x, y)), toldTxt (some (x, y))]
    rw [piled_cons, piled_cons, piled_nil] at this
    rw [sizeLine_eq]
    omega
end
/-! ### a given table -/
/-- a row's address: a list or a tuple of numbers, not empty -/
def RowAt (C : Addr) (G : Hp) (a : Addr) : Prop := ∃ xs, (G a = some (.lst xs) ∨ G a = some (.tup xs)) ∧ ∃ x q, x ∈ xs ∧ isN C q x G
section
variable {P : Program} {w : World} {K : PySem.W.Frag} {mg : Str → Option Value} {base : Heap} {C : Addr} {outer : List Env} {G : Hp} {v : V}
theorem num_shown (T : Txt P w K mg base C) {q : Rat} (h : isN C q v G) (hq : sz q ≤ 2 ^ 24) : ∃ t, Shows P w K mg base outer 36 [] G v t ∧ t.length ≤ 2000 := by
  rcases h with ⟨i, rfl, e⟩ | h
  · subst e
    have hi : i.natAbs.log2 < 1920 := by
      rw [sz_int] at hq
      by_cases hz : i.natAbs = 0
      · rw [hz]; decide
      · rw [Nat.log2_lt hz]
        exact Nat.lt_of_lt_of_le (Nat.lt_of_succ_le hq) (Nat.pow_le_pow_right (by decide) (by decide))
    exact ⟨_, Shows.int hi [] G, Nat.le_trans (int_text_len_1921 hi) (by decide)⟩
  · have h1 := lg_le q
    have h2 : lg q ≤ 48 := by
      have : 2 ^ lg q ≤ 2 ^ 48 := Nat.le_trans h1 (Nat.le_trans (Nat.mul_le_mul hq hq) (Nat.le_of_eq (by rw [← Nat.pow_add])))
      exact (Nat.pow_le_pow_iff_right (by decide)).mp this
    refine ⟨rtx q, Shows.rat T h (rat_fit (by omega)), ?_⟩
    have h3 := rtx_len q
    have h4 : q.num.natAbs.log2 + q.den.log2 ≤ 48 := h2
    have h5 : 199 * (rtx q).length ≤ 61 * (q.num.natAbs.log2 + q.den.log2) + 199 * 140 := h3
    omega
theorem nums_shown (T : Txt P w K mg base C) : ∀ {xs : List V} {l : List Rat}, All2 (fun x z => isN C z x G) xs l → (∀ q ∈ l, sz q ≤ 2 ^ 24) → ∃ ts, All2 (Shows P w K mg base outer 36 [] G) xs ts ∧ piled ts ≤ 2002 * l.length
  | _, _, .nil, _ => ⟨[], .nil, Nat.zero_le _⟩
  | _, _, .cons h1 h2, hf => by
    obtain ⟨t, k1, k2⟩ := num_shown (outer := outer) T h1 (hf _ List.mem_cons_self)
    obtain ⟨ts, k3, k4⟩ := nums_shown T h2 fun q hq => hf q (List.mem_cons_of_mem _ hq)
    exact ⟨t :: ts, .cons k1 k3, by rw [piled_cons, List.length_cons]; omega⟩
theorem row_shown (T : Txt P w K mg base C) (top : ∃ L ∈ frs outer, base.objs.size ≤ L) {l : List Rat} (h : gRow C l v G) (hf : ∀ q ∈ l, sz q ≤ 2 ^ 24) (h1 : 1 ≤ l.length) (h4 : l.length ≤ 4) :
    ∃ a t, v = .ref a ∧ RowAt C G a ∧ Shows P w K mg base outer 37 [a] G v t ∧ t.length ≤ 9000 := by
  have core : ∀ {xs : List V}, All2 (fun x z => isN C z x G) xs l → xs ≠ [] ∧ ∃ x q, x ∈ xs ∧ isN C q x G := fun {xs} all => by
    cases all with
    | nil => simp at h1
    | cons r _ => exact ⟨List.cons_ne_nil _ _, _, _, List.mem_cons_self, r⟩
  rcases h with ⟨a, xs, rfl, ha, all⟩ | ⟨a, xs, rfl, ha, all⟩
  · obtain ⟨ts, k1, k2⟩ := nums_shown (outer := outer) T all hf
    obtain ⟨ne, x, q, hx, hn⟩ := core all
    refine ⟨a, listText ts, rfl, ⟨xs, .inl ha, x, q, hx, hn⟩, Shows.lst top (fun z => nomatch z) ne ha k1, ?_⟩
    have := lst_len ts
    omega
  · obtain ⟨ts, k1, k2⟩ := nums_shown (outer := outer) T all hf
    obtain ⟨ne, x, q, hx, hn⟩ := core all
    refine ⟨a, tupleText ts, rfl, ⟨xs, .inr ha, x, q, hx, hn⟩, Shows.tuple top (fun z => nomatch z) ha k1, ?_⟩
    have := tup_len ts
    omega
theorem rows_shown (T : Txt P w K mg base C) (top : ∃ L ∈ frs outer, base.objs.size ≤ L) {n : Nat} (h1 : 1 ≤ n) (h4 : n ≤ 4) : ∀ {ys : List V} {m : List (List Rat)}, All2 (fun x z => gRow C z x G) ys m → (∀ r ∈ m, r.length = n ∧ ∀ q ∈ r, sz q ≤ 2 ^ 24) →
    ∃ as ts, (∀ a ∈ as, RowAt C G a) ∧ (∀ y ∈ ys, ∃ a, y = .ref a ∧ RowAt C G a) ∧ All2 (Shows P w K mg base outer 37 as G) ys ts ∧ piled ts ≤ 9002 * m.length
  | _, _, .nil, _ => ⟨[], [], (fun _ x => nomatch x), (fun _ x => nomatch x), .nil, Nat.zero_le _⟩
  | _, _, .cons r1 r2, hf => by
    obtain ⟨hl, hs⟩ := hf _ List.mem_cons_self
    obtain ⟨a, t, e, ra, s1, k1⟩ := row_shown (outer := outer) T top r1 hs (by omega) (by omega)
    obtain ⟨as, ts, k2, k3, k4, k5⟩ := rows_shown T top h1 h4 r2 fun r hr => hf r (List.mem_cons_of_mem _ hr)
    refine ⟨a :: as, t :: ts, fun b hb => ?_, fun y hy => ?_, .cons (s1.more (fun c hc => ?_) (Nat.le_refl _) Ex.rfl) (k4.mono fun x t h => h.more (fun c hc => List.mem_cons_of_mem _ hc) (Nat.le_refl _) Ex.rfl), by rw [piled_cons, List.length_cons]; omega⟩
    · rcases List.mem_cons.mp hb with rfl | hb
      · exact ra
      · exact k2 b hb
    · rcases List.mem_cons.mp hy with rfl | hy
      · exact ⟨a, e, ra⟩
      · exact k3 y hy
    · rw [List.mem_singleton.mp hc]
      exact List.mem_cons_self
theorem not_row {a : Addr} {ys : List V} (ha : G a = some (.lst ys) ∨ G a = some (.tup ys)) (hy : ∀ y ∈ ys, ∃ b, y = .ref b ∧ RowAt C G b) : ¬ RowAt C G a := fun ⟨xs, hx, x, q, hm, hn⟩ => by
  have e : xs = ys := by
    rcases ha with ha | ha <;> rcases hx with hx | hx <;> rw [ha] at hx <;> cases hx <;> rfl
  subst e
  obtain ⟨b, rfl, zs, hz, _⟩ := hy x hm
  rcases hn with ⟨i, e, _⟩ | ⟨d, dx, e, hd⟩
  · cases e
  · cases e
    rcases hz with hz | hz <;> rw [hz] at hd <;> cases hd
end
section
variable {X : Cx} {C : Addr} {G : Hp} {v : V} {n : Nat}
/-- repr of a given table: some text -/
theorem Top.given (T : Txt X.prog X.w X.K X.mg X.base C) (o : Own0 X) (hr : Room 39 X.A) {m : List (List Rat)} (hs : Sq n m) (h1 : 1 ≤ n) (h4 : n ≤ 4) (hen : Ents n 24 m) (h : gMat C m v G) : ∃ t, Top X G v t := by
  by_cases top : ∃ L ∈ frs X.stack, X.base.objs.size ≤ L
  case neg => exact ⟨Str.empty, fun pins s σ H u Q I ex r q => absurd (o.top I.ok) top⟩
  have hf : ∀ r ∈ m, r.length = n ∧ ∀ q ∈ r, sz q ≤ 2 ^ 24 := fun r hr => ⟨hs.row r hr, hen.le r hr⟩
  have hl := hs.len
  rcases h with ⟨a, ys, rfl, ha, all⟩ | ⟨a, ys, rfl, ha, all⟩
  · obtain ⟨as, ts, k1, k2, k3, k4⟩ := rows_shown (outer := X.stack) T top h1 h4 all hf
    refine ⟨listText ts, Top.list (k := 37) (as := as) o hr (fun hm => not_row (.inl ha) k2 (k1 a hm)) (fun z => ?_) ha (fun _ => k3) ?_⟩
    · have := all.len
      rw [z, hl] at this
      simp at this
      omega
    · have := lst_len ts
      rw [sizeLine_eq]
      omega
  · obtain ⟨as, ts, k1, k2, k3, k4⟩ := rows_shown (outer := X.stack) T top h1 h4 all hf
    refine ⟨tupleText ts, Top.tuple (k := 37) (as := as) o hr (fun hm => not_row (.inr ha) k2 (k1 a hm)) ha (fun _ => k3) ?_⟩
    have := tup_len ts
    rw [sizeLine_eq]
    omega
theorem Top.up {G' : Hp} {t : Str} (h : Top X G v t) (e : Ex G G') : Top X G' v t := fun pins s σ H u Q I ex r q => h pins s σ H u Q I (e.trans ex) r q
theorem tr_repr {t : Str} (h : Top X G v t) : Tr (fun H1 Q => rRepr X [v] H1 Q) G (isV (.str t)) := fun H1 e Q q => ⟨v, t, G, rfl, e, h, fun F eF => q _ G F ((Grow.rfl e).more eF) rfl⟩
theorem ev_repr {σ : L2.St} {te : TE} {Pv : V → Hp → Prop} {t : Str} (h : Ev te σ G Pv) (k : ∀ v G', Ex G G' → Pv v G' → Top X G' v t) : Ev (tCB (rRepr X) (tCons te tNil)) σ G (isV (.str t)) := fun H1 e Q q =>
  h H1 e _ fun v G' H2 g pv => tr_repr (k v G' g.kn pv) H2 g.re Q fun u G'' H3 g' eu => q u G'' H3 (g.trans g') eu
end
end On
set_option Elab.async false
set_option linter.all false
set_option maxRecDepth 100000
set_option maxHeartbeats 4000000
/-! A def whose body must know that no repr is under way; calls by keywords. -/
namespace On
open PySem PySem.Spec PyProof.Rows L2
/-- a def's promise where no repr is under way -/
structure FnG (P : Program) (w : World) (K : PySem.W.Frag) (mg : Str → Option Value) (base : Heap) (k : Nat) (f : Addr) (fd : FuncData) (ps : List Str) (sp : Sp) : Prop where
  ln : ∀ vs H Q E, sp vs H Q E → vs.length = ps.length
  go : ∀ (A : Around) (outer : List Env) (s : Shared) (H : Hp) (args : Args) (us : List Value) (vs : List V) (Q : VK) (E : XK), A.guards = some [] → Room k A → Env0 P w K mg base A outer s H → BindsTo s fd args (ps.zip us) → Vals vs us → sp vs H Q E →
    codeAny (model P w) A (.call (.ref f) args) (CR CX0 outer P w H s Q E) s
abbrev BodyG (P : Program) (w : World) (K : PySem.W.Frag) (mg : Str → Option Value) (base : Heap) (k : Nat) (N : List Str) (qual : Str) (st : Stmt) (f : Addr) (sp : Sp) : Prop :=
  ∀ (cdv : Value) (A : Around) (outer : List Env) (s : Shared) (H : Hp) (vs : List V) (Q : VK) (E : XK), A.guards = some [] → Room k (A.deeper (envOfC qual (defScope st) s.heap.objs.size f cdv)) → sp vs H Q E →
    ∃ t, PSs (cxOf CX0 P w K mg base N qual (defScope st) f cdv A outer s H E).nox (defBody st) t ∧ t { nx := fun _ H' => Q .non H', rt := Q } (start N vs) H
section
variable {P : Program} {w : World} {K : PySem.W.Frag} {mg : Str → Option Value} {base : Heap} {k : Nat} {f : Addr} {fd : FuncData} {N ps : List Str} {sp : Sp} {x : Str} {st : Stmt}
theorem fnG_by (F : FunD K x x (defArgs st) (defBody st) (defScope st) [] [] f fd) (S : FnScope N ps (defScope st)) (ln : ∀ vs H Q E, sp vs H Q E → vs.length = ps.length) (hb : BodyG P w K mg base k N x st f sp) : FnG P w K mg base (k + 1) f fd ps sp := by
  obtain ⟨oc, od, dV, kV, doc, pm, an, cdv, ct, osl, rfl, at_, code_, _, _⟩ := F.ex
  refine ⟨ln, fun A outer s H args us vs Q E hgd room e0 bind rv hsp => ?_⟩
  have len_ := ln _ _ _ _ hsp
  have stays : ∀ b o, base.get? b = some o → s.heap.get? b = some o := fun b o e => (e0.bs b o e).1
  have KX : K.In s.heap := e0.mod.kin.keeps stays
  have kinds : ∀ y ∈ ps.zip us, (defScope st).names.lookup y.1 = some .local ∨ ((defScope st).names.lookup y.1 = some .cell ∧ ((cellsFrom (s.heap.objs.size + 1) (defScope st).names []).lookup y.1).isSome = true) := by
    rintro ⟨n, v⟩ hy
    cases S.par n (List.of_mem_zip hy).1 with
    | inl q => exact .inl q
    | inr q => exact .inr ⟨q, PySem.W.cellsFrom_some _ _ _ (.inl q)⟩
  refine codeAny_call_function room.depth (KX _ _ at_) rfl S.co S.gen rfl (PySem.W.codeRec_of KX code_) (bind _ _ _ _ ?_)
  refine wpAny_newFunctionEnv_cells S.kind kinds ?_
  rintro env rfl s1 made
  refine ⟨(e0.mod.nolimit.keeps stays).keeps made.toInCall.keep, codeAny_func ?_⟩
  obtain ⟨t, ht, hq⟩ := hb cdv A outer s H vs Q E hgd (room.deeper _) hsp
  have I := inv_start (CX := CX0) (E := E) S room.hd e0 len_ rv made
  refine wpAny_mono (ht.nox.run [] s1 (start N vs) H _ I hq) (fun fl z hz => ?_) fun e z hz => hz
  have out : ∀ {σ' : L2.St} {H' : Hp} {v : V} {u : Value}, Inv (cxOf CX0 P w K mg base N x (defScope st) f cdv A outer s H E) [] σ' H' z → RelV v u → Q v H' → CE outer P w H s Q u z := fun {σ' H' v u} J rv q =>
    ⟨v, H', J.os, J.bare, J.base, J.hok, rv, q⟩
  match fl, hz with
  | .ret u, ⟨v, σ', H', J, rv, q⟩ => exact out J rv q
  | .next, ⟨σ', H', J, q⟩ => exact out (v := V.non) (u := Value.none) J rfl q
  | .brk, ⟨_, _, _, q⟩ => exact False.elim q
  | .cont, ⟨_, _, _, q⟩ => exact False.elim q
end
/-- such a def under its name -/
structure CalG (P : Program) (w : World) (K : PySem.W.Frag) (mg : Str → Option Value) (base : Heap) (k : Nat) (x : Str) (sp : Sp) : Prop where
  ex : ∃ (f : Addr) (fd : FuncData) (ps : List Str), FnG P w K mg base k f fd ps sp ∧ mg x = some (.ref f) ∧ PySem.W.keepIn K (.ref f) = true ∧ Binds K fd ps []
theorem calG_by {P : Program} {w : World} {K : PySem.W.Frag} {mg : Str → Option Value} {base : Heap} {x : Str} {st : Stmt} {N ps : List Str} {k : Nat} {sp : Sp} (D : DefAt K mg x st) (S : FnScope N ps (defScope st)) (b : BindOk x x st ps) (ln : ∀ vs H Q E, sp vs H Q E → vs.length = ps.length)
    (hb : ∀ f, BodyG P w K mg base k N x st f sp) : CalG P w K mg base (k + 1) x sp := by
  obtain ⟨f, fd, F, hm⟩ := D.ex
  exact ⟨f, fd, ps, fnG_by F S ln (hb f), hm, F.kp, F.bindsN b⟩
section
variable {X : Cx} {k : Nat} {sp : Sp} {x : Str} {p pos : Pos} {e : Expr} {es : List Expr} {t : TA}
theorem pe_cG (c : CalG X.prog X.w X.K X.mg X.base k x sp) (hgd : X.A.guards = some []) (hr : Room k X.A) (hg : Gl X x) (ha : PA X (e :: es) t)
    (hdb : (x == ("__debug__" : Str)) = false := by decide) (he : starEach (e :: es) X.env = (false, eval e X.env) :: starEach es X.env := by rfl) (hpl : (backTo pos (starEach es X.env)).any (·.1) = false := by rfl) :
    PE X (.Call (.Name x p) (e :: es) [] pos) (tCall sp [] E0 t) := by
  obtain ⟨f, fd, ps, F, hm, kp, b⟩ := c.ex
  refine ⟨fun pins s σ H Q I h => wpAny_Call_Name_kw (ld_glob I hg hm ?_ hdb)⟩
  refine PySem.W.callWith_K (h₀ := X.base) I.ok.mod.kin kp (thn (ha.run pos pins s σ H _ I h) fun us s1 hq => ?_) he hpl
  obtain ⟨vs, H1, I1, r, q⟩ := hq
  have q : sp vs H1 Q E0 := by rw [← List.append_nil vs]; exact q
  refine ⟨I1.kIn, wpAny_call (codeAny_mono (F.go X.A X.stack s1 H1 ⟨us, []⟩ us vs Q E0 hgd hr I1.env0 ?_ r q) fun res z hz => ?_)⟩
  · have hl := F.ln _ _ _ _ q
    have := b s1 us I1.kIn (by rw [List.append_nil, ← r.length]; exact hl)
    rw [List.append_nil] at this
    exact this
  · match res, hz with
    | .ok (.ret u), hz => exact I1.after hz
    | .error e, hz => exact False.elim hz
    | .ok .next, hz => exact False.elim hz
    | .ok .brk, hz => exact False.elim hz
    | .ok .cont, hz => exact False.elim hz
end
/-! ### keywords -/
/-- how keywords alone bind -/
abbrev BindKw (x : Str) (st : Stmt) (ps ks : List Str) (g : List Value → List Value → List Value) : Prop := ∀ (kV doc pm : Value) (an : Option Addr) (cdv ct : Value) (us ws : List Value), (g us ws).length = ps.length → bindArgs (PySem.W.fnOf x x (defArgs st) (defBody st) (defScope st) .none kV doc pm an cdv ct) ⟨us, ks.zip ws⟩ = pure (ps.zip (g us ws))
structure CalKw (P : Program) (w : World) (K : PySem.W.Frag) (mg : Str → Option Value) (base : Heap) (k : Nat) (x : Str) (sp : Sp) (ks : List Str) (gV : List V → List V → List V) : Prop where
  ex : ∃ (f : Addr) (fd : FuncData) (ps : List Str) (g : List Value → List Value → List Value), FnOk P w K mg base CX0 k f fd ps sp ∧ mg x = some (.ref f) ∧ PySem.W.keepIn K (.ref f) = true ∧ KBinds K fd ps ks g gV
theorem calKw_by {P : Program} {w : World} {K : PySem.W.Frag} {mg : Str → Option Value} {base : Heap} {x : Str} {st : Stmt} {N ps ks : List Str} {k : Nat} {sp : Sp} {g : List Value → List Value → List Value} {gV : List V → List V → List V} (D : DefAt K mg x st) (S : FnScope N ps (defScope st)) (b : BindKw x st ps ks g)
    (rel : ∀ {vs : List V} {us : List Value} {zs : List V} {ws : List Value}, Vals vs us → Vals zs ws → Vals (gV vs zs) (g us ws)) (ln : ∀ vs H Q E, sp vs H Q E → vs.length = ps.length) (hb : ∀ f, BodyOk P w K mg base k N x st f sp) : CalKw P w K mg base (k + 1) x sp ks gV := by
  obtain ⟨f, fd, F, hm⟩ := D.ex
  refine ⟨f, fd, ps, g, fn_by F S ln (hb f), hm, F.kp, ⟨fun s us ws X hl => ?_, rel⟩⟩
  obtain ⟨oc, od, dV, kV, doc, pm, an, cdv, ct, osl, rfl, _, _, hD, _⟩ := F.ex
  rcases hD with ⟨_, rfl⟩ | ⟨e, _⟩
  · exact .of_eq (b kV doc pm an cdv ct us ws hl)
  · exact absurd rfl e
theorem pe_ckw {X : Cx} {k j : Nat} {sp : Sp} {x : Str} {p pos : Pos} {kws : List Keyword} {tk : TA} {ks : List Str} {gV : List V → List V → List V} (c : CalKw X.prog X.w X.K X.mg X.base k x sp ks gV) (hr : Room j X.A) (hk : k ≤ j) (hg : Gl X x) (hkw : PK X kws tk) (hall : (backToKw pos (keywordEach kws X.env)).all (·.1.isSome) = true := by rfl) (hks : (backToKw pos (keywordEach kws X.env)).filterMap (·.1) = ks := by rfl)
    (hdb : (x == ("__debug__" : Str)) = false := by decide) (hpl : ((backTo pos (starEach [] X.env)).any (·.1) || (backToKw pos (keywordEach kws X.env)).any (·.1.isNone)) = false := by rfl) : PE X (.Call (.Name x p) [] kws pos) (tCallK sp gV E0 tNil tk) := by
  obtain ⟨f, fd, ps, g, F, hm, kp, b⟩ := c.ex
  exact pe_callK0 F (hr.mono hk) hg hm kp b pass0 hkw hall hks hdb hpl
def kw1 {α : Type} : List α → List α → List α := fun us ws => us ++ ws
def kw2 {α : Type} : List α → List α → List α
  | [], [a, b] => [b, a]
  | _, _ => []
section
variable {P : Program} {w : World} {K : PySem.W.Frag} {mg : Str → Option Value} {base : Heap} {C : Addr}
theorem ck_two_above (T : Txt P w K mg base C) : CalKw P w K mg base 45 "two_above" (spTwo C) ["table"] kw1 :=
  calKw_by (g := kw1) T.d_two_above sc_two_above (fun _ _ _ _ _ _ us ws hl => match us, ws, hl with
    | [], [_], _ => rfl
    | [_], [], _ => rfl) (fun r1 r2 => r1.append r2) len_1 (body_two_above T)
theorem ck_is_two_above (T : Txt P w K mg base C) : CalKw P w K mg base 46 "is_two_above" (spIs C) ["value", "table"] kw2 :=
  calKw_by (g := kw2) T.d_is_two_above sc_is_two_above (fun _ _ _ _ _ _ us ws hl => match us, ws, hl with
    | [], [_, _], _ => rfl) (fun {vs us zs ws} r1 r2 => by
      cases r1 with
      | cons _ _ => exact .nil
      | nil =>
        cases r2 with
        | nil => exact .nil
        | cons a r2 =>
          cases r2 with
          | nil => exact .nil
          | cons b r2 =>
            cases r2 with
            | nil => exact .cons b (.cons a .nil)
            | cons c r2 => exact .nil) len_2 (body_is_two_above T)
end
end On
set_option Elab.async false
set_option linter.all false
set_option maxRecDepth 100000
set_option maxHeartbeats 4000000
/-! For _law_right: pairs of names, lists that are known no more, a list twice. -/
namespace On
open PySem PySem.Spec PyProof.Rows L2
section
variable {p : Addr} {K : PySem.W.Frag} {σ : L2.St} {G0 H1 G H : Hp} {ta tb te tl : TE} {tt : TT} {t : TA} {P P' : V → Hp → Prop} {D : Ends} {tz tbd : TS} {γ δ : Type} {R : γ → V → Hp → Prop} {S : δ → V → Hp → Prop}
theorem p_parz {i j : Nat} (up : ∀ v G G', Ex G G' → P v G → P v G') (up2 : ∀ v G G', Ex G G' → P' v G → P' v G') (g : Gp p G0 H1 G H) (ha : EvP p ta σ G P) (hb : EvP p tb σ G P') (k : ∀ v w G' H', Gp p G H G' H' → Gp p G0 H1 G' H' → P v G' → P' w G' → D.nx ((σ.set i (some v)).set j (some w)) H') :
    tPar i j (tCons ta (tCons tb tNil)) D σ H := pa_2 up up2 ha hb H g.st _ fun vs G' H' g' ⟨v, w, e, r, s⟩ => ⟨v, w, e, k v w G' H' g' (g.trans g') r s⟩
theorem p_par {i j : Nat} (up : ∀ v G G', Ex G G' → P v G → P v G') (up2 : ∀ v G G', Ex G G' → P' v G → P' v G') (g : Gp p G0 H1 G H) (ha : EvP p ta σ G P) (hb : EvP p tb σ G P') (k : ∀ v w G' H', Gp p G H G' H' → Gp p G0 H1 G' H' → P v G' → P' w G' → tz D ((σ.set i (some v)).set j (some w)) H') :
    tSeq (tPar i j (tCons ta (tCons tb tNil))) tz D σ H := p_parz (D := { D with nx := tz D }) up up2 g ha hb k
/-- an if that is not taken -/
theorem p_skip {tu : TS} (g : Gp p G0 H1 G H) (h : EvT tt σ G false) (k : ∀ H', Gp p G0 H1 G H' → Ep p H H' → tz D σ H') : tSeq (tIfS tt tu tNext) tz D σ H :=
  p_if (C := fun b => b = false) g (h.pot.any rfl) (fun c => by cases c) fun _ H' g' e' => k H' g' e'
theorem p_skipz {tu : TS} (g : Gp p G0 H1 G H) (h : EvT tt σ G false) (k : ∀ H', Gp p G0 H1 G H' → Ep p H H' → D.nx σ H') : tIfS tt tu tNext D σ H :=
  p_ifz (C := fun b => b = false) g (h.pot.any rfl) (fun c => by cases c) fun _ H' g' e' => k H' g' e'
theorem ev_ixTrip0 {α β : Type} {A : α → V → Hp → Prop} {B : β → V → Hp → Prop} {a : α} {b : β} {c : γ} (h : Ev ta σ H (tripOf A B R a b c)) : Ev (tOp (rIxLT K) ta (tC (.int 0))) σ H (A a) := fun H1 e Q q =>
  h H1 e _ fun v G H2 g ⟨t, x, y, z, ev, ht, ra, _, _⟩ => .inr ⟨t, [x, y, z], 0, x, ev, rfl, SqT.of (g.re _ _ ht), rfl, q x G H2 g ra⟩
theorem ev_kw {sp : Sp} {gV : List V → List V → List V} {tk : TA} {PA : List V → Hp → Prop} (ha : EvA tk σ H PA) (h : ∀ vs G, Ex H G → PA vs G → Tr (fun H1 Q => sp (gV [] vs) H1 Q E0) G P) : Ev (tCallK sp gV E0 tNil tk) σ H P := fun H1 e Q q =>
  ha H1 e _ fun vs G H2 g pv => h vs G g.kn pv H2 g.re Q fun v G' H3 g' pp => q v G' H3 (g.trans g') pp
/-- [x] * 2 -/
theorem ev_rep2 {z : γ} (up : Up R) (h : Ev ta σ H (R z)) : Ev (tOp rRep (tLst (tCons ta tNil)) (tC (.int 2))) σ H (newL R [z, z] H) := fun H1 e Q q =>
  h H1 e _ fun v G H2 g pv => ⟨by show 1 ≤ 2 ^ 24; decide, fun a ha => ⟨a, 2, [v], rfl, rfl, upd_same, by decide, by decide, by show 1 * 2 ≤ 2 ^ 24; decide, fun b hb => by
    have ha' : G a = none := g.re.back ha
    have hb' : upd H2 a (.lst [v]) b = none := hb
    have hba : b ≠ a := fun z => by rw [z, upd_same] at hb'; cases hb'
    have hb2 : H2 b = none := by rw [upd_ne hba] at hb'; exact hb'
    have g1 : Grow H H1 G (upd H2 a (.lst [v])) := g.more (Ex.new ha)
    obtain ⟨n1, n2⟩ := new_lst (xs := [v, v]) (zs := [z, z]) up e g1 hb' (.cons pv (.cons pv .nil))
    exact q _ _ _ n1 n2⟩⟩
/-- a list that was made since the entry is known no more -/
theorem unkQ {a : Addr} {o : HO} (g : Gp p G0 H1 G H) (h0 : G0 a = none) (ha : G a = some o) : H1 a = none ∧ a ≠ p ∧ Gp p G0 H1 (sub G (one a o)) H := by
  have h1 : H1 a = none := by
    cases q : H1 a with
    | none => rfl
    | some u =>
      have := g.fr a h0 (by rw [q]; exact Option.some_ne_none _)
      rw [ha] at this
      cases this
  have hp : a ≠ p := fun z => by rw [z, g.st.np] at ha; cases ha
  refine ⟨h1, hp, ⟨fun x u hx => ?_, ⟨sub_ex.trans g.st.ex, ?_, g.st.ok⟩, g.ol, fun x hx hy => ?_⟩⟩
  · have hxa : x ≠ a := fun z => by rw [z, h0] at hx; cases hx
    rw [sub_at (by unfold one; rw [upd_ne hxa])]
    exact g.kn x u hx
  · rw [sub_at (by unfold one; rw [upd_ne (Ne.symm hp)])]
    exact g.st.np
  · by_cases hxa : x = a
    · subst hxa
      exact sub_no (by unfold one; rw [upd_same]; exact Option.some_ne_none _)
    · rw [sub_at (by unfold one; rw [upd_ne hxa])]
      exact g.fr x hx hy
theorem sub_one {a b : Addr} {o : HO} (h : b ≠ a) : sub G (one a o) b = G b := sub_at (by unfold one; rw [upd_ne h])
theorem sub_self {a : Addr} {o : HO} : sub G (one a o) a = none := sub_no (by unfold one; rw [upd_same]; exact Option.some_ne_none _)
/-- what was known ahead of a list that is known no more -/
theorem ex_sub {G1 : Hp} {a : Addr} {o : HO} (e : Ex G1 G) (h : G1 a = none) : Ex G1 (sub G (one a o)) := fun x u hx => by
  have hxa : x ≠ a := fun z => by rw [z, h] at hx; cases hx
  rw [sub_one hxa]
  exact e x u hx
/-- for x in a list that the pot may have told -/
theorem p_forP {N : Nat} {j : Nat} (up : Up S) (gr : Gp p G0 H1 G H) (h : EvP p tl σ G fun v G' => ∃ zs, lstOf S zs v G' ∧ zs.length ≤ N) (I : L2.St → Hp → Prop) (i0 : ∀ G' H', Gp p G H G' H' → Gp p G0 H1 G' H' → I σ G')
    (hs : ∀ z x σ' G' H', S z x G' → Ex G G' → Gp p G0 H1 G' H' → I σ' G' → ∀ N : L2.St → Hp → Prop, (∀ σ3 G3 H3, Ex G' G3 → Gp p G0 H1 G3 H3 → I σ3 G3 → N σ3 H3) → tbd { D with nx := N, ct := N, bk := tz D } (σ'.set j (some x)) H')
    (hd : ∀ σ' G' H', Ex G G' → Gp p G0 H1 G' H' → I σ' G' → tz D σ' H') : tSeq (tFor (iList K tl) (gName j) tbd) tz D σ H :=
  h H gr.st _ fun v Gs Hs g1 ⟨zs, ⟨a, xs, ev, ha, all⟩, _⟩ => by
    refine ⟨a, ev, ⟨xs, SqL.of (g1.st.ex _ _ ha)⟩, ?_⟩
    refine for_it (D := { D with nx := tz D }) (walk_list (xs := xs)) (fun i σ' H' => ∃ G', Ex Gs G' ∧ Gp p G0 H1 G' H' ∧ I σ' G') ⟨Gs, Ex.rfl, gr.trans g1, i0 Gs Hs g1 (gr.trans g1)⟩ ?_ ?_ ?_
    · rintro i σ' H' _ ⟨G', e, g', _⟩
      exact SqL.of (g'.st.ex _ _ (e _ _ ha))
    · rintro i x σ' H' H'' hi ⟨G', e, g', iv⟩ hy
      obtain ⟨e2, hx⟩ := hy
      subst e2
      obtain ⟨z, hz, s⟩ := all.get hx
      exact hs z x σ' G' _ (up _ _ _ _ e s) (g1.kn.trans e) g' iv _ fun σ3 G3 H3 e3 g3 i3 => ⟨G3, e.trans e3, g3, i3⟩
    · rintro σ' H' ⟨G', e, g', iv⟩
      exact hd σ' G' H' (g1.kn.trans e) g' iv
end
/-! ### told pairs as values -/
def toldDat : Option (List Rat × List Rat) → Dat
  | none => .atom .non
  | some (x, y) => .tup [.lst (x.map Atom.rat), .lst (y.map Atom.rat)]
section
variable {C : Addr} {G : Hp} {v : V}
theorem told_dat {o : Option (List Rat × List Rat)} (h : isTold C o v G) : isDat C (toldDat o) v G := by
  cases o with
  | none => exact h
  | some z =>
    obtain ⟨x, y⟩ := z
    obtain ⟨_, t, a, b, e, ht, ha, hb⟩ := h
    exact ⟨t, [a, b], e, ht, .cons (row_atoms ha) (.cons (row_atoms hb) .nil)⟩
theorem told_ok {n : Nat} {o : Option (List Rat × List Rat)} (h : ToldFit n o) : DatOk (toldDat o) := fun a b e => by
  cases o with
  | none => cases e
  | some z =>
    obtain ⟨x, y⟩ := z
    obtain ⟨_, _, h1, h2⟩ := h.is x y rfl
    cases e
    refine ⟨?_, ?_⟩
    · show szL ((x.map Atom.rat).map Atom.val) ≤ _
      rw [vals_rat]
      exact Nat.le_trans h1 (pow_le2 (by omega))
    · show szL ((y.map Atom.rat).map Atom.val) ≤ _
      rw [vals_rat]
      exact Nat.le_trans h2 (pow_le2 (by omega))
theorem told_toldOk {n : Nat} {o : Option (List Rat × List Rat)} (h : ToldFit n o) : toldOk n o := fun x y e => by
  obtain ⟨h1, h2, h3, h4⟩ := h.is x y e
  exact ⟨h1, h2, Nat.le_trans h3 (pow_le2 (by omega)), Nat.le_trans h4 (pow_le2 (by omega))⟩
theorem pair_told {o : Option (List Rat × List Rat)} {H : Hp} (h : newPair C o H v G) : isTold C o v G := by
  cases o with
  | none => exact h
  | some z =>
    obtain ⟨x, y⟩ := z
    obtain ⟨t, a, b, xs, ys, e, ht, _, _, _, _, ha, hb, h1, h2⟩ := h
    exact ⟨by rw [e]; exact (fun z => nomatch z), t, V.ref a, V.ref b, e, ht, ⟨a, xs, rfl, ha, h1⟩, ⟨b, ys, rfl, hb, h2⟩⟩
theorem up_told {C : Addr} : Up (isTold C) := up_opt (up_pair up_row up_row)
theorem all_nums (l : List Rat) : (l.map Atom.rat).all Atom.isNum = true := by
  rw [List.all_map]
  exact List.all_eq_true.mpr fun _ _ => rfl
/-- the law's eye on what is told -/
theorem told_looks {n : Nat} {m : List (List Rat)} {x y : List Rat} (hm : m.length = n) (hx : x.length = n) (hy : y.length = n) (h : shows m x y = true) : looks m (toldDat (some (x, y))) = true := by
  show ((decide (((x.map Atom.rat).length : Int) = (m.length : Int)) && (x.map Atom.rat).all Atom.isNum) && ((decide (((y.map Atom.rat).length : Int) = (m.length : Int)) && (y.map Atom.rat).all Atom.isNum) && shows m ((x.map Atom.rat).map Atom.val) ((y.map Atom.rat).map Atom.val))) = true
  rw [vals_rat, vals_rat, all_nums, all_nums, h, List.length_map, List.length_map, hm, hx, hy, decide_eq_true rfl]
  rfl
theorem nums_lenN {it : Item} {n : Nat} (h : it.nums (n : Int) = true) : it.vals.length = n := by
  cases it with
  | atom a => cases h
  | dct => cases h
  | lst as =>
    have h2 : (decide ((as.length : Int) = (n : Int)) && as.all Atom.isNum) = true := h
    rw [Bool.and_eq_true] at h2
    have := of_decide_eq_true h2.1
    show (as.map Atom.val).length = n
    rw [List.length_map]
    omega
  | tup as =>
    have h2 : (decide ((as.length : Int) = (n : Int)) && as.all Atom.isNum) = true := h
    rw [Bool.and_eq_true] at h2
    have := of_decide_eq_true h2.1
    show (as.map Atom.val).length = n
    rw [List.length_map]
    omega
/-- what shows two, in the law's eye: two are above -/
theorem looks_many {n : Nat} {m : List (List Rat)} (K : Known n m) {d : Dat} (h : looks m d = true) : 2 ≤ aboveOf m := by
  cases d with
  | atom a => cases h
  | dct => cases h
  | lst xs => cases h
  | tup xs =>
    match xs, h with
    | [], h => cases h
    | [a], h => cases h
    | a :: b :: c :: r, h => cases h
    | [a, b], h =>
      have h2 : (a.nums m.length && (b.nums m.length && shows m a.vals b.vals)) = true := h
      rw [Bool.and_eq_true, Bool.and_eq_true] at h2
      obtain ⟨h3, h4, h5⟩ := h2
      have hl := K.sq.len
      exact shows_many K (by rw [nums_lenN h3, hl]) (by rw [nums_lenN h4, hl]) h5
end
end On
set_option Elab.async false
set_option linter.all false
set_option maxRecDepth 100000
set_option maxHeartbeats 8000000
/-! _law_right. -/
namespace On
open PySem PySem.Spec PyProof.Rows L2
section
variable {P : Program} {w : World} {K : PySem.W.Frag} {mg : Str → Option Value} {base : Heap} {C : Addr}
def spRight : Sp := PuP (γ := Unit) (fun p _ vs _ => vs = [.ref p]) fun _ _ v _ => v = .bl true
theorem c__law_right (T : Txt P w K mg base C) : CalG P w K mg base 51 "_law_right" spRight := by
  refine calG_by (N := N_law_right) T.d_law_right sc_law_right (fun _ _ _ _ _ _ us hl => match us, hl with | [_], _ => rfl) (lenP fun p g vs H e => by rw [e] <;> rfl) fun f cdv A outer s H vs Q E hgd hr h => ?_
  obtain ⟨p, _, G, st, rfl, q⟩ := h
  have own : Own0 (cxOf CX0 P w K mg base N_law_right "_law_right" (defScope s_law_right) f cdv A outer s H E).nox := ⟨rfl, rfl, hgd⟩
  refine ⟨_, (pss_cons (ps_set (i := 1) sc_law_right.nd rfl (by first | exact Or.inl rfl | exact Or.inr rfl) (pe_op (opAdd T hr (by decide)) pe_int (C8.pe_c (c__law_draw T) hr (by decide) rfl (pa_cons (pv 0) (pa_cons pe_int pa_nil))))) (pss_cons (ps_set (i := 2) sc_law_right.nd rfl (by first | exact Or.inl rfl | exact Or.inr rfl) (C8.pe_c (c__law_table T) hr (by decide) rfl (pa_cons (pv 0) (pa_cons (pv 1) pa_nil)))) (pss_cons (ps_par (i := 3) (j := 4) rfl sc_law_right.nd rfl rfl (by decide) rfl rfl (pa_cons (C8.pe_c (c__law_given T) hr (by decide) rfl (pa_cons (pv 0) (pa_cons (pv 2) pa_nil))) (pa_cons (pe_ix (r := rIxLT K) ix_lt (C8.pe_c (c__law_signs T) hr (by decide) rfl (pa_cons (pv 2) pa_nil)) pe_int (fun _ _ => rfl)) pa_nil)) (by rfl)) (pss_cons (ps_par (i := 5) (j := 6) rfl sc_law_right.nd rfl rfl (by decide) rfl rfl (pa_cons (pe_callB (call_repr _) (by rfl) T.n_repr bo_repr (pa_cons (pv 3) pa_nil)) (pa_cons (C8.pe_c (c_two_above T) hr (by decide) rfl (pa_cons (pv 3) pa_nil)) pa_nil)) (by rfl)) (pss_cons (ps_if (PW.pt (pw_or (pt_cmpR (cmNe T hr (by decide)) (pe_cmpR op_isN (pv 6) pe_non (nomark _)) (pe_cmpR op_lt (pv 4) pe_int (nomark _)) (nomark _)) (pw_or1 (PW.pt (pw_and (pt_cmpR op_notN (pv 6) pe_non (nomark _)) (pw_and1 (pt_not (pt_val (C8.pe_c (c__law_looks T) hr (by decide) rfl (pa_cons (pv 2) (pa_cons (pv 6) pa_nil))))))))))) (pss_one (ps_ret pe_bl)) pss_nil) (pss_cons (ps_if (PW.pt (pw_and (pt_cmpR op_notN (pv 6) pe_non (nomark _)) (pw_and1 (pt_not (pt_val (pe_callB (call_allB rfl) (by rfl) T.n_all bo_all (pa_cons (pe_lc (own := [("_law_one", 12)]) (g := gName 12) (tt := tYes) rfl sc_law_right.nd (pi_tup (pv 6)) (blkOk_by (own := [("_law_one", 12)]) (by kernel_rfl)) (fun _ _ _ _ _ => (pg_name (i := 12) sc_law_right.nd rfl (by first | exact Or.inl rfl | exact Or.inr rfl))) (fun _ _ _ _ _ => pts_nil) (fun _ _ _ _ _ => (pe_and (pe_callB (r := rIsi K) call_isi (by rfl) T.n_isinstance bo_isinstance (pa_cons (pv 12) (pa_cons (pe_bltn (v := .ty "list") rfl T.n_list bo_list rfl) pa_nil))) (pe_one (pe_callB (call_allB rfl) (by rfl) T.n_all bo_all (pa_cons (pe_lc (wi := iList K (tVar 12)) (own := [("_law_part", 13)]) (g := gName 13) (tt := tYes) rfl sc_law_right.nd (pi_list (pv 12)) (blkOk_by (own := [("_law_part", 13)]) (by kernel_rfl)) (fun _ _ _ _ _ => (pg_name (i := 13) sc_law_right.nd rfl (by first | exact Or.inl rfl | exact Or.inr rfl))) (fun _ _ _ _ _ => pts_nil) (fun _ _ _ _ _ => (pe_callB (r := rIsi K) call_isi (by rfl) T.n_isinstance bo_isinstance (pa_cons (pv 13) (pa_cons (pe_gc rfl T.g_Ratio) pa_nil))))) pa_nil)))))) pa_nil))))))) (pss_one (ps_ret pe_bl)) pss_nil) (pss_cons (ps_set (i := 7) sc_law_right.nd rfl (by first | exact Or.inl rfl | exact Or.inr rfl) (pe_callB (call_repr _) (by rfl) T.n_repr bo_repr (pa_cons (pv 6) pa_nil))) (pss_cons (ps_set (i := 8) sc_law_right.nd rfl (by first | exact Or.inl rfl | exact Or.inr rfl) (pe_ckw (ck_two_above T) hr (by decide) rfl (pk_cons (pv 3) pk_nil))) (pss_cons (ps_if (pt_cmpR (cmNe T hr (by decide)) (pe_callB (call_repr _) (by rfl) T.n_repr bo_repr (pa_cons (pv 8) pa_nil)) (pv 7) (nomark _)) (pss_one (ps_ret pe_bl)) pss_nil) (pss_cons (ps_if (pt_cmpR op_notN (pv 8) pe_non (nomark _)) (pss_cons (ps_expr (pe_bm PySem.F.plainAttrs_list PySem.F.slot_list_append PySem.F.type_list_append mt_append (pe_ix (r := rIxLT K) ix_lt (pv 8) pe_int (fun _ _ => rfl)) (pa_cons pe_non pa_nil))) (pss_cons (ps_expr (pe_bm0 PySem.F.plainAttrs_list PySem.F.slot_list_pop PySem.F.type_list_pop mt_pop (pe_ix (r := rIxLT K) ix_lt (pv 8) pe_int (fun _ _ => rfl)))) (pss_one (ps_if (PW.pt (pw_or (pt_cmpR (cmNe T hr (by decide)) (pe_callB (call_repr _) (by rfl) T.n_repr bo_repr (pa_cons (pe_lst (pa_cons (pv 6) (pa_cons (C8.pe_c (c_two_above T) hr (by decide) rfl (pa_cons (pv 3) pa_nil)) pa_nil))) pa_nil)) (pe_callB (call_repr _) (by rfl) T.n_repr bo_repr (pa_cons (pe_op op_rep (pe_lst (pa_cons (pv 6) pa_nil)) pe_int) pa_nil)) (nomark _)) (pw_or1 (pt_cmpR (cmNe T hr (by decide)) (pe_callB (call_repr _) (by rfl) T.n_repr bo_repr (pa_cons (pv 6) pa_nil)) (pv 7) (nomark _))))) (pss_one (ps_ret pe_bl)) pss_nil)))) pss_nil) (pss_cons (ps_for PassesOwn.never rfl (pi_list (pe_op (opAdd T hr (by decide)) (pe_lst (pa_cons (pv 6) pa_nil)) (C8.pe_c (c__law_values T) hr (by decide) rfl (pa_cons (pv 0) (pa_cons (pv 2) (pa_cons (pv 6) pa_nil)))))) (pg_name (i := 9) sc_law_right.nd rfl (by first | exact Or.inl rfl | exact Or.inr rfl)) (pss_cons (ps_set (i := 10) sc_law_right.nd rfl (by first | exact Or.inl rfl | exact Or.inr rfl) (C8.pe_c (c__law_looks T) hr (by decide) rfl (pa_cons (pv 2) (pa_cons (pv 9) pa_nil)))) (pss_cons (ps_set (i := 11) sc_law_right.nd rfl (by first | exact Or.inl rfl | exact Or.inr rfl) (pe_ifExp (pt_cmpR (cmEq T hr (by decide)) (C8.pe_c (c__law_draw T) hr (by decide) rfl (pa_cons (pv 0) (pa_cons pe_int pa_nil))) pe_int (nomark _)) (C8.pe_c (c_is_two_above T) hr (by decide) rfl (pa_cons (pv 3) (pa_cons (pv 9) pa_nil))) (pe_ckw (ck_is_two_above T) hr (by decide) rfl (pk_cons (pv 9) (pk_cons (pv 2) pk_nil))))) (pss_one (ps_if (PW.pt (pw_or (pt_cmpR (cmNe T hr (by decide)) (pe_callB (call_repr _) (by rfl) T.n_repr bo_repr (pa_cons (pv 11) pa_nil)) (pe_callB (call_repr _) (by rfl) T.n_repr bo_repr (pa_cons (pv 10) pa_nil)) (nomark _)) (pw_or1 (PW.pt (pw_and (pt_val (pv 10)) (pw_and1 (pt_cmpR op_lt (pv 4) pe_int (nomark _)))))))) (pss_one (ps_ret pe_bl)) pss_nil))))) (pss_one (ps_ret (pe_cmpR (cmEq T hr (by decide)) (pe_callB (call_repr _) (by rfl) T.n_repr bo_repr (pa_cons (pv 3) pa_nil)) (pv 5) (nomark _))))))))))))))), ?_⟩
  -- size
  refine p_set (P := fun v _ => ∃ n : Nat, 1 ≤ n ∧ n ≤ 4 ∧ v = .int (n : Int)) (Gp.rfl st) (fun H1 s1 Q1 q1 => draw_ev (i := 0) (n := 4) rfl (Tr.pot ev_c) (by decide) (by decide) H1 s1 _ fun v G2 H2 g2 ⟨d, hd, hv⟩ => .inl ⟨1, d, rfl, hv, q1 _ G2 H2 g2 ⟨d + 1, by omega, by omega, by show V.int (1 + (d : Int)) = V.int ((d + 1 : Nat) : Int); congr 1; omega⟩⟩) ?_
  rintro _ G1 H1 x1 g1 ⟨n, hn1, hn4, rfl⟩
  -- rows
  refine p_set (P := fun v G' => ∃ m, isMat C m v G' ∧ Drawn n m) g1 (pv_call (sp := spTab C) (pa_2 (P := isV (.ref p)) (P' := isV (.int (n : Int))) (fun _ _ _ _ h => h) (fun _ _ _ _ h => h) (Tr.pot (ev_var rfl)) (Tr.pot (ev_var rfl))) fun vs G' e hp ⟨v, w', ev, hv, hw⟩ => PuP.tr (g := n) ⟨by rw [ev, hv, hw], hn1, hn4⟩) ?_
  rintro rv G2 H2 x2 g2 ⟨m, hm, dr⟩
  have hs := dr.sq
  have hen := dr.ents
  have hml := hs.len
  have KN : Known n m := known hs dr.sym hn1 hn4 (by decide) hen
  have tab : TabSz n 24 m := ⟨hs, dr.sym, hn1, hn4, by decide, by decide, hen, found_all KN⟩
  have tf : ToldFit n (twoAbove m) := told_fit KN dr.sym hen
  have tok : TabOk m := tab_rows tab
  -- given, above
  refine p_par (P := gMat C m) (P' := isNat (aboveOf m)) (fun v G G' e h => up_gMat _ _ _ _ e h) (fun _ _ _ _ h => h) g2
    (pv_call (sp := spGiven C) (pa_2 (P := isV (.ref p)) (P' := isMat C m) (fun _ _ _ _ h => h) (fun v G G' e h => up_mat _ _ _ _ e h) (Tr.pot (ev_var rfl)) (Tr.pot (ev_slot rfl hm))) fun vs G' e hp ⟨v, w', ev, hv, hw⟩ => PuP.tr (g := m) ⟨w', by rw [ev, hv], hw, by omega, fun r hr => by rw [hs.row r hr]; omega⟩)
    (Tr.pot (ev_ixTrip0 (ev_call (sp := spSigns C) (ea_1 (ev_slot rfl hm)) fun vs G' e ⟨v, ev, hv⟩ => Pu.tr (g := m) ⟨v, ev, hv, n, hs, hn4, hen⟩))) ?_
  rintro gv av G3 H3 x3 g3 hg hav
  obtain rfl : av = .int (aboveOf m : Int) := hav
  have hm3 := up_mat _ _ _ _ x3.kn hm
  obtain ⟨stay, htop⟩ := Top.given (X := (cxOf CX0 P w K mg base N_law_right "_law_right" (defScope s_law_right) f cdv A outer s H E).nox) T own (hr.mono (by decide)) hs hn1 hn4 hen hg
  have rep : ∀ {σ : L2.St} {G' : Hp}, σ[3]? = some (some gv) → Ex G3 G' → Ev (tCB (rRepr (cxOf CX0 P w K mg base N_law_right "_law_right" (defScope s_law_right) f cdv A outer s H E).nox) (tCons (tVar 3) tNil)) σ G' (isV (.str stay)) := fun {σ G'} hσ e => ev_repr (ev_var hσ) fun v G'' e2 ev => by
    rw [show v = gv from ev]
    exact htop.up (e.trans e2)
  have two : ∀ {σ : L2.St} {G' : Hp}, σ[3]? = some (some gv) → Ex G3 G' → Ev (tCall (spTwo C) [] E0 (tCons (tVar 3) tNil)) σ G' (isTold C (twoAbove m)) := fun {σ G'} hσ e => Tr.imp (P := fun v G3 => ∃ Gk, newPair C (twoAbove m) Gk v G3) (ev_call (sp := spTwo C) (ea_1 (ev_slot hσ (up_gMat _ _ _ _ e hg))) fun vs G'' e2 ⟨v, ev, hv⟩ => Tr.imp (P := newPair C (twoAbove m) G'') (Pu.tr (γ := List (List Rat)) (g := m) ⟨v, ev, hv, n, 24, tab⟩) fun v G3 _ h => ⟨G'', h⟩) fun v G'' _ h => h.elim fun _ h => pair_told h
  -- stay, told
  refine p_par (P := isV (.str stay)) (P' := isTold C (twoAbove m)) (fun _ _ _ _ h => h) (fun v G G' e h => up_told _ _ _ _ e h) g3 (Tr.pot (rep rfl Ex.rfl)) (Tr.pot (two rfl Ex.rfl)) ?_
  rintro sv tv G4 H4 x4 g4 hsv htv
  obtain rfl : sv = .str stay := hsv
  have e34 := x4.kn
  have hm4 := up_mat _ _ _ _ e34 hm3
  have hg4 := up_gMat _ _ _ _ e34 hg
  have looksT : ∀ {σ : L2.St} {G' : Hp}, σ[2]? = some (some rv) → σ[6]? = some (some tv) → Ex G4 G' → Ev (tCall (spLooks C) [] E0 (tCons (tVar 2) (tCons (tVar 6) tNil))) σ G' (isV (.bl (looks m (toldDat (twoAbove m))))) := fun {σ G'} h2 h6 e =>
    ev_call (sp := spLooks C) (PA := fun vs G => ∃ v w, vs = [v, w] ∧ isMat C m v G ∧ isDat C (toldDat (twoAbove m)) w G) (ea_2 up_mat up_dat (ev_slot h2 (up_mat _ _ _ _ e hm4)) (ev_slot h6 (told_dat (up_told _ _ _ _ e htv)))) fun vs G'' e2 ⟨v, w', ev, hv, hw⟩ => Pu.tr (γ := List (List Rat) × Dat) (g := (m, toldDat (twoAbove m))) ⟨v, w', ev, hv, hw, ⟨n, hs, hn4⟩, (told_ok tf).fits hs hn4 hen⟩
  have repT : ∀ {σ : L2.St} {G' : Hp}, σ[6]? = some (some tv) → Ex G4 G' → Ev (tCB (rRepr (cxOf CX0 P w K mg base N_law_right "_law_right" (defScope s_law_right) f cdv A outer s H E).nox) (tCons (tVar 6) tNil)) σ G' (isV (.str (toldTxt (twoAbove m)))) := fun {σ G'} hσ e => ev_repr (ev_slot hσ (up_told _ _ _ _ e htv)) fun v G'' e2 h => Top.told T own (hr.mono (by decide)) tf h
  have isnone : ∀ {σ : L2.St} {G' : Hp}, σ[6]? = some (some tv) → Ex G4 G' → Ev (tVar 6) σ G' (optOf (pairOf (isRow C) (isRow C)) (twoAbove m)) := fun hσ e => ev_slot hσ (up_told _ _ _ _ e htv)
  -- the first look
  refine p_skip g4 (EvT.is (et_or (et_test (ev_neU rfl (ev_isN (up_pair up_row up_row) (isnone rfl Ex.rfl)) (ev_int0 (ev_var rfl) ev_c))) fun _ => et_and (et_test (ev_notN (up_pair up_row up_row) (isnone rfl Ex.rfl))) fun _ => et_not (et_B (looksT rfl rfl Ex.rfl))) ?_) fun H5 g5 _ => ?_
  · cases ho : twoAbove m with
    | none =>
      have h2 := none_few KN ho
      rw [decide_eq_true (show (aboveOf m : Int) < 2 by omega)]
      rfl
    | some z =>
      obtain ⟨x, y⟩ := z
      have h2 := some_many KN ho
      obtain ⟨lx, ly, sh⟩ := two_shows KN ho
      rw [decide_eq_false (show ¬ (aboveOf m : Int) < 2 by omega), told_looks hml lx ly sh]
      rfl
  -- lists of Ratios
  have allR : EvT (tAnd (tTest (tOp (fun x y H Q => y = .non ∧ Q (.bl (!decide (x = .non))) H) (tVar 6) (tC .non))) (tNot (tB (tCB rAllB (tCons (tLc (iTup K (tVar 6)) (gName 12) tYes (tAndV (tCB (rIsi K) (tCons (tVar 12) (tCons (tC (.ty "list")) tNil))) (tCB rAllB (tCons (tLc (iList K (tVar 12)) (gName 13) tYes (tCB (rIsi K) (tCons (tVar 13) (tCons (tC (.ref C)) tNil))) [13]) tNil))) [12]) tNil))))) [some (.ref p), some (.int (n : Int)), some rv, some gv, some (.int (aboveOf m : Int)), some (.str stay), some tv, none, none, none, none, none, none, none] G4 false := by
    refine EvT.is (b := false) (a := (!(twoAbove m).isNone) && false) (et_and (et_test (ev_notN (up_pair up_row up_row) (isnone rfl Ex.rfl))) fun hso => ?_) (by cases (twoAbove m).isNone <;> rfl)
    cases ho : twoAbove m with
    | none => rw [ho] at hso; cases hso
    | some z =>
      obtain ⟨x, y⟩ := z
      rw [ho] at htv
      obtain ⟨t, a, b, xs, ys, et, ht, ha, hb, all1, all2⟩ := told_at htv
      obtain ⟨lx, ly, _, _⟩ := tf.is x y ho
      have tup : tupOf (isRow C) [x, y] tv G4 := ⟨t, _, et, ht, .cons ⟨a, xs, rfl, ha, all1⟩ (.cons ⟨b, ys, rfl, hb, all2⟩ .nil)⟩
      refine et_not (EvT.is (et_B (ev_all (ev_lc (f := fun _ : List Rat => true) up_bl (by show 2 ≤ 100000; omega) (src_tup (K := K) (ev_slot rfl tup) (fun _ => rfl) fun i r x' G' hz eG hx => ⟨et_yes, fun _ => ?_⟩)).old)) rfl)
      have hr5 : r.length ≤ 100000 := by
        match i, hz with
        | 0, hz => cases hz; omega
        | 1, hz => cases hz; omega
      refine Tr.imp (ev_andV (b := true) (ev_isi (k := .lst) T.isi (.ty _) (isa_list T _) (ev_slot (R := kindOf C) rfl (lst_kind hx))) fun _ => Tr.imp (ev_all (ev_lc (f := fun _ : Rat => true) up_bl hr5 (src_list (K := K) up_isR (ev_slot rfl hx) (fun _ => rfl) fun i q' x2 G2 hz2 eG2 hx2 => ⟨et_yes, fun _ => ev_isi (k := .rat) T.isi (.own C) (isa_ratio T _) (ev_slot (R := kindOf C) rfl hx2.kind)⟩)).old) fun v G3 _ h => ?_) fun v G3 _ h => h
      rw [show v = _ from h]
      show _ = V.bl true
      congr 1
      rw [List.all_map]
      exact List.all_eq_true.mpr fun _ _ => rfl
  refine p_skip g5 allR fun H6 g6 _ => ?_
  -- shown, again
  refine p_set g6 (Tr.pot (repT rfl Ex.rfl)) ?_
  rintro _ G7 H7 x7 g7 rfl
  have e47 := x7.kn
  refine p_set (P := fun v G' => ∃ Gk, Ex G7 Gk ∧ newPair C (twoAbove m) Gk v G') g7 (Tr.pot (ev_kw (sp := spTwo C) (gV := kw1) (ea_1 (ev_slot rfl (up_gMat _ _ _ _ e47 hg4))) fun vs G' e ⟨v, ev, hv⟩ => Tr.imp (P := newPair C (twoAbove m) G') (Pu.tr (γ := List (List Rat)) (g := m) ⟨v, ev, hv, n, 24, tab⟩) fun v G'' _ h => ⟨G', e, h⟩)) ?_
  rintro ov G8 H8 x8 g8 ⟨Gk, ek, hov⟩
  have e78 := x8.kn
  have e48 := e47.trans e78
  have hov' := pair_told hov
  refine p_skip g8 (EvT.is (et_test (ev_neU rfl (ev_repr (ev_slot (i := 8) rfl hov') fun v G'' e2 h => Top.told T own (hr.mono (by decide)) tf h) (ev_var rfl))) (by rw [decide_eq_true rfl] <;> rfl)) fun H9 g9 _ => ?_
  -- what is told anew is changed: what was told stays
  refine p_ifj (C := fun b => b = !(twoAbove m).isNone) (fun σ' G' _ => σ' = [some (.ref p), some (.int (n : Int)), some rv, some gv, some (.int (aboveOf m : Int)), some (.str stay), some tv, some (.str (toldTxt (twoAbove m))), some ov, none, none, none, none, none] ∧ Ex G7 G') g9 ((et_test (ev_notN (up_pair up_row up_row) (ev_slot (i := 8) rfl hov'))).pot.any rfl) (fun hso H10 g10 _ N hN => ?_) (fun _ H10 g10 _ => ⟨rfl, e78⟩) ?_
  · cases ho : twoAbove m with
    | none => rw [ho] at hso; cases hso
    | some z =>
      obtain ⟨x, y⟩ := z
      rw [ho] at hov htv tf two repT
      obtain ⟨t, a, b, xs, ys, et, ht, h0t, h0a, h0b, hab, ha, hb, all1, all2⟩ := hov
      subst et
      obtain ⟨lx, ly, _, _⟩ := tf.is x y rfl
      have back : ∀ {c : Addr}, Gk c = none → G7 c = none := fun h => ek.back h
      have back0 : ∀ {c : Addr}, Gk c = none → G c = none := fun h => (g7.kn).back (back h)
      obtain ⟨h1a, npa, ga⟩ := unkQ g10 (back0 h0a) ha
      have hta : t ≠ a := fun z => by rw [z, ha] at ht; cases ht
      have htb : t ≠ b := fun z => by rw [z, hb] at ht; cases ht
      have hb' : sub G8 (one a (.lst xs)) b = some (.lst ys) := by rw [sub_one (Ne.symm hab)]; exact hb
      obtain ⟨h1b, npb, gb⟩ := unkQ ga (back0 h0b) hb'
      have ht' : sub (sub G8 (one a (.lst xs))) (one b (.lst ys)) t = some (.tup [.ref a, .ref b]) := by rw [sub_one htb, sub_one hta]; exact ht
      have na : sub (sub G8 (one a (.lst xs))) (one b (.lst ys)) a = none := by rw [sub_one hab]; exact sub_self
      have nb : sub (sub G8 (one a (.lst xs))) (one b (.lst ys)) b = none := sub_self
      have e7 : Ex G7 (sub (sub G8 (one a (.lst xs))) (one b (.lst ys))) := ex_sub (ex_sub e78 (back h0a)) (back h0b)
      generalize sub (sub G8 (one a (.lst xs))) (one b (.lst ys)) = Gz at ht' na nb e7 gb
      have hA : H10 a = some (.lst xs) := g10.st.ex _ _ ha
      have hB : H10 b = some (.lst ys) := g10.st.ex _ _ hb
      have lxs : xs.length ≤ 100000 := by rw [all1.len]; omega
      have lys : 1 ≤ ys.length := by rw [all2.len]; omega
      have gA := gb.mut (o := .lst (xs ++ [.non])) npa h1a na
      have gB := gA.mut (o := .lst ys.dropLast) npb h1b nb
      have hT10 : H10 t = some (.tup [.ref a, .ref b]) := g10.st.ex _ _ ht
      have hT11 : upd H10 a (.lst (xs ++ [.non])) t = some (.tup [.ref a, .ref b]) := by rw [upd_ne hta]; exact hT10
      have hB11 : upd H10 a (.lst (xs ++ [.non])) b = some (.lst ys) := by rw [upd_ne (Ne.symm hab)]; exact hB
      have hlast : ys[ys.length - 1]? = some (ys[ys.length - 1]'(by omega)) := List.getElem?_eq_getElem (by omega)
      refine ⟨.ref t, rfl, .inr ⟨t, [.ref a, .ref b], 0, .ref a, rfl, rfl, SqT.of hT10, rfl, .inl ⟨rfl, xs, SqL.of hA⟩, a, xs, .non, rfl, rfl, hA, Nat.lt_of_le_of_lt lxs (by show _ < 2 ^ 24; decide), ?_⟩⟩
      refine ⟨.ref t, rfl, .inr ⟨t, [.ref a, .ref b], 1, .ref b, rfl, rfl, SqT.of hT11, rfl, .inl ⟨rfl, ys, SqL.of hB11⟩, b, ys, _, rfl, rfl, hB11, hlast, ?_⟩⟩
      have e4z := e47.trans e7
      have tv' := up_told _ _ _ _ e4z htv
      refine p_skipz gB (EvT.is (et_or (et_test (ev_neU rfl (ev_repr (t := listText [toldTxt (some (x, y)), toldTxt (some (x, y))]) (ev_lst (R := isTold C) (zs := [some (x, y), some (x, y)]) up_told (by show 2 ≤ 100000; omega) (ea_consR up_told (ev_slot (i := 6) rfl tv') (ea_consR up_told (two rfl (e34.trans e4z)) ea_nilR))) fun v G'' e2 h => ?_) (ev_repr (t := listText [toldTxt (some (x, y)), toldTxt (some (x, y))]) (ev_rep2 (R := isTold C) (z := some (x, y)) up_told (ev_slot (i := 6) rfl tv')) fun v G'' e2 h => ?_))) fun _ => et_test (ev_neU rfl (repT rfl e4z) (ev_var rfl))) ?_) fun H12 g12 _ => ?_
      · obtain ⟨q1, us, rfl, _, hq, all⟩ := h
        cases all with
        | cons k1 k2 =>
          cases k2 with
          | cons k2 k3 =>
            cases k3
            exact Top.two T own (hr.mono (by decide)) tf k1 k2 hq
      · obtain ⟨q1, us, rfl, _, hq, all⟩ := h
        cases all with
        | cons k1 k2 =>
          cases k2 with
          | cons k2 k3 =>
            cases k3
            exact Top.two T own (hr.mono (by decide)) tf k1 k2 hq
      · simp
      · exact hN _ _ _ g12 ⟨by rw [ho]; rfl, e7⟩
  rintro σ' Ga Ha ga ⟨rfl, e7a⟩
  have e4a := e47.trans e7a
  have hmA := up_mat _ _ _ _ e4a hm4
  have hgA := up_gMat _ _ _ _ e4a hg4
  have htA := up_told _ _ _ _ e4a htv
  have okT : okD C () tv Ga := ⟨toldDat (twoAbove m), told_dat htA, told_ok tf⟩
  -- the values
  refine p_forP (S := okD C) (N := 1001) up_okD ga (fun H1 s1 Q1 q1 => ?_) (fun σ' _ => ∃ o9 o10 o11, σ' = [some (.ref p), some (.int (n : Int)), some rv, some gv, some (.int (aboveOf m : Int)), some (.str stay), some tv, some (.str (toldTxt (twoAbove m))), some ov, o9, o10, o11, none, none]) (fun _ _ _ _ => ⟨_, _, _, rfl⟩) ?_ ?_
  · refine (Tr.pot (ev_lst (R := okD C) (zs := [()]) up_okD (by show 1 ≤ 100000; omega) (ea_consR up_okD (ev_slot (i := 6) rfl okT) ea_nilR))) H1 s1 _ fun v Gb H2 gb ⟨a, xs, ev, _, ha, all⟩ => ?_
    refine (pv_call (sp := spVals C) (pa_3 (P := isV (.ref p)) (P' := isMat C m) (P'' := isTold C (twoAbove m)) (fun _ _ _ _ h => h) (fun v G G' e h => up_mat _ _ _ _ e h) (fun v G G' e h => up_told _ _ _ _ e h) (Tr.pot (ev_var rfl)) (Tr.pot (ev_slot (i := 2) rfl (up_mat _ _ _ _ gb.kn hmA))) (Tr.pot (ev_slot (i := 6) rfl (up_told _ _ _ _ gb.kn htA)))) fun vs G' e hp ⟨v, w', u, ev, hv, hw, hu⟩ => (PuP.tr (γ := List (List Rat) × Option (List Rat × List Rat)) (g := (m, twoAbove m)) ⟨w', u, by rw [ev, hv], hw, hu, n, hs, hn1, hn4, hen, told_toldOk tf⟩ : TrP p _ _ (fun v G => ∃ us, lstOf (okD C) us v G ∧ us.length ≤ 1000))) H2 gb.st _ fun w' Gc H3 gc ⟨us, ⟨b, ys, ew, hb, all2⟩, hl⟩ => ?_
    have lx : xs.length = 1 := all.len
    refine .inr (.inr ⟨a, b, xs, ys, ev, ew, gc.st.ex _ _ (gc.kn _ _ ha), gc.st.ex _ _ hb, by rw [lx, all2.len]; exact Nat.le_trans (Nat.add_le_add_left hl 1) (by show _ ≤ 2 ^ 24; decide), fun c hc => ?_⟩)
    exact q1 (.ref c) (upd Gc c (.lst (xs ++ ys))) _ ((gb.trans gc).trans (Gp.of gc.st (Grow.new gc.st.ex hc))) ⟨[()] ++ us, ⟨c, _, rfl, upd_same, ((all.mono fun _ _ r => up_okD _ _ _ _ (gc.kn.trans (Ex.new (gc.st.ex.back hc))) r).append (all2.mono fun _ _ r => up_okD _ _ _ _ (Ex.new (gc.st.ex.back hc)) r))⟩, by rw [List.length_append, List.length_singleton]; omega⟩
  · rintro ⟨⟩ xv σ' Gb Hb ⟨d, hd, hok⟩ eb gb ⟨o9, o10, o11, rfl⟩ N hN
    have hfit := hok.fits hs hn4 hen
    have hmB := up_mat _ _ _ _ eb hmA
    have hgB := up_gMat _ _ _ _ eb hgA
    -- due
    refine p_set gb (Tr.pot (ev_call (sp := spLooks C) (PA := fun vs G => ∃ v w, vs = [v, w] ∧ isMat C m v G ∧ isDat C d w G) (ea_2 up_mat up_dat (ev_slot (i := 2) rfl hmB) (ev_slot (i := 9) rfl hd)) fun vs G'' e2 ⟨v, w', ev, hv, hw⟩ => (Pu.tr (γ := List (List Rat) × Dat) (g := (m, d)) ⟨v, w', ev, hv, hw, ⟨n, hs, hn4⟩, hfit⟩ : Tr _ _ (isV (.bl (looks m d)))))) ?_
    rintro _ Gc Hc xc gc rfl
    have hmC := up_mat _ _ _ _ xc.kn hmB
    have hgC := up_gMat _ _ _ _ xc.kn hgB
    have hdC := up_dat _ _ _ _ xc.kn hd
    -- found
    refine p_set (P := isV (.bl (looks m d))) gc (pv_if (C := fun _ => True) (pq_test (drawEq (n := 2) (i := 0) rfl (by decide) (by decide))) (fun _ => Tr.pot (ev_call (sp := spIs C) (PA := fun vs G => ∃ v w, vs = [v, w] ∧ gMat C m v G ∧ isDat C d w G) (ea_2 up_gMat up_dat (ev_slot (i := 3) rfl hgC) (ev_slot (i := 9) rfl hdC)) fun vs G'' e2 ⟨v, w', ev, hv, hw⟩ => Pu.tr (γ := List (List Rat) × Dat) (g := (m, d)) ⟨v, w', ev, hv, hw, tok, hfit⟩))
      (fun _ => Tr.pot (ev_kw (sp := spIs C) (gV := kw2) (PA := fun vs G => ∃ v w, vs = [v, w] ∧ isDat C d v G ∧ isMat C m w G) (ea_2 up_dat up_mat (ev_slot (i := 9) rfl hdC) (ev_slot (i := 2) rfl hmC)) fun vs G'' e2 ⟨v, w', ev, hv, hw⟩ => by
        subst ev
        exact Pu.tr (γ := List (List Rat) × Dat) (g := (m, d)) ⟨w', v, rfl, mat_g hw, hv, tok, hfit⟩))) ?_
    rintro _ Gd Hd xd gd rfl
    refine p_skipz gd (EvT.is (et_or (et_test (ev_neU rfl (ev_repr (t := boolText (looks m d)) (ev_var (i := 11) rfl) fun v G'' e2 h => ?_) (ev_repr (t := boolText (looks m d)) (ev_var (i := 10) rfl) fun v G'' e2 h => ?_))) fun _ => et_and (et_B (ev_var (i := 10) rfl)) fun _ => et_test (ev_int0 (ev_var (i := 4) rfl) ev_c)) ?_) fun He ge _ => ?_
    · rw [show v = _ from h]
      exact Top.bl _ _
    · rw [show v = _ from h]
      exact Top.bl _ _
    · rw [decide_eq_true rfl]
      cases hlk : looks m d with
      | false => rfl
      | true =>
        have := looks_many KN hlk
        rw [decide_eq_false (show ¬ (aboveOf m : Int) < 2 by omega)]
        rfl
    · exact hN _ Gd He (xc.kn.trans xd.kn) ge ⟨_, _, _, rfl⟩
  · rintro σ' Gb Hb eb gb ⟨o9, o10, o11, rfl⟩
    refine p_ret gb (Tr.pot (ev_eqU rfl (rep rfl ((e34.trans e4a).trans eb)) (ev_var rfl))) fun v Gc Hc xc gc ev => q v Gc Hc gc ?_
    rw [show v = _ from ev, decide_eq_true rfl]
end
end On
set_option Elab.async false
set_option linter.all false
set_option maxRecDepth 100000
set_option maxHeartbeats 8000000
/-! law; the call of it. -/
namespace On
open PySem PySem.Spec PyProof.Rows L2
/-- a list of ints, tracked or the module's own -/
def sqOf (K : PySem.W.Frag) (zs : List Int) : V → Hp → Prop := fun v H => ∃ a, v = .ref a ∧ SqL K H a (zs.map V.int)
theorem up_sqo {K : PySem.W.Frag} : Up (sqOf K) := fun zs v H H' e ⟨a, ev, h⟩ => ⟨a, ev, h.imp (fun r => r.imp (fun q => e _ _ q) fun ⟨o, q⟩ => ⟨o, e _ _ q⟩) fun q => q⟩
section
variable {K : PySem.W.Frag} {σ : L2.St} {H : Hp} {ta tb : TE} {zs : List Int}
theorem ev_lenS (h : Ev ta σ H (sqOf K zs)) : Ev (tCB (rLen K) (tCons ta tNil)) σ H (isV (.int zs.length)) :=
  ev_cb (ea_1 h) fun vs G e ⟨v, ev, a, ex, hs⟩ => Tr.same (v := .int zs.length) rfl fun H1 e1 Q q => by
    subst ex
    obtain ⟨b, eb, hs'⟩ := up_sqo _ _ _ _ e1 ⟨a, rfl, hs⟩
    cases eb
    exact ⟨a, _, ev, .inl hs', by rw [List.length_map]; exact q⟩
theorem ev_ixS0 {k i : Nat} (hk : k < zs.length) (h : Ev ta σ H (sqOf K zs)) (hi : σ[i]? = some (some (.int (k : Int))) := by rfl) : Ev (tOp (rIxLT K) ta (tVar i)) σ H (isV (.int zs[k])) := fun H1 e Q q =>
  h H1 e _ fun v G H2 g ⟨a, ev, hs⟩ => by
    obtain ⟨b, eb, hs'⟩ := up_sqo _ _ _ _ g.re ⟨a, rfl, hs⟩
    cases eb
    refine ⟨.int (k : Int), hi, .inl ⟨a, _, (k : Int), _, ev, rfl, hs', atI_nat (v := V.int zs[k]) ?_, q _ G H2 g rfl⟩⟩
    rw [List.getElem?_map, List.getElem?_eq_getElem hk] <;> rfl
end
section
variable {P : Program} {w : World} {K : PySem.W.Frag} {mg : Str → Option Value} {base : Heap} {C : Addr}
def spPot2 (K : PySem.W.Frag) : Sp := Pu (γ := List Int × Nat) (fun g vs H => ∃ v w, vs = [v, w] ∧ (sqOf K g.1 v H ∧ w = .int (g.2 : Int) ∧ g.2 ≤ 1000)) fun g H v G => newPot H v G
theorem c__law_pot2 (T : Txt P w K mg base C) : C8.Cal P w K mg base 41 "_law_pot" (spPot2 K) [] := by
  refine cal_by T.d_law_pot sc_law_pot (fun _ _ _ _ _ _ us hl => match us, hl with | [_, _], _ => rfl) len_2 fun f cdv A outer s H vs Q E hr h => ?_
  obtain ⟨⟨zs, k⟩, G, e, ⟨v, _, rfl, hv, rfl, hk⟩, q⟩ := h
  have hk : k ≤ 1000 := hk
  refine ⟨_, (pss_cons (ps_set (i := 2) sc_law_pot.nd rfl (by first | exact Or.inl rfl | exact Or.inr rfl) (pe_ifExp (pt_cmpR op_lt (pv 1) (pe_callB (r := rLen K) call_len_lt (by rfl) T.n_len bo_len (pa_cons (pv 0) pa_nil)) (nomark _)) (pe_callB call_abs (by rfl) T.n_abs bo_abs (pa_cons (pe_ix (r := rIxLT K) ix_lt (pv 0) (pv 1) (fun _ _ => rfl)) pa_nil)) (pe_op op_add (pe_op op_mulX pe_int (pv 1)) pe_int))) (pss_one (ps_ret (pe_lst (pa_cons (pe_callB (call_max2 rfl) (by rfl) T.n_max bo_max (pa_cons pe_int (pa_cons (pe_op op_sub (pv 2) (pe_op op_pow pe_int pe_int)) pa_nil))) (pa_cons (pe_op op_add (pe_op op_mod (pe_callTy call_int1 (by rfl) T.n_int bo_int (pa_cons (pe_op op_add (pe_op op_add (pe_op op_mulX (pe_op op_mod (pe_callTy call_int1 (by rfl) T.n_int bo_int (pa_cons (pv 2) pa_nil)) pe_int) pe_int) (pe_op op_mulX pe_int (pv 1))) pe_int) pa_nil)) pe_int) pe_int) pa_nil)))))), ?_⟩
  refine t_set (P := fun v _ => ∃ c : Int, v = .int c) (Grow.rfl e) (ev_if (et_test (ev_int0 (ev_var (v := .int (k : Int)) rfl) (ev_lenS (ev_slot rfl hv)))) (fun hb => ?_) fun _ => Tr.imp (ev_int0 (ev_int2 (mulS (by decide) (by omega)) ev_c (ev_var (v := .int (k : Int)) rfl)) ev_c) fun _ _ _ h => ⟨_, h⟩) ?_
  · have hlt : k < zs.length := by
      have h2 : (k : Int) < (zs.length : Int) := of_decide_eq_true hb
      omega
    exact Tr.imp (ev_abs (ev_ixS0 hlt (ev_slot rfl hv))) fun _ _ _ h => ⟨_, h⟩
  rintro _ G1 H1 e1 g1 ⟨c, rfl⟩
  have hm := Int.emod_nonneg c (show (2147483549 : Int) ≠ 0 by decide)
  have hm2 := Int.emod_lt_of_pos c (show (0 : Int) < 2147483549 by decide)
  have hpow : CPow 10 18 := ⟨by decide, by decide, by decide⟩
  refine s_ret (P := newL isInt [if c - 10 ^ 18 > 0 then c - 10 ^ 18 else 0, (c % 2147483549 * 40177 + 1019 * (k : Int) + 107) % 2147483563 + 1] G1) g1 (ev_lst up_int (by show 2 ≤ 100000; omega) (ea_consR up_int (ev_max ev_c (ev_int0 (ev_var (v := .int c) rfl) (ev_int2 (C := CPow) hpow ev_c ev_c))) (ea_consR up_int
    (ev_int0 (ev_mod (by decide) (ev_int1 (ev_int0 (ev_int0 (ev_int2 (mulS (by omega) (by decide)) (ev_mod (by decide) (ev_int1 (ev_var (v := .int c) rfl)) ev_c) ev_c) (ev_int2 (mulS (by decide) (by omega)) ev_c (ev_var (v := .int (k : Int)) rfl))) ev_c)) ev_c) ev_c) ea_nilR))) fun v' G2 H2 g2 p => q v' G2 H2 g2 ?_
  obtain ⟨p', xs, rfl, h1, h2, h3⟩ := p
  cases h3 with
  | cons r1 t1 =>
    cases t1 with
    | cons r2 t2 =>
      cases t2
      cases r1
      cases r2
      have a1 := Int.emod_nonneg (c % 2147483549 * 40177 + 1019 * (k : Int) + 107) (show (2147483563 : Int) ≠ 0 by decide)
      have a2 := Int.emod_lt_of_pos (c % 2147483549 * 40177 + 1019 * (k : Int) + 107) (show (0 : Int) < 2147483563 by decide)
      exact ⟨p', _, _, rfl, g1.kn.back h1, h2, by split <;> omega, by omega, by omega⟩
/-- _law_right(a new pot) -/
theorem ev_right {σ : L2.St} {G : Hp} {te : TE} (h : Ev te σ G fun v G' => ∃ Gk, Ex G Gk ∧ newPot Gk v G') : Ev (tCall spRight [] E0 (tCons te tNil)) σ G (isV (.bl true)) := fun H1 e Q q =>
  h H1 e _ fun v G1 H2 g1 ⟨Gk, ek, p, a, b, ev, hp, hG, h1, h2, h3⟩ => by
    subst ev
    have h1p : H1 p = none := by
      cases hq : H1 p with
      | none => rfl
      | some u =>
        have := g1.fr p (ek.back hp) (by rw [hq]; exact Option.some_ne_none _)
        rw [hG] at this
        cases this
    refine ⟨p, (), sub G1 (one p (.lst [.int a, .int b])), ⟨sub_ex.trans g1.re, sub_self, ⟨a, b, g1.re _ _ hG, h1, h2, h3⟩⟩, rfl, fun v' G3 H3 gp hv => q v' G H3 ((Grow.rfl e).more fun x u hx => ?_) hv⟩
    have hxp : x ≠ p := fun z => by rw [z, h1p] at hx; cases hx
    exact gp.ol x u hxp (g1.ol x u hx)
def spLaw (K : PySem.W.Frag) : Sp := fun vs H Q _ => ∃ (a : Addr) (ns : List Int), vs = [.ref a] ∧ SqL K H a (ns.map V.int) ∧ ∀ F, Q (.bl true) F
theorem law_body (T : Txt P w K mg base C) (f : Addr) : BodyG P w K mg base 51 N_law "law" s_law f (spLaw K) := by
  intro cdv A outer s H vs Q E hgd hr h
  obtain ⟨a, ns, rfl, hs, q⟩ := h
  refine ⟨_, (pss_one (ps_ret (pe_callB (call_allB rfl) (by rfl) T.n_all bo_all (pa_cons (pe_lc (own := [("_law_k", 1)]) (g := gName 1) (tt := tYes) rfl sc_law.nd (pi_range1 rfl T.n_range (pa_cons (pe_callB (call_max2 rfl) (by rfl) T.n_max bo_max (pa_cons pe_int (pa_cons (pe_callB (call_min2 rfl) (by rfl) T.n_min bo_min (pa_cons pe_int (pa_cons (pe_callB (r := rLen K) call_len_lt (by rfl) T.n_len bo_len (pa_cons (pv 0) pa_nil)) pa_nil))) pa_nil))) pa_nil)) (blkOk_by (own := [("_law_k", 1)]) (by kernel_rfl)) (fun _ _ _ _ _ => (pg_name (i := 1) sc_law.nd rfl (by first | exact Or.inl rfl | exact Or.inr rfl))) (fun _ _ _ _ _ => pts_nil) (fun _ _ _ _ _ => (pe_cG (c__law_right T) hgd (hr.mono (by decide)) rfl (pa_cons (C8.pe_c (c__law_pot2 T) hr (by decide) rfl (pa_cons (pv 0) (pa_cons (pv 1) pa_nil))) pa_nil)))) pa_nil)))), ?_⟩
  have hv : sqOf K ns (.ref a) H := ⟨a, rfl, hs⟩
  generalize hL : (if (if (ns.length : Int) < 2 then (ns.length : Int) else 2) > 1 then (if (ns.length : Int) < 2 then (ns.length : Int) else 2) else 1) = L
  have hL1 : 1 ≤ L ∧ L ≤ 2 := by
    rw [← hL]
    split <;> split <;> omega
  have hn : L = ((L.toNat : Nat) : Int) := by omega
  have rng : EvA (tCons (tCB (fun xs H Q => ∃ i j, xs = [.int i, .int j] ∧ Q (.int (if j > i then j else i)) H) (tCons (tC (.int 1)) (tCons (tCB (fun xs H Q => ∃ i j, xs = [.int i, .int j] ∧ Q (.int (if j < i then j else i)) H) (tCons (tC (.int 2)) (tCons (tCB (rLen K) (tCons (tVar 0) tNil)) tNil))) tNil))) tNil) [some (.ref a), none] H fun vs _ => vs = [.int ((L.toNat : Nat) : Int)] := by
    have h1 := ea_1 (ev_max (σ := [some (.ref a), none]) (H := H) (i := 1) ev_c (ev_min (i := 2) ev_c (ev_lenS (K := K) (ev_slot (i := 0) rfl hv))))
    intro H1 e Q1 q1
    refine h1 H1 e Q1 fun vs G H2 g ⟨v, ev, hv⟩ => q1 vs G H2 g ?_
    rw [ev, show v = _ from hv, hL, ← hn]
  refine s_ret (Grow.rfl Ex.rfl) (ev_all (ev_lc (f := fun _ : Nat => true) up_bl (by rw [List.length_range]; omega) (src_range (n := L.toNat) rng (by omega) (fun _ => rfl) fun i G1 hi e1 => ⟨et_yes, fun _ => ev_right (ev_call (sp := spPot2 K) (PA := fun vs G => ∃ v w, vs = [v, w] ∧ sqOf K ns v G ∧ w = .int (i : Int)) (fun H2 e2 Q2 q2 => ea_2 up_sqo up_isV (ev_slot (i := 0) rfl (up_sqo _ _ _ _ e1 hv)) (ev_var (v := .int (i : Int)) rfl) H2 e2 Q2 q2) fun vs G2 e2 ⟨v, w, ev, hv2, hw⟩ => Tr.imp (P := newPot G2) (Pu.tr (γ := List Int × Nat) (g := (ns, i)) ⟨v, w, ev, hv2, hw, by show i ≤ 1000; omega⟩) fun v' G3 _ h => ⟨G2, e2, h⟩)⟩)).old) fun v G2 H2 g ev => ?_
  rw [show v = _ from ev]
  have : ((List.range L.toNat).map fun _ => true).all id = true := by
    rw [List.all_map]
    exact List.all_eq_true.mpr fun _ _ => rfl
  rw [this]
  exact q H2
end
end On
set_option Elab.async false
set_option linter.all false
set_option maxRecDepth 100000
set_option maxHeartbeats 8000000
/-! The law's call behind the top: nothing that is brought in is overseen, no repr is under way. -/
namespace On
open PySem PySem.Spec PyProof.Rows L2
section
variable {P : Program} {w : World} {K : PySem.W.Frag} {mg mb : Str → Option Value} {k : Nat} {fa a : Addr} {fd : FuncData} {x : Str} {sp : Sp} {z : Shared} {vs : List Value} {ns : List Int}
/-- the script, as the layer knows it -/
theorem script_known (KX : K.In z.heap) (ha : z.heap.get? a = some { cls := .type "list", data := .seq vs.toArray }) (hi : IntsAre vs ns) (hl : ns.length ≤ sizeLine) :
    ∃ H : Hp, Only H ∧ SqL K H a (ns.map V.int) ∧ HOk P w H z.heap ∧ ∀ b, H b ≠ none → b = a ∧ K.lookup a = none := by
  have rel := vals_ints hi
  have few := hi.length
  cases own : K.lookup a with
  | some o =>
    have same := KX a o own
    rw [ha] at same
    cases same
    exact ⟨fun _ => none, fun _ => .inl rfl, .inr ⟨_, vs.toArray, _, own, rfl, rfl, rfl, by rw [List.size_toArray, few]; exact hl, by simpa using rel⟩, (fun b u q => by cases (show (none : Option HO) = some u from q)), fun b q => absurd rfl q⟩
  | none =>
    let o : Obj := { cls := .type "list", data := .seq vs.toArray }
    let F : Hp := fun b => if b = a then some (.frz o (.lst (ns.map V.int))) else none
    have at_ : F a = some (.frz o (.lst (ns.map V.int))) := if_pos rfl
    have off : ∀ b, b ≠ a → F b = none := fun b h => if_neg h
    refine ⟨F, fun b => ?_, .inl (.inr ⟨o, at_⟩), fun b u q => ?_, fun b q => ?_⟩
    · by_cases h : b = a
      · exact .inr ⟨o, _, by rw [h]; exact at_⟩
      · exact .inl (off b h)
    · by_cases h : b = a
      · subst h
        rw [at_] at q
        cases q
        exact ⟨ha, by rw [List.length_map]; exact hl, vs, _, rel, ha⟩
      · rw [off b h] at q
        cases q
    · by_cases h : b = a
      · exact ⟨h, rfl⟩
      · exact absurd (off b h) q
theorem law_callG (KX : K.In z.heap) (hns : z.heap.Ns mainGlobals mg) (hb : z.heap.Ns builtinsNs mb) (hbb : ∀ x : Str, x ≠ "__name__" → mb x = bootBuiltins x) (lim : z.heap.NoLimit) (seer : z.heap.NoSeer) (hg : z.gens = #[])
    (ha : z.heap.get? a = some { cls := .type "list", data := .seq vs.toArray }) (hi : IntsAre vs ns) (hl : ns.length ≤ sizeLine) (hr : Room k callerA)
    (F : ∀ base : Heap, K.In base → base.Ns mainGlobals mg → base.NoSeer → FnG P w K mg base k fa fd [x] sp) (hbind : ∀ (s : Shared) (u : Value), BindsTo s fd ⟨[u], []⟩ [(x, u)])
    (hsp : ∀ H : Hp, SqL K H a (ns.map V.int) → sp [.ref a] H (fun v _ => v = .bl true) E0) :
    codeAny (model P w) callerA (.call (.ref fa) ⟨[.ref a], []⟩) (fun r s' => r = .ok (.ret (.bool true)) ∧ OldK z.heap s'.heap ∧ s'.os = z.os ∧ AllBare s'.gens) z := by
  obtain ⟨H, only, hS, hok, one_⟩ := script_known (P := P) (w := w) KX ha hi hl
  have seen : ∀ {b : Addr} {o : Obj}, z.heap.get? b = some o → (b = a → False) → (hidT z.heap H).get? b = some o := fun {b o} e h => hidT_get e (by
    cases q : H b with
    | none => rfl
    | some u => exact (h (one_ b (by rw [q]; exact Option.some_ne_none _)).1).elim)
  have dict_ : ∀ {b : Addr} {m : Str → Option Value}, z.heap.Ns b m → (hidT z.heap H).Ns b m := fun {b m} h => by
    obtain ⟨o, es, ep, e, d, r⟩ := h
    refine ⟨o, es, ep, seen e fun q => ?_, d, r⟩
    subst q
    rw [ha] at e
    cases e
    cases d
  have mods_ : ∀ {b : Addr} {o : Obj}, z.heap.get? b = some o → o.cls = .type "module" → (hidT z.heap H).get? b = some o := fun {b o} e c => seen e fun q => by
    subst q
    rw [ha] at e
    cases e
    exact absurd (show Value.type "list" = Value.type "module" from c) (by decide)
  have KB : K.In (hidT z.heap H) := fun b o e => hidT_get (KX b o e) (by
    cases q : H b with
    | none => rfl
    | some u =>
      obtain ⟨h1, h2⟩ := one_ b (by rw [q]; exact Option.some_ne_none _)
      subst h1
      rw [h2] at e
      cases e)
  have limB : (hidT z.heap H).NoLimit := by
    obtain ⟨mc, h1, h2⟩ := lim
    exact ⟨mc, dict_ h1, h2⟩
  have seerB : (hidT z.heap H).NoSeer := by
    obtain ⟨⟨m1, s1, s2, s3⟩, ⟨m2, s4, s5⟩, ⟨m3, s6, s7⟩, m4, bm, ob, s8, s9, s10, s11, s12⟩ := seer
    exact ⟨⟨m1, dict_ s1, s2, s3⟩, ⟨m2, dict_ s4, s5⟩, ⟨m3, dict_ s6, s7⟩, m4, bm, ob, dict_ s8, s9, mods_ s10 s11, s11, s12⟩
  have env : Env0 P w K mg (hidT z.heap H) callerA [] z H :=
    ⟨rfl, ⟨KB, dict_ hns, ⟨mb, dict_ hb, hbb⟩, limB⟩, fun b o e => of_hidT e, Nat.le_of_eq (hidT_size _ _), trivial, (fun b h => nomatch h), hok, .of_eq hg⟩
  refine codeAny_mono ((F _ KB (dict_ hns) seerB).go callerA [] z H ⟨[.ref a], []⟩ [.ref a] [.ref a] _ E0 rfl hr env (hbind z (.ref a)) (.cons rfl .nil) (hsp H hS)) fun r s' h => ?_
  match r, h with
  | .error e, h => exact False.elim h
  | .ok .next, h => exact False.elim h
  | .ok .brk, h => exact False.elim h
  | .ok .cont, h => exact False.elim h
  | .ok (.ret u), h =>
    obtain ⟨v, G, o1, o2, un, okG, rv, q⟩ := h
    have q : v = .bl true := q
    subst q
    obtain rfl : u = Value.bool true := rv
    refine ⟨rfl, OldK.of_keep fun b o e => ?_, o1, o2⟩
    cases hq : H b with
    | none => exact un.keep b o e hq (fun q => nomatch q) (fun q => nomatch q)
    | some t =>
      rcases only b with n | ⟨o', l, n⟩
      · rw [hq] at n
        cases n
      · have e1 := (hok b _ n).1
        have e2 := (okG b _ (un.frzs b o' _ n)).1
        rw [e] at e1
        cases e1
        exact e2
end
/-- the law's row, from the promise of its def -/
theorem walkG {l : PySem.W.OpenLaw} {n k : Nat} {q : Program} {loose : List Str} {XP : (Str → Option Value) → Heap → Prop} {YP : World → Heap → Prop} {d : DefRec} {K : Params → PySem.W.Frag} {x : Str}
    (hn : l.most = some n) (hn2 : n ≤ sizeLine) (hdf : d.params.defaults = []) (hr : Room k callerA) (himp : importsNone q = true) (hY : ∀ (w : World) (h : Heap), YP w h → (K w.params).In h)
    (F : ∀ (w : World) (mg : Str → Option Value) (fa : Addr) (h : Heap), (K w.params).In h → h.Ns mainGlobals mg → mg d.name = some (.ref fa) →
      ∃ fd : FuncData, (∀ (s : Shared) (u : Value), BindsTo s fd ⟨[u], []⟩ [(x, u)]) ∧ ∀ base : Heap, (K w.params).In base → base.Ns mainGlobals mg → base.NoSeer → FnG l.prog w (K w.params) mg base k fa fd [x] (spLaw (K w.params))) :
    PySem.W.WalkO q loose XP YP l.row.toRowW d [] (fun f vs => PySem.call f vs) := by
  refine Att.attach_call hn hdf fun w s₀ s₁ mg mb fa o pm cd doc a vs ns G Y ho hd hcd hmg hobj hints hlen hg => ?_
  have KX := hY w _ Y
  obtain ⟨fd, hb, hF⟩ := F w mg fa _ KX G.T.g hmg
  exact law_callG KX G.T.g G.T.b G.T.builtins G.T.nolimit (G.T.seer himp) hg hobj hints (Nat.le_trans hlen hn2) hr hF hb fun H hS => ⟨a, ns, rfl, hS, fun _ => rfl⟩
end On
set_option Elab.async false
set_option linter.all false
set_option maxRecDepth 100000
set_option maxHeartbeats 4000000
/-! What the top has written, as the text's facts. -/
namespace On
open PySem PySem.Spec PyProof.Rows L2
section
variable {K : PySem.W.Frag} {h : Heap} {mg : Str → Option Value} {C f p g : Addr} {x m qual : Str} {st : Stmt} {oc kV dc pm cd ct : Value} {od an : Option Addr} {sl : Array (Option Value)}
theorem def_mk (X : K.In h) (G : h.Ns mainGlobals mg) (a : PySem.W.nsIn K mainGlobals x = some (some (.ref f))) (l : K.lookup f = some ⟨oc, od, .func (PySem.W.fnOf x x (defArgs st) (defBody st) (defScope st) .none kV dc pm an cd ct), sl⟩) (c : PySem.W.codeIn K cd x = true) (k : PySem.W.keepIn K (.ref f) = true) : DefAt K mg x st :=
  ⟨f, _, ⟨⟨oc, od, .none, kV, dc, pm, an, cd, ct, sl, rfl, l, c, .inl ⟨rfl, rfl⟩, .inl rfl⟩, k⟩, PySem.W.mg_of X G a⟩
theorem met_mk (a : PySem.W.findIn K (.ref C) m = some (some (.ref f))) (i : PySem.W.isFn K (.ref f) = true) (l : K.lookup f = some ⟨oc, od, .func (PySem.W.fnOf m qual (defArgs st) (defBody st) (defScope st) .none kV dc pm an cd ct), sl⟩) (c : PySem.W.codeIn K cd qual = true) (k : PySem.W.keepIn K (.ref f) = true) : MetAt K C m qual st :=
  ⟨f, _, ⟨⟨oc, od, .none, kV, dc, pm, an, cd, ct, sl, rfl, l, c, .inl ⟨rfl, rfl⟩, .inl rfl⟩, k⟩, a, i, k⟩
theorem prp_mk {rest : List Value} (a : PySem.W.findIn K (.ref C) m = some (some (.ref p))) (s : PySem.W.specialIn K (.ref p) "__get__" = some (some (.builtin "property.__get__"))) (t : PySem.W.takesIn K (.ref p) = some true) (r : PySem.W.recIn K p "property" = some (.ref f :: rest))
    (l : K.lookup f = some ⟨oc, od, .func (PySem.W.fnOf m qual (defArgs st) (defBody st) (defScope st) .none kV dc pm an cd ct), sl⟩) (c : PySem.W.codeIn K cd qual = true) (k : PySem.W.keepIn K (.ref f) = true) : PrpAt K C m qual st :=
  ⟨p, f, _, ⟨⟨oc, od, .none, kV, dc, pm, an, cd, ct, sl, rfl, l, c, .inl ⟨rfl, rfl⟩, .inl rfl⟩, k⟩, a, s, t, rest, r⟩
theorem ini_mk {T : Addr} {tc : Value} {td : Option Addr} {tsl : Array (Option Value)} {n tk : Nat} {i : Int} (mk : PySem.W.makesIn K C = true) (a : PySem.W.findIn K (.ref C) "__init__" = some (some (.ref f))) (fn : PySem.W.isFn K (.ref f) = true) (kc : PySem.W.keepIn K (.ref C) = true)
    (l : K.lookup f = some ⟨oc, od, .func (PySem.W.fnOf "__init__" qual (defArgs st) (defBody st) (defScope st) (.ref T) kV dc pm an cd ct), sl⟩) (c : PySem.W.codeIn K cd qual = true) (k : PySem.W.keepIn K (.ref f) = true)
    (lT : K.lookup T = some ⟨tc, td, .seq #[.int i tk] n, tsl⟩) : IniAt K C qual st (.int i) :=
  ⟨f, _, ⟨⟨oc, od, .ref T, kV, dc, pm, an, cd, ct, sl, rfl, l, c, .inr ⟨List.cons_ne_nil _ _, T, _, [.int i tk], n, rfl, lT, rfl, .cons ⟨tk, rfl⟩ .nil⟩, .inl rfl⟩, k⟩, mk, a, fn, kc⟩
theorem clm_mk {mc : Value} {rest : List Value} (rd : PySem.W.readsIn K C mc = true) (ga : PySem.W.specialIn K (.ref C) "__getattribute__" = some (some (.builtin "type.__getattribute__"))) (a : PySem.W.findCls K (.ref C) mc m = some (.get (.builtin "classmethod.__get__") (.ref p) .none (.ref C))) (r : PySem.W.recIn K p "classmethod" = some (.ref f :: rest)) (fi : PySem.W.fnIn K f = true)
    (l : K.lookup f = some ⟨oc, od, .func (PySem.W.fnOf m qual (defArgs st) (defBody st) (defScope st) .none kV dc pm an cd ct), sl⟩) (c : PySem.W.codeIn K cd qual = true) (k : PySem.W.keepIn K (.ref f) = true) : ClmAt K C m qual st :=
  ⟨mc, p, f, _, ⟨⟨oc, od, .none, kV, dc, pm, an, cd, ct, sl, rfl, l, c, .inl ⟨rfl, rfl⟩, .inl rfl⟩, k⟩, ⟨rd, ga⟩, a, ⟨rest, r⟩, fi⟩
/-- an operator's two methods -/
theorem own_mk {op : Operator} {n r : Str} {o1 o2 : Option Value} (en : PySem.dunder op.info.2 = n) (er : PySem.dunderR op.info.2 = r) (sf : PySem.W.selfFirst K C = true) (a : PySem.W.findIn K (.ref C) n = some (some (.ref f))) (fn : PySem.W.isFn K (.ref f) = true) (b : PySem.W.findIn K (.ref C) r = some (some (.ref g))) (gn : PySem.W.isFn K (.ref g) = true)
    (fo : PySem.W.findIn K (.type "int") n = some o1) (ro : PySem.W.findIn K (.type "int") r = some o2) (sub : PySem.W.subIn K (.type "int") (.ref C) = some false) : Own2 K C f g op := by
  subst en
  subst er
  exact ⟨sf, a, fn, b, gn, ⟨_, fo⟩, ⟨_, ro⟩, sub⟩
theorem ownR_mk {op : Operator} {n : Str} {id : String} (en : PySem.dunder op.info.2 = n) (o : Own2 K C f g op) (fo : PySem.W.findIn K (.type "int") n = some (some (.builtin id))) (sq : isSeqSlot (some (.builtin id)) = false) (sb : PySem.W.subIn K (.ref C) (.type "int") = some false) : OwnR K C f g op id := by
  subst en
  exact ⟨o, fo, sq, sb⟩
theorem all_ct (h1 : PySem.W.kitOne K (.ref C) (.type "int") = some false) (h2 : PySem.W.kitOne K (.ref C) (.type "bool") = some false) (h3 : PySem.W.kitOne K (.ref C) (.type "list") = some false) (h4 : PySem.W.kitOne K (.ref C) (.type "tuple") = some false) :
    ∀ t, t ∈ ["int", "bool", "list", "tuple"] → PySem.W.kitOne K (.ref C) (.type t) = some false := fun t ht => by
  simp only [List.mem_cons, List.not_mem_nil, or_false] at ht
  rcases ht with rfl | rfl | rfl | rfl
  · exact h1
  · exact h2
  · exact h3
  · exact h4
theorem all_tc (h1 : PySem.W.kitOne K (.type "NoneType") (.ref C) = some false) (h2 : PySem.W.kitOne K (.type "bool") (.ref C) = some false) (h3 : PySem.W.kitOne K (.type "int") (.ref C) = some false) (h4 : PySem.W.kitOne K (.type "str") (.ref C) = some false) (h5 : PySem.W.kitOne K (.type "list") (.ref C) = some false) (h6 : PySem.W.kitOne K (.type "tuple") (.ref C) = some false) (h7 : PySem.W.kitOne K (.type "dict") (.ref C) = some false) :
    ∀ t, t ∈ ["NoneType", "bool", "int", "str", "list", "tuple", "dict"] → PySem.W.kitOne K (.type t) (.ref C) = some false := fun t ht => by
  simp only [List.mem_cons, List.not_mem_nil, or_false] at ht
  rcases ht with rfl | rfl | rfl | rfl | rfl | rfl | rfl
  · exact h1
  · exact h2
  · exact h3
  · exact h4
  · exact h5
  · exact h6
  · exact h7
theorem int_mk {i : Int} {t : Tok} (X : K.In h) (G : h.Ns mainGlobals mg) (a : PySem.W.nsIn K mainGlobals x = some (some (.int i t))) : ∃ u, mg x = some u ∧ RelV (.int i) u := ⟨_, PySem.W.mg_of X G a, t, rfl⟩
/-- the law's promise, from its def -/
theorem law_mk {P : Program} {w : World} {fa : Addr} (X : K.In h) (G : h.Ns mainGlobals mg) (hfa : mg ("law" : Str) = some (.ref fa)) (D : DefAt K mg "law" s_law) (T : ∀ base : Heap, base.NoSeer → Txt P w K mg base C) :
    ∃ fd : FuncData, (∀ (s : Shared) (u : Value), BindsTo s fd ⟨[u], []⟩ [("_law_script", u)]) ∧ ∀ base : Heap, K.In base → base.Ns mainGlobals mg → base.NoSeer → FnG P w K mg base 52 fa fd ["_law_script"] (spLaw K) := by
  obtain ⟨f', fd, F, hm⟩ := D.ex
  have e := hfa.symm.trans hm
  cases e
  refine ⟨fd, fun s u => ?_, fun base _ _ hs => fnG_by F sc_law (fun vs H Q E q => ?_) (law_body (T base hs) fa)⟩
  · obtain ⟨oc, od, dV, kV, doc, pm, an, cdv, ct, osl, rfl, _, _, hD, _⟩ := F.ex
    rcases hD with ⟨_, rfl⟩ | ⟨e, _⟩
    · exact .of_eq rfl
    · exact absurd rfl e
  · obtain ⟨a, ns, rfl, _⟩ := q
    rfl
end
end On
set_option Elab.async false
set_option linter.all false
set_option maxRecDepth 100000
set_option maxHeartbeats 4000000
/-! The text's facts in two bundles. Printed by genfin.py. -/
namespace On
open PySem PySem.Spec PyProof.Rows L2
structure ClsFacts (K : PySem.W.Frag) (mg : Str → Option Value) (C : Addr) : Prop where
  c_cl : Cls K C
  c_isi : C8.InsC K C
  c_k_ct : ∀ t, t ∈ ["int", "bool", "list", "tuple"] → PySem.W.kitOne K (.ref C) (.type t) = some false
  c_k_tc : ∀ t, t ∈ ["NoneType", "bool", "int", "str", "list", "tuple", "dict"] → PySem.W.kitOne K (.type t) (.ref C) = some false
  c_kp : PySem.W.keepIn K (.ref C) = true
  c_nT : NoAttr K C "own_top"
  c_nB : NoAttr K C "own_bottom"
  c_gRatio : mg "Ratio" = some (.ref C)
  c_d_R_add : MetAt K C "__add__" "Ratio.__add__" s_R_add
  c_d_R_sub : MetAt K C "__sub__" "Ratio.__sub__" s_R_sub
  c_d_R_rsub : MetAt K C "__rsub__" "Ratio.__rsub__" s_R_rsub
  c_d_R_mul : MetAt K C "__mul__" "Ratio.__mul__" s_R_mul
  c_d_R_rmul : MetAt K C "__rmul__" "Ratio.__rmul__" s_R_rmul
  c_d_R_neg : MetAt K C "__neg__" "Ratio.__neg__" s_R_neg
  c_d_R_over : MetAt K C "over" "Ratio.over" s_R_over
  c_d_R_eq : MetAt K C "__eq__" "Ratio.__eq__" s_R_eq
  c_d_R_repr : MetAt K C "__repr__" "Ratio.__repr__" s_R_repr
  c_d_R_top : PrpAt K C "top" "Ratio.top" s_R_top
  c_d_R_bottom : PrpAt K C "bottom" "Ratio.bottom" s_R_bottom
  c_d_R_sign : PrpAt K C "sign" "Ratio.sign" s_R_sign
  c_d_R_init : IniAt K C "Ratio.__init__" s_R_init (.int 1)
  c_d_R_total : ClmAt K C "total" "Ratio.total" s_R_total
  c_o_add : ∃ f g, Own2 K C f g .Add ∧ Meth K C "__add__" f
  c_o_sub : ∃ f g, Own2 K C f g .Sub ∧ Meth K C "__sub__" f
  c_o_mul : ∃ f g, Own2 K C f g .Mult ∧ Meth K C "__mul__" f
  c_o_rsub : ∃ f g, OwnR K C f g .Sub "int.__sub__" ∧ Meth K C "__rsub__" g
  c_o_rmul : ∃ f g, OwnR K C f g .Mult "int.__mul__" ∧ Meth K C "__rmul__" g
  c_o_eq : ∃ f, OwnEq K C f ∧ Meth K C "__eq__" f
structure DefFacts (K : PySem.W.Frag) (mg : Str → Option Value) : Prop where
  e_g_PART : ∃ u, mg "PART" = some u ∧ RelV (.int (10 ^ 60)) u
  e_g_MOST_ROWS : ∃ u, mg "MOST_ROWS" = some u ∧ RelV (.int 20) u
  e_n_abs : mg "abs" = none
  e_n_all : mg "all" = none
  e_n_bool : mg "bool" = none
  e_n_divmod : mg "divmod" = none
  e_n_enumerate : mg "enumerate" = none
  e_n_int : mg "int" = none
  e_n_isinstance : mg "isinstance" = none
  e_n_len : mg "len" = none
  e_n_list : mg "list" = none
  e_n_max : mg "max" = none
  e_n_min : mg "min" = none
  e_n_range : mg "range" = none
  e_n_repr : mg "repr" = none
  e_n_str : mg "str" = none
  e_n_tuple : mg "tuple" = none
  e_n_zip : mg "zip" = none
  e_d_is_integer : DefAt K mg "is_integer" s_is_integer
  e_d_is_list : DefAt K mg "is_list" s_is_list
  e_d_digits_of : DefAt K mg "digits_of" s_digits_of
  e_d_common_part : DefAt K mg "common_part" s_common_part
  e_d_told_pair : DefAt K mg "told_pair" s_told_pair
  e_d_is_number : DefAt K mg "is_number" s_is_number
  e_d_ratio_of : DefAt K mg "ratio_of" s_ratio_of
  e_d_want_number : DefAt K mg "want_number" s_want_number
  e_d_total_of : DefAt K mg "total_of" s_total_of
  e_d_weighed : DefAt K mg "weighed" s_weighed
  e_d_are_numbers : DefAt K mg "are_numbers" s_are_numbers
  e_d_are_alike : DefAt K mg "are_alike" s_are_alike
  e_d_is_table : DefAt K mg "is_table" s_is_table
  e_d_ratios_of : DefAt K mg "ratios_of" s_ratios_of
  e_d_told_rows : DefAt K mg "told_rows" s_told_rows
  e_d_made_by : DefAt K mg "made_by" s_made_by
  e_d_value_in : DefAt K mg "value_in" s_value_in
  e_d_lessened : DefAt K mg "lessened" s_lessened
  e_d_pivot_at : DefAt K mg "pivot_at" s_pivot_at
  e_d_steps_in : DefAt K mg "steps_in" s_steps_in
  e_d_single_at : DefAt K mg "single_at" s_single_at
  e_d_pair_at : DefAt K mg "pair_at" s_pair_at
  e_d_less_square : DefAt K mg "less_square" s_less_square
  e_d_next_squares : DefAt K mg "next_squares" s_next_squares
  e_d_squares_in : DefAt K mg "squares_in" s_squares_in
  e_d_list_with : DefAt K mg "list_with" s_list_with
  e_d_above_in : DefAt K mg "above_in" s_above_in
  e_d_two_above : DefAt K mg "two_above" s_two_above
  e_d_is_two_above : DefAt K mg "is_two_above" s_is_two_above
  e_d_law_pot : DefAt K mg "_law_pot" s_law_pot
  e_d_law_draw : DefAt K mg "_law_draw" s_law_draw
  e_d_law_pick : DefAt K mg "_law_pick" s_law_pick
  e_d_law_small : DefAt K mg "_law_small" s_law_small
  e_d_law_more : DefAt K mg "_law_more" s_law_more
  e_d_law_table : DefAt K mg "_law_table" s_law_table
  e_d_law_handed : DefAt K mg "_law_handed" s_law_handed
  e_d_law_given : DefAt K mg "_law_given" s_law_given
  e_d_law_determinant : DefAt K mg "_law_determinant" s_law_determinant
  e_d_law_choices : DefAt K mg "_law_choices" s_law_choices
  e_d_law_minor : DefAt K mg "_law_minor" s_law_minor
  e_d_law_sums : DefAt K mg "_law_sums" s_law_sums
  e_d_law_changes : DefAt K mg "_law_changes" s_law_changes
  e_d_law_signs : DefAt K mg "_law_signs" s_law_signs
  e_d_law_is_number : DefAt K mg "_law_is_number" s_law_is_number
  e_d_law_is_list : DefAt K mg "_law_is_list" s_law_is_list
  e_d_law_form : DefAt K mg "_law_form" s_law_form
  e_d_law_looks : DefAt K mg "_law_looks" s_law_looks
  e_d_law_beside : DefAt K mg "_law_beside" s_law_beside
  e_d_law_list : DefAt K mg "_law_list" s_law_list
  e_d_law_values : DefAt K mg "_law_values" s_law_values
  e_d_law_right : DefAt K mg "_law_right" s_law_right
  e_d_law : DefAt K mg "law" s_law
theorem txt_of {P : Program} {w : World} {K : PySem.W.Frag} {mg : Str → Option Value} {base : Heap} {C : Addr} (c : ClsFacts K mg C) (d : DefFacts K mg) (ht : P.given.tree = none) (hs : base.NoSeer) : Txt P w K mg base C where
  tree := ht
  seer := hs
  cl := c.c_cl
  isi := c.c_isi
  k_ct := c.c_k_ct
  k_tc := c.c_k_tc
  kp := c.c_kp
  nT := c.c_nT
  nB := c.c_nB
  g_Ratio := ⟨_, c.c_gRatio, rfl⟩
  gRatio := c.c_gRatio
  g_PART := d.e_g_PART
  g_MOST_ROWS := d.e_g_MOST_ROWS
  n_abs := d.e_n_abs
  n_all := d.e_n_all
  n_bool := d.e_n_bool
  n_divmod := d.e_n_divmod
  n_enumerate := d.e_n_enumerate
  n_int := d.e_n_int
  n_isinstance := d.e_n_isinstance
  n_len := d.e_n_len
  n_list := d.e_n_list
  n_max := d.e_n_max
  n_min := d.e_n_min
  n_range := d.e_n_range
  n_repr := d.e_n_repr
  n_str := d.e_n_str
  n_tuple := d.e_n_tuple
  n_zip := d.e_n_zip
  d_is_integer := d.e_d_is_integer
  d_is_list := d.e_d_is_list
  d_digits_of := d.e_d_digits_of
  d_common_part := d.e_d_common_part
  d_told_pair := d.e_d_told_pair
  d_is_number := d.e_d_is_number
  d_ratio_of := d.e_d_ratio_of
  d_want_number := d.e_d_want_number
  d_total_of := d.e_d_total_of
  d_weighed := d.e_d_weighed
  d_are_numbers := d.e_d_are_numbers
  d_are_alike := d.e_d_are_alike
  d_is_table := d.e_d_is_table
  d_ratios_of := d.e_d_ratios_of
  d_told_rows := d.e_d_told_rows
  d_made_by := d.e_d_made_by
  d_value_in := d.e_d_value_in
  d_lessened := d.e_d_lessened
  d_pivot_at := d.e_d_pivot_at
  d_steps_in := d.e_d_steps_in
  d_single_at := d.e_d_single_at
  d_pair_at := d.e_d_pair_at
  d_less_square := d.e_d_less_square
  d_next_squares := d.e_d_next_squares
  d_squares_in := d.e_d_squares_in
  d_list_with := d.e_d_list_with
  d_above_in := d.e_d_above_in
  d_two_above := d.e_d_two_above
  d_is_two_above := d.e_d_is_two_above
  d_law_pot := d.e_d_law_pot
  d_law_draw := d.e_d_law_draw
  d_law_pick := d.e_d_law_pick
  d_law_small := d.e_d_law_small
  d_law_more := d.e_d_law_more
  d_law_table := d.e_d_law_table
  d_law_handed := d.e_d_law_handed
  d_law_given := d.e_d_law_given
  d_law_determinant := d.e_d_law_determinant
  d_law_choices := d.e_d_law_choices
  d_law_minor := d.e_d_law_minor
  d_law_sums := d.e_d_law_sums
  d_law_changes := d.e_d_law_changes
  d_law_signs := d.e_d_law_signs
  d_law_is_number := d.e_d_law_is_number
  d_law_is_list := d.e_d_law_is_list
  d_law_form := d.e_d_law_form
  d_law_looks := d.e_d_law_looks
  d_law_beside := d.e_d_law_beside
  d_law_list := d.e_d_law_list
  d_law_values := d.e_d_law_values
  d_law_right := d.e_d_law_right
  d_law := d.e_d_law
  d_R_add := c.c_d_R_add
  d_R_sub := c.c_d_R_sub
  d_R_rsub := c.c_d_R_rsub
  d_R_mul := c.c_d_R_mul
  d_R_rmul := c.c_d_R_rmul
  d_R_neg := c.c_d_R_neg
  d_R_over := c.c_d_R_over
  d_R_eq := c.c_d_R_eq
  d_R_repr := c.c_d_R_repr
  d_R_top := c.c_d_R_top
  d_R_bottom := c.c_d_R_bottom
  d_R_sign := c.c_d_R_sign
  d_R_init := c.c_d_R_init
  d_R_total := c.c_d_R_total
  o_add := c.c_o_add
  o_sub := c.c_o_sub
  o_mul := c.c_o_mul
  o_rsub := c.c_o_rsub
  o_rmul := c.c_o_rmul
  o_eq := c.c_o_eq
theorem law_all {P : Program} {w : World} {K : PySem.W.Frag} {h : Heap} {mg : Str → Option Value} {fa : Addr} (X : K.In h) (G : h.Ns mainGlobals mg) (hfa : mg ("law" : Str) = some (.ref fa)) (ht : P.given.tree = none) (c : ∃ C, ClsFacts K mg C) (d : DefFacts K mg) :
    ∃ fd : FuncData, (∀ (s : Shared) (u : Value), BindsTo s fd ⟨[u], []⟩ [("_law_script", u)]) ∧ ∀ base : Heap, K.In base → base.Ns mainGlobals mg → base.NoSeer → FnG P w K mg base 52 fa fd ["_law_script"] (spLaw K) := by
  obtain ⟨C, c⟩ := c
  exact law_mk X G hfa d.e_d_law fun base hs => txt_of c d ht hs
end On
set_option Elab.async false
set_option linter.all false
open PySem PySem.W PyProof.Rows
set_option maxRecDepth 100000 in
set_option maxHeartbeats 0 in
theorem PySem.Challenge.cw_onecrest_k37_whole_two_above_holds : PySem.Challenge.rw_onecrest_k37_whole_two_above.Holds := by
  w_on; o_law; k_head; (case hw => w_witness2)
  k_fill
  case hc =>
    refine On.walkG (l := PySem.Challenge.rw_onecrest_k37_whole_two_above) (n := 63) (k := 52) (x := "_law_script") rfl (by decide) rfl ⟨rfl, by decide, by decide⟩ (by decide +kernel) (fun w h Y => PySem.W.kIn_of Y) ?F
    case F =>
      intro w mg fa h KX G hmg
      refine' On.law_all KX G hmg rfl ?cf ?df
      case cf =>
        refine' ⟨_, ⟨?cl, ?isi, ?k_ct, ?k_tc, ?kp, ?nT, ?nB, PySem.W.mg_of KX G ?aC, ?d_R_add, ?d_R_sub, ?d_R_rsub, ?d_R_mul, ?d_R_rmul, ?d_R_neg, ?d_R_over, ?d_R_eq, ?d_R_repr, ?d_R_top, ?d_R_bottom, ?d_R_sign, ?d_R_init, ?d_R_total, ?o_add, ?o_sub, ?o_mul, ?o_rsub, ?o_rmul, ?o_eq⟩⟩
        (case aC => k_is)
        (case cl => (refine' ⟨?pg, ?hd, ?po, ?sa⟩; (case pg => k_is); (case hd => k_is); (case po => k_is); (case sa => k_is)))
        (case isi => (refine' ⟨⟨?pg, ?hd, ?po, ?sa⟩, ?ha, ?hn, ?htk, ?hm, ?me⟩; (case pg => k_is); (case hd => k_is); (case po => k_is); (case sa => k_is); (case ha => k_is); (case hn => k_is); (case htk => k_is); (case hm => k_is); (case me => kit_is)))
        (case k_ct => (refine' On.all_ct ?h1 ?h2 ?h3 ?h4; (case h1 => kit_is); (case h2 => kit_is); (case h3 => kit_is); (case h4 => kit_is)))
        (case k_tc => (refine' On.all_tc ?h1 ?h2 ?h3 ?h4 ?h5 ?h6 ?h7; (case h1 => kit_is); (case h2 => kit_is); (case h3 => kit_is); (case h4 => kit_is); (case h5 => kit_is); (case h6 => kit_is); (case h7 => kit_is)))
        (case kp => k_is)
        (case nT => (unfold L2.NoAttr; k_is))
        (case nB => (unfold L2.NoAttr; k_is))
        (case d_R_add => (refine' On.met_mk ?a ?i ?l ?c ?k; (case a => k_is); (case i => k_is); (case l => k_is); (case c => k_is); (case k => k_is)))
        (case d_R_sub => (refine' On.met_mk ?a ?i ?l ?c ?k; (case a => k_is); (case i => k_is); (case l => k_is); (case c => k_is); (case k => k_is)))
        (case d_R_rsub => (refine' On.met_mk ?a ?i ?l ?c ?k; (case a => k_is); (case i => k_is); (case l => k_is); (case c => k_is); (case k => k_is)))
        (case d_R_mul => (refine' On.met_mk ?a ?i ?l ?c ?k; (case a => k_is); (case i => k_is); (case l => k_is); (case c => k_is); (case k => k_is)))
        (case d_R_rmul => (refine' On.met_mk ?a ?i ?l ?c ?k; (case a => k_is); (case i => k_is); (case l => k_is); (case c => k_is); (case k => k_is)))
        (case d_R_neg => (refine' On.met_mk ?a ?i ?l ?c ?k; (case a => k_is); (case i => k_is); (case l => k_is); (case c => k_is); (case k => k_is)))
        (case d_R_over => (refine' On.met_mk ?a ?i ?l ?c ?k; (case a => k_is); (case i => k_is); (case l => k_is); (case c => k_is); (case k => k_is)))
        (case d_R_eq => (refine' On.met_mk ?a ?i ?l ?c ?k; (case a => k_is); (case i => k_is); (case l => k_is); (case c => k_is); (case k => k_is)))
        (case d_R_repr => (refine' On.met_mk ?a ?i ?l ?c ?k; (case a => k_is); (case i => k_is); (case l => k_is); (case c => k_is); (case k => k_is)))
        (case d_R_top => (refine' On.prp_mk ?a ?s ?t ?r ?l ?c ?k; (case a => k_is); (case s => k_is); (case t => k_is); (case r => k_is); (case l => k_is); (case c => k_is); (case k => k_is)))
        (case d_R_bottom => (refine' On.prp_mk ?a ?s ?t ?r ?l ?c ?k; (case a => k_is); (case s => k_is); (case t => k_is); (case r => k_is); (case l => k_is); (case c => k_is); (case k => k_is)))
        (case d_R_sign => (refine' On.prp_mk ?a ?s ?t ?r ?l ?c ?k; (case a => k_is); (case s => k_is); (case t => k_is); (case r => k_is); (case l => k_is); (case c => k_is); (case k => k_is)))
        (case d_R_init => (refine' On.ini_mk ?mk ?a ?fn ?kc ?l ?c ?k ?lT; (case mk => k_is); (case a => k_is); (case fn => k_is); (case kc => k_is); (case l => k_is); (case c => k_is); (case k => k_is); (case lT => k_is)))
        (case d_R_total => (refine' On.clm_mk (mc := .type "type") ?rd ?ga ?a ?r ?fi ?l ?c ?k; (case rd => k_is); (case ga => k_is); (case a => k_is); (case r => k_is); (case fi => k_is); (case l => k_is); (case c => k_is); (case k => k_is)))
        (case o_add => (refine' ⟨_, _, On.own_mk (n := "__add__") (r := "__radd__") rfl rfl ?sf ?a ?fn ?b ?gn ?fo ?ro ?sub, ?a2, ?fn2, ?k2⟩; (case sf => k_is); (case a => k_is); (case fn => k_is); (case b => k_is); (case gn => k_is); (case fo => k_is); (case ro => k_is); (case sub => k_is); (case a2 => k_is); (case fn2 => k_is); (case k2 => k_is)))
        (case o_sub => (refine' ⟨_, _, On.own_mk (n := "__sub__") (r := "__rsub__") rfl rfl ?sf ?a ?fn ?b ?gn ?fo ?ro ?sub, ?a2, ?fn2, ?k2⟩; (case sf => k_is); (case a => k_is); (case fn => k_is); (case b => k_is); (case gn => k_is); (case fo => k_is); (case ro => k_is); (case sub => k_is); (case a2 => k_is); (case fn2 => k_is); (case k2 => k_is)))
        (case o_mul => (refine' ⟨_, _, On.own_mk (n := "__mul__") (r := "__rmul__") rfl rfl ?sf ?a ?fn ?b ?gn ?fo ?ro ?sub, ?a2, ?fn2, ?k2⟩; (case sf => k_is); (case a => k_is); (case fn => k_is); (case b => k_is); (case gn => k_is); (case fo => k_is); (case ro => k_is); (case sub => k_is); (case a2 => k_is); (case fn2 => k_is); (case k2 => k_is)))
        (case o_rsub => (refine' ⟨_, _, On.ownR_mk (n := "__sub__") rfl (On.own_mk (n := "__sub__") (r := "__rsub__") rfl rfl ?sf ?a ?fn ?b ?gn ?fo ?ro ?sub) ?fi rfl ?sb, ?a2, ?fn2, ?k2⟩; (case sf => k_is); (case a => k_is); (case fn => k_is); (case b => k_is); (case gn => k_is); (case fo => k_is); (case ro => k_is); (case sub => k_is); (case fi => k_is); (case sb => k_is); (case a2 => k_is); (case fn2 => k_is); (case k2 => k_is)))
        (case o_rmul => (refine' ⟨_, _, On.ownR_mk (n := "__mul__") rfl (On.own_mk (n := "__mul__") (r := "__rmul__") rfl rfl ?sf ?a ?fn ?b ?gn ?fo ?ro ?sub) ?fi rfl ?sb, ?a2, ?fn2, ?k2⟩; (case sf => k_is); (case a => k_is); (case fn => k_is); (case b => k_is); (case gn => k_is); (case fo => k_is); (case ro => k_is); (case sub => k_is); (case fi => k_is); (case sb => k_is); (case a2 => k_is); (case fn2 => k_is); (case k2 => k_is)))
        (case o_eq => (refine' ⟨_, ⟨?ne, ?eq, ?fn, ?ob⟩, ?a2, ?fn2, ?k2⟩; (case ne => k_is); (case eq => k_is); (case fn => k_is); (case ob => k_is); (case a2 => k_is); (case fn2 => k_is); (case k2 => k_is)))
      case df =>
        refine' ⟨?g_PART, ?g_MOST_ROWS, ?n_abs, ?n_all, ?n_bool, ?n_divmod, ?n_enumerate, ?n_int, ?n_isinstance, ?n_len, ?n_list, ?n_max, ?n_min, ?n_range, ?n_repr, ?n_str, ?n_tuple, ?n_zip, ?d_is_integer, ?d_is_list, ?d_digits_of, ?d_common_part, ?d_told_pair, ?d_is_number, ?d_ratio_of, ?d_want_number, ?d_total_of, ?d_weighed, ?d_are_numbers, ?d_are_alike, ?d_is_table, ?d_ratios_of, ?d_told_rows, ?d_made_by, ?d_value_in, ?d_lessened, ?d_pivot_at, ?d_steps_in, ?d_single_at, ?d_pair_at, ?d_less_square, ?d_next_squares, ?d_squares_in, ?d_list_with, ?d_above_in, ?d_two_above, ?d_is_two_above, ?d_law_pot, ?d_law_draw, ?d_law_pick, ?d_law_small, ?d_law_more, ?d_law_table, ?d_law_handed, ?d_law_given, ?d_law_determinant, ?d_law_choices, ?d_law_minor, ?d_law_sums, ?d_law_changes, ?d_law_signs, ?d_law_is_number, ?d_law_is_list, ?d_law_form, ?d_law_looks, ?d_law_beside, ?d_law_list, ?d_law_values, ?d_law_right, ?d_law⟩
        (case g_PART => (refine' On.int_mk KX G ?a; (case a => k_is)))
        (case g_MOST_ROWS => (refine' On.int_mk KX G ?a; (case a => k_is)))
        (case n_abs => (refine' PySem.W.mg_none_of KX G ?a; (case a => k_is)))
        (case n_all => (refine' PySem.W.mg_none_of KX G ?a; (case a => k_is)))
        (case n_bool => (refine' PySem.W.mg_none_of KX G ?a; (case a => k_is)))
        (case n_divmod => (refine' PySem.W.mg_none_of KX G ?a; (case a => k_is)))
        (case n_enumerate => (refine' PySem.W.mg_none_of KX G ?a; (case a => k_is)))
        (case n_int => (refine' PySem.W.mg_none_of KX G ?a; (case a => k_is)))
        (case n_isinstance => (refine' PySem.W.mg_none_of KX G ?a; (case a => k_is)))
        (case n_len => (refine' PySem.W.mg_none_of KX G ?a; (case a => k_is)))
        (case n_list => (refine' PySem.W.mg_none_of KX G ?a; (case a => k_is)))
        (case n_max => (refine' PySem.W.mg_none_of KX G ?a; (case a => k_is)))
        (case n_min => (refine' PySem.W.mg_none_of KX G ?a; (case a => k_is)))
        (case n_range => (refine' PySem.W.mg_none_of KX G ?a; (case a => k_is)))
        (case n_repr => (refine' PySem.W.mg_none_of KX G ?a; (case a => k_is)))
        (case n_str => (refine' PySem.W.mg_none_of KX G ?a; (case a => k_is)))
        (case n_tuple => (refine' PySem.W.mg_none_of KX G ?a; (case a => k_is)))
        (case n_zip => (refine' PySem.W.mg_none_of KX G ?a; (case a => k_is)))
        (case d_is_integer => (refine' On.def_mk KX G ?a ?l ?c ?k; (case a => k_is); (case l => k_is); (case c => k_is); (case k => k_is)))
        (case d_is_list => (refine' On.def_mk KX G ?a ?l ?c ?k; (case a => k_is); (case l => k_is); (case c => k_is); (case k => k_is)))
        (case d_digits_of => (refine' On.def_mk KX G ?a ?l ?c ?k; (case a => k_is); (case l => k_is); (case c => k_is); (case k => k_is)))
        (case d_common_part => (refine' On.def_mk KX G ?a ?l ?c ?k; (case a => k_is); (case l => k_is); (case c => k_is); (case k => k_is)))
        (case d_told_pair => (refine' On.def_mk KX G ?a ?l ?c ?k; (case a => k_is); (case l => k_is); (case c => k_is); (case k => k_is)))
        (case d_is_number => (refine' On.def_mk KX G ?a ?l ?c ?k; (case a => k_is); (case l => k_is); (case c => k_is); (case k => k_is)))
        (case d_ratio_of => (refine' On.def_mk KX G ?a ?l ?c ?k; (case a => k_is); (case l => k_is); (case c => k_is); (case k => k_is)))
        (case d_want_number => (refine' On.def_mk KX G ?a ?l ?c ?k; (case a => k_is); (case l => k_is); (case c => k_is); (case k => k_is)))
        (case d_total_of => (refine' On.def_mk KX G ?a ?l ?c ?k; (case a => k_is); (case l => k_is); (case c => k_is); (case k => k_is)))
        (case d_weighed => (refine' On.def_mk KX G ?a ?l ?c ?k; (case a => k_is); (case l => k_is); (case c => k_is); (case k => k_is)))
        (case d_are_numbers => (refine' On.def_mk KX G ?a ?l ?c ?k; (case a => k_is); (case l => k_is); (case c => k_is); (case k => k_is)))
        (case d_are_alike => (refine' On.def_mk KX G ?a ?l ?c ?k; (case a => k_is); (case l => k_is); (case c => k_is); (case k => k_is)))
        (case d_is_table => (refine' On.def_mk KX G ?a ?l ?c ?k; (case a => k_is); (case l => k_is); (case c => k_is); (case k => k_is)))
        (case d_ratios_of => (refine' On.def_mk KX G ?a ?l ?c ?k; (case a => k_is); (case l => k_is); (case c => k_is); (case k => k_is)))
        (case d_told_rows => (refine' On.def_mk KX G ?a ?l ?c ?k; (case a => k_is); (case l => k_is); (case c => k_is); (case k => k_is)))
        (case d_made_by => (refine' On.def_mk KX G ?a ?l ?c ?k; (case a => k_is); (case l => k_is); (case c => k_is); (case k => k_is)))
        (case d_value_in => (refine' On.def_mk KX G ?a ?l ?c ?k; (case a => k_is); (case l => k_is); (case c => k_is); (case k => k_is)))
        (case d_lessened => (refine' On.def_mk KX G ?a ?l ?c ?k; (case a => k_is); (case l => k_is); (case c => k_is); (case k => k_is)))
        (case d_pivot_at => (refine' On.def_mk KX G ?a ?l ?c ?k; (case a => k_is); (case l => k_is); (case c => k_is); (case k => k_is)))
        (case d_steps_in => (refine' On.def_mk KX G ?a ?l ?c ?k; (case a => k_is); (case l => k_is); (case c => k_is); (case k => k_is)))
        (case d_single_at => (refine' On.def_mk KX G ?a ?l ?c ?k; (case a => k_is); (case l => k_is); (case c => k_is); (case k => k_is)))
        (case d_pair_at => (refine' On.def_mk KX G ?a ?l ?c ?k; (case a => k_is); (case l => k_is); (case c => k_is); (case k => k_is)))
        (case d_less_square => (refine' On.def_mk KX G ?a ?l ?c ?k; (case a => k_is); (case l => k_is); (case c => k_is); (case k => k_is)))
        (case d_next_squares => (refine' On.def_mk KX G ?a ?l ?c ?k; (case a => k_is); (case l => k_is); (case c => k_is); (case k => k_is)))
        (case d_squares_in => (refine' On.def_mk KX G ?a ?l ?c ?k; (case a => k_is); (case l => k_is); (case c => k_is); (case k => k_is)))
        (case d_list_with => (refine' On.def_mk KX G ?a ?l ?c ?k; (case a => k_is); (case l => k_is); (case c => k_is); (case k => k_is)))
        (case d_above_in => (refine' On.def_mk KX G ?a ?l ?c ?k; (case a => k_is); (case l => k_is); (case c => k_is); (case k => k_is)))
        (case d_two_above => (refine' On.def_mk KX G ?a ?l ?c ?k; (case a => k_is); (case l => k_is); (case c => k_is); (case k => k_is)))
        (case d_is_two_above => (refine' On.def_mk KX G ?a ?l ?c ?k; (case a => k_is); (case l => k_is); (case c => k_is); (case k => k_is)))
        (case d_law_pot => (refine' On.def_mk KX G ?a ?l ?c ?k; (case a => k_is); (case l => k_is); (case c => k_is); (case k => k_is)))
        (case d_law_draw => (refine' On.def_mk KX G ?a ?l ?c ?k; (case a => k_is); (case l => k_is); (case c => k_is); (case k => k_is)))
        (case d_law_pick => (refine' On.def_mk KX G ?a ?l ?c ?k; (case a => k_is); (case l => k_is); (case c => k_is); (case k => k_is)))
        (case d_law_small => (refine' On.def_mk KX G ?a ?l ?c ?k; (case a => k_is); (case l => k_is); (case c => k_is); (case k => k_is)))
        (case d_law_more => (refine' On.def_mk KX G ?a ?l ?c ?k; (case a => k_is); (case l => k_is); (case c => k_is); (case k => k_is)))
        (case d_law_table => (refine' On.def_mk KX G ?a ?l ?c ?k; (case a => k_is); (case l => k_is); (case c => k_is); (case k => k_is)))
        (case d_law_handed => (refine' On.def_mk KX G ?a ?l ?c ?k; (case a => k_is); (case l => k_is); (case c => k_is); (case k => k_is)))
        (case d_law_given => (refine' On.def_mk KX G ?a ?l ?c ?k; (case a => k_is); (case l => k_is); (case c => k_is); (case k => k_is)))
        (case d_law_determinant => (refine' On.def_mk KX G ?a ?l ?c ?k; (case a => k_is); (case l => k_is); (case c => k_is); (case k => k_is)))
        (case d_law_choices => (refine' On.def_mk KX G ?a ?l ?c ?k; (case a => k_is); (case l => k_is); (case c => k_is); (case k => k_is)))
        (case d_law_minor => (refine' On.def_mk KX G ?a ?l ?c ?k; (case a => k_is); (case l => k_is); (case c => k_is); (case k => k_is)))
        (case d_law_sums => (refine' On.def_mk KX G ?a ?l ?c ?k; (case a => k_is); (case l => k_is); (case c => k_is); (case k => k_is)))
        (case d_law_changes => (refine' On.def_mk KX G ?a ?l ?c ?k; (case a => k_is); (case l => k_is); (case c => k_is); (case k => k_is)))
        (case d_law_signs => (refine' On.def_mk KX G ?a ?l ?c ?k; (case a => k_is); (case l => k_is); (case c => k_is); (case k => k_is)))
        (case d_law_is_number => (refine' On.def_mk KX G ?a ?l ?c ?k; (case a => k_is); (case l => k_is); (case c => k_is); (case k => k_is)))
        (case d_law_is_list => (refine' On.def_mk KX G ?a ?l ?c ?k; (case a => k_is); (case l => k_is); (case c => k_is); (case k => k_is)))
        (case d_law_form => (refine' On.def_mk KX G ?a ?l ?c ?k; (case a => k_is); (case l => k_is); (case c => k_is); (case k => k_is)))
        (case d_law_looks => (refine' On.def_mk KX G ?a ?l ?c ?k; (case a => k_is); (case l => k_is); (case c => k_is); (case k => k_is)))
        (case d_law_beside => (refine' On.def_mk KX G ?a ?l ?c ?k; (case a => k_is); (case l => k_is); (case c => k_is); (case k => k_is)))
        (case d_law_list => (refine' On.def_mk KX G ?a ?l ?c ?k; (case a => k_is); (case l => k_is); (case c => k_is); (case k => k_is)))
        (case d_law_values => (refine' On.def_mk KX G ?a ?l ?c ?k; (case a => k_is); (case l => k_is); (case c => k_is); (case k => k_is)))
        (case d_law_right => (refine' On.def_mk KX G ?a ?l ?c ?k; (case a => k_is); (case l => k_is); (case c => k_is); (case k => k_is)))
        (case d_law => (refine' On.def_mk KX G ?a ?l ?c ?k; (case a => k_is); (case l => k_is); (case c => k_is); (case k => k_is)))
