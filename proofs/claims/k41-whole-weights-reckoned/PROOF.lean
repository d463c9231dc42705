import PyProof.Rows.All
import Wide.All
import OpenK.AllK
import Wide.FinOn
import KE.KOpsOwn
import HandS.Base
import HandS.Call
import HandS.List
import HandS.Dict
import HandS.More
import HandS.Exc
import HandS.Set
import HandS.SetTxt0
import HandS.Strs
import HandS.Conv
import PyProof.ListStr
import PyProof.ZipIter
import HandS.Comp
import HandS.Iter
import HandS.Walk
import HandS.DictComp
import KE.KParD
import HandS.Star
import HandS.Defaults
import KE.KExcSuper
import HandS.ExcInit
import HandS.Nested
import KE.KTryMore
import HandS.ExcField
import HandS.HotCalls
import KE.KLam
import KE.KDflt
import HandS.Lambda
import HandS.Property
import HandS.HeadHook4
import HandS.HeadNt
import KE.KStateDown
import HandS.Words
import HandS.WordsExc
import HandS.Head0
import HandS.Head1
import HandS.Head2
import HandS.HeadWalk
import PySem.Challenge.RW_fourwalls_k41_whole_weights_reckoned
import HandS.IsInst
import HandS.Steps
import HandS.Text
import HandS.WordsList
import HandS.Zip
import HandS.Codes
set_option Elab.async false
set_option linter.all false
set_option maxRecDepth 100000
/-! operators of an own class, by its own defs -/
namespace FwOp
open PySem PySem.Spec PyProof.Rows L2
section
variable {X : Cx} {CX : CXT} {k : Nat} {f C : Addr} {fd : FuncData} {ps : List Str} {sp : Sp} {dvs : List V} {ds : List Value} {E : XK}
/-- a def runs, called somewhere below the running body -/
theorem run_fnA {A : Around} {pins : List (Addr × Obj)} {σ : L2.St} {H : Hp} {s : Shared} {Q : VK} {us : List Value} {vs : List V} (hfr : A.frames = X.A.frames) (F : FnOk X.prog X.w X.K X.mg X.base CX k f fd ps sp) (hr : Room k A)
    (hb : Binds X.K fd ps ds) (hd : Vals dvs ds) (hx : Passes CX X E) (I : Inv X pins σ H s) (r : Vals vs us) (h : sp (vs ++ dvs) H Q E) : wpAny (model X.prog X.w) A (call (.ref f) us) (EP X pins σ Q) X.xe s := by
  have r2 : Vals (vs ++ dvs) (us ++ ds) := r.append hd
  have hl : (us ++ ds).length = ps.length := by rw [← r2.length]; exact F.len _ _ _ _ h
  have e0 : Env0 X.prog X.w X.K X.mg X.base A X.stack s H := by
    have e := I.env0
    exact ⟨by rw [hfr]; exact e.frames, e.mod, e.bs, e.bsz, e.funs, e.frf, e.hok, e.bare⟩
  refine wpAny_call (codeAny_mono (F.run A X.stack s H ⟨us, []⟩ (us ++ ds) (vs ++ dvs) Q E hr e0 (hb s us I.kIn hl) r2 h) fun r s' hq => ?_)
  cases r with
  | error e => exact hx pins σ H s e s' I hq
  | ok fl =>
    cases fl with
    | ret u => exact I.after hq
    | next => exact False.elim hq
    | brk => exact False.elim hq
    | cont => exact False.elim hq
theorem cmpBack_of {pins : List (Addr × Obj)} {σ : L2.St} {Q : VK} {v : Value} {s : Shared} (h : EP X pins σ Q v s) : PySem.W.CmpBack (EP X pins σ Q) v s := by
  obtain ⟨x, H', I, r, q⟩ := h
  have e : EP X pins σ Q v s := ⟨x, H', I, r, q⟩
  cases x with
  | non => obtain rfl : v = Value.none := r; exact e
  | bl b => obtain rfl : v = Value.bool b := r; exact e
  | int i => obtain ⟨t, rfl⟩ := r; exact e
  | str i => obtain ⟨t, rfl⟩ := r; exact e
  | byt i => obtain ⟨t, rfl⟩ := r; exact e
  | flt i => obtain ⟨t, rfl⟩ := r; exact e
  | ref a => obtain rfl : v = Value.ref a := r; exact e
  | ty n => obtain rfl : v = Value.type n := r; exact e
/-- an instance of the class at C -/
def IsI (H : Hp) (C : Addr) (x : V) : Prop := ∃ a dx fs, x = V.ref a ∧ H a = some (.ins C dx fs)
/-- a op b, both of the class -/
theorem op_same {op : Operator} (F : FnOk X.prog X.w X.K X.mg X.base CX k f fd ps sp) (hr : Room k X.A) (hb : Binds X.K fd ps []) (hx : Passes CX X E) (hc : PySem.W.selfFirst X.K C = true)
    (hs : PySem.W.findIn X.K (.ref C) (PySem.dunder op.info.2) = some (some (.ref f))) (hf : PySem.W.isFn X.K (.ref f) = true) :
    OpR X (binaryOp op) (fun x y H Q => IsI H C x ∧ IsI H C y ∧ sp [x, y] H Q E) := by
  intro pins s σ H x y v u Q I rx ry h
  obtain ⟨⟨a, dx, fs, rfl, ha⟩, ⟨b, dy, gs, rfl, hbb⟩, h⟩ := h
  obtain rfl : v = Value.ref a := rx
  obtain rfl : u = Value.ref b := ry
  obtain ⟨mA, J, _⟩ := ins_get I.hok ha
  obtain ⟨mB, J', _⟩ := ins_get I.hok hbb
  obtain ⟨od, J, _⟩ := J.look
  obtain ⟨od', J', _⟩ := J'.look
  obtain ⟨m, hF⟩ := I.fr
  refine PySem.W.binop_K hF I.ok.mod.kin J J'.type hc hs hf ?_
  exact wpAny_mono (run_fnA (vs := [V.ref a, V.ref b]) rfl F hr hb .nil hx I (.cons rfl (.cons rfl .nil)) (by simpa using h)) (fun _ _ q => cmpBack_of q) fun _ _ q => q
/-- a op n, n of a built-in class T -/
theorem op_left {op : Operator} {T : String} {fo ro rc : Option Value} (F : FnOk X.prog X.w X.K X.mg X.base CX k f fd ps sp) (hr : Room k X.A) (hb : Binds X.K fd ps []) (hx : Passes CX X E) (hc : PySem.W.selfFirst X.K C = true)
    (hs : PySem.W.findIn X.K (.ref C) (PySem.dunder op.info.2) = some (some (.ref f))) (hf : PySem.W.isFn X.K (.ref f) = true) (hrc : PySem.W.findIn X.K (.ref C) (dunderR op.info.2) = some rc) (hp : rc = none ∨ ∃ g : Addr, rc = some (.ref g))
    (h1 : PySem.W.findIn X.K (.type "int") (PySem.dunder op.info.2) = some fo) (h2 : PySem.W.findIn X.K (.type "int") (dunderR op.info.2) = some ro) (hsub : PySem.W.subIn X.K (.type "int") (.ref C) = some false) :
    OpR X (binaryOp op) (fun x y H Q => IsI H C x ∧ ∃ i, y = .int i ∧ sp [x, y] H Q E) := by
  intro pins s σ H x y v u Q I rx ry h
  obtain ⟨⟨a, dx, fs, rfl, ha⟩, i, rfl, h⟩ := h
  obtain rfl : v = Value.ref a := rx
  obtain ⟨t, rfl⟩ := ry
  obtain ⟨mA, J, _⟩ := ins_get I.hok ha
  obtain ⟨od, J, _⟩ := J.look
  obtain ⟨m, hF⟩ := I.fr
  refine PySem.W.ksp_binT (T := "int") hF I.ok.mod.kin J rfl hc hs hf hrc hp h1 h2 hsub ?_
  exact wpAny_mono (run_fnA (vs := [V.ref a, V.int i]) rfl F hr hb .nil hx I (.cons rfl (.cons ⟨t, rfl⟩ .nil)) (by simpa using h)) (fun _ _ q => cmpBack_of q) fun _ _ q => q
/-- - a -/
theorem un_own (F : FnOk X.prog X.w X.K X.mg X.base CX k f fd ps sp) (hr : Room k X.A) (hb : Binds X.K fd ps []) (hx : Passes CX X E) (hs : PySem.W.findIn X.K (.ref C) "__neg__" = some (some (.ref f))) (hf : PySem.W.isFn X.K (.ref f) = true) :
    UnR X (unaryOp .USub) (fun x H Q => IsI H C x ∧ sp [x] H Q E) := by
  intro pins s σ H x v Q I rx h
  obtain ⟨⟨a, dx, fs, rfl, ha⟩, h⟩ := h
  obtain rfl : v = Value.ref a := rx
  obtain ⟨mA, J, _⟩ := ins_get I.hok ha
  obtain ⟨od, J, _⟩ := J.look
  obtain ⟨m, hF⟩ := I.fr
  exact PySem.W.ksp_neg hF I.ok.mod.kin J hs hf (run_fnA (vs := [V.ref a]) rfl F hr hb .nil hx I (.cons rfl .nil) (by simpa using h))
/-- a op= b by the own in-place def -/
theorem in_own {op : Operator} (F : FnOk X.prog X.w X.K X.mg X.base CX k f fd ps sp) (hr : Room k X.A) (hb : Binds X.K fd ps []) (hx : Passes CX X E) (hc : PySem.W.selfFirst X.K C = true)
    (hs : PySem.W.findIn X.K (.ref C) (dunderI op.info.2) = some (some (.ref f))) (hf : PySem.W.isFn X.K (.ref f) = true) :
    PIp X op (fun x y H Q => IsI H C x ∧ sp [x, y] H Q E) := by
  intro pins s σ H x y v u Q I rx ry h
  obtain ⟨⟨a, dx, fs, rfl, ha⟩, h⟩ := h
  obtain rfl : v = Value.ref a := rx
  obtain ⟨mA, J, _⟩ := ins_get I.hok ha
  obtain ⟨od, J, _⟩ := J.look
  obtain ⟨m, hF⟩ := I.fr
  refine PySem.W.ksp_inplace hF I.ok.mod.kin J hc hs hf ?_
  exact wpAny_mono (run_fnA (vs := [V.ref a, y]) rfl F hr hb .nil hx I (.cons rfl (.cons ry .nil)) (by simpa using h)) (fun _ _ q => cmpBack_of q) fun _ _ q => q
/-- a[i] by the own __getitem__ -/
theorem ix_own (F : FnOk X.prog X.w X.K X.mg X.base CX k f fd ps sp) (hr : Room (k + 1) X.A) (hb : Binds X.K fd ps []) (hx : Passes CX X E) (hs : PySem.W.findIn X.K (.ref C) "__getitem__" = some (some (.ref f))) (hf : PySem.W.isFn X.K (.ref f) = true)
    (hfi : PySem.W.fnIn X.K f = true) {value slice : Expr} {ta tb : TE} {pos : Pos} (ha : PE X value ta) (hbb : PE X slice tb)
    (hsl : ∀ a i, subscripted slice true (.ref a) i = runValue (.builtin "lifetime.subscript" ⟨[.ref a, i], []⟩) := by intros; with_unfolding_all rfl) :
    PE X (.Subscript value slice pos) (tOp (fun x y H Q => IsI H C x ∧ sp [x, y] H Q E) ta tb) := by
  refine ⟨fun pins s σ H Q I h => ?_⟩
  refine Subscript_ (binT ha hbb I h fun v u s2 x y H2 I2 rx ry q => ?_)
  obtain ⟨⟨a, dx, fs, rfl, hin⟩, q⟩ := q
  obtain rfl : v = Value.ref a := rx
  obtain ⟨mA, J, _⟩ := ins_get I2.hok hin
  obtain ⟨od, J, _⟩ := J.look
  obtain ⟨m, hF⟩ := I2.fr
  exact PySem.W.sub_K hF I2.ok.mod.kin J hs hfi hf (run_fnA (vs := [V.ref a, y]) rfl F hr.in1 hb .nil hx I2 (.cons rfl (.cons ry .nil)) (by simpa using q)) (hsl _ _)
/-- a[i] = v by the own __setitem__ -/
theorem set_own (F : FnOk X.prog X.w X.K X.mg X.base CX k f fd ps sp) (hr : Room k X.A) (hb : Binds X.K fd ps []) (hx : Passes CX X E) (hs : PySem.W.findIn X.K (.ref C) "__setitem__" = some (some (.ref f))) (hf : PySem.W.isFn X.K (.ref f) = true)
    (hq : PySem.W.noSeq X.K C = true) : PSet X (fun o i v H Q => IsI H C o ∧ sp [o, i, v] H (fun _ H' => Q H') E) := by
  intro pins s σ H o i v ov iv u Q I ro ri rv h
  obtain ⟨⟨a, dx, fs, rfl, ha⟩, h⟩ := h
  obtain rfl : ov = Value.ref a := ro
  obtain ⟨mA, J, _⟩ := ins_get I.hok ha
  obtain ⟨od, J, _⟩ := J.look
  obtain ⟨m, hF⟩ := I.fr
  refine PySem.W.ksp_setItem hF I.ok.mod.kin J hq hs hf ?_
  exact wpAny_mono (run_fnA (vs := [V.ref a, i, v]) rfl F hr hb .nil hx I (.cons rfl (.cons ri (.cons rv .nil))) (by simpa using h)) (fun _ _ ⟨_, H', I', _, q⟩ => ⟨H', I', q⟩) fun _ _ q => q
end
end FwOp
namespace FwOp
open PySem PySem.Spec PyProof.Rows L2
open Sem (wp)
open Builtin
theorem int_mul_inst (a : Int) (t : Tok) (l : Addr) (C dx : Addr) :
    Meets (Builtin.«int.__mul__» ⟨[.int a t, .ref l], []⟩) (fun _ R s => s.heap.get? l = some (PySem.W.instObj C dx) ∧ R (.ok (.ret Value.notImplemented)) s) :=
  .of_wp fun prog w A R s h => by obtain ⟨hp, g, d, tk, os⟩ := s; obtain ⟨hl, h⟩ := h; wp_walk; exact ⟨_, rfl, h⟩
end FwOp
namespace FwOp
open PySem PySem.Spec PyProof.Rows L2 PySem.W
section
variable {prog : Program} {w : World} {A : Around} {E : Value → Shared → Prop} {s : Shared} {K : Frag} {x C L f g : Addr} {h₀ : Heap} {m : Str → Option Value} {dx : Addr} {od : Option Obj} {n : Int} {t : Tok}
theorem dec_mul {R : Option Value → Shared → Prop} {nm : Str} (h2 : Slot "int" nm "int.__mul__") (hx : s.heap.get? x = some (instObj C dx)) (q : R none s) : wpAny (model prog w) A (tryMethod (.int n t) nm (.ref x)) R E s :=
  wpAny_tryMethod_declines (typeIs_int s n t) h2 (call_meets PySem.F.slot_int_mul (typeIs_int s n t) PySem.F.entry_int_mul (PySem.F.args_int_mul_2 _ _) (int_mul_inst n t x C dx) ⟨hx, ⟨rfl, q⟩⟩)
set_option maxHeartbeats 400000 in
theorem bin_right {op : Operator} {b : Value} {Q : Value → Shared → Prop} (F : Fr h₀ L s.heap m) (X₀ : K.In h₀) (I : InstAt s.heap x (instObj C dx) C od) (hb : typeOf b = pure (.type "int")) (hc : selfFirst K C = true)
    (hs : findIn K (.ref C) (PySem.dunder op.info.2) = some (some (.ref g))) (hr : findIn K (.ref C) (dunderR op.info.2) = some (some (.ref f))) (hf : isFn K (.ref f) = true) (hsub : subIn K (.ref C) (.type "int") = some false)
    (hfill : fillsNumberSlot (.type "int") op.info.2 = pure true)
    (hd : ∀ R : Option Value → Shared → Prop, R none s → wpAny (model prog w) A (tryMethod b (PySem.dunder op.info.2) (.ref x)) R E s)
    (h : wpAny (model prog w) A (call (.ref f) [.ref x, b]) (PySem.W.CmpBack Q) E s) : wpAny (model prog w) A (binaryOp op b (.ref x)) Q E s := by
  have X := X₀.keeps F.keep
  obtain ⟨cd, rest, hcd, hm⟩ := ksp_first hc
  rcases hi : op.info with ⟨sym, nm'⟩
  rw [hi] at hs hr hfill hd
  dsimp only at hs hr hfill hd
  have one := ksp_try X I hr hf h
  obtain ⟨hh, g', d, tt, os⟩ := s
  have Lk1 : Looks (model prog w) hh (typeOf (.ref x)) (.ref C) := I.type
  have Lk2 : Looks (model prog w) hh (typeOf b) (.type "int") := Looks.of_pure hb
  have Lk3 : Looks (model prog w) hh (fillsNumberSlot (.ref C) nm') true := fills_K X hcd hm hs
  have Lk4 : Looks (model prog w) hh (fillsNumberSlot (.type "int") nm') true := Looks.of_pure hfill
  have Lk5 : Looks (model prog w) hh (isSubtype (.ref C) (.type "int")) false := looks_subIn X hsub
  have Lk7 : Looks (model prog w) hh (numberSlotInPython (.type "int") nm') false := Looks.of_pure rfl
  have hne : (Value.type "int" == Value.ref C) = false := Bool.eq_false_iff.mpr fun q => by cases beq_iff_eq.mp q
  simp only [binaryOp, hi]
  refine wpAny_holding (wpAny_bind ?_)
  unfold binaryOp1
  refine wpAny_bind (Lk2.at (wpAny_bind (Lk1.at (wpAny_bind (Lk4.at ?_)))))
  simp only [hne, Bool.false_eq_true, if_false]
  ksp_lk
  refine hd _ ?_
  ksp_lk
  refine wpAny_mono one (fun r s' hr' => ?_) fun _ _ e => e
  obtain ⟨v, rfl, hq⟩ := hr'
  ksp_lk
  exact hq
end
section
variable {X : Cx} {CX : CXT} {k : Nat} {f g C : Addr} {fd : FuncData} {ps : List Str} {sp : Sp} {E : XK}
/-- n op a, a of the class -/
theorem op_rightG {op : Operator} (F : FnOk X.prog X.w X.K X.mg X.base CX k f fd ps sp) (hr : Room k X.A) (hb : Binds X.K fd ps []) (hx : Passes CX X E) (hc : PySem.W.selfFirst X.K C = true)
    (hs : PySem.W.findIn X.K (.ref C) (PySem.dunder op.info.2) = some (some (.ref g))) (hrr : PySem.W.findIn X.K (.ref C) (dunderR op.info.2) = some (some (.ref f))) (hf : PySem.W.isFn X.K (.ref f) = true) (hsub : PySem.W.subIn X.K (.ref C) (.type "int") = some false)
    (hfill : fillsNumberSlot (.type "int") op.info.2 = pure true) (hslot : Slot "int" (PySem.dunder op.info.2) "int.__mul__") :
    OpR X (binaryOp op) (fun x y H Q => IsI H C y ∧ ∃ i, x = .int i ∧ sp [y, x] H Q E) := by
  intro pins s σ H x y v u Q I rx ry h
  obtain ⟨⟨a, dx, fs, rfl, ha⟩, i, rfl, h⟩ := h
  obtain rfl : u = Value.ref a := ry
  obtain ⟨t, rfl⟩ := rx
  obtain ⟨mA, J, _⟩ := ins_get I.hok ha
  obtain ⟨od, J, _⟩ := J.look
  obtain ⟨m, hF⟩ := I.fr
  refine bin_right hF I.ok.mod.kin J rfl hc hs hrr hf hsub hfill (fun R q => dec_mul hslot J.at_ q) ?_
  exact wpAny_mono (run_fnA (vs := [V.ref a, V.int i]) rfl F hr hb .nil hx I (.cons rfl (.cons ⟨t, rfl⟩ .nil)) (by simpa using h)) (fun _ _ q => cmpBack_of q) fun _ _ q => q
end
end FwOp
set_option Elab.async false
set_option linter.all false
set_option maxRecDepth 100000
/-! set(text), sorted(set of signs), list(text) -/
namespace FwSet
open PySem PySem.Froz
section
variable {P : Program} {w : World} {A : Around} {E : Value → Shared → Prop} {s : Shared}
/-- the table rises, and is walked by its text or by places -/
def Gd (w : World) (D : SD) : Prop := L2.Ris D.2.2.place.toList ∧ (w.params.followText "set-order" = true ∨ D.2.2.led = true)
theorem gd_tail {ep : Nat} {es1 : Array (Int × Value)} {t2 : SetTable} {wd : Bool} (h : Gd w (es1, ep, t2)) : Gd w (tailTx ep es1 t2 wd) := by
  unfold tailTx
  split
  · exact ⟨L2.relayAll_ris t2 es1 _, h.2.imp id fun z => by show (relayAll t2 es1 _).2.1.led = true; rw [L2.relayAll_led]; exact z⟩
  · exact h
theorem gd_add {D : SD} {hh : Int} {v : Value} (h : Gd w D) : Gd w (addTx hh v D) := by
  obtain ⟨es, ep, t⟩ := D
  have h1 : L2.Ris (layNew t es hh v).2.1.place.toList := L2.layNew_ris t es hh v h.1
  have h2 : w.params.followText "set-order" = true ∨ (layNew t es hh v).2.1.led = true := h.2.imp id fun z => by rw [L2.layNew_led]; exact z
  unfold addTx
  refine gd_tail ?_
  dsimp only
  split
  · exact ⟨h1, h2⟩
  · exact ⟨h1, h2⟩
theorem gd_run : ∀ (cs : List Nat) (tk : Tok) (D : SD), Gd w D → Gd w (runD w cs tk D)
  | [], _, _, h => h
  | c :: r, tk, D, h => gd_run r (tk + 2) _ (gd_add h)
theorem ok_run : ∀ (cs : List Nat) (tk : Tok) (D : SD) (l : List Str), TxOk P w D l → TxOk P w (runD w cs tk D) ((cs.map sing).reverse ++ l)
  | [], _, _, _, h => h
  | c :: r, tk, D, l, h => by
    have q := ok_run r (tk + 2) _ (sing c :: l) (add_ok tk h)
    show TxOk P w (runD w r (tk + 2) (addTx (hashStr w (sing c)) (.str (sing c) tk) D)) _
    have e : ((c :: r).map sing).reverse ++ l = (r.map sing).reverse ++ (sing c :: l) := by simp
    rw [e]
    exact q
/-- the set of signs at a -/
def SetC (P : Program) (w : World) (h : Heap) (a : Addr) (l : List Str) : Prop := ∃ D : SD, h.get? a = some (sObj "set" D) ∧ TxOk P w D l ∧ Gd w D
theorem code_set_new_led (a : Value) {Q₁ : Value → Shared → Prop}
    (h : Q₁ (.ref s.heap.objs.size) { s with heap := s.heap.push { cls := .type "set", dict := none, data := .set #[] 0 (.fresh 0 0 (!w.params.followText "set-order")) } }) :
    codeAny (model P w) A (.call (.builtin "set.__new__") ⟨[.type "set", a], []⟩) (wants Q₁ E) s := by
  refine codeAny_of_tree ?_
  show wpAny _ A.in1 (do checkBuiltinCall "set.__new__" ⟨[.type "set", a], []⟩; again (.builtin "set.__new__" ⟨[.type "set", a], []⟩)) _ _ s
  refine wpAny_bind (wpAny_of_eq (F.newCall_set_1 a) (wpAny_pure ⟨plainId_quiet F.plain_set_new _, codeAny_builtin F.entry_set_new ?_⟩))
  rw [Around.under_plainId F.plain_set_new _]
  unfold Builtin.«set.__new__» Builtin.Frozenset.newClass
  have hsub := sub_set_self
  obtain ⟨hp, g, d, tk, os⟩ := s
  dsimp only
  wp_walk
  refine wpAny_askSetting (wpAny_pure ?_)
  dsimp only
  simp only [newObj]
  refine wpAny_bind (wpAny_alloc (wpAny_pure ?_))
  exact wpAny_pure h
def fr0 (w : World) : SD := (#[], 0, SetTable.fresh 0 0 (!w.params.followText "set-order"))
theorem loop_str {S : Addr} {x : Str} {t : Tok} {R : Result → Shared → Prop} (hh : A.handled = none) (hn : x.cps.toList.Nodup) (hz : x.cps.size < 1000) (hS : s.heap.get? S = some (sObj "set" (fr0 w)))
    (hR : ∀ (h' : Heap) (tk : Nat), SetC P w h' S (x.cps.toList.map sing).reverse → (∀ b o, b ≠ S → s.heap.get? b = some o → h'.get? b = some o) → R (.ok (.ret .none)) { s with heap := h', toks := tk }) :
    codeAny (model P w) A (.builtin "set.update.loop" ⟨[.ref S, .ref s.heap.objs.size], []⟩) R { s with heap := s.heap.push (itObj x t 0) } := by
  have hneI : S ≠ s.heap.objs.size := Nat.ne_of_lt (Heap.lt_size hS)
  have hszl : x.cps.toList.length = x.cps.size := by simp
  have hT0 : TxOk P w (fr0 w) [] := TxOk.nil rfl
  have hG0 : Gd w (fr0 w) := ⟨List.Pairwise.nil, by
    show _ ∨ (!w.params.followText "set-order") = true
    cases w.params.followText "set-order"
    · exact .inr rfl
    · exact .inl rfl⟩
  have h2 : (s.heap.push (itObj x t 0)).get? s.heap.objs.size = some (itObj x t 0) := Heap.get?_push_size _ rfl
  have h1 : (s.heap.push (itObj x t 0)).get? S = some (sObj "set" (fr0 w)) := Heap.get?_push_of_some _ hS
  refine code_update (s := { s with heap := s.heap.push (itObj x t 0) }) (u := t) hneI hh x.cps.toList 0 (fr0 w) [] (List.drop_zero ..) h1 h2 hT0 (fun c _ => by simp) hn (by
    show 0 + x.cps.toList.length < scanBound
    rw [hszl]; unfold scanBound; omega) ?_
  have q := ok_run (P := P) (w := w) x.cps.toList s.toks _ _ hT0
  rw [List.append_nil] at q
  refine hR _ _ ⟨_, ?_, q, gd_run _ _ _ hG0⟩ fun b o hb e => ?_
  · show (((two (s.heap.push (itObj x t 0)) S (sObj "set" (runD w x.cps.toList s.toks (fr0 w))) s.heap.objs.size (itEnd (0 + x.cps.toList.length))).push tupObj).push (stopObj (s.heap.push (itObj x t 0)).objs.size)).get? S = _
    refine Heap.get?_push_of_some _ (Heap.get?_push_of_some _ ?_)
    exact Heap.get?_update_of_ne _ (Ne.symm hneI) (get_upd _ h1 rfl)
  · show (((two (s.heap.push (itObj x t 0)) S (sObj "set" (runD w x.cps.toList s.toks (fr0 w))) s.heap.objs.size (itEnd (0 + x.cps.toList.length))).push tupObj).push (stopObj (s.heap.push (itObj x t 0)).objs.size)).get? b = some o
    refine Heap.get?_push_of_some _ (Heap.get?_push_of_some _ ?_)
    exact Heap.get?_update_of_ne _ (Ne.symm (Nat.ne_of_lt (Heap.lt_size e))) (Heap.get?_update_of_ne _ (Ne.symm hb) (Heap.get?_push_of_some _ e))
set_option maxHeartbeats 3200000 in
theorem call_set_str {x : Str} {t : Tok} {Q : Value → Shared → Prop}
    (hh : A.handled = none) (ha : x.cps.all (· < 128) = true) (hn : x.cps.toList.Nodup) (hz : x.cps.size < 1000)
    (h : ∀ (h' : Heap) (tk : Nat), SetC P w h' s.heap.objs.size (x.cps.toList.map sing).reverse →
      (∀ b o, s.heap.get? b = some o → h'.get? b = some o) → Q (.ref s.heap.objs.size) { s with heap := h', toks := tk }) :
    wpAny (model P w) A (call (.type "set") [.str x t]) Q E s := by
  obtain ⟨c, tl, hmro⟩ := PySem.F.called_set.mro
  have hmade := PySem.F.called_set.made
  have hsub := PySem.F.called_set.sub
  refine wpAny_call (codeAny_of_tree ?_)
  show wpAny _ _ (callAny (.type "set") _) _ _ _
  refine wpAny_pure ⟨Code.quiet_builtin _ (by decide +kernel), codeAny_builtin PySem.F.entry_type_call ?_⟩
  rw [Around.under_plain (weight_type_call_type "set" [.str x t] []) rfl]
  have h1 := PySem.F.called_set.notType
  have h2 := PySem.F.called_set.canCreate
  have hct := PySem.F.typeCall_set_1 (.str x t)
  repeat (any_goals (first | assumption | wp_step))
  refine codeAny_mono (code_set_new_led (.str x t) (E := E) (Q₁ := fun obj s₁ => obj = .ref s.heap.objs.size ∧ s₁ = { s with heap := s.heap.push { cls := .type "set", dict := none, data := .set #[] 0 (.fresh 0 0 (!w.params.followText "set-order")) } }) ⟨rfl, rfl⟩) fun r s₁ hr => ?_
  cases r with
  | error e => exact hr
  | ok fl =>
    cases fl with
    | ret obj =>
      obtain ⟨rfl, rfl⟩ := hr
      have hS : (s.heap.push { cls := .type "set", dict := none, data := .set #[] 0 (.fresh 0 0 (!w.params.followText "set-order")) }).get? s.heap.objs.size = some { cls := .type "set", dict := none, data := .set #[] 0 (.fresh 0 0 (!w.params.followText "set-order")) } := Heap.get?_push_size _ rfl
      have hT : Shared.TypeIs { s with heap := s.heap.push { cls := .type "set", dict := none, data := .set #[] 0 (.fresh 0 0 (!w.params.followText "set-order")) } } (.ref s.heap.objs.size) "set" := ⟨_, hS, rfl⟩
      have hli := PySem.F.called_set.init.lookup
      have hbi := PySem.F.called_set.init.bind (.ref s.heap.objs.size)
      repeat (any_goals (first | assumption | wp_step))
      refine codeAny_mono (codeAny_call_builtin (R := wants (fun r s₂ => r = .none ∧ ∃ h' tk, s₂ = { s with heap := h', toks := tk } ∧
          SetC P w h' s.heap.objs.size (x.cps.toList.map sing).reverse ∧ (∀ b o, s.heap.get? b = some o → h'.get? b = some o)) E) PySem.F.called_set.init.plain PySem.F.entry_set_init (check_set_init_1 hT ?_)) fun r₂ s₂ hr₂ => ?_
      · have hne : (Value.type "str" == Value.type "dict") = false := by decide
        have hss : isSubtype (.type "str") (.type "set") = pure false := by rw [isSubtype_type]; kernel_rfl
        have hsf : isSubtype (.type "str") (.type "frozenset") = pure false := by rw [isSubtype_type]; kernel_rfl
        unfold Builtin.«set.__init__» noKeywords Builtin.Frozenset.updateFrom
        generalize hPI : pyIter = PI
        wp_walk
        subst hPI
        refine wpAny_pyIter_ascii ha ?_
        refine wpAny_bind (wpAny_runValue ?_)
        have hh3 : A.in1.in1.in1.handled = none := by simp [hh]
        refine loop_str (s := { s with heap := s.heap.push { cls := .type "set", dict := none, data := .set #[] 0 (.fresh 0 0 (!w.params.followText "set-order")) } }) hh3 hn hz hS fun h' tk hset hk => ?_
        refine wpAny_pure ?_
        show wpAny _ _ (ret Value.none) _ _ _
        exact wpAny_pure ⟨rfl, h', tk, rfl, hset, fun b o e => hk b o (Nat.ne_of_lt (Heap.lt_size e)) (Heap.get?_push_of_some _ e)⟩
      · cases r₂ with
        | error e => exact hr₂
        | ok fl₂ =>
          cases fl₂ with
          | ret r =>
            obtain ⟨rfl, h', tk, rfl, hS', hk'⟩ := hr₂
            repeat (any_goals (first | assumption | wp_step))
            exact h _ _ hS' hk'
          | _ => exact hr₂.elim
    | _ => exact hr.elim
end
end FwSet
set_option Elab.async false
set_option linter.all false
set_option maxRecDepth 100000
namespace FwSet
open PySem PySem.Froz PyProof.Rows
section
variable {P : Program} {w : World} {A : Around} {E : Value → Shared → Prop} {s : Shared}
theorem strsAre_of_all : ∀ (vs : List Value), (∀ v ∈ vs, ∃ k u, v = Value.str k u) → ∃ ks, StrsAre vs ks
  | [], _ => ⟨[], .nil⟩
  | v :: vs, h => by
    obtain ⟨k, u, rfl⟩ := h v List.mem_cons_self
    obtain ⟨ks, hk⟩ := strsAre_of_all vs fun v hv => h v (List.mem_cons_of_mem _ hv)
    exact ⟨k :: ks, .cons k u hk⟩
theorem strsAre_mem {vs : List Value} {ks : List Str} (h : StrsAre vs ks) (k : Str) : k ∈ ks ↔ ∃ v ∈ vs, (PySem.strKind P w).is k v = true := by
  induction h with
  | nil => simp
  | cons n t hr ih =>
    constructor
    · intro hm
      rcases List.mem_cons.mp hm with q | q
      · exact ⟨_, List.mem_cons_self, by rw [q]; exact is_str _ _⟩
      · obtain ⟨v, hv, hi⟩ := ih.mp q
        exact ⟨v, List.mem_cons_of_mem _ hv, hi⟩
    · rintro ⟨v, hv, hi⟩
      rcases List.mem_cons.mp hv with q | q
      · rw [q] at hi
        rw [(PySem.strKind P w).inj _ k n hi (is_str _ _)]
        exact List.mem_cons_self
      · exact List.mem_cons_of_mem _ (ih.mpr ⟨v, q, hi⟩)
theorem strsAre_len {vs : List Value} {ks : List Str} (h : StrsAre vs ks) : vs.length = ks.length := by
  induction h with
  | nil => rfl
  | cons n t hr ih => simp [ih]
/-- two lists of one length, the same members, the one without doubles: each a rearrangement of the other -/
theorem perm_of_mem {α : Type} [DecidableEq α] : ∀ (l m : List α), l.Nodup → l.length = m.length → (∀ k, k ∈ l ↔ k ∈ m) → m.Perm l
  | [], m, _, hl, _ => by
    cases m with
    | nil => exact List.Perm.nil
    | cons a m => simp at hl
  | a :: l, m, hd, hl, hm => by
    obtain ⟨h1, h2⟩ := List.nodup_cons.mp hd
    have ha : a ∈ m := (hm a).mp List.mem_cons_self
    have pe := List.perm_cons_erase ha
    have hle : (m.erase a).length = l.length := by
      have := pe.length_eq
      simp at this hl
      omega
    have sub : ∀ k ∈ l, k ∈ m.erase a := fun k hk => by
      have hne : k ≠ a := fun z => h1 (z ▸ hk)
      exact (List.mem_erase_of_ne hne).mpr ((hm k).mp (List.mem_cons_of_mem _ hk))
    have nodupSub : ∀ (l m : List α), l.Nodup → m.length = l.length → (∀ k ∈ l, k ∈ m) → m.Perm l := by
      intro l
      induction l with
      | nil => intro m _ hl _; cases m with | nil => exact List.Perm.nil | cons a m => simp at hl
      | cons b l ih =>
        intro m hd hl hs
        obtain ⟨g1, g2⟩ := List.nodup_cons.mp hd
        have hb : b ∈ m := hs b List.mem_cons_self
        have pe := List.perm_cons_erase hb
        refine pe.trans (List.Perm.cons b (ih _ g2 ?_ fun k hk => ?_))
        · have := pe.length_eq
          simp at this hl
          omega
        · have hne : k ≠ b := fun z => g1 (z ▸ hk)
          exact (List.mem_erase_of_ne hne).mpr (hs k (List.mem_cons_of_mem _ hk))
    exact pe.trans (List.Perm.cons a (nodupSub l _ h2 hle sub))
theorem sorted_setC {a : Addr} {l : List Str} {Q : Value → Shared → Prop} (R : SetC P w s.heap a l) (hh : A.handled = none) (h64 : l.length < 64) (hnd : l.Nodup)
    (hQ : ∀ s' p (out : Array Value) (c : Nat) (ys : List Str), (∀ b o, s.heap.get? b = some o → s'.heap.get? b = some o) → s'.gens = s.gens → s'.os = s.os → s.heap.objs.size ≤ p →
      s'.heap.get? p = some (seqObj "list" out c) → StrsAre out.toList ys → ys.Perm l → sortedS ys = true → Q (.ref p) s') :
    wpAny (model P w) A (call (.builtin "sorted") [.ref a]) Q E s := by
  obtain ⟨⟨es, ep, t⟩, ho, F, G⟩ := R
  refine Calls.call_function_entry kind_sorted plain_sorted entry_sorted (args_sorted1 _) ?_
  unfold Builtin.«sorted»
  refine wpAny_bind (m := checkCount "sorted" 1 1 _) (wpAny_pure ?_)
  have hsz : es.size = l.length := F.sz
  refine wpAny_bind (L2.collect_set (A := A.in1) hh ⟨_, ho, rfl, rfl⟩ F.fit (by rw [hsz]; unfold scanBound; omega) G.1 G.2 fun s1 vs k1 hz g1 o1 pm => ?_)
  have hvl : vs.length = l.length := by rw [pm.length_eq, List.length_map, Array.length_toList]; exact hsz
  obtain ⟨ks, hS⟩ := strsAre_of_all vs fun v hv => by
    obtain ⟨e, he, q⟩ := List.mem_map.mp (pm.mem_iff.mp hv)
    obtain ⟨⟨k, hk, _⟩, _⟩ := F.el e he
    obtain ⟨u, hu⟩ := Value.isStrOf_shape (show Value.isStrOf k e.2 = true from hk)
    exact ⟨k, u, by rw [← q, hu]⟩
  have hkl : ks.length = l.length := by rw [← strsAre_len hS]; exact hvl
  have hp : ks.Perm l := perm_of_mem l ks hnd hkl.symm fun k => by
    rw [F.mem k, strsAre_mem (P := P) (w := w) hS k]
    constructor
    · rintro ⟨e, he, q⟩
      exact ⟨e.2, pm.mem_iff.mpr (List.mem_map.mpr ⟨e, he, rfl⟩), q⟩
    · rintro ⟨v, hv, q⟩
      obtain ⟨e, he, z⟩ := List.mem_map.mp (pm.mem_iff.mp hv)
      exact ⟨e, he, by rw [z]; exact q⟩
  refine wpAny_bind (wpAny_newList ?_ (by rw [hvl, sizeLine_eq]; omega))
  have hoL : (s1.heap.push (seqObj "list" vs.toArray 0)).get? s1.heap.objs.size = some (seqObj "list" vs.toArray 0) := Heap.get?_push_size _ rfl
  refine wpAny_bind (wpAny_holding (wpAny_call_entry slot_list_sort ⟨_, hoL, rfl⟩ entry_list_sort (list_sort_treeK strKind_oneLt hoL hS.keysOf (fun v₁ v₂ rest e => keyKind_strs (by rw [← e]; exact hS)) (by rw [hvl]; exact h64) fun st' hpp hs => ⟨_, rfl, ?_⟩) (args_list_sort _)))
  obtain ⟨ys, a1, a2, a3⟩ := sorted_out_str hS hpp hs
  obtain ⟨c, hc⟩ := sortedHeap_at (vs := vs) (out := (arrOf st').map (·.2)) hoL
  refine wpAny_pure ⟨_, rfl, hQ _ s1.heap.objs.size ((arrOf st').map (·.2)) c ys (fun b u e => ?_) g1 o1 hz hc a1 (a2.trans hp) a3⟩
  have q := k1 b u e
  have hlt := Heap.lt_size q
  show (sortedHeap (s1.heap.push (seqObj "list" vs.toArray 0)) s1.heap.objs.size vs ((arrOf st').map (·.2))).get? b = some u
  rw [sortedHeap_old (Nat.ne_of_lt hlt) (by rw [Heap.size_push]; exact Nat.lt_succ_of_lt hlt)]
  exact Heap.get?_push_of_some _ q
end
end FwSet
namespace FwSet
open PySem PySem.Spec PyProof.Rows L2
/-- the signs of a text, each a text -/
def sgn (x : Str) : List Str := x.cps.toList.map fun c => (⟨#[c]⟩ : Str)
def SetCO (P : Program) (w : World) (a : Addr) (l : List Str) : HO := .ext fun h => SetC P w h a l
theorem setC_ok {P : Program} {w : World} {H : Hp} {h : Heap} {a : Addr} {l : List Str} (R : SetC P w h a l) : ObjOk P w H h a (SetCO P w a l) := by
  obtain ⟨D, ho, r⟩ := id R
  exact ⟨R, ⟨_, ho⟩, fun h1 h2 ⟨D, ho, r⟩ k => ⟨D, k _ ho, r⟩⟩
section
variable {X : Cx}
/-- set(x), x a text of few plain signs, none twice -/
def rSetStr (P : Program) (w : World) : List V → Hp → VK → Prop := fun xs H Q => ∃ x : Str, xs = [.str x] ∧ x.cps.all (· < 128) = true ∧ x.cps.toList.Nodup ∧ x.cps.size < 1000 ∧ ∀ p, H p = none → Q (.ref p) (upd H p (SetCO P w p (sgn x).reverse))
theorem cr_setStr (hc : X.calm = true) : CallR X (.type "set") (rSetStr X.prog X.w) := by
  intro pins s σ H xs us Q I r h
  obtain ⟨x, rfl, ha, hn, hz, q⟩ := h
  obtain ⟨u, rfl, rx⟩ := vals1 r
  obtain ⟨t, rfl⟩ := rx
  refine call_set_str (I.ok.hd hc) ha hn hz fun h' tk R k => ?_
  exact ⟨.ref _, upd H s.heap.objs.size (SetCO X.prog X.w s.heap.objs.size (sgn x).reverse), I.laid (t' := tk) k (Nat.le_refl _) (setC_ok R), rfl, q _ (I.hok.fresh (Nat.le_refl _))⟩
/-- sorted(found) -/
def rSortSetC (P : Program) (w : World) : List V → Hp → VK → Prop := fun xs H Q => ∃ (a : Addr) (l : List Str), xs = [.ref a] ∧ H a = some (SetCO P w a l) ∧ l.length < 64 ∧ l.Nodup ∧ ∀ (ys : List Str) (p : Addr), ys.Perm l → sortedS ys = true → H p = none → Q (.ref p) (upd H p (.lst (ys.map V.str)))
theorem cr_sortSetC (hc : X.calm = true) : CallR X (.builtin "sorted") (rSortSetC X.prog X.w) := by
  intro pins s σ H xs us Q I r h
  obtain ⟨a, l, rfl, ha, h64, hn, q⟩ := h
  rw [Vals.ref1 r]
  have R : SetC X.prog X.w s.heap a l := (I.hok a _ ha).1
  refine sorted_setC R (I.ok.hd hc) h64 hn fun s' p out c ys k g o hp hg hi hpm hs => ?_
  have hlen : (ys.map V.str).length ≤ sizeLine := by rw [List.length_map, hpm.length_eq, sizeLine_eq]; omega
  have hn : H p = none := I.hok.fresh hp
  have J : Inv X pins σ (upd H p (.lst (ys.map V.str))) { s with heap := s'.heap, gens := s'.gens, drawn := s'.drawn, toks := s'.toks } :=
    I.call (ch := []) (Un.laid k hp hn) (I.hok.laid k hp ⟨hlen, out.toList, c, vals_of_strs hi, hg⟩) (by rw [g]; exact I.bare) (fun _ z => nomatch z)
  have e : s' = { s with heap := s'.heap, gens := s'.gens, drawn := s'.drawn, toks := s'.toks } := by
    cases s'
    cases s
    cases o
    rfl
  rw [e]
  exact ⟨.ref p, _, J, rfl, q ys p hpm hs hn⟩
/-- list(x), x a text -/
def rListStr : List V → Hp → VK → Prop := fun xs H Q => ∃ x : Str, xs = [.str x] ∧ x.cps.size ≤ sizeLine ∧ ∀ p, H p = none → Q (.ref p) (upd H p (.lst ((sgn x).map V.str)))
theorem cr_listStr (hc : X.calm = true) : CallR X (.type "list") rListStr := by
  intro pins s σ H xs us Q I r h
  obtain ⟨x, rfl, hz, q⟩ := h
  obtain ⟨u, rfl, rx⟩ := vals1 r
  obtain ⟨t, rfl⟩ := rx
  refine call_list_str (hn := hz) (I.ok.hd hc) x t fun h' tk acc c k hS hI => ?_
  have hlen : ((sgn x).map V.str).length = x.cps.size := by simp [sgn]
  refine ⟨.ref _, upd H s.heap.objs.size (.lst ((sgn x).map V.str)), I.laid (t' := tk) k (Nat.le_refl _) (show ObjOk X.prog X.w _ _ _ (.lst ((sgn x).map V.str)) from ⟨by rw [hlen]; exact hz, acc.toList, c, ?_, ?_⟩), rfl, q _ (I.hok.fresh (Nat.le_refl _))⟩
  · refine vals_of_at (by rw [hlen, Array.length_toList]; exact hI.1.symm) fun j x' w' h1 h2 => ?_
    obtain ⟨c', u, hc', rfl⟩ := hI.2 j w' (by rw [← Array.getElem?_toList]; exact h2)
    have e : ((sgn x).map V.str)[j]? = some (V.str ⟨#[c']⟩) := by
      simp [sgn, hc']
    rw [e] at h1
    cases h1
    exact ⟨u, rfl⟩
  · rw [Array.toArray_toList]; exact hS
end
end FwSet
set_option Elab.async false
set_option linter.all false
set_option maxRecDepth 100000
set_option maxHeartbeats 1000000
/-! zip(text, list) -/
namespace FwZip
open PySem
section
variable {prog : Program} {w : World} {A : Around} {E : Value → Shared → Prop} {s : Shared}
abbrev SIt (h : Heap) (it : Addr) (x : Str) (t : Tok) (i : Nat) : Prop := h.IsStrIter it "str_ascii_iterator" x t i
theorem next_sign {it : Addr} {x : Str} {t : Tok} {i c : Nat} {Q : Value → Shared → Prop} (hit : SIt s.heap it x t i) (hx : x.cps[i]? = some c)
    (hQ : ∀ h', SIt h' it x t (i + 1) → Heap.SameBut it s.heap h' → Q (.str ⟨#[c]⟩ s.toks) { s with heap := h', toks := s.toks + 1 }) :
    wpAny (model prog w) A (Builtin.SmallTypes.nextOf (.ref it)) Q E s := by
  obtain ⟨o, ho, hc, hd⟩ := id hit
  unfold Builtin.SmallTypes.nextOf
  refine wpAny_bind (wpAny_callSpecial?_slot (name := Str.ofString "__next__") hit.typeIs F.slot_str_ascii_iterator_next (wpAny_call_entry F.slot_str_ascii_iterator_next hit.typeIs F.entry_str_ascii_iterator_next ?_ (F.args_str_ascii_iterator_next_1 _)))
  show wpAny _ _ (field (.ref it) 0 >>= _) _ _ s
  refine wpAny_bind (wpAny_field ho hd (x := .str x t) rfl ?_)
  show wpAny _ _ (field (.ref it) 1 >>= _) _ _ s
  refine wpAny_bind (wpAny_field ho hd (x := .int i 0) rfl ?_)
  simp only [Int.toNat_natCast, hx]
  refine wpAny_bind (wpAny_setField ho hd (by simp) (wpAny_bind (wpAny_mkStr (wpAny_pure ⟨_, rfl, wpAny_pure (hQ _ ?_ (Heap.SameBut.update ..))⟩) (by show 1 ≤ sizeLine; decide))))
  exact ⟨_, Heap.get?_update_self _ ho (Obj.isFreed_of_fields (Obj.data_mapFields hd _)), (Obj.cls_mapFields ..).trans hc, by rw [Obj.data_mapFields hd]; simp [rawInt]⟩
theorem next_signEnd {it : Addr} {x : Str} {t : Tok} {i : Nat} {Q : Value → Shared → Prop} (hh : A.handled = none) (hit : SIt s.heap it x t i) (hx : x.cps[i]? = none)
    (hE : ∀ h' e, Heap.ExtBut it s.heap h' → (∃ o, h'.get? e = some o ∧ o.cls = .type "StopIteration") → E (.ref e) { s with heap := h' }) :
    wpAny (model prog w) A (Builtin.SmallTypes.nextOf (.ref it)) Q E s := by
  obtain ⟨o, ho, hc, hd⟩ := id hit
  unfold Builtin.SmallTypes.nextOf
  refine wpAny_bind (wpAny_callSpecial?_slot (name := Str.ofString "__next__") hit.typeIs F.slot_str_ascii_iterator_next (wpAny_call_entry F.slot_str_ascii_iterator_next hit.typeIs F.entry_str_ascii_iterator_next ?_ (F.args_str_ascii_iterator_next_1 _)))
  show wpAny _ _ (field (.ref it) 0 >>= _) _ _ s
  refine wpAny_bind (wpAny_field ho hd (x := .str x t) rfl ?_)
  show wpAny _ _ (field (.ref it) 1 >>= _) _ _ s
  refine wpAny_bind (wpAny_field ho hd (x := .int i 0) rfl ?_)
  simp only [Int.toNat_natCast, hx]
  refine wpAny_bind (wpAny_rule (wpAny_bind (wpAny_setField ho hd (by simp) (wpAny_bind (wpAny_letGo ?_)))))
  show wpAny _ _ (newExc (.type "StopIteration") [] >>= _) _ _ _
  refine wpAny_bind ?_
  simp only [newExc, newTuple]
  refine wpAny_bind (wpAny_newObj_type ?_ (by size_fits))
  refine wpAny_bind (m := firstArgMember _ _) (wpAny_of_eq (a := Value.none) (by first | rfl | (simp only [firstArgMember]; rfl)) ?_)
  refine wpAny_newObj_type ?_ (by size_fits)
  simp only [raiseNew]
  refine wpAny_bind (wpAny_handled ?_)
  first | rw [show A.in1.handled = none from hh] | rw [hh]
  refine wpAny_bind (wpAny_pure (wpAny_throw ?_))
  exact hE _ _ (((Heap.SameBut.update ..).extBut.push _).push _) ⟨_, Heap.get?_push_size _ rfl, rfl⟩
/-- how the five records and the list lie: all apart -/
abbrev Ap (z TI TO i1 i2 l : Addr) : Prop := ZipApart z TI TO i1 i2 l l
theorem zs_item {z TI TO i1 i2 l : Addr} {x : Str} {t : Tok} {k1 k2 c : Nat} {ys : Array Value} {y a b : Value} {Q : Value → Shared → Prop} (D : Ap z TI TO i1 i2 l)
    (hz : IsZip s.heap z TI TO .none) (hTI : IsPair s.heap TI (.ref i1) (.ref i2)) (hTO : IsPair s.heap TO a b)
    (h1 : SIt s.heap i1 x t k1) (h2 : s.heap.IsListIter i2 l k2) (hl : s.heap.IsList l ys) (hx : x.cps[k1]? = some c) (hy : ys[k2]? = some y)
    (hQ : ∀ h' v, v = Value.str ⟨#[c]⟩ s.toks → IsZip h' z TI TO (rawInt s.heap.objs.size) → IsPair h' TO v y → SIt h' i1 x t (k1 + 1) → h'.IsListIter i2 l (k2 + 1) → IsPair h' s.heap.objs.size v y → h'.objs.size = s.heap.objs.size + 1 →
      (∀ d o, d ≠ z → d ≠ TO → d ≠ i1 → d ≠ i2 → s.heap.get? d = some o → h'.get? d = some o) → Q (.ref s.heap.objs.size) { s with heap := h', toks := s.toks + 1 }) :
    wpAny (model prog w) A (Builtin.«zip.__next__» ⟨[.ref z], []⟩) (fun fin s' => ∃ v, fin = .done (.ret v) ∧ Q v s') E s := by
  show wpAny _ _ (field (.ref z) 2 >>= _) _ _ _
  refine wpAny_bind (wpAny_field hz rfl (x := .bool false) rfl ?_)
  show wpAny _ _ (field (.ref z) 3 >>= _) _ _ _
  refine wpAny_bind (wpAny_field hz rfl (x := .ref TI) rfl ?_)
  refine wpAny_bind (wpAny_seqItems hTI rfl ?_)
  show wpAny _ _ (Builtin.SmallTypes.ownedTupleIsFree (.ref z) >>= _) _ _ _
  refine wpAny_bind ?_
  unfold Builtin.SmallTypes.ownedTupleIsFree
  refine wpAny_bind (wpAny_field hz rfl (x := .none) rfl (wpAny_pure ?_))
  simp only [if_true]
  refine wpAny_bind (wpAny_rule ?_)
  refine wpAny_bind (wpAny_field hz rfl (x := .ref TO) rfl ?_)
  refine wpAny_bind (wpAny_setField_rec hz (by simp) fun g1 hz1 hs1 => ?_)
  replace hz1 : IsZip g1 z TI TO .ellipsis := hz1
  refine wpAny_bind ?_
  simp only [List.zipIdx_cons, List.zipIdx_nil, List.forIn_cons, List.forIn_nil]
  refine wpAny_bind (wpAny_bind (wpAny_onRaise ?_))
  show wpAny _ _ (Builtin.SmallTypes.nextOf (.ref i1) >>= _) _ _ _
  refine wpAny_bind (next_sign (h1.extBut hs1.extBut D.i1z) hx fun g2 h12 hs2 => wpAny_pure ?_)
  have hTO2 : IsPair g2 TO a b := hs2.extBut _ _ D.TOi1 (hs1.extBut _ _ D.TOz hTO)
  refine wpAny_bind (wpAny_seqItems hTO2 rfl ?_)
  refine wpAny_bind (wpAny_updateSeq_pair hTO2 fun g3 hTO3 hs3 => ?_)
  replace hTO3 : IsPair g3 TO (.str ⟨#[c]⟩ s.toks) b := hTO3
  refine wpAny_bind (wpAny_letGo (wpAny_pure ?_))
  refine wpAny_bind (wpAny_bind (wpAny_onRaise ?_))
  show wpAny _ _ (Builtin.SmallTypes.nextOf (.ref i2) >>= _) _ _ _
  refine wpAny_bind (wpAny_nextOf_list_item (((h2.extBut hs1.extBut D.i2z).extBut hs2.extBut D.i12.symm).extBut hs3.extBut D.TOi2.symm)
    (((hl.extBut hs1.extBut D.l2z).extBut hs2.extBut D.l2i1).extBut hs3.extBut D.l2TO) hy fun g4 h24 hs4 => wpAny_pure ?_)
  have hTO4 : IsPair g4 TO (.str ⟨#[c]⟩ s.toks) b := hs4.extBut _ _ D.TOi2 hTO3
  refine wpAny_bind (wpAny_seqItems hTO4 rfl ?_)
  refine wpAny_bind (wpAny_updateSeq_pair hTO4 fun g5 hTO5 hs5 => ?_)
  replace hTO5 : IsPair g5 TO (.str ⟨#[c]⟩ s.toks) y := hTO5
  refine wpAny_bind (wpAny_letGo (wpAny_pure (wpAny_pure ?_)))
  refine wpAny_bind (wpAny_seqItems hTO5 rfl ?_)
  refine wpAny_bind (wpAny_newTuple ?_)
  have hsz : g5.objs.size = s.heap.objs.size := by rw [hs5.1, hs4.1, hs3.1, hs2.1, hs1.1]
  have hz5 : IsZip g5 z TI TO .ellipsis := hs5.extBut _ _ D.TOz.symm (hs4.extBut _ _ D.i2z.symm (hs3.extBut _ _ D.TOz.symm (hs2.extBut _ _ D.i1z.symm hz1)))
  have hk5 : ∀ d o, d ≠ z → d ≠ TO → d ≠ i1 → d ≠ i2 → s.heap.get? d = some o → g5.get? d = some o := fun d o c1 c2 c3 c4 e =>
    hs5.extBut _ _ c2 (hs4.extBut _ _ c4 (hs3.extBut _ _ c2 (hs2.extBut _ _ c3 (hs1.extBut _ _ c1 e))))
  have h15 : SIt g5 i1 x t (k1 + 1) := ((h12.extBut hs3.extBut D.TOi1.symm).extBut hs4.extBut D.i12).extBut hs5.extBut D.TOi1.symm
  have h25 : g5.IsListIter i2 l (k2 + 1) := h24.extBut hs5.extBut D.TOi2.symm
  have hzlt : z < g5.objs.size := Heap.lt_size hz5
  show wpAny _ _ (Builtin.SmallTypes.ownedTupleHandOut (.ref z) (.ref g5.objs.size) >>= _) _ _ _
  refine wpAny_bind ?_
  unfold Builtin.SmallTypes.ownedTupleHandOut
  have hz6 : IsZip (g5.push { cls := .type "tuple", data := .seq #[.str ⟨#[c]⟩ s.toks, y] }) z TI TO .ellipsis := Heap.get?_push_of_some _ hz5
  refine wpAny_bind (wpAny_setField_rec hz6 (by simp) fun g7 hz7 hs7 => ?_)
  replace hz7 : IsZip g7 z TI TO (rawInt g5.objs.size) := hz7
  refine wpAny_setField_rec hz7 (by simp) fun g8 hz8 hs8 => ?_
  replace hz8 : IsZip g8 z TI TO (rawInt g5.objs.size) := hz8
  have up : ∀ d o, d ≠ z → g5.get? d = some o → g8.get? d = some o := fun d o c1 e => hs8.extBut _ _ c1 (hs7.extBut _ _ c1 (Heap.get?_push_of_some _ e))
  have hT8 : IsPair g8 g5.objs.size (.str ⟨#[c]⟩ s.toks) y := hs8.extBut _ _ (Nat.ne_of_gt hzlt) (hs7.extBut _ _ (Nat.ne_of_gt hzlt) (Heap.get?_push_size _ rfl))
  have hs8' : g8.objs.size = g5.objs.size + 1 := by rw [hs8.1, hs7.1, Heap.size_push]
  rw [hsz] at hz8 hT8 hs8'
  refine wpAny_pure ⟨_, rfl, ?_⟩
  show Q (.ref g5.objs.size) _
  rw [hsz]
  exact hQ g8 _ rfl hz8 (up _ _ D.TOz hTO5) (let ⟨o, e, r⟩ := h15; ⟨o, up _ o D.i1z e, r⟩) (h25.at fun o e => up _ o D.i2z e) hT8 hs8' fun d o c1 c2 c3 c4 e => up d o c1 (hk5 d o c1 c2 c3 c4 e)
theorem zs_end {z TI TO i1 i2 l : Addr} {x : Str} {t : Tok} {k1 k2 : Nat} {ys : Array Value} {a b : Value} {Q : Fin → Shared → Prop} (hh : A.handled = none) (D : Ap z TI TO i1 i2 l)
    (hz : IsZip s.heap z TI TO .none) (hTI : IsPair s.heap TI (.ref i1) (.ref i2)) (hTO : IsPair s.heap TO a b)
    (h1 : SIt s.heap i1 x t k1) (h2 : s.heap.IsListIter i2 l k2) (hl : s.heap.IsList l ys) (hend : x.cps[k1]? = none)
    (hE : ∀ h' e, (∀ d o, d ≠ z → d ≠ TO → d ≠ i1 → d ≠ i2 → s.heap.get? d = some o → h'.get? d = some o) → (∃ o, h'.get? e = some o ∧ o.cls = .type "StopIteration") → E (.ref e) { s with heap := h' }) :
    wpAny (model prog w) A (Builtin.«zip.__next__» ⟨[.ref z], []⟩) Q E s := by
  show wpAny _ _ (field (.ref z) 2 >>= _) _ _ _
  refine wpAny_bind (wpAny_field hz rfl (x := .bool false) rfl ?_)
  show wpAny _ _ (field (.ref z) 3 >>= _) _ _ _
  refine wpAny_bind (wpAny_field hz rfl (x := .ref TI) rfl ?_)
  refine wpAny_bind (wpAny_seqItems hTI rfl ?_)
  show wpAny _ _ (Builtin.SmallTypes.ownedTupleIsFree (.ref z) >>= _) _ _ _
  refine wpAny_bind ?_
  unfold Builtin.SmallTypes.ownedTupleIsFree
  refine wpAny_bind (wpAny_field hz rfl (x := .none) rfl (wpAny_pure ?_))
  simp only [if_true]
  refine wpAny_bind (wpAny_rule ?_)
  refine wpAny_bind (wpAny_field hz rfl (x := .ref TO) rfl ?_)
  refine wpAny_bind (wpAny_setField_rec hz (by simp) fun g1 hz1 hs1 => ?_)
  replace hz1 : IsZip g1 z TI TO .ellipsis := hz1
  refine wpAny_bind ?_
  simp only [List.zipIdx_cons, List.zipIdx_nil, List.forIn_cons, List.forIn_nil]
  refine wpAny_bind (wpAny_bind (wpAny_onRaise ?_))
  show wpAny _ _ (Builtin.SmallTypes.nextOf (.ref i1) >>= _) _ _ _
  refine wpAny_bind (next_signEnd hh (h1.extBut hs1.extBut D.i1z) hend fun g2 e hs2 he => ?_)
  obtain ⟨oe, hoe, hce⟩ := he
  have hz2 : IsZip g2 z TI TO .ellipsis := hs2 _ _ D.i1z.symm hz1
  have hez : e ≠ z := fun x => by subst x; rw [hz2] at hoe; cases hoe; simp at hce
  exact wpAny_setField_rec hz2 (by simp) fun g3 _ hs3 => hE g3 e (fun d o c1 _ c3 _ x => hs3.extBut _ _ c1 (hs2 _ _ c3 (hs1.extBut _ _ c1 x))) ⟨oe, hs3.extBut _ _ hez hoe, hce⟩
theorem pyNext_zs_item {z TI TO i1 i2 l : Addr} {x : Str} {t : Tok} {k1 k2 c : Nat} {ys : Array Value} {y a b : Value} {Q : Option Value → Shared → Prop} (D : Ap z TI TO i1 i2 l)
    (hz : IsZip s.heap z TI TO .none) (hTI : IsPair s.heap TI (.ref i1) (.ref i2)) (hTO : IsPair s.heap TO a b)
    (h1 : SIt s.heap i1 x t k1) (h2 : s.heap.IsListIter i2 l k2) (hl : s.heap.IsList l ys) (hx : x.cps[k1]? = some c) (hy : ys[k2]? = some y)
    (hQ : ∀ h' v, v = Value.str ⟨#[c]⟩ s.toks → IsZip h' z TI TO (rawInt s.heap.objs.size) → IsPair h' TO v y → SIt h' i1 x t (k1 + 1) → h'.IsListIter i2 l (k2 + 1) → IsPair h' s.heap.objs.size v y → h'.objs.size = s.heap.objs.size + 1 →
      (∀ d o, d ≠ z → d ≠ TO → d ≠ i1 → d ≠ i2 → s.heap.get? d = some o → h'.get? d = some o) → Q (some (.ref s.heap.objs.size)) { s with heap := h', toks := s.toks + 1 }) : wpAny (model prog w) A (pyNext (.ref z)) Q E s := by
  have hT : s.TypeIs (.ref z) "zip" := ⟨_, hz, rfl⟩
  unfold pyNext
  exact wpAny_bind (wpAny_attempt (wpAny_callSpecial?_slot (name := Str.ofString "__next__") hT F.slot_zip_next
    (wpAny_call_entry F.slot_zip_next hT F.entry_zip_next (zs_item D hz hTI hTO h1 h2 hl hx hy fun h' v e a1 a2 a3 a4 a5 a6 a7 => wpAny_pure (hQ h' v e a1 a2 a3 a4 a5 a6 a7)) (F.args_zip_next_1 _))))
theorem pyNext_zs_end {z TI TO i1 i2 l : Addr} {x : Str} {t : Tok} {k1 k2 : Nat} {ys : Array Value} {a b : Value} {Q : Option Value → Shared → Prop} (hh : A.handled = none) (D : Ap z TI TO i1 i2 l)
    (hz : IsZip s.heap z TI TO .none) (hTI : IsPair s.heap TI (.ref i1) (.ref i2)) (hTO : IsPair s.heap TO a b)
    (h1 : SIt s.heap i1 x t k1) (h2 : s.heap.IsListIter i2 l k2) (hl : s.heap.IsList l ys) (hend : x.cps[k1]? = none)
    (hQ : ∀ h', (∀ d o, d ≠ z → d ≠ TO → d ≠ i1 → d ≠ i2 → s.heap.get? d = some o → h'.get? d = some o) → Q none { s with heap := h' }) : wpAny (model prog w) A (pyNext (.ref z)) Q E s := by
  have hT : s.TypeIs (.ref z) "zip" := ⟨_, hz, rfl⟩
  unfold pyNext
  refine wpAny_bind (wpAny_attempt (wpAny_callSpecial?_slot (name := Str.ofString "__next__") hT F.slot_zip_next
    (wpAny_call_entry F.slot_zip_next hT F.entry_zip_next (zs_end hh D hz hTI hTO h1 h2 hl hend fun h' e hk he => ?_) (F.args_zip_next_1 _))))
  obtain ⟨o, ho, hc⟩ := he
  refine wpAny_bind (wpAny_isInstance (T := "StopIteration") (b := true) ⟨o, ho, hc⟩ isSubtype_stop ?_)
  exact wpAny_pure (hQ _ hk)
end
abbrev zh1 (h : Heap) (x : Str) (t : Tok) : Heap := h.push { cls := .type "str_ascii_iterator", data := .fields #[.str x t, .int 0 0] }
abbrev zh2 (h : Heap) (x : Str) (t : Tok) (l : Addr) : Heap := (zh1 h x t).push { cls := .type "list_iterator", data := .fields #[.ref l, .int 0 0] }
abbrev zh3 (h : Heap) (x : Str) (t : Tok) (l : Addr) : Heap := (zh2 h x t l).push { cls := .type "tuple", data := .seq #[.ref h.objs.size, .ref (zh1 h x t).objs.size] }
abbrev zh4 (h : Heap) (x : Str) (t : Tok) (l : Addr) : Heap := (zh3 h x t l).push { cls := .type "tuple", data := .seq #[.none, .none] }
abbrev zh5 (h : Heap) (x : Str) (t : Tok) (l : Addr) : Heap := (zh4 h x t l).push { cls := .type "zip", data := .fields #[.none, .bool false, .bool false, .ref (zh2 h x t l).objs.size, .ref (zh3 h x t l).objs.size] }
theorem meets_zs_new (x : Str) (t : Tok) (l : Addr) (ys : Array Value) (ha : x.cps.all (· < 128) = true) :
    Meets (Builtin.«zip.__new__» ⟨[.type "zip", .str x t, .ref l], []⟩) (fun _ R s => s.heap.IsList l ys ∧ R (.ok (.ret (.ref (zh4 s.heap x t l).objs.size))) { s with heap := zh5 s.heap x t l }) :=
  .of_wp fun prog w A R s h => by
    obtain ⟨hp, g, d, tk, os⟩ := s; obtain ⟨hl2, h⟩ := h
    have hsub := sub_zip
    have hL2 : Heap.IsList (Shared.heap ⟨hp.push { cls := .type "str_ascii_iterator", data := .fields #[.str x t, .int 0 0] }, g, d, tk, os⟩) l ys := Heap.IsList.push hl2 _
    wp_walk using wpAny_pyIter_ascii ha, wpAny_pyIter_list hL2
    exact ⟨_, rfl, h⟩
section
variable {prog : Program} {w : World} {A : Around} {E : Value → Shared → Prop} {s : Shared}
theorem call_zs {x : Str} {t : Tok} {l : Addr} {ys : Array Value} {Q : Value → Shared → Prop} (ha : x.cps.all (· < 128) = true) (hl : s.heap.IsList l ys)
    (h : ∀ h', IsZip h' (s.heap.objs.size + 4) (s.heap.objs.size + 2) (s.heap.objs.size + 3) .none → IsPair h' (s.heap.objs.size + 2) (.ref s.heap.objs.size) (.ref (s.heap.objs.size + 1)) →
      IsPair h' (s.heap.objs.size + 3) .none .none → SIt h' s.heap.objs.size x t 0 → h'.IsListIter (s.heap.objs.size + 1) l 0 →
      (∀ c o, s.heap.get? c = some o → h'.get? c = some o) → Q (.ref (s.heap.objs.size + 4)) { s with heap := h' }) :
    wpAny (model prog w) A (call (.type "zip") [.str x t, .ref l]) Q E s := by
  refine callType_new F.called_zip (by decide) (F.typeCall_zip_2 _ _) (F.newCall_zip_2 _ _) (fun obj => F.args_object_init_3 obj _ _) F.entry_zip_new (meets_zs_new x t l ys ha) ⟨hl, ?_⟩
  have z1 : (zh1 s.heap x t).objs.size = s.heap.objs.size + 1 := Heap.size_push ..
  have z2 : (zh2 s.heap x t l).objs.size = s.heap.objs.size + 2 := by rw [Heap.size_push, z1]
  have z3 : (zh3 s.heap x t l).objs.size = s.heap.objs.size + 3 := by rw [Heap.size_push, z2]
  have z4 : (zh4 s.heap x t l).objs.size = s.heap.objs.size + 4 := by rw [Heap.size_push, z3]
  have g5 : (zh5 s.heap x t l).get? (zh4 s.heap x t l).objs.size = some _ := Heap.get?_push_size _ rfl
  have g4 : (zh5 s.heap x t l).get? (zh3 s.heap x t l).objs.size = some _ := Heap.get?_push_of_some _ (Heap.get?_push_size _ rfl)
  have g3 : (zh5 s.heap x t l).get? (zh2 s.heap x t l).objs.size = some _ := Heap.get?_push_of_some _ (Heap.get?_push_of_some _ (Heap.get?_push_size _ rfl))
  have g2 : (zh5 s.heap x t l).get? (zh1 s.heap x t).objs.size = some _ := Heap.get?_push_of_some _ (Heap.get?_push_of_some _ (Heap.get?_push_of_some _ (Heap.get?_push_size _ rfl)))
  have g1 : (zh5 s.heap x t l).get? s.heap.objs.size = some _ := Heap.get?_push_of_some _ (Heap.get?_push_of_some _ (Heap.get?_push_of_some _ (Heap.get?_push_of_some _ (Heap.get?_push_size _ rfl))))
  show _ ∧ _
  rw [z2, z3, z4] at g5
  rw [z1, z2] at g3
  rw [z3] at g4
  rw [z1] at g2
  rw [z4]
  exact ⟨⟨_, g5, rfl⟩, h _ g5 g3 g4 ⟨_, g1, rfl, rfl⟩ ⟨_, g2, rfl, rfl⟩ fun c o x =>
    Heap.get?_push_of_some _ (Heap.get?_push_of_some _ (Heap.get?_push_of_some _ (Heap.get?_push_of_some _ (Heap.get?_push_of_some _ x))))⟩
end
end FwZip
set_option Elab.async false
set_option linter.all false
set_option maxRecDepth 100000
set_option maxHeartbeats 1000000
namespace FwZip
open PySem PySem.Spec PyProof.Rows L2
/-- the signs of z beside the items of the list at b, in new pairs (z is not longer) -/
def Itzs (K : PySem.W.Frag) (z : Str) (b : Addr) : It :=
  ⟨fun i H => i < z.cps.size ∧ ∃ (ys : List V) (y : V), SqL K H b ys ∧ ys[i]? = some y,
    fun i H v H' => ∃ T c y, v = .ref T ∧ H T = none ∧ H' = upd H T (.tup [.str ⟨#[c]⟩, y]) ∧ z.cps[i]? = some c ∧ ∀ ys, SqL K H b ys → ys[i]? = some y,
    fun i H => z.cps.size ≤ i ∧ ∃ ys : List V, SqL K H b ys⟩
theorem turn_zs {P : Program} {w : World} {K : PySem.W.Frag} {elts : List Expr} {kk : Nat} {tpos : Pos} {x : Str} {t : Tok} {b z TI TO i1 i2 : Addr} (D : Ap z TI TO i1 i2 b) :
    Turn P w K (.Tuple elts kk tpos) (Itzs K x b) [z, TI, TO, i1, i2] z (fun i h => IsZip h z TI TO .none ∧ IsPair h TI (.ref i1) (.ref i2) ∧ (∃ x y, IsPair h TO x y) ∧ SIt h i1 x t i ∧ h.IsListIter i2 b i) where
  mem := by simp
  obj := fun i h st c hc => by
    obtain ⟨hz, hTI, ⟨x, y, hTO⟩, ⟨o1, e1, _, d1⟩, ⟨o2, e2, _, d2⟩⟩ := st
    have e' : c = z ∨ c = TI ∨ c = TO ∨ c = i1 ∨ c = i2 := by simpa using hc
    rcases e' with q | q | q | q | q
    · rw [q]; exact ⟨_, hz, fun v q => nomatch q⟩
    · rw [q]; exact ⟨_, hTI, fun v q => nomatch q⟩
    · rw [q]; exact ⟨_, hTO, fun v q => nomatch q⟩
    · rw [q]; exact ⟨o1, e1, fun v q => by rw [d1] at q; cases q⟩
    · rw [q]; exact ⟨o2, e2, fun v q => by rw [d2] at q; cases q⟩
  keep := fun i h h' st k => by
    obtain ⟨hz, hTI, ⟨x', y', hTO⟩, ⟨o1, e1, r1⟩, h2⟩ := st
    exact ⟨k z (by simp) _ hz, k TI (by simp) _ hTI, ⟨x', y', k TO (by simp) _ hTO⟩, ⟨o1, k i1 (by simp) o1 e1, r1⟩, h2.at fun o q => k i2 (by simp) o q⟩
  item := by
    intro X hP hw hK hc i pins s σ H E I hf st hg
    subst hP hw hK
    obtain ⟨hz, hTI, ⟨x0, y0, hTO⟩, h1, h2⟩ := st
    obtain ⟨hlt, ys, y, hqy, hy⟩ := hg
    obtain ⟨its2, rv2, p2, _⟩ := I.list hqy
    obtain ⟨u2, hu2, ru2⟩ := rv2.get hy
    have hzl : z < s.heap.objs.size := Heap.lt_size hz
    have hx : x.cps[i]? = some x.cps[i] := by simp [hlt]
    refine pyNext_zs_item D hz hTI hTO h1 h2 p2.isList hx (y := u2) (by simpa using hu2) fun h' v ev z' TO' h1' h2' hT hsz hk => ?_
    subst ev
    refine ⟨_, rfl, wpAny_letOwnedTupleGo_zip (s := { s with heap := h', toks := s.toks + 1 }) z' fun h'' z'' sb => ?_⟩
    have hT2 : h''.get? s.heap.objs.size = some { cls := .type "tuple", data := .seq #[.str ⟨#[x.cps[i]]⟩ s.toks, u2] } := (sb.2 _ (Nat.ne_of_gt hzl)).trans hT
    have new : ObjOk X.prog X.w (upd H s.heap.objs.size (.tup [.str ⟨#[x.cps[i]]⟩, y])) h'' s.heap.objs.size (.tup [.str ⟨#[x.cps[i]]⟩, y]) :=
      ⟨by show 2 ≤ sizeLine; decide, [_, u2], .cons ⟨_, rfl⟩ (.cons ru2 .nil), ⟨_, hT2, rfl, _, rfl⟩⟩
    have I1 : Inv X pins σ (upd H s.heap.objs.size (.tup [.str ⟨#[x.cps[i]]⟩, y])) { s with heap := h'', toks := s.toks + 1 } :=
      I.turnedNew (t' := s.toks + 1) (ch := [z, TI, TO, i1, i2]) (fun c o hb q => (sb.2 c (fun q' => hb (by simp [q']))).trans (hk c o (fun q' => hb (by simp [q'])) (fun q' => hb (by simp [q'])) (fun q' => hb (by simp [q'])) (fun q' => hb (by simp [q'])) q)) hf (Nat.le_refl _) new
    refine ⟨.ref s.heap.objs.size, _, I1, rfl, ⟨_, _, y, rfl, I.hok.fresh (Nat.le_refl _), rfl, hx, fun l hl => by rw [I.list_inj hl hqy]; exact hy⟩, ⟨z'', ?_, ⟨.str ⟨#[x.cps[i]]⟩ s.toks, u2, ?_⟩, ?_, ?_⟩, fun c hcm => ?_⟩
    · exact (sb.2 _ D.TIz).trans (hk _ _ D.TIz D.TITO D.TIi1 D.TIi2 hTI)
    · exact (sb.2 _ D.TOz).trans TO'
    · obtain ⟨o1, e1, r1⟩ := h1'
      exact ⟨o1, (sb.2 _ D.i1z).trans e1, r1⟩
    · exact h2'.at fun o q => (sb.2 _ D.i2z).trans q
    · have hlt : c < s.heap.objs.size := by
        have e' : c = z ∨ c = TI ∨ c = TO ∨ c = i1 ∨ c = i2 := by simpa using hcm
        rcases e' with q | q | q | q | q
        · rw [q]; exact hzl
        · rw [q]; exact Heap.lt_size hTI
        · rw [q]; exact Heap.lt_size hTO
        · rw [q]; obtain ⟨_, e1, _⟩ := h1; exact Heap.lt_size e1
        · rw [q]; obtain ⟨_, e2, _⟩ := h2; exact Heap.lt_size e2
      rw [upd_ne (Nat.ne_of_lt hlt)]
      exact (hf c hcm).1
  done := by
    intro X hP hw hK hc i pins s σ H E I hf st hg
    subst hP hw hK
    obtain ⟨hz, hTI, ⟨x0, y0, hTO⟩, h1, h2⟩ := st
    obtain ⟨hend, ys, hqy⟩ := hg
    obtain ⟨its2, rv2, p2, _⟩ := I.list hqy
    have he : x.cps[i]? = none := by simp; omega
    exact pyNext_zs_end (I.ok.hd hc) D hz hTI hTO h1 h2 p2.isList he fun h' hk => ⟨rfl, I.turnedL (t' := s.toks) (ch := [z, TI, TO, i1, i2]) (fun c o hb q =>
      hk c o (fun q' => hb (by simp [q'])) (fun q' => hb (by simp [q'])) (fun q' => hb (by simp [q'])) (fun q' => hb (by simp [q'])) q) hf⟩
  self := fun A i s Q E st h => wpAny_pyIter_zip st.1 h
def iZs (K : PySem.W.Frag) (ta : TA) : TI := fun σ H R => ta σ H fun vs H1 => ∃ x b ys, vs = [.str x, .ref b] ∧ x.cps.all (· < 128) = true ∧ SqL K H1 b ys ∧ R (Itzs K x b) H1
theorem pi_zs {X : Cx} {e e2 : Expr} {ta : TA} {p pos tpos : Pos} {elts : List Expr} {kk : Nat} (hg : Gl X "zip") (hm : X.mg "zip" = none) (ha : PA X [e, e2] ta)
    (hs : starEach [e, e2] X.env = (false, eval e X.env) :: starEach [e2] X.env := by rfl) (hpl : (backTo pos (starEach [e2] X.env)).any (·.1) = false := by rfl) :
    PI X (.Tuple elts kk tpos) (.Call (.Name "zip" p) [e, e2] [] pos) (iZs X.K ta) := by
  refine ⟨fun pins s σ H R I h => ?_⟩
  refine Call_ (ld_blt I hg hm PyProof.Rows.boot_zip (PyProof.Rows.callWith_type1 (thn (ha.run pos pins s σ H _ I h) fun us s1 ⟨vs, H1, I1, r1, q1⟩ => ?_) hs hpl))
  obtain ⟨x, b, ys, ex, hasc, hqy, q⟩ := q1
  subst ex
  obtain ⟨u1, u2, rfl, ⟨t, rfl⟩, r2⟩ := vals2 r1
  obtain rfl : u2 = Value.ref b := r2
  obtain ⟨its2, rv2, p2, _⟩ := I1.list hqy
  have lb : b < s1.heap.objs.size := p2.lt
  refine call_zs hasc p2.isList fun h' hz hTI hTO h1 h2 hk => wpAny_pyIter_zip hz ?_
  have I2 : Inv X pins σ H1 { s1 with heap := h' } := I1.kept (t' := s1.toks) hk
  refine ⟨s1.heap.objs.size + 4, [s1.heap.objs.size + 4, s1.heap.objs.size + 2, s1.heap.objs.size + 3, s1.heap.objs.size, s1.heap.objs.size + 1], _, _, H1, rfl, I2, turn_zs (t := t) (PySem.W.ktu_apart s1.heap.objs.size b b lb lb), ⟨hz, hTI, ⟨_, _, hTO⟩, h1, h2⟩, fun c hcm => ?_, q⟩
  have e' : c = s1.heap.objs.size + 4 ∨ c = s1.heap.objs.size + 2 ∨ c = s1.heap.objs.size + 3 ∨ c = s1.heap.objs.size ∨ c = s1.heap.objs.size + 1 := by simpa using hcm
  have hle : s1.heap.objs.size ≤ c := by
    rcases e' with z | z | z | z | z <;> (rw [z]; first | exact Nat.le_refl _ | exact Nat.le_add_right _ _)
  exact I1.fpOk hle (I1.hok.fresh hle)
theorem walk_zs {K : PySem.W.Frag} {b : Addr} {ys : List V} {z : Str} (hn : z.cps.size ≤ ys.length) : Walk (Itzs K z b) z.cps.size (fun H => SqL K H b ys) (YPair (fun i => (z.cps[i]?).map fun c => V.str ⟨#[c]⟩) (fun i => ys[i]?)) := by
  refine ⟨fun i _ hi q => ⟨hi, ys, ys[i]'(by omega), q, by simp [show i < ys.length by omega]⟩, fun _ q => ⟨Nat.le_refl _, ys, q⟩, fun i H v H' _ q y => ?_⟩
  obtain ⟨T, c, y, h1, h2, h3, h4, h5⟩ := y
  exact ⟨T, .str ⟨#[c]⟩, y, h1, h2, h3, by simp [h4], h5 ys q⟩
/-- a dict comprehension over any walk -/
theorem dc_it {J : It} {n : Nat} {G : Hp → Prop} {Y : Nat → Hp → V → Hp → Prop} (w : Walk J n G Y) {g : TG} {tt : TT} {tk tv : TE} {vs : List Nat} {σ : L2.St} {H1 : Hp} {D : Addr} {Qd : Hp → Prop} (Pv : Nat → Hp → Prop) (h0 : Pv 0 (upd H1 D (.dK []))) (hG : ∀ i H, i ≤ n → Pv i H → G H)
    (hs : ∀ i x H H', i < n → Pv i H → Y i H x H' → g x (wipe σ vs) H' fun σ2 H2 => wipe σ2 vs = wipe σ vs ∧ tt σ2 H2 fun b H3 =>
      if b = true then tk σ2 H3 fun y H4 => tv σ2 H4 fun z H5 => ∃ kvs k, y = kV k ∧ H5 D = some (.dK kvs) ∧ kvs.length < sizeLine ∧ Pv (i + 1) (upd H5 D (.dK (putK kvs k z))) else Pv (i + 1) H3) (hd : ∀ H, Pv n H → Qd H) :
    ∃ W : Nat → Nat → Hp → Prop, (∃ m, W 0 m (upd H1 D (.dK []))) ∧ ∀ i m H, W i m H →
      (J.stop i H ∧ Qd H) ∨ (J.go i H ∧ ∃ Nx : Hp → Prop, (∀ H', Nx H' → ∃ m', m' < m ∧ W (i + 1) m' H') ∧ ∀ x H', J.yld i H x H' → g x (wipe σ vs) H' fun σ2 H2 => wipe σ2 vs = wipe σ vs ∧ tt σ2 H2 fun b H3 =>
        if b = true then tk σ2 H3 fun y H4 => tv σ2 H4 fun z H5 => ∃ kvs k, y = kV k ∧ H5 D = some (.dK kvs) ∧ kvs.length < sizeLine ∧ Nx (upd H5 D (.dK (putK kvs k z))) else Nx H3) := by
  refine ⟨fun i m H => m = n - i ∧ i ≤ n ∧ Pv i H, ⟨n, by simp, Nat.zero_le _, h0⟩, ?_⟩
  rintro i m H ⟨rfl, hi, p⟩
  have q := hG i H hi p
  by_cases hlt : i < n
  · refine .inr ⟨w.goes i H hlt q, Pv (i + 1), fun H' p' => ⟨n - (i + 1), by omega, rfl, hlt, p'⟩, fun x H' y => hs i x H H' hlt p (w.yields i H x H' hlt q y)⟩
  · have e : i = n := by omega
    subst e
    exact .inl ⟨w.stops H q, hd H p⟩
end FwZip
set_option Elab.async false
set_option linter.all false
set_option maxRecDepth 100000
set_option maxHeartbeats 1000000
/-! dicts merged: displays and calls with ** -/
namespace FwKw
open PySem L2
section
variable {P : Program} {w : World} {A : Around} {E : Value → Shared → Prop} {s : Shared}
abbrev MK (P : Program) (w : World) := mixKind P w
theorem put_new {d : Addr} {kvs : List (Key × Value)} {k : Key} {key v : Value} {Q : Unit → Shared → Prop} (hkey : (MK P w).is k key = true) (hm : s.heap.DictOf (MK P w) d kvs) (hnew : k ∉ kvs.map (·.1)) (hsz : kvs.length ≤ sizeLine)
    (hQ : ∀ h', h'.DictOf (MK P w) d (kvs ++ [(k, v)]) → Heap.SameBut d s.heap h' → Q () { s with heap := h' }) : wpAny (model P w) A (dictPut d ((MK P w).hash k) key v) Q E s := by
  obtain ⟨o, es, ep, ho, hc, hd, hk, hp, hn⟩ := hm
  have hes : es.size ≤ sizeLine := by
    have e1 := hp.length
    have e2 : es.toList.length = es.size := by simp
    omega
  unfold dictPut
  refine wpAny_bind (wpAny_dictFind_of hkey ho hd hk ?_)
  have hidx : (es.findIdx? fun e => (MK P w).is k e.key) = kvs.findIdx? fun kv => decide (kv.1 = k) := by
    rw [← hp.findIdx k]; obtain ⟨l⟩ := es; simp
  have hno : (kvs.findIdx? fun kv => decide (kv.1 = k)) = none := by
    rw [List.findIdx?_eq_none_iff]
    intro x hx
    exact decide_eq_false fun e => hnew (List.mem_map.mpr ⟨x, hx, e⟩)
  rw [hidx, hno]
  refine wpAny_updateDictKeys (hz := hes) ho hd (hQ _ ⟨_, _, ep + 1, Heap.get?_update_self _ ho (Obj.isFreed_of_dict (Obj.data_mapDictKeys hd _)), hc.mapDictKeys _, Obj.data_mapDictKeys hd _, hk.push hkey _, ?_, ?_⟩ (Heap.SameBut.update ..))
  · have := hp.append hkey ((MK P w).hash k) v
    obtain ⟨l⟩ := es
    simpa using this
  · rw [List.map_append, List.nodup_append]
    refine ⟨hn, by simp, ?_⟩
    intro a ha b hb
    simp only [List.map_cons, List.map_nil, List.mem_singleton] at hb
    subst hb
    exact fun e => hnew (e ▸ ha)
theorem merge_new {d a : Addr} {vs1 vs2 : List (Key × Value)} {u : Bool} {Q : Unit → Shared → Prop} (hd : s.heap.DictOf (MK P w) d vs1) (ha : s.heap.DictOf (MK P w) a vs2) (hne : a ≠ d) (hsys : (a == sysModules) = false)
    (hnd : ((vs1 ++ vs2).map (·.1)).Nodup) (hz : vs1.length + vs2.length ≤ 1000) (h : ∀ h', h'.DictOf (MK P w) d (vs1 ++ vs2) → Heap.SameBut d s.heap h' → Q () { s with heap := h' }) :
    wpAny (model P w) A (mergeMapping d (.ref a) u) Q E s := by
  have hT : s.TypeIs (.ref a) "dict" := ha.typeIs
  obtain ⟨oa, ea, epa, hoa, hca, hda, hka, hpa, hna⟩ := id ha
  obtain ⟨od, ed, epd, hod, hcd, hdd, hkd, hpd, hnd1⟩ := id hd
  unfold mergeMapping
  refine wpAny_bind (m := isInstance (.ref a) (.type "dict")) (wpAny_isInstance (T := "dict") (b := true) hT (by rw [isSubtype_type]; kernel_rfl) ?_)
  simp only [if_true]
  refine wpAny_bind (wpAny_specialOf hT PySem.F.slot_dict_iter.lookup (wpAny_bind (wpAny_pure ?_)))
  rw [show (some (Value.builtin "dict.__iter__") == some (Value.builtin "dict.__iter__")) = true from by simp]
  dsimp only
  rw [if_neg (by rw [hsys]; simp)]
  have hsz1 : ed.size = vs1.length := by
    have e1 := hpd.length
    have e2 : ed.toList.length = ed.size := by simp
    omega
  have hsz2 : ea.size = vs2.length := by
    have e1 := hpa.length
    have e2 : ea.toList.length = ea.size := by simp
    omega
  have keyAt : ∀ i (hi : i < ea.size), ∃ kv, vs2[i]? = some kv ∧ (MK P w).is kv.1 ea[i].key = true ∧ ea[i].hash = (MK P w).hash kv.1 ∧ ea[i].val = kv.2 := fun i hi => by
    have hlt : i < vs2.length := by omega
    have h1 : ea.toList[i]? = some ea[i] := by simp [hi]
    have h2 : vs2[i]? = some (vs2[i].1, vs2[i].2) := by simp [hlt]
    obtain ⟨q1, q2⟩ := hpa.get? h1 h2
    obtain ⟨k', q3, q4⟩ := hka ea[i] (Array.getElem_mem hi)
    have e : vs2[i].1 = k' := (MK P w).inj _ _ _ q1 q3
    exact ⟨vs2[i], by simp [hlt], q1, by rw [q4, e], q2⟩
  refine wpAny_bind (wpAny_dictEntries hod hdd ?_)
  by_cases hem : ed.isEmpty = true
  case' pos =>
    rw [if_pos hem]
    refine wpAny_bind (wpAny_dictEntries hoa hda (wpAny_bind ?_))
    rw [← Array.forIn_toList]
    refine wpAny_forIn_list _ (fun rest _ s' => s' = s ∧ ∀ e ∈ rest, e ∈ ea.toList) _ ?turn0 ?fin0 _ _ ⟨rfl, fun _ h => h⟩
    case turn0 =>
      rintro e rest b s' ⟨es', hr⟩
      obtain rfl : s = s' := es'.symm
      obtain ⟨k, hk, _⟩ := hka e (by simpa using hr e List.mem_cons_self)
      rcases keyIs_shape hk with ⟨i, t, _, ek⟩ | ⟨y, t, _, ek⟩
      · rw [ek]; exact wpAny_pure ⟨rfl, fun e he => hr e (List.mem_cons_of_mem _ he)⟩
      · rw [ek]; exact wpAny_pure ⟨rfl, fun e he => hr e (List.mem_cons_of_mem _ he)⟩
    rintro b s' ⟨es', _⟩
    obtain rfl : s = s' := es'.symm
  case' neg => rw [if_neg hem]
  all_goals
    refine wpAny_bind (wpAny_dictEntries hoa hda ?_)
    refine wpAny_bind (wpAny_dictEpoch hoa hda (wpAny_bind ?_))
    refine wpAny_forIn_list _ (fun rest _ s' => ∃ i h', s' = { s with heap := h' } ∧ rest = List.range' i (ea.size - i) ∧ i ≤ ea.size ∧ h'.DictOf (MK P w) d (vs1 ++ vs2.take i) ∧ Heap.SameBut d s.heap h') _ ?_ ?_ _ _ ⟨0, s.heap, rfl, by simp [List.range_eq_range'], Nat.zero_le _, by simpa using hd, Heap.SameBut.refl ..⟩
    · rintro x rest b s1 ⟨i, h1, rfl, hr, hi, hd1, hs1⟩
      have hlt : i < ea.size := by
        rcases Nat.lt_or_ge i ea.size with z | z
        · exact z
        · rw [show ea.size - i = 0 from by omega] at hr; simp at hr
      rw [show ea.size - i = (ea.size - (i + 1)) + 1 from by omega, List.range'_succ] at hr
      obtain ⟨rfl, rfl⟩ := List.cons.inj hr
      have hoa1 : h1.get? a = some oa := (hs1.2 a hne).trans hoa
      refine wpAny_bind (wpAny_dictEntries (s := { s with heap := h1 }) hoa1 hda ?_)
      rw [show ea[x]? = some ea[x] from by simp [hlt]]
      dsimp only
      obtain ⟨kv, hkv, hk, hh, hv⟩ := keyAt x hlt
      have hnd2 : (vs1.map (·.1) ++ vs2.map (·.1)).Nodup := by rw [← List.map_append]; exact hnd
      have hx2 : x < vs2.length := by omega
      have hkm : kv.1 = (vs2.map (·.1))[x]'(by simpa using hx2) := by
        have e : vs2[x]? = some vs2[x] := by simp [hx2]
        rw [e] at hkv
        simp [← Option.some.inj hkv]
      have hnew : kv.1 ∉ (vs1 ++ vs2.take x).map (·.1) := by
        rw [List.map_append, List.map_take]
        intro hm
        rcases List.mem_append.mp hm with z | z
        · have := (List.nodup_append.mp hnd2).2.2 _ z kv.1 (by rw [hkm]; exact List.getElem_mem _)
          exact this rfl
        · obtain ⟨j, hj, e⟩ := List.mem_iff_getElem.mp z
          rw [List.getElem_take, hkm] at e
          have := (List.nodup_append.mp hnd2).2.1
          have hj' : j < x := by simp at hj; omega
          have := (List.getElem_inj this).mp e
          omega
      have hnext : ∀ h2 : Heap, h2.DictOf (MK P w) d ((vs1 ++ vs2.take x) ++ [(kv.1, kv.2)]) → h2.DictOf (MK P w) d (vs1 ++ vs2.take (x + 1)) := fun h2 q => by
        rw [List.append_assoc] at q
        rw [List.take_add_one, hkv]
        exact q
      have hlen : (vs1 ++ vs2.take x).length ≤ sizeLine := by
        rw [List.length_append, List.length_take, sizeLine_eq]
        omega
      have put : ∀ {R : Unit → Shared → Prop}, (∀ h2 : Heap, h2.DictOf (MK P w) d (vs1 ++ vs2.take (x + 1)) → Heap.SameBut d h1 h2 → R () { s with heap := h2 }) → wpAny (model P w) A (dictPut d ea[x].hash ea[x].key ea[x].val) R E { s with heap := h1 } := fun {R} hR => by
        rw [hh, hv]
        exact put_new (s := { s with heap := h1 }) hk hd1 hnew hlen fun h2 q1 q2 => hR h2 (hnext h2 q1) q2
      refine wpAny_bind (wpAny_holding ?_)
      have fin : ∀ h2 : Heap, h2.DictOf (MK P w) d (vs1 ++ vs2.take (x + 1)) → Heap.SameBut d h1 h2 → wpAny (model P w) A (do
            let q ← dictEpoch a
            if (q != epa) = true then do
                (unsupported "dict.changed-during-merge" : Sem Unit)
                pure (ForInStep.yield PUnit.unit)
              else pure (ForInStep.yield PUnit.unit)) (fun r s' => match r with
          | .yield b' => ∃ i h', s' = { s with heap := h' } ∧ List.range' (x + 1) (ea.size - (x + 1)) = List.range' i (ea.size - i) ∧ i ≤ ea.size ∧ h'.DictOf (MK P w) d (vs1 ++ vs2.take i) ∧ Heap.SameBut d s.heap h'
          | .done b' => False) E { s with heap := h2 } := fun h2 q1 q2 => by
        have hs2 := hs1.trans q2
        have hoa2 : h2.get? a = some oa := (hs2.2 a hne).trans hoa
        refine wpAny_bind (wpAny_dictEpoch (s := { s with heap := h2 }) hoa2 hda ?_)
        rw [if_neg (by simp)]
        exact wpAny_pure ⟨x + 1, h2, rfl, rfl, hlt, q1, hs2⟩
      cases u with
      | false =>
        simp only [Bool.false_eq_true, if_false]
        exact put fun h2 q1 q2 => wpAny_mono (fin h2 q1 q2) (fun r s' hr => by cases r <;> first | exact hr | exact hr.elim) fun _ _ e => e
      | true =>
        simp only [if_true]
        obtain ⟨o1, e1, ep1, ho1, hc1, hd1', hk1, hp1, hn1⟩ := id hd1
        rw [hh]
        refine wpAny_bind (wpAny_dictFind_of (s := { s with heap := h1 }) hk ho1 hd1' hk1 ?_)
        have hidx : (e1.findIdx? fun e => (MK P w).is kv.1 e.key) = (vs1 ++ vs2.take x).findIdx? fun z => decide (z.1 = kv.1) := by
          rw [← hp1.findIdx kv.1]; obtain ⟨l⟩ := e1; simp
        have hno : ((vs1 ++ vs2.take x).findIdx? fun z => decide (z.1 = kv.1)) = none := by
          rw [List.findIdx?_eq_none_iff]
          intro z hz
          exact decide_eq_false fun e => hnew (List.mem_map.mpr ⟨z, hz, e⟩)
        rw [hidx, hno]
        simp only [Option.isSome_none, Bool.false_eq_true, if_false]
        rw [← hh]
        exact put fun h2 q1 q2 => wpAny_mono (fin h2 q1 q2) (fun r s' hr => by cases r <;> first | exact hr | exact hr.elim) fun _ _ e => e
    · rintro b s1 ⟨i, h1, rfl, hr, hi, hd1, hs1⟩
      have e : i = ea.size := by
        rcases Nat.lt_or_ge i ea.size with z | z
        · rw [show ea.size - i = (ea.size - (i + 1)) + 1 from by omega, List.range'_succ] at hr; cases hr
        · omega
      subst e
      rw [hsz2, List.take_length] at hd1
      exact wpAny_pure (h h1 hd1 hs1)
end
end FwKw
set_option Elab.async false
set_option linter.all false
set_option maxRecDepth 100000
set_option maxHeartbeats 1000000
namespace FwKw
open PySem PySem.Spec PyProof.Rows L2
section
variable {M : Model} {A : Around} {E : Value → Shared → Prop} {s : Shared}
theorem disp_star {k v m : Sem Value} {Q : Value → Shared → Prop} (h : wpAny M A (subDict [(k, v)]) (fun d s1 => wpAny M A m (fun mv s2 => wpAny M A (mergeMapping d mv false) (fun _ s3 => Q (.ref d) s3) (fun _ _ => False) s2) E s1) E s) :
    wpAny M A (dictDisplay [(some k, v), (none, m)]) Q E s := by
  unfold dictDisplay
  dsimp only
  rw [List.forIn_cons]
  simp only [List.nil_append, List.length_cons, List.length_nil]
  rw [if_neg (by decide)]
  refine wpAny_bind (wpAny_bind (wpAny_pure ?_))
  dsimp only
  rw [List.forIn_cons]
  dsimp only
  refine wpAny_bind ?_
  refine wpAny_bind ?_
  rw [if_neg (show ¬ ([(k, v)] : List (Sem Value × Sem Value)).isEmpty = true from by simp)]
  refine wpAny_bind (wpAny_mono h (fun d s1 h1 => wpAny_pure ?_) fun _ _ e => e)
  dsimp only
  refine wpAny_bind (wpAny_pure ?_)
  refine wpAny_bind (wpAny_holding (wpAny_mono h1 (fun mv s2 h2 => ?_) fun _ _ e => e))
  refine wpAny_bind (wpAny_onRaise (wpAny_tryCatch (wpAny_onRaise (wpAny_holding (wpAny_mono h2 (fun _ s3 h3 => ?_) fun _ _ z => z.elim)))))
  refine wpAny_pure ?_
  dsimp only
  rw [List.forIn_nil]
  refine wpAny_pure ?_
  refine wpAny_bind (wpAny_pure ?_)
  exact wpAny_pure h3
end
section
variable {X : Cx} {v m : Expr} {tv tm : TE}
/-- {'z': v, **m} -/
def tDispS (z : Str) (tv tm : TE) : TE := fun σ H Q => ∀ p, H p = none → tv σ (upd H p (.dK [])) fun y H1 => H1 p = some (.dK []) ∧ tm σ (upd H1 p (.dK [(Sum.inr z, y)])) fun x H2 =>
  ∃ (a : Addr) (kvs : List (Key × V)), x = .ref a ∧ a ≠ p ∧ H2 a = some (.dK kvs) ∧ H2 p = some (.dK [(Sum.inr z, y)]) ∧ (Sum.inr z :: kvs.map (·.1) : List Key).Nodup ∧ kvs.length < 900 ∧ Q (.ref p) (upd H2 p (.dK ((Sum.inr z, y) :: kvs)))
theorem pe_dispS {z : Str} {j : Nat} {p1 pos : Pos} (hv : PE X v tv) (hm : PE X m tm) : PE X (.Dict [some (.Constant (.str z) j p1), none] [v, m] pos) (tDispS z tv tm) := by
  refine ⟨fun pins s σ H Q I q => ?_⟩
  rw [arm_eval_Dict]
  refine wpAny_bind (wpAny_standAt ?_)
  refine disp_star (wpAny_subDict (knd := mixKind X.prog X.w) (by simp) ?_)
  have hn := I.hok.fresh (Nat.le_refl s.heap.objs.size)
  have I1 := I.laid (a := s.heap.objs.size) (o := .dK []) (h' := s.heap.push { cls := .type "dict", data := .dict #[] }) (t' := s.toks) (fun _ _ q => Heap.get?_push_of_some _ q) (Nat.le_refl _) (dk_empty s.heap I.big)
  generalize s.heap.objs.size = p at hn I1 ⊢
  refine evalPairs_cons (Calls.Constant_str (wpAny_bind (thn (hv.run pins _ σ _ _ (I1.tok _) (q p hn)) fun u s2 ⟨y, H1, I2, ry, e1, q1⟩ => wpAny_bind (wpAny_standAt (wpAny_pure (evalPairs_nil ?_))))))
  obtain ⟨zz, hd, vs0, r0, dd⟩ := dk_of I2.hok e1
  cases r0
  refine ⟨[(Sum.inr z, u)], ⟨mixKind_str X.prog X.w z _, rfl, True.intro⟩, dd, fun h' dd' hs => ?_⟩
  have he : ∃ q, h'.get? p = some q := let ⟨q, _, _, hq, _⟩ := dd'; ⟨q, hq⟩
  have J : Inv X pins σ (upd H1 p (.dK [(Sum.inr z, y)])) { s2 with heap := h', toks := s2.toks + 1 } :=
    d_write I2 (by rw [e1]; exact True.intro) hs he (dk_new (vs := [(Sum.inr z, u)]) (by show 1 ≤ sizeLine; decide) hd (.cons ⟨rfl, ry⟩ .nil) dd')
  refine wpAny_bind (thn (hm.run pins _ σ _ _ J q1) fun mv s3 ⟨x, H2, I3, rx, a, kvs, ex, nap, ha, hp, hnd, hlen, q2⟩ => wpAny_bind (wpAny_standAt (wpAny_pure ?_)))
  subst ex
  obtain rfl : mv = Value.ref a := rx
  obtain ⟨z1, lo1, vs1, r1, d1⟩ := dk_of I3.hok hp
  obtain ⟨z2, lo2, vs2, r2, d2⟩ := dk_of I3.hok ha
  have hl2 : kvs.length = vs2.length := Paired.length r2
  have hl1 : 1 = vs1.length := Paired.length r1
  have r3 : KV ((Sum.inr z, y) :: kvs) (vs1 ++ vs2) := by
    cases r1 with
    | cons a b => cases b; exact .cons a r2
  have hk : (vs1 ++ vs2).map (·.1) = (Sum.inr z :: kvs.map (·.1) : List Key) := by
    have := KV.keys r3
    rw [← this] <;> rfl
  refine merge_new d1 d2 nap lo2 (by rw [hk]; exact hnd) (by omega) fun h2 dd2 hs2 => ?_
  have he2 : ∃ q, h2.get? p = some q := let ⟨q, _, _, hq, _⟩ := dd2; ⟨q, hq⟩
  exact ⟨.ref p, _, d_write (t' := s3.toks) I3 (by rw [hp]; exact True.intro) hs2 he2 (dk_new (by show kvs.length + 1 ≤ sizeLine; rw [sizeLine_eq]; omega) lo1 r3 dd2), rfl, q2⟩
end
end FwKw
set_option Elab.async false
set_option linter.all false
set_option maxRecDepth 100000
set_option maxHeartbeats 1000000
namespace FwKw
open PySem PySem.Spec PyProof.Rows L2
/-- def __init__(self, faces, *, each=.., **numbers) -/
structure InitArgs (p : Arguments) : Prop where
  po : p.posonlyargs = []
  ar : p.args.map (·.arg) = [("self" : Str), ("faces" : Str)]
  ko : p.kwonlyargs.map (·.arg) = [("each" : Str)]
  va : p.vararg = none
  kw : ∃ a, p.kwarg = some a ∧ a.arg = ("numbers" : Str)
section
variable {M : Model} {A : Around} {E : Value → Shared → Prop} {s : Shared}
/-- the names that are no parameter's -/
def Away (ex : List (Str × Value)) : Prop := ∀ x ∈ ex, x.1 ≠ ("self" : Str) ∧ x.1 ≠ ("faces" : Str) ∧ x.1 ≠ ("each" : Str)
theorem bind_init {name qual : Str} {params : Arguments} {body : List Stmt} {scope : Scope} {kV doc pm cdv ct : Value} {an : Option Addr} {a b v : Value} {ex : List (Str × Value)} {Q : List (Str × Value) → Shared → Prop} (hp : InitArgs params) (hex : Away ex) (hsz : ex.length ≤ 1000)
    (h : wpAny M A (do
      let d ← alloc { cls := .type "dict", data := .dict #[] }
      forIn ex PUnit.unit fun x _ => (nsSet d x.1 x.2 >>= fun _ => pure (ForInStep.yield PUnit.unit))
      pure [(("self" : Str), a), (("faces" : Str), b), (("each" : Str), v), (("numbers" : Str), Value.ref d)]) Q E s) :
    wpAny M A (bindArgs (PySem.W.fnOf name qual params body scope .none kV doc pm an cdv ct) ⟨[a, b], ("each", v) :: ex⟩) Q E s := by
  obtain ⟨hpo, har, hko, hva, ka, hka, hkn⟩ := hp
  obtain ⟨po, ar, va, ko, kd, kwarg, df⟩ := params
  simp only at hpo har hko hva hka
  subst hpo hva hka
  have n1 : ∀ x : Str × Value, x ∈ ex → ([("self" : Str), ("faces" : Str)].contains x.1 || [("each" : Str)].contains x.1) = false := fun x hx => by
    obtain ⟨h1, h2, h3⟩ := hex x hx
    have e1 : (x.1 == ("self" : Str)) = false := by simpa using h1
    have e2 : (x.1 == ("faces" : Str)) = false := by simpa using h2
    have e3 : (x.1 == ("each" : Str)) = false := by simpa using h3
    simp [List.contains, List.elem, e1, e2, e3]
  unfold bindArgs
  simp only [har, hko]
  refine wpAny_bind (wpAny_forIn_list _ (fun rest b' s' => s' = s ∧ ((rest = (("each" : Str), v) :: ex ∧ b' = ([(("self" : Str), a), (("faces" : Str), b)], [])) ∨ (b'.1 = [(("self" : Str), a), (("faces" : Str), b), (("each" : Str), v)] ∧ b'.2 ++ rest = ex))) _ ?_ ?_ _ _ ⟨rfl, .inl ⟨rfl, rfl⟩⟩)
  · rintro x rest b' s' ⟨es, hh⟩
    obtain rfl : s = s' := es.symm
    rcases hh with ⟨e1, e2⟩ | ⟨e1, e2⟩
    · obtain ⟨rfl, rfl⟩ := List.cons.inj e1
      subst e2
      rw [if_pos (show ([("self" : Str), ("faces" : Str)].contains ("each" : Str) || [("each" : Str)].contains ("each" : Str)) = true from by decide +kernel)]
      rw [if_neg (show ¬ (List.lookup (("each" : Str), v).1 ([(("self" : Str), a), (("faces" : Str), b)], ([] : List (Str × Value))).1).isSome = true from by
        have e1 : (("each" : Str) == ("self" : Str)) = false := by decide +kernel
        have e2 : (("each" : Str) == ("faces" : Str)) = false := by decide +kernel
        simp [List.lookup, e1, e2])]
      exact wpAny_pure ⟨rfl, .inr ⟨rfl, rfl⟩⟩
    · have hx : x ∈ ex := by rw [← e2]; simp
      rw [n1 x hx]
      simp only [Bool.false_eq_true, if_false]
      rw [if_pos (by rfl)]
      exact wpAny_pure ⟨rfl, .inr ⟨e1, by rw [← e2]; simp⟩⟩
  · rintro ⟨b1, b2⟩ s' ⟨es, hh⟩
    obtain rfl : s = s' := es.symm
    rcases hh with ⟨e1, _⟩ | ⟨e1, e2⟩
    · cases e1
    simp only [List.append_nil] at e1 e2
    subst e1 e2
    refine wpAny_bind (wpAny_pure ?_)
    refine L2.wp_if_neg (fun h => Bool.false_ne_true (show false = true from h)) ?_
    refine L2.wp_if_neg (fun h => Bool.false_ne_true (show false = true from h)) ?_
    refine wpAny_bind (wpAny_forIn_list _ (fun rest b' s' => s' = s ∧ rest = [] ∧ b' = [(("self" : Str), a), (("faces" : Str), b), (("each" : Str), v)]) _ ?_ ?_ _ _ ⟨rfl, rfl, rfl⟩)
    · rintro x rest b' s' ⟨_, e, _⟩
      cases e
    rintro b' s' ⟨es, _, e⟩
    obtain rfl : s = s' := es.symm
    subst e
    refine wpAny_bind (wpAny_forIn_list _ (fun rest b' s' => s' = s ∧ (rest = [("each" : Str)] ∨ rest = []) ∧ b' = ([(("self" : Str), a), (("faces" : Str), b), (("each" : Str), v)], ([] : List Str))) _ ?_ ?_ _ _ ⟨rfl, .inl rfl, rfl⟩)
    · rintro x rest b' s' ⟨es, e, e2⟩
      obtain rfl : s = s' := es.symm
      subst e2
      rcases e with e | e
      · obtain ⟨rfl, rfl⟩ := List.cons.inj e
        refine L2.wp_if_neg (fun h => Bool.false_ne_true (show false = true from h)) ?_
        exact wpAny_pure ⟨rfl, .inr rfl, rfl⟩
      · cases e
    rintro b' s' ⟨es, _, e⟩
    obtain rfl : s = s' := es.symm
    subst e
    refine L2.wp_if_neg (fun h => Bool.false_ne_true (show false = true from h)) ?_
    refine L2.wp_if_neg (fun h => absurd (show 1000 + 1 ≥ 0 from by omega) (fun _ => by
      have h2 : sizeLine + 1 < b2.length := h
      have h3 : (1000 : Nat) ≤ sizeLine := by decide +kernel
      omega)) ?_
    rw [hkn]
    exact h
end
end FwKw
set_option Elab.async false
set_option linter.all false
set_option maxRecDepth 100000
set_option maxHeartbeats 1000000
namespace FwKw
open PySem PySem.Spec PyProof.Rows L2
section
variable {M : Model} {A : Around} {E : Value → Shared → Prop} {s : Shared}
/-- the same def, called without keywords: each by its default -/
theorem bind_init0 {K : PySem.W.Frag} {name qual : Str} {params : Arguments} {body : List Stmt} {scope : Scope} {D : Addr} {doc pm cdv ct : Value} {an : Option Addr} {a b v : Value} {Q : List (Str × Value) → Shared → Prop} (hp : InitArgs params) (X : K.In s.heap) (hD : PySem.W.nsIn K D "each" = some (some v))
    (h : wpAny M A (do
      let d ← alloc { cls := .type "dict", data := .dict #[] }
      forIn ([] : List (Str × Value)) PUnit.unit fun x _ => (nsSet d x.1 x.2 >>= fun _ => pure (ForInStep.yield PUnit.unit))
      pure [(("self" : Str), a), (("faces" : Str), b), (("each" : Str), v), (("numbers" : Str), Value.ref d)]) Q E s) :
    wpAny M A (bindArgs (PySem.W.fnOf name qual params body scope .none (.ref D) doc pm an cdv ct) ⟨[a, b], []⟩) Q E s := by
  obtain ⟨hpo, har, hko, hva, ka, hka, hkn⟩ := hp
  obtain ⟨po, ar, va, ko, kd, kwarg, df⟩ := params
  simp only at hpo har hko hva hka
  subst hpo hva hka
  unfold bindArgs
  simp only [har, hko]
  refine wpAny_bind (wpAny_forIn_list _ (fun rest b' s' => s' = s ∧ rest = [] ∧ b' = (([(("self" : Str), a), (("faces" : Str), b)], []) : List (Str × Value) × List (Str × Value))) _ ?_ ?_ _ _ ⟨rfl, rfl, rfl⟩)
  · rintro x rest b' s' ⟨_, e, _⟩
    cases e
  rintro b' s' ⟨es, _, e⟩
  obtain rfl : s = s' := es.symm
  subst e
  refine wpAny_bind (wpAny_pure ?_)
  refine L2.wp_if_neg (fun h => Bool.false_ne_true (show false = true from h)) ?_
  refine L2.wp_if_neg (fun h => Bool.false_ne_true (show false = true from h)) ?_
  refine wpAny_bind (wpAny_forIn_list _ (fun rest b' s' => s' = s ∧ rest = [] ∧ b' = [(("self" : Str), a), (("faces" : Str), b)]) _ ?_ ?_ _ _ ⟨rfl, rfl, rfl⟩)
  · rintro x rest b' s' ⟨_, e, _⟩
    cases e
  rintro b' s' ⟨es, _, e⟩
  obtain rfl : s = s' := es.symm
  subst e
  refine wpAny_bind (wpAny_forIn_list _ (fun rest b' s' => s' = s ∧ ((rest = [("each" : Str)] ∧ b' = ([(("self" : Str), a), (("faces" : Str), b)], ([] : List Str))) ∨ (rest = [] ∧ b' = ([(("self" : Str), a), (("faces" : Str), b), (("each" : Str), v)], ([] : List Str))))) _ ?_ ?_ _ _ ⟨rfl, .inl ⟨rfl, rfl⟩⟩)
  · rintro x rest b' s' ⟨es, e⟩
    obtain rfl : s = s' := es.symm
    rcases e with ⟨e, e2⟩ | ⟨e, e2⟩
    · obtain ⟨rfl, rfl⟩ := List.cons.inj e
      subst e2
      refine L2.wp_if_pos rfl ?_
      refine wpAny_bind ((PySem.W.looks_nsIn X hD).here ?_)
      exact wpAny_pure ⟨rfl, .inr ⟨rfl, rfl⟩⟩
    · cases e
  rintro b' s' ⟨es, e⟩
  obtain rfl : s = s' := es.symm
  rcases e with ⟨e, _⟩ | ⟨_, e⟩
  · cases e
  subst e
  refine L2.wp_if_neg (fun h => Bool.false_ne_true (show false = true from h)) ?_
  refine L2.wp_if_neg (fun h => absurd (show 0 > sizeLine + 1 from h) (by omega)) ?_
  rw [hkn]
  exact h
end
section
variable {P : Program} {w : World} {A : Around} {E : Value → Shared → Prop} {s : Shared} {d : Addr}
theorem ns_new {es : List DictEntry} {n : Nat} {k : Str} {v : Value} {Q : Unit → Shared → Prop} (ho : s.heap.get? d = some (PySem.W.dictOf es n)) (hs : ∀ e ∈ es, e.key.isStr k = false) (hr : ∀ e ∈ es, e.refKey = false)
    (h : ∀ h', h'.get? d = some (PySem.W.dictOf (es ++ [⟨PyData.keyHash w.params k, .str k s.toks, v⟩]) (n + 1)) → Heap.SameBut d s.heap h' → Q () { s with heap := h', toks := s.toks + 1 }) :
    wpAny (model P w) A (nsSet d k v) Q E s := by
  have e1 : es.any (·.key.isStr k) = false := by
    cases q : es.any (·.key.isStr k) with
    | false => rfl
    | true => obtain ⟨e, he, z⟩ := List.any_eq_true.mp q; rw [hs e he] at z; cases z
  have e2 : es.any (·.refKey) = false := by
    cases q : es.any (·.refKey) with
    | false => rfl
    | true => obtain ⟨e, he, z⟩ := List.any_eq_true.mp q; rw [hr e he] at z; cases z
  have e : Obj.putName k (PyData.keyHash w.params k) (.str k s.toks) v (PySem.W.dictOf es n) = PySem.W.dictOf (es ++ [⟨PyData.keyHash w.params k, .str k s.toks, v⟩]) (n + 1) := by
    rw [PySem.W.putName_dict, PySem.W.putL_new hs]
    show PySem.W.dictOf _ (if es.any (·.key.isStr k) then n else n + 1) = _
    rw [e1, if_neg Bool.false_ne_true]
  have c : aRefKeyMayBeTheName k es.toArray = false := by
    rw [aRefKeyMayBeTheName_at, ← Array.any_toList, ← Array.any_toList]
    show (!es.any (·.key.isStr k) && es.any (·.refKey)) = false
    rw [e2, Bool.and_false]
  have g := Heap.get?_update_self (h := s.heap) (Obj.putName k (PyData.keyHash w.params k) (.str k s.toks) v) ho (by rw [e]; rfl)
  rw [e] at g
  unfold nsSet
  refine wpAny_bind (wpAny_bind (wpAny_askSetting (wpAny_pure (wpAny_bind (wpAny_mkText (wpAny_bind (wpAny_loadPart (o := PySem.W.dictOf es n) ho ?_)))))))
  dsimp only [PySem.W.dictOf]
  rw [c]
  exact wpAny_updatePart (o := PySem.W.dictOf es n) ho (h _ g (Heap.SameBut.update ..))
theorem ns_fill {Q : PUnit → Shared → Prop} : ∀ (ex : List (Str × Value)) (s : Shared) (es : List DictEntry) (n : Nat), s.heap.get? d = some (PySem.W.dictOf es n) →
    (∀ e ∈ es, ∀ x ∈ ex, e.key.isStr x.1 = false) → (∀ e ∈ es, e.refKey = false) → (ex.map (·.1)).Nodup →
    (∀ h', h'.get? d = some (PySem.W.dictOf (es ++ PySem.W.kwEs w.params s.toks ex) (n + ex.length)) → Heap.SameBut d s.heap h' → Q ⟨⟩ { s with heap := h', toks := s.toks + ex.length }) →
    wpAny (model P w) A (forIn ex PUnit.unit fun x _ => (nsSet d x.1 x.2 >>= fun _ => pure (ForInStep.yield PUnit.unit))) Q E s
  | [], s, es, n, ho, _, _, _, h => by
    rw [List.forIn_nil]
    refine wpAny_pure (h s.heap ?_ (Heap.SameBut.refl ..))
    show _ = some (PySem.W.dictOf (es ++ []) n)
    rw [List.append_nil]
    exact ho
  | x :: r, s, es, n, ho, hs, hr, hn, h => by
    obtain ⟨hn1, hn2⟩ := List.nodup_cons.mp (show (x.1 :: r.map (·.1)).Nodup from hn)
    rw [List.forIn_cons]
    refine wpAny_bind (wpAny_bind (ns_new ho (fun e he => hs e he x (.head _)) hr fun h' g1 s1 => wpAny_pure ?_))
    show wpAny (model P w) A (forIn r PUnit.unit fun x _ => (nsSet d x.1 x.2 >>= fun _ => pure (ForInStep.yield PUnit.unit))) Q E { s with heap := h', toks := s.toks + 1 }
    refine ns_fill r { s with heap := h', toks := s.toks + 1 } _ _ g1 (fun e he y hy => ?_) (fun e he => ?_) hn2 fun h'' g2 s2 => ?_
    · rcases List.mem_append.mp he with he | he
      · exact hs e he y (.tail _ hy)
      · obtain rfl := List.mem_singleton.mp he
        show (x.1 == y.1) = false
        exact beq_eq_false_iff_ne.mpr fun q => hn1 (by rw [q]; exact List.mem_map_of_mem hy)
    · rcases List.mem_append.mp he with he | he
      · exact hr e he
      · obtain rfl := List.mem_singleton.mp he
        rfl
    · have t1 : s.toks + 1 + r.length = s.toks + (r.length + 1) := by omega
      have t2 : n + 1 + r.length = n + (r.length + 1) := by omega
      show Q ⟨⟩ { s with heap := h'', toks := s.toks + 1 + r.length }
      rw [t1]
      refine h h'' ?_ (s1.trans s2)
      rw [t2, List.append_assoc] at g2
      exact g2
theorem kw_pairs : ∀ (ex : List (Str × Value)) (t : Tok), Pairs (mixKind P w) (PySem.W.kwEs w.params t ex) (ex.map fun x => ((Sum.inr x.1 : Key), x.2))
  | [], _ => Pairs.nil
  | x :: r, t => Pairs.cons (mixKind_str P w x.1 t) rfl (kw_pairs r (t + 1))
theorem kw_dict {h : Heap} {ex : List (Str × Value)} (t : Tok) (n : Nat) (hn : (ex.map (·.1)).Nodup) (ho : h.get? d = some (PySem.W.dictOf (PySem.W.kwEs w.params t ex) n)) : h.DictOf (mixKind P w) d (ex.map fun x => ((Sum.inr x.1 : Key), x.2)) :=
  ⟨_, (PySem.W.kwEs w.params t ex).toArray, n, ho, ⟨rfl, rfl, rfl⟩, rfl, fun e he => by
    obtain ⟨k, u, hk, hh⟩ := PySem.W.kwEs_key ex t e (List.mem_toArray.mp he)
    exact ⟨.inr k, by rw [hk]; exact mixKind_str P w k u, hh.trans rfl⟩, kw_pairs ex t, by
    rw [List.map_map]
    have : (ex.map ((fun x : Key × Value => x.1) ∘ fun x => ((Sum.inr x.1 : Key), x.2))) = (ex.map (·.1)).map (Sum.inr : Str → Key) := by rw [List.map_map]; rfl
    rw [this]
    exact List.Pairwise.map _ (fun _ _ hne q => hne (Sum.inr.inj q)) hn⟩
end
end FwKw
set_option Elab.async false
set_option linter.all false
set_option maxRecDepth 100000
set_option maxHeartbeats 1000000
namespace FwKw
open PySem PySem.Spec PyProof.Rows L2
section
variable {M : Model} {A : Around} {E : Value → Shared → Prop} {s : Shared}
theorem merged_star {f : Value} {m : Sem Value} {Q : Addr → Shared → Prop}
    (h : wpAny M A m (fun mv s2 => wpAny M A (mergeMapping s.heap.objs.size mv true) (fun _ s3 => Q s.heap.objs.size s3) (fun _ _ => False) s2) E { s with heap := s.heap.push { cls := .type "dict", data := .dict #[] } }) :
    wpAny M A (mergedKeywords f [(none, m)]) Q E s := by
  unfold mergedKeywords
  refine wpAny_bind (wpAny_alloc ?_)
  generalize s.heap.objs.size = d at h ⊢
  refine wpAny_bind (wpAny_holding ?_)
  dsimp only
  rw [List.forIn_cons]
  dsimp only
  refine wpAny_bind (wpAny_bind ?_)
  refine wpAny_bind (L2.wp_if_pos rfl (wpAny_pure ?_))
  refine wpAny_bind (wpAny_mono h (fun mv s2 h2 => ?_) fun _ _ e => e)
  refine wpAny_bind (wpAny_onRaise (wpAny_holding (wpAny_tryCatch (wpAny_onRaise (wpAny_mono h2 (fun _ s3 h3 => ?_) fun _ _ z => z.elim)))))
  refine wpAny_pure ?_
  dsimp only
  rw [List.forIn_nil]
  refine wpAny_pure ?_
  exact L2.wp_if_pos rfl (wpAny_pure (wpAny_pure h3))
theorem kw_list {P : Program} {w : World} {f : Value} {d : Addr} {ex : List (Str × Value)} {Q : List (Str × Value) → Shared → Prop} (hd : s.heap.DictOf (MK P w) d (ex.map fun x => ((Sum.inr x.1 : Key), x.2))) (h : Q ex s) :
    wpAny M A (keywordsIn f d) Q E s := by
  obtain ⟨o, es, ep, ho, hc, hda, hk, hp, hn⟩ := id hd
  unfold keywordsIn
  refine wpAny_bind (wpAny_dictEntries ho hda ?_)
  dsimp only
  rw [← Array.forIn_toList]
  refine wpAny_bind (wpAny_forIn_list _ (fun rest b s' => s' = s ∧ ∃ l r, ex = l ++ r ∧ b = l ∧ Pairs (MK P w) rest (r.map fun x => ((Sum.inr x.1 : Key), x.2))) _ ?_ ?_ _ _ ⟨rfl, [], ex, rfl, rfl, hp⟩)
  · rintro e rest b s' ⟨es', l, r, e1, e2, e3⟩
    obtain rfl : s = s' := es'.symm
    subst e2
    cases r with
    | nil => cases e3
    | cons x r =>
      cases e3 with
      | cons q1 q2 q3 =>
        rcases keyIs_shape (show keyIs (Sum.inr x.1 : Key) e.key = true from q1) with ⟨i, t, ek, _⟩ | ⟨y, t, ek, ev⟩
        · cases ek
        · rw [ev]
          dsimp only
          refine wpAny_pure ⟨rfl, b ++ [x], r, by rw [e1]; simp, ?_, q3⟩
          have : y = x.1 := (Sum.inr.inj ek).symm
          rw [this, q2]
  · rintro b s' ⟨es', l, r, e1, e2, e3⟩
    obtain rfl : s = s' := es'.symm
    subst e2
    cases r with
    | nil => rw [List.append_nil] at e1; subst e1; exact wpAny_pure h
    | cons x r => cases e3
theorem args_star {P : Program} {w : World} {f : Value} {x m : Sem Value} {Q : Args → Shared → Prop}
    (h : wpAny M A x (fun u s1 => wpAny M A m (fun mv s2 => wpAny M A (mergeMapping s1.heap.objs.size mv true) (fun _ s3 => ∃ ex, s3.heap.DictOf (MK P w) s1.heap.objs.size (ex.map fun x => ((Sum.inr x.1 : Key), x.2)) ∧ Q ⟨[u], ex⟩ s3) (fun _ _ => False) s2) E { s1 with heap := s1.heap.push { cls := .type "dict", data := .dict #[] } }) E s) :
    wpAny M A (evalArgs f true [(false, x)] [(none, m)]) Q E s := by
  unfold evalArgs
  show wpAny M A (spliced [(false, x)] >>= _) Q E s
  refine wpAny_bind ?_
  rw [spliced]
  refine wpAny_bind (wpAny_mono h (fun u s1 h1 => ?_) fun _ _ e => e)
  refine wpAny_bind (wpAny_pure ?_)
  refine wpAny_bind (wpAny_holding ?_)
  rw [spliced]
  refine wpAny_pure (wpAny_pure ?_)
  refine wpAny_bind (wpAny_pure ?_)
  dsimp only
  refine wpAny_holding ?_
  refine L2.wp_if_neg (fun h => Bool.false_ne_true (show false = true from h)) ?_
  refine wpAny_bind (merged_star (wpAny_mono h1 (fun mv s2 h2 => wpAny_mono h2 (fun _ s3 h3 => ?_) fun _ _ z => z) fun _ _ e => e))
  obtain ⟨ex, hd, hq⟩ := h3
  refine wpAny_bind (wpAny_pure ?_)
  exact wpAny_bind (wpAny_holding (kw_list hd (wpAny_pure hq)))
theorem call_star {P : Program} {w : World} {K : PySem.W.Frag} {f : Value} {x m : Sem Value} {pos : Pos} {Q : Value → Shared → Prop} (hk : PySem.W.keepIn K f = true)
    (h : wpAny M A x (fun u s1 => wpAny M A m (fun mv s2 => wpAny M A (mergeMapping s1.heap.objs.size mv true) (fun _ s3 => ∃ ex, s3.heap.DictOf (MK P w) s1.heap.objs.size (ex.map fun x => ((Sum.inr x.1 : Key), x.2)) ∧ K.In s3.heap ∧ wpAny M A (call f [u] ex) Q E s3) (fun _ _ => False) s2) E { s1 with heap := s1.heap.push { cls := .type "dict", data := .dict #[] } }) E s) :
    wpAny M A (callWith pos f [] [(false, x)] [(none, m)]) Q E s := by
  unfold callWith
  refine wpAny_bind (wpAny_holding (wpAny_mono (args_star (P := P) (w := w) (Q := fun a s3 => K.In s3.heap ∧ wpAny M A (call f ([] ++ a.pos) a.kw) Q E s3) (wpAny_mono h (fun u s1 h1 => wpAny_mono h1 (fun mv s2 h2 => wpAny_mono h2 (fun _ s3 ⟨ex, q1, q2, q3⟩ => ⟨ex, q1, q2, q3⟩) fun _ _ z => z) fun _ _ e => e) fun _ _ e => e)) (fun a s₁ h₁ => wpAny_bind (wpAny_standAt ?_)) fun _ _ x => x))
  obtain ⟨k, hk', L⟩ := PySem.W.keeps_K hk _ h₁.1
  simp only [List.any_cons, List.any_nil, Option.isNone_none, Bool.true_or, Bool.or_true]
  refine wpAny_bind (L.here ?_)
  have tail : ∀ {t : Sem Value}, wpAny M A t Q E s₁ → wpAny M A (t >>= fun r => holding [r] point >>= fun _ => pure r) Q E s₁ :=
    fun ht => wpAny_bind (wpAny_mono ht (fun r s₂ hr => wpAny_bind (wpAny_holding (wpAny_point (wpAny_pure hr)))) fun _ _ x => x)
  have marked (mk : Value) : wpAny M A (callMarked mk f ([] ++ a.pos) a.kw) Q E s₁ := by unfold callMarked; exact Calls.wpAny_keep h₁.2
  rcases hk' with rfl | rfl | rfl <;> dsimp only <;> first | exact tail (marked _) | exact tail (wpAny_operateT h₁.2) | exact tail (wpAny_operating h₁.2)
end
end FwKw
set_option Elab.async false
set_option linter.all false
set_option maxRecDepth 100000
set_option maxHeartbeats 1000000
namespace FwKw
open PySem PySem.Spec PyProof.Rows L2
abbrev inrV (ex : List (Str × V)) : List (Key × V) := ex.map fun x => (Sum.inr x.1, x.2)
abbrev inrW (ex : List (Str × Value)) : List (Key × Value) := ex.map fun x => (Sum.inr x.1, x.2)
/-- the keywords as they reach __init__: none (each is its default), or each ahead of the rest -/
inductive KwIs : List (Str × Value) → V → List (Str × V) → Prop
  | no : KwIs [] (.int 0) []
  | ev {u : Value} {v : V} {ex : List (Str × V)} {ex' : List (Str × Value)} : RelV v u → KV (inrV ex) (inrW ex') → Away ex' → (ex'.map (·.1)).Nodup → ex'.length ≤ 900 → KwIs ((("each" : Str), u) :: ex') v ex
def InitR (P : Program) (w : World) (K : PySem.W.Frag) (mg : Str → Option Value) (base : Heap) (CX : CXT) (k : Nat) (f : Addr) (sp : V → V → V → List (Str × V) → Hp → VK → XK → Prop) : Prop :=
  ∀ (A : Around) (outer : List Env) (s : Shared) (H : Hp) (us : List Value) (a b v : V) (kw : List (Str × Value)) (ex : List (Str × V)) (Q : VK) (E : XK), Room k A → Env0 P w K mg base A outer s H → Vals [a, b] us → KwIs kw v ex → sp a b v ex H Q E →
    codeAny (model P w) A (.call (.ref f) ⟨us, kw⟩) (CR CX outer P w H s Q E) s
section
variable {P : Program} {w : World} {K : PySem.W.Frag} {mg : Str → Option Value} {base : Heap} {A : Around} {outer : List Env} {s : Shared} {H : Hp}
theorem env0_up {h' : Heap} {u : HO} {t : Nat} (e0 : Env0 P w K mg base A outer s H) (kp : ∀ b x, s.heap.get? b = some x → h'.get? b = some x) (hz : s.heap.objs.size ≤ h'.objs.size) (new : ObjOk P w (upd H s.heap.objs.size u) h' s.heap.objs.size u) :
    Env0 P w K mg base A outer { s with heap := h', toks := t } (upd H s.heap.objs.size u) := by
  refine ⟨e0.frames, e0.mod, fun b x e => ⟨kp b x (e0.bs b x e).1, ?_⟩, Nat.le_trans e0.bsz hz, Heap.FunFrames.of_keeps (fun b x e _ => ⟨x, kp b x e, rfl⟩) e0.funs, fun b hb => ?_, e0.hok.laid kp (Nat.le_refl _) new, e0.bare⟩
  · rw [upd_ne (Nat.ne_of_lt (Heap.lt_size (e0.bs b x e).1))]
    exact (e0.bs b x e).2
  · obtain ⟨_, x, hx, _⟩ := e0.funs.mem hb
    rw [upd_ne (Nat.ne_of_lt (Heap.lt_size hx))]
    exact e0.frf b hb
end
section
variable {CX : CXT} {P : Program} {w : World} {K : PySem.W.Frag} {mg : Str → Option Value} {base : Heap} {k : Nat} {f : Addr} {name qual : Str} {params : Arguments} {body : List Stmt} {scope : Scope} {fd : FuncData} {N : List Str} {sp : Sp}
theorem fn_init (F : FunD K name qual params body scope [] [(("each" : Str), .int 0)] f fd) (hp : InitArgs params) (S : FnScope N ["self", "faces", "each", "numbers"] scope) (hCX : StX.CXUp CX)
    (hbody : ∀ (cdv : Value) (A : Around) (outer : List Env) (s : Shared) (H : Hp) (vs : List V) (Q : VK) (E : XK), Room k (A.deeper (envOfC qual scope s.heap.objs.size f cdv)) → sp vs H Q E →
      ∃ t, PSs (cxOf CX P w K mg base N qual scope f cdv A outer s H E) body t ∧ t { nx := fun _ H' => Q .non H', rt := Q } (start N vs) H) :
    InitR P w K mg base CX (k + 1) f (fun a b v ex H Q E => ∀ d, H d = none → sp [a, b, v, .ref d] (upd H d (.dK (inrV ex))) Q E) := by
  obtain ⟨oc, od, dV, kV, doc, pm, an, cdv, ct, osl, rfl, lk, hcd, hD, hK⟩ := F.ex
  intro A outer s H us a b v kw ex Q E hr e0 r hkw hsp
  have hdv : dV = .none := by
    rcases hD with ⟨_, e⟩ | ⟨e, _⟩
    · exact e
    · exact absurd rfl e
  subst hdv
  obtain ⟨D, rfl, hq⟩ : ∃ D : Addr, kV = .ref D ∧ ∀ q ∈ [(("each" : Str), V.int 0)], ∃ u, PySem.W.nsIn K D q.1 = some (some u) ∧ RelV q.2 u := by
    rcases hK with e | e
    · cases e
    · exact e
  obtain ⟨u0, hu0, ru0⟩ := hq _ (List.mem_singleton.mpr rfl)
  cases r with
  | @cons _ ua _ us' ra r =>
  cases r with
  | @cons _ ub _ us'' rb r =>
  cases r
  have hn : H s.heap.objs.size = none := e0.hok.fresh (Nat.le_refl _)
  have big := StX.env0_big e0
  refine StX.run_bnd lk hcd S hr e0 (G := fun xs H2 => ∃ d, H d = none ∧ xs = [a, b, v, V.ref d] ∧ H2 = upd H d (.dK (inrV ex))) (fun A' Ex Q' h => ?_) fun s2 H2 xs ⟨d, hd, e1, e2⟩ hr' => ?_
  · have key : ∀ (ux : Value) (ex' : List (Str × Value)), RelV v ux → KV (inrV ex) (inrW ex') → (ex'.map (·.1)).Nodup → ex'.length ≤ 900 → wpAny (model P w) A' (do
        let d ← alloc { cls := .type "dict", data := .dict #[] }
        forIn ex' PUnit.unit fun x _ => (nsSet d x.1 x.2 >>= fun _ => pure (ForInStep.yield PUnit.unit))
        pure [(("self" : Str), ua), (("faces" : Str), ub), (("each" : Str), ux), (("numbers" : Str), Value.ref d)]) Q' Ex s := fun ux ex' rx rk hnd hl => by
      refine wpAny_bind (wpAny_alloc ?_)
      refine wpAny_bind (ns_fill ex' _ [] 0 (Heap.get?_push_size _ rfl) (fun _ h => by cases h) (fun _ h => by cases h) hnd fun h' g1 s1 => wpAny_pure ?_)
      have kp : ∀ b x, s.heap.get? b = some x → h'.get? b = some x := fun b x e => by
        rw [s1.2 b (Nat.ne_of_lt (Heap.lt_size e))]
        exact Heap.get?_push_of_some _ e
      have hz : s.heap.objs.size ≤ h'.objs.size := by
        rw [s1.1]
        show _ ≤ (s.heap.push _).objs.size
        rw [Heap.size_push]
        exact Nat.le_succ _
      have hl2 : (inrV ex).length ≤ sizeLine := by
        have e1 := Paired.length rk
        have e2 : (inrW ex').length = ex'.length := List.length_map _
        rw [sizeLine_eq]
        omega
      have new : ObjOk P w (upd H s.heap.objs.size (.dK (inrV ex))) h' s.heap.objs.size (.dK (inrV ex)) :=
        dk_new hl2 (beq_eq_false_iff_ne.mpr (Ne.symm (Nat.ne_of_lt big))) rk (kw_dict _ _ hnd g1)
      exact h { s with heap := h', toks := s.toks + ex'.length } (upd H s.heap.objs.size (.dK (inrV ex))) [a, b, v, V.ref s.heap.objs.size] [ua, ub, ux, Value.ref s.heap.objs.size] (env0_up e0 kp hz new) (Un.laid kp (Nat.le_refl _) hn) rfl
        (fun e s' => hCX outer s H _ _ E e s' (Un.laid kp (Nat.le_refl _) hn) kp rfl) (.cons ra (.cons rb (.cons rx (.cons rfl .nil)))) rfl ⟨_, hn, rfl, rfl⟩
    have KX : K.In s.heap := e0.mod.kin.keeps fun b o e => (e0.bs b o e).1
    cases hkw with
    | no => exact bind_init0 hp KX hu0 (key u0 [] ru0 .nil List.nodup_nil (by decide))
    | ev rv rk haw hnd hl => exact bind_init hp haw (by omega) (key _ _ rv rk hnd hl)
  · subst e1 e2
    exact hbody cdv A outer s2 _ _ Q E hr' (hsp d hd)
end
end FwKw
set_option Elab.async false
set_option linter.all false
set_option maxRecDepth 100000
set_option maxHeartbeats 1000000
namespace FwKw
open PySem PySem.Spec PyProof.Rows L2
abbrev SpI := V → V → V → List (Str × V) → Hp → VK → XK → Prop
def AwayV (ns : List Str) : Prop := ∀ x ∈ ns, x ≠ ("self" : Str) ∧ x ≠ ("faces" : Str) ∧ x ≠ ("each" : Str)
def MadeI (C : Addr) (sp : SpI) (E : XK) (b v : V) (ex : List (Str × V)) (H : Hp) (Q : VK) : Prop := ∀ x dx, H x = none → H dx = none → dx ≠ x →
  sp (.ref x) b v ex (upd (upd H dx (.own x)) x (.ins C dx [])) (fun v H2 => v = .non ∧ Q (.ref x) H2) E
theorem kv_inr : ∀ {ex : List (Str × V)} {vs : List (Key × Value)}, KV (inrV ex) vs → ∃ ex' : List (Str × Value), vs = inrW ex' ∧ ex'.map (·.1) = ex.map (·.1)
  | [], _, .nil => ⟨[], rfl, rfl⟩
  | x :: r, _, .cons (b := (k, u)) ⟨e, _⟩ t => by
    obtain ⟨ex', e1, e2⟩ := kv_inr (ex := r) t
    have e : (Sum.inr x.1 : Key) = k := e
    subst e
    exact ⟨(x.1, u) :: ex', by rw [e1]; rfl, by show x.1 :: _ = x.1 :: _; rw [e2]⟩
section
variable {X : Cx} {CX : CXT} {k : Nat} {f C : Addr} {sp : SpI} {E : XK} {x : Str} {p pos kpos : Pos} {e em : Expr} {te tm : TE}
theorem run_makeI {pins : List (Addr × Obj)} {σ : L2.St} {H : Hp} {s : Shared} {Q : VK} {ub : Value} {kw : List (Str × Value)} {b v : V} {ex : List (Str × V)} (M : Mk X.K C f) (F : InitR X.prog X.w X.K X.mg X.base CX k f sp) (hr : Room (k + 1) X.A) (hx : Passes CX X E)
    (I : Inv X pins σ H s) (rb : RelV b ub) (hk : KwIs kw v ex) (h : MadeI C sp E b v ex H Q) :
    wpAny (model X.prog X.w) X.A (call (.ref C) [ub] kw) (EP X pins σ Q) X.xe s := by
  have hq := h (s.heap.objs.size + 1) s.heap.objs.size (I.hok.fresh (Nat.le_succ _)) (I.hok.fresh (Nat.le_refl _)) (Nat.ne_of_lt (Nat.lt_succ_self _))
  have I2 := Inv.made (C := C) I
  have r2 : Vals [V.ref (s.heap.objs.size + 1), b] [Value.ref (s.heap.objs.size + 1), ub] := .cons rfl (.cons rb .nil)
  refine wpAny_call (make_map (f := f) I.kIn M.makes M.init (beq_iff_eq.mp M.fn) (codeAny_mono (F _ X.stack _ _ [Value.ref (s.heap.objs.size + 1), ub] _ b v kw ex _ E (hr.make C [ub] kw) (I2.env0.make C [ub] kw) r2 hk hq) fun r s' hq' => ?_))
  cases r with
  | error e => exact hx pins σ _ _ e s' I2 hq'
  | ok fl =>
    cases fl with
    | ret u =>
      obtain ⟨v, H', I3, rv, ev, q3⟩ := I2.after hq'
      subst ev
      exact ⟨rv, ⟨V.ref (s.heap.objs.size + 1), H', I3, rfl, q3⟩⟩
    | next => exact False.elim hq'
    | brk => exact False.elim hq'
    | cont => exact False.elim hq'
/-- C(e) -/
def tMakeI0 (C : Addr) (sp : SpI) (E : XK) (te : TE) : TE := fun σ H Q => te σ H fun b H1 => MadeI C sp E b (.int 0) [] H1 Q
theorem pe_makeI0 (M : Mk X.K C f) (F : InitR X.prog X.w X.K X.mg X.base CX k f sp) (hr : Room (k + 1) X.A) (hg : Gl X x) (hm : X.mg x = some (.ref C)) (hx : Passes CX X E) (ha : PE X e te) (hdb : (x == ("__debug__" : Str)) = false := by decide)
    (he : starEach [e] X.env = (false, eval e X.env) :: starEach [] X.env := by rfl) (hpl : (backTo pos (starEach [] X.env)).any (·.1) = false := by rfl) : PE X (.Call (.Name x p) [e] [] pos) (tMakeI0 C sp E te) := by
  refine ⟨fun pins s σ H Q I h => ?_⟩
  refine wpAny_Call_Name_kw (ld_glob I hg hm ?_ hdb)
  have pa : PA X [e] (tCons te tNil) := pa_cons ha pa_nil he
  refine PySem.W.callWith_K (h₀ := X.base) I.ok.mod.kin M.kp (thn (pa.run pos pins s σ H (fun vs H1 => match vs with | [b] => MadeI C sp E b (.int 0) [] H1 Q | _ => False) I h) fun us s1 ⟨vs, H1, I1, r, q⟩ => ⟨I1.kIn, ?_⟩) he hpl
  cases r with
  | nil => exact q.elim
  | cons r1 r2 =>
    cases r2 with
    | nil => exact run_makeI M F hr hx I1 r1 .no q
    | cons _ _ => exact q.elim
/-- C(e, each=e2) -/
def tMakeI1 (C : Addr) (sp : SpI) (E : XK) (te tm : TE) : TE := fun σ H Q => te σ H fun b H1 => tm σ H1 fun v H2 => MadeI C sp E b v [] H2 Q
theorem pe_makeI1 (M : Mk X.K C f) (F : InitR X.prog X.w X.K X.mg X.base CX k f sp) (hr : Room (k + 1) X.A) (hg : Gl X x) (hm : X.mg x = some (.ref C)) (hx : Passes CX X E) (ha : PE X e te) (hb : PE X em tm) (hdb : (x == ("__debug__" : Str)) = false := by decide)
    (he : starEach [e] X.env = (false, eval e X.env) :: starEach [] X.env := by rfl) (hall : (backToKw pos (keywordEach [⟨some "each", em, kpos⟩] X.env)).all (·.1.isSome) = true := by rfl) (hks : (backToKw pos (keywordEach [⟨some "each", em, kpos⟩] X.env)).filterMap (·.1) = [("each" : Str)] := by rfl)
    (hpl : ((backTo pos (starEach [e] X.env)).any (·.1) || (backToKw pos (keywordEach [⟨some "each", em, kpos⟩] X.env)).any (·.1.isNone)) = false := by rfl) :
    PE X (.Call (.Name x p) [e] [⟨some "each", em, kpos⟩] pos) (tMakeI1 C sp E te tm) := by
  refine ⟨fun pins s σ H Q I h => ?_⟩
  refine wpAny_Call_Name_kw (ld_glob I hg hm ?_ hdb)
  have pa : PA X [e] (tCons te tNil) := pa_cons ha pa_nil he
  have pk : PK X [⟨some "each", em, kpos⟩] (tCons tm tNil) := pk_cons hb pk_nil
  refine PySem.W.callWith_KW (h₀ := X.base) I.ok.mod.kin M.kp hall (thn (pa.run pos pins s σ H (fun vs H1 => match vs with | [b] => tm σ H1 fun v H2 => MadeI C sp E b v [] H2 Q | _ => False) I h) fun us s1 ⟨vs, H1, I1, r, q⟩ => ?_) hpl he
  cases r with
  | nil => exact q.elim
  | @cons b ub _ _ r1 r2 =>
    cases r2 with
    | cons _ _ => exact q.elim
    | nil =>
      refine thn (pk.run pos pins s1 σ H1 (fun vs H2 => match vs with | [v] => MadeI C sp E b v [] H2 Q | _ => False) I1 q) fun ws s2 ⟨zs, H2, I2, rz, q2⟩ => ⟨I2.kIn, ?_⟩
      rw [hks]
      cases rz with
      | nil => exact q2.elim
      | cons z1 z2 =>
        cases z2 with
        | cons _ _ => exact q2.elim
        | nil => exact run_makeI M F hr hx I2 r1 (.ev (ex := []) (ex' := []) z1 .nil (fun _ h => by cases h) List.nodup_nil (by decide)) q2
/-- C(e, **m) -/
def tMakeIS (C : Addr) (sp : SpI) (E : XK) (te tm : TE) : TE := fun σ H Q => te σ H fun b H1 => ∀ p, H1 p = none → tm σ (upd H1 p (.dK [])) fun y H2 => ∃ (a : Addr) (v : V) (ex : List (Str × V)), y = .ref a ∧ a ≠ p ∧
  H2 a = some (.dK ((Sum.inr ("each" : Str), v) :: inrV ex)) ∧ H2 p = some (.dK []) ∧ AwayV (ex.map (·.1)) ∧ (ex.map (·.1)).Nodup ∧ ex.length ≤ 900 ∧ MadeI C sp E b v ex (upd H2 p (.dK ((Sum.inr ("each" : Str), v) :: inrV ex))) Q
theorem pe_makeIS (M : Mk X.K C f) (F : InitR X.prog X.w X.K X.mg X.base CX k f sp) (hr : Room (k + 1) X.A) (hg : Gl X x) (hm : X.mg x = some (.ref C)) (hx : Passes CX X E) (ha : PE X e te) (hb : PE X em tm) (hdb : (x == ("__debug__" : Str)) = false := by decide)
    (he : starEach [e] X.env = [(false, eval e X.env)] := by rfl) :
    PE X (.Call (.Name x p) [e] [⟨none, em, kpos⟩] pos) (tMakeIS C sp E te tm) := by
  refine ⟨fun pins s σ H Q I h => ?_⟩
  refine wpAny_Call_Name_kw (ld_glob I hg hm ?_ hdb)
  rw [he]
  show wpAny _ _ (callWith pos (.ref C) [] [(false, eval e X.env)] [(none, do let v ← eval em X.env; standAt pos; pure v)]) _ _ s
  refine call_star (P := X.prog) (w := X.w) M.kp (thn (ha.run pins s σ H _ I h) fun ub s1 ⟨b, H1, I1, rb, q⟩ => ?_)
  have hn := I1.hok.fresh (Nat.le_refl s1.heap.objs.size)
  have I2 := I1.laid (a := s1.heap.objs.size) (o := .dK []) (h' := s1.heap.push { cls := .type "dict", data := .dict #[] }) (t' := s1.toks) (fun _ _ q => Heap.get?_push_of_some _ q) (Nat.le_refl _) (dk_empty s1.heap I1.big)
  generalize s1.heap.objs.size = d at hn I2 ⊢
  refine wpAny_bind (thn (hb.run pins _ σ _ _ I2 (q d hn)) fun mv s2 ⟨y, H2, I3, ry, a, v, ex, ey, hne, e1, e2, haw, hnd, hl, q2⟩ => wpAny_bind (wpAny_standAt (wpAny_pure ?_)))
  subst ey
  obtain rfl : mv = Value.ref a := ry
  obtain ⟨z1, lo1, vs1, r1, d1⟩ := dk_of I3.hok e2
  cases r1
  obtain ⟨z2, lo2, vs2, r2, d2⟩ := dk_of I3.hok e1
  cases r2 with
  | @cons _ kv _ vs2 hd r2 =>
  obtain ⟨k0, u⟩ := kv
  obtain ⟨hk0, ru⟩ := hd
  have hk0 : (Sum.inr ("each" : Str) : Key) = k0 := hk0
  subst hk0
  obtain ⟨ex', rfl, hks⟩ := kv_inr r2
  have hl2 : ex'.length = ex.length := by
    have := congrArg List.length hks
    rwa [List.length_map, List.length_map] at this
  have hnd2 : (((("each" : Str), u) :: ex').map (·.1)).Nodup := by
    refine List.nodup_cons.mpr ⟨fun hm => ?_, by rw [hks]; exact hnd⟩
    have hm : ("each" : Str) ∈ ex'.map (·.1) := hm
    rw [hks] at hm
    exact (haw _ hm).2.2 rfl
  refine merge_new d1 d2 hne lo2 ?_ ?_ fun h2 dd2 hs2 => ?_
  · show ((inrW ((("each" : Str), u) :: ex')).map (·.1)).Nodup
    have : (inrW ((("each" : Str), u) :: ex')).map (·.1) = (((("each" : Str), u) :: ex').map (·.1)).map (Sum.inr : Str → Key) := by rw [List.map_map, List.map_map]; rfl
    rw [this]
    exact List.Pairwise.map _ (fun _ _ hne q => hne (Sum.inr.inj q)) hnd2
  · show 0 + (inrW ((("each" : Str), u) :: ex')).length ≤ 1000
    have : (inrW ((("each" : Str), u) :: ex')).length = ex'.length + 1 := List.length_map _
    omega
  have he2 : ∃ q, h2.get? d = some q := let ⟨q, _, _, hq, _⟩ := dd2; ⟨q, hq⟩
  have hlV : ((Sum.inr ("each" : Str), v) :: inrV ex : List (Key × V)).length ≤ sizeLine := by
    have : (inrV ex).length = ex.length := List.length_map _
    rw [List.length_cons, this, sizeLine_eq]
    omega
  have J : Inv X pins σ (upd H2 d (.dK ((Sum.inr ("each" : Str), v) :: inrV ex))) { s2 with heap := h2, toks := s2.toks } :=
    d_write I3 (by rw [e2]; exact True.intro) hs2 he2 (dk_new (vs := inrW ((("each" : Str), u) :: ex')) hlV lo1 (.cons ⟨rfl, ru⟩ r2) dd2)
  refine ⟨(("each" : Str), u) :: ex', dd2, J.kIn, ?_⟩
  exact run_makeI M F hr hx J rb (.ev ru r2 (fun x hx => haw x.1 (by rw [← hks]; exact List.mem_map_of_mem hx)) (List.nodup_cons.mp hnd2).2 (by omega)) q2
end
end FwKw
set_option Elab.async false
set_option linter.all false
set_option maxRecDepth 100000
set_option maxHeartbeats 2000000
/-! an own exception class below another own one, over ValueError; its __init__ says super().__init__(text), then self.code = text -/
namespace FwEx
open PySem PySem.Spec PyProof.Rows L2
section
variable {prog : Program} {w : World} {A : Around} {E : Value → Shared → Prop} {h : Heap} {g : Array GenState} {d : Drawn} {t : Nat} {os : OsState}
abbrev veI : String := "ValueError.__init__"
/-- the bound built-in __init__ is called -/
theorem call_mw {nm q : Str} {C N : Addr} {bs bm : List Value} {hdct : Bool} {sn : List Str} {sub : List Value} {ab : Bool} {col : Option Bool} {dd : Option Addr} {k0 k1 k2 k3 k5 : Option Value} {u e t0 : Addr} {rest : List Value} {Q : Value → Shared → Prop}
    (hC : h.get? C = some (excClassObj nm q C N bs bm hdct sn sub ab col dd k0 k1 k2 k3 k5 "ValueError.__new__")) (he : h.get? e = some (PySem.W.excRec (.ref C) t0 none .none .none (.bool false))) (hu : h.get? u = some (PySem.W.kxs_mw veI e)) (hrest : rest.length ≤ sizeLine)
    (hq : ∀ h' t1, (∀ b o, b ≠ e → h.get? b = some o → h'.get? b = some o) → h'.get? e = some (PySem.W.excRec (.ref C) t1 none .none .none (.bool false)) → Q .none ⟨h', g, d, t, os⟩) :
    wpAny (model prog w) A (call (.ref u) rest) Q E ⟨h, g, d, t, os⟩ := by
  refine wpAny_call (codeAny_of_tree ?_)
  change wpAny _ A.in1 (callAny (Value.ref u) { pos := rest, kw := [] }) _ _ _
  unfold callAny
  dsimp only
  refine wpAny_bind (wpAny_load hu ?_)
  dsimp only
  refine PySem.W.KFB.if_so (by decide) ?_
  refine wpAny_bind (PySem.W.check_bound_init F.excBase_ValueError.toExcCallFacts hC he rfl ?_)
  refine wpAny_bind (wpAny_pure (wpAny_pure ?_))
  refine ⟨plainId_quiet F.excBase_ValueError.init.plain _, codeAny_builtin F.excBase_ValueError.initEntry ?_⟩
  exact PySem.W.exc_init_tree he hrest fun h' k1 e1 _ => hq h' _ k1 e1
end
/-! ### the def -/
/-- self, super().__init__(text), self.code = text -/
abbrev osBody (p0 p1 p2 p3 p4 p5 p6 p7 p8 p9 : Pos) (j1 j2 : Nat) (m z : Str) : List Stmt :=
  [.Expr (.Call (.Attribute (.Call (.Name "super" p0) [] [] p1) "__init__" p2) [.Constant (.str m) j1 p3] [] p4) p5, .Assign [.Attribute (.Name "self" p6) "code" p7] (.Constant (.str z) j2 p8) p9]
structure SupC (K : PySem.W.Frag) (prog : Program) (C f cc cda : Addr) (name qual : Str) (params : Arguments) (body : List Stmt) (scope : Scope) (fd : FuncData) : Prop where
  fn : ∃ oc od doc pm ct osl, fd = PySem.W.ksFn name qual params body scope .none .none doc pm none (.ref cda) ct cc ∧ K.lookup f = some ⟨oc, od, .func fd, osl⟩
  cd : PySem.W.codeIn K (.ref cda) qual = true
  code : ∃ ccl cdd vs ccs file tf, K.lookup cda = some ⟨ccl, cdd, .fields vs, ccs⟩ ∧ vs[2]? = some (.str file tf) ∧ ((prog.main.file : Str) == file) = true
  cell : ∃ cl cld csl, K.lookup cc = some ⟨cl, cld, .cell (some (.ref C)), csl⟩
  oex : OexC K C
  cls : ∃ cdD, PySem.W.clsIn K C = some cdD
  mro : PySem.W.mroIn K C (.ref C) = some true
  sup : PySem.W.ks_superIn K C C "__init__" = some (some (.builtin veI))
  op : PySem.W.nsIn K PySem.cStatics "thirdparty.any" = some none
  isVE : PySem.W.subIn K (.ref C) (.type "ValueError") = some true
  noCode : PySem.W.findIn K (.ref C) "code" = some none
def spSup (C : Addr) (z : Str) : Sp := fun vs H Q _ => ∃ a, vs = [.ref a] ∧ H a = some (exo a C none) ∧ ∀ dx, H dx = none → dx ≠ a → Q .non (upd (upd H dx (exd dx [("code", .str z)])) a (exo a C (some dx)))
section
variable {P : Program} {w : World} {K : PySem.W.Frag} {mg : Str → Option Value} {base : Heap} {CX : CXT} {k : Nat} {C f cc cda : Addr} {name qual : Str} {params : Arguments} {body : List Stmt} {scope : Scope} {fd : FuncData} {ar : Arg}
theorem hint (env : Env) (h : env.scope.kind = .function) : interactive env = false := by
  unfold interactive
  simp [h]
theorem fn_sup {p0 p1 p2 p3 p4 p5 p6 p7 p8 p9 : Pos} {j1 j2 : Nat} {m z : Str} (S : SupC K P C f cc cda name qual params (osBody p0 p1 p2 p3 p4 p5 p6 p7 p8 p9 j1 j2 m z) scope fd)
    (hsc : NdefX.NScope ["self", "__class__"] ["self"] ["__class__"] scope) (hks : scope.names.lookup ("super" : Str) = some .globalImplicit) (hmg : mg "super" = none) (htop : (P.main.scope.names.lookup ("super" : Str)).isSome = false)
    (hpar : (params.posonlyargs ++ params.args).head? = some ar) (har : ar.arg = ("self" : Str)) (hboot : bootBuiltins "super" = some (.type "super")) {pl : Sem Bool}
    (hev : ∀ env : Env, eval (.Call (.Attribute (.Call (.Name "super" p0) [] [] p1) "__init__" p2) [.Constant (.str m) j1 p3] [] p4) env = (do
      let ov ← attributeBase (.Call (.Name "super" p0) [] [] p1) "__init__" env (eval (.Call (.Name "super" p0) [] [] p1) env)
      standAt p2.atName
      let (f, first) ← holding [ov] (getMethod ov "__init__" pl)
      callWith p4 f first (backTo p4 (starEach [.Constant (.str m) j1 p3] env)) [])) : FnOk P w K mg base CX (k + 1) f fd ["self"] (spSup C z) := by
  obtain ⟨⟨oc, od, doc, pm, ct, osl, rfl, lk⟩, hcd, ⟨ccl, cdd, fvs, ccs, file, tf, hcode, hvs, hfile⟩, ⟨cl, cld, csl, hcell⟩, hoex, ⟨cdD, hcls⟩, hmro, hsup, hop, hve, hnc⟩ := S
  refine ⟨fun vs H Q E ⟨a, e, _⟩ => by rw [e]; rfl, fun A outer s H args us vs Q E hr e0 hb r hsp => ?_⟩
  obtain ⟨a, rfl, ha, hq⟩ := hsp
  cases r with
  | @cons _ ua _ us' ra r =>
  cases r
  obtain rfl : ua = Value.ref a := ra
  have KX : K.In s.heap := e0.mod.kin.keeps fun b o e => (e0.bs b o e).1
  have lim : s.heap.NoLimit := e0.mod.nolimit.keeps fun b o e => (e0.bs b o e).1
  have hccH : H cc = none := (e0.bs cc _ (e0.mod.kin _ _ hcell)).2
  let F : NdefX.NF := ⟨name, qual, params, osBody p0 p1 p2 p3 p4 p5 p6 p7 p8 p9 j1 j2 m z, scope, [("__class__", cc)], cda⟩
  have lk1 : ∀ y c, F.cl.lookup y = some c → y = ("__class__" : Str) ∧ c = cc := fun y c e => by
    have e : List.lookup y [(("__class__" : Str), cc)] = some c := e
    by_cases hy : y = ("__class__" : Str)
    · subst hy
      rw [List.lookup_cons_self] at e
      exact ⟨rfl, (Option.some.inj e).symm⟩
    · have hb : (y == ("__class__" : Str)) = false := beq_eq_false_iff_ne.mpr hy
      simp [List.lookup, hb] at e
  have hat : NdefX.CellsAt F.cl ["__class__"] [some (V.ref C)] s.heap H := by
    refine ⟨rfl, fun y c e => ?_, fun x y c e1 e2 => (lk1 x c e1).1.trans (lk1 y c e2).1.symm, fun i y e => ⟨cc, ?_, fun v hv => ?_⟩⟩
    · obtain ⟨_, rfl⟩ := lk1 y c e
      exact ⟨hccH, _, _, KX _ _ hcell, rfl⟩
    · have hy : y = ("__class__" : Str) := by simpa using List.mem_of_getElem? e
      rw [hy]
      exact List.lookup_cons_self
    · have hy : some v = some (V.ref C) := by simpa using List.mem_of_getElem? hv
      cases hy
      exact ⟨.ref C, rfl, _, KX _ _ hcell, rfl⟩
  refine PySem.ks_codeAny_call_defAt (fd := PySem.W.ksFn name qual params (osBody p0 p1 p2 p3 p4 p5 p6 p7 p8 p9 j1 j2 m z) scope .none .none doc pm none (.ref cda) ct cc) (binds := [("self" : Str)].zip [Value.ref a]) hr.depth (KX _ _ lk) rfl lim (PySem.W.codeRec_of KX hcd) rfl hb hsc.nocell (fun x hx => ?_) (fun h₁ hns kp => ?_) hsc.co hsc.gen hsc.kind
  · have hx : x = (("self" : Str), Value.ref a) := List.mem_singleton.mp hx
    rw [hx]
    exact hsc.par _ (List.mem_singleton.mpr rfl)
  have I : Inv (NdefX.ncx CX P w K mg base ["self", "__class__"] F f A outer s H E) [] (NdefX.startF ["self", "__class__"] [V.ref a] [some (V.ref C)]) H { s with heap := h₁, toks := s.toks + ([("self" : Str)].zip [Value.ref a]).length } :=
    NdefX.inv_startN hsc hr.hd e0 rfl (.cons rfl .nil) hat hns kp
  refine PySem.ks_wpAt_execs_cons (PySem.ks_wpAt_Expr_any (PySem.ks_wpAt_MethodCall (pl := pl) ?_ (hev _)) (hint _ hsc.kind))
  refine PySem.ks_wpAt_super_base (f := f) (cc := cda) hks (hsc.frk _ (List.mem_singleton.mpr rfl)) (by decide +kernel) rfl (I.kIn _ _ lk) rfl hpar rfl (I.kIn _ _ hcode) rfl hvs hfile htop ?_
  obtain ⟨mb, hm1, hm2⟩ := I.mod.blt
  refine PySem.W.ks_loadName_global hsc.kind hks (Calls.loadGlobal_builtin (I.mod.glob.keeps I.bk) hmg (hm1.keeps I.bk) ((hm2 _ (by decide +kernel)).trans hboot) ⟨rfl, ?_⟩)
  refine wpAny_loadName_free (c := cc) hsc.kind (hsc.frk _ (List.mem_singleton.mpr rfl)) List.lookup_cons_self ⟨_, I.kIn _ _ hcell, rfl⟩ ?_
  rw [har]
  refine wpAny_loadName_local hsc.kind (hsc.par _ (List.mem_singleton.mpr rfl)) hns (v := .ref a) (by simp [List.lookup]) ?_
  obtain ⟨oD, hD1, hD2⟩ : ∃ oD, h₁.get? C = some oD ∧ oD.data = .cls cdD := by
    unfold PySem.W.clsIn at hcls
    split at hcls
    · rename_i c d cd' sl ho
      cases hcls
      exact ⟨_, I.kIn _ _ ho, rfl⟩
    · cases hcls
  refine PySem.ks_wpAny_isType_cls hD1 hD2 ⟨rfl, ?_⟩
  obtain ⟨t1, hx⟩ := exo_at I.hok ha
  refine PySem.ks_wpAny_call_super hD1 hD2 hx rfl (fun c e => by cases e) (PySem.W.looks_mroIn I.kIn hmro) (fun h2 e2 k2 => ?_)
  have I2 := I.kept (t' := s.toks + ([("self" : Str)].zip [Value.ref a]).length) k2
  have hx2 := k2 _ _ hx
  have ia : PySem.W.InstAt h2 a (PySem.W.excRec (.ref C) t1 none .none .none (.bool false)) C none := ⟨hx2, rfl, rfl, trivial⟩
  have hal : PySem.W.alongIn K "__init__" ((cdD.mro.dropWhile (· != .ref C)).drop 1) = some (some (.builtin veI)) := by
    have q := hsup
    unfold PySem.W.ks_superIn at q
    rw [hcls] at q
    exact q
  refine PySem.W.kxs_getMethod PySem.W.kxs_ValueError e2 (PySem.W.looks_opaque I2.kIn hop) (l₀ := cdD.mro) (fun A Q E s k q => wpAny_bind ((PySem.W.looks_clsIn I2.kIn hcls) A _ E s k (wpAny_pure q))) rfl I2.kIn hal (ia.type.andThen (PySem.W.looks_subIn I2.kIn hve)) (PySem.W.ks_ne I2.kIn ia hcls) (by decide +kernel) ?_
  have hu : (h2.push (PySem.W.kxs_mw veI a)).get? h2.objs.size = some (PySem.W.kxs_mw veI a) := Heap.get?_push_size _ rfl
  have I3 := I2.kept (t' := s.toks + ([("self" : Str)].zip [Value.ref a]).length + 1) (h' := h2.push (PySem.W.kxs_mw veI a)) fun b o e => Heap.get?_push_of_some _ e
  generalize h2.objs.size = u at hu ⊢
  generalize h2.push (PySem.W.kxs_mw veI a) = h3 at hu I3 ⊢
  obtain ⟨t3, hx3⟩ := exo_at I3.hok ha
  obtain ⟨nm, q, N, bs, bm, sn, sub, ab, col, dd, k0, k1, k2', k3, k5, hC, hbm⟩ := hoex.cls
  show wpAny _ _ (callWith p4 (.ref u) [] [(false, eval (.Constant (.str m) j1 p3) _)] []) _ _ _
  refine PySem.W.kxs_callWith (i := veI) (x := a) rfl (Calls.evalArgs_plain (Calls.spliced_cons (Calls.Constant_str (Calls.spliced_nil ⟨hu, ?_⟩))))
  refine call_mw (I3.kIn _ _ hC) hx3 hu (show 1 ≤ sizeLine from by decide +kernel) fun h4 t4 k4 hx4 => ?_
  have J := I3.write (t' := s.toks + ([("self" : Str)].zip [Value.ref a]).length + 1 + 1) (x := a) (e := a) (o := exo a C none) (by rw [ha]; exact True.intro) (.inl rfl) k4 ⟨_, hx4⟩ (exo_ok hx4)
  have eu : upd H a (exo a C none) = H := by
    funext b
    by_cases hb : b = a
    · rw [hb, upd_same, ha]
    · rw [upd_ne hb]
  rw [eu] at J
  have stm : PSs (NdefX.ncx CX P w K mg base ["self", "__class__"] F f A outer s H E) [.Assign [.Attribute (.Name "self" p6) "code" p7] (.Constant (.str z) j2 p8) p9] (tOst K "code" (tVar 0) (tC (.str z))) :=
    pss_one (ps_ost (X := NdefX.ncx CX P w K mg base ["self", "__class__"] F f A outer s H E) (pe_var (i := 0) rfl (.inl (hsc.par _ (List.mem_singleton.mpr rfl)))) pe_str)
  refine wpAt_of_wpAny ?_
  refine wpAny_mono (stm.run [] _ _ _ { nx := fun _ H' => Q .non H', rt := Q } J ?_) (fun fl s' hs => ?_) fun e s' hs => hs
  · exact ⟨.ref a, rfl, a, C, rfl, hoex, hnc, .inl ⟨ha, hq⟩⟩
  · cases fl with
    | ret u' =>
      obtain ⟨v, σ', H', K1, rv, q⟩ := hs
      exact ⟨v, H', K1.os, K1.bare, K1.base, K1.hok, rv, q⟩
    | next =>
      obtain ⟨σ', H', K1, q⟩ := hs
      exact ⟨.non, H', K1.os, K1.bare, K1.base, K1.hok, rfl, q⟩
    | brk =>
      obtain ⟨_, _, _, q⟩ := hs
      exact False.elim q
    | cont =>
      obtain ⟨_, _, _, q⟩ := hs
      exact False.elim q
end
end FwEx
set_option Elab.async false
set_option linter.all false
set_option maxRecDepth 100000
set_option maxHeartbeats 2000000
namespace FwEx
open PySem PySem.Spec PyProof.Rows L2
/-! ### C() -/
def tMkO0 (C : Addr) (sp : Sp) : L2.St → Hp → XK → Prop := fun σ H Q => ∀ a, H a = none → sp [.ref a] (upd H a (exo a C none))
  (fun v H2 => v = .non ∧ ∃ (d : Addr) (fs : List (Str × V)), H2 a = some (exo a C (some d)) ∧ H2 d = some (exd d fs) ∧ H d = none ∧ Q (.ref C) (some d) (upd (del H2 a) d (.xd fs))) (fun _ _ _ => False)
section
variable {X : Cx} {p pos : Pos}
theorem pmk_oex0 {CX : CXT} {x : Str} {C fI : Addr} {k : Nat} {fd : FuncData} {sp : Sp} (T : OexC X.K C) (iC : PySem.W.findIn X.K (.ref C) "__init__" = some (some (.ref fI))) (tI : PySem.W.typeIn X.K (.ref fI) = some (.type "function"))
    (F1 : FnOk X.prog X.w X.K X.mg X.base CX k fI fd ["self"] sp) (hr : Room (k + 1) X.A) (hb : Binds X.K fd ["self"] []) (hx : Passes CX X (fun _ _ _ => False)) (hg : Gl X x) (hm : X.mg x = some (.ref C)) (hdb : (x == ("__debug__" : Str)) = false := by decide) :
    PMk X (.Call (.Name x p) [] [] pos) (tMkO0 C sp) := by
  intro pins s σ H Q I h
  obtain ⟨nm, q, N, bs, bm, sn, sub, ab, col, dd, k0, k1, k2, k3, k5, hC, hbm⟩ := T.cls
  refine wpAny_Call_Name_kw (ld_glob I hg hm ?_ hdb)
  refine PySem.W.callWith_K0 I.kIn T.kC ?_
  obtain ⟨hp, g, dr, tk, os⟩ := s
  have hsz : hp.objs.size ≤ hp.objs.size + 1 := Nat.le_succ _
  have hq := h (hp.objs.size + 1) (I.hok.fresh hsz)
  have kk : ∀ b o, hp.get? b = some o → ((hp.push (PySem.W.kdv_tup [])).push (PySem.HandSPX.excO C hp.objs.size)).get? b = some o := fun b o e => Heap.get?_push_of_some _ (Heap.get?_push_of_some _ e)
  have hget : ((hp.push (PySem.W.kdv_tup [])).push (PySem.HandSPX.excO C hp.objs.size)).get? (hp.objs.size + 1) = some (PySem.HandSPX.excO C hp.objs.size) := by heap_get
  have I2 := I.laid (t' := tk) (a := hp.objs.size + 1) (o := exo (hp.objs.size + 1) C none) kk hsz (exo_ok hget)
  have r2 : Vals [V.ref (hp.objs.size + 1)] [Value.ref (hp.objs.size + 1)] := .cons rfl .nil
  refine wpAny_call (PySem.HandSPX.call_own F.excBase_ValueError (fun Y => PySem.HandSPX.refsVE_contains Y bm hbm) (I.kIn _ _ hC) (PySem.W.looks_findIn I.kIn iC) (fun self => PySem.W.bind_fn I.kIn self tI) (Nat.zero_le _)
    (codeAny_mono (F1.run _ X.stack _ _ ⟨[Value.ref (hp.objs.size + 1)], []⟩ [Value.ref (hp.objs.size + 1)] _ _ (fun _ _ _ => False) (hr.make C [] []) (I2.env0.make C [] []) (hb _ [Value.ref (hp.objs.size + 1)] I2.kIn rfl) r2 hq) fun r s' hq' => ?_))
  cases r with
  | error er => exact hx pins σ _ _ er s' I2 hq'
  | ok fl =>
    cases fl with
    | ret u =>
      obtain ⟨v, H2, os2, bare2, un2, hok2, rv, ev, d, fs, ea, ed, hd1, q2⟩ := hq'
      subst ev
      obtain ⟨h2, g2, d2, t2, os'⟩ := s'
      exact ⟨rv, mk_end (raises_own T.exC T.tyC) I hsz kk un2 hok2 os2 bare2 ea ed hd1 q2⟩
    | next => exact False.elim hq'
    | brk => exact False.elim hq'
    | cont => exact False.elim hq'
end
/-! ### err.f where err is pinned -/
section
variable {X : Cx} {a C : Addr} {oe : Obj} {cls : Value} {d : Option Addr} {e : Expr} {te : TE} {pos : Pos} {n : Str}
theorem pe_xfP (T : XfC X.K C) (hno : PySem.W.findIn X.K (.ref C) n = some none) (hp : (a, oe) ∈ X.pn) (hz : Zc cls d oe) (hf : ∃ vs, oe.data = .fields vs) (he : PE X e te) (hb : attributeBase e n X.env (eval e X.env) = eval e X.env := by rfl) :
    PE X (.Attribute e n pos) (tXf a cls d C n te) := by
  refine ⟨fun pins s σ H Q I h => ?_⟩
  refine attr_of hb (thn (he.run pins s σ H _ I h) fun u s1 hh => ?_)
  obtain ⟨x, H1, I1, rx, ex, ec, dd, fs, v, ed, ea, l, q⟩ := hh
  subst ex ec ed
  obtain rfl : u = Value.ref a := rx
  have ha := (I1.pin (a, oe) (List.mem_append_left _ hp)).1
  obtain ⟨vs, hd⟩ := hf
  obtain ⟨mA, hns, hr⟩ : ObjOk X.prog X.w H1 s1.heap dd (.xd fs) := I1.hok dd _ ea
  obtain ⟨od, ho, hl⟩ := lookIn_ns hns
  obtain ⟨u, hu, ru⟩ := RelO.some_of (v := v) (o := mA n) (by rw [← l]; exact hr n)
  have J : PySem.W.InstAt s1.heap a oe C (some od) := ⟨ha, hz.1, by unfold PySem.W.notCls; rw [hd], by rw [hz.2]; exact ho⟩
  exact HandSPX.exc_get I1.kIn J T.ga T.gg T.exC (PySem.W.findObj_own T.hdC hno rfl (by rw [hl, hu])) (handed_of ru) ⟨v, H1, I1.tok _, ru, q⟩
end
/-! ### a def called where an exception is handled, told of that very exception -/
section
variable {CX : CXT} {P : Program} {w : World} {K : PySem.W.Frag} {mg : Str → Option Value} {base : Heap} {k : Nat} {f : Addr} {name qual : Str} {params : Arguments} {body : List Stmt} {scope : Scope} {dV kV doc pm cdv ct oc : Value} {an od : Option Addr}
  {osl : Array (Option Value)} {N ps : List Str}
theorem run_hot (lk : K.lookup f = some ⟨oc, od, .func (PySem.W.fnOf name qual params body scope dV kV doc pm an cdv ct), osl⟩) (hcd : PySem.W.codeIn K cdv qual = true) (S : FnScope N ps scope)
    {A : Around} {outer : List Env} {s : Shared} {H : Hp} {args : Args} {us : List Value} {vs : List V} {Q : VK} {E : XK} {p : Addr × Obj} (hr : L2H.RoomH (k + 1) A) (hpin : L2H.PinOk outer H s p) (e0 : Env0 P w K mg base A outer s H)
    (hb : BindsTo s (PySem.W.fnOf name qual params body scope dV kV doc pm an cdv ct) args (ps.zip us)) (r : Vals vs us) (hl : vs.length = ps.length)
    (hbody : ∃ t, PSs (L2H.cxH CX P w K mg base N qual scope f cdv A outer s H E p) body t ∧ t { nx := fun _ H' => Q .non H', rt := Q } (L2.start N vs) H) :
    codeAny (model P w) A (.call (.ref f) args) (CR CX outer P w H s Q E) s := by
  have KX : K.In s.heap := e0.mod.kin.keeps fun b o e => (e0.bs b o e).1
  have lim : s.heap.NoLimit := e0.mod.nolimit.keeps fun b o e => (e0.bs b o e).1
  have hkind : ∀ y ∈ ps.zip us, scope.names.lookup y.1 = some .local ∨ (scope.names.lookup y.1 = some .cell ∧ ((cellsFrom (s.heap.objs.size + 1) scope.names []).lookup y.1).isSome = true) := fun ⟨n, v⟩ hy =>
    (S.par n (List.of_mem_zip hy).1).elim .inl fun q => .inr ⟨q, PySem.W.cellsFrom_some _ _ _ (.inl q)⟩
  refine codeAny_call_function hr.depth (KX _ _ lk) rfl S.co S.gen rfl (PySem.W.codeRec_of KX hcd) (hb _ _ _ _ ?_)
  refine wpAny_newFunctionEnv_cells S.kind hkind fun env he s1 x => ?_
  subst he
  refine ⟨lim.keeps x.toInCall.keep, codeAny_func ?_⟩
  obtain ⟨t, ht, hq⟩ := hbody
  have I := L2H.inv_startH (CX := CX) (w := w) (mg := mg) (base := base) (E := E) S hpin e0 hl r x
  refine wpAny_mono (ht.run [] s1 (L2.start N vs) H _ I hq) (fun fl s' hs => ?_) fun e s' hs => hs
  cases fl with
  | ret u =>
    obtain ⟨v, σ', H', J, rv, q⟩ := hs
    exact ⟨v, H', J.os, J.bare, J.base, J.hok, rv, q⟩
  | next =>
    obtain ⟨σ', H', J, q⟩ := hs
    exact ⟨.non, H', J.os, J.bare, J.base, J.hok, rfl, q⟩
  | brk =>
    obtain ⟨_, _, _, q⟩ := hs
    exact False.elim q
  | cont =>
    obtain ⟨_, _, _, q⟩ := hs
    exact False.elim q
end
/-- f(e), e the handled exception a; spb: what the body keeps -/
def tHot (a : Addr) (te : TE) (spb : Hp → VK → Prop) : TE := fun σ H Q => te σ H fun v H1 => v = .ref a ∧ spb H1 Q
section
variable {X : Cx} {CX : CXT} {k : Nat} {f : Addr} {x qual y : Str} {params : Arguments} {body : List Stmt} {scope : Scope} {dV kV doc pm cdv ct oc : Value} {an od : Option Addr} {osl : Array (Option Value)} {N : List Str} {a : Addr} {oe : Obj} {e : Expr} {te : TE} {spb : Hp → VK → Prop} {q pos : Pos}
theorem pe_hot (lk : X.K.lookup f = some ⟨oc, od, .func (PySem.W.fnOf x qual params body scope dV kV doc pm an cdv ct), osl⟩) (hcd : PySem.W.codeIn X.K cdv qual = true) (S : FnScope N [y] scope) (hr : L2H.RoomH (k + 1) X.A) (hp : (a, oe) ∈ X.pn)
    (hg : Gl X x) (hm : X.mg x = some (.ref f)) (hk : PySem.W.keepIn X.K (.ref f) = true) (hb : Binds X.K (PySem.W.fnOf x qual params body scope dV kV doc pm an cdv ct) [y] []) (he : PE X e te)
    (hbody : ∀ (A : Around) (outer : List Env) (s : Shared) (H : Hp) (Q : VK) (E : XK), spb H Q → ∃ t, PSs (L2H.cxH (fun _ _ _ _ _ _ => False) X.prog X.w X.K X.mg X.base N qual scope f cdv A outer s H E (a, oe)) body t ∧ t { nx := fun _ H' => Q .non H', rt := Q } (L2.start N [.ref a]) H)
    (hdb : (x == ("__debug__" : Str)) = false := by decide) (hst : starEach [e] X.env = [(false, eval e X.env)] := by rfl) : PE X (.Call (.Name x q) [e] [] pos) (tHot a te spb) := by
  refine ⟨fun pins s σ H Q I h => ?_⟩
  refine wpAny_Call_Name_kw (ld_glob I hg hm ?_ hdb)
  refine PySem.W.callWith_K (h₀ := X.base) I.ok.mod.kin hk ?_ hst rfl
  have pa : PA X [e] (tCons te tNil) := pa_cons he pa_nil hst
  refine thn (pa.run pos pins s σ H (fun vs H1 => match vs with | [v] => v = .ref a ∧ spb H1 Q | _ => False) I h) fun us s1 ⟨vs, H1, I1, r, q1⟩ => ⟨I1.kIn, ?_⟩
  cases r with
  | nil => exact q1.elim
  | @cons v u vs' us' r1 r2 =>
    cases r2 with
    | cons _ _ => exact q1.elim
    | nil =>
      obtain ⟨e1, q2⟩ := q1
      subst e1
      obtain rfl : u = Value.ref a := r1
      have b := hb s1 [.ref a] I1.kIn rfl
      have P1 := I1.pin (a, oe) (List.mem_append_left _ hp)
      have hpin : L2H.PinOk X.stack H1 s1 (a, oe) := ⟨P1.1, P1.2.1, fun hm => (List.mem_cons.mp (I1.stkSub a hm)).elim P1.2.2.1 P1.2.2.2.1, P1.2.2.2.2⟩
      refine wpAny_call (codeAny_mono (run_hot (CX := fun _ _ _ _ _ _ => False) (E := fun _ _ _ => False) lk hcd S hr hpin I1.env0 b (vs := [V.ref a]) (.cons rfl .nil) rfl (hbody X.A X.stack s1 H1 Q _ q2)) fun r s' hq => ?_)
      cases r with
      | error e => exact False.elim hq
      | ok fl =>
        cases fl with
        | ret u => exact I1.after hq
        | next => exact False.elim hq
        | brk => exact False.elim hq
        | cont => exact False.elim hq
end
end FwEx
set_option Elab.async false
set_option linter.all false
set_option maxRecDepth 100000
set_option maxHeartbeats 2000000
namespace FwEx
open PySem PySem.Spec PyProof.Rows L2
/-- what the clause 'except (x, y, z) as n' wishes; every exception of the body is one of the three -/
def wTup (K : PySem.W.Frag) (cs : List Value) (i : Nat) (ts : Addr → Value → Option Addr → TS) (D : Ends) : WX := fun cls d σ H =>
  PySem.W.exmAny K cls cs = some true ∧ ∀ a, H a = none → ts a cls d { nx := fun σ' H' => D.nx (σ'.set i none) H', rt := D.rt, bk := fun σ' H' => D.bk (σ'.set i none) H', ct := fun σ' H' => D.ct (σ'.set i none) H' } (σ.set i (some (.ref a))) H
theorem flying_kept {B h h' : Heap} {l : List Env} {e : Addr} {Z : Obj → Prop} (x : HandSPX.FlyingZ B l e Z h) (k : ∀ b o, h.get? b = some o → h'.get? b = some o) : HandSPX.FlyingZ B l e Z h' := by
  obtain ⟨k1, k2, k3, oe, vs, T, oT, ts, he, hz, hd, h1, hn, hne, hT, hdT, h3⟩ := x
  exact ⟨fun b o q => k b o (k1 b o q), k2, Heap.FunFrames.of_keeps (fun b o q _ => ⟨o, k b o q, rfl⟩) k3, oe, vs, T, oT, ts, k _ _ he, hz, hd, h1, hn, hne, k _ _ hT, hdT, h3⟩
section
variable {X : Cx} {x y z n : Str} {cx cy cz : Value} {i : Nat} {body suite : List Stmt} {b₀ : Stmt} {px py pz pt pos pos' : Pos} {kt : Nat} {tb : WX → TS} {ts : Addr → Value → Option Addr → TS}
theorem ps_try_tup (hs : X.stack = X.env :: X.outer) (hf : X.env.frame = some X.env.locals) (hN : X.N.Nodup) (hi : X.N[i]? = some n) (hln : X.env.kindOf n = some .local) (nx : Names X x cx) (ny : Names X y cy) (nz : Names X z cz)
    (hb : ∀ (W : WX) (pn : List (Addr × Obj)) (xe : Value → Shared → Prop), Takes (X.tr pn xe) W → PSs (X.tr pn xe) body (tb W))
    (hsu : ∀ (a : Addr) (oe : Obj) (cls : Value) (d : Option Addr) (pn : List (Addr × Obj)), Zc cls d oe → (∃ vs, oe.data = .fields vs) → PSs (X.suite a ((a, oe) :: pn)) (b₀ :: suite) (ts a cls d))
    (hst : ∀ env, starEach [.Name x px, .Name y py, .Name z pz] env = [(false, eval (.Name x px) env), (false, eval (.Name y py) env), (false, eval (.Name z pz) env)] := by intro _; rfl) :
    PS X (.Try body [.ExceptHandler (some (.Tuple [.Name x px, .Name y py, .Name z pz] kt pt)) (some n) (b₀ :: suite) pos'] [] [] pos) (fun D σ H => tb (wTup X.K [cx, cy, cz] i ts D) D σ H) := by
  refine ⟨fun pins s σ H D I h => ?_⟩
  have ok := I.ok
  have hfr : X.A.frames = some (X.env :: X.outer) := by rw [ok.frames, hs]
  refine wpAny_Try_except ?_
  refine wpAny_mono ((hb (wTup X.K [cx, cy, cz] i ts D) (X.pn ++ pins) (fun e s₁ => wpAny (model X.prog X.w) X.A (noteFrame e X.env) (fun _ s₂ => wpAny (model X.prog X.w) X.A (setFlight e none) (fun _ s₃ =>
    wpAny (model X.prog X.w) X.A (handleBy e X.env [.ExceptHandler (some (.Tuple [.Name x px, .Name y py, .Name z pz] kt pt)) (some n) (b₀ :: suite) pos']) (SP X pins D) X.xe s₃) X.xe s₂) X.xe s₁) (fun u s' xx => ?_)).run [] s σ H D (I.toTry _) h) (fun f s1 hsp => ?_) (fun e s1 he => he)
  · obtain ⟨a, B, sI, pins', σ', H', cls, d, rfl, J', nb, up, sky, na, os, ag, hb1, hyes⟩ := xx
    have J : Inv X pins σ' H' sI := J'.ofTry ok
    have sky' : Sky B (X.env :: X.outer) a (Zc cls d) X.env.locals s'.heap := by rw [← hs]; exact sky
    show wpAny (model X.prog X.w) X.A (noteFrame (.ref a) X.env) _ _ _
    refine Sky.land Zc.steady hfr hf sky' fun h3 fl3 up3 => ?_
    have J3 : Inv X pins σ' H' { s' with heap := h3 } := J.landed nb fl3.1 (up.trans up3) os ag
    obtain ⟨oe3, vs3, he3, hz3, hd3⟩ := fl3.there
    have nfr : a ∉ frs (X.env :: X.outer) := fun hm => by
      obtain ⟨_, o', e', hnf⟩ := fl3.2.2.1.mem hm
      rw [he3] at e'; cases e'
      exact hnf _ hd3
    have nL : a ≠ X.env.locals := fun z => nfr (List.mem_filterMap.mpr ⟨X.env, List.mem_cons_self, by rw [hf, z]⟩)
    have nF : a ∉ X.fs := fun hm => by
      obtain ⟨e, he, q⟩ := List.mem_filterMap.mp hm
      exact nfr (List.mem_filterMap.mpr ⟨e, List.mem_cons_of_mem _ he, q⟩)
    have S3 := J3.suite he3 hd3 na nL nF
    refine wpAny_handleBy_cons (codeAny_handlers_test ?_) (by intro q; cases q)
    have test : ∀ {m : Str} {c : Value} {pm : Pos} {Q : Value → Shared → Prop} {E : Value → Shared → Prop}, Names X m c → Q c { s' with heap := h3 } → wpAny (model X.prog X.w) (X.A.mark (some (.ref a))) (eval (.Name m pm) X.env) Q E { s' with heap := h3 } := fun {m c pm Q E} hc q => by
      obtain ⟨hg, hdbg, hm | ⟨hm, hv, hnn⟩⟩ := hc
      · exact ld_glob (X := X.suite a ((a, oe3) :: (X.pn ++ pins))) S3 hg hm q hdbg
      · exact ld_blt (X := X.suite a ((a, oe3) :: (X.pn ++ pins))) S3 hg hm hv q hnn hdbg
    refine wpAny_Tuple_spliced ?_
    rw [hst]
    refine Calls.spliced_cons (test nx (Calls.spliced_cons (test ny (Calls.spliced_cons (test nz (Calls.spliced_nil ⟨show 3 ≤ sizeLine from by decide +kernel, ?_⟩))))))
    have kp : ∀ b o, h3.get? b = some o → (h3.push { cls := .type "tuple", data := .seq [cx, cy, cz].toArray }).get? b = some o := fun b o e => Heap.get?_push_of_some _ e
    have LT : PySem.W.Looks (model X.prog X.w) (h3.push { cls := .type "tuple", data := .seq [cx, cy, cz].toArray }) (typeOf (.ref a)) cls := fun A Q E s k q => wpAny_typeOf_ref (k _ _ (kp _ _ he3)) (by rw [hz3.1]; exact q)
    have LM := PySem.W.exm_tup3 (M := model X.prog X.w) (J3.kIn.keeps kp) LT (Heap.get?_push_size h3 rfl) hb1
    refine LM.here ?_
    have fl5 := flying_kept fl3 kp
    have up5 := (up.trans up3).trans (Heap.UpToSlots.of_keeps kp)
    refine codeAny_handlers_suite_as ?_
    refine HandSPX.lands_againZ (s := { s' with heap := h3.push { cls := .type "tuple", data := .seq [cx, cy, cz].toArray } }) fl5 fun h4 fl4 up4 => ?_
    have J4 : Inv X pins σ' H' { s' with heap := h4 } := J.landed nb fl4.1 (up5.trans up4) os ag
    obtain ⟨oe4, vs4, he4, hz4, hd4⟩ := fl4.there
    have S4 := J4.suite he4 hd4 na nL nF
    refine store_ok (X := X.suite a ((a, oe4) :: (X.pn ++ pins))) (v := .ref a) S4 hN hi (.inl hln) rfl (fun s5 S5 => ?_) (.inr hln)
    refine wpAny_mono ((hsu a oe4 cls d (X.pn ++ pins) hz4 ⟨_, hd4⟩).run [] s5 _ H' _ S5 (hyes a na)) (fun f s6 hsp => ?_) (fun _ _ z => False.elim z)
    have end_ : ∀ {σ6 : L2.St} {H6 : Hp} {Q : Shared → Prop}, Inv (X.suite a ((a, oe4) :: (X.pn ++ pins))) [] σ6 H6 s6 → (∀ s7, Inv X pins (σ6.set i none) H6 s7 → Q s7) →
        wpAny (model X.prog X.w) X.A (do bindName X.env n .none; unbindBehindTheSuite X.env n pos') (fun _ s7 => Q s7) X.xe s6 := fun {σ6 H6 Q} S6 hq => gone_ok (S6.unsuite ok) hN hi hln hq
    cases f with
    | next =>
      obtain ⟨σ6, H6, S6, q6⟩ := hsp
      exact end_ S6 fun s7 J7 => ⟨_, _, J7, q6⟩
    | brk =>
      obtain ⟨σ6, H6, S6, q6⟩ := hsp
      exact end_ S6 fun s7 J7 => ⟨_, _, J7, q6⟩
    | cont =>
      obtain ⟨σ6, H6, S6, q6⟩ := hsp
      exact end_ S6 fun s7 J7 => ⟨_, _, J7, q6⟩
    | ret u =>
      obtain ⟨v6, σ6, H6, S6, r6, q6⟩ := hsp
      exact end_ S6 fun s7 J7 => ⟨_, _, _, J7, r6, q6⟩
  · cases f with
    | next =>
      obtain ⟨σ', H', J', q⟩ := hsp
      exact wpAny_execs_nil ⟨σ', H', J'.ofTry ok, q⟩
    | brk =>
      obtain ⟨σ', H', J', q⟩ := hsp
      exact ⟨σ', H', J'.ofTry ok, q⟩
    | cont =>
      obtain ⟨σ', H', J', q⟩ := hsp
      exact ⟨σ', H', J'.ofTry ok, q⟩
    | ret u =>
      obtain ⟨v, σ', H', J', r, q⟩ := hsp
      exact ⟨v, σ', H', J'.ofTry ok, r, q⟩
end
end FwEx
set_option Elab.async false
set_option linter.all false
set_option maxRecDepth 100000
set_option maxHeartbeats 2000000
/-! lambdas, with or without a default, made and kept; called later by another def -/
namespace FwLam
open PySem PySem.Spec PyProof.Rows L2 LamX
/-- nothing more is told of it -/
def tt : HO := .ext fun _ => True
theorem tt_ok {P : Program} {w : World} {H : Hp} {h : Heap} {a : Addr} {o : Obj} (e : h.get? a = some o) : ObjOk P w H h a (.frz o tt) := ⟨e, True.intro, ⟨o, e⟩, fun _ _ _ _ => True.intro⟩
/-- the words of a lambda -/
structure LF where
  qual : Str
  params : Arguments
  body : Expr
  scope : Scope
  cl : List (Str × Addr)
def LamAt (H : Hp) (f : Addr) (F : LF) (c : Addr) (dV : Value) : Prop := ∃ doc pm ctv, H f = some (.frz (PySem.W.kdv_obj "<lambda>" F.qual F.params (.expr F.body) F.scope F.cl dV doc pm c ctv) tt)
/-- its defaults: none, or one int -/
def DfAt (H : Hp) (dV : Value) : Option Int → Prop
  | none => dV = .none
  | some i => ∃ T : Addr, dV = .ref T ∧ H T = some (.tup [.int i])
section
variable {X : Cx} {pins : List (Addr × Obj)} {σ : L2.St} {H : Hp} {s : Shared}
theorem lam_tail {T : List (Addr × Str)} {c P : Addr} {params : Arguments} {body : Expr} {scope : Scope} {pos : Pos} {dV : Value} {E : Value → Shared → Prop} {Q : Value → Shared → Prop} (I : Inv X pins σ H s) (TB : TabB X.base X.mg c P) (hcode : X.env.code = .ref c)
    (hm : (P, X.env.qual ++ "<lambda>") ∈ T) (hu : ∀ p ∈ T, p.1 = P → p.2 = X.env.qual ++ "<lambda>") (hT : Tabs T H) (hfree : ∀ y ∈ scope.names, y.2 = .free → ∃ c, X.env.cells.lookup y.1 = some c)
    (h : ∀ (f c' : Addr) (H1 : Hp) (s' : Shared), Inv X pins σ H1 s' → ExtN H H1 → Tabs T H1 → H f = none → LamAt H1 f ⟨X.env.qual ++ "<lambda>", params, body, scope, cloFrom X.env.cells scope.names []⟩ c' dV → H1 c' = some (CodeO c' (X.env.qual ++ "<lambda>")) → Q (.ref f) s') :
    wpAny (model X.prog X.w) X.A (makeTail "<lambda>" (X.env.qual ++ "<lambda>") params (.expr body) scope X.env dV .none none pos pos.line) Q E s := by
  obtain ⟨ps, hP, ht, ha⟩ := hT _ hm
  have bP : s.heap.BuiltinsAt X.mg P := TB.bm.keeps I.bk
  have hP' : s.heap.get? P = some { cls := .none, data := .fields ps } := I.hok P _ hP
  have last : ∀ {c' : Addr} {doc pm ctv : Value} {H1 : Hp} {h' : Heap} {tk : Tok}, Inv X pins σ H1 { s with heap := h', toks := tk } → ExtN H H1 → Tabs T H1 → s.heap.objs.size ≤ h'.objs.size → H1 c' = some (CodeO c' (X.env.qual ++ "<lambda>")) →
      Q (.ref h'.objs.size) { s with heap := h'.push (PySem.W.kdv_obj "<lambda>" (X.env.qual ++ "<lambda>") params (.expr body) scope (cloFrom X.env.cells scope.names []) dV doc pm c' ctv), toks := tk } := fun {c' doc pm ctv H1 h' tk} I1 eN T1 hsz hc => by
    have nF : H1 h'.objs.size = none := I1.hok.fresh (Nat.le_refl _)
    have I2 := I1.laid (a := h'.objs.size) (o := .frz (PySem.W.kdv_obj "<lambda>" (X.env.qual ++ "<lambda>") params (.expr body) scope (cloFrom X.env.cells scope.names []) dV doc pm c' ctv) tt) (t' := tk) (fun b u e => Heap.get?_push_of_some _ e) (Nat.le_refl _) (tt_ok (Heap.get?_push_size _ rfl))
    have ext : ∀ b o, H1 b = some o → upd H1 h'.objs.size (.frz (PySem.W.kdv_obj "<lambda>" (X.env.qual ++ "<lambda>") params (.expr body) scope (cloFrom X.env.cells scope.names []) dV doc pm c' ctv) tt) b = some o := fun b o e => (upd_ne (ne_of_none e nF)).trans e
    exact h _ c' _ _ I2 (fun b o e n => ext b o (eN b o e n)) (T1.ext ext) (I.hok.fresh hsz) ⟨doc, pm, ctv, upd_same⟩ (ext _ _ hc)
  cases hc : codeAmong pos ps.toList with
  | none =>
    refine PySem.W.kdv_makeTail (mg := X.mg) (c := c) (P := P) (ps := ps) (closure_ok hfree) I.ok.glob (I.mod.glob.keeps I.bk) hcode (TB.code.keeps I.bk) hP' ht hc TB.gP bP fun c' ctv doc h' tk hx hge hlt hrec htb => ?_
    obtain ⟨c2, oc, vs, t, e2, hoc, hd, hv⟩ := hrec
    cases e2
    have nC : H c' = none := I.hok.fresh hge
    have I1 := inv_table (t' := tk) (more := #[rawInt pos.line, rawInt pos.col, .ref c']) (h' := h') I hP (fun b o hb e => hx b o hb e) htb hge ⟨oc, vs, t, hoc, hd, hv⟩
    generalize hH2 : upd (upd H P (.tbl (ps ++ #[rawInt pos.line, rawInt pos.col, .ref c']))) c' (CodeO c' (X.env.qual ++ "<lambda>")) = H2 at I1
    have hE : ExtN H H2 := fun b o e n => by
      rw [← hH2, upd_ne (ne_of_none e nC), upd_ne (fun z => n ps (Option.some.inj (e.symm.trans (by rw [z]; exact hP))))]
      exact e
    have hC : H2 c' = some (CodeO c' (X.env.qual ++ "<lambda>")) := by rw [← hH2]; exact upd_same
    have hPt : H2 P = some (.tbl (ps ++ #[rawInt pos.line, rawInt pos.col, .ref c'])) := by rw [← hH2, upd_ne (ne_of_none hP nC), upd_same]
    have other : ∀ b ps', b ≠ P → H b = some (.tbl ps') → H2 b = some (.tbl ps') := fun b ps' hb e => by rw [← hH2, upd_ne (ne_of_none e nC), upd_ne hb]; exact e
    have eL : (ps ++ #[rawInt pos.line, rawInt pos.col, .ref c']).toList = ps.toList ++ [rawInt pos.line, rawInt pos.col, .ref c'] := by simp
    refine last I1 hE (fun p hp => ?_) (Nat.le_trans hge (Nat.le_of_lt hlt)) hC
    by_cases hb : p.1 = P
    · rw [hu p hp hb, hb]
      refine ⟨_, hPt, by rw [eL]; exact PySem.TriplesOk_snoc _ _ _ _ ht, fun p' cv hcv => ?_⟩
      rw [eL] at hcv
      rcases among_app _ ht hcv with z | z
      · obtain ⟨c0, e1, e2⟩ := ha p' cv z
        exact ⟨c0, e1, hE _ _ e2 codeO_ne⟩
      · exact ⟨c', z, hC⟩
    · obtain ⟨ps', a1, a2, a3⟩ := hT p hp
      refine ⟨ps', other _ _ hb a1, a2, fun p' cv hcv => ?_⟩
      obtain ⟨c0, e1, e2⟩ := a3 p' cv hcv
      exact ⟨c0, e1, hE _ _ e2 codeO_ne⟩
  | some cv =>
    obtain ⟨c', e, hco⟩ := ha pos cv hc
    subst e
    refine PySem.W.kdv_makeTailHit (mg := X.mg) (c := c) (P := P) (ps := ps) (closure_ok hfree) I.ok.glob (I.mod.glob.keeps I.bk) hcode (TB.code.keeps I.bk) hP' ht hc bP fun ctv doc h' tk hx hsz => ?_
    exact last (I.kept hx) (ExtN.refl H) hT hsz hco
end
/-- lambda ..: .. -/
def tLamD (T : List (Addr × Str)) (F : LF) (dd : Option Int) : TE := fun _ H Q => Tabs T H ∧ ∀ (f c' : Addr) (dV : Value) (H1 : Hp), ExtN H H1 → Tabs T H1 → H f = none → LamAt H1 f F c' dV → DfAt H1 dV dd → H1 c' = some (CodeO c' F.qual) → Q (.ref f) H1
section
variable {X : Cx} {T : List (Addr × Str)} {c P : Addr} {params : Arguments} {body : Expr} {scope : Scope} {pos : Pos}
theorem pe_lam0 (TB : TabB X.base X.mg c P) (hcode : X.env.code = .ref c) (hm : (P, X.env.qual ++ "<lambda>") ∈ T) (hu : ∀ p ∈ T, p.1 = P → p.2 = X.env.qual ++ "<lambda>")
    (hfree : ∀ y ∈ scope.names, y.2 = .free → X.env.scope.names.lookup y.1 = some .cell ∨ X.env.scope.names.lookup y.1 = some .free) (hdef : defaultsOf params X.env = ([], [])) :
    PE X (.Lambda params body scope pos) (tLamD T ⟨X.env.qual ++ "<lambda>", params, body, scope, cloFrom X.env.cells scope.names []⟩ none) := by
  refine ⟨fun pins s σ H Q I ⟨hT, h⟩ => ?_⟩
  refine PySem.W.kla_eval hdef ?_
  rw [makeFunction_eq]
  simp only [List.zip_nil_right, List.filterMap_nil, List.isEmpty_nil, if_true, pure_bind]
  refine lam_tail I TB hcode hm hu hT (fun y hy e => (hfree y hy e).elim (fun z => I.ok.has _ (.inl z)) fun z => I.ok.has _ (.inr z)) fun f c' H1 s' I1 eN T1 hf hl hc => ?_
  exact ⟨.ref f, H1, I1, rfl, h f c' .none H1 eN T1 hf hl rfl hc⟩
theorem pe_lam1 {i : Int} {j : Nat} {pd : Pos} (TB : TabB X.base X.mg c P) (hcode : X.env.code = .ref c) (hm : (P, X.env.qual ++ "<lambda>") ∈ T) (hu : ∀ p ∈ T, p.1 = P → p.2 = X.env.qual ++ "<lambda>")
    (hfree : ∀ y ∈ scope.names, y.2 = .free → X.env.scope.names.lookup y.1 = some .cell ∨ X.env.scope.names.lookup y.1 = some .free) (hdef : defaultsOf params X.env = ([eval (.Constant (.int i) j pd) X.env], [])) :
    PE X (.Lambda params body scope pos) (tLamD T ⟨X.env.qual ++ "<lambda>", params, body, scope, cloFrom X.env.cells scope.names []⟩ (some i)) := by
  refine ⟨fun pins s σ H Q I ⟨hT, h⟩ => ?_⟩
  rw [arm_eval_Lambda, hdef]
  dsimp only
  refine wpAny_bind (wpAny_evalAll_cons (thn ((pe_int (X := X)).run pins s σ H (fun v H1 => v = .int i ∧ H1 = H) I ⟨rfl, rfl⟩) fun u s1 ⟨v, H1, I1, rv, ev, eH⟩ => wpAny_evalAll_nil ?_))
  subst ev eH
  refine wpAny_bind (wpAny_holding (wpAny_pure ?_))
  rw [makeFunction_eq]
  simp only [List.zip_nil_right, List.filterMap_nil, List.isEmpty_nil, List.isEmpty_cons, Bool.false_eq_true, if_false, if_true, pure_bind]
  refine wpAny_bind (wpAny_newTextTuple ?_)
  have hn := I1.hok.fresh (Nat.le_refl s1.heap.objs.size)
  have I2 := I1.laid (a := s1.heap.objs.size) (o := .tup [.int i]) (t' := s1.toks) (h' := s1.heap.push { cls := .type "tuple", data := .seq #[u] }) (fun _ _ e => Heap.get?_push_of_some _ e) (Nat.le_refl _) ⟨show 1 ≤ sizeLine from by decide +kernel, [u], .cons rv .nil, ⟨_, Heap.get?_push_size _ rfl, rfl, _, rfl⟩⟩
  generalize s1.heap.objs.size = t at hn I2 ⊢
  have ext : ∀ b o, H1 b = some o → upd H1 t (.tup [.int i]) b = some o := fun b o e => (upd_ne (ne_of_none e hn)).trans e
  refine lam_tail I2 TB hcode hm hu (hT.ext ext) (fun y hy e => (hfree y hy e).elim (fun z => I1.ok.has _ (.inl z)) fun z => I1.ok.has _ (.inr z)) fun f c' H2 s' I3 eN T1 hf hl hc => ?_
  refine ⟨.ref f, H2, I3, rfl, h f c' (.ref t) H2 (fun b o e n => eN b o (ext b o e) n) T1 ?_ hl ⟨t, rfl, eN _ _ upd_same (fun ps z => by cases z)⟩ hc⟩
  exact NdefX.upd_none hf
end
end FwLam
set_option Elab.async false
set_option linter.all false
set_option maxRecDepth 100000
set_option maxHeartbeats 2000000
namespace FwLam
open PySem PySem.Spec PyProof.Rows L2 LamX
/-! ### cells that are known for a while -/
def remC (cs : List Addr) (H : Hp) : Hp := fun b => if b ∈ cs then none else H b
def addC (cs : List Addr) (H0 H : Hp) : Hp := fun b => if b ∈ cs then H0 b else H b
theorem rem_in {cs : List Addr} {H : Hp} {b : Addr} (h : b ∈ cs) : remC cs H b = none := if_pos h
theorem rem_out {cs : List Addr} {H : Hp} {b : Addr} (h : b ∉ cs) : remC cs H b = H b := if_neg h
theorem add_in {cs : List Addr} {H0 H : Hp} {b : Addr} (h : b ∈ cs) : addC cs H0 H b = H0 b := if_pos h
theorem add_out {cs : List Addr} {H0 H : Hp} {b : Addr} (h : b ∉ cs) : addC cs H0 H b = H b := if_neg h
/-- each is known to the object -/
def Known (cs : List Addr) (H : Hp) : Prop := ∀ c ∈ cs, ∃ o, H c = some (.frz o tt)
section
variable {P : Program} {w : World} {K : PySem.W.Frag} {mg : Str → Option Value} {base : Heap} {A : Around} {outer : List Env} {s : Shared} {H H' : Hp} {cs : List Addr} {fs : List Addr} {h h' : Heap}
theorem hok_rem (kn : Known cs H) (ok : HOk P w H h) : HOk P w (remC cs H) h := fun b u e => by
  by_cases hb : b ∈ cs
  · rw [rem_in hb] at e
    cases e
  · rw [rem_out hb] at e
    refine (ok b u e).stay (fun _ _ _ q => q) (fun c q => ?_) fun c xs q => ?_
    · rw [rem_out fun hc => ?_]
      · exact q
      · obtain ⟨o, z⟩ := kn c hc
        rw [z] at q
        cases q
    · rw [rem_out fun hc => ?_]
      · exact q
      · obtain ⟨o, z⟩ := kn c hc
        rw [z] at q
        cases q
theorem env0_rem (kn : Known cs H) (e0 : Env0 P w K mg base A outer s H) : Env0 P w K mg base A outer s (remC cs H) :=
  ⟨e0.frames, e0.mod, fun b o e => ⟨(e0.bs b o e).1, by by_cases hb : b ∈ cs <;> first | exact rem_in hb | exact (rem_out hb).trans (e0.bs b o e).2⟩, e0.bsz, e0.funs, fun b hb => by by_cases hc : b ∈ cs <;> first | exact rem_in hc | exact (rem_out hc).trans (e0.frf b hb), hok_rem kn e0.hok, e0.bare⟩
/-- what becomes of them where they were not told of: they stand as they stood -/
structure Back (cs : List Addr) (H H' : Hp) (h h' : Heap) : Prop where
  none : ∀ c ∈ cs, H' c = none
  stay : ∀ c ∈ cs, ∀ o, h.get? c = some o → h'.get? c = some o
theorem back_of (kn : Known cs H) (ok : HOk P w H h) (nf : ∀ c ∈ cs, c ∉ fs) (un : Un fs [] (remC cs H) H' h h') : Back cs H H' h h' :=
  ⟨fun c hc => by
    obtain ⟨o, e⟩ := kn c hc
    exact un.free c o (ok c _ e).1 (rem_in hc) (by simp), fun c hc o e => un.keep c o e (rem_in hc) (nf c hc) (by simp)⟩
theorem hok_add (kn : Known cs H) (ok : HOk P w H h) (bk : Back cs H H' h h') (ok' : HOk P w H' h') : HOk P w (addC cs H H') h' := fun b u e => by
  by_cases hb : b ∈ cs
  · rw [add_in hb] at e
    obtain ⟨o, z⟩ := kn b hb
    rw [z] at e
    cases e
    exact tt_ok (bk.stay b hb o (ok b _ z).1)
  · rw [add_out hb] at e
    have nc : ∀ c v, H' c = some v → c ∉ cs := fun c v q hc => by
      rw [bk.none c hc] at q
      cases q
    exact (ok' b u e).stay (fun _ _ _ q => q) (fun c q => by rw [add_out (nc c _ q)]; exact q) fun c xs q => by rw [add_out (nc c _ q)]; exact q
theorem un_add (kn : Known cs H) (un : Un fs [] (remC cs H) H' h h') : Un fs [] H (addC cs H H') h h' := by
  have nc : ∀ {b}, H b = none → b ∉ cs := fun {b} n hc => by
    obtain ⟨o, z⟩ := kn b hc
    rw [n] at z
    cases z
  have nt : ∀ {b u}, H b = some u → (∀ o, u ≠ .frz o tt) → b ∉ cs := fun {b u} e n hc => by
    obtain ⟨o, z⟩ := kn b hc
    rw [e] at z
    exact n o (Option.some.inj z)
  refine ⟨fun b o e n hf hx => un.keep b o e ((rem_out (nc n)).trans n) hf hx, fun b o e n hf hx => un.slot b o e ((rem_out (nc n)).trans n) hf hx, fun b o e n hx => ?_, un.there, fun b xs e => ?_, fun b o u e => ?_, fun b ps e => ?_⟩
  · rw [add_out (nc n)]
    exact un.free b o e ((rem_out (nc n)).trans n) hx
  · have hb := nt e (fun o z => by cases z)
    rw [add_out hb]
    exact un.tups b xs ((rem_out hb).trans e)
  · by_cases hb : b ∈ cs
    · rw [add_in hb]
      exact e
    · rw [add_out hb]
      exact un.frzs b o u ((rem_out hb).trans e)
  · have hb := nt e (fun o z => by cases z)
    obtain ⟨more, z⟩ := un.tbls b ps ((rem_out hb).trans e)
    exact ⟨more, (add_out hb).trans z⟩
theorem cr_add {Q : VK} {E : XK} {r : Result} {s' : Shared} (kn : Known cs H) (e0 : Env0 P w K mg base A outer s H) (h : CR (L2.CX P w) outer P w (remC cs H) s (fun v H' => (∀ c ∈ cs, H' c = none) → Q v (addC cs H H')) (fun c d H' => (∀ c ∈ cs, H' c = none) → E c d (addC cs H H')) r s') :
    CR (L2.CX P w) outer P w H s Q E r s' := by
  have nf : ∀ c ∈ cs, c ∉ frs outer := fun c hc hf => by
    obtain ⟨o, z⟩ := kn c hc
    rw [e0.frf c hf] at z
    cases z
  cases r with
  | error e =>
    obtain ⟨a, B, H', cls, d, ea, fl, hok, ub, na, os, ag, he⟩ := h
    have bk : Back cs H H' s.heap B := ⟨fun c hc => by
      obtain ⟨o, z⟩ := kn c hc
      exact ub.free c o (e0.hok c _ z).1 (rem_in hc), fun c hc o q => ub.keep c o q (rem_in hc) (nf c hc)⟩
    have nc : ∀ {b}, H b = none → b ∉ cs := fun {b} n hc => by
      obtain ⟨o, z⟩ := kn b hc
      rw [n] at z
      cases z
    have nt : ∀ {b u}, H b = some u → (∀ o, u ≠ .frz o tt) → b ∉ cs := fun {b u} e n hc => by
      obtain ⟨o, z⟩ := kn b hc
      rw [e] at z
      exact n o (Option.some.inj z)
    have hac : a ∉ cs := fun hc => by
      obtain ⟨o, z⟩ := kn a hc
      have q := bk.stay a hc o (e0.hok a _ z).1
      rw [fl.2.1] at q
      cases q
    refine ⟨a, B, addC cs H H', cls, d, ea, fl, hok_add kn e0.hok bk hok, ⟨fun b o q n hf => ub.keep b o q ((rem_out (nc n)).trans n) hf, ub.slot, fun b o q n => ?_, ub.there, fun b xs q => ?_, fun b o u q => ?_, fun b ps q => ?_⟩, (add_out hac).trans na, os, ag, he bk.none⟩
    · rw [add_out (nc n)]
      exact ub.free b o q ((rem_out (nc n)).trans n)
    · have hb := nt q (fun o z => by cases z)
      rw [add_out hb]
      exact ub.tups b xs ((rem_out hb).trans q)
    · by_cases hb : b ∈ cs
      · rw [add_in hb]
        exact q
      · rw [add_out hb]
        exact ub.frzs b o u ((rem_out hb).trans q)
    · have hb := nt q (fun o z => by cases z)
      obtain ⟨more, z⟩ := ub.tbls b ps ((rem_out hb).trans q)
      exact ⟨more, (add_out hb).trans z⟩
  | ok fl =>
    cases fl with
    | ret u =>
      obtain ⟨v, H', os, bare, un, hok, r, q⟩ := h
      have bk := back_of kn e0.hok nf un
      exact ⟨v, _, os, bare, un_add kn un, hok_add kn e0.hok bk hok, r, q bk.none⟩
    | next => exact False.elim h
    | brk => exact False.elim h
    | cont => exact False.elim h
end
/-! ### the call -/
/-- what may be asked: it is called without arguments -/
def AskOk (P : Program) (w : World) (K : PySem.W.Frag) (mg : Str → Option Value) (base : Heap) (CX : CXT) (k : Nat) (f : Addr) (sp : Hp → VK → XK → Prop) : Prop :=
  ∀ (A : Around) (outer : List Env) (s : Shared) (H : Hp) (Q : VK) (E : XK), Room k A → Env0 P w K mg base A outer s H → sp H Q E → codeAny (model P w) A (.call (.ref f) ⟨[], []⟩) (CR CX outer P w H s Q E) s
/-- its cells: known, each with its value -/
def CellsK (H : Hp) (cl : List (Str × Addr)) (fr : List Str) (ws : List V) : Prop := ws.length = fr.length ∧ (∀ x y c, cl.lookup x = some c → cl.lookup y = some c → x = y) ∧ (∀ y c, cl.lookup y = some c → ∃ o v, H c = some (.frz o tt) ∧ o.data = .cell v) ∧
  ∀ (i : Nat) (y : Str), fr[i]? = some y → ∃ c, cl.lookup y = some c ∧ ∀ v, ws[i]? = some v → ∃ o u, H c = some (.frz o tt) ∧ o.data = .cell (some u) ∧ RelV v u
abbrev nfOf (F : LF) (c : Addr) : NdefX.NF := ⟨"<lambda>", F.qual, F.params, [], F.scope, F.cl, c⟩
def spAsk (F : LF) (c : Addr) (dV : Value) (dd : Option Int) (f : Addr) (ps fr : List Str) (vs : List V) (N : List Str) (tb : XK → TE) : Hp → VK → XK → Prop := fun H Q E => ∃ ws : List V,
  LamAt H f F c dV ∧ DfAt H dV dd ∧ H c = some (CodeO c F.qual) ∧ CellsK H F.cl fr ws ∧
  tb (fun cl d H' => (∀ c ∈ F.cl.map (·.2), H' c = none) → E cl d (addC (F.cl.map (·.2)) H H')) (NdefX.startF N vs (ws.map some)) (remC (F.cl.map (·.2)) H) (fun v H' => (∀ c ∈ F.cl.map (·.2), H' c = none) → Q v (addC (F.cl.map (·.2)) H H'))
section
variable {P : Program} {w : World} {K : PySem.W.Frag} {mg : Str → Option Value} {base : Heap} {k : Nat} {f c : Addr} {F : LF} {dV : Value} {dd : Option Int} {ps fr N : List Str} {vs : List V} {tb : XK → TE}
theorem ask_of (S : NdefX.NScope N ps fr F.scope) (hcl : ∀ p ∈ F.cl, ∃ y, F.cl.lookup y = some p.2)
    (hb : ∀ (s : Shared) (H : Hp) (doc pm ctv : Value), HOk P w H s.heap → DfAt H dV dd → ∃ us, Vals vs us ∧ BindsTo s (PySem.W.kdv_fn "<lambda>" F.qual F.params (.expr F.body) F.scope F.cl dV doc pm (.ref c) ctv) ⟨[], []⟩ (ps.zip us)) (hvs : vs.length = ps.length)
    (hbody : ∀ (A : Around) (outer : List Env) (s : Shared) (H : Hp) (E : XK), Room k (A.deeper (NdefX.envF (nfOf F c) f s.heap.objs.size)) → PE (NdefX.ncx (L2.CX P w) P w K mg base N (nfOf F c) f A outer s H E) F.body (tb E)) :
    AskOk P w K mg base (L2.CX P w) (k + 1) f (spAsk F c dV dd f ps fr vs N tb) := by
  intro A outer s H Q E hr e0 ⟨ws, ⟨doc, pm, ctv, hf⟩, hd, hc, ck, ht⟩
  obtain ⟨cl1, cl2, cl3, cl4⟩ := ck
  obtain ⟨us, r, hbind⟩ := hb s H doc pm ctv e0.hok hd
  have kn : Known (F.cl.map (·.2)) H := fun a ha => by
    obtain ⟨p, hp, rfl⟩ := List.mem_map.mp ha
    obtain ⟨y, hy⟩ := hcl p hp
    obtain ⟨o, v, e, _⟩ := cl3 y _ hy
    exact ⟨o, e⟩
  have mem : ∀ {y a}, F.cl.lookup y = some a → a ∈ F.cl.map (·.2) := fun {y a} e => List.mem_map.mpr ⟨(y, a), PySem.mem_of_lookup e, rfl⟩
  refine codeAny_mono (R := CR (L2.CX P w) outer P w (remC (F.cl.map (·.2)) H) s _ _) ?_ fun r s' hq => cr_add kn e0 hq
  have e1 := env0_rem kn e0
  have lim : s.heap.NoLimit := e0.mod.nolimit.keeps fun b o e => (e0.bs b o e).1
  have rec_ : s.heap.CodeRec (.ref c) F.qual := by
    obtain ⟨⟨oc, cs, t, h1, h2, h3⟩, _, _⟩ := e0.hok c _ hc
    exact ⟨c, oc, cs, t, rfl, h1, h2, h3⟩
  refine PySem.W.kla_callFunE hr.depth (e0.hok f _ hf).1 rfl S.co S.gen rfl rec_ (hbind _ _ _ _ ?_)
  refine wpAny_newFunctionEnv S.nocell (fun ⟨n, _⟩ hy => S.par n (List.of_mem_zip hy).1) (fun h₁ hns hsb => ⟨lim.fresh _ hsb, ?_⟩) S.kind
  change codeAny _ _ (.expr F.body (NdefX.envF (nfOf F c) f s.heap.objs.size)) _ _
  have kp : ∀ b o, s.heap.get? b = some o → h₁.get? b = some o := fun b o e => hsb.extBut b o (Nat.ne_of_lt (Heap.lt_size e)) (Heap.get?_push_of_some _ e)
  have C : NdefX.CellsAt (nfOf F c).cl fr (ws.map some) s.heap (remC (F.cl.map (·.2)) H) := by
    refine ⟨(List.length_map _).trans cl1, fun y a e => ⟨rem_in (mem e), ?_⟩, cl2, fun i y e => ?_⟩
    · obtain ⟨o, v, q, z⟩ := cl3 y a e
      exact ⟨v, o, (e0.hok a _ q).1, z⟩
    · obtain ⟨a, q, z⟩ := cl4 i y e
      refine ⟨a, q, fun v hv => ?_⟩
      rw [List.getElem?_map] at hv
      cases hw : ws[i]? with
      | none => rw [hw] at hv; cases hv
      | some v0 =>
        rw [hw] at hv
        cases hv
        obtain ⟨o, u, q1, q2, q3⟩ := z v hw
        exact ⟨u, q3, o, (e0.hok a _ q1).1, q2⟩
  have I := NdefX.inv_startN (CX := L2.CX P w) (w := w) (mg := mg) (F := nfOf F c) (f := f) (E := fun cl d H' => (∀ c ∈ F.cl.map (·.2), H' c = none) → E cl d (addC (F.cl.map (·.2)) H H')) (tk := s.toks + (ps.zip us).length) S hr.hd e1 hvs r C hns kp
  refine PySem.W.kla_codeExpr (wpAny_mono ((hbody A outer s _ _ (hr.deeper _)).run [] _ _ _ _ I ht) (fun v s' hq => ?_) fun e s' hq => hq)
  obtain ⟨w', H', J', rv, q⟩ := hq
  exact ⟨w', H', J'.os, J'.bare, J'.base, J'.hok, rv, q⟩
end
/-- x(), x a name that holds what may be asked -/
def tAsk (AO : Addr → (Hp → VK → XK → Prop) → Prop) (i : Nat) (E : XK) : TE := fun σ H Q => ∃ (f : Addr) (sp : Hp → VK → XK → Prop), σ[i]? = some (some (.ref f)) ∧ (∃ oc od fd sl, H f = some (.frz ⟨oc, od, .func fd, sl⟩ tt)) ∧ AO f sp ∧ sp H Q E
section
variable {X : Cx} {CX : CXT} {i j k : Nat} {x : Str} {E : XK} {p pos : Pos}
theorem pe_ask (hr : Room j X.A) (hk : k ≤ j) (hx : Passes CX X E) (hN : X.N[i]? = some x) (hv : Vis X.env.scope x) (hd : (x == ("__debug__" : Str)) = false := by decide) (hcd : (x == ("__classdict__" : Str)) = false := by decide) :
    PE X (.Call (.Name x p) [] [] pos) (tAsk (AskOk X.prog X.w X.K X.mg X.base CX k) i E) := by
  refine ⟨fun pins s σ H Q I ⟨f, sp, hs, ⟨oc, od, fd, sl, hf⟩, ao, hq⟩ => ?_⟩
  refine wpAny_Call_Name_kw (thn ((pe_var (pos := p) hN hv hd hcd).run pins s σ H (fun v H1 => v = .ref f ∧ H1 = H) I ⟨.ref f, hs, rfl, rfl⟩) fun u s1 ⟨v, H1, I1, r1, ev, eH⟩ => ?_)
  subst ev eH
  obtain rfl : u = Value.ref f := r1
  refine PySem.W.callWith_F0 (first := []) ⟨_, _, _, _, (I1.hok f _ hf).1⟩ ?_
  refine wpAny_call (codeAny_mono (ao X.A X.stack s1 H1 Q E (hr.mono hk) I1.env0 hq) fun r s' hq => ?_)
  cases r with
  | error e => exact hx pins σ _ s1 e s' I1 hq
  | ok fl =>
    cases fl with
    | ret u => exact I1.after hq
    | next => exact False.elim hq
    | brk => exact False.elim hq
    | cont => exact False.elim hq
end
end FwLam
set_option Elab.async false
set_option linter.all false
set_option maxRecDepth 100000
set_option maxHeartbeats 2000000
namespace FwLam
open PySem PySem.Spec PyProof.Rows L2 LamX
/-! ### a call to which own cells are lent -/
def lendH (cs : List Addr) (h : Heap) (H : Hp) : Hp := fun b => if b ∈ cs then (h.get? b).map (fun o => .frz o tt) else H b
theorem lend_in {cs : List Addr} {h : Heap} {H : Hp} {b : Addr} {o : Obj} (hb : b ∈ cs) (e : h.get? b = some o) : lendH cs h H b = some (.frz o tt) := by
  show (if b ∈ cs then _ else _) = _
  rw [if_pos hb, e]
  rfl
theorem lend_out {cs : List Addr} {h : Heap} {H : Hp} {b : Addr} (hb : b ∉ cs) : lendH cs h H b = H b := if_neg hb
section
variable {X : Cx} {pins : List (Addr × Obj)} {σ : L2.St} {H : Hp} {s : Shared}
theorem hok_lend {P : Program} {w : World} {H : Hp} {h : Heap} {cs : List Addr} (fr : ∀ c ∈ cs, H c = none) (ok : HOk P w H h) : HOk P w (lendH cs h H) h := fun b u e => by
  by_cases hb : b ∈ cs
  · cases q : h.get? b with
    | none =>
      have : lendH cs h H b = none := by
        show (if b ∈ cs then _ else _) = _
        rw [if_pos hb, q]
        rfl
      rw [this] at e
      cases e
    | some o =>
      rw [lend_in hb q] at e
      cases e
      exact tt_ok q
  · rw [lend_out hb] at e
    have nc : ∀ c v, H c = some v → c ∉ cs := fun c v q hc => by
      rw [fr c hc] at q
      cases q
    exact (ok b u e).stay (fun _ _ _ q => q) (fun c q => by rw [lend_out (nc c _ q)]; exact q) fun c xs q => by rw [lend_out (nc c _ q)]; exact q
/-- the cells of these names -/
def csOf (X : Cx) (ys : List Str) : List Addr := ys.filterMap fun y => X.env.cells.lookup y
theorem cs_mem {ys : List Str} {c : Addr} (h : c ∈ csOf X ys) : ∃ y ∈ ys, X.env.cells.lookup y = some c := List.mem_filterMap.mp h
/-- what the callee is lent -/
structure Lent (X : Cx) (ys : List Str) (σ : L2.St) (H Hp' : Hp) (cs : List Addr) : Prop where
  out : ∀ b, b ∉ cs → Hp' b = H b
  fr : ∀ c ∈ cs, H c = none
  at_ : ∀ c ∈ cs, ∃ y ∈ ys, X.env.cells.lookup y = some c
  kn : ∀ y c, y ∈ ys → X.env.cells.lookup y = some c → c ∈ cs ∧ ∃ o v, Hp' c = some (.frz o tt) ∧ o.data = .cell v
  val : ∀ (y : Str) (i : Nat) (v : V), y ∈ ys → X.N[i]? = some y → σ[i]? = some (some v) → ∃ c, X.env.cells.lookup y = some c ∧ ∃ o u, Hp' c = some (.frz o tt) ∧ o.data = .cell (some u) ∧ RelV v u
theorem Lent.known {ys : List Str} {H H' : Hp} {cs : List Addr} (L : Lent X ys σ H H' cs) : Known cs H' := fun c hc => by
  obtain ⟨y, hy, e⟩ := L.at_ c hc
  obtain ⟨_, o, v, q, _⟩ := L.kn y c hy e
  exact ⟨o, q⟩
theorem lent_of {ys : List Str} (I : Inv X pins σ H s) (hk : ∀ y ∈ ys, X.env.scope.names.lookup y = some .cell) : Lent X ys σ H (lendH (csOf X ys) s.heap H) (csOf X ys) := by
  have mem : ∀ {y c}, y ∈ ys → X.env.cells.lookup y = some c → c ∈ csOf X ys := fun {y c} hy e => List.mem_filterMap.mpr ⟨y, hy, e⟩
  refine ⟨fun b hb => lend_out hb, fun c hc => ?_, fun c hc => cs_mem hc, fun y c hy e => ⟨mem hy e, ?_⟩, fun y i v hy hN hs => ?_⟩
  · obtain ⟨y, _, e⟩ := cs_mem hc
    exact I.freeC y c e
  · obtain ⟨v, o, q, hd⟩ := I.cell y c e
    exact ⟨o, v, lend_in (mem hy e) q, hd⟩
  · obtain ⟨m, _, hl⟩ := I.loc
    obtain ⟨u, r, l⟩ := hl i y v hN hs (.inr (.inl (hk y hy)))
    rcases l with ⟨z, _⟩ | ⟨_, c, e, o, q, hd⟩
    · have : X.env.scope.names.lookup y = some .local := z
      rw [hk y hy] at this
      cases this
    · exact ⟨c, e, o, u, lend_in (mem hy e) q, hd, r⟩
theorem env0_lend {ys : List Str} (I : Inv X pins σ H s) (hfn : ∀ y ∈ ys, X.fn y = true) : Env0 X.prog X.w X.K X.mg X.base X.A X.stack s (lendH (csOf X ys) s.heap H) := by
  have e0 := I.env0
  have above : ∀ c ∈ csOf X ys, X.s_0.heap.objs.size ≤ c := fun c hc => by
    obtain ⟨y, hy, e⟩ := cs_mem hc
    exact I.ok.cab y c (hfn y hy) e
  refine ⟨e0.frames, e0.mod, fun b o e => ⟨(e0.bs b o e).1, ?_⟩, e0.bsz, e0.funs, fun b hb => ?_, hok_lend (fun c hc => ?_) e0.hok, e0.bare⟩
  · rw [lend_out fun hc => ?_]
    · exact (e0.bs b o e).2
    · exact absurd (Nat.lt_of_lt_of_le (Heap.lt_size e) (Nat.le_trans I.ok.bsz (above b hc))) (Nat.lt_irrefl _)
  · rw [lend_out fun hc => ?_]
    · exact e0.frf b hb
    · rcases List.mem_cons.mp (I.stkSub b hb) with z | z
      · obtain ⟨y, _, e⟩ := cs_mem hc
        exact I.cne y b e z
      · obtain ⟨_, o, ho, _⟩ := I.ok.funs.mem z
        exact absurd (Nat.lt_of_lt_of_le (Heap.lt_size ho) (above b hc)) (Nat.lt_irrefl _)
  · obtain ⟨y, _, e⟩ := cs_mem hc
    exact I.freeC y c e
theorem un_lend {fs cs : List Addr} {H Hp' H' : Hp} {h h' : Heap} {P : Program} {w : World} (ho : ∀ b, b ∉ cs → Hp' b = H b) (fr : ∀ c ∈ cs, H c = none) (kn : Known cs Hp') (nf : ∀ c ∈ cs, c ∉ fs) (ok : HOk P w Hp' h) (ok' : HOk P w H' h') (un : Un fs [] Hp' H' h h') : Un fs [] H (remC cs H') h h' := by
  have nt : ∀ {b u}, H b = some u → b ∉ cs := fun {b u} e hc => by
    rw [fr b hc] at e
    cases e
  have inn : ∀ {b o}, b ∈ cs → h.get? b = some o → h'.get? b = some o := fun {b o} hb e => by
    obtain ⟨o', z⟩ := kn b hb
    have e1 := (ok b _ z).1
    rw [e] at e1
    cases e1
    exact (ok' b _ (un.frzs b o tt z)).1
  refine ⟨fun b o e n hf hx => ?_, fun b o e n hf hx => ?_, fun b o e n hx => ?_, un.there, fun b xs e => ?_, fun b o u e => ?_, fun b ps e => ?_⟩
  · by_cases hb : b ∈ cs
    · exact inn hb e
    · exact un.keep b o e ((ho b hb).trans n) hf hx
  · by_cases hb : b ∈ cs
    · exact absurd hf (nf b hb)
    · exact un.slot b o e ((ho b hb).trans n) hf hx
  · by_cases hb : b ∈ cs
    · exact rem_in hb
    · rw [rem_out hb]
      exact un.free b o e ((ho b hb).trans n) hx
  · rw [rem_out (nt e)]
    exact un.tups b xs ((ho b (nt e)).trans e)
  · rw [rem_out (nt e)]
    exact un.frzs b o u ((ho b (nt e)).trans e)
  · rw [rem_out (nt e)]
    exact un.tbls b ps ((ho b (nt e)).trans e)
/-- f(..), the cells of ys lent; nothing is raised -/
def tLend (X : Cx) (ys : List Str) (sp : Sp) (t : TA) : TE := fun σ H Q => t σ H fun vs H1 => ∀ Hp' cs, Lent X ys σ H1 Hp' cs → sp vs Hp' (fun v H' => Known cs H' → Q v (remC cs H')) (fun _ _ _ => False)
theorem pe_lend {k : Nat} {f : Addr} {fd : FuncData} {ps ys : List Str} {sp : Sp} {x : Str} {p pos : Pos} {e : Expr} {es : List Expr} {t : TA} (F : FnOk X.prog X.w X.K X.mg X.base (fun _ _ _ _ _ _ => False) k f fd ps sp) (hr : Room k X.A) (hg : Gl X x) (hm : X.mg x = some (.ref f)) (hk : PySem.W.keepIn X.K (.ref f) = true) (hb : Binds X.K fd ps [])
    (hfn : ∀ y ∈ ys, X.fn y = true) (hcell : ∀ y ∈ ys, X.env.scope.names.lookup y = some .cell)
    (ha : PA X (e :: es) t) (hdb : (x == ("__debug__" : Str)) = false := by decide) (he : starEach (e :: es) X.env = (false, eval e X.env) :: starEach es X.env := by rfl) (hpl : (backTo pos (starEach es X.env)).any (·.1) = false := by rfl) :
    PE X (.Call (.Name x p) (e :: es) [] pos) (tLend X ys sp t) := by
  refine ⟨fun pins s σ H Q I h => ?_⟩
  refine wpAny_Call_Name_kw (ld_glob I hg hm ?_ hdb)
  refine PySem.W.callWith_K (h₀ := X.base) I.ok.mod.kin hk (thn (ha.run pos pins s σ H _ I h) fun us s1 ⟨vs, H1, I1, r, q⟩ => ⟨I1.kIn, ?_⟩) he hpl
  have L := lent_of I1 hcell
  have q1 := q _ _ L
  have hl : us.length = ps.length := by rw [← r.length]; exact F.len _ _ _ _ q1
  have e1 := env0_lend I1 hfn
  have hb1 := hb s1 us I1.kIn (by rw [List.append_nil]; exact hl)
  rw [List.append_nil] at hb1
  refine wpAny_call (codeAny_mono (F.run X.A X.stack s1 _ ⟨us, []⟩ us vs _ _ hr e1 hb1 r q1) fun r s' hq => ?_)
  cases r with
  | error e => exact False.elim hq
  | ok fl =>
    cases fl with
    | ret u =>
      obtain ⟨v, H', os, bare, un, hok, rv, q2⟩ := hq
      have nf : ∀ c ∈ csOf X ys, c ∉ frs X.stack := fun c hc hf => by
        obtain ⟨o, z⟩ := L.known c hc
        rw [e1.frf c hf] at z
        cases z
      have kn' : Known (csOf X ys) H' := fun c hc => by
        obtain ⟨o, z⟩ := L.known c hc
        exact ⟨o, un.frzs c o tt z⟩
      exact I1.after ⟨v, _, os, bare, un_lend L.out L.fr L.known nf e1.hok hok un, hok_rem kn' hok, rv, q2 kn'⟩
    | next => exact False.elim hq
    | brk => exact False.elim hq
    | cont => exact False.elim hq
end
end FwLam
set_option Elab.async false
set_option linter.all false
set_option maxRecDepth 100000
set_option maxHeartbeats 1000000
/-! facts of the top, read by a Hook -/
namespace FwHk
open PySem PySem.Spec PyProof.Rows L2 He He5
variable {K : PySem.W.Frag}
theorem bb {a b : Bool} (h : (a && b) = true) : a = true ∧ b = true := Bool.and_eq_true_iff.mp h
/-! ### an own exception class over ValueError, being made -/
def oexB0 (K : PySem.W.Frag) (C : Addr) : Bool := match K.lookup C with
  | some ⟨.type t, _, .cls cd, sl⟩ => t == "type" && (match cd.mro, sl.toList with
    | .ref C' :: bm, [_, _, _, _, some (.builtin n), _] => C' == C && (n == "ValueError.__new__" && (!cd.hasDel && (cd.hasDict && PySem.HandSPX.refsVE bm)))
    | _, _ => false)
  | _ => false
def oexB (K : PySem.W.Frag) (C : Addr) : Bool := oexB0 K C && (eqO (PySem.W.findIn K (.ref C) "__setattr__") (some (some (.builtin "object.__setattr__"))) && (decide (PySem.W.subIn K (.ref C) (.type "BaseException") = some true) && (decide (PySem.W.typeIn K (.ref C) = some (.type "type")) && PySem.W.keepIn K (.ref C))))
theorem oexB_ok {C : Addr} (h : oexB K C = true) : OexC K C := by
  obtain ⟨h0, h⟩ := bb h
  obtain ⟨h1, h⟩ := bb h
  obtain ⟨h2, h⟩ := bb h
  obtain ⟨h3, h4⟩ := bb h
  refine ⟨?_, eqO_ok h1, of_decide_eq_true h2, of_decide_eq_true h3, h4⟩
  unfold oexB0 at h0
  split at h0
  · rename_i t dd cd sl ho
    obtain ⟨ht, h0⟩ := bb h0
    have ht : t = "type" := by simpa using ht
    subst ht
    split at h0
    · rename_i C' bm k0 k1 k2 k3 n k5 hm hs
      simp only [Bool.and_eq_true, beq_iff_eq, Bool.not_eq_true'] at h0
      obtain ⟨_, rfl, rfl, hdel, hdct, hr⟩ := h0
      obtain ⟨nm, bs, mro, ns, qn, hd, sn, sub, ab, col, del⟩ := cd
      dsimp only at hm hdel hdct
      subst hm hdel hdct
      have hsl : sl = #[k0, k1, k2, k3, some (.builtin "ValueError.__new__"), k5] := by
        obtain ⟨l⟩ := sl
        simp only at hs
        rw [hs]
      subst hsl
      exact ⟨nm, qn, ns, bs, bm, sn, sub, ab, col, dd, k0, k1, k2, k3, k5, ho, hr⟩
    · cases h0
  · cases h0
/-! ### its __init__ with super() -/
abbrev SupV : Type := Option (Str × Str × Arguments × FuncBody × Scope × Addr × List Str × Addr)
def supV (K : PySem.W.Frag) (f : Addr) : SupV := match K.lookup f with
  | some ⟨_, _, .func fd, _⟩ => some (fd.name, fd.qualname, fd.params, fd.body, fd.scope, fd.globals, fd.closure.map (·.1), fd.builtins)
  | _ => none
def supB1 (K : PySem.W.Frag) (prog : Program) (C f : Addr) (qual : Str) : Bool := match K.lookup f with
  | some ⟨_, _, .func fd, _⟩ => (match fd.defaults, fd.kwdefaults, fd.annotations, fd.code, fd.closure with
    | .none, .none, none, .ref c, [(_, cc)] => PySem.W.codeIn K (.ref c) qual && ((match K.lookup c with
      | some ⟨_, _, .fields vs, _⟩ => (match (vs[2]? : Option Value) with
        | some (.str file _) => prog.main.file == file
        | _ => false)
      | _ => false) && (match K.lookup cc with
      | some ⟨_, _, .cell (some (.ref D)), _⟩ => D == C
      | _ => false))
    | _, _, _, _, _ => false)
  | _ => false
def supB (K : PySem.W.Frag) (prog : Program) (C f : Addr) (qual : Str) : Bool := supB1 K prog C f qual && (oexB K C && ((PySem.W.clsIn K C).isSome && (decide (PySem.W.mroIn K C (.ref C) = some true) && (eqO (PySem.W.ks_superIn K C C "__init__") (some (some (.builtin FwEx.veI))) &&
  (eqO (PySem.W.nsIn K cStatics "thirdparty.any") (some none) && (decide (PySem.W.subIn K (.ref C) (.type "ValueError") = some true) && eqO (PySem.W.findIn K (.ref C) "code") (some none)))))))
theorem supB_ok {prog : Program} {C f : Addr} {name qual : Str} {params : Arguments} {body : List Stmt} {scope : Scope} (e : supV K f = some (name, qual, params, .stmts body, scope, mainGlobals, [("__class__" : Str)], builtinsNs)) (h : supB K prog C f qual = true) :
    ∃ (fd : FuncData) (cc cda : Addr), FwEx.SupC K prog C f cc cda name qual params body scope fd := by
  obtain ⟨h0, h⟩ := bb h
  obtain ⟨h1, h⟩ := bb h
  obtain ⟨h2, h⟩ := bb h
  obtain ⟨h3, h⟩ := bb h
  obtain ⟨h4, h⟩ := bb h
  obtain ⟨h5, h⟩ := bb h
  obtain ⟨h6, h7⟩ := bb h
  unfold supV at e
  unfold supB1 at h0
  split at h0
  · rename_i oc od fd osl ho
    rw [ho] at e
    obtain ⟨n1, n2, n3, n4, n5, n6, n7, n8, n9, n10, n11, n12, n13, n14, n15⟩ := fd
    have e2 : (some (n1, n2, n3, n4, n5, n6, n7.map (·.1), n15) : SupV) = some (name, qual, params, .stmts body, scope, mainGlobals, [("__class__" : Str)], builtinsNs) := e
    simp only [Option.some.injEq, Prod.mk.injEq] at e2
    obtain ⟨q1, q2, q3, q4, q5, q6, q7, q8⟩ := e2
    subst q1 q2 q3 q4 q5 q6 q8
    split at h0
    · rename_i c y cc e8 e9 e12 e13 e7
      dsimp only at e8 e9 e12 e13 e7
      subst e8 e9 e12 e13 e7
      have hy : y = ("__class__" : Str) := by simpa using q7
      subst hy
      obtain ⟨k1, k⟩ := bb h0
      obtain ⟨k2, k3⟩ := bb k
      refine ⟨_, cc, c, ⟨⟨oc, od, _, _, _, osl, rfl, ho⟩, k1, ?_, ?_, oexB_ok h1, Option.isSome_iff_exists.mp h2, of_decide_eq_true h3, eqO_ok h4, eqO_ok h5, of_decide_eq_true h6, eqO_ok h7⟩⟩
      · split at k2
        · rename_i a1 a2 vs a3 hc
          split at k2
          · rename_i file tf hv
            exact ⟨a1, a2, vs, a3, file, tf, hc, hv, k2⟩
          · cases k2
        · cases k2
      · split at k3
        · rename_i a1 a2 D a3 hc
          have hD : D = C := by simpa using k3
          subst hD
          exact ⟨a1, a2, a3, hc⟩
        · cases k3
    · cases h0
  · cases h0
/-! ### a property -/
def propA (K : PySem.W.Frag) (C : Addr) (f : Str) : Addr := match PySem.W.findIn K (.ref C) f with
  | some (some (.ref p)) => p
  | _ => 0
def propG (K : PySem.W.Frag) (C : Addr) (f : Str) : Addr := match PySem.W.recIn K (propA K C f) "property" with
  | some (.ref g :: _) => g
  | _ => 0
def propB (K : PySem.W.Frag) (C : Addr) (f : Str) : Bool := eqO (PySem.W.findIn K (.ref C) f) (some (some (.ref (propA K C f)))) && (eqO (PySem.W.specialIn K (.ref (propA K C f)) "__get__") (some (some (.builtin "property.__get__"))) &&
  (decide (PySem.W.takesIn K (.ref (propA K C f)) = some true) && (match PySem.W.recIn K (propA K C f) "property" with
    | some (.ref _ :: _) => true
    | _ => false)))
theorem propB_ok {C : Addr} {f : Str} (h : propB K C f = true) : PropOf K C f (propA K C f) (propG K C f) := by
  obtain ⟨h1, h⟩ := bb h
  obtain ⟨h2, h⟩ := bb h
  obtain ⟨h3, h4⟩ := bb h
  refine ⟨eqO_ok h1, eqO_ok h2, of_decide_eq_true h3, ?_⟩
  unfold propG
  split at h4
  · rename_i g rest hr
    rw [hr]
    exact ⟨rest, rfl⟩
  · cases h4
/-! ### the Hook -/
structure SaysW (fa : List Fa) (fn : List DefA) (tf : List Defn) (sf : PySem.W.Frag → Addr) (sv : SupV) (ex : PySem.W.Frag → Bool) (h : Heap) (K : PySem.W.Frag) : Prop where
  a : SaysA fa fn K
  sup : supV K (sf K) = sv
  more : ex K = true
  hd : ∀ p ∈ tf, PySem.W.codeHdIn K (cT K p).1 (cT K p).2 = true
  out : ∀ p ∈ tf, K.lookup (cT K p).2 = none
  empty : ∀ p ∈ tf, h.get? (cT K p).2 = some { cls := .none, data := .fields #[] }
abbrev AlW : Type := (He.AlD × SupV) × Bool
def obsW (n : Nat) (fa : List Fa) (fn : List DefA) (tf : List Defn) (sf : PySem.W.Frag → Addr) (ex : PySem.W.Frag → Bool) (g : Addr → Option Obj) : AlW :=
  ((obsA fa fn (frT g (asA g n)), supV (frT g (asA g n)) (sf (frT g (asA g n)))), ex (frT g (asA g n)) && tabsB g tf (frT g (asA g n)))
theorem saysW_of {n : Nat} {fa : List Fa} {fn : List DefA} {tf : List Defn} {sf : PySem.W.Frag → Addr} {sv : SupV} {ex : PySem.W.Frag → Bool} {h : Heap} (e : obsW n fa fn tf sf ex h.get? = ((valA fn, sv), true)) : SaysW fa fn tf sf sv ex h (frT h.get? (asA h.get? n)) := by
  have e1 := congrArg (fun z : AlW => z.1.1) e
  have e2 := congrArg (fun z : AlW => z.1.2) e
  have e3 : (ex (frT h.get? (asA h.get? n)) && tabsB h.get? tf (frT h.get? (asA h.get? n))) = true := congrArg (fun z : AlW => z.2) e
  obtain ⟨h1, h2⟩ := bb e3
  have key : ∀ p ∈ tf, PySem.W.codeHdIn (frT h.get? (asA h.get? n)) (cT (frT h.get? (asA h.get? n)) p).1 (cT (frT h.get? (asA h.get? n)) p).2 = true ∧ ∃ o, h.get? (cT (frT h.get? (asA h.get? n)) p).2 = some o ∧ emptyTab o = true := fun p hp => by
    obtain ⟨h3, h4⟩ := bb (List.all_eq_true.mp h2 p hp)
    refine ⟨h3, ?_⟩
    split at h4
    · rename_i o q
      exact ⟨o, q, h4⟩
    · cases h4
  refine ⟨e1, e2, h1, fun p hp => (key p hp).1, fun p hp => ?_, fun p hp => ?_⟩
  · obtain ⟨_, o, q, z⟩ := key p hp
    exact frT_none q z
  · obtain ⟨_, o, q, z⟩ := key p hp
    rw [q, emptyTab_eq z]
def hookW (n : Nat) (fa : List Fa) (fn : List DefA) (tf : List Defn) (sf : PySem.W.Frag → Addr) (sv : SupV) (ex : PySem.W.Frag → Bool) : PySem.W.Hook where
  α := AlW
  obs := fun s => obsW n fa fn tf sf ex s.heap.get?
  val := fun _ => ((valA fn, sv), true)
  says := fun _ h => ∃ K : PySem.W.Frag, K.In h ∧ SaysW fa fn tf sf sv ex h K
  of := fun _ _ e => ⟨_, frT_in, saysW_of e⟩
  keeps := fun _ _ _ ⟨K, hK, c⟩ k => ⟨K, PySem.W.Frag.In.keeps hK k, ⟨c.a, c.sup, c.more, c.hd, c.out, fun p hp => k _ _ (c.empty p hp)⟩⟩
theorem obsW_eq {n : Nat} {fa : List Fa} {fn : List DefA} {tf : List Defn} {sf : PySem.W.Frag → Addr} {sv : SupV} {ex : PySem.W.Frag → Bool} {g : Addr → Option Obj} {s : Shared} (h : ∀ a, g a = s.heap.get? a) : obsW n fa fn tf sf ex g = (hookW n fa fn tf sf sv ex).obs s := by
  have e : g = s.heap.get? := funext h
  rw [e]
  rfl
end FwHk
set_option Elab.async false
set_option linter.all false
set_option maxRecDepth 100000
set_option maxHeartbeats 0
/-! the program's text by places, the facts of its top -/
namespace FwHd
open PySem PySem.Spec PyProof.Rows L2 He He5 FwHk
abbrev lawRow : PySem.W.OpenLaw := PySem.Challenge.rw_fourwalls_k41_whole_weights_reckoned
abbrev prog : Program := PySem.Challenge.pw_fourwalls_k41_whole_weights_reckoned
abbrev R : PySem.W.OpenRow := PySem.W.OpenLaw.row lawRow
def top (i : Nat) : Stmt := prog.main.body.getD i (.Pass ⟨0, 0, 0, 0⟩)
abbrev sOthI : Stmt := inClass (top 6) 0
abbrev sRising : Stmt := top 11
abbrev sFaces : Stmt := top 12
abbrev sOne : Stmt := top 13
abbrev sInit : Stmt := inClass (top 17) 0
abbrev sEach : Stmt := inClass (top 17) 1
abbrev sGet : Stmt := inClass (top 17) 5
abbrev sSet : Stmt := inClass (top 17) 6
abbrev sPut : Stmt := inClass (top 17) 7
abbrev sCopy : Stmt := inClass (top 17) 8
abbrev sAdd : Stmt := inClass (top 17) 9
abbrev sSub : Stmt := inClass (top 17) 10
abbrev sIadd : Stmt := inClass (top 17) 11
abbrev sNeg : Stmt := inClass (top 17) 12
abbrev sMul : Stmt := inClass (top 17) 13
abbrev sRmul : Stmt := inClass (top 17) 14
abbrev sWhole : Stmt := top 18
abbrev sFrom : Stmt := top 19
abbrev sOpen : Stmt := top 21
abbrev sDraw : Stmt := top 22
abbrev sSame : Stmt := top 23
abbrev sField : Stmt := top 24
abbrev sTry : Stmt := top 25
abbrev sTries : Stmt := top 26
abbrev sLetters : Stmt := top 27
abbrev sSomeF : Stmt := top 28
abbrev sSomeW : Stmt := top 29
abbrev sPutAt : Stmt := top 30
abbrev sNumbers : Stmt := top 31
abbrev sAdded : Stmt := top 32
abbrev sTaken : Stmt := top 33
abbrev sLaw : Stmt := top 34
def dG (x : Str) (st : Stmt) : DefA := ⟨fun K => ga K x, x, x, defArgs st, defBody st, defScope st, [], []⟩
def dM (m q : Str) (st : Stmt) : DefA := ⟨fun K => ma K (ga K "Weights") m, m, q, defArgs st, defBody st, defScope st, [], []⟩
def dInit : DefA := ⟨fun K => ma K (ga K "Weights") "__init__", "__init__", "Weights.__init__", defArgs sInit, defBody sInit, defScope sInit, [], [("each", .int 0)]⟩
def dEach : DefA := ⟨fun K => propG K (ga K "Weights") "each", "each", "Weights.each", defArgs sEach, defBody sEach, defScope sEach, [], []⟩
def fn : List DefA := [dG "is_rising" sRising, dG "is_faces" sFaces, dG "is_one" sOne, dG "is_whole" sWhole, dG "weights_from" sFrom, dG "_law_open" sOpen, dG "_law_draw" sDraw, dG "_law_same" sSame, dG "_law_field" sField, dG "_law_try" sTry, dG "_law_tries" sTries,
  dG "_law_letters" sLetters, dG "_law_some_faces" sSomeF, dG "_law_some_weights" sSomeW, dG "_law_put_at" sPutAt, dG "_law_numbers" sNumbers, dG "_law_added" sAdded, dG "_law_taken" sTaken, dG "law" sLaw,
  dInit, dEach, dM "__getitem__" "Weights.__getitem__" sGet, dM "__setitem__" "Weights.__setitem__" sSet, dM "put" "Weights.put" sPut, dM "copy" "Weights.copy" sCopy, dM "__add__" "Weights.__add__" sAdd, dM "__sub__" "Weights.__sub__" sSub,
  dM "__iadd__" "Weights.__iadd__" sIadd, dM "__neg__" "Weights.__neg__" sNeg, dM "__mul__" "Weights.__mul__" sMul, dM "__rmul__" "Weights.__rmul__" sRmul]
def glos : List Str := ["HouseError", "InvalidFaces", "InvalidFace", "InvalidNumber", "OtherFaces", "Missing", "NothingLeft", "is_rising", "is_faces", "is_one", "Weights", "is_whole", "weights_from", "_law_open", "_law_draw", "_law_same", "_law_field", "_law_try", "_law_tries", "_law_letters", "_law_some_faces", "_law_some_weights", "_law_put_at", "_law_numbers", "_law_added", "_law_taken", "law"]
def frees : List Str := ["isinstance", "str", "len", "all", "list", "sorted", "set", "int", "bool", "zip", "abs", "tuple", "range", "super"]
def fa : List Fa := (glos.map Fa.glo ++ frees.map Fa.free) ++ [.str "LOWER" "abcdefghijklmnopqrstuvwxyz", .cls "Weights", .noat "Weights" "faces", .noat "Weights" "own_each", .noat "Weights" "own_numbers", .meth "Weights" "put", .meth "Weights" "copy", .mkr "Weights",
  .meth "Weights" "__getitem__", .meth "Weights" "__setitem__", .meth "Weights" "__add__", .meth "Weights" "__sub__", .meth "Weights" "__iadd__", .meth "Weights" "__neg__", .meth "Weights" "__mul__", .meth "Weights" "__rmul__"]
def isS {α : Type} (o : Option α) : Bool := o.isSome
def exW (K : PySem.W.Frag) : Bool := propB K (ga K "Weights") "each" && (PySem.W.fnIn K (ma K (ga K "Weights") "__getitem__") && (PySem.W.selfFirst K (ga K "Weights") && (PySem.W.noSeq K (ga K "Weights") &&
  (isS (PySem.W.findIn K (.type "int") "__mul__") && (isS (PySem.W.findIn K (.type "int") "__rmul__") && (decide (PySem.W.subIn K (.type "int") (.ref (ga K "Weights")) = some false) && decide (PySem.W.subIn K (.ref (ga K "Weights")) (.type "int") = some false)))))))
def exO (K : PySem.W.Frag) : Bool := supB K prog (ga K "OtherFaces") (ma K (ga K "OtherFaces") "__init__") "OtherFaces.__init__" && (xfB K (ga K "OtherFaces") && (decide (PySem.W.exmAny K (.ref (ga K "OtherFaces")) [.ref (ga K "HouseError"), .ref (ga K "Missing"), .ref (ga K "NothingLeft")] = some true) &&
  (eqO (PySem.W.findIn K (.ref (ga K "OtherFaces")) "__init__") (some (some (.ref (ma K (ga K "OtherFaces") "__init__")))) && (decide (PySem.W.typeIn K (.ref (ma K (ga K "OtherFaces") "__init__")) = some (.type "function")) &&
  (["at", "most", "line", "state", "given"].all fun x => eqO (PySem.W.findIn K (.ref (ga K "OtherFaces")) x) (some none))))))
def ex (K : PySem.W.Frag) : Bool := exW K && exO K
def sf (K : PySem.W.Frag) : Addr := ma K (ga K "OtherFaces") "__init__"
def sv : SupV := some ("__init__", "OtherFaces.__init__", defArgs sOthI, .stmts (defBody sOthI), defScope sOthI, mainGlobals, ["__class__"], builtinsNs)
def loose : List Str := ["__name__", "HouseError", "InvalidFaces", "InvalidFace", "InvalidString", "InvalidNumber", "OtherFaces", "Missing", "NothingLeft", "LOWER", "is_rising", "is_faces", "is_one", "is_string", "is_room", "Weights", "is_whole", "weights_from", "_law_open", "_law_draw", "_law_same", "_law_field", "_law_try", "_law_tries", "_law_letters", "_law_some_faces", "_law_some_weights", "_law_put_at", "_law_numbers", "_law_added", "_law_taken"]
abbrev qv : Program := PySem.W.view R.prog [34]
abbrev hk : PySem.W.Hook := hookW 7 fa fn [("law", none)] sf sv ex
noncomputable def ob (s : PySem.W.SharedT) : AlW := obsW 7 fa fn [("law", none)] sf ex (HandSHeadRun.getT s)
theorem ob_eq (s : PySem.W.SharedT) : ob s = hk.obs s.abs := obsW_eq (HandSHeadRun.getT_eq s)
theorem run (w : World) : HandSHeadRun.RunEq R qv hk ob 20000 loose w := by
  intro os
  kernel_rfl
end FwHd
set_option Elab.async false
set_option linter.all false
set_option maxRecDepth 100000
set_option maxHeartbeats 2000000
/-! the facts by names; letters, faces -/
namespace FwD
open PySem PySem.Spec PyProof.Rows L2 He He5 FwHk FwHd
/-- what the walks ask of the top -/
structure Tx (K : PySem.W.Frag) (mg : Str → Option Value) : Prop where
  g : ∀ x ∈ glos, mg x = some (.ref (ga K x))
  fr : ∀ x ∈ frees, mg x = none
  low : ∃ t, mg "LOWER" = some (.str "abcdefghijklmnopqrstuvwxyz" t)
  cl : Cls K (ga K "Weights")
  nF : NoAttr K (ga K "Weights") "faces"
  nE : NoAttr K (ga K "Weights") "own_each"
  nN : NoAttr K (ga K "Weights") "own_numbers"
  mkW : Mk K (ga K "Weights") (ma K (ga K "Weights") "__init__")
  me : ∀ m ∈ (["put", "copy", "__getitem__", "__setitem__", "__add__", "__sub__", "__iadd__", "__neg__", "__mul__", "__rmul__"] : List Str), Meth K (ga K "Weights") m (ma K (ga K "Weights") m)
  ex : ex K = true
theorem tx_of {K : PySem.W.Frag} {h : Heap} {mg : Str → Option Value} (X : K.In h) (G : h.Ns mainGlobals mg) (c : SaysW fa fn [("law", none)] sf sv ex h K) : Tx K mg := by
  have all : ∀ f ∈ fa, f.ok K = true := fun f hf => by
    obtain ⟨i, hi, e⟩ := List.mem_iff_getElem.mp hf
    exact c.a.fact i (f := f) (by rw [List.getElem?_eq_getElem hi, e])
  have inA : ∀ f ∈ glos.map Fa.glo, f ∈ fa := fun f hf => List.mem_append_left _ (List.mem_append_left _ hf)
  have inB : ∀ f ∈ frees.map Fa.free, f ∈ fa := fun f hf => List.mem_append_left _ (List.mem_append_right _ hf)
  have inC : ∀ f ∈ ([.str "LOWER" "abcdefghijklmnopqrstuvwxyz", .cls "Weights", .noat "Weights" "faces", .noat "Weights" "own_each", .noat "Weights" "own_numbers", .meth "Weights" "put", .meth "Weights" "copy", .mkr "Weights",
    .meth "Weights" "__getitem__", .meth "Weights" "__setitem__", .meth "Weights" "__add__", .meth "Weights" "__sub__", .meth "Weights" "__iadd__", .meth "Weights" "__neg__", .meth "Weights" "__mul__", .meth "Weights" "__rmul__"] : List Fa), f ∈ fa := fun f hf => List.mem_append_right _ hf
  refine ⟨fun x hx => glo_ok X G (all _ (inA _ (List.mem_map_of_mem hx))), fun x hx => free_ok X G (all _ (inB _ (List.mem_map_of_mem hx))), str_ok X G (all (.str "LOWER" "abcdefghijklmnopqrstuvwxyz") (inC _ (by simp))), cls_ok (all (.cls "Weights") (inC _ (by simp))), noat_ok (all (.noat "Weights" "faces") (inC _ (by simp))), noat_ok (all (.noat "Weights" "own_each") (inC _ (by simp))), noat_ok (all (.noat "Weights" "own_numbers") (inC _ (by simp))), mkr_ok (all (.mkr "Weights") (inC _ (by simp))), fun m hm => meth_ok (all (.meth "Weights" m) (inC _ ?_)), c.more⟩
  simp only [List.mem_cons, List.not_mem_nil, or_false] at hm
  rcases hm with rfl | rfl | rfl | rfl | rfl | rfl | rfl | rfl | rfl | rfl <;> simp
abbrev WC (K : PySem.W.Frag) : Addr := ga K "Weights"
/-! ### faces -/
abbrev lowS : Str := "abcdefghijklmnopqrstuvwxyz"
/-- the text of these signs; one sign as a text -/
abbrev txt (fs : List Nat) : Str := ⟨fs.toArray⟩
abbrev ltr (c : Nat) : Str := ⟨#[c]⟩
/-- one to six small letters that rise -/
structure Faces (fs : List Nat) : Prop where
  lo : 1 ≤ fs.length
  hi : fs.length ≤ 6
  up : fs.Pairwise (· < ·)
  small : ∀ c ∈ fs, 97 ≤ c ∧ c ≤ 122
theorem low_list : lowS.cps.toList = (List.range 26).map (· + 97) := by decide +kernel
theorem mem_low {c : Nat} (h1 : 97 ≤ c) (h2 : c ≤ 122) : c ∈ lowS.cps.toList := by
  rw [low_list]
  exact List.mem_map.mpr ⟨c - 97, List.mem_range.mpr (by omega), by omega⟩
theorem Faces.nodup {fs : List Nat} (h : Faces fs) : fs.Nodup := h.up.imp fun hab e => by rw [e] at hab; exact Nat.lt_irrefl _ hab
theorem Faces.ascii {fs : List Nat} (h : Faces fs) : (txt fs).cps.all (· < 128) = true := by
  rw [Array.all_eq_true]
  intro i hi
  have := h.small (fs.toArray[i]) (by simpa using List.getElem_mem (l := fs) (by simpa using hi))
  simp only [decide_eq_true_eq]
  omega
/-! ### sorted signs -/
theorem ltr_inj {a b : Nat} (h : ltr a = ltr b) : a = b := by
  have := congrArg (fun s : Str => s.cps.toList) h
  simpa using this
theorem perm_ltr : ∀ {ys : List Str} {cs : List Nat}, ys.Perm (cs.map ltr) → ∃ ds : List Nat, ys = ds.map ltr ∧ ds.Perm cs := fun {ys cs} h => by
  have hm : ∀ y ∈ ys, ∃ c, y = ltr c := fun y hy => by
    obtain ⟨c, _, e⟩ := List.mem_map.mp (h.mem_iff.mp hy)
    exact ⟨c, e.symm⟩
  have hd : ∀ l : List Str, (∀ y ∈ l, ∃ c, y = ltr c) → ∃ ds : List Nat, l = ds.map ltr := by
    intro l
    induction l with
    | nil => intro _; exact ⟨[], rfl⟩
    | cons y r ih =>
      intro hl
      obtain ⟨c, rfl⟩ := hl _ List.mem_cons_self
      obtain ⟨ds, e⟩ := ih fun y hy => hl y (List.mem_cons_of_mem _ hy)
      exact ⟨c :: ds, by rw [e]; rfl⟩
  obtain ⟨ds, rfl⟩ := hd ys hm
  refine ⟨ds, rfl, ?_⟩
  have h2 := h.map (fun s : Str => s.cps.toList.headD 0)
  rw [List.map_map, List.map_map] at h2
  have e : ((fun s : Str => s.cps.toList.headD 0) ∘ ltr) = id := by funext c; rfl
  rw [e, List.map_id, List.map_id] at h2
  exact h2
theorem risingS_ltr : ∀ (ds : List Nat) (p : Nat), risingS (ltr p) (ds.map ltr) = true → (p :: ds).Pairwise (· ≤ ·)
  | [], _, _ => List.pairwise_singleton _ _
  | x :: r, p, h => by
    obtain ⟨h1, h2⟩ := Bool.and_eq_true_iff.mp (show (!ltCps (ltr x).cps.toList (ltr p).cps.toList && risingS (ltr x) (r.map ltr)) = true from h)
    have hp : p ≤ x := by
      have e : ltCps (ltr x).cps.toList (ltr p).cps.toList = (decide (x < p) || (x == p && false)) := rfl
      rw [e] at h1
      simp at h1
      exact h1
    have ih := risingS_ltr r x h2
    refine List.pairwise_cons.mpr ⟨fun y hy => ?_, ih⟩
    rcases List.mem_cons.mp hy with rfl | hy
    · exact hp
    · exact Nat.le_trans hp ((List.pairwise_cons.mp ih).1 y hy)
theorem sortedS_ltr {ds : List Nat} (h : sortedS (ds.map ltr) = true) : ds.Pairwise (· ≤ ·) := by
  cases ds with
  | nil => exact List.Pairwise.nil
  | cons x r => exact risingS_ltr r x h
theorem sorted_one : ∀ {ds fs : List Nat}, ds.Pairwise (· ≤ ·) → fs.Pairwise (· ≤ ·) → ds.Perm fs → ds = fs
  | [], fs, _, _, p => (List.nil_perm.mp p).symm
  | y :: t, [], _, _, p => (List.perm_nil.mp p)
  | y :: t, x :: r, h1, h2, p => by
    obtain ⟨a1, a2⟩ := List.pairwise_cons.mp h1
    obtain ⟨b1, b2⟩ := List.pairwise_cons.mp h2
    have e1 : x ≤ y := by
      rcases List.mem_cons.mp (p.mem_iff.mp List.mem_cons_self) with e | e
      · exact Nat.le_of_eq e.symm
      · exact b1 _ e
    have e2 : y ≤ x := by
      rcases List.mem_cons.mp (p.mem_iff.mpr List.mem_cons_self) with e | e
      · exact Nat.le_of_eq e.symm
      · exact a1 _ e
    have e : y = x := Nat.le_antisymm e2 e1
    subst e
    rw [sorted_one a2 b2 (List.perm_cons _ |>.mp p)]
/-- what sorted() gives of signs that are told -/
theorem sorted_signs {ys : List Str} {fs cs : List Nat} (hp : ys.Perm (cs.map ltr)) (hs : sortedS ys = true) (hc : cs.Perm fs) (hf : fs.Pairwise (· < ·)) : ys = fs.map ltr := by
  obtain ⟨ds, rfl, hd⟩ := perm_ltr hp
  rw [sorted_one (sortedS_ltr hs) (hf.imp Nat.le_of_lt) (hd.trans hc)]
theorem sgn_txt (fs : List Nat) : FwSet.sgn (txt fs) = fs.map ltr := rfl
theorem iteD {c A B : Prop} [Decidable c] (hc : c) (h : A) : if decide c = true then A else B := by
  rw [decide_eq_true hc]
  exact iteT h
theorem strOk_ltr {c : Nat} (h : c ≤ 122) : PyData.strOk (ltr c) = true := by
  simp [PyData.strOk]
  omega
theorem shaped_letters {fs : List Nat} (h : ∀ c ∈ fs, c ≤ 122) : SeqAt.shaped (.list ((fs.map ltr).map .str)) = true := by
  have h1 : ∀ l : List Nat, (∀ c ∈ l, c ≤ 122) → PyData.canLayAll0 ((l.map ltr).map .str) = true := by
    intro l
    induction l with
    | nil => intro _; rfl
    | cons c r ih =>
      intro hl
      show (PyData.canLay0 (.str (ltr c)) && PyData.canLayAll0 ((r.map ltr).map .str)) = true
      rw [ih fun x hx => hl x (List.mem_cons_of_mem _ hx), Bool.and_true]
      exact strOk_ltr (hl c List.mem_cons_self)
  have h2 : ∀ l : List Nat, PyData.depthAll ((l.map ltr).map .str) = 0 := by
    intro l
    induction l with
    | nil => rfl
    | cons c r ih =>
      show max (PyData.depth (.str (ltr c))) (PyData.depthAll ((r.map ltr).map .str)) = 0
      rw [ih]
      rfl
  unfold SeqAt.shaped
  have e1 : PyData.canLay0 (.list ((fs.map ltr).map .str)) = true := h1 fs h
  have e2 : PyData.depth (.list ((fs.map ltr).map .str)) = 1 := congrArg (· + 1) (h2 fs)
  rw [e1, e2]
  rfl
theorem dp_strs {K : PySem.W.Frag} {H : Hp} : ∀ ss : List Str, DpAll K H (ss.map V.str) (ss.map .str)
  | [] => .nil
  | s :: r => .cons (.str s) (dp_strs r)
end FwD
set_option Elab.async false
set_option linter.all false
set_option maxRecDepth 100000
set_option maxHeartbeats 2000000
namespace FwD
open PySem PySem.Spec PyProof.Rows L2 He He5 FwHk FwHd
section
variable {P : Program} {w : World} {K : PySem.W.Frag} {mg : Str → Option Value} {base : Heap} {f : Addr} {fd : FuncData}
/-! ### is_whole -/
def spWhole : Sp := fun vs H Q _ => ∃ n : Int, vs = [.int n] ∧ Q (.bl true) H
theorem scWhole : FnScope ["value"] ["value"] (defScope sWhole) := ⟨rfl, rfl, rfl, by decide +kernel, rfl, by decide +kernel, by decide +kernel⟩
theorem kInt (K : PySem.W.Frag) (H : Hp) (n : Int) : TyX K H (.int n) (.type "int") := .base (.int n)
theorem kStr (K : PySem.W.Frag) (H : Hp) (x : Str) : TyX K H (.str x) (.type "str") := .base (.str x)
theorem ok_whole (F : Fun K "is_whole" "is_whole" sWhole f fd) (T : Tx K mg) : FnOk P w K mg base CX0 1 f fd ["value"] spWhole := by
  refine F.ok scWhole (fun vs H Q E ⟨n, e, _⟩ => by rw [e]; rfl) (fun cdv A outer s H vs Q E hr ⟨n, e, k⟩ => ?_)
  subst e
  refine ⟨_, pss_one (ps_ret (pe_and (pe_callB call_isi (by rfl) (T.fr _ (by decide +kernel)) (by decide +kernel) (pa_cons (pv 0) (pa_cons (pe_bltn (v := .ty "int") (by rfl) (T.fr _ (by decide +kernel)) (by decide +kernel) rfl) pa_nil)))
    (pe_one (pe_not (pe_callB call_isi (by rfl) (T.fr _ (by decide +kernel)) (by decide +kernel) (pa_cons (pv 0) (pa_cons (pe_bltn (v := .ty "bool") (by rfl) (T.fr _ (by decide +kernel)) (by decide +kernel) rfl) pa_nil))))))), ?_⟩
  refine ⟨_, rfl, .int n, _, _, _, true, rfl, .ty "int", kInt K H n, kit_ty (by decide +kernel), true, rfl, iteT ?_⟩
  exact ⟨_, rfl, .int n, _, _, _, false, rfl, .ty "bool", kInt K H n, kit_ty (by decide +kernel), false, rfl, k⟩
/-! ### is_one -/
def spOne : Sp := fun vs H Q _ => ∃ (c : Nat) (fs : List Nat), vs = [.str (ltr c), .str (txt fs)] ∧ c ∈ fs ∧ fs.length ≤ 100 ∧ Q (.bl true) H
theorem scOne : FnScope ["value", "letters"] ["value", "letters"] (defScope sOne) := ⟨rfl, rfl, rfl, by decide +kernel, rfl, by decide +kernel, by decide +kernel⟩
theorem ok_one (F : Fun K "is_one" "is_one" sOne f fd) (T : Tx K mg) : FnOk P w K mg base CX0 1 f fd ["value", "letters"] spOne := by
  refine F.ok scOne (fun vs H Q E ⟨c, fs, e, _⟩ => by rw [e]; rfl) (fun cdv A outer s H vs Q E hr ⟨c, fs, e, hc, hl, k⟩ => ?_)
  subst e
  refine ⟨_, pss_one (ps_ret (pe_and (pe_callB call_isi (by rfl) (T.fr _ (by decide +kernel)) (by decide +kernel) (pa_cons (pv 0) (pa_cons (pe_bltn (v := .ty "str") (by rfl) (T.fr _ (by decide +kernel)) (by decide +kernel) rfl) pa_nil)))
    (pe_and (pe_cmpR op_eq (pe_callB call_len_str (by rfl) (T.fr _ (by decide +kernel)) boot_len (pa_cons (pv 0) pa_nil)) pe_int (nomark _))
      (pe_one (pe_cmpR op_in_sign (pv 0) (pv 1) (by rfl)))))), ?_⟩
  refine ⟨_, rfl, .str (ltr c), _, _, _, true, rfl, .ty "str", kStr K H _, kit_ty (by decide +kernel), true, rfl, iteT ?_⟩
  refine ⟨_, rfl, ltr c, rfl, (show 1 ≤ sizeLine from by decide +kernel), rfl, true, ?_, iteT ?_⟩
  · rfl
  exact ⟨_, rfl, _, rfl, c, txt fs, rfl, rfl, by rw [decide_eq_true (by simpa using hc)]; exact k⟩
/-! ### is_rising -/
def spRising : Sp := fun vs H Q _ => ∃ fs : List Nat, vs = [.str (txt fs), .str lowS, .int 6] ∧ Faces fs ∧ ∀ H', Same H H' → Q (.bl true) H'
theorem scRising : FnScope ["value", "letters", "most", "letter"] ["value", "letters", "most"] (defScope sRising) := ⟨rfl, rfl, rfl, by decide +kernel, rfl, by decide +kernel, by decide +kernel⟩
theorem ok_rising (F : Fun K "is_rising" "is_rising" sRising f fd) (T : Tx K mg) : FnOk P w K mg base CX0 1 f fd ["value", "letters", "most"] spRising := by
  refine F.ok scRising (fun vs H Q E ⟨fs, e, _⟩ => by rw [e]; rfl) (fun cdv A outer s H vs Q E hr ⟨fs, e, hf, k⟩ => ?_)
  subst e
  refine ⟨_, pss_cons (ps_if (PW.pt (pw_or (pt_not (pt_val (pe_callB call_isi (by rfl) (T.fr _ (by decide +kernel)) (by decide +kernel) (pa_cons (pv 0) (pa_cons (pe_bltn (v := .ty "str") (by rfl) (T.fr _ (by decide +kernel)) (by decide +kernel) rfl) pa_nil)))))
      (pw_or1 (pt_not (pt_chain op_le op_le pe_int (pe_callB call_len_str (by rfl) (T.fr _ (by decide +kernel)) boot_len (pa_cons (pv 0) pa_nil)) (pv 2)))))) (pss_one (ps_ret pe_bl)) pss_nil)
    (pss_one (ps_ret (pe_and (pe_callB (cr_all rfl) (by rfl) (T.fr _ (by decide +kernel)) (by decide +kernel)
        (pa_cons (pe_lc (own := [("letter", 3)]) (g := gName 3) (tt := tYes) rfl scRising.nd (pi_str (pv 0)) (blkOk_by (own := [("letter", 3)]) (N := ["value", "letters", "most", "letter"]) (sc := defScope sRising) (by decide +kernel)) (fun _ _ _ _ _ => pg_name (i := 3) scRising.nd rfl (Or.inl rfl)) (fun _ _ _ _ _ => pts_nil)
          (fun _ _ _ _ _ => pe_cmpR op_in_sign (pv 3) (pv 1) (by rfl))) pa_nil))
      (pe_one (pe_cmpR (op_eqD hr.units) (pe_callTy (FwSet.cr_listStr rfl) (by rfl) (T.fr _ (by decide +kernel)) (by decide +kernel) (pa_cons (pv 0) pa_nil))
        (pe_callB (FwSet.cr_sortSetC rfl) (by rfl) (T.fr _ (by decide +kernel)) (by decide +kernel) (pa_cons (pe_callTy (FwSet.cr_setStr rfl) (by rfl) (T.fr _ (by decide +kernel)) (by decide +kernel) (pa_cons (pv 0) pa_nil)) pa_nil)) (nomark _)))))), ?_⟩
  -- the two tests
  have hlen : (txt fs).length = fs.length := by simp [Str.length]
  have hz : (txt fs).length ≤ sizeLine := by rw [hlen, sizeLine_eq]; have := hf.hi; omega
  refine ⟨_, rfl, .str (txt fs), _, _, _, true, rfl, .ty "str", kStr K H _, kit_ty (by decide +kernel), true, rfl, iteF ?_⟩
  refine ⟨_, rfl, txt fs, rfl, hz, _, _, rfl, rfl, _, rfl, iteD (by rw [hlen]; have := hf.lo; omega) ?_⟩
  refine ⟨_, rfl, _, _, rfl, rfl, _, rfl, iteNS (by rw [hlen]; have := hf.hi; omega) ?_⟩
  -- all([letter in letters for letter in value])
  refine ⟨_, rfl, _, rfl, fun D hD => ?_⟩
  refine lc_it (walk_str (z := txt fs)) (fun i H1 => Same H H1 ∧ H1 D = some (.lst ((List.replicate i true).map V.bl)) ∧ i ≤ fs.length) ⟨fun b o e => by rw [upd_ne (ne_of_none e hD)]; exact e, upd_same, Nat.zero_le _⟩ (fun _ _ _ _ => True.intro) ?_ ?_
  · rintro i x H1 H2 hi ⟨s1, hd, _⟩ ⟨rfl, c, hc, rfl⟩
    have hi : i < fs.length := hi
    have hcm : c ∈ fs := by
      have hc : fs.toArray[i]? = some c := hc
      simp only [List.getElem?_toArray] at hc
      exact List.mem_of_getElem? hc
    obtain ⟨c1, c2⟩ := hf.small c hcm
    refine ⟨rfl, _, rfl, _, rfl, c, lowS, rfl, rfl, ?_⟩
    rw [decide_eq_true (mem_low c1 c2)]
    refine ⟨_, hd, by rw [List.length_map, List.length_replicate, sizeLine_eq]; have := hf.hi; omega, fun b o e => ?_, ?_, by omega⟩
    · rw [upd_ne (ne_of_none e hD)]
      exact s1 b o e
    · rw [upd_same, List.replicate_succ', List.map_append]
      rfl
  · rintro H1 ⟨s1, hd, _⟩
    refine ⟨D, _, rfl, .inl (.inl hd), true, by simp, iteT ?_⟩
    -- list(value) == sorted(set(value))
    refine ⟨_, rfl, txt fs, rfl, by rw [sizeLine_eq]; have := hf.hi; show fs.toArray.size ≤ _; rw [List.size_toArray]; omega, fun p hp => ?_⟩
    refine ⟨_, rfl, txt fs, rfl, hf.ascii, hf.nodup, (by show fs.toArray.size < 1000; rw [List.size_toArray]; have := hf.hi; omega), fun q hq => ?_⟩
    have npq : p ≠ q := fun e => by rw [e, upd_same] at hq; cases hq
    refine ⟨q, _, rfl, upd_same, by rw [sgn_txt, List.length_reverse, List.length_map]; have := hf.hi; omega, ?_, fun ys r hperm hsort hr0 => ?_⟩
    · rw [sgn_txt]
      refine (List.reverse_perm _).nodup_iff.mpr ?_
      exact List.Pairwise.map _ (fun _ _ hne q => hne (ltr_inj q)) hf.nodup
    rw [sgn_txt, ← List.map_reverse] at hperm
    have e := sorted_signs hperm hsort (List.reverse_perm fs) hf.up
    subst e
    have nr : ∀ b o, H1 b = some o → upd (upd (upd H1 p (.lst ((FwSet.sgn (txt fs)).map V.str))) q (FwSet.SetCO P w q (FwSet.sgn (txt fs)).reverse)) r (.lst ((fs.map ltr).map V.str)) b = some o := fun b o e => by
      rw [upd_ne (fun z => ?_), upd_ne (fun z => ?_), upd_ne (ne_of_none e hp)]
      · exact e
      · rw [z] at e; rw [upd_ne npq.symm, e] at hq; cases hq
      · rw [z] at e
        by_cases h1 : r = q
        · rw [h1, upd_same] at hr0; cases hr0
        · rw [upd_ne h1] at hr0
          by_cases h2 : r = p
          · rw [h2, upd_same] at hr0; cases hr0
          · rw [upd_ne h2, e] at hr0; cases hr0
    have hpr : p ≠ r := fun z => by rw [← z, upd_ne npq, upd_same] at hr0; cases hr0
    refine ⟨.list ((fs.map ltr).map .str), .list ((fs.map ltr).map .str), .lst (.inl (.inl ?_)) (dp_strs _), .lst (.inl (.inl upd_same)) (dp_strs _), shaped_letters fun c hc => (hf.small c hc).2, shaped_letters fun c hc => (hf.small c hc).2, ?_⟩
    · rw [upd_ne hpr, upd_ne npq, upd_same, sgn_txt]
    rw [SeqAt.eqv_refl _ (SeqAt.canLay_of_shaped (shaped_letters fun c hc => (hf.small c hc).2))]
    exact k _ fun b o e => nr b o (s1 b o e)
end
end FwD
set_option Elab.async false
set_option linter.all false
set_option maxRecDepth 100000
set_option maxHeartbeats 2000000
namespace FwD
open PySem PySem.Spec PyProof.Rows L2 He He5 FwHk FwHd FwZip
/-- a def of the module that keeps a promise, as its callers want it -/
structure Df (P : Program) (w : World) (K : PySem.W.Frag) (mg : Str → Option Value) (base : Heap) (CX : CXT) (k : Nat) (f : Addr) (ps : List Str) (sp : Sp) : Prop where
  ex : ∃ fd, FnOk P w K mg base CX k f fd ps sp ∧ PySem.W.keepIn K (.ref f) = true ∧ Binds K fd ps []
/-! ### is_faces -/
section
variable {P : Program} {w : World} {K : PySem.W.Frag} {mg : Str → Option Value} {base : Heap} {f : Addr} {fd : FuncData}
def spFaces : Sp := fun vs H Q _ => ∃ fs : List Nat, vs = [.str (txt fs)] ∧ Faces fs ∧ ∀ H', Same H H' → Q (.bl true) H'
theorem scFaces : FnScope ["value"] ["value"] (defScope sFaces) := ⟨rfl, rfl, rfl, by decide +kernel, rfl, by decide +kernel, by decide +kernel⟩
theorem ok_faces (F : Fun K "is_faces" "is_faces" sFaces f fd) (T : Tx K mg) (D : Df P w K mg base CX0 1 (ga K "is_rising") ["value", "letters", "most"] spRising) : FnOk P w K mg base CX0 2 f fd ["value"] spFaces := by
  obtain ⟨fdR, G, kp, b⟩ := D.ex
  obtain ⟨t, hlow⟩ := T.low
  refine F.ok scFaces (fun vs H Q E ⟨fs, e, _⟩ => by rw [e]; rfl) (fun cdv A outer s H vs Q E hr ⟨fs, e, hf, k⟩ => ?_)
  subst e
  refine ⟨_, pss_one (ps_ret (pe_call G hr rfl (T.g _ (by decide +kernel)) kp b .nil pass0 (pa_cons (pv 0) (pa_cons (pe_glob (v := .str lowS) rfl hlow ⟨_, rfl⟩) (pa_cons pe_int pa_nil))))), ?_⟩
  exact ⟨_, rfl, fs, rfl, hf, k⟩
end
/-! ### weights as data -/
def flds (fs : List Nat) (el d : Addr) : List (Str × V) := [("faces", .str (txt fs)), ("own_each", .ref el), ("own_numbers", .ref d)]
theorem n12 : ¬ ("faces" : Str) = "own_each" := by decide +kernel
theorem n13 : ¬ ("faces" : Str) = "own_numbers" := by decide +kernel
theorem n23 : ¬ ("own_each" : Str) = "own_numbers" := by decide +kernel
theorem putF_2 {x y : V} : putF ("own_each" : Str) y (putF ("faces" : Str) x []) = [(("faces" : Str), x), (("own_each" : Str), y)] := by
  show (if ("faces" : Str) = "own_each" then (("faces" : Str), y) :: [] else (("faces" : Str), x) :: putF "own_each" y []) = _
  rw [if_neg n12]
  rfl
theorem putF_3 {fs : List Nat} {el d : Addr} : putF ("own_numbers" : Str) (.ref d) (putF ("own_each" : Str) (.ref el) (putF ("faces" : Str) (.str (txt fs)) [])) = flds fs el d := by
  rw [putF_2]
  show (if ("faces" : Str) = "own_numbers" then _ else (("faces" : Str), V.str (txt fs)) :: (if ("own_each" : Str) = "own_numbers" then _ else (("own_each" : Str), V.ref el) :: putF "own_numbers" (.ref d) [])) = _
  rw [if_neg n13, if_neg n23]
  rfl
theorem flds_faces (fs : List Nat) (el d : Addr) : (flds fs el d).lookup ("faces" : Str) = some (.str (txt fs)) := by
  simp [flds, List.lookup]
theorem flds_each (fs : List Nat) (el d : Addr) : (flds fs el d).lookup ("own_each" : Str) = some (.ref el) := by
  have e1 : (("own_each" : Str) == "faces") = false := by decide +kernel
  simp [flds, List.lookup, e1]
theorem flds_nums (fs : List Nat) (el d : Addr) : (flds fs el d).lookup ("own_numbers" : Str) = some (.ref d) := by
  have e1 : (("own_numbers" : Str) == "faces") = false := by decide +kernel
  have e2 : (("own_numbers" : Str) == "own_each") = false := by decide +kernel
  simp [flds, List.lookup, e1, e2]
def kvP (ps : List (Nat × Int)) : List (Key × V) := ps.map fun p => (Sum.inr (ltr p.1), V.int p.2)
theorem kvP_key (ps : List (Nat × Int)) : (kvP ps).map (·.1) = (ps.map (·.1)).map fun c => (Sum.inr (ltr c) : Key) := by
  unfold kvP
  rw [List.map_map, List.map_map]
  rfl
theorem key_inj {a b : Nat} (h : (Sum.inr (ltr a) : Key) = Sum.inr (ltr b)) : a = b := ltr_inj (Sum.inr.inj h)
theorem valV_kvP (c : Nat) : ∀ ps : List (Nat × Int), valV (kvP ps) (Sum.inr (ltr c)) = (ps.lookup c).map V.int
  | [] => rfl
  | (x, n) :: r => by
    have ih := valV_kvP c r
    unfold valV at ih ⊢
    by_cases h : x = c
    · subst h
      simp [kvP, List.lookup]
    · have h1 : ¬ (Sum.inr (ltr x) : Key) = Sum.inr (ltr c) := fun e => h (key_inj e)
      have h2 : (c == x) = false := beq_eq_false_iff_ne.mpr (Ne.symm h)
      have e1 : kvP ((x, n) :: r) = (Sum.inr (ltr x), V.int n) :: kvP r := rfl
      rw [e1, List.find?_cons, decide_eq_false h1]
      simp only [List.lookup, h2]
      exact ih
theorem kvP_len (ps : List (Nat × Int)) : (kvP ps).length = ps.length := List.length_map _
theorem look_no : ∀ {l : List (Nat × Int)} {x : Nat}, (∀ v, (x, v) ∉ l) → l.lookup x = none
  | [], _, _ => rfl
  | (y, v) :: r, x, h => by
    have hne : (x == y) = false := beq_eq_false_iff_ne.mpr fun e => h v (by rw [e]; exact List.mem_cons_self)
    simp only [List.lookup, hne]
    exact look_no fun v hv => h v (List.mem_cons_of_mem _ hv)
theorem lookup_mem_nodup : ∀ {ps : List (Nat × Int)} {c : Nat} {n : Int}, (ps.map (·.1)).Nodup → (c, n) ∈ ps → ps.lookup c = some n
  | [], _, _, _, h => by cases h
  | (x, m) :: r, c, n, hn, h => by
    obtain ⟨h1, h2⟩ := List.nodup_cons.mp (show (x :: r.map (·.1)).Nodup from hn)
    rcases List.mem_cons.mp h with e | h
    · cases e
      simp [List.lookup]
    · have hne : (c == x) = false := beq_eq_false_iff_ne.mpr fun e => h1 (by rw [← e]; exact List.mem_map.mpr ⟨(c, n), h, rfl⟩)
      simp only [List.lookup, hne]
      exact lookup_mem_nodup h2 h
/-! ### __init__ -/
def spInit (C : Addr) : Sp := fun vs H Q _ => ∃ (a dx d : Addr) (fs : List Nat) (e : Int) (ps : List (Nat × Int)), vs = [.ref a, .str (txt fs), .int e, .ref d] ∧ Faces fs ∧ H a = some (.ins C dx []) ∧ H d = some (.dK (kvP ps)) ∧ (∀ p ∈ ps, p.1 ∈ fs) ∧ (ps.map (·.1)).Nodup ∧ ps.length ≤ 100 ∧
  ∀ (el dn : Addr) (H' : Hp), H el = none → H dn = none → el ≠ dn → H' a = some (.ins C dx (flds fs el dn)) → H' el = some (.lst [.int e]) → H' dn = some (.dK (kvP (fs.map fun c => (c, (ps.lookup c).getD 0)))) → (∀ b o, H b = some o → b ≠ a → H' b = some o) → Q .non H'
theorem scInit : FnScope ["self", "faces", "each", "numbers", "face"] ["self", "faces", "each", "numbers"] (defScope sInit) := ⟨rfl, rfl, rfl, by decide +kernel, rfl, by decide +kernel, by decide +kernel⟩
theorem init_args : FwKw.InitArgs (defArgs sInit) := ⟨rfl, rfl, rfl, rfl, _, rfl, rfl⟩
section
variable {P : Program} {w : World} {K : PySem.W.Frag} {mg : Str → Option Value} {base : Heap} {f : Addr} {fd : FuncData}
theorem init_body (T : Tx K mg) (DF : Df P w K mg base CX0 2 (ga K "is_faces") ["value"] spFaces) (DW : Df P w K mg base CX0 1 (ga K "is_whole") ["value"] spWhole) (DO : Df P w K mg base CX0 1 (ga K "is_one") ["value", "letters"] spOne)
    (cdv : Value) (A : Around) (outer : List Env) (s : Shared) (H : Hp) (vs : List V) (Q : VK) (E : XK) (hr : Room 2 (A.deeper (envOfC "Weights.__init__" (defScope sInit) s.heap.objs.size f cdv))) (h : spInit (WC K) vs H Q E) :
    ∃ t, PSs (cxOf CX0 P w K mg base ["self", "faces", "each", "numbers", "face"] "Weights.__init__" (defScope sInit) f cdv A outer s H E) (defBody sInit) t ∧ t { nx := fun _ H' => Q .non H', rt := Q } (start ["self", "faces", "each", "numbers", "face"] vs) H := by
  obtain ⟨a, dx, d, fs, e, ps, rfl, hf, ha, hd, hps, hnd, hpl, k⟩ := h
  obtain ⟨fdF, GF, kF, bF⟩ := DF.ex
  obtain ⟨fdW, GW, kW, bW⟩ := DW.ex
  obtain ⟨fdO, GO, kO, bO⟩ := DO.ex
  have hr1 : Room 1 _ := hr.mono (by decide)
  have hu := hu_of hr
  refine ⟨_, PSs.nox (pss_cons (ps_if (pt_not (pt_val (pe_call GF hr rfl (T.g _ (by decide +kernel)) kF bF .nil pass0 (pa_cons (pv 1) pa_nil)))) (pss_one ps_never) pss_nil)
    (pss_cons (ps_if (pt_not (pt_val (pe_call GW hr1 rfl (T.g _ (by decide +kernel)) kW bW .nil pass0 (pa_cons (pv 2) pa_nil)))) (pss_one ps_never) pss_nil)
    (pss_cons (ps_for PassesOwn.never rfl (pi_list (pe_callTy (call_listD rfl) (by rfl) (T.fr _ (by decide +kernel)) (by decide +kernel) (pa_cons (pv 3) pa_nil))) (pg_name (i := 4) scInit.nd rfl (Or.inl rfl))
      (pss_one (ps_if (pt_not (pt_val (pe_call GO hr1 rfl (T.g _ (by decide +kernel)) kO bO .nil pass0 (pa_cons (pv 4) (pa_cons (pv 1) pa_nil))))) (pss_one ps_never) pss_nil)))
    (pss_cons (ps_for PassesOwn.never rfl (pi_list (pe_callTy (call_listD rfl) (by rfl) (T.fr _ (by decide +kernel)) (by decide +kernel) (pa_cons (pv 3) pa_nil))) (pg_name (i := 4) scInit.nd rfl (Or.inl rfl))
      (pss_one (ps_if (pt_not (pt_val (pe_call GW hr1 rfl (T.g _ (by decide +kernel)) kW bW .nil pass0 (pa_cons (pe_dget hu (pv 3) (pv 4) (fun _ _ => rfl)) pa_nil)))) (pss_one ps_never) pss_nil)))
    (pss_cons (ps_fld (pv 0) (pv 1) rfl)
    (pss_cons (ps_fld (pv 0) (pe_lst (pa_cons (pv 2) pa_nil)) rfl)
    (pss_one (ps_fld (pv 0) (pe_dc (own := [("face", 4)]) (g := gName 4) (tt := tYes) rfl scInit.nd (pi_str (pv 1)) (blkOk_by (own := [("face", 4)]) (N := ["self", "faces", "each", "numbers", "face"]) (sc := defScope sInit) (by decide +kernel))
      (fun _ _ _ _ _ => pg_name (i := 4) scInit.nd rfl (Or.inl rfl)) (fun _ _ _ _ _ => pts_nil) (fun _ _ _ _ _ => pv 4) (fun _ _ _ _ _ => pe_dget2 (by assumption) (pv 3) (pv 4) pe_int ⟨rfl, rfl, rfl, rfl⟩)) rfl)))))))), ?_⟩
  have fl : fs.length ≤ 100 := by have := hf.hi; omega
  have look : ∀ {i : Nat} {x : V}, ((kvP ps).map fun kv => kV kv.1)[i]? = some x → ∃ c n, x = .str (ltr c) ∧ (c, n) ∈ ps ∧ ps.lookup c = some n := fun {i x} hx => by
    unfold kvP at hx
    rw [List.map_map, List.getElem?_map] at hx
    cases hp : ps[i]? with
    | none => rw [hp] at hx; cases hx
    | some p =>
      rw [hp] at hx
      obtain ⟨c, n⟩ := p
      have hm : (c, n) ∈ ps := List.mem_of_getElem? hp
      exact ⟨c, n, (Option.some.inj hx).symm, hm, lookup_mem_nodup hnd hm⟩
  -- the tests
  refine ⟨_, rfl, fs, rfl, hf, fun H1 s1 => ⟨true, rfl, iteF ?_⟩⟩
  refine ⟨_, rfl, e, rfl, true, rfl, iteF ?_⟩
  -- for face in list(numbers), twice
  refine ⟨_, rfl, d, kvP ps, rfl, .inl (s1 _ _ hd), fun l hl => ?_⟩
  have s2 : Same H (upd H1 l (.lst ((kvP ps).map fun kv => kV kv.1))) := fun b o q => (upd_ne (ne_of_none (s1 b o q) hl)).trans (s1 b o q)
  refine ⟨l, rfl, ⟨_, .inl (.inl upd_same)⟩, ?_⟩
  refine for_it walk_list (fun i σ H2 => Same H H2 ∧ H2 l = some (.lst ((kvP ps).map fun kv => kV kv.1)) ∧ ∃ fc, σ = [some (.ref a), some (.str (txt fs)), some (.int e), some (.ref d), fc]) ⟨s2, upd_same, none, rfl⟩ (fun _ _ _ _ q => .inl (.inl q.2.1)) ?_ ?_
  · rintro i x σ H2 H3 hi ⟨s3, hl3, fc, rfl⟩ ⟨rfl, hx⟩
    obtain ⟨c, n, rfl, hm, hlk⟩ := look hx
    exact ⟨_, rfl, _, rfl, c, fs, rfl, hps _ hm, fl, true, rfl, iteF ⟨s3, hl3, _, rfl⟩⟩
  rintro σ H2 ⟨s3, hl3, fc, rfl⟩
  refine ⟨_, rfl, d, kvP ps, rfl, .inl (s3 _ _ hd), fun l2 hl2 => ?_⟩
  have s4 : Same H (upd H2 l2 (.lst ((kvP ps).map fun kv => kV kv.1))) := fun b o q => (upd_ne (ne_of_none (s3 b o q) hl2)).trans (s3 b o q)
  refine ⟨l2, rfl, ⟨_, .inl (.inl upd_same)⟩, ?_⟩
  refine for_it walk_list (fun i σ H2 => Same H H2 ∧ H2 l2 = some (.lst ((kvP ps).map fun kv => kV kv.1)) ∧ ∃ fc, σ = [some (.ref a), some (.str (txt fs)), some (.int e), some (.ref d), fc]) ⟨s4, upd_same, fc, rfl⟩ (fun _ _ _ _ q => .inl (.inl q.2.1)) ?_ ?_
  · rintro i x σ H3 H4 hi ⟨s5, hl5, fc, rfl⟩ ⟨rfl, hx⟩
    obtain ⟨c, n, rfl, hm, hlk⟩ := look hx
    have dg : DGet H4 d (.str (ltr c)) (some (.int n)) := by
      have q := DGet.k (k := Sum.inr (ltr c)) (s5 _ _ hd)
      rw [valV_kvP, hlk] at q
      exact q
    exact ⟨_, rfl, _, rfl, d, .int n, rfl, dg, n, rfl, true, rfl, iteF ⟨s5, hl5, _, rfl⟩⟩
  rintro σ H3 ⟨s5, hl5, fc2, rfl⟩
  -- self.faces, self.own_each
  refine ⟨_, rfl, _, rfl, a, WC K, dx, [], rfl, s5 _ _ ha, T.cl, T.nF, (by decide), ?_⟩
  refine ⟨_, rfl, (by show 1 ≤ sizeLine; decide +kernel), fun el hel => ?_⟩
  have nea : a ≠ el := fun z => by rw [← z, upd_same] at hel; cases hel
  refine ⟨_, rfl, a, WC K, dx, _, rfl, (by rw [upd_ne nea]; exact upd_same), T.cl, T.nE, (by show (1 : Nat) < 1000; decide), ?_⟩
  -- self.own_numbers
  refine ⟨_, rfl, txt fs, rfl, fun dn hdn => ?_⟩
  generalize hH4 : upd (upd (upd H3 a (.ins (WC K) dx (putF ("faces" : Str) (.str (txt fs)) []))) el (.lst [.int e])) a (.ins (WC K) dx (putF ("own_each" : Str) (.ref el) (putF ("faces" : Str) (.str (txt fs)) []))) = H4 at hdn
  have h4a : H4 a = some (.ins (WC K) dx (putF ("own_each" : Str) (.ref el) (putF ("faces" : Str) (.str (txt fs)) []))) := by rw [← hH4]; exact upd_same
  have h4e : H4 el = some (.lst [.int e]) := by rw [← hH4, upd_ne nea.symm]; exact upd_same
  have h3e : H3 el = none := by rw [upd_ne nea.symm] at hel; exact hel
  have h4o : ∀ b o, H b = some o → b ≠ a → H4 b = some o := fun b o q hb => by
    rw [← hH4, upd_ne hb, upd_ne (ne_of_none (s5 b o q) h3e), upd_ne hb]
    exact s5 b o q
  have hda : d ≠ a := fun z => by rw [z, ha] at hd; cases hd
  let g : Nat → Int := fun c => (ps.lookup c).getD 0
  refine dc_it (walk_str (z := txt fs)) (fun i H5 => (∀ b o, H4 b = some o → H5 b = some o) ∧ H5 dn = some (.dK (kvP ((fs.take i).map fun c => (c, g c)))) ∧ i ≤ fs.length) ⟨fun b o q => (upd_ne (ne_of_none q hdn)).trans q, upd_same, Nat.zero_le _⟩ (fun _ _ _ _ => True.intro) ?_ ?_
  · rintro i x H5 H6 hi ⟨s6, hd6, _⟩ ⟨rfl, c, hc, rfl⟩
    have hi : i < fs.length := hi
    have hc : fs[i]? = some c := by
      have hc : fs.toArray[i]? = some c := hc
      simpa only [List.getElem?_toArray] using hc
    have dg : DGet H6 d (.str (ltr c)) ((ps.lookup c).map V.int) := by
      have q := DGet.k (k := Sum.inr (ltr c)) (s6 _ _ (h4o _ _ hd hda))
      rw [valV_kvP] at q
      exact q
    refine ⟨rfl, _, rfl, _, rfl, d, rfl, .inl ⟨_, .inl (s6 _ _ (h4o _ _ hd hda))⟩, _, rfl, _, dg, _, Sum.inr (ltr c), rfl, hd6, ?_, fun b o q => ?_, ?_, hi⟩
    · rw [kvP_len, List.length_map, List.length_take, sizeLine_eq]
      have := hf.hi
      omega
    · rw [upd_ne (ne_of_none q hdn)]
      exact s6 b o q
    · rw [upd_same, putK_new _ ?_, List.take_add_one, hc]
      · have e1 : ((ps.lookup c).map V.int).getD (.int 0) = V.int (g c) := by
          show _ = V.int ((ps.lookup c).getD 0)
          cases ps.lookup c <;> rfl
        rw [e1]
        simp [kvP]
      · rw [valV_kvP]
        have hno : ((fs.take i).map fun c => (c, g c)).lookup c = none := by
          refine look_no fun v hv => ?_
          obtain ⟨c', hc', e⟩ := List.mem_map.mp hv
          cases e
          obtain ⟨j, hj, ej⟩ := List.mem_iff_getElem.mp hc'
          rw [List.getElem_take] at ej
          have hj' : j < i := by simp at hj; omega
          have hci : fs[i] = c := by
            have := List.getElem?_eq_some_iff.mp hc
            exact this.2
          have := (List.getElem_inj hf.nodup).mp (ej.trans hci.symm)
          omega
        rw [hno]
        rfl
  · rintro H5 ⟨s6, hd6, _⟩
    have nad : a ≠ dn := fun z => by rw [← z, h4a] at hdn; cases hdn
    have ned : el ≠ dn := fun z => by rw [← z, h4e] at hdn; cases hdn
    have h4n : H dn = none := by
      by_cases h1 : dn = a
      · exact absurd h1.symm nad
      · cases q : H dn with
        | none => rfl
        | some o => rw [h4o _ _ q h1] at hdn; cases hdn
    rw [show (txt fs).cps.size = fs.length from by simp, List.take_length] at hd6
    refine ⟨_, rfl, a, WC K, dx, _, rfl, s6 _ _ h4a, T.cl, T.nN, (by rw [putF_2]; show (2 : Nat) < 1000; decide), ?_⟩
    refine k el dn _ (s5.free h3e) h4n ned ?_ ?_ ?_ fun b o q hb => ?_
    · rw [upd_same, putF_3]
    · rw [upd_ne nea.symm]
      exact s6 _ _ h4e
    · rw [upd_ne nad.symm]
      exact hd6
    · rw [upd_ne hb]
      exact s6 _ _ (h4o b o q hb)
end
end FwD
set_option Elab.async false
set_option linter.all false
set_option maxRecDepth 100000
set_option maxHeartbeats 2000000
namespace FwD
open PySem PySem.Spec PyProof.Rows L2 He He5 FwHk FwHd FwZip FwKw
/-! ### weights as objects -/
def WObj (C : Addr) (H : Hp) (a : Addr) (fs : List Nat) (e : Int) (ns : List Int) (dx el d : Addr) : Prop := H a = some (.ins C dx (flds fs el d)) ∧ H el = some (.lst [.int e]) ∧ H d = some (.dK (kvP (fs.zip ns))) ∧ ns.length = fs.length
def WAt (C : Addr) (H : Hp) (a : Addr) (fs : List Nat) (e : Int) (ns : List Int) : Prop := ∃ dx el d, WObj C H a fs e ns dx el d
/-- new: none of its objects was tracked in H -/
def WNew (C : Addr) (H H' : Hp) (a : Addr) (fs : List Nat) (e : Int) (ns : List Int) : Prop := ∃ dx el d, WObj C H' a fs e ns dx el d ∧ H a = none ∧ H el = none ∧ H d = none
theorem WNew.at_ {C : Addr} {H H' : Hp} {a : Addr} {fs : List Nat} {e : Int} {ns : List Int} (h : WNew C H H' a fs e ns) : WAt C H' a fs e ns := ⟨_, _, _, h.choose_spec.choose_spec.choose_spec.1⟩
theorem WObj.same {C : Addr} {H H' : Hp} {a : Addr} {fs : List Nat} {e : Int} {ns : List Int} {dx el d : Addr} (h : WObj C H a fs e ns dx el d) (s : Same H H') : WObj C H' a fs e ns dx el d := ⟨s _ _ h.1, s _ _ h.2.1, s _ _ h.2.2.1, h.2.2.2⟩
theorem WAt.same {C : Addr} {H H' : Hp} {a : Addr} {fs : List Nat} {e : Int} {ns : List Int} (h : WAt C H a fs e ns) (s : Same H H') : WAt C H' a fs e ns := ⟨_, _, _, h.choose_spec.choose_spec.choose_spec.same s⟩
theorem WNew.mono {C : Addr} {H H1 H' : Hp} {a : Addr} {fs : List Nat} {e : Int} {ns : List Int} (h : WNew C H1 H' a fs e ns) (s : Same H H1) : WNew C H H' a fs e ns := by
  obtain ⟨dx, el, d, h1, h2, h3, h4⟩ := h
  exact ⟨dx, el, d, h1, s.free h2, s.free h3, s.free h4⟩
theorem WNew.same {C : Addr} {H H1 H' : Hp} {a : Addr} {fs : List Nat} {e : Int} {ns : List Int} (h : WNew C H H1 a fs e ns) (s : Same H1 H') : WNew C H H' a fs e ns := by
  obtain ⟨dx, el, d, h1, h2, h3, h4⟩ := h
  exact ⟨dx, el, d, h1.same s, h2, h3, h4⟩
/-- a new heap object beside the others -/
theorem same_upd {H : Hp} {p : Addr} {o : HO} (h : H p = none) : Same H (upd H p o) := fun b u e => (upd_ne (ne_of_none e h)).trans e
/-! ### making -/
def spI (C : Addr) : SpI := fun a b v ex H Q E => ∀ d, H d = none → spInit C [a, b, v, .ref d] (upd H d (.dK (inrV ex))) Q E
theorem zip_map {α β : Type} (g : α → β) : ∀ l : List α, (l.map fun c => (c, g c)) = l.zip (l.map g)
  | [] => rfl
  | x :: r => by
    have := zip_map g r
    simp [this]
section
variable {P : Program} {w : World} {K : PySem.W.Frag} {mg : Str → Option Value} {base : Heap} {f : Addr} {fd : FuncData}
theorem ok_init (F : FunD K "__init__" "Weights.__init__" (defArgs sInit) (defBody sInit) (defScope sInit) [] [("each", .int 0)] f fd) (T : Tx K mg) (DF : Df P w K mg base CX0 2 (ga K "is_faces") ["value"] spFaces) (DW : Df P w K mg base CX0 1 (ga K "is_whole") ["value"] spWhole) (DO : Df P w K mg base CX0 1 (ga K "is_one") ["value", "letters"] spOne) :
    InitR P w K mg base CX0 3 f (spI (WC K)) :=
  fn_init F init_args scInit StX.cxUp_none fun cdv A outer s H vs Q E hr h => init_body T DF DW DO cdv A outer s H vs Q E hr h
/-- what making weights gives -/
theorem made_w {C : Addr} {fs : List Nat} {e : Int} {ps : List (Nat × Int)} {ex : List (Str × V)} {H : Hp} {Q : VK} (hf : Faces fs) (hex : inrV ex = kvP ps) (hps : ∀ p ∈ ps, p.1 ∈ fs) (hnd : (ps.map (·.1)).Nodup) (hpl : ps.length ≤ 100)
    (k : ∀ a H', Same H H' → WNew C H H' a fs e (fs.map fun c => (ps.lookup c).getD 0) → Q (.ref a) H') : MadeI C (spI C) E0 (.str (txt fs)) (.int e) ex H Q := by
  intro x dx hx hdx hne d hd
  have hxd : x ≠ d := fun z => by rw [← z, upd_same] at hd; cases hd
  refine ⟨x, dx, d, fs, e, ps, rfl, hf, ?_, by rw [upd_same, hex], hps, hnd, hpl, fun el dn H' h1 h2 h3 h4 h5 h6 h7 => ⟨rfl, ?_⟩⟩
  · rw [upd_ne hxd]
    exact upd_same
  have hH : Same H H' := fun b o q => by
    have nb : b ≠ x := ne_of_none q hx
    refine h7 b o ?_ nb
    have hd0 : H d = none := by
      rw [upd_ne (Ne.symm hxd)] at hd
      by_cases z : d = dx
      · rw [z]; exact hdx
      · rw [upd_ne z] at hd; exact hd
    rw [upd_ne (ne_of_none q hd0), upd_ne nb, upd_ne (ne_of_none q hdx)]
    exact q
  have back : ∀ {b : Addr}, upd (upd (upd H dx (.own x)) x (.ins C dx [])) d (.dK (inrV ex)) b = none → H b = none := fun {b} z => by
    cases q : H b with
    | none => rfl
    | some o =>
      have hd0 : H d = none := by
        rw [upd_ne (Ne.symm hxd)] at hd
        by_cases z : d = dx
        · rw [z]; exact hdx
        · rw [upd_ne z] at hd; exact hd
      rw [upd_ne (ne_of_none q hd0), upd_ne (ne_of_none q hx), upd_ne (ne_of_none q hdx), q] at z
      cases z
  refine k x H' hH ⟨dx, el, dn, ⟨h4, h5, ?_, List.length_map _⟩, hx, back h1, back h2⟩
  rw [h6, zip_map]
end
/-! ### weights_from -/
def spFrom (K : PySem.W.Frag) : Sp := fun vs H Q _ => ∃ (fs : List Nat) (e : Int) (l : Addr) (ns : List Int), vs = [.str (txt fs), .int e, .ref l] ∧ Faces fs ∧ SqL K H l (ns.map V.int) ∧ ns.length = fs.length ∧ ∀ a H', Same H H' → WNew (WC K) H H' a fs e ns → Q (.ref a) H'
theorem scFrom : FnScope ["faces", "each", "numbers", "named", "face", "number"] ["faces", "each", "numbers"] (defScope sFrom) := ⟨rfl, rfl, rfl, by decide +kernel, rfl, by decide +kernel, by decide +kernel⟩
section
variable {P : Program} {w : World} {K : PySem.W.Frag} {mg : Str → Option Value} {base : Heap} {f : Addr} {fd : FuncData}
theorem ok_from (F : Fun K "weights_from" "weights_from" sFrom f fd) (T : Tx K mg) (I : InitR P w K mg base CX0 3 (ma K (WC K) "__init__") (spI (WC K))) : FnOk P w K mg base CX0 5 f fd ["faces", "each", "numbers"] (spFrom K) := by
  refine F.ok scFrom (fun vs H Q E ⟨fs, e, l, ns, q, _⟩ => by rw [q]; rfl) (fun cdv A outer s H vs Q E hr ⟨fs, e, l, ns, q, hf, hl, hn, k⟩ => ?_)
  subst q
  refine ⟨_, pss_cons (ps_set (i := 3) scFrom.nd rfl (Or.inl rfl) (pe_dispS (pv 1) (pe_dc (own := [("face", 4), ("number", 5)]) (g := gTup K 2 (gCons (gName 4) (gCons (gName 5) gNil))) (tt := tYes) rfl scFrom.nd (pi_zs (by rfl) (T.fr _ (by decide +kernel)) (pa_cons (pv 0) (pa_cons (pv 2) pa_nil)))
      (blkOk_by (own := [("face", 4), ("number", 5)]) (N := ["faces", "each", "numbers", "named", "face", "number"]) (sc := defScope sFrom) (by decide +kernel))
      (fun _ _ _ _ _ => pg_tup rfl (pgs_cons (pg_name (i := 4) scFrom.nd rfl (Or.inl rfl)) (pgs_cons (pg_name (i := 5) scFrom.nd rfl (Or.inl rfl)) pgs_nil))) (fun _ _ _ _ _ => pts_nil) (fun _ _ _ _ _ => pv 4) (fun _ _ _ _ _ => pv 5))))
    (pss_one (ps_ret (pe_makeIS T.mkW I hr rfl (T.g _ (by decide +kernel)) pass0 (pv 0) (pv 3)))), ?_⟩
  have hzl : (fs.zip ns).length = fs.length := by rw [List.length_zip, hn, Nat.min_self]
  have hfst : (fs.zip ns).map (·.1) = fs := List.map_fst_zip (by omega)
  have hndp : ((fs.zip ns).map (·.1)).Nodup := by rw [hfst]; exact hf.nodup
  intro p hp
  refine ⟨_, rfl, upd_same, ?_⟩
  rw [upd_upd]
  have s0 : Same H (upd H p (.dK [(Sum.inr ("each" : Str), V.int e)])) := same_upd hp
  refine ⟨_, rfl, _, rfl, txt fs, l, ns.map V.int, rfl, hf.ascii, s0.seq hl, fun D hD => ?_⟩
  have npD : p ≠ D := fun z => by rw [← z, upd_same] at hD; cases hD
  generalize hH1 : upd H p (.dK [(Sum.inr ("each" : Str), V.int e)]) = H1 at s0 hD ⊢
  have h1p : H1 p = some (.dK [(Sum.inr ("each" : Str), V.int e)]) := by rw [← hH1]; exact upd_same
  refine dc_it (walk_zs (z := txt fs) (ys := ns.map V.int) (by rw [List.length_map, hn]; simp)) (fun i H5 => Same H1 H5 ∧ H5 D = some (.dK (kvP ((fs.zip ns).take i))) ∧ i ≤ fs.length) ⟨same_upd hD, upd_same, Nat.zero_le _⟩ (fun i H5 _ q => (s0.trans q.1).seq hl) ?_ ?_
  · rintro i x H5 H6 hi ⟨s5, h5, _⟩ ⟨T1, x1, y1, rfl, hT1, rfl, hx, hy⟩
    have hi : i < fs.length := hi
    obtain ⟨c, hc, rfl⟩ : ∃ c, fs[i]? = some c ∧ x1 = .str (ltr c) := by
      have hx : (fs.toArray[i]?).map (fun c => V.str ⟨#[c]⟩) = some x1 := hx
      rw [List.getElem?_toArray] at hx
      cases hc : fs[i]? with
      | none => rw [hc] at hx; cases hx
      | some c => rw [hc] at hx; exact ⟨c, rfl, (Option.some.inj hx).symm⟩
    obtain ⟨n, hn2, rfl⟩ : ∃ n, ns[i]? = some n ∧ y1 = .int n := by
      have hy : (ns.map V.int)[i]? = some y1 := hy
      rw [List.getElem?_map] at hy
      cases hc : ns[i]? with
      | none => rw [hc] at hy; cases hy
      | some n => rw [hc] at hy; exact ⟨n, rfl, (Option.some.inj hy).symm⟩
    have hpair : (fs.zip ns)[i]? = some (c, n) := by
      rw [List.getElem?_zip_eq_some]
      exact ⟨hc, hn2⟩
    have nTD : D ≠ T1 := ne_of_none h5 hT1
    refine ⟨T1, _, rfl, SqT.of upd_same, rfl, _, _, rfl, _, _, rfl, rfl, rfl, _, rfl, _, rfl, _, Sum.inr (ltr c), rfl, (upd_ne nTD).trans h5, ?_, fun b o q => ?_, ?_, hi⟩
    · rw [kvP_len, List.length_take, sizeLine_eq]
      have := hf.hi
      omega
    · rw [upd_ne (ne_of_none q hD), upd_ne (ne_of_none (s5 b o q) hT1)]
      exact s5 b o q
    · rw [upd_same, putK_new _ ?_, List.take_add_one, hpair]
      · simp [kvP]
      · rw [valV_kvP]
        have hno : ((fs.zip ns).take i).lookup c = none := by
          refine look_no fun v hv => ?_
          obtain ⟨j, hj, ej⟩ := List.mem_iff_getElem.mp hv
          rw [List.getElem_take] at ej
          have hj' : j < i := by simp at hj; omega
          have hci : fs[i] = c := (List.getElem?_eq_some_iff.mp hc).2
          have e2 : fs[j]'(by omega) = c := by
            have := congrArg Prod.fst ej
            rw [List.getElem_zip] at this
            exact this
          have := (List.getElem_inj hf.nodup).mp (e2.trans hci.symm)
          omega
        rw [hno]
        rfl
  · rintro H5 ⟨s5, h5, _⟩
    rw [show (txt fs).cps.size = (fs.zip ns).length from by rw [hzl]; simp, List.take_length] at h5
    refine ⟨D, _, rfl, npD.symm, h5, s5 _ _ h1p, ?_, by rw [kvP_len, hzl]; have := hf.hi; omega, ?_⟩
    · rw [kvP_key, hfst]
      refine List.nodup_cons.mpr ⟨fun hm => ?_, List.Pairwise.map _ (fun _ _ hne q => hne (key_inj q)) hf.nodup⟩
      obtain ⟨c, _, e1⟩ := List.mem_map.mp hm
      exact absurd (congrArg (fun s : Str => s.cps.size) (Sum.inr.inj e1)) (by show ¬ (1 = _); decide +kernel)
    have s6 : Same H (upd H5 p (.dK ((Sum.inr ("each" : Str), V.int e) :: kvP (fs.zip ns)))) := fun b o q => by
      rw [upd_ne (ne_of_none q hp)]
      exact s5 _ _ (s0 _ _ q)
    generalize hH6 : upd H5 p (.dK ((Sum.inr ("each" : Str), V.int e) :: kvP (fs.zip ns))) = H6 at s6 ⊢
    have h6p : H6 p = some (.dK ((Sum.inr ("each" : Str), V.int e) :: kvP (fs.zip ns))) := by rw [← hH6]; exact upd_same
    -- Weights(faces, **named)
    refine ⟨_, rfl, fun q hq => ⟨_, rfl, p, .int e, (fs.zip ns).map (fun z => (ltr z.1, V.int z.2)), rfl, ?_, ?_, upd_same, ?_, ?_, ?_, ?_⟩⟩
    · exact ne_of_none h6p hq
    · rw [upd_ne (ne_of_none h6p hq), h6p]
      simp [kvP]
    · intro x hx
      rw [List.map_map] at hx
      obtain ⟨z, _, rfl⟩ := List.mem_map.mp hx
      have h1 : ∀ y : Str, y.cps.size ≠ 1 → ltr z.1 ≠ y := fun y hy e1 => hy (by rw [← e1]; rfl)
      exact ⟨h1 _ (by decide +kernel), h1 _ (by decide +kernel), h1 _ (by decide +kernel)⟩
    · rw [List.map_map]
      have e1 : (fs.zip ns).map ((fun x : Str × V => x.1) ∘ fun z : Nat × Int => (ltr z.1, V.int z.2)) = ((fs.zip ns).map (·.1)).map ltr := by rw [List.map_map]; rfl
      rw [e1, hfst]
      exact List.Pairwise.map _ (fun _ _ hne q => hne (ltr_inj q)) hf.nodup
    · rw [List.length_map, hzl]
      have := hf.hi
      omega
    · refine made_w (ps := fs.zip ns) hf (by simp [kvP, inrV]) (fun z hz => (List.of_mem_zip hz).1) hndp (by rw [hzl]; have := hf.hi; omega) fun a H' s7 W => ?_
      have hg : (fs.map fun c => ((fs.zip ns).lookup c).getD 0) = ns := by
        refine List.ext_getElem (by rw [List.length_map, hn]) fun i h1 h2 => ?_
        have hi : i < fs.length := by rw [List.length_map] at h1; exact h1
        rw [List.getElem_map, lookup_mem_nodup (n := ns[i]) hndp ?_]
        · rfl
        · rw [List.mem_iff_getElem]
          exact ⟨i, by omega, by rw [List.getElem_zip]⟩
      rw [hg] at W
      have s8 : Same H6 (upd (upd H6 q (.dK [])) q (.dK ((Sum.inr ("each" : Str), V.int e) :: inrV ((fs.zip ns).map (fun z => (ltr z.1, V.int z.2)))))) := fun b o z => by
        rw [upd_ne (ne_of_none z hq), upd_ne (ne_of_none z hq)]
        exact z
      exact k a H' ((s6.trans s8).trans s7) (W.mono (s6.trans s8))
end
end FwD
set_option Elab.async false
set_option linter.all false
set_option maxRecDepth 100000
set_option maxHeartbeats 2000000
namespace FwD
open PySem PySem.Spec PyProof.Rows L2 He He5 FwHk FwHd FwZip FwKw
theorem putK_kvP {fs : List Nat} {ns : List Int} {i c : Nat} {n : Int} (hn : ns.length = fs.length) (hd : fs.Nodup) (hc : fs[i]? = some c) : putK (kvP (fs.zip ns)) (Sum.inr (ltr c)) (.int n) = kvP (fs.zip (ns.set i n)) := by
  have hi : i < fs.length := (List.getElem?_eq_some_iff.mp hc).1
  have hci : fs[i] = c := (List.getElem?_eq_some_iff.mp hc).2
  have hany : (kvP (fs.zip ns)).any (fun kv => decide (kv.1 = Sum.inr (ltr c))) = true := by
    rw [List.any_eq_true]
    refine ⟨(Sum.inr (ltr c), V.int ns[i]), ?_, decide_eq_true rfl⟩
    unfold kvP
    refine List.mem_map.mpr ⟨(c, ns[i]), ?_, rfl⟩
    rw [List.mem_iff_getElem]
    exact ⟨i, by rw [List.length_zip]; omega, by rw [List.getElem_zip, hci]⟩
  have e1 : putK (kvP (fs.zip ns)) (Sum.inr (ltr c)) (.int n) = (kvP (fs.zip ns)).map (fun kv => if kv.1 = Sum.inr (ltr c) then (kv.1, V.int n) else kv) := by
    unfold putK
    rw [if_pos hany]
  rw [e1]
  unfold kvP
  rw [List.map_map]
  refine List.ext_getElem (by simp) fun j h1 h2 => ?_
  have hj : j < fs.length := by rw [List.length_map, List.length_zip] at h1; omega
  rw [List.getElem_map, List.getElem_map, List.getElem_zip, List.getElem_zip, List.getElem_set]
  show (if (Sum.inr (ltr fs[j]) : Key) = Sum.inr (ltr c) then _ else _) = _
  by_cases hji : i = j
  · subst hji
    rw [if_pos (by rw [hci]), if_pos rfl]
  · rw [if_neg fun e => hji ((List.getElem_inj hd).mp (hci.trans (key_inj e).symm)), if_neg hji]
theorem flds_no (fs : List Nat) (el d : Addr) {m : Str} (h1 : (m == ("faces" : Str)) = false) (h2 : (m == ("own_each" : Str)) = false) (h3 : (m == ("own_numbers" : Str)) = false) : (flds fs el d).lookup m = none := by
  simp [flds, List.lookup, h1, h2, h3]
section
variable {P : Program} {w : World} {K : PySem.W.Frag} {mg : Str → Option Value} {base : Heap} {f : Addr} {fd : FuncData}
/-! ### each -/
def spEach (K : PySem.W.Frag) : Sp := fun vs H Q _ => ∃ (a : Addr) (fs : List Nat) (e : Int) (ns : List Int), vs = [.ref a] ∧ WAt (WC K) H a fs e ns ∧ Q (.int e) H
theorem scEach : FnScope ["self"] ["self"] (defScope sEach) := ⟨rfl, rfl, rfl, by decide +kernel, rfl, by decide +kernel, by decide +kernel⟩
theorem ok_each (F : Fun K "each" "Weights.each" sEach f fd) (T : Tx K mg) : FnOk P w K mg base CX0 1 f fd ["self"] (spEach K) := by
  refine F.ok scEach (fun vs H Q E ⟨a, fs, e, ns, q, _⟩ => by rw [q]; rfl) (fun cdv A outer s H vs Q E hr ⟨a, fs, e, ns, q, ⟨dx, el, d, h1, h2, h3, h4⟩, k⟩ => ?_)
  subst q
  refine ⟨_, pss_one (ps_ret (pe_ix ix_list (pe_fld (pv 0) rfl) pe_int (fun _ _ => rfl))), ?_⟩
  exact ⟨_, rfl, a, _, dx, _, _, rfl, h1, T.cl, T.nE, flds_each _ _ _, el, _, _, _, rfl, rfl, SqL.of h2, rfl, k⟩
/-! ### __getitem__ -/
def spGet (K : PySem.W.Frag) : Sp := fun vs H Q _ => ∃ (a : Addr) (fs : List Nat) (e : Int) (ns : List Int) (i c : Nat) (n : Int), vs = [.ref a, .str (ltr c)] ∧ Faces fs ∧ WAt (WC K) H a fs e ns ∧ fs[i]? = some c ∧ ns[i]? = some n ∧ Q (.int n) H
theorem scGet : FnScope ["self", "face"] ["self", "face"] (defScope sGet) := ⟨rfl, rfl, rfl, by decide +kernel, rfl, by decide +kernel, by decide +kernel⟩
theorem val_at {fs : List Nat} {ns : List Int} {i c : Nat} {n : Int} (hf : Faces fs) (hn : ns.length = fs.length) (hc : fs[i]? = some c) (hi : ns[i]? = some n) : valV (kvP (fs.zip ns)) (Sum.inr (ltr c)) = some (.int n) := by
  rw [valV_kvP, lookup_mem_nodup (n := n) (by rw [List.map_fst_zip (by omega)]; exact hf.nodup) ?_]
  · rfl
  · obtain ⟨h1, h2⟩ := List.getElem?_eq_some_iff.mp hc
    obtain ⟨h3, h4⟩ := List.getElem?_eq_some_iff.mp hi
    rw [List.mem_iff_getElem]
    exact ⟨i, by rw [List.length_zip]; omega, by rw [List.getElem_zip, h2, h4]⟩
theorem ok_get (F : Fun K "__getitem__" "Weights.__getitem__" sGet f fd) (T : Tx K mg) (DO : Df P w K mg base CX0 1 (ga K "is_one") ["value", "letters"] spOne) : FnOk P w K mg base CX0 2 f fd ["self", "face"] (spGet K) := by
  obtain ⟨fdO, GO, kO, bO⟩ := DO.ex
  refine F.ok scGet (fun vs H Q E ⟨a, fs, e, ns, i, c, n, q, _⟩ => by rw [q]; rfl) (fun cdv A outer s H vs Q E hr ⟨a, fs, e, ns, i, c, n, q, hf, ⟨dx, el, d, h1, h2, h3, h4⟩, hc, hn, k⟩ => ?_)
  subst q
  refine ⟨_, pss_cons (ps_if (pt_not (pt_val (pe_call GO hr rfl (T.g _ (by decide +kernel)) kO bO .nil pass0 (pa_cons (pv 1) (pa_cons (pe_fld (pv 0) rfl) pa_nil))))) (pss_one ps_never) pss_nil)
    (pss_one (ps_ret (pe_dget (hu_of hr) (pe_fld (pv 0) rfl) (pv 1) (fun _ _ => rfl)))), ?_⟩
  refine ⟨_, rfl, _, rfl, a, _, dx, _, _, rfl, h1, T.cl, T.nF, flds_faces _ _ _, c, fs, rfl, List.mem_of_getElem? hc, by have := hf.hi; omega, true, rfl, iteF ?_⟩
  refine ⟨_, rfl, a, _, dx, _, _, rfl, h1, T.cl, T.nN, flds_nums _ _ _, _, rfl, d, .int n, rfl, ?_, k⟩
  have q := DGet.k (k := Sum.inr (ltr c)) h3
  rw [val_at hf h4 hc hn] at q
  exact q
/-! ### put, __setitem__ -/
def spPut (K : PySem.W.Frag) : Sp := fun vs H Q _ => ∃ (a : Addr) (fs : List Nat) (e : Int) (ns : List Int) (i c : Nat) (n : Int) (dx el d : Addr), vs = [.ref a, .str (ltr c), .int n] ∧ Faces fs ∧ WObj (WC K) H a fs e ns dx el d ∧ fs[i]? = some c ∧ Q .non (upd H d (.dK (kvP (fs.zip (ns.set i n)))))
theorem scPut : FnScope ["self", "face", "number"] ["self", "face", "number"] (defScope sPut) := ⟨rfl, rfl, rfl, by decide +kernel, rfl, by decide +kernel, by decide +kernel⟩
theorem ok_put (F : Fun K "put" "Weights.put" sPut f fd) (T : Tx K mg) (DO : Df P w K mg base CX0 1 (ga K "is_one") ["value", "letters"] spOne) (DW : Df P w K mg base CX0 1 (ga K "is_whole") ["value"] spWhole) : FnOk P w K mg base CX0 2 f fd ["self", "face", "number"] (spPut K) := by
  obtain ⟨fdO, GO, kO, bO⟩ := DO.ex
  obtain ⟨fdW, GW, kW, bW⟩ := DW.ex
  refine F.ok scPut (fun vs H Q E ⟨a, fs, e, ns, i, c, n, dx, el, d, q, _⟩ => by rw [q]; rfl) (fun cdv A outer s H vs Q E hr ⟨a, fs, e, ns, i, c, n, dx, el, d, q, hf, ⟨h1, h2, h3, h4⟩, hc, k⟩ => ?_)
  subst q
  refine ⟨_, pss_cons (ps_if (pt_not (pt_val (pe_call GO hr rfl (T.g _ (by decide +kernel)) kO bO .nil pass0 (pa_cons (pv 1) (pa_cons (pe_fld (pv 0) rfl) pa_nil))))) (pss_one ps_never) pss_nil)
    (pss_cons (ps_if (pt_not (pt_val (pe_call GW hr rfl (T.g _ (by decide +kernel)) kW bW .nil pass0 (pa_cons (pv 2) pa_nil)))) (pss_one ps_never) pss_nil)
    (pss_one (ps_dput (hu_of hr) (pe_fld (pv 0) rfl) (pv 1) (pv 2) rfl))), ?_⟩
  refine ⟨_, rfl, _, rfl, a, _, dx, _, _, rfl, h1, T.cl, T.nF, flds_faces _ _ _, c, fs, rfl, List.mem_of_getElem? hc, by have := hf.hi; omega, true, rfl, iteF ?_⟩
  refine ⟨_, rfl, n, rfl, true, rfl, iteF ?_⟩
  refine ⟨_, rfl, _, rfl, a, _, dx, _, _, rfl, h1, T.cl, T.nN, flds_nums _ _ _, _, rfl, d, _, rfl, DPut.k (k := Sum.inr (ltr c)) h3 (by rw [kvP_len, List.length_zip, sizeLine_eq]; have := hf.hi; omega), ?_⟩
  rw [putK_kvP h4 hf.nodup hc]
  exact k
theorem scSet : FnScope ["self", "face", "number"] ["self", "face", "number"] (defScope sSet) := ⟨rfl, rfl, rfl, by decide +kernel, rfl, by decide +kernel, by decide +kernel⟩
theorem ok_set (F : Fun K "__setitem__" "Weights.__setitem__" sSet f fd) (T : Tx K mg) (DP : Df P w K mg base CX0 2 (ma K (WC K) "put") ["self", "face", "number"] (spPut K)) : FnOk P w K mg base CX0 3 f fd ["self", "face", "number"] (spPut K) := by
  obtain ⟨fdP, GP, kP, bP⟩ := DP.ex
  refine F.ok scSet (fun vs H Q E ⟨a, fs, e, ns, i, c, n, dx, el, d, q, _⟩ => by rw [q]; rfl) (fun cdv A outer s H vs Q E hr ⟨a, fs, e, ns, i, c, n, dx, el, d, q, hf, hw, hc, k⟩ => ?_)
  subst q
  refine ⟨_, pss_one (ps_expr (pe_meth (pv 0) T.cl (T.me _ (by decide +kernel)) GP hr bP .nil pass0 (pa_cons (pv 1) (pa_cons (pv 2) pa_nil)))), ?_⟩
  exact ⟨_, rfl, a, dx, _, rfl, hw.1, flds_no _ _ _ (by decide +kernel) (by decide +kernel) (by decide +kernel), _, rfl, _, rfl, a, fs, e, ns, i, c, n, dx, el, d, rfl, hf, hw, hc, k⟩
end
end FwD
set_option Elab.async false
set_option linter.all false
set_option maxRecDepth 100000
set_option maxHeartbeats 2000000
namespace FwD
open PySem PySem.Spec PyProof.Rows L2 He He5 FwHk FwHd FwZip FwKw
/-- [.. for face in a text], the items ints -/
theorem lc_txt {fs : List Nat} {xs : List Int} {te : TE} {j : Nat} {σ : L2.St} {H1 : Hp} {D : Addr} {Qd : Hp → Prop} (hl : xs.length = fs.length) (hz : fs.length ≤ 100) (hD : H1 D = none)
    (hw : ∀ v, wipe ((wipe σ [j]).set j (some v)) [j] = wipe σ [j])
    (hs : ∀ (i c : Nat) (n : Int) (H2 : Hp) (R : VK), fs[i]? = some c → xs[i]? = some n → Same H1 H2 → (∀ H4, Same H2 H4 → R (.int n) H4) → te ((wipe σ [j]).set j (some (.str (ltr c)))) H2 R)
    (hd : ∀ H', Same H1 H' → H' D = some (.lst (xs.map V.int)) → Qd H') :
    ∃ W : Nat → Nat → Hp → Prop, (∃ m, W 0 m (upd H1 D (.lst []))) ∧ ∀ i m H, W i m H →
      ((Its (txt fs)).stop i H ∧ Qd H) ∨ ((Its (txt fs)).go i H ∧ ∃ Nx : Hp → Prop, (∀ H', Nx H' → ∃ m', m' < m ∧ W (i + 1) m' H') ∧ ∀ x H', (Its (txt fs)).yld i H x H' → gName j x (wipe σ [j]) H' fun σ2 H2 => wipe σ2 [j] = wipe σ [j] ∧ tYes σ2 H2 fun b H3 =>
        if b = true then te σ2 H3 fun y H4 => ∃ acc, H4 D = some (.lst acc) ∧ acc.length < sizeLine ∧ Nx (upd H4 D (.lst (acc ++ [y]))) else Nx H3) := by
  refine lc_it (walk_str (z := txt fs)) (fun i H' => Same H1 H' ∧ H' D = some (.lst ((xs.take i).map V.int)) ∧ i ≤ fs.length) ⟨same_upd hD, upd_same, Nat.zero_le _⟩ (fun _ _ _ _ => True.intro) ?_ ?_
  · rintro i x H2 H3 hi ⟨s2, h2, _⟩ ⟨rfl, c, hc, rfl⟩
    have hi : i < fs.length := hi
    have hc : fs[i]? = some c := by
      have hc : fs.toArray[i]? = some c := hc
      simpa only [List.getElem?_toArray] using hc
    have hx : xs[i]? = some (xs[i]'(by omega)) := List.getElem?_eq_getElem (by omega)
    refine ⟨hw _, ?_⟩
    refine hs i c _ H3 _ hc hx s2 fun H4 s4 => ⟨_, s4 _ _ h2, ?_, fun b o q => ?_, ?_, hi⟩
    · rw [List.length_map, List.length_take, sizeLine_eq]
      omega
    · rw [upd_ne (ne_of_none q hD)]
      exact s4 _ _ (s2 _ _ q)
    · rw [upd_same, List.take_add_one, hx, List.map_append]
      rfl
  · rintro H' ⟨s2, h2, _⟩
    refine hd H' s2 ?_
    rw [h2, show (txt fs).cps.size = xs.length from by rw [hl]; simp, List.take_length]
section
variable {P : Program} {w : World} {K : PySem.W.Frag} {mg : Str → Option Value} {base : Heap} {f : Addr} {fd : FuncData}
/-! ### copy -/
def spCopy (K : PySem.W.Frag) : Sp := fun vs H Q _ => ∃ (a : Addr) (fs : List Nat) (e : Int) (ns : List Int), vs = [.ref a] ∧ Faces fs ∧ WAt (WC K) H a fs e ns ∧ ∀ b H', Same H H' → WNew (WC K) H H' b fs e ns → Q (.ref b) H'
theorem scCopy : FnScope ["self", "face"] ["self"] (defScope sCopy) := ⟨rfl, rfl, rfl, by decide +kernel, rfl, by decide +kernel, by decide +kernel⟩
theorem ok_copy (F : Fun K "copy" "Weights.copy" sCopy f fd) (T : Tx K mg) (DF : Df P w K mg base CX0 5 (ga K "weights_from") ["faces", "each", "numbers"] (spFrom K)) : FnOk P w K mg base CX0 6 f fd ["self"] (spCopy K) := by
  obtain ⟨fdF, GF, kF, bF⟩ := DF.ex
  refine F.ok scCopy (fun vs H Q E ⟨a, fs, e, ns, q, _⟩ => by rw [q]; rfl) (fun cdv A outer s H vs Q E hr ⟨a, fs, e, ns, q, hf, ⟨dx, el, d, h1, h2, h3, h4⟩, k⟩ => ?_)
  subst q
  have hu := hu_of hr
  refine ⟨_, pss_one (ps_ret (pe_call GF hr rfl (T.g _ (by decide +kernel)) kF bF .nil pass0 (pa_cons (pe_fld (pv 0) rfl) (pa_cons (pe_ix ix_list (pe_fld (pv 0) rfl) pe_int (fun _ _ => rfl)) (pa_cons
    (pe_lc (own := [("face", 1)]) (g := gName 1) (tt := tYes) (te := tDGet (tFld K (tVar 0) "own_numbers") (tVar 1)) rfl scCopy.nd (pi_str (pe_fld (pv 0) rfl)) (blkOk_by (own := [("face", 1)]) (N := ["self", "face"]) (sc := defScope sCopy) (by decide +kernel)) (fun _ _ _ _ _ => pg_name (i := 1) scCopy.nd rfl (Or.inl rfl)) (fun _ _ _ _ _ => pts_nil)
      (fun _ _ _ _ _ => pe_dget (by assumption) (pe_fld (pv 0) (by rfl)) (pv 1) (fun _ _ => by rfl))) pa_nil))))), ?_⟩
  refine ⟨_, rfl, a, _, dx, _, _, rfl, h1, T.cl, T.nF, flds_faces _ _ _, ?_⟩
  refine ⟨_, rfl, a, _, dx, _, _, rfl, h1, T.cl, T.nE, flds_each _ _ _, el, _, _, _, rfl, rfl, SqL.of h2, rfl, ?_⟩
  refine ⟨_, rfl, a, _, dx, _, _, rfl, h1, T.cl, T.nF, flds_faces _ _ _, txt fs, rfl, fun D hD => ?_⟩
  refine lc_txt (xs := ns) h4 (by have := hf.hi; omega) hD (fun _ => rfl) (fun i c n H2 R hc hn s2 hR => ?_) fun H' s2 hl => ?_
  · refine ⟨_, rfl, a, _, dx, _, _, rfl, s2 _ _ h1, T.cl, T.nN, flds_nums _ _ _, _, rfl, d, .int n, rfl, ?_, hR _ (Same.refl _)⟩
    have q := DGet.k (k := Sum.inr (ltr c)) (s2 _ _ h3)
    rw [val_at hf h4 hc hn] at q
    exact q
  · exact ⟨fs, e, D, ns, rfl, hf, .inl (.inl hl), h4, fun b H'' s3 W => k b H'' (s2.trans s3) (W.mono s2)⟩
end
end FwD
set_option Elab.async false
set_option linter.all false
set_option maxRecDepth 100000
set_option maxHeartbeats 2000000
namespace FwD
open PySem PySem.Spec PyProof.Rows L2 He He5 FwHk FwHd FwZip FwKw
/-- within 2 ^ 40 -/
def Sm (n : Int) : Prop := -(2 ^ 40) < n ∧ n < 2 ^ 40
theorem get_num {C : Addr} {H : Hp} {d : Addr} {fs : List Nat} {ns : List Int} {i c : Nat} {n : Int} (hf : Faces fs) (h3 : H d = some (.dK (kvP (fs.zip ns)))) (h4 : ns.length = fs.length) (hc : fs[i]? = some c) (hn : ns[i]? = some n) : DGet H d (.str (ltr c)) (some (.int n)) := by
  have q := DGet.k (k := Sum.inr (ltr c)) h3
  rw [val_at hf h4 hc hn] at q
  exact q
theorem map_at {g : Int → Int} {ns : List Int} {i : Nat} {m : Int} (h : (ns.map g)[i]? = some m) : ∃ n, ns[i]? = some n ∧ m = g n := by
  rw [List.getElem?_map] at h
  cases q : ns[i]? with
  | none => rw [q] at h; cases h
  | some n => rw [q] at h; exact ⟨n, rfl, (Option.some.inj h).symm⟩
section
variable {P : Program} {w : World} {K : PySem.W.Frag} {mg : Str → Option Value} {base : Heap} {f : Addr} {fd : FuncData}
/-! ### __neg__ -/
def spNeg (K : PySem.W.Frag) : Sp := fun vs H Q _ => ∃ (a : Addr) (fs : List Nat) (e : Int) (ns : List Int), vs = [.ref a] ∧ Faces fs ∧ WAt (WC K) H a fs e ns ∧ ∀ b H', Same H H' → WNew (WC K) H H' b fs (-e) (ns.map fun n => -n) → Q (.ref b) H'
theorem scNeg : FnScope ["self", "face"] ["self"] (defScope sNeg) := ⟨rfl, rfl, rfl, by decide +kernel, rfl, by decide +kernel, by decide +kernel⟩
theorem ok_neg (F : Fun K "__neg__" "Weights.__neg__" sNeg f fd) (T : Tx K mg) (DF : Df P w K mg base CX0 5 (ga K "weights_from") ["faces", "each", "numbers"] (spFrom K)) : FnOk P w K mg base CX0 6 f fd ["self"] (spNeg K) := by
  obtain ⟨fdF, GF, kF, bF⟩ := DF.ex
  refine F.ok scNeg (fun vs H Q E ⟨a, fs, e, ns, q, _⟩ => by rw [q]; rfl) (fun cdv A outer s H vs Q E hr ⟨a, fs, e, ns, q, hf, ⟨dx, el, d, h1, h2, h3, h4⟩, k⟩ => ?_)
  subst q
  have hu := hu_of hr
  refine ⟨_, pss_one (ps_ret (pe_call GF hr rfl (T.g _ (by decide +kernel)) kF bF .nil pass0 (pa_cons (pe_fld (pv 0) rfl) (pa_cons (pe_un un_neg (pe_ix ix_list (pe_fld (pv 0) rfl) pe_int (fun _ _ => rfl))) (pa_cons
    (pe_lc (own := [("face", 1)]) (g := gName 1) (tt := tYes) (te := tUn (rU fun i => .int (-i)) (tDGet (tFld K (tVar 0) "own_numbers") (tVar 1))) rfl scNeg.nd (pi_str (pe_fld (pv 0) rfl)) (blkOk_by (own := [("face", 1)]) (N := ["self", "face"]) (sc := defScope sNeg) (by decide +kernel)) (fun _ _ _ _ _ => pg_name (i := 1) scNeg.nd rfl (Or.inl rfl)) (fun _ _ _ _ _ => pts_nil)
      (fun _ _ _ _ _ => pe_un un_neg (pe_dget (by assumption) (pe_fld (pv 0) (by rfl)) (pv 1) (fun _ _ => by rfl)))) pa_nil))))), ?_⟩
  refine ⟨_, rfl, a, _, dx, _, _, rfl, h1, T.cl, T.nF, flds_faces _ _ _, ?_⟩
  refine ⟨_, rfl, a, _, dx, _, _, rfl, h1, T.cl, T.nE, flds_each _ _ _, el, _, _, _, rfl, rfl, SqL.of h2, rfl, e, rfl, ?_⟩
  refine ⟨_, rfl, a, _, dx, _, _, rfl, h1, T.cl, T.nF, flds_faces _ _ _, txt fs, rfl, fun D hD => ?_⟩
  refine lc_txt (xs := ns.map fun n => -n) (by rw [List.length_map, h4]) (by have := hf.hi; omega) hD (fun _ => rfl) (fun i c m H2 R hc hm s2 hR => ?_) fun H' s2 hl => ?_
  · obtain ⟨n, hn, rfl⟩ := map_at hm
    exact ⟨_, rfl, a, _, dx, _, _, rfl, s2 _ _ h1, T.cl, T.nN, flds_nums _ _ _, _, rfl, d, .int n, rfl, get_num (C := a) hf (s2 _ _ h3) h4 hc hn, n, rfl, hR _ (Same.refl _)⟩
  · exact ⟨fs, _, D, _, rfl, hf, .inl (.inl hl), by rw [List.length_map, h4], fun b H'' s3 W => k b H'' (s2.trans s3) (W.mono s2)⟩
/-! ### __mul__, __rmul__ -/
def spMul (K : PySem.W.Frag) : Sp := fun vs H Q _ => ∃ (a : Addr) (fs : List Nat) (e m : Int) (ns : List Int), vs = [.ref a, .int m] ∧ Faces fs ∧ WAt (WC K) H a fs e ns ∧ Sm e ∧ (∀ n ∈ ns, Sm n) ∧ ∀ b H', Same H H' → WNew (WC K) H H' b fs (e * m) (ns.map fun n => n * m) → Q (.ref b) H'
theorem sm_mul {i j : Int} (h : Sm i) : CMul i j := .inl ⟨Int.lt_trans (by decide) h.1, Int.lt_trans h.2 (by decide)⟩
theorem scMul : FnScope ["self", "number", "numbers", "face"] ["self", "number"] (defScope sMul) := ⟨rfl, rfl, rfl, by decide +kernel, rfl, by decide +kernel, by decide +kernel⟩
theorem ok_mul (F : Fun K "__mul__" "Weights.__mul__" sMul f fd) (T : Tx K mg) (DF : Df P w K mg base CX0 5 (ga K "weights_from") ["faces", "each", "numbers"] (spFrom K)) : FnOk P w K mg base CX0 6 f fd ["self", "number"] (spMul K) := by
  obtain ⟨fdF, GF, kF, bF⟩ := DF.ex
  refine F.ok scMul (fun vs H Q E ⟨a, fs, e, m, ns, q, _⟩ => by rw [q]; rfl) (fun cdv A outer s H vs Q E hr ⟨a, fs, e, m, ns, q, hf, ⟨dx, el, d, h1, h2, h3, h4⟩, he, hns, k⟩ => ?_)
  subst q
  have hu := hu_of hr
  refine ⟨_, pss_cons (ps_setLc (i := 2) (own := [("face", 3)]) (g := gName 3) (tt := tYes) (te := tOp (rI CMul fun i j => .int (i * j)) (tDGet (tFld K (tVar 0) "own_numbers") (tVar 3)) (tVar 1)) rfl scMul.nd rfl rfl (sw_true rfl rfl rfl (by decide +kernel)) (pi_str (pe_fld (pv 0) rfl))
      (blkOk_by (own := [("face", 3)]) (N := ["self", "number", "numbers", "face"]) (sc := defScope sMul) (by decide +kernel)) (fun _ _ _ _ _ => pg_name (i := 3) scMul.nd rfl (Or.inl rfl)) (fun _ _ _ _ _ => pts_nil)
      (fun _ _ _ _ _ => pe_op op_mul (pe_dget (by assumption) (pe_fld (pv 0) (by rfl)) (pv 3) (fun _ _ => by rfl)) (pv 1)))
    (pss_one (ps_ret (pe_call GF hr rfl (T.g _ (by decide +kernel)) kF bF .nil pass0 (pa_cons (pe_fld (pv 0) rfl) (pa_cons (pe_op op_mul (pe_ix ix_list (pe_fld (pv 0) rfl) pe_int (fun _ _ => rfl)) (pv 1)) (pa_cons (pv 2) pa_nil)))))), ?_⟩
  refine ⟨_, rfl, a, _, dx, _, _, rfl, h1, T.cl, T.nF, flds_faces _ _ _, txt fs, rfl, fun D hD => ?_⟩
  refine lc_txt (xs := ns.map fun n => n * m) (by rw [List.length_map, h4]) (by have := hf.hi; omega) hD (fun _ => rfl) (fun i c m' H2 R hc hm s2 hR => ?_) fun H' s2 hl => ?_
  · obtain ⟨n, hn, rfl⟩ := map_at hm
    exact ⟨_, rfl, a, _, dx, _, _, rfl, s2 _ _ h1, T.cl, T.nN, flds_nums _ _ _, _, rfl, d, .int n, rfl, get_num (C := a) hf (s2 _ _ h3) h4 hc hn, _, rfl, n, m, rfl, rfl, sm_mul (hns n (List.mem_of_getElem? hn)), hR _ (Same.refl _)⟩
  · refine ⟨_, rfl, a, _, dx, _, _, rfl, s2 _ _ h1, T.cl, T.nF, flds_faces _ _ _, ?_⟩
    refine ⟨_, rfl, a, _, dx, _, _, rfl, s2 _ _ h1, T.cl, T.nE, flds_each _ _ _, el, _, _, _, rfl, rfl, SqL.of (s2 _ _ h2), rfl, _, rfl, e, m, rfl, rfl, sm_mul he, ?_⟩
    exact ⟨_, rfl, fs, _, D, _, rfl, hf, .inl (.inl hl), by rw [List.length_map, h4], fun b H'' s3 W => k b H'' (s2.trans s3) (W.mono s2)⟩
theorem scRmul : FnScope ["self", "number", "numbers", "face"] ["self", "number"] (defScope sRmul) := ⟨rfl, rfl, rfl, by decide +kernel, rfl, by decide +kernel, by decide +kernel⟩
theorem ok_rmul (F : Fun K "__rmul__" "Weights.__rmul__" sRmul f fd) (T : Tx K mg) (DF : Df P w K mg base CX0 5 (ga K "weights_from") ["faces", "each", "numbers"] (spFrom K)) : FnOk P w K mg base CX0 6 f fd ["self", "number"] (spMul K) := by
  obtain ⟨fdF, GF, kF, bF⟩ := DF.ex
  refine F.ok scRmul (fun vs H Q E ⟨a, fs, e, m, ns, q, _⟩ => by rw [q]; rfl) (fun cdv A outer s H vs Q E hr ⟨a, fs, e, m, ns, q, hf, ⟨dx, el, d, h1, h2, h3, h4⟩, he, hns, k⟩ => ?_)
  subst q
  have hu := hu_of hr
  refine ⟨_, pss_cons (ps_setLc (i := 2) (own := [("face", 3)]) (g := gName 3) (tt := tYes) (te := tOp (rI CMul fun i j => .int (i * j)) (tDGet (tFld K (tVar 0) "own_numbers") (tVar 3)) (tVar 1)) rfl scRmul.nd rfl rfl (sw_true rfl rfl rfl (by decide +kernel)) (pi_str (pe_fld (pv 0) rfl))
      (blkOk_by (own := [("face", 3)]) (N := ["self", "number", "numbers", "face"]) (sc := defScope sRmul) (by decide +kernel)) (fun _ _ _ _ _ => pg_name (i := 3) scRmul.nd rfl (Or.inl rfl)) (fun _ _ _ _ _ => pts_nil)
      (fun _ _ _ _ _ => pe_op op_mul (pe_dget (by assumption) (pe_fld (pv 0) (by rfl)) (pv 3) (fun _ _ => by rfl)) (pv 1)))
    (pss_one (ps_ret (pe_call GF hr rfl (T.g _ (by decide +kernel)) kF bF .nil pass0 (pa_cons (pe_fld (pv 0) rfl) (pa_cons (pe_op op_mul (pe_ix ix_list (pe_fld (pv 0) rfl) pe_int (fun _ _ => rfl)) (pv 1)) (pa_cons (pv 2) pa_nil)))))), ?_⟩
  refine ⟨_, rfl, a, _, dx, _, _, rfl, h1, T.cl, T.nF, flds_faces _ _ _, txt fs, rfl, fun D hD => ?_⟩
  refine lc_txt (xs := ns.map fun n => n * m) (by rw [List.length_map, h4]) (by have := hf.hi; omega) hD (fun _ => rfl) (fun i c m' H2 R hc hm s2 hR => ?_) fun H' s2 hl => ?_
  · obtain ⟨n, hn, rfl⟩ := map_at hm
    exact ⟨_, rfl, a, _, dx, _, _, rfl, s2 _ _ h1, T.cl, T.nN, flds_nums _ _ _, _, rfl, d, .int n, rfl, get_num (C := a) hf (s2 _ _ h3) h4 hc hn, _, rfl, n, m, rfl, rfl, sm_mul (hns n (List.mem_of_getElem? hn)), hR _ (Same.refl _)⟩
  · refine ⟨_, rfl, a, _, dx, _, _, rfl, s2 _ _ h1, T.cl, T.nF, flds_faces _ _ _, ?_⟩
    refine ⟨_, rfl, a, _, dx, _, _, rfl, s2 _ _ h1, T.cl, T.nE, flds_each _ _ _, el, _, _, _, rfl, rfl, SqL.of (s2 _ _ h2), rfl, _, rfl, e, m, rfl, rfl, sm_mul he, ?_⟩
    exact ⟨_, rfl, fs, _, D, _, rfl, hf, .inl (.inl hl), by rw [List.length_map, h4], fun b H'' s3 W => k b H'' (s2.trans s3) (W.mono s2)⟩
end
end FwD
set_option Elab.async false
set_option linter.all false
set_option maxRecDepth 100000
set_option maxHeartbeats 2000000
namespace FwD
open PySem PySem.Spec PyProof.Rows L2 He He5 FwHk FwHd FwZip FwKw
abbrev OC (K : PySem.W.Frag) : Addr := ga K "OtherFaces"
/-- what is told of the class's own hooks -/
structure Wx (K : PySem.W.Frag) : Prop where
  pr : PropOf K (WC K) "each" (propA K (WC K) "each") (propG K (WC K) "each")
  gi : PySem.W.fnIn K (ma K (WC K) "__getitem__") = true
  sf : PySem.W.selfFirst K (WC K) = true
  ns : PySem.W.noSeq K (WC K) = true
  im : ∃ r, PySem.W.findIn K (.type "int") "__mul__" = some r
  ir : ∃ r, PySem.W.findIn K (.type "int") "__rmul__" = some r
  s1 : PySem.W.subIn K (.type "int") (.ref (WC K)) = some false
  s2 : PySem.W.subIn K (.ref (WC K)) (.type "int") = some false
theorem wx_of {K : PySem.W.Frag} {mg : Str → Option Value} (T : Tx K mg) : Wx K := by
  obtain ⟨h, _⟩ := bb T.ex
  obtain ⟨h1, h⟩ := bb h
  obtain ⟨h2, h⟩ := bb h
  obtain ⟨h3, h⟩ := bb h
  obtain ⟨h4, h⟩ := bb h
  obtain ⟨h5, h⟩ := bb h
  obtain ⟨h6, h⟩ := bb h
  obtain ⟨h7, h8⟩ := bb h
  exact ⟨propB_ok h1, h2, h3, h4, Option.isSome_iff_exists.mp h5, Option.isSome_iff_exists.mp h6, of_decide_eq_true h7, of_decide_eq_true h8⟩
/-- .. of OtherFaces -/
structure Ox (K : PySem.W.Frag) : Prop where
  sup : supB K prog (OC K) (sf K) "OtherFaces.__init__" = true
  xf : XfC K (OC K)
  exm : PySem.W.exmAny K (.ref (OC K)) [.ref (ga K "HouseError"), .ref (ga K "Missing"), .ref (ga K "NothingLeft")] = some true
  iC : PySem.W.findIn K (.ref (OC K)) "__init__" = some (some (.ref (sf K)))
  tI : PySem.W.typeIn K (.ref (sf K)) = some (.type "function")
  no : ∀ x ∈ (["at", "most", "line", "state", "given"] : List String), PySem.W.findIn K (.ref (OC K)) (x : Str) = some none
theorem ox_of {K : PySem.W.Frag} {mg : Str → Option Value} (T : Tx K mg) : Ox K := by
  obtain ⟨_, h⟩ := bb T.ex
  obtain ⟨h1, h⟩ := bb h
  obtain ⟨h2, h⟩ := bb h
  obtain ⟨h3, h⟩ := bb h
  obtain ⟨h4, h⟩ := bb h
  obtain ⟨h5, h6⟩ := bb h
  exact ⟨h1, xfB_ok h2, of_decide_eq_true h3, eqO_ok h4, of_decide_eq_true h5, fun x hx => eqO_ok (List.all_eq_true.mp h6 x hx)⟩
theorem Ox.oex {K : PySem.W.Frag} (O : Ox K) : OexC K (OC K) := oexB_ok (bb (bb O.sup).2).1
theorem Ox.code {K : PySem.W.Frag} (O : Ox K) : PySem.W.findIn K (.ref (OC K)) "code" = some none := eqO_ok (bb (bb (bb (bb (bb (bb (bb O.sup).2).2).2).2).2).2).2
/-- its __init__ -/
theorem ok_oth {w : World} {K : PySem.W.Frag} {mg : Str → Option Value} {base : Heap} (O : Ox K) (T : Tx K mg) (e : supV K (sf K) = sv) : ∃ fd, FnOk prog w K mg base CX0 1 (sf K) fd ["self"] (FwEx.spSup (OC K) "OtherFaces") ∧ Binds K fd ["self"] [] := by
  obtain ⟨fd, cc, cda, S⟩ := supB_ok e O.sup
  obtain ⟨⟨oc, od, doc, pm, ct, osl, rfl, lk⟩, r⟩ := id S
  refine ⟨_, FwEx.fn_sup (k := 0) (ar := (defArgs sOthI).args.headD ⟨"", none, ⟨0, 0, 0, 0⟩⟩) S (NdefX.nscope_by (by decide +kernel)) (by decide +kernel) (T.fr _ (by decide +kernel)) (by decide +kernel) rfl rfl (by decide +kernel) (pl := pure false) (fun _ => rfl), .all fun us hl => match us, hl with | [_], _ => rfl⟩
section
variable {P : Program} {w : World} {K : PySem.W.Frag} {mg : Str → Option Value} {base : Heap} {f : Addr} {fd : FuncData}
theorem txt_ne {fs gs : List Nat} (h : fs ≠ gs) : V.str (txt fs) ≠ V.str (txt gs) := fun e => h (by
  have := congrArg (fun s : Str => s.cps.toList) (V.str.inj e)
  simpa using this)
/-- a op b: new weights where the faces are the same, OtherFaces where they differ -/
def spBin (K : PySem.W.Frag) (g : Int → Int → Int) : Sp := fun vs H Q E => ∃ (a b : Addr) (fs gs : List Nat) (e e2 : Int) (ns ms : List Int), vs = [.ref a, .ref b] ∧ Faces fs ∧ WAt (WC K) H a fs e ns ∧ WAt (WC K) H b gs e2 ms ∧
  (fs = gs → ∀ c H', Same H H' → WNew (WC K) H H' c fs (g e e2) (List.zipWith g ns ms) → Q (.ref c) H') ∧
  (fs ≠ gs → ∀ d H', Same H H' → H d = none → H' d = some (.xd [("code", .str "OtherFaces")]) → E (.ref (OC K)) (some d) H')
/-- the raise's end -/
theorem oth_raise {σ : L2.St} {H : Hp} {C : Addr} {R : XK} (h : ∀ d H', Same H H' → H d = none → H' d = some (.xd [(("code" : Str), .str "OtherFaces")]) → R (.ref C) (some d) H') :
    FwEx.tMkO0 C (FwEx.spSup C "OtherFaces") σ H R := by
  intro x hx
  refine ⟨x, rfl, upd_same, fun dx hdx hne => ⟨rfl, dx, _, upd_same, (by rw [upd_ne hne]; exact upd_same), ?_, ?_⟩⟩
  · rw [upd_ne hne] at hdx
    exact hdx
  · have hd : H dx = none := by rw [upd_ne hne] at hdx; exact hdx
    refine h dx _ (fun b o q => ?_) hd upd_same
    rw [upd_ne (ne_of_none q hd), del_ne (ne_of_none q hx), upd_ne (ne_of_none q hx), upd_ne (ne_of_none q hd), upd_ne (ne_of_none q hx)]
    exact q
theorem zip_at {g : Int → Int → Int} {ns ms : List Int} {i : Nat} {m : Int} (h : (List.zipWith g ns ms)[i]? = some m) : ∃ n n2, ns[i]? = some n ∧ ms[i]? = some n2 ∧ m = g n n2 := by
  rw [List.getElem?_zipWith] at h
  cases q : ns[i]? with
  | none => rw [q] at h; cases h
  | some n =>
    cases q2 : ms[i]? with
    | none => rw [q, q2] at h; cases h
    | some n2 => rw [q, q2] at h; exact ⟨n, n2, rfl, rfl, (Option.some.inj h).symm⟩
theorem scAdd : FnScope ["self", "other", "numbers", "face"] ["self", "other"] (defScope sAdd) := ⟨rfl, rfl, rfl, by decide +kernel, rfl, by decide +kernel, by decide +kernel⟩
theorem ok_add (F : Fun K "__add__" "Weights.__add__" sAdd f fd) (T : Tx K mg) (DF : Df P w K mg base CX0 5 (ga K "weights_from") ["faces", "each", "numbers"] (spFrom K)) (DG : Df P w K mg base CX0 2 (ma K (WC K) "__getitem__") ["self", "face"] (spGet K))
    (DE : Df P w K mg base CX0 1 (propG K (WC K) "each") ["self"] (spEach K)) (DO : ∃ fd, FnOk P w K mg base CX0 1 (sf K) fd ["self"] (FwEx.spSup (OC K) "OtherFaces") ∧ Binds K fd ["self"] []) :
    FnOk P w K mg base (L2.CX P w) 6 f fd ["self", "other"] (spBin K fun i j => i + j) := by
  obtain ⟨fdF, GF, kF, bF⟩ := DF.ex
  obtain ⟨fdG, GG, kG, bG⟩ := DG.ex
  obtain ⟨fdE, GE, kE, bE⟩ := DE.ex
  obtain ⟨fdO, GO, bO⟩ := DO
  have W := wx_of T
  have O := ox_of T
  refine F.okX scAdd (fun vs H Q E ⟨a, b, fs, gs, e, e2, ns, ms, q, _⟩ => by rw [q]; rfl) (fun cdv A outer s H vs Q E hr ⟨a, b, fs, gs, e, e2, ns, ms, q, hf, ⟨dx, el, d, h1, h2, h3, h4⟩, ⟨dx2, el2, d2, g1, g2, g3, g4⟩, k, kr⟩ => ?_)
  subst q
  have hu := hu_of hr
  have hrG : Room 3 (A.deeper (envOfC "Weights.__add__" (defScope sAdd) s.heap.objs.size f cdv)) := hr.mono (by decide)
  have hr2 : Room 2 (A.deeper (envOfC "Weights.__add__" (defScope sAdd) s.heap.objs.size f cdv)) := hr.mono (by decide)
  refine ⟨_, pss_cons (ps_if (pt_cmpR op_ne (pe_fld (pv 1) rfl) (pe_fld (pv 0) rfl) (nomark _)) (pss_one (ps_raise rfl (takes_of rfl rfl rfl rfl) (FwEx.pmk_oex0 O.oex O.iC O.tI GO hr2 bO pass0 rfl (T.g _ (by decide +kernel))))) pss_nil)
    (PSs.nox (pss_cons (ps_setLc (i := 2) (own := [("face", 3)]) (g := gName 3) (tt := tYes) (te := tOp (rI0 fun i j => .int (i + j)) (tDGet (tFld K (tVar 0) "own_numbers") (tVar 3)) (tOp (fun x y H Q => FwOp.IsI H (WC K) x ∧ spGet K [x, y] H Q E0) (tVar 1) (tVar 3))) rfl scAdd.nd rfl rfl (sw_true rfl rfl rfl (by decide +kernel)) (pi_str (pe_fld (pv 0) rfl))
      (blkOk_by (own := [("face", 3)]) (N := ["self", "other", "numbers", "face"]) (sc := defScope sAdd) (by decide +kernel)) (fun _ _ _ _ _ => pg_name (i := 3) scAdd.nd rfl (Or.inl rfl)) (fun _ _ _ _ _ => pts_nil)
      (fun _ _ _ _ _ => pe_op op_add (pe_dget (by assumption) (pe_fld (pv 0) (by rfl)) (pv 3) (fun _ _ => by rfl)) (FwOp.ix_own (k := 2) (C := WC K) GG (by exact hrG) bG pass0 (T.me _ (by decide +kernel)).at_ (T.me _ (by decide +kernel)).fn W.gi (pv 1) (pv 3))))
    (pss_one (ps_ret (pe_call GF hr rfl (T.g _ (by decide +kernel)) kF bF .nil pass0 (pa_cons (pe_fld (pv 0) rfl) (pa_cons (pe_op op_add (pe_ix ix_list (pe_fld (pv 0) rfl) pe_int (fun _ _ => rfl)) (pe_prop (pv 1) T.cl W.pr GE hr2 bE .nil pass0 rfl)) (pa_cons (pv 2) pa_nil)))))))), ?_⟩
  refine ⟨_, rfl, b, _, dx2, _, _, rfl, g1, T.cl, T.nF, flds_faces _ _ _, _, rfl, a, _, dx, _, _, rfl, h1, T.cl, T.nF, flds_faces _ _ _, rfl, _, rfl, ?_⟩
  by_cases hfg : fs = gs
  · subst hfg
    refine iteNS rfl ?_
    refine ⟨_, rfl, a, _, dx, _, _, rfl, h1, T.cl, T.nF, flds_faces _ _ _, txt fs, rfl, fun D hD => ?_⟩
    refine lc_txt (xs := List.zipWith (fun i j => i + j) ns ms) (by rw [List.length_zipWith, h4, g4, Nat.min_self]) (by have := hf.hi; omega) hD (fun _ => rfl) (fun i c m' H2 R hc hm s2 hR => ?_) fun H' s2 hl => ?_
    · obtain ⟨n, n2, hn, hn2, rfl⟩ := zip_at hm
      exact ⟨_, rfl, a, _, dx, _, _, rfl, s2 _ _ h1, T.cl, T.nN, flds_nums _ _ _, _, rfl, d, .int n, rfl, get_num (C := a) hf (s2 _ _ h3) h4 hc hn, _, rfl, _, rfl, ⟨b, dx2, _, rfl, s2 _ _ g1⟩,
        b, fs, e2, ms, i, c, n2, rfl, hf, ⟨dx2, el2, d2, s2 _ _ g1, s2 _ _ g2, s2 _ _ g3, g4⟩, hc, hn2, n, n2, rfl, rfl, hR _ (Same.refl _)⟩
    · refine ⟨_, rfl, a, _, dx, _, _, rfl, s2 _ _ h1, T.cl, T.nF, flds_faces _ _ _, ?_⟩
      refine ⟨_, rfl, a, _, dx, _, _, rfl, s2 _ _ h1, T.cl, T.nE, flds_each _ _ _, el, _, _, _, rfl, rfl, SqL.of (s2 _ _ h2), rfl, ?_⟩
      refine ⟨_, rfl, b, dx2, _, rfl, s2 _ _ g1, b, fs, e2, ms, rfl, ⟨dx2, el2, d2, s2 _ _ g1, s2 _ _ g2, s2 _ _ g3, g4⟩, e, e2, rfl, rfl, ?_⟩
      exact ⟨_, rfl, fs, _, D, _, rfl, hf, .inl (.inl hl), by rw [List.length_zipWith, h4, g4, Nat.min_self], fun c H'' s3 W => k rfl c H'' (s2.trans s3) (W.mono s2)⟩
  · rw [decide_eq_false (txt_ne (Ne.symm hfg))]
    refine iteT ?_
    exact oth_raise (kr hfg)
theorem scSub : FnScope ["self", "other", "numbers", "face"] ["self", "other"] (defScope sSub) := ⟨rfl, rfl, rfl, by decide +kernel, rfl, by decide +kernel, by decide +kernel⟩
theorem ok_sub (F : Fun K "__sub__" "Weights.__sub__" sSub f fd) (T : Tx K mg) (DF : Df P w K mg base CX0 5 (ga K "weights_from") ["faces", "each", "numbers"] (spFrom K)) (DG : Df P w K mg base CX0 2 (ma K (WC K) "__getitem__") ["self", "face"] (spGet K))
    (DE : Df P w K mg base CX0 1 (propG K (WC K) "each") ["self"] (spEach K)) (DO : ∃ fd, FnOk P w K mg base CX0 1 (sf K) fd ["self"] (FwEx.spSup (OC K) "OtherFaces") ∧ Binds K fd ["self"] []) :
    FnOk P w K mg base (L2.CX P w) 6 f fd ["self", "other"] (spBin K fun i j => i - j) := by
  obtain ⟨fdF, GF, kF, bF⟩ := DF.ex
  obtain ⟨fdG, GG, kG, bG⟩ := DG.ex
  obtain ⟨fdE, GE, kE, bE⟩ := DE.ex
  obtain ⟨fdO, GO, bO⟩ := DO
  have W := wx_of T
  have O := ox_of T
  refine F.okX scSub (fun vs H Q E ⟨a, b, fs, gs, e, e2, ns, ms, q, _⟩ => by rw [q]; rfl) (fun cdv A outer s H vs Q E hr ⟨a, b, fs, gs, e, e2, ns, ms, q, hf, ⟨dx, el, d, h1, h2, h3, h4⟩, ⟨dx2, el2, d2, g1, g2, g3, g4⟩, k, kr⟩ => ?_)
  subst q
  have hu := hu_of hr
  have hrG : Room 3 (A.deeper (envOfC "Weights.__sub__" (defScope sSub) s.heap.objs.size f cdv)) := hr.mono (by decide)
  have hr2 : Room 2 (A.deeper (envOfC "Weights.__sub__" (defScope sSub) s.heap.objs.size f cdv)) := hr.mono (by decide)
  refine ⟨_, pss_cons (ps_if (pt_cmpR op_ne (pe_fld (pv 1) rfl) (pe_fld (pv 0) rfl) (nomark _)) (pss_one (ps_raise rfl (takes_of rfl rfl rfl rfl) (FwEx.pmk_oex0 O.oex O.iC O.tI GO hr2 bO pass0 rfl (T.g _ (by decide +kernel))))) pss_nil)
    (PSs.nox (pss_cons (ps_setLc (i := 2) (own := [("face", 3)]) (g := gName 3) (tt := tYes) (te := tOp (rI0 fun i j => .int (i - j)) (tDGet (tFld K (tVar 0) "own_numbers") (tVar 3)) (tOp (fun x y H Q => FwOp.IsI H (WC K) x ∧ spGet K [x, y] H Q E0) (tVar 1) (tVar 3))) rfl scSub.nd rfl rfl (sw_true rfl rfl rfl (by decide +kernel)) (pi_str (pe_fld (pv 0) rfl))
      (blkOk_by (own := [("face", 3)]) (N := ["self", "other", "numbers", "face"]) (sc := defScope sSub) (by decide +kernel)) (fun _ _ _ _ _ => pg_name (i := 3) scSub.nd rfl (Or.inl rfl)) (fun _ _ _ _ _ => pts_nil)
      (fun _ _ _ _ _ => pe_op op_sub (pe_dget (by assumption) (pe_fld (pv 0) (by rfl)) (pv 3) (fun _ _ => by rfl)) (FwOp.ix_own (k := 2) (C := WC K) GG (by exact hrG) bG pass0 (T.me _ (by decide +kernel)).at_ (T.me _ (by decide +kernel)).fn W.gi (pv 1) (pv 3))))
    (pss_one (ps_ret (pe_call GF hr rfl (T.g _ (by decide +kernel)) kF bF .nil pass0 (pa_cons (pe_fld (pv 0) rfl) (pa_cons (pe_op op_sub (pe_ix ix_list (pe_fld (pv 0) rfl) pe_int (fun _ _ => rfl)) (pe_prop (pv 1) T.cl W.pr GE hr2 bE .nil pass0 rfl)) (pa_cons (pv 2) pa_nil)))))))), ?_⟩
  refine ⟨_, rfl, b, _, dx2, _, _, rfl, g1, T.cl, T.nF, flds_faces _ _ _, _, rfl, a, _, dx, _, _, rfl, h1, T.cl, T.nF, flds_faces _ _ _, rfl, _, rfl, ?_⟩
  by_cases hfg : fs = gs
  · subst hfg
    refine iteNS rfl ?_
    refine ⟨_, rfl, a, _, dx, _, _, rfl, h1, T.cl, T.nF, flds_faces _ _ _, txt fs, rfl, fun D hD => ?_⟩
    refine lc_txt (xs := List.zipWith (fun i j => i - j) ns ms) (by rw [List.length_zipWith, h4, g4, Nat.min_self]) (by have := hf.hi; omega) hD (fun _ => rfl) (fun i c m' H2 R hc hm s2 hR => ?_) fun H' s2 hl => ?_
    · obtain ⟨n, n2, hn, hn2, rfl⟩ := zip_at hm
      exact ⟨_, rfl, a, _, dx, _, _, rfl, s2 _ _ h1, T.cl, T.nN, flds_nums _ _ _, _, rfl, d, .int n, rfl, get_num (C := a) hf (s2 _ _ h3) h4 hc hn, _, rfl, _, rfl, ⟨b, dx2, _, rfl, s2 _ _ g1⟩,
        b, fs, e2, ms, i, c, n2, rfl, hf, ⟨dx2, el2, d2, s2 _ _ g1, s2 _ _ g2, s2 _ _ g3, g4⟩, hc, hn2, n, n2, rfl, rfl, hR _ (Same.refl _)⟩
    · refine ⟨_, rfl, a, _, dx, _, _, rfl, s2 _ _ h1, T.cl, T.nF, flds_faces _ _ _, ?_⟩
      refine ⟨_, rfl, a, _, dx, _, _, rfl, s2 _ _ h1, T.cl, T.nE, flds_each _ _ _, el, _, _, _, rfl, rfl, SqL.of (s2 _ _ h2), rfl, ?_⟩
      refine ⟨_, rfl, b, dx2, _, rfl, s2 _ _ g1, b, fs, e2, ms, rfl, ⟨dx2, el2, d2, s2 _ _ g1, s2 _ _ g2, s2 _ _ g3, g4⟩, e, e2, rfl, rfl, ?_⟩
      exact ⟨_, rfl, fs, _, D, _, rfl, hf, .inl (.inl hl), by rw [List.length_zipWith, h4, g4, Nat.min_self], fun c H'' s3 W => k rfl c H'' (s2.trans s3) (W.mono s2)⟩
  · rw [decide_eq_false (txt_ne (Ne.symm hfg))]
    refine iteT ?_
    exact oth_raise (kr hfg)
end
end FwD
set_option Elab.async false
set_option linter.all false
set_option maxRecDepth 100000
set_option maxHeartbeats 2000000
namespace FwD
open PySem PySem.Spec PyProof.Rows L2 He He5 FwHk FwHd FwZip FwKw
section
variable {P : Program} {w : World} {K : PySem.W.Frag} {mg : Str → Option Value} {base : Heap} {f : Addr} {fd : FuncData}
/-! ### __iadd__ -/
/-- in place: self's fields change, nothing else -/
def spIadd (K : PySem.W.Frag) : Sp := fun vs H Q E => ∃ (a b : Addr) (fs gs : List Nat) (e e2 : Int) (ns ms : List Int), vs = [.ref a, .ref b] ∧ a ≠ b ∧ Faces fs ∧ WAt (WC K) H a fs e ns ∧ WAt (WC K) H b gs e2 ms ∧
  (fs = gs → ∀ H' dx el d, H el = none → H d = none → WObj (WC K) H' a fs (e + e2) (List.zipWith (fun i j => i + j) ns ms) dx el d → (∀ c o, H c = some o → c ≠ a → H' c = some o) → Q (.ref a) H') ∧
  (fs ≠ gs → ∀ d H', Same H H' → H d = none → H' d = some (.xd [("code", .str "OtherFaces")]) → E (.ref (OC K)) (some d) H')
theorem scIadd : FnScope ["self", "other", "face"] ["self", "other"] (defScope sIadd) := ⟨rfl, rfl, rfl, by decide +kernel, rfl, by decide +kernel, by decide +kernel⟩
theorem putF_n {fs : List Nat} {el d d' : Addr} : putF ("own_numbers" : Str) (.ref d') (flds fs el d) = flds fs el d' := by
  show (if ("faces" : Str) = "own_numbers" then _ else (("faces" : Str), V.str (txt fs)) :: (if ("own_each" : Str) = "own_numbers" then _ else (("own_each" : Str), V.ref el) :: (if ("own_numbers" : Str) = "own_numbers" then _ else _))) = _
  rw [if_neg n13, if_neg n23, if_pos rfl]
  rfl
theorem putF_e {fs : List Nat} {el d el' : Addr} : putF ("own_each" : Str) (.ref el') (flds fs el d) = flds fs el' d := by
  show (if ("faces" : Str) = "own_each" then _ else (("faces" : Str), V.str (txt fs)) :: (if ("own_each" : Str) = "own_each" then _ else _)) = _
  rw [if_neg n12, if_pos rfl]
  rfl
theorem ok_iadd (F : Fun K "__iadd__" "Weights.__iadd__" sIadd f fd) (T : Tx K mg) (DG : Df P w K mg base CX0 2 (ma K (WC K) "__getitem__") ["self", "face"] (spGet K))
    (DE : Df P w K mg base CX0 1 (propG K (WC K) "each") ["self"] (spEach K)) (DO : ∃ fd, FnOk P w K mg base CX0 1 (sf K) fd ["self"] (FwEx.spSup (OC K) "OtherFaces") ∧ Binds K fd ["self"] []) :
    FnOk P w K mg base (L2.CX P w) 4 f fd ["self", "other"] (spIadd K) := by
  obtain ⟨fdG, GG, kG, bG⟩ := DG.ex
  obtain ⟨fdE, GE, kE, bE⟩ := DE.ex
  obtain ⟨fdO, GO, bO⟩ := DO
  have W := wx_of T
  have O := ox_of T
  refine F.okX scIadd (fun vs H Q E ⟨a, b, fs, gs, e, e2, ns, ms, q, _⟩ => by rw [q]; rfl) (fun cdv A outer s H vs Q E hr ⟨a, b, fs, gs, e, e2, ns, ms, q, hab, hf, ⟨dx, el, d, h1, h2, h3, h4⟩, ⟨dx2, el2, d2, g1, g2, g3, g4⟩, k, kr⟩ => ?_)
  subst q
  have hu := hu_of hr
  have hr2 : Room 2 (A.deeper (envOfC "Weights.__iadd__" (defScope sIadd) s.heap.objs.size f cdv)) := hr.mono (by decide)
  refine ⟨_, pss_cons (ps_if (pt_cmpR op_ne (pe_fld (pv 1) rfl) (pe_fld (pv 0) rfl) (nomark _)) (pss_one (ps_raise rfl (takes_of rfl rfl rfl rfl) (FwEx.pmk_oex0 O.oex O.iC O.tI GO hr2 bO pass0 rfl (T.g _ (by decide +kernel))))) pss_nil)
    (PSs.nox (pss_cons (ps_fld (pv 0) (pe_dc (own := [("face", 2)]) (g := gName 2) (tt := tYes) (tk := tVar 2) (tv := tOp (rI0 fun i j => .int (i + j)) (tDGet (tFld K (tVar 0) "own_numbers") (tVar 2)) (tOp (fun x y H Q => FwOp.IsI H (WC K) x ∧ spGet K [x, y] H Q E0) (tVar 1) (tVar 2))) rfl scIadd.nd (pi_str (pe_fld (pv 0) rfl))
      (blkOk_by (own := [("face", 2)]) (N := ["self", "other", "face"]) (sc := defScope sIadd) (by decide +kernel)) (fun _ _ _ _ _ => pg_name (i := 2) scIadd.nd rfl (Or.inl rfl)) (fun _ _ _ _ _ => pts_nil) (fun _ _ _ _ _ => pv 2)
      (fun _ _ _ _ _ => pe_op op_add (pe_dget (by assumption) (pe_fld (pv 0) (by rfl)) (pv 2) (fun _ _ => by rfl)) (FwOp.ix_own (k := 2) (C := WC K) GG (by exact hr) bG pass0 (T.me _ (by decide +kernel)).at_ (T.me _ (by decide +kernel)).fn W.gi (pv 1) (pv 2)))) rfl)
    (pss_cons (ps_fld (pv 0) (pe_lst (pa_cons (pe_op op_add (pe_ix ix_list (pe_fld (pv 0) rfl) pe_int (fun _ _ => rfl)) (pe_prop (pv 1) T.cl W.pr GE hr2 bE .nil pass0 rfl)) pa_nil)) rfl)
    (pss_one (ps_ret (pv 0)))))), ?_⟩
  refine ⟨_, rfl, b, _, dx2, _, _, rfl, g1, T.cl, T.nF, flds_faces _ _ _, _, rfl, a, _, dx, _, _, rfl, h1, T.cl, T.nF, flds_faces _ _ _, rfl, _, rfl, ?_⟩
  by_cases hfg : fs = gs
  · subst hfg
    refine iteNS rfl ?_
    refine ⟨_, rfl, a, _, dx, _, _, rfl, h1, T.cl, T.nF, flds_faces _ _ _, txt fs, rfl, fun D hD => ?_⟩
    have hzl : (fs.zip (List.zipWith (fun i j => i + j) ns ms)).length = fs.length := by rw [List.length_zip, List.length_zipWith, h4, g4, Nat.min_self, Nat.min_self]
    refine dc_it (walk_str (z := txt fs)) (fun i H5 => Same H H5 ∧ H5 D = some (.dK (kvP ((fs.zip (List.zipWith (fun i j => i + j) ns ms)).take i))) ∧ i ≤ fs.length) ⟨same_upd hD, upd_same, Nat.zero_le _⟩ (fun _ _ _ _ => True.intro) ?_ ?_
    · rintro i x H5 H6 hi ⟨s5, h5, _⟩ ⟨rfl, c, hc, rfl⟩
      have hi : i < fs.length := hi
      have hc : fs[i]? = some c := by
        have hc : fs.toArray[i]? = some c := hc
        simpa only [List.getElem?_toArray] using hc
      have hn : ns[i]? = some (ns[i]'(by omega)) := List.getElem?_eq_getElem (by omega)
      have hm : ms[i]? = some (ms[i]'(by omega)) := List.getElem?_eq_getElem (by omega)
      refine ⟨rfl, _, rfl, _, rfl, a, _, dx, _, _, rfl, s5 _ _ h1, T.cl, T.nN, flds_nums _ _ _, _, rfl, d, _, rfl, get_num (C := a) hf (s5 _ _ h3) h4 hc hn, _, rfl, _, rfl, ⟨b, dx2, _, rfl, s5 _ _ g1⟩,
        b, fs, e2, ms, i, c, _, rfl, hf, ⟨dx2, el2, d2, s5 _ _ g1, s5 _ _ g2, s5 _ _ g3, g4⟩, hc, hm, _, _, rfl, rfl, _, Sum.inr (ltr c), rfl, h5, ?_, fun b o q => ?_, ?_, hi⟩
      · rw [kvP_len, List.length_take, sizeLine_eq]
        have := hf.hi
        omega
      · rw [upd_ne (ne_of_none q hD)]
        exact s5 b o q
      · have hpair : (fs.zip (List.zipWith (fun i j => i + j) ns ms))[i]? = some (c, ns[i]'(by omega) + ms[i]'(by omega)) := by
          rw [List.getElem?_zip_eq_some]
          refine ⟨hc, ?_⟩
          rw [List.getElem?_zipWith, hn, hm]
        rw [upd_same, putK_new _ ?_, List.take_add_one, hpair]
        · simp [kvP]
        · rw [valV_kvP]
          have hno : ((fs.zip (List.zipWith (fun i j => i + j) ns ms)).take i).lookup c = none := by
            refine look_no fun v hv => ?_
            obtain ⟨j, hj, ej⟩ := List.mem_iff_getElem.mp hv
            rw [List.getElem_take] at ej
            have hj' : j < i := by simp at hj; omega
            have hci : fs[i] = c := (List.getElem?_eq_some_iff.mp hc).2
            have e2 : fs[j]'(by omega) = c := by
              have := congrArg Prod.fst ej
              rw [List.getElem_zip] at this
              exact this
            have := (List.getElem_inj hf.nodup).mp (e2.trans hci.symm)
            omega
          rw [hno]
          rfl
    · rintro H5 ⟨s5, h5, _⟩
      rw [show (txt fs).cps.size = (fs.zip (List.zipWith (fun i j => i + j) ns ms)).length from by rw [hzl]; simp, List.take_length] at h5
      have naD : a ≠ D := ne_of_none h1 hD
      refine ⟨_, rfl, a, _, dx, _, rfl, s5 _ _ h1, T.cl, T.nN, (by show (3 : Nat) < 1000; decide), ?_⟩
      rw [putF_n]
      -- self.own_each
      have nae : el ≠ a := fun z => by rw [z, h1] at h2; cases h2
      refine ⟨_, rfl, a, _, dx, _, _, rfl, upd_same, T.cl, T.nE, flds_each _ _ _, el, _, _, _, rfl, rfl, SqL.of ((upd_ne nae).trans (s5 _ _ h2)), rfl, ?_⟩
      have nba : b ≠ a := hab.symm
      have ne2 : el2 ≠ a := fun z => by rw [z, h1] at g2; cases g2
      have nd2 : d2 ≠ a := fun z => by rw [z, h1] at g3; cases g3
      refine ⟨_, rfl, b, dx2, _, rfl, (upd_ne nba).trans (s5 _ _ g1), b, fs, e2, ms, rfl, ⟨dx2, el2, d2, (upd_ne nba).trans (s5 _ _ g1), (upd_ne ne2).trans (s5 _ _ g2), (upd_ne nd2).trans (s5 _ _ g3), g4⟩, e, e2, rfl, rfl, ?_⟩
      refine ⟨(by show 1 ≤ sizeLine; decide +kernel), fun el' hel => ?_⟩
      have nea : a ≠ el' := fun z => by rw [← z, upd_same] at hel; cases hel
      have hel5 : H5 el' = none := by rw [upd_ne nea.symm] at hel; exact hel
      have nDe : D ≠ el' := ne_of_none h5 hel5
      refine ⟨_, rfl, a, _, dx, _, rfl, (upd_ne nea).trans upd_same, T.cl, T.nE, (by show (3 : Nat) < 1000; decide), ?_⟩
      rw [putF_e]
      refine ⟨_, rfl, k rfl _ dx el' D (s5.free hel5) hD ⟨upd_same, ?_, ?_, ?_⟩ fun c o q hc => ?_⟩
      · rw [upd_ne nea.symm]
        exact upd_same
      · rw [upd_ne naD.symm, upd_ne nDe, upd_ne naD.symm]
        exact h5
      · rw [List.length_zipWith, h4, g4, Nat.min_self]
      · rw [upd_ne hc, upd_ne (ne_of_none (s5 _ _ q) hel5), upd_ne hc]
        exact s5 _ _ q
  · rw [decide_eq_false (txt_ne (Ne.symm hfg))]
    refine iteT ?_
    exact oth_raise (kr hfg)
end
end FwD
set_option Elab.async false
set_option linter.all false
set_option maxRecDepth 100000
set_option maxHeartbeats 2000000
namespace FwD
open PySem PySem.Spec PyProof.Rows L2 He He5 FwHk FwHd
theorem same_upd' {H : Hp} {p : Addr} {o : HO} (h : H p = none) : Same H (upd H p o) := fun b u e => (upd_ne (ne_of_none e h)).trans e
/-- the bag: the cells, how many were taken, what is left of a great one, the mix, how many were drawn (at most k) -/
def bl (l : Addr) (tk rest mx dr : Int) : List V := [.ref l, .int tk, .int rest, .int mx, .int dr]
structure BagV (k : Nat) (tk rest mx dr : Int) : Prop where
  t0 : 0 ≤ tk
  r0 : 0 ≤ rest
  m0 : 0 ≤ mx
  m1 : mx < 2 ^ 32
  d0 : 0 ≤ dr
  d1 : dr ≤ k
def BagAt (H : Hp) (b l : Addr) (cs : List Int) (k : Nat) : Prop := ∃ tk rest mx dr, H b = some (.lst (bl l tk rest mx dr)) ∧ H l = some (.lst (cs.map V.int)) ∧ l ≠ b ∧ cs.length ≤ 63 ∧ BagV k tk rest mx dr
section
variable {P : Program} {w : World} {K : PySem.W.Frag} {mg : Str → Option Value} {base : Heap} {f : Addr} {fd : FuncData}
/-! ### _law_open -/
def spOpen (K : PySem.W.Frag) : Sp := fun vs H Q _ => ∃ (a : Addr) (ns : List Int), vs = [.ref a] ∧ SqL K H a (ns.map V.int) ∧ ns.length ≤ 63 ∧ ∀ b l H', Same H H' → H b = none → H l = none → BagAt H' b l ns 0 → Q (.ref b) H'
theorem scOpen : FnScope ["_law_script", "_law_mixed", "_law_cell"] ["_law_script"] (defScope sOpen) := ⟨rfl, rfl, rfl, by decide +kernel, rfl, by decide +kernel, by decide +kernel⟩
theorem cut63 {ns : List Int} (h : ns.length ≤ 63) : cutV (ns.map V.int) none (some 63) = ns.map V.int := by
  unfold cutV
  rw [List.length_map]
  have e1 : HT.sIx ns.length 0 none = 0 := rfl
  have e2 : HT.sIx ns.length ns.length (some 63) = ns.length := by
    have := HT.sIx_nat ns.length ns.length 63
    rw [show ((63 : Nat) : Int) = 63 from rfl] at this
    rw [this]
    omega
  rw [e1, e2, List.drop_zero, Nat.sub_zero, List.take_of_length_le (by rw [List.length_map]; exact Nat.le_refl _)]
theorem ok_open (F : Fun K "_law_open" "_law_open" sOpen f fd) (T : Tx K mg) : FnOk P w K mg base CX0 1 f fd ["_law_script"] (spOpen K) := by
  refine F.ok scOpen (fun vs H Q E ⟨a, ns, q, _⟩ => by rw [q]; rfl) (fun cdv A outer s H vs Q E hr ⟨a, ns, q, hs, hn, k⟩ => ?_)
  subst q
  refine ⟨_, pss_cons (ps_set (i := 1) scOpen.nd rfl (Or.inl rfl) pe_int)
    (pss_cons (ps_for PassesOwn.never rfl (pi_list (pe_slice sl_list (pv 0) po_none (po_some pe_int))) (pg_name (i := 2) scOpen.nd rfl (Or.inl rfl))
      (pss_one (ps_set (i := 1) scOpen.nd rfl (Or.inl rfl) (pe_op op_mod (pe_callTy call_int1 (by rfl) (T.fr _ (by decide +kernel)) (by decide +kernel) (pa_cons (pe_op op_add (pe_op op_add (pe_op op_mul (pv 1) pe_int) (pe_op op_mul (pe_op op_mod (pe_callTy call_int1 (by rfl) (T.fr _ (by decide +kernel)) (by decide +kernel) (pa_cons (pv 2) pa_nil)) pe_int) pe_int)) pe_int) pa_nil)) pe_int))))
    (pss_one (ps_ret (pe_lst (pa_cons (pe_callTy call_list_of (by rfl) (T.fr _ (by decide +kernel)) (by decide +kernel) (pa_cons (pe_slice sl_list (pv 0) po_none (po_some pe_int)) pa_nil)) (pa_cons pe_int (pa_cons pe_int (pa_cons (pv 1) (pa_cons pe_int pa_nil))))))))), ?_⟩
  refine ⟨_, rfl, 63, rfl, a, _, rfl, hs, fun p hp => ?_⟩
  rw [cut63 hn]
  refine ⟨p, rfl, ⟨_, .inl (.inl upd_same)⟩, ?_⟩
  refine for_it walk_list (fun i σ H1 => Same H H1 ∧ H1 p = some (.lst (ns.map V.int)) ∧ ∃ (m : Int) (c : Option V), σ = [some (.ref a), some (.int m), c] ∧ 0 ≤ m ∧ m < 2 ^ 32) ⟨same_upd' hp, upd_same, 10042, none, rfl, by decide, by decide⟩ (fun _ _ _ _ q => .inl (.inl q.2.1)) ?_ ?_
  · rintro i x σ H1 H2 hi ⟨s1, h1, m, c, rfl, m0, m1⟩ ⟨rfl, hx⟩
    obtain ⟨n, rfl⟩ : ∃ n, x = V.int n := by
      rw [List.getElem?_map] at hx
      cases q : ns[i]? with
      | none => rw [q] at hx; cases hx
      | some n => rw [q] at hx; exact ⟨n, (Option.some.inj hx).symm⟩
    have hc : 0 ≤ n % 1000033 ∧ n % 1000033 < 1000033 := ⟨Int.emod_nonneg _ (by decide), Int.emod_lt_of_pos _ (by decide)⟩
    refine ⟨_, rfl, _, _, rfl, rfl, .inl ⟨by omega, by omega⟩, _, rfl, .inl ⟨_, rfl, _, _, rfl, rfl, (by decide : (0 : Int) < 1000033), _, _, rfl, rfl, .inl ⟨by omega, by omega⟩, _, _, rfl, rfl, _, _, rfl, rfl, .inl ⟨_, rfl, _, _, rfl, rfl, (by decide : (0 : Int) < 2147483549), ?_⟩⟩⟩
    refine ⟨s1, h1, _, _, rfl, Int.emod_nonneg _ (by decide), Int.lt_trans (Int.emod_lt_of_pos _ (by decide)) (by decide)⟩
  · rintro σ H1 ⟨s1, h1, m, c, rfl, m0, m1⟩
    refine ⟨_, rfl, 63, rfl, a, _, rfl, s1.seq hs, fun p2 hp2 => ?_⟩
    rw [cut63 hn]
    refine ⟨p2, _, rfl, .inl (.inl (.inl upd_same)), fun l hl => ?_⟩
    refine ⟨_, rfl, (by show 5 ≤ sizeLine; decide +kernel), fun b hb => ?_⟩
    have nlb : l ≠ b := fun z => by rw [← z, upd_same] at hb; cases hb
    have hl1 : H1 l = none := by
      by_cases z : l = p2
      · rw [z, upd_same] at hl; cases hl
      · rw [upd_ne z] at hl; exact hl
    have hb1 : H1 b = none := by
      rw [upd_ne nlb.symm] at hb
      by_cases z : b = p2
      · rw [z, upd_same] at hb; cases hb
      · rw [upd_ne z] at hb; exact hb
    refine k b l _ (fun c o q => ?_) (s1.free hb1) (s1.free hl1) ⟨0, 0, m, 0, upd_same, (upd_ne nlb).trans upd_same, nlb, hn, ⟨by decide, by decide, m0, m1, by decide, by decide⟩⟩
    rw [upd_ne (ne_of_none (s1 _ _ q) hb1), upd_ne (ne_of_none (s1 _ _ q) hl1), upd_ne (ne_of_none (s1 _ _ q) hp2)]
    exact s1 _ _ q
end
end FwD
set_option Elab.async false
set_option linter.all false
set_option maxRecDepth 100000
set_option maxHeartbeats 2000000
namespace FwD
open PySem PySem.Spec PyProof.Rows L2 He He5 FwHk FwHd
/-- the first k draws; many within a billion -/
def spDraw : Sp := fun vs H Q _ => ∃ (b l : Addr) (cs : List Int) (k : Nat) (many : Int), vs = [.ref b, .int many] ∧ BagAt H b l cs k ∧ k < 1000000 ∧ 0 < many ∧ many < 1073741824 ∧
  ∀ (d : Int) H', 0 ≤ d → d < many → (∀ c o, H c = some o → c ≠ b → H' c = some o) → BagAt H' b l cs (k + 1) → Q (.int d) H'
theorem scDraw : FnScope ["_law_bag", "_law_many", "_law_cell", "_law_digit", "_law_twice"] ["_law_bag", "_law_many"] (defScope sDraw) := ⟨rfl, rfl, rfl, by decide +kernel, rfl, by decide +kernel, by decide +kernel⟩
theorem pow18 : (10 : Int) ^ (18 : Int).toNat = 1000000000000000000 := by decide
section
variable {P : Program} {w : World} {K : PySem.W.Frag} {mg : Str → Option Value} {base : Heap} {f : Addr} {fd : FuncData}
/-- what stands between two statements -/
def Mid (H : Hp) (b l : Addr) (cs : List Int) (k : Nat) (many : Int) (σ : L2.St) (H1 : Hp) : Prop := ∃ (v2 v3 v4 : Option V) (tk rest mx dr : Int), σ = [some (.ref b), some (.int many), v2, v3, v4] ∧ H1 b = some (.lst (bl l tk rest mx dr)) ∧ H1 l = some (.lst (cs.map V.int)) ∧ BagV (k + 1) tk rest mx dr ∧ ∀ c o, H c = some o → c ≠ b → H1 c = some o
theorem ok_draw (F : Fun K "_law_draw" "_law_draw" sDraw f fd) (T : Tx K mg) : FnOk P w K mg base CX0 1 f fd ["_law_bag", "_law_many"] spDraw := by
  refine F.ok scDraw (fun vs H Q E ⟨b, l, cs, k, many, q, _⟩ => by rw [q]; rfl) (fun cdv A outer s H vs Q E hr ⟨b, l, cs, k, many, q, ⟨tk, rest, mx, dr, hb, hl, hlb, hcs, hv⟩, hk, hm, hm2, kq⟩ => ?_)
  subst q
  obtain ⟨tT, hT, tail⟩ : ∃ tT : TS, PSs (cxOf CX0 P w K mg base ["_law_bag", "_law_many", "_law_cell", "_law_digit", "_law_twice"] "_law_draw" (defScope sDraw) f cdv A outer s H E).nox ((defBody sDraw).drop 2) tT ∧
      ∀ σ H1, Mid H b l cs k many σ H1 → tT { nx := fun _ H' => Q .non H', rt := Q } σ H1 := by
    refine ⟨_, pss_cons (ps_if (pt_cmpR op_gt (pe_ix ix_list (pv 0) pe_int (fun _ _ => rfl)) pe_int (nomark _))
        (pss_cons (ps_set (i := 3) scDraw.nd rfl (Or.inl rfl) (pe_op op_mod (pe_callTy call_int1 (by rfl) (T.fr _ (by decide +kernel)) (by decide +kernel) (pa_cons (pe_ix ix_list (pv 0) pe_int (fun _ _ => rfl)) pa_nil)) (pv 1)))
        (pss_cons (ps_asg (pe_op op_fdiv (pe_ix ix_list (pv 0) pe_int (fun _ _ => rfl)) (pv 1)) (pg_sub (pv 0) pe_int set_list))
        (pss_one (ps_ret (pv 3))))) pss_nil)
      (pss_cons (ps_set (i := 4) scDraw.nd rfl (Or.inl rfl) (pe_op op_mod (pe_callTy call_int1 (by rfl) (T.fr _ (by decide +kernel)) (by decide +kernel) (pa_cons (pe_op op_add (pe_op op_mul (pe_ix ix_list (pv 0) pe_int (fun _ _ => rfl)) (pe_ix ix_list (pv 0) pe_int (fun _ _ => rfl))) (pe_op op_mul (pe_ix ix_list (pv 0) pe_int (fun _ _ => rfl)) pe_int)) pa_nil)) pe_int))
      (pss_cons (ps_asg (pe_op op_mod (pe_callTy call_int1 (by rfl) (T.fr _ (by decide +kernel)) (by decide +kernel) (pa_cons (pe_op op_add (pe_op op_add (pe_op op_mul (pv 4) pe_int) (pe_op op_mul (pe_ix ix_list (pv 0) pe_int (fun _ _ => rfl)) pe_int)) pe_int) pa_nil)) pe_int) (pg_sub (pv 0) pe_int set_list))
      (pss_one (ps_ret (pe_op op_mod (pe_callTy call_int1 (by rfl) (T.fr _ (by decide +kernel)) (by decide +kernel) (pa_cons (pe_op op_fdiv (pe_ix ix_list (pv 0) pe_int (fun _ _ => rfl)) pe_int) pa_nil)) (pv 1)))))), ?_⟩
    rintro σ H1 ⟨v2, v3, v4, tk, rest, mx, dr, rfl, hb, hl, hv, hk1⟩
    obtain ⟨t0, r0, m0, m1, d0, d1⟩ := hv
    have keep : ∀ o c u, H c = some u → c ≠ b → upd H1 b o c = some u := fun o c u q hc => (upd_ne hc).trans (hk1 c u q hc)
    refine ⟨_, rfl, b, _, _, _, rfl, rfl, SqL.of hb, rfl, _, _, rfl, rfl, _, rfl, ?_⟩
    refine ite2 (fun h => ?_) (fun h => ?_)
    · refine ⟨_, rfl, b, _, _, _, rfl, rfl, SqL.of hb, rfl, .inl ⟨_, rfl, _, rfl, _, _, rfl, rfl, hm, ?_⟩⟩
      refine ⟨_, rfl, b, _, _, _, rfl, rfl, SqL.of hb, rfl, _, rfl, _, _, rfl, rfl, ⟨hm, hm2⟩, ?_⟩
      refine ⟨_, rfl, b, _, _, _, rfl, rfl, hb, rfl, ?_⟩
      refine ⟨_, rfl, kq _ _ (Int.emod_nonneg _ (by omega)) (Int.emod_lt_of_pos _ hm) (keep _) ⟨tk, rest / many, mx, dr, upd_same, (upd_ne hlb).trans hl, hlb, hcs, ⟨t0, Int.ediv_nonneg r0 (by omega), m0, m1, d0, d1⟩⟩⟩
    · have hm3 : ∀ x : Int, 0 ≤ x % 2147483629 ∧ x % 2147483629 < 2147483629 := fun x => ⟨Int.emod_nonneg _ (by decide), Int.emod_lt_of_pos _ (by decide)⟩
      have hdr : (k : Int) < 1000000 := by omega
      refine ⟨_, rfl, b, _, _, _, rfl, rfl, SqL.of hb, rfl, _, rfl, b, _, _, _, rfl, rfl, SqL.of hb, rfl, _, _, rfl, rfl, .inl ⟨by omega, by omega⟩, _, rfl, b, _, _, _, rfl, rfl, SqL.of hb, rfl, _, _, rfl, rfl, .inl ⟨by omega, by omega⟩, _, _, rfl, rfl, .inl ⟨_, rfl, _, _, rfl, rfl, (by decide : (0 : Int) < 2147483629), ?_⟩⟩
      obtain ⟨z0, z1⟩ := hm3 (mx * mx + dr * 8111)
      refine ⟨_, rfl, _, _, rfl, rfl, .inl ⟨by omega, by omega⟩, _, rfl, b, _, _, _, rfl, rfl, SqL.of hb, rfl, _, _, rfl, rfl, .inl ⟨by omega, by omega⟩, _, _, rfl, rfl, _, _, rfl, rfl, .inl ⟨_, rfl, _, _, rfl, rfl, (by decide : (0 : Int) < 2147483587), ?_⟩⟩
      refine ⟨_, rfl, b, _, _, _, rfl, rfl, hb, rfl, ?_⟩
      have y0 := Int.emod_nonneg ((mx * mx + dr * 8111) % 2147483629 * 17041 + mx * 48049 + 70001) (by decide : (2147483587 : Int) ≠ 0)
      have y1 := Int.emod_lt_of_pos ((mx * mx + dr * 8111) % 2147483629 * 17041 + mx * 48049 + 70001) (by decide : (0 : Int) < 2147483587)
      refine ⟨_, rfl, b, _, _, _, rfl, rfl, SqL.of upd_same, rfl, _, _, rfl, rfl, ⟨by decide, by decide⟩, .inl ⟨_, rfl, _, rfl, _, _, rfl, rfl, hm, ?_⟩⟩
      exact kq _ _ (Int.emod_nonneg _ (by omega)) (Int.emod_lt_of_pos _ hm) (keep _) ⟨tk, rest, _, dr, upd_same, (upd_ne hlb).trans hl, hlb, hcs, ⟨t0, r0, y0, by omega, d0, d1⟩⟩
  refine ⟨_, pss_cons (ps_asg (pe_op op_add (pe_ix ix_list (pv 0) pe_int (fun _ _ => rfl)) pe_int) (pg_sub (pv 0) pe_int set_list))
    (pss_cons (ps_if (PW.pt (pw_and (pt_cmpR op_eq (pe_ix ix_list (pv 0) pe_int (fun _ _ => rfl)) pe_int (nomark _)) (pw_and1 (pt_cmpR op_lt (pe_ix ix_list (pv 0) pe_int (fun _ _ => rfl)) (pe_callB call_len_seq (by rfl) (T.fr _ (by decide +kernel)) boot_len (pa_cons (pe_ix ix_list (pv 0) pe_int (fun _ _ => rfl)) pa_nil)) (nomark _)))))
      (pss_cons (ps_set (i := 2) scDraw.nd rfl (Or.inl rfl) (pe_ix ix_list (pe_ix ix_list (pv 0) pe_int (fun _ _ => rfl)) (pe_ix ix_list (pv 0) pe_int (fun _ _ => rfl)) (fun _ _ => rfl)))
      (pss_cons (ps_asg (pe_op op_add (pe_ix ix_list (pv 0) pe_int (fun _ _ => rfl)) pe_int) (pg_sub (pv 0) pe_int set_list))
      (pss_one (ps_if (pt_cmpR op_ge (pe_callB call_abs (by rfl) (T.fr _ (by decide +kernel)) (by decide +kernel) (pa_cons (pv 2) pa_nil)) (pe_op op_pow pe_int pe_int) (nomark _))
        (pss_one (ps_asg (pe_callB call_abs (by rfl) (T.fr _ (by decide +kernel)) (by decide +kernel) (pa_cons (pv 2) pa_nil)) (pg_sub (pv 0) pe_int set_list)))
        (pss_one (ps_asg (pe_op op_mod (pe_callTy call_int1 (by rfl) (T.fr _ (by decide +kernel)) (by decide +kernel) (pa_cons (pe_op op_add (pe_op op_add (pe_op op_mul (pe_ix ix_list (pv 0) pe_int (fun _ _ => rfl)) pe_int) (pe_op op_mul (pe_op op_mod (pe_callTy call_int1 (by rfl) (T.fr _ (by decide +kernel)) (by decide +kernel) (pa_cons (pv 2) pa_nil)) pe_int) pe_int)) pe_int) pa_nil)) pe_int) (pg_sub (pv 0) pe_int set_list))))))) pss_nil)
    hT), ?_⟩
  obtain ⟨t0, r0, m0, m1, d0, d1⟩ := hv
  have keep : ∀ {H1 : Hp} (o c u), (∀ c u, H c = some u → c ≠ b → H1 c = some u) → H c = some u → c ≠ b → upd H1 b o c = some u := fun o c u h q hc => (upd_ne hc).trans (h c u q hc)
  -- the count
  refine ⟨_, rfl, b, _, _, _, rfl, rfl, SqL.of hb, rfl, _, _, rfl, rfl, _, rfl, b, _, _, _, rfl, rfl, hb, rfl, ?_⟩
  -- is a cell taken
  refine ⟨_, rfl, b, _, _, _, rfl, rfl, SqL.of upd_same, rfl, rfl, _, rfl, ?_⟩
  refine ite2 (fun h => ?_) (fun h => ?_)
  · refine ⟨_, rfl, b, _, _, _, rfl, rfl, SqL.of upd_same, rfl, _, rfl, b, _, _, _, rfl, rfl, SqL.of upd_same, rfl, l, _, rfl, .inl (SqL.of ((upd_ne hlb).trans hl)), _, _, rfl, rfl, _, rfl, ?_⟩
    refine ite2 (fun h2 => ?_) (fun h2 => ?_)
    · have hlt : tk < cs.length := by
        have := of_decide_eq_true h2
        rwa [List.length_map] at this
      have hi : tk.toNat < cs.length := by omega
      have hat : atI (cs.map V.int) tk = some (.int cs[tk.toNat]) := by
        have := atI_nat (xs := cs.map V.int) (j := tk.toNat) (v := .int cs[tk.toNat]) (by rw [List.getElem?_map, List.getElem?_eq_getElem hi]; rfl)
        rw [Int.toNat_of_nonneg t0] at this
        exact this
      generalize cs[tk.toNat] = cell at hat
      -- the cell; the place
      refine ⟨_, rfl, b, _, _, _, rfl, rfl, SqL.of upd_same, rfl, _, rfl, b, _, _, _, rfl, rfl, SqL.of upd_same, rfl, l, _, _, _, rfl, rfl, SqL.of ((upd_ne hlb).trans hl), hat, ?_⟩
      refine ⟨_, rfl, b, _, _, _, rfl, rfl, SqL.of upd_same, rfl, _, _, rfl, rfl, _, rfl, b, _, _, _, rfl, rfl, upd_same, rfl, ?_⟩
      rw [upd_upd]
      -- a great one, or mixed in
      refine ⟨_, rfl, _, rfl, _, _, rfl, rfl, ⟨by decide, by decide, by decide⟩, _, _, rfl, rfl, _, rfl, ?_⟩
      refine ite2 (fun h3 => ?_) (fun h3 => ?_)
      · refine ⟨_, rfl, _, rfl, _, rfl, b, _, _, _, rfl, rfl, upd_same, rfl, ?_⟩
        rw [upd_upd]
        exact tail _ _ ⟨_, none, none, tk + 1, if cell < 0 then -cell else cell, mx, dr + 1, rfl, upd_same, (upd_ne hlb).trans hl, ⟨by omega, by split <;> omega, m0, m1, by omega, by omega⟩, fun c o q hc => (upd_ne hc).trans q⟩
      · have hc : 0 ≤ cell % 1000033 ∧ cell % 1000033 < 1000033 := ⟨Int.emod_nonneg _ (by decide), Int.emod_lt_of_pos _ (by decide)⟩
        refine ⟨_, rfl, b, _, _, _, rfl, rfl, SqL.of upd_same, rfl, _, _, rfl, rfl, .inl ⟨by omega, by omega⟩, _, rfl, .inl ⟨_, rfl, _, _, rfl, rfl, (by decide : (0 : Int) < 1000033), _, _, rfl, rfl, .inl ⟨by omega, by omega⟩, _, _, rfl, rfl, _, _, rfl, rfl, .inl ⟨_, rfl, _, _, rfl, rfl, (by decide : (0 : Int) < 2147483587), ?_⟩⟩⟩
        refine ⟨_, rfl, b, _, _, _, rfl, rfl, upd_same, rfl, ?_⟩
        rw [upd_upd]
        have y0 := Int.emod_nonneg (mx * 45589 + cell % 1000033 * 701 + 53) (by decide : (2147483587 : Int) ≠ 0)
        have y1 := Int.emod_lt_of_pos (mx * 45589 + cell % 1000033 * 701 + 53) (by decide : (0 : Int) < 2147483587)
        exact tail _ _ ⟨_, none, none, tk + 1, rest, _, dr + 1, rfl, upd_same, (upd_ne hlb).trans hl, ⟨by omega, r0, y0, by omega, by omega, by omega⟩, fun c o q hc => (upd_ne hc).trans q⟩
    · exact tail _ _ ⟨none, none, none, tk, rest, mx, dr + 1, rfl, upd_same, (upd_ne hlb).trans hl, ⟨t0, r0, m0, m1, by omega, by omega⟩, fun c o q hc => (upd_ne hc).trans q⟩
  · refine iteF ?_
    exact tail _ _ ⟨none, none, none, tk, rest, mx, dr + 1, rfl, upd_same, (upd_ne hlb).trans hl, ⟨t0, r0, m0, m1, by omega, by omega⟩, fun c o q hc => (upd_ne hc).trans q⟩
end
end FwD
set_option Elab.async false
set_option linter.all false
set_option maxRecDepth 100000
set_option maxHeartbeats 2000000
namespace FwD
open PySem PySem.Spec PyProof.Rows L2 He He5 FwHk FwHd
theorem BagAt.mono {H : Hp} {b l : Addr} {cs : List Int} {k k' : Nat} (h : BagAt H b l cs k) (hk : k ≤ k') : BagAt H b l cs k' := by
  obtain ⟨tk, rest, mx, dr, h1, h2, h3, h4, ⟨a1, a2, a3, a4, a5, a6⟩⟩ := h
  exact ⟨tk, rest, mx, dr, h1, h2, h3, h4, ⟨a1, a2, a3, a4, a5, by omega⟩⟩
/-- all but what stands at b is as it was -/
def SameBut (b : Addr) (H H' : Hp) : Prop := ∀ c o, H c = some o → c ≠ b → H' c = some o
theorem SameBut.trans {b : Addr} {H H1 H2 : Hp} (h1 : SameBut b H H1) (h2 : SameBut b H1 H2) : SameBut b H H2 := fun c o q hc => h2 c o (h1 c o q hc) hc
section
variable {P : Program} {w : World} {K : PySem.W.Frag} {mg : Str → Option Value} {base : Heap} {f : Addr} {fd : FuncData}
/-! ### _law_letters -/
def spLetters : Sp := fun vs H Q _ => ∃ (b l : Addr) (cs : List Int) (k m : Nat), vs = [.ref b, .str lowS, .int m] ∧ BagAt H b l cs k ∧ k + 10 < 1000000 ∧ 1 ≤ m ∧ m ≤ 4 ∧
  ∀ fs H', fs.length = m → Faces fs → SameBut b H H' → BagAt H' b l cs (k + m) → Q (.str (txt fs)) H'
theorem scLetters : FnScope ["_law_bag", "_law_letters_here", "_law_many", "_law_found", "_law_low", "_law_k", "_law_at"] ["_law_bag", "_law_letters_here", "_law_many"] (defScope sLetters) := ⟨rfl, rfl, rfl, by decide +kernel, rfl, by decide +kernel, by decide +kernel⟩
theorem low_at {i : Nat} (h : i < 26) : atI lowS.cps.toList (i : Int) = some (97 + i) := by
  refine atI_nat ?_
  rw [low_list, List.getElem?_map, List.getElem?_range h]
  show some (i + 97) = _
  rw [Nat.add_comm]
theorem txt_snoc (fs : List Nat) (c : Nat) : (txt fs) ++ (ltr c) = txt (fs ++ [c]) := congrArg Str.mk (by simp)
theorem ok_letters (F : Fun K "_law_letters" "_law_letters" sLetters f fd) (T : Tx K mg) (DD : Df P w K mg base CX0 1 (ga K "_law_draw") ["_law_bag", "_law_many"] spDraw) : FnOk P w K mg base CX0 2 f fd ["_law_bag", "_law_letters_here", "_law_many"] spLetters := by
  obtain ⟨fdD, GD, kD, bD⟩ := DD.ex
  refine F.ok scLetters (fun vs H Q E ⟨b, l, cs, k, m, q, _⟩ => by rw [q]; rfl) (fun cdv A outer s H vs Q E hr ⟨b, l, cs, k, m, q, hb, hk, m1, m4, kq⟩ => ?_)
  subst q
  refine ⟨_, pss_cons (ps_asg (pe_tup (pa_cons pe_str (pa_cons pe_int pa_nil))) (pg_tup rfl (pgs_cons (pg_name (i := 3) scLetters.nd rfl (Or.inl rfl)) (pgs_cons (pg_name (i := 4) scLetters.nd rfl (Or.inl rfl)) pgs_nil))))
    (pss_cons (ps_for PassesOwn.never rfl (pi_range1 (by rfl) (T.fr _ (by decide +kernel)) (pa_cons (pv 2) pa_nil)) (pg_name (i := 5) scLetters.nd rfl (Or.inl rfl))
      (pss_cons (ps_set (i := 6) scLetters.nd rfl (Or.inl rfl) (pe_op op_add (pv 4) (pe_call GD hr rfl (T.g _ (by decide +kernel)) kD bD .nil pass0 (pa_cons (pv 0) (pa_cons (pe_op op_sub (pe_op op_sub (pe_callB call_len_str (by rfl) (T.fr _ (by decide +kernel)) boot_len (pa_cons (pv 1) pa_nil)) (pv 4)) (pe_op op_sub (pe_op op_sub (pv 2) pe_int) (pv 5))) pa_nil)))))
      (pss_one (ps_par (i := 3) (j := 4) (by rfl) scLetters.nd rfl rfl (by decide) rfl rfl (pa_cons (pe_op op_add_str (pv 3) (pe_ix ix_str (pv 1) (pv 6) (fun _ _ => rfl))) (pa_cons (pe_op op_add (pv 6) pe_int) pa_nil)) (by rfl)))))
    (pss_one (ps_ret (pv 3)))), ?_⟩
  refine ⟨(by show 2 ≤ sizeLine; decide +kernel), fun t ht => ?_⟩
  refine ⟨t, _, rfl, SqT.of upd_same, rfl, _, _, rfl, _, _, rfl, rfl, ?_⟩
  have hbt : ∀ o, BagAt (upd H t o) b l cs k := fun o => by
    obtain ⟨tk, rest, mx, dr, h1, h2, h3⟩ := hb
    exact ⟨tk, rest, mx, dr, (upd_ne (ne_of_none h1 ht)).trans h1, (upd_ne (ne_of_none h2 ht)).trans h2, h3⟩
  refine ⟨_, rfl, (m : Int), rfl, by omega, by omega, ?_⟩
  rw [Int.toNat_natCast]
  refine for_it walk_range (fun i σ H1 => ∃ (fs : List Nat) (low : Nat) (v5 v6 : Option V), σ = [some (.ref b), some (.str lowS), some (.int m), some (.str (txt fs)), some (.int low), v5, v6] ∧ fs.length = i ∧ fs.Pairwise (· < ·) ∧ (∀ c ∈ fs, 97 ≤ c ∧ c < 97 + low) ∧ low + (m - i) ≤ 26 ∧ i ≤ m ∧ SameBut b H H1 ∧ BagAt H1 b l cs (k + i))
    ⟨[], 0, none, none, rfl, rfl, List.Pairwise.nil, (fun _ h => by cases h), by omega, by omega, (fun c o q _ => (upd_ne (ne_of_none q ht)).trans q), hbt _⟩ (fun _ _ _ _ _ => True.intro) ?_ ?_
  · rintro i x σ H1 H2 hi ⟨fs, low, v5, v6, rfl, hfl, hp, hlow, h26, him, sb, hbag⟩ ⟨rfl, rfl⟩
    refine ⟨_, rfl, _, rfl, _, rfl, lowS, rfl, (by decide +kernel), _, rfl, _, _, rfl, rfl, _, rfl, _, _, rfl, rfl, _, rfl, _, _, rfl, rfl, _, _, rfl, rfl, ?_⟩
    have e26 : ((lowS.length : Nat) : Int) = 26 := by decide +kernel
    refine ⟨b, l, cs, k + i, _, rfl, hbag, by omega, by rw [e26]; omega, by rw [e26]; omega, fun d H3 d0 d1 sb2 hbag2 => ?_⟩
    rw [e26] at d1
    obtain ⟨dn, rfl⟩ : ∃ dn : Nat, d = dn := ⟨d.toNat, (Int.toNat_of_nonneg d0).symm⟩
    have hat : low + dn < 26 := by omega
    refine ⟨_, _, rfl, rfl, ?_⟩
    have hix : atI lowS.cps.toList ((low : Int) + (dn : Int)) = some (97 + (low + dn)) := by
      have := low_at hat
      rwa [Int.natCast_add] at this
    refine ⟨_, rfl, _, rfl, _, rfl, lowS, _, _, rfl, rfl, (by decide +kernel), hix, _, _, rfl, rfl, ?_, ?_⟩
    · show fs.toArray.size + 1 ≤ sizeLine
      rw [List.size_toArray, sizeLine_eq]
      omega
    refine ⟨_, rfl, _, _, rfl, rfl, _, _, rfl, ?_⟩
    refine ⟨fs ++ [97 + (low + dn)], low + dn + 1, some (.int (0 + (i : Int))), some (.int ((low : Int) + (dn : Int))), ?_, by rw [List.length_append, hfl]; rfl, ?_, ?_, by omega, hi, fun c o q hc => sb2 c o (sb c o q hc) hc, hbag2⟩
    · rw [← txt_snoc]
      rfl
    · refine List.pairwise_append.mpr ⟨hp, List.pairwise_singleton _ _, fun x hx y hy => ?_⟩
      rw [List.mem_singleton.mp hy]
      have := (hlow x hx).2
      omega
    · intro c hc
      rcases List.mem_append.mp hc with h | h
      · have := hlow c h
        omega
      · rw [List.mem_singleton.mp h]
        omega
  · rintro σ H1 ⟨fs, low, v5, v6, rfl, hfl, hp, hlow, h26, him, sb, hbag⟩
    exact ⟨_, rfl, kq fs H1 hfl ⟨by omega, by omega, hp, fun c hc => by have := hlow c hc; omega⟩ sb hbag⟩
end
end FwD
set_option Elab.async false
set_option linter.all false
set_option maxRecDepth 100000
set_option maxHeartbeats 2000000
namespace FwD
open PySem PySem.Spec PyProof.Rows L2 He He5 FwHk FwHd FwZip FwKw
section
variable {P : Program} {w : World} {K : PySem.W.Frag} {mg : Str → Option Value} {base : Heap} {f : Addr} {fd : FuncData}
/-! ### _law_some_faces -/
def spSomeF : Sp := fun vs H Q _ => ∃ (b l : Addr) (cs : List Int) (k : Nat), vs = [.ref b, .int 4] ∧ BagAt H b l cs k ∧ k + 20 < 1000000 ∧ ∀ fs H', fs.length ≤ 4 → Faces fs → SameBut b H H' → BagAt H' b l cs (k + 5) → Q (.str (txt fs)) H'
theorem scSomeF : FnScope ["_law_bag", "_law_most"] ["_law_bag", "_law_most"] (defScope sSomeF) := ⟨rfl, rfl, rfl, by decide +kernel, rfl, by decide +kernel, by decide +kernel⟩
theorem ok_someF (F : Fun K "_law_some_faces" "_law_some_faces" sSomeF f fd) (T : Tx K mg) (DD : Df P w K mg base CX0 1 (ga K "_law_draw") ["_law_bag", "_law_many"] spDraw) (DL : Df P w K mg base CX0 2 (ga K "_law_letters") ["_law_bag", "_law_letters_here", "_law_many"] spLetters) :
    FnOk P w K mg base CX0 3 f fd ["_law_bag", "_law_most"] spSomeF := by
  obtain ⟨fdD, GD, kD, bD⟩ := DD.ex
  obtain ⟨fdL, GL, kL, bL⟩ := DL.ex
  refine F.ok scSomeF (fun vs H Q E ⟨b, l, cs, k, q, _⟩ => by rw [q]; rfl) (fun cdv A outer s H vs Q E hr ⟨b, l, cs, k, q, hb, hk, kq⟩ => ?_)
  subst q
  have hr1 : Room 1 _ := hr.mono (by decide)
  refine ⟨_, pss_one (ps_ret (pe_call GL hr rfl (T.g _ (by decide +kernel)) kL bL .nil pass0 (pa_cons (pv 0) (pa_cons pe_str (pa_cons (pe_op op_add pe_int (pe_call GD hr1 rfl (T.g _ (by decide +kernel)) kD bD .nil pass0 (pa_cons (pv 0) (pa_cons (pv 1) pa_nil)))) pa_nil))))), ?_⟩
  refine ⟨_, rfl, _, rfl, _, rfl, b, l, cs, k, 4, rfl, hb, by omega, by decide, by decide, fun d H1 d0 d1 sb hb1 => ?_⟩
  obtain ⟨dn, rfl⟩ : ∃ dn : Nat, d = dn := ⟨d.toNat, (Int.toNat_of_nonneg d0).symm⟩
  refine ⟨1, (dn : Int), rfl, rfl, b, l, cs, k + 1, 1 + dn, ?_, hb1, by omega, by omega, by omega, fun fs H2 hl hf sb2 hb2 => kq fs H2 (by omega) hf (fun c o q hc => sb2 c o (sb c o q hc) hc) (hb2.mono (by omega))⟩
  rw [Int.natCast_add]
  rfl
/-! ### _law_some_weights -/
theorem BagAt.set {H : Hp} {b l t : Addr} {cs : List Int} {k : Nat} {o : HO} (h : BagAt H b l cs k) (h1 : t ≠ b) (h2 : t ≠ l) : BagAt (upd H t o) b l cs k := by
  obtain ⟨tk, rest, mx, dr, q1, q2, q⟩ := h
  exact ⟨tk, rest, mx, dr, (upd_ne h1.symm).trans q1, (upd_ne h2.symm).trans q2, q⟩
theorem BagAt.nb {H : Hp} {b l t : Addr} {cs : List Int} {k : Nat} (h : BagAt H b l cs k) (ht : H t = none) : t ≠ b ∧ t ≠ l := by
  obtain ⟨tk, rest, mx, dr, q1, q2, q⟩ := h
  exact ⟨(ne_of_none q1 ht).symm, (ne_of_none q2 ht).symm⟩
theorem BagAt.same {H H' : Hp} {b l : Addr} {cs : List Int} {k : Nat} (h : BagAt H b l cs k) (s : Same H H') : BagAt H' b l cs k := by
  obtain ⟨tk, rest, mx, dr, q1, q2, q⟩ := h
  exact ⟨tk, rest, mx, dr, s _ _ q1, s _ _ q2, q⟩
theorem SameBut.free {b l t : Addr} {cs : List Int} {k : Nat} {H H1 : Hp} (s : SameBut b H H1) (hb : BagAt H1 b l cs k) (h : H1 t = none) : H t = none := by
  cases q : H t with
  | none => rfl
  | some o => rw [s _ _ q (hb.nb h).1] at h; cases h
theorem SameBut.same {b : Addr} {H H1 H2 : Hp} (h1 : SameBut b H H1) (h2 : Same H1 H2) : SameBut b H H2 := fun c o q hc => h2 c o (h1 c o q hc)
theorem set_step {xs zs : List Int} {i : Nat} {n : Int} (hl : zs.length = xs.length) (hn : xs[i]? = some n) : (xs.take i ++ zs.drop i).set i n = xs.take (i + 1) ++ zs.drop (i + 1) := by
  obtain ⟨hi, hx⟩ := List.getElem?_eq_some_iff.mp hn
  have hi2 : i < zs.length := by omega
  have e1 : (xs.take i).length = i := by rw [List.length_take]; omega
  rw [List.drop_eq_getElem_cons hi2, List.set_append_right _ _ (by omega), e1, Nat.sub_self, List.take_add_one, hn, List.set_cons_zero, List.append_assoc]
  rfl
/-- a new list of the weights, their each, the list of their numbers; the bag has moved on -/
def spSomeW (K : PySem.W.Frag) : Sp := fun vs H Q _ => ∃ (b l : Addr) (cs : List Int) (k : Nat) (fs : List Nat) (most : Int), vs = [.ref b, .str (txt fs), .int most] ∧ Faces fs ∧ fs.length ≤ 4 ∧ BagAt H b l cs k ∧ k + 20 < 1000000 ∧ 1 ≤ most ∧ most ≤ 1000000 ∧
  ∀ (r a ln : Addr) (e : Int) (ns : List Int) H', H r = none → H ln = none → H' r = some (.lst [.ref a, .int e, .ref ln]) → H' ln = some (.lst (ns.map V.int)) → WNew (WC K) H H' a fs e ns → Sm e → (∀ n ∈ ns, Sm n) → SameBut b H H' → BagAt H' b l cs (k + 6) → Q (.ref r) H'
theorem scSomeW : FnScope ["_law_bag", "_law_faces", "_law_most", "_law_face", "_law_each_z", "_law_numbers_here", "_law_found", "_law_number"] ["_law_bag", "_law_faces", "_law_most"] (defScope sSomeW) := ⟨rfl, rfl, rfl, by decide +kernel, rfl, by decide +kernel, by decide +kernel⟩
theorem ok_someW (F : Fun K "_law_some_weights" "_law_some_weights" sSomeW f fd) (T : Tx K mg) (DD : Df P w K mg base CX0 1 (ga K "_law_draw") ["_law_bag", "_law_many"] spDraw) (I : InitR P w K mg base CX0 3 (ma K (WC K) "__init__") (spI (WC K)))
    (DP : Df P w K mg base CX0 2 (ma K (WC K) "put") ["self", "face", "number"] (spPut K)) : FnOk P w K mg base CX0 5 f fd ["_law_bag", "_law_faces", "_law_most"] (spSomeW K) := by
  obtain ⟨fdD, GD, kD, bD⟩ := DD.ex
  obtain ⟨fdP, GP, kP, bP⟩ := DP.ex
  refine F.ok scSomeW (fun vs H Q E ⟨b, l, cs, k, fs, most, q, _⟩ => by rw [q]; rfl) (fun cdv A outer s H vs Q E hr ⟨b, l, cs, k, fs, most, q, hf, hf4, hb, hk, hm1, hm2, kq⟩ => ?_)
  subst q
  have hr1 : Room 1 _ := hr.mono (by decide)
  have hr2 : Room 2 _ := hr.mono (by decide)
  refine ⟨_, pss_cons (ps_par (i := 4) (j := 5) (by rfl) scSomeW.nd rfl rfl (by decide) rfl rfl (pa_cons (pe_op op_sub (pe_call GD hr1 rfl (T.g _ (by decide +kernel)) kD bD .nil pass0 (pa_cons (pv 0) (pa_cons (pe_op op_add (pe_op op_mul pe_int (pv 2)) pe_int) pa_nil))) (pv 2))
      (pa_cons (pe_lc (own := [("_law_face", 3)]) (g := gName 3) (tt := tYes) rfl scSomeW.nd (pi_str (pv 1)) (blkOk_by (own := [("_law_face", 3)]) (N := ["_law_bag", "_law_faces", "_law_most", "_law_face", "_law_each_z", "_law_numbers_here", "_law_found", "_law_number"]) (sc := defScope sSomeW) (by decide +kernel))
        (fun _ _ _ _ _ => pg_name (i := 3) scSomeW.nd rfl (Or.inl rfl)) (fun _ _ _ _ _ => pts_nil) (fun _ _ _ _ _ => pe_op op_sub (pe_call GD (by exact hr1) (by rfl) (T.g _ (by decide +kernel)) kD bD .nil pass0 (pa_cons (pv 0) (pa_cons (pe_op op_add (pe_op op_mul pe_int (pv 2)) pe_int) pa_nil))) (pv 2))) pa_nil)) (by rfl))
    (pss_cons (ps_set (i := 6) scSomeW.nd rfl (Or.inl rfl) (pe_makeI1 T.mkW I hr rfl (T.g _ (by decide +kernel)) pass0 (pv 1) (pv 4)))
    (pss_cons (ps_for PassesOwn.never rfl (pi_zs (by rfl) (T.fr _ (by decide +kernel)) (pa_cons (pv 1) (pa_cons (pv 5) pa_nil))) (pg_tup rfl (pgs_cons (pg_name (i := 3) scSomeW.nd rfl (Or.inl rfl)) (pgs_cons (pg_name (i := 7) scSomeW.nd rfl (Or.inl rfl)) pgs_nil)))
      (pss_one (ps_expr (pe_meth (pv 6) T.cl (T.me _ (by decide +kernel)) GP hr2 bP .nil pass0 (pa_cons (pv 3) (pa_cons (pv 7) pa_nil))))))
    (pss_one (ps_ret (pe_lst (pa_cons (pv 6) (pa_cons (pv 4) (pa_cons (pv 5) pa_nil)))))))), ?_⟩
  have hr' := hf.hi
  refine ⟨_, rfl, _, rfl, _, _, rfl, rfl, .inl ⟨by omega, by omega⟩, _, _, rfl, rfl, b, l, cs, k, 2 * most + 1, rfl, hb, by omega, by omega, by omega, fun d0 H1 p0 p1 sb1 hb1 => ?_⟩
  refine ⟨_, rfl, _, _, rfl, rfl, ?_⟩
  refine ⟨_, rfl, txt fs, rfl, fun D hD => ?_⟩
  replace sb1 : SameBut b H H1 := sb1
  obtain ⟨hDb, hDl⟩ := hb1.nb hD
  have hDH := sb1.free hb1 hD
  refine lc_it (walk_str (z := txt fs)) (fun i H' => ∃ xs : List Int, xs.length = i ∧ (∀ n ∈ xs, Sm n) ∧ SameBut b H H' ∧ BagAt H' b l cs (k + 1 + i) ∧ H' D = some (.lst (xs.map V.int)) ∧ i ≤ fs.length)
    ⟨[], rfl, (fun _ h => by cases h), sb1.same (same_upd hD), hb1.set hDb hDl, upd_same, Nat.zero_le _⟩ (fun _ _ _ _ => True.intro) ?_ ?_
  · rintro i x H2 H3 hi ⟨xs, hxl, hsm, sb2, hb2, h2, hil⟩ ⟨rfl, c, hc, rfl⟩
    have hi : i < fs.length := hi
    refine ⟨rfl, _, rfl, _, rfl, _, _, rfl, rfl, .inl ⟨by omega, by omega⟩, _, _, rfl, rfl, b, l, cs, k + 1 + i, 2 * most + 1, rfl, hb2, by omega, by omega, by omega, fun d2 H4 p2 p3 sb4 hb4 => ?_⟩
    refine ⟨_, rfl, _, _, rfl, rfl, _, sb4 _ _ h2 hDb, ?_, xs ++ [d2 - most], ?_, ?_, ?_, ?_, ?_, hi⟩
    · rw [List.length_map, sizeLine_eq]
      omega
    · rw [List.length_append, hxl]
      rfl
    · intro n hn
      rcases List.mem_append.mp hn with h | h
      · exact hsm n h
      · rw [List.mem_singleton.mp h]
        exact ⟨by omega, by omega⟩
    · intro c o q hc
      rw [upd_ne (ne_of_none q hDH)]
      exact sb4 _ _ (sb2 _ _ q hc) hc
    · exact hb4.set hDb hDl
    · rw [upd_same, List.map_append]
      rfl
  rintro H2 ⟨xs, hxl, hsm, sb2, hb2, h2, _⟩
  have hxl : xs.length = fs.length := hxl.trans (by simp)
  refine ⟨_, _, rfl, _, rfl, _, rfl, made_w (ps := []) hf rfl (fun _ h => by cases h) List.nodup_nil (Nat.zero_le _) fun a H3 s3 W => ?_⟩
  obtain ⟨dx, el, d, W3, fa, fel, fdd⟩ := W
  have naD : a ≠ D := (ne_of_none h2 fa).symm
  generalize hzs : (fs.map fun c => (([] : List (Nat × Int)).lookup c).getD 0) = zs at W3
  have hzl : zs.length = xs.length := by rw [← hzs, List.length_map, hxl]
  refine ⟨_, rfl, _, rfl, txt fs, D, xs.map V.int, rfl, hf.ascii, SqL.of (s3 _ _ h2), ?_⟩
  refine for_it (walk_zs (z := txt fs) (ys := xs.map V.int) (by rw [List.length_map, hxl]; simp)) (fun i σ H' => ∃ v3 v7 : Option V, σ = [some (.ref b), some (.str (txt fs)), some (.int most), v3, some (.int (d0 - most)), some (.ref D), some (.ref a), v7] ∧ WObj (WC K) H' a fs (d0 - most) (xs.take i ++ zs.drop i) dx el d ∧ Same H2 H')
    ⟨none, none, rfl, W3, s3⟩ (fun i _ H' _ q => SqL.of (q.choose_spec.choose_spec.2.2 _ _ h2)) ?_ ?_
  · rintro i x σ H4 H5 hi ⟨v3, v7, rfl, W4, s4⟩ ⟨T1, x1, y1, rfl, hT1, rfl, hx, hy⟩
    have hi : i < fs.length := by simpa using hi
    obtain ⟨c, hc, rfl⟩ : ∃ c, fs[i]? = some c ∧ x1 = .str (ltr c) := by
      have hx : (fs.toArray[i]?).map (fun c => V.str ⟨#[c]⟩) = some x1 := hx
      rw [List.getElem?_toArray] at hx
      cases hc : fs[i]? with
      | none => rw [hc] at hx; cases hx
      | some c => rw [hc] at hx; exact ⟨c, rfl, (Option.some.inj hx).symm⟩
    obtain ⟨n, hn2, rfl⟩ : ∃ n, xs[i]? = some n ∧ y1 = .int n := by
      have hy : (xs.map V.int)[i]? = some y1 := hy
      rw [List.getElem?_map] at hy
      cases hc : xs[i]? with
      | none => rw [hc] at hy; cases hy
      | some n => rw [hc] at hy; exact ⟨n, rfl, (Option.some.inj hy).symm⟩
    have W5 : WObj (WC K) (upd H4 T1 (.tup [.str (ltr c), .int n])) a fs (d0 - most) (xs.take i ++ zs.drop i) dx el d := W4.same (same_upd hT1)
    refine ⟨T1, _, rfl, SqT.of upd_same, rfl, _, _, rfl, _, _, rfl, rfl, ?_⟩
    refine ⟨_, rfl, a, dx, _, rfl, W5.1, flds_no _ _ _ (by decide +kernel) (by decide +kernel) (by decide +kernel), _, rfl, _, rfl, a, fs, _, _, i, c, n, dx, el, d, rfl, hf, W5, hc, ?_⟩
    rw [set_step hzl hn2]
    have nad : a ≠ d := fun z => by have := W5.1; rw [z, W5.2.2.1] at this; cases this
    have ned : el ≠ d := fun z => by have := W5.2.1; rw [z, W5.2.2.1] at this; cases this
    refine ⟨_, _, rfl, ⟨(upd_ne nad).trans W5.1, (upd_ne ned).trans W5.2.1, upd_same, ?_⟩, fun c' o q => ?_⟩
    · rw [List.length_append, List.length_take, List.length_drop]
      omega
    · rw [upd_ne (ne_of_none q fdd)]
      exact same_upd hT1 _ _ (s4 _ _ q)
  · rintro σ H4 ⟨v3, v7, rfl, W4, s4⟩
    have e1 : xs.take (txt fs).cps.size ++ zs.drop (txt fs).cps.size = xs := by
      rw [show (txt fs).cps.size = xs.length from by rw [hxl]; simp, List.take_length, List.drop_eq_nil_of_le (by omega), List.append_nil]
    rw [e1] at W4
    refine ⟨_, rfl, _, rfl, _, rfl, (by show 3 ≤ sizeLine; decide +kernel), fun r hr4 => ?_⟩
    have s5 : Same H4 (upd H4 r (.lst [.ref a, .int (d0 - most), .ref D])) := same_upd hr4
    refine kq r a D _ xs _ (sb2.free hb2 (s4.free hr4)) hDH upd_same (s5 _ _ (s4 _ _ h2)) ⟨dx, el, d, W4.same s5, sb2.free hb2 fa, sb2.free hb2 fel, sb2.free hb2 fdd⟩ ⟨by omega, by omega⟩ hsm (sb2.same (s4.trans s5)) ((hb2.same (s4.trans s5)).mono ?_)
    have : (txt fs).cps.size = fs.length := by simp
    omega
end
end FwD
set_option Elab.async false
set_option linter.all false
set_option maxRecDepth 100000
set_option maxHeartbeats 2000000
namespace FwD
open PySem PySem.Spec PyProof.Rows L2 He He5 FwHk FwHd FwZip FwKw
section
variable {P : Program} {w : World} {K : PySem.W.Frag} {mg : Str → Option Value} {base : Heap} {f : Addr} {fd : FuncData}
/-! ### _law_put_at -/
def spPutAt (K : PySem.W.Frag) : Sp := fun vs H Q _ => ∃ (a : Addr) (fs : List Nat) (e : Int) (ns : List Int) (i c : Nat) (n : Int) (dx el d : Addr), vs = [.ref a, .str (ltr c), .int n] ∧ Faces fs ∧ WObj (WC K) H a fs e ns dx el d ∧ fs[i]? = some c ∧ Q (.int n) (upd H d (.dK (kvP (fs.zip (ns.set i n)))))
theorem scPutAt : FnScope ["_law_weights", "_law_face", "_law_number"] ["_law_weights", "_law_face", "_law_number"] (defScope sPutAt) := ⟨rfl, rfl, rfl, by decide +kernel, rfl, by decide +kernel, by decide +kernel⟩
theorem WObj.put {C : Addr} {H : Hp} {a : Addr} {fs : List Nat} {e : Int} {ns : List Int} {dx el d : Addr} {i : Nat} {n : Int} (h : WObj C H a fs e ns dx el d) : WObj C (upd H d (.dK (kvP (fs.zip (ns.set i n))))) a fs e (ns.set i n) dx el d := by
  obtain ⟨h1, h2, h3, h4⟩ := h
  have nad : a ≠ d := fun z => by rw [z, h3] at h1; cases h1
  have ned : el ≠ d := fun z => by rw [z, h3] at h2; cases h2
  exact ⟨(upd_ne nad).trans h1, (upd_ne ned).trans h2, upd_same, by rw [List.length_set]; exact h4⟩
theorem ok_putAt (F : Fun K "_law_put_at" "_law_put_at" sPutAt f fd) (T : Tx K mg) (DG : Df P w K mg base CX0 2 (ma K (WC K) "__getitem__") ["self", "face"] (spGet K))
    (DS : Df P w K mg base CX0 3 (ma K (WC K) "__setitem__") ["self", "face", "number"] (spPut K)) : FnOk P w K mg base CX0 4 f fd ["_law_weights", "_law_face", "_law_number"] (spPutAt K) := by
  obtain ⟨fdG, GG, kG, bG⟩ := DG.ex
  obtain ⟨fdS, GS, kS, bS⟩ := DS.ex
  have W := wx_of T
  refine F.ok scPutAt (fun vs H Q E ⟨a, fs, e, ns, i, c, n, dx, el, d, q, _⟩ => by rw [q]; rfl) (fun cdv A outer s H vs Q E hr ⟨a, fs, e, ns, i, c, n, dx, el, d, q, hf, hw, hc, k⟩ => ?_)
  subst q
  have hr3 : Room 3 (A.deeper (envOfC "_law_put_at" (defScope sPutAt) s.heap.objs.size f cdv)) := hr
  refine ⟨_, pss_cons (ps_asg (pv 2) (pg_sub (pv 0) (pv 1) (FwOp.set_own (C := WC K) GS hr bS pass0 (T.me _ (by decide +kernel)).at_ (T.me _ (by decide +kernel)).fn W.ns)))
    (pss_one (ps_ret (FwOp.ix_own (k := 2) (C := WC K) GG hr3 bG pass0 (T.me _ (by decide +kernel)).at_ (T.me _ (by decide +kernel)).fn W.gi (pv 0) (pv 1)))), ?_⟩
  have hl := hw.2.2.2
  have hi : i < ns.length := by have := (List.getElem?_eq_some_iff.mp hc).1; omega
  refine ⟨_, rfl, _, rfl, _, rfl, ⟨a, dx, _, rfl, hw.1⟩, a, fs, e, ns, i, c, n, dx, el, d, rfl, hf, hw, hc, ?_⟩
  exact ⟨_, rfl, _, rfl, ⟨a, dx, _, rfl, hw.put.1⟩, a, fs, e, ns.set i n, i, c, n, rfl, hf, ⟨dx, el, d, hw.put⟩, hc, by rw [List.getElem?_set_self hi], k⟩
/-! ### _law_added -/
def spAdded (K : PySem.W.Frag) : Sp := fun vs H Q E => ∃ (a b : Addr) (fs gs : List Nat) (e e2 : Int) (ns ms : List Int), vs = [.ref a, .ref b] ∧ a ≠ b ∧ Faces fs ∧ WAt (WC K) H a fs e ns ∧ WAt (WC K) H b gs e2 ms ∧
  (fs = gs → ∀ r H' dx el d, H r = none → H el = none → H d = none → H' r = some (.lst [.ref a, .ref a]) → WObj (WC K) H' a fs (e + e2) (List.zipWith (fun i j => i + j) ns ms) dx el d → (∀ c o, H c = some o → c ≠ a → H' c = some o) → Q (.ref r) H') ∧
  (fs ≠ gs → ∀ d H', Same H H' → H d = none → H' d = some (.xd [("code", .str "OtherFaces")]) → E (.ref (OC K)) (some d) H')
theorem scAdded : FnScope ["_law_one", "_law_other", "_law_same_here"] ["_law_one", "_law_other"] (defScope sAdded) := ⟨rfl, rfl, rfl, by decide +kernel, rfl, by decide +kernel, by decide +kernel⟩
theorem ok_added (F : Fun K "_law_added" "_law_added" sAdded f fd) (T : Tx K mg) (DI : Df P w K mg base (L2.CX P w) 4 (ma K (WC K) "__iadd__") ["self", "other"] (spIadd K)) : FnOk P w K mg base (L2.CX P w) 5 f fd ["_law_one", "_law_other"] (spAdded K) := by
  obtain ⟨fdI, GI, kI, bI⟩ := DI.ex
  have W := wx_of T
  refine F.okX scAdded (fun vs H Q E ⟨a, b, fs, gs, e, e2, ns, ms, q, _⟩ => by rw [q]; rfl) (fun cdv A outer s H vs Q E hr ⟨a, b, fs, gs, e, e2, ns, ms, q, hab, hf, h1, h2, k, kr⟩ => ?_)
  subst q
  refine ⟨_, pss_cons (ps_set (i := 2) scAdded.nd rfl (Or.inl rfl) (pv 0))
    (pss_cons (ps_aug (i := 0) scAdded.nd rfl (Or.inl rfl) (pv 1) (FwOp.in_own (C := WC K) GI hr bI (passes_call (takes_of rfl rfl rfl rfl) (fun _ _ _ _ h => h)) W.sf (T.me _ (by decide +kernel)).at_ (T.me _ (by decide +kernel)).fn))
    (pss_one (ps_ret (pe_lst (pa_cons (pv 0) (pa_cons (pv 2) pa_nil)))))), ?_⟩
  refine ⟨_, rfl, _, rfl, _, rfl, ⟨a, _, _, rfl, h1.choose_spec.choose_spec.choose_spec.1⟩, a, b, fs, gs, e, e2, ns, ms, rfl, hab, hf, h1, h2, fun hfg H1 dx el d f1 f2 W1 sb => ?_, fun hfg d H1 s1 f1 hd => kr hfg d H1 s1 f1 hd⟩
  refine ⟨_, rfl, _, rfl, (by show 2 ≤ sizeLine; decide +kernel), fun r hr1 => ?_⟩
  have s2 : Same H1 (upd H1 r (.lst [.ref a, .ref a])) := same_upd hr1
  have hrH : H r = none := by
    cases q : H r with
    | none => rfl
    | some o =>
      by_cases z : r = a
      · rw [z, W1.1] at hr1; cases hr1
      · rw [sb _ _ q z] at hr1; cases hr1
  exact k hfg r _ dx el d hrH f1 f2 upd_same (W1.same s2) fun c o q hc => s2 _ _ (sb c o q hc)
/-! ### _law_taken -/
theorem scTaken : FnScope ["_law_one", "_law_other"] ["_law_one", "_law_other"] (defScope sTaken) := ⟨rfl, rfl, rfl, by decide +kernel, rfl, by decide +kernel, by decide +kernel⟩
theorem ok_taken (F : Fun K "_law_taken" "_law_taken" sTaken f fd) (T : Tx K mg) (DB : Df P w K mg base (L2.CX P w) 6 (ma K (WC K) "__sub__") ["self", "other"] (spBin K fun i j => i - j)) : FnOk P w K mg base (L2.CX P w) 7 f fd ["_law_one", "_law_other"] (spBin K fun i j => i - j) := by
  obtain ⟨fdI, GI, kI, bI⟩ := DB.ex
  have W := wx_of T
  refine F.okX scTaken (fun vs H Q E ⟨a, b, fs, gs, e, e2, ns, ms, q, _⟩ => by rw [q]; rfl) (fun cdv A outer s H vs Q E hr ⟨a, b, fs, gs, e, e2, ns, ms, q, hf, h1, h2, k, kr⟩ => ?_)
  subst q
  refine ⟨_, pss_one (ps_ret (pe_op (FwOp.op_same (C := WC K) GI hr bI (passes_call (takes_of rfl rfl rfl rfl) (fun _ _ _ _ h => h)) W.sf (T.me _ (by decide +kernel)).at_ (T.me _ (by decide +kernel)).fn) (pv 0) (pv 1))), ?_⟩
  exact ⟨_, rfl, _, rfl, ⟨a, _, _, rfl, h1.choose_spec.choose_spec.choose_spec.1⟩, ⟨b, _, _, rfl, h2.choose_spec.choose_spec.choose_spec.1⟩, a, b, fs, gs, e, e2, ns, ms, rfl, hf, h1, h2, k, kr⟩
/-! ### _law_numbers -/
def spNumbers (K : PySem.W.Frag) : Sp := fun vs H Q _ => ∃ (a : Addr) (fs : List Nat) (e : Int) (ns : List Int), vs = [.ref a, .str (txt fs)] ∧ Faces fs ∧ WAt (WC K) H a fs e ns ∧ ∀ r H', Same H H' → H r = none → H' r = some (.lst ((e :: ns).map V.int)) → Q (.ref r) H'
theorem scNumbers : FnScope ["_law_weights", "_law_faces", "_law_face"] ["_law_weights", "_law_faces"] (defScope sNumbers) := ⟨rfl, rfl, rfl, by decide +kernel, rfl, by decide +kernel, by decide +kernel⟩
theorem ok_numbers (F : Fun K "_law_numbers" "_law_numbers" sNumbers f fd) (T : Tx K mg) (DG : Df P w K mg base CX0 2 (ma K (WC K) "__getitem__") ["self", "face"] (spGet K))
    (DE : Df P w K mg base CX0 1 (propG K (WC K) "each") ["self"] (spEach K)) : FnOk P w K mg base CX0 4 f fd ["_law_weights", "_law_faces"] (spNumbers K) := by
  obtain ⟨fdG, GG, kG, bG⟩ := DG.ex
  obtain ⟨fdE, GE, kE, bE⟩ := DE.ex
  have W := wx_of T
  refine F.ok scNumbers (fun vs H Q E ⟨a, fs, e, ns, q, _⟩ => by rw [q]; rfl) (fun cdv A outer s H vs Q E hr ⟨a, fs, e, ns, q, hf, ⟨dx, el, d, h1, h2, h3, h4⟩, k⟩ => ?_)
  subst q
  have hr2 : Room 2 (A.deeper (envOfC "_law_numbers" (defScope sNumbers) s.heap.objs.size f cdv)) := hr.mono (by decide)
  have hr3 : Room 3 (A.deeper (envOfC "_law_numbers" (defScope sNumbers) s.heap.objs.size f cdv)) := hr
  refine ⟨_, pss_one (ps_ret (pe_op op_cat (pe_lst (pa_cons (pe_prop (pv 0) T.cl W.pr GE hr2 bE .nil pass0 rfl) pa_nil))
    (pe_lc (own := [("_law_face", 2)]) (g := gName 2) (tt := tYes) (te := tOp (fun x y H Q => FwOp.IsI H (WC K) x ∧ spGet K [x, y] H Q E0) (tVar 0) (tVar 2)) rfl scNumbers.nd (pi_str (pv 1)) (blkOk_by (own := [("_law_face", 2)]) (N := ["_law_weights", "_law_faces", "_law_face"]) (sc := defScope sNumbers) (by decide +kernel)) (fun _ _ _ _ _ => pg_name (i := 2) scNumbers.nd rfl (Or.inl rfl)) (fun _ _ _ _ _ => pts_nil)
      (fun _ _ _ _ _ => FwOp.ix_own (k := 2) (C := WC K) GG (by exact hr3) bG pass0 (T.me _ (by decide +kernel)).at_ (T.me _ (by decide +kernel)).fn W.gi (pv 0) (pv 2))))), ?_⟩
  refine ⟨_, rfl, a, dx, _, rfl, h1, a, fs, e, ns, rfl, ⟨dx, el, d, h1, h2, h3, h4⟩, (by show 1 ≤ sizeLine; decide +kernel), fun p hp => ?_⟩
  have s1 : Same H (upd H p (.lst [.int e])) := same_upd hp
  refine ⟨_, rfl, txt fs, rfl, fun D hD => ?_⟩
  refine lc_txt (xs := ns) h4 (by have := hf.hi; omega) hD (fun _ => rfl) (fun i c n H2 R hc hn s2 hR => ?_) fun H' s2 hl => ?_
  · have s3 := s1.trans s2
    exact ⟨_, rfl, _, rfl, ⟨a, dx, _, rfl, s3 _ _ h1⟩, a, fs, e, ns, i, c, n, rfl, hf, ⟨dx, el, d, s3 _ _ h1, s3 _ _ h2, s3 _ _ h3, h4⟩, hc, hn, hR _ (Same.refl _)⟩
  · refine ⟨p, D, [.int e], ns.map V.int, rfl, rfl, s2 _ _ upd_same, hl, ?_, fun r hr => ?_⟩
    · rw [List.length_map, sizeLine_eq, h4]
      have := hf.hi
      show 1 + _ ≤ _
      omega
    · have s3 := s1.trans s2
      exact k r _ (s3.trans (same_upd hr)) (s3.free hr) upd_same
end
end FwD
set_option Elab.async false
set_option linter.all false
set_option maxRecDepth 100000
set_option maxHeartbeats 4000000
namespace FwD
open PySem PySem.Spec PyProof.Rows L2 He He5 FwHk FwHd FwZip FwKw
/-! ### _law_same -/
/-- equal data of depth n: scalars; lists of one length, tuples of one length, items equal of depth less -/
def Eqd (K : PySem.W.Frag) : Nat → Hp → V → V → Prop
  | 0, _, x, y => x = y ∧ (x = .non ∨ (∃ i, x = .int i) ∨ ∃ z, x = .str z)
  | n + 1, H, x, y => (x = y ∧ (x = .non ∨ (∃ i, x = .int i) ∨ ∃ z, x = .str z)) ∨ ∃ (a b : Addr) (xs ys : List V), x = .ref a ∧ y = .ref b ∧ ((H a = some (.lst xs) ∧ H b = some (.lst ys)) ∨ (H a = some (.tup xs) ∧ H b = some (.tup ys))) ∧ xs.length = ys.length ∧ xs.length < 1000 ∧ ∀ (i : Nat) (u v : V), xs[i]? = some u → ys[i]? = some v → Eqd K n H u v
theorem Eqd.same {K : PySem.W.Frag} {H H' : Hp} (s : Same H H') : ∀ {n : Nat} {x y : V}, Eqd K n H x y → Eqd K n H' x y
  | 0, _, _, h => h
  | n + 1, _, _, .inl h => .inl h
  | n + 1, _, _, .inr ⟨a, b, xs, ys, e1, e2, h, hl, hz, hi⟩ => .inr ⟨a, b, xs, ys, e1, e2, h.imp (fun q => ⟨s _ _ q.1, s _ _ q.2⟩) (fun q => ⟨s _ _ q.1, s _ _ q.2⟩), hl, hz, fun i u v hu hv => (hi i u v hu hv).same s⟩
def spSame (K : PySem.W.Frag) (n : Nat) : Sp := fun vs H Q _ => ∃ x y, vs = [x, y] ∧ Eqd K n H x y ∧ ∀ H', Same H H' → Q (.bl true) H'
theorem scSame : FnScope ["_law_found", "_law_due", "_law_a", "_law_b"] ["_law_found", "_law_due"] (defScope sSame) := ⟨rfl, rfl, rfl, by decide +kernel, rfl, by decide +kernel, by decide +kernel⟩
theorem walk_zipT {K : PySem.W.Frag} {a b : Addr} {xs ys : List V} {n : Nat} (hn : n = min xs.length ys.length) : Walk (RZ.ItzT K a b) n (fun H => SqT K H a xs ∧ SqT K H b ys) (YPair (fun i => xs[i]?) (fun i => ys[i]?)) := by
  subst hn
  refine ⟨fun i _ hi q => ?_, fun _ q => ⟨xs, ys, q.1, q.2, by omega⟩, fun i H v H' _ q y => ?_⟩
  · have h1 : i < xs.length := by omega
    have h2 : i < ys.length := by omega
    exact ⟨xs, ys, xs[i], ys[i], q.1, q.2, by simp [h1], by simp [h2]⟩
  · obtain ⟨T, x, z, h1, h2, h3, h4, h5⟩ := y
    exact ⟨T, x, z, h1, h2, h3, h4 xs q.1, h5 ys q.2⟩
theorem iteDF {c A B : Prop} [Decidable c] (hc : ¬ c) (h : B) : if decide c = true then A else B := by
  rw [decide_eq_false hc]
  exact iteF h
theorem iteNSF {c A B : Prop} [Decidable c] (hc : ¬ c) (h : A) : if (!decide c) = true then A else B := by
  rw [decide_eq_false hc]
  exact iteT h
theorem kitAny2 {K : PySem.W.Frag} {a b c : String} {r s : Bool} (h1 : kitB a b = some r) (h2 : kitB a c = some s) : PySem.W.kitAny K (.type a) [.type b, .type c] = some (r || s) := by
  unfold PySem.W.kitAny
  rw [kit_ty h1]
  cases r with
  | true => rfl
  | false =>
    show PySem.W.kitAny K (.type a) [.type c] = _
    unfold PySem.W.kitAny
    rw [kit_ty h2]
    cases s <;> rfl
section
variable {P : Program} {w : World} {K : PySem.W.Frag} {mg : Str → Option Value} {base : Heap} {f : Addr} {fd : FuncData}
theorem ok_same1 {k n : Nat} (F : Fun K "_law_same" "_law_same" sSame f fd) (T : Tx K mg) (sr : Sp) (D0 : Df P w K mg base CX0 k (ga K "_law_same") ["_law_found", "_law_due"] sr)
    (hsr : ∀ (m : Nat) (x y : V) H Q E, n = m + 1 → Eqd K m H x y → (∀ H', Same H H' → Q (.bl true) H') → sr [x, y] H Q E) : FnOk P w K mg base CX0 (k + 1) f fd ["_law_found", "_law_due"] (spSame K n) := by
  obtain ⟨fdS, GS, kS, bS⟩ := D0.ex
  refine F.ok scSame (fun vs H Q E ⟨x, y, q, _⟩ => by rw [q]; rfl) (fun cdv A outer s H vs Q E hr ⟨x, y, q, he, kq⟩ => ?_)
  subst q
  refine ⟨_, pss_cons (ps_if (PW.pt (pw_or (pt_cmpR op_isN (pv 1) pe_non (nomark _)) (pw_or1 (pt_cmpR op_isN (pv 0) pe_non (nomark _)))))
      (pss_one (ps_ret (pe_and (pe_cmpR op_isN (pv 1) pe_non (nomark _)) (pe_one (pe_cmpR op_isN (pv 0) pe_non (nomark _)))))) pss_nil)
    (pss_cons (ps_if (pt_val (pe_callB call_isiT (by rfl) (T.fr _ (by decide +kernel)) (by decide +kernel) (pa_cons (pv 1) (pa_cons (pe_tup (pa_cons (pe_bltn (v := .ty "list") (by rfl) (T.fr _ (by decide +kernel)) (by decide +kernel) rfl) (pa_cons (pe_bltn (v := .ty "tuple") (by rfl) (T.fr _ (by decide +kernel)) (by decide +kernel) rfl) pa_nil))) pa_nil))))
      (pss_cons (ps_if (pt_cmpR op_ne (pe_callB call_isi (by rfl) (T.fr _ (by decide +kernel)) (by decide +kernel) (pa_cons (pv 0) (pa_cons (pe_bltn (v := .ty "list") (by rfl) (T.fr _ (by decide +kernel)) (by decide +kernel) rfl) pa_nil))) (pe_callB call_isi (by rfl) (T.fr _ (by decide +kernel)) (by decide +kernel) (pa_cons (pv 1) (pa_cons (pe_bltn (v := .ty "list") (by rfl) (T.fr _ (by decide +kernel)) (by decide +kernel) rfl) pa_nil))) (nomark _)) (pss_one (ps_ret pe_bl)) pss_nil)
      (pss_cons (ps_if (PW.pt (pw_or (pt_cmpR op_ne (pe_callB call_isi (by rfl) (T.fr _ (by decide +kernel)) (by decide +kernel) (pa_cons (pv 0) (pa_cons (pe_bltn (v := .ty "tuple") (by rfl) (T.fr _ (by decide +kernel)) (by decide +kernel) rfl) pa_nil))) (pe_callB call_isi (by rfl) (T.fr _ (by decide +kernel)) (by decide +kernel) (pa_cons (pv 1) (pa_cons (pe_bltn (v := .ty "tuple") (by rfl) (T.fr _ (by decide +kernel)) (by decide +kernel) rfl) pa_nil))) (nomark _)) (pw_or1 (pt_cmpR op_ne (pe_callB call_len_seq (by rfl) (T.fr _ (by decide +kernel)) boot_len (pa_cons (pv 0) pa_nil)) (pe_callB call_len_seq (by rfl) (T.fr _ (by decide +kernel)) boot_len (pa_cons (pv 1) pa_nil)) (nomark _))))) (pss_one (ps_ret pe_bl)) pss_nil)
      (pss_one (ps_ret (pe_callB (cr_all rfl) (by rfl) (T.fr _ (by decide +kernel)) (by decide +kernel)
        (pa_cons (pe_lc (own := [("_law_a", 2), ("_law_b", 3)]) (g := gTup K 2 (gCons (gName 2) (gCons (gName 3) gNil))) (tt := tYes) (te := tCall sr [] E0 (tCons (tVar 2) (tCons (tVar 3) tNil))) rfl scSame.nd (RZ.pi_zipA (by rfl) (T.fr _ (by decide +kernel)) (pa_cons (pv 0) (pa_cons (pv 1) pa_nil)))
          (blkOk_by (own := [("_law_a", 2), ("_law_b", 3)]) (N := ["_law_found", "_law_due", "_law_a", "_law_b"]) (sc := defScope sSame) (by decide +kernel))
          (fun _ _ _ _ _ => pg_tup rfl (pgs_cons (pg_name (i := 2) scSame.nd rfl (Or.inl rfl)) (pgs_cons (pg_name (i := 3) scSame.nd rfl (Or.inl rfl)) pgs_nil))) (fun _ _ _ _ _ => pts_nil)
          (fun _ _ _ _ _ => pe_call GS (by exact hr) (by rfl) (T.g _ (by decide +kernel)) kS bS .nil pass0 (pa_cons (pv 2) (pa_cons (pv 3) pa_nil)))) pa_nil)))))) pss_nil)
    (pss_cons (ps_if (pt_val (pe_callB call_isiT (by rfl) (T.fr _ (by decide +kernel)) (by decide +kernel) (pa_cons (pv 0) (pa_cons (pe_tup (pa_cons (pe_bltn (v := .ty "list") (by rfl) (T.fr _ (by decide +kernel)) (by decide +kernel) rfl) (pa_cons (pe_bltn (v := .ty "tuple") (by rfl) (T.fr _ (by decide +kernel)) (by decide +kernel) rfl) pa_nil))) pa_nil)))) (pss_one (ps_ret pe_bl)) pss_nil)
    (pss_cons (ps_if (pt_cmpR op_ne (pe_callB call_isi (by rfl) (T.fr _ (by decide +kernel)) (by decide +kernel) (pa_cons (pv 0) (pa_cons (pe_bltn (v := .ty "bool") (by rfl) (T.fr _ (by decide +kernel)) (by decide +kernel) rfl) pa_nil))) (pe_callB call_isi (by rfl) (T.fr _ (by decide +kernel)) (by decide +kernel) (pa_cons (pv 1) (pa_cons (pe_bltn (v := .ty "bool") (by rfl) (T.fr _ (by decide +kernel)) (by decide +kernel) rfl) pa_nil))) (nomark _)) (pss_one (ps_ret pe_bl)) pss_nil)
    (pss_cons (ps_if (pt_cmpR op_ne (pe_callB call_isi (by rfl) (T.fr _ (by decide +kernel)) (by decide +kernel) (pa_cons (pv 0) (pa_cons (pe_bltn (v := .ty "int") (by rfl) (T.fr _ (by decide +kernel)) (by decide +kernel) rfl) pa_nil))) (pe_callB call_isi (by rfl) (T.fr _ (by decide +kernel)) (by decide +kernel) (pa_cons (pv 1) (pa_cons (pe_bltn (v := .ty "int") (by rfl) (T.fr _ (by decide +kernel)) (by decide +kernel) rfl) pa_nil))) (nomark _)) (pss_one (ps_ret pe_bl)) pss_nil)
    (pss_one (ps_ret (pe_and (pe_cmpR op_eq (pe_callB call_isi (by rfl) (T.fr _ (by decide +kernel)) (by decide +kernel) (pa_cons (pv 0) (pa_cons (pe_bltn (v := .ty "str") (by rfl) (T.fr _ (by decide +kernel)) (by decide +kernel) rfl) pa_nil))) (pe_callB call_isi (by rfl) (T.fr _ (by decide +kernel)) (by decide +kernel) (pa_cons (pv 1) (pa_cons (pe_bltn (v := .ty "str") (by rfl) (T.fr _ (by decide +kernel)) (by decide +kernel) rfl) pa_nil))) (nomark _)) (pe_one (pe_cmpR op_eq (pv 0) (pv 1) (nomark _)))))))))), ?_⟩
  have hc : (x = y ∧ (x = .non ∨ (∃ i, x = .int i) ∨ ∃ z, x = .str z)) ∨ ∃ (a b : Addr) (xs ys : List V), x = .ref a ∧ y = .ref b ∧ ((H a = some (.lst xs) ∧ H b = some (.lst ys)) ∨ (H a = some (.tup xs) ∧ H b = some (.tup ys))) ∧ xs.length = ys.length ∧ xs.length < 1000 ∧
      ∀ (i : Nat) (u v : V), xs[i]? = some u → ys[i]? = some v → ∀ H' (Q : VK) (E : XK), Same H H' → (∀ H2, Same H' H2 → Q (.bl true) H2) → sr [u, v] H' Q E := by
    cases n with
    | zero => exact .inl he
    | succ m =>
      rcases he with h | ⟨a, b, xs, ys, e1, e2, h, hl, hz, hi⟩
      · exact .inl h
      · exact .inr ⟨a, b, xs, ys, e1, e2, h, hl, hz, fun i u v hu hv H' Q E s1 k => hsr m u v H' Q E rfl ((hi i u v hu hv).same s1) k⟩
  rcases hc with ⟨rfl, rfl | ⟨i, rfl⟩ | ⟨z, rfl⟩⟩ | ⟨a, b, xs, ys, rfl, rfl, h, hl, hz, hi⟩
  · refine ⟨_, rfl, rfl, _, rfl, iteD rfl ?_⟩
    refine ⟨_, rfl, rfl, _, rfl, iteD rfl ⟨_, rfl, rfl, ?_⟩⟩
    rw [decide_eq_true rfl]
    exact kq H (Same.refl _)
  · refine ⟨_, rfl, rfl, _, rfl, iteDF (fun z => by cases z) ⟨_, rfl, rfl, _, rfl, iteDF (fun z => by cases z) ?_⟩⟩
    refine ⟨_, rfl, (by show 2 ≤ sizeLine; decide +kernel), fun tp htp => ⟨.int i, tp, _, _, [.type "list", .type "tuple"], _, rfl, upd_same, .cons (.ty _) (.cons (.ty _) .nil), .base (.int i), kitAny2 (r := false) (s := false) (by decide +kernel) (by decide +kernel), _, rfl, iteF ?_⟩⟩
    refine ⟨_, rfl, (by show 2 ≤ sizeLine; decide +kernel), fun tp2 htp2 => ⟨.int i, tp2, _, _, [.type "list", .type "tuple"], _, rfl, upd_same, .cons (.ty _) (.cons (.ty _) .nil), .base (.int i), kitAny2 (r := false) (s := false) (by decide +kernel) (by decide +kernel), _, rfl, iteF ?_⟩⟩
    refine ⟨_, rfl, .int i, .ty "bool", _, .type "bool", false, rfl, .ty _, .base (.int i), kit_ty (by decide +kernel), _, rfl, .int i, .ty "bool", _, .type "bool", false, rfl, .ty _, .base (.int i), kit_ty (by decide +kernel), rfl, _, rfl, iteNS rfl ?_⟩
    refine ⟨_, rfl, .int i, .ty "int", _, .type "int", true, rfl, .ty _, .base (.int i), kit_ty (by decide +kernel), _, rfl, .int i, .ty "int", _, .type "int", true, rfl, .ty _, .base (.int i), kit_ty (by decide +kernel), rfl, _, rfl, iteNS rfl ?_⟩
    refine ⟨_, rfl, .int i, .ty "str", _, .type "str", false, rfl, .ty _, .base (.int i), kit_ty (by decide +kernel), _, rfl, .int i, .ty "str", _, .type "str", false, rfl, .ty _, .base (.int i), kit_ty (by decide +kernel), rfl, _, rfl, iteD rfl ⟨_, rfl, _, rfl, rfl, ?_⟩⟩
    rw [decide_eq_true rfl]
    exact kq _ ((same_upd htp).trans (same_upd htp2))
  · refine ⟨_, rfl, rfl, _, rfl, iteDF (fun z => by cases z) ⟨_, rfl, rfl, _, rfl, iteDF (fun z => by cases z) ?_⟩⟩
    refine ⟨_, rfl, (by show 2 ≤ sizeLine; decide +kernel), fun tp htp => ⟨.str z, tp, _, _, [.type "list", .type "tuple"], _, rfl, upd_same, .cons (.ty _) (.cons (.ty _) .nil), .base (.str z), kitAny2 (r := false) (s := false) (by decide +kernel) (by decide +kernel), _, rfl, iteF ?_⟩⟩
    refine ⟨_, rfl, (by show 2 ≤ sizeLine; decide +kernel), fun tp2 htp2 => ⟨.str z, tp2, _, _, [.type "list", .type "tuple"], _, rfl, upd_same, .cons (.ty _) (.cons (.ty _) .nil), .base (.str z), kitAny2 (r := false) (s := false) (by decide +kernel) (by decide +kernel), _, rfl, iteF ?_⟩⟩
    refine ⟨_, rfl, .str z, .ty "bool", _, .type "bool", false, rfl, .ty _, .base (.str z), kit_ty (by decide +kernel), _, rfl, .str z, .ty "bool", _, .type "bool", false, rfl, .ty _, .base (.str z), kit_ty (by decide +kernel), rfl, _, rfl, iteNS rfl ?_⟩
    refine ⟨_, rfl, .str z, .ty "int", _, .type "int", false, rfl, .ty _, .base (.str z), kit_ty (by decide +kernel), _, rfl, .str z, .ty "int", _, .type "int", false, rfl, .ty _, .base (.str z), kit_ty (by decide +kernel), rfl, _, rfl, iteNS rfl ?_⟩
    refine ⟨_, rfl, .str z, .ty "str", _, .type "str", true, rfl, .ty _, .base (.str z), kit_ty (by decide +kernel), _, rfl, .str z, .ty "str", _, .type "str", true, rfl, .ty _, .base (.str z), kit_ty (by decide +kernel), rfl, _, rfl, iteD rfl ⟨_, rfl, _, rfl, rfl, ?_⟩⟩
    rw [decide_eq_true rfl]
    exact kq _ ((same_upd htp).trans (same_upd htp2))
  · rcases h with ⟨h1, h2⟩ | ⟨h1, h2⟩
    · refine ⟨_, rfl, rfl, _, rfl, iteDF (fun z => by cases z) ⟨_, rfl, rfl, _, rfl, iteDF (fun z => by cases z) ?_⟩⟩
      refine ⟨_, rfl, (by show 2 ≤ sizeLine; decide +kernel), fun tp htp => ?_⟩
      have g1 := same_upd (o := .tup [.ty "list", .ty "tuple"]) htp _ _ h1
      have g2 := same_upd (o := .tup [.ty "list", .ty "tuple"]) htp _ _ h2
      have s1 : Same H (upd H tp (.tup [.ty "list", .ty "tuple"])) := same_upd htp
      refine ⟨.ref b, tp, _, _, [.type "list", .type "tuple"], _, rfl, upd_same, .cons (.ty _) (.cons (.ty _) .nil), .base (.lst g2), kitAny2 (r := true) (s := false) (by decide +kernel) (by decide +kernel), _, rfl, iteT ?_⟩
      refine ⟨_, rfl, .ref a, .ty "list", _, .type "list", true, rfl, .ty _, .base (.lst g1), kit_ty (by decide +kernel), _, rfl, .ref b, .ty "list", _, .type "list", true, rfl, .ty _, .base (.lst g2), kit_ty (by decide +kernel), rfl, _, rfl, iteNS rfl ?_⟩
      refine ⟨_, rfl, .ref a, .ty "tuple", _, .type "tuple", false, rfl, .ty _, .base (.lst g1), kit_ty (by decide +kernel), _, rfl, .ref b, .ty "tuple", _, .type "tuple", false, rfl, .ty _, .base (.lst g2), kit_ty (by decide +kernel), rfl, _, rfl, iteNS rfl ?_⟩
      refine ⟨_, rfl, a, xs, rfl, .inl (SqL.of g1), _, rfl, b, ys, rfl, .inl (SqL.of g2), rfl, _, rfl, iteNS (by rw [hl]) ?_⟩
      refine ⟨_, rfl, _, rfl, a, b, xs, ys, rfl, .inl ⟨SqL.of g1, SqL.of g2, fun D hD => ?_⟩⟩
      refine lc_it (walk_zip (xs := xs) (ys := ys) (n := xs.length) (by rw [← hl, Nat.min_self])) (fun i H1 => Same (upd H tp (.tup [.ty "list", .ty "tuple"])) H1 ∧ H1 D = some (.lst ((List.replicate i true).map V.bl)) ∧ i ≤ xs.length)
        ⟨same_upd hD, upd_same, Nat.zero_le _⟩ (fun i H1 _ q => ⟨SqL.of (q.1 _ _ g1), SqL.of (q.1 _ _ g2)⟩) ?_ ?_
      · rintro i x H1 H2 hil ⟨s2, hd, _⟩ ⟨T1, x1, y1, rfl, hT1, rfl, hx, hy⟩
        refine ⟨T1, _, rfl, SqT.of upd_same, rfl, _, _, rfl, _, _, rfl, rfl, rfl, _, rfl, _, rfl, ?_⟩
        refine hi i x1 y1 hx hy _ _ _ ((s1.trans s2).trans (same_upd hT1)) fun H3 s3 => ?_
        have s4 := (s2.trans (same_upd hT1)).trans s3
        refine ⟨_, s3 _ _ (same_upd hT1 _ _ hd), ?_, fun b o q => ?_, ?_, hil⟩
        · rw [List.length_map, List.length_replicate, sizeLine_eq]
          omega
        · rw [upd_ne (ne_of_none q hD)]
          exact s4 _ _ q
        · rw [upd_same, List.replicate_succ', List.map_append]
          rfl
      · rintro H1 ⟨s2, hd, _⟩
        refine ⟨D, _, rfl, .inl (.inl hd), ?_⟩
        rw [show (List.replicate xs.length true).all id = true from by simp]
        exact kq _ (s1.trans s2)
    · refine ⟨_, rfl, rfl, _, rfl, iteDF (fun z => by cases z) ⟨_, rfl, rfl, _, rfl, iteDF (fun z => by cases z) ?_⟩⟩
      refine ⟨_, rfl, (by show 2 ≤ sizeLine; decide +kernel), fun tp htp => ?_⟩
      have g1 := same_upd (o := .tup [.ty "list", .ty "tuple"]) htp _ _ h1
      have g2 := same_upd (o := .tup [.ty "list", .ty "tuple"]) htp _ _ h2
      have s1 : Same H (upd H tp (.tup [.ty "list", .ty "tuple"])) := same_upd htp
      refine ⟨.ref b, tp, _, _, [.type "list", .type "tuple"], _, rfl, upd_same, .cons (.ty _) (.cons (.ty _) .nil), .base (.tup g2), kitAny2 (r := false) (s := true) (by decide +kernel) (by decide +kernel), _, rfl, iteT ?_⟩
      refine ⟨_, rfl, .ref a, .ty "list", _, .type "list", false, rfl, .ty _, .base (.tup g1), kit_ty (by decide +kernel), _, rfl, .ref b, .ty "list", _, .type "list", false, rfl, .ty _, .base (.tup g2), kit_ty (by decide +kernel), rfl, _, rfl, iteNS rfl ?_⟩
      refine ⟨_, rfl, .ref a, .ty "tuple", _, .type "tuple", true, rfl, .ty _, .base (.tup g1), kit_ty (by decide +kernel), _, rfl, .ref b, .ty "tuple", _, .type "tuple", true, rfl, .ty _, .base (.tup g2), kit_ty (by decide +kernel), rfl, _, rfl, iteNS rfl ?_⟩
      refine ⟨_, rfl, a, xs, rfl, .inr (SqT.of g1), _, rfl, b, ys, rfl, .inr (SqT.of g2), rfl, _, rfl, iteNS (by rw [hl]) ?_⟩
      refine ⟨_, rfl, _, rfl, a, b, xs, ys, rfl, .inr ⟨SqT.of g1, SqT.of g2, fun D hD => ?_⟩⟩
      refine lc_it (walk_zipT (xs := xs) (ys := ys) (n := xs.length) (by rw [← hl, Nat.min_self])) (fun i H1 => Same (upd H tp (.tup [.ty "list", .ty "tuple"])) H1 ∧ H1 D = some (.lst ((List.replicate i true).map V.bl)) ∧ i ≤ xs.length)
        ⟨same_upd hD, upd_same, Nat.zero_le _⟩ (fun i H1 _ q => ⟨SqT.of (q.1 _ _ g1), SqT.of (q.1 _ _ g2)⟩) ?_ ?_
      · rintro i x H1 H2 hil ⟨s2, hd, _⟩ ⟨T1, x1, y1, rfl, hT1, rfl, hx, hy⟩
        refine ⟨T1, _, rfl, SqT.of upd_same, rfl, _, _, rfl, _, _, rfl, rfl, rfl, _, rfl, _, rfl, ?_⟩
        refine hi i x1 y1 hx hy _ _ _ ((s1.trans s2).trans (same_upd hT1)) fun H3 s3 => ?_
        have s4 := (s2.trans (same_upd hT1)).trans s3
        refine ⟨_, s3 _ _ (same_upd hT1 _ _ hd), ?_, fun b o q => ?_, ?_, hil⟩
        · rw [List.length_map, List.length_replicate, sizeLine_eq]
          omega
        · rw [upd_ne (ne_of_none q hD)]
          exact s4 _ _ q
        · rw [upd_same, List.replicate_succ', List.map_append]
          rfl
      · rintro H1 ⟨s2, hd, _⟩
        refine ⟨D, _, rfl, .inl (.inl hd), ?_⟩
        rw [show (List.replicate xs.length true).all id = true from by simp]
        exact kq _ (s1.trans s2)
/-- never called -/
def spNo : Sp := fun _ _ _ _ => False
theorem ok_same0 (F : Fun K "_law_same" "_law_same" sSame f fd) : FnOk P w K mg base CX0 1 f fd ["_law_found", "_law_due"] spNo :=
  F.ok scSame (fun vs H Q E h => h.elim) (fun cdv A outer s H vs Q E hr h => h.elim)
end
end FwD
set_option Elab.async false
set_option linter.all false
set_option maxRecDepth 100000
set_option maxHeartbeats 4000000
namespace FwLam
open PySem PySem.Spec PyProof.Rows L2 LamX
/-- x(), x a name that holds what may be asked; the exceptions' wish of the slots -/
def tAskS (AO : Addr → (Hp → VK → XK → Prop) → Prop) (i : Nat) (E : L2.St → XK) : TE := fun σ H Q => ∃ (f : Addr) (sp : Hp → VK → XK → Prop), σ[i]? = some (some (.ref f)) ∧ (∃ oc od fd sl, H f = some (.frz ⟨oc, od, .func fd, sl⟩ tt)) ∧ AO f sp ∧ sp H Q (E σ)
section
variable {X : Cx} {CX : CXT} {i j k : Nat} {x : Str} {E : L2.St → XK} {p pos : Pos}
theorem pe_askS (hr : Room j X.A) (hk : k ≤ j) (hx : ∀ σ, PassesAt CX X σ (E σ)) (hN : X.N[i]? = some x) (hv : Vis X.env.scope x) (hd : (x == ("__debug__" : Str)) = false := by decide) (hcd : (x == ("__classdict__" : Str)) = false := by decide) :
    PE X (.Call (.Name x p) [] [] pos) (tAskS (AskOk X.prog X.w X.K X.mg X.base CX k) i E) := by
  refine ⟨fun pins s σ H Q I ⟨f, sp, hs, ⟨oc, od, fd, sl, hf⟩, ao, hq⟩ => ?_⟩
  refine wpAny_Call_Name_kw (thn ((pe_var (pos := p) hN hv hd hcd).run pins s σ H (fun v H1 => v = .ref f ∧ H1 = H) I ⟨.ref f, hs, rfl, rfl⟩) fun u s1 ⟨v, H1, I1, r1, ev, eH⟩ => ?_)
  subst ev eH
  obtain rfl : u = Value.ref f := r1
  refine PySem.W.callWith_F0 (first := []) ⟨_, _, _, _, (I1.hok f _ hf).1⟩ ?_
  refine wpAny_call (codeAny_mono (ao X.A X.stack s1 H1 Q (E σ) (hr.mono hk) I1.env0 hq) fun r s' hq => ?_)
  cases r with
  | error e => exact hx σ pins _ s1 e s' I1 hq
  | ok fl =>
    cases fl with
    | ret u => exact I1.after hq
    | next => exact False.elim hq
    | brk => exact False.elim hq
    | cont => exact False.elim hq
end
end FwLam
namespace FwD
open PySem PySem.Spec PyProof.Rows L2 He He5 FwHk FwHd FwZip FwKw FwLam
section
variable {P : Program} {w : World} {K : PySem.W.Frag} {mg : Str → Option Value} {base : Heap} {f : Addr} {fd : FuncData}
/-! ### _law_field -/
abbrev xo : List (Str × V) := [(("code" : Str), .str "OtherFaces")]
/-- told of a caught OtherFaces -/
def spField (K : PySem.W.Frag) (cls : Value) (d : Option Addr) : Hp → VK → Prop := fun H Q => cls = .ref (OC K) ∧ ∃ dd, d = some dd ∧ H dd = some (.xd xo) ∧ ∀ H', Same H H' → Q .non H'
theorem scField : FnScope ["_law_e"] ["_law_e"] (defScope sField) := ⟨rfl, rfl, rfl, by decide +kernel, rfl, by decide +kernel, by decide +kernel⟩
theorem field_body (O : Ox K) {cdv : Value} {A : Around} {outer : List Env} {s : Shared} {H : Hp} {Q : VK} {E : XK} {a : Addr} {oe : Obj} {cls : Value} {d : Option Addr} (hz : Zc cls d oe) (hf : ∃ vs, oe.data = .fields vs) (h : spField K cls d H Q) :
    ∃ t, PSs (L2H.cxH (fun _ _ _ _ _ _ => False) P w K mg base ["_law_e"] "_law_field" (defScope sField) f cdv A outer s H E (a, oe)) (defBody sField) t ∧ t { nx := fun _ H' => Q .non H', rt := Q } (L2.start ["_law_e"] [.ref a]) H := by
  obtain ⟨hc, dd, hd, hdd, k⟩ := h
  have hp : (a, oe) ∈ (L2H.cxH (fun _ _ _ _ _ _ => False) P w K mg base ["_law_e"] "_law_field" (defScope sField) f cdv A outer s H E (a, oe)).pn := List.mem_singleton.mpr rfl
  refine ⟨_, pss_cons (ps_if (pt_cmpR op_in_seq (FwEx.pe_xfP O.xf O.code hp hz hf (pv 0)) (pe_lst (pa_cons pe_str (pa_cons pe_str (pa_cons pe_str (pa_cons pe_str (pa_cons pe_str (pa_cons pe_str pa_nil))))))) (by rfl)) (pss_one ps_never) pss_nil)
    (pss_cons (ps_if (pt_cmpR op_in_seq (FwEx.pe_xfP O.xf O.code hp hz hf (pv 0)) (pe_lst (pa_cons pe_str (pa_cons pe_str pa_nil))) (by rfl)) (pss_one ps_never) pss_nil)
    (pss_cons (ps_if (pt_cmpR op_in_seq (FwEx.pe_xfP O.xf O.code hp hz hf (pv 0)) (pe_lst (pa_cons pe_str (pa_cons pe_str pa_nil))) (by rfl)) (pss_one ps_never) pss_nil)
    (pss_cons (ps_if (pt_cmpR op_eq (FwEx.pe_xfP O.xf O.code hp hz hf (pv 0)) pe_str (nomark _)) (pss_one ps_never) pss_nil)
    (pss_one (ps_ret (pe_ifExp (pt_cmpR op_in_seq (FwEx.pe_xfP O.xf O.code hp hz hf (pv 0)) (pe_lst (pa_cons pe_str (pa_cons pe_str (pa_cons pe_str (pa_cons pe_str pa_nil))))) (by rfl)) pe_non (FwEx.pe_xfP O.xf (O.no "given" (by decide)) hp hz hf (pv 0)))))))), ?_⟩
  have g0 : Same H H := Same.refl _
  refine ⟨_, rfl, rfl, hc, dd, xo, _, hd, g0 _ _ hdd, rfl, (by show 6 ≤ sizeLine; decide +kernel), fun p0 hp0 => ⟨p0, _, rfl, .inl (SqL.of upd_same), rfl, rfl, _, rfl, iteF ?_⟩⟩
  have g1 := fun o => g0.trans (same_upd (o := o) hp0)
  refine ⟨_, rfl, rfl, hc, dd, xo, _, hd, g1 _ _ _ hdd, rfl, (by show 2 ≤ sizeLine; decide +kernel), fun p1 hp1 => ⟨p1, _, rfl, .inl (SqL.of upd_same), rfl, rfl, _, rfl, iteF ?_⟩⟩
  have g2 := fun o => (g1 _).trans (same_upd (o := o) hp1)
  refine ⟨_, rfl, rfl, hc, dd, xo, _, hd, g2 _ _ _ hdd, rfl, (by show 2 ≤ sizeLine; decide +kernel), fun p2 hp2 => ⟨p2, _, rfl, .inl (SqL.of upd_same), rfl, rfl, _, rfl, iteF ?_⟩⟩
  have g3 := fun o => (g2 _).trans (same_upd (o := o) hp2)
  refine ⟨_, rfl, rfl, hc, dd, xo, _, hd, g3 _ _ _ hdd, rfl, rfl, _, rfl, iteDF (fun z => absurd (V.str.inj z) (by decide +kernel)) ?_⟩
  refine ⟨_, rfl, rfl, hc, dd, xo, _, hd, g3 _ _ _ hdd, rfl, (by show 4 ≤ sizeLine; decide +kernel), fun p4 hp4 => ⟨p4, _, rfl, .inl (SqL.of upd_same), rfl, rfl, _, rfl, iteT ?_⟩⟩
  exact k _ ((g3 _).trans (same_upd hp4))
/-! ### _law_try -/
/-- what is asked raises OtherFaces; R: what then stands -/
def AskBad (P : Program) (w : World) (K : PySem.W.Frag) (mg : Str → Option Value) (base : Heap) (kk : Nat) (f : Addr) (H : Hp) (R : Hp → Prop) : Prop := ∃ sp : Hp → VK → XK → Prop, (∃ oc od fd sl, H f = some (.frz ⟨oc, od, .func fd, sl⟩ tt)) ∧ AskOk P w K mg base (L2.CX P w) kk f sp ∧
  ∀ (Q : VK) (E : XK), (∀ dd H', H' dd = some (.xd xo) → R H' → E (.ref (OC K)) (some dd) H') → sp H Q E
def spTry (P : Program) (w : World) (K : PySem.W.Frag) (mg : Str → Option Value) (base : Heap) (kk : Nat) : Sp := fun vs H Q _ => ∃ (f : Addr) (R : Hp → Prop), vs = [.ref f] ∧ AskBad P w K mg base kk f H R ∧ ∀ H' T H'', R H' → Same H' H'' → H' T = none → H'' T = some (.tup [.str "OtherFaces", .non]) → Q (.ref T) H''
theorem scTry : FnScope ["_law_ask", "_law_e"] ["_law_ask"] (defScope sTry) := ⟨rfl, rfl, rfl, by decide +kernel, rfl, by decide +kernel, by decide +kernel⟩
theorem ok_try {kk : Nat} {fdF : FuncData} (F : Fun K "_law_try" "_law_try" sTry f fd) (T : Tx K mg) (FF : Fun K "_law_field" "_law_field" sField (ga K "_law_field") fdF) : FnOk P w K mg base CX0 (kk + 1 + 1) f fd ["_law_ask"] (spTry P w K mg base kk) := by
  have O := ox_of T
  have bF : Binds K fdF ["_law_e"] [] := FF.binds fun _ _ _ _ _ _ us hl => match us, hl with | [_], _ => rfl
  obtain ⟨oc, od, kV, doc, pm, an, cdvF, ct, osl, rfl, lkF, hcdF⟩ := FF.ex
  refine F.ok scTry (fun vs H Q E ⟨f, R, q, _⟩ => by rw [q]; rfl) (fun cdv A outer s H vs Q E hr ⟨f0, R, q, ⟨sp, hf0, ao, hsp⟩, k⟩ => ?_)
  subst q
  have hrH : L2H.RoomH (kk + 1) (A.deeper (envOfC "_law_try" (defScope sTry) s.heap.objs.size f cdv)) := L2H.roomH_of hr
  refine ⟨_, pss_one (FwEx.ps_try_tup (i := 1) (cx := .ref (ga K "HouseError")) (cy := .ref (ga K "Missing")) (cz := .ref (ga K "NothingLeft"))
    (tb := fun W => tRet (tTup (tCons (tC (.str "")) (tCons (tAskS (AskOk P w K mg base (L2.CX P w) kk) 0 (WE W)) tNil))))
    (ts := fun a cls d => tRet (tTup (tCons (tXf a cls d (OC K) "code" (tVar 1)) (tCons (FwEx.tHot a (tVar 1) (spField K cls d)) tNil))))
    rfl rfl scTry.nd rfl rfl ⟨rfl, by decide, Or.inl (T.g _ (by decide +kernel))⟩ ⟨rfl, by decide, Or.inl (T.g _ (by decide +kernel))⟩ ⟨rfl, by decide, Or.inl (T.g _ (by decide +kernel))⟩
    (fun W pn xe tk => pss_one (ps_ret (pe_tup (pa_cons pe_str (pa_cons (pe_askS (CX := L2.CX P w) (by exact hr) (Nat.le_succ _) (fun σ => passAt tk σ) rfl (Or.inl rfl)) pa_nil)))))
    (fun a oe cls d pn hz hf => pss_one (ps_ret (pe_tup (pa_cons (FwEx.pe_xfP O.xf O.code List.mem_cons_self hz hf (pv 1)) (pa_cons
      (FwEx.pe_hot lkF hcdF scField ⟨hrH.dp, hrH.un⟩ List.mem_cons_self (by rfl) (T.g _ (by decide +kernel)) FF.kp bF (pv 1) (fun A' outer' s' H' Q' E' hq => field_body O hz hf hq)) pa_nil)))))), ?_⟩
  refine ⟨f0, sp, rfl, hf0, ao, hsp _ _ fun dd H1 hdd hR => ?_⟩
  refine ⟨O.exm, fun a ha => ?_⟩
  refine ⟨_, rfl, rfl, rfl, dd, xo, _, rfl, hdd, rfl, ⟨_, rfl, rfl, rfl, dd, rfl, hdd, fun H2 s2 => ⟨(by show 2 ≤ sizeLine; decide +kernel), fun p hp => ?_⟩⟩⟩
  exact k H1 p _ hR (s2.trans (same_upd hp)) (s2.free hp) upd_same
end
end FwD
set_option Elab.async false
set_option linter.all false
set_option maxRecDepth 100000
set_option maxHeartbeats 4000000
namespace FwD
open PySem PySem.Spec PyProof.Rows L2 He He5 FwHk FwHd FwZip FwKw FwLam
section
variable {P : Program} {w : World} {K : PySem.W.Frag} {mg : Str → Option Value} {base : Heap} {f : Addr} {fd : FuncData}
/-! ### _law_tries -/
def spTries (P : Program) (w : World) (K : PySem.W.Frag) (mg : Str → Option Value) (base : Heap) (kk : Nat) : Sp := fun vs H Q _ => ∃ (l : Addr) (fs : List Addr), vs = [.ref l] ∧ SqL K H l (fs.map V.ref) ∧ fs.length < 1000 ∧ (∀ f ∈ fs, ∀ H', Same H H' → AskBad P w K mg base kk f H' (Same H')) ∧
  ∀ (D : Addr) (ts : List Addr) H', Same H H' → H D = none → H' D = some (.lst (ts.map V.ref)) → ts.length = fs.length → (∀ t ∈ ts, H' t = some (.tup [.str "OtherFaces", .non])) → Q (.ref D) H'
theorem scTries : FnScope ["_law_asks", "_law_ask"] ["_law_asks"] (defScope sTries) := ⟨rfl, rfl, rfl, by decide +kernel, rfl, by decide +kernel, by decide +kernel⟩
theorem ok_tries {kk k : Nat} (F : Fun K "_law_tries" "_law_tries" sTries f fd) (T : Tx K mg) (DT : Df P w K mg base CX0 k (ga K "_law_try") ["_law_ask"] (spTry P w K mg base kk)) : FnOk P w K mg base CX0 (k + 1) f fd ["_law_asks"] (spTries P w K mg base kk) := by
  obtain ⟨fdT, GT, kT, bT⟩ := DT.ex
  refine F.ok scTries (fun vs H Q E ⟨l, fs, q, _⟩ => by rw [q]; rfl) (fun cdv A outer s H vs Q E hr ⟨l, fs, q, hl, hz, hb, kq⟩ => ?_)
  subst q
  refine ⟨_, pss_one (ps_ret (pe_lc (own := [("_law_ask", 1)]) (g := gName 1) (tt := tYes) (te := tCall (spTry P w K mg base kk) [] E0 (tCons (tVar 1) tNil)) rfl scTries.nd (pi_list (pv 0)) (blkOk_by (own := [("_law_ask", 1)]) (N := ["_law_asks", "_law_ask"]) (sc := defScope sTries) (by decide +kernel))
    (fun _ _ _ _ _ => pg_name (i := 1) scTries.nd rfl (Or.inl rfl)) (fun _ _ _ _ _ => pts_nil) (fun _ _ _ _ _ => pe_call GT (by exact hr) (by rfl) (T.g _ (by decide +kernel)) kT bT .nil pass0 (pa_cons (pv 1) pa_nil)))), ?_⟩
  refine ⟨_, rfl, l, rfl, ⟨_, hl⟩, fun D hD => ?_⟩
  refine lc_it (walk_list (xs := fs.map V.ref)) (fun i H1 => ∃ ts : List Addr, Same H H1 ∧ H1 D = some (.lst (ts.map V.ref)) ∧ ts.length = i ∧ i ≤ fs.length ∧ ∀ t ∈ ts, H1 t = some (.tup [.str "OtherFaces", .non]))
    ⟨[], same_upd hD, upd_same, rfl, Nat.zero_le _, fun _ h => by cases h⟩ (fun i H1 _ q => q.choose_spec.1.seq hl) ?_ ?_
  · rintro i x H1 H2 hi ⟨ts, s1, hd, htl, _, ht⟩ ⟨rfl, hx⟩
    rw [List.length_map] at hi
    have hx2 : (fs.map V.ref)[i]? = some (.ref fs[i]) := by rw [List.getElem?_map, List.getElem?_eq_getElem hi]; rfl
    rw [hx2] at hx
    obtain rfl := Option.some.inj hx
    refine ⟨rfl, _, rfl, fs[i], Same H2, rfl, hb _ (List.getElem_mem hi) _ s1, fun H3 t H4 s3 s4 ht3 ht4 => ?_⟩
    have s5 := s3.trans s4
    have nD : t ≠ D := fun z => by rw [z, s3 _ _ hd] at ht3; cases ht3
    refine ⟨_, s5 _ _ hd, ?_, ts ++ [t], fun b o q => ?_, ?_, ?_, hi, fun t' h' => ?_⟩
    · rw [List.length_map, sizeLine_eq]
      omega
    · rw [upd_ne (ne_of_none q hD)]
      exact s5 _ _ (s1 _ _ q)
    · rw [upd_same, List.map_append]
      rfl
    · rw [List.length_append, htl]
      rfl
    · rcases List.mem_append.mp h' with h | h
      · have nD' : t' ≠ D := fun z => by have := ht t' h; rw [z, hd] at this; cases this
        rw [upd_ne nD']
        exact s5 _ _ (ht t' h)
      · rw [List.mem_singleton.mp h, upd_ne nD]
        exact ht4
  · rintro H1 ⟨ts, s1, hd, htl, _, ht⟩
    exact kq D ts H1 s1 hD hd (by rw [htl, List.length_map]) ht
end
end FwD
set_option Elab.async false
set_option linter.all false
set_option maxRecDepth 100000
set_option maxHeartbeats 4000000
namespace FwD
open PySem PySem.Spec PyProof.Rows L2 He He5 FwHk FwHd FwZip FwKw FwLam
abbrev NL : List Str := ["_law_script", "_law_bag", "_law_faces", "_law_first", "_law_second", "_law_one", "_law_other", "_law_many", "_law_left", "_law_right", "_law_found", "_law_due", "_law_weights", "_law_twin", "_law_pair", "_law_gone", "_law_more", "_law_asks", "_law_a", "_law_b", "_law_letter"]
theorem scLaw : FnScope NL ["_law_script"] (defScope sLaw) := ⟨rfl, rfl, rfl, by decide +kernel, rfl, by decide +kernel, by decide +kernel⟩
/-- what the law calls -/
structure LD (P : Program) (w : World) (K : PySem.W.Frag) (mg : Str → Option Value) (base : Heap) : Prop where
  t : Tx K mg
  op : Df P w K mg base CX0 1 (ga K "_law_open") ["_law_script"] (spOpen K)
  sf : Df P w K mg base CX0 3 (ga K "_law_some_faces") ["_law_bag", "_law_most"] spSomeF
  sw : Df P w K mg base CX0 5 (ga K "_law_some_weights") ["_law_bag", "_law_faces", "_law_most"] (spSomeW K)
  dr : Df P w K mg base CX0 1 (ga K "_law_draw") ["_law_bag", "_law_many"] spDraw
  sm : Df P w K mg base CX0 4 (ga K "_law_same") ["_law_found", "_law_due"] (spSame K 2)
  nu : Df P w K mg base CX0 4 (ga K "_law_numbers") ["_law_weights", "_law_faces"] (spNumbers K)
  pt : Df P w K mg base CX0 4 (ga K "_law_put_at") ["_law_weights", "_law_face", "_law_number"] (spPutAt K)
  ad : Df P w K mg base (L2.CX P w) 5 (ga K "_law_added") ["_law_one", "_law_other"] (spAdded K)
  ta : Df P w K mg base (L2.CX P w) 7 (ga K "_law_taken") ["_law_one", "_law_other"] (spBin K fun i j => i - j)
  tr : Df P w K mg base CX0 11 (ga K "_law_tries") ["_law_asks"] (spTries P w K mg base 8)
  ini : InitR P w K mg base CX0 3 (ma K (WC K) "__init__") (spI (WC K))
  add : Df P w K mg base (L2.CX P w) 6 (ma K (WC K) "__add__") ["self", "other"] (spBin K fun i j => i + j)
  sub : Df P w K mg base (L2.CX P w) 6 (ma K (WC K) "__sub__") ["self", "other"] (spBin K fun i j => i - j)
  mul : Df P w K mg base CX0 6 (ma K (WC K) "__mul__") ["self", "number"] (spMul K)
  rmul : Df P w K mg base CX0 6 (ma K (WC K) "__rmul__") ["self", "number"] (spMul K)
  neg : Df P w K mg base CX0 6 (ma K (WC K) "__neg__") ["self"] (spNeg K)
  cp : Df P w K mg base CX0 6 (ma K (WC K) "copy") ["self"] (spCopy K)
  put : Df P w K mg base CX0 2 (ma K (WC K) "put") ["self", "face", "number"] (spPut K)
  get : Df P w K mg base CX0 2 (ma K (WC K) "__getitem__") ["self", "face"] (spGet K)
/-- the two weights, their numbers in lists -/
structure LB (K : PySem.W.Frag) (H : Hp) (o t l r : Addr) (fs : List Nat) (e1 e2 : Int) (ns1 ns2 : List Int) (many : Int) : Prop where
  hf : Faces fs
  f4 : fs.length ≤ 4
  o1 : WAt (WC K) H o fs e1 ns1
  o2 : WAt (WC K) H t fs e2 ns2
  l1 : H l = some (.lst ((e1 :: ns1).map V.int))
  l2 : H r = some (.lst ((e2 :: ns2).map V.int))
  m0 : -10 ≤ many
  m1 : many ≤ 10
  s1 : Sm e1
  s2 : ∀ n ∈ ns1, Sm n
  tb : H (cT K ("law", none)).2 = some (.tbl #[])
theorem LB.same {K : PySem.W.Frag} {H H' : Hp} {o t l r : Addr} {fs : List Nat} {e1 e2 : Int} {ns1 ns2 : List Int} {many : Int} (h : LB K H o t l r fs e1 e2 ns1 ns2 many) (s : Same H H') : LB K H' o t l r fs e1 e2 ns1 ns2 many :=
  ⟨h.hf, h.f4, h.o1.same s, h.o2.same s, s _ _ h.l1, s _ _ h.l2, h.m0, h.m1, h.s1, h.s2, s _ _ h.tb⟩
/-- the slots -/
abbrev sg (v0 v1 : Option V) (fs : List Nat) (v3 v4 : Option V) (o t : Addr) (many : Int) (l r : Addr) (v10 v11 v12 v13 v14 v15 v16 v17 v18 v19 v20 : Option V) : L2.St :=
  [v0, v1, some (.str (txt fs)), v3, v4, some (.ref o), some (.ref t), some (.int many), some (.ref l), some (.ref r), v10, v11, v12, v13, v14, v15, v16, v17, v18, v19, v20]
abbrev XL (P : Program) (w : World) (K : PySem.W.Frag) (mg : Str → Option Value) (base : Heap) (f : Addr) (cdv : Value) (A : Around) (outer : List Env) (s : Shared) (H : Hp) (E : XK) : Cx := (cxOf (L2.CX P w) P w K mg base NL "law" (defScope sLaw) f cdv A outer s H E).nox
/-- from the n-th statement on: where Pn holds, Q comes -/
def From (P : Program) (w : World) (K : PySem.W.Frag) (mg : Str → Option Value) (base : Heap) (f : Addr) (cdv : Value) (A : Around) (outer : List Env) (s : Shared) (H : Hp) (E : XK) (Q : VK) (n : Nat) (Pn : L2.St → Hp → Prop) : Prop :=
  ∃ tT : TS, PSs (XL P w K mg base f cdv A outer s H E) ((defBody sLaw).drop n) tT ∧ ∀ σ H1, Pn σ H1 → tT { nx := fun _ H' => Q .non H', rt := Q } σ H1
section
variable {P : Program} {w : World} {K : PySem.W.Frag} {mg : Str → Option Value} {base : Heap} {f : Addr} {cdv : Value} {A : Around} {outer : List Env} {s : Shared} {H : Hp} {E : XK} {Q : VK}
theorem WObj.but {C : Addr} {H H' : Hp} {a : Addr} {fs : List Nat} {e : Int} {ns : List Int} {dx el d b : Addr} (h : WObj C H a fs e ns dx el d) (s : SameBut b H H') (h1 : a ≠ b) (h2 : el ≠ b) (h3 : d ≠ b) : WObj C H' a fs e ns dx el d :=
  ⟨s _ _ h.1 h1, s _ _ h.2.1 h2, s _ _ h.2.2.1 h3, h.2.2.2⟩
theorem same_of_but {b : Addr} {H H' : Hp} {t : Addr} {o : HO} (s : SameBut b H H') (h : H' t = none) : SameBut b H (upd H' t o) := s.same (same_upd h)
def P5 (K : PySem.W.Frag) : L2.St → Hp → Prop := fun σ H1 => ∃ v0 v1 v3 v4 v10 v11 v12 v13 v14 v15 v16 v17 v18 v19 v20 o t l r fs e1 e2 ns1 ns2 many, σ = sg v0 v1 fs v3 v4 o t many l r v10 v11 v12 v13 v14 v15 v16 v17 v18 v19 v20 ∧ LB K H1 o t l r fs e1 e2 ns1 ns2 many
theorem seg0 (L : LD P w K mg base) (hr : Room 11 (A.deeper (envOfC "law" (defScope sLaw) s.heap.objs.size f cdv))) (tail : From P w K mg base f cdv A outer s H E Q 5 (P5 K)) :
    From P w K mg base f cdv A outer s H E Q 0 (fun σ H1 => ∃ (a : Addr) (ns : List Int), σ = L2.start NL [.ref a] ∧ SqL K H1 a (ns.map V.int) ∧ ns.length ≤ 63 ∧ H1 (cT K ("law", none)).2 = some (.tbl #[])) := by
  obtain ⟨tT, hT, tl⟩ := tail
  obtain ⟨fdO, GO, kO, bO⟩ := L.op.ex
  obtain ⟨fdF, GF, kF, bF⟩ := L.sf.ex
  obtain ⟨fdW, GW, kW, bW⟩ := L.sw.ex
  obtain ⟨fdD, GD, kD, bD⟩ := L.dr.ex
  have T := L.t
  have hr1 : Room 1 (A.deeper (envOfC "law" (defScope sLaw) s.heap.objs.size f cdv)) := hr.mono (by decide)
  have hr3 : Room 3 (A.deeper (envOfC "law" (defScope sLaw) s.heap.objs.size f cdv)) := hr.mono (by decide)
  have hr5 : Room 5 (A.deeper (envOfC "law" (defScope sLaw) s.heap.objs.size f cdv)) := hr.mono (by decide)
  refine ⟨_, pss_cons (ps_set (i := 1) scLaw.nd rfl (Or.inl rfl) (pe_call GO hr1 rfl (T.g _ (by decide +kernel)) kO bO .nil pass0 (pa_cons (pv 0) pa_nil)))
    (pss_cons (ps_set (i := 2) scLaw.nd rfl (Or.inr rfl) (pe_call GF hr3 rfl (T.g _ (by decide +kernel)) kF bF .nil pass0 (pa_cons (pv 1) (pa_cons pe_int pa_nil))))
    (pss_cons (ps_par (i := 3) (j := 4) (by rfl) scLaw.nd rfl rfl (by decide) rfl rfl (pa_cons (pe_call GW hr5 rfl (T.g _ (by decide +kernel)) kW bW .nil pass0 (pa_cons (pv 1) (pa_cons (pv 2) (pa_cons (pe_op op_pow pe_int pe_int) pa_nil))))
        (pa_cons (pe_call GW hr5 rfl (T.g _ (by decide +kernel)) kW bW .nil pass0 (pa_cons (pv 1) (pa_cons (pv 2) (pa_cons pe_int pa_nil)))) pa_nil)) (by rfl))
    (pss_cons (ps_asg (pe_tup (pa_cons (pe_ix ix_list (pv 3) pe_int (fun _ _ => rfl)) (pa_cons (pe_ix ix_list (pv 4) pe_int (fun _ _ => rfl)) (pa_cons (pe_op op_sub (pe_call GD hr1 rfl (T.g _ (by decide +kernel)) kD bD .nil pass0 (pa_cons (pv 1) (pa_cons pe_int pa_nil))) pe_int) pa_nil))))
        (pg_tup rfl (pgs_cons (pg_name (i := 5) scLaw.nd rfl (Or.inr rfl)) (pgs_cons (pg_name (i := 6) scLaw.nd rfl (Or.inl rfl)) (pgs_cons (pg_name (i := 7) scLaw.nd rfl (Or.inr rfl)) pgs_nil)))))
    (pss_cons (ps_par (i := 8) (j := 9) (by rfl) scLaw.nd rfl rfl (by decide) rfl rfl (pa_cons (pe_op op_cat (pe_lst (pa_cons (pe_ix ix_list (pv 3) pe_int (fun _ _ => rfl)) pa_nil)) (pe_ix ix_list (pv 3) pe_int (fun _ _ => rfl)))
        (pa_cons (pe_op op_cat (pe_lst (pa_cons (pe_ix ix_list (pv 4) pe_int (fun _ _ => rfl)) pa_nil)) (pe_ix ix_list (pv 4) pe_int (fun _ _ => rfl))) pa_nil)) (by rfl))
    hT)))), ?_⟩
  rintro σ H1 ⟨a, ns, rfl, hs, hn, tb⟩
  refine ⟨_, rfl, a, ns, rfl, hs, hn, fun b l H2 s1 _ _ hb => ?_⟩
  have npb : (cT K ("law", none)).2 ≠ b := fun z => by
    obtain ⟨_, _, _, _, q, _⟩ := id hb
    rw [← z, s1 _ _ tb] at q
    cases q
  refine ⟨_, rfl, b, l, ns, 0, rfl, hb, by decide, fun fs H3 f4 hf sb1 hb1 => ?_⟩
  refine ⟨_, rfl, _, rfl, _, _, rfl, rfl, ⟨by decide, by decide, by decide⟩, b, l, ns, 5, fs, _, rfl, hf, f4, hb1.mono (by decide), by decide, by decide, by decide, fun r1 a1 n1 e1 ns1 H4 fr1 fn1 g1 g2 W1 sm1 sms1 sb2 hb2 => ?_⟩
  refine ⟨_, rfl, _, rfl, b, l, ns, 11, fs, 50, rfl, hf, f4, hb2, by decide, by decide, by decide, fun r2 a2 n2 e2 ns2 H5 fr2 fn2 g3 g4 W2 sm2 sms2 sb3 hb3 => ?_⟩
  obtain ⟨dx1, el1, d1, W1, fa1, fe1, fd1⟩ := W1
  obtain ⟨dx2, el2, d2, W2, fa2, fe2, fd2⟩ := W2
  have r1b := (hb1.nb fr1).1
  have n1b := (hb1.nb fn1).1
  have r2b := (hb2.nb fr2).1
  have n2b := (hb2.nb fn2).1
  have W1' := W1.but sb3 (hb1.nb fa1).1 (hb1.nb fe1).1 (hb1.nb fd1).1
  refine ⟨_, _, rfl, ?_⟩
  refine ⟨_, rfl, r1, _, _, _, rfl, rfl, SqL.of (sb3 _ _ g1 r1b), rfl, _, rfl, r2, _, _, _, rfl, rfl, SqL.of g3, rfl, _, rfl, b, l, ns, 17, 21, rfl, hb3, by decide, by decide, by decide, fun m H6 p0 p1 sb4 hb4 => ?_⟩
  replace sb4 : SameBut b H5 H6 := sb4
  have tb6 := sb4 _ _ (sb3 _ _ (sb2 _ _ (sb1 _ _ (s1 _ _ tb) npb) npb) npb) npb
  have W1 := W1'.but sb4 (hb1.nb fa1).1 (hb1.nb fe1).1 (hb1.nb fd1).1
  have W2 := W2.but sb4 (hb2.nb fa2).1 (hb2.nb fe2).1 (hb2.nb fd2).1
  have g1 := sb4 _ _ (sb3 _ _ g1 r1b) r1b
  have g2 := sb4 _ _ (sb3 _ _ g2 n1b) n1b
  have g3 := sb4 _ _ g3 r2b
  have g4 := sb4 _ _ g4 n2b
  refine ⟨_, _, rfl, rfl, (by show 3 ≤ sizeLine; decide +kernel), fun t ht => ?_⟩
  refine ⟨t, _, rfl, SqT.of upd_same, rfl, _, _, rfl, _, _, rfl, _, _, rfl, rfl, ?_⟩
  generalize hH7 : upd H6 t _ = H7
  have s7 : Same H6 H7 := by rw [← hH7]; exact same_upd ht
  clear hH7
  have W1 := W1.same s7
  have W2 := W2.same s7
  have g1 := s7 _ _ g1
  have g2 := s7 _ _ g2
  have g3 := s7 _ _ g3
  have g4 := s7 _ _ g4
  have ln : ns1.length = fs.length := W1.2.2.2
  have ln2 : ns2.length = fs.length := W2.2.2.2
  refine ⟨_, rfl, r1, _, _, _, rfl, rfl, SqL.of g1, rfl, (by show 1 ≤ sizeLine; decide +kernel), fun p hp => ?_⟩
  have s8 : Same H7 (upd H7 p (.lst [.int e1])) := same_upd hp
  refine ⟨_, rfl, r1, _, _, _, rfl, rfl, SqL.of (s8 _ _ g1), rfl, p, n1, [.int e1], ns1.map V.int, rfl, rfl, upd_same, s8 _ _ g2, ?_, fun lf hlf => ?_⟩
  · rw [List.length_map, sizeLine_eq]
    show 1 + _ ≤ _
    omega
  have s9 : Same (upd H7 p (.lst [.int e1])) (upd (upd H7 p (.lst [.int e1])) lf (.lst ([.int e1] ++ ns1.map V.int))) := same_upd hlf
  generalize hH8 : upd (upd H7 p (.lst [.int e1])) lf (.lst ([.int e1] ++ ns1.map V.int)) = H8 at s9
  have hl8 : H8 lf = some (.lst ((e1 :: ns1).map V.int)) := by rw [← hH8]; exact upd_same
  clear hH8
  have s8 := s8.trans s9
  refine ⟨_, rfl, r2, _, _, _, rfl, rfl, SqL.of (s8 _ _ g3), rfl, (by show 1 ≤ sizeLine; decide +kernel), fun q hq => ?_⟩
  have s10 : Same H8 (upd H8 q (.lst [.int e2])) := same_upd hq
  refine ⟨_, rfl, r2, _, _, _, rfl, rfl, SqL.of (s10 _ _ (s8 _ _ g3)), rfl, q, n2, [.int e2], ns2.map V.int, rfl, rfl, upd_same, s10 _ _ (s8 _ _ g4), ?_, fun rt hrt => ?_⟩
  · rw [List.length_map, sizeLine_eq]
    show 1 + _ ≤ _
    omega
  have s11 : Same (upd H8 q (.lst [.int e2])) (upd (upd H8 q (.lst [.int e2])) rt (.lst ([.int e2] ++ ns2.map V.int))) := same_upd hrt
  refine ⟨_, _, rfl, tl _ _ ⟨_, _, _, _, _, _, _, _, _, _, _, _, _, _, _, a1, a2, lf, rt, fs, e1, e2, ns1, ns2, m - 10, rfl, hf, f4, ⟨dx1, el1, d1, W1.same ((s8.trans s10).trans s11)⟩, ⟨dx2, el2, d2, W2.same ((s8.trans s10).trans s11)⟩, s11 _ _ (s10 _ _ hl8), upd_same, by omega, by omega, sm1, sms1, s11 _ _ (s10 _ _ (s8 _ _ (s7 _ _ tb6)))⟩⟩
end
end FwD
set_option Elab.async false
set_option linter.all false
set_option maxRecDepth 100000
set_option maxHeartbeats 4000000
namespace FwD
open PySem PySem.Spec PyProof.Rows L2 He He5 FwHk FwHd FwZip FwKw FwLam
/-- [.. for x, y in zip(a, b)], ints -/
theorem lc_zip2 {K : PySem.W.Frag} {a b : Addr} {xs ys zs : List Int} {te : TE} {j1 j2 : Nat} {σ : L2.St} {H1 : Hp} {D : Addr} {Qd : Hp → Prop} (hl : xs.length = ys.length) (hz : xs.length ≤ 100) (hzl : zs.length = xs.length) (ha : SqL K H1 a (xs.map V.int)) (hb : SqL K H1 b (ys.map V.int)) (hD : H1 D = none)
    (hw : ∀ u v, wipe (((wipe σ [j1, j2]).set j1 (some u)).set j2 (some v)) [j1, j2] = wipe σ [j1, j2])
    (hs : ∀ (i : Nat) (x y z : Int) (H2 : Hp) (R : VK), xs[i]? = some x → ys[i]? = some y → zs[i]? = some z → Same H1 H2 → (∀ H4, Same H2 H4 → R (.int z) H4) → te (((wipe σ [j1, j2]).set j1 (some (.int x))).set j2 (some (.int y))) H2 R)
    (hd : ∀ H', Same H1 H' → H' D = some (.lst (zs.map V.int)) → Qd H') :
    ∃ W : Nat → Nat → Hp → Prop, (∃ m, W 0 m (upd H1 D (.lst []))) ∧ ∀ i m H, W i m H →
      ((Itz K a b).stop i H ∧ Qd H) ∨ ((Itz K a b).go i H ∧ ∃ Nx : Hp → Prop, (∀ H', Nx H' → ∃ m', m' < m ∧ W (i + 1) m' H') ∧ ∀ x H', (Itz K a b).yld i H x H' → gTup K 2 (gCons (gName j1) (gCons (gName j2) gNil)) x (wipe σ [j1, j2]) H' fun σ2 H2 => wipe σ2 [j1, j2] = wipe σ [j1, j2] ∧ tYes σ2 H2 fun b H3 =>
        if b = true then te σ2 H3 fun y H4 => ∃ acc, H4 D = some (.lst acc) ∧ acc.length < sizeLine ∧ Nx (upd H4 D (.lst (acc ++ [y]))) else Nx H3) := by
  refine lc_it (walk_zip (xs := xs.map V.int) (ys := ys.map V.int) (n := xs.length) (by rw [List.length_map, List.length_map, ← hl, Nat.min_self])) (fun i H' => Same H1 H' ∧ H' D = some (.lst ((zs.take i).map V.int)) ∧ i ≤ xs.length) ⟨same_upd hD, upd_same, Nat.zero_le _⟩
    (fun _ _ _ q => ⟨q.1.seq ha, q.1.seq hb⟩) ?_ ?_
  · rintro i x H2 H3 hi ⟨s2, h2, _⟩ ⟨T, x1, y1, rfl, hT, rfl, hx, hy⟩
    have e1 : xs[i]? = some (xs[i]'(by omega)) := List.getElem?_eq_getElem (by omega)
    have e2 : ys[i]? = some (ys[i]'(by omega)) := List.getElem?_eq_getElem (by omega)
    have e3 : zs[i]? = some (zs[i]'(by omega)) := List.getElem?_eq_getElem (by omega)
    dsimp only at hx hy
    rw [List.getElem?_map, e1] at hx
    rw [List.getElem?_map, e2] at hy
    obtain rfl := Option.some.inj hx
    obtain rfl := Option.some.inj hy
    have s3 : Same H1 (upd H2 T (.tup [.int xs[i], .int ys[i]])) := s2.trans (same_upd hT)
    refine ⟨T, _, rfl, SqT.of upd_same, rfl, _, _, rfl, _, _, rfl, rfl, hw _ _, ?_⟩
    refine hs i _ _ _ _ _ e1 e2 e3 s3 fun H4 s4 => ⟨_, s4 _ _ (same_upd hT _ _ h2), ?_, fun b o q => ?_, ?_, hi⟩
    · rw [List.length_map, List.length_take, sizeLine_eq]
      omega
    · rw [upd_ne (ne_of_none q hD)]
      exact s4 _ _ (s3 _ _ q)
    · rw [upd_same, List.take_add_one, e3, List.map_append]
      rfl
  · rintro H' ⟨s2, h2, _⟩
    refine hd H' s2 ?_
    rw [h2, ← hzl, List.take_length]
/-- [.. for x in a], ints -/
theorem lc_l1 {K : PySem.W.Frag} {a : Addr} {xs zs : List Int} {te : TE} {j : Nat} {σ : L2.St} {H1 : Hp} {D : Addr} {Qd : Hp → Prop} (hz : xs.length ≤ 100) (hzl : zs.length = xs.length) (ha : SqL K H1 a (xs.map V.int)) (hD : H1 D = none)
    (hw : ∀ u, wipe ((wipe σ [j]).set j (some u)) [j] = wipe σ [j])
    (hs : ∀ (i : Nat) (x z : Int) (H2 : Hp) (R : VK), xs[i]? = some x → zs[i]? = some z → Same H1 H2 → (∀ H4, Same H2 H4 → R (.int z) H4) → te ((wipe σ [j]).set j (some (.int x))) H2 R)
    (hd : ∀ H', Same H1 H' → H' D = some (.lst (zs.map V.int)) → Qd H') :
    ∃ W : Nat → Nat → Hp → Prop, (∃ m, W 0 m (upd H1 D (.lst []))) ∧ ∀ i m H, W i m H →
      ((Itl K a).stop i H ∧ Qd H) ∨ ((Itl K a).go i H ∧ ∃ Nx : Hp → Prop, (∀ H', Nx H' → ∃ m', m' < m ∧ W (i + 1) m' H') ∧ ∀ x H', (Itl K a).yld i H x H' → gName j x (wipe σ [j]) H' fun σ2 H2 => wipe σ2 [j] = wipe σ [j] ∧ tYes σ2 H2 fun b H3 =>
        if b = true then te σ2 H3 fun y H4 => ∃ acc, H4 D = some (.lst acc) ∧ acc.length < sizeLine ∧ Nx (upd H4 D (.lst (acc ++ [y]))) else Nx H3) := by
  refine lc_it (walk_list (xs := xs.map V.int)) (fun i H' => Same H1 H' ∧ H' D = some (.lst ((zs.take i).map V.int)) ∧ i ≤ xs.length) ⟨same_upd hD, upd_same, Nat.zero_le _⟩
    (fun _ _ _ q => q.1.seq ha) ?_ ?_
  · rintro i x H2 H3 hi ⟨s2, h2, _⟩ ⟨rfl, hx⟩
    rw [List.length_map] at hi
    have e1 : xs[i]? = some (xs[i]'(by omega)) := List.getElem?_eq_getElem (by omega)
    have e3 : zs[i]? = some (zs[i]'(by omega)) := List.getElem?_eq_getElem (by omega)
    rw [List.getElem?_map, e1] at hx
    obtain rfl := Option.some.inj hx
    refine ⟨hw _, ?_⟩
    refine hs i _ _ _ _ e1 e3 s2 fun H4 s4 => ⟨_, s4 _ _ h2, ?_, fun b o q => ?_, ?_, hi⟩
    · rw [List.length_map, List.length_take, sizeLine_eq]
      omega
    · rw [upd_ne (ne_of_none q hD)]
      exact s4 _ _ (s2 _ _ q)
    · rw [upd_same, List.take_add_one, e3, List.map_append]
      rfl
  · rintro H' ⟨s2, h2, _⟩
    refine hd H' s2 ?_
    rw [h2, List.length_map, ← hzl, List.take_length]
/-- lists of the same ints are the same -/
theorem eqd_ints {K : PySem.W.Frag} {n : Nat} {H : Hp} {a b : Addr} {xs : List Int} (h1 : H a = some (.lst (xs.map V.int))) (h2 : H b = some (.lst (xs.map V.int))) (hz : xs.length < 1000) : Eqd K (n + 1) H (.ref a) (.ref b) := by
  refine .inr ⟨a, b, _, _, rfl, rfl, .inl ⟨h1, h2⟩, rfl, by rw [List.length_map]; exact hz, fun i u v hu hv => ?_⟩
  have e : u = v := Option.some.inj (hu.symm.trans hv)
  subst e
  rw [List.getElem?_map] at hu
  have : ∃ j, u = V.int j := by
    cases q : xs[i]? with
    | none => rw [q] at hu; cases hu
    | some j => rw [q] at hu; exact ⟨j, (Option.some.inj hu).symm⟩
  cases n with
  | zero => exact ⟨rfl, .inr (.inl this)⟩
  | succ n => exact .inl ⟨rfl, .inr (.inl this)⟩
/-- lists of lists of the same ints are the same -/
theorem eqd_lists {K : PySem.W.Frag} {n : Nat} {H : Hp} {a b : Addr} {ts us : List Addr} (h1 : H a = some (.lst (ts.map V.ref))) (h2 : H b = some (.lst (us.map V.ref))) (hl : ts.length = us.length) (hz : ts.length < 1000)
    (h : ∀ (i : Nat) (t u : Addr), ts[i]? = some t → us[i]? = some u → Eqd K n H (.ref t) (.ref u)) : Eqd K (n + 1) H (.ref a) (.ref b) := by
  refine .inr ⟨a, b, _, _, rfl, rfl, .inl ⟨h1, h2⟩, by rw [List.length_map, List.length_map, hl], by rw [List.length_map]; exact hz, fun i u v hu hv => ?_⟩
  rw [List.getElem?_map] at hu hv
  cases q : ts[i]? with
  | none => rw [q] at hu; cases hu
  | some t =>
    cases q2 : us[i]? with
    | none => rw [q2] at hv; cases hv
    | some t2 =>
      rw [q] at hu
      rw [q2] at hv
      obtain rfl := Option.some.inj hu
      obtain rfl := Option.some.inj hv
      exact h i t t2 q q2
end FwD
set_option Elab.async false
set_option linter.all false
set_option maxRecDepth 100000
set_option maxHeartbeats 4000000
namespace FwD
open PySem PySem.Spec PyProof.Rows L2 He He5 FwHk FwHd FwZip FwKw FwLam
section
variable {P : Program} {w : World} {K : PySem.W.Frag} {mg : Str → Option Value} {base : Heap} {f : Addr} {cdv : Value} {A : Around} {outer : List Env} {s : Shared} {H : Hp} {E : XK} {Q : VK}
/-- one of the found: new beside what stood in HA -/
def WF (K : PySem.W.Frag) (HA H : Hp) (fs : List Nat) (a : Addr) (e : Int) (ns : List Int) : Prop := ∃ dx el d, WObj (WC K) H a fs e ns dx el d ∧ HA d = none
theorem WF.same {HA H H' : Hp} {fs : List Nat} {a : Addr} {e : Int} {ns : List Int} (h : WF K HA H fs a e ns) (s : Same H H') : WF K HA H' fs a e ns := by
  obtain ⟨dx, el, d, h1, h2⟩ := h
  exact ⟨dx, el, d, h1.same s, h2⟩
theorem wf_new {HA H H' : Hp} {fs : List Nat} {a : Addr} {e : Int} {ns : List Int} (s : Same HA H) (h : WNew (WC K) H H' a fs e ns) : WF K HA H' fs a e ns := by
  obtain ⟨dx, el, d, h1, h2, h3, h4⟩ := h
  exact ⟨dx, el, d, h1, s.free h4⟩
/-- the numbers that are due -/
abbrev du (e1 e2 : Int) (ns1 ns2 : List Int) (m : Int) : List (List Int) := [List.zipWith (fun i j => i + j) (e1 :: ns1) (e2 :: ns2), List.zipWith (fun i j => i - j) (e1 :: ns1) (e2 :: ns2), (e1 :: ns1).map (fun n => n * m), (e1 :: ns1).map (fun n => n * m), (e1 :: ns1).map fun n => -n]
/-- behind «_law_due = ..» -/
def P7 (K : PySem.W.Frag) : L2.St → Hp → Prop := fun σ H1 => ∃ v0 v1 v3 v4 v12 v13 v14 v15 v16 v17 v18 v19 v20 o t l r fs e1 e2 ns1 ns2 many HA F D w1 w2 w3 w4 w5 d1 d2 d3 d4 d5, σ = sg v0 v1 fs v3 v4 o t many l r (some (.ref F)) (some (.ref D)) v12 v13 v14 v15 v16 v17 v18 v19 v20 ∧
  LB K HA o t l r fs e1 e2 ns1 ns2 many ∧ Same HA H1 ∧ H1 F = some (.lst [.ref w1, .ref w2, .ref w3, .ref w4, .ref w5]) ∧ H1 D = some (.lst [.ref d1, .ref d2, .ref d3, .ref d4, .ref d5]) ∧
  WF K HA H1 fs w1 (e1 + e2) (List.zipWith (fun i j => i + j) ns1 ns2) ∧ WF K HA H1 fs w2 (e1 - e2) (List.zipWith (fun i j => i - j) ns1 ns2) ∧ WF K HA H1 fs w3 (e1 * many) (ns1.map fun n => n * many) ∧ WF K HA H1 fs w4 (e1 * many) (ns1.map fun n => n * many) ∧ WF K HA H1 fs w5 (-e1) (ns1.map fun n => -n) ∧
  H1 d1 = some (.lst ((List.zipWith (fun i j => i + j) (e1 :: ns1) (e2 :: ns2)).map V.int)) ∧ H1 d2 = some (.lst ((List.zipWith (fun i j => i - j) (e1 :: ns1) (e2 :: ns2)).map V.int)) ∧ H1 d3 = some (.lst (((e1 :: ns1).map fun n => n * many).map V.int)) ∧ H1 d4 = some (.lst (((e1 :: ns1).map fun n => n * many).map V.int)) ∧ H1 d5 = some (.lst (((e1 :: ns1).map fun n => -n).map V.int))
theorem seg5 (L : LD P w K mg base) (hr : Room 11 (A.deeper (envOfC "law" (defScope sLaw) s.heap.objs.size f cdv))) (tail : From P w K mg base f cdv A outer s H E Q 7 (P7 K)) : From P w K mg base f cdv A outer s H E Q 5 (P5 K) := by
  obtain ⟨tT, hT, tl⟩ := tail
  obtain ⟨fdA, GA, kA, bA⟩ := L.add.ex
  obtain ⟨fdS, GS, kS, bS⟩ := L.sub.ex
  obtain ⟨fdM, GM, kM, bM⟩ := L.mul.ex
  obtain ⟨fdR, GR, kR, bR⟩ := L.rmul.ex
  obtain ⟨fdN, GN, kN, bN⟩ := L.neg.ex
  have T := L.t
  have W := wx_of T
  obtain ⟨im, him⟩ := W.im
  obtain ⟨ir, hir⟩ := W.ir
  have hr6 : Room 6 (A.deeper (envOfC "law" (defScope sLaw) s.heap.objs.size f cdv)) := hr.mono (by decide)
  refine ⟨_, pss_cons (ps_set (i := 10) scLaw.nd rfl (Or.inl rfl) (pe_lst
      (pa_cons (pe_op (FwOp.op_same (C := WC K) GA hr6 bA passL W.sf (T.me _ (by decide +kernel)).at_ (T.me _ (by decide +kernel)).fn) (pv 5) (pv 6))
      (pa_cons (pe_op (FwOp.op_same (C := WC K) GS hr6 bS passL W.sf (T.me _ (by decide +kernel)).at_ (T.me _ (by decide +kernel)).fn) (pv 5) (pv 6))
      (pa_cons (pe_op (FwOp.op_left (T := "int") (C := WC K) GM hr6 bM pass0 W.sf (T.me _ (by decide +kernel)).at_ (T.me _ (by decide +kernel)).fn (T.me "__rmul__" (by decide +kernel)).at_ (Or.inr ⟨_, rfl⟩) him hir W.s1) (pv 5) (pv 7))
      (pa_cons (pe_op (FwOp.op_rightG (C := WC K) GR hr6 bR pass0 W.sf (T.me "__mul__" (by decide +kernel)).at_ (T.me "__rmul__" (by decide +kernel)).at_ (T.me "__rmul__" (by decide +kernel)).fn W.s2 PySem.F.fills_int_mul PySem.F.slot_int_mul) (pv 7) (pv 5))
      (pa_cons (pe_un (FwOp.un_own (C := WC K) GN hr6 bN pass0 (T.me _ (by decide +kernel)).at_ (T.me _ (by decide +kernel)).fn) (pv 5)) pa_nil)))))))
    (pss_cons (ps_set (i := 11) scLaw.nd rfl (Or.inl rfl) (pe_lst
      (pa_cons (pe_lc (own := [("_law_a", 18), ("_law_b", 19)]) (g := gTup K 2 (gCons (gName 18) (gCons (gName 19) gNil))) (tt := tYes) (te := tOp (rI0 fun i j => .int (i + j)) (tVar 18) (tVar 19)) rfl scLaw.nd (pi_zip (by rfl) (T.fr _ (by decide +kernel)) (pa_cons (pv 8) (pa_cons (pv 9) pa_nil)))
        (blkOk_by (own := [("_law_a", 18), ("_law_b", 19)]) (N := NL) (sc := defScope sLaw) (by decide +kernel)) (fun _ _ _ _ _ => pg_tup rfl (pgs_cons (pg_name (i := 18) scLaw.nd rfl (Or.inl rfl)) (pgs_cons (pg_name (i := 19) scLaw.nd rfl (Or.inl rfl)) pgs_nil))) (fun _ _ _ _ _ => pts_nil)
        (fun _ _ _ _ _ => pe_op op_add (pv 18) (pv 19)))
      (pa_cons (pe_lc (own := [("_law_a", 18), ("_law_b", 19)]) (g := gTup K 2 (gCons (gName 18) (gCons (gName 19) gNil))) (tt := tYes) (te := tOp (rI0 fun i j => .int (i - j)) (tVar 18) (tVar 19)) rfl scLaw.nd (pi_zip (by rfl) (T.fr _ (by decide +kernel)) (pa_cons (pv 8) (pa_cons (pv 9) pa_nil)))
        (blkOk_by (own := [("_law_a", 18), ("_law_b", 19)]) (N := NL) (sc := defScope sLaw) (by decide +kernel)) (fun _ _ _ _ _ => pg_tup rfl (pgs_cons (pg_name (i := 18) scLaw.nd rfl (Or.inl rfl)) (pgs_cons (pg_name (i := 19) scLaw.nd rfl (Or.inl rfl)) pgs_nil))) (fun _ _ _ _ _ => pts_nil)
        (fun _ _ _ _ _ => pe_op op_sub (pv 18) (pv 19)))
      (pa_cons (pe_lc (own := [("_law_a", 18)]) (g := gName 18) (tt := tYes) (te := tOp (rI CMul fun i j => .int (i * j)) (tVar 18) (tVar 7)) rfl scLaw.nd (pi_list (pv 8)) (blkOk_by (own := [("_law_a", 18)]) (N := NL) (sc := defScope sLaw) (by decide +kernel)) (fun _ _ _ _ _ => pg_name (i := 18) scLaw.nd rfl (Or.inl rfl)) (fun _ _ _ _ _ => pts_nil)
        (fun _ _ _ _ _ => pe_op op_mul (pv 18) (pv 7)))
      (pa_cons (pe_lc (own := [("_law_a", 18)]) (g := gName 18) (tt := tYes) (te := tOp (rI CMul fun i j => .int (i * j)) (tVar 7) (tVar 18)) rfl scLaw.nd (pi_list (pv 8)) (blkOk_by (own := [("_law_a", 18)]) (N := NL) (sc := defScope sLaw) (by decide +kernel)) (fun _ _ _ _ _ => pg_name (i := 18) scLaw.nd rfl (Or.inl rfl)) (fun _ _ _ _ _ => pts_nil)
        (fun _ _ _ _ _ => pe_op op_mul (pv 7) (pv 18)))
      (pa_cons (pe_lc (own := [("_law_a", 18)]) (g := gName 18) (tt := tYes) (te := tOp (rI0 fun i j => .int (i - j)) (tC (.int 0)) (tVar 18)) rfl scLaw.nd (pi_list (pv 8)) (blkOk_by (own := [("_law_a", 18)]) (N := NL) (sc := defScope sLaw) (by decide +kernel)) (fun _ _ _ _ _ => pg_name (i := 18) scLaw.nd rfl (Or.inl rfl)) (fun _ _ _ _ _ => pts_nil)
        (fun _ _ _ _ _ => pe_op op_sub pe_int (pv 18))) pa_nil)))))))
    hT), ?_⟩
  rintro σ H1 ⟨v0, v1, v3, v4, v10, v11, v12, v13, v14, v15, v16, v17, v18, v19, v20, o, t, l, r, fs, e1, e2, ns1, ns2, many, rfl, B⟩
  obtain ⟨dx1, el1, dd1, O1⟩ := id B.o1
  obtain ⟨dx2, el2, dd2, O2⟩ := id B.o2
  have n1 : ns1.length = fs.length := O1.2.2.2
  have n2 : ns2.length = fs.length := O2.2.2.2
  have f4 := B.f4
  have bm0 := B.m0
  have bm1 := B.m1
  refine ⟨_, rfl, _, rfl, ⟨o, dx1, _, rfl, O1.1⟩, ⟨t, dx2, _, rfl, O2.1⟩, o, t, fs, fs, e1, e2, ns1, ns2, rfl, B.hf, B.o1, B.o2, fun _ w1 H2 c2 W1 => ?_, fun h => absurd rfl h⟩
  refine ⟨_, rfl, _, rfl, ⟨o, dx1, _, rfl, c2 _ _ O1.1⟩, ⟨t, dx2, _, rfl, c2 _ _ O2.1⟩, o, t, fs, fs, e1, e2, ns1, ns2, rfl, B.hf, B.o1.same c2, B.o2.same c2, fun _ w2 H3 c3 W2 => ?_, fun h => absurd rfl h⟩
  have c13 := c2.trans c3
  refine ⟨_, rfl, _, rfl, ⟨o, dx1, _, rfl, c13 _ _ O1.1⟩, many, rfl, o, fs, e1, many, ns1, rfl, B.hf, B.o1.same c13, B.s1, B.s2, fun w3 H4 c4 W3 => ?_⟩
  have c14 := c13.trans c4
  refine ⟨_, rfl, _, rfl, ⟨o, dx1, _, rfl, c14 _ _ O1.1⟩, many, rfl, o, fs, e1, many, ns1, rfl, B.hf, B.o1.same c14, B.s1, B.s2, fun w4 H5 c5 W4 => ?_⟩
  have c15 := c14.trans c5
  refine ⟨_, rfl, ⟨o, dx1, _, rfl, c15 _ _ O1.1⟩, o, fs, e1, ns1, rfl, B.hf, B.o1.same c15, fun w5 H6 c6 W5 => ?_⟩
  have c16 := c15.trans c6
  refine ⟨(by show 5 ≤ sizeLine; decide +kernel), fun F hF => ?_⟩
  have c7 : Same H6 (upd H6 F (.lst [.ref w1, .ref w2, .ref w3, .ref w4, .ref w5])) := same_upd hF
  generalize hH7 : upd H6 F (.lst [.ref w1, .ref w2, .ref w3, .ref w4, .ref w5]) = H7 at c7
  have hF7 : H7 F = some (.lst [.ref w1, .ref w2, .ref w3, .ref w4, .ref w5]) := by rw [← hH7]; exact upd_same
  clear hH7
  have c17 := c16.trans c7
  have X1 := (wf_new (Same.refl H1) W1).same ((((c3.trans c4).trans c5).trans c6).trans c7)
  have X2 := (wf_new c2 W2).same (((c4.trans c5).trans c6).trans c7)
  have X3 := (wf_new c13 W3).same ((c5.trans c6).trans c7)
  have X4 := (wf_new c14 W4).same (c6.trans c7)
  have X5 := (wf_new c15 W5).same c7
  have g1 : SqL K H7 l ((e1 :: ns1).map V.int) := SqL.of (c17 _ _ B.l1)
  have g2 : SqL K H7 r ((e2 :: ns2).map V.int) := SqL.of (c17 _ _ B.l2)
  have k1 : (e1 :: ns1).length ≤ 100 := by show ns1.length + 1 ≤ 100; omega
  have k2 : (e1 :: ns1).length = (e2 :: ns2).length := by show ns1.length + 1 = ns2.length + 1; omega
  -- the due lists
  refine ⟨_, rfl, _, rfl, l, r, _, _, rfl, g1, g2, fun d1 hd1 => ?_⟩
  refine lc_zip2 (zs := List.zipWith (fun i j => i + j) (e1 :: ns1) (e2 :: ns2)) k2 k1 (by rw [List.length_zipWith, ← k2, Nat.min_self]) g1 g2 hd1 (fun _ _ => rfl) (fun i x y z H9 R hx hy hz c9 hR => ?_) fun H8 c8 p1 => ?_
  · obtain ⟨n, m, q1, q2, rfl⟩ := zip_at hz
    obtain rfl := Option.some.inj (hx.symm.trans q1)
    obtain rfl := Option.some.inj (hy.symm.trans q2)
    exact ⟨_, rfl, _, rfl, _, _, rfl, rfl, hR _ (Same.refl _)⟩
  refine ⟨_, rfl, _, rfl, l, r, _, _, rfl, c8.seq g1, c8.seq g2, fun d2 hd2 => ?_⟩
  refine lc_zip2 (zs := List.zipWith (fun i j => i - j) (e1 :: ns1) (e2 :: ns2)) k2 k1 (by rw [List.length_zipWith, ← k2, Nat.min_self]) (c8.seq g1) (c8.seq g2) hd2 (fun _ _ => rfl) (fun i x y z H9 R hx hy hz c9 hR => ?_) fun H9 c9 p2 => ?_
  · obtain ⟨n, m, q1, q2, rfl⟩ := zip_at hz
    obtain rfl := Option.some.inj (hx.symm.trans q1)
    obtain rfl := Option.some.inj (hy.symm.trans q2)
    exact ⟨_, rfl, _, rfl, _, _, rfl, rfl, hR _ (Same.refl _)⟩
  have c89 := c8.trans c9
  have hSm : ∀ (i : Nat) (x : Int), (e1 :: ns1)[i]? = some x → Sm x := fun i x hx => by
    have := List.mem_of_getElem? hx
    rcases List.mem_cons.mp this with h | h
    · rw [h]; exact B.s1
    · exact B.s2 x h
  refine ⟨_, rfl, l, rfl, ⟨_, c89.seq g1⟩, fun d3 hd3 => ?_⟩
  refine lc_l1 (xs := e1 :: ns1) (zs := (e1 :: ns1).map fun n => n * many) k1 (List.length_map _) (c89.seq g1) hd3 (fun _ => rfl) (fun i x z H9 R hx hz c9 hR => ?_) fun H10 c10 p3 => ?_
  · obtain ⟨n, q1, rfl⟩ := map_at hz
    obtain rfl := Option.some.inj (hx.symm.trans q1)
    exact ⟨_, rfl, _, rfl, _, _, rfl, rfl, sm_mul (hSm i _ hx), hR _ (Same.refl _)⟩
  have c810 := c89.trans c10
  refine ⟨_, rfl, l, rfl, ⟨_, c810.seq g1⟩, fun d4 hd4 => ?_⟩
  refine lc_l1 (xs := e1 :: ns1) (zs := (e1 :: ns1).map fun n => n * many) k1 (List.length_map _) (c810.seq g1) hd4 (fun _ => rfl) (fun i x z H9 R hx hz c9 hR => ?_) fun H11 c11 p4 => ?_
  · obtain ⟨n, q1, rfl⟩ := map_at hz
    obtain rfl := Option.some.inj (hx.symm.trans q1)
    refine ⟨_, rfl, _, rfl, _, _, rfl, rfl, .inl ⟨by omega, by omega⟩, ?_⟩
    show R (.int (many * x)) _
    rw [Int.mul_comm]
    exact hR _ (Same.refl _)
  have c811 := c810.trans c11
  refine ⟨_, rfl, l, rfl, ⟨_, c811.seq g1⟩, fun d5 hd5 => ?_⟩
  refine lc_l1 (xs := e1 :: ns1) (zs := (e1 :: ns1).map fun n => -n) k1 (List.length_map _) (c811.seq g1) hd5 (fun _ => rfl) (fun i x z H9 R hx hz c9 hR => ?_) fun H12 c12 p5 => ?_
  · obtain ⟨n, q1, rfl⟩ := map_at hz
    obtain rfl := Option.some.inj (hx.symm.trans q1)
    refine ⟨_, rfl, _, _, rfl, rfl, ?_⟩
    show R (.int (0 - x)) _
    rw [Int.zero_sub]
    exact hR _ (Same.refl _)
  refine ⟨(by show 5 ≤ sizeLine; decide +kernel), fun D hD => ?_⟩
  have cD : Same H12 (upd H12 D (.lst [.ref d1, .ref d2, .ref d3, .ref d4, .ref d5])) := same_upd hD
  have cz := (c811.trans c12).trans cD
  refine tl _ _ ⟨v0, v1, v3, v4, v12, v13, v14, v15, v16, v17, v18, v19, v20, o, t, l, r, fs, e1, e2, ns1, ns2, many, H1, F, D, w1, w2, w3, w4, w5, d1, d2, d3, d4, d5, rfl, B, c17.trans cz, cz _ _ hF7, upd_same, X1.same cz, X2.same cz, X3.same cz, X4.same cz, X5.same cz, ?_, ?_, ?_, ?_, ?_⟩
  · exact cD _ _ (c12 _ _ (c11 _ _ (c10 _ _ (c9 _ _ p1))))
  · exact cD _ _ (c12 _ _ (c11 _ _ (c10 _ _ p2)))
  · exact cD _ _ (c12 _ _ (c11 _ _ p3))
  · exact cD _ _ (c12 _ _ p4)
  · exact cD _ _ p5
end
end FwD
set_option Elab.async false
set_option linter.all false
set_option maxRecDepth 100000
set_option maxHeartbeats 4000000
namespace FwD
open PySem PySem.Spec PyProof.Rows L2 He He5 FwHk FwHd FwZip FwKw FwLam
section
variable {P : Program} {w : World} {K : PySem.W.Frag} {mg : Str → Option Value} {base : Heap} {f : Addr} {cdv : Value} {A : Around} {outer : List Env} {s : Shared} {H : Hp} {E : XK} {Q : VK}
/-- after a put of whichever -/
theorem WF.put {HA H : Hp} {fs : List Nat} {a a2 : Addr} {e e2 : Int} {ns ns2 : List Int} {dx el d : Addr} {i : Nat} {n : Int} (h : WF K HA H fs a e ns) (h2 : WObj (WC K) H a2 fs e2 ns2 dx el d) : ∃ e ns, WF K HA (upd H d (.dK (kvP (fs.zip (ns2.set i n))))) fs a e ns := by
  obtain ⟨dx1, el1, d1, ⟨q1, q2, q3, q4⟩, hd⟩ := h
  have h3 := h2.2.2.1
  have na : a ≠ d := fun z => by rw [z, h3] at q1; cases q1
  have ne : el1 ≠ d := fun z => by rw [z, h3] at q2; cases q2
  by_cases z : d1 = d
  · exact ⟨e, ns2.set i n, dx1, el1, d1, ⟨(upd_ne na).trans q1, (upd_ne ne).trans q2, by rw [z]; exact upd_same, by rw [List.length_set]; exact h2.2.2.2⟩, hd⟩
  · exact ⟨e, ns, dx1, el1, d1, ⟨(upd_ne na).trans q1, (upd_ne ne).trans q2, (upd_ne z).trans q3, q4⟩, hd⟩
/-- behind the loop -/
def P9 (K : PySem.W.Frag) : L2.St → Hp → Prop := fun σ H1 => ∃ v0 v1 v3 v4 v10 v12 v13 v14 v15 v16 v17 v18 v19 v20 o t l r fs e1 e2 ns1 ns2 many D d1 d2 d3 d4 d5, σ = sg v0 v1 fs v3 v4 o t many l r v10 (some (.ref D)) v12 v13 v14 v15 v16 v17 v18 v19 v20 ∧
  LB K H1 o t l r fs e1 e2 ns1 ns2 many ∧ H1 D = some (.lst [.ref d1, .ref d2, .ref d3, .ref d4, .ref d5]) ∧ H1 d1 = some (.lst ((List.zipWith (fun i j => i + j) (e1 :: ns1) (e2 :: ns2)).map V.int))
theorem seg7 (L : LD P w K mg base) (hr : Room 11 (A.deeper (envOfC "law" (defScope sLaw) s.heap.objs.size f cdv))) (tail : From P w K mg base f cdv A outer s H E Q 9 (P9 K)) : From P w K mg base f cdv A outer s H E Q 7 (P7 K) := by
  obtain ⟨tT, hT, tl⟩ := tail
  obtain ⟨fdS, GS, kS, bS⟩ := L.sm.ex
  obtain ⟨fdN, GN, kN, bN⟩ := L.nu.ex
  obtain ⟨fdP, GP, kP, bP⟩ := L.put.ex
  have T := L.t
  have hr4 : Room 4 (A.deeper (envOfC "law" (defScope sLaw) s.heap.objs.size f cdv)) := hr.mono (by decide)
  have hr2 : Room 2 (A.deeper (envOfC "law" (defScope sLaw) s.heap.objs.size f cdv)) := hr.mono (by decide)
  refine ⟨_, pss_cons (ps_if (pt_not (pt_val (pe_call GS hr4 rfl (T.g _ (by decide +kernel)) kS bS .nil pass0 (pa_cons
      (pe_lc (own := [("_law_weights", 12)]) (g := gName 12) (tt := tYes) (te := tCall (spNumbers K) [] E0 (tCons (tVar 12) (tCons (tVar 2) tNil))) rfl scLaw.nd (pi_list (pv 10)) (blkOk_by (own := [("_law_weights", 12)]) (N := NL) (sc := defScope sLaw) (by decide +kernel)) (fun _ _ _ _ _ => pg_name (i := 12) scLaw.nd rfl (Or.inl rfl)) (fun _ _ _ _ _ => pts_nil)
        (fun _ _ _ _ _ => pe_call GN (by exact hr4) (by rfl) (T.g _ (by decide +kernel)) kN bN .nil pass0 (pa_cons (pv 12) (pa_cons (pv 2) pa_nil)))) (pa_cons (pv 11) pa_nil))))) (pss_one (ps_ret pe_bl)) pss_nil)
    (pss_cons (ps_for PassesOwn.never rfl (pi_list (pv 10)) (pg_name (i := 12) scLaw.nd rfl (Or.inl rfl))
      (pss_one (ps_expr (pe_meth (pv 12) T.cl (T.me _ (by decide +kernel)) GP hr2 bP .nil pass0 (pa_cons (pe_ix ix_str (pv 2) pe_int (fun _ _ => rfl)) (pa_cons pe_int pa_nil))))))
    hT), ?_⟩
  rintro σ H1 ⟨v0, v1, v3, v4, v12, v13, v14, v15, v16, v17, v18, v19, v20, o, t, l, r, fs, e1, e2, ns1, ns2, many, HA, F, D, w1, w2, w3, w4, w5, d1, d2, d3, d4, d5, rfl, B, sA, hF, hD, W1, W2, W3, W4, W5, p1, p2, p3, p4, p5⟩
  obtain ⟨dx1, el1, dd1, O1⟩ := id B.o1
  obtain ⟨dx2, el2, dd2, O2⟩ := id B.o2
  have n1 : ns1.length = fs.length := O1.2.2.2
  have n2 : ns2.length = fs.length := O2.2.2.2
  have f4 := B.f4
  have hz : ∀ (i : Nat) (ns : List Int), (du e1 e2 ns1 ns2 many)[i]? = some ns → ns.length = fs.length + 1 := fun i ns hn => by
    rcases i with _ | _ | _ | _ | _ | i <;> simp only [du, List.getElem?_cons_zero, List.getElem?_cons_succ, List.getElem?_nil] at hn <;> cases hn
    · rw [List.length_zipWith, List.length_cons, List.length_cons]; omega
    · rw [List.length_zipWith, List.length_cons, List.length_cons]; omega
    · rw [List.length_map, List.length_cons]; omega
    · rw [List.length_map, List.length_cons]; omega
    · rw [List.length_map, List.length_cons]; omega
  have hW : ∀ (i : Nat) (w0 : Addr) (ns : List Int), [w1, w2, w3, w4, w5][i]? = some w0 → (du e1 e2 ns1 ns2 many)[i]? = some ns → ∃ e m, ns = e :: m ∧ WF K HA H1 fs w0 e m := fun i w0 ns hw hn => by
    rcases i with _ | _ | _ | _ | _ | i <;> simp only [du, List.getElem?_cons_zero, List.getElem?_cons_succ, List.getElem?_nil] at hn hw <;> cases hn <;> cases hw
    · exact ⟨_, _, rfl, W1⟩
    · exact ⟨_, _, rfl, W2⟩
    · exact ⟨_, _, rfl, W3⟩
    · exact ⟨_, _, rfl, W4⟩
    · exact ⟨_, _, rfl, W5⟩
  have hDu : ∀ (i : Nat) (d : Addr) (ns : List Int), [d1, d2, d3, d4, d5][i]? = some d → (du e1 e2 ns1 ns2 many)[i]? = some ns → H1 d = some (.lst (ns.map V.int)) := fun i d ns hd hn => by
    rcases i with _ | _ | _ | _ | _ | i <;> simp only [du, List.getElem?_cons_zero, List.getElem?_cons_succ, List.getElem?_nil] at hn hd <;> cases hn <;> cases hd
    · exact p1
    · exact p2
    · exact p3
    · exact p4
    · exact p5
  have hlen : (du e1 e2 ns1 ns2 many).length = 5 := rfl
  generalize du e1 e2 ns1 ns2 many = nums at hz hW hDu hlen
  refine ⟨_, rfl, F, rfl, ⟨_, SqL.of hF⟩, fun D2 hD2 => ?_⟩
  refine lc_it (walk_list (xs := [V.ref w1, V.ref w2, V.ref w3, V.ref w4, V.ref w5])) (fun i H' => ∃ ts : List Addr, Same H1 H' ∧ H' D2 = some (.lst (ts.map V.ref)) ∧ ts.length = i ∧ ∀ (j : Nat) (t0 : Addr) (ns : List Int), ts[j]? = some t0 → nums[j]? = some ns → H' t0 = some (.lst (ns.map V.int)))
    ⟨[], same_upd hD2, upd_same, rfl, fun j t0 ns h => by cases h⟩ (fun i H' _ q => SqL.of (q.choose_spec.1 _ _ hF)) ?_ ?_
  · rintro i x H2 H3 hi ⟨ts, s2, h2, htl, hts⟩ ⟨rfl, hx⟩
    have hi : i < 5 := hi
    obtain ⟨w0, hw0, rfl⟩ : ∃ w0, [w1, w2, w3, w4, w5][i]? = some w0 ∧ x = .ref w0 := by
      have hx : ([w1, w2, w3, w4, w5].map V.ref)[i]? = some x := hx
      rw [List.getElem?_map] at hx
      cases q : [w1, w2, w3, w4, w5][i]? with
      | none => rw [q] at hx; cases hx
      | some w0 => rw [q] at hx; exact ⟨w0, rfl, (Option.some.inj hx).symm⟩
    have hn : nums[i]? = some (nums[i]'(by omega)) := List.getElem?_eq_getElem (by omega)
    obtain ⟨e, m, en, dx, el, d, Wo, _⟩ := hW i w0 _ hw0 hn
    refine ⟨rfl, _, rfl, _, rfl, w0, fs, e, m, rfl, B.hf, ⟨dx, el, d, Wo.same s2⟩, fun t0 H4 s4 ht0 hlt => ?_⟩
    have nD : t0 ≠ D2 := (ne_of_none h2 ht0).symm
    refine ⟨_, s4 _ _ h2, ?_, ts ++ [t0], fun b u q => ?_, ?_, ?_, fun j t1 ns ht1 hn1 => ?_⟩
    · rw [List.length_map, sizeLine_eq]
      omega
    · rw [upd_ne (ne_of_none q hD2)]
      exact s4 _ _ (s2 _ _ q)
    · rw [upd_same, List.map_append]
      rfl
    · rw [List.length_append, htl]
      rfl
    · by_cases hj : j < ts.length
      · rw [List.getElem?_append_left hj] at ht1
        have q := hts j t1 ns ht1 hn1
        have nD1 : t1 ≠ D2 := fun z => by
          rw [z, h2] at q
          have q := HO.lst.inj (Option.some.inj q)
          have hm := hz j ns hn1
          cases hts' : ts with
          | nil => rw [hts'] at hj; exact absurd hj (Nat.not_lt_zero _)
          | cons a b =>
            cases hns' : ns with
            | nil => rw [hns'] at hm; cases hm
            | cons a' b' => rw [hts', hns'] at q; cases q
        rw [upd_ne nD1]
        exact s4 _ _ q
      · have hj2 : j = ts.length := by
          have := (List.getElem?_eq_some_iff.mp ht1).1
          rw [List.length_append] at this
          simp at this
          omega
        subst hj2
        rw [List.getElem?_append_right (Nat.le_refl _), Nat.sub_self] at ht1
        obtain rfl := Option.some.inj ht1
        rw [htl] at hn1
        obtain rfl := Option.some.inj (hn.symm.trans hn1)
        rw [upd_ne nD, en]
        exact hlt
  rintro H2 ⟨ts, s2, h2, htl, hts⟩
  have htl : ts.length = 5 := htl
  refine ⟨_, rfl, .ref D2, .ref D, rfl, ?_, fun H3 s3 => ⟨true, rfl, iteF ?_⟩⟩
  · refine eqd_lists (us := [d1, d2, d3, d4, d5]) h2 (s2 _ _ hD) htl (by omega) fun i t0 u ht hu => ?_
    have hi : i < nums.length := by
      have := (List.getElem?_eq_some_iff.mp ht).1
      omega
    have hn : nums[i]? = some nums[i] := List.getElem?_eq_getElem hi
    exact eqd_ints (hts i t0 _ ht hn) (s2 _ _ (hDu i u _ hu hn)) (by rw [hz i _ hn]; omega)
  have s13 := s2.trans s3
  obtain ⟨c0, hc0⟩ : ∃ c0, fs[0]? = some c0 := ⟨fs[0]'(by have := B.hf.lo; omega), List.getElem?_eq_getElem (by have := B.hf.lo; omega)⟩
  refine ⟨_, rfl, F, rfl, ⟨_, SqL.of (s13 _ _ hF)⟩, ?_⟩
  refine for_it (walk_list (xs := [V.ref w1, V.ref w2, V.ref w3, V.ref w4, V.ref w5])) (fun i σ H' => ∃ v12', σ = sg v0 v1 fs v3 v4 o t many l r (some (.ref F)) (some (.ref D)) v12' v13 v14 v15 v16 v17 v18 v19 v20 ∧ Same HA H' ∧ H' F = some (.lst [.ref w1, .ref w2, .ref w3, .ref w4, .ref w5]) ∧
      H' D = some (.lst [.ref d1, .ref d2, .ref d3, .ref d4, .ref d5]) ∧ H' d1 = some (.lst ((List.zipWith (fun i j => i + j) (e1 :: ns1) (e2 :: ns2)).map V.int)) ∧ ∀ w0 ∈ [w1, w2, w3, w4, w5], ∃ e ns, WF K HA H' fs w0 e ns)
    ⟨_, rfl, sA.trans s13, s13 _ _ hF, s13 _ _ hD, s13 _ _ p1, fun w0 h0 => ?_⟩ (fun i σ H' _ q => SqL.of q.choose_spec.2.2.1) ?_ ?_
  · simp only [List.mem_cons, List.not_mem_nil, or_false] at h0
    rcases h0 with rfl | rfl | rfl | rfl | rfl
    · exact ⟨_, _, W1.same s13⟩
    · exact ⟨_, _, W2.same s13⟩
    · exact ⟨_, _, W3.same s13⟩
    · exact ⟨_, _, W4.same s13⟩
    · exact ⟨_, _, W5.same s13⟩
  · rintro i x σ H4 H5 hi ⟨v12', rfl, sA4, hF4, hD4, p14, hw4⟩ ⟨rfl, hx⟩
    obtain ⟨w0, hw0, rfl⟩ : ∃ w0, w0 ∈ [w1, w2, w3, w4, w5] ∧ x = .ref w0 := by
      have hx : ([w1, w2, w3, w4, w5].map V.ref)[i]? = some x := hx
      obtain ⟨w0, h0, e⟩ := List.mem_map.mp (List.mem_of_getElem? hx)
      exact ⟨w0, h0, e.symm⟩
    obtain ⟨e, ns, dx, el, d, Wo, hd0⟩ := hw4 w0 hw0
    have Wd := Wo.2.2.1
    refine ⟨_, rfl, w0, dx, _, rfl, Wo.1, flds_no _ _ _ (by decide +kernel) (by decide +kernel) (by decide +kernel), _, rfl, txt fs, _, c0, rfl, rfl, ?_, ?_, w0, fs, e, ns, 0, c0, 77, dx, el, d, rfl, B.hf, Wo, hc0, ?_⟩
    · show fs.toArray.size ≤ sizeLine
      rw [List.size_toArray, sizeLine_eq]
      omega
    · exact atI_nat (j := 0) (by simpa using hc0)
    · refine ⟨_, rfl, fun b u q => ?_, ?_, ?_, ?_, fun w' hw' => ?_⟩
      · rw [upd_ne (ne_of_none q hd0)]
        exact sA4 _ _ q
      · rw [upd_ne fun z => by rw [z, Wd] at hF4; cases hF4]
        exact hF4
      · rw [upd_ne fun z => by rw [z, Wd] at hD4; cases hD4]
        exact hD4
      · rw [upd_ne fun z => by rw [z, Wd] at p14; cases p14]
        exact p14
      · obtain ⟨e', ns', h'⟩ := hw4 w' hw'
        exact h'.put Wo
  · rintro σ H4 ⟨v12', rfl, sA4, hF4, hD4, p14, hw4⟩
    exact tl _ _ ⟨v0, v1, v3, v4, _, v12', v13, v14, v15, v16, v17, v18, v19, v20, o, t, l, r, fs, e1, e2, ns1, ns2, many, D, d1, d2, d3, d4, d5, rfl, B.same sA4, hD4, p14⟩
end
end FwD
set_option Elab.async false
set_option linter.all false
set_option maxRecDepth 100000
set_option maxHeartbeats 4000000
namespace FwD
open PySem PySem.Spec PyProof.Rows L2 He He5 FwHk FwHd FwZip FwKw FwLam
section
variable {P : Program} {w : World} {K : PySem.W.Frag} {mg : Str → Option Value} {base : Heap} {f : Addr} {cdv : Value} {A : Around} {outer : List Env} {s : Shared} {H : Hp} {E : XK} {Q : VK}
/-- behind the checks -/
def P14 (K : PySem.W.Frag) : L2.St → Hp → Prop := fun σ H1 => ∃ v0 v1 v3 v4 v10 v11 v12 v13 v14 v15 v16 v17 v18 v19 v20 o t l r fs e1 e2 ns1 ns2 many, σ = sg v0 v1 fs v3 v4 o t many l r v10 v11 v12 v13 v14 v15 v16 v17 v18 v19 v20 ∧ LB K H1 o t l r fs e1 e2 ns1 ns2 many
theorem seg9 (L : LD P w K mg base) (hr : Room 11 (A.deeper (envOfC "law" (defScope sLaw) s.heap.objs.size f cdv))) (tail : From P w K mg base f cdv A outer s H E Q 14 (P14 K)) : From P w K mg base f cdv A outer s H E Q 9 (P9 K) := by
  obtain ⟨tT, hT, tl⟩ := tail
  obtain ⟨fdS, GS, kS, bS⟩ := L.sm.ex
  obtain ⟨fdN, GN, kN, bN⟩ := L.nu.ex
  obtain ⟨fdC, GC, kC, bC⟩ := L.cp.ex
  obtain ⟨fdD, GD, kD, bD⟩ := L.ad.ex
  obtain ⟨fdP, GP, kP, bP⟩ := L.pt.ex
  obtain ⟨fdG, GG, kG, bG⟩ := L.get.ex
  have T := L.t
  have W := wx_of T
  have hr3 : Room 3 (A.deeper (envOfC "law" (defScope sLaw) s.heap.objs.size f cdv)) := hr.mono (by decide)
  have hr4 : Room 4 (A.deeper (envOfC "law" (defScope sLaw) s.heap.objs.size f cdv)) := hr.mono (by decide)
  have hr5 : Room 5 (A.deeper (envOfC "law" (defScope sLaw) s.heap.objs.size f cdv)) := hr.mono (by decide)
  have hr6 : Room 6 (A.deeper (envOfC "law" (defScope sLaw) s.heap.objs.size f cdv)) := hr.mono (by decide)
  refine ⟨_, pss_cons (ps_if (pt_not (pt_val (pe_call GS hr4 rfl (T.g _ (by decide +kernel)) kS bS .nil pass0 (pa_cons (pe_lst (pa_cons (pe_call GN hr4 rfl (T.g _ (by decide +kernel)) kN bN .nil pass0 (pa_cons (pv 5) (pa_cons (pv 2) pa_nil))) (pa_cons (pe_call GN hr4 rfl (T.g _ (by decide +kernel)) kN bN .nil pass0 (pa_cons (pv 6) (pa_cons (pv 2) pa_nil))) pa_nil))) (pa_cons (pe_lst (pa_cons (pv 8) (pa_cons (pv 9) pa_nil))) pa_nil))))) (pss_one (ps_ret pe_bl)) pss_nil)
    (pss_cons (ps_set (i := 13) scLaw.nd rfl (Or.inl rfl) (pe_meth0 (pv 5) T.cl (T.me _ (by decide +kernel)) GC hr6 bC .nil pass0))
    (pss_cons (ps_set (i := 14) scLaw.nd rfl (Or.inl rfl) (pe_call GD hr5 rfl (T.g _ (by decide +kernel)) kD bD .nil passL (pa_cons (pv 13) (pa_cons (pv 6) pa_nil))))
    (pss_cons (ps_if (pt_not (pt_val (pe_call GS hr4 rfl (T.g _ (by decide +kernel)) kS bS .nil pass0 (pa_cons (pe_lst (pa_cons (pe_call GN hr4 rfl (T.g _ (by decide +kernel)) kN bN .nil pass0 (pa_cons (pe_ix ix_list (pv 14) pe_int (fun _ _ => rfl)) (pa_cons (pv 2) pa_nil))) (pa_cons (pe_call GN hr4 rfl (T.g _ (by decide +kernel)) kN bN .nil pass0 (pa_cons (pe_ix ix_list (pv 14) pe_int (fun _ _ => rfl)) (pa_cons (pv 2) pa_nil))) (pa_cons (pe_call GN hr4 rfl (T.g _ (by decide +kernel)) kN bN .nil pass0 (pa_cons (pv 5) (pa_cons (pv 2) pa_nil))) pa_nil)))) (pa_cons (pe_lst (pa_cons (pe_ix ix_list (pv 11) pe_int (fun _ _ => rfl)) (pa_cons (pe_ix ix_list (pv 11) pe_int (fun _ _ => rfl)) (pa_cons (pv 8) pa_nil)))) pa_nil))))) (pss_one (ps_ret pe_bl)) pss_nil)
    (pss_cons (ps_if (pt_not (pt_val (pe_call GS hr4 rfl (T.g _ (by decide +kernel)) kS bS .nil pass0 (pa_cons (pe_lst (pa_cons (pe_call GP hr4 rfl (T.g _ (by decide +kernel)) kP bP .nil pass0 (pa_cons (pv 13) (pa_cons (pe_ix ix_str (pv 2) (pe_un un_neg pe_int) (fun _ _ => rfl)) (pa_cons (pv 7) pa_nil)))) (pa_cons (FwOp.ix_own (k := 2) (C := WC K) GG hr3 bG pass0 (T.me _ (by decide +kernel)).at_ (T.me _ (by decide +kernel)).fn W.gi (pv 13) (pe_ix ix_str (pv 2) (pe_un un_neg pe_int) (fun _ _ => rfl))) (pa_cons (pe_call GN hr4 rfl (T.g _ (by decide +kernel)) kN bN .nil pass0 (pa_cons (pv 5) (pa_cons (pv 2) pa_nil))) pa_nil)))) (pa_cons (pe_lst (pa_cons (pv 7) (pa_cons (pv 7) (pa_cons (pv 8) pa_nil)))) pa_nil))))) (pss_one (ps_ret pe_bl)) pss_nil)
    hT)))), ?_⟩
  rintro σ H1 ⟨v0, v1, v3, v4, v10, v12, v13, v14, v15, v16, v17, v18, v19, v20, o, t, l, r, fs, e1, e2, ns1, ns2, many, D, d1, d2, d3, d4, d5, rfl, B, hD, p1⟩
  obtain ⟨dx1, el1, dd1, O1⟩ := id B.o1
  obtain ⟨dx2, el2, dd2, O2⟩ := id B.o2
  have n1 : ns1.length = fs.length := O1.2.2.2
  have n2 : ns2.length = fs.length := O2.2.2.2
  have f4 := B.f4
  have z1 : (e1 :: ns1).length < 1000 := by rw [List.length_cons]; omega
  have z2 : (e2 :: ns2).length < 1000 := by rw [List.length_cons]; omega
  have z3 : ((e1 + e2) :: List.zipWith (fun i j => i + j) ns1 ns2).length < 1000 := by rw [List.length_cons, List.length_zipWith]; omega
  have sz2 : 2 ≤ sizeLine := by decide +kernel
  have sz3 : 3 ≤ sizeLine := by decide +kernel
  -- the two
  refine ⟨_, rfl, _, rfl, o, fs, e1, ns1, rfl, B.hf, B.o1, fun t1 H2 c2 f1 q1 => ?_⟩
  refine ⟨_, rfl, _, rfl, t, fs, e2, ns2, rfl, B.hf, B.o2.same c2, fun t2 H3 c3 f2 q2 => ⟨sz2, fun p hp => ?_⟩⟩
  have c4 : Same H3 (upd H3 p (.lst [.ref t1, .ref t2])) := same_upd hp
  refine ⟨_, rfl, _, rfl, sz2, fun q hq => ?_⟩
  have c5 : Same (upd H3 p (.lst [.ref t1, .ref t2])) (upd (upd H3 p (.lst [.ref t1, .ref t2])) q (.lst [.ref l, .ref r])) := same_upd hq
  have c45 := c4.trans c5
  have c15 := (c2.trans c3).trans c45
  refine ⟨.ref p, .ref q, rfl, ?_, fun H6 c6 => ⟨true, rfl, iteF ?_⟩⟩
  · refine eqd_lists (ts := [t1, t2]) (us := [l, r]) (c5 _ _ upd_same) upd_same rfl (by simp) fun i t0 u ht hu => ?_
    rcases i with _ | _ | i
    · cases ht; cases hu
      exact eqd_ints (c45 _ _ (c3 _ _ q1)) (c15 _ _ B.l1) z1
    · cases ht; cases hu
      exact eqd_ints (c45 _ _ q2) (c15 _ _ B.l2) z2
    · cases ht
  have c16 := c15.trans c6
  have B6 := B.same c16
  have hD6 := c16 _ _ hD
  have p16 := c16 _ _ p1
  have O16 := O1.same c16
  clear c45 c15 c4 c5
  -- the twin
  refine ⟨_, rfl, o, dx1, _, rfl, O16.1, flds_no _ _ _ (by decide +kernel) (by decide +kernel) (by decide +kernel), o, fs, e1, ns1, rfl, B.hf, B6.o1, fun tw H7 c7 Wt => ?_⟩
  have ftw : H6 tw = none := by
    obtain ⟨_, _, _, _, q, _, _⟩ := Wt
    exact q
  refine ⟨_, rfl, _, rfl, tw, t, fs, fs, e1, e2, ns1, ns2, rfl, fun z => (by rw [z, (O2.same c16).1] at ftw; cases ftw), B.hf, Wt.at_, B6.o2.same c7, fun _ pr H8 dx el d fpr fel fd hpr W8 sb => ?_, fun h => absurd rfl h⟩
  have c68 : Same H6 H8 := fun c u q => sb c u (c7 _ _ q) (ne_of_none q ftw)
  have hd6 : H6 d = none := c7.free fd
  have hD8 := c68 _ _ hD6
  have p18 := c68 _ _ p16
  have B8 := B6.same c68
  -- the pair
  refine ⟨_, rfl, pr, _, _, _, rfl, rfl, SqL.of hpr, rfl, _, rfl, tw, fs, e1 + e2, _, rfl, B.hf, ⟨dx, el, d, W8⟩, fun t3 H9 c9 f3 q3 => ?_⟩
  refine ⟨_, rfl, pr, _, _, _, rfl, rfl, SqL.of (c9 _ _ hpr), rfl, _, rfl, tw, fs, e1 + e2, _, rfl, B.hf, ⟨dx, el, d, W8.same c9⟩, fun t4 H10 c10 f4' q4 => ?_⟩
  have c810 := c9.trans c10
  refine ⟨_, rfl, _, rfl, o, fs, e1, ns1, rfl, B.hf, B8.o1.same c810, fun t5 H11 c11 f5 q5 => ⟨sz3, fun p2 hp2 => ?_⟩⟩
  have c811 := c810.trans c11
  have c12 : Same H11 (upd H11 p2 (.lst [.ref t3, .ref t4, .ref t5])) := same_upd hp2
  refine ⟨_, rfl, D, _, _, _, rfl, rfl, SqL.of (c12 _ _ (c811 _ _ hD8)), rfl, _, rfl, D, _, _, _, rfl, rfl, SqL.of (c12 _ _ (c811 _ _ hD8)), rfl, _, rfl, sz3, fun q' hq' => ?_⟩
  have c13 : Same (upd H11 p2 (.lst [.ref t3, .ref t4, .ref t5])) (upd (upd H11 p2 (.lst [.ref t3, .ref t4, .ref t5])) q' (.lst [.ref d1, .ref d1, .ref l])) := same_upd hq'
  have c1213 := c12.trans c13
  have c813 := c811.trans c1213
  refine ⟨.ref p2, .ref q', rfl, ?_, fun H14 c14 => ⟨true, rfl, iteF ?_⟩⟩
  · refine eqd_lists (ts := [t3, t4, t5]) (us := [d1, d1, l]) (c13 _ _ upd_same) upd_same rfl (by simp) fun i t0 u ht hu => ?_
    rcases i with _ | _ | _ | i
    · cases ht; cases hu
      exact eqd_ints (c1213 _ _ (c11 _ _ (c10 _ _ q3))) (c813 _ _ p18) z3
    · cases ht; cases hu
      exact eqd_ints (c1213 _ _ (c11 _ _ q4)) (c813 _ _ p18) z3
    · cases ht; cases hu
      exact eqd_ints (c1213 _ _ q5) (c813 _ _ B8.l1) z1
    · cases ht
  have c814 := c813.trans c14
  have W14 := W8.same c814
  have B14 := B8.same c814
  clear c813 c1213 c13 c12 c811 c810
  -- a put at the twin's last face
  have hlo := B.hf.lo
  obtain ⟨c0, hc0⟩ : ∃ c0, fs[fs.length - 1]? = some c0 := ⟨fs[fs.length - 1]'(by omega), List.getElem?_eq_getElem (by omega)⟩
  have hzz : (txt fs).length ≤ sizeLine := by
    show fs.toArray.size ≤ sizeLine
    rw [List.size_toArray, sizeLine_eq]
    omega
  have hix : atI (txt fs).cps.toList (-1) = some c0 := by
    have e : fs = fs.dropLast ++ [c0] := by
      have hne : fs ≠ [] := fun z => by rw [z] at hlo; exact absurd hlo (by decide)
      have h := List.dropLast_concat_getLast hne
      have h2 : fs.getLast hne = c0 := by
        rw [List.getLast_eq_getElem]
        exact (List.getElem?_eq_some_iff.mp hc0).2
      rw [h2] at h
      exact h.symm
    have h := atI_last fs.dropLast c0
    rw [← e] at h
    exact h
  have hlw : (List.zipWith (fun i j => i + j) ns1 ns2).length = fs.length := W14.2.2.2
  refine ⟨_, rfl, _, rfl, 1, rfl, txt fs, _, c0, rfl, rfl, hzz, hix, _, rfl, tw, fs, _, _, fs.length - 1, c0, many, dx, el, d, rfl, B.hf, W14, hc0, ?_⟩
  have W15 := W14.put (i := fs.length - 1) (n := many)
  have c15 : Same H6 (upd H14 d (.dK (kvP (fs.zip ((List.zipWith (fun i j => i + j) ns1 ns2).set (fs.length - 1) many))))) := fun c u q => (upd_ne (ne_of_none q hd6)).trans (c814 _ _ (c68 _ _ q))
  generalize upd H14 d (.dK (kvP (fs.zip ((List.zipWith (fun i j => i + j) ns1 ns2).set (fs.length - 1) many)))) = H15 at W15 c15
  refine ⟨_, rfl, _, rfl, 1, rfl, txt fs, _, c0, rfl, rfl, hzz, hix, ⟨tw, dx, _, rfl, W15.1⟩, tw, fs, _, _, fs.length - 1, c0, many, rfl, B.hf, ⟨dx, el, d, W15⟩, hc0, by rw [List.getElem?_set_self (by omega)], ?_⟩
  have B15 := B6.same c15
  refine ⟨_, rfl, _, rfl, o, fs, e1, ns1, rfl, B.hf, B15.o1, fun t6 H16 c16 f6 q6 => ⟨sz3, fun p3 hp3 => ?_⟩⟩
  have c17 : Same H16 (upd H16 p3 (.lst [.int many, .int many, .ref t6])) := same_upd hp3
  refine ⟨_, rfl, _, rfl, _, rfl, sz3, fun q3 hq3 => ?_⟩
  have c18 : Same (upd H16 p3 (.lst [.int many, .int many, .ref t6])) (upd (upd H16 p3 (.lst [.int many, .int many, .ref t6])) q3 (.lst [.int many, .int many, .ref l])) := same_upd hq3
  have c1618 := c16.trans (c17.trans c18)
  refine ⟨.ref p3, .ref q3, rfl, ?_, fun H19 c19 => ⟨true, rfl, iteF ?_⟩⟩
  · refine .inr ⟨p3, q3, [.int many, .int many, .ref t6], [.int many, .int many, .ref l], rfl, rfl, .inl ⟨c18 _ _ upd_same, upd_same⟩, rfl, by simp, fun i u v hu hv => ?_⟩
    rcases i with _ | _ | _ | i
    · cases hu; cases hv
      exact .inl ⟨rfl, .inr (.inl ⟨_, rfl⟩)⟩
    · cases hu; cases hv
      exact .inl ⟨rfl, .inr (.inl ⟨_, rfl⟩)⟩
    · cases hu; cases hv
      exact eqd_ints (c18 _ _ (c17 _ _ q6)) (c1618 _ _ B15.l1) z1
    · cases hu
  exact tl _ _ ⟨v0, v1, v3, v4, v10, _, v12, _, _, v15, v16, v17, v18, v19, v20, o, t, l, r, fs, e1, e2, ns1, ns2, many, rfl, B15.same (c1618.trans c19)⟩
end
end FwD
set_option Elab.async false
set_option linter.all false
set_option maxRecDepth 100000
set_option maxHeartbeats 4000000
namespace FwD
open PySem PySem.Spec PyProof.Rows L2 He He5 FwHk FwHd FwZip FwKw FwLam
theorem len_sub : ∀ (l fs : List Nat), l.Nodup → (∀ c ∈ l, c ∈ fs) → l.length ≤ fs.length
  | [], _, _, _ => Nat.zero_le _
  | x :: r, fs, hn, hs => by
    obtain ⟨h1, h2⟩ := List.nodup_cons.mp hn
    have hx := hs x List.mem_cons_self
    have := len_sub r (fs.erase x) h2 fun c hc => (List.mem_erase_of_ne fun z => h1 (by rw [← z]; exact hc)).mpr (hs c (List.mem_cons_of_mem _ hc))
    rw [List.length_erase_of_mem hx] at this
    have hp : 0 < fs.length := List.length_pos_of_mem hx
    rw [List.length_cons]
    omega
/-- the low signs that are not in fs -/
def goneL (fs : List Nat) (i : Nat) : List Nat := (lowS.cps.toList.take i).filter fun c => !decide (c ∈ fs)
theorem gone_some {fs : List Nat} (h : fs.length ≤ 4) : ∃ g r, goneL fs lowS.cps.size = g :: r ∧ g ∉ fs ∧ 97 ≤ g ∧ g ≤ 122 := by
  have e : goneL fs lowS.cps.size = lowS.cps.toList.filter fun c => !decide (c ∈ fs) := by
    unfold goneL
    rw [show lowS.cps.size = lowS.cps.toList.length from rfl, List.take_length]
  cases q : goneL fs lowS.cps.size with
  | nil =>
    rw [e] at q
    have hs : ∀ c ∈ lowS.cps.toList, c ∈ fs := fun c hc => by
      have := List.filter_eq_nil_iff.mp q c hc
      simpa using this
    have := len_sub _ _ (by decide +kernel) hs
    have h26 : lowS.cps.toList.length = 26 := by decide +kernel
    omega
  | cons g r =>
    have hm : g ∈ goneL fs lowS.cps.size := by rw [q]; exact List.mem_cons_self
    rw [e] at hm
    obtain ⟨h1, h2⟩ := List.mem_filter.mp hm
    refine ⟨g, r, rfl, by simpa using h2, ?_⟩
    rw [low_list] at h1
    obtain ⟨j, hj, rfl⟩ := List.mem_map.mp h1
    have := List.mem_range.mp hj
    omega
theorem join_ltr (ds : List Nat) : Txt.join (Str.mk #[]) (ds.map ltr) = txt ds := by
  have h := SX.join_S [] (ds.map fun c => [c])
  have e1 : (ds.map fun c => [c]).map SX.S = ds.map ltr := by rw [List.map_map]; rfl
  have e2 : ∀ l : List Nat, TL.joinL [] (l.map fun c => [c]) = l := fun l => by
    induction l with
    | nil => rfl
    | cons a b ih =>
      cases b with
      | nil => rfl
      | cons a2 b2 =>
        show [a] ++ ([] ++ TL.joinL [] ((a2 :: b2).map fun c => [c])) = _
        rw [ih]
        rfl
  rw [e1, e2] at h
  exact h
section
variable {P : Program} {w : World} {K : PySem.W.Frag} {mg : Str → Option Value} {base : Heap} {f : Addr} {cdv : Value} {A : Around} {outer : List Env} {s : Shared} {H : Hp} {E : XK} {Q : VK}
/-- behind «_law_more = ..» -/
def P16 (K : PySem.W.Frag) : L2.St → Hp → Prop := fun σ H1 => ∃ v0 v1 v3 v4 v10 v11 v12 v13 v14 v15 v17 v18 v19 v20 o t l r fs e1 e2 ns1 ns2 many m gs e3 ns3, σ = sg v0 v1 fs v3 v4 o t many l r v10 v11 v12 v13 v14 v15 (some (.ref m)) v17 v18 v19 v20 ∧ LB K H1 o t l r fs e1 e2 ns1 ns2 many ∧ WAt (WC K) H1 m gs e3 ns3 ∧ Faces gs ∧ fs ≠ gs ∧ m ≠ o
theorem seg14 (L : LD P w K mg base) (hr : Room 11 (A.deeper (envOfC "law" (defScope sLaw) s.heap.objs.size f cdv))) (tail : From P w K mg base f cdv A outer s H E Q 16 (P16 K)) : From P w K mg base f cdv A outer s H E Q 14 (P14 K) := by
  obtain ⟨tT, hT, tl⟩ := tail
  have T := L.t
  have hr4 : Room 4 (A.deeper (envOfC "law" (defScope sLaw) s.heap.objs.size f cdv)) := hr.mono (by decide)
  refine ⟨_, pss_cons (ps_set (i := 15) scLaw.nd rfl (Or.inl rfl) (pe_ix ix_list (pe_lc (own := [("_law_letter", 20)]) (g := gName 20) (tt := tTest (tOp (fun x y H Q => ∃ (c : Nat) (z : Str), x = .str ⟨#[c]⟩ ∧ y = .str z ∧ Q (.bl (!decide (c ∈ z.cps.toList))) H) (tVar 20) (tVar 2))) (te := tVar 20) rfl scLaw.nd (pi_str pe_str)
        (blkOk_by (own := [("_law_letter", 20)]) (N := NL) (sc := defScope sLaw) (by decide +kernel)) (fun _ _ _ _ _ => pg_name (i := 20) scLaw.nd rfl (Or.inl rfl)) (fun _ _ _ _ _ => pts_one (pt_cmpR op_notIn_sign (pv 20) (pv 2) (by rfl))) (fun _ _ _ _ _ => pv 20)) pe_int (fun _ _ => rfl)))
    (pss_cons (ps_set (i := 16) scLaw.nd rfl (Or.inr rfl) (pe_makeI0 T.mkW L.ini hr4 rfl (T.g _ (by decide +kernel)) pass0 (pe_join pe_str (pe_callB cr_sortedS (by rfl) (T.fr _ (by decide +kernel)) (by decide +kernel)
        (pa_cons (pe_callTy (FwSet.cr_listStr rfl) (by rfl) (T.fr _ (by decide +kernel)) (by decide +kernel) (pa_cons (pe_op op_add_str (pv 2) (pv 15)) pa_nil)) pa_nil)))))
    hT), ?_⟩
  rintro σ H1 ⟨v0, v1, v3, v4, v10, v11, v12, v13, v14, v15, v16, v17, v18, v19, v20, o, t, l, r, fs, e1, e2, ns1, ns2, many, rfl, B⟩
  have f4 := B.f4
  obtain ⟨g, gr, hg, hgn, g0, g1⟩ := gone_some f4
  refine ⟨lowS, rfl, fun D hD => ?_⟩
  refine lc_it (walk_str (z := lowS)) (fun i H' => Same H1 H' ∧ H' D = some (.lst ((goneL fs i).map fun c => V.str (ltr c)))) ⟨same_upd hD, upd_same⟩ (fun _ _ _ _ => True.intro) ?_ ?_
  · rintro i x H2 H3 hi ⟨s2, h2⟩ ⟨rfl, c, hc, rfl⟩
    have hcl : lowS.cps.toList[i]? = some c := by rw [Array.getElem?_toList]; exact hc
    have hl26 : (goneL fs i).length ≤ 26 := by
      unfold goneL
      refine Nat.le_trans (List.length_filter_le _ _) ?_
      rw [List.length_take]
      have : lowS.cps.toList.length = 26 := by decide +kernel
      omega
    have hmem : (c ∈ (txt fs).cps.toList) ↔ c ∈ fs := by simp
    refine ⟨rfl, _, rfl, _, rfl, c, txt fs, rfl, rfl, _, rfl, ?_⟩
    by_cases hm : c ∈ fs
    · rw [decide_eq_true (hmem.mpr hm)]
      refine iteF ⟨s2, ?_⟩
      rw [h2]
      unfold goneL
      rw [List.take_add_one, hcl, List.filter_append]
      simp [hm]
    · rw [decide_eq_false (fun z => hm (hmem.mp z))]
      refine iteT ⟨_, rfl, _, h2, ?_, fun b u q => ?_, ?_⟩
      · rw [List.length_map, sizeLine_eq]
        omega
      · rw [upd_ne (ne_of_none q hD)]
        exact s2 _ _ q
      · rw [upd_same]
        unfold goneL
        rw [List.take_add_one, hcl, List.filter_append]
        simp [hm]
  rintro H2 ⟨s2, h2⟩
  rw [hg] at h2
  refine ⟨D, _, _, _, rfl, rfl, SqL.of h2, atI_nat (j := 0) rfl, ?_⟩
  -- more
  have hsz : (txt fs).length + (ltr g).length ≤ sizeLine := by
    show fs.toArray.size + 1 ≤ sizeLine
    rw [List.size_toArray, sizeLine_eq]
    omega
  refine ⟨⟨_, rfl⟩, _, rfl, _, rfl, txt fs, ltr g, rfl, rfl, hsz, ?_⟩
  rw [txt_snoc]
  refine ⟨txt (fs ++ [g]), rfl, ?_, fun p hp => ?_⟩
  · show (fs ++ [g]).toArray.size ≤ sizeLine
    rw [List.size_toArray, List.length_append, sizeLine_eq]
    show fs.length + 1 ≤ _
    omega
  refine ⟨p, (fs ++ [g]).map ltr, rfl, SqL.of upd_same, ?_, fun ys q hperm hsort hq => ?_⟩
  · rw [List.length_map, List.length_append]
    show fs.length + 1 < 64
    omega
  obtain ⟨ds, rfl, hd⟩ := perm_ltr hperm
  have hle := sortedS_ltr hsort
  have hnd : ds.Nodup := hd.nodup_iff.mpr (List.nodup_append.mpr ⟨B.hf.nodup, List.pairwise_singleton _ _, fun a ha b hb z => by rw [List.mem_singleton.mp hb] at z; exact hgn (z ▸ ha)⟩)
  have hlen : ds.length = fs.length + 1 := by rw [hd.length_eq, List.length_append]; rfl
  have hF : Faces ds := by
    refine ⟨by omega, by omega, (hle.and hnd).imp fun h => Nat.lt_of_le_of_ne h.1 h.2, fun c hc => ?_⟩
    rcases List.mem_append.mp (hd.mem_iff.mp hc) with h | h
    · exact B.hf.small c h
    · rw [List.mem_singleton.mp h]
      exact ⟨g0, g1⟩
  refine ⟨_, q, ds.map ltr, rfl, rfl, .inl (SqL.of upd_same), ?_, ?_⟩
  · have e1 : ((ds.map ltr).map (·.length)).sum = ds.length := by
      clear hperm hsort hd hle hnd hlen hF hq
      induction ds with
      | nil => rfl
      | cons a b ih =>
        rw [List.map_cons, List.map_cons, List.sum_cons, ih, List.length_cons]
        show 1 + _ = _
        omega
    rw [e1, List.length_map]
    show ds.length + ds.length * 0 ≤ _
    omega
  show MadeI _ _ _ (.str (Txt.join (Str.mk #[]) (ds.map ltr))) _ _ _ _
  rw [join_ltr]
  refine made_w (ps := []) hF rfl (fun _ h => by cases h) List.nodup_nil (Nat.zero_le _) fun m H5 s5 Wm => ?_
  have c1 : Same H1 H5 := ((s2.trans (same_upd hp)).trans (same_upd hq)).trans s5
  have hm : H2 m = none := by
    obtain ⟨_, _, _, _, z, _, _⟩ := Wm
    exact (same_upd hp).free ((same_upd hq).free z)
  refine tl _ _ ⟨v0, v1, v3, v4, v10, v11, v12, v13, v14, _, v17, v18, v19, v20, o, t, l, r, fs, e1, e2, ns1, ns2, many, m, ds, _, _, rfl, B.same c1, Wm.at_, hF, fun z => ?_, fun z => ?_⟩
  · rw [z] at hlen
    omega
  · obtain ⟨_, _, _, q0, _⟩ := B.o1
    rw [z, s2 _ _ q0] at hm
    cases hm
end
end FwD
set_option Elab.async false
set_option linter.all false
set_option maxRecDepth 100000
set_option maxHeartbeats 4000000
namespace FwD
open PySem PySem.Spec PyProof.Rows L2 He He5 FwHk FwHd FwZip FwKw FwLam
/-! ### the four lambdas -/
def lE (i : Nat) : Expr := match (defBody sLaw).getD 16 (.Pass ⟨0, 0, 0, 0⟩) with
  | .Assign _ (.List es _) _ => es.getD i (.Name "" ⟨0, 0, 0, 0⟩)
  | _ => .Name "" ⟨0, 0, 0, 0⟩
def lP : Expr → Arguments
  | .Lambda a _ _ _ => a
  | _ => defArgs sLaw
def lB : Expr → Expr
  | .Lambda _ b _ _ => b
  | e => e
def lS : Expr → Scope
  | .Lambda _ _ s _ => s
  | _ => defScope sLaw
abbrev cl2 (cm co : Addr) : List (Str × Addr) := [(("_law_one" : Str), co), (("_law_more" : Str), cm)]
abbrev lf (i : Nat) (q : Str) (cm co : Addr) : LF := ⟨q, lP (lE i), lB (lE i), lS (lE i), cl2 cm co⟩
theorem cl2_all (cm co : Addr) : ∀ p ∈ cl2 cm co, ∃ y, (cl2 cm co).lookup y = some p.2 := fun p hp => by
  simp only [cl2, List.mem_cons, List.not_mem_nil, or_false] at hp
  rcases hp with rfl | rfl
  · exact ⟨"_law_one", rfl⟩
  · exact ⟨"_law_more", rfl⟩
section
variable {P : Program} {w : World} {K : PySem.W.Frag} {mg : Str → Option Value} {base : Heap} {f c cm co : Addr} {q : Str} {dV : Value}
theorem bind0 {F : LF} {ps : List Str} {s : Shared} {H : Hp} {c : Addr} {dV doc pm ctv : Value} (hd : DfAt H dV none) (h : bindArgs (PySem.W.kdv_fn "<lambda>" F.qual F.params (.expr F.body) F.scope F.cl .none doc pm (.ref c) ctv) ⟨[], []⟩ = pure []) :
    ∃ us, Vals ([] : List V) us ∧ BindsTo s (PySem.W.kdv_fn "<lambda>" F.qual F.params (.expr F.body) F.scope F.cl dV doc pm (.ref c) ctv) ⟨[], []⟩ (([] : List Str).zip us) := by
  obtain rfl : dV = .none := hd
  exact ⟨[], .nil, .of_eq h⟩
theorem bind1 {F : LF} {x : Str} {i : Int} {s : Shared} {H : Hp} {c : Addr} {dV doc pm ctv : Value} (hok : HOk P w H s.heap) (hd : DfAt H dV (some i))
    (h : ∀ (T : Addr) (u : Value), ∃ k, bindArgs (PySem.W.kdv_fn "<lambda>" F.qual F.params (.expr F.body) F.scope F.cl (.ref T) doc pm (.ref c) ctv) ⟨[], []⟩ = seqItems? (.ref T) >>= k ∧ k (some #[u]) = pure [(x, u)]) :
    ∃ us, Vals [V.int i] us ∧ BindsTo s (PySem.W.kdv_fn "<lambda>" F.qual F.params (.expr F.body) F.scope F.cl dV doc pm (.ref c) ctv) ⟨[], []⟩ ([x].zip us) := by
  obtain ⟨T, rfl, hT⟩ := hd
  obtain ⟨_, its, rv, o, h1, h2, n, h3⟩ := (show ObjOk P w H s.heap T (.tup [.int i]) from hok T _ hT)
  obtain ⟨u, rfl, r⟩ := vals1 rv
  obtain ⟨k, e1, e2⟩ := h T u
  exact ⟨[u], .cons r .nil, .of_defaults (o := o) (items := #[u]) (n := n) rfl h1 h3 e1 e2⟩
/-- one + more, more + one -/
abbrev tbAdd (K : PySem.W.Frag) (i j : Nat) : XK → TE := fun E => tOp (fun x y H Q => FwOp.IsI H (WC K) x ∧ FwOp.IsI H (WC K) y ∧ spBin K (fun i j => i + j) [x, y] H Q E) (tVar i) (tVar j)
theorem ask0 (L : LD P w K mg base) : AskOk P w K mg base (L2.CX P w) 8 f (spAsk (lf 0 q cm co) c dV none f [] ["_law_one", "_law_more"] [] ["_law_one", "_law_more"] (tbAdd K 0 1)) := by
  obtain ⟨fdA, GA, kA, bA⟩ := L.add.ex
  have T := L.t
  have W := wx_of T
  refine ask_of (k := 7) (NdefX.nscope_by (by show NdefX.nscB _ _ _ (lS (lE 0)) = true; decide +kernel)) (cl2_all cm co) (fun s H doc pm ctv _ hd => bind0 (ps := []) hd rfl) rfl fun A outer s H E hr => ?_
  exact pe_op (FwOp.op_same (C := WC K) GA (hr.mono (by decide)) bA (passes_call (takes_of rfl rfl rfl rfl) (fun _ _ _ _ h => h)) W.sf (T.me _ (by decide +kernel)).at_ (T.me _ (by decide +kernel)).fn) (pv 0) (pv 1)
theorem ask1 (L : LD P w K mg base) : AskOk P w K mg base (L2.CX P w) 8 f (spAsk (lf 1 q cm co) c dV (some 0) f ["_law_a"] ["_law_one", "_law_more"] [.int 0] ["_law_a", "_law_one", "_law_more"] (fun E => tCall (spBin K fun i j => i - j) [] E (tCons (tVar 1) (tCons (tVar 2) tNil)))) := by
  obtain ⟨fdA, GA, kA, bA⟩ := L.ta.ex
  have T := L.t
  have W := wx_of T
  refine ask_of (k := 7) (NdefX.nscope_by (by show NdefX.nscB _ _ _ (lS (lE 1)) = true; decide +kernel)) (cl2_all cm co) (fun s H doc pm ctv hok hd => bind1 hok hd fun T u => ⟨_, rfl, rfl⟩) rfl fun A outer s H E hr => ?_
  exact pe_call GA (hr.mono (by decide)) rfl (T.g _ (by decide +kernel)) kA bA .nil (passes_call (takes_of rfl rfl rfl rfl) (fun _ _ _ _ h => h)) (pa_cons (pv 1) (pa_cons (pv 2) pa_nil))
theorem ask2 (L : LD P w K mg base) : AskOk P w K mg base (L2.CX P w) 8 f (spAsk (lf 2 q cm co) c dV (some 0) f ["_law_b"] ["_law_one", "_law_more"] [.int 0] ["_law_b", "_law_one", "_law_more"] (fun E => tCall (spAdded K) [] E (tCons (tVar 1) (tCons (tVar 2) tNil)))) := by
  obtain ⟨fdA, GA, kA, bA⟩ := L.ad.ex
  have T := L.t
  have W := wx_of T
  refine ask_of (k := 7) (NdefX.nscope_by (by show NdefX.nscB _ _ _ (lS (lE 2)) = true; decide +kernel)) (cl2_all cm co) (fun s H doc pm ctv hok hd => bind1 hok hd fun T u => ⟨_, rfl, rfl⟩) rfl fun A outer s H E hr => ?_
  exact pe_call GA (hr.mono (by decide)) rfl (T.g _ (by decide +kernel)) kA bA .nil (passes_call (takes_of rfl rfl rfl rfl) (fun _ _ _ _ h => h)) (pa_cons (pv 1) (pa_cons (pv 2) pa_nil))
theorem ask3 (L : LD P w K mg base) : AskOk P w K mg base (L2.CX P w) 8 f (spAsk (lf 3 q cm co) c dV (some 0) f ["_law_c"] ["_law_one", "_law_more"] [.int 0] ["_law_c", "_law_one", "_law_more"] (tbAdd K 2 1)) := by
  obtain ⟨fdA, GA, kA, bA⟩ := L.add.ex
  have T := L.t
  have W := wx_of T
  refine ask_of (k := 7) (NdefX.nscope_by (by show NdefX.nscB _ _ _ (lS (lE 3)) = true; decide +kernel)) (cl2_all cm co) (fun s H doc pm ctv hok hd => bind1 hok hd fun T u => ⟨_, rfl, rfl⟩) rfl fun A outer s H E hr => ?_
  exact pe_op (FwOp.op_same (C := WC K) GA (hr.mono (by decide)) bA (passes_call (takes_of rfl rfl rfl rfl) (fun _ _ _ _ h => h)) W.sf (T.me _ (by decide +kernel)).at_ (T.me _ (by decide +kernel)).fn) (pv 2) (pv 1)
end
end FwD
set_option Elab.async false
set_option linter.all false
set_option maxRecDepth 100000
set_option maxHeartbeats 4000000
namespace FwD
open PySem PySem.Spec PyProof.Rows L2 LamX He He5 FwHk FwHd FwZip FwKw FwLam
theorem rem_keep {cs : List Addr} {H : Hp} {b : Addr} {u : HO} (kn : Known cs H) (h : H b = some u) (hu : ∀ o, u ≠ .frz o tt) : remC cs H b = some u := by
  rw [rem_out fun hc => ?_]
  · exact h
  · obtain ⟨o, z⟩ := kn b hc
    rw [h] at z
    exact hu o (Option.some.inj z)
theorem wat_rem {C : Addr} {cs : List Addr} {H : Hp} {a : Addr} {fs : List Nat} {e : Int} {ns : List Int} (kn : Known cs H) (h : WAt C H a fs e ns) : WAt C (remC cs H) a fs e ns := by
  obtain ⟨dx, el, d, h1, h2, h3, h4⟩ := h
  exact ⟨dx, el, d, rem_keep kn h1 (fun _ z => by cases z), rem_keep kn h2 (fun _ z => by cases z), rem_keep kn h3 (fun _ z => by cases z), h4⟩
theorem cells_same {H H' : Hp} {cl : List (Str × Addr)} {fr : List Str} {ws : List V} (s : Same H H') (h : CellsK H cl fr ws) : CellsK H' cl fr ws := by
  obtain ⟨h1, h2, h3, h4⟩ := h
  refine ⟨h1, h2, fun y c e => ?_, fun i y e => ?_⟩
  · obtain ⟨o, v, q, z⟩ := h3 y c e
    exact ⟨o, v, s _ _ q, z⟩
  · obtain ⟨c, q, z⟩ := h4 i y e
    refine ⟨c, q, fun v hv => ?_⟩
    obtain ⟨o, u, q1, q2⟩ := z v hv
    exact ⟨o, u, s _ _ q1, q2⟩
section
variable {P : Program} {w : World} {K : PySem.W.Frag} {mg : Str → Option Value} {base : Heap} {f c cm co : Addr} {q : Str} {dV : Value} {H : Hp}
theorem known_of {F : LF} {fr : List Str} {ws : List V} (hcl : ∀ p ∈ F.cl, ∃ y, F.cl.lookup y = some p.2) (ck : CellsK H F.cl fr ws) : Known (F.cl.map (·.2)) H := fun a ha => by
  obtain ⟨p, hp, rfl⟩ := List.mem_map.mp ha
  obtain ⟨y, hy⟩ := hcl p hp
  obtain ⟨o, v, e, _⟩ := ck.2.2.1 y _ hy
  exact ⟨o, e⟩
theorem bad_of {F : LF} {dd : Option Int} {ps fr N : List Str} {vs ws : List V} {tb : XK → TE} (ao : AskOk P w K mg base (L2.CX P w) 8 f (spAsk F c dV dd f ps fr vs N tb)) (hcl : ∀ p ∈ F.cl, ∃ y, F.cl.lookup y = some p.2) (hl : LamAt H f F c dV) (hd : DfAt H dV dd) (hc : H c = some (CodeO c F.qual)) (ck : CellsK H F.cl fr ws)
    (h : ∀ (Q' : VK) (E' : XK), (∀ d H', Same (remC (F.cl.map (·.2)) H) H' → remC (F.cl.map (·.2)) H d = none → H' d = some (.xd xo) → E' (.ref (OC K)) (some d) H') → tb E' (NdefX.startF N vs (ws.map some)) (remC (F.cl.map (·.2)) H) Q') : AskBad P w K mg base 8 f H (Same H) := by
  have kn := known_of hcl ck
  obtain ⟨doc, pm, ctv, hf⟩ := id hl
  refine ⟨_, ⟨_, _, _, _, hf⟩, ao, fun Q E hE => ⟨ws, hl, hd, hc, ck, h _ _ fun d H' s' hn hx hnone => hE d _ ?_ fun b o e => ?_⟩⟩
  · rw [add_out fun hm => ?_]
    · exact hx
    · rw [hnone d hm] at hx
      cases hx
  · by_cases hb : b ∈ F.cl.map (·.2)
    · rw [add_in hb]
      exact e
    · rw [add_out hb]
      exact s' _ _ ((rem_out hb).trans e)
/-- what the lambdas find -/
structure Lnt (K : PySem.W.Frag) (H : Hp) (cm co o m : Addr) (fs gs : List Nat) (e1 e3 : Int) (ns1 ns3 : List Int) : Prop where
  ck : CellsK H (cl2 cm co) ["_law_one", "_law_more"] [.ref o, .ref m]
  w1 : WAt (WC K) H o fs e1 ns1
  w3 : WAt (WC K) H m gs e3 ns3
  hf : Faces fs
  hg : Faces gs
  ne : fs ≠ gs
  nm : m ≠ o
variable {o m : Addr} {fs gs : List Nat} {e1 e3 : Int} {ns1 ns3 : List Int}
theorem Lnt.same {H' : Hp} (h : Lnt K H cm co o m fs gs e1 e3 ns1 ns3) (s : Same H H') : Lnt K H' cm co o m fs gs e1 e3 ns1 ns3 := ⟨cells_same s h.ck, h.w1.same s, h.w3.same s, h.hf, h.hg, h.ne, h.nm⟩
theorem isI_of {C : Addr} {a : Addr} {fs : List Nat} {e : Int} {ns : List Int} (h : WAt C H a fs e ns) : FwOp.IsI H C (.ref a) := by
  obtain ⟨dx, el, d, h1, _⟩ := h
  exact ⟨a, dx, _, rfl, h1⟩
theorem bad0 (L : LD P w K mg base) (N : Lnt K H cm co o m fs gs e1 e3 ns1 ns3) (hl : LamAt H f (lf 0 q cm co) c dV) (hd : DfAt H dV none) (hc : H c = some (CodeO c q)) : AskBad P w K mg base 8 f H (Same H) := by
  have kn := known_of (F := lf 0 q cm co) (cl2_all cm co) N.ck
  have w1 := wat_rem kn N.w1
  have w3 := wat_rem kn N.w3
  exact bad_of (ask0 L) (cl2_all cm co) hl hd hc N.ck fun Q' E' hE => ⟨_, rfl, _, rfl, isI_of w1, isI_of w3, o, m, fs, gs, e1, e3, ns1, ns3, rfl, N.hf, w1, w3, fun z => absurd z N.ne, fun _ d H' s' hn hx => hE d H' s' hn hx⟩
theorem bad1 (L : LD P w K mg base) (N : Lnt K H cm co o m fs gs e1 e3 ns1 ns3) (hl : LamAt H f (lf 1 q cm co) c dV) (hd : DfAt H dV (some 0)) (hc : H c = some (CodeO c q)) : AskBad P w K mg base 8 f H (Same H) := by
  have kn := known_of (F := lf 1 q cm co) (cl2_all cm co) N.ck
  have w1 := wat_rem kn N.w1
  have w3 := wat_rem kn N.w3
  exact bad_of (ask1 L) (cl2_all cm co) hl hd hc N.ck fun Q' E' hE => ⟨_, rfl, _, rfl, o, m, fs, gs, e1, e3, ns1, ns3, rfl, N.hf, w1, w3, fun z => absurd z N.ne, fun _ d H' s' hn hx => hE d H' s' hn hx⟩
theorem bad2 (L : LD P w K mg base) (N : Lnt K H cm co o m fs gs e1 e3 ns1 ns3) (hl : LamAt H f (lf 2 q cm co) c dV) (hd : DfAt H dV (some 0)) (hc : H c = some (CodeO c q)) : AskBad P w K mg base 8 f H (Same H) := by
  have kn := known_of (F := lf 2 q cm co) (cl2_all cm co) N.ck
  have w1 := wat_rem kn N.w1
  have w3 := wat_rem kn N.w3
  exact bad_of (ask2 L) (cl2_all cm co) hl hd hc N.ck fun Q' E' hE => ⟨_, rfl, _, rfl, o, m, fs, gs, e1, e3, ns1, ns3, rfl, N.nm.symm, N.hf, w1, w3, fun z => absurd z N.ne, fun _ d H' s' hn hx => hE d H' s' hn hx⟩
theorem bad3 (L : LD P w K mg base) (N : Lnt K H cm co o m fs gs e1 e3 ns1 ns3) (hl : LamAt H f (lf 3 q cm co) c dV) (hd : DfAt H dV (some 0)) (hc : H c = some (CodeO c q)) : AskBad P w K mg base 8 f H (Same H) := by
  have kn := known_of (F := lf 3 q cm co) (cl2_all cm co) N.ck
  have w1 := wat_rem kn N.w1
  have w3 := wat_rem kn N.w3
  exact bad_of (ask3 L) (cl2_all cm co) hl hd hc N.ck fun Q' E' hE => ⟨_, rfl, _, rfl, isI_of w3, isI_of w1, m, o, gs, fs, e3, e1, ns3, ns1, rfl, N.hg, w3, w1, fun z => absurd z.symm N.ne, fun _ d H' s' hn hx => hE d H' s' hn hx⟩
end
end FwD
set_option Elab.async false
set_option linter.all false
set_option maxRecDepth 100000
set_option maxHeartbeats 4000000
namespace FwD
open PySem PySem.Spec PyProof.Rows L2 LamX He He5 FwHk FwHd FwZip FwKw FwLam
section
variable {P : Program} {w : World} {K : PySem.W.Frag} {mg : Str → Option Value} {base : Heap} {f cc : Addr} {A : Around} {outer : List Env} {s : Shared} {H : Hp} {E : XK} {Q : VK}
theorem cl2_look {cm co c : Addr} {y : Str} (h : (cl2 cm co).lookup y = some c) : (y = "_law_one" ∧ c = co) ∨ (y = "_law_more" ∧ c = cm) := by
  have hm := PySem.mem_of_lookup h
  simp only [cl2, List.mem_cons, List.not_mem_nil, or_false, Prod.mk.injEq] at hm
  exact hm
theorem lam_ext {H H' : Hp} {f : Addr} {F : LF} {c : Addr} {dV : Value} (e : ExtN H H') (h : LamAt H f F c dV) : LamAt H' f F c dV := by
  obtain ⟨doc, pm, ctv, q⟩ := h
  exact ⟨doc, pm, ctv, e _ _ q fun ps z => by cases z⟩
theorem df_ext {H H' : Hp} {dV : Value} {dd : Option Int} (e : ExtN H H') (h : DfAt H dV dd) : DfAt H' dV dd := by
  cases dd with
  | none => exact h
  | some i =>
    obtain ⟨T, q1, q2⟩ := h
    exact ⟨T, q1, e _ _ q2 fun ps z => by cases z⟩
theorem wat_ext {C : Addr} {H H' : Hp} {a : Addr} {fs : List Nat} {e0 : Int} {ns : List Int} (e : ExtN H H') (h : WAt C H a fs e0 ns) : WAt C H' a fs e0 ns := by
  obtain ⟨dx, el, d, h1, h2, h3, h4⟩ := h
  exact ⟨dx, el, d, e _ _ h1 (fun _ z => by cases z), e _ _ h2 (fun _ z => by cases z), e _ _ h3 (fun _ z => by cases z), h4⟩
theorem lfree0 : ∀ y ∈ (lS (lE 0)).names, y.2 = .free → (defScope sLaw).names.lookup y.1 = some .cell := by decide +kernel
theorem lfree1 : ∀ y ∈ (lS (lE 1)).names, y.2 = .free → (defScope sLaw).names.lookup y.1 = some .cell := by decide +kernel
theorem lfree2 : ∀ y ∈ (lS (lE 2)).names, y.2 = .free → (defScope sLaw).names.lookup y.1 = some .cell := by decide +kernel
theorem lfree3 : ∀ y ∈ (lS (lE 3)).names, y.2 = .free → (defScope sLaw).names.lookup y.1 = some .cell := by decide +kernel
theorem seg16 (L : LD P w K mg base) (TB : TabB base mg cc (cT K ("law", none)).2) (hr : Room 11 (A.deeper (envOfC "law" (defScope sLaw) s.heap.objs.size f (.ref cc)))) (kq : ∀ H', Q (.bl true) H') : From P w K mg base f (.ref cc) A outer s H E Q 16 (P16 K) := by
  obtain ⟨fdS, GS, kS, bS⟩ := L.sm.ex
  obtain ⟨fdN, GN, kN, bN⟩ := L.nu.ex
  obtain ⟨fdT, GT, kT, bT⟩ := L.tr.ex
  have T := L.t
  have hr4 : Room 4 (A.deeper (envOfC "law" (defScope sLaw) s.heap.objs.size f (.ref cc))) := hr.mono (by decide)
  refine ⟨_, pss_cons (ps_set (i := 17) scLaw.nd rfl (Or.inl rfl) (pe_lst
      (pa_cons (pe_lam0 (T := [((cT K ("law", none)).2, (XL P w K mg base f (.ref cc) A outer s H E).env.qual ++ "<lambda>")]) TB rfl (List.mem_singleton.mpr rfl) (fun p hp _ => by rw [List.mem_singleton.mp hp]) (fun y hy e => Or.inl (lfree0 y hy e)) rfl)
      (pa_cons (pe_lam1 (i := 0) (T := [((cT K ("law", none)).2, (XL P w K mg base f (.ref cc) A outer s H E).env.qual ++ "<lambda>")]) TB rfl (List.mem_singleton.mpr rfl) (fun p hp _ => by rw [List.mem_singleton.mp hp]) (fun y hy e => Or.inl (lfree1 y hy e)) rfl)
      (pa_cons (pe_lam1 (i := 0) (T := [((cT K ("law", none)).2, (XL P w K mg base f (.ref cc) A outer s H E).env.qual ++ "<lambda>")]) TB rfl (List.mem_singleton.mpr rfl) (fun p hp _ => by rw [List.mem_singleton.mp hp]) (fun y hy e => Or.inl (lfree2 y hy e)) rfl)
      (pa_cons (pe_lam1 (i := 0) (T := [((cT K ("law", none)).2, (XL P w K mg base f (.ref cc) A outer s H E).env.qual ++ "<lambda>")]) TB rfl (List.mem_singleton.mpr rfl) (fun p hp _ => by rw [List.mem_singleton.mp hp]) (fun y hy e => Or.inl (lfree3 y hy e)) rfl) pa_nil))))))
    (pss_one (ps_ret (pe_and (pe_call GS hr4 rfl (T.g _ (by decide +kernel)) kS bS .nil pass0 (pa_cons
        (pe_lend (ys := ["_law_one", "_law_more"]) GT hr rfl (T.g _ (by decide +kernel)) kT bT (fun _ _ => rfl) (fun y hy => by simp only [List.mem_cons, List.not_mem_nil, or_false] at hy; rcases hy with rfl | rfl <;> rfl) (pa_cons (pv 17) pa_nil))
        (pa_cons (pe_op op_rep (pe_lst (pa_cons (pe_tup (pa_cons pe_str (pa_cons pe_non pa_nil))) pa_nil)) pe_int) pa_nil)))
      (pe_one (pe_call GS hr4 rfl (T.g _ (by decide +kernel)) kS bS .nil pass0 (pa_cons (pe_call GN hr4 rfl (T.g _ (by decide +kernel)) kN bN .nil pass0 (pa_cons (pv 5) (pa_cons (pv 2) pa_nil))) (pa_cons (pv 8) pa_nil))))))), ?_⟩
  rintro σ H1 ⟨v0, v1, v3, v4, v10, v11, v12, v13, v14, v15, v17, v18, v19, v20, o, t, l, r, fs, e1, e2, ns1, ns2, many, m, gs, e3, ns3, rfl, B, W3, hG, hne, hnm⟩
  have sz4 : 4 ≤ sizeLine := by decide +kernel
  have T1 : Tabs [((cT K ("law", none)).2, (XL P w K mg base f (.ref cc) A outer s H E).env.qual ++ "<lambda>")] H1 := fun p hp => by
    rw [List.mem_singleton.mp hp]
    exact ⟨#[], B.tb, True.intro, fun p' cv h => by cases h⟩
  refine ⟨T1, fun f1 c1 dV1 H2 x2 T2 _ la1 da1 co1 => ?_⟩
  refine ⟨T2, fun f2 c2 dV2 H3 x3 T3 _ la2 da2 co2 => ?_⟩
  refine ⟨T3, fun f3 c3 dV3 H4 x4 T4 _ la3 da3 co3 => ?_⟩
  refine ⟨T4, fun f4 c4 dV4 H5 x5 T5 _ la4 da4 co4 => ⟨sz4, fun ls hls => ?_⟩⟩
  have x6 : ExtN H5 (upd H5 ls (.lst [.ref f1, .ref f2, .ref f3, .ref f4])) := ExtN.of (same_upd hls)
  generalize hH6 : upd H5 ls (.lst [.ref f1, .ref f2, .ref f3, .ref f4]) = H6 at x6
  have hl6 : H6 ls = some (.lst [.ref f1, .ref f2, .ref f3, .ref f4]) := by rw [← hH6]; exact upd_same
  clear hH6
  have x46 := x5.trans x6
  have x36 := x4.trans x46
  have x26 := x3.trans x36
  have x16 := x2.trans x26
  -- lent
  refine ⟨_, rfl, fun Hp' cs Ln => ?_⟩
  have kp : Same H6 Hp' := fun b u q => by
    rw [Ln.out b fun hc => by rw [Ln.fr b hc] at q; cases q]
    exact q
  have kx : ExtN H6 Hp' := ExtN.of kp
  have N : Lnt K Hp' (s.heap.objs.size + 1 + 2) (s.heap.objs.size + 1 + 3) o m fs gs e1 e3 ns1 ns3 := by
    refine ⟨⟨rfl, fun x y c h1 h2 => ?_, fun y c h => ?_, fun i y hy => ?_⟩, wat_ext (x16.trans kx) B.o1, wat_ext (x16.trans kx) W3, B.hf, hG, hne, hnm⟩
    · rcases cl2_look h1 with ⟨rfl, rfl⟩ | ⟨rfl, rfl⟩ <;> rcases cl2_look h2 with ⟨rfl, q⟩ | ⟨rfl, q⟩
      · rfl
      · exact absurd (Nat.add_left_cancel q) (by decide)
      · exact absurd (Nat.add_left_cancel q) (by decide)
      · rfl
    · rcases cl2_look h with ⟨rfl, rfl⟩ | ⟨rfl, rfl⟩
      · exact (Ln.kn "_law_one" _ (by simp) rfl).2
      · exact (Ln.kn "_law_more" _ (by simp) rfl).2
    · rcases i with _ | _ | i
      · cases hy
        obtain ⟨c, e, z⟩ := Ln.val "_law_one" 5 (.ref o) (by simp) rfl rfl
        refine ⟨_, rfl, fun v hv => ?_⟩
        cases hv
        have ec : c = s.heap.objs.size + 1 + 3 := Option.some.inj (e.symm.trans rfl)
        rw [← ec]
        exact z
      · cases hy
        obtain ⟨c, e, z⟩ := Ln.val "_law_more" 16 (.ref m) (by simp) rfl rfl
        refine ⟨_, rfl, fun v hv => ?_⟩
        cases hv
        have ec : c = s.heap.objs.size + 1 + 2 := Option.some.inj (e.symm.trans rfl)
        rw [← ec]
        exact z
      · cases hy
  refine ⟨ls, [f1, f2, f3, f4], rfl, SqL.of (kp _ _ hl6), (by show 4 < 1000; decide), fun f0 hf0 H' s' => ?_, fun D ts H7 s7 hD hDl htl hts kn => ?_⟩
  · have sx : ExtN Hp' H' := ExtN.of s'
    have y6 := kx.trans sx
    simp only [List.mem_cons, List.not_mem_nil, or_false] at hf0
    rcases hf0 with rfl | rfl | rfl | rfl
    · exact bad0 (c := c1) (dV := dV1) L (N.same s') (lam_ext (x26.trans y6) la1) (df_ext (x26.trans y6) da1) ((x26.trans y6) _ _ co1 codeO_ne)
    · exact bad1 (c := c2) (dV := dV2) L (N.same s') (lam_ext (x36.trans y6) la2) (df_ext (x36.trans y6) da2) ((x36.trans y6) _ _ co2 codeO_ne)
    · exact bad2 (c := c3) (dV := dV3) L (N.same s') (lam_ext (x46.trans y6) la3) (df_ext (x46.trans y6) da3) ((x46.trans y6) _ _ co3 codeO_ne)
    · exact bad3 (c := c4) (dV := dV4) L (N.same s') (lam_ext (x6.trans y6) la4) (df_ext (x6.trans y6) da4) ((x6.trans y6) _ _ co4 codeO_ne)
  have nin : ∀ c ∈ cs, Hp' c ≠ none := fun c hc z => by
    obtain ⟨u, q⟩ := Ln.known c hc
    rw [z] at q
    cases q
  have hD8 : remC cs H7 D = some (.lst (ts.map V.ref)) := (rem_out fun hc => nin D hc hD).trans hDl
  have ht8 : ∀ t0 ∈ ts, remC cs H7 t0 = some (.tup [.str "OtherFaces", .non]) := fun t0 h0 => rem_keep kn (hts t0 h0) fun _ z => by cases z
  have s68 : Same H6 (remC cs H7) := fun b u q => by
    rw [rem_out fun hc => by rw [Ln.fr b hc] at q; cases q]
    exact s7 _ _ (kp _ _ q)
  generalize remC cs H7 = H8 at hD8 ht8 s68
  have htl : ts.length = 4 := htl
  -- [('OtherFaces', None)] * 4
  refine ⟨(by show 2 ≤ sizeLine; decide +kernel), fun tp htp => ⟨(by show 1 ≤ sizeLine; decide +kernel), fun q1 hq1 => ?_⟩⟩
  have s9 : Same H8 (upd H8 tp (.tup [.str "OtherFaces", .non])) := same_upd htp
  have s10 : Same (upd H8 tp (.tup [.str "OtherFaces", .non])) (upd (upd H8 tp (.tup [.str "OtherFaces", .non])) q1 (.lst [.ref tp])) := same_upd hq1
  refine ⟨q1, 4, [.ref tp], rfl, rfl, upd_same, by decide, by decide, (by show 1 * 4 ≤ sizeLine; decide +kernel), fun q2 hq2 => ?_⟩
  have s11 : Same (upd (upd H8 tp (.tup [.str "OtherFaces", .non])) q1 (.lst [.ref tp])) (upd (upd (upd H8 tp (.tup [.str "OtherFaces", .non])) q1 (.lst [.ref tp])) q2 (.lst [.ref tp, .ref tp, .ref tp, .ref tp])) := same_upd hq2
  have s811 := (s9.trans s10).trans s11
  refine ⟨.ref D, .ref q2, rfl, ?_, fun H12 s12 => ⟨true, rfl, iteT ?_⟩⟩
  · refine eqd_lists (ts := ts) (us := [tp, tp, tp, tp]) (s811 _ _ hD8) upd_same htl (by omega) fun i t0 u ht hu => ?_
    have eu : u = tp := by
      rcases i with _ | _ | _ | _ | i <;> cases hu <;> rfl
    rw [eu]
    refine .inr ⟨t0, tp, [.str "OtherFaces", .non], [.str "OtherFaces", .non], rfl, rfl, .inr ⟨s811 _ _ (ht8 t0 (List.mem_of_getElem? ht)), s11 _ _ (s10 _ _ upd_same)⟩, rfl, (by show 2 < 1000; decide), fun j u v hu hv => ?_⟩
    have e : u = v := Option.some.inj (hu.symm.trans hv)
    subst e
    rcases j with _ | _ | j
    · cases hu
      exact ⟨rfl, .inr (.inr ⟨_, rfl⟩)⟩
    · cases hu
      exact ⟨rfl, .inl rfl⟩
    · cases hu
  have s612 : ExtN H6 H12 := ExtN.of ((s68.trans s811).trans s12)
  have x112 := x16.trans s612
  have o12 := wat_ext x112 B.o1
  have l12 := x112 _ _ B.l1 (fun _ z => by cases z)
  have f4 := B.f4
  have n1 : ns1.length = fs.length := by
    obtain ⟨_, _, _, _, _, _, q⟩ := B.o1
    exact q
  refine ⟨_, rfl, _, rfl, o, fs, e1, ns1, rfl, B.hf, o12, fun t9 H13 s13 _ q9 => ⟨_, rfl, .ref t9, .ref l, rfl, ?_, fun H14 _ => kq H14⟩⟩
  exact eqd_ints q9 (s13 _ _ l12) (by rw [List.length_cons]; omega)
end
end FwD
set_option Elab.async false
set_option linter.all false
set_option maxRecDepth 100000
set_option maxHeartbeats 4000000
namespace FwD
open PySem PySem.Spec PyProof.Rows L2 LamX He He5 FwHk FwHd FwZip FwKw FwLam
section
variable {P : Program} {w : World} {K : PySem.W.Frag} {mg : Str → Option Value} {base : Heap} {f : Addr}
theorem df_of {CX : CXT} {k : Nat} {x q : Str} {st : Stmt} {ps : List Str} {sp : Sp} (D : ∃ fd, FunD K x q (defArgs st) (defBody st) (defScope st) [] [] f fd) (ok : ∀ fd, Fun K x q st f fd → FnOk P w K mg base CX k f fd ps sp)
    (bd : ∀ (kV doc pm : Value) (an : Option Addr) (cdv ct : Value) (us : List Value), us.length = ps.length → bindArgs (PySem.W.fnOf x q (defArgs st) (defBody st) (defScope st) .none kV doc pm an cdv ct) ⟨us, []⟩ = pure (ps.zip us)) : Df P w K mg base CX k f ps sp := by
  obtain ⟨fd, F⟩ := D
  have F := He5.fun_of F
  exact ⟨fd, ok fd F, F.kp, F.binds bd⟩
theorem ld_of {h : Heap} (T : Tx K mg) (c : SaysW fa fn [("law", none)] sf sv ex h K) : LD prog w K mg base := by
  have dRising : Df prog w K mg base CX0 1 (ga K "is_rising") ["value", "letters", "most"] spRising := df_of (c.a.def_ 0 (d := dG "is_rising" sRising) rfl) (fun fd F => ok_rising F T) fun _ _ _ _ _ _ us hl => match us, hl with | [_, _, _], _ => rfl
  have dFaces : Df prog w K mg base CX0 2 (ga K "is_faces") ["value"] spFaces := df_of (c.a.def_ 1 (d := dG "is_faces" sFaces) rfl) (fun fd F => ok_faces F T dRising) fun _ _ _ _ _ _ us hl => match us, hl with | [_], _ => rfl
  have dOne : Df prog w K mg base CX0 1 (ga K "is_one") ["value", "letters"] spOne := df_of (c.a.def_ 2 (d := dG "is_one" sOne) rfl) (fun fd F => ok_one F T) fun _ _ _ _ _ _ us hl => match us, hl with | [_, _], _ => rfl
  have dWhole : Df prog w K mg base CX0 1 (ga K "is_whole") ["value"] spWhole := df_of (c.a.def_ 3 (d := dG "is_whole" sWhole) rfl) (fun fd F => ok_whole F T) fun _ _ _ _ _ _ us hl => match us, hl with | [_], _ => rfl
  have I : InitR prog w K mg base CX0 3 (ma K (WC K) "__init__") (spI (WC K)) := by
    obtain ⟨fd, F⟩ := c.a.def_ 19 (d := dInit) rfl
    exact ok_init F T dFaces dWhole dOne
  have dFrom : Df prog w K mg base CX0 5 (ga K "weights_from") ["faces", "each", "numbers"] (spFrom K) := df_of (c.a.def_ 4 (d := dG "weights_from" sFrom) rfl) (fun fd F => ok_from F T I) fun _ _ _ _ _ _ us hl => match us, hl with | [_, _, _], _ => rfl
  have dOpen : Df prog w K mg base CX0 1 (ga K "_law_open") ["_law_script"] (spOpen K) := df_of (c.a.def_ 5 (d := dG "_law_open" sOpen) rfl) (fun fd F => ok_open F T) fun _ _ _ _ _ _ us hl => match us, hl with | [_], _ => rfl
  have dDraw : Df prog w K mg base CX0 1 (ga K "_law_draw") ["_law_bag", "_law_many"] spDraw := df_of (c.a.def_ 6 (d := dG "_law_draw" sDraw) rfl) (fun fd F => ok_draw F T) fun _ _ _ _ _ _ us hl => match us, hl with | [_, _], _ => rfl
  have dS0 : Df prog w K mg base CX0 1 (ga K "_law_same") ["_law_found", "_law_due"] spNo := df_of (c.a.def_ 7 (d := dG "_law_same" sSame) rfl) (fun fd F => ok_same0 F) fun _ _ _ _ _ _ us hl => match us, hl with | [_, _], _ => rfl
  have dS1 : Df prog w K mg base CX0 2 (ga K "_law_same") ["_law_found", "_law_due"] (spSame K 0) := df_of (c.a.def_ 7 (d := dG "_law_same" sSame) rfl) (fun fd F => ok_same1 F T spNo dS0 fun m x y H Q E e _ _ => absurd e (by omega)) fun _ _ _ _ _ _ us hl => match us, hl with | [_, _], _ => rfl
  have dS2 : Df prog w K mg base CX0 3 (ga K "_law_same") ["_law_found", "_law_due"] (spSame K 1) := df_of (c.a.def_ 7 (d := dG "_law_same" sSame) rfl) (fun fd F => ok_same1 F T (spSame K 0) dS1 fun m x y H Q E e he k => ⟨x, y, rfl, (by cases e; exact he), k⟩) fun _ _ _ _ _ _ us hl => match us, hl with | [_, _], _ => rfl
  have dS3 : Df prog w K mg base CX0 4 (ga K "_law_same") ["_law_found", "_law_due"] (spSame K 2) := df_of (c.a.def_ 7 (d := dG "_law_same" sSame) rfl) (fun fd F => ok_same1 F T (spSame K 1) dS2 fun m x y H Q E e he k => ⟨x, y, rfl, (by cases e; exact he), k⟩) fun _ _ _ _ _ _ us hl => match us, hl with | [_, _], _ => rfl
  have dTry : Df prog w K mg base CX0 10 (ga K "_law_try") ["_law_ask"] (spTry prog w K mg base 8) := df_of (c.a.def_ 9 (d := dG "_law_try" sTry) rfl) (fun fd F => (by obtain ⟨fdF, FF⟩ := c.a.def_ 8 (d := dG "_law_field" sField) rfl; exact ok_try F T (He5.fun_of FF))) fun _ _ _ _ _ _ us hl => match us, hl with | [_], _ => rfl
  have dTries : Df prog w K mg base CX0 11 (ga K "_law_tries") ["_law_asks"] (spTries prog w K mg base 8) := df_of (c.a.def_ 10 (d := dG "_law_tries" sTries) rfl) (fun fd F => ok_tries F T dTry) fun _ _ _ _ _ _ us hl => match us, hl with | [_], _ => rfl
  have dLetters : Df prog w K mg base CX0 2 (ga K "_law_letters") ["_law_bag", "_law_letters_here", "_law_many"] spLetters := df_of (c.a.def_ 11 (d := dG "_law_letters" sLetters) rfl) (fun fd F => ok_letters F T dDraw) fun _ _ _ _ _ _ us hl => match us, hl with | [_, _, _], _ => rfl
  have dSomeF : Df prog w K mg base CX0 3 (ga K "_law_some_faces") ["_law_bag", "_law_most"] spSomeF := df_of (c.a.def_ 12 (d := dG "_law_some_faces" sSomeF) rfl) (fun fd F => ok_someF F T dDraw dLetters) fun _ _ _ _ _ _ us hl => match us, hl with | [_, _], _ => rfl
  have dEach : Df prog w K mg base CX0 1 (propG K (WC K) "each") ["self"] (spEach K) := df_of (c.a.def_ 20 (d := dEach) rfl) (fun fd F => ok_each F T) fun _ _ _ _ _ _ us hl => match us, hl with | [_], _ => rfl
  have dGet : Df prog w K mg base CX0 2 (ma K (WC K) "__getitem__") ["self", "face"] (spGet K) := df_of (c.a.def_ 21 (d := dM "__getitem__" "Weights.__getitem__" sGet) rfl) (fun fd F => ok_get F T dOne) fun _ _ _ _ _ _ us hl => match us, hl with | [_, _], _ => rfl
  have dPut : Df prog w K mg base CX0 2 (ma K (WC K) "put") ["self", "face", "number"] (spPut K) := df_of (c.a.def_ 23 (d := dM "put" "Weights.put" sPut) rfl) (fun fd F => ok_put F T dOne dWhole) fun _ _ _ _ _ _ us hl => match us, hl with | [_, _, _], _ => rfl
  have dSet : Df prog w K mg base CX0 3 (ma K (WC K) "__setitem__") ["self", "face", "number"] (spPut K) := df_of (c.a.def_ 22 (d := dM "__setitem__" "Weights.__setitem__" sSet) rfl) (fun fd F => ok_set F T dPut) fun _ _ _ _ _ _ us hl => match us, hl with | [_, _, _], _ => rfl
  have dCopy : Df prog w K mg base CX0 6 (ma K (WC K) "copy") ["self"] (spCopy K) := df_of (c.a.def_ 24 (d := dM "copy" "Weights.copy" sCopy) rfl) (fun fd F => ok_copy F T dFrom) fun _ _ _ _ _ _ us hl => match us, hl with | [_], _ => rfl
  have dOth := ok_oth (w := w) (base := base) (ox_of T) T c.sup
  have dAdd : Df prog w K mg base (L2.CX prog w) 6 (ma K (WC K) "__add__") ["self", "other"] (spBin K fun i j => i + j) := df_of (c.a.def_ 25 (d := dM "__add__" "Weights.__add__" sAdd) rfl) (fun fd F => ok_add F T dFrom dGet dEach dOth) fun _ _ _ _ _ _ us hl => match us, hl with | [_, _], _ => rfl
  have dSub : Df prog w K mg base (L2.CX prog w) 6 (ma K (WC K) "__sub__") ["self", "other"] (spBin K fun i j => i - j) := df_of (c.a.def_ 26 (d := dM "__sub__" "Weights.__sub__" sSub) rfl) (fun fd F => ok_sub F T dFrom dGet dEach dOth) fun _ _ _ _ _ _ us hl => match us, hl with | [_, _], _ => rfl
  have dIadd : Df prog w K mg base (L2.CX prog w) 4 (ma K (WC K) "__iadd__") ["self", "other"] (spIadd K) := df_of (c.a.def_ 27 (d := dM "__iadd__" "Weights.__iadd__" sIadd) rfl) (fun fd F => ok_iadd F T dGet dEach dOth) fun _ _ _ _ _ _ us hl => match us, hl with | [_, _], _ => rfl
  have dNeg : Df prog w K mg base CX0 6 (ma K (WC K) "__neg__") ["self"] (spNeg K) := df_of (c.a.def_ 28 (d := dM "__neg__" "Weights.__neg__" sNeg) rfl) (fun fd F => ok_neg F T dFrom) fun _ _ _ _ _ _ us hl => match us, hl with | [_], _ => rfl
  have dMul : Df prog w K mg base CX0 6 (ma K (WC K) "__mul__") ["self", "number"] (spMul K) := df_of (c.a.def_ 29 (d := dM "__mul__" "Weights.__mul__" sMul) rfl) (fun fd F => ok_mul F T dFrom) fun _ _ _ _ _ _ us hl => match us, hl with | [_, _], _ => rfl
  have dRmul : Df prog w K mg base CX0 6 (ma K (WC K) "__rmul__") ["self", "number"] (spMul K) := df_of (c.a.def_ 30 (d := dM "__rmul__" "Weights.__rmul__" sRmul) rfl) (fun fd F => ok_rmul F T dFrom) fun _ _ _ _ _ _ us hl => match us, hl with | [_, _], _ => rfl
  have dSomeW : Df prog w K mg base CX0 5 (ga K "_law_some_weights") ["_law_bag", "_law_faces", "_law_most"] (spSomeW K) := df_of (c.a.def_ 13 (d := dG "_law_some_weights" sSomeW) rfl) (fun fd F => ok_someW F T dDraw I dPut) fun _ _ _ _ _ _ us hl => match us, hl with | [_, _, _], _ => rfl
  have dPutAt : Df prog w K mg base CX0 4 (ga K "_law_put_at") ["_law_weights", "_law_face", "_law_number"] (spPutAt K) := df_of (c.a.def_ 14 (d := dG "_law_put_at" sPutAt) rfl) (fun fd F => ok_putAt F T dGet dSet) fun _ _ _ _ _ _ us hl => match us, hl with | [_, _, _], _ => rfl
  have dNumbers : Df prog w K mg base CX0 4 (ga K "_law_numbers") ["_law_weights", "_law_faces"] (spNumbers K) := df_of (c.a.def_ 15 (d := dG "_law_numbers" sNumbers) rfl) (fun fd F => ok_numbers F T dGet dEach) fun _ _ _ _ _ _ us hl => match us, hl with | [_, _], _ => rfl
  have dAdded : Df prog w K mg base (L2.CX prog w) 5 (ga K "_law_added") ["_law_one", "_law_other"] (spAdded K) := df_of (c.a.def_ 16 (d := dG "_law_added" sAdded) rfl) (fun fd F => ok_added F T dIadd) fun _ _ _ _ _ _ us hl => match us, hl with | [_, _], _ => rfl
  have dTaken : Df prog w K mg base (L2.CX prog w) 7 (ga K "_law_taken") ["_law_one", "_law_other"] (spBin K fun i j => i - j) := df_of (c.a.def_ 17 (d := dG "_law_taken" sTaken) rfl) (fun fd F => ok_taken F T dSub) fun _ _ _ _ _ _ us hl => match us, hl with | [_, _], _ => rfl
  exact ⟨T, dOpen, dSomeF, dSomeW, dDraw, dS3, dNumbers, dPutAt, dAdded, dTaken, dTries, I, dAdd, dSub, dMul, dRmul, dNeg, dCopy, dPut, dGet⟩
end
end FwD
set_option Elab.async false
set_option linter.all false
set_option maxRecDepth 100000
set_option maxHeartbeats 0
namespace FwHd
open PySem PySem.Spec PyProof.Rows L2 LamX He He5 FwHk
def spLaw (K : PySem.W.Frag) (cs : List (Addr × Addr)) : Sp := fun vs H Q _ => ∃ (a : Addr) (ns : List Int), vs = [.ref a] ∧ SqL K H a (ns.map V.int) ∧ ns.length ≤ 63 ∧ (∀ p ∈ cs, H p.2 = some (.tbl #[])) ∧ ∀ H', Q (.bl true) H'
theorem law_ok {w : World} {K : PySem.W.Frag} {mg : Str → Option Value} {base h : Heap} {fd : FuncData} (X : K.In h) (G : h.Ns mainGlobals mg) (c : SaysW fa fn [("law", none)] sf sv ex h K) (F : FunD K "law" "law" (defArgs sLaw) (defBody sLaw) (defScope sLaw) [] [] (ga K "law") fd) (hb : K.In base) (hg : base.Ns mainGlobals mg)
    (TB : TabB base mg (cT K ("law", none)).1 (cT K ("law", none)).2) : FnOk lawRow.prog w K mg base (L2.CX lawRow.prog w) 12 (ga K "law") fd ["_law_script"] (spLaw K [cT K ("law", none)]) := by
  have T := FwD.tx_of X G c
  have L : FwD.LD prog w K mg base := FwD.ld_of T c
  obtain ⟨oc, od, dV, kV, doc, pm, an, cdv, ct, osl, rfl, lk, hcd, _, _⟩ := F.ex
  obtain ⟨cc, rfl⟩ := codeIn_ref hcd
  have ecc : (cT K ("law", none)).1 = cc := codeOf_eq lk rfl
  rw [ecc] at TB
  refine fn_of lk hcd FwD.scLaw (fun vs H Q E ⟨a, ns, q, _⟩ => by rw [q]; rfl) fun A outer s H vs Q E hr ⟨a, ns, q, hs, hn, htb, kq⟩ => ?_
  subst q
  obtain ⟨tT, hT, tl⟩ := FwD.seg0 L hr (FwD.seg5 L hr (FwD.seg7 L hr (FwD.seg9 L hr (FwD.seg14 L hr (FwD.seg16 L TB hr kq)))))
  exact ⟨tT, PSs.nox hT, tl _ _ ⟨a, ns, rfl, hs, hn, htb _ (List.mem_singleton.mpr rfl)⟩⟩
theorem law_at {w : World} {mg : Str → Option Value} {f : Addr} {h : Heap} (Y : hk.says w h) (G : h.Ns mainGlobals mg) (hmg : mg ("law" : Str) = some (.ref f)) : ∃ K : PySem.W.Frag, K.In h ∧ LawAtS lawRow w K (L2.CX lawRow.prog w) 12 63 "_law_script" mg f h := by
  obtain ⟨K, KX, c⟩ := Y
  obtain ⟨fd, F⟩ := c.a.def_ 18 (d := dG "law" sLaw) rfl
  have e := hmg.symm.trans (He.glo_ok KX G (c.a.fact 26 (f := .glo "law") rfl))
  cases e
  have b := FunD.bindsA (ps := ["_law_script"]) F fun _ _ _ _ _ _ us hl => match us, hl with | [_], _ => rfl
  refine ⟨K, KX, fd, [cT K ("law", none)], spLaw K [cT K ("law", none)], ?_, ?_, ?_, fun s v => b s [v] rfl, fun H a ns hl _ hT hS => ⟨a, ns, rfl, hS, hl, hT, fun _ => rfl⟩, fun base hb hg TB => law_ok KX G c F hb hg (TB _ (List.mem_singleton.mpr rfl))⟩
  · intro p hp
    rw [List.mem_singleton.mp hp]
    exact c.empty _ (List.mem_singleton.mpr rfl)
  · intro p hp
    rw [List.mem_singleton.mp hp]
    exact c.out _ (List.mem_singleton.mpr rfl)
  · intro p hp
    rw [List.mem_singleton.mp hp]
    exact PySem.W.codeHd_of_K KX (c.hd _ (List.mem_singleton.mpr rfl))
end FwHd
open PySem PySem.W PySem.Calls PyProof.Rows
set_option maxRecDepth 100000 in
set_option maxHeartbeats 0 in
theorem PySem.Challenge.cw_fourwalls_k41_whole_weights_reckoned_holds : PySem.Challenge.rw_fourwalls_k41_whole_weights_reckoned.Holds := by
  w_on; o_law
  refine HandSHeadRun.head_any (r := FwHd.R) (q := FwHd.qv) (H := FwHd.hk) (ob := FwHd.ob) (M := 20000) (loose := FwHd.loose) (d := HandSHeadRun.topDef FwHd.R.prog 34) (kwd := []) FwHd.ob_eq
    (by kernel_rfl) (fun s => by kernel_rfl) FwHd.run (by kernel_rfl) (by kernel_rfl) (by kernel_rfl) (by rfl) (by first | assumption | decide +kernel) (by decide +kernel) ⟨rfl, rfl, rfl, rfl, rfl, by decide +kernel⟩ ?hw ?hc
  case hw => w_witness2
  case hc =>
    refine LamX.walk_ofTsE (l := FwHd.lawRow) (n := 63) (k := 12) (x := "_law_script") (CX := fun w => L2.CX FwHd.lawRow.prog w) rfl (by decide) (by kernel_rfl) ⟨rfl, by decide, by decide⟩ ?F (fun w H s e s' z => ?_)
    case F =>
      intro w mg fa h Y G hmg0
      have hmg : mg ("law" : PySem.Str) = some (.ref fa) := by
        have e : (HandSHeadRun.topDef FwHd.R.prog 34).name = ("law" : PySem.Str) := by kernel_rfl
        rw [← e]
        exact hmg0
      exact FwHd.law_at Y G hmg
    obtain ⟨_, _, _, _, _, _, _, _, _, _, _, _, z⟩ := z
    exact z
