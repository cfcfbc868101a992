import PyProof.Rows.All
import Wide.All
import OpenK.AllK
import Wide.FinOn
import PyProof.Rows.StrIntSpec
import PyProof.StrBlock2
import HandS.ForMost
import HandS.Exc
import HandS.TryOnly
import HandS.ExcOwn
import HandS.WordsExc
import HandS.More
import HandS.Property
import HandS.ClsMeth
import HandS.IsInst
import HandS.FStr
import HandS.SortInts
import HandS.Wide
import HandS.Flow
import HandS.SlotsOwn
import HandS.Conv
import KE.Datum
import KE.DatumMore
import PySem.Challenge.RW_turnedcards_k53_grids_and_steps
set_option Elab.async false
set_option linter.all false
set_option maxRecDepth 100000
set_option maxHeartbeats 4000000
/-! Rules of our own over the hand layer. -/
namespace TC
open PySem PySem.Spec PyProof.Rows L2

/-! ### a static method, called through its class -/
structure SMet (K : PySem.W.Frag) (C : Addr) (mc : Value) (m : Str) (p g : Addr) : Prop where
  at_ : PySem.W.findCls K (.ref C) mc m = some (.get (.builtin "staticmethod.__get__") (.ref p) .none (.ref C))
  rc : ∃ rest, PySem.W.recIn K p "staticmethod" = some (.ref g :: rest)
  kp : PySem.W.keepIn K (.ref g) = true
section
variable {X : Cx} {CX : CXT} {k : Nat} {C p g : Addr} {mc : Value} {sp : Sp} {E : XK} {o e : Expr} {es : List Expr} {f m : Str} {pos apos : Pos} {ta : TE} {t : TA} {pl : Sem Bool}
theorem getsmet_ok {pins : List (Addr × Obj)} {σ : L2.St} {H : Hp} {s : Shared} {b : Bool} {Q : Value → Shared → Prop} {A : Around} {E : Value → Shared → Prop} (I : Inv X pins σ H s) (r : ClX.CRead X.K C mc) (k : SMet X.K C mc m p g)
    (h : ∀ s', Inv X pins σ H s' → Q (.ref g) s') : wpAny (model X.prog X.w) A (getAttr (.ref C) m b) Q E s := by
  obtain ⟨rest, hp⟩ := k.rc
  refine PySem.W.cls_bind I.kIn r.rd k.at_ ?_
  exact wpAny_call (PySem.W.sm_get (s := { s with toks := s.toks + 1 }) I.kIn hp (PySem.W.handed_on rfl (h _ (I.tok _))))
def tSMeth (C : Addr) (sp : Sp) (E : XK) (ta : TE) (t : TA) : TE := fun σ H Q => ta σ H fun x H1 => x = .ref C ∧ t σ H1 fun vs H2 => sp vs H2 Q E
theorem pe_smeth (he : PE X o ta) (r : ClX.CRead X.K C mc) (c : SMet X.K C mc m p g) (F : FnR X.prog X.w X.K X.mg X.base CX k g sp) (hr : Room k X.A) (hx : Passes CX X E) (ha : PA X (e :: es) t)
    (hst : starEach (e :: es) X.env = (false, eval e X.env) :: starEach es X.env := by rfl) (hpl : (backTo pos (starEach es X.env)).any (·.1) = false := by rfl)
    (ht : eval (.Call (.Attribute o m apos) (e :: es) [] pos) X.env = (do
      let ov ← eval o X.env
      standAt apos.atName
      let (f, first) ← holding [ov] (getMethod ov m pl)
      callWith pos f first (backTo pos (starEach (e :: es) X.env)) (backToKw pos (keywordEach [] X.env))) := by rfl) :
    PE X (.Call (.Attribute o m apos) (e :: es) [] pos) (tSMeth C sp E ta t) := by
  refine ⟨fun pins s σ H Q I h => ?_⟩
  refine PySem.W.methodCall_KW (pl := pl) (thn (he.run pins s σ H _ I h) fun u s1 ⟨x, H1, I1, rx, ex, q⟩ => ?_) ht
  subst ex
  obtain rfl : u = Value.ref C := rx
  refine PySem.W.method_cls I1.kIn r.ga (getsmet_ok I1 r c fun s2 I2 => ?_)
  refine PySem.W.callWith_K (h₀ := X.base) (first := []) I2.ok.mod.kin c.kp (thn (ha.run pos pins s2 σ H1 _ I2 q) fun us s3 ⟨vs, H2, I3, rv, q2⟩ => ⟨I3.kIn, ?_⟩) hst hpl
  exact wpAny_call (run_fnR F hr hx I3 rv q2)
end

/-! ### str * int -/
def rMulS : R2 := fun x y H Q => ∃ (z : Str) (n : Int), x = .str z ∧ y = .int n ∧ -(2 ^ 62) < n ∧ z.length ≤ 1 ∧ n ≤ 1000000 ∧ Q (.str (PySem.Txt.mul z n)) H
theorem op_mulS {X : Cx} : OpR X (binaryOp .Mult) rMulS := by
  intro pins s σ H x y v u Q I rx ry h
  obtain ⟨z, n, rfl, rfl, h0, h1, h2, q⟩ := h
  obtain ⟨t, rfl⟩ := rx
  obtain ⟨t', rfl⟩ := ry
  refine PySem.SB.mul ⟨?_, fun a b => ?_, fun a b => ?_⟩ fun t' k => ⟨.str (PySem.Txt.mul z n), H, I.tok _, ⟨_, rfl⟩, q⟩
  · have a1 : decide (n < -(2 ^ 63 : Int)) = false := decide_eq_false (by omega)
    have a2 : decide (n ≥ 2 ^ 63) = false := decide_eq_false (by omega)
    rw [a1, a2] <;> rfl
  · have : (2 ^ 63 - 1 : Int) / n ≥ 1 := by
      apply Int.le_ediv_of_mul_le <;> omega
    omega
  · have e : z.length = 1 := by
      have hz : z.length ≠ 0 := fun e => by rw [e] at b; simp at b
      omega
    rw [e]
    have : n.toNat ≤ 1000000 := by omega
    rw [Nat.one_mul]
    refine (decide_eq_false_iff_not).mpr ?_
    rw [Nat.not_lt]
    first | omega | (rw [sizeLine_eq]; omega)

/-! ### f'{x:>6}' -/
def spec6 : Str := ">6"
section
variable {prog : Program} {w : World} {A : Around} {E : Value → Shared → Prop} {s : Shared}
open Builtin Float in
theorem field6 {i : Int} {t : Tok} {Q : Value → Shared → Prop} (hi : i.natAbs.log2 < 1920) (hz : (intSpecTextOf spec6 i).length ≤ sizeLine) (h : Q (.str (intSpecTextOf spec6 i) (s.toks + 1)) { s with toks := s.toks + 1 + 1 }) :
    wpAny (model prog w) A (formatField (.int i t) spec6) Q E s := by
  refine wpAny_formatField_spec (T := "int") (idf := "int.__format__") (x := intSpecTextOf spec6 i) (by decide +kernel) (fun s' => typeIs_int s' i t) slot_int_format entry_int_format args_int_format (fun u => ?_) h (by decide) hz
  intro prog' w' A' R' s' hq
  obtain ⟨hq1, hq2⟩ := hq
  have hf : parseFormatSpec spec6.cps.toList "int" 62 = .ok ({ align := 62, width := some 6 } : FormatSpec) := by kernel_rfl
  have htx : intSpecTextOf spec6 i = intSpecText ({ align := 62, width := some 6 } : FormatSpec) i := by
    unfold intSpecTextOf
    rw [hf]
  rw [htx] at hq1 hq2
  unfold Builtin.«int.__format__»
  simp only [selfAndOne, noKeywords, Int.intOfSelf, asInt?, asStr?, List.isEmpty_nil, if_true, pure_bind, bind_pure, bind_assoc, Bool.false_eq_true, if_false, show (Value.str spec6 u == Value.none) = false from rfl]
  refine wpAny_bind (wpAny_typeNameOf (T := "str") (typeIs_str _ _ _) (by decide) fun _ => ?_)
  rw [if_neg (by decide), if_neg (by decide +kernel)]
  refine wpAny_bind (wpAny_typeNameOfCut_int ?_)
  simp only [hf]
  rw [if_pos (by decide +kernel)]
  refine wpAny_bind (m := Builtin.overDigitLimit? i) ?_
  rw [PySem.overDigitLimit_small hi]
  refine wpAny_pure ?_
  show wpAny _ _ (if (some 6 : Option Nat).getD 0 > 100000 then _ else _) _ _ _
  rw [if_neg (by decide)]
  show wpAny _ _ (retStr _) _ _ _
  unfold retStr
  rw [if_neg (by decide : ¬ (spec6.cps.back? == some 0) = true)]
  refine wpAny_bind (wpAny_mkStr (wpAny_pure ?_) ?_)
  · show R' _ _
    conv => arg 1; arg 1; arg 1; arg 1; whnf
    simp [intSpecText, intField'] at hq2 ⊢
    exact hq2
  · conv => lhs; arg 1; whnf
    simp [intSpecText, intField'] at hq1 ⊢
    exact hq1
end
def tFmt6 (te : TE) : TE := fun σ H Q => te σ H fun x H1 => ∃ i : Int, x = .int i ∧ i.natAbs.log2 < 1920 ∧ (intSpecTextOf spec6 i).length ≤ sizeLine ∧ Q (.str (intSpecTextOf spec6 i)) H1
theorem pe_fmt6 {X : Cx} {e : Expr} {te : TE} {pos p1 p2 : Pos} {k : Nat} (he : PE X e te) : PE X (.FormattedValue e (-1) (some (.JoinedStr [.Constant (.str ">6") k p1] p2)) pos) (tFmt6 te) := by
  refine ⟨fun pins s σ H Q I h => ?_⟩
  refine wpAny_FormattedValue_spec (thn (he.run pins s σ H _ I h) fun v s1 hv => ?_)
  obtain ⟨x, H1, I1, r1, i, rfl, hz, hz2, q⟩ := hv
  obtain ⟨t, rfl⟩ := r1
  refine wpAny_JoinedStr_one (Calls.Constant_str ?_)
  refine ⟨_, _, rfl, ?_⟩
  exact field6 hz hz2 ⟨.str _, H1, (I1.tok _).tok _, ⟨_, rfl⟩, q⟩

/-! ### what an own class says to operators and built-ins: its methods are called -/
section
variable {X : Cx} {CX : CXT} {n : Nat} {C g : Addr} {sp : Sp} {E : XK}
/-- the instance, as the library's rules take it -/
theorem inst_of {pins : List (Addr × Obj)} {σ : L2.St} {H : Hp} {s : Shared} {a C dx : Addr} {fs : List (Str × V)} (I : Inv X pins σ H s) (ea : H a = some (.ins C dx fs)) :
    ∃ od, PySem.W.InstAt s.heap a (PySem.W.instObj C dx) C (some od) := by
  obtain ⟨mA, O, _⟩ := ins_get I.hok ea
  obtain ⟨od, J, _⟩ := O.look
  exact ⟨od, J⟩
/-- len(x) of an instance -/
def rLenO (C : Addr) (sp : Sp) (E : XK) : List V → Hp → VK → Prop := fun xs H Q => ∃ a dx fs, xs = [V.ref a] ∧ H a = some (.ins C dx fs) ∧ sp [.ref a] H (fun z H' => ∃ i, z = .int i ∧ 0 ≤ i ∧ i < 2 ^ 62 ∧ Q (.int i) H') E
theorem call_lenO (hs : PySem.W.findIn X.K (.ref C) "__len__" = some (some (.ref g))) (hf : PySem.W.isFn X.K (.ref g) = true) (F : FnR X.prog X.w X.K X.mg X.base CX n g sp) (hr : Room (n + 1) X.A) (hx : Passes CX X E) :
    CallR X (.builtin "len") (rLenO C sp E) := by
  intro pins s σ H xs us Q I r h
  obtain ⟨a, dx, fs, rfl, ea, q⟩ := h
  obtain ⟨u, rfl, ru⟩ := r.one
  cases (show u = Value.ref a from ru)
  obtain ⟨od, J⟩ := inst_of I ea
  obtain ⟨m, hF⟩ := I.fr
  refine PySem.W.len_K hF I.ok.mod.kin J hs hf (wpAny_mono (wpAny_call (SlX.run_at (us := [.ref a]) (ws := [.ref a]) F hr.in1 I.env0.in1 hx I (.cons rfl .nil) q)) (fun v s' z => ?_) fun _ _ x => x)
  obtain ⟨z', H', I', rz, i, ei, i0, i1, qz⟩ := z
  subst ei
  obtain ⟨t, e⟩ := (show ∃ t, v = Value.int i t from rz)
  cases e
  exact ⟨⟨i0, by omega⟩, ⟨.int i, H', I'.tok _, ⟨_, rfl⟩, qz⟩⟩
end

/-! ### a def's promise, with its parameters -/
def FnE (P : Program) (w : World) (K : PySem.W.Frag) (mg : Str → Option Value) (base : Heap) (CX : CXT) (k : Nat) (f : Addr) (ps : List Str) (sp : Sp) : Prop :=
  ∃ fd : FuncData, FnOk P w K mg base CX k f fd ps sp ∧ Binds K fd ps []
theorem FnE.r {P : Program} {w : World} {K : PySem.W.Frag} {mg : Str → Option Value} {base : Heap} {CX : CXT} {k : Nat} {f : Addr} {ps : List Str} {sp : Sp} (F : FnE P w K mg base CX k f ps sp) : FnR P w K mg base CX k f sp := by
  obtain ⟨fd, F, b⟩ := F
  have z := F.raw b (dvs := []) .nil
  exact z.imp fun vs H Q E h => by rw [List.append_nil]; exact h
section
variable {X : Cx} {CX : CXT} {k : Nat} {f C p : Addr} {ps : List Str} {sp : Sp} {E : XK} {x m : Str} {pos np apos : Pos} {e o : Expr} {es : List Expr} {ta : TE} {t : TA}
def tCallR (sp : Sp) (E : XK) (t : TA) : TE := fun σ H Q => t σ H fun vs H1 => sp vs H1 Q E
theorem tCall_nil : tCall sp [] E t = tCallR sp E t := by
  funext σ H Q
  unfold tCall tCallR
  congr 1
  funext vs H1
  rw [List.append_nil]
theorem pe_callR (F : FnE X.prog X.w X.K X.mg X.base CX k f ps sp) (hr : Room k X.A) (hg : Gl X x) (hm : X.mg x = some (.ref f)) (hk : PySem.W.keepIn X.K (.ref f) = true) (hx : Passes CX X E)
    (ha : PA X (e :: es) t) (hdb : (x == ("__debug__" : Str)) = false := by decide) (he : starEach (e :: es) X.env = (false, eval e X.env) :: starEach es X.env := by rfl) (hpl : (backTo pos (starEach es X.env)).any (·.1) = false := by rfl) :
    PE X (.Call (.Name x np) (e :: es) [] pos) (tCallR sp E t) := by
  obtain ⟨fd, F, b⟩ := F
  rw [← tCall_nil]
  exact pe_call F hr hg hm hk b .nil hx ha hdb he hpl
theorem pe_callR0 (F : FnE X.prog X.w X.K X.mg X.base CX k f ps sp) (hr : Room k X.A) (hg : Gl X x) (hm : X.mg x = some (.ref f)) (hk : PySem.W.keepIn X.K (.ref f) = true) (hx : Passes CX X E)
    (hdb : (x == ("__debug__" : Str)) = false := by decide) : PE X (.Call (.Name x np) [] [] pos) (tCallR sp E tNil) := by
  obtain ⟨fd, F, b⟩ := F
  rw [← tCall_nil]
  exact pe_call0 F hr hg hm hk b .nil hx hdb
def tMakeR (C : Addr) (sp : Sp) (E : XK) (t : TA) : TE := fun σ H Q => t σ H fun vs H1 => ∀ x dx, H1 x = none → H1 dx = none → dx ≠ x →
  sp (.ref x :: vs) (upd (upd H1 dx (.own x)) x (.ins C dx [])) (fun v H2 => v = .non ∧ Q (.ref x) H2) E
theorem tMake_nil : tMake C sp [] E t = tMakeR C sp E t := by
  funext σ H Q
  unfold tMake tMakeR
  congr 1
  funext vs H1
  rw [List.append_nil]
theorem pe_makeR (M : Mk X.K C f) (F : FnE X.prog X.w X.K X.mg X.base CX k f ps sp) (hr : Room (k + 1) X.A) (hg : Gl X x) (hm : X.mg x = some (.ref C)) (hx : Passes CX X E)
    (ha : PA X (e :: es) t) (hdb : (x == ("__debug__" : Str)) = false := by decide) (he : starEach (e :: es) X.env = (false, eval e X.env) :: starEach es X.env := by rfl) (hpl : (backTo pos (starEach es X.env)).any (·.1) = false := by rfl) :
    PE X (.Call (.Name x np) (e :: es) [] pos) (tMakeR C sp E t) := by
  obtain ⟨fd, F, b⟩ := F
  rw [← tMake_nil]
  exact pe_make M F hr hg hm b .nil hx ha hdb he hpl
def tPropR (C : Addr) (sp : Sp) (E : XK) (ta : TE) : TE := fun σ H Q => ta σ H fun x H1 => ∃ a dx fs, x = .ref a ∧ H1 a = some (.ins C dx fs) ∧ sp [.ref a] H1 Q E
theorem pe_propR (he : PE X e ta) (c : Cls X.K C) (hp : PropOf X.K C x p f) (F : FnE X.prog X.w X.K X.mg X.base CX k f ps sp) (hr : Room (k + 1) X.A) (hx : Passes CX X.nox E)
    (hab : attributeBase e x X.env (eval e X.env) = eval e X.env) : PE X (.Attribute e x pos) (tPropR C sp E ta) := by
  obtain ⟨fd, F, b⟩ := F
  exact pe_prop (dvs := []) he c hp F hr b .nil hx hab
theorem pe_smethR {mc : Value} {pl : Sem Bool} (he : PE X o ta) (r : ClX.CRead X.K C mc) (c : SMet X.K C mc m p f) (F : FnE X.prog X.w X.K X.mg X.base CX k f ps sp) (hr : Room k X.A) (hx : Passes CX X E) (ha : PA X (e :: es) t)
    (hst : starEach (e :: es) X.env = (false, eval e X.env) :: starEach es X.env := by rfl) (hpl : (backTo pos (starEach es X.env)).any (·.1) = false := by rfl)
    (ht : eval (.Call (.Attribute o m apos) (e :: es) [] pos) X.env = (do
      let ov ← eval o X.env
      standAt apos.atName
      let (f, first) ← holding [ov] (getMethod ov m pl)
      callWith pos f first (backTo pos (starEach (e :: es) X.env)) (backToKw pos (keywordEach [] X.env))) := by rfl) :
    PE X (.Call (.Attribute o m apos) (e :: es) [] pos) (tSMeth C sp E ta t) := pe_smeth (pl := pl) he r c F.r hr hx ha hst hpl ht
end
section
variable {X : Cx} {CX : CXT} {n : Nat} {C g : Addr} {ps : List Str} {sp : Sp} {E : XK}
theorem call_lenE (hs : PySem.W.findIn X.K (.ref C) "__len__" = some (some (.ref g))) (hf : PySem.W.isFn X.K (.ref g) = true) (F : FnE X.prog X.w X.K X.mg X.base CX n g ps sp) (hr : Room (n + 1) X.A) (hx : Passes CX X E) :
    CallR X (.builtin "len") (rLenO C sp E) := call_lenO hs hf F.r hr hx
end

/-! ### ==, != of data -/
def rEqX (K : PySem.W.Frag) : R2 := fun x y H Q => ∃ d e, Dp K H x d ∧ Dp K H y e ∧ d.plain = true ∧ e.plain = true ∧ d.depth ≤ 64 ∧ Q (.bl (PyData.eqv d e)) H
def rNeX (K : PySem.W.Frag) : R2 := fun x y H Q => ∃ d e, Dp K H x d ∧ Dp K H y e ∧ d.plain = true ∧ e.plain = true ∧ d.depth ≤ 64 ∧ Q (.bl (!PyData.eqv d e)) H
section
variable {X : Cx}
theorem op_eqX (hu : X.A.units + 64 < cLine) : OpR X (compareOp .Eq) (rEqX X.K) := by
  intro pins s σ H x y v u Q I rx ry h
  obtain ⟨d, e, hd, he, pd, pe, dd, q⟩ := h
  obtain ⟨l1, r1⟩ := Dp.reads I d x v hd rx
  obtain ⟨l2, r2⟩ := Dp.reads I e y u he ry
  exact SeqAt.eq_plain r1 r2 pd pe (PySem.W.room_datum dd hu) ⟨.bl _, H, I, rfl, q⟩
theorem op_neX (hu : X.A.units + 64 < cLine) : OpR X (compareOp .NotEq) (rNeX X.K) := by
  intro pins s σ H x y v u Q I rx ry h
  obtain ⟨d, e, hd, he, pd, pe, dd, q⟩ := h
  obtain ⟨l1, r1⟩ := Dp.reads I d x v hd rx
  obtain ⟨l2, r2⟩ := Dp.reads I e y u he ry
  exact SeqAt.ne_plain r1 r2 pd pe (PySem.W.room_datum dd hu) ⟨.bl _, H, I, rfl, q⟩
end
open PySem.W (Datum Tup)
/-- v holds x -/
def Hd {α : Type} [DecidableEq α] [Datum α] (K : PySem.W.Frag) (H : Hp) (v : V) (x : α) : Prop := Dp K H v (Datum.toD x)
section
variable {α : Type} [DecidableEq α] [Datum α] {K : PySem.W.Frag} {H H' : Hp} {u v : V} {x y : α} {Q : VK}
theorem eq_hd (hu : Hd K H u x) (hv : Hd K H v y) (q : Q (.bl (decide (x = y))) H) (hd : Datum.depth α ≤ 64 := by decide) : rEqX K u v H Q :=
  ⟨_, _, hu, hv, Datum.plain x, Datum.plain y, Nat.le_trans (Datum.depth_le x) hd, by rw [Datum.eqv]; exact q⟩
theorem ne_hd (hu : Hd K H u x) (hv : Hd K H v y) (q : Q (.bl (!decide (x = y))) H) (hd : Datum.depth α ≤ 64 := by decide) : rNeX K u v H Q :=
  ⟨_, _, hu, hv, Datum.plain x, Datum.plain y, Nat.le_trans (Datum.depth_le x) hd, by rw [Datum.eqv]; exact q⟩
end

/-! ### heaps that grow -/
theorem Same.new {H : Hp} {p : Addr} {o : HO} (h : H p = none) : Same H (upd H p o) := fun b u e => by
  rw [upd_ne (ne_of_none e h)]
  exact e
theorem Same.mut {H H' : Hp} {p : Addr} {o : HO} (e : Same H H') (h : H p = none) : Same H (upd H' p o) := fun b u q => by
  rw [upd_ne (ne_of_none q h)]
  exact e b u q
theorem Same.seqT {K : PySem.W.Frag} {H H' : Hp} {a : Addr} {xs : List V} (e : Same H H') (h : SqT K H a xs) : SqT K H' a xs := by
  rcases h with (h | ⟨o, h⟩) | h
  · exact .inl (.inl (e _ _ h))
  · exact .inl (.inr ⟨o, e _ _ h⟩)
  · exact .inr h
mutual
theorem Dp.same {K : PySem.W.Frag} {H H' : Hp} (e : Same H H') : ∀ (d : PyData) (v : V), Dp K H v d → Dp K H' v d
  | .none, _, h => by cases h; exact .non
  | .bool b, _, h => by cases h; exact .bl b
  | .int i, _, h => by cases h; exact .int i
  | .str x, _, h => by cases h; exact .str x
  | .list ds, _, h => by
    cases h with
    | lst s a => exact .lst (e.seq s) (DpAll.same e ds _ a)
  | .tuple ds, _, h => by
    cases h with
    | tup s a => exact .tup (Same.seqT e s) (DpAll.same e ds _ a)
  | .dict _, _, h => by cases h
theorem DpAll.same {K : PySem.W.Frag} {H H' : Hp} (e : Same H H') : ∀ (ds : List PyData) (vs : List V), DpAll K H vs ds → DpAll K H' vs ds
  | [], _, h => by cases h; exact .nil
  | d :: ds, _, h => by
    cases h with
    | cons a b => exact .cons (Dp.same e d _ a) (DpAll.same e ds _ b)
end
section
variable {α β : Type} [DecidableEq α] [Datum α] [DecidableEq β] [Datum β] {K : PySem.W.Frag} {H H' : Hp}
theorem Hd.same {v : V} {x : α} (e : Same H H') (h : Hd K H v x) : Hd K H' v x := Dp.same e _ _ h
theorem hd_int (i : Int) : Hd K H (.int i) i := .int i
theorem hd_bl (b : Bool) : Hd K H (.bl b) b := .bl b
theorem hd_str (z : Str) : Hd K H (.str z) z := .str z
theorem dpAll_ints : ∀ ns : List Int, DpAll K H (ns.map V.int) (ns.map Datum.toD)
  | [] => .nil
  | n :: ns => .cons (.int n) (dpAll_ints ns)
theorem hd_intsL {p : Addr} {ns : List Int} (h : SqL K H p (ns.map V.int)) : Hd K H (.ref p) ns := .lst h (dpAll_ints ns)
theorem hd_intsT {p : Addr} {ns : List Int} (h : SqT K H p (ns.map V.int)) : Hd K H (.ref p) (Tup.mk ns) := .tup h (dpAll_ints ns)
end

/-! ### comprehensions of one name whose elements are plain values -/
section
variable {K : PySem.W.Frag} {σ : L2.St} {H1 : Hp} {te : TE} {tt : TT} {vs : List Nat} {j : Nat} {Qd : Addr → Hp → Prop}
/-- what holds of the new list at D behind i turns -/
def LcI (H1 : Hp) (D : Addr) (ys : Nat → List V) (i : Nat) (H : Hp) : Prop := H1 D = none ∧ Same H1 H ∧ H D = some (.lst (ys i))
theorem take_succ {α : Type} : ∀ {l : List α} {i : Nat} {x : α}, l[i]? = some x → l.take (i + 1) = l.take i ++ [x]
  | [], i, x, h => by simp at h
  | a :: l, 0, x, h => by
    cases h
    rfl
  | a :: l, i + 1, x, h => congrArg (a :: ·) (take_succ (l := l) (i := i) h)
/-- one turn -/
theorem lc_turn {D : Addr} {b : V → Bool} {f : V → V} {xs : List V} {i : Nat} {x : V} {H : Hp} (hz : xs.length ≤ 100000) (hx : xs[i]? = some x) (p : LcI H1 D (fun i => ((xs.take i).filter b).map f) i H)
    (ht : ∀ H2, Same H1 H2 → ∀ R : Bool → Hp → Prop, (∀ H3, Same H2 H3 → R (b x) H3) → tt ((wipe σ vs).set j (some x)) H2 R)
    (he : b x = true → ∀ H2, Same H1 H2 → ∀ R : VK, (∀ H3, Same H2 H3 → R (f x) H3) → te ((wipe σ vs).set j (some x)) H2 R) :
    tt ((wipe σ vs).set j (some x)) H fun c H3 => if c = true then te ((wipe σ vs).set j (some x)) H3 fun y H4 => ∃ acc, H4 D = some (.lst acc) ∧ acc.length < sizeLine ∧ LcI H1 D (fun i => ((xs.take i).filter b).map f) (i + 1) (upd H4 D (.lst (acc ++ [y])))
      else LcI H1 D (fun i => ((xs.take i).filter b).map f) (i + 1) H3 := by
  obtain ⟨p1, p2, p3⟩ := p
  refine ht H p2 _ fun H3 e3 => ?_
  cases hb : b x with
  | true =>
    refine iteT (he hb H3 (p2.trans e3) _ fun H4 e4 => ⟨_, e4 D _ (e3 D _ p3), ?_, p1, Same.mut ((p2.trans e3).trans e4) p1, ?_⟩)
    · rw [List.length_map]
      refine Nat.lt_of_le_of_lt (List.length_filter_le _ _) (Nat.lt_of_le_of_lt (List.length_take_le _ _) ?_)
      refine Nat.lt_of_lt_of_le ?_ (show 100000 ≤ sizeLine by decide)
      have := (List.getElem?_eq_some_iff.mp hx).1
      omega
    · dsimp only
      rw [upd_same, take_succ hx, List.filter_append, List.map_append, List.filter_cons, if_pos hb]
      rfl
  | false =>
    refine iteF ⟨p1, p2.trans e3, ?_⟩
    dsimp only
    rw [take_succ hx, List.filter_append, List.filter_cons, if_neg (by rw [hb]; decide), List.filter_nil, List.append_nil]
    exact e3 D _ p3
/-- over a list: f of the items that b takes -/
theorem lc_fmL {a : Addr} {xs : List V} (hx : SqL K H1 a xs) (b : V → Bool) (f : V → V) (hz : xs.length ≤ 100000) (hw : ∀ x, wipe ((wipe σ vs).set j (some x)) vs = wipe σ vs)
    (ht : ∀ x ∈ xs, ∀ H2, Same H1 H2 → ∀ R : Bool → Hp → Prop, (∀ H3, Same H2 H3 → R (b x) H3) → tt ((wipe σ vs).set j (some x)) H2 R)
    (he : ∀ x ∈ xs, b x = true → ∀ H2, Same H1 H2 → ∀ R : VK, (∀ H3, Same H2 H3 → R (f x) H3) → te ((wipe σ vs).set j (some x)) H2 R)
    (k : ∀ D H', H1 D = none → Same H1 H' → H' D = some (.lst ((xs.filter b).map f)) → Qd D H') (D : Addr) (hD : H1 D = none) :
    ∃ W : Nat → Nat → Hp → Prop, (∃ m, W 0 m (upd H1 D (.lst []))) ∧ ∀ i m H, W i m H →
      ((Itl K a).stop i H ∧ Qd D H) ∨ ((Itl K a).go i H ∧ ∃ Nx : Hp → Prop, (∀ H', Nx H' → ∃ m', m' < m ∧ W (i + 1) m' H') ∧ ∀ x H', (Itl K a).yld i H x H' → gName j x (wipe σ vs) H' fun σ2 H2 => wipe σ2 vs = wipe σ vs ∧ tt σ2 H2 fun b H3 =>
        if b = true then te σ2 H3 fun y H4 => ∃ acc, H4 D = some (.lst acc) ∧ acc.length < sizeLine ∧ Nx (upd H4 D (.lst (acc ++ [y]))) else Nx H3) :=
  lc_list (xs := xs) (LcI H1 D fun i => ((xs.take i).filter b).map f) ⟨hD, Same.new hD, upd_same⟩ (fun i H _ p => p.2.1.seq hx)
    (fun i x H hi p => ⟨hw x, lc_turn hz hi p (ht x (List.mem_of_getElem? hi)) (he x (List.mem_of_getElem? hi))⟩) fun H p => k D H hD p.2.1 (by have := p.2.2; dsimp only at this; rw [List.take_length] at this; exact this)
theorem lc_fmT {a : Addr} {xs : List V} (hx : SqT K H1 a xs) (b : V → Bool) (f : V → V) (hz : xs.length ≤ 100000) (hw : ∀ x, wipe ((wipe σ vs).set j (some x)) vs = wipe σ vs)
    (ht : ∀ x ∈ xs, ∀ H2, Same H1 H2 → ∀ R : Bool → Hp → Prop, (∀ H3, Same H2 H3 → R (b x) H3) → tt ((wipe σ vs).set j (some x)) H2 R)
    (he : ∀ x ∈ xs, b x = true → ∀ H2, Same H1 H2 → ∀ R : VK, (∀ H3, Same H2 H3 → R (f x) H3) → te ((wipe σ vs).set j (some x)) H2 R)
    (k : ∀ D H', H1 D = none → Same H1 H' → H' D = some (.lst ((xs.filter b).map f)) → Qd D H') (D : Addr) (hD : H1 D = none) :
    ∃ W : Nat → Nat → Hp → Prop, (∃ m, W 0 m (upd H1 D (.lst []))) ∧ ∀ i m H, W i m H →
      ((Itt K a).stop i H ∧ Qd D H) ∨ ((Itt K a).go i H ∧ ∃ Nx : Hp → Prop, (∀ H', Nx H' → ∃ m', m' < m ∧ W (i + 1) m' H') ∧ ∀ x H', (Itt K a).yld i H x H' → gName j x (wipe σ vs) H' fun σ2 H2 => wipe σ2 vs = wipe σ vs ∧ tt σ2 H2 fun b H3 =>
        if b = true then te σ2 H3 fun y H4 => ∃ acc, H4 D = some (.lst acc) ∧ acc.length < sizeLine ∧ Nx (upd H4 D (.lst (acc ++ [y]))) else Nx H3) :=
  lc_tup (xs := xs) (LcI H1 D fun i => ((xs.take i).filter b).map f) ⟨hD, Same.new hD, upd_same⟩ (fun i H _ p => Same.seqT p.2.1 hx)
    (fun i x H hi p => ⟨hw x, lc_turn hz hi p (ht x (List.mem_of_getElem? hi)) (he x (List.mem_of_getElem? hi))⟩) fun H p => k D H hD p.2.1 (by have := p.2.2; dsimp only at this; rw [List.take_length] at this; exact this)
/-- the ints lo, lo + 1, .. -/
def rgI (lo : Int) (n : Nat) : List Int := (List.range n).map fun (i : Nat) => lo + (i : Int)
theorem rgI_length (lo : Int) (n : Nat) : (rgI lo n).length = n := by simp [rgI]
theorem rgI_get {lo : Int} {n i : Nat} (h : i < n) : (rgI lo n)[i]? = some (lo + (i : Int)) := by simp [rgI, h]
theorem lc_fmR {lo : Int} {n : Nat} (b : V → Bool) (f : V → V) (hz : n ≤ 100000) (hw : ∀ x, wipe ((wipe σ vs).set j (some x)) vs = wipe σ vs)
    (ht : ∀ x : Int, lo ≤ x → x < lo + (n : Int) → ∀ H2, Same H1 H2 → ∀ R : Bool → Hp → Prop, (∀ H3, Same H2 H3 → R (b (.int x)) H3) → tt ((wipe σ vs).set j (some (.int x))) H2 R)
    (he : ∀ x : Int, lo ≤ x → x < lo + (n : Int) → b (.int x) = true → ∀ H2, Same H1 H2 → ∀ R : VK, (∀ H3, Same H2 H3 → R (f (.int x)) H3) → te ((wipe σ vs).set j (some (.int x))) H2 R)
    (k : ∀ D H', H1 D = none → Same H1 H' → H' D = some (.lst ((((rgI lo n).map V.int).filter b).map f)) → Qd D H') (D : Addr) (hD : H1 D = none) :
    ∃ W : Nat → Nat → Hp → Prop, (∃ m, W 0 m (upd H1 D (.lst []))) ∧ ∀ i m H, W i m H →
      ((Itr lo n).stop i H ∧ Qd D H) ∨ ((Itr lo n).go i H ∧ ∃ Nx : Hp → Prop, (∀ H', Nx H' → ∃ m', m' < m ∧ W (i + 1) m' H') ∧ ∀ x H', (Itr lo n).yld i H x H' → gName j x (wipe σ vs) H' fun σ2 H2 => wipe σ2 vs = wipe σ vs ∧ tt σ2 H2 fun b H3 =>
        if b = true then te σ2 H3 fun y H4 => ∃ acc, H4 D = some (.lst acc) ∧ acc.length < sizeLine ∧ Nx (upd H4 D (.lst (acc ++ [y]))) else Nx H3) := by
  have hl : ((rgI lo n).map V.int).length = n := by rw [List.length_map, rgI_length]
  refine lc_range (LcI H1 D fun i => ((((rgI lo n).map V.int).take i).filter b).map f) ⟨hD, Same.new hD, upd_same⟩ (fun i H hi p => ⟨hw _, ?_⟩) fun H p => k D H hD p.2.1 ?_
  · exact lc_turn (by rw [hl]; exact hz) (by rw [List.getElem?_map, rgI_get hi]; rfl) p (ht _ (by omega) (by omega)) (he _ (by omega) (by omega))
  · have := p.2.2
    dsimp only at this
    rw [List.take_of_length_le (by rw [hl]; exact Nat.le_refl _)] at this
    exact this
end

def absI (i : Int) : Int := if i < 0 then -i else i
/-! ### the same over ints, nothing left out -/
section
variable {K : PySem.W.Frag} {σ : L2.St} {H1 : Hp} {te : TE} {vs : List Nat} {j : Nat} {Qd : Addr → Hp → Prop}
/-- a value by its int -/
def onI (g : Int → V) : V → V
  | .int i => g i
  | v => v
theorem onI_map (g : Int → V) (ns : List Int) : (((ns.map V.int).filter fun _ => true).map (onI g)) = ns.map g := by
  rw [List.filter_eq_self.mpr (fun _ _ => rfl), List.map_map]
  rfl
theorem lc_mR {lo : Int} {n : Nat} (g : Int → V) (hz : n ≤ 100000) (hw : ∀ x, wipe ((wipe σ vs).set j (some x)) vs = wipe σ vs)
    (he : ∀ x : Int, lo ≤ x → x < lo + (n : Int) → ∀ H2, Same H1 H2 → ∀ R : VK, (∀ H3, Same H2 H3 → R (g x) H3) → te ((wipe σ vs).set j (some (.int x))) H2 R)
    (k : ∀ D H', H1 D = none → Same H1 H' → H' D = some (.lst ((rgI lo n).map g)) → Qd D H') (D : Addr) (hD : H1 D = none) :
    ∃ W : Nat → Nat → Hp → Prop, (∃ m, W 0 m (upd H1 D (.lst []))) ∧ ∀ i m H, W i m H →
      ((Itr lo n).stop i H ∧ Qd D H) ∨ ((Itr lo n).go i H ∧ ∃ Nx : Hp → Prop, (∀ H', Nx H' → ∃ m', m' < m ∧ W (i + 1) m' H') ∧ ∀ x H', (Itr lo n).yld i H x H' → gName j x (wipe σ vs) H' fun σ2 H2 => wipe σ2 vs = wipe σ vs ∧ tYes σ2 H2 fun b H3 =>
        if b = true then te σ2 H3 fun y H4 => ∃ acc, H4 D = some (.lst acc) ∧ acc.length < sizeLine ∧ Nx (upd H4 D (.lst (acc ++ [y]))) else Nx H3) :=
  lc_fmR (fun _ => true) (onI g) hz hw (fun x _ _ H2 _ R q => q H2 (Same.refl _)) (fun x h1 h2 _ => he x h1 h2) (fun D H' h1 h2 h3 => k D H' h1 h2 (by rw [onI_map] at h3; exact h3)) D hD
theorem lc_mL {a : Addr} {ns : List Int} (hx : SqL K H1 a (ns.map V.int)) (g : Int → V) (hz : ns.length ≤ 100000) (hw : ∀ x, wipe ((wipe σ vs).set j (some x)) vs = wipe σ vs)
    (he : ∀ x ∈ ns, ∀ H2, Same H1 H2 → ∀ R : VK, (∀ H3, Same H2 H3 → R (g x) H3) → te ((wipe σ vs).set j (some (.int x))) H2 R)
    (k : ∀ D H', H1 D = none → Same H1 H' → H' D = some (.lst (ns.map g)) → Qd D H') (D : Addr) (hD : H1 D = none) :
    ∃ W : Nat → Nat → Hp → Prop, (∃ m, W 0 m (upd H1 D (.lst []))) ∧ ∀ i m H, W i m H →
      ((Itl K a).stop i H ∧ Qd D H) ∨ ((Itl K a).go i H ∧ ∃ Nx : Hp → Prop, (∀ H', Nx H' → ∃ m', m' < m ∧ W (i + 1) m' H') ∧ ∀ x H', (Itl K a).yld i H x H' → gName j x (wipe σ vs) H' fun σ2 H2 => wipe σ2 vs = wipe σ vs ∧ tYes σ2 H2 fun b H3 =>
        if b = true then te σ2 H3 fun y H4 => ∃ acc, H4 D = some (.lst acc) ∧ acc.length < sizeLine ∧ Nx (upd H4 D (.lst (acc ++ [y]))) else Nx H3) :=
  lc_fmL hx (fun _ => true) (onI g) (by rw [List.length_map]; exact hz) hw (fun x _ H2 _ R q => q H2 (Same.refl _)) (fun x hm _ H2 e R r => by obtain ⟨i, hi, rfl⟩ := List.mem_map.mp hm; exact he i hi H2 e R r)
    (fun D H' h1 h2 h3 => k D H' h1 h2 (by rw [onI_map] at h3; exact h3)) D hD
theorem lc_mT {a : Addr} {ns : List Int} (hx : SqT K H1 a (ns.map V.int)) (g : Int → V) (hz : ns.length ≤ 100000) (hw : ∀ x, wipe ((wipe σ vs).set j (some x)) vs = wipe σ vs)
    (he : ∀ x ∈ ns, ∀ H2, Same H1 H2 → ∀ R : VK, (∀ H3, Same H2 H3 → R (g x) H3) → te ((wipe σ vs).set j (some (.int x))) H2 R)
    (k : ∀ D H', H1 D = none → Same H1 H' → H' D = some (.lst (ns.map g)) → Qd D H') (D : Addr) (hD : H1 D = none) :
    ∃ W : Nat → Nat → Hp → Prop, (∃ m, W 0 m (upd H1 D (.lst []))) ∧ ∀ i m H, W i m H →
      ((Itt K a).stop i H ∧ Qd D H) ∨ ((Itt K a).go i H ∧ ∃ Nx : Hp → Prop, (∀ H', Nx H' → ∃ m', m' < m ∧ W (i + 1) m' H') ∧ ∀ x H', (Itt K a).yld i H x H' → gName j x (wipe σ vs) H' fun σ2 H2 => wipe σ2 vs = wipe σ vs ∧ tYes σ2 H2 fun b H3 =>
        if b = true then te σ2 H3 fun y H4 => ∃ acc, H4 D = some (.lst acc) ∧ acc.length < sizeLine ∧ Nx (upd H4 D (.lst (acc ++ [y]))) else Nx H3) :=
  lc_fmT hx (fun _ => true) (onI g) (by rw [List.length_map]; exact hz) hw (fun x _ H2 _ R q => q H2 (Same.refl _)) (fun x hm _ H2 e R r => by obtain ⟨i, hi, rfl⟩ := List.mem_map.mp hm; exact he i hi H2 e R r)
    (fun D H' h1 h2 h3 => k D H' h1 h2 (by rw [onI_map] at h3; exact h3)) D hD
end

/-! ### .. as rules for a comprehension's reading -/
section
variable {K : PySem.W.Frag} {σ : L2.St} {H : Hp} {te tl : TE} {aa : TA} {vs : List Nat} {j : Nat} {R : VK}
/-- what is asked of each element and of what follows -/
def LcAsk (σ : L2.St) (vs : List Nat) (j : Nat) (te : TE) (R : VK) (ns : List Int) (g : Int → V) (H1 : Hp) : Prop :=
  (∀ x ∈ ns, ∀ H2, Same H1 H2 → ∀ R' : VK, (∀ H3, Same H2 H3 → R' (g x) H3) → te ((wipe σ vs).set j (some (.int x))) H2 R') ∧ ∀ D H', H1 D = none → Same H1 H' → H' D = some (.lst (ns.map g)) → R (.ref D) H'
theorem mem_rgI {lo : Int} {n : Nat} {z : Int} : z ∈ rgI lo n ↔ lo ≤ z ∧ z < lo + (n : Int) := by
  unfold rgI
  rw [List.mem_map]
  constructor
  · rintro ⟨k, hk, rfl⟩
    have := List.mem_range.mp hk
    omega
  · intro ⟨h1, h2⟩
    exact ⟨(z - lo).toNat, List.mem_range.mpr (by omega), by omega⟩
theorem thnA {aa : TA} {R1 R2 : List V → Hp → Prop} (mono : ∀ ws H, R1 ws H → R2 ws H) (am : aa σ H R1 → aa σ H R2) (h : aa σ H R1) : aa σ H R2 := am h
/-- a comprehension of one name, without a test, behind its iterable -/
def LcG (J : It) (σ : L2.St) (vs : List Nat) (j : Nat) (te : TE) (R : VK) (H1 : Hp) : Prop := ∀ D, H1 D = none → ∃ W : Nat → Nat → Hp → Prop, (∃ m, W 0 m (upd H1 D (.lst []))) ∧ ∀ i m H, W i m H →
    (J.stop i H ∧ R (.ref D) H) ∨ (J.go i H ∧ ∃ Nx : Hp → Prop, (∀ H', Nx H' → ∃ m', m' < m ∧ W (i + 1) m' H') ∧ ∀ x H', J.yld i H x H' → gName j x (wipe σ vs) H' fun σ2 H2 => wipe σ2 vs = wipe σ vs ∧ tYes σ2 H2 fun b H3 =>
      if b = true then te σ2 H3 fun y H4 => ∃ acc, H4 D = some (.lst acc) ∧ acc.length < sizeLine ∧ Nx (upd H4 D (.lst (acc ++ [y]))) else Nx H3)
theorem i_lcN {wi : TI} (h : wi σ H fun J H1 => LcG J σ vs j te R H1) : tLc wi (gName j) tYes te vs σ H R := h
theorem lcR {lo : Int} {n : Nat} (g : Int → V) (hw : ∀ x, wipe ((wipe σ vs).set j (some x)) vs = wipe σ vs) (hz : n ≤ 100000) (h : LcAsk σ vs j te R (rgI lo n) g H) : LcG (Itr lo n) σ vs j te R H := fun D hD =>
  lc_mR (σ := σ) (H1 := H) (te := te) (vs := vs) (j := j) (Qd := fun D H => R (.ref D) H) (lo := lo) (n := n) g hz hw (fun x h1 h2 => h.1 x (mem_rgI.mpr ⟨h1, h2⟩)) h.2 D hD
theorem lcL {a : Addr} {ns : List Int} (g : Int → V) (hw : ∀ x, wipe ((wipe σ vs).set j (some x)) vs = wipe σ vs) (hx : SqL K H a (ns.map V.int)) (hz : ns.length ≤ 100000) (h : LcAsk σ vs j te R ns g H) : LcG (Itl K a) σ vs j te R H := fun D hD =>
  lc_mL (σ := σ) (H1 := H) (te := te) (vs := vs) (j := j) (Qd := fun D H => R (.ref D) H) hx g hz hw h.1 h.2 D hD
theorem lcT {a : Addr} {ns : List Int} (g : Int → V) (hw : ∀ x, wipe ((wipe σ vs).set j (some x)) vs = wipe σ vs) (hx : SqT K H a (ns.map V.int)) (hz : ns.length ≤ 100000) (h : LcAsk σ vs j te R ns g H) : LcG (Itt K a) σ vs j te R H := fun D hD =>
  lc_mT (σ := σ) (H1 := H) (te := te) (vs := vs) (j := j) (Qd := fun D H => R (.ref D) H) hx g hz hw h.1 h.2 D hD
end

/-! ### readings by name -/
abbrev rAddI : R2 := rI0 fun i j => .int (i + j)
abbrev rSubI : R2 := rI0 fun i j => .int (i - j)
abbrev rMulI : R2 := rI (fun i j => CMul i j ∨ CMulW i j) fun i j => .int (i * j)
abbrev rDivI : R2 := rI CDivW fun i j => .int (i / j)
abbrev rModI : R2 := rI (fun _ j => 0 < j) fun i j => .int (i % j)
abbrev rPowI : R2 := rI CPow fun i j => .int (i ^ j.toNat)
abbrev rLtI : R2 := rI0 fun i j => .bl (decide (i < j))
abbrev rLeI : R2 := rI0 fun i j => .bl (decide (i ≤ j))
abbrev rGtI : R2 := rI0 fun i j => .bl (decide (j < i))
abbrev rGeI : R2 := rI0 fun i j => .bl (decide (j ≤ i))
abbrev rNeg : V → Hp → VK → Prop := rU fun i => .int (-i)
def rAddT : R2 := fun x y H Q => ∃ i j, x = .str i ∧ y = .str j ∧ i.length + j.length ≤ sizeLine ∧ Q (.str (i ++ j)) H
def rIsNo : R2 := fun x y H Q => y = .non ∧ Q (.bl (decide (x = .non))) H
def rIsNotNo : R2 := fun x y H Q => y = .non ∧ Q (.bl (!decide (x = .non))) H
def rLenS (K : PySem.W.Frag) : List V → Hp → VK → Prop := fun xs H Q => ∃ p ys, xs = [.ref p] ∧ (SqL K H p ys ∨ SqT K H p ys) ∧ Q (.int ys.length) H
def rLenT : List V → Hp → VK → Prop := fun xs H Q => ∃ z, xs = [.str z] ∧ z.length ≤ sizeLine ∧ Q (.int z.length) H
def rAbs : List V → Hp → VK → Prop := fun xs H Q => ∃ i, xs = [.int i] ∧ Q (.int (if i < 0 then -i else i)) H
def rMax2 : List V → Hp → VK → Prop := fun xs H Q => ∃ i j, xs = [.int i, .int j] ∧ Q (.int (if j > i then j else i)) H
def rMin2 : List V → Hp → VK → Prop := fun xs H Q => ∃ i j, xs = [.int i, .int j] ∧ Q (.int (if j < i then j else i)) H
def rInt1 : List V → Hp → VK → Prop := fun xs H Q => (∃ i, xs = [.int i] ∧ Q (.int i) H) ∨ ∃ k, xs = [.bl k] ∧ Q (.int (if k then 1 else 0)) H
def rStrI : List V → Hp → VK → Prop := fun xs H Q => ∃ i, xs = [.int i] ∧ i.natAbs.log2 < 1920 ∧ Q (.str (toString i)) H
def rListS (K : PySem.W.Frag) : List V → Hp → VK → Prop := fun xs H Q => ∃ p ys, xs = [.ref p] ∧ (SqL K H p ys ∨ SqT K H p ys) ∧ ∀ l, H l = none → Q (.ref l) (upd H l (.lst ys))
def rTupS (K : PySem.W.Frag) : List V → Hp → VK → Prop := fun xs H Q => ∃ p ys, xs = [.ref p] ∧ ((SqL K H p ys ∧ ∀ l, H l = none → Q (.ref l) (upd H l (.tup ys))) ∨ (SqT K H p ys ∧ Q (.ref p) H))
def rIxLT (K : PySem.W.Frag) : R2 := fun x y H Q => rIxL K x y H Q ∨ rIxT K x y H Q
def tJoined (ts : List TE) : TE := fun σ H Q => tJs ts Str.empty σ H fun out H1 => Q (.str out) H1
def rJoinT (K : PySem.W.Frag) : V → List V → Hp → VK → Prop := fun x xs H Q => ∃ a p, ∃ ys : List Str, x = .str a ∧ xs = [.ref p] ∧ (SqL K H p (ys.map V.str) ∨ SqT K H p (ys.map V.str)) ∧ (ys.map (·.length)).sum + ys.length * a.length ≤ 16777216 ∧ Q (.str (Txt.join a ys)) H
def tJoinT (K : PySem.W.Frag) (to te : TE) : TE := tM1 (rJoinT K) to te
section
variable {X : Cx}
theorem op_mulA : OpR X (binaryOp .Mult) rMulI := opI fun _ _ _ _ _ _ _ hc q => mul_int q (hc.elim CMul.ok CMulW.ok)
theorem iop_mulA : OpR X (inplaceOp .Mult) rMulI := opI fun _ _ _ _ _ _ _ hc q => imul_int q (hc.elim CMul.ok CMulW.ok)
theorem op_addT : OpR X (binaryOp .Add) rAddT := op_add_str
theorem op_isNo : OpR X (compareOp .Is) rIsNo := op_isN
theorem op_isNotNo : OpR X (compareOp .IsNot) rIsNotNo := op_notN
theorem c_lenS : CallR X (.builtin "len") (rLenS X.K) := call_len_seq
theorem c_lenT : CallR X (.builtin "len") rLenT := call_len_str
theorem c_abs : CallR X (.builtin "abs") rAbs := call_abs
theorem c_max2 (h : X.calm = true) : CallR X (.builtin "max") rMax2 := call_max2 h
theorem c_min2 (h : X.calm = true) : CallR X (.builtin "min") rMin2 := call_min2 h
theorem c_int1 : CallR X (.type "int") rInt1 := call_int1
theorem c_strI : CallR X (.type "str") rStrI := call_str_int
theorem c_listS : CallR X (.type "list") (rListS X.K) := call_list_of
theorem c_tupS : CallR X (.type "tuple") (rTupS X.K) := call_tuple_of
theorem ix_ltp : IxR X (rIxLT X.K) := ix_list.or ix_tup
theorem ip_of {op : Operator} {r : R2} (h : OpR X (inplaceOp op) r) : PIp X op r := h
theorem pe_joinT {o e : Expr} {to te : TE} {apos pos : Pos} (ho : PE X o to) (he : PE X e te) (hs : starEach [e] X.env = [(false, eval e X.env)] := by rfl) (hbase : attributeBase o "join" X.env (eval o X.env) = eval o X.env := by rfl) (hline : (apos.endLine == pos.line) = true := by rfl) :
    PE X (.Call (.Attribute o "join" apos) [e] [] pos) (tJoinT X.K to te) := pe_join ho he hs hbase hline
theorem pe_joinedN {v1 v2 : Expr} {rest : List Expr} {ts : List TE} {pos : Pos} (h : PJ X (v1 :: v2 :: rest) ts) : PE X (.JoinedStr (v1 :: v2 :: rest) pos) (tJoined ts) := pe_joined h

/-! ### a list or a tuple, walked -/
def iLT (K : PySem.W.Frag) (tl : TE) : TI := fun σ H R => tl σ H fun x H1 => ∃ a, x = .ref a ∧ (((∃ xs, SqL K H1 a xs) ∧ R (Itl K a) H1) ∨ ((∃ xs, SqT K H1 a xs) ∧ R (Itt K a) H1))
/-- an expression that is worth what is there already -/
theorem pi_ltp {tg l : Expr} {tl : TE} (hl : PE X l tl) : PI X tg l (iLT X.K tl) := by
  refine ⟨fun pins s σ H R I h => ?_⟩
  refine thn (hl.run pins s σ H _ I h) fun v s1 hv => ?_
  obtain ⟨x, H1, I1, r1, a, rfl, z⟩ := hv
  have ev : v = .ref a := r1
  subst ev
  have fp : ∀ b ∈ [s1.heap.objs.size], FpOk X pins H1 b := fun b hb => by
    obtain rfl := List.mem_singleton.mp hb
    exact I1.fpOk (Nat.le_refl _) (I1.hok.fresh (Nat.le_refl _))
  rcases z with ⟨⟨xs, hq⟩, q⟩ | ⟨⟨xs, hq⟩, q⟩
  · obtain ⟨ws, rv, p, hz⟩ := I1.list hq
    exact wpAny_pyIter_list p.isList ⟨s1.heap.objs.size, [s1.heap.objs.size], _, _, H1, rfl, I1.kept (t' := s1.toks) fun b o e => Heap.get?_push_of_some _ e, turn_list a _, ⟨_, Heap.get?_push_size _ rfl, rfl, rfl⟩, fp, q⟩
  · obtain ⟨ws, rv, p, hz⟩ := I1.tuple hq
    exact wpAny_pyIter_tuple (show s1.heap.IsTuple a ws.toArray from p) ⟨s1.heap.objs.size, [s1.heap.objs.size], _, _, H1, rfl, I1.kept (t' := s1.toks) fun b o e => Heap.get?_push_of_some _ e, turn_tuple a _, ⟨_, Heap.get?_push_size _ rfl, rfl, rfl⟩, fp, q⟩
end

/-! ### the names of built-ins that the module does not bind -/
structure Nm (mg : Str → Option Value) : Prop where
  abs : mg "abs" = none
  all : mg "all" = none
  any : mg "any" = none
  bool_ : mg "bool" = none
  dict_ : mg "dict" = none
  enumerate : mg "enumerate" = none
  int_ : mg "int" = none
  isinstance : mg "isinstance" = none
  iter : mg "iter" = none
  len : mg "len" = none
  list_ : mg "list" = none
  max : mg "max" = none
  min : mg "min" = none
  next : mg "next" = none
  range : mg "range" = none
  repr_ : mg "repr" = none
  reversed : mg "reversed" = none
  set_ : mg "set" = none
  sorted : mg "sorted" = none
  str_ : mg "str" = none
  sum : mg "sum" = none
  tuple_ : mg "tuple" = none
  zip : mg "zip" = none
section
variable {X : Cx} {x y : Expr} {tx ty : TE} {p p2 pos pos2 : Pos}
theorem g_lr1 (n : Nm X.mg) (hc : X.calm = true) (hx : PE X x tx) (hg : Gl X "list") (hg2 : Gl X "range") (na : starEach [x] X.env = (false, eval x X.env) :: starEach [] X.env := by rfl)
    (nb : starEach [Expr.Call (.Name "range" p2) [x] [] pos2] X.env = (false, eval (Expr.Call (.Name "range" p2) [x] [] pos2) X.env) :: starEach [] X.env := by rfl) :
    PE X (.Call (.Name "list" p) [.Call (.Name "range" p2) [x] [] pos2] [] pos) (tLstRg (tRg1 tx)) := pe_listRg hc hg n.list_ (prg_1 hg2 n.range hx na) nb
theorem g_lr2 (n : Nm X.mg) (hc : X.calm = true) (hx : PE X x tx) (hy : PE X y ty) (hg : Gl X "list") (hg2 : Gl X "range") (na : starEach [x, y] X.env = (false, eval x X.env) :: starEach [y] X.env := by rfl)
    (nb : starEach [y] X.env = (false, eval y X.env) :: starEach [] X.env := by rfl) (hp : (backTo pos2 (starEach [y] X.env)).any (·.1) = false := by rfl)
    (nc : starEach [Expr.Call (.Name "range" p2) [x, y] [] pos2] X.env = (false, eval (Expr.Call (.Name "range" p2) [x, y] [] pos2) X.env) :: starEach [] X.env := by rfl) :
    PE X (.Call (.Name "list" p) [.Call (.Name "range" p2) [x, y] [] pos2] [] pos) (tLstRg (tRg2 tx ty)) := pe_listRg hc hg n.list_ (prg_2 hg2 n.range hx hy na nb hp) nc
end
/-! ### the addresses of the classes -/
structure Ad where
  Arrangement : Addr
  HugeRow : Addr
  Game : Addr
  Console : Addr
  CardError : Addr
  InvalidRow : Addr
  InvalidPlace : Addr
  InvalidNumber : Addr
  InvalidStep : Addr
  InvalidWord : Addr
  InvalidCode : Addr
  InvalidName : Addr
  InvalidCommand : Addr
  SizeMismatch : Addr
  ParseError : Addr
  LimitExceeded : Addr
  NothingToUndo : Addr
  NothingToRedo : Addr

/-! ### one step of a reading at its head -/
section
variable {σ : L2.St} {H : Hp} {Q : VK} {D : Ends} {te ta tb tc to ti tl : TE} {t u : TS} {g : TG} {c c1 c2 : TT} {aa tr : TA} {x y v w : V} {K : PySem.W.Frag} {sp : Sp} {E : XK} {C : Addr} {r r' : R2} {n i j : Nat}
theorem i_seq (h : t { D with nx := u D } σ H) : tSeq t u D σ H := h
theorem i_asg (h : te σ H fun x H1 => g x σ H1 D.nx) : tAsg te g D σ H := h
theorem i_ret (h : te σ H D.rt) : tRet te D σ H := h
theorem i_retN (h : D.rt .non H) : tRetN D σ H := h
theorem i_ifs (h : c σ H fun b H1 => if b = true then t D σ H1 else u D σ H1) : tIfS c t u D σ H := h
theorem i_next (h : D.nx σ H) : tNext D σ H := h
theorem i_brk (h : D.bk σ H) : tBreak D σ H := h
theorem i_cont (h : D.ct σ H) : tCont D σ H := h
theorem i_drop (h : te σ H fun _ H1 => D.nx σ H1) : tDrop te D σ H := h
theorem i_par (h : aa σ H fun vs H1 => ∃ v w, vs = [v, w] ∧ D.nx ((σ.set i (some v)).set j (some w)) H1) : tPar i j aa D σ H := h
theorem i_aug {tp : TIp} (hx : σ[i]? = some (some x)) (h : te σ H fun y H1 => tp x y H1 fun z H2 => D.nx (σ.set i (some z)) H2) : tAug i te tp D σ H := ⟨x, hx, h⟩
theorem i_gN {R : L2.St → Hp → Prop} (h : R (σ.set i (some v)) H) : gName i v σ H R := h
theorem i_gS {ts : TSet} {R : L2.St → Hp → Prop} (h : to σ H fun o H1 => ti σ H1 fun i H2 => ts o i v H2 fun H3 => R σ H3) : gSub to ti ts v σ H R := h
theorem i_nil {R : List V → Hp → Prop} (h : R [] H) : tNil σ H R := h
theorem i_cons {R : List V → Hp → Prop} (h : te σ H fun x H1 => tr σ H1 fun xs H2 => R (x :: xs) H2) : tCons te tr σ H R := h
theorem i_tup (h : aa σ H fun xs H1 => xs.length ≤ sizeLine ∧ ∀ p, H1 p = none → Q (.ref p) (upd H1 p (.tup xs))) : tTup aa σ H Q := h
theorem i_lst (h : aa σ H fun xs H1 => xs.length ≤ sizeLine ∧ ∀ p, H1 p = none → Q (.ref p) (upd H1 p (.lst xs))) : tLst aa σ H Q := h
theorem i_op (h : ta σ H fun x H1 => tb σ H1 fun y H2 => r x y H2 Q) : tOp r ta tb σ H Q := h
theorem i_un {f : V → Hp → VK → Prop} (h : ta σ H fun x H1 => f x H1 Q) : tUn f ta σ H Q := h
theorem i_test {R : Bool → Hp → Prop} (h : te σ H fun x H' => ∃ k, x = .bl k ∧ R k H') : tTest te σ H R := h
theorem i_B {R : Bool → Hp → Prop} (h : te σ H fun x H' => ∃ k, x = .bl k ∧ R k H') : tB te σ H R := h
theorem i_bl {R : Bool → Prop} {b : Bool} (h : R b) : ∃ k, V.bl b = .bl k ∧ R k := ⟨b, rfl, h⟩
theorem iteN {A B : Prop} (h : B) : if (!true) = true then A else B := iteF h
theorem iteM {A B : Prop} (h : A) : if (!false) = true then A else B := iteT h
theorem i_dT {c A B : Prop} [Decidable c] (hc : c) (h : A) : if decide c = true then A else B := by rw [decide_eq_true hc]; exact iteT h
theorem i_dF {c A B : Prop} [Decidable c] (hc : ¬ c) (h : B) : if decide c = true then A else B := by rw [decide_eq_false hc]; exact iteF h
theorem i_nT {c A B : Prop} [Decidable c] (hc : c) (h : B) : if (!decide c) = true then A else B := by rw [decide_eq_true hc]; exact iteF h
theorem i_nF {c A B : Prop} [Decidable c] (hc : ¬ c) (h : A) : if (!decide c) = true then A else B := by rw [decide_eq_false hc]; exact iteT h
theorem i_not {R : Bool → Hp → Prop} (h : c σ H fun b H1 => R (!b) H1) : tNot c σ H R := h
theorem i_and {R : Bool → Hp → Prop} (h : c1 σ H fun b H1 => if b = true then c2 σ H1 R else R false H1) : tAnd c1 c2 σ H R := h
theorem i_or {R : Bool → Hp → Prop} (h : c1 σ H fun b H1 => if b = true then R true H1 else c2 σ H1 R) : tOr c1 c2 σ H R := h
theorem i_andV (h : ta σ H fun x H1 => ∃ b, x = .bl b ∧ if b = true then tb σ H1 Q else Q (.bl false) H1) : tAndV ta tb σ H Q := h
theorem i_orV (h : ta σ H fun x H1 => ∃ b, x = .bl b ∧ if b = true then Q (.bl true) H1 else tb σ H1 Q) : tOrV ta tb σ H Q := h
theorem i_notV (h : ta σ H fun x H1 => ∃ b, x = .bl b ∧ Q (.bl (!b)) H1) : tNotV ta σ H Q := h
theorem i_if (h : c σ H fun b H1 => if b = true then ta σ H1 Q else tb σ H1 Q) : tIf c ta tb σ H Q := h
theorem i_chain (h : ta σ H fun x H1 => tb σ H1 fun y H2 => r x y H2 fun z H3 => ∃ k, z = .bl k ∧ (if k = true then tc σ H3 fun w' H4 => r' y w' H4 Q else Q (.bl false) H3)) : tChain r r' ta tb tc σ H Q := h
theorem i_cb {f : List V → Hp → VK → Prop} (h : aa σ H fun vs H1 => f vs H1 Q) : tCB f aa σ H Q := h
theorem i_call (h : aa σ H fun vs H1 => sp vs H1 Q E) : tCallR sp E aa σ H Q := h
def MkG (C : Addr) (sp : Sp) (E : XK) (vs : List V) (Q : VK) (H1 : Hp) : Prop := ∀ x dx, H1 x = none → H1 dx = none → dx ≠ x → sp (.ref x :: vs) (upd (upd H1 dx (.own x)) x (.ins C dx [])) (fun v H2 => v = .non ∧ Q (.ref x) H2) E
theorem i_make (h : aa σ H fun vs H1 => MkG C sp E vs Q H1) : tMakeR C sp E aa σ H Q := h
theorem i_smeth (h : ta σ H fun x H1 => x = .ref C ∧ aa σ H1 fun vs H2 => sp vs H2 Q E) : tSMeth C sp E ta aa σ H Q := h
theorem i_prop (h : ta σ H fun x H1 => ∃ a dx fs, x = .ref a ∧ H1 a = some (.ins C dx fs) ∧ sp [.ref a] H1 Q E) : tPropR C sp E ta σ H Q := h
theorem i_fld {f : Str} (h : ta σ H fun x H1 => ∃ a C dx fs v, x = .ref a ∧ H1 a = some (.ins C dx fs) ∧ Cls K C ∧ NoAttr K C f ∧ fs.lookup f = some v ∧ Q v H1) : tFld K ta f σ H Q := h
theorem i_sfld {f : Str} {tv : TE} (h : tv σ H fun y H1 => ta σ H1 fun x H2 => ∃ a C dx fs, x = .ref a ∧ H2 a = some (.ins C dx fs) ∧ Cls K C ∧ NoAttr K C f ∧ fs.length < 1000 ∧ D.nx σ (upd H2 a (.ins C dx (putF f y fs)))) : sFld K ta tv f D σ H := h
theorem i_bm {T : String} {f : V → List V → Hp → VK → Prop} (h : to σ H fun x H1 => tyV K T x H1 ∧ aa σ H1 fun xs H2 => f x xs H2 Q) : tBM K T f to aa σ H Q := h
theorem i_bm0 {T : String} {f : V → List V → Hp → VK → Prop} (h : to σ H fun x H1 => tyV K T x H1 ∧ f x [] H1 Q) : tBM0 K T f to σ H Q := h
theorem i_var (hv : σ[i]? = some (some v)) (h : Q v H) : tVar i σ H Q := ⟨v, hv, h⟩
theorem i_c (h : Q v H) : tC v σ H Q := h
theorem i_rI0 {g : Int → Int → V} {i j : Int} (h : Q (g i j) H) : rI0 g (.int i) (.int j) H Q := ⟨i, j, rfl, rfl, h⟩
theorem i_rI {P : Int → Int → Prop} {g : Int → Int → V} {i j : Int} (hc : P i j) (h : Q (g i j) H) : rI P g (.int i) (.int j) H Q := ⟨i, j, rfl, rfl, hc, h⟩
theorem i_rU {g : Int → V} {i : Int} (h : Q (g i) H) : rU g (.int i) H Q := ⟨i, rfl, h⟩
theorem i_abs {i : Int} (h : Q (.int (absI i)) H) : rAbs [.int i] H Q := ⟨i, rfl, h⟩
theorem i_max2 {i j : Int} (h : Q (.int (if j > i then j else i)) H) : rMax2 [.int i, .int j] H Q := ⟨i, j, rfl, h⟩
theorem i_min2 {i j : Int} (h : Q (.int (if j < i then j else i)) H) : rMin2 [.int i, .int j] H Q := ⟨i, j, rfl, h⟩
theorem i_int1 {k : Bool} (h : Q (.int (if k then 1 else 0)) H) : rInt1 [.bl k] H Q := .inr ⟨k, rfl, h⟩
theorem i_lenL {p : Addr} {xs : List V} (hs : SqL K H p xs) (h : Q (.int (xs.length : Nat)) H) : rLenS K [.ref p] H Q := ⟨p, xs, rfl, .inl hs, h⟩
theorem i_lenT {p : Addr} {xs : List V} (hs : SqT K H p xs) (h : Q (.int (xs.length : Nat)) H) : rLenS K [.ref p] H Q := ⟨p, xs, rfl, .inr hs, h⟩
theorem i_ixL {p : Addr} {xs : List V} {i : Int} (hs : SqL K H p xs) (ha : atI xs i = some v) (h : Q v H) : rIxL K (.ref p) (.int i) H Q := ⟨p, xs, i, v, rfl, rfl, hs, ha, h⟩
theorem i_ixT {p : Addr} {xs : List V} {i : Int} (hs : SqT K H p xs) (ha : atI xs i = some v) (h : Q v H) : rIxT K (.ref p) (.int i) H Q := ⟨p, xs, i, v, rfl, rfl, hs, ha, h⟩
theorem i_setL {p : Addr} {xs : List V} {k : Int} {j : Nat} {R : Hp → Prop} (hs : H p = some (.lst xs)) (hk : ixN xs.length k = some j) (h : R (upd H p (.lst (xs.set j v)))) : rSetL (.ref p) (.int k) v H R := ⟨p, xs, k, j, rfl, rfl, hs, hk, h⟩
theorem i_app {p : Addr} {xs : List V} (hs : H p = some (.lst xs)) (hz : xs.length ≤ 100000) (h : Q .non (upd H p (.lst (xs ++ [v])))) : rAppend (.ref p) [v] H Q := ⟨p, xs, v, rfl, rfl, hs, Nat.lt_of_le_of_lt hz (by decide), h⟩
theorem i_for {wi : TI} (h : wi σ H fun J H1 => ∃ W : Nat → Nat → L2.St → Hp → Prop, (∃ m, W 0 m σ H1) ∧ ∀ i m σ H, W i m σ H →
    (J.stop i H ∧ D.nx σ H) ∨ (J.go i H ∧ ∃ N : L2.St → Hp → Prop, (∀ σ' H', N σ' H' → ∃ m', m' < m ∧ W (i + 1) m' σ' H') ∧ ∀ x H', J.yld i H x H' → g x σ H' fun σ2 H2 => t { D with nx := N, ct := N, bk := D.nx } σ2 H2)) : tFor wi g t D σ H := h
theorem i_lc {wi : TI} {ws : List Nat} (h : wi σ H fun J H1 => ∀ D, H1 D = none → ∃ W : Nat → Nat → Hp → Prop, (∃ m, W 0 m (upd H1 D (.lst []))) ∧ ∀ i m H, W i m H →
    (J.stop i H ∧ Q (.ref D) H) ∨ (J.go i H ∧ ∃ Nx : Hp → Prop, (∀ H', Nx H' → ∃ m', m' < m ∧ W (i + 1) m' H') ∧ ∀ x H', J.yld i H x H' → g x (wipe σ ws) H' fun σ2 H2 => wipe σ2 ws = wipe σ ws ∧ c σ2 H2 fun b H3 =>
      if b = true then te σ2 H3 fun y H4 => ∃ acc, H4 D = some (.lst acc) ∧ acc.length < sizeLine ∧ Nx (upd H4 D (.lst (acc ++ [y]))) else Nx H3)) : tLc wi g c te ws σ H Q := h
theorem i_rng1 {R : It → Hp → Prop} (h : aa σ H fun vs H1 => ∃ j : Int, vs = [.int j] ∧ -(2 ^ 62) ≤ j ∧ j < 2 ^ 62 ∧ R (Itr 0 j.toNat) H1) : iRng1 aa σ H R := h
theorem i_rng2 {R : It → Hp → Prop} (h : aa σ H fun vs H1 => ∃ i j : Int, vs = [.int i, .int j] ∧ (-(2 ^ 62) ≤ i ∧ i < 2 ^ 62 ∧ -(2 ^ 62) ≤ j ∧ j < 2 ^ 62) ∧ R (Itr i (j - i).toNat) H1) : iRng2 aa σ H R := h
theorem i_iL {R : It → Hp → Prop} (h : tl σ H fun x H1 => ∃ a, x = .ref a ∧ (∃ xs, SqL K H1 a xs) ∧ R (Itl K a) H1) : iList K tl σ H R := h
theorem i_iT {R : It → Hp → Prop} (h : tl σ H fun x H1 => ∃ a, x = .ref a ∧ (∃ xs, SqT K H1 a xs) ∧ R (Itt K a) H1) : iTup K tl σ H R := h
theorem i_iLT {R : It → Hp → Prop} (h : tl σ H fun x H1 => ∃ a, x = .ref a ∧ (((∃ xs, SqL K H1 a xs) ∧ R (Itl K a) H1) ∨ ((∃ xs, SqT K H1 a xs) ∧ R (Itt K a) H1))) : iLT K tl σ H R := h
theorem i_iEn {R : It → Hp → Prop} (h : aa σ H fun vs H1 => ∃ a xs, vs = [.ref a] ∧ SqL K H1 a xs ∧ R (Ite K a) H1) : iEnum K aa σ H R := h
theorem i_iZp {R : It → Hp → Prop} (h : aa σ H fun vs H1 => ∃ a b xs ys, vs = [.ref a, .ref b] ∧ SqL K H1 a xs ∧ SqL K H1 b ys ∧ R (Itz K a b) H1) : iZip K aa σ H R := h
theorem i_lr1 (h : ta σ H fun x H1 => ∃ n, x = .int n ∧ RgOk 0 n ∧ ∀ q, H1 q = none → Q (.ref q) (upd H1 q (.lst (rgV 0 n)))) : tLstRg (tRg1 ta) σ H Q := h
theorem i_lr2 (h : ta σ H fun x H1 => tb σ H1 fun y H2 => ∃ i j, x = .int i ∧ y = .int j ∧ RgOk i j ∧ ∀ q, H2 q = none → Q (.ref q) (upd H2 q (.lst (rgV i j)))) : tLstRg (tRg2 ta tb) σ H Q := h
theorem i_gT {n : Nat} {gs : TGs} {R : L2.St → Hp → Prop} (h : ∃ a xs, v = .ref a ∧ SqT K H a xs ∧ xs.length = n ∧ gs xs σ H R) : gTup K n gs v σ H R := h
theorem i_gC {gs : TGs} {R : L2.St → Hp → Prop} {xs : List V} (h : g x σ H fun σ' H' => gs xs σ' H' R) : gCons g gs (x :: xs) σ H R := ⟨x, xs, rfl, h⟩
theorem i_gNil {R : L2.St → Hp → Prop} (h : R σ H) : gNil [] σ H R := ⟨rfl, h⟩
theorem i_sl {f : V → Option Int → Option Int → Hp → VK → Prop} {lo hi : TO} (h : te σ H fun x H1 => lo σ H1 fun l H2 => hi σ H2 fun u H3 => f x l u H3 Q) : tSl f te lo hi σ H Q := h
theorem i_noP {R : Option Int → Hp → Prop} (h : R none H) : tNoPart σ H R := h
theorem i_prt {R : Option Int → Hp → Prop} (h : te σ H fun x H1 => ∃ i, x = .int i ∧ R (some i) H1) : tPart te σ H R := h
theorem i_int {i : Int} {R : Int → Prop} (h : R i) : ∃ j, V.int i = .int j ∧ R j := ⟨i, rfl, h⟩
theorem i_jT (h : to σ H fun x H1 => (∃ a, x = .str a) ∧ te σ H1 fun y H2 => rJoinT K x [y] H2 Q) : tJoinT K to te σ H Q := by
  unfold tJoinT tM1
  exact h
theorem popIx {n : Nat} {i : Int} (h0 : 0 ≤ i) (h1 : i < (n : Int)) : seqIndex? i n = some i.toNat := (ixN_seq (n := n) (i := i) (j := i.toNat) (by unfold ixN; rw [if_pos h0, if_pos h1])).1
theorem i_popAt {p : Addr} {xs : List V} {i : Int} (hs : H p = some (.lst xs)) (h0 : 0 ≤ i) (h1 : i < (xs.length : Int)) (hz : xs.length ≤ 100000) (hx : xs[i.toNat]? = some y) (h : Q y (upd H p (.lst (xs.eraseIdx i.toNat)))) : rPopAt (.ref p) [.int i] H Q :=
  ⟨p, xs, i, i.toNat, y, rfl, rfl, hs, by omega, by omega, popIx h0 h1, hx, h⟩
theorem i_fmt (h : te σ H fun x H1 => (∃ y : Str, x = .str y ∧ y.length ≤ sizeLine ∧ Q (.str y) H1) ∨ ∃ i : Int, x = .int i ∧ i.natAbs.log2 < 1920 ∧ Q (.str (toString i)) H1) : tFmt te σ H Q := h
theorem i_fmt6 (h : te σ H fun x H1 => ∃ i : Int, x = .int i ∧ i.natAbs.log2 < 1920 ∧ (intSpecTextOf spec6 i).length ≤ sizeLine ∧ Q (.str (intSpecTextOf spec6 i)) H1) : tFmt6 te σ H Q := h
theorem i_joined {ts : List TE} (h : tJs ts Str.empty σ H fun out H1 => Q (.str out) H1) : tJoined ts σ H Q := h
theorem i_jsC {ts : List TE} {acc : Str} {R : Str → Hp → Prop} (h : te σ H fun x H1 => ∃ y : Str, x = .str y ∧ (acc ++ y).length ≤ sizeLine ∧ tJs ts (acc ++ y) σ H1 R) : tJs (te :: ts) acc σ H R := h
theorem i_jsN {acc : Str} {R : Str → Hp → Prop} (h : R acc H) : tJs [] acc σ H R := h
theorem i_strI {i : Int} (hi : i.natAbs.log2 < 1920) (h : Q (.str (toString i)) H) : rStrI [.int i] H Q := ⟨i, rfl, hi, h⟩
theorem i_addT {z z' : Str} (hz : z.length + z'.length ≤ sizeLine) (h : Q (.str (z ++ z')) H) : rAddT (.str z) (.str z') H Q := ⟨z, z', rfl, rfl, hz, h⟩
theorem i_lenStr {z : Str} (hz : z.length ≤ sizeLine) (h : Q (.int (z.length : Nat)) H) : rLenT [.str z] H Q := ⟨z, rfl, hz, h⟩
theorem i_eq (hs : scal x y = true) (h : Q (.bl (decide (x = y))) H) : rEq x y H Q := ⟨hs, h⟩
theorem i_ne (hs : scal x y = true) (h : Q (.bl (!decide (x = y))) H) : rNe x y H Q := ⟨hs, h⟩
end
end TC

set_option Elab.async false
set_option linter.all false
set_option maxRecDepth 100000
set_option maxHeartbeats 4000000
/-! Promises and readings of the defs that many laws share. No text of a law stands here. -/
namespace TC
open PySem PySem.Spec PyProof.Rows L2
open PySem.W (Datum Tup)
theorem divOk {i j : Int} (h : 0 < j) (h2 : j ≤ 10000000000000000000000000000000000000000) : CDivW i j :=
  wide_div (b := 200) h (Nat.lt_of_le_of_lt (show j.natAbs ≤ 10000000000000000000000000000000000000000 by omega) (by decide)) (by decide) (by decide)
local macro_rules | `(tactic| walk_at "st") => `(tactic| repeat (first
  | with_reducible refine i_seq ?_ | with_reducible refine i_asg ?_ | with_reducible refine i_ret ?_ | with_reducible refine i_retN ?_ | with_reducible refine i_ifs ?_ | with_reducible refine i_next ?_ | with_reducible refine i_drop ?_
  | with_reducible refine i_par ?_ | with_reducible refine i_gN ?_ | with_reducible refine i_gS ?_ | with_reducible refine i_nil ?_ | with_reducible refine i_cons ?_ | with_reducible refine i_tup ?_ | with_reducible refine i_lst ?_
  | with_reducible refine i_op ?_ | with_reducible refine i_un ?_ | with_reducible refine i_test ?_ | with_reducible refine i_B ?_ | with_reducible refine i_bl ?_ | with_reducible refine i_not ?_ | with_reducible refine i_and ?_ | with_reducible refine i_or ?_
  | with_reducible refine i_andV ?_ | with_reducible refine i_orV ?_ | with_reducible refine i_notV ?_ | with_reducible refine i_if ?_ | with_reducible refine i_chain ?_ | with_reducible refine i_cb ?_ | with_reducible refine i_call ?_ | with_reducible refine i_make ?_
  | with_reducible refine i_smeth ?_ | with_reducible refine i_prop ?_ | with_reducible refine i_fld ?_ | with_reducible refine i_sfld ?_ | with_reducible refine i_bm ?_ | with_reducible refine i_fmt ?_ | with_reducible refine i_fmt6 ?_ | with_reducible refine i_joined ?_ | with_reducible refine i_jsC ?_ | with_reducible refine i_jsN ?_ | with_reducible refine i_for ?_ | with_reducible refine i_rng1 ?_ | with_reducible refine i_rng2 ?_ | with_reducible refine i_iL ?_ | with_reducible refine i_iT ?_ | with_reducible refine i_iLT ?_ | with_reducible refine i_iEn ?_ | with_reducible refine i_iZp ?_ | with_reducible refine i_lr1 ?_ | with_reducible refine i_lr2 ?_ | with_reducible refine i_gT ?_ | with_reducible refine i_gC ?_ | with_reducible refine i_gNil ?_ | with_reducible refine i_sl ?_ | with_reducible refine i_noP ?_ | with_reducible refine i_prt ?_ | with_reducible refine i_int ?_ | with_reducible refine i_jT ?_ | with_reducible refine i_bm0 ?_
  | ((with_reducible refine' i_var ?hv ?_); (case hv => exact rfl)) | with_reducible refine i_c ?_ | with_reducible refine i_rI0 ?_ | with_reducible refine i_rU ?_ | with_reducible refine i_abs ?_ | with_reducible refine i_max2 ?_ | with_reducible refine i_min2 ?_ | with_reducible refine i_int1 ?_
  | ((with_reducible refine' i_rI ?hc ?_); (case hc => first | (show (0 : Int) < _; first | decide | omega) | (refine Or.inl (Or.inl ?_); constructor <;> first | decide | omega) | (refine Or.inl (Or.inr ?_); constructor <;> first | decide | omega) | (refine divOk ?_ ?_ <;> first | decide | omega) | (refine ⟨?_, ?_, ?_⟩ <;> first | decide | omega)))
  | with_reducible refine iteT ?_ | with_reducible refine iteF ?_ | with_reducible refine iteN ?_ | with_reducible refine iteM ?_))
/-- a reading, from the call to what it hands back -/
def Run (t : TS) (n : Nat) (vs : List V) (H : Hp) (Q : VK) : Prop := t { nx := fun _ H' => Q .non H', rt := Q } (vs.map some ++ List.replicate (n - vs.length) none) H
section
variable {K : PySem.W.Frag} {a : Ad} {H H' : Hp} {Q : VK} {E : XK} {vs : List V}

/-! ### is_integer -/
def IntQ (K : PySem.W.Frag) (H : Hp) (v : V) (b : Bool) : Prop :=
  (∃ i, v = .int i ∧ b = true) ∨ (b = false ∧ ∃ (t : Value) (b1 b2 : Bool), TyX K H v t ∧ PySem.W.kitOne K t (.type "int") = some b1 ∧ PySem.W.kitOne K t (.type "bool") = some b2 ∧ (b1 && !b2) = false)
theorem IntQ.int (i : Int) : IntQ K H (.int i) true := .inl ⟨i, rfl, rfl⟩
def sp_is_integer (K : PySem.W.Frag) (a : Ad) : Sp := fun vs H Q _ => vs.length = 1 ∧ ∃ v b, vs = [v] ∧ IntQ K H v b ∧ Q (.bl b) H
def t_is_integer (K : PySem.W.Frag) (a : Ad) : TS := tRet (tAndV (tCB (rIsi K) (tCons (tVar 0) (tCons (tC (.ty "int")) (tNil)))) (tNotV (tCB (rIsi K) (tCons (tVar 0) (tCons (tC (.ty "bool")) (tNil))))))
theorem pure_is_integer (h : sp_is_integer K a vs H Q E) : Run (t_is_integer K a) 1 vs H Q := by
  obtain ⟨_, v, b, rfl, hq, q⟩ := h
  have go : ∀ (t : Value) (b1 b2 : Bool), TyX K H v t → PySem.W.kitOne K t (.type "int") = some b1 → PySem.W.kitOne K t (.type "bool") = some b2 → (b1 && !b2) = b → Run (t_is_integer K a) 1 [v] H Q := by
    intro t b1 b2 ty e1 e2 e3
    subst e3
    refine ⟨v, rfl, v, _, t, _, b1, rfl, .ty "int", ty, e1, b1, rfl, ?_⟩
    cases b1 with
    | true => exact iteT ⟨v, rfl, v, _, t, _, b2, rfl, .ty "bool", ty, e2, b2, rfl, q⟩
    | false => exact iteF q
  rcases hq with ⟨i, rfl, rfl⟩ | ⟨rfl, t, b1, b2, ty, e1, e2, e3⟩
  · exact go _ true false (.base (.int i)) (kit_ty (by decide +kernel)) (kit_ty (by decide +kernel)) rfl
  · exact go t b1 b2 ty e1 e2 e3

/-! ### rows -/
def IsRow (ns : List Int) : Prop := 1 ≤ ns.length ∧ ns.length ≤ 2000 ∧ (ns.map absI).Perm (rgI 1 ns.length)
theorem tyx_L {p : Addr} {xs : List V} (h : SqL K H p xs) : TyX K H (.ref p) (.type "list") := by
  rcases h with (h | ⟨o, h⟩) | ⟨o, its, n, h1, h2, _⟩
  · exact .base (.lst h)
  · exact .base (.frz h)
  · exact .kList h1 h2
theorem tyx_T {p : Addr} {xs : List V} (h : SqT K H p xs) : TyX K H (.ref p) (.type "tuple") := by
  rcases h with (h | ⟨o, h⟩) | ⟨o, its, n, h1, h2, _⟩
  · exact .base (.tup h)
  · exact .fTuple h
  · exact .kTuple h1 h2

/-- what is_row answers of a list or tuple of xs -/
def RowAns (xs : List V) (b : Bool) : Prop := b = true ↔ ∃ ns : List Int, xs = ns.map V.int ∧ IsRow ns
/-- all items are ints or known not to be -/
theorem ints_of {xs : List V} {f : V → Bool} (hf : ∀ x ∈ xs, IntQ K H x (f x)) : xs.all f = true → ∃ ns : List Int, xs = ns.map V.int := by
  induction xs with
  | nil => exact fun _ => ⟨[], rfl⟩
  | cons x xs ih =>
    intro h
    rw [List.all_cons, Bool.and_eq_true] at h
    obtain ⟨ns, rfl⟩ := ih (fun y hy => hf y (List.mem_cons_of_mem _ hy)) h.2
    rcases hf x List.mem_cons_self with ⟨i, rfl, _⟩ | ⟨e, _⟩
    · exact ⟨i :: ns, rfl⟩
    · rw [h.1] at e
      cases e
theorem TyX.same {v : V} {t : Value} (e : Same H H') (h : TyX K H v t) : TyX K H' v t := by
  cases h with
  | base b =>
    refine .base ?_
    cases b with
    | non => exact .non
    | bl x => exact .bl x
    | int x => exact .int x
    | str x => exact .str x
    | flt x => exact .flt x
    | lst q => exact .lst (e _ _ q)
    | frz q => exact .frz (e _ _ q)
    | tup q => exact .tup (e _ _ q)
    | dK q => exact .dK (e _ _ q)
    | dT q => exact .dT (e _ _ q)
    | ins q c1 c2 c3 c4 c5 => exact .ins (e _ _ q) c1 c2 c3 c4 c5
  | byt b => exact .byt b
  | set q => exact .set (e _ _ q)
  | kList q c => exact .kList q c
  | kTuple q c => exact .kTuple q c
  | kDict q c => exact .kDict q c
  | fTuple q => exact .fTuple (e _ _ q)
  | fDict q => exact .fDict (e _ _ q)
theorem IntQ.same {v : V} {b : Bool} (e : Same H H') (h : IntQ K H v b) : IntQ K H' v b := by
  rcases h with h | ⟨rfl, t, b1, b2, ty, r⟩
  · exact .inl h
  · exact .inr ⟨rfl, t, b1, b2, TyX.same e ty, r⟩
def sp_Arrangement_is_row (K : PySem.W.Frag) (a : Ad) : Sp := fun vs H Q _ => vs.length = 1 ∧ ∃ v, vs = [v] ∧
  ((∃ p xs, v = .ref p ∧ (SqL K H p xs ∨ SqT K H p xs) ∧ (∀ x ∈ xs, ∃ b, IntQ K H x b) ∧ xs.length ≤ 100000 ∧ ∀ b H', Same H H' → RowAns xs b → Q (.bl b) H') ∨
   (∃ t, TyX K H v t ∧ PySem.W.kitAny K t [.type "list", .type "tuple"] = some false ∧ ∀ H', Same H H' → Q (.bl false) H'))
def t_Arrangement_is_row (K : PySem.W.Frag) (a : Ad) : TS := tSeq (tIfS (tOr (tNot (tB (tCB (rIsiT K) (tCons (tVar 0) (tCons (tTup (tCons (tC (.ty "list")) (tCons (tC (.ty "tuple")) (tNil)))) (tNil)))))) (tNot (tTest (tChain (rLeI) (rLeI) (tC (.int 1)) (tCB (rLenS K) (tCons (tVar 0) (tNil))) (tC (.int 2000)))))) (tRet (tC (.bl false))) (tNext))
  (tSeq (tIfS (tNot (tB (tCB (rAll K) (tCons (tLc (iLT K (tVar 0)) (gName 1) (tYes) (tCallR (sp_is_integer K a) E0 (tCons (tVar 1) (tNil))) [1]) (tNil))))) (tRet (tC (.bl false))) (tNext))
  (tRet (tOp (rEqX K) (tCB (rSortedI K) (tCons (tLc (iLT K (tVar 0)) (gName 1) (tYes) (tCB (rAbs) (tCons (tVar 1) (tNil))) [1]) (tNil))) (tLstRg (tRg2 (tC (.int 1)) (tOp (rAddI) (tCB (rLenS K) (tCons (tVar 0) (tNil))) (tC (.int 1))))))))
theorem kit_lt_L : PySem.W.kitAny K (.type "list") [.type "list", .type "tuple"] = some true := kitAny_cons (b := true) (kit_ty (by decide +kernel)) (fun z => by cases z) (fun _ => rfl)
theorem kit_lt_T : PySem.W.kitAny K (.type "tuple") [.type "list", .type "tuple"] = some true :=
  kitAny_cons (b := false) (kit_ty (by decide +kernel)) (fun _ => kitAny_cons (b := true) (kit_ty (by decide +kernel)) (fun z => by cases z) (fun _ => rfl)) (fun z => by cases z)
theorem sq_same {p : Addr} {xs : List V} (e : Same H H') (h : SqL K H p xs ∨ SqT K H p xs) : SqL K H' p xs ∨ SqT K H' p xs := h.elim (fun z => .inl (e.seq z)) fun z => .inr (Same.seqT e z)
theorem pw_rg (lo : Int) (n : Nat) : (rgI lo n).Pairwise (· ≤ ·) := by
  unfold rgI
  rw [List.pairwise_map]
  exact List.pairwise_lt_range.imp fun h => by omega
theorem rgV_eq (b : Int) (n : Nat) (lo : Int) (h : b - lo = (n : Int)) : rgV lo b = (rgI lo n).map V.int := by
  unfold rgV rgI
  rw [h, List.map_map]
  rfl
theorem seq_len {p : Addr} {xs : List V} (h : SqL K H p xs ∨ SqT K H p xs) {R : VK} (q : R (.int xs.length) H) : rLenS K [.ref p] H R := ⟨p, xs, rfl, h, q⟩
/-- the comprehension over a list or a tuple: f of each item -/
theorem lt_map {p : Addr} {xs : List V} {σ : L2.St} {te : TE} {ws : List Nat} {j : Nat} {R : VK} (f : V → V) (h : SqL K H p xs ∨ SqT K H p xs) (hz : xs.length ≤ 100000) (hw : ∀ x, wipe ((wipe σ ws).set j (some x)) ws = wipe σ ws)
    (he : ∀ x ∈ xs, ∀ H2, Same H H2 → ∀ R : VK, (∀ H3, Same H2 H3 → R (f x) H3) → te ((wipe σ ws).set j (some x)) H2 R)
    (k : ∀ D H', H D = none → Same H H' → H' D = some (.lst (xs.map f)) → R (.ref D) H') {tl : TE} (htl : ∀ S : VK, S (.ref p) H → tl σ H S) : tLc (iLT K tl) (gName j) tYes te ws σ H R := by
  refine htl _ ?_
  have k' : ∀ D H', H D = none → Same H H' → H' D = some (.lst ((xs.filter fun _ => true).map f)) → R (.ref D) H' := fun D H' h1 h2 h3 => k D H' h1 h2 (by rw [List.filter_eq_self.mpr (fun _ _ => rfl)] at h3; exact h3)
  refine ⟨p, rfl, ?_⟩
  rcases h with h | h
  · exact .inl ⟨⟨xs, h⟩, lc_fmL h (fun _ => true) f hz hw (fun x _ H2 _ R q => q H2 (Same.refl _)) (fun x hx _ => he x hx) k'⟩
  · exact .inr ⟨⟨xs, h⟩, lc_fmT h (fun _ => true) f hz hw (fun x _ H2 _ R q => q H2 (Same.refl _)) (fun x hx _ => he x hx) k'⟩
theorem inj_ints : ∀ l1 l2 : List Int, l1.map V.int = l2.map V.int → l1 = l2
  | [], [], _ => rfl
  | [], _ :: _, h => by cases h
  | _ :: _, [], h => by cases h
  | x :: xs, y :: ys, h => by
    rw [List.map_cons, List.map_cons, List.cons.injEq] at h
    rw [V.int.inj h.1, inj_ints _ _ h.2]
theorem pure_Arrangement_is_row (h : sp_Arrangement_is_row K a vs H Q E) : Run (t_Arrangement_is_row K a) 2 vs H Q := by
  obtain ⟨_, v, rfl, h⟩ := h
  unfold Run t_Arrangement_is_row
  rcases h with ⟨p, xs, rfl, hs, hi, hz, q⟩ | ⟨t, ty, ek, q⟩
  · -- a list or a tuple
    walk_at "st"
    refine ⟨by show 2 ≤ sizeLine; decide, fun tp htp => ?_⟩
    walk_at "st"
    have s1 : Same H (upd H tp (.tup [.ty "list", .ty "tuple"])) := Same.new htp
    have isi : ∀ R : VK, R (.bl true) (upd H tp (.tup [.ty "list", .ty "tuple"])) → rIsiT K [.ref p, .ref tp] (upd H tp (.tup [.ty "list", .ty "tuple"])) R := by
      rcases hs with hs | hs
      · exact fun R r => ⟨.ref p, tp, [.ty "list", .ty "tuple"], _, [.type "list", .type "tuple"], true, rfl, upd_same, .cons (.ty _) (.cons (.ty _) .nil), TyX.same s1 (tyx_L hs), kit_lt_L, r⟩
      · exact fun R r => ⟨.ref p, tp, [.ty "list", .ty "tuple"], _, [.type "list", .type "tuple"], true, rfl, upd_same, .cons (.ty _) (.cons (.ty _) .nil), TyX.same s1 (tyx_T hs), kit_lt_T, r⟩
    refine isi _ ?_
    walk_at "st"
    have hs1 := sq_same s1 hs
    refine ⟨p, xs, rfl, hs1, ?_⟩
    walk_at "st"
    have no : ∀ H', Same H H' → (¬ (1 ≤ xs.length ∧ xs.length ≤ 2000)) → Q (.bl false) H' := fun H' e hn => q false H' e ⟨fun z => (by cases z), fun ⟨ns, e1, r1, r2, _⟩ => (hn (by rw [e1, List.length_map]; exact ⟨r1, r2⟩)).elim⟩
    by_cases h1 : (1 : Int) ≤ (xs.length : Int)
    · refine i_dT h1 ?_
      walk_at "st"
      by_cases h2 : (xs.length : Int) ≤ 2000
      · refine i_nT h2 ?_
        walk_at "st"
        have hf : ∃ f : V → Bool, ∀ x ∈ xs, IntQ K H x (f x) := by
          classical
          refine ⟨fun x => if h : ∃ b, IntQ K H x b then h.choose else false, fun x hx => ?_⟩
          have := hi x hx
          dsimp only
          rw [dif_pos this]
          exact this.choose_spec
        obtain ⟨f, hf⟩ := hf
        refine lt_map (p := p) (fun x => .bl (f x)) hs1 hz (fun _ => rfl) (fun x hx H2 e2 R r => ?_) (fun D H' hD e2 hl => ?_) (fun S z => i_var rfl z)
        · walk_at "st"
          exact ⟨rfl, x, f x, rfl, (hf x hx).same (s1.trans e2), r H2 (Same.refl _)⟩
        walk_at "st"
        have e3 : xs.map (fun x => V.bl (f x)) = (xs.map f).map V.bl := by rw [List.map_map]; rfl
        rw [e3] at hl
        refine ⟨D, xs.map f, rfl, SqL.of hl, ?_⟩
        walk_at "st"
        have e5 : (xs.map f).all id = xs.all f := by rw [List.all_map]; rfl
        rw [e5]
        cases ha : xs.all f with
        | false =>
          walk_at "st"
          refine q false H' (s1.trans e2) ⟨fun z => (by cases z), fun ⟨ns, e1, _⟩ => ?_⟩
          have : xs.all f = true := List.all_eq_true.mpr fun x hx => by
            rcases hf x hx with ⟨i, _, e⟩ | ⟨_, t, b1, b2, ty, k1, k2, k3⟩
            · exact e
            · rw [e1] at hx
              obtain ⟨i, _, rfl⟩ := List.mem_map.mp hx
              cases ty with
              | base b =>
                cases b
                have z1 : PySem.W.kitOne K (.type "int") (.type "int") = some true := kit_ty (by decide +kernel)
                have z2 : PySem.W.kitOne K (.type "int") (.type "bool") = some false := kit_ty (by decide +kernel)
                rw [z1] at k1
                rw [z2] at k2
                cases k1
                cases k2
                cases k3
          rw [this] at ha
          cases ha
        | true =>
          walk_at "st"
          obtain ⟨ns, rfl⟩ := ints_of hf ha
          rw [List.length_map] at h1 h2 hz
          have hs2 := sq_same e2 hs1
          refine lt_map (p := p) (fun x => match x with | .int i => .int (absI i) | y => y) hs2 (by rw [List.length_map]; exact hz) (fun _ => rfl) (fun x hx H3 e3 R r => ?_) (fun D2 H2 hD2 e3 hl2 => ?_) (fun S z => i_var rfl z)
          · obtain ⟨i, _, rfl⟩ := List.mem_map.mp hx
            walk_at "st"
            exact r H3 (Same.refl _)
          have e4 : (ns.map V.int).map (fun x => match x with | .int i => V.int (absI i) | y => y) = (ns.map absI).map V.int := by rw [List.map_map, List.map_map]; rfl
          rw [e4] at hl2
          walk_at "st"
          refine ⟨D2, ns.map absI, rfl, SqL.of hl2, fun ns' p2 hp ho hn2 => ?_⟩
          have hs3 := sq_same (Same.new (o := .lst (ns'.map V.int)) hn2) (sq_same e3 hs2)
          walk_at "st"
          refine ⟨p, _, rfl, hs3, ?_⟩
          walk_at "st"
          refine ⟨_, _, rfl, rfl, ?_, fun p3 hp3 => ?_⟩
          · rw [List.length_map]
            exact RgOk.of_le (by omega) (by omega) (by omega) (by omega)
          have n3 : p2 ≠ p3 := ne_of_none upd_same hp3
          refine eq_hd (hd_intsL (ns := ns') (SqL.of ?_)) (hd_intsL (ns := rgI 1 ns.length) (SqL.of ?_)) (q _ _ ?_ ?_)
          · rw [upd_ne n3, upd_same]
          · rw [upd_same, rgV_eq _ ns.length 1 (by rw [List.length_map]; omega)]
          · exact (((s1.trans e2).trans e3).trans (Same.new hn2)).trans (Same.new hp3)
          · rw [RowAns, decide_eq_true_eq]
            constructor
            · intro e
              exact ⟨ns, rfl, by omega, by omega, by rw [← e]; exact hp.symm⟩
            · rintro ⟨ms, e1, r1, r2, r3⟩
              have e2 := inj_ints _ _ e1
              subst e2
              exact List.Perm.eq_of_pairwise (fun x y _ _ h1 h2 => Int.le_antisymm h1 h2) ho (pw_rg _ _) (hp.trans r3)
      · refine i_nF h2 ?_
        walk_at "st"
        exact no _ s1 (by omega)
    · refine i_dF h1 ?_
      walk_at "st"
      exact no _ s1 (by omega)
  · walk_at "st"
    refine ⟨by show 2 ≤ sizeLine; decide, fun tp htp => ?_⟩
    walk_at "st"
    refine ⟨v, tp, [.ty "list", .ty "tuple"], t, [.type "list", .type "tuple"], false, rfl, upd_same, .cons (.ty _) (.cons (.ty _) .nil), TyX.same (Same.new htp) ty, ek, ?_⟩
    walk_at "st"
    exact q _ (Same.new htp)

/-! ### the class Arrangement -/
/-- what of the class the readings ask -/
structure ArrC (K : PySem.W.Frag) (a : Ad) : Prop where
  cl : Cls K a.Arrangement
  no : NoAttr K a.Arrangement "cards"
def ArrAt (K : PySem.W.Frag) (a : Ad) (H : Hp) (x : Addr) (row : List Int) : Prop :=
  ∃ dx t, H x = some (.ins a.Arrangement dx [("cards", .ref t)]) ∧ SqT K H t (row.map V.int) ∧ IsRow row
theorem ArrAt.same {x : Addr} {row : List Int} (e : Same H H') (h : ArrAt K a H x row) : ArrAt K a H' x row := by
  obtain ⟨dx, t, h1, h2, h3⟩ := h
  exact ⟨dx, t, e _ _ h1, Same.seqT e h2, h3⟩
/-- H' knows all that H knows, but for what stands at x -/
def Off (x : Addr) (H H' : Hp) : Prop := ∀ b o, b ≠ x → H b = some o → H' b = some o
theorem Off.refl (x : Addr) (H : Hp) : Off x H H := fun _ _ _ h => h
theorem sm_off {x : Addr} (e : Same H H') : Off x H H' := fun b o _ h => e b o h
theorem Off.trans {x : Addr} {H1 : Hp} (e : Off x H H1) (e2 : Off x H1 H') : Off x H H' := fun b o n h => e2 b o n (e b o n h)
theorem Off.upd {x : Addr} {o : HO} (e : Off x H H') : Off x H (upd H' x o) := fun b u n h => by rw [upd_ne n]; exact e b u n h
theorem Off.sqT {x p : Addr} {xs : List V} {o : HO} (e : Off x H H') (hx : H x = some o) (ht : ∀ zs, o ≠ .tup zs) (hf : ∀ q zs, o ≠ .frz q (.tup zs)) (h : SqT K H p xs) : SqT K H' p xs := by
  rcases h with (h | ⟨q, h⟩) | h
  · exact .inl (.inl (e _ _ (ne_of h hx (fun z => ht _ z.symm)) h))
  · exact .inl (.inr ⟨q, e _ _ (ne_of h hx (fun z => hf _ _ z.symm)) h⟩)
  · exact .inr h
theorem Off.sqL {x p : Addr} {xs : List V} {o : HO} (e : Off x H H') (hx : H x = some o) (ht : ∀ zs, o ≠ .lst zs) (hf : ∀ q zs, o ≠ .frz q (.lst zs)) (h : SqL K H p xs) : SqL K H' p xs := by
  rcases h with (h | ⟨q, h⟩) | h
  · exact .inl (.inl (e _ _ (ne_of h hx (fun z => ht _ z.symm)) h))
  · exact .inl (.inr ⟨q, e _ _ (ne_of h hx (fun z => hf _ _ z.symm)) h⟩)
  · exact .inr h
/-- what was not there may be anything -/
theorem Off.all {x : Addr} (e : Off x H H') (n : H x = none) : Same H H' := fun b o h => e b o (ne_of_none h n) h
theorem intq_ints {ns : List Int} : ∀ x ∈ ns.map V.int, ∃ b, IntQ K H x b := fun x hx => by
  obtain ⟨i, _, rfl⟩ := List.mem_map.mp hx
  exact ⟨true, .int i⟩
/-- Arrangement(row), row an arrangement -/
def sp_Arrangement___init__ (K : PySem.W.Frag) (a : Ad) : Sp := fun vs H Q _ => vs.length = 2 ∧ ∃ (x dx p : Addr) (ns : List Int), vs = [.ref x, .ref p] ∧ H x = some (.ins a.Arrangement dx []) ∧ (SqL K H p (ns.map V.int) ∨ SqT K H p (ns.map V.int)) ∧ IsRow ns ∧
  ∀ H', Off x H H' → ArrAt K a H' x ns → Q .non H'
def t_Arrangement___init__ (K : PySem.W.Frag) (a : Ad) : TS := tSeq (tIfS (tNot (tB (tSMeth a.Arrangement (sp_Arrangement_is_row K a) E0 (tC (.ref a.Arrangement)) (tCons (tVar 1) (tNil))))) (tNever) (tNext))
  (sFld K (tVar 0) (tCB (rTupS K) (tCons (tVar 1) (tNil))) "cards")
theorem pure_Arrangement___init__ (c : ArrC K a) (h : sp_Arrangement___init__ K a vs H Q E) : Run (t_Arrangement___init__ K a) 2 vs H Q := by
  obtain ⟨_, x, dx, p, ns, rfl, hx, hs, hr, q⟩ := h
  unfold Run t_Arrangement___init__
  walk_at "st"
  refine ⟨rfl, ?_⟩
  walk_at "st"
  refine ⟨rfl, _, rfl, .inl ⟨p, _, rfl, hs, intq_ints, ?_, fun b H1 e1 ans => ?_⟩⟩
  · rw [List.length_map]
    exact Nat.le_trans hr.2.1 (by decide)
  obtain rfl : b = true := ans.mpr ⟨ns, rfl, hr⟩
  walk_at "st"
  have hx1 := e1 _ _ hx
  have fin : ∀ t H2, Same H1 H2 → SqT K H2 t (ns.map V.int) → sFld K (tVar 0) (fun _ _ R => R (.ref t) H2) "cards" { nx := fun _ H' => Q .non H', rt := Q } [some (.ref x), some (.ref p)] H := fun t H2 e2 ht => by
    have hx2 := e2 _ _ hx1
    walk_at "st"
    refine ⟨x, _, dx, _, rfl, hx2, c.cl, c.no, by decide, ?_⟩
    have off : Off x H2 (upd H2 x (.ins a.Arrangement dx [("cards", .ref t)])) := Off.upd (Off.refl x H2)
    exact q _ (((sm_off e1).trans (sm_off e2)).trans off) ⟨dx, t, upd_same, off.sqT hx2 (fun _ z => by cases z) (fun _ _ z => by cases z) ht, hr⟩
  rcases sq_same e1 hs with h1 | h1
  · exact ⟨p, _, rfl, .inl ⟨h1, fun t ht => fin t _ (Same.new ht) (SqT.of upd_same)⟩⟩
  · exact ⟨p, _, rfl, .inr ⟨h1, fin p _ (Same.refl _) h1⟩⟩
def sp_Arrangement_row (K : PySem.W.Frag) (a : Ad) : Sp := fun vs H Q _ => vs.length = 1 ∧ ∃ x row, vs = [.ref x] ∧ ArrAt K a H x row ∧ ∀ t, SqT K H t (row.map V.int) → Q (.ref t) H
def t_Arrangement_row (K : PySem.W.Frag) (a : Ad) : TS := tRet (tFld K (tVar 0) "cards")
theorem pure_Arrangement_row (c : ArrC K a) (h : sp_Arrangement_row K a vs H Q E) : Run (t_Arrangement_row K a) 1 vs H Q := by
  obtain ⟨_, x, row, rfl, ⟨dx, t, h1, h2, _⟩, q⟩ := h
  unfold Run t_Arrangement_row
  walk_at "st"
  exact ⟨x, _, dx, _, .ref t, rfl, h1, c.cl, c.no, rfl, q t h2⟩
def sp_Arrangement___len__ (K : PySem.W.Frag) (a : Ad) : Sp := fun vs H Q _ => vs.length = 1 ∧ ∃ x row, vs = [.ref x] ∧ ArrAt K a H x row ∧ Q (.int (row.length : Nat)) H
def t_Arrangement___len__ (K : PySem.W.Frag) (a : Ad) : TS := tRet (tCB (rLenS K) (tCons (tFld K (tVar 0) "cards") (tNil)))
theorem pure_Arrangement___len__ (c : ArrC K a) (h : sp_Arrangement___len__ K a vs H Q E) : Run (t_Arrangement___len__ K a) 1 vs H Q := by
  obtain ⟨_, x, row, rfl, ⟨dx, t, h1, h2, _⟩, q⟩ := h
  unfold Run t_Arrangement___len__
  walk_at "st"
  refine ⟨x, _, dx, _, .ref t, rfl, h1, c.cl, c.no, rfl, ?_⟩
  walk_at "st"
  refine i_lenT h2 ?_
  rw [List.length_map]
  exact q

/-! ### the law's pool of random numbers -/
/-- a pool stands at p: its two numbers are not negative, the second is small -/
def PoolAt (H : Hp) (p : Addr) : Prop := ∃ A B : Int, H p = some (.lst [.int A, .int B]) ∧ 0 ≤ A ∧ 0 ≤ B ∧ B < 2147483647
def sp__law_pool (K : PySem.W.Frag) (a : Ad) : Sp := fun vs H Q _ => vs.length = 2 ∧ ∃ (s : Addr) (ns : List Int) (k : Int), vs = [.ref s, .int k] ∧ SqL K H s (ns.map V.int) ∧ 0 ≤ k ∧ k < 1000 ∧
  ∀ p o, H p = none → PoolAt (upd H p o) p → Q (.ref p) (upd H p o)
def t__law_pool (K : PySem.W.Frag) (a : Ad) : TS := tSeq (tAsg (tC (.int 0)) (gName 2))
  (tSeq (tIfS (tTest (tOp (rLtI) (tVar 1) (tCB (rLenS K) (tCons (tVar 0) (tNil))))) (tAsg (tCB (rAbs) (tCons (tOp (rIxL K) (tVar 0) (tVar 1)) (tNil))) (gName 2)) (tNext))
  (tSeq (tAsg (tOp (rModI) (tOp (rMulI) (tOp (rAddI) (tOp (rAddI) (tOp (rAddI) (tOp (rModI) (tVar 2) (tC (.int 2147483629))) (tOp (rMulI) (tOp (rMulI) (tC (.int 7919)) (tVar 1)) (tVar 1))) (tOp (rMulI) (tC (.int 31)) (tVar 1))) (tC (.int 17))) (tC (.int 48271))) (tC (.int 2147483647))) (gName 3))
  (tRet (tLst (tCons (tOp (rMulI) (tVar 2) (tCB (rInt1) (tCons (tOp (rGeI) (tVar 2) (tOp (rPowI) (tC (.int 10)) (tC (.int 18)))) (tNil)))) (tCons (tOp (rModI) (tOp (rMulI) (tVar 3) (tVar 3)) (tC (.int 2147483629))) (tNil)))))))
theorem pure__law_pool (h : sp__law_pool K a vs H Q E) : Run (t__law_pool K a) 4 vs H Q := by
  obtain ⟨_, s, ns, k, rfl, hs, k0, k1, q⟩ := h
  unfold Run t__law_pool
  have fin : ∀ (c m : Int) (b : Bool), 0 ≤ c → [V.int (c * if b = true then 1 else 0), V.int (m % 2147483629)].length ≤ sizeLine ∧ ∀ p, H p = none → Q (.ref p) (upd H p (.lst [V.int (c * if b = true then 1 else 0), V.int (m % 2147483629)])) := by
    intro c m b hc
    refine ⟨by show 2 ≤ sizeLine; decide, fun p hp => q p _ hp ⟨_, _, upd_same, ?_, by omega, by omega⟩⟩
    cases b with
    | true => rw [if_pos rfl]; omega
    | false => rw [if_neg Bool.false_ne_true]; omega
  walk_at "st"
  refine i_lenL hs ?_
  walk_at "st"
  by_cases hk : k < ((ns.map V.int).length : Nat)
  · refine i_dT hk ?_
    walk_at "st"
    rw [List.length_map] at hk
    have hg : (ns.map V.int)[k.toNat]? = some (.int (ns.getD k.toNat 0)) := by
      rw [List.getElem?_map, List.getD_eq_getElem?_getD]
      cases e : ns[k.toNat]? with
      | none =>
        have := List.getElem?_eq_none_iff.mp e
        omega
      | some z => rfl
    have ek : k = ((k.toNat : Nat) : Int) := by omega
    refine i_ixL hs (by rw [ek]; exact atI_nat hg) ?_
    walk_at "st"
    refine fin _ _ _ ?_
    unfold absI
    split <;> omega
  · refine i_dF hk ?_
    walk_at "st"
    exact fin 0 _ _ (Int.le_refl 0)
/-- all but what stands at p is as it was -/
def Kept (p : Addr) (H H' : Hp) : Prop := ∀ b, b ≠ p → H' b = H b
theorem Kept.off {p : Addr} (k : Kept p H H') : Off p H H' := fun b o n h => (k b n).trans h
def sp__law_take (K : PySem.W.Frag) (a : Ad) : Sp := fun vs H Q _ => vs.length = 2 ∧ ∃ (p : Addr) (m : Int), vs = [.ref p, .int m] ∧ PoolAt H p ∧ 0 < m ∧ m ≤ 10000000000000000000000000000000000000000 ∧
  ∀ r H', 0 ≤ r → r < m → Kept p H H' → PoolAt H' p → Q (.int r) H'
def t__law_take (K : PySem.W.Frag) (a : Ad) : TS := tSeq (tIfS (tTest (tOp (rGtI) (tOp (rIxL K) (tVar 0) (tC (.int 0))) (tC (.int 0)))) (tSeq (tAsg (tOp (rModI) (tOp (rIxL K) (tVar 0) (tC (.int 0))) (tVar 1)) (gName 2))
  (tSeq (tAsg (tOp (rDivI) (tOp (rIxL K) (tVar 0) (tC (.int 0))) (tVar 1)) (gSub (tVar 0) (tC (.int 0)) rSetL))
  (tRet (tVar 2)))) (tNext))
  (tSeq (tAsg (tOp (rModI) (tOp (rAddI) (tOp (rMulI) (tOp (rIxL K) (tVar 0) (tC (.int 1))) (tC (.int 48271))) (tC (.int 12345))) (tC (.int 2147483647))) (gSub (tVar 0) (tC (.int 1)) rSetL))
  (tRet (tOp (rModI) (tOp (rDivI) (tOp (rModI) (tOp (rMulI) (tOp (rIxL K) (tVar 0) (tC (.int 1))) (tOp (rIxL K) (tVar 0) (tC (.int 1)))) (tC (.int 2147483629))) (tC (.int 64))) (tVar 1))))
theorem pure__law_take (h : sp__law_take K a vs H Q E) : Run (t__law_take K a) 3 vs H Q := by
  obtain ⟨_, p, m, rfl, ⟨A, B, hp, A0, B0, B1⟩, m0, m1, q⟩ := h
  unfold Run t__law_take
  walk_at "st"
  refine i_ixL (SqL.of hp) (v := .int A) rfl ?_
  walk_at "st"
  by_cases hA : 0 < A
  · refine i_dT hA ?_
    walk_at "st"
    refine i_ixL (SqL.of hp) (v := .int A) rfl ?_
    walk_at "st"
    refine i_ixL (SqL.of hp) (v := .int A) rfl ?_
    walk_at "st"
    refine i_setL hp (j := 0) rfl ?_
    walk_at "st"
    exact q _ _ (Int.emod_nonneg _ (by omega)) (Int.emod_lt_of_pos _ m0) (fun b n => upd_ne n) ⟨_, B, upd_same, Int.ediv_nonneg A0 (by omega), B0, B1⟩
  · refine i_dF hA ?_
    walk_at "st"
    refine i_ixL (SqL.of hp) (v := .int B) rfl ?_
    walk_at "st"
    refine i_setL hp (j := 1) rfl ?_
    walk_at "st"
    have hp2 : upd H p (.lst [.int A, .int ((B * 48271 + 12345) % 2147483647)]) p = some (.lst [.int A, .int ((B * 48271 + 12345) % 2147483647)]) := upd_same
    refine i_ixL (SqL.of hp2) (v := .int ((B * 48271 + 12345) % 2147483647)) rfl ?_
    walk_at "st"
    refine i_ixL (SqL.of hp2) (v := .int ((B * 48271 + 12345) % 2147483647)) rfl ?_
    walk_at "st"
    exact q _ _ (Int.emod_nonneg _ (by omega)) (Int.emod_lt_of_pos _ m0) (fun b n => upd_ne n) ⟨A, _, upd_same, A0, by omega, by omega⟩

/-- a row of m cards, from 1 to m -/
def sp__law_cards (K : PySem.W.Frag) (a : Ad) : Sp := fun vs H Q _ => vs.length = 2 ∧ ∃ (p : Addr) (m : Int), vs = [.ref p, .int m] ∧ PoolAt H p ∧ 1 ≤ m ∧ m ≤ 2000 ∧
  ∀ (t : Addr) (row : List Int) H', H t = none → Off p H H' → PoolAt H' p → H' t = some (.tup (row.map V.int)) → row.length = m.toNat → IsRow row → Q (.ref t) H'
def t__law_cards (K : PySem.W.Frag) (a : Ad) : TS := tSeq (tPar 3 4 (tCons (tLstRg (tRg2 (tC (.int 1)) (tOp (rAddI) (tVar 1) (tC (.int 1))))) (tCons (tLst (tNil)) (tNil))))
  (tSeq (tFor (iRng1 (tCons (tVar 1) (tNil))) (gName 2) (tSeq (tAsg (tBM K "list" (rPopAt) (tVar 3) (tCons (tCallR (sp__law_take K a) E0 (tCons (tVar 0) (tCons (tCB (rLenS K) (tCons (tVar 3) (tNil))) (tNil)))) (tNil))) (gName 5))
  (tDrop (tBM K "list" (rAppend) (tVar 4) (tCons (tOp (rIxL K) (tLst (tCons (tVar 5) (tCons (tOp (rSubI) (tC (.int 0)) (tVar 5)) (tNil)))) (tCallR (sp__law_take K a) E0 (tCons (tVar 0) (tCons (tC (.int 2)) (tNil))))) (tNil))))))
  (tRet (tCB (rTupS K) (tCons (tVar 4) (tNil)))))
theorem erase_map {α β : Type} (f : α → β) : ∀ (l : List α) (k : Nat), (l.map f).eraseIdx k = (l.eraseIdx k).map f
  | [], _ => by simp
  | _ :: _, 0 => rfl
  | x :: l, k + 1 => congrArg (f x :: ·) (erase_map f l k)
theorem erase_perm {α : Type} : ∀ (l : List α) (k : Nat) (h : k < l.length), (l[k] :: l.eraseIdx k).Perm l
  | x :: l, 0, _ => List.Perm.refl _
  | x :: l, k + 1, h => (List.Perm.swap x _ _).trans ((erase_perm l k (Nat.lt_of_succ_lt_succ h)).cons x)
/-- behind i turns -/
structure CardsI (H0 H : Hp) (p r q : Addr) (m : Nat) (i : Nat) (rest res : List Int) : Prop where
  off : Off p H0 H
  pool : PoolAt H p
  hr : H r = some (.lst (rest.map V.int))
  hq : H q = some (.lst (res.map V.int))
  rp : r ≠ p
  qp : q ≠ p
  rq : r ≠ q
  len : res.length = i
  perm : (rest ++ res.map absI).Perm (rgI 1 m)
theorem CardsI.restlen {H0 H : Hp} {p r q : Addr} {m i : Nat} {rest res : List Int} (c : CardsI H0 H p r q m i rest res) : rest.length + i = m := by
  have := c.perm.length_eq
  rw [List.length_append, List.length_map, rgI_length, c.len] at this
  exact this
theorem pure__law_cards (h : sp__law_cards K a vs H Q E) : Run (t__law_cards K a) 6 vs H Q := by
  obtain ⟨_, p, m, rfl, hp, m0, m1, q⟩ := h
  unfold Run t__law_cards
  walk_at "st"
  refine ⟨_, _, rfl, rfl, RgOk.of_le (by omega) (by omega) (by omega) (by omega), fun r hr => ?_⟩
  walk_at "st"
  refine ⟨Nat.zero_le _, fun l hl => ?_⟩
  walk_at "st"
  refine ⟨_, _, rfl, ?_⟩
  walk_at "st"
  have hpr : r ≠ p := fun e => by obtain ⟨A, B, e1, _⟩ := hp; rw [← e, hr] at e1; cases e1
  have hlr : l ≠ r := fun e => by rw [e, upd_same] at hl; cases hl
  have hl0 : H l = none := by rw [upd_ne hlr] at hl; exact hl
  have hpl : l ≠ p := fun e => by obtain ⟨A, B, e1, _⟩ := hp; rw [← e, hl0] at e1; cases e1
  have c0 : CardsI H (upd (upd H r (.lst (rgV 1 (m + 1)))) l (.lst [])) p r l m.toNat 0 (rgI 1 m.toNat) [] := by
    refine ⟨sm_off (Same.mut (Same.new hr) hl0), ?_, ?_, upd_same, hpr, hpl, hlr.symm, rfl, ?_⟩
    · obtain ⟨A, B, e1, e2⟩ := hp
      exact ⟨A, B, by rw [upd_ne hpl.symm, upd_ne hpr.symm]; exact e1, e2⟩
    · rw [upd_ne hlr.symm, upd_same, rgV_eq _ m.toNat 1 (by omega)]
    · rw [List.map_nil, List.append_nil]
  refine ⟨m, rfl, by omega, by omega, for_range (lo := 0) (n := m.toNat) (fun i σ H' => ∃ (rest res : List Int) (x y : Option V), σ = [some (.ref p), some (.int m), x, some (.ref r), some (.ref l), y] ∧ CardsI H H' p r l m.toNat i rest res)
    ⟨_, _, none, none, rfl, c0⟩ ?_ ?_⟩
  · rintro i σ H1 hi ⟨rest, res, x, y, rfl, c⟩
    have hrl := c.restlen
    walk_at "st"
    refine ⟨.inl ⟨rfl, _, SqL.of c.hr⟩, ?_⟩
    walk_at "st"
    refine i_lenL (SqL.of c.hr) ?_
    walk_at "st"
    rw [List.length_map]
    refine ⟨rfl, p, _, rfl, c.pool, by omega, by omega, fun k H2 k0 k1 kept pool2 => ?_⟩
    walk_at "st"
    have hk : k.toNat < rest.length := by omega
    have hr2 : H2 r = some (.lst (rest.map V.int)) := (kept r c.rp).trans c.hr
    refine i_popAt hr2 k0 (by rw [List.length_map]; exact k1) (by rw [List.length_map]; omega) (y := .int rest[k.toNat]) (by rw [List.getElem?_map, List.getElem?_eq_getElem hk]; rfl) ?_
    walk_at "st"
    have hq2 : H2 l = some (.lst (res.map V.int)) := (kept l c.qp).trans c.hq
    have er : (rest.map V.int).eraseIdx k.toNat = (rest.eraseIdx k.toNat).map V.int := erase_map _ _ _
    rw [er]
    have hq3 : upd H2 r (.lst ((rest.eraseIdx k.toNat).map V.int)) l = some (.lst (res.map V.int)) := by rw [upd_ne c.rq.symm]; exact hq2
    refine ⟨.inl ⟨rfl, _, SqL.of hq3⟩, ?_⟩
    walk_at "st"
    refine ⟨by show 2 ≤ sizeLine; decide, fun l2 hl2 => ?_⟩
    walk_at "st"
    have n2r : l2 ≠ r := fun e => by rw [e, upd_same] at hl2; cases hl2
    have hl2' : H2 l2 = none := by rw [upd_ne n2r] at hl2; exact hl2
    have n2l : l2 ≠ l := fun e => by rw [e, hq2] at hl2'; cases hl2'
    have n2p : l2 ≠ p := fun e => by obtain ⟨A, B, e1, _⟩ := pool2; rw [← e, hl2'] at e1; cases e1
    have pool3 : PoolAt (upd (upd H2 r (.lst ((rest.eraseIdx k.toNat).map V.int))) l2 (.lst [.int rest[k.toNat], .int (0 - rest[k.toNat])])) p := by
      obtain ⟨A, B, e1, e2⟩ := pool2
      exact ⟨A, B, by rw [upd_ne n2p.symm, upd_ne c.rp.symm]; exact e1, e2⟩
    refine ⟨rfl, p, _, rfl, pool3, by omega, by omega, fun j H3 j0 j1 kept3 pool4 => ?_⟩
    have hl3 : H3 l2 = some (.lst [.int rest[k.toNat], .int (0 - rest[k.toNat])]) := (kept3 l2 n2p).trans upd_same
    have hq4 : H3 l = some (.lst (res.map V.int)) := (kept3 l c.qp).trans (by rw [upd_ne n2l.symm]; exact hq3)
    have hr4 : H3 r = some (.lst ((rest.eraseIdx k.toNat).map V.int)) := (kept3 r c.rp).trans (by rw [upd_ne n2r.symm, upd_same])
    have off4 : Off p H H3 := fun b o n hb => by
      rw [kept3 b n, upd_ne (fun e => by rw [e] at hb; have := c.off _ _ n2p hb; rw [← kept l2 n2p, hl2'] at this; cases this), upd_ne (fun e => by rw [e, hr] at hb; cases hb), kept b n]
      exact c.off b o n hb
    have fin : ∀ z : Int, absI z = rest[k.toNat] → rAppend (.ref l) [.int z] H3 fun v H' => ∃ (rest' res' : List Int) (x y : Option V),
        [some (V.ref p), some (V.int m), some (V.int (0 + (i : Int))), some (V.ref r), some (V.ref l), some (V.int rest[k.toNat])] = [some (.ref p), some (.int m), x, some (.ref r), some (.ref l), y] ∧ CardsI H H' p r l m.toNat (i + 1) rest' res' := by
      intro z hz
      refine i_app hq4 (by rw [List.length_map, c.len]; omega) ?_
      refine ⟨rest.eraseIdx k.toNat, res ++ [z], _, _, rfl, ?_, ?_, ?_, ?_, c.rp, c.qp, c.rq, ?_, ?_⟩
      · exact fun b o n hb => by rw [upd_ne (fun e => by rw [e, hl0] at hb; cases hb)]; exact off4 b o n hb
      · obtain ⟨A, B, e1, e2⟩ := pool4
        exact ⟨A, B, by rw [upd_ne c.qp.symm]; exact e1, e2⟩
      · rw [upd_ne c.rq]; exact hr4
      · rw [upd_same, List.map_append]; rfl
      · rw [List.length_append, c.len]; rfl
      · rw [List.map_append, List.map_cons, List.map_nil, hz, ← List.append_assoc]
        refine List.Perm.trans ?_ c.perm
        refine List.Perm.trans List.perm_append_comm ?_
        show ((rest[k.toNat]) :: (rest.eraseIdx k.toNat ++ res.map absI)).Perm _
        rw [← List.cons_append]
        exact List.Perm.append_right _ (erase_perm rest k.toNat hk)
    have pos : 1 ≤ rest[k.toNat] := (mem_rgI.mp (c.perm.mem_iff.mp (List.mem_append_left _ (List.getElem_mem hk)))).1
    have hj : j = 0 ∨ j = 1 := by omega
    rcases hj with rfl | rfl
    · refine i_ixL (SqL.of hl3) (v := .int rest[k.toNat]) rfl ?_
      walk_at "st"
      exact fin _ (by unfold absI; rw [if_neg (by omega)])
    · refine i_ixL (SqL.of hl3) (v := .int (0 - rest[k.toNat])) rfl ?_
      walk_at "st"
      exact fin _ (by unfold absI; rw [if_pos (by omega)]; omega)
  · rintro σ H1 ⟨rest, res, x, y, rfl, c⟩
    have hrl := c.restlen
    have hnil : rest = [] := List.length_eq_zero_iff.mp (by omega)
    subst hnil
    walk_at "st"
    refine ⟨l, _, rfl, .inl ⟨SqL.of c.hq, fun t ht => ?_⟩⟩
    have off2 : Off p H (upd H1 t (.tup (res.map V.int))) := fun b o n hb => by
      rw [upd_ne (ne_of_none (c.off b o n hb) ht)]
      exact c.off b o n hb
    have hperm := c.perm
    rw [List.nil_append] at hperm
    have htp : t ≠ p := fun e => by obtain ⟨A, B, e1, _⟩ := c.pool; rw [← e, ht] at e1; cases e1
    have ht0 : H t = none := by
      cases e : H t with
      | none => rfl
      | some o => have := c.off t o htp e; rw [ht] at this; cases this
    refine q t res _ ht0 off2 ?_ upd_same c.len ⟨by rw [c.len]; omega, by rw [c.len]; omega, by rw [c.len]; exact hperm⟩
    obtain ⟨A, B, e1, e2⟩ := c.pool
    exact ⟨A, B, by rw [upd_ne htp.symm]; exact e1, e2⟩
end
end TC

set_option Elab.async false
set_option linter.all false
set_option maxRecDepth 100000
set_option maxHeartbeats 4000000
namespace TC
open PySem PySem.Spec PyProof.Rows L2
open Builtin Float in
theorem spec6_is (a : Int) : intSpecTextOf spec6 a = intSpecText ({ align := 62, width := some 6 } : FormatSpec) a := by
  have hf : parseFormatSpec spec6.cps.toList "int" 62 = .ok ({ align := 62, width := some 6 } : FormatSpec) := by kernel_rfl
  unfold intSpecTextOf
  rw [hf]
theorem fold_sp : ∀ (n : Nat) (acc : Array Nat), (List.replicate n (#[32] : Array Nat)).foldl (· ++ ·) acc = acc ++ (List.replicate n 32).toArray
  | 0, acc => by simp
  | n + 1, acc => by
    rw [List.replicate_succ, List.foldl_cons, fold_sp n, List.replicate_succ]
    apply Array.ext'
    simp
theorem mul_sp (n : Int) : (PySem.Txt.mul " " n).cps = (List.replicate n.toNat 32).toArray := by
  have e : (" " : Str).cps = #[32] := by rfl
  unfold PySem.Txt.mul
  by_cases h : n < 1
  · rw [if_pos h]
    have : n.toNat = 0 := by omega
    rw [this]
    rfl
  · rw [if_neg h]
    by_cases h1 : (n == 1 || (" " : Str).length == 0) = true
    · rw [if_pos h1]
      have hl : (" " : Str).length = 1 := by rfl
      rw [hl] at h1
      have : n = 1 := by simpa using h1
      subst this
      rfl
    · rw [if_neg h1, e]
      show (List.replicate n.toNat (#[32] : Array Nat)).foldl (· ++ ·) #[] = _
      rw [fold_sp]
      simp
theorem text_neg (m : Nat) : Str.ofString (toString (Int.negSucc m)) = ⟨(45 :: (Nat.toDigits 10 (m + 1)).map Char.toNat).toArray⟩ := by
  have e : toString (Int.negSucc m) = "-" ++ Nat.repr (m + 1) := rfl
  rw [e, Str.ofString_eq_toList]
  unfold Nat.repr
  simp
/-- ' ' * (6 - len(text)) + text, the law's own -/
def pad6 (a : Int) : Str := PySem.Txt.mul " " (6 - ((toString a : Str).length : Int)) ++ (toString a : Str)
theorem cps_pad6 (a : Int) (ds : List Nat) (h : (toString a : Str) = ⟨ds.toArray⟩) : (pad6 a).cps = (List.replicate (6 - ds.length) 32 ++ ds).toArray := by
  unfold pad6
  rw [Str.cps_append, mul_sp, h]
  have e : (6 - ((⟨ds.toArray⟩ : Str).length : Int)).toNat = 6 - ds.length := by
    show (6 - (ds.toArray.size : Int)).toNat = _
    rw [List.size_toArray]
    omega
  rw [e]
  simp
open Builtin Float in
theorem field_cps (neg : Bool) (ds : List Nat) (hd : ds.isEmpty = false) : (intField' ({ align := 62, width := some 6 } : FormatSpec) neg [] ds [] 3).cps = (List.replicate (6 - ((if neg then 1 else 0) + ds.length)) 32 ++ (if neg then [45] else []) ++ ds).toArray := by
  unfold intField'
  cases neg with
  | false =>
    simp [hd]
  | true =>
    simp [hd]
    omega
theorem spec6_pad (a : Int) : intSpecTextOf spec6 a = pad6 a := by
  rw [spec6_is]
  refine Str.ext' ?_
  have emp : ∀ n : Nat, ((Nat.toDigits 10 n).map fun c => (if (100 : Nat) == 88 then c.toUpper else c).toNat).isEmpty = false := fun n => by
    have := tDigits_len_ge 10 n
    cases h : Nat.toDigits 10 n with
    | nil => rw [h] at this; simp at this
    | cons _ _ => rfl
  cases a with
  | ofNat m =>
    rw [cps_pad6 _ ((Nat.toDigits 10 m).map Char.toNat) (text_ofNat m)]
    unfold intSpecText
    have hn : decide (Int.ofNat m < 0) = false := decide_eq_false (by have := Int.natCast_nonneg m; exact Int.not_lt.mpr this)
    rw [hn, field_cps _ _ (emp _)]
    simp
  | negSucc m =>
    rw [cps_pad6 _ (45 :: (Nat.toDigits 10 (m + 1)).map Char.toNat) (text_neg m)]
    unfold intSpecText
    have hn : decide (Int.negSucc m < 0) = true := decide_eq_true (Int.negSucc_lt_zero m)
    rw [hn, field_cps _ _ (emp _)]
    simp
    omega
end TC

set_option Elab.async false
set_option linter.all false
set_option maxRecDepth 100000
set_option maxHeartbeats 4000000
namespace TC
open PySem PySem.Spec PyProof.Rows L2
local macro_rules | `(tactic| walk_at "st") => `(tactic| repeat (first
  | with_reducible refine i_seq ?_ | with_reducible refine i_asg ?_ | with_reducible refine i_ret ?_ | with_reducible refine i_retN ?_ | with_reducible refine i_ifs ?_ | with_reducible refine i_next ?_ | with_reducible refine i_drop ?_
  | with_reducible refine i_par ?_ | with_reducible refine i_gN ?_ | with_reducible refine i_gS ?_ | with_reducible refine i_nil ?_ | with_reducible refine i_cons ?_ | with_reducible refine i_tup ?_ | with_reducible refine i_lst ?_
  | with_reducible refine i_op ?_ | with_reducible refine i_un ?_ | with_reducible refine i_test ?_ | with_reducible refine i_B ?_ | with_reducible refine i_bl ?_ | with_reducible refine i_not ?_ | with_reducible refine i_and ?_ | with_reducible refine i_or ?_
  | with_reducible refine i_andV ?_ | with_reducible refine i_orV ?_ | with_reducible refine i_notV ?_ | with_reducible refine i_if ?_ | with_reducible refine i_chain ?_ | with_reducible refine i_cb ?_ | with_reducible refine i_call ?_ | with_reducible refine i_make ?_
  | with_reducible refine i_smeth ?_ | with_reducible refine i_prop ?_ | with_reducible refine i_fld ?_ | with_reducible refine i_sfld ?_ | with_reducible refine i_bm ?_ | with_reducible refine i_fmt ?_ | with_reducible refine i_fmt6 ?_ | with_reducible refine i_joined ?_ | with_reducible refine i_jsC ?_ | with_reducible refine i_jsN ?_ | with_reducible refine i_for ?_ | with_reducible refine i_rng1 ?_ | with_reducible refine i_rng2 ?_ | with_reducible refine i_iL ?_ | with_reducible refine i_iT ?_ | with_reducible refine i_iLT ?_ | with_reducible refine i_iEn ?_ | with_reducible refine i_iZp ?_ | with_reducible refine i_lr1 ?_ | with_reducible refine i_lr2 ?_ | with_reducible refine i_gT ?_ | with_reducible refine i_gC ?_ | with_reducible refine i_gNil ?_ | with_reducible refine i_sl ?_ | with_reducible refine i_noP ?_ | with_reducible refine i_prt ?_ | with_reducible refine i_int ?_ | with_reducible refine i_jT ?_ | with_reducible refine i_bm0 ?_
  | ((with_reducible refine' i_var ?hv ?_); (case hv => exact rfl)) | with_reducible refine i_c ?_ | with_reducible refine i_rI0 ?_ | with_reducible refine i_rU ?_ | with_reducible refine i_abs ?_ | with_reducible refine i_max2 ?_ | with_reducible refine i_min2 ?_ | with_reducible refine i_int1 ?_
  | ((with_reducible refine' i_rI ?hc ?_); (case hc => first | (show (0 : Int) < _; first | decide | omega) | (refine Or.inl (Or.inl ?_); constructor <;> first | decide | omega) | (refine Or.inl (Or.inr ?_); constructor <;> first | decide | omega) | (refine divOk ?_ ?_ <;> first | decide | omega) | (refine ⟨?_, ?_, ?_⟩ <;> first | decide | omega)))
  | with_reducible refine iteT ?_ | with_reducible refine iteF ?_ | with_reducible refine iteN ?_ | with_reducible refine iteM ?_))

section
variable {K : PySem.W.Frag} {a : Ad} {H H' : Hp} {Q : VK} {E : XK} {vs : List V}
/-! ### sizes of numbers as texts -/
theorem str_len (a b : Str) : (a ++ b).length = a.length + b.length := Str.length_append a b
theorem num_len (k : Nat) (i : Int) (hk : 1 ≤ k) (h : i.natAbs < 10 ^ k) : (toString i : Str).length ≤ k + 1 := by
  cases i with
  | ofNat m =>
    have e : (toString (Int.ofNat m) : Str) = _ := text_ofNat m
    rw [e]
    show ((List.map Char.toNat (Nat.toDigits 10 m)).toArray).size ≤ _
    rw [List.size_toArray, List.length_map]
    have := digits10_le hk (show m < 10 ^ k from h)
    omega
  | negSucc m =>
    have e : (toString (Int.negSucc m) : Str) = _ := text_neg m
    rw [e]
    show ((45 :: List.map Char.toNat (Nat.toDigits 10 (m + 1))).toArray).size ≤ _
    rw [List.size_toArray, List.length_cons, List.length_map]
    have := digits10_le hk (show m + 1 < 10 ^ k from h)
    omega
theorem log_small {i : Int} (h : i.natAbs < 2 ^ 200) : i.natAbs.log2 < 1920 := Nat.lt_trans (PySem.Flt.log2_lt_of (by decide) h) (by decide)
/-- at most thirty-one digits -/
def Sm (i : Int) : Prop := i.natAbs < 10 ^ 31
theorem Sm.len {i : Int} (h : Sm i) : (toString i : Str).length ≤ 32 := num_len 31 i (by decide) h
theorem Sm.log {i : Int} (h : Sm i) : i.natAbs.log2 < 1920 := log_small (Nat.lt_trans h (by decide))
theorem sizeUp {n : Nat} (h : n ≤ 1000000) : n ≤ sizeLine := Nat.le_trans h (by decide)
theorem pad6_len {i : Int} (h : i.natAbs < 10 ^ 5) : (pad6 i).length ≤ 6 := by
  have e : ∃ ds : List Nat, (toString i : Str) = ⟨ds.toArray⟩ := ⟨(toString i : Str).cps.toList, by simp⟩
  obtain ⟨ds, e⟩ := e
  have h1 := num_len 5 i (by decide) h
  rw [e] at h1
  have h2 : ds.length ≤ 6 := by
    have : (⟨ds.toArray⟩ : Str).length = ds.length := by show ds.toArray.size = _; rw [List.size_toArray]
    omega
  show (pad6 i).cps.size ≤ 6
  rw [cps_pad6 i ds e, List.size_toArray, List.length_append, List.length_replicate]
  omega
/-! ### format_step -/
def sp_format_step (K : PySem.W.Frag) (a : Ad) : Sp := fun vs H Q _ => vs.length = 1 ∧ ∃ p : Addr, vs = [.ref p] ∧
  ((∃ i : Int, SqT K H p [.str "turn", .int i] ∧ Sm i ∧ Q (.str ((toString i : Str) ++ "!")) H) ∨
   (∃ (i j : Int) (k : Str), SqT K H p [.str k, .int i, .int j] ∧ k ≠ "turn" ∧ Sm i ∧ Sm j ∧ Q (.str ((toString i : Str) ++ (if k = "exchange" then "/" else "*" : Str) ++ (toString j : Str))) H))
def t_format_step (K : PySem.W.Frag) (a : Ad) : TS := tSeq (tIfS (tTest (tOp (rEq) (tOp (rIxT K) (tVar 0) (tC (.int 0))) (tC (.str "turn")))) (tRet (tJoined ((tFmt (tOp (rIxT K) (tVar 0) (tC (.int 1)))) :: (tC (.str "!")) :: []))) (tNext))
  (tRet (tJoined ((tFmt (tOp (rIxT K) (tVar 0) (tC (.int 1)))) :: (tFmt (tIf (tTest (tOp (rEq) (tOp (rIxT K) (tVar 0) (tC (.int 0))) (tC (.str "exchange")))) (tC (.str "/")) (tC (.str "*")))) :: (tFmt (tOp (rIxT K) (tVar 0) (tC (.int 2)))) :: [])))
theorem empty_app (z : Str) : Str.empty ++ z = z := Str.empty_append z
theorem pure_format_step (h : sp_format_step K a vs H Q E) : Run (t_format_step K a) 1 vs H Q := by
  obtain ⟨_, p, rfl, h⟩ := h
  unfold Run t_format_step
  rcases h with ⟨i, hp, hi, q⟩ | ⟨i, j, k, hp, hk, hi, hj, q⟩
  · walk_at "st"
    refine i_ixT hp (v := .str "turn") rfl ?_
    walk_at "st"
    refine i_eq rfl (i_bl ?_)
    refine i_dT rfl ?_
    walk_at "st"
    refine i_ixT hp (v := .int i) rfl (.inr ⟨i, rfl, hi.log, ?_⟩)
    have hl := hi.len
    refine ⟨_, rfl, ?_⟩
    rw [empty_app]
    refine ⟨sizeUp (by omega), ?_⟩
    walk_at "st"
    refine ⟨_, rfl, sizeUp (by rw [str_len]; have : ("!" : Str).length = 1 := rfl; omega), ?_⟩
    walk_at "st"
    exact q
  · walk_at "st"
    refine i_ixT hp (v := .str k) rfl ?_
    walk_at "st"
    refine i_eq rfl (i_bl ?_)
    refine i_dF (fun z => hk (V.str.inj z)) ?_
    walk_at "st"
    refine i_ixT hp (v := .int i) rfl (.inr ⟨i, rfl, hi.log, ?_⟩)
    have hl := hi.len
    have hl2 := hj.len
    refine ⟨_, rfl, ?_⟩
    rw [empty_app]
    refine ⟨sizeUp (by omega), ?_⟩
    walk_at "st"
    refine i_ixT hp (v := .str k) rfl ?_
    walk_at "st"
    refine i_eq rfl (i_bl ?_)
    have h1 : ("/" : Str).length = 1 := rfl
    have h2 : ("*" : Str).length = 1 := rfl
    by_cases he : k = "exchange"
    · refine i_dT (by rw [he]) ?_
      rw [if_pos he] at q
      walk_at "st"
      refine .inl ⟨_, rfl, sizeUp (by omega), _, rfl, sizeUp (by rw [str_len]; omega), ?_⟩
      walk_at "st"
      refine i_ixT hp (v := .int j) rfl (.inr ⟨j, rfl, hj.log, _, rfl, sizeUp (by rw [str_len, str_len]; omega), ?_⟩)
      walk_at "st"
      exact q
    · refine i_dF (fun z => he (V.str.inj z)) ?_
      rw [if_neg he] at q
      walk_at "st"
      refine .inl ⟨_, rfl, sizeUp (by omega), _, rfl, sizeUp (by rw [str_len]; omega), ?_⟩
      walk_at "st"
      refine i_ixT hp (v := .int j) rfl (.inr ⟨j, rfl, hj.log, _, rfl, sizeUp (by rw [str_len, str_len]; omega), ?_⟩)
      walk_at "st"
      exact q

/-! ### grid -/
def jn (ns : List Int) : Str := Txt.join "" (ns.map pad6)
def gridText (row : List Int) : Str := jn (rgI 1 row.length) ++ "\n" ++ jn row
def Five (i : Int) : Prop := i.natAbs < 10 ^ 5
theorem absI_nat (z : Int) : (absI z).natAbs = z.natAbs := by
  unfold absI
  split <;> omega
theorem IsRow.five {row : List Int} (h : IsRow row) : ∀ z ∈ row, Five z := by
  intro z hz
  have h1 := mem_rgI.mp (h.2.2.mem_iff.mp (List.mem_map_of_mem hz))
  have h2 := absI_nat z
  have := h.2.1
  show z.natAbs < 100000
  omega
theorem pads_sum : ∀ ns : List Int, (∀ z ∈ ns, Five z) → ((ns.map pad6).map (·.length)).sum ≤ 6 * ns.length
  | [], _ => by simp
  | z :: ns, h => by
    have h1 := pad6_len (h z List.mem_cons_self)
    have h2 := pads_sum ns fun y hy => h y (List.mem_cons_of_mem _ hy)
    rw [List.map_cons, List.map_cons, List.sum_cons, List.length_cons]
    omega
theorem jn_len {ns : List Int} (h : ∀ z ∈ ns, Five z) : (jn ns).length ≤ 6 * ns.length := by
  unfold jn
  rw [TL.join_eq]
  have h1 := StrLaws.join_length_le ("" : Str) (ns.map pad6)
  have h2 := pads_sum ns h
  have h3 : ("" : Str).length = 0 := rfl
  rw [h3, Nat.mul_zero] at h1
  omega
theorem five_rg {n : Nat} (h : n ≤ 2000) : ∀ z ∈ rgI 1 n, Five z := fun z hz => by
  have := mem_rgI.mp hz
  show z.natAbs < 100000
  omega
theorem Five.log {i : Int} (h : Five i) : i.natAbs.log2 < 1920 := log_small (Nat.lt_trans h (by decide))
/-- a list of padded numbers, joined -/
theorem i_jnL {p : Addr} {ns : List Int} {R : VK} (hp : H p = some (.lst (ns.map fun i => V.str (pad6 i)))) (h5 : ∀ z ∈ ns, Five z) (hz : ns.length ≤ 2000) (h : R (.str (jn ns)) H) : rJoinT K (.str "") [.ref p] H R := by
  refine ⟨"", p, ns.map pad6, rfl, rfl, .inl (SqL.of ?_), ?_, h⟩
  · rw [hp, List.map_map]
    rfl
  · have h2 := pads_sum ns h5
    have h3 : ("" : Str).length = 0 := rfl
    rw [h3]
    omega
def sp_grid (K : PySem.W.Frag) (a : Ad) : Sp := fun vs H Q _ => vs.length = 1 ∧ ∃ (x : Addr) (row : List Int), vs = [.ref x] ∧ ArrAt K a H x row ∧ ∀ H', Same H H' → Q (.str (gridText row)) H'
def t_grid (K : PySem.W.Frag) (a : Ad) : TS := tSeq (tAsg (tJoinT K (tC (.str "")) (tLc (iRng1 (tCons (tCB (rLenO a.Arrangement (sp_Arrangement___len__ K a) E0) (tCons (tVar 0) (tNil))) (tNil))) (gName 2) (tYes) (tFmt6 (tOp (rAddI) (tVar 2) (tC (.int 1)))) [2])) (gName 1))
  (tRet (tOp (rAddT) (tOp (rAddT) (tVar 1) (tC (.str "\n"))) (tJoinT K (tC (.str "")) (tLc (iTup K (tPropR a.Arrangement (sp_Arrangement_row K a) E0 (tVar 0))) (gName 3) (tYes) (tFmt6 (tVar 3)) [3]))))
theorem fmt6_ok {i : Int} (h : Five i) {R : Prop} (q : R) : i.natAbs.log2 < 1920 ∧ (intSpecTextOf spec6 i).length ≤ sizeLine ∧ R :=
  ⟨h.log, by rw [spec6_pad]; have := pad6_len h; exact sizeUp (by omega), q⟩
theorem nl_len : ("\n" : Str).length = 1 := rfl
theorem pure_grid (h : sp_grid K a vs H Q E) : Run (t_grid K a) 4 vs H Q := by
  obtain ⟨_, x, row, rfl, hx, q⟩ := h
  have hr := hx.choose_spec.choose_spec.2.2
  have hn : row.length ≤ 2000 := hr.2.1
  obtain ⟨dx, t, hxo, hxt, _⟩ := id hx
  unfold Run t_grid
  walk_at "st"
  refine ⟨⟨_, rfl⟩, ?_⟩
  refine i_lcN ?_
  walk_at "st"
  refine ⟨x, dx, _, rfl, hxo, rfl, x, row, rfl, hx, _, rfl, by omega, by omega, ?_⟩
  walk_at "st"
  refine ⟨_, rfl, by omega, by omega, ?_⟩
  have en : ((row.length : Nat) : Int).toNat = row.length := by omega
  rw [en]
  refine lcR (fun i => .str (pad6 (i + 1))) (fun _ => rfl) (Nat.le_trans hn (by decide)) ⟨fun i hi H2 e2 R r => ?_, fun D H1 hD e1 hl => ?_⟩
  · walk_at "st"
    have := mem_rgI.mp hi
    exact fmt6_ok (show (i + 1).natAbs < 100000 by omega) (by rw [spec6_pad]; exact r _ (Same.refl _))
  walk_at "st"
  have e5 : (rgI 0 row.length).map (fun i => V.str (pad6 (i + 1))) = (rgI 1 row.length).map fun i => V.str (pad6 i) := by
    unfold rgI
    rw [List.map_map, List.map_map]
    refine List.map_congr_left fun i _ => ?_
    show V.str (pad6 (0 + (i : Int) + 1)) = V.str (pad6 (1 + (i : Int)))
    congr 2
    omega
  rw [e5] at hl
  have hl1 := jn_len (five_rg hn)
  rw [rgI_length] at hl1
  have hl2 := jn_len hr.five
  refine i_jnL hl (five_rg hn) (by rw [rgI_length]; exact hn) ?_
  walk_at "st"
  refine i_addT (sizeUp (by rw [nl_len]; omega)) ?_
  refine ⟨⟨_, rfl⟩, ?_⟩
  refine i_lcN ?_
  walk_at "st"
  refine ⟨x, dx, _, rfl, e1 _ _ hxo, rfl, x, row, rfl, hx.same e1, fun t ht => ?_⟩
  walk_at "st"
  refine ⟨t, rfl, ⟨_, ht⟩, lcT (fun i => .str (pad6 i)) (fun _ => rfl) ht (Nat.le_trans hn (by decide)) ⟨fun i hi H2 e2 R r => ?_, fun D H2 hD e2 hl => ?_⟩⟩
  · walk_at "st"
    exact fmt6_ok (hr.five i hi) (by rw [spec6_pad]; exact r _ (Same.refl _))
  refine i_jnL hl hr.five hn ?_
  refine i_addT (sizeUp (by rw [str_len, nl_len]; omega)) ?_
  exact q _ (e1.trans e2)
/-! ### the law's own -/
def sp__law_padded (K : PySem.W.Frag) (a : Ad) : Sp := fun vs H Q _ => vs.length = 1 ∧ ∃ i : Int, vs = [.int i] ∧ Five i ∧ Q (.str (pad6 i)) H
def t__law_padded (K : PySem.W.Frag) (a : Ad) : TS := tSeq (tAsg (tCB (rStrI) (tCons (tVar 0) (tNil))) (gName 1))
  (tRet (tOp (rAddT) (tOp (rMulS) (tC (.str " ")) (tOp (rSubI) (tC (.int 6)) (tCB (rLenT) (tCons (tVar 1) (tNil))))) (tVar 1)))
theorem pure__law_padded (h : sp__law_padded K a vs H Q E) : Run (t__law_padded K a) 2 vs H Q := by
  obtain ⟨_, i, rfl, hi, q⟩ := h
  unfold Run t__law_padded
  have hl := num_len 5 i (by decide) hi
  have hp := pad6_len hi
  walk_at "st"
  refine i_strI hi.log ?_
  walk_at "st"
  refine i_lenStr (sizeUp (by omega)) ?_
  walk_at "st"
  refine ⟨_, _, rfl, rfl, by omega, by decide, by omega, ?_⟩
  walk_at "st"
  unfold pad6 at hp q
  rw [str_len] at hp
  exact i_addT (sizeUp (by omega)) q
def sp__law_check (K : PySem.W.Frag) (a : Ad) : Sp := fun vs H Q _ => vs.length = 1 ∧ ∃ (t : Addr) (row : List Int), vs = [.ref t] ∧ SqT K H t (row.map V.int) ∧ IsRow row ∧ ∀ H', Same H H' → Q (.bl true) H'
def t__law_check (K : PySem.W.Frag) (a : Ad) : TS := tSeq (tAsg (tJoinT K (tC (.str "")) (tLc (iRng2 (tCons (tC (.int 1)) (tCons (tOp (rAddI) (tCB (rLenS K) (tCons (tVar 0) (tNil))) (tC (.int 1))) (tNil)))) (gName 2) (tYes) (tCallR (sp__law_padded K a) E0 (tCons (tVar 2) (tNil))) [2])) (gName 1))
  (tRet (tOp (rEq) (tCallR (sp_grid K a) E0 (tCons (tMakeR a.Arrangement (sp_Arrangement___init__ K a) E0 (tCons (tVar 0) (tNil))) (tNil))) (tOp (rAddT) (tOp (rAddT) (tVar 1) (tC (.str "\n"))) (tJoinT K (tC (.str "")) (tLc (iTup K (tVar 0)) (gName 3) (tYes) (tCallR (sp__law_padded K a) E0 (tCons (tVar 3) (tNil))) [3])))))
/-- a new instance, made of a row at p -/
theorem make_ok {p : Addr} {ns : List Int} {R : VK} (hs : SqL K H p (ns.map V.int) ∨ SqT K H p (ns.map V.int)) (hr : IsRow ns) (k : ∀ x H', H x = none → Same H H' → ArrAt K a H' x ns → R (.ref x) H') :
    MkG a.Arrangement (sp_Arrangement___init__ K a) E [.ref p] R H := by
  intro x dx nx nd ne
  have e1 : Same H (upd (upd H dx (.own x)) x (.ins a.Arrangement dx [])) := Same.mut (Same.new nd) nx
  exact ⟨rfl, x, dx, p, ns, rfl, upd_same, sq_same e1 hs, hr, fun H' off at_ => ⟨rfl, k x H' nx (fun b o h => off b o (ne_of_none h nx) (e1 b o h)) at_⟩⟩
theorem pure__law_check (h : sp__law_check K a vs H Q E) : Run (t__law_check K a) 4 vs H Q := by
  obtain ⟨_, t, row, rfl, ht, hr, q⟩ := h
  have hn : row.length ≤ 2000 := hr.2.1
  have hl1 := jn_len (five_rg hn)
  rw [rgI_length] at hl1
  have hl2 := jn_len hr.five
  unfold Run t__law_check
  walk_at "st"
  refine ⟨⟨_, rfl⟩, ?_⟩
  refine i_lcN ?_
  walk_at "st"
  refine i_lenT ht ?_
  walk_at "st"
  rw [List.length_map]
  refine ⟨_, _, rfl, ⟨by omega, by omega, by omega, by omega⟩, ?_⟩
  have en : (((row.length : Nat) : Int) + 1 - 1).toNat = row.length := by omega
  rw [en]
  refine lcR (fun i => .str (pad6 i)) (fun _ => rfl) (Nat.le_trans hn (by decide)) ⟨fun i hi H2 e2 R r => ?_, fun D H1 hD e1 hl => ?_⟩
  · walk_at "st"
    have := mem_rgI.mp hi
    exact ⟨rfl, i, rfl, (show i.natAbs < 100000 by omega), r _ (Same.refl _)⟩
  refine i_jnL hl (five_rg hn) (by rw [rgI_length]; exact hn) ?_
  walk_at "st"
  refine make_ok (.inr (Same.seqT e1 ht)) hr fun x H2 nx e2 at_ => ?_
  walk_at "st"
  refine ⟨rfl, x, row, rfl, at_, fun H3 e3 => ?_⟩
  walk_at "st"
  refine i_addT (sizeUp (by rw [nl_len]; omega)) ?_
  refine ⟨⟨_, rfl⟩, ?_⟩
  refine i_lcN ?_
  walk_at "st"
  have ht3 := Same.seqT ((e1.trans e2).trans e3) ht
  refine ⟨t, rfl, ⟨_, ht3⟩, lcT (fun i => .str (pad6 i)) (fun _ => rfl) ht3 (Nat.le_trans hn (by decide)) ⟨fun i hi H4 e4 R r => ?_, fun D H4 hD e4 hl => ?_⟩⟩
  · walk_at "st"
    exact ⟨rfl, i, rfl, hr.five i hi, r _ (Same.refl _)⟩
  refine i_jnL hl hr.five hn ?_
  refine i_addT (sizeUp (by rw [str_len, nl_len]; omega)) ?_
  refine i_eq rfl ?_
  have : decide (V.str (gridText row) = V.str (jn (rgI 1 row.length) ++ "\n" ++ jn row)) = true := decide_eq_true rfl
  rw [this]
  exact q _ (((e1.trans e2).trans e3).trans e4)
end
end TC

set_option Elab.async false
set_option linter.all false
set_option maxRecDepth 100000
set_option maxHeartbeats 4000000
namespace TC
open PySem PySem.Spec PyProof.Rows L2
local macro_rules | `(tactic| walk_at "st") => `(tactic| repeat (first
  | with_reducible refine i_seq ?_ | with_reducible refine i_asg ?_ | with_reducible refine i_ret ?_ | with_reducible refine i_retN ?_ | with_reducible refine i_ifs ?_ | with_reducible refine i_next ?_ | with_reducible refine i_drop ?_
  | with_reducible refine i_par ?_ | with_reducible refine i_gN ?_ | with_reducible refine i_gS ?_ | with_reducible refine i_nil ?_ | with_reducible refine i_cons ?_ | with_reducible refine i_tup ?_ | with_reducible refine i_lst ?_
  | with_reducible refine i_op ?_ | with_reducible refine i_un ?_ | with_reducible refine i_test ?_ | with_reducible refine i_B ?_ | with_reducible refine i_bl ?_ | with_reducible refine i_not ?_ | with_reducible refine i_and ?_ | with_reducible refine i_or ?_
  | with_reducible refine i_andV ?_ | with_reducible refine i_orV ?_ | with_reducible refine i_notV ?_ | with_reducible refine i_if ?_ | with_reducible refine i_chain ?_ | with_reducible refine i_cb ?_ | with_reducible refine i_call ?_ | with_reducible refine i_make ?_
  | with_reducible refine i_smeth ?_ | with_reducible refine i_prop ?_ | with_reducible refine i_fld ?_ | with_reducible refine i_sfld ?_ | with_reducible refine i_bm ?_ | with_reducible refine i_fmt ?_ | with_reducible refine i_fmt6 ?_ | with_reducible refine i_joined ?_ | with_reducible refine i_jsC ?_ | with_reducible refine i_jsN ?_ | with_reducible refine i_for ?_ | with_reducible refine i_rng1 ?_ | with_reducible refine i_rng2 ?_ | with_reducible refine i_iL ?_ | with_reducible refine i_iT ?_ | with_reducible refine i_iLT ?_ | with_reducible refine i_iEn ?_ | with_reducible refine i_iZp ?_ | with_reducible refine i_lr1 ?_ | with_reducible refine i_lr2 ?_ | with_reducible refine i_gT ?_ | with_reducible refine i_gC ?_ | with_reducible refine i_gNil ?_ | with_reducible refine i_sl ?_ | with_reducible refine i_noP ?_ | with_reducible refine i_prt ?_ | with_reducible refine i_int ?_ | with_reducible refine i_jT ?_ | with_reducible refine i_bm0 ?_
  | ((with_reducible refine' i_var ?hv ?_); (case hv => exact rfl)) | with_reducible refine i_c ?_ | with_reducible refine i_rI0 ?_ | with_reducible refine i_rU ?_ | with_reducible refine i_abs ?_ | with_reducible refine i_max2 ?_ | with_reducible refine i_min2 ?_ | with_reducible refine i_int1 ?_
  | ((with_reducible refine' i_rI ?hc ?_); (case hc => first | (show (0 : Int) < _; first | decide | omega) | (refine Or.inl (Or.inl ?_); constructor <;> first | decide | omega) | (refine Or.inl (Or.inr ?_); constructor <;> first | decide | omega) | (refine divOk ?_ ?_ <;> first | decide | omega) | (refine ⟨?_, ?_, ?_⟩ <;> first | decide | omega)))
  | with_reducible refine iteT ?_ | with_reducible refine iteF ?_ | with_reducible refine iteN ?_ | with_reducible refine iteM ?_))

section
variable {K : PySem.W.Frag} {a : Ad} {H H' : Hp} {Q : VK} {E : XK} {vs : List V}
def sp_law (K : PySem.W.Frag) (a : Ad) : Sp := fun vs H Q _ => vs.length = 1 ∧ ∃ (s : Addr) (ns : List Int), vs = [.ref s] ∧ SqL K H s (ns.map V.int) ∧ ns.length ≤ 63 ∧ ∀ H', Q (.bl true) H'
def t_law (K : PySem.W.Frag) (a : Ad) : TS := tSeq (tIfS (tNot (tB (tCallR (sp__law_check K a) E0 (tCons (tCallR (sp__law_cards K a) E0 (tCons (tCallR (sp__law_pool K a) E0 (tCons (tVar 0) (tCons (tC (.int 10)) (tNil)))) (tCons (tOp (rAddI) (tC (.int 1001)) (tCallR (sp__law_take K a) E0 (tCons (tCallR (sp__law_pool K a) E0 (tCons (tVar 0) (tCons (tC (.int 11)) (tNil)))) (tCons (tC (.int 1000)) (tNil))))) (tNil)))) (tNil))))) (tRet (tC (.bl false))) (tNext))
  (tSeq (tFor (iRng1 (tCons (tCB (rMax2) (tCons (tC (.int 1)) (tCons (tCB (rMin2) (tCons (tC (.int 10)) (tCons (tCB (rLenS K) (tCons (tVar 0) (tNil))) (tNil)))) (tNil)))) (tNil))) (gName 1) (tSeq (tAsg (tCallR (sp__law_pool K a) E0 (tCons (tVar 0) (tCons (tVar 1) (tNil)))) (gName 2))
  (tSeq (tIfS (tNot (tB (tCallR (sp__law_check K a) E0 (tCons (tCallR (sp__law_cards K a) E0 (tCons (tVar 2) (tCons (tOp (rAddI) (tC (.int 1)) (tCallR (sp__law_take K a) E0 (tCons (tVar 2) (tCons (tC (.int 40)) (tNil))))) (tNil)))) (tNil))))) (tRet (tC (.bl false))) (tNext))
  (tFor (iList K (tLst (tCons (tC (.int 5)) (tCons (tC (.int 2000)) (tCons (tOp (rPowI) (tC (.int 10)) (tC (.int 30))) (tNil)))))) (gName 3) (tSeq (tPar 4 5 (tCons (tOp (rAddI) (tC (.int 1)) (tCallR (sp__law_take K a) E0 (tCons (tVar 2) (tCons (tVar 3) (tNil))))) (tCons (tOp (rAddI) (tC (.int 1)) (tCallR (sp__law_take K a) E0 (tCons (tVar 2) (tCons (tVar 3) (tNil))))) (tNil))))
  (tSeq (tIfS (tTest (tOp (rNe) (tCallR (sp_format_step K a) E0 (tCons (tTup (tCons (tC (.str "turn")) (tCons (tVar 4) (tNil)))) (tNil))) (tOp (rAddT) (tCB (rStrI) (tCons (tVar 4) (tNil))) (tC (.str "!"))))) (tRet (tC (.bl false))) (tNext))
  (tSeq (tIfS (tAnd (tTest (tOp (rNe) (tVar 4) (tVar 5))) (tTest (tOp (rNe) (tCallR (sp_format_step K a) E0 (tCons (tTup (tCons (tC (.str "exchange")) (tCons (tVar 4) (tCons (tVar 5) (tNil))))) (tNil))) (tOp (rAddT) (tOp (rAddT) (tCB (rStrI) (tCons (tVar 4) (tNil))) (tC (.str "/"))) (tCB (rStrI) (tCons (tVar 5) (tNil))))))) (tRet (tC (.bl false))) (tNext))
  (tIfS (tAnd (tTest (tOp (rNe) (tVar 4) (tVar 5))) (tTest (tOp (rNe) (tCallR (sp_format_step K a) E0 (tCons (tTup (tCons (tC (.str "cross")) (tCons (tVar 4) (tCons (tVar 5) (tNil))))) (tNil))) (tOp (rAddT) (tOp (rAddT) (tCB (rStrI) (tCons (tVar 4) (tNil))) (tC (.str "*"))) (tCB (rStrI) (tCons (tVar 5) (tNil))))))) (tRet (tC (.bl false))) (tNext)))))))))
  (tRet (tOp (rEq) (tCallR (sp_grid K a) E0 (tCons (tMakeR a.Arrangement (sp_Arrangement___init__ K a) E0 (tCons (tTup (tCons (tUn rNeg (tC (.int 1))) (tNil))) (tNil))) (tNil))) (tC (.str "     1\n    -1")))))

theorem PoolAt.same {p : Addr} (e : Same H H') (h : PoolAt H p) : PoolAt H' p := by
  obtain ⟨A, B, h1, h2⟩ := h
  exact ⟨A, B, e _ _ h1, h2⟩
theorem kept_same {p : Addr} {H0 : Hp} (e : Same H0 H) (n : H0 p = none) (k : Kept p H H') : Same H0 H' := fun b o h => by
  rw [k b (ne_of_none h n)]
  exact e b o h
theorem off_same {p : Addr} {H0 : Hp} (e : Same H0 H) (n : H0 p = none) (k : Off p H H') : Same H0 H' := fun b o h => k b o (ne_of_none h n) (e b o h)
theorem at1 {v : V} {xs : List V} : True := trivial
theorem row1 : IsRow [-1] := ⟨by decide, by decide, List.Perm.refl _⟩
theorem grid1 : gridText [-1] = "     1\n    -1" := by decide +kernel
theorem pure_law (h : sp_law K a vs H Q E) : Run (t_law K a) 6 vs H Q := by
  obtain ⟨_, s, ns, rfl, hs, hn, q⟩ := h
  unfold Run t_law
  walk_at "st"
  refine ⟨rfl, s, ns, 10, rfl, hs, by omega, by omega, fun p1 o1 n1 pool1 => ?_⟩
  have e1 : Same H (upd H p1 o1) := Same.new n1
  walk_at "st"
  refine ⟨rfl, s, ns, 11, rfl, e1.seq hs, by omega, by omega, fun p2 o2 n2 pool2 => ?_⟩
  have e2 := e1.trans (Same.new (o := o2) n2)
  have pool1' : PoolAt (upd (upd H p1 o1) p2 o2) p1 := pool1.same (Same.new n2)
  walk_at "st"
  refine ⟨rfl, p2, 1000, rfl, pool2, by omega, by omega, fun r H3 r0 r1 kept pool3 => ?_⟩
  have n12 : p1 ≠ p2 := fun z => by rw [← z, upd_same] at n2; cases n2
  have pool4 : PoolAt H3 p1 := by
    obtain ⟨A, B, h1, h2⟩ := pool1'
    exact ⟨A, B, (kept p1 n12).trans h1, h2⟩
  have e3 : Same H H3 := kept_same e2 (by rw [upd_ne n12.symm] at n2; exact n2) kept
  walk_at "st"
  refine ⟨rfl, p1, _, rfl, pool4, by omega, by omega, fun t row H4 nt off4 pool5 ht hl hr => ?_⟩
  have e4 : Same H H4 := off_same e3 n1 off4
  walk_at "st"
  refine ⟨rfl, t, row, rfl, SqT.of ht, hr, fun H5 e5' => ?_⟩
  have e5 := e4.trans e5'
  walk_at "st"
  refine i_lenL (e5.seq hs) ?_
  walk_at "st"
  rw [List.length_map]
  have hj : ∀ l : Nat, l ≤ 63 → 1 ≤ (if (if (l : Int) < 10 then (l : Int) else 10) > 1 then (if (l : Int) < 10 then (l : Int) else 10) else 1) ∧ (if (if (l : Int) < 10 then (l : Int) else 10) > 1 then (if (l : Int) < 10 then (l : Int) else 10) else 1) ≤ 10 := by
    intro l hl
    split <;> split at * <;> omega
  have hj2 := hj ns.length hn
  generalize (if (if (ns.length : Int) < 10 then (ns.length : Int) else 10) > 1 then (if (ns.length : Int) < 10 then (ns.length : Int) else 10) else 1) = j at hj2
  refine ⟨j, rfl, by omega, by omega, for_range (lo := 0) (n := j.toNat) (fun i σ H' => ∃ x1 x2 x3 x4 x5 : Option V, σ = [some (.ref s), x1, x2, x3, x4, x5] ∧ Same H H') ⟨none, none, none, none, none, rfl, e5⟩ ?_ ?_⟩
  · rintro i σ H6 hi ⟨x1, x2, x3, x4, x5, rfl, e6⟩
    walk_at "st"
    refine ⟨rfl, s, ns, _, rfl, e6.seq hs, by omega, by omega, fun p o pn pool => ?_⟩
    walk_at "st"
    refine ⟨rfl, p, 40, rfl, pool, by omega, by omega, fun r H7 r0 r1 kept7 pool7 => ?_⟩
    walk_at "st"
    refine ⟨rfl, p, _, rfl, pool7, by omega, by omega, fun t row H8 nt off8 pool8 ht hl hr => ?_⟩
    walk_at "st"
    refine ⟨rfl, t, row, rfl, SqT.of ht, hr, fun H9 e9 => ?_⟩
    have s9 : Same H6 H9 := (off_same (kept_same (Same.new (o := o) pn) pn kept7) pn off8).trans e9
    have pool9 := pool8.same e9
    walk_at "st"
    refine ⟨by show 3 ≤ sizeLine; decide, fun l ln => ?_⟩
    walk_at "st"
    have lp : l ≠ p := fun z => by obtain ⟨A, B, h1, _⟩ := pool9; rw [← z, ln] at h1; cases h1
    have l6 : H6 l = none := s9.free ln
    refine ⟨l, rfl, ⟨_, SqL.of upd_same⟩, for_list (K := K) (a := l) (xs := [.int 5, .int 2000, .int (10 ^ (30 : Int).toNat)]) (fun i σ H' => ∃ x1 x3 x4 x5 : Option V, σ = [some (.ref s), x1, some (.ref p), x3, x4, x5] ∧ Same H6 H' ∧ PoolAt H' p ∧ H' l = some (.lst [.int 5, .int 2000, .int (10 ^ (30 : Int).toNat)]))
      ⟨_, x3, x4, x5, rfl, Same.mut s9 l6, pool9.same (Same.new ln), upd_same⟩ (fun i σ H' _ h => by obtain ⟨_, _, _, _, _, _, _, h⟩ := h; exact SqL.of h) ?_ ?_⟩
    · rintro i y σ Ha hy ⟨x1, x3, x4, x5, rfl, ea, pa, la⟩
      have hm : ∃ m : Int, y = .int m ∧ 0 < m ∧ m ≤ 1000000000000000000000000000000 := by
        have := List.mem_of_getElem? hy
        rcases List.mem_cons.mp this with rfl | this
        · exact ⟨5, rfl, by decide, by decide⟩
        rcases List.mem_cons.mp this with rfl | this
        · exact ⟨2000, rfl, by decide, by decide⟩
        rcases List.mem_cons.mp this with rfl | this
        · exact ⟨_, rfl, by decide, by decide⟩
        · cases this
      obtain ⟨m, rfl, m0, m1⟩ := hm
      walk_at "st"
      refine ⟨rfl, p, m, rfl, pa, m0, by omega, fun r Hb r0 r1 kb pb => ?_⟩
      walk_at "st"
      refine ⟨rfl, p, m, rfl, pb, m0, by omega, fun u Hc u0 u1 kc pc => ?_⟩
      walk_at "st"
      refine ⟨_, _, rfl, ?_⟩
      have lc : Hc l = some (.lst [.int 5, .int 2000, .int (10 ^ (30 : Int).toNat)]) := (kc l lp).trans ((kb l lp).trans la)
      have ec : Same H6 Hc := kept_same (kept_same ea pn kb) pn kc
      have sm1 : Sm (1 + r) := show (1 + r).natAbs < 10000000000000000000000000000000 by omega
      have sm2 : Sm (1 + u) := show (1 + u).natAbs < 10000000000000000000000000000000 by omega
      have ln1 := sm1.len
      have ln2 := sm2.len
      have lx : ("!" : Str).length = 1 := rfl
      have ly : ("/" : Str).length = 1 := rfl
      have lz : ("*" : Str).length = 1 := rfl
      walk_at "st"
      refine ⟨by show 2 ≤ sizeLine; decide, fun t1 tn1 => ?_⟩
      walk_at "st"
      have ed := Same.new (o := .tup [.str "turn", .int (1 + r)]) tn1
      refine ⟨rfl, t1, rfl, .inl ⟨1 + r, SqT.of upd_same, sm1, ?_⟩⟩
      walk_at "st"
      refine i_strI sm1.log ?_
      walk_at "st"
      refine i_addT (sizeUp (by omega)) ?_
      refine i_ne rfl (i_bl ?_)
      refine i_nT rfl ?_
      refine i_next ?_
      refine i_seq ?_
      have two : ∀ (Hf : Hp) (k c : Str) (D : Ends) (σ : L2.St), Same Hc Hf → σ[4]? = some (some (.int (1 + r))) → σ[5]? = some (some (.int (1 + u))) → k ≠ "turn" → c = (if k = "exchange" then "/" else "*" : Str) → c.length = 1 → (∀ Hg, Same Hf Hg → D.nx σ Hg) →
          tIfS (tAnd (tTest (tOp (rNe) (tVar 4) (tVar 5))) (tTest (tOp (rNe) (tCallR (sp_format_step K a) E0 (tCons (tTup (tCons (tC (.str k)) (tCons (tVar 4) (tCons (tVar 5) (tNil))))) (tNil))) (tOp (rAddT) (tOp (rAddT) (tCB (rStrI) (tCons (tVar 4) (tNil))) (tC (.str c))) (tCB (rStrI) (tCons (tVar 5) (tNil))))))) (tRet (tC (.bl false))) (tNext) D σ Hf := by
        intro Hf k c D σ ef h4 h5 hk hc hcl hd
        refine i_ifs (i_and (i_test (i_op (i_var h4 (i_var h5 ?_)))))
        refine i_ne rfl (i_bl ?_)
        by_cases he : V.int (1 + r) = V.int (1 + u)
        · refine i_nT he ?_
          walk_at "st"
          exact hd _ (Same.refl _)
        · refine i_nF he ?_
          refine i_test (i_op (i_call (i_cons (i_tup (i_cons (i_c (i_cons (i_var h4 (i_cons (i_var h5 (i_nil ?_)))))))))))
          refine ⟨by show 3 ≤ sizeLine; decide, fun t2 tn2 => ?_⟩
          refine i_nil ?_
          refine ⟨rfl, t2, rfl, .inr ⟨1 + r, 1 + u, k, SqT.of upd_same, hk, sm1, sm2, ?_⟩⟩
          refine i_op (i_op (i_cb (i_cons (i_var h4 (i_nil ?_)))))
          refine i_strI sm1.log ?_
          walk_at "st"
          refine i_addT (sizeUp (by omega)) ?_
          refine i_cb (i_cons (i_var h5 (i_nil ?_)))
          refine i_strI sm2.log ?_
          refine i_addT (sizeUp (by rw [str_len]; omega)) ?_
          refine i_ne rfl (i_bl ?_)
          refine i_nT (by rw [hc]) ?_
          walk_at "st"
          exact hd _ (Same.new tn2)
      refine two _ "exchange" "/" _ _ ed ?g4 ?g5 (by decide) rfl rfl fun Hg eg => ?_
      case g4 => rfl
      case g5 => rfl
      refine two _ "cross" "*" _ _ (ed.trans eg) ?g6 ?g7 (by decide) rfl rfl fun Hh eh => ?_
      case g6 => rfl
      case g7 => rfl
      exact ⟨_, _, _, _, rfl, ((ec.trans ed).trans eg).trans eh, ((pc.same ed).same eg).same eh, eh _ _ (eg _ _ (ed _ _ lc))⟩
    · rintro σ Ha ⟨x1, x3, x4, x5, rfl, ea, pa, la⟩
      exact ⟨_, _, _, _, _, rfl, e6.trans ea⟩
  · rintro σ H6 ⟨x1, x2, x3, x4, x5, rfl, e6⟩
    walk_at "st"
    refine ⟨by show 1 ≤ sizeLine; decide, fun t1 tn1 => ?_⟩
    walk_at "st"
    refine make_ok (ns := [-1]) (.inr (SqT.of upd_same)) row1 fun x H7 nx e7 at_ => ?_
    walk_at "st"
    refine ⟨rfl, x, [-1], rfl, at_, fun H8 e8 => ?_⟩
    walk_at "st"
    refine i_eq rfl ?_
    have : decide (V.str (gridText [-1]) = V.str "     1\n    -1") = true := decide_eq_true (by rw [grid1])
    rw [this]
    exact q _
end
end TC

set_option Elab.async false
set_option linter.all false
set_option maxRecDepth 100000
set_option maxHeartbeats 4000000
namespace TCG
open PySem PySem.Spec PyProof.Rows L2 TC
def top (i : Nat) : Stmt := PySem.Challenge.pw_turnedcards_k53_grids_and_steps.main.body.getD i (.Pass ⟨0, 0, 0, 0⟩)
abbrev s__law_padded : Stmt := top 23
abbrev N__law_padded : List Str := ["_law_number", "_law_text"]
theorem sc__law_padded : FnScope N__law_padded ["_law_number"] (defScope s__law_padded) := ⟨rfl, rfl, rfl, by decide +kernel, rfl, by decide +kernel, by decide +kernel⟩
abbrev s_Arrangement___len__ : Stmt := inClass (top 15) 8
abbrev N_Arrangement___len__ : List Str := ["self"]
theorem sc_Arrangement___len__ : FnScope N_Arrangement___len__ ["self"] (defScope s_Arrangement___len__) := ⟨rfl, rfl, rfl, by decide +kernel, rfl, by decide +kernel, by decide +kernel⟩
abbrev s_Arrangement_row : Stmt := inClass (top 15) 3
abbrev N_Arrangement_row : List Str := ["self"]
theorem sc_Arrangement_row : FnScope N_Arrangement_row ["self"] (defScope s_Arrangement_row) := ⟨rfl, rfl, rfl, by decide +kernel, rfl, by decide +kernel, by decide +kernel⟩
abbrev s_grid : Stmt := top 18
abbrev N_grid : List Str := ["a", "places", "index", "card"]
theorem sc_grid : FnScope N_grid ["a"] (defScope s_grid) := ⟨rfl, rfl, rfl, by decide +kernel, rfl, by decide +kernel, by decide +kernel⟩
abbrev s_is_integer : Stmt := top 8
abbrev N_is_integer : List Str := ["value"]
theorem sc_is_integer : FnScope N_is_integer ["value"] (defScope s_is_integer) := ⟨rfl, rfl, rfl, by decide +kernel, rfl, by decide +kernel, by decide +kernel⟩
abbrev s_Arrangement_is_row : Stmt := inClass (top 15) 2
abbrev N_Arrangement_is_row : List Str := ["value", "card"]
theorem sc_Arrangement_is_row : FnScope N_Arrangement_is_row ["value"] (defScope s_Arrangement_is_row) := ⟨rfl, rfl, rfl, by decide +kernel, rfl, by decide +kernel, by decide +kernel⟩
abbrev s_Arrangement___init__ : Stmt := inClass (top 15) 0
abbrev N_Arrangement___init__ : List Str := ["self", "row"]
theorem sc_Arrangement___init__ : FnScope N_Arrangement___init__ ["self", "row"] (defScope s_Arrangement___init__) := ⟨rfl, rfl, rfl, by decide +kernel, rfl, by decide +kernel, by decide +kernel⟩
abbrev s__law_check : Stmt := top 24
abbrev N__law_check : List Str := ["_law_cards_here", "_law_first", "_law_place", "_law_card"]
theorem sc__law_check : FnScope N__law_check ["_law_cards_here"] (defScope s__law_check) := ⟨rfl, rfl, rfl, by decide +kernel, rfl, by decide +kernel, by decide +kernel⟩
abbrev s__law_take : Stmt := top 21
abbrev N__law_take : List Str := ["_law_pool_here", "_law_count", "_law_result"]
theorem sc__law_take : FnScope N__law_take ["_law_pool_here", "_law_count"] (defScope s__law_take) := ⟨rfl, rfl, rfl, by decide +kernel, rfl, by decide +kernel, by decide +kernel⟩
abbrev s__law_cards : Stmt := top 22
abbrev N__law_cards : List Str := ["_law_pool_here", "_law_many", "_law_turn", "_law_rest", "_law_result", "_law_card"]
theorem sc__law_cards : FnScope N__law_cards ["_law_pool_here", "_law_many"] (defScope s__law_cards) := ⟨rfl, rfl, rfl, by decide +kernel, rfl, by decide +kernel, by decide +kernel⟩
abbrev s__law_pool : Stmt := top 20
abbrev N__law_pool : List Str := ["_law_script", "_law_k", "_law_cell", "_law_mixed"]
theorem sc__law_pool : FnScope N__law_pool ["_law_script", "_law_k"] (defScope s__law_pool) := ⟨rfl, rfl, rfl, by decide +kernel, rfl, by decide +kernel, by decide +kernel⟩
abbrev s_format_step : Stmt := top 17
abbrev N_format_step : List Str := ["step"]
theorem sc_format_step : FnScope N_format_step ["step"] (defScope s_format_step) := ⟨rfl, rfl, rfl, by decide +kernel, rfl, by decide +kernel, by decide +kernel⟩
abbrev s_law : Stmt := top 25
abbrev N_law : List Str := ["_law_script", "_law_k", "_law_pool_here", "_law_most", "_law_first", "_law_second"]
theorem sc_law : FnScope N_law ["_law_script"] (defScope s_law) := ⟨rfl, rfl, rfl, by decide +kernel, rfl, by decide +kernel, by decide +kernel⟩
structure Fa where
  _law_padded : Addr
  Arrangement___len__ : Addr
  Arrangement_row : Addr
  grid : Addr
  is_integer : Addr
  Arrangement_is_row : Addr
  Arrangement___init__ : Addr
  _law_check : Addr
  _law_take : Addr
  _law_cards : Addr
  _law_pool : Addr
  format_step : Addr
  law : Addr
  r_Arrangement_row : Addr
  r_Arrangement_is_row : Addr
  t_MOST_CARDS : Tok
structure Txt (K : PySem.W.Frag) (mg : Str → Option Value) (a : Ad) (fa : Fa) : Prop where
  F__law_padded : ∃ fd, Fun K "_law_padded" "_law_padded" s__law_padded fa._law_padded fd
  g__law_padded : mg "_law_padded" = some (.ref fa._law_padded)
  k__law_padded : PySem.W.keepIn K (.ref fa._law_padded) = true
  F_Arrangement___len__ : ∃ fd, Fun K "__len__" "Arrangement.__len__" s_Arrangement___len__ fa.Arrangement___len__ fd
  f_Arrangement___len__ : PySem.W.findIn K (.ref a.Arrangement) "__len__" = some (some (.ref fa.Arrangement___len__))
  i_Arrangement___len__ : PySem.W.isFn K (.ref fa.Arrangement___len__) = true
  F_Arrangement_row : ∃ fd, Fun K "row" "Arrangement.row" s_Arrangement_row fa.Arrangement_row fd
  p_Arrangement_row : PropOf K a.Arrangement "row" fa.r_Arrangement_row fa.Arrangement_row
  F_grid : ∃ fd, Fun K "grid" "grid" s_grid fa.grid fd
  g_grid : mg "grid" = some (.ref fa.grid)
  k_grid : PySem.W.keepIn K (.ref fa.grid) = true
  F_is_integer : ∃ fd, Fun K "is_integer" "is_integer" s_is_integer fa.is_integer fd
  g_is_integer : mg "is_integer" = some (.ref fa.is_integer)
  k_is_integer : PySem.W.keepIn K (.ref fa.is_integer) = true
  F_Arrangement_is_row : ∃ fd, Fun K "is_row" "Arrangement.is_row" s_Arrangement_is_row fa.Arrangement_is_row fd
  s_Arrangement_is_row : SMet K a.Arrangement (.type "type") "is_row" fa.r_Arrangement_is_row fa.Arrangement_is_row
  F_Arrangement___init__ : ∃ fd, Fun K "__init__" "Arrangement.__init__" s_Arrangement___init__ fa.Arrangement___init__ fd
  m_Arrangement : Mk K a.Arrangement fa.Arrangement___init__
  F__law_check : ∃ fd, Fun K "_law_check" "_law_check" s__law_check fa._law_check fd
  g__law_check : mg "_law_check" = some (.ref fa._law_check)
  k__law_check : PySem.W.keepIn K (.ref fa._law_check) = true
  F__law_take : ∃ fd, Fun K "_law_take" "_law_take" s__law_take fa._law_take fd
  g__law_take : mg "_law_take" = some (.ref fa._law_take)
  k__law_take : PySem.W.keepIn K (.ref fa._law_take) = true
  F__law_cards : ∃ fd, Fun K "_law_cards" "_law_cards" s__law_cards fa._law_cards fd
  g__law_cards : mg "_law_cards" = some (.ref fa._law_cards)
  k__law_cards : PySem.W.keepIn K (.ref fa._law_cards) = true
  F__law_pool : ∃ fd, Fun K "_law_pool" "_law_pool" s__law_pool fa._law_pool fd
  g__law_pool : mg "_law_pool" = some (.ref fa._law_pool)
  k__law_pool : PySem.W.keepIn K (.ref fa._law_pool) = true
  F_format_step : ∃ fd, Fun K "format_step" "format_step" s_format_step fa.format_step fd
  g_format_step : mg "format_step" = some (.ref fa.format_step)
  k_format_step : PySem.W.keepIn K (.ref fa.format_step) = true
  F_law : ∃ fd, Fun K "law" "law" s_law fa.law fd
  g_law : mg "law" = some (.ref fa.law)
  k_law : PySem.W.keepIn K (.ref fa.law) = true
  g_Arrangement : mg "Arrangement" = some (.ref a.Arrangement)
  cl_Arrangement : Cls K a.Arrangement
  r_Arrangement : ClX.CRead K a.Arrangement (.type "type")
  n_Arrangement_cards : NoAttr K a.Arrangement "cards"
  c_MOST_CARDS : mg "MOST_CARDS" = some (.int 2000 fa.t_MOST_CARDS)
section
variable {P : Program} {w : World} {K : PySem.W.Frag} {mg : Str → Option Value} {base : Heap} {a : Ad} {fa : Fa}
theorem ok__law_padded (T : Txt K mg a fa) (n : Nm mg)  : FnE P w K mg base CX0 1 fa._law_padded ["_law_number"] (sp__law_padded K a) := by
  obtain ⟨fd, F⟩ := T.F__law_padded
  refine ⟨fd, F.ok sc__law_padded (fun vs H Q E h => h.1) (fun cdv A outer s H vs Q E hr h => ⟨t__law_padded K a, ?_, pure__law_padded h⟩), F.binds fun _ _ _ _ _ _ us hl => match us, hl with | [_], _ => rfl⟩
  exact pss_cons (ps_set (i := 1) sc__law_padded.nd rfl (Or.inl rfl) (pe_callTy c_strI (by rfl) n.str_ (by decide +kernel) (by exact (pa_cons (pv 0) (pa_nil)))))
    (pss_one (ps_ret (pe_op op_addT (pe_op op_mulS (pe_str) (pe_op op_sub (pe_int) (pe_callB c_lenT (by rfl) n.len (by decide +kernel) (by exact (pa_cons (pv 1) (pa_nil)))))) (pv 1))))
theorem ok_Arrangement___len__ (T : Txt K mg a fa) (n : Nm mg)  : FnE P w K mg base CX0 1 fa.Arrangement___len__ ["self"] (sp_Arrangement___len__ K a) := by
  obtain ⟨fd, F⟩ := T.F_Arrangement___len__
  refine ⟨fd, F.ok sc_Arrangement___len__ (fun vs H Q E h => h.1) (fun cdv A outer s H vs Q E hr h => ⟨t_Arrangement___len__ K a, ?_, pure_Arrangement___len__ ⟨T.cl_Arrangement, T.n_Arrangement_cards⟩ h⟩), F.binds fun _ _ _ _ _ _ us hl => match us, hl with | [_], _ => rfl⟩
  exact pss_one (ps_ret (pe_callB c_lenS (by rfl) n.len (by decide +kernel) (by exact (pa_cons (pe_fld (pv 0) rfl) (pa_nil)))))
theorem ok_Arrangement_row (T : Txt K mg a fa) (n : Nm mg)  : FnE P w K mg base CX0 1 fa.Arrangement_row ["self"] (sp_Arrangement_row K a) := by
  obtain ⟨fd, F⟩ := T.F_Arrangement_row
  refine ⟨fd, F.ok sc_Arrangement_row (fun vs H Q E h => h.1) (fun cdv A outer s H vs Q E hr h => ⟨t_Arrangement_row K a, ?_, pure_Arrangement_row ⟨T.cl_Arrangement, T.n_Arrangement_cards⟩ h⟩), F.binds fun _ _ _ _ _ _ us hl => match us, hl with | [_], _ => rfl⟩
  exact pss_one (ps_ret (pe_fld (pv 0) rfl))
theorem ok_grid (T : Txt K mg a fa) (n : Nm mg) (G_Arrangement___len__ : FnE P w K mg base CX0 1 fa.Arrangement___len__ ["self"] (sp_Arrangement___len__ K a)) (G_Arrangement_row : FnE P w K mg base CX0 1 fa.Arrangement_row ["self"] (sp_Arrangement_row K a)) : FnE P w K mg base CX0 3 fa.grid ["a"] (sp_grid K a) := by
  obtain ⟨fd, F⟩ := T.F_grid
  refine ⟨fd, F.ok sc_grid (fun vs H Q E h => h.1) (fun cdv A outer s H vs Q E hr h => ⟨t_grid K a, ?_, pure_grid h⟩), F.binds fun _ _ _ _ _ _ us hl => match us, hl with | [_], _ => rfl⟩
  exact pss_cons (ps_set (i := 1) sc_grid.nd rfl (Or.inl rfl) (pe_joinT (pe_str) (pe_lc (own := [("index", 2)]) (g := gName 2) (tt := tYes) (by rfl) sc_grid.nd (pi_range1 (by rfl) n.range (by exact (pa_cons (pe_callB (call_lenE T.f_Arrangement___len__ T.i_Arrangement___len__ G_Arrangement___len__ (hr.mono (by decide)) pass0) (by rfl) n.len (by decide +kernel) (by exact (pa_cons (pv 0) (pa_nil)))) (pa_nil)))) (blkOk_by (own := [("index", 2)]) (N := N_grid) (sc := defScope s_grid) (by decide +kernel)) (fun _ _ _ _ _ => pg_name (i := 2) sc_grid.nd rfl (.inl rfl)) (fun _ _ _ _ _ => pts_nil) (fun _ _ _ _ _ => pe_joined1 (pe_fmt6 (pe_op op_add (pv 2) (pe_int)))))))
    (pss_one (ps_ret (pe_op op_addT (pe_op op_addT (pv 1) (pe_str)) (pe_joinT (pe_str) (pe_lc (own := [("card", 3)]) (g := gName 3) (tt := tYes) (by rfl) sc_grid.nd (pi_tup (pe_propR (pv 0) T.cl_Arrangement T.p_Arrangement_row G_Arrangement_row (hr.mono (by decide)) pass0 rfl)) (blkOk_by (own := [("card", 3)]) (N := N_grid) (sc := defScope s_grid) (by decide +kernel)) (fun _ _ _ _ _ => pg_name (i := 3) sc_grid.nd rfl (.inl rfl)) (fun _ _ _ _ _ => pts_nil) (fun _ _ _ _ _ => pe_joined1 (pe_fmt6 (pv 3))))))))
theorem ok_is_integer (T : Txt K mg a fa) (n : Nm mg)  : FnE P w K mg base CX0 1 fa.is_integer ["value"] (sp_is_integer K a) := by
  obtain ⟨fd, F⟩ := T.F_is_integer
  refine ⟨fd, F.ok sc_is_integer (fun vs H Q E h => h.1) (fun cdv A outer s H vs Q E hr h => ⟨t_is_integer K a, ?_, pure_is_integer h⟩), F.binds fun _ _ _ _ _ _ us hl => match us, hl with | [_], _ => rfl⟩
  exact pss_one (ps_ret (pe_and (pe_callB call_isi (by rfl) n.isinstance (by decide +kernel) (by exact (pa_cons (pv 0) (pa_cons (pe_bltn (v := .ty "int") (by rfl) n.int_ (by decide +kernel) rfl) (pa_nil))))) (pe_one (pe_not (pe_callB call_isi (by rfl) n.isinstance (by decide +kernel) (by exact (pa_cons (pv 0) (pa_cons (pe_bltn (v := .ty "bool") (by rfl) n.bool_ (by decide +kernel) rfl) (pa_nil)))))))))
theorem ok_Arrangement_is_row (T : Txt K mg a fa) (n : Nm mg) (G_is_integer : FnE P w K mg base CX0 1 fa.is_integer ["value"] (sp_is_integer K a)) : FnE P w K mg base CX0 2 fa.Arrangement_is_row ["value"] (sp_Arrangement_is_row K a) := by
  obtain ⟨fd, F⟩ := T.F_Arrangement_is_row
  refine ⟨fd, F.ok sc_Arrangement_is_row (fun vs H Q E h => h.1) (fun cdv A outer s H vs Q E hr h => ⟨t_Arrangement_is_row K a, ?_, pure_Arrangement_is_row h⟩), F.binds fun _ _ _ _ _ _ us hl => match us, hl with | [_], _ => rfl⟩
  exact pss_cons (ps_if (PW.pt (pw_or (pt_not (pt_val (pe_callB call_isiT (by rfl) n.isinstance (by decide +kernel) (by exact (pa_cons (pv 0) (pa_cons (pe_tup (pa_cons (pe_bltn (v := .ty "list") (by rfl) n.list_ (by decide +kernel) rfl) (pa_cons (pe_bltn (v := .ty "tuple") (by rfl) n.tuple_ (by decide +kernel) rfl) (pa_nil)))) (pa_nil))))))) (pw_or1 (pt_not (pt_chain op_le op_le (pe_int) (pe_callB c_lenS (by rfl) n.len (by decide +kernel) (by exact (pa_cons (pv 0) (pa_nil)))) (pe_glob rfl T.c_MOST_CARDS ⟨_, rfl⟩)))))) (pss_one (ps_ret (pe_bl))) (pss_nil))
    (pss_cons (ps_if (pt_not (pt_val (pe_callB (cr_all rfl) (by rfl) n.all (by decide +kernel) (by exact (pa_cons (pe_lc (own := [("card", 1)]) (g := gName 1) (tt := tYes) (by rfl) sc_Arrangement_is_row.nd (pi_ltp (pv 0)) (blkOk_by (own := [("card", 1)]) (N := N_Arrangement_is_row) (sc := defScope s_Arrangement_is_row) (by decide +kernel)) (fun _ _ _ _ _ => pg_name (i := 1) sc_Arrangement_is_row.nd rfl (.inl rfl)) (fun _ _ _ _ _ => pts_nil) (fun _ _ _ _ _ => pe_callR G_is_integer (hr.mono (by decide)) rfl T.g_is_integer T.k_is_integer pass0 (by exact (pa_cons (pv 1) (pa_nil))))) (pa_nil)))))) (pss_one (ps_ret (pe_bl))) (pss_nil))
    (pss_one (ps_ret (pe_cmpR (op_eqX hr.units) (pe_callB cr_sortedI (by rfl) n.sorted (by decide +kernel) (by exact (pa_cons (pe_lc (own := [("card", 1)]) (g := gName 1) (tt := tYes) (by rfl) sc_Arrangement_is_row.nd (pi_ltp (pv 0)) (blkOk_by (own := [("card", 1)]) (N := N_Arrangement_is_row) (sc := defScope s_Arrangement_is_row) (by decide +kernel)) (fun _ _ _ _ _ => pg_name (i := 1) sc_Arrangement_is_row.nd rfl (.inl rfl)) (fun _ _ _ _ _ => pts_nil) (fun _ _ _ _ _ => pe_callB c_abs (by rfl) n.abs (by decide +kernel) (by exact (pa_cons (pv 1) (pa_nil))))) (pa_nil)))) (g_lr2 n rfl (pe_int) (pe_op op_add (pe_callB c_lenS (by rfl) n.len (by decide +kernel) (by exact (pa_cons (pv 0) (pa_nil)))) (pe_int)) rfl rfl) (nomark _)))))
theorem ok_Arrangement___init__ (T : Txt K mg a fa) (n : Nm mg) (G_Arrangement_is_row : FnE P w K mg base CX0 2 fa.Arrangement_is_row ["value"] (sp_Arrangement_is_row K a)) : FnE P w K mg base CX0 3 fa.Arrangement___init__ ["self", "row"] (sp_Arrangement___init__ K a) := by
  obtain ⟨fd, F⟩ := T.F_Arrangement___init__
  refine ⟨fd, F.ok sc_Arrangement___init__ (fun vs H Q E h => h.1) (fun cdv A outer s H vs Q E hr h => ⟨t_Arrangement___init__ K a, ?_, pure_Arrangement___init__ ⟨T.cl_Arrangement, T.n_Arrangement_cards⟩ h⟩), F.binds fun _ _ _ _ _ _ us hl => match us, hl with | [_, _], _ => rfl⟩
  exact pss_cons (ps_if (pt_not (pt_val (pe_smethR (pe_glob rfl T.g_Arrangement rfl) T.r_Arrangement T.s_Arrangement_is_row G_Arrangement_is_row (hr.mono (by decide)) pass0 (by exact (pa_cons (pv 1) (pa_nil)))))) (pss_one (ps_never)) (pss_nil))
    (pss_one (ps_fld (pv 0) (pe_callTy c_tupS (by rfl) n.tuple_ (by decide +kernel) (by exact (pa_cons (pv 1) (pa_nil)))) rfl))
theorem ok__law_check (T : Txt K mg a fa) (n : Nm mg) (G__law_padded : FnE P w K mg base CX0 1 fa._law_padded ["_law_number"] (sp__law_padded K a)) (G_grid : FnE P w K mg base CX0 3 fa.grid ["a"] (sp_grid K a)) (G_Arrangement___init__ : FnE P w K mg base CX0 3 fa.Arrangement___init__ ["self", "row"] (sp_Arrangement___init__ K a)) : FnE P w K mg base CX0 5 fa._law_check ["_law_cards_here"] (sp__law_check K a) := by
  obtain ⟨fd, F⟩ := T.F__law_check
  refine ⟨fd, F.ok sc__law_check (fun vs H Q E h => h.1) (fun cdv A outer s H vs Q E hr h => ⟨t__law_check K a, ?_, pure__law_check h⟩), F.binds fun _ _ _ _ _ _ us hl => match us, hl with | [_], _ => rfl⟩
  exact pss_cons (ps_set (i := 1) sc__law_check.nd rfl (Or.inl rfl) (pe_joinT (pe_str) (pe_lc (own := [("_law_place", 2)]) (g := gName 2) (tt := tYes) (by rfl) sc__law_check.nd (pi_range2 (by rfl) n.range (by exact (pa_cons (pe_int) (pa_cons (pe_op op_add (pe_callB c_lenS (by rfl) n.len (by decide +kernel) (by exact (pa_cons (pv 0) (pa_nil)))) (pe_int)) (pa_nil))))) (blkOk_by (own := [("_law_place", 2)]) (N := N__law_check) (sc := defScope s__law_check) (by decide +kernel)) (fun _ _ _ _ _ => pg_name (i := 2) sc__law_check.nd rfl (.inl rfl)) (fun _ _ _ _ _ => pts_nil) (fun _ _ _ _ _ => pe_callR G__law_padded (hr.mono (by decide)) rfl T.g__law_padded T.k__law_padded pass0 (by exact (pa_cons (pv 2) (pa_nil)))))))
    (pss_one (ps_ret (pe_cmpR op_eq (pe_callR G_grid (hr.mono (by decide)) rfl T.g_grid T.k_grid pass0 (by exact (pa_cons (pe_makeR T.m_Arrangement G_Arrangement___init__ (hr.mono (by decide)) rfl T.g_Arrangement pass0 (by exact (pa_cons (pv 0) (pa_nil)))) (pa_nil)))) (pe_op op_addT (pe_op op_addT (pv 1) (pe_str)) (pe_joinT (pe_str) (pe_lc (own := [("_law_card", 3)]) (g := gName 3) (tt := tYes) (by rfl) sc__law_check.nd (pi_tup (pv 0)) (blkOk_by (own := [("_law_card", 3)]) (N := N__law_check) (sc := defScope s__law_check) (by decide +kernel)) (fun _ _ _ _ _ => pg_name (i := 3) sc__law_check.nd rfl (.inl rfl)) (fun _ _ _ _ _ => pts_nil) (fun _ _ _ _ _ => pe_callR G__law_padded (hr.mono (by decide)) rfl T.g__law_padded T.k__law_padded pass0 (by exact (pa_cons (pv 3) (pa_nil))))))) (nomark _))))
theorem ok__law_take (T : Txt K mg a fa) (n : Nm mg)  : FnE P w K mg base CX0 1 fa._law_take ["_law_pool_here", "_law_count"] (sp__law_take K a) := by
  obtain ⟨fd, F⟩ := T.F__law_take
  refine ⟨fd, F.ok sc__law_take (fun vs H Q E h => h.1) (fun cdv A outer s H vs Q E hr h => ⟨t__law_take K a, ?_, pure__law_take h⟩), F.binds fun _ _ _ _ _ _ us hl => match us, hl with | [_, _], _ => rfl⟩
  exact pss_cons (ps_if (pt_cmpR op_gt (pe_ix ix_list (pv 0) (pe_int) (fun _ _ => rfl)) (pe_int) (nomark _)) (pss_cons (ps_set (i := 2) sc__law_take.nd rfl (Or.inl rfl) (pe_op op_mod (pe_ix ix_list (pv 0) (pe_int) (fun _ _ => rfl)) (pv 1)))
    (pss_cons (ps_asg (pe_op op_fdivW (pe_ix ix_list (pv 0) (pe_int) (fun _ _ => rfl)) (pv 1)) (pg_sub (pv 0) (pe_int) set_list))
    (pss_one (ps_ret (pv 2))))) (pss_nil))
    (pss_cons (ps_asg (pe_op op_mod (pe_op op_add (pe_op op_mulA (pe_ix ix_list (pv 0) (pe_int) (fun _ _ => rfl)) (pe_int)) (pe_int)) (pe_int)) (pg_sub (pv 0) (pe_int) set_list))
    (pss_one (ps_ret (pe_op op_mod (pe_op op_fdivW (pe_op op_mod (pe_op op_mulA (pe_ix ix_list (pv 0) (pe_int) (fun _ _ => rfl)) (pe_ix ix_list (pv 0) (pe_int) (fun _ _ => rfl))) (pe_int)) (pe_int)) (pv 1)))))
theorem ok__law_cards (T : Txt K mg a fa) (n : Nm mg) (G__law_take : FnE P w K mg base CX0 1 fa._law_take ["_law_pool_here", "_law_count"] (sp__law_take K a)) : FnE P w K mg base CX0 2 fa._law_cards ["_law_pool_here", "_law_many"] (sp__law_cards K a) := by
  obtain ⟨fd, F⟩ := T.F__law_cards
  refine ⟨fd, F.ok sc__law_cards (fun vs H Q E h => h.1) (fun cdv A outer s H vs Q E hr h => ⟨t__law_cards K a, ?_, pure__law_cards h⟩), F.binds fun _ _ _ _ _ _ us hl => match us, hl with | [_, _], _ => rfl⟩
  exact pss_cons (ps_par (by rfl) sc__law_cards.nd rfl rfl (by decide) rfl rfl (by exact (pa_cons (g_lr2 n rfl (pe_int) (pe_op op_add (pv 1) (pe_int)) rfl rfl) (pa_cons (pe_lst (pa_nil)) (pa_nil)))) (by rfl))
    (pss_cons (ps_for PassesOwn.never rfl (pi_range1 (by rfl) n.range (by exact (pa_cons (pv 1) (pa_nil)))) (pg_name (i := 2) sc__law_cards.nd rfl (.inl rfl))
     (pss_cons (ps_set (i := 5) sc__law_cards.nd rfl (Or.inl rfl) (pe_bm PySem.F.plainAttrs_list PySem.F.slot_list_pop PySem.F.type_list_pop mt_popAt (pv 3) (by exact (pa_cons (pe_callR G__law_take (hr.mono (by decide)) rfl T.g__law_take T.k__law_take pass0 (by exact (pa_cons (pv 0) (pa_cons (pe_callB c_lenS (by rfl) n.len (by decide +kernel) (by exact (pa_cons (pv 3) (pa_nil)))) (pa_nil))))) (pa_nil)))))
    (pss_one (ps_expr (pe_bm PySem.F.plainAttrs_list PySem.F.slot_list_append PySem.F.type_list_append mt_append (pv 4) (by exact (pa_cons (pe_ix ix_list (pe_lst (pa_cons (pv 5) (pa_cons (pe_op op_sub (pe_int) (pv 5)) (pa_nil)))) (pe_callR G__law_take (hr.mono (by decide)) rfl T.g__law_take T.k__law_take pass0 (by exact (pa_cons (pv 0) (pa_cons (pe_int) (pa_nil))))) (fun _ _ => rfl)) (pa_nil))))))))
    (pss_one (ps_ret (pe_callTy c_tupS (by rfl) n.tuple_ (by decide +kernel) (by exact (pa_cons (pv 4) (pa_nil)))))))
theorem ok__law_pool (T : Txt K mg a fa) (n : Nm mg)  : FnE P w K mg base CX0 1 fa._law_pool ["_law_script", "_law_k"] (sp__law_pool K a) := by
  obtain ⟨fd, F⟩ := T.F__law_pool
  refine ⟨fd, F.ok sc__law_pool (fun vs H Q E h => h.1) (fun cdv A outer s H vs Q E hr h => ⟨t__law_pool K a, ?_, pure__law_pool h⟩), F.binds fun _ _ _ _ _ _ us hl => match us, hl with | [_, _], _ => rfl⟩
  exact pss_cons (ps_set (i := 2) sc__law_pool.nd rfl (Or.inl rfl) (pe_int))
    (pss_cons (ps_if (pt_cmpR op_lt (pv 1) (pe_callB c_lenS (by rfl) n.len (by decide +kernel) (by exact (pa_cons (pv 0) (pa_nil)))) (nomark _)) (pss_one (ps_set (i := 2) sc__law_pool.nd rfl (Or.inl rfl) (pe_callB c_abs (by rfl) n.abs (by decide +kernel) (by exact (pa_cons (pe_ix ix_list (pv 0) (pv 1) (fun _ _ => rfl)) (pa_nil)))))) (pss_nil))
    (pss_cons (ps_set (i := 3) sc__law_pool.nd rfl (Or.inl rfl) (pe_op op_mod (pe_op op_mulA (pe_op op_add (pe_op op_add (pe_op op_add (pe_op op_mod (pv 2) (pe_int)) (pe_op op_mulA (pe_op op_mulA (pe_int) (pv 1)) (pv 1))) (pe_op op_mulA (pe_int) (pv 1))) (pe_int)) (pe_int)) (pe_int)))
    (pss_one (ps_ret (pe_lst (pa_cons (pe_op op_mulA (pv 2) (pe_callTy c_int1 (by rfl) n.int_ (by decide +kernel) (by exact (pa_cons (pe_cmpR op_ge (pv 2) (pe_op op_pow (pe_int) (pe_int)) (nomark _)) (pa_nil))))) (pa_cons (pe_op op_mod (pe_op op_mulA (pv 3) (pv 3)) (pe_int)) (pa_nil))))))))
theorem ok_format_step (T : Txt K mg a fa) (n : Nm mg)  : FnE P w K mg base CX0 1 fa.format_step ["step"] (sp_format_step K a) := by
  obtain ⟨fd, F⟩ := T.F_format_step
  refine ⟨fd, F.ok sc_format_step (fun vs H Q E h => h.1) (fun cdv A outer s H vs Q E hr h => ⟨t_format_step K a, ?_, pure_format_step h⟩), F.binds fun _ _ _ _ _ _ us hl => match us, hl with | [_], _ => rfl⟩
  exact pss_cons (ps_if (pt_cmpR op_eq (pe_ix ix_tup (pv 0) (pe_int) (fun _ _ => rfl)) (pe_str) (nomark _)) (pss_one (ps_ret (pe_joinedN (.cons (pe_fmt (pe_ix ix_tup (pv 0) (pe_int) (fun _ _ => rfl))) (.cons (pe_str) (.nil)))))) (pss_nil))
    (pss_one (ps_ret (pe_joinedN (.cons (pe_fmt (pe_ix ix_tup (pv 0) (pe_int) (fun _ _ => rfl))) (.cons (pe_fmt (pe_ifExp (pt_cmpR op_eq (pe_ix ix_tup (pv 0) (pe_int) (fun _ _ => rfl)) (pe_str) (nomark _)) (pe_str) (pe_str))) (.cons (pe_fmt (pe_ix ix_tup (pv 0) (pe_int) (fun _ _ => rfl))) (.nil)))))))
end
theorem law_ok {P : Program} {w : World} {K : PySem.W.Frag} {mg : Str → Option Value} {base : Heap} {a : Ad} {fa : Fa} (T : Txt K mg a fa) (n : Nm mg) {f : Addr} {fd : FuncData} (F : Fun K "law" "law" s_law f fd) (G__law_check : FnE P w K mg base CX0 5 fa._law_check ["_law_cards_here"] (sp__law_check K a)) (G__law_cards : FnE P w K mg base CX0 2 fa._law_cards ["_law_pool_here", "_law_many"] (sp__law_cards K a)) (G__law_take : FnE P w K mg base CX0 1 fa._law_take ["_law_pool_here", "_law_count"] (sp__law_take K a)) (G__law_pool : FnE P w K mg base CX0 1 fa._law_pool ["_law_script", "_law_k"] (sp__law_pool K a)) (G_format_step : FnE P w K mg base CX0 1 fa.format_step ["step"] (sp_format_step K a)) (G_grid : FnE P w K mg base CX0 3 fa.grid ["a"] (sp_grid K a)) (G_Arrangement___init__ : FnE P w K mg base CX0 3 fa.Arrangement___init__ ["self", "row"] (sp_Arrangement___init__ K a)) : FnOk P w K mg base CX0 6 f fd ["_law_script"] (sp_law K a) := by
  refine F.ok sc_law (fun vs H Q E h => h.1) (fun cdv A outer s H vs Q E hr h => ⟨t_law K a, ?_, pure_law h⟩)
  exact pss_cons (ps_if (pt_not (pt_val (pe_callR G__law_check (hr.mono (by decide)) rfl T.g__law_check T.k__law_check pass0 (by exact (pa_cons (pe_callR G__law_cards (hr.mono (by decide)) rfl T.g__law_cards T.k__law_cards pass0 (by exact (pa_cons (pe_callR G__law_pool (hr.mono (by decide)) rfl T.g__law_pool T.k__law_pool pass0 (by exact (pa_cons (pv 0) (pa_cons (pe_int) (pa_nil))))) (pa_cons (pe_op op_add (pe_int) (pe_callR G__law_take (hr.mono (by decide)) rfl T.g__law_take T.k__law_take pass0 (by exact (pa_cons (pe_callR G__law_pool (hr.mono (by decide)) rfl T.g__law_pool T.k__law_pool pass0 (by exact (pa_cons (pv 0) (pa_cons (pe_int) (pa_nil))))) (pa_cons (pe_int) (pa_nil)))))) (pa_nil))))) (pa_nil)))))) (pss_one (ps_ret (pe_bl))) (pss_nil))
    (pss_cons (ps_for PassesOwn.never rfl (pi_range1 (by rfl) n.range (by exact (pa_cons (pe_callB (c_max2 rfl) (by rfl) n.max (by decide +kernel) (by exact (pa_cons (pe_int) (pa_cons (pe_callB (c_min2 rfl) (by rfl) n.min (by decide +kernel) (by exact (pa_cons (pe_int) (pa_cons (pe_callB c_lenS (by rfl) n.len (by decide +kernel) (by exact (pa_cons (pv 0) (pa_nil)))) (pa_nil))))) (pa_nil))))) (pa_nil)))) (pg_name (i := 1) sc_law.nd rfl (.inl rfl))
     (pss_cons (ps_set (i := 2) sc_law.nd rfl (Or.inl rfl) (pe_callR G__law_pool (hr.mono (by decide)) rfl T.g__law_pool T.k__law_pool pass0 (by exact (pa_cons (pv 0) (pa_cons (pv 1) (pa_nil))))))
    (pss_cons (ps_if (pt_not (pt_val (pe_callR G__law_check (hr.mono (by decide)) rfl T.g__law_check T.k__law_check pass0 (by exact (pa_cons (pe_callR G__law_cards (hr.mono (by decide)) rfl T.g__law_cards T.k__law_cards pass0 (by exact (pa_cons (pv 2) (pa_cons (pe_op op_add (pe_int) (pe_callR G__law_take (hr.mono (by decide)) rfl T.g__law_take T.k__law_take pass0 (by exact (pa_cons (pv 2) (pa_cons (pe_int) (pa_nil)))))) (pa_nil))))) (pa_nil)))))) (pss_one (ps_ret (pe_bl))) (pss_nil))
    (pss_one (ps_for PassesOwn.never rfl (pi_list (pe_lst (pa_cons (pe_int) (pa_cons (pe_int) (pa_cons (pe_op op_pow (pe_int) (pe_int)) (pa_nil)))))) (pg_name (i := 3) sc_law.nd rfl (.inl rfl))
     (pss_cons (ps_par (by rfl) sc_law.nd rfl rfl (by decide) rfl rfl (by exact (pa_cons (pe_op op_add (pe_int) (pe_callR G__law_take (hr.mono (by decide)) rfl T.g__law_take T.k__law_take pass0 (by exact (pa_cons (pv 2) (pa_cons (pv 3) (pa_nil)))))) (pa_cons (pe_op op_add (pe_int) (pe_callR G__law_take (hr.mono (by decide)) rfl T.g__law_take T.k__law_take pass0 (by exact (pa_cons (pv 2) (pa_cons (pv 3) (pa_nil)))))) (pa_nil)))) (by rfl))
    (pss_cons (ps_if (pt_cmpR op_ne (pe_callR G_format_step (hr.mono (by decide)) rfl T.g_format_step T.k_format_step pass0 (by exact (pa_cons (pe_tup (pa_cons (pe_str) (pa_cons (pv 4) (pa_nil)))) (pa_nil)))) (pe_op op_addT (pe_callTy c_strI (by rfl) n.str_ (by decide +kernel) (by exact (pa_cons (pv 4) (pa_nil)))) (pe_str)) (nomark _)) (pss_one (ps_ret (pe_bl))) (pss_nil))
    (pss_cons (ps_if (PW.pt (pw_and (pt_cmpR op_ne (pv 4) (pv 5) (nomark _)) (pw_and1 (pt_cmpR op_ne (pe_callR G_format_step (hr.mono (by decide)) rfl T.g_format_step T.k_format_step pass0 (by exact (pa_cons (pe_tup (pa_cons (pe_str) (pa_cons (pv 4) (pa_cons (pv 5) (pa_nil))))) (pa_nil)))) (pe_op op_addT (pe_op op_addT (pe_callTy c_strI (by rfl) n.str_ (by decide +kernel) (by exact (pa_cons (pv 4) (pa_nil)))) (pe_str)) (pe_callTy c_strI (by rfl) n.str_ (by decide +kernel) (by exact (pa_cons (pv 5) (pa_nil))))) (nomark _))))) (pss_one (ps_ret (pe_bl))) (pss_nil))
    (pss_one (ps_if (PW.pt (pw_and (pt_cmpR op_ne (pv 4) (pv 5) (nomark _)) (pw_and1 (pt_cmpR op_ne (pe_callR G_format_step (hr.mono (by decide)) rfl T.g_format_step T.k_format_step pass0 (by exact (pa_cons (pe_tup (pa_cons (pe_str) (pa_cons (pv 4) (pa_cons (pv 5) (pa_nil))))) (pa_nil)))) (pe_op op_addT (pe_op op_addT (pe_callTy c_strI (by rfl) n.str_ (by decide +kernel) (by exact (pa_cons (pv 4) (pa_nil)))) (pe_str)) (pe_callTy c_strI (by rfl) n.str_ (by decide +kernel) (by exact (pa_cons (pv 5) (pa_nil))))) (nomark _))))) (pss_one (ps_ret (pe_bl))) (pss_nil)))))))))))
    (pss_one (ps_ret (pe_cmpR op_eq (pe_callR G_grid (hr.mono (by decide)) rfl T.g_grid T.k_grid pass0 (by exact (pa_cons (pe_makeR T.m_Arrangement G_Arrangement___init__ (hr.mono (by decide)) rfl T.g_Arrangement pass0 (by exact (pa_cons (pe_tup (pa_cons (pe_un un_neg (pe_int)) (pa_nil))) (pa_nil)))) (pa_nil)))) (pe_str) (nomark _)))))
def sp_lawX (K : PySem.W.Frag) : Sp := fun vs H Q E => ∀ a : Ad, sp_law K a vs H Q E
theorem all_mk {l : PySem.W.OpenLaw} {w : World} {K : PySem.W.Frag} {h : Heap} {mg : Str → Option Value} {f0 : Addr} (X : K.In h) (G : h.Ns mainGlobals mg) (hfa : mg "law" = some (.ref f0))
    {f__law_padded f_Arrangement___len__ f_Arrangement_row r_Arrangement_row f_grid f_is_integer f_Arrangement_is_row r_Arrangement_is_row f_Arrangement___init__ f__law_check f__law_take f__law_cards f__law_pool f_format_step f_law C_Arrangement : Addr} {od__law_padded an__law_padded od_Arrangement___len__ an_Arrangement___len__ od_Arrangement_row an_Arrangement_row od_grid an_grid od_is_integer an_is_integer od_Arrangement_is_row an_Arrangement_is_row od_Arrangement___init__ an_Arrangement___init__ od__law_check an__law_check od__law_take an__law_take od__law_cards an__law_cards od__law_pool an__law_pool od_format_step an_format_step od_law an_law : Option Addr} {oc__law_padded kV__law_padded dc__law_padded pm__law_padded cd__law_padded ct__law_padded oc_Arrangement___len__ kV_Arrangement___len__ dc_Arrangement___len__ pm_Arrangement___len__ cd_Arrangement___len__ ct_Arrangement___len__ oc_Arrangement_row kV_Arrangement_row dc_Arrangement_row pm_Arrangement_row cd_Arrangement_row ct_Arrangement_row oc_grid kV_grid dc_grid pm_grid cd_grid ct_grid oc_is_integer kV_is_integer dc_is_integer pm_is_integer cd_is_integer ct_is_integer oc_Arrangement_is_row kV_Arrangement_is_row dc_Arrangement_is_row pm_Arrangement_is_row cd_Arrangement_is_row ct_Arrangement_is_row oc_Arrangement___init__ kV_Arrangement___init__ dc_Arrangement___init__ pm_Arrangement___init__ cd_Arrangement___init__ ct_Arrangement___init__ oc__law_check kV__law_check dc__law_check pm__law_check cd__law_check ct__law_check oc__law_take kV__law_take dc__law_take pm__law_take cd__law_take ct__law_take oc__law_cards kV__law_cards dc__law_cards pm__law_cards cd__law_cards ct__law_cards oc__law_pool kV__law_pool dc__law_pool pm__law_pool cd__law_pool ct__law_pool oc_format_step kV_format_step dc_format_step pm_format_step cd_format_step ct_format_step oc_law kV_law dc_law pm_law cd_law ct_law : Value} {sl__law_padded sl_Arrangement___len__ sl_Arrangement_row sl_grid sl_is_integer sl_Arrangement_is_row sl_Arrangement___init__ sl__law_check sl__law_take sl__law_cards sl__law_pool sl_format_step sl_law : Array (Option Value)} {re_Arrangement_row re_Arrangement_is_row : List Value} {tk_MOST_CARDS : Tok}
    (aC_Arrangement : PySem.W.nsIn K mainGlobals "Arrangement" = some (some (.ref C_Arrangement)))
    (pg_Arrangement : PySem.W.plainGet K C_Arrangement Str.empty = true)
    (hd_Arrangement : PySem.W.hasDictIn K C_Arrangement = true)
    (po_Arrangement : PySem.W.plainOver K C_Arrangement = true)
    (sa_Arrangement : PySem.W.findIn K (.ref C_Arrangement) "__setattr__" = some (some (.builtin "object.__setattr__")))
    (mk_Arrangement : PySem.W.makesIn K C_Arrangement = true)
    (kc_Arrangement : PySem.W.keepIn K (.ref C_Arrangement) = true)
    (rd_Arrangement : PySem.W.readsIn K C_Arrangement (.type "type") = true)
    (ga_Arrangement : PySem.W.specialIn K (.ref C_Arrangement) "__getattribute__" = some (some (.builtin "type.__getattribute__")))
    (no_Arrangement_cards : PySem.W.findIn K (.ref C_Arrangement) "cards" = some none)
    (a__law_padded : PySem.W.nsIn K mainGlobals "_law_padded" = some (some (.ref f__law_padded)))
    (l__law_padded : K.lookup f__law_padded = some ⟨oc__law_padded, od__law_padded, .func (PySem.W.fnOf "_law_padded" "_law_padded" (defArgs s__law_padded) (defBody s__law_padded) (defScope s__law_padded) .none kV__law_padded dc__law_padded pm__law_padded an__law_padded cd__law_padded ct__law_padded), sl__law_padded⟩)
    (c__law_padded : PySem.W.codeIn K cd__law_padded "_law_padded" = true)
    (k__law_padded : PySem.W.keepIn K (.ref f__law_padded) = true)
    (a_Arrangement___len__ : PySem.W.findIn K (.ref C_Arrangement) "__len__" = some (some (.ref f_Arrangement___len__)))
    (i_Arrangement___len__ : PySem.W.isFn K (.ref f_Arrangement___len__) = true)
    (l_Arrangement___len__ : K.lookup f_Arrangement___len__ = some ⟨oc_Arrangement___len__, od_Arrangement___len__, .func (PySem.W.fnOf "__len__" "Arrangement.__len__" (defArgs s_Arrangement___len__) (defBody s_Arrangement___len__) (defScope s_Arrangement___len__) .none kV_Arrangement___len__ dc_Arrangement___len__ pm_Arrangement___len__ an_Arrangement___len__ cd_Arrangement___len__ ct_Arrangement___len__), sl_Arrangement___len__⟩)
    (c_Arrangement___len__ : PySem.W.codeIn K cd_Arrangement___len__ "Arrangement.__len__" = true)
    (k_Arrangement___len__ : PySem.W.keepIn K (.ref f_Arrangement___len__) = true)
    (a_Arrangement_row : PySem.W.findIn K (.ref C_Arrangement) "row" = some (some (.ref r_Arrangement_row)))
    (b_Arrangement_row : PySem.W.specialIn K (.ref r_Arrangement_row) "__get__" = some (some (.builtin "property.__get__")))
    (d_Arrangement_row : PySem.W.takesIn K (.ref r_Arrangement_row) = some true)
    (e_Arrangement_row : PySem.W.recIn K r_Arrangement_row "property" = some (.ref f_Arrangement_row :: re_Arrangement_row))
    (l_Arrangement_row : K.lookup f_Arrangement_row = some ⟨oc_Arrangement_row, od_Arrangement_row, .func (PySem.W.fnOf "row" "Arrangement.row" (defArgs s_Arrangement_row) (defBody s_Arrangement_row) (defScope s_Arrangement_row) .none kV_Arrangement_row dc_Arrangement_row pm_Arrangement_row an_Arrangement_row cd_Arrangement_row ct_Arrangement_row), sl_Arrangement_row⟩)
    (c_Arrangement_row : PySem.W.codeIn K cd_Arrangement_row "Arrangement.row" = true)
    (k_Arrangement_row : PySem.W.keepIn K (.ref f_Arrangement_row) = true)
    (a_grid : PySem.W.nsIn K mainGlobals "grid" = some (some (.ref f_grid)))
    (l_grid : K.lookup f_grid = some ⟨oc_grid, od_grid, .func (PySem.W.fnOf "grid" "grid" (defArgs s_grid) (defBody s_grid) (defScope s_grid) .none kV_grid dc_grid pm_grid an_grid cd_grid ct_grid), sl_grid⟩)
    (c_grid : PySem.W.codeIn K cd_grid "grid" = true)
    (k_grid : PySem.W.keepIn K (.ref f_grid) = true)
    (a_is_integer : PySem.W.nsIn K mainGlobals "is_integer" = some (some (.ref f_is_integer)))
    (l_is_integer : K.lookup f_is_integer = some ⟨oc_is_integer, od_is_integer, .func (PySem.W.fnOf "is_integer" "is_integer" (defArgs s_is_integer) (defBody s_is_integer) (defScope s_is_integer) .none kV_is_integer dc_is_integer pm_is_integer an_is_integer cd_is_integer ct_is_integer), sl_is_integer⟩)
    (c_is_integer : PySem.W.codeIn K cd_is_integer "is_integer" = true)
    (k_is_integer : PySem.W.keepIn K (.ref f_is_integer) = true)
    (a_Arrangement_is_row : PySem.W.findCls K (.ref C_Arrangement) (.type "type") "is_row" = some (.get (.builtin "staticmethod.__get__") (.ref r_Arrangement_is_row) .none (.ref C_Arrangement)))
    (e_Arrangement_is_row : PySem.W.recIn K r_Arrangement_is_row "staticmethod" = some (.ref f_Arrangement_is_row :: re_Arrangement_is_row))
    (l_Arrangement_is_row : K.lookup f_Arrangement_is_row = some ⟨oc_Arrangement_is_row, od_Arrangement_is_row, .func (PySem.W.fnOf "is_row" "Arrangement.is_row" (defArgs s_Arrangement_is_row) (defBody s_Arrangement_is_row) (defScope s_Arrangement_is_row) .none kV_Arrangement_is_row dc_Arrangement_is_row pm_Arrangement_is_row an_Arrangement_is_row cd_Arrangement_is_row ct_Arrangement_is_row), sl_Arrangement_is_row⟩)
    (c_Arrangement_is_row : PySem.W.codeIn K cd_Arrangement_is_row "Arrangement.is_row" = true)
    (k_Arrangement_is_row : PySem.W.keepIn K (.ref f_Arrangement_is_row) = true)
    (a_Arrangement___init__ : PySem.W.findIn K (.ref C_Arrangement) "__init__" = some (some (.ref f_Arrangement___init__)))
    (i_Arrangement___init__ : PySem.W.isFn K (.ref f_Arrangement___init__) = true)
    (l_Arrangement___init__ : K.lookup f_Arrangement___init__ = some ⟨oc_Arrangement___init__, od_Arrangement___init__, .func (PySem.W.fnOf "__init__" "Arrangement.__init__" (defArgs s_Arrangement___init__) (defBody s_Arrangement___init__) (defScope s_Arrangement___init__) .none kV_Arrangement___init__ dc_Arrangement___init__ pm_Arrangement___init__ an_Arrangement___init__ cd_Arrangement___init__ ct_Arrangement___init__), sl_Arrangement___init__⟩)
    (c_Arrangement___init__ : PySem.W.codeIn K cd_Arrangement___init__ "Arrangement.__init__" = true)
    (k_Arrangement___init__ : PySem.W.keepIn K (.ref f_Arrangement___init__) = true)
    (a__law_check : PySem.W.nsIn K mainGlobals "_law_check" = some (some (.ref f__law_check)))
    (l__law_check : K.lookup f__law_check = some ⟨oc__law_check, od__law_check, .func (PySem.W.fnOf "_law_check" "_law_check" (defArgs s__law_check) (defBody s__law_check) (defScope s__law_check) .none kV__law_check dc__law_check pm__law_check an__law_check cd__law_check ct__law_check), sl__law_check⟩)
    (c__law_check : PySem.W.codeIn K cd__law_check "_law_check" = true)
    (k__law_check : PySem.W.keepIn K (.ref f__law_check) = true)
    (a__law_take : PySem.W.nsIn K mainGlobals "_law_take" = some (some (.ref f__law_take)))
    (l__law_take : K.lookup f__law_take = some ⟨oc__law_take, od__law_take, .func (PySem.W.fnOf "_law_take" "_law_take" (defArgs s__law_take) (defBody s__law_take) (defScope s__law_take) .none kV__law_take dc__law_take pm__law_take an__law_take cd__law_take ct__law_take), sl__law_take⟩)
    (c__law_take : PySem.W.codeIn K cd__law_take "_law_take" = true)
    (k__law_take : PySem.W.keepIn K (.ref f__law_take) = true)
    (a__law_cards : PySem.W.nsIn K mainGlobals "_law_cards" = some (some (.ref f__law_cards)))
    (l__law_cards : K.lookup f__law_cards = some ⟨oc__law_cards, od__law_cards, .func (PySem.W.fnOf "_law_cards" "_law_cards" (defArgs s__law_cards) (defBody s__law_cards) (defScope s__law_cards) .none kV__law_cards dc__law_cards pm__law_cards an__law_cards cd__law_cards ct__law_cards), sl__law_cards⟩)
    (c__law_cards : PySem.W.codeIn K cd__law_cards "_law_cards" = true)
    (k__law_cards : PySem.W.keepIn K (.ref f__law_cards) = true)
    (a__law_pool : PySem.W.nsIn K mainGlobals "_law_pool" = some (some (.ref f__law_pool)))
    (l__law_pool : K.lookup f__law_pool = some ⟨oc__law_pool, od__law_pool, .func (PySem.W.fnOf "_law_pool" "_law_pool" (defArgs s__law_pool) (defBody s__law_pool) (defScope s__law_pool) .none kV__law_pool dc__law_pool pm__law_pool an__law_pool cd__law_pool ct__law_pool), sl__law_pool⟩)
    (c__law_pool : PySem.W.codeIn K cd__law_pool "_law_pool" = true)
    (k__law_pool : PySem.W.keepIn K (.ref f__law_pool) = true)
    (a_format_step : PySem.W.nsIn K mainGlobals "format_step" = some (some (.ref f_format_step)))
    (l_format_step : K.lookup f_format_step = some ⟨oc_format_step, od_format_step, .func (PySem.W.fnOf "format_step" "format_step" (defArgs s_format_step) (defBody s_format_step) (defScope s_format_step) .none kV_format_step dc_format_step pm_format_step an_format_step cd_format_step ct_format_step), sl_format_step⟩)
    (c_format_step : PySem.W.codeIn K cd_format_step "format_step" = true)
    (k_format_step : PySem.W.keepIn K (.ref f_format_step) = true)
    (a_law : PySem.W.nsIn K mainGlobals "law" = some (some (.ref f_law)))
    (l_law : K.lookup f_law = some ⟨oc_law, od_law, .func (PySem.W.fnOf "law" "law" (defArgs s_law) (defBody s_law) (defScope s_law) .none kV_law dc_law pm_law an_law cd_law ct_law), sl_law⟩)
    (c_law : PySem.W.codeIn K cd_law "law" = true)
    (k_law : PySem.W.keepIn K (.ref f_law) = true)
    (v_MOST_CARDS : PySem.W.nsIn K mainGlobals "MOST_CARDS" = some (some (.int 2000 tk_MOST_CARDS)))
    (z_abs : PySem.W.nsIn K mainGlobals "abs" = some none)
    (z_all : PySem.W.nsIn K mainGlobals "all" = some none)
    (z_any : PySem.W.nsIn K mainGlobals "any" = some none)
    (z_bool : PySem.W.nsIn K mainGlobals "bool" = some none)
    (z_dict : PySem.W.nsIn K mainGlobals "dict" = some none)
    (z_enumerate : PySem.W.nsIn K mainGlobals "enumerate" = some none)
    (z_int : PySem.W.nsIn K mainGlobals "int" = some none)
    (z_isinstance : PySem.W.nsIn K mainGlobals "isinstance" = some none)
    (z_iter : PySem.W.nsIn K mainGlobals "iter" = some none)
    (z_len : PySem.W.nsIn K mainGlobals "len" = some none)
    (z_list : PySem.W.nsIn K mainGlobals "list" = some none)
    (z_max : PySem.W.nsIn K mainGlobals "max" = some none)
    (z_min : PySem.W.nsIn K mainGlobals "min" = some none)
    (z_next : PySem.W.nsIn K mainGlobals "next" = some none)
    (z_range : PySem.W.nsIn K mainGlobals "range" = some none)
    (z_repr : PySem.W.nsIn K mainGlobals "repr" = some none)
    (z_reversed : PySem.W.nsIn K mainGlobals "reversed" = some none)
    (z_set : PySem.W.nsIn K mainGlobals "set" = some none)
    (z_sorted : PySem.W.nsIn K mainGlobals "sorted" = some none)
    (z_str : PySem.W.nsIn K mainGlobals "str" = some none)
    (z_sum : PySem.W.nsIn K mainGlobals "sum" = some none)
    (z_tuple : PySem.W.nsIn K mainGlobals "tuple" = some none)
    (z_zip : PySem.W.nsIn K mainGlobals "zip" = some none)
    : ∃ fd : FuncData, (∀ (s : Shared) (v : Value), BindsTo s fd ⟨[v], []⟩ [("_law_script", v)]) ∧ ∃ a : Ad, ∀ base : Heap, K.In base → base.Ns mainGlobals mg → FnOk l.prog w K mg base CX0 6 f0 fd ["_law_script"] (sp_law K a) := by
  have e := (PySem.W.mg_of X G a_law).symm.trans hfa
  have e2 : f_law = f0 := Value.ref.inj (Option.some.inj e)
  subst e2
  let a : Ad := ⟨C_Arrangement, 0, 0, 0, 0, 0, 0, 0, 0, 0, 0, 0, 0, 0, 0, 0, 0, 0⟩
  let fa : Fa := ⟨f__law_padded, f_Arrangement___len__, f_Arrangement_row, f_grid, f_is_integer, f_Arrangement_is_row, f_Arrangement___init__, f__law_check, f__law_take, f__law_cards, f__law_pool, f_format_step, f_law, r_Arrangement_row, r_Arrangement_is_row, tk_MOST_CARDS⟩
  have cl_Arrangement : Cls K C_Arrangement := ⟨pg_Arrangement, hd_Arrangement, po_Arrangement, sa_Arrangement⟩
  have T : Txt K mg a fa := ⟨⟨_, fun_mk (st := s__law_padded) l__law_padded c__law_padded k__law_padded⟩, PySem.W.mg_of X G a__law_padded, k__law_padded, ⟨_, fun_mk (st := s_Arrangement___len__) l_Arrangement___len__ c_Arrangement___len__ k_Arrangement___len__⟩, a_Arrangement___len__, i_Arrangement___len__, ⟨_, fun_mk (st := s_Arrangement_row) l_Arrangement_row c_Arrangement_row k_Arrangement_row⟩, ⟨a_Arrangement_row, b_Arrangement_row, d_Arrangement_row, ⟨_, e_Arrangement_row⟩⟩, ⟨_, fun_mk (st := s_grid) l_grid c_grid k_grid⟩, PySem.W.mg_of X G a_grid, k_grid, ⟨_, fun_mk (st := s_is_integer) l_is_integer c_is_integer k_is_integer⟩, PySem.W.mg_of X G a_is_integer, k_is_integer, ⟨_, fun_mk (st := s_Arrangement_is_row) l_Arrangement_is_row c_Arrangement_is_row k_Arrangement_is_row⟩, ⟨a_Arrangement_is_row, ⟨_, e_Arrangement_is_row⟩, k_Arrangement_is_row⟩, ⟨_, fun_mk (st := s_Arrangement___init__) l_Arrangement___init__ c_Arrangement___init__ k_Arrangement___init__⟩, ⟨mk_Arrangement, a_Arrangement___init__, i_Arrangement___init__, kc_Arrangement⟩, ⟨_, fun_mk (st := s__law_check) l__law_check c__law_check k__law_check⟩, PySem.W.mg_of X G a__law_check, k__law_check, ⟨_, fun_mk (st := s__law_take) l__law_take c__law_take k__law_take⟩, PySem.W.mg_of X G a__law_take, k__law_take, ⟨_, fun_mk (st := s__law_cards) l__law_cards c__law_cards k__law_cards⟩, PySem.W.mg_of X G a__law_cards, k__law_cards, ⟨_, fun_mk (st := s__law_pool) l__law_pool c__law_pool k__law_pool⟩, PySem.W.mg_of X G a__law_pool, k__law_pool, ⟨_, fun_mk (st := s_format_step) l_format_step c_format_step k_format_step⟩, PySem.W.mg_of X G a_format_step, k_format_step, ⟨_, fun_mk (st := s_law) l_law c_law k_law⟩, PySem.W.mg_of X G a_law, k_law, PySem.W.mg_of X G aC_Arrangement, cl_Arrangement, ⟨rd_Arrangement, ga_Arrangement⟩, no_Arrangement_cards, PySem.W.mg_of X G v_MOST_CARDS⟩
  have n : Nm mg := ⟨PySem.W.mg_none_of X G z_abs, PySem.W.mg_none_of X G z_all, PySem.W.mg_none_of X G z_any, PySem.W.mg_none_of X G z_bool, PySem.W.mg_none_of X G z_dict, PySem.W.mg_none_of X G z_enumerate, PySem.W.mg_none_of X G z_int, PySem.W.mg_none_of X G z_isinstance, PySem.W.mg_none_of X G z_iter, PySem.W.mg_none_of X G z_len, PySem.W.mg_none_of X G z_list, PySem.W.mg_none_of X G z_max, PySem.W.mg_none_of X G z_min, PySem.W.mg_none_of X G z_next, PySem.W.mg_none_of X G z_range, PySem.W.mg_none_of X G z_repr, PySem.W.mg_none_of X G z_reversed, PySem.W.mg_none_of X G z_set, PySem.W.mg_none_of X G z_sorted, PySem.W.mg_none_of X G z_str, PySem.W.mg_none_of X G z_sum, PySem.W.mg_none_of X G z_tuple, PySem.W.mg_none_of X G z_zip⟩
  refine ⟨PySem.W.fnOf "law" "law" (defArgs s_law) (defBody s_law) (defScope s_law) .none kV_law dc_law pm_law an_law cd_law ct_law, fun s v => .of_eq rfl, a, fun base _ _ => ?_⟩
  have G__law_padded : FnE l.prog w K mg base CX0 1 fa._law_padded ["_law_number"] (sp__law_padded K a) := ok__law_padded T n 
  have G_Arrangement___len__ : FnE l.prog w K mg base CX0 1 fa.Arrangement___len__ ["self"] (sp_Arrangement___len__ K a) := ok_Arrangement___len__ T n 
  have G_Arrangement_row : FnE l.prog w K mg base CX0 1 fa.Arrangement_row ["self"] (sp_Arrangement_row K a) := ok_Arrangement_row T n 
  have G_grid : FnE l.prog w K mg base CX0 3 fa.grid ["a"] (sp_grid K a) := ok_grid T n G_Arrangement___len__ G_Arrangement_row
  have G_is_integer : FnE l.prog w K mg base CX0 1 fa.is_integer ["value"] (sp_is_integer K a) := ok_is_integer T n 
  have G_Arrangement_is_row : FnE l.prog w K mg base CX0 2 fa.Arrangement_is_row ["value"] (sp_Arrangement_is_row K a) := ok_Arrangement_is_row T n G_is_integer
  have G_Arrangement___init__ : FnE l.prog w K mg base CX0 3 fa.Arrangement___init__ ["self", "row"] (sp_Arrangement___init__ K a) := ok_Arrangement___init__ T n G_Arrangement_is_row
  have G__law_check : FnE l.prog w K mg base CX0 5 fa._law_check ["_law_cards_here"] (sp__law_check K a) := ok__law_check T n G__law_padded G_grid G_Arrangement___init__
  have G__law_take : FnE l.prog w K mg base CX0 1 fa._law_take ["_law_pool_here", "_law_count"] (sp__law_take K a) := ok__law_take T n 
  have G__law_cards : FnE l.prog w K mg base CX0 2 fa._law_cards ["_law_pool_here", "_law_many"] (sp__law_cards K a) := ok__law_cards T n G__law_take
  have G__law_pool : FnE l.prog w K mg base CX0 1 fa._law_pool ["_law_script", "_law_k"] (sp__law_pool K a) := ok__law_pool T n 
  have G_format_step : FnE l.prog w K mg base CX0 1 fa.format_step ["step"] (sp_format_step K a) := ok_format_step T n 
  have hl := fun_mk (st := s_law) l_law c_law k_law
  have F := law_ok (P := l.prog) (w := w) (base := base) T n hl G__law_check G__law_cards G__law_take G__law_pool G_format_step G_grid G_Arrangement___init__
  exact F
theorem walk {l : PySem.W.OpenLaw} {q : Program} {loose : List Str} {XP : (Str → Option Value) → Heap → Prop} {YP : World → Heap → Prop} {d : DefRec} {K : Params → PySem.W.Frag} (hn : l.most = some 63) (hdf : d.params.defaults = [])
    (hY : ∀ (w : World) (h : Heap), YP w h → (K w.params).In h)
    (F : ∀ (w : World) (mg : Str → Option Value) (fa : Addr) (h : Heap), (K w.params).In h → h.Ns mainGlobals mg → mg d.name = some (.ref fa) →
      ∃ fd : FuncData, (∀ (s : Shared) (u : Value), BindsTo s fd ⟨[u], []⟩ [("_law_script", u)]) ∧ ∃ a : Ad, ∀ base : Heap, (K w.params).In base → base.Ns mainGlobals mg → FnOk l.prog w (K w.params) mg base CX0 6 fa fd ["_law_script"] (sp_law (K w.params) a)) :
    PySem.W.WalkO q loose XP YP l.row.toRowW d [] (fun f vs => PySem.call f vs) :=
  L2.walk_of (n := 63) (k := 6) (x := "_law_script") (CX := fun _ => CX0) (sp := fun w => sp_lawX (K w.params)) hn (by decide) hdf ⟨rfl, by decide, by decide⟩ hY
    (fun w mg fa h KX G hm => by
      obtain ⟨fd, b, a, f⟩ := F w mg fa h KX G hm
      exact ⟨fd, b, fun base h1 h2 => (f base h1 h2).imp fun vs H Q E z => z a⟩) (fun _ _ a ns hl _ hS _ => ⟨rfl, a, ns, rfl, hS, hl, fun _ => rfl⟩) fun _ _ _ _ _ z => z
end TCG
open PySem PySem.W PyProof.Rows
set_option maxRecDepth 100000 in
set_option maxHeartbeats 0 in
theorem PySem.Challenge.cw_turnedcards_k53_grids_and_steps_holds : PySem.Challenge.rw_turnedcards_k53_grids_and_steps.Holds := by
  w_on; o_law; k_head; (case hw => w_witness2)
  k_fill
  refine TCG.walk (l := PySem.Challenge.rw_turnedcards_k53_grids_and_steps) rfl rfl (fun w h Y => PySem.W.kIn_of Y) ?F
  case F =>
    intro w mg fa h KX G hmg
    refine' TCG.all_mk KX G hmg ?aC_Arrangement ?pg_Arrangement ?hd_Arrangement ?po_Arrangement ?sa_Arrangement ?mk_Arrangement ?kc_Arrangement ?rd_Arrangement ?ga_Arrangement ?no_Arrangement_cards ?a__law_padded ?l__law_padded ?c__law_padded ?k__law_padded ?a_Arrangement___len__ ?i_Arrangement___len__ ?l_Arrangement___len__ ?c_Arrangement___len__ ?k_Arrangement___len__ ?a_Arrangement_row ?b_Arrangement_row ?d_Arrangement_row ?e_Arrangement_row ?l_Arrangement_row ?c_Arrangement_row ?k_Arrangement_row ?a_grid ?l_grid ?c_grid ?k_grid ?a_is_integer ?l_is_integer ?c_is_integer ?k_is_integer ?a_Arrangement_is_row ?e_Arrangement_is_row ?l_Arrangement_is_row ?c_Arrangement_is_row ?k_Arrangement_is_row ?a_Arrangement___init__ ?i_Arrangement___init__ ?l_Arrangement___init__ ?c_Arrangement___init__ ?k_Arrangement___init__ ?a__law_check ?l__law_check ?c__law_check ?k__law_check ?a__law_take ?l__law_take ?c__law_take ?k__law_take ?a__law_cards ?l__law_cards ?c__law_cards ?k__law_cards ?a__law_pool ?l__law_pool ?c__law_pool ?k__law_pool ?a_format_step ?l_format_step ?c_format_step ?k_format_step ?a_law ?l_law ?c_law ?k_law ?v_MOST_CARDS ?z_abs ?z_all ?z_any ?z_bool ?z_dict ?z_enumerate ?z_int ?z_isinstance ?z_iter ?z_len ?z_list ?z_max ?z_min ?z_next ?z_range ?z_repr ?z_reversed ?z_set ?z_sorted ?z_str ?z_sum ?z_tuple ?z_zip
    (case aC_Arrangement => k_is)
    (case pg_Arrangement => k_is)
    (case hd_Arrangement => k_is)
    (case po_Arrangement => k_is)
    (case sa_Arrangement => k_is)
    (case mk_Arrangement => k_is)
    (case kc_Arrangement => k_is)
    (case rd_Arrangement => k_is)
    (case ga_Arrangement => k_is)
    (case no_Arrangement_cards => k_is)
    (case a__law_padded => k_is)
    (case l__law_padded => k_is)
    (case c__law_padded => k_is)
    (case k__law_padded => k_is)
    (case a_Arrangement___len__ => k_is)
    (case i_Arrangement___len__ => k_is)
    (case l_Arrangement___len__ => k_is)
    (case c_Arrangement___len__ => k_is)
    (case k_Arrangement___len__ => k_is)
    (case a_Arrangement_row => k_is)
    (case b_Arrangement_row => k_is)
    (case d_Arrangement_row => k_is)
    (case e_Arrangement_row => k_is)
    (case l_Arrangement_row => k_is)
    (case c_Arrangement_row => k_is)
    (case k_Arrangement_row => k_is)
    (case a_grid => k_is)
    (case l_grid => k_is)
    (case c_grid => k_is)
    (case k_grid => k_is)
    (case a_is_integer => k_is)
    (case l_is_integer => k_is)
    (case c_is_integer => k_is)
    (case k_is_integer => k_is)
    (case a_Arrangement_is_row => k_is)
    (case e_Arrangement_is_row => k_is)
    (case l_Arrangement_is_row => k_is)
    (case c_Arrangement_is_row => k_is)
    (case k_Arrangement_is_row => k_is)
    (case a_Arrangement___init__ => k_is)
    (case i_Arrangement___init__ => k_is)
    (case l_Arrangement___init__ => k_is)
    (case c_Arrangement___init__ => k_is)
    (case k_Arrangement___init__ => k_is)
    (case a__law_check => k_is)
    (case l__law_check => k_is)
    (case c__law_check => k_is)
    (case k__law_check => k_is)
    (case a__law_take => k_is)
    (case l__law_take => k_is)
    (case c__law_take => k_is)
    (case k__law_take => k_is)
    (case a__law_cards => k_is)
    (case l__law_cards => k_is)
    (case c__law_cards => k_is)
    (case k__law_cards => k_is)
    (case a__law_pool => k_is)
    (case l__law_pool => k_is)
    (case c__law_pool => k_is)
    (case k__law_pool => k_is)
    (case a_format_step => k_is)
    (case l_format_step => k_is)
    (case c_format_step => k_is)
    (case k_format_step => k_is)
    (case a_law => k_is)
    (case l_law => k_is)
    (case c_law => k_is)
    (case k_law => k_is)
    (case v_MOST_CARDS => k_is)
    (case z_abs => k_is)
    (case z_all => k_is)
    (case z_any => k_is)
    (case z_bool => k_is)
    (case z_dict => k_is)
    (case z_enumerate => k_is)
    (case z_int => k_is)
    (case z_isinstance => k_is)
    (case z_iter => k_is)
    (case z_len => k_is)
    (case z_list => k_is)
    (case z_max => k_is)
    (case z_min => k_is)
    (case z_next => k_is)
    (case z_range => k_is)
    (case z_repr => k_is)
    (case z_reversed => k_is)
    (case z_set => k_is)
    (case z_sorted => k_is)
    (case z_str => k_is)
    (case z_sum => k_is)
    (case z_tuple => k_is)
    (case z_zip => k_is)
