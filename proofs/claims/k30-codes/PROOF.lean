import PyProof.Rows.All
import Wide.All
import OpenK.AllK
import Wide.FinOn
import PyProof.Rows.StrIntSpec
import PyProof.StrBlock2
import HandS.ForMost
import HandS.Exc
import HandS.TryOnly
import HandS.ExcOwn
import HandS.WordsExc
import HandS.More
import HandS.Property
import HandS.ClsMeth
import HandS.IsInst
import HandS.FStr
import HandS.SortInts
import HandS.Wide
import HandS.Flow
import HandS.SlotsOwn
import HandS.Conv
import KE.Datum
import KE.DatumMore
import HandS.Walk
import HandS.TupAny
import HandS.Style
import KE.GoesMore
import PyProof.EnumMake
import HandS.ExcInit
import HandS.ExcField
import HandS.ExcIs
import PyProof.ReprRoads
import HandS.Dict
import HandS.EndBits
import KE.KExcIs
import HandS.Star
import PyProof.ReprLen
import PySem.Challenge.RW_turnedcards_k30_codes_of_arrangements
set_option Elab.async false
set_option linter.all false
set_option maxRecDepth 100000
set_option maxHeartbeats 4000000
/-! Rules of our own over the hand layer. -/
namespace TC
open PySem PySem.Spec PyProof.Rows L2

/-! ### a static method, called through its class -/
structure SMet (K : PySem.W.Frag) (C : Addr) (mc : Value) (m : Str) (p g : Addr) : Prop where
  at_ : PySem.W.findCls K (.ref C) mc m = some (.get (.builtin "staticmethod.__get__") (.ref p) .none (.ref C))
  rc : ∃ rest, PySem.W.recIn K p "staticmethod" = some (.ref g :: rest)
  kp : PySem.W.keepIn K (.ref g) = true
section
variable {X : Cx} {CX : CXT} {k : Nat} {C p g : Addr} {mc : Value} {sp : Sp} {E : XK} {o e : Expr} {es : List Expr} {f m : Str} {pos apos : Pos} {ta : TE} {t : TA} {pl : Sem Bool}
theorem getsmet_ok {pins : List (Addr × Obj)} {σ : L2.St} {H : Hp} {s : Shared} {b : Bool} {Q : Value → Shared → Prop} {A : Around} {E : Value → Shared → Prop} (I : Inv X pins σ H s) (r : ClX.CRead X.K C mc) (k : SMet X.K C mc m p g)
    (h : ∀ s', Inv X pins σ H s' → Q (.ref g) s') : wpAny (model X.prog X.w) A (getAttr (.ref C) m b) Q E s := by
  obtain ⟨rest, hp⟩ := k.rc
  refine PySem.W.cls_bind I.kIn r.rd k.at_ ?_
  exact wpAny_call (PySem.W.sm_get (s := { s with toks := s.toks + 1 }) I.kIn hp (PySem.W.handed_on rfl (h _ (I.tok _))))
def tSMeth (C : Addr) (sp : Sp) (E : XK) (ta : TE) (t : TA) : TE := fun σ H Q => ta σ H fun x H1 => x = .ref C ∧ t σ H1 fun vs H2 => sp vs H2 Q E
theorem pe_smeth (he : PE X o ta) (r : ClX.CRead X.K C mc) (c : SMet X.K C mc m p g) (F : FnR X.prog X.w X.K X.mg X.base CX k g sp) (hr : Room k X.A) (hx : Passes CX X E) (ha : PA X (e :: es) t)
    (hst : starEach (e :: es) X.env = (false, eval e X.env) :: starEach es X.env := by rfl) (hpl : (backTo pos (starEach es X.env)).any (·.1) = false := by rfl)
    (ht : eval (.Call (.Attribute o m apos) (e :: es) [] pos) X.env = (do
      let ov ← eval o X.env
      standAt apos.atName
      let (f, first) ← holding [ov] (getMethod ov m pl)
      callWith pos f first (backTo pos (starEach (e :: es) X.env)) (backToKw pos (keywordEach [] X.env))) := by rfl) :
    PE X (.Call (.Attribute o m apos) (e :: es) [] pos) (tSMeth C sp E ta t) := by
  refine ⟨fun pins s σ H Q I h => ?_⟩
  refine PySem.W.methodCall_KW (pl := pl) (thn (he.run pins s σ H _ I h) fun u s1 ⟨x, H1, I1, rx, ex, q⟩ => ?_) ht
  subst ex
  obtain rfl : u = Value.ref C := rx
  refine PySem.W.method_cls I1.kIn r.ga (getsmet_ok I1 r c fun s2 I2 => ?_)
  refine PySem.W.callWith_K (h₀ := X.base) (first := []) I2.ok.mod.kin c.kp (thn (ha.run pos pins s2 σ H1 _ I2 q) fun us s3 ⟨vs, H2, I3, rv, q2⟩ => ⟨I3.kIn, ?_⟩) hst hpl
  exact wpAny_call (run_fnR F hr hx I3 rv q2)
end

/-! ### str * int -/
def rMulS : R2 := fun x y H Q => ∃ (z : Str) (n : Int), x = .str z ∧ y = .int n ∧ -(2 ^ 62) < n ∧ z.length ≤ 1 ∧ n ≤ 1000000 ∧ Q (.str (PySem.Txt.mul z n)) H
theorem op_mulS {X : Cx} : OpR X (binaryOp .Mult) rMulS := by
  intro pins s σ H x y v u Q I rx ry h
  obtain ⟨z, n, rfl, rfl, h0, h1, h2, q⟩ := h
  obtain ⟨t, rfl⟩ := rx
  obtain ⟨t', rfl⟩ := ry
  refine PySem.SB.mul ⟨?_, fun a b => ?_, fun a b => ?_⟩ fun t' k => ⟨.str (PySem.Txt.mul z n), H, I.tok _, ⟨_, rfl⟩, q⟩
  · have a1 : decide (n < -(2 ^ 63 : Int)) = false := decide_eq_false (by omega)
    have a2 : decide (n ≥ 2 ^ 63) = false := decide_eq_false (by omega)
    rw [a1, a2] <;> rfl
  · have : (2 ^ 63 - 1 : Int) / n ≥ 1 := by
      apply Int.le_ediv_of_mul_le <;> omega
    omega
  · have e : z.length = 1 := by
      have hz : z.length ≠ 0 := fun e => by rw [e] at b; simp at b
      omega
    rw [e]
    have : n.toNat ≤ 1000000 := by omega
    rw [Nat.one_mul]
    refine (decide_eq_false_iff_not).mpr ?_
    rw [Nat.not_lt]
    first | omega | (rw [sizeLine_eq]; omega)

/-! ### f'{x:>6}' -/
def spec6 : Str := ">6"
section
variable {prog : Program} {w : World} {A : Around} {E : Value → Shared → Prop} {s : Shared}
open Builtin Float in
theorem field6 {i : Int} {t : Tok} {Q : Value → Shared → Prop} (hi : i.natAbs.log2 < 1920) (hz : (intSpecTextOf spec6 i).length ≤ sizeLine) (h : Q (.str (intSpecTextOf spec6 i) (s.toks + 1)) { s with toks := s.toks + 1 + 1 }) :
    wpAny (model prog w) A (formatField (.int i t) spec6) Q E s := by
  refine wpAny_formatField_spec (T := "int") (idf := "int.__format__") (x := intSpecTextOf spec6 i) (by decide +kernel) (fun s' => typeIs_int s' i t) slot_int_format entry_int_format args_int_format (fun u => ?_) h (by decide) hz
  intro prog' w' A' R' s' hq
  obtain ⟨hq1, hq2⟩ := hq
  have hf : parseFormatSpec spec6.cps.toList "int" 62 = .ok ({ align := 62, width := some 6 } : FormatSpec) := by kernel_rfl
  have htx : intSpecTextOf spec6 i = intSpecText ({ align := 62, width := some 6 } : FormatSpec) i := by
    unfold intSpecTextOf
    rw [hf]
  rw [htx] at hq1 hq2
  unfold Builtin.«int.__format__»
  simp only [selfAndOne, noKeywords, Int.intOfSelf, asInt?, asStr?, List.isEmpty_nil, if_true, pure_bind, bind_pure, bind_assoc, Bool.false_eq_true, if_false, show (Value.str spec6 u == Value.none) = false from rfl]
  refine wpAny_bind (wpAny_typeNameOf (T := "str") (typeIs_str _ _ _) (by decide) fun _ => ?_)
  rw [if_neg (by decide), if_neg (by decide +kernel)]
  refine wpAny_bind (wpAny_typeNameOfCut_int ?_)
  simp only [hf]
  rw [if_pos (by decide +kernel)]
  refine wpAny_bind (m := Builtin.overDigitLimit? i) ?_
  rw [PySem.overDigitLimit_small hi]
  refine wpAny_pure ?_
  show wpAny _ _ (if (some 6 : Option Nat).getD 0 > 100000 then _ else _) _ _ _
  rw [if_neg (by decide)]
  show wpAny _ _ (retStr _) _ _ _
  unfold retStr
  rw [if_neg (by decide : ¬ (spec6.cps.back? == some 0) = true)]
  refine wpAny_bind (wpAny_mkStr (wpAny_pure ?_) ?_)
  · show R' _ _
    conv => arg 1; arg 1; arg 1; arg 1; whnf
    simp [intSpecText, intField'] at hq2 ⊢
    exact hq2
  · conv => lhs; arg 1; whnf
    simp [intSpecText, intField'] at hq1 ⊢
    exact hq1
end
def tFmt6 (te : TE) : TE := fun σ H Q => te σ H fun x H1 => ∃ i : Int, x = .int i ∧ i.natAbs.log2 < 1920 ∧ (intSpecTextOf spec6 i).length ≤ sizeLine ∧ Q (.str (intSpecTextOf spec6 i)) H1
theorem pe_fmt6 {X : Cx} {e : Expr} {te : TE} {pos p1 p2 : Pos} {k : Nat} (he : PE X e te) : PE X (.FormattedValue e (-1) (some (.JoinedStr [.Constant (.str ">6") k p1] p2)) pos) (tFmt6 te) := by
  refine ⟨fun pins s σ H Q I h => ?_⟩
  refine wpAny_FormattedValue_spec (thn (he.run pins s σ H _ I h) fun v s1 hv => ?_)
  obtain ⟨x, H1, I1, r1, i, rfl, hz, hz2, q⟩ := hv
  obtain ⟨t, rfl⟩ := r1
  refine wpAny_JoinedStr_one (Calls.Constant_str ?_)
  refine ⟨_, _, rfl, ?_⟩
  exact field6 hz hz2 ⟨.str _, H1, (I1.tok _).tok _, ⟨_, rfl⟩, q⟩

/-! ### what an own class says to operators and built-ins: its methods are called -/
section
variable {X : Cx} {CX : CXT} {n : Nat} {C g : Addr} {sp : Sp} {E : XK}
/-- the instance, as the library's rules take it -/
theorem inst_of {pins : List (Addr × Obj)} {σ : L2.St} {H : Hp} {s : Shared} {a C dx : Addr} {fs : List (Str × V)} (I : Inv X pins σ H s) (ea : H a = some (.ins C dx fs)) :
    ∃ od, PySem.W.InstAt s.heap a (PySem.W.instObj C dx) C (some od) := by
  obtain ⟨mA, O, _⟩ := ins_get I.hok ea
  obtain ⟨od, J, _⟩ := O.look
  exact ⟨od, J⟩
/-- len(x) of an instance -/
def rLenO (C : Addr) (sp : Sp) (E : XK) : List V → Hp → VK → Prop := fun xs H Q => ∃ a dx fs, xs = [V.ref a] ∧ H a = some (.ins C dx fs) ∧ sp [.ref a] H (fun z H' => ∃ i, z = .int i ∧ 0 ≤ i ∧ i < 2 ^ 62 ∧ Q (.int i) H') E
theorem call_lenO (hs : PySem.W.findIn X.K (.ref C) "__len__" = some (some (.ref g))) (hf : PySem.W.isFn X.K (.ref g) = true) (F : FnR X.prog X.w X.K X.mg X.base CX n g sp) (hr : Room (n + 1) X.A) (hx : Passes CX X E) :
    CallR X (.builtin "len") (rLenO C sp E) := by
  intro pins s σ H xs us Q I r h
  obtain ⟨a, dx, fs, rfl, ea, q⟩ := h
  obtain ⟨u, rfl, ru⟩ := r.one
  cases (show u = Value.ref a from ru)
  obtain ⟨od, J⟩ := inst_of I ea
  obtain ⟨m, hF⟩ := I.fr
  refine PySem.W.len_K hF I.ok.mod.kin J hs hf (wpAny_mono (wpAny_call (SlX.run_at (us := [.ref a]) (ws := [.ref a]) F hr.in1 I.env0.in1 hx I (.cons rfl .nil) q)) (fun v s' z => ?_) fun _ _ x => x)
  obtain ⟨z', H', I', rz, i, ei, i0, i1, qz⟩ := z
  subst ei
  obtain ⟨t, e⟩ := (show ∃ t, v = Value.int i t from rz)
  cases e
  exact ⟨⟨i0, by omega⟩, ⟨.int i, H', I'.tok _, ⟨_, rfl⟩, qz⟩⟩
end

/-! ### a def's promise, with its parameters -/
def FnE (P : Program) (w : World) (K : PySem.W.Frag) (mg : Str → Option Value) (base : Heap) (CX : CXT) (k : Nat) (f : Addr) (ps : List Str) (sp : Sp) : Prop :=
  ∃ fd : FuncData, FnOk P w K mg base CX k f fd ps sp ∧ Binds K fd ps []
theorem FnE.r {P : Program} {w : World} {K : PySem.W.Frag} {mg : Str → Option Value} {base : Heap} {CX : CXT} {k : Nat} {f : Addr} {ps : List Str} {sp : Sp} (F : FnE P w K mg base CX k f ps sp) : FnR P w K mg base CX k f sp := by
  obtain ⟨fd, F, b⟩ := F
  have z := F.raw b (dvs := []) .nil
  exact z.imp fun vs H Q E h => by rw [List.append_nil]; exact h
section
variable {X : Cx} {CX : CXT} {k : Nat} {f C p : Addr} {ps : List Str} {sp : Sp} {E : XK} {x m : Str} {pos np apos : Pos} {e o : Expr} {es : List Expr} {ta : TE} {t : TA}
def tCallR (sp : Sp) (E : XK) (t : TA) : TE := fun σ H Q => t σ H fun vs H1 => sp vs H1 Q E
theorem tCall_nil : tCall sp [] E t = tCallR sp E t := by
  funext σ H Q
  unfold tCall tCallR
  congr 1
  funext vs H1
  rw [List.append_nil]
theorem pe_callR (F : FnE X.prog X.w X.K X.mg X.base CX k f ps sp) (hr : Room k X.A) (hg : Gl X x) (hm : X.mg x = some (.ref f)) (hk : PySem.W.keepIn X.K (.ref f) = true) (hx : Passes CX X E)
    (ha : PA X (e :: es) t) (hdb : (x == ("__debug__" : Str)) = false := by decide) (he : starEach (e :: es) X.env = (false, eval e X.env) :: starEach es X.env := by rfl) (hpl : (backTo pos (starEach es X.env)).any (·.1) = false := by rfl) :
    PE X (.Call (.Name x np) (e :: es) [] pos) (tCallR sp E t) := by
  obtain ⟨fd, F, b⟩ := F
  rw [← tCall_nil]
  exact pe_call F hr hg hm hk b .nil hx ha hdb he hpl
theorem pe_callR0 (F : FnE X.prog X.w X.K X.mg X.base CX k f ps sp) (hr : Room k X.A) (hg : Gl X x) (hm : X.mg x = some (.ref f)) (hk : PySem.W.keepIn X.K (.ref f) = true) (hx : Passes CX X E)
    (hdb : (x == ("__debug__" : Str)) = false := by decide) : PE X (.Call (.Name x np) [] [] pos) (tCallR sp E tNil) := by
  obtain ⟨fd, F, b⟩ := F
  rw [← tCall_nil]
  exact pe_call0 F hr hg hm hk b .nil hx hdb
def tMakeR (C : Addr) (sp : Sp) (E : XK) (t : TA) : TE := fun σ H Q => t σ H fun vs H1 => ∀ x dx, H1 x = none → H1 dx = none → dx ≠ x →
  sp (.ref x :: vs) (upd (upd H1 dx (.own x)) x (.ins C dx [])) (fun v H2 => v = .non ∧ Q (.ref x) H2) E
theorem tMake_nil : tMake C sp [] E t = tMakeR C sp E t := by
  funext σ H Q
  unfold tMake tMakeR
  congr 1
  funext vs H1
  rw [List.append_nil]
theorem pe_makeR (M : Mk X.K C f) (F : FnE X.prog X.w X.K X.mg X.base CX k f ps sp) (hr : Room (k + 1) X.A) (hg : Gl X x) (hm : X.mg x = some (.ref C)) (hx : Passes CX X E)
    (ha : PA X (e :: es) t) (hdb : (x == ("__debug__" : Str)) = false := by decide) (he : starEach (e :: es) X.env = (false, eval e X.env) :: starEach es X.env := by rfl) (hpl : (backTo pos (starEach es X.env)).any (·.1) = false := by rfl) :
    PE X (.Call (.Name x np) (e :: es) [] pos) (tMakeR C sp E t) := by
  obtain ⟨fd, F, b⟩ := F
  rw [← tMake_nil]
  exact pe_make M F hr hg hm b .nil hx ha hdb he hpl
def tPropR (C : Addr) (sp : Sp) (E : XK) (ta : TE) : TE := fun σ H Q => ta σ H fun x H1 => ∃ a dx fs, x = .ref a ∧ H1 a = some (.ins C dx fs) ∧ sp [.ref a] H1 Q E
theorem pe_propR (he : PE X e ta) (c : Cls X.K C) (hp : PropOf X.K C x p f) (F : FnE X.prog X.w X.K X.mg X.base CX k f ps sp) (hr : Room (k + 1) X.A) (hx : Passes CX X.nox E)
    (hab : attributeBase e x X.env (eval e X.env) = eval e X.env) : PE X (.Attribute e x pos) (tPropR C sp E ta) := by
  obtain ⟨fd, F, b⟩ := F
  exact pe_prop (dvs := []) he c hp F hr b .nil hx hab
theorem pe_smethR {mc : Value} {pl : Sem Bool} (he : PE X o ta) (r : ClX.CRead X.K C mc) (c : SMet X.K C mc m p f) (F : FnE X.prog X.w X.K X.mg X.base CX k f ps sp) (hr : Room k X.A) (hx : Passes CX X E) (ha : PA X (e :: es) t)
    (hst : starEach (e :: es) X.env = (false, eval e X.env) :: starEach es X.env := by rfl) (hpl : (backTo pos (starEach es X.env)).any (·.1) = false := by rfl)
    (ht : eval (.Call (.Attribute o m apos) (e :: es) [] pos) X.env = (do
      let ov ← eval o X.env
      standAt apos.atName
      let (f, first) ← holding [ov] (getMethod ov m pl)
      callWith pos f first (backTo pos (starEach (e :: es) X.env)) (backToKw pos (keywordEach [] X.env))) := by rfl) :
    PE X (.Call (.Attribute o m apos) (e :: es) [] pos) (tSMeth C sp E ta t) := pe_smeth (pl := pl) he r c F.r hr hx ha hst hpl ht
end
section
variable {X : Cx} {CX : CXT} {n : Nat} {C g : Addr} {ps : List Str} {sp : Sp} {E : XK}
theorem call_lenE (hs : PySem.W.findIn X.K (.ref C) "__len__" = some (some (.ref g))) (hf : PySem.W.isFn X.K (.ref g) = true) (F : FnE X.prog X.w X.K X.mg X.base CX n g ps sp) (hr : Room (n + 1) X.A) (hx : Passes CX X E) :
    CallR X (.builtin "len") (rLenO C sp E) := call_lenO hs hf F.r hr hx
end

/-! ### ==, != of data -/
def rEqX (K : PySem.W.Frag) : R2 := fun x y H Q => ∃ d e, Dp K H x d ∧ Dp K H y e ∧ d.plain = true ∧ e.plain = true ∧ d.depth ≤ 64 ∧ Q (.bl (PyData.eqv d e)) H
def rNeX (K : PySem.W.Frag) : R2 := fun x y H Q => ∃ d e, Dp K H x d ∧ Dp K H y e ∧ d.plain = true ∧ e.plain = true ∧ d.depth ≤ 64 ∧ Q (.bl (!PyData.eqv d e)) H
section
variable {X : Cx}
theorem op_eqX (hu : X.A.units + 64 < cLine) : OpR X (compareOp .Eq) (rEqX X.K) := by
  intro pins s σ H x y v u Q I rx ry h
  obtain ⟨d, e, hd, he, pd, pe, dd, q⟩ := h
  obtain ⟨l1, r1⟩ := Dp.reads I d x v hd rx
  obtain ⟨l2, r2⟩ := Dp.reads I e y u he ry
  exact SeqAt.eq_plain r1 r2 pd pe (PySem.W.room_datum dd hu) ⟨.bl _, H, I, rfl, q⟩
theorem op_neX (hu : X.A.units + 64 < cLine) : OpR X (compareOp .NotEq) (rNeX X.K) := by
  intro pins s σ H x y v u Q I rx ry h
  obtain ⟨d, e, hd, he, pd, pe, dd, q⟩ := h
  obtain ⟨l1, r1⟩ := Dp.reads I d x v hd rx
  obtain ⟨l2, r2⟩ := Dp.reads I e y u he ry
  exact SeqAt.ne_plain r1 r2 pd pe (PySem.W.room_datum dd hu) ⟨.bl _, H, I, rfl, q⟩
end
open PySem.W (Datum Tup)
/-- v holds x -/
def Hd {α : Type} [DecidableEq α] [Datum α] (K : PySem.W.Frag) (H : Hp) (v : V) (x : α) : Prop := Dp K H v (Datum.toD x)
section
variable {α : Type} [DecidableEq α] [Datum α] {K : PySem.W.Frag} {H H' : Hp} {u v : V} {x y : α} {Q : VK}
theorem eq_hd (hu : Hd K H u x) (hv : Hd K H v y) (q : Q (.bl (decide (x = y))) H) (hd : Datum.depth α ≤ 64 := by decide) : rEqX K u v H Q :=
  ⟨_, _, hu, hv, Datum.plain x, Datum.plain y, Nat.le_trans (Datum.depth_le x) hd, by rw [Datum.eqv]; exact q⟩
theorem ne_hd (hu : Hd K H u x) (hv : Hd K H v y) (q : Q (.bl (!decide (x = y))) H) (hd : Datum.depth α ≤ 64 := by decide) : rNeX K u v H Q :=
  ⟨_, _, hu, hv, Datum.plain x, Datum.plain y, Nat.le_trans (Datum.depth_le x) hd, by rw [Datum.eqv]; exact q⟩
end

/-! ### heaps that grow -/
theorem Same.new {H : Hp} {p : Addr} {o : HO} (h : H p = none) : Same H (upd H p o) := fun b u e => by
  rw [upd_ne (ne_of_none e h)]
  exact e
theorem Same.mut {H H' : Hp} {p : Addr} {o : HO} (e : Same H H') (h : H p = none) : Same H (upd H' p o) := fun b u q => by
  rw [upd_ne (ne_of_none q h)]
  exact e b u q
theorem Same.seqT {K : PySem.W.Frag} {H H' : Hp} {a : Addr} {xs : List V} (e : Same H H') (h : SqT K H a xs) : SqT K H' a xs := by
  rcases h with (h | ⟨o, h⟩) | h
  · exact .inl (.inl (e _ _ h))
  · exact .inl (.inr ⟨o, e _ _ h⟩)
  · exact .inr h
mutual
theorem Dp.same {K : PySem.W.Frag} {H H' : Hp} (e : Same H H') : ∀ (d : PyData) (v : V), Dp K H v d → Dp K H' v d
  | .none, _, h => by cases h; exact .non
  | .bool b, _, h => by cases h; exact .bl b
  | .int i, _, h => by cases h; exact .int i
  | .str x, _, h => by cases h; exact .str x
  | .list ds, _, h => by
    cases h with
    | lst s a => exact .lst (e.seq s) (DpAll.same e ds _ a)
  | .tuple ds, _, h => by
    cases h with
    | tup s a => exact .tup (Same.seqT e s) (DpAll.same e ds _ a)
  | .dict _, _, h => by cases h
theorem DpAll.same {K : PySem.W.Frag} {H H' : Hp} (e : Same H H') : ∀ (ds : List PyData) (vs : List V), DpAll K H vs ds → DpAll K H' vs ds
  | [], _, h => by cases h; exact .nil
  | d :: ds, _, h => by
    cases h with
    | cons a b => exact .cons (Dp.same e d _ a) (DpAll.same e ds _ b)
end
section
variable {α β : Type} [DecidableEq α] [Datum α] [DecidableEq β] [Datum β] {K : PySem.W.Frag} {H H' : Hp}
theorem Hd.same {v : V} {x : α} (e : Same H H') (h : Hd K H v x) : Hd K H' v x := Dp.same e _ _ h
theorem hd_int (i : Int) : Hd K H (.int i) i := .int i
theorem hd_bl (b : Bool) : Hd K H (.bl b) b := .bl b
theorem hd_str (z : Str) : Hd K H (.str z) z := .str z
theorem dpAll_ints : ∀ ns : List Int, DpAll K H (ns.map V.int) (ns.map Datum.toD)
  | [] => .nil
  | n :: ns => .cons (.int n) (dpAll_ints ns)
theorem hd_intsL {p : Addr} {ns : List Int} (h : SqL K H p (ns.map V.int)) : Hd K H (.ref p) ns := .lst h (dpAll_ints ns)
theorem hd_intsT {p : Addr} {ns : List Int} (h : SqT K H p (ns.map V.int)) : Hd K H (.ref p) (Tup.mk ns) := .tup h (dpAll_ints ns)
end

/-! ### comprehensions of one name whose elements are plain values -/
section
variable {K : PySem.W.Frag} {σ : L2.St} {H1 : Hp} {te : TE} {tt : TT} {vs : List Nat} {j : Nat} {Qd : Addr → Hp → Prop}
/-- what holds of the new list at D behind i turns -/
def LcI (H1 : Hp) (D : Addr) (ys : Nat → List V) (i : Nat) (H : Hp) : Prop := H1 D = none ∧ Same H1 H ∧ H D = some (.lst (ys i))
theorem take_succ {α : Type} : ∀ {l : List α} {i : Nat} {x : α}, l[i]? = some x → l.take (i + 1) = l.take i ++ [x]
  | [], i, x, h => by simp at h
  | a :: l, 0, x, h => by
    cases h
    rfl
  | a :: l, i + 1, x, h => congrArg (a :: ·) (take_succ (l := l) (i := i) h)
/-- one turn -/
theorem lc_turn {D : Addr} {b : V → Bool} {f : V → V} {xs : List V} {i : Nat} {x : V} {H : Hp} (hz : xs.length ≤ 100000) (hx : xs[i]? = some x) (p : LcI H1 D (fun i => ((xs.take i).filter b).map f) i H)
    (ht : ∀ H2, Same H1 H2 → ∀ R : Bool → Hp → Prop, (∀ H3, Same H2 H3 → R (b x) H3) → tt ((wipe σ vs).set j (some x)) H2 R)
    (he : b x = true → ∀ H2, Same H1 H2 → ∀ R : VK, (∀ H3, Same H2 H3 → R (f x) H3) → te ((wipe σ vs).set j (some x)) H2 R) :
    tt ((wipe σ vs).set j (some x)) H fun c H3 => if c = true then te ((wipe σ vs).set j (some x)) H3 fun y H4 => ∃ acc, H4 D = some (.lst acc) ∧ acc.length < sizeLine ∧ LcI H1 D (fun i => ((xs.take i).filter b).map f) (i + 1) (upd H4 D (.lst (acc ++ [y])))
      else LcI H1 D (fun i => ((xs.take i).filter b).map f) (i + 1) H3 := by
  obtain ⟨p1, p2, p3⟩ := p
  refine ht H p2 _ fun H3 e3 => ?_
  cases hb : b x with
  | true =>
    refine iteT (he hb H3 (p2.trans e3) _ fun H4 e4 => ⟨_, e4 D _ (e3 D _ p3), ?_, p1, Same.mut ((p2.trans e3).trans e4) p1, ?_⟩)
    · rw [List.length_map]
      refine Nat.lt_of_le_of_lt (List.length_filter_le _ _) (Nat.lt_of_le_of_lt (List.length_take_le _ _) ?_)
      refine Nat.lt_of_lt_of_le ?_ (show 100000 ≤ sizeLine by decide)
      have := (List.getElem?_eq_some_iff.mp hx).1
      omega
    · dsimp only
      rw [upd_same, take_succ hx, List.filter_append, List.map_append, List.filter_cons, if_pos hb]
      rfl
  | false =>
    refine iteF ⟨p1, p2.trans e3, ?_⟩
    dsimp only
    rw [take_succ hx, List.filter_append, List.filter_cons, if_neg (by rw [hb]; decide), List.filter_nil, List.append_nil]
    exact e3 D _ p3
/-- over a list: f of the items that b takes -/
theorem lc_fmL {a : Addr} {xs : List V} (hx : SqL K H1 a xs) (b : V → Bool) (f : V → V) (hz : xs.length ≤ 100000) (hw : ∀ x, wipe ((wipe σ vs).set j (some x)) vs = wipe σ vs)
    (ht : ∀ x ∈ xs, ∀ H2, Same H1 H2 → ∀ R : Bool → Hp → Prop, (∀ H3, Same H2 H3 → R (b x) H3) → tt ((wipe σ vs).set j (some x)) H2 R)
    (he : ∀ x ∈ xs, b x = true → ∀ H2, Same H1 H2 → ∀ R : VK, (∀ H3, Same H2 H3 → R (f x) H3) → te ((wipe σ vs).set j (some x)) H2 R)
    (k : ∀ D H', H1 D = none → Same H1 H' → H' D = some (.lst ((xs.filter b).map f)) → Qd D H') (D : Addr) (hD : H1 D = none) :
    ∃ W : Nat → Nat → Hp → Prop, (∃ m, W 0 m (upd H1 D (.lst []))) ∧ ∀ i m H, W i m H →
      ((Itl K a).stop i H ∧ Qd D H) ∨ ((Itl K a).go i H ∧ ∃ Nx : Hp → Prop, (∀ H', Nx H' → ∃ m', m' < m ∧ W (i + 1) m' H') ∧ ∀ x H', (Itl K a).yld i H x H' → gName j x (wipe σ vs) H' fun σ2 H2 => wipe σ2 vs = wipe σ vs ∧ tt σ2 H2 fun b H3 =>
        if b = true then te σ2 H3 fun y H4 => ∃ acc, H4 D = some (.lst acc) ∧ acc.length < sizeLine ∧ Nx (upd H4 D (.lst (acc ++ [y]))) else Nx H3) :=
  lc_list (xs := xs) (LcI H1 D fun i => ((xs.take i).filter b).map f) ⟨hD, Same.new hD, upd_same⟩ (fun i H _ p => p.2.1.seq hx)
    (fun i x H hi p => ⟨hw x, lc_turn hz hi p (ht x (List.mem_of_getElem? hi)) (he x (List.mem_of_getElem? hi))⟩) fun H p => k D H hD p.2.1 (by have := p.2.2; dsimp only at this; rw [List.take_length] at this; exact this)
theorem lc_fmT {a : Addr} {xs : List V} (hx : SqT K H1 a xs) (b : V → Bool) (f : V → V) (hz : xs.length ≤ 100000) (hw : ∀ x, wipe ((wipe σ vs).set j (some x)) vs = wipe σ vs)
    (ht : ∀ x ∈ xs, ∀ H2, Same H1 H2 → ∀ R : Bool → Hp → Prop, (∀ H3, Same H2 H3 → R (b x) H3) → tt ((wipe σ vs).set j (some x)) H2 R)
    (he : ∀ x ∈ xs, b x = true → ∀ H2, Same H1 H2 → ∀ R : VK, (∀ H3, Same H2 H3 → R (f x) H3) → te ((wipe σ vs).set j (some x)) H2 R)
    (k : ∀ D H', H1 D = none → Same H1 H' → H' D = some (.lst ((xs.filter b).map f)) → Qd D H') (D : Addr) (hD : H1 D = none) :
    ∃ W : Nat → Nat → Hp → Prop, (∃ m, W 0 m (upd H1 D (.lst []))) ∧ ∀ i m H, W i m H →
      ((Itt K a).stop i H ∧ Qd D H) ∨ ((Itt K a).go i H ∧ ∃ Nx : Hp → Prop, (∀ H', Nx H' → ∃ m', m' < m ∧ W (i + 1) m' H') ∧ ∀ x H', (Itt K a).yld i H x H' → gName j x (wipe σ vs) H' fun σ2 H2 => wipe σ2 vs = wipe σ vs ∧ tt σ2 H2 fun b H3 =>
        if b = true then te σ2 H3 fun y H4 => ∃ acc, H4 D = some (.lst acc) ∧ acc.length < sizeLine ∧ Nx (upd H4 D (.lst (acc ++ [y]))) else Nx H3) :=
  lc_tup (xs := xs) (LcI H1 D fun i => ((xs.take i).filter b).map f) ⟨hD, Same.new hD, upd_same⟩ (fun i H _ p => Same.seqT p.2.1 hx)
    (fun i x H hi p => ⟨hw x, lc_turn hz hi p (ht x (List.mem_of_getElem? hi)) (he x (List.mem_of_getElem? hi))⟩) fun H p => k D H hD p.2.1 (by have := p.2.2; dsimp only at this; rw [List.take_length] at this; exact this)
/-- the ints lo, lo + 1, .. -/
def rgI (lo : Int) (n : Nat) : List Int := (List.range n).map fun (i : Nat) => lo + (i : Int)
theorem rgI_length (lo : Int) (n : Nat) : (rgI lo n).length = n := by simp [rgI]
theorem rgI_get {lo : Int} {n i : Nat} (h : i < n) : (rgI lo n)[i]? = some (lo + (i : Int)) := by simp [rgI, h]
theorem lc_fmR {lo : Int} {n : Nat} (b : V → Bool) (f : V → V) (hz : n ≤ 100000) (hw : ∀ x, wipe ((wipe σ vs).set j (some x)) vs = wipe σ vs)
    (ht : ∀ x : Int, lo ≤ x → x < lo + (n : Int) → ∀ H2, Same H1 H2 → ∀ R : Bool → Hp → Prop, (∀ H3, Same H2 H3 → R (b (.int x)) H3) → tt ((wipe σ vs).set j (some (.int x))) H2 R)
    (he : ∀ x : Int, lo ≤ x → x < lo + (n : Int) → b (.int x) = true → ∀ H2, Same H1 H2 → ∀ R : VK, (∀ H3, Same H2 H3 → R (f (.int x)) H3) → te ((wipe σ vs).set j (some (.int x))) H2 R)
    (k : ∀ D H', H1 D = none → Same H1 H' → H' D = some (.lst ((((rgI lo n).map V.int).filter b).map f)) → Qd D H') (D : Addr) (hD : H1 D = none) :
    ∃ W : Nat → Nat → Hp → Prop, (∃ m, W 0 m (upd H1 D (.lst []))) ∧ ∀ i m H, W i m H →
      ((Itr lo n).stop i H ∧ Qd D H) ∨ ((Itr lo n).go i H ∧ ∃ Nx : Hp → Prop, (∀ H', Nx H' → ∃ m', m' < m ∧ W (i + 1) m' H') ∧ ∀ x H', (Itr lo n).yld i H x H' → gName j x (wipe σ vs) H' fun σ2 H2 => wipe σ2 vs = wipe σ vs ∧ tt σ2 H2 fun b H3 =>
        if b = true then te σ2 H3 fun y H4 => ∃ acc, H4 D = some (.lst acc) ∧ acc.length < sizeLine ∧ Nx (upd H4 D (.lst (acc ++ [y]))) else Nx H3) := by
  have hl : ((rgI lo n).map V.int).length = n := by rw [List.length_map, rgI_length]
  refine lc_range (LcI H1 D fun i => ((((rgI lo n).map V.int).take i).filter b).map f) ⟨hD, Same.new hD, upd_same⟩ (fun i H hi p => ⟨hw _, ?_⟩) fun H p => k D H hD p.2.1 ?_
  · exact lc_turn (by rw [hl]; exact hz) (by rw [List.getElem?_map, rgI_get hi]; rfl) p (ht _ (by omega) (by omega)) (he _ (by omega) (by omega))
  · have := p.2.2
    dsimp only at this
    rw [List.take_of_length_le (by rw [hl]; exact Nat.le_refl _)] at this
    exact this
end

def absI (i : Int) : Int := if i < 0 then -i else i
/-! ### the same over ints, nothing left out -/
section
variable {K : PySem.W.Frag} {σ : L2.St} {H1 : Hp} {te : TE} {vs : List Nat} {j : Nat} {Qd : Addr → Hp → Prop}
/-- a value by its int -/
def onI (g : Int → V) : V → V
  | .int i => g i
  | v => v
theorem onI_map (g : Int → V) (ns : List Int) : (((ns.map V.int).filter fun _ => true).map (onI g)) = ns.map g := by
  rw [List.filter_eq_self.mpr (fun _ _ => rfl), List.map_map]
  rfl
theorem lc_mR {lo : Int} {n : Nat} (g : Int → V) (hz : n ≤ 100000) (hw : ∀ x, wipe ((wipe σ vs).set j (some x)) vs = wipe σ vs)
    (he : ∀ x : Int, lo ≤ x → x < lo + (n : Int) → ∀ H2, Same H1 H2 → ∀ R : VK, (∀ H3, Same H2 H3 → R (g x) H3) → te ((wipe σ vs).set j (some (.int x))) H2 R)
    (k : ∀ D H', H1 D = none → Same H1 H' → H' D = some (.lst ((rgI lo n).map g)) → Qd D H') (D : Addr) (hD : H1 D = none) :
    ∃ W : Nat → Nat → Hp → Prop, (∃ m, W 0 m (upd H1 D (.lst []))) ∧ ∀ i m H, W i m H →
      ((Itr lo n).stop i H ∧ Qd D H) ∨ ((Itr lo n).go i H ∧ ∃ Nx : Hp → Prop, (∀ H', Nx H' → ∃ m', m' < m ∧ W (i + 1) m' H') ∧ ∀ x H', (Itr lo n).yld i H x H' → gName j x (wipe σ vs) H' fun σ2 H2 => wipe σ2 vs = wipe σ vs ∧ tYes σ2 H2 fun b H3 =>
        if b = true then te σ2 H3 fun y H4 => ∃ acc, H4 D = some (.lst acc) ∧ acc.length < sizeLine ∧ Nx (upd H4 D (.lst (acc ++ [y]))) else Nx H3) :=
  lc_fmR (fun _ => true) (onI g) hz hw (fun x _ _ H2 _ R q => q H2 (Same.refl _)) (fun x h1 h2 _ => he x h1 h2) (fun D H' h1 h2 h3 => k D H' h1 h2 (by rw [onI_map] at h3; exact h3)) D hD
theorem lc_mL {a : Addr} {ns : List Int} (hx : SqL K H1 a (ns.map V.int)) (g : Int → V) (hz : ns.length ≤ 100000) (hw : ∀ x, wipe ((wipe σ vs).set j (some x)) vs = wipe σ vs)
    (he : ∀ x ∈ ns, ∀ H2, Same H1 H2 → ∀ R : VK, (∀ H3, Same H2 H3 → R (g x) H3) → te ((wipe σ vs).set j (some (.int x))) H2 R)
    (k : ∀ D H', H1 D = none → Same H1 H' → H' D = some (.lst (ns.map g)) → Qd D H') (D : Addr) (hD : H1 D = none) :
    ∃ W : Nat → Nat → Hp → Prop, (∃ m, W 0 m (upd H1 D (.lst []))) ∧ ∀ i m H, W i m H →
      ((Itl K a).stop i H ∧ Qd D H) ∨ ((Itl K a).go i H ∧ ∃ Nx : Hp → Prop, (∀ H', Nx H' → ∃ m', m' < m ∧ W (i + 1) m' H') ∧ ∀ x H', (Itl K a).yld i H x H' → gName j x (wipe σ vs) H' fun σ2 H2 => wipe σ2 vs = wipe σ vs ∧ tYes σ2 H2 fun b H3 =>
        if b = true then te σ2 H3 fun y H4 => ∃ acc, H4 D = some (.lst acc) ∧ acc.length < sizeLine ∧ Nx (upd H4 D (.lst (acc ++ [y]))) else Nx H3) :=
  lc_fmL hx (fun _ => true) (onI g) (by rw [List.length_map]; exact hz) hw (fun x _ H2 _ R q => q H2 (Same.refl _)) (fun x hm _ H2 e R r => by obtain ⟨i, hi, rfl⟩ := List.mem_map.mp hm; exact he i hi H2 e R r)
    (fun D H' h1 h2 h3 => k D H' h1 h2 (by rw [onI_map] at h3; exact h3)) D hD
theorem lc_mT {a : Addr} {ns : List Int} (hx : SqT K H1 a (ns.map V.int)) (g : Int → V) (hz : ns.length ≤ 100000) (hw : ∀ x, wipe ((wipe σ vs).set j (some x)) vs = wipe σ vs)
    (he : ∀ x ∈ ns, ∀ H2, Same H1 H2 → ∀ R : VK, (∀ H3, Same H2 H3 → R (g x) H3) → te ((wipe σ vs).set j (some (.int x))) H2 R)
    (k : ∀ D H', H1 D = none → Same H1 H' → H' D = some (.lst (ns.map g)) → Qd D H') (D : Addr) (hD : H1 D = none) :
    ∃ W : Nat → Nat → Hp → Prop, (∃ m, W 0 m (upd H1 D (.lst []))) ∧ ∀ i m H, W i m H →
      ((Itt K a).stop i H ∧ Qd D H) ∨ ((Itt K a).go i H ∧ ∃ Nx : Hp → Prop, (∀ H', Nx H' → ∃ m', m' < m ∧ W (i + 1) m' H') ∧ ∀ x H', (Itt K a).yld i H x H' → gName j x (wipe σ vs) H' fun σ2 H2 => wipe σ2 vs = wipe σ vs ∧ tYes σ2 H2 fun b H3 =>
        if b = true then te σ2 H3 fun y H4 => ∃ acc, H4 D = some (.lst acc) ∧ acc.length < sizeLine ∧ Nx (upd H4 D (.lst (acc ++ [y]))) else Nx H3) :=
  lc_fmT hx (fun _ => true) (onI g) (by rw [List.length_map]; exact hz) hw (fun x _ H2 _ R q => q H2 (Same.refl _)) (fun x hm _ H2 e R r => by obtain ⟨i, hi, rfl⟩ := List.mem_map.mp hm; exact he i hi H2 e R r)
    (fun D H' h1 h2 h3 => k D H' h1 h2 (by rw [onI_map] at h3; exact h3)) D hD
end

/-! ### .. as rules for a comprehension's reading -/
section
variable {K : PySem.W.Frag} {σ : L2.St} {H : Hp} {te tl : TE} {aa : TA} {vs : List Nat} {j : Nat} {R : VK}
/-- what is asked of each element and of what follows -/
def LcAsk (σ : L2.St) (vs : List Nat) (j : Nat) (te : TE) (R : VK) (ns : List Int) (g : Int → V) (H1 : Hp) : Prop :=
  (∀ x ∈ ns, ∀ H2, Same H1 H2 → ∀ R' : VK, (∀ H3, Same H2 H3 → R' (g x) H3) → te ((wipe σ vs).set j (some (.int x))) H2 R') ∧ ∀ D H', H1 D = none → Same H1 H' → H' D = some (.lst (ns.map g)) → R (.ref D) H'
theorem mem_rgI {lo : Int} {n : Nat} {z : Int} : z ∈ rgI lo n ↔ lo ≤ z ∧ z < lo + (n : Int) := by
  unfold rgI
  rw [List.mem_map]
  constructor
  · rintro ⟨k, hk, rfl⟩
    have := List.mem_range.mp hk
    omega
  · intro ⟨h1, h2⟩
    exact ⟨(z - lo).toNat, List.mem_range.mpr (by omega), by omega⟩
theorem thnA {aa : TA} {R1 R2 : List V → Hp → Prop} (mono : ∀ ws H, R1 ws H → R2 ws H) (am : aa σ H R1 → aa σ H R2) (h : aa σ H R1) : aa σ H R2 := am h
/-- a comprehension of one name, without a test, behind its iterable -/
def LcG (J : It) (σ : L2.St) (vs : List Nat) (j : Nat) (te : TE) (R : VK) (H1 : Hp) : Prop := ∀ D, H1 D = none → ∃ W : Nat → Nat → Hp → Prop, (∃ m, W 0 m (upd H1 D (.lst []))) ∧ ∀ i m H, W i m H →
    (J.stop i H ∧ R (.ref D) H) ∨ (J.go i H ∧ ∃ Nx : Hp → Prop, (∀ H', Nx H' → ∃ m', m' < m ∧ W (i + 1) m' H') ∧ ∀ x H', J.yld i H x H' → gName j x (wipe σ vs) H' fun σ2 H2 => wipe σ2 vs = wipe σ vs ∧ tYes σ2 H2 fun b H3 =>
      if b = true then te σ2 H3 fun y H4 => ∃ acc, H4 D = some (.lst acc) ∧ acc.length < sizeLine ∧ Nx (upd H4 D (.lst (acc ++ [y]))) else Nx H3)
theorem i_lcN {wi : TI} (h : wi σ H fun J H1 => LcG J σ vs j te R H1) : tLc wi (gName j) tYes te vs σ H R := h
theorem lcR {lo : Int} {n : Nat} (g : Int → V) (hw : ∀ x, wipe ((wipe σ vs).set j (some x)) vs = wipe σ vs) (hz : n ≤ 100000) (h : LcAsk σ vs j te R (rgI lo n) g H) : LcG (Itr lo n) σ vs j te R H := fun D hD =>
  lc_mR (σ := σ) (H1 := H) (te := te) (vs := vs) (j := j) (Qd := fun D H => R (.ref D) H) (lo := lo) (n := n) g hz hw (fun x h1 h2 => h.1 x (mem_rgI.mpr ⟨h1, h2⟩)) h.2 D hD
theorem lcL {a : Addr} {ns : List Int} (g : Int → V) (hw : ∀ x, wipe ((wipe σ vs).set j (some x)) vs = wipe σ vs) (hx : SqL K H a (ns.map V.int)) (hz : ns.length ≤ 100000) (h : LcAsk σ vs j te R ns g H) : LcG (Itl K a) σ vs j te R H := fun D hD =>
  lc_mL (σ := σ) (H1 := H) (te := te) (vs := vs) (j := j) (Qd := fun D H => R (.ref D) H) hx g hz hw h.1 h.2 D hD
theorem lcT {a : Addr} {ns : List Int} (g : Int → V) (hw : ∀ x, wipe ((wipe σ vs).set j (some x)) vs = wipe σ vs) (hx : SqT K H a (ns.map V.int)) (hz : ns.length ≤ 100000) (h : LcAsk σ vs j te R ns g H) : LcG (Itt K a) σ vs j te R H := fun D hD =>
  lc_mT (σ := σ) (H1 := H) (te := te) (vs := vs) (j := j) (Qd := fun D H => R (.ref D) H) hx g hz hw h.1 h.2 D hD
end

/-! ### readings by name -/
abbrev rAddI : R2 := rI0 fun i j => .int (i + j)
abbrev rSubI : R2 := rI0 fun i j => .int (i - j)
abbrev rMulI : R2 := rI (fun i j => CMul i j ∨ CMulW i j) fun i j => .int (i * j)
abbrev rDivI : R2 := rI CDivW fun i j => .int (i / j)
abbrev rModI : R2 := rI (fun _ j => 0 < j) fun i j => .int (i % j)
abbrev rPowI : R2 := rI CPow fun i j => .int (i ^ j.toNat)
abbrev rLtI : R2 := rI0 fun i j => .bl (decide (i < j))
abbrev rLeI : R2 := rI0 fun i j => .bl (decide (i ≤ j))
abbrev rGtI : R2 := rI0 fun i j => .bl (decide (j < i))
abbrev rGeI : R2 := rI0 fun i j => .bl (decide (j ≤ i))
abbrev rNeg : V → Hp → VK → Prop := rU fun i => .int (-i)
def rAddT : R2 := fun x y H Q => ∃ i j, x = .str i ∧ y = .str j ∧ i.length + j.length ≤ sizeLine ∧ Q (.str (i ++ j)) H
def rIsNo : R2 := fun x y H Q => y = .non ∧ Q (.bl (decide (x = .non))) H
def rIsNotNo : R2 := fun x y H Q => y = .non ∧ Q (.bl (!decide (x = .non))) H
def rLenS (K : PySem.W.Frag) : List V → Hp → VK → Prop := fun xs H Q => ∃ p ys, xs = [.ref p] ∧ (SqL K H p ys ∨ SqT K H p ys) ∧ Q (.int ys.length) H
def rLenT : List V → Hp → VK → Prop := fun xs H Q => ∃ z, xs = [.str z] ∧ z.length ≤ sizeLine ∧ Q (.int z.length) H
def rAbs : List V → Hp → VK → Prop := fun xs H Q => ∃ i, xs = [.int i] ∧ Q (.int (if i < 0 then -i else i)) H
def rMax2 : List V → Hp → VK → Prop := fun xs H Q => ∃ i j, xs = [.int i, .int j] ∧ Q (.int (if j > i then j else i)) H
def rMin2 : List V → Hp → VK → Prop := fun xs H Q => ∃ i j, xs = [.int i, .int j] ∧ Q (.int (if j < i then j else i)) H
def rInt1 : List V → Hp → VK → Prop := fun xs H Q => (∃ i, xs = [.int i] ∧ Q (.int i) H) ∨ ∃ k, xs = [.bl k] ∧ Q (.int (if k then 1 else 0)) H
def rStrI : List V → Hp → VK → Prop := fun xs H Q => ∃ i, xs = [.int i] ∧ i.natAbs.log2 < 1920 ∧ Q (.str (toString i)) H
def rListS (K : PySem.W.Frag) : List V → Hp → VK → Prop := fun xs H Q => ∃ p ys, xs = [.ref p] ∧ (SqL K H p ys ∨ SqT K H p ys) ∧ ∀ l, H l = none → Q (.ref l) (upd H l (.lst ys))
def rTupS (K : PySem.W.Frag) : List V → Hp → VK → Prop := fun xs H Q => ∃ p ys, xs = [.ref p] ∧ ((SqL K H p ys ∧ ∀ l, H l = none → Q (.ref l) (upd H l (.tup ys))) ∨ (SqT K H p ys ∧ Q (.ref p) H))
def rIxLT (K : PySem.W.Frag) : R2 := fun x y H Q => rIxL K x y H Q ∨ rIxT K x y H Q
def tJoined (ts : List TE) : TE := fun σ H Q => tJs ts Str.empty σ H fun out H1 => Q (.str out) H1
def rJoinT (K : PySem.W.Frag) : V → List V → Hp → VK → Prop := fun x xs H Q => ∃ a p, ∃ ys : List Str, x = .str a ∧ xs = [.ref p] ∧ (SqL K H p (ys.map V.str) ∨ SqT K H p (ys.map V.str)) ∧ (ys.map (·.length)).sum + ys.length * a.length ≤ 16777216 ∧ Q (.str (Txt.join a ys)) H
def tJoinT (K : PySem.W.Frag) (to te : TE) : TE := tM1 (rJoinT K) to te
section
variable {X : Cx}
theorem op_mulA : OpR X (binaryOp .Mult) rMulI := opI fun _ _ _ _ _ _ _ hc q => mul_int q (hc.elim CMul.ok CMulW.ok)
theorem iop_mulA : OpR X (inplaceOp .Mult) rMulI := opI fun _ _ _ _ _ _ _ hc q => imul_int q (hc.elim CMul.ok CMulW.ok)
theorem op_addT : OpR X (binaryOp .Add) rAddT := op_add_str
theorem op_isNo : OpR X (compareOp .Is) rIsNo := op_isN
theorem op_isNotNo : OpR X (compareOp .IsNot) rIsNotNo := op_notN
theorem c_lenS : CallR X (.builtin "len") (rLenS X.K) := call_len_seq
theorem c_lenT : CallR X (.builtin "len") rLenT := call_len_str
theorem c_abs : CallR X (.builtin "abs") rAbs := call_abs
theorem c_max2 (h : X.calm = true) : CallR X (.builtin "max") rMax2 := call_max2 h
theorem c_min2 (h : X.calm = true) : CallR X (.builtin "min") rMin2 := call_min2 h
theorem c_int1 : CallR X (.type "int") rInt1 := call_int1
theorem c_strI : CallR X (.type "str") rStrI := call_str_int
theorem c_listS : CallR X (.type "list") (rListS X.K) := call_list_of
theorem c_tupS : CallR X (.type "tuple") (rTupS X.K) := call_tuple_of
theorem ix_ltp : IxR X (rIxLT X.K) := ix_list.or ix_tup
theorem ip_of {op : Operator} {r : R2} (h : OpR X (inplaceOp op) r) : PIp X op r := h
theorem pe_joinT {o e : Expr} {to te : TE} {apos pos : Pos} (ho : PE X o to) (he : PE X e te) (hs : starEach [e] X.env = [(false, eval e X.env)] := by rfl) (hbase : attributeBase o "join" X.env (eval o X.env) = eval o X.env := by rfl) (hline : (apos.endLine == pos.line) = true := by rfl) :
    PE X (.Call (.Attribute o "join" apos) [e] [] pos) (tJoinT X.K to te) := pe_join ho he hs hbase hline
theorem pe_joinedN {v1 v2 : Expr} {rest : List Expr} {ts : List TE} {pos : Pos} (h : PJ X (v1 :: v2 :: rest) ts) : PE X (.JoinedStr (v1 :: v2 :: rest) pos) (tJoined ts) := pe_joined h

/-! ### a list or a tuple, walked -/
def iLT (K : PySem.W.Frag) (tl : TE) : TI := fun σ H R => tl σ H fun x H1 => ∃ a, x = .ref a ∧ (((∃ xs, SqL K H1 a xs) ∧ R (Itl K a) H1) ∨ ((∃ xs, SqT K H1 a xs) ∧ R (Itt K a) H1))
/-- an expression that is worth what is there already -/
theorem pi_ltp {tg l : Expr} {tl : TE} (hl : PE X l tl) : PI X tg l (iLT X.K tl) := by
  refine ⟨fun pins s σ H R I h => ?_⟩
  refine thn (hl.run pins s σ H _ I h) fun v s1 hv => ?_
  obtain ⟨x, H1, I1, r1, a, rfl, z⟩ := hv
  have ev : v = .ref a := r1
  subst ev
  have fp : ∀ b ∈ [s1.heap.objs.size], FpOk X pins H1 b := fun b hb => by
    obtain rfl := List.mem_singleton.mp hb
    exact I1.fpOk (Nat.le_refl _) (I1.hok.fresh (Nat.le_refl _))
  rcases z with ⟨⟨xs, hq⟩, q⟩ | ⟨⟨xs, hq⟩, q⟩
  · obtain ⟨ws, rv, p, hz⟩ := I1.list hq
    exact wpAny_pyIter_list p.isList ⟨s1.heap.objs.size, [s1.heap.objs.size], _, _, H1, rfl, I1.kept (t' := s1.toks) fun b o e => Heap.get?_push_of_some _ e, turn_list a _, ⟨_, Heap.get?_push_size _ rfl, rfl, rfl⟩, fp, q⟩
  · obtain ⟨ws, rv, p, hz⟩ := I1.tuple hq
    exact wpAny_pyIter_tuple (show s1.heap.IsTuple a ws.toArray from p) ⟨s1.heap.objs.size, [s1.heap.objs.size], _, _, H1, rfl, I1.kept (t' := s1.toks) fun b o e => Heap.get?_push_of_some _ e, turn_tuple a _, ⟨_, Heap.get?_push_size _ rfl, rfl, rfl⟩, fp, q⟩
end

/-! ### the names of built-ins that the module does not bind -/
structure Nm (mg : Str → Option Value) : Prop where
  abs : mg "abs" = none
  all : mg "all" = none
  any : mg "any" = none
  bool_ : mg "bool" = none
  dict_ : mg "dict" = none
  enumerate : mg "enumerate" = none
  int_ : mg "int" = none
  isinstance : mg "isinstance" = none
  iter : mg "iter" = none
  len : mg "len" = none
  list_ : mg "list" = none
  max : mg "max" = none
  min : mg "min" = none
  next : mg "next" = none
  range : mg "range" = none
  repr_ : mg "repr" = none
  reversed : mg "reversed" = none
  set_ : mg "set" = none
  sorted : mg "sorted" = none
  str_ : mg "str" = none
  sum : mg "sum" = none
  tuple_ : mg "tuple" = none
  zip : mg "zip" = none
section
variable {X : Cx} {x y : Expr} {tx ty : TE} {p p2 pos pos2 : Pos}
theorem g_lr1 (n : Nm X.mg) (hc : X.calm = true) (hx : PE X x tx) (hg : Gl X "list") (hg2 : Gl X "range") (na : starEach [x] X.env = (false, eval x X.env) :: starEach [] X.env := by rfl)
    (nb : starEach [Expr.Call (.Name "range" p2) [x] [] pos2] X.env = (false, eval (Expr.Call (.Name "range" p2) [x] [] pos2) X.env) :: starEach [] X.env := by rfl) :
    PE X (.Call (.Name "list" p) [.Call (.Name "range" p2) [x] [] pos2] [] pos) (tLstRg (tRg1 tx)) := pe_listRg hc hg n.list_ (prg_1 hg2 n.range hx na) nb
theorem g_lr2 (n : Nm X.mg) (hc : X.calm = true) (hx : PE X x tx) (hy : PE X y ty) (hg : Gl X "list") (hg2 : Gl X "range") (na : starEach [x, y] X.env = (false, eval x X.env) :: starEach [y] X.env := by rfl)
    (nb : starEach [y] X.env = (false, eval y X.env) :: starEach [] X.env := by rfl) (hp : (backTo pos2 (starEach [y] X.env)).any (·.1) = false := by rfl)
    (nc : starEach [Expr.Call (.Name "range" p2) [x, y] [] pos2] X.env = (false, eval (Expr.Call (.Name "range" p2) [x, y] [] pos2) X.env) :: starEach [] X.env := by rfl) :
    PE X (.Call (.Name "list" p) [.Call (.Name "range" p2) [x, y] [] pos2] [] pos) (tLstRg (tRg2 tx ty)) := pe_listRg hc hg n.list_ (prg_2 hg2 n.range hx hy na nb hp) nc
end
/-! ### the addresses of the classes -/
structure Ad where
  Arrangement : Addr
  HugeRow : Addr
  Game : Addr
  Console : Addr
  CardError : Addr
  InvalidRow : Addr
  InvalidPlace : Addr
  InvalidNumber : Addr
  InvalidStep : Addr
  InvalidWord : Addr
  InvalidCode : Addr
  InvalidName : Addr
  InvalidCommand : Addr
  SizeMismatch : Addr
  ParseError : Addr
  LimitExceeded : Addr
  NothingToUndo : Addr
  NothingToRedo : Addr

/-! ### one step of a reading at its head -/
section
variable {σ : L2.St} {H : Hp} {Q : VK} {D : Ends} {te ta tb tc to ti tl : TE} {t u : TS} {g : TG} {c c1 c2 : TT} {aa tr : TA} {x y v w : V} {K : PySem.W.Frag} {sp : Sp} {E : XK} {C : Addr} {r r' : R2} {n i j : Nat}
theorem i_seq (h : t { D with nx := u D } σ H) : tSeq t u D σ H := h
theorem i_asg (h : te σ H fun x H1 => g x σ H1 D.nx) : tAsg te g D σ H := h
theorem i_ret (h : te σ H D.rt) : tRet te D σ H := h
theorem i_retN (h : D.rt .non H) : tRetN D σ H := h
theorem i_ifs (h : c σ H fun b H1 => if b = true then t D σ H1 else u D σ H1) : tIfS c t u D σ H := h
theorem i_next (h : D.nx σ H) : tNext D σ H := h
theorem i_brk (h : D.bk σ H) : tBreak D σ H := h
theorem i_cont (h : D.ct σ H) : tCont D σ H := h
theorem i_drop (h : te σ H fun _ H1 => D.nx σ H1) : tDrop te D σ H := h
theorem i_par (h : aa σ H fun vs H1 => ∃ v w, vs = [v, w] ∧ D.nx ((σ.set i (some v)).set j (some w)) H1) : tPar i j aa D σ H := h
theorem i_aug {tp : TIp} (hx : σ[i]? = some (some x)) (h : te σ H fun y H1 => tp x y H1 fun z H2 => D.nx (σ.set i (some z)) H2) : tAug i te tp D σ H := ⟨x, hx, h⟩
theorem i_gN {R : L2.St → Hp → Prop} (h : R (σ.set i (some v)) H) : gName i v σ H R := h
theorem i_gS {ts : TSet} {R : L2.St → Hp → Prop} (h : to σ H fun o H1 => ti σ H1 fun i H2 => ts o i v H2 fun H3 => R σ H3) : gSub to ti ts v σ H R := h
theorem i_nil {R : List V → Hp → Prop} (h : R [] H) : tNil σ H R := h
theorem i_cons {R : List V → Hp → Prop} (h : te σ H fun x H1 => tr σ H1 fun xs H2 => R (x :: xs) H2) : tCons te tr σ H R := h
theorem i_tup (h : aa σ H fun xs H1 => xs.length ≤ sizeLine ∧ ∀ p, H1 p = none → Q (.ref p) (upd H1 p (.tup xs))) : tTup aa σ H Q := h
theorem i_lst (h : aa σ H fun xs H1 => xs.length ≤ sizeLine ∧ ∀ p, H1 p = none → Q (.ref p) (upd H1 p (.lst xs))) : tLst aa σ H Q := h
theorem i_op (h : ta σ H fun x H1 => tb σ H1 fun y H2 => r x y H2 Q) : tOp r ta tb σ H Q := h
theorem i_un {f : V → Hp → VK → Prop} (h : ta σ H fun x H1 => f x H1 Q) : tUn f ta σ H Q := h
theorem i_test {R : Bool → Hp → Prop} (h : te σ H fun x H' => ∃ k, x = .bl k ∧ R k H') : tTest te σ H R := h
theorem i_B {R : Bool → Hp → Prop} (h : te σ H fun x H' => ∃ k, x = .bl k ∧ R k H') : tB te σ H R := h
theorem i_bl {R : Bool → Prop} {b : Bool} (h : R b) : ∃ k, V.bl b = .bl k ∧ R k := ⟨b, rfl, h⟩
theorem iteN {A B : Prop} (h : B) : if (!true) = true then A else B := iteF h
theorem iteM {A B : Prop} (h : A) : if (!false) = true then A else B := iteT h
theorem i_dT {c A B : Prop} [Decidable c] (hc : c) (h : A) : if decide c = true then A else B := by rw [decide_eq_true hc]; exact iteT h
theorem i_dF {c A B : Prop} [Decidable c] (hc : ¬ c) (h : B) : if decide c = true then A else B := by rw [decide_eq_false hc]; exact iteF h
theorem i_nT {c A B : Prop} [Decidable c] (hc : c) (h : B) : if (!decide c) = true then A else B := by rw [decide_eq_true hc]; exact iteF h
theorem i_nF {c A B : Prop} [Decidable c] (hc : ¬ c) (h : A) : if (!decide c) = true then A else B := by rw [decide_eq_false hc]; exact iteT h
theorem i_not {R : Bool → Hp → Prop} (h : c σ H fun b H1 => R (!b) H1) : tNot c σ H R := h
theorem i_and {R : Bool → Hp → Prop} (h : c1 σ H fun b H1 => if b = true then c2 σ H1 R else R false H1) : tAnd c1 c2 σ H R := h
theorem i_or {R : Bool → Hp → Prop} (h : c1 σ H fun b H1 => if b = true then R true H1 else c2 σ H1 R) : tOr c1 c2 σ H R := h
theorem i_andV (h : ta σ H fun x H1 => ∃ b, x = .bl b ∧ if b = true then tb σ H1 Q else Q (.bl false) H1) : tAndV ta tb σ H Q := h
theorem i_orV (h : ta σ H fun x H1 => ∃ b, x = .bl b ∧ if b = true then Q (.bl true) H1 else tb σ H1 Q) : tOrV ta tb σ H Q := h
theorem i_notV (h : ta σ H fun x H1 => ∃ b, x = .bl b ∧ Q (.bl (!b)) H1) : tNotV ta σ H Q := h
theorem i_if (h : c σ H fun b H1 => if b = true then ta σ H1 Q else tb σ H1 Q) : tIf c ta tb σ H Q := h
theorem i_chain (h : ta σ H fun x H1 => tb σ H1 fun y H2 => r x y H2 fun z H3 => ∃ k, z = .bl k ∧ (if k = true then tc σ H3 fun w' H4 => r' y w' H4 Q else Q (.bl false) H3)) : tChain r r' ta tb tc σ H Q := h
theorem i_cb {f : List V → Hp → VK → Prop} (h : aa σ H fun vs H1 => f vs H1 Q) : tCB f aa σ H Q := h
theorem i_call (h : aa σ H fun vs H1 => sp vs H1 Q E) : tCallR sp E aa σ H Q := h
def MkG (C : Addr) (sp : Sp) (E : XK) (vs : List V) (Q : VK) (H1 : Hp) : Prop := ∀ x dx, H1 x = none → H1 dx = none → dx ≠ x → sp (.ref x :: vs) (upd (upd H1 dx (.own x)) x (.ins C dx [])) (fun v H2 => v = .non ∧ Q (.ref x) H2) E
theorem i_make (h : aa σ H fun vs H1 => MkG C sp E vs Q H1) : tMakeR C sp E aa σ H Q := h
theorem i_smeth (h : ta σ H fun x H1 => x = .ref C ∧ aa σ H1 fun vs H2 => sp vs H2 Q E) : tSMeth C sp E ta aa σ H Q := h
theorem i_prop (h : ta σ H fun x H1 => ∃ a dx fs, x = .ref a ∧ H1 a = some (.ins C dx fs) ∧ sp [.ref a] H1 Q E) : tPropR C sp E ta σ H Q := h
theorem i_fld {f : Str} (h : ta σ H fun x H1 => ∃ a C dx fs v, x = .ref a ∧ H1 a = some (.ins C dx fs) ∧ Cls K C ∧ NoAttr K C f ∧ fs.lookup f = some v ∧ Q v H1) : tFld K ta f σ H Q := h
theorem i_sfld {f : Str} {tv : TE} (h : tv σ H fun y H1 => ta σ H1 fun x H2 => ∃ a C dx fs, x = .ref a ∧ H2 a = some (.ins C dx fs) ∧ Cls K C ∧ NoAttr K C f ∧ fs.length < 1000 ∧ D.nx σ (upd H2 a (.ins C dx (putF f y fs)))) : sFld K ta tv f D σ H := h
theorem i_bm {T : String} {f : V → List V → Hp → VK → Prop} (h : to σ H fun x H1 => tyV K T x H1 ∧ aa σ H1 fun xs H2 => f x xs H2 Q) : tBM K T f to aa σ H Q := h
theorem i_bm0 {T : String} {f : V → List V → Hp → VK → Prop} (h : to σ H fun x H1 => tyV K T x H1 ∧ f x [] H1 Q) : tBM0 K T f to σ H Q := h
theorem i_var (hv : σ[i]? = some (some v)) (h : Q v H) : tVar i σ H Q := ⟨v, hv, h⟩
theorem i_c (h : Q v H) : tC v σ H Q := h
theorem i_rI0 {g : Int → Int → V} {i j : Int} (h : Q (g i j) H) : rI0 g (.int i) (.int j) H Q := ⟨i, j, rfl, rfl, h⟩
theorem i_rI {P : Int → Int → Prop} {g : Int → Int → V} {i j : Int} (hc : P i j) (h : Q (g i j) H) : rI P g (.int i) (.int j) H Q := ⟨i, j, rfl, rfl, hc, h⟩
theorem i_rU {g : Int → V} {i : Int} (h : Q (g i) H) : rU g (.int i) H Q := ⟨i, rfl, h⟩
theorem i_abs {i : Int} (h : Q (.int (absI i)) H) : rAbs [.int i] H Q := ⟨i, rfl, h⟩
theorem i_max2 {i j : Int} (h : Q (.int (if j > i then j else i)) H) : rMax2 [.int i, .int j] H Q := ⟨i, j, rfl, h⟩
theorem i_min2 {i j : Int} (h : Q (.int (if j < i then j else i)) H) : rMin2 [.int i, .int j] H Q := ⟨i, j, rfl, h⟩
theorem i_int1 {k : Bool} (h : Q (.int (if k then 1 else 0)) H) : rInt1 [.bl k] H Q := .inr ⟨k, rfl, h⟩
theorem i_lenL {p : Addr} {xs : List V} (hs : SqL K H p xs) (h : Q (.int (xs.length : Nat)) H) : rLenS K [.ref p] H Q := ⟨p, xs, rfl, .inl hs, h⟩
theorem i_lenT {p : Addr} {xs : List V} (hs : SqT K H p xs) (h : Q (.int (xs.length : Nat)) H) : rLenS K [.ref p] H Q := ⟨p, xs, rfl, .inr hs, h⟩
theorem i_ixL {p : Addr} {xs : List V} {i : Int} (hs : SqL K H p xs) (ha : atI xs i = some v) (h : Q v H) : rIxL K (.ref p) (.int i) H Q := ⟨p, xs, i, v, rfl, rfl, hs, ha, h⟩
theorem i_ixT {p : Addr} {xs : List V} {i : Int} (hs : SqT K H p xs) (ha : atI xs i = some v) (h : Q v H) : rIxT K (.ref p) (.int i) H Q := ⟨p, xs, i, v, rfl, rfl, hs, ha, h⟩
theorem i_setL {p : Addr} {xs : List V} {k : Int} {j : Nat} {R : Hp → Prop} (hs : H p = some (.lst xs)) (hk : ixN xs.length k = some j) (h : R (upd H p (.lst (xs.set j v)))) : rSetL (.ref p) (.int k) v H R := ⟨p, xs, k, j, rfl, rfl, hs, hk, h⟩
theorem i_app {p : Addr} {xs : List V} (hs : H p = some (.lst xs)) (hz : xs.length ≤ 100000) (h : Q .non (upd H p (.lst (xs ++ [v])))) : rAppend (.ref p) [v] H Q := ⟨p, xs, v, rfl, rfl, hs, Nat.lt_of_le_of_lt hz (by decide), h⟩
theorem i_for {wi : TI} (h : wi σ H fun J H1 => ∃ W : Nat → Nat → L2.St → Hp → Prop, (∃ m, W 0 m σ H1) ∧ ∀ i m σ H, W i m σ H →
    (J.stop i H ∧ D.nx σ H) ∨ (J.go i H ∧ ∃ N : L2.St → Hp → Prop, (∀ σ' H', N σ' H' → ∃ m', m' < m ∧ W (i + 1) m' σ' H') ∧ ∀ x H', J.yld i H x H' → g x σ H' fun σ2 H2 => t { D with nx := N, ct := N, bk := D.nx } σ2 H2)) : tFor wi g t D σ H := h
theorem i_lc {wi : TI} {ws : List Nat} (h : wi σ H fun J H1 => ∀ D, H1 D = none → ∃ W : Nat → Nat → Hp → Prop, (∃ m, W 0 m (upd H1 D (.lst []))) ∧ ∀ i m H, W i m H →
    (J.stop i H ∧ Q (.ref D) H) ∨ (J.go i H ∧ ∃ Nx : Hp → Prop, (∀ H', Nx H' → ∃ m', m' < m ∧ W (i + 1) m' H') ∧ ∀ x H', J.yld i H x H' → g x (wipe σ ws) H' fun σ2 H2 => wipe σ2 ws = wipe σ ws ∧ c σ2 H2 fun b H3 =>
      if b = true then te σ2 H3 fun y H4 => ∃ acc, H4 D = some (.lst acc) ∧ acc.length < sizeLine ∧ Nx (upd H4 D (.lst (acc ++ [y]))) else Nx H3)) : tLc wi g c te ws σ H Q := h
theorem i_rng1 {R : It → Hp → Prop} (h : aa σ H fun vs H1 => ∃ j : Int, vs = [.int j] ∧ -(2 ^ 62) ≤ j ∧ j < 2 ^ 62 ∧ R (Itr 0 j.toNat) H1) : iRng1 aa σ H R := h
theorem i_rng2 {R : It → Hp → Prop} (h : aa σ H fun vs H1 => ∃ i j : Int, vs = [.int i, .int j] ∧ (-(2 ^ 62) ≤ i ∧ i < 2 ^ 62 ∧ -(2 ^ 62) ≤ j ∧ j < 2 ^ 62) ∧ R (Itr i (j - i).toNat) H1) : iRng2 aa σ H R := h
theorem i_iL {R : It → Hp → Prop} (h : tl σ H fun x H1 => ∃ a, x = .ref a ∧ (∃ xs, SqL K H1 a xs) ∧ R (Itl K a) H1) : iList K tl σ H R := h
theorem i_iT {R : It → Hp → Prop} (h : tl σ H fun x H1 => ∃ a, x = .ref a ∧ (∃ xs, SqT K H1 a xs) ∧ R (Itt K a) H1) : iTup K tl σ H R := h
theorem i_iLT {R : It → Hp → Prop} (h : tl σ H fun x H1 => ∃ a, x = .ref a ∧ (((∃ xs, SqL K H1 a xs) ∧ R (Itl K a) H1) ∨ ((∃ xs, SqT K H1 a xs) ∧ R (Itt K a) H1))) : iLT K tl σ H R := h
theorem i_iEn {R : It → Hp → Prop} (h : aa σ H fun vs H1 => ∃ a xs, vs = [.ref a] ∧ SqL K H1 a xs ∧ R (Ite K a) H1) : iEnum K aa σ H R := h
theorem i_iZp {R : It → Hp → Prop} (h : aa σ H fun vs H1 => ∃ a b xs ys, vs = [.ref a, .ref b] ∧ SqL K H1 a xs ∧ SqL K H1 b ys ∧ R (Itz K a b) H1) : iZip K aa σ H R := h
theorem i_lr1 (h : ta σ H fun x H1 => ∃ n, x = .int n ∧ RgOk 0 n ∧ ∀ q, H1 q = none → Q (.ref q) (upd H1 q (.lst (rgV 0 n)))) : tLstRg (tRg1 ta) σ H Q := h
theorem i_lr2 (h : ta σ H fun x H1 => tb σ H1 fun y H2 => ∃ i j, x = .int i ∧ y = .int j ∧ RgOk i j ∧ ∀ q, H2 q = none → Q (.ref q) (upd H2 q (.lst (rgV i j)))) : tLstRg (tRg2 ta tb) σ H Q := h
theorem i_gT {n : Nat} {gs : TGs} {R : L2.St → Hp → Prop} (h : ∃ a xs, v = .ref a ∧ SqT K H a xs ∧ xs.length = n ∧ gs xs σ H R) : gTup K n gs v σ H R := h
theorem i_gC {gs : TGs} {R : L2.St → Hp → Prop} {xs : List V} (h : g x σ H fun σ' H' => gs xs σ' H' R) : gCons g gs (x :: xs) σ H R := ⟨x, xs, rfl, h⟩
theorem i_gNil {R : L2.St → Hp → Prop} (h : R σ H) : gNil [] σ H R := ⟨rfl, h⟩
theorem i_sl {f : V → Option Int → Option Int → Hp → VK → Prop} {lo hi : TO} (h : te σ H fun x H1 => lo σ H1 fun l H2 => hi σ H2 fun u H3 => f x l u H3 Q) : tSl f te lo hi σ H Q := h
theorem i_noP {R : Option Int → Hp → Prop} (h : R none H) : tNoPart σ H R := h
theorem i_prt {R : Option Int → Hp → Prop} (h : te σ H fun x H1 => ∃ i, x = .int i ∧ R (some i) H1) : tPart te σ H R := h
theorem i_int {i : Int} {R : Int → Prop} (h : R i) : ∃ j, V.int i = .int j ∧ R j := ⟨i, rfl, h⟩
theorem i_jT (h : to σ H fun x H1 => (∃ a, x = .str a) ∧ te σ H1 fun y H2 => rJoinT K x [y] H2 Q) : tJoinT K to te σ H Q := by
  unfold tJoinT tM1
  exact h
theorem popIx {n : Nat} {i : Int} (h0 : 0 ≤ i) (h1 : i < (n : Int)) : seqIndex? i n = some i.toNat := (ixN_seq (n := n) (i := i) (j := i.toNat) (by unfold ixN; rw [if_pos h0, if_pos h1])).1
theorem i_popAt {p : Addr} {xs : List V} {i : Int} (hs : H p = some (.lst xs)) (h0 : 0 ≤ i) (h1 : i < (xs.length : Int)) (hz : xs.length ≤ 100000) (hx : xs[i.toNat]? = some y) (h : Q y (upd H p (.lst (xs.eraseIdx i.toNat)))) : rPopAt (.ref p) [.int i] H Q :=
  ⟨p, xs, i, i.toNat, y, rfl, rfl, hs, by omega, by omega, popIx h0 h1, hx, h⟩
theorem i_fmt (h : te σ H fun x H1 => (∃ y : Str, x = .str y ∧ y.length ≤ sizeLine ∧ Q (.str y) H1) ∨ ∃ i : Int, x = .int i ∧ i.natAbs.log2 < 1920 ∧ Q (.str (toString i)) H1) : tFmt te σ H Q := h
theorem i_fmt6 (h : te σ H fun x H1 => ∃ i : Int, x = .int i ∧ i.natAbs.log2 < 1920 ∧ (intSpecTextOf spec6 i).length ≤ sizeLine ∧ Q (.str (intSpecTextOf spec6 i)) H1) : tFmt6 te σ H Q := h
theorem i_joined {ts : List TE} (h : tJs ts Str.empty σ H fun out H1 => Q (.str out) H1) : tJoined ts σ H Q := h
theorem i_jsC {ts : List TE} {acc : Str} {R : Str → Hp → Prop} (h : te σ H fun x H1 => ∃ y : Str, x = .str y ∧ (acc ++ y).length ≤ sizeLine ∧ tJs ts (acc ++ y) σ H1 R) : tJs (te :: ts) acc σ H R := h
theorem i_jsN {acc : Str} {R : Str → Hp → Prop} (h : R acc H) : tJs [] acc σ H R := h
theorem i_strI {i : Int} (hi : i.natAbs.log2 < 1920) (h : Q (.str (toString i)) H) : rStrI [.int i] H Q := ⟨i, rfl, hi, h⟩
theorem i_addT {z z' : Str} (hz : z.length + z'.length ≤ sizeLine) (h : Q (.str (z ++ z')) H) : rAddT (.str z) (.str z') H Q := ⟨z, z', rfl, rfl, hz, h⟩
theorem i_lenStr {z : Str} (hz : z.length ≤ sizeLine) (h : Q (.int (z.length : Nat)) H) : rLenT [.str z] H Q := ⟨z, rfl, hz, h⟩
theorem i_eq (hs : scal x y = true) (h : Q (.bl (decide (x = y))) H) : rEq x y H Q := ⟨hs, h⟩
theorem i_ne (hs : scal x y = true) (h : Q (.bl (!decide (x = y))) H) : rNe x y H Q := ⟨hs, h⟩
end
end TC

set_option Elab.async false
set_option linter.all false
set_option maxRecDepth 100000
set_option maxHeartbeats 4000000
/-! A list or a tuple alike: enumerate, slices, comprehensions with a test, loops. -/
namespace PySem
open Sem (wp)
/-- enumerate(a tuple) is made -/
theorem tc_enumNewT (tt : Addr) (ws : Array Value) :
    Meets (Builtin.«enumerate.__new__» ⟨[.type "enumerate", .ref tt], []⟩) (fun _ R s => s.heap.IsTuple tt ws ∧
      R (.ok (.ret (.ref (s.heap.push { cls := .type "tuple_iterator", data := .fields #[.ref tt, .int 0 0] }).objs.size)))
        { s with heap := (s.heap.push { cls := .type "tuple_iterator", data := .fields #[.ref tt, .int 0 0] }).push { cls := .type "enumerate", data := .fields #[.none, .bool false, .ref s.heap.objs.size, rawInt 0, .none, .none] } }) :=
  .of_wp fun prog w A R s hst => by
    obtain ⟨hh, gg, dd, uu, oo⟩ := s
    obtain ⟨hT, hR⟩ := hst
    have hsub := sub_enumerate
    have qT : ∀ {A' : Around} {E : Value → Shared → Prop} {Q : Value → Shared → Prop}, Q (.ref hh.objs.size) ⟨hh.push { cls := .type "tuple_iterator", data := .fields #[.ref tt, .int 0 0] }, gg, dd, uu, oo⟩ → wpAny (model prog w) A' (pyIter (.ref tt)) Q E ⟨hh, gg, dd, uu, oo⟩ :=
      fun z => (begins_tuple tt ws).iter prog w _ _ ⟨hh, gg, dd, uu, oo⟩ _ hT z
    wp_walk using qT
    refine wpAny_stack_any fun _ => wpAny_pure ?_
    split
    · rename_i cls _ _ _ _ _
      cases (cls == Value.type "enumerate") <;> (wp_walk using qT; exact ⟨_, rfl, hR⟩)
    · (wp_walk using qT; exact ⟨_, rfl, hR⟩)
theorem tc_enumCallT {prog : Program} {w : World} {A : Around} {E : Value → Shared → Prop} {s : Shared} {tt : Addr} {ws : Array Value} {Q : Value → Shared → Prop} (hT : s.heap.IsTuple tt ws)
    (hQ : ∀ h', IsEnum h' (s.heap.objs.size + 1) s.heap.objs.size 0 .none → h'.IsTupleIter s.heap.objs.size tt 0 → h'.objs.size = s.heap.objs.size + 2 → (∀ b o, s.heap.get? b = some o → h'.get? b = some o) →
      Q (.ref (s.heap.objs.size + 1)) { s with heap := h' }) : wpAny (model prog w) A (call (.type "enumerate") [.ref tt]) Q E s := by
  refine callType_new F.called_enumerate (by decide) (F.typeCall_enumerate_1 _) (F.newCall_enumerate_1 _) (fun ob => F.args_object_init_2 ob _) F.entry_enumerate_new (tc_enumNewT tt ws) ⟨hT, ?_⟩
  generalize hk : s.heap.push { cls := .type "tuple_iterator", data := .fields #[.ref tt, .int 0 0] } = hk1
  have z1 : hk1.objs.size = s.heap.objs.size + 1 := by rw [← hk]; exact Heap.size_push ..
  have g1 : hk1.get? s.heap.objs.size = some { cls := .type "tuple_iterator", data := .fields #[.ref tt, .int 0 0] } := by rw [← hk]; exact Heap.get?_push_size _ rfl
  have k1 : ∀ b o, s.heap.get? b = some o → hk1.get? b = some o := fun b o x => by rw [← hk]; exact Heap.get?_push_of_some _ x
  have g2 : IsEnum (hk1.push { cls := .type "enumerate", data := .fields #[.none, .bool false, .ref s.heap.objs.size, rawInt 0, .none, .none] }) (s.heap.objs.size + 1) s.heap.objs.size 0 .none := by
    have z := Heap.get?_push_size hk1 (o := { cls := .type "enumerate", data := .fields #[.none, .bool false, .ref s.heap.objs.size, rawInt 0, .none, .none] }) rfl
    rw [z1] at z
    exact z
  show _ ∧ _
  rw [z1]
  exact ⟨⟨_, g2, rfl⟩, hQ _ g2 ⟨_, Heap.get?_push_of_some _ g1, rfl, rfl⟩ (by rw [Heap.size_push, z1]) fun b o x => Heap.get?_push_of_some _ (k1 b o x)⟩
end PySem
namespace TC
open PySem PySem.Spec PyProof.Rows L2
/-- the tuple at a, each item in a new pair -/
def Ett (K : PySem.W.Frag) (a : Addr) : It :=
  ⟨fun i H => ∃ (xs : List V) (x : V), SqT K H a xs ∧ xs[i]? = some x, fun i H v H' => ∃ T x, v = .ref T ∧ H T = none ∧ H' = upd H T (.tup [.int (i : Nat), x]) ∧ ∀ xs, SqT K H a xs → xs[i]? = some x, fun i H => ∃ xs : List V, SqT K H a xs ∧ xs.length ≤ i⟩
theorem tup_inj {X : Cx} {pins : List (Addr × Obj)} {σ : L2.St} {H : Hp} {s : Shared} {a : Addr} {xs ys : List V} (I : Inv X pins σ H s) (h : SqT X.K H a xs) (h' : SqT X.K H a ys) : ys = xs := I.tuple_inj h' h
theorem turn_enumT {P : Program} {w : World} {K : PySem.W.Frag} {elts : List Expr} {kk : Nat} {tpos : Pos} (a en it : Addr) :
    Turn P w K (.Tuple elts kk tpos) (Ett K a) [en, it] en (fun i h => (∃ old, IsEnum h en it ((i : Nat) : Int) old) ∧ h.IsTupleIter it a i ∧ en ≠ it) where
  mem := List.mem_cons_self
  obj := fun i h st b hb => by
    obtain ⟨⟨old, he⟩, ⟨o, ho, _, hd⟩, _⟩ := st
    rcases List.mem_cons.mp hb with rfl | hb
    · exact ⟨_, he, fun v q => nomatch q⟩
    · rw [List.mem_singleton.mp hb]
      exact ⟨o, ho, fun v q => by rw [hd] at q; cases q⟩
  keep := fun i h h' st k => by
    obtain ⟨⟨old, he⟩, hi, hne⟩ := st
    exact ⟨⟨old, k en List.mem_cons_self _ he⟩, hi.at fun o q => k it (List.mem_cons_of_mem _ List.mem_cons_self) o q, hne⟩
  item := by
    intro X hP hw hK hc i pins s σ H E I hf st hg
    subst hP hw hK
    obtain ⟨⟨old, he⟩, hit, hne⟩ := st
    obtain ⟨xs, x, hq, hx⟩ := hg
    obtain ⟨its, rv, pt, hz⟩ := I.tuple hq
    obtain ⟨u, hu, ru⟩ := rv.get hx
    have nea : en ∉ [it, a] := fun hm => by
      rcases List.mem_cons.mp hm with z | hm
      · exact hne z
      · have z := List.mem_singleton.mp hm
        obtain ⟨o, ho, hcl, _⟩ := pt
        rw [← z, he] at ho
        cases ho
        exact absurd (Value.type.inj hcl) (by decide)
    have nit : a ≠ it := fun z => by
      obtain ⟨o, ho, hcl, _⟩ := pt
      obtain ⟨o', ho', hcl', _⟩ := hit
      rw [z, ho'] at ho
      cases ho
      rw [hcl] at hcl'
      exact absurd (Value.type.inj hcl') (by decide)
    have D := Draws.tuple (prog := X.prog) (w := X.w) (A := X.A.in1) (I.ok.hd hc) it a nit its.toArray
    have hlt : i < its.toArray.size := by
      have h1 := rv.length
      have h2 := (List.getElem?_eq_some_iff.mp hx).1
      rw [List.size_toArray]
      omega
    have hel : en < s.heap.objs.size := Heap.lt_size he
    have hil : it < s.heap.objs.size := by obtain ⟨_, q, _⟩ := hit; exact Heap.lt_size q
    refine wpAny_pyNext_enum_itemD D he ⟨hit, pt⟩ hlt hne nea fun y h' tk hy ho hit' hT hsz hk => ?_
    have ey : y = u := by
      have z : its.toArray[i]? = some u := by simpa using hu
      rw [z] at hy
      exact (Option.some.inj hy).symm
    subst ey
    refine ⟨_, rfl, wpAny_letOwnedTupleGo_enum (s := { s with heap := h', toks := tk + 1 }) ho fun h2 he2 sb => ?_⟩
    have hT2 : h2.get? s.heap.objs.size = some { cls := .type "tuple", data := .seq #[.int i tk, y] } := (sb.2 _ (Nat.ne_of_gt hel)).trans hT
    have new : ObjOk X.prog X.w (upd H s.heap.objs.size (.tup [.int (i : Nat), x])) h2 s.heap.objs.size (.tup [.int (i : Nat), x]) :=
      ⟨by show 2 ≤ sizeLine; decide, [.int i tk, y], .cons ⟨_, rfl⟩ (.cons ru .nil), ⟨_, hT2, rfl, _, rfl⟩⟩
    have I1 : Inv X pins σ (upd H s.heap.objs.size (.tup [.int (i : Nat), x])) { s with heap := h2, toks := tk + 1 } :=
      I.turnedNew (ch := [en, it]) (fun b ob hb q => (sb.2 b (fun z => hb (by rw [z]; exact List.mem_cons_self))).trans (hk b ob (fun z => hb (by rw [z]; exact List.mem_cons_self)) (fun z => hb (by rw [z]; exact List.mem_cons_of_mem _ List.mem_cons_self)) q)) hf (Nat.le_refl _) new
    refine ⟨.ref s.heap.objs.size, _, I1, rfl, ⟨_, x, rfl, I.hok.fresh (Nat.le_refl _), rfl, fun ys hy => by rw [tup_inj I hq hy]; exact hx⟩, ⟨⟨y, ?_⟩, hit'.1.at fun o q => (sb.2 it (Ne.symm hne)).trans q, hne⟩, fun b hb => ?_⟩
    · have e1 : ((i + 1 : Nat) : Int) = (i : Int) + 1 := by omega
      rw [e1]
      exact he2
    · have hb2 : b < s.heap.objs.size := by
        rcases List.mem_cons.mp hb with rfl | hb
        · exact hel
        · rw [List.mem_singleton.mp hb]
          exact hil
      rw [upd_ne (Nat.ne_of_lt hb2)]
      exact (hf b hb).1
  done := by
    intro X hP hw hK hc i pins s σ H E I hf st hg
    subst hP hw hK
    obtain ⟨⟨old, he⟩, hit, hne⟩ := st
    obtain ⟨xs, hq, hx⟩ := hg
    obtain ⟨its, rv, pt, hz⟩ := I.tuple hq
    have hl := rv.length
    have nit : a ≠ it := fun z => by
      obtain ⟨o, ho, hcl, _⟩ := pt
      obtain ⟨o', ho', hcl', _⟩ := hit
      rw [z, ho'] at ho
      cases ho
      rw [hcl] at hcl'
      exact absurd (Value.type.inj hcl') (by decide)
    obtain ⟨f0, f1, f2, f3, f4, f5⟩ := hf it (List.mem_cons_of_mem _ List.mem_cons_self)
    have D : Draws X.prog X.w X.A.in1 it [it, a] i (fun _ _ => False) (fun j h => j = i ∧ h.IsTupleIter it a i ∧ h.IsTuple a its.toArray) := {
      live := fun _ _ z => by
        obtain ⟨_, ⟨o, ho, _⟩, _⟩ := z
        exact ⟨o, ho⟩
      frame := fun _ h h' z k => ⟨z.1, z.2.1.at fun o q => k it List.mem_cons_self o q, z.2.2.at fun o q => k a (List.mem_cons_of_mem _ List.mem_cons_self) o q⟩
      item := fun j s Q E hj z => absurd z.1 (Nat.ne_of_lt hj)
      done := fun s Q E z hE => wpAny_nextOf_tuple_end (show X.A.in1.handled = none from I.ok.hd hc) z.2.1 z.2.2 (Array.getElem?_eq_none (by rw [List.size_toArray]; omega)) hE }
    exact wpAny_pyNext_enum_endD D he ⟨rfl, hit, pt⟩ fun h' eb => ⟨rfl, I.turned (t' := s.toks) (fun b o hb q => eb b o hb q) f0 f1 f3 f4 f5⟩
  self := fun A i s Q E st h => by
    obtain ⟨⟨_, he⟩, _⟩ := st
    exact wpAny_pyIter_enum he h
/-- enumerate of a list or a tuple -/
def iEnumS (K : PySem.W.Frag) (ta : TA) : TI := fun σ H R => ta σ H fun vs H1 => ∃ a, vs = [.ref a] ∧ (((∃ xs, SqL K H1 a xs) ∧ R (Ite K a) H1) ∨ ((∃ xs, SqT K H1 a xs) ∧ R (Ett K a) H1))
theorem pi_enumS {X : Cx} {e : Expr} {ta : TA} {p pos tpos : Pos} {elts : List Expr} {kk : Nat} (hg : Gl X "enumerate") (hm : X.mg "enumerate" = none) (ha : PA X [e] ta) (hs : starEach [e] X.env = [(false, eval e X.env)] := by rfl) :
    PI X (.Tuple elts kk tpos) (.Call (.Name "enumerate" p) [e] [] pos) (iEnumS X.K ta) := by
  refine ⟨fun pins s σ H R I h => Call_ (ld_blt I hg hm boot_enumerate (PyProof.Rows.callWith_type1 (thn (ha.run pos pins s σ H _ I h) fun us s1 hu => ?_) hs rfl))⟩
  obtain ⟨vs, H1, I1, r1, a, ex, q⟩ := hu
  subst ex
  cases r1 with
  | cons r rr =>
    cases rr
    cases r
    have fp : ∀ b ∈ [s1.heap.objs.size + 1, s1.heap.objs.size], FpOk X pins H1 b := fun b hb => by
      have hle : s1.heap.objs.size ≤ b := by
        rcases List.mem_cons.mp hb with z | z
        · rw [z]
          exact Nat.le_succ _
        · rw [List.mem_singleton.mp z]
          exact Nat.le_refl _
      exact I1.fpOk hle (I1.hok.fresh hle)
    rcases q with ⟨⟨xs, hq⟩, q⟩ | ⟨⟨xs, hq⟩, q⟩
    · obtain ⟨its, rv, pl, hz⟩ := I1.list hq
      refine call_enumerate_list pl.isList fun h' he hit hsz hk => wpAny_pyIter_enum he ?_
      exact ⟨_, _, _, _, H1, rfl, I1.kept (t' := s1.toks) hk, turn_enum a (s1.heap.objs.size + 1) s1.heap.objs.size, ⟨⟨.none, he⟩, hit, Nat.succ_ne_self _⟩, fp, q⟩
    · obtain ⟨its, rv, pt, hz⟩ := I1.tuple hq
      refine tc_enumCallT pt fun h' he hit hsz hk => wpAny_pyIter_enum he ?_
      exact ⟨_, _, _, _, H1, rfl, I1.kept (t' := s1.toks) hk, turn_enumT a (s1.heap.objs.size + 1) s1.heap.objs.size, ⟨⟨.none, he⟩, hit, Nat.succ_ne_self _⟩, fp, q⟩
/-! ### a sequence: a list or a tuple -/
def SqA (K : PySem.W.Frag) (H : Hp) (a : Addr) (xs : List V) : Prop := SqL K H a xs ∨ SqT K H a xs
/-- what stood there as a sequence stands -/
structure KeepS (K : PySem.W.Frag) (p : Addr) (H H' : Hp) : Prop where
  l : ∀ xs, SqL K H p xs → SqL K H' p xs
  t : ∀ xs, SqT K H p xs → SqT K H' p xs
section
variable {K : PySem.W.Frag} {H H' H1 : Hp} {p : Addr} {xs : List V} {Q R : VK} {σ : L2.St}
theorem Same.keepS (e : Same H H') : KeepS K p H H' := ⟨fun _ h => e.seq h, fun _ h => Same.seqT e h⟩
theorem KeepS.refl : KeepS K p H H := ⟨fun _ h => h, fun _ h => h⟩
theorem KeepS.trans {H2 : Hp} (a : KeepS K p H H') (b : KeepS K p H' H2) : KeepS K p H H2 := ⟨fun _ h => b.l _ (a.l _ h), fun _ h => b.t _ (a.t _ h)⟩
theorem SqA.keep (h : SqA K H p xs) (k : KeepS K p H H') : SqA K H' p xs := h.elim (fun z => .inl (k.l _ z)) fun z => .inr (k.t _ z)
theorem SqA.same (h : SqA K H p xs) (e : Same H H') : SqA K H' p xs := h.keep (Same.keepS e)
theorem SqA.ofL (h : H p = some (.lst xs)) : SqA K H p xs := .inl (SqL.of h)
theorem SqA.ofT (h : H p = some (.tup xs)) : SqA K H p xs := .inr (SqT.of h)
theorem i_lenA (hs : SqA K H p xs) (h : Q (.int (xs.length : Nat)) H) : rLenS K [.ref p] H Q := ⟨p, xs, rfl, hs, h⟩
theorem i_ixA {i : Int} {v : V} (hs : SqA K H p xs) (ha : atI xs i = some v) (h : Q v H) : rIxLT K (.ref p) (.int i) H Q :=
  hs.elim (fun z => .inl ⟨p, xs, i, v, rfl, rfl, z, ha, h⟩) fun z => .inr ⟨p, xs, i, v, rfl, rfl, z, ha, h⟩
def rSlS (K : PySem.W.Frag) : V → Option Int → Option Int → Hp → VK → Prop := fun x lo hi H Q => rSlL K x lo hi H Q ∨ rSlA K x lo hi H Q
theorem sl_seq {X : Cx} : SlR X (rSlS X.K) := sl_list.or sl_tupA
/-- a slice of a sequence: a sequence, new or the tuple itself -/
theorem i_slA {lo hi : Option Int} (hs : SqA K H p xs) (h : ∀ q H', Same H H' → SqA K H' q (cutV xs lo hi) → Q (.ref q) H') : rSlS K (.ref p) lo hi H Q := by
  rcases hs with hs | hs
  · exact .inl ⟨p, xs, rfl, hs, fun q hq => h q _ (Same.new hq) (.inl (SqL.of upd_same))⟩
  · refine .inr ⟨p, xs, rfl, hs, fun hw => ?_, fun _ q hq => h q _ (Same.new hq) (.inr (SqT.of upd_same))⟩
    have e : cutV xs lo hi = xs := by
      unfold cutV
      rw [hw.1, hw.2, List.drop_zero, Nat.sub_zero, List.take_length]
    exact h p H (Same.refl _) (by rw [e]; exact .inr hs)
theorem walkS_L (h : SqL K H p xs) : Walk (Itl K p) xs.length (KeepS K p H) (YAt xs) := walk_list.mono (fun _ k => k.l _ h) fun _ _ _ _ _ _ y => y
theorem walkS_T (h : SqT K H p xs) : Walk (Itt K p) xs.length (KeepS K p H) (YAt xs) := walk_tup.mono (fun _ k => k.t _ h) fun _ _ _ _ _ _ y => y
theorem walk_ett {xs : List V} : Walk (Ett K p) xs.length (fun H => SqT K H p xs) (YPair (fun i => some (.int (i : Nat))) (fun i => xs[i]?)) := by
  refine ⟨fun i _ hi q => ⟨xs, xs[i], q, by simp [hi]⟩, fun _ q => ⟨xs, q, Nat.le_refl _⟩, fun i H v H' _ q y => ?_⟩
  obtain ⟨T, x, y1, y2, y3, y4⟩ := y
  exact ⟨T, _, x, y1, y2, y3, rfl, y4 xs q⟩
theorem walkE_L (h : SqL K H p xs) : Walk (Ite K p) xs.length (KeepS K p H) (YPair (fun i => some (.int (i : Nat))) (fun i => xs[i]?)) := walk_enum.mono (fun _ k => k.l _ h) fun _ _ _ _ _ _ y => y
theorem walkE_T (h : SqT K H p xs) : Walk (Ett K p) xs.length (KeepS K p H) (YPair (fun i => some (.int (i : Nat))) (fun i => xs[i]?)) := walk_ett.mono (fun _ k => k.t _ h) fun _ _ _ _ _ _ y => y
/-- .. walked -/
theorem i_itA {R : It → Hp → Prop} (h : SqA K H p xs) (k : ∀ J, Walk J xs.length (KeepS K p H) (YAt xs) → R J H) : ∃ a, V.ref p = .ref a ∧ (((∃ xs, SqL K H a xs) ∧ R (Itl K a) H) ∨ ((∃ xs, SqT K H a xs) ∧ R (Itt K a) H)) :=
  ⟨p, rfl, h.elim (fun z => .inl ⟨⟨xs, z⟩, k _ (walkS_L z)⟩) fun z => .inr ⟨⟨xs, z⟩, k _ (walkS_T z)⟩⟩
theorem i_itL {R : It → Hp → Prop} (h : SqL K H p xs) (k : ∀ J, Walk J xs.length (KeepS K p H) (YAt xs) → R J H) : ∃ a, V.ref p = .ref a ∧ (∃ xs, SqL K H a xs) ∧ R (Itl K a) H := ⟨p, rfl, ⟨xs, h⟩, k _ (walkS_L h)⟩
theorem i_itT {R : It → Hp → Prop} (h : SqT K H p xs) (k : ∀ J, Walk J xs.length (KeepS K p H) (YAt xs) → R J H) : ∃ a, V.ref p = .ref a ∧ (∃ xs, SqT K H a xs) ∧ R (Itt K a) H := ⟨p, rfl, ⟨xs, h⟩, k _ (walkS_T h)⟩
theorem i_enA {aa : TA} {R : It → Hp → Prop} (h : aa σ H fun vs H1 => ∃ a, vs = [.ref a] ∧ (((∃ xs, SqL K H1 a xs) ∧ R (Ite K a) H1) ∨ ((∃ xs, SqT K H1 a xs) ∧ R (Ett K a) H1))) : iEnumS K aa σ H R := h
theorem i_enK {R : It → Hp → Prop} (h : SqA K H p xs) (k : ∀ J, Walk J xs.length (KeepS K p H) (YPair (fun i => some (.int (i : Nat))) (fun i => xs[i]?)) → R J H) :
    ∃ a, [V.ref p] = [.ref a] ∧ (((∃ xs, SqL K H a xs) ∧ R (Ite K a) H) ∨ ((∃ xs, SqT K H a xs) ∧ R (Ett K a) H)) :=
  ⟨p, rfl, h.elim (fun z => .inl ⟨⟨xs, z⟩, k _ (walkE_L z)⟩) fun z => .inr ⟨⟨xs, z⟩, k _ (walkE_T z)⟩⟩
end

/-! ### comprehensions whose elements are plain values -/
section
variable {K : PySem.W.Frag} {σ : L2.St} {H : Hp} {te : TE} {tt : TT} {vs : List Nat} {g : TG} {R : VK} {J : It} {n : Nat} {G : Hp → Prop} {Y : Nat → Hp → V → Hp → Prop} {β : Type}
/-- a comprehension behind its iterable -/
def LcX (σ : L2.St) (vs : List Nat) (g : TG) (tt : TT) (te : TE) (R : VK) (J : It) (H1 : Hp) : Prop := ∀ D, H1 D = none → ∃ W : Nat → Nat → Hp → Prop, (∃ m, W 0 m (upd H1 D (.lst []))) ∧ ∀ i m H, W i m H →
    (J.stop i H ∧ R (.ref D) H) ∨ (J.go i H ∧ ∃ Nx : Hp → Prop, (∀ H', Nx H' → ∃ m', m' < m ∧ W (i + 1) m' H') ∧ ∀ x H', J.yld i H x H' → g x (wipe σ vs) H' fun σ2 H2 => wipe σ2 vs = wipe σ vs ∧ tt σ2 H2 fun b H3 =>
      if b = true then te σ2 H3 fun y H4 => ∃ acc, H4 D = some (.lst acc) ∧ acc.length < sizeLine ∧ Nx (upd H4 D (.lst (acc ++ [y]))) else Nx H3)
theorem i_lcX {wi : TI} (h : wi σ H (LcX σ vs g tt te R)) : tLc wi g tt te vs σ H R := h
/-- the question an element is asked, at its slots -/
def ElQ (H1 : Hp) (tt : TT) (te : TE) (b : Bool) (v : V) (σ2 : L2.St) : Prop :=
  (∀ H2, Same H1 H2 → ∀ R' : Bool → Hp → Prop, (∀ H3, Same H2 H3 → R' b H3) → tt σ2 H2 R') ∧ (b = true → ∀ H2, Same H1 H2 → ∀ R' : VK, (∀ H3, Same H2 H3 → R' v H3) → te σ2 H2 R')
theorem lcGen (w : Walk J n G Y) (ys : List β) (b : β → Bool) (f : β → V) (hn : ys.length = n) (hz : n ≤ 100000) (hG : ∀ H', Same H H' → G H')
    (turn : ∀ i y, ys[i]? = some y → ∀ H2 x H3, Same H H2 → Y i H2 x H3 → ∀ R' : L2.St → Hp → Prop, (∀ σ2 H4, Same H2 H4 → wipe σ2 vs = wipe σ vs → ElQ H tt te (b y) (f y) σ2 → R' σ2 H4) → g x (wipe σ vs) H3 R')
    (k : ∀ D H', H D = none → Same H H' → H' D = some (.lst ((ys.filter b).map f)) → R (.ref D) H') : LcX σ vs g tt te R J H := fun D hD => by
  refine lc_it w (Qd := fun H' => R (.ref D) H') (fun i H' => Same H H' ∧ H' D = some (.lst (((ys.take i).filter b).map f))) ⟨Same.new hD, upd_same⟩ (fun i H' _ p => hG H' p.1) (fun i x H2 H3 hi p y => ?_)
    (fun H' p => k D H' hD p.1 (by have z := p.2; rw [← hn, List.take_length] at z; exact z))
  obtain ⟨p1, p2⟩ := p
  obtain ⟨yy, hy⟩ : ∃ yy, ys[i]? = some yy := ⟨ys[i]'(by omega), by simp⟩
  refine turn i yy hy H2 x H3 p1 y _ fun σ2 H4 e4 hw el => ⟨hw, ?_⟩
  refine el.1 H4 (p1.trans e4) _ fun H5 e5 => ?_
  have es : Same H H5 := (p1.trans e4).trans e5
  have ed : H5 D = some (.lst (((ys.take i).filter b).map f)) := e5 _ _ (e4 _ _ p2)
  cases hb : b yy with
  | true =>
    refine iteT (el.2 hb H5 es _ fun H6 e6 => ⟨_, e6 _ _ ed, ?_, Same.mut (es.trans e6) hD, ?_⟩)
    · rw [List.length_map]
      refine Nat.lt_of_le_of_lt (List.length_filter_le _ _) (Nat.lt_of_le_of_lt (List.length_take_le _ _) ?_)
      exact Nat.lt_of_lt_of_le (show i < 100000 by omega) (show 100000 ≤ sizeLine by decide)
    · rw [upd_same, take_succ hy, List.filter_append, List.map_append, List.filter_cons, if_pos hb]
      rfl
  | false =>
    refine iteF ⟨es, ?_⟩
    rw [take_succ hy, List.filter_append, List.filter_cons, if_neg (by rw [hb]; decide), List.filter_nil, List.append_nil]
    exact ed
/-- one name, over ints -/
theorem lcS {j : Nat} {ns : List Int} (w : Walk J (ns.map V.int).length G (YAt (ns.map V.int))) (b : Int → Bool) (f : Int → V) (hz : ns.length ≤ 100000) (hG : ∀ H', Same H H' → G H') (hw : ∀ x, wipe ((wipe σ vs).set j (some x)) vs = wipe σ vs)
    (el : ∀ x ∈ ns, ElQ H tt te (b x) (f x) ((wipe σ vs).set j (some (.int x))))
    (k : ∀ D H', H D = none → Same H H' → H' D = some (.lst ((ns.filter b).map f)) → R (.ref D) H') : LcX σ vs (gName j) tt te R J H :=
  lcGen w ns b f (by rw [List.length_map]) (by rw [List.length_map]; exact hz) hG (fun i y hy H2 x H3 e2 yv R' kk => by
    obtain ⟨rfl, hx⟩ := yv
    rw [List.getElem?_map, hy] at hx
    cases hx
    exact kk _ _ (Same.refl _) (hw _) (el y (List.mem_of_getElem? hy))) k
/-- one name, over any values -/
theorem lcV {j : Nat} {xs : List V} (w : Walk J xs.length G (YAt xs)) (b : V → Bool) (f : V → V) (hz : xs.length ≤ 100000) (hG : ∀ H', Same H H' → G H') (hw : ∀ x, wipe ((wipe σ vs).set j (some x)) vs = wipe σ vs)
    (el : ∀ x ∈ xs, ElQ H tt te (b x) (f x) ((wipe σ vs).set j (some x)))
    (k : ∀ D H', H D = none → Same H H' → H' D = some (.lst ((xs.filter b).map f)) → R (.ref D) H') : LcX σ vs (gName j) tt te R J H :=
  lcGen w xs b f rfl hz hG (fun i y hy H2 x H3 e2 yv R' kk => by
    obtain ⟨rfl, hx⟩ := yv
    rw [hy] at hx
    cases hx
    exact kk _ _ (Same.refl _) (hw _) (el y (List.mem_of_getElem? hy))) k
/-- two names, over enumerate -/
theorem lcE {j j' : Nat} {xs : List V} (w : Walk J xs.length G (YPair (fun i => some (.int (i : Nat))) (fun i => xs[i]?))) (b : V × Nat → Bool) (f : V × Nat → V) (hz : xs.length ≤ 100000) (hG : ∀ H', Same H H' → G H')
    (hw : ∀ x y, wipe (((wipe σ vs).set j (some x)).set j' (some y)) vs = wipe σ vs)
    (el : ∀ (i : Nat) x, xs[i]? = some x → ElQ H tt te (b (x, i)) (f (x, i)) (((wipe σ vs).set j (some (.int (i : Nat)))).set j' (some x)))
    (k : ∀ D H', H D = none → Same H H' → H' D = some (.lst ((xs.zipIdx.filter b).map f)) → R (.ref D) H') : LcX σ vs (gTup K 2 (gCons (gName j) (gCons (gName j') gNil))) tt te R J H :=
  lcGen w xs.zipIdx b f (by rw [List.length_zipIdx]) hz hG (fun i y hy H2 x H3 e2 yv R' kk => by
    obtain ⟨T, a1, a2, rfl, hT, rfl, h1, h2⟩ := yv
    dsimp only at h1 h2
    rw [List.getElem?_zipIdx, h2] at hy
    cases h1
    have hy' : y = (a2, i) := by
      have := Option.some.inj hy
      rw [← this]
      show (a2, 0 + i) = (a2, i)
      rw [Nat.zero_add]
    subst hy'
    exact ⟨T, [.int (i : Nat), a2], rfl, SqT.of upd_same, rfl, .int (i : Nat), [a2], rfl, a2, [], rfl, rfl, kk _ _ (Same.new hT) (hw _ _) (el i a2 h2)⟩) k
/-- a for loop behind its iterable -/
def ForG (g : TG) (tb : TS) (D : Ends) (σ : L2.St) (J : It) (H1 : Hp) : Prop := ∃ W : Nat → Nat → L2.St → Hp → Prop, (∃ m, W 0 m σ H1) ∧ ∀ i m σ H, W i m σ H →
    (J.stop i H ∧ D.nx σ H) ∨ (J.go i H ∧ ∃ N : L2.St → Hp → Prop, (∀ σ' H', N σ' H' → ∃ m', m' < m ∧ W (i + 1) m' σ' H') ∧ ∀ x H', J.yld i H x H' → g x σ H' fun σ2 H2 => tb { D with nx := N, ct := N, bk := D.nx } σ2 H2)
theorem i_forG {wi : TI} {tb : TS} {D : Ends} (h : wi σ H (ForG g tb D σ)) : tFor wi g tb D σ H := h
theorem forG (w : Walk J n G Y) {tb : TS} {D : Ends} (Pv : Nat → L2.St → Hp → Prop) (h0 : Pv 0 σ H) (hG : ∀ i σ H, i ≤ n → Pv i σ H → G H)
    (hs : ∀ i x σ H H', i < n → Pv i σ H → Y i H x H' → g x σ H' fun σ2 H2 => tb { D with nx := Pv (i + 1), ct := Pv (i + 1), bk := D.nx } σ2 H2) (hd : ∀ σ H, Pv n σ H → D.nx σ H) : ForG g tb D σ J H := for_it w Pv h0 hG hs hd
theorem elq1 {H1 : Hp} {v : V} {σ2 : L2.St} (h : ∀ H2, Same H1 H2 → ∀ R' : VK, (∀ H3, Same H2 H3 → R' v H3) → te σ2 H2 R') : ElQ H1 tYes te true v σ2 := ⟨fun H2 _ R' k => k H2 (Same.refl _), fun _ => h⟩
theorem filter_yes {α : Type} (l : List α) : (l.filter fun _ => true) = l := List.filter_eq_self.mpr fun _ _ => rfl
end
end TC

set_option Elab.async false
set_option linter.all false
set_option maxRecDepth 100000
set_option maxHeartbeats 4000000
/-! Errors of own classes: made by a walked __init__, raised, caught by one of several clauses with names. -/
namespace TC
open PySem PySem.Spec PyProof.Rows L2

/-! ### try with several clauses, with or without a name -/
/-- a clause: its class, the slot of its name, its suite's reading -/
abbrev Cl := Value × Option Nat × (Addr → Value → Option Addr → TS)
def endN (i : Nat) (D : Ends) : Ends := { nx := fun σ H => D.nx (σ.set i none) H, rt := D.rt, bk := fun σ H => D.bk (σ.set i none) H, ct := fun σ H => D.ct (σ.set i none) H }
/-- what the clauses wish of an exception of the body -/
def wCl (K : PySem.W.Frag) (Wo : WX) (D : Ends) : List Cl → WX
  | [] => Wo
  | (c, none, ts) :: r => fun cls d σ H => ∃ b, PySem.W.exmOne K cls c = some b ∧ (b = true → ∀ a, H a = none → ts a cls d D σ H) ∧ (b = false → wCl K Wo D r cls d σ H)
  | (c, some i, ts) :: r => fun cls d σ H => ∃ b, PySem.W.exmOne K cls c = some b ∧ (b = true → ∀ a, H a = none → ts a cls d (endN i D) (σ.set i (some (.ref a))) H) ∧ (b = false → wCl K Wo D r cls d σ H)
inductive ClsOk (X : Cx) : List ExceptHandler → List Cl → Prop
  | nil : ClsOk X [] []
  | un {x : Str} {c : Value} {ts : Addr → Value → Option Addr → TS} {q : Stmt} {suite : List Stmt} {p1 p2 : Pos} {hds : List ExceptHandler} {l : List Cl} (hc : Names X x c)
      (hsu : ∀ (a : Addr) (oe : Obj) (cls : Value) (d : Option Addr) (pn : List (Addr × Obj)), Zc cls d oe → (∃ vs, oe.data = .fields vs) → PSs (X.suite a ((a, oe) :: pn)) (q :: suite) (ts a cls d)) (r : ClsOk X hds l) :
      ClsOk X (.ExceptHandler (some (.Name x p1)) none (q :: suite) p2 :: hds) ((c, none, ts) :: l)
  | nm {x n : Str} {c : Value} {i : Nat} {ts : Addr → Value → Option Addr → TS} {q : Stmt} {suite : List Stmt} {p1 p2 : Pos} {hds : List ExceptHandler} {l : List Cl} (hi : X.N[i]? = some n) (hl : X.env.kindOf n = some .local) (hc : Names X x c)
      (hsu : ∀ (a : Addr) (oe : Obj) (cls : Value) (d : Option Addr) (pn : List (Addr × Obj)), Zc cls d oe → (∃ vs, oe.data = .fields vs) → PSs (X.suite a ((a, oe) :: pn)) (q :: suite) (ts a cls d)) (r : ClsOk X hds l) :
      ClsOk X (.ExceptHandler (some (.Name x p1)) (some n) (q :: suite) p2 :: hds) ((c, some i, ts) :: l)
section
variable {X : Cx}
/-- an exception on the ground of its frame -/
structure Down (X : Cx) (pins : List (Addr × Obj)) (σ : L2.St) (H : Hp) (a : Addr) (cls : Value) (d : Option Addr) (g : Shared) (B : Heap) (s : Shared) : Prop where
  inv : Inv X pins σ H g
  nb : ∀ b o, g.heap.get? b = some o → b ∉ frs X.stack → B.get? b = some o
  up : g.heap.UpToSlots s.heap
  fl : HandSPX.FlyingZ B (X.env :: X.outer) a (Zc cls d) s.heap
  na : H a = none
  os : s.os = g.os
  ag : AllBare s.gens
theorem Down.now {pins : List (Addr × Obj)} {σ : L2.St} {H : Hp} {a : Addr} {cls : Value} {d : Option Addr} {g s : Shared} {B : Heap} (Z : Down X pins σ H a cls d g B s) : Inv X pins σ H s := Z.inv.landed Z.nb Z.fl.1 Z.up Z.os Z.ag
theorem Down.move {pins : List (Addr × Obj)} {σ : L2.St} {H : Hp} {a : Addr} {cls : Value} {d : Option Addr} {g s : Shared} {B h2 : Heap} (Z : Down X pins σ H a cls d g B s) (f2 : HandSPX.FlyingZ B (X.env :: X.outer) a (Zc cls d) h2) (u2 : s.heap.UpToSlots h2) :
    Down X pins σ H a cls d g B { s with heap := h2 } := ⟨Z.inv, Z.nb, Z.up.trans u2, f2, Z.na, Z.os, Z.ag⟩
/-- .. its suite's state -/
theorem Down.suite {pins : List (Addr × Obj)} {σ : L2.St} {H : Hp} {a : Addr} {cls : Value} {d : Option Addr} {g s : Shared} {B : Heap} (hf : X.env.frame = some X.env.locals) (Z : Down X pins σ H a cls d g B s) :
    ∃ oe, s.heap.get? a = some oe ∧ Zc cls d oe ∧ (∃ vs, oe.data = .fields vs) ∧ Inv (X.suite a ((a, oe) :: (X.pn ++ pins))) [] σ H s := by
  obtain ⟨oe, vs, he, hz, hd⟩ := Z.fl.there
  have away : a ∉ frs (X.env :: X.outer) := fun hm => by
    obtain ⟨_, o2, e2, no⟩ := Z.fl.2.2.1.mem hm
    rw [he] at e2
    cases e2
    exact no _ hd
  refine ⟨oe, he, hz, ⟨vs, hd⟩, Z.now.suite he hd Z.na (fun z => away (List.mem_filterMap.mpr ⟨X.env, List.mem_cons_self, by rw [hf, z]⟩)) fun hm => ?_⟩
  obtain ⟨ev, he2, q⟩ := List.mem_filterMap.mp hm
  exact away (List.mem_filterMap.mpr ⟨ev, List.mem_cons_of_mem _ he2, q⟩)
/-- the class of a clause is looked at -/
theorem clause_test {pins : List (Addr × Obj)} {σ : L2.St} {H : Hp} {s : Shared} {a : Addr} {oe : Obj} {x : Str} {c : Value} {p : Pos} {Q : Value → Shared → Prop} {E : Value → Shared → Prop} (S : Inv (X.suite a ((a, oe) :: (X.pn ++ pins))) [] σ H s) (hc : Names X x c) (q : Q c s) :
    wpAny (model X.prog X.w) (X.A.mark (some (.ref a))) (eval (.Name x p) X.env) Q E s := by
  obtain ⟨h1, h2, h3 | ⟨h3, h4, h5⟩⟩ := hc
  · exact ld_glob (X := X.suite a ((a, oe) :: (X.pn ++ pins))) S h1 h3 q h2
  · exact ld_blt (X := X.suite a ((a, oe) :: (X.pn ++ pins))) S h1 h3 h4 q h5 h2
/-- the clauses, from the first -/
theorem clauses_go {Wo : WX} {D : Ends} {pins : List (Addr × Obj)} {a : Addr} {cls : Value} {d : Option Addr} {g s : Shared} {B : Heap} {σ : L2.St} {H : Hp} (hs : X.stack = X.env :: X.outer) (hf : X.env.frame = some X.env.locals) (hN : X.N.Nodup) (tk : Takes X Wo)
    (Z : Down X pins σ H a cls d g B s) : ∀ {hds : List ExceptHandler} {l : List Cl}, ClsOk X hds l → wCl X.K Wo D l cls d σ H → wpAny (model X.prog X.w) X.A (handleBy (.ref a) X.env hds) (SP X pins D) X.xe s := by
  have okX := Z.inv.ok
  obtain ⟨oe, he, hz, hdv, S⟩ := Z.suite hf
  have LT : PySem.W.Looks (model X.prog X.w) s.heap (typeOf (.ref a)) cls := fun A Q E s2 k q => wpAny_typeOf_ref (k _ _ he) (by rw [hz.1]; exact q)
  intro hds l hk
  induction hk with
  | nil =>
    intro w
    refine wpAny_handleBy_nil ?_
    obtain ⟨k1, k2, k3, o1, fv, tb, o2, ts, q1, q2, q3, q4, qr⟩ := id Z.fl
    unfold PySem.passOn
    refine wpAny_bind (wpAny_field q1 q3 q4 ?_)
    rw [if_neg (show ¬ ((Value.ref tb == Value.none) = true) from by simp)]
    have last : wpAny (model X.prog X.w) X.A (setFlight (.ref a) X.env.frame) (fun _ u => wpAny (model X.prog X.w) X.A (throw (.ref a) : Sem Flow) (SP X pins D) X.xe u) X.xe s := by
      rw [hf]
      exact HandSPX.setFlight_upZ Z.fl fun h2 up2 u2 => wpAny_throw (tk _ _ ⟨a, B, g, pins, σ, H, cls, d, rfl, Z.inv, Z.nb, Z.up.trans u2, .inr (.inr (by rw [hs]; exact up2)), Z.na, Z.os, Z.ag, w⟩)
    first
      | exact wpAny_bind (wpAny_pure (wpAny_bind last))
      | exact wpAny_bind last
  | un hc hsu r ih =>
    intro w
    obtain ⟨b, hb, yes, no⟩ := w
    refine wpAny_handleBy_cons (codeAny_handlers_test (clause_test S hc ((PySem.W.exm_one (M := model X.prog X.w) Z.now.kIn LT hb).here ?_))) (fun z => nomatch z)
    cases b with
    | false => exact ih (no rfl)
    | true =>
      refine codeAny_handlers_suite (HandSPX.lands_againZ Z.fl fun h2 f2 u2 => ?_)
      obtain ⟨oe2, _, hz2, hdv2, S2⟩ := (Z.move f2 u2).suite hf
      refine wpAny_mono ((hsu a oe2 cls d (X.pn ++ pins) hz2 hdv2).run [] _ _ H _ S2 (yes rfl a Z.na)) (fun f v hv => ?_) fun _ _ z => z.elim
      cases f with
      | ret u =>
        obtain ⟨x, σ1, H1, I1, r1, q1⟩ := hv
        exact ⟨_, _, _, I1.unsuite okX, r1, q1⟩
      | next => obtain ⟨σ1, H1, I1, q1⟩ := hv; exact ⟨_, _, I1.unsuite okX, q1⟩
      | brk => obtain ⟨σ1, H1, I1, q1⟩ := hv; exact ⟨_, _, I1.unsuite okX, q1⟩
      | cont => obtain ⟨σ1, H1, I1, q1⟩ := hv; exact ⟨_, _, I1.unsuite okX, q1⟩
  | nm hi hl hc hsu r ih =>
    intro w
    obtain ⟨b, hb, yes, no⟩ := w
    refine wpAny_handleBy_cons (codeAny_handlers_test (clause_test S hc ((PySem.W.exm_one (M := model X.prog X.w) Z.now.kIn LT hb).here ?_))) (fun z => nomatch z)
    cases b with
    | false => exact ih (no rfl)
    | true =>
      refine codeAny_handlers_suite_as (HandSPX.lands_againZ Z.fl fun h2 f2 u2 => ?_)
      obtain ⟨oe2, _, hz2, hdv2, S2⟩ := (Z.move f2 u2).suite hf
      refine store_ok (X := X.suite a ((a, oe2) :: (X.pn ++ pins))) (v := .ref a) S2 hN hi (.inl hl) rfl (fun s5 S5 => ?_) (.inr hl)
      refine wpAny_mono ((hsu a oe2 cls d (X.pn ++ pins) hz2 hdv2).run [] s5 _ H _ S5 (yes rfl a Z.na)) (fun f v hv => ?_) fun _ _ z => z.elim
      cases f with
      | ret u =>
        obtain ⟨x, σ1, H1, I1, r1, q1⟩ := hv
        exact gone_ok (I1.unsuite okX) hN hi hl fun s7 J7 => ⟨_, _, _, J7, r1, q1⟩
      | next => obtain ⟨σ1, H1, I1, q1⟩ := hv; exact gone_ok (I1.unsuite okX) hN hi hl fun s7 J7 => ⟨_, _, J7, q1⟩
      | brk => obtain ⟨σ1, H1, I1, q1⟩ := hv; exact gone_ok (I1.unsuite okX) hN hi hl fun s7 J7 => ⟨_, _, J7, q1⟩
      | cont => obtain ⟨σ1, H1, I1, q1⟩ := hv; exact gone_ok (I1.unsuite okX) hN hi hl fun s7 J7 => ⟨_, _, J7, q1⟩
/-- try: body / clauses -/
def tTry (K : PySem.W.Frag) (Wo : WX) (tb : WX → TS) (l : List Cl) : TS := fun D σ H => tb (wCl K Wo D l) D σ H
theorem ps_tryC {Wo : WX} {tb : WX → TS} {h₀ : ExceptHandler} {hds : List ExceptHandler} {l : List Cl} {body : List Stmt} {pos : Pos} (hs : X.stack = X.env :: X.outer) (hf : X.env.frame = some X.env.locals) (hN : X.N.Nodup) (tk : Takes X Wo)
    (hb : ∀ (W : WX) (pn : List (Addr × Obj)) (xe : Value → Shared → Prop), Takes (X.tr pn xe) W → PassesOwn (model X.prog X.w) X.A X.env xe → PSs (X.tr pn xe) body (tb W)) (hk : ClsOk X (h₀ :: hds) l) :
    PS X (.Try body (h₀ :: hds) [] [] pos) (tTry X.K Wo tb l) := by
  refine ⟨fun pins s σ H D I h => wpAny_Try_except ?_⟩
  refine wpAny_mono ((hb (wCl X.K Wo D l) (X.pn ++ pins) (fun u t => wpAny (model X.prog X.w) X.A (noteFrame u X.env) (fun _ t2 => wpAny (model X.prog X.w) X.A (setFlight u none) (fun _ t3 =>
    wpAny (model X.prog X.w) X.A (handleBy u X.env (h₀ :: hds)) (SP X pins D) X.xe t3) X.xe t2) X.xe t) (fun u t xx => ?_) PassesOwn.looking).run [] s σ H D (I.toTry _) h) (fun f t ht => ?_) fun u t z => z
  · obtain ⟨a, B, g, pins1, σ1, H1, cls, d, rfl, J, nb, up, sky, na, os, ag, w⟩ := xx
    have sk : Sky B (X.env :: X.outer) a (Zc cls d) X.env.locals t.heap := by
      rw [← hs]
      exact sky
    show wpAny (model X.prog X.w) X.A (noteFrame (.ref a) X.env) _ _ _
    refine Sky.land Zc.steady (by rw [I.ok.frames, hs]) hf sk fun h3 f3 u3 => ?_
    exact clauses_go hs hf hN tk (s := { t with heap := h3 }) ⟨J.ofTry I.ok, nb, up.trans u3, f3, na, os, ag⟩ hk w
  · cases f with
    | next => obtain ⟨σ1, H1, J, q⟩ := ht; exact wpAny_execs_nil ⟨σ1, H1, J.ofTry I.ok, q⟩
    | brk => obtain ⟨σ1, H1, J, q⟩ := ht; exact ⟨σ1, H1, J.ofTry I.ok, q⟩
    | cont => obtain ⟨σ1, H1, J, q⟩ := ht; exact ⟨σ1, H1, J.ofTry I.ok, q⟩
    | ret u => obtain ⟨v, σ1, H1, J, r, q⟩ := ht; exact ⟨v, σ1, H1, J.ofTry I.ok, r, q⟩
end

/-! ### the base class's __init__, called through its own subclass -/
section
variable {X : Cx} {C0 : Addr} {mc : Value} {x : Str} {e : Expr} {es : List Expr} {ta : TA} {p1 p2 pos : Pos}
theorem pe_ceinit {pl : Sem Bool} (hg : Gl X x) (hm : X.mg x = some (.ref C0)) (r : ClX.CRead X.K C0 mc) (vV : PySem.W.findCls X.K (.ref C0) mc "__init__" = some (.val (.builtin "ValueError.__init__"))) (ha : PA X (e :: es) ta)
    (hdb : (x == ("__debug__" : Str)) = false := by decide)
    (he : starEach (e :: es) X.env = (false, eval e X.env) :: starEach es X.env := by rfl) (hpl : (backTo pos (starEach es X.env)).any (·.1) = false := by rfl)
    (hc : eval (.Call (.Attribute (.Name x p1) "__init__" p2) (e :: es) [] pos) X.env = (do
      let own ← eval (.Name x p1) X.env
      standAt p2.atName
      let (fn, self) ← holding [own] (getMethod own "__init__" pl)
      callWith pos fn self (backTo pos (starEach (e :: es) X.env)) (backToKw pos (keywordEach [] X.env))) := by rfl) :
    PE X (.Call (.Attribute (.Name x p1) "__init__" p2) (e :: es) [] pos) (tVeI X.K ta) := by
  refine ⟨fun pins s σ H Q I h => ?_⟩
  refine PySem.W.methodCall_KW (pl := pl) (ld_glob I hg hm ?_ hdb) hc
  refine PySem.W.method_cls I.kIn r.ga (PySem.W.cls_value I.kIn r.rd vV (by decide +kernel) ?_)
  refine PyProof.Rows.callWith_method1 (thn (ha.run pos pins _ σ H _ (I.tok _) h) fun us s1 hu => ?_) he hpl
  obtain ⟨vs, H1, I1, rv, a, C, ws, ev, hl, T, ea, q⟩ := hu
  subst ev
  cases rv with
  | @cons _ u0 _ ur ra rw' =>
    obtain rfl : u0 = Value.ref a := ra
    refine oinit_ok T I1 ea ?_ fun s2 J => ⟨.non, H1, J, rfl, q⟩
    have z := Paired.length rw'
    rw [sizeLine_eq]
    omega
end

/-! ### an own error: its __init__, its making, its raising -/
/-- the __init__ of an error class with one field -/
def sp_Er (K : PySem.W.Frag) (C : Addr) (f : Str) : Sp := fun vs H Q _ => vs.length = 2 ∧ ∃ e v, vs = [.ref e, v] ∧ OexC K C ∧ PySem.W.findIn K (.ref C) f = some none ∧ H e = some (exo e C none) ∧
  ∀ dx, H dx = none → dx ≠ e → Q .non (upd (upd H dx (exd dx [(f, v)])) e (exo e C (some dx)))
def t_Er (K : PySem.W.Frag) (f msg : Str) : TS := tSeq (tDrop (tVeI K (tCons (tVar 0) (tCons (tC (.str msg)) (tNil))))) (tOst K f (tVar 0) (tVar 1))
section
variable {K : PySem.W.Frag} {H : Hp} {Q : VK} {E : XK} {vs : List V} {C : Addr} {f msg : Str}
theorem pure_Er (h : sp_Er K C f vs H Q E) : t_Er K f msg { nx := fun _ H' => Q .non H', rt := Q } (vs.map some ++ List.replicate (2 - vs.length) none) H := by
  obtain ⟨_, e, v, rfl, T, nf, he, q⟩ := h
  exact ⟨.ref e, rfl, e, C, [.str msg], rfl, (by show 1 ≤ 1000; decide), T, he, v, rfl, .ref e, rfl, e, C, rfl, T, nf, .inl ⟨he, q⟩⟩
end
/-- what is asked where an error of the class at C is raised with v -/
def RaiseQ (K : PySem.W.Frag) (C : Addr) (f : Str) (v : V) (H1 : Hp) (Q : XK) : Prop := [v].length ≤ 1000 ∧ ∀ a, H1 a = none → sp_Er K C f (.ref a :: ([v] ++ [])) (upd H1 a (exo a C none))
  (fun z H2 => z = .non ∧ ∃ (d : Addr) (fs : List (Str × V)), H2 a = some (exo a C (some d)) ∧ H2 d = some (exd d fs) ∧ H1 d = none ∧ Q (.ref C) (some d) (upd (del H2 a) d (.xd fs))) (fun _ _ _ => False)
theorem raise_ok {K : PySem.W.Frag} {C : Addr} {f : Str} {v : V} {H1 : Hp} {Q : XK} (T : OexC K C) (nf : PySem.W.findIn K (.ref C) f = some none) (q : ∀ d, H1 d = none → Q (.ref C) (some d) (upd H1 d (.xd [(f, v)]))) : RaiseQ K C f v H1 Q := by
  refine ⟨by show 1 ≤ 1000; decide, fun a ha => ⟨rfl, a, v, rfl, T, nf, upd_same, fun dx hd ne => ⟨rfl, dx, [(f, v)], upd_same, ?_, ?_, ?_⟩⟩⟩
  · rw [upd_ne ne, upd_same]
  · rw [upd_ne ne] at hd
    exact hd
  · rw [upd_ne ne] at hd
    have e : upd (del (upd (upd (upd H1 a (exo a C none)) dx (exd dx [(f, v)])) a (exo a C (some dx))) a) dx (.xd [(f, v)]) = upd H1 dx (.xd [(f, v)]) := by
      funext b
      by_cases hb : b = dx
      · rw [hb, upd_same, upd_same]
      · rw [upd_ne hb, upd_ne hb]
        by_cases h2 : b = a
        · rw [h2, del_same, ha]
        · rw [del_ne h2, upd_ne h2, upd_ne hb, upd_ne h2]
    rw [e]
    exact q dx hd
def tRaise (K : PySem.W.Frag) (C : Addr) (f : Str) (W : WX) (te : TE) : TS := fun _ σ H => te σ H fun v H1 => RaiseQ K C f v H1 fun cls d H' => W cls d σ H'
section
variable {X : Cx} {CX : CXT} {k : Nat} {C fI : Addr} {ps : List Str} {x f : Str} {e : Expr} {te : TE} {W : WX} {p pos pos2 : Pos}
theorem ps_raiseV (hc : X.calm = true) (tk : Takes X W) (T : OexC X.K C) (iC : PySem.W.findIn X.K (.ref C) "__init__" = some (some (.ref fI))) (tI : PySem.W.typeIn X.K (.ref fI) = some (.type "function"))
    (F : FnE X.prog X.w X.K X.mg X.base CX k fI ps (sp_Er X.K C f)) (hr : Room (k + 1) X.A) (hx : Passes CX X (fun _ _ _ => False)) (hg : Gl X x) (hm : X.mg x = some (.ref C)) (he : PE X e te)
    (hdb : (x == ("__debug__" : Str)) = false := by decide) (hs : starEach (e :: []) X.env = (false, eval e X.env) :: starEach [] X.env := by rfl) :
    PS X (.Raise (some (.Call (.Name x p) [e] [] pos)) none pos2) (tRaise X.K C f W te) := by
  obtain ⟨fd, F1, b⟩ := F
  exact ps_raise hc tk (pmk_oex (dvs := []) T iC tI F1 hr b .nil hx hg hm (pa_cons he pa_nil hs) hdb hs (by rfl))
end

/-! ### calls that may raise -/
theorem takesAt {X : Cx} {W : WX} (tk : Takes X W) (σ : L2.St) : PassesAt (L2.CX X.prog X.w) X σ (WE W σ) := passAt tk σ
abbrev WO (E : XK) : WX := fun cls d _ H => E cls d H
section
variable {X : Cx} {CX : CXT} {k : Nat} {f C : Addr} {ps : List Str} {sp : Sp} {x m : Str} {p pos apos : Pos} {e o : Expr} {es : List Expr} {ta : TE} {t : TA} {W : WX}
def tCallW (sp : Sp) (W : WX) (t : TA) : TE := fun σ H Q => t σ H fun vs H1 => sp vs H1 Q (WE W σ)
theorem pe_callW (F : FnE X.prog X.w X.K X.mg X.base (L2.CX X.prog X.w) k f ps sp) (hr : Room k X.A) (hg : Gl X x) (hm : X.mg x = some (.ref f)) (hk : PySem.W.keepIn X.K (.ref f) = true) (tk : Takes X W)
    (ha : PA X (e :: es) t) (hdb : (x == ("__debug__" : Str)) = false := by decide) (he : starEach (e :: es) X.env = (false, eval e X.env) :: starEach es X.env := by rfl) (hpl : (backTo pos (starEach es X.env)).any (·.1) = false := by rfl) :
    PE X (.Call (.Name x p) (e :: es) [] pos) (tCallW sp W t) := by
  obtain ⟨fd, F1, b⟩ := F
  exact pe_callS F1 hr hg hm hk b (takesAt tk) ha hdb he hpl
/-- an instance is made: what its __init__ lets out passes at these slots -/
theorem make_at {pins : List (Addr × Obj)} {σ : L2.St} {H : Hp} {s : Shared} {Q : VK} {us : List Value} {vs : List V} {E : XK} (M : Mk X.K C f) (F : FnE X.prog X.w X.K X.mg X.base CX k f ps sp) (hr : Room (k + 1) X.A)
    (hx : PassesAt CX X σ E) (I : Inv X pins σ H s) (r : Vals vs us) (h : MkG C sp E vs Q H) : wpAny (model X.prog X.w) X.A (call (.ref C) us) (EP X pins σ Q) X.xe s := by
  obtain ⟨fd, F1, b⟩ := F
  have hq := h (s.heap.objs.size + 1) s.heap.objs.size (I.hok.fresh (Nat.le_succ _)) (I.hok.fresh (Nat.le_refl _)) (Nat.ne_of_lt (Nat.lt_succ_self _))
  have J := Inv.made (C := C) I
  have rr : Vals (V.ref (s.heap.objs.size + 1) :: vs) (Value.ref (s.heap.objs.size + 1) :: us) := .cons rfl r
  have nl : (Value.ref (s.heap.objs.size + 1) :: us).length = ps.length := rr.length.symm.trans (F1.len _ _ _ _ hq)
  have bb := b _ (Value.ref (s.heap.objs.size + 1) :: us) J.kIn (by rw [List.append_nil]; exact nl)
  rw [List.append_nil] at bb
  refine wpAny_call (make_map (f := f) I.kIn M.makes M.init (beq_iff_eq.mp M.fn) (codeAny_mono (F1.run _ X.stack _ _ ⟨Value.ref (s.heap.objs.size + 1) :: us, []⟩ _ _ _ E (hr.make C us []) (J.env0.make C us []) bb rr hq) fun res t ht => ?_))
  cases res with
  | error er => exact hx pins _ _ er t J ht
  | ok fl =>
    cases fl with
    | ret u =>
      obtain ⟨v, H2, I2, rv, ev, q⟩ := J.after ht
      subst ev
      exact ⟨rv, V.ref (s.heap.objs.size + 1), H2, I2, rfl, q⟩
    | next => exact ht.elim
    | brk => exact ht.elim
    | cont => exact ht.elim
def tMakeW (C : Addr) (sp : Sp) (W : WX) (t : TA) : TE := fun σ H Q => t σ H fun vs H1 => MkG C sp (WE W σ) vs Q H1
theorem pe_makeW (M : Mk X.K C f) (F : FnE X.prog X.w X.K X.mg X.base (L2.CX X.prog X.w) k f ps sp) (hr : Room (k + 1) X.A) (hg : Gl X x) (hm : X.mg x = some (.ref C)) (tk : Takes X W)
    (ha : PA X (e :: es) t) (hdb : (x == ("__debug__" : Str)) = false := by decide) (he : starEach (e :: es) X.env = (false, eval e X.env) :: starEach es X.env := by rfl) (hpl : (backTo pos (starEach es X.env)).any (·.1) = false := by rfl) :
    PE X (.Call (.Name x p) (e :: es) [] pos) (tMakeW C sp W t) :=
  ⟨fun pins s σ H Q I h => wpAny_Call_Name_kw (ld_glob I hg hm (PySem.W.callWith_K (h₀ := X.base) I.ok.mod.kin M.kp (thn (ha.run pos pins s σ H _ I h) fun us s1 ⟨vs, H1, I1, r, q⟩ => ⟨I1.kIn, make_at M F hr (takesAt tk σ) I1 r q⟩) he hpl) hdb)⟩
end
end TC

set_option Elab.async false
set_option linter.all false
set_option maxRecDepth 100000
set_option maxHeartbeats 4000000
/-! repr of data, and defs that are called where no repr is under way. -/
namespace TC
open PySem PySem.Spec PyProof.Rows L2

/-! ### data with empty dicts in it, as repr shows it -/
mutual
inductive Rp (K : PySem.W.Frag) (H : Hp) : V → PyData → Prop
  | non : Rp K H .non .none
  | bl (b : Bool) : Rp K H (.bl b) (.bool b)
  | int (i : Int) : Rp K H (.int i) (.int i)
  | str (x : Str) : Rp K H (.str x) (.str x)
  | lst {a : Addr} {xs : List V} {ds : List PyData} : SqL K H a xs → RpAll K H xs ds → PyData.hasDictAll ds = false → Rp K H (.ref a) (.list ds)
  | tup {a : Addr} {xs : List V} {ds : List PyData} : SqT K H a xs → RpAll K H xs ds → PyData.hasDictAll ds = false → Rp K H (.ref a) (.tuple ds)
  | tde {a p : Addr} {i : Int} : SqT K H a [.ref p, .int i] → H p = some (.dK []) → Rp K H (.ref a) (.tuple [.dict [], .int i])
  | emp {a : Addr} : H a = some (.dK []) → Rp K H (.ref a) (.dict [])
inductive RpAll (K : PySem.W.Frag) (H : Hp) : List V → List PyData → Prop
  | nil : RpAll K H [] []
  | cons {v : V} {vs : List V} {d : PyData} {ds : List PyData} : Rp K H v d → RpAll K H vs ds → RpAll K H (v :: vs) (d :: ds)
end
mutual
theorem Rp.same {K : PySem.W.Frag} {H H' : Hp} (e : Same H H') : ∀ (d : PyData) (v : V), Rp K H v d → Rp K H' v d
  | .none, _, h => by cases h; exact .non
  | .bool b, _, h => by cases h; exact .bl b
  | .int i, _, h => by cases h; exact .int i
  | .str x, _, h => by cases h; exact .str x
  | .list ds, _, h => by
    cases h with
    | lst s a n => exact .lst (e.seq s) (RpAll.same e ds _ a) n
  | .tuple ds, _, h => by
    cases h with
    | tup s a n => exact .tup (Same.seqT e s) (RpAll.same e ds _ a) n
    | tde s z => exact .tde (Same.seqT e s) (e _ _ z)
  | .dict _, _, h => by
    cases h with
    | emp z => exact .emp (e _ _ z)
theorem RpAll.same {K : PySem.W.Frag} {H H' : Hp} (e : Same H H') : ∀ (ds : List PyData) (vs : List V), RpAll K H vs ds → RpAll K H' vs ds
  | [], _, h => by cases h; exact .nil
  | d :: ds, _, h => by
    cases h with
    | cons a b => exact .cons (Rp.same e d _ a) (RpAll.same e ds _ b)
end
section
variable {X : Cx} {pins : List (Addr × Obj)} {σ : L2.St} {H : Hp} {s : Shared}
theorem reads_emp (I : Inv X pins σ H s) {a : Addr} (z : H a = some (.dK [])) : ∃ as, Reads s.heap (.ref a) (.dict []) as ∧ sysModules ∉ as := by
  obtain ⟨_, ns, vs, kv, o, es, ep, ho, hx, hd, _, hp, _⟩ := dk_of I.hok z
  cases kv
  have he : es.toList = [] := by
    cases hl : es.toList with
    | nil => rfl
    | cons y ys =>
      rw [hl] at hp
      exact absurd hp (by intro q; cases q)
  refine ⟨[a] ++ [], Reads.dict (as := []) (bs := []) ho hx.1 hd ?_ ?_, fun hm => ?_⟩
  · rw [he]
    exact .nil
  · rw [he]
    exact .nil
  · have := List.mem_singleton.mp hm
    rw [← this, beq_self_eq_true] at ns
    cases ns
mutual
theorem Rp.reads (I : Inv X pins σ H s) : ∀ (d : PyData) (v : V) (u : Value), Rp X.K H v d → RelV v u → ∃ as, Reads s.heap u d as ∧ (d.hasDict = true → sysModules ∉ as)
  | .none, _, _, h, r => by
    cases h
    cases r
    exact ⟨_, Reads.none, fun _ z => nomatch z⟩
  | .bool b, _, _, h, r => by
    cases h
    cases r
    exact ⟨_, Reads.bool b, fun _ z => nomatch z⟩
  | .int i, _, _, h, r => by
    cases h
    obtain ⟨t, rfl⟩ := r
    exact ⟨_, Reads.int i t, fun _ z => nomatch z⟩
  | .str x, _, _, h, r => by
    cases h
    obtain ⟨t, rfl⟩ := r
    exact ⟨_, Reads.str x t, fun _ z => nomatch z⟩
  | .list ds, _, _, h, r => by
    cases h with
    | lst hs ha nd =>
      cases r
      obtain ⟨its, rv, pl, _⟩ := I.list hs
      obtain ⟨o, ho, hc, n, hd⟩ := pl.isList
      obtain ⟨as, ra⟩ := RpAll.reads I ds _ _ ha rv
      refine ⟨_, Reads.list ho hc hd ra, fun z => ?_⟩
      have z2 : PyData.hasDictAll ds = true := z
      rw [nd] at z2
      cases z2
  | .tuple ds, _, _, h, r => by
    cases h with
    | tup hs ha nd =>
      cases r
      obtain ⟨its, rv, ⟨o, ho, hc, n, hd⟩, _⟩ := I.tuple hs
      obtain ⟨as, ra⟩ := RpAll.reads I ds _ _ ha rv
      refine ⟨_, Reads.tuple ho hc hd ra, fun z => ?_⟩
      have z2 : PyData.hasDictAll ds = true := z
      rw [nd] at z2
      cases z2
    | tde hs z =>
      cases r
      obtain ⟨its, rv, ⟨o, ho, hc, n, hd⟩, _⟩ := I.tuple hs
      obtain ⟨as, ra, nm⟩ := reads_emp I z
      cases rv with
      | cons r1 r2 =>
        cases r2 with
        | cons r3 r4 =>
          cases r4
          cases r1
          obtain ⟨t, rfl⟩ := r3
          refine ⟨_, Reads.tuple ho hc hd (ReadsAll.cons ra (ReadsAll.cons (Reads.int _ t) ReadsAll.nil)), fun _ hm => ?_⟩
          rw [List.append_nil, List.append_nil] at hm
          exact nm hm
  | .dict kvs, _, _, h, r => by
    cases h with
    | emp z =>
      cases r
      obtain ⟨as, ra, nm⟩ := reads_emp I z
      exact ⟨as, ra, fun _ => nm⟩
theorem RpAll.reads (I : Inv X pins σ H s) : ∀ (ds : List PyData) (vs : List V) (us : List Value), RpAll X.K H vs ds → Vals vs us → ∃ as, ReadsAll s.heap us ds as
  | [], _, _, h, r => by
    cases h
    cases r
    exact ⟨_, ReadsAll.nil⟩
  | d :: ds, _, _, h, r => by
    cases h with
    | cons a b =>
      cases r with
      | cons r1 r2 =>
        obtain ⟨as, q1, m1⟩ := Rp.reads I d _ _ a r1
        obtain ⟨bs, q2⟩ := RpAll.reads I ds _ _ b r2
        exact ⟨_, ReadsAll.cons q1 q2⟩
end
end
/-- repr(v) where no repr is under way -/
def rRepr (K : PySem.W.Frag) : List V → Hp → VK → Prop := fun xs H Q => ∃ v d, xs = [v] ∧ Rp K H v d ∧ d.showable = true ∧ d.shown.length ≤ sizeLine ∧ d.depth ≤ 60 ∧ Q (.str d.shown) H
theorem i_repr {K : PySem.W.Frag} {H : Hp} {Q : VK} {v : V} {d : PyData} (h1 : Rp K H v d) (h2 : d.showable = true) (h3 : d.shown.length ≤ sizeLine) (h4 : d.depth ≤ 60) (q : Q (.str d.shown) H) : rRepr K [v] H Q := ⟨v, d, rfl, h1, h2, h3, h4, q⟩
section
variable {X : Cx}
theorem call_reprD (hg : X.A.guards = some []) (hu : X.A.units + 64 < cLine) : CallR X (.builtin "repr") (rRepr X.K) := by
  intro pins s σ H xs us Q I r h
  obtain ⟨v, d, rfl, hp, hs, hz, hdp, q⟩ := h
  obtain ⟨u, rfl, rv⟩ := vals1 r
  obtain ⟨as, rd, nm⟩ := Rp.reads I d v u hp rv
  have big : ∀ a, Reads s.heap (.ref a) d as → wpAny (model X.prog X.w) X.A (call (.builtin "repr") [.ref a]) (EP X pins σ Q) X.xe s := fun a ra =>
    repr_of_reads' ra hs nm hg (by omega) (fun _ _ e => e) (fun h' t tk k => ⟨.str _, H, I.kept (t' := tk) k, ⟨t, rfl⟩, q⟩) hz
  cases hp with
  | non =>
    cases rv
    exact PySem.P.repr_of_none ⟨.str _, H, I.tok _, ⟨_, rfl⟩, q⟩
  | bl b =>
    cases rv
    exact PySem.P.repr_of_bool ⟨.str _, H, I.tok _, ⟨_, rfl⟩, q⟩
  | int i =>
    obtain ⟨t, rfl⟩ := rv
    exact PySem.P.repr_of_int (of_decide_eq_true hs) ⟨.str _, H, I.tok _, ⟨_, rfl⟩, q⟩
  | str x =>
    obtain ⟨t, rfl⟩ := rv
    exact PySem.P.repr_of_str ⟨.str _, H, I.tok _, ⟨_, rfl⟩, q⟩ hz
  | lst _ _ _ => cases rv; exact big _ rd
  | tup _ _ _ => cases rv; exact big _ rd
  | tde _ _ => cases rv; exact big _ rd
  | emp _ => cases rv; exact big _ rd
end

/-! ### defs that are called where no repr is under way -/
structure FnG (P : Program) (w : World) (K : PySem.W.Frag) (mg : Str → Option Value) (base : Heap) (CX : CXT) (k : Nat) (f : Addr) (fd : FuncData) (ps : List Str) (sp : Sp) : Prop where
  len : ∀ vs H Q E, sp vs H Q E → vs.length = ps.length
  run : ∀ (A : Around) (outer : List Env) (s : Shared) (H : Hp) (args : Args) (us : List Value) (vs : List V) (Q : VK) (E : XK), A.guards = some [] → Room k A → Env0 P w K mg base A outer s H → BindsTo s fd args (ps.zip us) → Vals vs us → sp vs H Q E →
    codeAny (model P w) A (.call (.ref f) args) (CR CX outer P w H s Q E) s
def FnGE (P : Program) (w : World) (K : PySem.W.Frag) (mg : Str → Option Value) (base : Heap) (CX : CXT) (k : Nat) (f : Addr) (ps : List Str) (sp : Sp) : Prop :=
  ∃ fd : FuncData, FnG P w K mg base CX k f fd ps sp ∧ Binds K fd ps []
section
variable {P : Program} {w : World} {K : PySem.W.Frag} {mg : Str → Option Value} {base : Heap} {CX : CXT} {k : Nat} {f : Addr} {ps : List Str} {sp : Sp}
/-- a def by its body -/
theorem fnG_of {x qual : Str} {st : Stmt} {fd : FuncData} {N : List Str} (F : Fun K x qual st f fd) (S : FnScope N ps (defScope st)) (len : ∀ vs H Q E, sp vs H Q E → vs.length = ps.length)
    (hbody : ∀ (cdv : Value) (A : Around) (outer : List Env) (s : Shared) (H : Hp) (vs : List V) (Q : VK) (E : XK), A.guards = some [] → Room k (A.deeper (envOfC qual (defScope st) s.heap.objs.size f cdv)) → sp vs H Q E →
      ∃ t, PSs (cxOf CX P w K mg base N qual (defScope st) f cdv A outer s H E) (defBody st) t ∧ t { nx := fun _ H' => Q .non H', rt := Q } (start N vs) H) : FnG P w K mg base CX (k + 1) f fd ps sp := by
  obtain ⟨oc, od, kV, doc, pm, an, cdv, ct, osl, rfl, lk, hcd⟩ := F.ex
  refine ⟨len, fun A outer s H args us vs Q E hG hr e0 hb rv hsp => ?_⟩
  have inK : K.In s.heap := e0.mod.kin.keeps fun b o z => (e0.bs b o z).1
  have kinds : ∀ z ∈ ps.zip us, (defScope st).names.lookup z.1 = some .local ∨ ((defScope st).names.lookup z.1 = some .cell ∧ ((cellsFrom (s.heap.objs.size + 1) (defScope st).names []).lookup z.1).isSome = true) := by
    intro z hz
    rcases S.par z.1 (List.of_mem_zip hz).1 with q | q
    · exact .inl q
    · exact .inr ⟨q, PySem.W.cellsFrom_some _ _ _ (.inl q)⟩
  refine codeAny_call_function hr.depth (inK _ _ lk) rfl S.co S.gen rfl (PySem.W.codeRec_of inK hcd) (hb _ _ _ _ (wpAny_newFunctionEnv_cells S.kind kinds fun env he s1 x => ?_))
  subst he
  refine ⟨(e0.mod.nolimit.keeps fun b o z => (e0.bs b o z).1).keeps x.toInCall.keep, codeAny_func ?_⟩
  obtain ⟨t, ht, hq⟩ := hbody cdv A outer s H vs Q E hG (hr.deeper _) hsp
  refine wpAny_mono (ht.run [] s1 (start N vs) H _ (inv_start S hr.hd e0 (len _ _ _ _ hsp) rv x) hq) (fun fl s2 h2 => ?_) fun _ _ z => z
  cases fl with
  | ret u => obtain ⟨v, σ1, H1, J, r1, q1⟩ := h2; exact ⟨v, H1, J.os, J.bare, J.base, J.hok, r1, q1⟩
  | next => obtain ⟨σ1, H1, J, q1⟩ := h2; exact ⟨.non, H1, J.os, J.bare, J.base, J.hok, rfl, q1⟩
  | brk => obtain ⟨_, _, _, q1⟩ := h2; exact q1.elim
  | cont => obtain ⟨_, _, _, q1⟩ := h2; exact q1.elim
theorem FnE.g (F : FnE P w K mg base CX k f ps sp) : FnGE P w K mg base CX k f ps sp := by
  obtain ⟨fd, F1, b⟩ := F
  exact ⟨fd, ⟨F1.len, fun A outer s H args us vs Q E _ => F1.run A outer s H args us vs Q E⟩, b⟩
end
theorem FnG.imp {P : Program} {w : World} {K : PySem.W.Frag} {mg : Str → Option Value} {base : Heap} {CX : CXT} {k : Nat} {f : Addr} {fd : FuncData} {ps : List Str} {sp sp' : Sp} (F : FnG P w K mg base CX k f fd ps sp) (h : ∀ vs H Q E, sp' vs H Q E → sp vs H Q E) : FnG P w K mg base CX k f fd ps sp' :=
  ⟨fun vs H Q E z => F.len vs H Q E (h _ _ _ _ z), fun A outer s H args us vs Q E g hr he hb hv hs => F.run A outer s H args us vs Q E g hr he hb hv (h _ _ _ _ hs)⟩
section
variable {X : Cx} {CX : CXT} {k : Nat} {f : Addr} {ps : List Str} {sp : Sp} {x : Str} {p pos : Pos} {e : Expr} {es : List Expr} {t : TA} {W : WX} {E : XK}
theorem runG_at {pins : List (Addr × Obj)} {σ : L2.St} {H : Hp} {s : Shared} {Q : VK} {us : List Value} {vs : List V} (hG : X.A.guards = some []) (F : FnGE X.prog X.w X.K X.mg X.base CX k f ps sp) (hr : Room k X.A)
    (hx : PassesAt CX X σ E) (I : Inv X pins σ H s) (r : Vals vs us) (h : sp vs H Q E) : wpAny (model X.prog X.w) X.A (call (.ref f) us) (EP X pins σ Q) X.xe s := by
  obtain ⟨fd, F1, b⟩ := F
  have nl : us.length = ps.length := r.length.symm.trans (F1.len _ _ _ _ h)
  have bb := b s us I.kIn (by rw [List.append_nil]; exact nl)
  rw [List.append_nil] at bb
  refine wpAny_call (codeAny_mono (F1.run X.A X.stack s H ⟨us, []⟩ us vs Q E hG hr I.env0 bb r h) fun res t ht => ?_)
  cases res with
  | error er => exact hx pins H s er t I ht
  | ok fl =>
    cases fl with
    | ret u => exact I.after ht
    | next => exact ht.elim
    | brk => exact ht.elim
    | cont => exact ht.elim
theorem pe_callG (hG : X.A.guards = some []) (F : FnGE X.prog X.w X.K X.mg X.base CX k f ps sp) (hr : Room k X.A) (hg : Gl X x) (hm : X.mg x = some (.ref f)) (hk : PySem.W.keepIn X.K (.ref f) = true) (hx : Passes CX X E)
    (ha : PA X (e :: es) t) (hdb : (x == ("__debug__" : Str)) = false := by decide) (he : starEach (e :: es) X.env = (false, eval e X.env) :: starEach es X.env := by rfl) (hpl : (backTo pos (starEach es X.env)).any (·.1) = false := by rfl) :
    PE X (.Call (.Name x p) (e :: es) [] pos) (tCallR sp E t) :=
  ⟨fun pins s σ H Q I h => wpAny_Call_Name_kw (ld_glob I hg hm (PySem.W.callWith_K (h₀ := X.base) I.ok.mod.kin hk (thn (ha.run pos pins s σ H _ I h) fun us s1 ⟨vs, H1, I1, r, q⟩ => ⟨I1.kIn, runG_at hG F hr (fun pn H2 s2 e2 t2 J c => hx pn σ H2 s2 e2 t2 J c) I1 r q⟩) he hpl) hdb)⟩
theorem pe_callG0 (hG : X.A.guards = some []) (F : FnGE X.prog X.w X.K X.mg X.base CX k f ps sp) (hr : Room k X.A) (hg : Gl X x) (hm : X.mg x = some (.ref f)) (hk : PySem.W.keepIn X.K (.ref f) = true) (hx : Passes CX X E)
    (hdb : (x == ("__debug__" : Str)) = false := by decide) : PE X (.Call (.Name x p) [] [] pos) (tCallR sp E tNil) :=
  ⟨fun pins s σ H Q I h => wpAny_Call_Name_kw (ld_glob I hg hm (PySem.W.callWith_K0 I.kIn hk (runG_at (us := []) hG F hr (fun pn H2 s2 e2 t2 J c => hx pn σ H2 s2 e2 t2 J c) I .nil h)) hdb)⟩
theorem pe_callGW (hG : X.A.guards = some []) (F : FnGE X.prog X.w X.K X.mg X.base (L2.CX X.prog X.w) k f ps sp) (hr : Room k X.A) (hg : Gl X x) (hm : X.mg x = some (.ref f)) (hk : PySem.W.keepIn X.K (.ref f) = true) (tk : Takes X W)
    (ha : PA X (e :: es) t) (hdb : (x == ("__debug__" : Str)) = false := by decide) (he : starEach (e :: es) X.env = (false, eval e X.env) :: starEach es X.env := by rfl) (hpl : (backTo pos (starEach es X.env)).any (·.1) = false := by rfl) :
    PE X (.Call (.Name x p) (e :: es) [] pos) (tCallW sp W t) :=
  ⟨fun pins s σ H Q I h => wpAny_Call_Name_kw (ld_glob I hg hm (PySem.W.callWith_K (h₀ := X.base) I.ok.mod.kin hk (thn (ha.run pos pins s σ H _ I h) fun us s1 ⟨vs, H1, I1, r, q⟩ => ⟨I1.kIn, runG_at hG F hr (takesAt tk σ) I1 r q⟩) he hpl) hdb)⟩
end

/-! ### the law, called where no repr is under way -/
/-- the heap of the law's call: the script, where the module does not hold it -/
def Hs (K : PySem.W.Frag) (a : Addr) (vs : List Value) (ns : List Int) : Hp := fun b =>
  if b = a ∧ K.lookup a = none then some (.frz { cls := .type "list", data := .seq vs.toArray } (.lst (ns.map V.int))) else none
section
variable {P : Program} {w : World} {K : PySem.W.Frag} {mg mb : Str → Option Value} {CX : CXT} {k : Nat} {fa a : Addr} {fd : FuncData} {x : Str} {sp : Sp} {g : Shared} {vs : List Value} {ns : List Int}
theorem hs_only (b : Addr) : Hs K a vs ns b = none ∨ (b = a ∧ K.lookup a = none ∧ Hs K a vs ns b = some (.frz { cls := .type "list", data := .seq vs.toArray } (.lst (ns.map V.int)))) := by
  unfold Hs
  by_cases h : b = a ∧ K.lookup a = none
  · exact .inr ⟨h.1, h.2, if_pos h⟩
  · exact .inl (if_neg h)
theorem hs_seq (KX : K.In g.heap) (ha : g.heap.get? a = some { cls := .type "list", data := .seq vs.toArray }) (hi : IntsAre vs ns) (hl : ns.length ≤ sizeLine) : SqL K (Hs K a vs ns) a (ns.map V.int) := by
  cases hk : K.lookup a with
  | none => exact .inl (.inr ⟨{ cls := .type "list", data := .seq vs.toArray }, by unfold Hs; rw [if_pos ⟨rfl, hk⟩]⟩)
  | some o =>
    have z := KX a o hk
    rw [ha] at z
    cases z
    exact .inr ⟨_, vs.toArray, _, hk, rfl, rfl, rfl, by rw [List.size_toArray, hi.length]; exact hl, by simpa using vals_ints hi⟩
theorem law_callG (KX : K.In g.heap) (hns : g.heap.Ns mainGlobals mg) (hb : g.heap.Ns builtinsNs mb) (hbb : ∀ x : Str, x ≠ "__name__" → mb x = bootBuiltins x) (hlim : g.heap.NoLimit) (hg : g.gens = #[])
    (ha : g.heap.get? a = some { cls := .type "list", data := .seq vs.toArray }) (hi : IntsAre vs ns) (hl : ns.length ≤ sizeLine) (hr : Room k callerA)
    (F : ∀ base : Heap, K.In base → base.Ns mainGlobals mg → FnG P w K mg base CX k fa fd [x] sp) (hbind : ∀ (s : Shared) (u : Value), BindsTo s fd ⟨[u], []⟩ [(x, u)])
    (hsp : ∀ H : Hp, SqL K H a (ns.map V.int) → sp [.ref a] H (fun v _ => v = .bl true) fun _ _ _ => False) (hCX : ∀ H e s', CX [] H g (fun _ _ _ => False) e s' → False) :
    codeAny (model P w) callerA (.call (.ref fa) ⟨[.ref a], []⟩) (fun r s' => r = .ok (.ret (.bool true)) ∧ OldK g.heap s'.heap ∧ s'.os = g.os ∧ AllBare s'.gens) g := by
  have stays : ∀ {b : Addr} {o : Obj}, g.heap.get? b = some o → Hs K a vs ns b = none → (hidT g.heap (Hs K a vs ns)).get? b = some o := fun z n => hidT_get z n
  have inB : K.In (hidT g.heap (Hs K a vs ns)) := fun b o z => stays (KX b o z) (by
    rcases hs_only (K := K) (a := a) (vs := vs) (ns := ns) b with n | ⟨rfl, hk, _⟩
    · exact n
    · rw [hk] at z
      cases z)
  have nsB : ∀ {b : Addr} {m : Str → Option Value}, g.heap.Ns b m → (hidT g.heap (Hs K a vs ns)).Ns b m := by
    rintro b m ⟨o, es, ep, z, zd, r⟩
    refine ⟨o, es, ep, stays z ?_, zd, r⟩
    rcases hs_only (K := K) (a := a) (vs := vs) (ns := ns) b with n | ⟨rfl, _, _⟩
    · exact n
    · rw [ha] at z
      cases z
      exact nomatch zd
  obtain ⟨mc, l1, l2⟩ := hlim
  have M : Mod K mg (hidT g.heap (Hs K a vs ns)) := ⟨inB, nsB hns, ⟨mb, nsB hb, hbb⟩, ⟨mc, nsB l1, l2⟩⟩
  have rv := vals_ints hi
  have ok0 : HOk P w (Hs K a vs ns) g.heap := fun b u z => by
    rcases hs_only (K := K) (a := a) (vs := vs) (ns := ns) b with n | ⟨rfl, _, y⟩
    · rw [n] at z
      cases z
    · rw [y] at z
      cases z
      exact ⟨ha, by rw [List.length_map]; exact hl, vs, _, rv, ha⟩
  have e0 : Env0 P w K mg (hidT g.heap (Hs K a vs ns)) callerA [] g (Hs K a vs ns) :=
    ⟨rfl, M, fun b o z => of_hidT z, Nat.le_of_eq (hidT_size _ _), trivial, fun b z => absurd (show b ∈ ([] : List Addr) from z) List.not_mem_nil, ok0, .of_eq hg⟩
  refine codeAny_mono ((F _ inB (nsB hns)).run callerA [] g (Hs K a vs ns) ⟨[.ref a], []⟩ [.ref a] [.ref a] _ _ rfl hr e0 (hbind g (.ref a)) (.cons rfl .nil) (hsp _ (hs_seq KX ha hi hl))) fun r t ht => ?_
  cases r with
  | error er => exact (hCX _ er t ht).elim
  | ok fl =>
    cases fl with
    | next => exact ht.elim
    | brk => exact ht.elim
    | cont => exact ht.elim
    | ret u =>
      obtain ⟨v, H2, os, bare, un, ok2, r2, q⟩ := ht
      have q2 : v = .bl true := q
      subst q2
      obtain rfl : u = Value.bool true := r2
      refine ⟨rfl, OldK.of_keep fun b o z => ?_, os, bare⟩
      rcases hs_only (K := K) (a := a) (vs := vs) (ns := ns) b with n | ⟨rfl, _, y⟩
      · exact un.keep b o z n (fun m => absurd (show b ∈ ([] : List Addr) from m) List.not_mem_nil) List.not_mem_nil
      · obtain ⟨z2, _⟩ := ok2 b _ (un.frzs b _ _ y)
        rw [ha] at z
        cases z
        exact z2
theorem walk_ofG {l : PySem.W.OpenLaw} {n k : Nat} {q : Program} {loose : List Str} {XP : (Str → Option Value) → Heap → Prop} {YP : World → Heap → Prop} {d : DefRec} {K : Params → PySem.W.Frag} {CX : World → CXT} {sp : World → Sp} {x : Str}
    (hn : l.most = some n) (hn2 : n ≤ sizeLine) (hdf : d.params.defaults = []) (hr : Room k callerA) (hY : ∀ (w : World) (h : Heap), YP w h → (K w.params).In h)
    (F : ∀ (w : World) (mg : Str → Option Value) (fa : Addr) (h : Heap), (K w.params).In h → h.Ns mainGlobals mg → mg d.name = some (.ref fa) →
      ∃ fd : FuncData, (∀ (s : Shared) (u : Value), BindsTo s fd ⟨[u], []⟩ [(x, u)]) ∧ ∀ base : Heap, (K w.params).In base → base.Ns mainGlobals mg → FnG l.prog w (K w.params) mg base (CX w) k fa fd [x] (sp w))
    (hsp : ∀ (w : World) (H : Hp) (a : Addr) (ns : List Int), ns.length ≤ n → (∀ z ∈ ns, Builtin.Int.intBits z ≤ 1048576) → SqL (K w.params) H a (ns.map V.int) → sp w [.ref a] H (fun v _ => v = .bl true) fun _ _ _ => False)
    (hCX : ∀ (w : World) (H : Hp) (s : Shared) (e : Value) (s' : Shared), CX w [] H s (fun _ _ _ => False) e s' → False) : PySem.W.WalkO q loose XP YP l.row.toRowW d [] (fun f vs => PySem.call f vs) :=
  Att.attach_callB hn hdf fun w s₀ g mg mb fa o pm cd doc a vs ns G Y ho hd hcd hmg hobj hints hlen hbits hg => by
    obtain ⟨fd, hb, hF⟩ := F w mg fa _ (hY w _ Y) G.T.g hmg
    exact law_callG (hY w _ Y) G.T.g G.T.b G.T.builtins G.T.nolimit hg hobj hints (Nat.le_trans hlen hn2) hr hF hb (fun H hS => hsp w H a ns hlen hbits hS) fun H e s' => hCX w H g e s'
end

/-! ### isinstance of a caught error -/
theorem Room.u64 {k : Nat} {A : Around} (r : Room k A) : A.units + 64 < cLine := by have := r.un; omega
def rIsD (K : PySem.W.Frag) (D a : Addr) (cls : Value) (d : Option Addr) : List V → Hp → VK → Prop := fun xs H Q => ∃ (D2 : Addr) (b : Bool) (dd : Addr) (fs : List (Str × V)), xs = [.ref a, .ref D2] ∧ cls = .ref D ∧ PySem.W.kitOne K (.ref D) (.ref D2) = some b ∧ d = some dd ∧ H dd = some (.xd fs) ∧ Q (.bl b) H
theorem call_isD {X : Cx} {a D : Addr} {oe : Obj} {cls : Value} {d : Option Addr} {pn : List (Addr × Obj)} (C : ExcC X.K D) (hz : Zc cls d oe) (hf : ∃ vs, oe.data = .fields vs) : CallR (X.suite a ((a, oe) :: pn)) (.builtin "isinstance") (rIsD X.K D a cls d) := by
  intro pins s σ H xs us Q I r h
  obtain ⟨D2, b, dd, fs, rfl, rfl, e, rfl, hdd, q⟩ := h
  cases r with
  | cons rx rr =>
    cases rr with
    | cons rt rr =>
      cases rr
      cases rx
      cases rt
      obtain ⟨hget, _⟩ := I.pin (a, oe) (List.mem_append.mpr (.inl List.mem_cons_self))
      obtain ⟨vs, hv⟩ := hf
      obtain ⟨mA, hns, _⟩ := (show ∃ mA, s.heap.Ns1 dd mA ∧ ∀ f, RelO (fs.lookup f) (mA f) from I.hok dd _ hdd)
      obtain ⟨od, ho, _⟩ := lookIn_ns hns
      have J : PySem.W.InstAt s.heap a oe D (some od) := by
        obtain ⟨oc, odc, oda, osl⟩ := oe
        obtain ⟨h1, h2⟩ := hz
        dsimp only at h1 h2 hv
        subst h1 h2 hv
        exact ⟨hget, rfl, rfl, ho⟩
      obtain ⟨cdD, hcD, _⟩ := PySem.W.any_some C.hd
      exact PySem.W.kia_one (PySem.W.kitx_exc (od := some od) (by rw [hcD]; rfl) C.hg C.hk C.hs C.ha C.hn C.ht C.hm) I.kIn J e (fun z => nomatch z) fun tk => ⟨.bl b, H, I.kept (t' := tk) fun _ _ z => z, rfl, q⟩
end TC

set_option Elab.async false
set_option linter.all false
set_option maxRecDepth 100000
set_option maxHeartbeats 4000000
/-! Promises and readings of the defs that many laws share. No text of a law stands here. -/
namespace TC
open PySem PySem.Spec PyProof.Rows L2
open PySem.W (Datum Tup)
theorem divOk {i j : Int} (h : 0 < j) (h2 : j ≤ 10000000000000000000000000000000000000000) : CDivW i j :=
  wide_div (b := 200) h (Nat.lt_of_le_of_lt (show j.natAbs ≤ 10000000000000000000000000000000000000000 by omega) (by decide)) (by decide) (by decide)
local macro_rules | `(tactic| walk_at "st") => `(tactic| repeat (first
  | with_reducible refine i_seq ?_ | with_reducible refine i_asg ?_ | with_reducible refine i_ret ?_ | with_reducible refine i_retN ?_ | with_reducible refine i_ifs ?_ | with_reducible refine i_next ?_ | with_reducible refine i_drop ?_
  | with_reducible refine i_par ?_ | with_reducible refine i_gN ?_ | with_reducible refine i_gS ?_ | with_reducible refine i_nil ?_ | with_reducible refine i_cons ?_ | with_reducible refine i_tup ?_ | with_reducible refine i_lst ?_
  | with_reducible refine i_op ?_ | with_reducible refine i_un ?_ | with_reducible refine i_test ?_ | with_reducible refine i_B ?_ | with_reducible refine i_bl ?_ | with_reducible refine i_not ?_ | with_reducible refine i_and ?_ | with_reducible refine i_or ?_
  | with_reducible refine i_andV ?_ | with_reducible refine i_orV ?_ | with_reducible refine i_notV ?_ | with_reducible refine i_if ?_ | with_reducible refine i_chain ?_ | with_reducible refine i_cb ?_ | with_reducible refine i_call ?_ | with_reducible refine i_make ?_
  | with_reducible refine i_smeth ?_ | with_reducible refine i_prop ?_ | with_reducible refine i_fld ?_ | with_reducible refine i_sfld ?_ | with_reducible refine i_bm ?_ | with_reducible refine i_fmt ?_ | with_reducible refine i_fmt6 ?_ | with_reducible refine i_joined ?_ | with_reducible refine i_jsC ?_ | with_reducible refine i_jsN ?_ | with_reducible refine i_for ?_ | with_reducible refine i_rng1 ?_ | with_reducible refine i_rng2 ?_ | with_reducible refine i_iL ?_ | with_reducible refine i_iT ?_ | with_reducible refine i_iLT ?_ | with_reducible refine i_iEn ?_ | with_reducible refine i_iZp ?_ | with_reducible refine i_lr1 ?_ | with_reducible refine i_lr2 ?_ | with_reducible refine i_gT ?_ | with_reducible refine i_gC ?_ | with_reducible refine i_gNil ?_ | with_reducible refine i_sl ?_ | with_reducible refine i_noP ?_ | with_reducible refine i_prt ?_ | with_reducible refine i_int ?_ | with_reducible refine i_jT ?_ | with_reducible refine i_bm0 ?_
  | ((with_reducible refine' i_var ?hv ?_); (case hv => exact rfl)) | with_reducible refine i_c ?_ | with_reducible refine i_rI0 ?_ | with_reducible refine i_rU ?_ | with_reducible refine i_abs ?_ | with_reducible refine i_max2 ?_ | with_reducible refine i_min2 ?_ | with_reducible refine i_int1 ?_
  | ((with_reducible refine' i_rI ?hc ?_); (case hc => first | (show (0 : Int) < _; first | decide | omega) | (refine Or.inl (Or.inl ?_); constructor <;> first | decide | omega) | (refine Or.inl (Or.inr ?_); constructor <;> first | decide | omega) | (refine divOk ?_ ?_ <;> first | decide | omega) | (refine ⟨?_, ?_, ?_⟩ <;> first | decide | omega)))
  | with_reducible refine iteT ?_ | with_reducible refine iteF ?_ | with_reducible refine iteN ?_ | with_reducible refine iteM ?_))
/-- a reading, from the call to what it hands back -/
def Run (t : TS) (n : Nat) (vs : List V) (H : Hp) (Q : VK) : Prop := t { nx := fun _ H' => Q .non H', rt := Q } (vs.map some ++ List.replicate (n - vs.length) none) H
section
variable {K : PySem.W.Frag} {a : Ad} {H H' : Hp} {Q : VK} {E : XK} {vs : List V}

/-! ### is_integer -/
def IntQ (K : PySem.W.Frag) (H : Hp) (v : V) (b : Bool) : Prop :=
  (∃ i, v = .int i ∧ b = true) ∨ (b = false ∧ ∃ (t : Value) (b1 b2 : Bool), TyX K H v t ∧ PySem.W.kitOne K t (.type "int") = some b1 ∧ PySem.W.kitOne K t (.type "bool") = some b2 ∧ (b1 && !b2) = false)
theorem IntQ.int (i : Int) : IntQ K H (.int i) true := .inl ⟨i, rfl, rfl⟩
def sp_is_integer (K : PySem.W.Frag) (a : Ad) : Sp := fun vs H Q _ => vs.length = 1 ∧ ∃ v b, vs = [v] ∧ IntQ K H v b ∧ Q (.bl b) H
def t_is_integer (K : PySem.W.Frag) (a : Ad) : TS := tRet (tAndV (tCB (rIsi K) (tCons (tVar 0) (tCons (tC (.ty "int")) (tNil)))) (tNotV (tCB (rIsi K) (tCons (tVar 0) (tCons (tC (.ty "bool")) (tNil))))))
theorem pure_is_integer (h : sp_is_integer K a vs H Q E) : Run (t_is_integer K a) 1 vs H Q := by
  obtain ⟨_, v, b, rfl, hq, q⟩ := h
  have go : ∀ (t : Value) (b1 b2 : Bool), TyX K H v t → PySem.W.kitOne K t (.type "int") = some b1 → PySem.W.kitOne K t (.type "bool") = some b2 → (b1 && !b2) = b → Run (t_is_integer K a) 1 [v] H Q := by
    intro t b1 b2 ty e1 e2 e3
    subst e3
    refine ⟨v, rfl, v, _, t, _, b1, rfl, .ty "int", ty, e1, b1, rfl, ?_⟩
    cases b1 with
    | true => exact iteT ⟨v, rfl, v, _, t, _, b2, rfl, .ty "bool", ty, e2, b2, rfl, q⟩
    | false => exact iteF q
  rcases hq with ⟨i, rfl, rfl⟩ | ⟨rfl, t, b1, b2, ty, e1, e2, e3⟩
  · exact go _ true false (.base (.int i)) (kit_ty (by decide +kernel)) (kit_ty (by decide +kernel)) rfl
  · exact go t b1 b2 ty e1 e2 e3

/-! ### rows -/
def IsRow (ns : List Int) : Prop := 1 ≤ ns.length ∧ ns.length ≤ 2000 ∧ (ns.map absI).Perm (rgI 1 ns.length)
theorem tyx_L {p : Addr} {xs : List V} (h : SqL K H p xs) : TyX K H (.ref p) (.type "list") := by
  rcases h with (h | ⟨o, h⟩) | ⟨o, its, n, h1, h2, _⟩
  · exact .base (.lst h)
  · exact .base (.frz h)
  · exact .kList h1 h2
theorem tyx_T {p : Addr} {xs : List V} (h : SqT K H p xs) : TyX K H (.ref p) (.type "tuple") := by
  rcases h with (h | ⟨o, h⟩) | ⟨o, its, n, h1, h2, _⟩
  · exact .base (.tup h)
  · exact .fTuple h
  · exact .kTuple h1 h2

/-- what is_row answers of a list or tuple of xs -/
def RowAns (xs : List V) (b : Bool) : Prop := b = true ↔ ∃ ns : List Int, xs = ns.map V.int ∧ IsRow ns
/-- all items are ints or known not to be -/
theorem ints_of {xs : List V} {f : V → Bool} (hf : ∀ x ∈ xs, IntQ K H x (f x)) : xs.all f = true → ∃ ns : List Int, xs = ns.map V.int := by
  induction xs with
  | nil => exact fun _ => ⟨[], rfl⟩
  | cons x xs ih =>
    intro h
    rw [List.all_cons, Bool.and_eq_true] at h
    obtain ⟨ns, rfl⟩ := ih (fun y hy => hf y (List.mem_cons_of_mem _ hy)) h.2
    rcases hf x List.mem_cons_self with ⟨i, rfl, _⟩ | ⟨e, _⟩
    · exact ⟨i :: ns, rfl⟩
    · rw [h.1] at e
      cases e
theorem TyX.same {v : V} {t : Value} (e : Same H H') (h : TyX K H v t) : TyX K H' v t := by
  cases h with
  | base b =>
    refine .base ?_
    cases b with
    | non => exact .non
    | bl x => exact .bl x
    | int x => exact .int x
    | str x => exact .str x
    | flt x => exact .flt x
    | lst q => exact .lst (e _ _ q)
    | frz q => exact .frz (e _ _ q)
    | tup q => exact .tup (e _ _ q)
    | dK q => exact .dK (e _ _ q)
    | dT q => exact .dT (e _ _ q)
    | ins q c1 c2 c3 c4 c5 => exact .ins (e _ _ q) c1 c2 c3 c4 c5
  | byt b => exact .byt b
  | set q => exact .set (e _ _ q)
  | kList q c => exact .kList q c
  | kTuple q c => exact .kTuple q c
  | kDict q c => exact .kDict q c
  | fTuple q => exact .fTuple (e _ _ q)
  | fDict q => exact .fDict (e _ _ q)
theorem IntQ.same {v : V} {b : Bool} (e : Same H H') (h : IntQ K H v b) : IntQ K H' v b := by
  rcases h with h | ⟨rfl, t, b1, b2, ty, r⟩
  · exact .inl h
  · exact .inr ⟨rfl, t, b1, b2, TyX.same e ty, r⟩
def sp_Arrangement_is_row (K : PySem.W.Frag) (a : Ad) : Sp := fun vs H Q _ => vs.length = 1 ∧ ∃ v, vs = [v] ∧
  ((∃ p xs, v = .ref p ∧ (SqL K H p xs ∨ SqT K H p xs) ∧ (∀ x ∈ xs, ∃ b, IntQ K H x b) ∧ xs.length ≤ 100000 ∧ ∀ b H', Same H H' → RowAns xs b → Q (.bl b) H') ∨
   (∃ t, TyX K H v t ∧ PySem.W.kitAny K t [.type "list", .type "tuple"] = some false ∧ ∀ H', Same H H' → Q (.bl false) H'))
def t_Arrangement_is_row (K : PySem.W.Frag) (a : Ad) : TS := tSeq (tIfS (tOr (tNot (tB (tCB (rIsiT K) (tCons (tVar 0) (tCons (tTup (tCons (tC (.ty "list")) (tCons (tC (.ty "tuple")) (tNil)))) (tNil)))))) (tNot (tTest (tChain (rLeI) (rLeI) (tC (.int 1)) (tCB (rLenS K) (tCons (tVar 0) (tNil))) (tC (.int 2000)))))) (tRet (tC (.bl false))) (tNext))
  (tSeq (tIfS (tNot (tB (tCB (rAll K) (tCons (tLc (iLT K (tVar 0)) (gName 1) (tYes) (tCallR (sp_is_integer K a) E0 (tCons (tVar 1) (tNil))) [1]) (tNil))))) (tRet (tC (.bl false))) (tNext))
  (tRet (tOp (rEqX K) (tCB (rSortedI K) (tCons (tLc (iLT K (tVar 0)) (gName 1) (tYes) (tCB (rAbs) (tCons (tVar 1) (tNil))) [1]) (tNil))) (tLstRg (tRg2 (tC (.int 1)) (tOp (rAddI) (tCB (rLenS K) (tCons (tVar 0) (tNil))) (tC (.int 1))))))))
theorem kit_lt_L : PySem.W.kitAny K (.type "list") [.type "list", .type "tuple"] = some true := kitAny_cons (b := true) (kit_ty (by decide +kernel)) (fun z => by cases z) (fun _ => rfl)
theorem kit_lt_T : PySem.W.kitAny K (.type "tuple") [.type "list", .type "tuple"] = some true :=
  kitAny_cons (b := false) (kit_ty (by decide +kernel)) (fun _ => kitAny_cons (b := true) (kit_ty (by decide +kernel)) (fun z => by cases z) (fun _ => rfl)) (fun z => by cases z)
theorem sq_same {p : Addr} {xs : List V} (e : Same H H') (h : SqL K H p xs ∨ SqT K H p xs) : SqL K H' p xs ∨ SqT K H' p xs := h.elim (fun z => .inl (e.seq z)) fun z => .inr (Same.seqT e z)
theorem pw_rg (lo : Int) (n : Nat) : (rgI lo n).Pairwise (· ≤ ·) := by
  unfold rgI
  rw [List.pairwise_map]
  exact List.pairwise_lt_range.imp fun h => by omega
theorem rgV_eq (b : Int) (n : Nat) (lo : Int) (h : b - lo = (n : Int)) : rgV lo b = (rgI lo n).map V.int := by
  unfold rgV rgI
  rw [h, List.map_map]
  rfl
theorem seq_len {p : Addr} {xs : List V} (h : SqL K H p xs ∨ SqT K H p xs) {R : VK} (q : R (.int xs.length) H) : rLenS K [.ref p] H R := ⟨p, xs, rfl, h, q⟩
/-- the comprehension over a list or a tuple: f of each item -/
theorem lt_map {p : Addr} {xs : List V} {σ : L2.St} {te : TE} {ws : List Nat} {j : Nat} {R : VK} (f : V → V) (h : SqL K H p xs ∨ SqT K H p xs) (hz : xs.length ≤ 100000) (hw : ∀ x, wipe ((wipe σ ws).set j (some x)) ws = wipe σ ws)
    (he : ∀ x ∈ xs, ∀ H2, Same H H2 → ∀ R : VK, (∀ H3, Same H2 H3 → R (f x) H3) → te ((wipe σ ws).set j (some x)) H2 R)
    (k : ∀ D H', H D = none → Same H H' → H' D = some (.lst (xs.map f)) → R (.ref D) H') {tl : TE} (htl : ∀ S : VK, S (.ref p) H → tl σ H S) : tLc (iLT K tl) (gName j) tYes te ws σ H R := by
  refine htl _ ?_
  have k' : ∀ D H', H D = none → Same H H' → H' D = some (.lst ((xs.filter fun _ => true).map f)) → R (.ref D) H' := fun D H' h1 h2 h3 => k D H' h1 h2 (by rw [List.filter_eq_self.mpr (fun _ _ => rfl)] at h3; exact h3)
  refine ⟨p, rfl, ?_⟩
  rcases h with h | h
  · exact .inl ⟨⟨xs, h⟩, lc_fmL h (fun _ => true) f hz hw (fun x _ H2 _ R q => q H2 (Same.refl _)) (fun x hx _ => he x hx) k'⟩
  · exact .inr ⟨⟨xs, h⟩, lc_fmT h (fun _ => true) f hz hw (fun x _ H2 _ R q => q H2 (Same.refl _)) (fun x hx _ => he x hx) k'⟩
theorem inj_ints : ∀ l1 l2 : List Int, l1.map V.int = l2.map V.int → l1 = l2
  | [], [], _ => rfl
  | [], _ :: _, h => by cases h
  | _ :: _, [], h => by cases h
  | x :: xs, y :: ys, h => by
    rw [List.map_cons, List.map_cons, List.cons.injEq] at h
    rw [V.int.inj h.1, inj_ints _ _ h.2]
theorem pure_Arrangement_is_row (h : sp_Arrangement_is_row K a vs H Q E) : Run (t_Arrangement_is_row K a) 2 vs H Q := by
  obtain ⟨_, v, rfl, h⟩ := h
  unfold Run t_Arrangement_is_row
  rcases h with ⟨p, xs, rfl, hs, hi, hz, q⟩ | ⟨t, ty, ek, q⟩
  · -- a list or a tuple
    walk_at "st"
    refine ⟨by show 2 ≤ sizeLine; decide, fun tp htp => ?_⟩
    walk_at "st"
    have s1 : Same H (upd H tp (.tup [.ty "list", .ty "tuple"])) := Same.new htp
    have isi : ∀ R : VK, R (.bl true) (upd H tp (.tup [.ty "list", .ty "tuple"])) → rIsiT K [.ref p, .ref tp] (upd H tp (.tup [.ty "list", .ty "tuple"])) R := by
      rcases hs with hs | hs
      · exact fun R r => ⟨.ref p, tp, [.ty "list", .ty "tuple"], _, [.type "list", .type "tuple"], true, rfl, upd_same, .cons (.ty _) (.cons (.ty _) .nil), TyX.same s1 (tyx_L hs), kit_lt_L, r⟩
      · exact fun R r => ⟨.ref p, tp, [.ty "list", .ty "tuple"], _, [.type "list", .type "tuple"], true, rfl, upd_same, .cons (.ty _) (.cons (.ty _) .nil), TyX.same s1 (tyx_T hs), kit_lt_T, r⟩
    refine isi _ ?_
    walk_at "st"
    have hs1 := sq_same s1 hs
    refine ⟨p, xs, rfl, hs1, ?_⟩
    walk_at "st"
    have no : ∀ H', Same H H' → (¬ (1 ≤ xs.length ∧ xs.length ≤ 2000)) → Q (.bl false) H' := fun H' e hn => q false H' e ⟨fun z => (by cases z), fun ⟨ns, e1, r1, r2, _⟩ => (hn (by rw [e1, List.length_map]; exact ⟨r1, r2⟩)).elim⟩
    by_cases h1 : (1 : Int) ≤ (xs.length : Int)
    · refine i_dT h1 ?_
      walk_at "st"
      by_cases h2 : (xs.length : Int) ≤ 2000
      · refine i_nT h2 ?_
        walk_at "st"
        have hf : ∃ f : V → Bool, ∀ x ∈ xs, IntQ K H x (f x) := by
          classical
          refine ⟨fun x => if h : ∃ b, IntQ K H x b then h.choose else false, fun x hx => ?_⟩
          have := hi x hx
          dsimp only
          rw [dif_pos this]
          exact this.choose_spec
        obtain ⟨f, hf⟩ := hf
        refine lt_map (p := p) (fun x => .bl (f x)) hs1 hz (fun _ => rfl) (fun x hx H2 e2 R r => ?_) (fun D H' hD e2 hl => ?_) (fun S z => i_var rfl z)
        · walk_at "st"
          exact ⟨rfl, x, f x, rfl, (hf x hx).same (s1.trans e2), r H2 (Same.refl _)⟩
        walk_at "st"
        have e3 : xs.map (fun x => V.bl (f x)) = (xs.map f).map V.bl := by rw [List.map_map]; rfl
        rw [e3] at hl
        refine ⟨D, xs.map f, rfl, SqL.of hl, ?_⟩
        walk_at "st"
        have e5 : (xs.map f).all id = xs.all f := by rw [List.all_map]; rfl
        rw [e5]
        cases ha : xs.all f with
        | false =>
          walk_at "st"
          refine q false H' (s1.trans e2) ⟨fun z => (by cases z), fun ⟨ns, e1, _⟩ => ?_⟩
          have : xs.all f = true := List.all_eq_true.mpr fun x hx => by
            rcases hf x hx with ⟨i, _, e⟩ | ⟨_, t, b1, b2, ty, k1, k2, k3⟩
            · exact e
            · rw [e1] at hx
              obtain ⟨i, _, rfl⟩ := List.mem_map.mp hx
              cases ty with
              | base b =>
                cases b
                have z1 : PySem.W.kitOne K (.type "int") (.type "int") = some true := kit_ty (by decide +kernel)
                have z2 : PySem.W.kitOne K (.type "int") (.type "bool") = some false := kit_ty (by decide +kernel)
                rw [z1] at k1
                rw [z2] at k2
                cases k1
                cases k2
                cases k3
          rw [this] at ha
          cases ha
        | true =>
          walk_at "st"
          obtain ⟨ns, rfl⟩ := ints_of hf ha
          rw [List.length_map] at h1 h2 hz
          have hs2 := sq_same e2 hs1
          refine lt_map (p := p) (fun x => match x with | .int i => .int (absI i) | y => y) hs2 (by rw [List.length_map]; exact hz) (fun _ => rfl) (fun x hx H3 e3 R r => ?_) (fun D2 H2 hD2 e3 hl2 => ?_) (fun S z => i_var rfl z)
          · obtain ⟨i, _, rfl⟩ := List.mem_map.mp hx
            walk_at "st"
            exact r H3 (Same.refl _)
          have e4 : (ns.map V.int).map (fun x => match x with | .int i => V.int (absI i) | y => y) = (ns.map absI).map V.int := by rw [List.map_map, List.map_map]; rfl
          rw [e4] at hl2
          walk_at "st"
          refine ⟨D2, ns.map absI, rfl, SqL.of hl2, fun ns' p2 hp ho hn2 => ?_⟩
          have hs3 := sq_same (Same.new (o := .lst (ns'.map V.int)) hn2) (sq_same e3 hs2)
          walk_at "st"
          refine ⟨p, _, rfl, hs3, ?_⟩
          walk_at "st"
          refine ⟨_, _, rfl, rfl, ?_, fun p3 hp3 => ?_⟩
          · rw [List.length_map]
            exact RgOk.of_le (by omega) (by omega) (by omega) (by omega)
          have n3 : p2 ≠ p3 := ne_of_none upd_same hp3
          refine eq_hd (hd_intsL (ns := ns') (SqL.of ?_)) (hd_intsL (ns := rgI 1 ns.length) (SqL.of ?_)) (q _ _ ?_ ?_)
          · rw [upd_ne n3, upd_same]
          · rw [upd_same, rgV_eq _ ns.length 1 (by rw [List.length_map]; omega)]
          · exact (((s1.trans e2).trans e3).trans (Same.new hn2)).trans (Same.new hp3)
          · rw [RowAns, decide_eq_true_eq]
            constructor
            · intro e
              exact ⟨ns, rfl, by omega, by omega, by rw [← e]; exact hp.symm⟩
            · rintro ⟨ms, e1, r1, r2, r3⟩
              have e2 := inj_ints _ _ e1
              subst e2
              exact List.Perm.eq_of_pairwise (fun x y _ _ h1 h2 => Int.le_antisymm h1 h2) ho (pw_rg _ _) (hp.trans r3)
      · refine i_nF h2 ?_
        walk_at "st"
        exact no _ s1 (by omega)
    · refine i_dF h1 ?_
      walk_at "st"
      exact no _ s1 (by omega)
  · walk_at "st"
    refine ⟨by show 2 ≤ sizeLine; decide, fun tp htp => ?_⟩
    walk_at "st"
    refine ⟨v, tp, [.ty "list", .ty "tuple"], t, [.type "list", .type "tuple"], false, rfl, upd_same, .cons (.ty _) (.cons (.ty _) .nil), TyX.same (Same.new htp) ty, ek, ?_⟩
    walk_at "st"
    exact q _ (Same.new htp)

/-! ### the class Arrangement -/
/-- what of the class the readings ask -/
structure ArrC (K : PySem.W.Frag) (a : Ad) : Prop where
  cl : Cls K a.Arrangement
  no : NoAttr K a.Arrangement "cards"
def ArrAt (K : PySem.W.Frag) (a : Ad) (H : Hp) (x : Addr) (row : List Int) : Prop :=
  ∃ dx t, H x = some (.ins a.Arrangement dx [("cards", .ref t)]) ∧ SqT K H t (row.map V.int) ∧ IsRow row
theorem ArrAt.same {x : Addr} {row : List Int} (e : Same H H') (h : ArrAt K a H x row) : ArrAt K a H' x row := by
  obtain ⟨dx, t, h1, h2, h3⟩ := h
  exact ⟨dx, t, e _ _ h1, Same.seqT e h2, h3⟩
/-- H' knows all that H knows, but for what stands at x -/
def Off (x : Addr) (H H' : Hp) : Prop := ∀ b o, b ≠ x → H b = some o → H' b = some o
theorem Off.refl (x : Addr) (H : Hp) : Off x H H := fun _ _ _ h => h
theorem sm_off {x : Addr} (e : Same H H') : Off x H H' := fun b o _ h => e b o h
theorem Off.trans {x : Addr} {H1 : Hp} (e : Off x H H1) (e2 : Off x H1 H') : Off x H H' := fun b o n h => e2 b o n (e b o n h)
theorem Off.upd {x : Addr} {o : HO} (e : Off x H H') : Off x H (upd H' x o) := fun b u n h => by rw [upd_ne n]; exact e b u n h
theorem Off.sqT {x p : Addr} {xs : List V} {o : HO} (e : Off x H H') (hx : H x = some o) (ht : ∀ zs, o ≠ .tup zs) (hf : ∀ q zs, o ≠ .frz q (.tup zs)) (h : SqT K H p xs) : SqT K H' p xs := by
  rcases h with (h | ⟨q, h⟩) | h
  · exact .inl (.inl (e _ _ (ne_of h hx (fun z => ht _ z.symm)) h))
  · exact .inl (.inr ⟨q, e _ _ (ne_of h hx (fun z => hf _ _ z.symm)) h⟩)
  · exact .inr h
theorem Off.sqL {x p : Addr} {xs : List V} {o : HO} (e : Off x H H') (hx : H x = some o) (ht : ∀ zs, o ≠ .lst zs) (hf : ∀ q zs, o ≠ .frz q (.lst zs)) (h : SqL K H p xs) : SqL K H' p xs := by
  rcases h with (h | ⟨q, h⟩) | h
  · exact .inl (.inl (e _ _ (ne_of h hx (fun z => ht _ z.symm)) h))
  · exact .inl (.inr ⟨q, e _ _ (ne_of h hx (fun z => hf _ _ z.symm)) h⟩)
  · exact .inr h
/-- what was not there may be anything -/
theorem Off.all {x : Addr} (e : Off x H H') (n : H x = none) : Same H H' := fun b o h => e b o (ne_of_none h n) h
theorem intq_ints {ns : List Int} : ∀ x ∈ ns.map V.int, ∃ b, IntQ K H x b := fun x hx => by
  obtain ⟨i, _, rfl⟩ := List.mem_map.mp hx
  exact ⟨true, .int i⟩
/-- Arrangement(row), row an arrangement -/
def sp_Arrangement___init__ (K : PySem.W.Frag) (a : Ad) : Sp := fun vs H Q _ => vs.length = 2 ∧ ∃ (x dx p : Addr) (ns : List Int), vs = [.ref x, .ref p] ∧ H x = some (.ins a.Arrangement dx []) ∧ (SqL K H p (ns.map V.int) ∨ SqT K H p (ns.map V.int)) ∧ IsRow ns ∧
  ∀ H', Off x H H' → ArrAt K a H' x ns → Q .non H'
def t_Arrangement___init__ (K : PySem.W.Frag) (a : Ad) : TS := tSeq (tIfS (tNot (tB (tSMeth a.Arrangement (sp_Arrangement_is_row K a) E0 (tC (.ref a.Arrangement)) (tCons (tVar 1) (tNil))))) (tNever) (tNext))
  (sFld K (tVar 0) (tCB (rTupS K) (tCons (tVar 1) (tNil))) "cards")
theorem pure_Arrangement___init__ (c : ArrC K a) (h : sp_Arrangement___init__ K a vs H Q E) : Run (t_Arrangement___init__ K a) 2 vs H Q := by
  obtain ⟨_, x, dx, p, ns, rfl, hx, hs, hr, q⟩ := h
  unfold Run t_Arrangement___init__
  walk_at "st"
  refine ⟨rfl, ?_⟩
  walk_at "st"
  refine ⟨rfl, _, rfl, .inl ⟨p, _, rfl, hs, intq_ints, ?_, fun b H1 e1 ans => ?_⟩⟩
  · rw [List.length_map]
    exact Nat.le_trans hr.2.1 (by decide)
  obtain rfl : b = true := ans.mpr ⟨ns, rfl, hr⟩
  walk_at "st"
  have hx1 := e1 _ _ hx
  have fin : ∀ t H2, Same H1 H2 → SqT K H2 t (ns.map V.int) → sFld K (tVar 0) (fun _ _ R => R (.ref t) H2) "cards" { nx := fun _ H' => Q .non H', rt := Q } [some (.ref x), some (.ref p)] H := fun t H2 e2 ht => by
    have hx2 := e2 _ _ hx1
    walk_at "st"
    refine ⟨x, _, dx, _, rfl, hx2, c.cl, c.no, by decide, ?_⟩
    have off : Off x H2 (upd H2 x (.ins a.Arrangement dx [("cards", .ref t)])) := Off.upd (Off.refl x H2)
    exact q _ (((sm_off e1).trans (sm_off e2)).trans off) ⟨dx, t, upd_same, off.sqT hx2 (fun _ z => by cases z) (fun _ _ z => by cases z) ht, hr⟩
  rcases sq_same e1 hs with h1 | h1
  · exact ⟨p, _, rfl, .inl ⟨h1, fun t ht => fin t _ (Same.new ht) (SqT.of upd_same)⟩⟩
  · exact ⟨p, _, rfl, .inr ⟨h1, fin p _ (Same.refl _) h1⟩⟩
def sp_Arrangement_row (K : PySem.W.Frag) (a : Ad) : Sp := fun vs H Q _ => vs.length = 1 ∧ ∃ x row, vs = [.ref x] ∧ ArrAt K a H x row ∧ ∀ t, SqT K H t (row.map V.int) → Q (.ref t) H
def t_Arrangement_row (K : PySem.W.Frag) (a : Ad) : TS := tRet (tFld K (tVar 0) "cards")
theorem pure_Arrangement_row (c : ArrC K a) (h : sp_Arrangement_row K a vs H Q E) : Run (t_Arrangement_row K a) 1 vs H Q := by
  obtain ⟨_, x, row, rfl, ⟨dx, t, h1, h2, _⟩, q⟩ := h
  unfold Run t_Arrangement_row
  walk_at "st"
  exact ⟨x, _, dx, _, .ref t, rfl, h1, c.cl, c.no, rfl, q t h2⟩
def sp_Arrangement___len__ (K : PySem.W.Frag) (a : Ad) : Sp := fun vs H Q _ => vs.length = 1 ∧ ∃ x row, vs = [.ref x] ∧ ArrAt K a H x row ∧ Q (.int (row.length : Nat)) H
def t_Arrangement___len__ (K : PySem.W.Frag) (a : Ad) : TS := tRet (tCB (rLenS K) (tCons (tFld K (tVar 0) "cards") (tNil)))
theorem pure_Arrangement___len__ (c : ArrC K a) (h : sp_Arrangement___len__ K a vs H Q E) : Run (t_Arrangement___len__ K a) 1 vs H Q := by
  obtain ⟨_, x, row, rfl, ⟨dx, t, h1, h2, _⟩, q⟩ := h
  unfold Run t_Arrangement___len__
  walk_at "st"
  refine ⟨x, _, dx, _, .ref t, rfl, h1, c.cl, c.no, rfl, ?_⟩
  walk_at "st"
  refine i_lenT h2 ?_
  rw [List.length_map]
  exact q

/-! ### the law's pool of random numbers -/
/-- a pool stands at p: its two numbers are not negative, the second is small -/
def PoolAt (H : Hp) (p : Addr) : Prop := ∃ A B : Int, H p = some (.lst [.int A, .int B]) ∧ 0 ≤ A ∧ 0 ≤ B ∧ B < 2147483647
def sp__law_pool (K : PySem.W.Frag) (a : Ad) : Sp := fun vs H Q _ => vs.length = 2 ∧ ∃ (s : Addr) (ns : List Int) (k : Int), vs = [.ref s, .int k] ∧ SqL K H s (ns.map V.int) ∧ 0 ≤ k ∧ k < 1000 ∧
  ∀ p o, H p = none → PoolAt (upd H p o) p → Q (.ref p) (upd H p o)
def t__law_pool (K : PySem.W.Frag) (a : Ad) : TS := tSeq (tAsg (tC (.int 0)) (gName 2))
  (tSeq (tIfS (tTest (tOp (rLtI) (tVar 1) (tCB (rLenS K) (tCons (tVar 0) (tNil))))) (tAsg (tCB (rAbs) (tCons (tOp (rIxL K) (tVar 0) (tVar 1)) (tNil))) (gName 2)) (tNext))
  (tSeq (tAsg (tOp (rModI) (tOp (rMulI) (tOp (rAddI) (tOp (rAddI) (tOp (rAddI) (tOp (rModI) (tVar 2) (tC (.int 2147483629))) (tOp (rMulI) (tOp (rMulI) (tC (.int 7919)) (tVar 1)) (tVar 1))) (tOp (rMulI) (tC (.int 31)) (tVar 1))) (tC (.int 17))) (tC (.int 48271))) (tC (.int 2147483647))) (gName 3))
  (tRet (tLst (tCons (tOp (rMulI) (tVar 2) (tCB (rInt1) (tCons (tOp (rGeI) (tVar 2) (tOp (rPowI) (tC (.int 10)) (tC (.int 18)))) (tNil)))) (tCons (tOp (rModI) (tOp (rMulI) (tVar 3) (tVar 3)) (tC (.int 2147483629))) (tNil)))))))
theorem pure__law_pool (h : sp__law_pool K a vs H Q E) : Run (t__law_pool K a) 4 vs H Q := by
  obtain ⟨_, s, ns, k, rfl, hs, k0, k1, q⟩ := h
  unfold Run t__law_pool
  have fin : ∀ (c m : Int) (b : Bool), 0 ≤ c → [V.int (c * if b = true then 1 else 0), V.int (m % 2147483629)].length ≤ sizeLine ∧ ∀ p, H p = none → Q (.ref p) (upd H p (.lst [V.int (c * if b = true then 1 else 0), V.int (m % 2147483629)])) := by
    intro c m b hc
    refine ⟨by show 2 ≤ sizeLine; decide, fun p hp => q p _ hp ⟨_, _, upd_same, ?_, by omega, by omega⟩⟩
    cases b with
    | true => rw [if_pos rfl]; omega
    | false => rw [if_neg Bool.false_ne_true]; omega
  walk_at "st"
  refine i_lenL hs ?_
  walk_at "st"
  by_cases hk : k < ((ns.map V.int).length : Nat)
  · refine i_dT hk ?_
    walk_at "st"
    rw [List.length_map] at hk
    have hg : (ns.map V.int)[k.toNat]? = some (.int (ns.getD k.toNat 0)) := by
      rw [List.getElem?_map, List.getD_eq_getElem?_getD]
      cases e : ns[k.toNat]? with
      | none =>
        have := List.getElem?_eq_none_iff.mp e
        omega
      | some z => rfl
    have ek : k = ((k.toNat : Nat) : Int) := by omega
    refine i_ixL hs (by rw [ek]; exact atI_nat hg) ?_
    walk_at "st"
    refine fin _ _ _ ?_
    unfold absI
    split <;> omega
  · refine i_dF hk ?_
    walk_at "st"
    exact fin 0 _ _ (Int.le_refl 0)
/-- all but what stands at p is as it was -/
def Kept (p : Addr) (H H' : Hp) : Prop := ∀ b, b ≠ p → H' b = H b
theorem Kept.off {p : Addr} (k : Kept p H H') : Off p H H' := fun b o n h => (k b n).trans h
def sp__law_take (K : PySem.W.Frag) (a : Ad) : Sp := fun vs H Q _ => vs.length = 2 ∧ ∃ (p : Addr) (m : Int), vs = [.ref p, .int m] ∧ PoolAt H p ∧ 0 < m ∧ m ≤ 10000000000000000000000000000000000000000 ∧
  ∀ r H', 0 ≤ r → r < m → Kept p H H' → PoolAt H' p → Q (.int r) H'
def t__law_take (K : PySem.W.Frag) (a : Ad) : TS := tSeq (tIfS (tTest (tOp (rGtI) (tOp (rIxL K) (tVar 0) (tC (.int 0))) (tC (.int 0)))) (tSeq (tAsg (tOp (rModI) (tOp (rIxL K) (tVar 0) (tC (.int 0))) (tVar 1)) (gName 2))
  (tSeq (tAsg (tOp (rDivI) (tOp (rIxL K) (tVar 0) (tC (.int 0))) (tVar 1)) (gSub (tVar 0) (tC (.int 0)) rSetL))
  (tRet (tVar 2)))) (tNext))
  (tSeq (tAsg (tOp (rModI) (tOp (rAddI) (tOp (rMulI) (tOp (rIxL K) (tVar 0) (tC (.int 1))) (tC (.int 48271))) (tC (.int 12345))) (tC (.int 2147483647))) (gSub (tVar 0) (tC (.int 1)) rSetL))
  (tRet (tOp (rModI) (tOp (rDivI) (tOp (rModI) (tOp (rMulI) (tOp (rIxL K) (tVar 0) (tC (.int 1))) (tOp (rIxL K) (tVar 0) (tC (.int 1)))) (tC (.int 2147483629))) (tC (.int 64))) (tVar 1))))
theorem pure__law_take (h : sp__law_take K a vs H Q E) : Run (t__law_take K a) 3 vs H Q := by
  obtain ⟨_, p, m, rfl, ⟨A, B, hp, A0, B0, B1⟩, m0, m1, q⟩ := h
  unfold Run t__law_take
  walk_at "st"
  refine i_ixL (SqL.of hp) (v := .int A) rfl ?_
  walk_at "st"
  by_cases hA : 0 < A
  · refine i_dT hA ?_
    walk_at "st"
    refine i_ixL (SqL.of hp) (v := .int A) rfl ?_
    walk_at "st"
    refine i_ixL (SqL.of hp) (v := .int A) rfl ?_
    walk_at "st"
    refine i_setL hp (j := 0) rfl ?_
    walk_at "st"
    exact q _ _ (Int.emod_nonneg _ (by omega)) (Int.emod_lt_of_pos _ m0) (fun b n => upd_ne n) ⟨_, B, upd_same, Int.ediv_nonneg A0 (by omega), B0, B1⟩
  · refine i_dF hA ?_
    walk_at "st"
    refine i_ixL (SqL.of hp) (v := .int B) rfl ?_
    walk_at "st"
    refine i_setL hp (j := 1) rfl ?_
    walk_at "st"
    have hp2 : upd H p (.lst [.int A, .int ((B * 48271 + 12345) % 2147483647)]) p = some (.lst [.int A, .int ((B * 48271 + 12345) % 2147483647)]) := upd_same
    refine i_ixL (SqL.of hp2) (v := .int ((B * 48271 + 12345) % 2147483647)) rfl ?_
    walk_at "st"
    refine i_ixL (SqL.of hp2) (v := .int ((B * 48271 + 12345) % 2147483647)) rfl ?_
    walk_at "st"
    exact q _ _ (Int.emod_nonneg _ (by omega)) (Int.emod_lt_of_pos _ m0) (fun b n => upd_ne n) ⟨A, _, upd_same, A0, by omega, by omega⟩

/-- a row of m cards, from 1 to m -/
def sp__law_cards (K : PySem.W.Frag) (a : Ad) : Sp := fun vs H Q _ => vs.length = 2 ∧ ∃ (p : Addr) (m : Int), vs = [.ref p, .int m] ∧ PoolAt H p ∧ 1 ≤ m ∧ m ≤ 2000 ∧
  ∀ (t : Addr) (row : List Int) H', H t = none → Off p H H' → PoolAt H' p → H' t = some (.tup (row.map V.int)) → row.length = m.toNat → IsRow row → Q (.ref t) H'
def t__law_cards (K : PySem.W.Frag) (a : Ad) : TS := tSeq (tPar 3 4 (tCons (tLstRg (tRg2 (tC (.int 1)) (tOp (rAddI) (tVar 1) (tC (.int 1))))) (tCons (tLst (tNil)) (tNil))))
  (tSeq (tFor (iRng1 (tCons (tVar 1) (tNil))) (gName 2) (tSeq (tAsg (tBM K "list" (rPopAt) (tVar 3) (tCons (tCallR (sp__law_take K a) E0 (tCons (tVar 0) (tCons (tCB (rLenS K) (tCons (tVar 3) (tNil))) (tNil)))) (tNil))) (gName 5))
  (tDrop (tBM K "list" (rAppend) (tVar 4) (tCons (tOp (rIxL K) (tLst (tCons (tVar 5) (tCons (tOp (rSubI) (tC (.int 0)) (tVar 5)) (tNil)))) (tCallR (sp__law_take K a) E0 (tCons (tVar 0) (tCons (tC (.int 2)) (tNil))))) (tNil))))))
  (tRet (tCB (rTupS K) (tCons (tVar 4) (tNil)))))
theorem erase_map {α β : Type} (f : α → β) : ∀ (l : List α) (k : Nat), (l.map f).eraseIdx k = (l.eraseIdx k).map f
  | [], _ => by simp
  | _ :: _, 0 => rfl
  | x :: l, k + 1 => congrArg (f x :: ·) (erase_map f l k)
theorem erase_perm {α : Type} : ∀ (l : List α) (k : Nat) (h : k < l.length), (l[k] :: l.eraseIdx k).Perm l
  | x :: l, 0, _ => List.Perm.refl _
  | x :: l, k + 1, h => (List.Perm.swap x _ _).trans ((erase_perm l k (Nat.lt_of_succ_lt_succ h)).cons x)
/-- behind i turns -/
structure CardsI (H0 H : Hp) (p r q : Addr) (m : Nat) (i : Nat) (rest res : List Int) : Prop where
  off : Off p H0 H
  pool : PoolAt H p
  hr : H r = some (.lst (rest.map V.int))
  hq : H q = some (.lst (res.map V.int))
  rp : r ≠ p
  qp : q ≠ p
  rq : r ≠ q
  len : res.length = i
  perm : (rest ++ res.map absI).Perm (rgI 1 m)
theorem CardsI.restlen {H0 H : Hp} {p r q : Addr} {m i : Nat} {rest res : List Int} (c : CardsI H0 H p r q m i rest res) : rest.length + i = m := by
  have := c.perm.length_eq
  rw [List.length_append, List.length_map, rgI_length, c.len] at this
  exact this
theorem pure__law_cards (h : sp__law_cards K a vs H Q E) : Run (t__law_cards K a) 6 vs H Q := by
  obtain ⟨_, p, m, rfl, hp, m0, m1, q⟩ := h
  unfold Run t__law_cards
  walk_at "st"
  refine ⟨_, _, rfl, rfl, RgOk.of_le (by omega) (by omega) (by omega) (by omega), fun r hr => ?_⟩
  walk_at "st"
  refine ⟨Nat.zero_le _, fun l hl => ?_⟩
  walk_at "st"
  refine ⟨_, _, rfl, ?_⟩
  walk_at "st"
  have hpr : r ≠ p := fun e => by obtain ⟨A, B, e1, _⟩ := hp; rw [← e, hr] at e1; cases e1
  have hlr : l ≠ r := fun e => by rw [e, upd_same] at hl; cases hl
  have hl0 : H l = none := by rw [upd_ne hlr] at hl; exact hl
  have hpl : l ≠ p := fun e => by obtain ⟨A, B, e1, _⟩ := hp; rw [← e, hl0] at e1; cases e1
  have c0 : CardsI H (upd (upd H r (.lst (rgV 1 (m + 1)))) l (.lst [])) p r l m.toNat 0 (rgI 1 m.toNat) [] := by
    refine ⟨sm_off (Same.mut (Same.new hr) hl0), ?_, ?_, upd_same, hpr, hpl, hlr.symm, rfl, ?_⟩
    · obtain ⟨A, B, e1, e2⟩ := hp
      exact ⟨A, B, by rw [upd_ne hpl.symm, upd_ne hpr.symm]; exact e1, e2⟩
    · rw [upd_ne hlr.symm, upd_same, rgV_eq _ m.toNat 1 (by omega)]
    · rw [List.map_nil, List.append_nil]
  refine ⟨m, rfl, by omega, by omega, for_range (lo := 0) (n := m.toNat) (fun i σ H' => ∃ (rest res : List Int) (x y : Option V), σ = [some (.ref p), some (.int m), x, some (.ref r), some (.ref l), y] ∧ CardsI H H' p r l m.toNat i rest res)
    ⟨_, _, none, none, rfl, c0⟩ ?_ ?_⟩
  · rintro i σ H1 hi ⟨rest, res, x, y, rfl, c⟩
    have hrl := c.restlen
    walk_at "st"
    refine ⟨.inl ⟨rfl, _, SqL.of c.hr⟩, ?_⟩
    walk_at "st"
    refine i_lenL (SqL.of c.hr) ?_
    walk_at "st"
    rw [List.length_map]
    refine ⟨rfl, p, _, rfl, c.pool, by omega, by omega, fun k H2 k0 k1 kept pool2 => ?_⟩
    walk_at "st"
    have hk : k.toNat < rest.length := by omega
    have hr2 : H2 r = some (.lst (rest.map V.int)) := (kept r c.rp).trans c.hr
    refine i_popAt hr2 k0 (by rw [List.length_map]; exact k1) (by rw [List.length_map]; omega) (y := .int rest[k.toNat]) (by rw [List.getElem?_map, List.getElem?_eq_getElem hk]; rfl) ?_
    walk_at "st"
    have hq2 : H2 l = some (.lst (res.map V.int)) := (kept l c.qp).trans c.hq
    have er : (rest.map V.int).eraseIdx k.toNat = (rest.eraseIdx k.toNat).map V.int := erase_map _ _ _
    rw [er]
    have hq3 : upd H2 r (.lst ((rest.eraseIdx k.toNat).map V.int)) l = some (.lst (res.map V.int)) := by rw [upd_ne c.rq.symm]; exact hq2
    refine ⟨.inl ⟨rfl, _, SqL.of hq3⟩, ?_⟩
    walk_at "st"
    refine ⟨by show 2 ≤ sizeLine; decide, fun l2 hl2 => ?_⟩
    walk_at "st"
    have n2r : l2 ≠ r := fun e => by rw [e, upd_same] at hl2; cases hl2
    have hl2' : H2 l2 = none := by rw [upd_ne n2r] at hl2; exact hl2
    have n2l : l2 ≠ l := fun e => by rw [e, hq2] at hl2'; cases hl2'
    have n2p : l2 ≠ p := fun e => by obtain ⟨A, B, e1, _⟩ := pool2; rw [← e, hl2'] at e1; cases e1
    have pool3 : PoolAt (upd (upd H2 r (.lst ((rest.eraseIdx k.toNat).map V.int))) l2 (.lst [.int rest[k.toNat], .int (0 - rest[k.toNat])])) p := by
      obtain ⟨A, B, e1, e2⟩ := pool2
      exact ⟨A, B, by rw [upd_ne n2p.symm, upd_ne c.rp.symm]; exact e1, e2⟩
    refine ⟨rfl, p, _, rfl, pool3, by omega, by omega, fun j H3 j0 j1 kept3 pool4 => ?_⟩
    have hl3 : H3 l2 = some (.lst [.int rest[k.toNat], .int (0 - rest[k.toNat])]) := (kept3 l2 n2p).trans upd_same
    have hq4 : H3 l = some (.lst (res.map V.int)) := (kept3 l c.qp).trans (by rw [upd_ne n2l.symm]; exact hq3)
    have hr4 : H3 r = some (.lst ((rest.eraseIdx k.toNat).map V.int)) := (kept3 r c.rp).trans (by rw [upd_ne n2r.symm, upd_same])
    have off4 : Off p H H3 := fun b o n hb => by
      rw [kept3 b n, upd_ne (fun e => by rw [e] at hb; have := c.off _ _ n2p hb; rw [← kept l2 n2p, hl2'] at this; cases this), upd_ne (fun e => by rw [e, hr] at hb; cases hb), kept b n]
      exact c.off b o n hb
    have fin : ∀ z : Int, absI z = rest[k.toNat] → rAppend (.ref l) [.int z] H3 fun v H' => ∃ (rest' res' : List Int) (x y : Option V),
        [some (V.ref p), some (V.int m), some (V.int (0 + (i : Int))), some (V.ref r), some (V.ref l), some (V.int rest[k.toNat])] = [some (.ref p), some (.int m), x, some (.ref r), some (.ref l), y] ∧ CardsI H H' p r l m.toNat (i + 1) rest' res' := by
      intro z hz
      refine i_app hq4 (by rw [List.length_map, c.len]; omega) ?_
      refine ⟨rest.eraseIdx k.toNat, res ++ [z], _, _, rfl, ?_, ?_, ?_, ?_, c.rp, c.qp, c.rq, ?_, ?_⟩
      · exact fun b o n hb => by rw [upd_ne (fun e => by rw [e, hl0] at hb; cases hb)]; exact off4 b o n hb
      · obtain ⟨A, B, e1, e2⟩ := pool4
        exact ⟨A, B, by rw [upd_ne c.qp.symm]; exact e1, e2⟩
      · rw [upd_ne c.rq]; exact hr4
      · rw [upd_same, List.map_append]; rfl
      · rw [List.length_append, c.len]; rfl
      · rw [List.map_append, List.map_cons, List.map_nil, hz, ← List.append_assoc]
        refine List.Perm.trans ?_ c.perm
        refine List.Perm.trans List.perm_append_comm ?_
        show ((rest[k.toNat]) :: (rest.eraseIdx k.toNat ++ res.map absI)).Perm _
        rw [← List.cons_append]
        exact List.Perm.append_right _ (erase_perm rest k.toNat hk)
    have pos : 1 ≤ rest[k.toNat] := (mem_rgI.mp (c.perm.mem_iff.mp (List.mem_append_left _ (List.getElem_mem hk)))).1
    have hj : j = 0 ∨ j = 1 := by omega
    rcases hj with rfl | rfl
    · refine i_ixL (SqL.of hl3) (v := .int rest[k.toNat]) rfl ?_
      walk_at "st"
      exact fin _ (by unfold absI; rw [if_neg (by omega)])
    · refine i_ixL (SqL.of hl3) (v := .int (0 - rest[k.toNat])) rfl ?_
      walk_at "st"
      exact fin _ (by unfold absI; rw [if_pos (by omega)]; omega)
  · rintro σ H1 ⟨rest, res, x, y, rfl, c⟩
    have hrl := c.restlen
    have hnil : rest = [] := List.length_eq_zero_iff.mp (by omega)
    subst hnil
    walk_at "st"
    refine ⟨l, _, rfl, .inl ⟨SqL.of c.hq, fun t ht => ?_⟩⟩
    have off2 : Off p H (upd H1 t (.tup (res.map V.int))) := fun b o n hb => by
      rw [upd_ne (ne_of_none (c.off b o n hb) ht)]
      exact c.off b o n hb
    have hperm := c.perm
    rw [List.nil_append] at hperm
    have htp : t ≠ p := fun e => by obtain ⟨A, B, e1, _⟩ := c.pool; rw [← e, ht] at e1; cases e1
    have ht0 : H t = none := by
      cases e : H t with
      | none => rfl
      | some o => have := c.off t o htp e; rw [ht] at this; cases this
    refine q t res _ ht0 off2 ?_ upd_same c.len ⟨by rw [c.len]; omega, by rw [c.len]; omega, by rw [c.len]; exact hperm⟩
    obtain ⟨A, B, e1, e2⟩ := c.pool
    exact ⟨A, B, by rw [upd_ne htp.symm]; exact e1, e2⟩
end
end TC

set_option Elab.async false
set_option linter.all false
set_option maxRecDepth 100000
set_option maxHeartbeats 4000000
/-! Steps through the readings of calls that may raise, of clauses, of sequences. -/
namespace TC
open PySem PySem.Spec PyProof.Rows L2
section
variable {K : PySem.W.Frag} {a : Ad} {H H' : Hp} {Q : VK} {E : XK} {vs : List V} {σ : L2.St} {te to : TE} {aa : TA} {D : Ends} {W Wo : WX} {sp : Sp} {C : Addr} {f : Str}
theorem i_callW (h : aa σ H fun vs H1 => sp vs H1 Q (WE W σ)) : tCallW sp W aa σ H Q := h
theorem i_makeW (h : aa σ H fun vs H1 => MkG C sp (WE W σ) vs Q H1) : tMakeW C sp W aa σ H Q := h
theorem i_raise (h : te σ H fun v H1 => RaiseQ K C f v H1 fun cls d H' => W cls d σ H') : tRaise K C f W te D σ H := h
theorem i_try {tb : WX → TS} {l : List Cl} (h : tb (wCl K Wo D l) D σ H) : tTry K Wo tb l D σ H := h
theorem i_par3 {i j l : Nat} (h : aa σ H fun vs H1 => ∃ u v w, vs = [u, v, w] ∧ D.nx (((σ.set i (some u)).set j (some v)).set l (some w)) H1) : tPar3 i j l aa D σ H := h
theorem i_rng3 {R : It → Hp → Prop} (h : aa σ H fun vs H1 => ∃ (i j c : Int) (n : Nat), vs = [.int i, .int j, .int c] ∧ RgC i j c n ∧ R (Itc i c n) H1) : iRng3 aa σ H R := h
theorem i_revL (h : te σ H fun x H1 => ∃ a xs, x = .ref a ∧ SqL K H1 a xs ∧ ∀ p, H1 p = none → Q (.ref p) (upd H1 p (.lst xs.reverse))) : tRevL K te σ H Q := h
theorem i_star {R : List V → Hp → Prop} (h : te σ H fun x H1 => ∃ p xs, x = V.ref p ∧ (SqT K H1 p xs ∨ SqL K H1 p xs) ∧ aa σ H1 fun ys H2 => R (xs ++ ys) H2) : StX.tStar K te aa σ H R := h
def XfG (e : Addr) (cls : Value) (d : Option Addr) (C : Addr) (f : Str) (Q : VK) (x : V) (H1 : Hp) : Prop := x = .ref e ∧ cls = .ref C ∧ ∃ (dd : Addr) (fs : List (Str × V)) (v : V), d = some dd ∧ H1 dd = some (.xd fs) ∧ fs.lookup f = some v ∧ Q v H1
theorem i_xf {e : Addr} {cls : Value} {d : Option Addr} (h : te σ H (XfG e cls d C f Q)) : tXf e cls d C f te σ H Q := h
/-- the field of the error that the suite holds -/
theorem xf_ok {e dd : Addr} {v : V} (hd : H dd = some (.xd [(f, v)])) (q : Q v H) : XfG e (.ref C) (some dd) C f Q (.ref e) H :=
  ⟨rfl, rfl, dd, _, v, rfl, hd, by simp [List.lookup], q⟩
theorem i_isB {x y : Bool} (h : Q (.bl (decide (x = y))) H) : rIsB (.bl x) (.bl y) H Q := ⟨x, y, rfl, rfl, h⟩
theorem i_notB {x y : Bool} (h : Q (.bl (!decide (x = y))) H) : rNotB (.bl x) (.bl y) H Q := ⟨x, y, rfl, rfl, h⟩
theorem i_dnewK (h : tDNewK σ H Q) : tDNewK σ H Q := h
theorem isD_ok {D2 D e dd : Addr} {b : Bool} {fs : List (Str × V)} (hk : PySem.W.kitOne K (.ref D) (.ref D2) = some b) (hd : H dd = some (.xd fs)) (q : Q (.bl b) H) : rIsD K D e (.ref D) (some dd) [.ref e, .ref D2] H Q := ⟨D2, b, dd, fs, rfl, rfl, hk, rfl, hd, q⟩
theorem i_whl {c : TT} {tb : TS} (h : ∃ W : Nat → L2.St → Hp → Prop, (∃ m, W m σ H) ∧ ∀ m σ H, W m σ H → c σ H fun b H1 => if b = true then ∃ N : L2.St → Hp → Prop, (∀ σ' H', N σ' H' → ∃ m', m' < m ∧ W m' σ' H') ∧ tb { D with nx := N, ct := N, bk := D.nx } σ H1 else D.nx σ H1) : tWhile c tb D σ H := h
/-- a tuple that stands beside a list of one's own -/
theorem SqT.past {p t : Addr} {l xs : List V} (h : SqT K (upd H p (.lst l)) t xs) (e : Same H H') : SqT K H' t xs := by
  rcases h with (h | ⟨o, h⟩) | h
  · by_cases hp : t = p
    · rw [hp, upd_same] at h
      cases h
    · rw [upd_ne hp] at h
      exact .inl (.inl (e _ _ h))
  · by_cases hp : t = p
    · rw [hp, upd_same] at h
      cases h
    · rw [upd_ne hp] at h
      exact .inl (.inr ⟨o, e _ _ h⟩)
  · exact .inr h
theorem i_enT {p : Addr} {xs : List V} {R : It → Hp → Prop} (h : SqT K H p xs) (k : R (Ett K p) H) : ∃ a, [V.ref p] = [.ref a] ∧ (((∃ xs, SqL K H a xs) ∧ R (Ite K a) H) ∨ ((∃ xs, SqT K H a xs) ∧ R (Ett K a) H)) := ⟨p, rfl, .inr ⟨⟨xs, h⟩, k⟩⟩
theorem i_enL {p : Addr} {xs : List V} {R : It → Hp → Prop} (h : SqL K H p xs) (k : R (Ite K p) H) : ∃ a, [V.ref p] = [.ref a] ∧ (((∃ xs, SqL K H a xs) ∧ R (Ite K a) H) ∨ ((∃ xs, SqT K H a xs) ∧ R (Ett K a) H)) := ⟨p, rfl, .inl ⟨⟨xs, h⟩, k⟩⟩
/-- a new instance, made of a row at p -/
theorem make_okA {p : Addr} {ns : List Int} {R : VK} (hs : SqA K H p (ns.map V.int)) (hr : IsRow ns) (k : ∀ x H', H x = none → Same H H' → ArrAt K a H' x ns → R (.ref x) H') :
    MkG a.Arrangement (sp_Arrangement___init__ K a) E [.ref p] R H := by
  intro x dx nx nd ne
  have e1 : Same H (upd (upd H dx (.own x)) x (.ins a.Arrangement dx [])) := Same.mut (Same.new nd) nx
  exact ⟨rfl, x, dx, p, ns, rfl, upd_same, sq_same e1 hs, hr, fun H' off at_ => ⟨rfl, k x H' nx (fun b o h => off b o (ne_of_none h nx) (e1 b o h)) at_⟩⟩
/-! ### is_between -/
def BtQ (K : PySem.W.Frag) (H : Hp) (v : V) (lo hi : Int) (b : Bool) : Prop := (∃ i, v = .int i ∧ b = decide (lo ≤ i ∧ i ≤ hi)) ∨ (b = false ∧ IntQ K H v false)
theorem BtQ.same {v : V} {lo hi : Int} {b : Bool} (e : Same H H') (h : BtQ K H v lo hi b) : BtQ K H' v lo hi b := h.elim .inl fun z => .inr ⟨z.1, z.2.same e⟩
theorem btq_of {v : V} {b : Bool} (lo hi : Int) (h : IntQ K H v b) : ∃ b2, BtQ K H v lo hi b2 := by
  rcases h with ⟨i, rfl, _⟩ | ⟨rfl, z⟩
  · exact ⟨_, .inl ⟨i, rfl, rfl⟩⟩
  · exact ⟨false, .inr ⟨rfl, .inr ⟨rfl, z⟩⟩⟩
def sp_is_between (K : PySem.W.Frag) (a : Ad) : Sp := fun vs H Q _ => vs.length = 3 ∧ ∃ v lo hi b, vs = [v, .int lo, .int hi] ∧ BtQ K H v lo hi b ∧ Q (.bl b) H
def t_is_between (K : PySem.W.Frag) (a : Ad) : TS := tRet (tAndV (tCallR (sp_is_integer K a) E0 (tCons (tVar 0) (tNil))) (tChain (rLeI) (rLeI) (tVar 1) (tVar 0) (tVar 2)))
theorem pure_is_between (h : sp_is_between K a vs H Q E) : Run (t_is_between K a) 3 vs H Q := by
  obtain ⟨_, v, lo, hi, b, rfl, hq, q⟩ := h
  unfold Run t_is_between
  refine i_ret (i_andV (i_call (i_cons (i_var rfl (i_nil ?_)))))
  rcases hq with ⟨i, rfl, rfl⟩ | ⟨rfl, hq⟩
  · refine ⟨rfl, _, true, rfl, IntQ.int i, true, rfl, iteT ?_⟩
    refine i_chain (i_var rfl (i_var rfl (i_rI0 ⟨_, rfl, ?_⟩)))
    by_cases h1 : lo ≤ i
    · rw [decide_eq_true h1]
      refine iteT (i_var rfl (i_rI0 ?_))
      have : decide (lo ≤ i ∧ i ≤ hi) = decide (i ≤ hi) := by simp [h1]
      rw [this] at q
      exact q
    · rw [decide_eq_false h1]
      refine iteF ?_
      have : decide (lo ≤ i ∧ i ≤ hi) = false := by simp [h1]
      rw [this] at q
      exact q
  · exact ⟨rfl, v, false, rfl, hq, false, rfl, iteF q⟩
end
end TC

set_option Elab.async false
set_option linter.all false
set_option maxRecDepth 100000
set_option maxHeartbeats 4000000
/-! What repr shows of data, and how long it is. -/
namespace TC
open PySem PySem.Spec PyProof.Rows L2
theorem rp_negText (m : Nat) : Str.ofString (toString (Int.negSucc m)) = ⟨(45 :: (Nat.toDigits 10 (m + 1)).map Char.toNat).toArray⟩ := by
  have e : toString (Int.negSucc m) = "-" ++ Nat.repr (m + 1) := rfl
  rw [e, Str.ofString_eq_toList]
  unfold Nat.repr
  simp
theorem rp_num (k : Nat) (i : Int) (hk : 1 ≤ k) (h : i.natAbs < 10 ^ k) : (toString i : Str).length ≤ k + 1 := by
  cases i with
  | ofNat m =>
    have e : (toString (Int.ofNat m) : Str) = _ := text_ofNat m
    rw [e]
    show ((List.map Char.toNat (Nat.toDigits 10 m)).toArray).size ≤ _
    rw [List.size_toArray, List.length_map]
    have := digits10_le hk (show m < 10 ^ k from h)
    omega
  | negSucc m =>
    have e : (toString (Int.negSucc m) : Str) = _ := rp_negText m
    rw [e]
    show ((45 :: List.map Char.toNat (Nat.toDigits 10 (m + 1))).toArray).size ≤ _
    rw [List.size_toArray, List.length_cons, List.length_map]
    have := digits10_le hk (show m + 1 < 10 ^ k from h)
    omega
theorem rp_log {i : Int} (h : i.natAbs < 2 ^ 200) : i.natAbs.log2 < 1920 := Nat.lt_trans (PySem.Flt.log2_lt_of (by decide) h) (by decide)
/-- shown in at most m signs, at most k deep -/
structure RpO (d : PyData) (m k : Nat) : Prop where
  s : d.showable = true
  l : d.shown.length ≤ m
  p : d.depth ≤ k
theorem RpO.mono {d : PyData} {m k m2 k2 : Nat} (h : RpO d m k) (hm : m ≤ m2) (hk : k ≤ k2) : RpO d m2 k2 := ⟨h.s, Nat.le_trans h.l hm, Nat.le_trans h.p hk⟩
theorem rpo_int {i : Int} (h : i.natAbs < 10 ^ 50) : RpO (.int i) 51 0 := ⟨decide_eq_true (rp_log (Nat.lt_trans h (by decide))), rp_num 50 i (by decide) h, Nat.le_refl _⟩
theorem rpo_none : RpO .none 51 0 := ⟨rfl, by decide +kernel, Nat.le_refl _⟩
theorem rpo_bool (b : Bool) : RpO (.bool b) 51 0 := ⟨rfl, by cases b <;> decide +kernel, Nat.le_refl _⟩
theorem rpo_str {x : Str} (h : (reprText x).length ≤ 51) : RpO (.str x) 51 0 := ⟨rfl, h, Nat.le_refl _⟩
theorem rpo_emp : RpO (.dict []) 51 1 := ⟨rfl, by decide +kernel, by decide⟩
theorem rp_all {ds : List PyData} (h : ∀ d ∈ ds, d.showable = true) : PyData.showableAll ds = true := by
  induction ds with
  | nil => rfl
  | cons d ds ih =>
    show (PyData.showable d && PyData.showableAll ds) = true
    rw [h d List.mem_cons_self, ih fun x hx => h x (List.mem_cons_of_mem _ hx)]
    rfl
theorem rp_dep {ds : List PyData} {k : Nat} (h : ∀ d ∈ ds, d.depth ≤ k) : PyData.depthAll ds ≤ k := by
  induction ds with
  | nil => exact Nat.zero_le _
  | cons d ds ih =>
    have h1 := h d List.mem_cons_self
    have h2 := ih fun x hx => h x (List.mem_cons_of_mem _ hx)
    show max (PyData.depth d) (PyData.depthAll ds) ≤ k
    omega
theorem rp_len {ds : List PyData} {m : Nat} (h : ∀ d ∈ ds, d.shown.length ≤ m) : ((PyData.shownAll ds).map (·.length)).sum ≤ ds.length * m ∧ (PyData.shownAll ds).length = ds.length := by
  induction ds with
  | nil => exact ⟨Nat.zero_le _, rfl⟩
  | cons d ds ih =>
    have h1 := h d List.mem_cons_self
    have h2 := ih fun x hx => h x (List.mem_cons_of_mem _ hx)
    refine ⟨?_, ?_⟩
    · show (PyData.shown d).length + ((PyData.shownAll ds).map (·.length)).sum ≤ (ds.length + 1) * m
      rw [Nat.add_mul]
      omega
    · show (PyData.shownAll ds).length + 1 = ds.length + 1
      rw [h2.2]
theorem rpo_list {ds : List PyData} {m k : Nat} (h : ∀ d ∈ ds, RpO d m k) : RpO (.list ds) (ds.length * m + 2 * ds.length + 3) (k + 1) := by
  obtain ⟨l1, l2⟩ := rp_len fun d hd => (h d hd).l
  refine ⟨rp_all fun d hd => (h d hd).s, ?_, Nat.succ_le_succ (rp_dep fun d hd => (h d hd).p)⟩
  have := listText_len_le (PyData.shownAll ds)
  show (listText (PyData.shownAll ds)).length ≤ _
  rw [l2] at this
  omega
theorem rpo_tup {ds : List PyData} {m k : Nat} (h : ∀ d ∈ ds, RpO d m k) : RpO (.tuple ds) (ds.length * m + 2 * ds.length + 3) (k + 1) := by
  obtain ⟨l1, l2⟩ := rp_len fun d hd => (h d hd).l
  refine ⟨rp_all fun d hd => (h d hd).s, ?_, Nat.succ_le_succ (rp_dep fun d hd => (h d hd).p)⟩
  have := tupleText_len_le (PyData.shownAll ds)
  show (tupleText (PyData.shownAll ds)).length ≤ _
  rw [l2] at this
  omega
theorem rpo_ints {ns : List Int} (h : ∀ n ∈ ns, n.natAbs < 10 ^ 50) : RpO (.list (ns.map PyData.int)) (ns.length * 51 + 2 * ns.length + 3) 1 := by
  have := rpo_list (ds := ns.map PyData.int) (m := 51) (k := 0) (by
    intro d hd
    obtain ⟨n, hn, rfl⟩ := List.mem_map.mp hd
    exact rpo_int (h n hn))
  rw [List.length_map] at this
  exact this
section
variable {K : PySem.W.Frag} {H : Hp} {Q : VK}
theorem i_reprO {v : V} {d : PyData} {m k : Nat} (h : Rp K H v d) (o : RpO d m k) (hm : m ≤ 1000000) (hk : k ≤ 60) (q : Q (.str d.shown) H) : rRepr K [v] H Q :=
  i_repr h o.s (Nat.le_trans o.l (Nat.le_trans hm (by decide))) (Nat.le_trans o.p hk) q
theorem rpAll_ints : ∀ ns : List Int, RpAll K H (ns.map V.int) (ns.map PyData.int)
  | [] => .nil
  | n :: ns => .cons (.int n) (rpAll_ints ns)
theorem nodict_ints : ∀ ns : List Int, PyData.hasDictAll (ns.map PyData.int) = false
  | [] => rfl
  | n :: ns => by
    show (PyData.hasDict (.int n) || PyData.hasDictAll (ns.map PyData.int)) = false
    rw [nodict_ints ns]
    rfl
theorem rp_intsL {p : Addr} {ns : List Int} (h : SqL K H p (ns.map V.int)) : Rp K H (.ref p) (.list (ns.map PyData.int)) := .lst h (rpAll_ints ns) (nodict_ints ns)
theorem rp_intsT {p : Addr} {ns : List Int} (h : SqT K H p (ns.map V.int)) : Rp K H (.ref p) (.tuple (ns.map PyData.int)) := .tup h (rpAll_ints ns) (nodict_ints ns)
theorem RpAll.app {xs ys : List V} {ds es : List PyData} (h : RpAll K H xs ds) (g : RpAll K H ys es) : RpAll K H (xs ++ ys) (ds ++ es) := by
  induction xs generalizing ds with
  | nil => cases h; exact g
  | cons x xs ih =>
    cases h with
    | cons a b => exact .cons a (ih b)
end
end TC

set_option Elab.async false
set_option linter.all false
set_option maxRecDepth 100000
set_option maxHeartbeats 4000000
/-! Codes of rows, in plain Lean. A row and its code stand here from their ends. -/
namespace TC
open PySem PySem.Spec PyProof.Rows L2
/-- how many of r are nearer to 0 than c -/
def cnt (r : List Int) (c : Int) : Nat := (r.filter fun e => decide (absI e < absI c)).length
def codeOne (r : List Int) (c : Int) : Int := if 0 < c then (r.length : Int) - cnt r c else (r.length : Int) + 1 + cnt r c
def codeR : List Int → List Int
  | [] => []
  | c :: r => codeOne r c :: codeR r
/-- the place in what is left -/
def kOf (d : Int) (i : Nat) : Nat := if d ≤ (i : Int) then ((i : Int) - d).toNat else (d - i - 1).toNat
def cardOf (d : Int) (i : Nat) (left : List Int) : Int := if d ≤ (i : Int) then left.getD (kOf d i) 0 else -(left.getD (kOf d i) 0)
def dec : List Int → List Int → List Int
  | [], _ => []
  | d :: rest, left => cardOf d rest.length left :: dec rest (left.eraseIdx (kOf d rest.length))
def CodeOkR : List Int → Prop
  | [] => True
  | d :: rest => 0 ≤ d ∧ d ≤ 2 * (rest.length : Int) + 1 ∧ CodeOkR rest
theorem kOf_le {d : Int} {i : Nat} (h0 : 0 ≤ d) (h1 : d ≤ 2 * (i : Int) + 1) : kOf d i ≤ i := by
  unfold kOf
  split <;> omega
theorem cnt_sorted : ∀ (left : List Int) (k : Nat) (h : k < left.length), left.Pairwise (· < ·) → ((left.eraseIdx k).filter fun e => decide (e < left[k])).length = k
  | [], k, h, _ => by simp at h
  | x :: t, 0, _, hp => by
    rw [List.pairwise_cons] at hp
    show (t.filter fun e => decide (e < x)).length = 0
    rw [List.length_eq_zero_iff, List.filter_eq_nil_iff]
    intro e he
    have := hp.1 e he
    simp
    omega
  | x :: t, k + 1, h, hp => by
    rw [List.pairwise_cons] at hp
    have hk : k < t.length := by simpa using h
    have ih := cnt_sorted t k hk hp.2
    have hx : x < t[k] := hp.1 _ (List.getElem_mem hk)
    show ((x :: t.eraseIdx k).filter fun e => decide (e < t[k])).length = k + 1
    rw [List.filter_cons, if_pos (decide_eq_true hx), List.length_cons, ih]
theorem cnt_map (r : List Int) (c : Int) : cnt r c = ((r.map absI).filter fun e => decide (e < absI c)).length := by
  unfold cnt
  rw [List.filter_map, List.length_map]
  rfl
theorem cnt_perm {r : List Int} {l : List Int} (c : Int) (h : (r.map absI).Perm l) : cnt r c = (l.filter fun e => decide (e < absI c)).length := by
  rw [cnt_map]
  exact (h.filter _).length_eq
theorem pw_erase {left : List Int} (k : Nat) (h : left.Pairwise (· < ·)) : (left.eraseIdx k).Pairwise (· < ·) := h.sublist (List.eraseIdx_sublist left k)
theorem mem_erase {left : List Int} {k : Nat} {P : Int → Prop} (h : ∀ e ∈ left, P e) : ∀ e ∈ left.eraseIdx k, P e := fun e he => h e ((List.eraseIdx_sublist left k).subset he)
theorem perm_erase : ∀ {l : List Int} {k : Nat} (h : k < l.length), (l[k] :: l.eraseIdx k).Perm l
  | x :: t, 0, _ => List.Perm.refl _
  | x :: t, k + 1, h => by
    have hk : k < t.length := by simpa using h
    show (t[k] :: x :: t.eraseIdx k).Perm (x :: t)
    exact (List.Perm.swap ..).trans ((perm_erase hk).cons x)
theorem absI_pos {c : Int} (h : 0 < c) : absI c = c := by unfold absI; rw [if_neg (by omega)]
theorem absI_neg {c : Int} (h : 0 < c) : absI (-c) = c := by unfold absI; rw [if_pos (by omega)]; omega
theorem dec_spec : ∀ (dd left : List Int), CodeOkR dd → left.length = dd.length → left.Pairwise (· < ·) → (∀ e ∈ left, 0 < e) → codeR (dec dd left) = dd ∧ ((dec dd left).map absI).Perm left ∧ (dec dd left).length = dd.length
  | [], left, _, hl, _, _ => by
    have : left = [] := List.length_eq_zero_iff.mp hl
    subst this
    exact ⟨rfl, List.Perm.refl _, rfl⟩
  | d :: rest, left, ho, hl, hp, hpos => by
    obtain ⟨h0, h1, ho⟩ := ho
    have hk := kOf_le h0 h1
    have hkl : kOf d rest.length < left.length := by rw [hl, List.length_cons]; omega
    have hle : (left.eraseIdx (kOf d rest.length)).length = rest.length := by rw [List.length_eraseIdx, if_pos hkl, hl]; simp
    obtain ⟨i1, i2, i3⟩ := dec_spec rest (left.eraseIdx (kOf d rest.length)) ho hle (pw_erase _ hp) (mem_erase hpos)
    have hcp : 0 < left[kOf d rest.length] := hpos _ (List.getElem_mem hkl)
    have hg : left.getD (kOf d rest.length) 0 = left[kOf d rest.length] := by rw [List.getD_eq_getElem?_getD, List.getElem?_eq_getElem hkl]; rfl
    have ha : absI (cardOf d rest.length left) = left[kOf d rest.length] := by
      unfold cardOf
      rw [hg]
      split
      · exact absI_pos hcp
      · exact absI_neg hcp
    have hc : cnt (dec rest (left.eraseIdx (kOf d rest.length))) (cardOf d rest.length left) = kOf d rest.length := by
      rw [cnt_perm _ i2, ha]
      exact cnt_sorted left _ hkl hp
    refine ⟨?_, ?_, ?_⟩
    · show codeOne _ _ :: codeR _ = d :: rest
      rw [i1]
      congr 1
      unfold codeOne
      rw [hc, i3]
      unfold cardOf
      rw [hg]
      by_cases hd : d ≤ (rest.length : Int)
      · have hk2 : kOf d rest.length = ((rest.length : Int) - d).toNat := if_pos hd
        rw [if_pos hd, if_pos hcp]
        omega
      · have hk2 : kOf d rest.length = (d - rest.length - 1).toNat := if_neg hd
        rw [if_neg hd, if_neg (by omega)]
        omega
    · show (absI _ :: (dec rest _).map absI).Perm left
      rw [ha]
      exact (i2.cons _).trans (perm_erase hkl)
    · show (dec rest _).length + 1 = rest.length + 1
      rw [i3]
theorem code_dec : ∀ (rr left : List Int), (rr.map absI).Perm left → left.Pairwise (· < ·) → (∀ e ∈ left, 0 < e) → dec (codeR rr) left = rr ∧ CodeOkR (codeR rr) ∧ (codeR rr).length = rr.length
  | [], _, _, _, _ => ⟨rfl, trivial, rfl⟩
  | c :: r, left, hp, hs, hpos => by
    have hm : absI c ∈ left := hp.subset List.mem_cons_self
    obtain ⟨j, hj, hje⟩ := List.mem_iff_getElem.mp hm
    have hp2 : (r.map absI).Perm (left.eraseIdx j) := by
      have h1 : (absI c :: r.map absI).Perm (left[j] :: left.eraseIdx j) := hp.trans (perm_erase hj).symm
      rw [hje] at h1
      exact h1.cons_inv
    have hlen : r.length = left.length - 1 := by
      have := hp.length_eq
      simp at this
      omega
    have hcnt : cnt r c = j := by
      rw [cnt_perm _ hp2, ← hje]
      exact cnt_sorted left j hj hs
    obtain ⟨i1, i2, i3⟩ := code_dec r (left.eraseIdx j) hp2 (pw_erase _ hs) (mem_erase hpos)
    have hcp : 0 < absI c := hpos _ hm
    have hjr : j ≤ r.length := by omega
    have hk : kOf (codeOne r c) r.length = j := by
      unfold kOf codeOne
      rw [hcnt]
      by_cases h : 0 < c
      · rw [if_pos h, if_pos (by omega)]
        omega
      · rw [if_neg h, if_neg (by omega)]
        omega
    have hg : left.getD j 0 = absI c := by rw [List.getD_eq_getElem?_getD, List.getElem?_eq_getElem hj, hje]; rfl
    refine ⟨?_, ⟨?_, ?_, i2⟩, ?_⟩
    · show cardOf _ _ left :: dec (codeR r) _ = c :: r
      rw [i3, hk, i1]
      congr 1
      unfold cardOf
      rw [hk, hg]
      unfold codeOne
      rw [hcnt]
      by_cases h : 0 < c
      · rw [if_pos h, if_pos (by omega)]
        exact absI_pos h
      · rw [if_neg h, if_neg (by omega)]
        unfold absI at hcp ⊢
        split at hcp <;> split <;> omega
    · unfold codeOne
      rw [hcnt]
      split <;> omega
    · rw [i3]
      unfold codeOne
      rw [hcnt]
      split <;> omega
    · show (codeR r).length + 1 = r.length + 1
      rw [i3]
/-! ### the law's digits -/
def digOne (r : List Int) (c : Int) : Int := (if c < 0 then 1 else 0) + ((r.filter fun e => decide (c < e)).length : Nat) + ((r.filter fun e => decide (e + c < 0)).length : Nat)
theorem dig_pos (c : Int) (hc : 0 < c) : ∀ r : List Int, (∀ e ∈ r, absI e ≠ absI c) → ((r.filter fun e => decide (c < e)).length : Int) + ((r.filter fun e => decide (e + c < 0)).length : Nat) = (r.length : Int) - cnt r c
  | [], _ => rfl
  | e :: r, h => by
    have ih := dig_pos c hc r fun x hx => h x (List.mem_cons_of_mem _ hx)
    have he := h e List.mem_cons_self
    rw [absI_pos hc] at he
    unfold cnt at ih ⊢
    rw [absI_pos hc] at ih ⊢
    simp only [List.filter_cons, List.length_cons]
    unfold absI at he ⊢
    by_cases h1 : c < e
    · have h2 : ¬ e + c < 0 := by omega
      have h3 : ¬ (if e < 0 then -e else e) < c := by split <;> omega
      simp only [h1, h2, h3, decide_true, decide_false, if_true, if_false, Bool.false_eq_true, List.length_cons]
      unfold absI at ih
      omega
    · by_cases h2 : e + c < 0
      · have h3 : ¬ (if e < 0 then -e else e) < c := by split <;> omega
        simp only [h1, h2, h3, decide_true, decide_false, if_true, if_false, Bool.false_eq_true, List.length_cons]
        unfold absI at ih
        omega
      · have h3 : (if e < 0 then -e else e) < c := by split at he <;> split <;> omega
        simp only [h1, h2, h3, decide_true, decide_false, if_true, if_false, Bool.false_eq_true, List.length_cons]
        unfold absI at ih
        omega
theorem dig_neg (c : Int) (hc : c < 0) : ∀ r : List Int, (∀ e ∈ r, absI e ≠ absI c) → ((r.filter fun e => decide (c < e)).length : Int) + ((r.filter fun e => decide (e + c < 0)).length : Nat) = (r.length : Int) + cnt r c
  | [], _ => rfl
  | e :: r, h => by
    have ih := dig_neg c hc r fun x hx => h x (List.mem_cons_of_mem _ hx)
    have he := h e List.mem_cons_self
    have ea : absI c = -c := by unfold absI; rw [if_pos hc]
    unfold cnt at ih ⊢
    rw [ea] at he ih ⊢
    simp only [List.filter_cons, List.length_cons]
    unfold absI at he ⊢
    by_cases h1 : c < e
    · by_cases h2 : e + c < 0
      · have h3 : (if e < 0 then -e else e) < -c := by split <;> omega
        simp only [h1, h2, h3, decide_true, decide_false, if_true, if_false, Bool.false_eq_true, List.length_cons]
        unfold absI at ih
        omega
      · have h3 : ¬ (if e < 0 then -e else e) < -c := by split <;> omega
        simp only [h1, h2, h3, decide_true, decide_false, if_true, if_false, Bool.false_eq_true, List.length_cons]
        unfold absI at ih
        omega
    · have h2 : e + c < 0 := by omega
      have h3 : ¬ (if e < 0 then -e else e) < -c := by split <;> omega
      simp only [h1, h2, h3, decide_true, decide_false, if_true, if_false, Bool.false_eq_true, List.length_cons]
      unfold absI at ih
      omega
theorem dig_code {r : List Int} {c : Int} (h0 : absI c ≠ 0) (h : ∀ e ∈ r, absI e ≠ absI c) : digOne r c = codeOne r c := by
  unfold digOne codeOne
  by_cases hc : 0 < c
  · rw [if_neg (by omega), if_pos hc]
    have := dig_pos c hc r h
    omega
  · have hn : c < 0 := by
      unfold absI at h0
      split at h0 <;> omega
    rw [if_pos hn, if_neg hc]
    have := dig_neg c hn r h
    omega
/-! ### rows, from their beginnings -/
/-- what stands at each place, by what is ahead of it -/
def byPlace (f : List Int → Int → Int) (ns : List Int) : List Int := (List.range ns.length).map fun i => f (ns.take i) (ns.getD i 0)
theorem byPlace_snoc (f : List Int → Int → Int) (ns : List Int) (c : Int) : byPlace f (ns ++ [c]) = byPlace f ns ++ [f ns c] := by
  unfold byPlace
  rw [List.length_append, List.length_singleton, List.range_succ, List.map_append]
  congr 1
  · refine List.map_congr_left fun i hi => ?_
    have hi := List.mem_range.mp hi
    rw [List.take_append_of_le_length (by omega), List.getD_eq_getElem?_getD, List.getD_eq_getElem?_getD, List.getElem?_append_left hi]
  · simp
theorem cnt_reverse (r : List Int) (c : Int) : cnt r.reverse c = cnt r c := by
  unfold cnt
  rw [List.filter_reverse, List.length_reverse]
theorem codeOne_reverse (r : List Int) (c : Int) : codeOne r.reverse c = codeOne r c := by
  unfold codeOne
  rw [cnt_reverse, List.length_reverse]
theorem byPlace_code : ∀ rr : List Int, byPlace codeOne rr.reverse = (codeR rr).reverse
  | [] => rfl
  | c :: r => by
    rw [List.reverse_cons, byPlace_snoc, byPlace_code r]
    show _ = (codeOne r c :: codeR r).reverse
    rw [List.reverse_cons, codeOne_reverse]
def codeP (ns : List Int) : List Int := byPlace codeOne ns
def digP (ns : List Int) : List Int := byPlace digOne ns
theorem codeP_eq (ns : List Int) : codeP ns = (codeR ns.reverse).reverse := by
  have := byPlace_code ns.reverse
  rw [List.reverse_reverse] at this
  exact this
theorem rg_pw (n : Nat) : (rgI 1 n).Pairwise (· < ·) := by
  unfold rgI
  rw [List.pairwise_map]
  exact List.pairwise_lt_range.imp fun h => by omega
theorem rg_pos (n : Nat) : ∀ e ∈ rgI 1 n, 0 < e := fun e h => by have := (mem_rgI.mp h).1; omega
theorem digP_eq {ns : List Int} (h : IsRow ns) : digP ns = codeP ns := by
  obtain ⟨h1, h2, hp⟩ := h
  unfold digP codeP byPlace
  refine List.map_congr_left fun i hi => ?_
  have hi := List.mem_range.mp hi
  have nd : (ns.map absI).Nodup := hp.nodup_iff.mpr ((rg_pw _).imp fun h => by omega)
  have hg : ns.getD i 0 = ns[i] := by rw [List.getD_eq_getElem?_getD, List.getElem?_eq_getElem hi]; rfl
  rw [hg]
  refine dig_code ?_ fun e he => ?_
  · have : absI ns[i] ∈ rgI 1 ns.length := hp.subset (List.mem_map_of_mem (List.getElem_mem hi))
    have := (mem_rgI.mp this).1
    omega
  · obtain ⟨j, hj, hje⟩ := List.mem_iff_getElem.mp he
    rw [List.length_take] at hj
    rw [List.getElem_take] at hje
    subst hje
    have nd2 := List.pairwise_iff_getElem.mp nd j i (by rw [List.length_map]; omega) (by rw [List.length_map]; exact hi) (by omega)
    rw [List.getElem_map, List.getElem_map] at nd2
    exact nd2
def IsCode (ds : List Int) : Prop := 1 ≤ ds.length ∧ ds.length ≤ 2000 ∧ ∀ i (h : i < ds.length), 0 ≤ ds[i] ∧ ds[i] ≤ 2 * (i : Int) + 1
theorem codeOkR_of : ∀ dd : List Int, (∀ i (h : i < dd.reverse.length), 0 ≤ dd.reverse[i] ∧ dd.reverse[i] ≤ 2 * (i : Int) + 1) → CodeOkR dd
  | [], _ => trivial
  | d :: rest, h => by
    have hl := h rest.length (by simp)
    have e : (d :: rest).reverse[rest.length]'(by simp) = d := by simp [List.reverse_cons]
    rw [e] at hl
    refine ⟨hl.1, by omega, codeOkR_of rest fun i hi => ?_⟩
    have hi2 : i < rest.length := by simpa using hi
    have := h i (by simp; omega)
    have e2 : (d :: rest).reverse[i]'(by simp; omega) = rest.reverse[i] := by
      simp only [List.reverse_cons]
      rw [List.getElem_append_left]
    rw [e2] at this
    exact this
theorem okR_code : ∀ dd : List Int, CodeOkR dd → ∀ i (h : i < dd.reverse.length), 0 ≤ dd.reverse[i] ∧ dd.reverse[i] ≤ 2 * (i : Int) + 1
  | [], _, i, h => by simp at h
  | d :: rest, ⟨h0, h1, ho⟩, i, hi => by
    have hi2 : i < rest.length + 1 := by simpa using hi
    by_cases hir : i < rest.length
    · have e2 : (d :: rest).reverse[i]'hi = rest.reverse[i]'(by simpa using hir) := by
        simp only [List.reverse_cons]
        rw [List.getElem_append_left]
      rw [e2]
      exact okR_code rest ho i _
    · have : i = rest.length := by omega
      subst this
      have e : (d :: rest).reverse[rest.length]'hi = d := by simp [List.reverse_cons]
      rw [e]
      exact ⟨h0, by omega⟩
/-- the row of a code -/
def decP (ds : List Int) : List Int := (dec ds.reverse (rgI 1 ds.length)).reverse
theorem decP_row {ds : List Int} (h : IsCode ds) : IsRow (decP ds) ∧ codeP (decP ds) = ds ∧ (decP ds).length = ds.length := by
  obtain ⟨h1, h2, h3⟩ := h
  have ho : CodeOkR ds.reverse := codeOkR_of _ (by rw [List.reverse_reverse]; exact h3)
  obtain ⟨r1, r2, r3⟩ := dec_spec ds.reverse (rgI 1 ds.length) ho (by rw [rgI_length, List.length_reverse]) (rg_pw _) (rg_pos _)
  have hl : (decP ds).length = ds.length := by unfold decP; rw [List.length_reverse, r3, List.length_reverse]
  refine ⟨⟨by omega, by omega, ?_⟩, ?_, hl⟩
  · rw [hl]
    unfold decP
    rw [List.map_reverse]
    exact (List.reverse_perm _).trans r2
  · rw [codeP_eq]
    unfold decP
    rw [List.reverse_reverse, r1, List.reverse_reverse]
theorem codeP_code {ns : List Int} (h : IsRow ns) : IsCode (codeP ns) ∧ decP (codeP ns) = ns ∧ (codeP ns).length = ns.length := by
  obtain ⟨h1, h2, h3⟩ := h
  have hp : (ns.reverse.map absI).Perm (rgI 1 ns.length) := by
    rw [List.map_reverse]
    exact (List.reverse_perm _).trans h3
  obtain ⟨r1, r2, r3⟩ := code_dec ns.reverse _ hp (rg_pw _) (rg_pos _)
  have hl : (codeP ns).length = ns.length := by rw [codeP_eq, List.length_reverse, r3, List.length_reverse]
  refine ⟨⟨by omega, by omega, ?_⟩, ?_, hl⟩
  · rw [codeP_eq]
    exact okR_code _ r2
  · unfold decP
    rw [hl, codeP_eq, List.reverse_reverse, r1, List.reverse_reverse]
end TC

set_option Elab.async false
set_option linter.all false
set_option maxRecDepth 100000
set_option maxHeartbeats 4000000
namespace TC
open PySem PySem.Spec PyProof.Rows L2
open PySem.W (Datum Tup)
local macro_rules | `(tactic| walk_at "st") => `(tactic| repeat (first
  | with_reducible refine i_seq ?_ | with_reducible refine i_asg ?_ | with_reducible refine i_ret ?_ | with_reducible refine i_retN ?_ | with_reducible refine i_ifs ?_ | with_reducible refine i_next ?_ | with_reducible refine i_drop ?_
  | with_reducible refine i_lcX ?_ | with_reducible refine i_par ?_ | with_reducible refine i_gN ?_ | with_reducible refine i_gS ?_ | with_reducible refine i_nil ?_ | with_reducible refine i_cons ?_ | with_reducible refine i_tup ?_ | with_reducible refine i_lst ?_
  | with_reducible refine i_op ?_ | with_reducible refine i_un ?_ | with_reducible refine i_test ?_ | with_reducible refine i_B ?_ | with_reducible refine i_bl ?_ | with_reducible refine i_not ?_ | with_reducible refine i_and ?_ | with_reducible refine i_or ?_
  | with_reducible refine i_andV ?_ | with_reducible refine i_orV ?_ | with_reducible refine i_notV ?_ | with_reducible refine i_if ?_ | with_reducible refine i_chain ?_ | with_reducible refine i_cb ?_ | with_reducible refine i_call ?_ | with_reducible refine i_make ?_
  | with_reducible refine i_smeth ?_ | with_reducible refine i_prop ?_ | with_reducible refine i_fld ?_ | with_reducible refine i_sfld ?_ | with_reducible refine i_bm ?_ | with_reducible refine i_fmt ?_ | with_reducible refine i_fmt6 ?_ | with_reducible refine i_joined ?_ | with_reducible refine i_jsC ?_ | with_reducible refine i_jsN ?_ | with_reducible refine i_forG ?_ | with_reducible refine i_rng1 ?_ | with_reducible refine i_rng2 ?_ | with_reducible refine i_iL ?_ | with_reducible refine i_iT ?_ | with_reducible refine i_iLT ?_ | with_reducible refine i_iEn ?_ | with_reducible refine i_iZp ?_ | with_reducible refine i_lr1 ?_ | with_reducible refine i_lr2 ?_ | with_reducible refine i_gT ?_ | with_reducible refine i_gC ?_ | with_reducible refine i_gNil ?_ | with_reducible refine i_sl ?_ | with_reducible refine i_noP ?_ | with_reducible refine i_prt ?_ | with_reducible refine i_int ?_ | with_reducible refine i_jT ?_ | with_reducible refine i_bm0 ?_
  | ((with_reducible refine' i_var ?hv ?_); (case hv => exact rfl)) | with_reducible refine i_c ?_ | with_reducible refine i_rI0 ?_ | with_reducible refine i_rU ?_ | with_reducible refine i_abs ?_ | with_reducible refine i_max2 ?_ | with_reducible refine i_min2 ?_ | with_reducible refine i_int1 ?_
  | ((with_reducible refine' i_rI ?hc ?_); (case hc => first | (show (0 : Int) < _; first | decide | omega) | (refine Or.inl (Or.inl ?_); constructor <;> first | decide | omega) | (refine Or.inl (Or.inr ?_); constructor <;> first | decide | omega) | (refine divOk ?_ ?_ <;> first | decide | omega) | (refine ⟨?_, ?_, ?_⟩ <;> first | decide | omega)))
  | with_reducible refine i_callW ?_ | with_reducible refine i_makeW ?_ | with_reducible refine i_raise ?_ | with_reducible refine i_try ?_ | with_reducible refine i_par3 ?_ | with_reducible refine i_rng3 ?_ | with_reducible refine i_revL ?_ | with_reducible refine i_star ?_ | with_reducible refine i_xf ?_ | with_reducible refine i_isB ?_ | with_reducible refine i_notB ?_ | with_reducible refine i_enA ?_ | with_reducible refine i_brk ?_ | with_reducible refine i_cont ?_
  | with_reducible refine iteT ?_ | with_reducible refine iteF ?_ | with_reducible refine iteN ?_ | with_reducible refine iteM ?_))
section
variable {K : PySem.W.Frag} {a : Ad} {H H' : Hp} {Q : VK} {E : XK} {vs : List V}

theorem row_ok {x : Addr} {ns : List Int} (h : ArrAt K a H x ns) (k : ∀ t, SqT K H t (ns.map V.int) → Q (.ref t) H) : ∃ y dx fs, V.ref x = .ref y ∧ H y = some (.ins a.Arrangement dx fs) ∧ sp_Arrangement_row K a [.ref y] H Q E := by
  obtain ⟨dx, t, h1, h2, h3⟩ := h
  exact ⟨x, dx, _, rfl, h1, rfl, x, ns, rfl, ⟨dx, t, h1, h2, h3⟩, k⟩
theorem i_slT {p : Addr} {xs : List V} {lo hi : Option Int} (hs : SqT K H p xs) (h : ∀ q H', Same H H' → SqT K H' q (cutV xs lo hi) → Q (.ref q) H') : rSlA K (.ref p) lo hi H Q := by
  refine ⟨p, xs, rfl, hs, fun hw => ?_, fun _ q hq => h q _ (Same.new hq) (SqT.of upd_same)⟩
  have e : cutV xs lo hi = xs := by
    unfold cutV
    rw [hw.1, hw.2, List.drop_zero, Nat.sub_zero, List.take_length]
  exact h p H (Same.refl _) (by rw [e]; exact hs)
theorem cut_take {xs : List V} {i : Nat} (hi : i ≤ xs.length) : cutV xs none (some (i : Int)) = xs.take i := by
  unfold cutV
  rw [HT.sIx_nat, HT.sIx_none, Nat.min_eq_left hi, List.drop_zero, Nat.sub_zero]
/-! ### code -/
def sp_code (K : PySem.W.Frag) (a : Ad) : Sp := fun vs H Q _ => vs.length = 1 ∧ ∃ x ns, vs = [.ref x] ∧ ArrAt K a H x ns ∧ ∀ p H', H p = none → Same H H' → H' p = some (.lst ((codeP ns).map V.int)) → Q (.ref p) H'
def t_code (K : PySem.W.Frag) (a : Ad) : TS := tSeq (tAsg (tLst (tNil)) (gName 1))
  (tSeq (tFor (iEnumS K (tCons (tPropR a.Arrangement (sp_Arrangement_row K a) E0 (tVar 0)) (tNil))) (gTup K 2 (gCons (gName 2) (gCons (gName 3) (gNil)))) (tSeq (tAsg (tCB (rLenS K) (tCons (tLc (iTup K (tSl (rSlA K) (tPropR a.Arrangement (sp_Arrangement_row K a) E0 (tVar 0)) (tNoPart) (tPart (tVar 2)))) (gName 5) (tTest (tOp (rLtI) (tCB (rAbs) (tCons (tVar 5) (tNil))) (tCB (rAbs) (tCons (tVar 3) (tNil))))) (tVar 5) [5]) (tNil))) (gName 4))
  (tDrop (tBM K "list" (rAppend) (tVar 1) (tCons (tIf (tTest (tOp (rGtI) (tVar 3) (tC (.int 0)))) (tOp (rSubI) (tVar 2) (tVar 4)) (tOp (rAddI) (tOp (rAddI) (tVar 2) (tC (.int 1))) (tVar 4))) (tNil))))))
  (tRet (tVar 1)))
theorem codeP_get {ns : List Int} {i : Nat} (hi : i < ns.length) : (codeP ns)[i]? = some (codeOne (ns.take i) ns[i]) := by
  unfold codeP byPlace
  rw [List.getElem?_map, List.getElem?_range hi]
  show some (codeOne (List.take i ns) (ns.getD i 0)) = _
  rw [List.getD_eq_getElem?_getD, List.getElem?_eq_getElem hi]
  rfl
theorem codeP_len (ns : List Int) : (codeP ns).length = ns.length := by unfold codeP byPlace; rw [List.length_map, List.length_range]
theorem pure_code (h : sp_code K a vs H Q E) : Run (t_code K a) 6 vs H Q := by
  obtain ⟨_, x, ns, rfl, hx, q⟩ := h
  have hr : IsRow ns := hx.choose_spec.choose_spec.2.2
  have hn := hr.2.1
  unfold Run t_code
  walk_at "st"
  refine ⟨by show 0 ≤ sizeLine; exact Nat.zero_le _, fun p hp => ?_⟩
  have e1 : Same H (upd H p (.lst [])) := Same.new hp
  walk_at "st"
  refine row_ok (hx.same e1) fun t ht => ?_
  walk_at "st"
  refine i_enT ht ?_
  refine forG (walk_ett (xs := ns.map V.int)) (fun i σ H' => ∃ x2 x3 x4 x5 : Option V, σ = [some (.ref x), some (.ref p), x2, x3, x4, x5] ∧ Same H H' ∧ H' p = some (.lst (((codeP ns).take i).map V.int))) ⟨none, none, none, none, rfl, e1, upd_same⟩ (fun i σ H' _ h => by obtain ⟨_, _, _, _, _, k, _⟩ := h; exact SqT.past ht k) ?_ ?_
  · rintro i v σ H1 H2 hi ⟨x2, x3, x4, x5, rfl, s1, hl⟩ ⟨T, y1, y2, rfl, hT, rfl, h1, h2⟩
    rw [List.length_map] at hi
    dsimp only at h1 h2
    cases h1
    rw [List.getElem?_map, List.getElem?_eq_getElem hi] at h2
    cases h2
    have s2 := Same.new (o := .tup [.int (i : Nat), .int ns[i]]) hT
    have s3 := s1.trans s2
    walk_at "st"
    refine ⟨T, _, rfl, SqT.of upd_same, rfl, ?_⟩
    walk_at "st"
    refine row_ok (hx.same s3) fun t2 ht2 => ?_
    walk_at "st"
    refine i_slT ht2 fun q2 H3 e3 hq2 => ?_
    rw [cut_take (by rw [List.length_map]; omega), ← List.map_take] at hq2
    refine i_itT hq2 fun J2 w2 => ?_
    refine lcS w2 (fun e => decide (absI e < absI ns[i])) V.int (by rw [List.length_take]; omega) (fun H' e => Same.keepS e) (fun _ => rfl) (fun e he => ⟨fun H4 e4 R' k => ?_, fun _ H4 e4 R' k => ?_⟩) fun D H4 hD e4 hl4 => ?_
    · walk_at "st"
      exact k H4 (Same.refl _)
    · walk_at "st"
      exact k H4 (Same.refl _)
    walk_at "st"
    refine i_lenL (SqL.of hl4) ?_
    walk_at "st"
    rw [List.length_map]
    have s4 : Same H H4 := (s3.trans e3).trans e4
    have s14 : Same H1 H4 := (s2.trans e3).trans e4
    have hl5 : H4 p = some (.lst (((codeP ns).take i).map V.int)) := s14 _ _ hl
    have hlen : (((codeP ns).take i).map V.int).length ≤ 100000 := by
      rw [List.length_map, List.length_take, codeP_len]
      omega
    have nx : ∀ z : Int, z = codeOne (ns.take i) ns[i] → ∀ y2 y3 y4 y5 : Option V, ∃ x2 x3 x4 x5 : Option V, ([some (.ref x), some (.ref p), y2, y3, y4, y5] : L2.St) = [some (.ref x), some (.ref p), x2, x3, x4, x5] ∧ Same H (upd H4 p (.lst (((codeP ns).take i).map V.int ++ [V.int z]))) ∧ (upd H4 p (.lst (((codeP ns).take i).map V.int ++ [V.int z]))) p = some (.lst (((codeP ns).take (i + 1)).map V.int)) := by
      rintro z rfl y2 y3 y4 y5
      refine ⟨y2, y3, y4, y5, rfl, Same.mut s4 hp, ?_⟩
      rw [upd_same, take_succ (codeP_get hi), List.map_append]
      rfl
    refine ⟨.inl ⟨rfl, _, SqL.of hl5⟩, ?_⟩
    by_cases hc : 0 < ns[i]
    · refine i_cons (i_if (i_test (i_op (i_var rfl (i_c (i_rI0 (i_bl (i_dT hc ?_))))))))
      walk_at "st"
      refine i_app hl5 hlen ?_
      walk_at "st"
      refine nx _ ?_ _ _ _ _
      unfold codeOne cnt
      rw [if_pos hc, List.length_take, Nat.min_eq_left (by omega)]
    · refine i_cons (i_if (i_test (i_op (i_var rfl (i_c (i_rI0 (i_bl (i_dF hc ?_))))))))
      walk_at "st"
      refine i_app hl5 hlen ?_
      walk_at "st"
      refine nx _ ?_ _ _ _ _
      unfold codeOne cnt
      rw [if_neg hc, List.length_take, Nat.min_eq_left (by omega)]
  · rintro σ H1 ⟨x2, x3, x4, x5, rfl, s1, hl⟩
    walk_at "st"
    rw [List.length_map, ← codeP_len, List.take_length] at hl
    exact q p H1 hp s1 hl
/-! ### _law_digits -/
def sp__law_digits (K : PySem.W.Frag) (a : Ad) : Sp := fun vs H Q _ => vs.length = 1 ∧ ∃ t ns, vs = [.ref t] ∧ SqT K H t (ns.map V.int) ∧ ns.length ≤ 2000 ∧ ∀ p H', H p = none → Same H H' → H' p = some (.lst ((digP ns).map V.int)) → Q (.ref p) H'
def t__law_digits (K : PySem.W.Frag) (a : Ad) : TS := tSeq (tAsg (tLst (tNil)) (gName 1))
  (tSeq (tFor (iEnumS K (tCons (tVar 0) (tNil))) (gTup K 2 (gCons (gName 2) (gCons (gName 3) (gNil)))) (tSeq (tAsg (tOp (rAddI) (tCB (rInt1) (tCons (tOp (rLtI) (tVar 3) (tC (.int 0))) (tNil))) (tCB (rLenS K) (tCons (tLc (iTup K (tSl (rSlA K) (tVar 0) (tNoPart) (tPart (tVar 2)))) (gName 5) (tTest (tOp (rGtI) (tVar 5) (tVar 3))) (tVar 5) [5]) (tNil)))) (gName 4))
  (tDrop (tBM K "list" (rAppend) (tVar 1) (tCons (tOp (rAddI) (tVar 4) (tCB (rLenS K) (tCons (tLc (iTup K (tSl (rSlA K) (tVar 0) (tNoPart) (tPart (tVar 2)))) (gName 5) (tTest (tOp (rLtI) (tOp (rAddI) (tVar 5) (tVar 3)) (tC (.int 0)))) (tVar 5) [5]) (tNil)))) (tNil))))))
  (tRet (tVar 1)))
theorem digP_get {ns : List Int} {i : Nat} (hi : i < ns.length) : (digP ns)[i]? = some (digOne (ns.take i) ns[i]) := by
  unfold digP byPlace
  rw [List.getElem?_map, List.getElem?_range hi]
  show some (digOne (List.take i ns) (ns.getD i 0)) = _
  rw [List.getD_eq_getElem?_getD, List.getElem?_eq_getElem hi]
  rfl
theorem digP_len (ns : List Int) : (digP ns).length = ns.length := by unfold digP byPlace; rw [List.length_map, List.length_range]
theorem pure__law_digits (h : sp__law_digits K a vs H Q E) : Run (t__law_digits K a) 6 vs H Q := by
  obtain ⟨_, t, ns, rfl, ht, hn, q⟩ := h
  unfold Run t__law_digits
  walk_at "st"
  refine ⟨by show 0 ≤ sizeLine; exact Nat.zero_le _, fun p hp => ?_⟩
  have e1 : Same H (upd H p (.lst [])) := Same.new hp
  walk_at "st"
  refine i_enT (Same.seqT e1 ht) ?_
  refine forG (walk_ett (xs := ns.map V.int)) (fun i σ H' => ∃ x2 x3 x4 x5 : Option V, σ = [some (.ref t), some (.ref p), x2, x3, x4, x5] ∧ Same H H' ∧ H' p = some (.lst (((digP ns).take i).map V.int))) ⟨none, none, none, none, rfl, e1, upd_same⟩ (fun i σ H' _ h => by obtain ⟨_, _, _, _, _, k, _⟩ := h; exact Same.seqT k ht) ?_ ?_
  · rintro i v σ H1 H2 hi ⟨x2, x3, x4, x5, rfl, s1, hl⟩ ⟨T, y1, y2, rfl, hT, rfl, h1, h2⟩
    rw [List.length_map] at hi
    dsimp only at h1 h2
    cases h1
    rw [List.getElem?_map, List.getElem?_eq_getElem hi] at h2
    cases h2
    have s2 := Same.new (o := .tup [.int (i : Nat), .int ns[i]]) hT
    have s3 := s1.trans s2
    walk_at "st"
    refine ⟨T, _, rfl, SqT.of upd_same, rfl, ?_⟩
    walk_at "st"
    refine i_slT (Same.seqT s3 ht) fun q2 H3 e3 hq2 => ?_
    rw [cut_take (by rw [List.length_map]; omega), ← List.map_take] at hq2
    refine i_itT hq2 fun J2 w2 => ?_
    refine lcS w2 (fun e => decide (ns[i] < e)) V.int (by rw [List.length_take]; omega) (fun H' e => Same.keepS e) (fun _ => rfl) (fun e he => ⟨fun H4 e4 R' k => ?_, fun _ H4 e4 R' k => ?_⟩) fun D H4 hD e4 hl4 => ?_
    · walk_at "st"
      exact k H4 (Same.refl _)
    · walk_at "st"
      exact k H4 (Same.refl _)
    walk_at "st"
    refine i_lenL (SqL.of hl4) ?_
    walk_at "st"
    rw [List.length_map]
    have s4 : Same H H4 := (s3.trans e3).trans e4
    have s14 : Same H1 H4 := (s2.trans e3).trans e4
    have hl5 : H4 p = some (.lst (((digP ns).take i).map V.int)) := s14 _ _ hl
    refine ⟨.inl ⟨rfl, _, SqL.of hl5⟩, ?_⟩
    walk_at "st"
    refine i_slT (Same.seqT s4 ht) fun q3 H5 e5 hq3 => ?_
    rw [cut_take (by rw [List.length_map]; omega), ← List.map_take] at hq3
    refine i_itT hq3 fun J3 w3 => ?_
    refine lcS w3 (fun e => decide (e + ns[i] < 0)) V.int (by rw [List.length_take]; omega) (fun H' e => Same.keepS e) (fun _ => rfl) (fun e he => ⟨fun H4 e4 R' k => ?_, fun _ H4 e4 R' k => ?_⟩) fun D2 H6 hD2 e6 hl6 => ?_
    · walk_at "st"
      exact k H4 (Same.refl _)
    · walk_at "st"
      exact k H4 (Same.refl _)
    walk_at "st"
    refine i_lenL (SqL.of hl6) ?_
    walk_at "st"
    rw [List.length_map]
    have s46 : Same H4 H6 := e5.trans e6
    refine i_app (s46 _ _ hl5) (by rw [List.length_map, List.length_take, digP_len]; omega) ?_
    walk_at "st"
    refine ⟨_, _, _, _, rfl, Same.mut (s4.trans s46) hp, ?_⟩
    rw [upd_same, take_succ (digP_get hi), List.map_append]
    congr 2
    refine congrArg (List.map V.int (List.take i (digP ns)) ++ ·) ?_
    show _ = [V.int (digOne (ns.take i) ns[i])]
    unfold digOne
    by_cases hc : ns[i] < 0
    · simp [hc]
    · simp [hc]
  · rintro σ H1 ⟨x2, x3, x4, x5, rfl, s1, hl⟩
    walk_at "st"
    rw [List.length_map, ← digP_len, List.take_length] at hl
    exact q p H1 hp s1 hl
/-! ### is_code -/
def CodeAns (xs : List V) (b : Bool) : Prop := b = true ↔ ∃ ds : List Int, xs = ds.map V.int ∧ IsCode ds
def sp_is_code (K : PySem.W.Frag) (a : Ad) : Sp := fun vs H Q _ => vs.length = 1 ∧ ∃ v, vs = [v] ∧
  ((∃ p xs, v = .ref p ∧ SqA K H p xs ∧ (∀ x ∈ xs, ∃ b, IntQ K H x b) ∧ xs.length ≤ 100000 ∧ ∀ b H', Same H H' → CodeAns xs b → Q (.bl b) H') ∨
   (∃ t, TyX K H v t ∧ PySem.W.kitAny K t [.type "list", .type "tuple"] = some false ∧ ∀ H', Same H H' → Q (.bl false) H'))
def t_is_code (K : PySem.W.Frag) (a : Ad) : TS := tSeq (tIfS (tOr (tNot (tB (tCB (rIsiT K) (tCons (tVar 0) (tCons (tTup (tCons (tC (.ty "list")) (tCons (tC (.ty "tuple")) (tNil)))) (tNil)))))) (tNot (tTest (tChain (rLeI) (rLeI) (tC (.int 1)) (tCB (rLenS K) (tCons (tVar 0) (tNil))) (tC (.int 2000)))))) (tRet (tC (.bl false))) (tNext))
  (tRet (tCB (rAll K) (tCons (tLc (iEnumS K (tCons (tVar 0) (tNil))) (gTup K 2 (gCons (gName 1) (gCons (gName 2) (gNil)))) (tYes) (tCallR (sp_is_between K a) E0 (tCons (tVar 2) (tCons (tC (.int 0)) (tCons (tOp (rAddI) (tOp (rMulI) (tC (.int 2)) (tVar 1)) (tC (.int 1))) (tNil))))) [1, 2]) (tNil))))
theorem isiT_A {p tp : Addr} {xs : List V} {R : VK} (hs : SqA K H p xs) (ht : H tp = some (.tup [.ty "list", .ty "tuple"])) (r : R (.bl true) H) : rIsiT K [.ref p, .ref tp] H R := by
  rcases hs with hs | hs
  · exact ⟨.ref p, tp, [.ty "list", .ty "tuple"], _, [.type "list", .type "tuple"], true, rfl, ht, .cons (.ty _) (.cons (.ty _) .nil), tyx_L hs, kit_lt_L, r⟩
  · exact ⟨.ref p, tp, [.ty "list", .ty "tuple"], _, [.type "list", .type "tuple"], true, rfl, ht, .cons (.ty _) (.cons (.ty _) .nil), tyx_T hs, kit_lt_T, r⟩
theorem isiT_no {v : V} {t : Value} {tp : Addr} {R : VK} (ty : TyX K H v t) (e : PySem.W.kitAny K t [.type "list", .type "tuple"] = some false) (ht : H tp = some (.tup [.ty "list", .ty "tuple"])) (r : R (.bl false) H) : rIsiT K [v, .ref tp] H R :=
  ⟨v, tp, [.ty "list", .ty "tuple"], t, [.type "list", .type "tuple"], false, rfl, ht, .cons (.ty _) (.cons (.ty _) .nil), ty, e, r⟩
theorem bt_true {v : V} {lo hi : Int} (h : BtQ K H v lo hi true) : ∃ i, v = .int i ∧ lo ≤ i ∧ i ≤ hi := by
  rcases h with ⟨i, rfl, e⟩ | ⟨e, _⟩
  · have := of_decide_eq_true e.symm
    exact ⟨i, rfl, this⟩
  · cases e
theorem pure_is_code (h : sp_is_code K a vs H Q E) : Run (t_is_code K a) 3 vs H Q := by
  obtain ⟨_, v, rfl, h⟩ := h
  unfold Run t_is_code
  rcases h with ⟨p, xs, rfl, hs, hi, hz, q⟩ | ⟨t, ty, ek, q⟩
  · walk_at "st"
    refine ⟨by show 2 ≤ sizeLine; decide, fun tp htp => ?_⟩
    walk_at "st"
    have s1 : Same H (upd H tp (.tup [.ty "list", .ty "tuple"])) := Same.new htp
    refine isiT_A (hs.same s1) upd_same ?_
    walk_at "st"
    refine i_lenA (hs.same s1) ?_
    walk_at "st"
    have no : ∀ H', Same H H' → (¬ (1 ≤ xs.length ∧ xs.length ≤ 2000)) → Q (.bl false) H' := fun H' e hn => q false H' e ⟨fun z => (by cases z), fun ⟨ds, e1, r1, r2, _⟩ => (hn (by rw [e1, List.length_map]; exact ⟨r1, r2⟩)).elim⟩
    by_cases h1 : (1 : Int) ≤ (xs.length : Int)
    · refine i_dT h1 ?_
      walk_at "st"
      by_cases h2 : (xs.length : Int) ≤ 2000
      · refine i_nT h2 ?_
        walk_at "st"
        have hf : ∃ f : V × Nat → Bool, ∀ (x : V) (i : Nat), x ∈ xs → BtQ K H x 0 (2 * (i : Int) + 1) (f (x, i)) := by
          classical
          refine ⟨fun x => if h : ∃ b, BtQ K H x.1 0 (2 * (x.2 : Int) + 1) b then h.choose else false, fun x i hx => ?_⟩
          have := btq_of (K := K) (H := H) 0 (2 * (i : Int) + 1) (hi x hx).choose_spec
          dsimp only
          rw [dif_pos this]
          exact this.choose_spec
        obtain ⟨f, hf⟩ := hf
        refine i_enK (hs.same s1) fun J w => ?_
        refine lcE w (fun _ => true) (fun y => .bl (f y)) hz (fun H' e => Same.keepS e) (fun _ _ => rfl) (fun i x hx => elq1 fun H2 e2 R' k => ?_) fun D H3 hD e3 hl => ?_
        · walk_at "st"
          exact ⟨rfl, x, 0, _, f (x, i), rfl, (hf x i (List.mem_of_getElem? hx)).same (s1.trans e2), k H2 (Same.refl _)⟩
        walk_at "st"
        rw [filter_yes] at hl
        have e3' : xs.zipIdx.map (fun y => V.bl (f y)) = (xs.zipIdx.map f).map V.bl := by rw [List.map_map]; rfl
        rw [e3'] at hl
        refine ⟨D, xs.zipIdx.map f, rfl, SqL.of hl, ?_⟩
        have e5 : (xs.zipIdx.map f).all id = xs.zipIdx.all f := by rw [List.all_map]; rfl
        rw [e5]
        refine q _ _ (s1.trans e3) ⟨fun ha => ?_, fun ⟨ds, e1, r1, r2, r3⟩ => ?_⟩
        · have hx : ∀ i (hi2 : i < xs.length), ∃ z, xs[i] = .int z ∧ 0 ≤ z ∧ z ≤ 2 * (i : Int) + 1 := fun i hi2 => by
            have hm : (xs[i], i) ∈ xs.zipIdx := by
              refine List.mem_iff_getElem?.mpr ⟨i, ?_⟩
              rw [List.getElem?_zipIdx, List.getElem?_eq_getElem hi2]
              simp
            have hb := List.all_eq_true.mp ha _ hm
            have hq := hf xs[i] i (List.getElem_mem hi2)
            rw [hb] at hq
            exact bt_true hq
          refine ⟨xs.map fun x => match x with | .int z => z | _ => 0, ?_, ?_, ?_, ?_⟩
          · rw [List.map_map]
            refine (List.ext_getElem (by rw [List.length_map]) fun i i1 i2 => ?_)
            obtain ⟨z, hz2, _⟩ := hx i i1
            rw [List.getElem_map, hz2]
            rfl
          · rw [List.length_map]; omega
          · rw [List.length_map]; omega
          · intro i hi2
            rw [List.length_map] at hi2
            obtain ⟨z, hz2, hz3⟩ := hx i hi2
            rw [List.getElem_map, hz2]
            exact hz3
        · subst e1
          refine List.all_eq_true.mpr fun y hy => ?_
          obtain ⟨i, hi2⟩ := List.mem_iff_getElem?.mp hy
          rw [List.getElem?_zipIdx] at hi2
          by_cases hlt : i < ds.length
          · rw [List.getElem?_map, List.getElem?_eq_getElem hlt] at hi2
            have hy2 : y = (V.int ds[i], i) := by
              have := Option.some.inj hi2
              rw [← this]
              simp
            subst hy2
            rcases hf (.int ds[i]) i (List.mem_map_of_mem (List.getElem_mem hlt)) with ⟨z, ez, eb⟩ | ⟨eb, z⟩
            · cases ez
              rw [eb]
              exact decide_eq_true (r3 i hlt)
            · rcases z with ⟨_, _, ez⟩ | ⟨_, t, b1, b2, ty, k1, k2, k3⟩
              · cases ez
              · cases ty with
                | base b =>
                  cases b
                  have z1 : PySem.W.kitOne K (.type "int") (.type "int") = some true := kit_ty (by decide +kernel)
                  have z2 : PySem.W.kitOne K (.type "int") (.type "bool") = some false := kit_ty (by decide +kernel)
                  rw [z1] at k1
                  rw [z2] at k2
                  cases k1
                  cases k2
                  cases k3
          · rw [List.getElem?_map, List.getElem?_eq_none (by omega)] at hi2
            cases hi2
      · refine i_nF h2 ?_
        walk_at "st"
        exact no _ s1 (by omega)
    · refine i_dF h1 ?_
      walk_at "st"
      exact no _ s1 (by omega)
  · walk_at "st"
    refine ⟨by show 2 ≤ sizeLine; decide, fun tp htp => ?_⟩
    walk_at "st"
    have s1 : Same H (upd H tp (.tup [.ty "list", .ty "tuple"])) := Same.new htp
    refine isiT_no (TyX.same s1 ty) ek upd_same ?_
    walk_at "st"
    exact q _ s1
/-! ### decoded -/
def sp_decoded (K : PySem.W.Frag) (a : Ad) : Sp := fun vs H Q _ => vs.length = 1 ∧ ∃ p ds, vs = [.ref p] ∧ SqA K H p (ds.map V.int) ∧ IsCode ds ∧ ∀ x H', H x = none → Same H H' → ArrAt K a H' x (decP ds) → Q (.ref x) H'
def t_decoded (K : PySem.W.Frag) (a : Ad) : TS := tSeq (tPar 2 3 (tCons (tLstRg (tRg2 (tC (.int 1)) (tOp (rAddI) (tCB (rLenS K) (tCons (tVar 0) (tNil))) (tC (.int 1))))) (tCons (tLst (tNil)) (tNil))))
  (tSeq (tFor (iRng3 (tCons (tOp (rSubI) (tCB (rLenS K) (tCons (tVar 0) (tNil))) (tC (.int 1))) (tCons (tUn rNeg (tC (.int 1))) (tCons (tUn rNeg (tC (.int 1))) (tNil))))) (gName 1) (tSeq (tAsg (tOp (rIxLT K) (tVar 0) (tVar 1)) (gName 4))
  (tSeq (tAsg (tBM K "list" (rPopAt) (tVar 2) (tCons (tIf (tTest (tOp (rLeI) (tVar 4) (tVar 1))) (tOp (rSubI) (tVar 1) (tVar 4)) (tOp (rSubI) (tOp (rSubI) (tVar 4) (tVar 1)) (tC (.int 1)))) (tNil))) (gName 5))
  (tDrop (tBM K "list" (rAppend) (tVar 3) (tCons (tIf (tTest (tOp (rLeI) (tVar 4) (tVar 1))) (tVar 5) (tUn rNeg (tVar 5))) (tNil)))))))
  (tRet (tMakeR a.Arrangement (sp_Arrangement___init__ K a) E0 (tCons (tRevL K (tVar 3)) (tNil)))))
theorem at_nat {xs : List V} {i : Nat} {v : V} (h : xs[i]? = some v) : atI xs (i : Int) = some v := by
  have hi := (List.getElem?_eq_some_iff.mp h).1
  unfold atI ixN
  rw [if_pos (by omega), if_pos (by omega)]
  simpa using h
theorem two_off {p q : Addr} {o1 o2 : HO} (e : Same H H') (hp : H p = none) (hq : H q = none) : Same H (upd (upd H' p o1) q o2) := Same.mut (Same.mut e hp) hq
theorem pure_decoded (h : sp_decoded K a vs H Q E) : Run (t_decoded K a) 6 vs H Q := by
  obtain ⟨_, p, ds, rfl, hs, hc, q⟩ := h
  obtain ⟨hrow, hcode, hlen⟩ := decP_row hc
  have h1 := hc.1
  have h2 := hc.2.1
  have h3 := hc.2.2
  unfold Run t_decoded
  walk_at "st"
  refine i_lenA hs ?_
  walk_at "st"
  rw [List.length_map]
  refine ⟨_, _, rfl, rfl, ⟨by omega, by omega, by omega, by omega, by omega⟩, fun l hl => ?_⟩
  rw [rgV_eq _ ds.length _ (by omega)]
  walk_at "st"
  refine ⟨by show 0 ≤ sizeLine; exact Nat.zero_le _, fun u hu => ?_⟩
  have e0 : Same H (upd H l (.lst ((rgI 1 ds.length).map V.int))) := Same.new hl
  have lu : l ≠ u := fun z => by rw [← z, upd_same] at hu; cases hu
  have hu0 : H u = none := by rw [upd_ne lu.symm] at hu; exact hu
  have e1 := e0.trans (Same.new (o := .lst []) hu)
  refine i_nil ⟨_, _, rfl, ?_⟩
  walk_at "st"
  refine i_lenA (hs.same e1) ?_
  walk_at "st"
  rw [List.length_map]
  refine ⟨_, _, _, ds.length, rfl, ?_, ?_⟩
  · have z := RgC.neg (i := (ds.length : Int) - 1) (j := -1) (by omega) (by omega) (by decide) (by decide)
    have e : ((ds.length : Int) - 1 - -1).toNat = ds.length := by omega
    rw [e] at z
    exact z
  have dl : ds.reverse.length = ds.length := List.length_reverse
  refine forG (walk_rangeC (n := ds.length)) (fun i σ H' => ∃ (x1 x4 x5 : Option V) (left res : List Int), σ = [some (.ref p), x1, some (.ref l), some (.ref u), x4, x5] ∧ Same H H' ∧ H' l = some (.lst (left.map V.int)) ∧ H' u = some (.lst (res.map V.int)) ∧
      res ++ dec (ds.reverse.drop i) left = dec ds.reverse (rgI 1 ds.length) ∧ left.length = ds.length - i ∧ res.length = i) ⟨none, none, none, rgI 1 ds.length, [], rfl, e1, (upd_ne lu).trans upd_same, upd_same, rfl, rgI_length _ _, rfl⟩ (fun _ _ _ _ _ => trivial) ?_ ?_
  · rintro i v σ H1 H2 hi ⟨x1, x4, x5, left, res, rfl, s1, hl1, hu1, inv, ll, rl⟩ ⟨eH, hv⟩
    obtain rfl : H1 = H2 := eH.symm
    obtain ⟨m, hm⟩ : ∃ m : Nat, ds.length - 1 - i = m := ⟨_, rfl⟩
    have em : (ds.length : Int) - 1 + (i : Nat) * -1 = (m : Nat) := by omega
    have hv2 : v = .int (m : Nat) := by
      rw [hv]
      show V.int ((ds.length : Int) - 1 + (i : Nat) * -1) = _
      rw [em]
    subst hv2
    walk_at "st"
    have hmd : m < ds.length := by omega
    have hd : ds.reverse.drop i = ds[m] :: ds.reverse.drop (i + 1) := by
      rw [List.drop_eq_getElem_cons (by omega), List.getElem_reverse]
      congr 2
    have hrl : (ds.reverse.drop (i + 1)).length = m := by rw [List.length_drop, dl]; omega
    obtain ⟨hd0, hd1⟩ := h3 m hmd
    have hk := kOf_le hd0 hd1
    have hkl : kOf ds[m] m < left.length := by omega
    have hgd : left.getD (kOf ds[m] m) 0 = left[kOf ds[m] m] := by rw [List.getD_eq_getElem?_getD, List.getElem?_eq_getElem hkl]; rfl
    refine i_ixA (v := .int ds[m]) (hs.same s1) (at_nat (by rw [List.getElem?_map, List.getElem?_eq_getElem hmd]; rfl)) ?_
    walk_at "st"
    refine ⟨.inl ⟨rfl, _, SqL.of hl1⟩, ?_⟩
    have fin : ∀ (c : Int), c = cardOf ds[m] m left → ∀ y1 y4 y5 : Option V, ∃ (x1 x4 x5 : Option V) (left' res' : List Int), ([some (.ref p), y1, some (.ref l), some (.ref u), y4, y5] : L2.St) = [some (.ref p), x1, some (.ref l), some (.ref u), x4, x5] ∧
        Same H (upd (upd H1 l (.lst ((left.map V.int).eraseIdx (kOf ds[m] m)))) u (.lst (res.map V.int ++ [V.int c]))) ∧ (upd (upd H1 l (.lst ((left.map V.int).eraseIdx (kOf ds[m] m)))) u (.lst (res.map V.int ++ [V.int c]))) l = some (.lst (left'.map V.int)) ∧
        (upd (upd H1 l (.lst ((left.map V.int).eraseIdx (kOf ds[m] m)))) u (.lst (res.map V.int ++ [V.int c]))) u = some (.lst (res'.map V.int)) ∧ res' ++ dec (ds.reverse.drop (i + 1)) left' = dec ds.reverse (rgI 1 ds.length) ∧ left'.length = ds.length - (i + 1) ∧ res'.length = i + 1 := by
      rintro c rfl y1 y4 y5
      refine ⟨y1, y4, y5, left.eraseIdx (kOf ds[m] m), res ++ [cardOf ds[m] m left], rfl, two_off s1 hl hu0, ?_, ?_, ?_, ?_, ?_⟩
      · rw [upd_ne lu, upd_same, erase_map]
      · rw [upd_same, List.map_append]
        rfl
      · rw [← inv, hd, List.append_assoc]
        show res ++ (cardOf ds[m] m left :: dec _ _) = res ++ (cardOf ds[m] _ left :: dec _ (left.eraseIdx (kOf ds[m] _)))
        rw [hrl]
      · rw [List.length_eraseIdx, if_pos hkl]
        omega
      · rw [List.length_append, rl]
        rfl
    have hu2 : ∀ o, (upd H1 l o) u = some (.lst (res.map V.int)) := fun o => (upd_ne lu.symm).trans hu1
    have hlz : (left.map V.int).length ≤ 100000 := by rw [List.length_map]; omega
    have hrz : (res.map V.int).length ≤ 100000 := by rw [List.length_map]; omega
    by_cases hc2 : ds[m] ≤ (m : Int)
    · have hkk : kOf ds[m] m = ((m : Int) - ds[m]).toNat := if_pos hc2
      refine i_cons (i_if (i_test (i_op (i_var rfl (i_var rfl (i_rI0 (i_bl (i_dT hc2 ?_))))))))
      walk_at "st"
      refine i_popAt hl1 (by omega) (by rw [List.length_map]; omega) hlz (y := .int left[kOf ds[m] m]) (by rw [← hkk, List.getElem?_map, List.getElem?_eq_getElem hkl]; rfl) ?_
      rw [← hkk]
      walk_at "st"
      refine ⟨.inl ⟨rfl, _, SqL.of (hu2 _)⟩, ?_⟩
      refine i_cons (i_if (i_test (i_op (i_var rfl (i_var rfl (i_rI0 (i_bl (i_dT hc2 ?_))))))))
      walk_at "st"
      refine i_app (hu2 _) hrz ?_
      walk_at "st"
      refine fin _ ?_ _ _ _
      unfold cardOf
      rw [if_pos hc2, hgd]
    · have hkk : kOf ds[m] m = (ds[m] - m - 1).toNat := if_neg hc2
      refine i_cons (i_if (i_test (i_op (i_var rfl (i_var rfl (i_rI0 (i_bl (i_dF hc2 ?_))))))))
      walk_at "st"
      refine i_popAt hl1 (by omega) (by rw [List.length_map]; omega) hlz (y := .int left[kOf ds[m] m]) (by rw [← hkk, List.getElem?_map, List.getElem?_eq_getElem hkl]; rfl) ?_
      rw [← hkk]
      walk_at "st"
      refine ⟨.inl ⟨rfl, _, SqL.of (hu2 _)⟩, ?_⟩
      refine i_cons (i_if (i_test (i_op (i_var rfl (i_var rfl (i_rI0 (i_bl (i_dF hc2 ?_))))))))
      walk_at "st"
      refine i_app (hu2 _) hrz ?_
      walk_at "st"
      refine fin _ ?_ _ _ _
      unfold cardOf
      rw [if_neg hc2, hgd]
  · rintro σ H1 ⟨x1, x4, x5, left, res, rfl, s1, hl1, hu1, inv, ll, rl⟩
    have hd : ds.reverse.drop ds.length = [] := List.drop_eq_nil_of_le (by omega)
    rw [hd] at inv
    have inv2 : res = dec ds.reverse (rgI 1 ds.length) := by
      have : res ++ [] = dec ds.reverse (rgI 1 ds.length) := inv
      rw [List.append_nil] at this
      exact this
    walk_at "st"
    refine ⟨u, _, rfl, SqL.of hu1, fun z hz => ?_⟩
    walk_at "st"
    have er : (res.map V.int).reverse = (decP ds).map V.int := by
      unfold decP
      rw [← List.map_reverse, inv2]
    refine make_okA (ns := decP ds) (SqA.ofL (by rw [upd_same, er])) hrow fun x H3 nx e3 at_ => ?_
    have s3 := (s1.trans (Same.new hz)).trans e3
    refine q x H3 ?_ s3 at_
    have := (s1.trans (Same.new (o := .lst (res.map V.int).reverse) hz))
    exact this.free nx
/-! ### from_code -/
structure ErF (K : PySem.W.Frag) (C : Addr) (f : Str) : Prop where
  ox : OexC K C
  nv : PySem.W.findIn K (.ref C) f = some none
/-- v is the code ds | v is no code -/
def CdV (K : PySem.W.Frag) (H : Hp) (v : V) : Option (List Int) → Prop
  | some ds => IsCode ds ∧ ∃ p, v = .ref p ∧ SqA K H p (ds.map V.int)
  | none => (∃ p xs, v = .ref p ∧ SqA K H p xs ∧ (∀ x ∈ xs, ∃ b, IntQ K H x b) ∧ xs.length ≤ 100000 ∧ ¬ ∃ ds : List Int, xs = ds.map V.int ∧ IsCode ds) ∨ ∃ t, TyX K H v t ∧ PySem.W.kitAny K t [.type "list", .type "tuple"] = some false
theorem CdV.same {v : V} {o : Option (List Int)} (e : Same H H') (h : CdV K H v o) : CdV K H' v o := by
  cases o with
  | some ds =>
    obtain ⟨h1, p, h2, h3⟩ := h
    exact ⟨h1, p, h2, h3.same e⟩
  | none =>
    rcases h with ⟨p, xs, h1, h2, h3, h4⟩ | ⟨t, h1, h2⟩
    · exact .inl ⟨p, xs, h1, h2.same e, fun x hx => (h3 x hx).imp fun b z => z.same e, h4⟩
    · exact .inr ⟨t, TyX.same e h1, h2⟩
def sp_from_code (K : PySem.W.Frag) (a : Ad) : Sp := fun vs H Q E => vs.length = 1 ∧ ∃ v o, vs = [v] ∧ CdV K H v o ∧ (∀ ds, o = some ds → ∀ x H', H x = none → Same H H' → ArrAt K a H' x (decP ds) → Q (.ref x) H') ∧
  (o = none → ∀ d H', H d = none → Same H H' → H' d = some (.xd [("value", v)]) → E (.ref a.InvalidCode) (some d) H')
def t_from_code (K : PySem.W.Frag) (a : Ad) (E : XK) : TS := tSeq (tIfS (tNot (tB (tCallR (sp_is_code K a) E0 (tCons (tVar 0) (tNil))))) (tRaise K a.InvalidCode "value" (WO E) (tVar 0)) (tNext))
  (tRet (tCallR (sp_decoded K a) E0 (tCons (tVar 0) (tNil))))
theorem pure_from_code (c : ErF K a.InvalidCode "value") (h : sp_from_code K a vs H Q E) : Run (t_from_code K a E) 1 vs H Q := by
  obtain ⟨_, v, o, rfl, hv, q1, q2⟩ := h
  unfold Run t_from_code
  walk_at "st"
  cases o with
  | some ds =>
    obtain ⟨hc, p, rfl, hs⟩ := hv
    refine ⟨rfl, .ref p, rfl, .inl ⟨p, _, rfl, hs, fun x hx => ?_, by rw [List.length_map]; exact Nat.le_trans hc.2.1 (by decide), fun b H1 e1 hb => ?_⟩⟩
    · obtain ⟨i, _, rfl⟩ := List.mem_map.mp hx
      exact ⟨true, IntQ.int i⟩
    have : b = true := hb.mpr ⟨ds, rfl, hc⟩
    subst this
    walk_at "st"
    exact ⟨rfl, p, ds, rfl, hs.same e1, hc, fun x H2 nx e2 at_ => q1 ds rfl x H2 (e1.free nx) (e1.trans e2) at_⟩
  | none =>
    have no : ∀ H1, Same H H1 → tRaise K a.InvalidCode "value" (WO E) (tVar 0) { nx := tRet (tCallR (sp_decoded K a) E0 (tCons (tVar 0) tNil)) { nx := fun _ H' => Q .non H', rt := Q }, rt := Q } [some v] H1 := fun H1 e1 =>
      i_raise (i_var rfl (raise_ok c.ox c.nv fun d hd => q2 rfl d _ (e1.free hd) (Same.mut e1 (e1.free hd)) upd_same))
    rcases hv with ⟨p, xs, rfl, hs, hi, hz, hn⟩ | ⟨t, ty, ek⟩
    · refine ⟨rfl, .ref p, rfl, .inl ⟨p, xs, rfl, hs, hi, hz, fun b H1 e1 hb => ?_⟩⟩
      have : b = false := by
        cases b with
        | false => rfl
        | true => exact absurd (hb.mp rfl) hn
      subst this
      refine i_bl ?_
      refine iteM ?_
      exact no H1 e1
    · refine ⟨rfl, v, rfl, .inr ⟨t, ty, ek, fun H1 e1 => ?_⟩⟩
      refine i_bl ?_
      refine iteM ?_
      exact no H1 e1
/-! ### _law_told -/
structure TldF (K : PySem.W.Frag) (a : Ad) : Prop where
  hx : PySem.W.exmOne K (.ref a.InvalidCode) (.ref a.InvalidCode) = some true
  k1 : PySem.W.kitOne K (.ref a.InvalidCode) (.ref a.CardError) = some true
  k2 : PySem.W.kitOne K (.ref a.InvalidCode) (.ref a.InvalidRow) = some false
def sp__law_told (K : PySem.W.Frag) (a : Ad) : Sp := fun vs H Q _ => vs.length = 1 ∧ ∃ v o, vs = [v] ∧ CdV K H v o ∧ (∀ ds, o = some ds → ∀ t H', Same H H' → SqT K H' t ((decP ds).map V.int) → Q (.ref t) H') ∧
  (o = none → ∃ d m k, Rp K H v d ∧ RpO d m k ∧ m ≤ 1000000 ∧ k ≤ 60 ∧ ∀ t H', H t = none → Same H H' → H' t = some (.tup [.str d.shown, .bl true]) → Q (.ref t) H')
def t__law_told (K : PySem.W.Frag) (a : Ad) (E : XK) : TS := tTry K ((WO E)) (fun W => tRet (tPropR a.Arrangement (sp_Arrangement_row K a) E0 (tCallW (sp_from_code K a) W (tCons (tVar 0) (tNil))))) ((.ref a.InvalidCode, some 1, fun ea cls d => tRet (tTup (tCons (tCB (rRepr K) (tCons (tXf ea cls d a.InvalidCode "value" (tVar 1)) (tNil))) (tCons (tAndV (tCB (rIsD K a.InvalidCode ea cls d) (tCons (tVar 1) (tCons (tC (.ref a.CardError)) (tNil)))) (tNotV (tCB (rIsD K a.InvalidCode ea cls d) (tCons (tVar 1) (tCons (tC (.ref a.InvalidRow)) (tNil)))))) (tNil))))) :: [])
theorem pure__law_told (c : TldF K a) (h : sp__law_told K a vs H Q E) : Run (t__law_told K a E) 2 vs H Q := by
  obtain ⟨_, v, o, rfl, hv, q1, q2⟩ := h
  unfold Run t__law_told
  walk_at "st"
  refine ⟨rfl, v, o, rfl, hv, fun ds e x H1 nx e1 at_ => row_ok at_ fun t ht => q1 ds e t H1 e1 ht, fun e dd H1 nd e1 hd => ?_⟩
  obtain ⟨d, m, k, rp, ro, hm, hk, q⟩ := q2 e
  refine ⟨true, c.hx, fun _ ea hea => ?_, fun z => by cases z⟩
  dsimp only
  walk_at "st"
  refine xf_ok hd ?_
  walk_at "st"
  refine i_reprO (Rp.same e1 _ _ rp) ro hm hk ?_
  walk_at "st"
  refine isD_ok c.k1 hd ⟨true, rfl, iteT ?_⟩
  walk_at "st"
  refine isD_ok c.k2 hd ⟨false, rfl, ?_⟩
  walk_at "st"
  refine ⟨by show 2 ≤ sizeLine; decide, fun t ht => ?_⟩
  exact q t _ (e1.free ht) (e1.trans (Same.new ht)) upd_same
/-! ### _law_check -/
def sp__law_check (K : PySem.W.Frag) (a : Ad) : Sp := fun vs H Q _ => vs.length = 1 ∧ ∃ t row, vs = [.ref t] ∧ SqT K H t (row.map V.int) ∧ IsRow row ∧ ∀ H', Same H H' → Q (.bl true) H'
def t__law_check (K : PySem.W.Frag) (a : Ad) : TS := tSeq (tAsg (tCallR (sp__law_digits K a) E0 (tCons (tVar 0) (tNil))) (gName 1))
  (tSeq (tFor (iRng1 (tCons (tC (.int 2)) (tNil))) (gName 2) (tSeq (tAsg (tCallR (sp_code K a) E0 (tCons (tMakeR a.Arrangement (sp_Arrangement___init__ K a) E0 (tCons (tVar 0) (tNil))) (tNil))) (gName 3))
  (tSeq (tIfS (tOr (tTest (tOp (rNe) (tCB (rRepr K) (tCons (tVar 3) (tNil))) (tCB (rRepr K) (tCons (tVar 1) (tNil))))) (tOr (tTest (tOp (rNeX K) (tPropR a.Arrangement (sp_Arrangement_row K a) E0 (tCallR (sp_from_code K a) E0 (tCons (tVar 3) (tNil)))) (tVar 0))) (tTest (tOp (rNeX K) (tCallR (sp__law_told K a) E0 (tCons (tCB (rTupS K) (tCons (tVar 1) (tNil))) (tNil))) (tVar 0))))) (tRet (tC (.bl false))) (tNext))
  (tDrop (tBM K "list" (rAppend) (tVar 3) (tCons (tC (.int 0)) (tNil)))))))
  (tRet (tC (.bl true))))
theorem code_small {ds : List Int} (h : IsCode ds) : ∀ n ∈ ds, n.natAbs < 10 ^ 50 := fun n hn => by
  obtain ⟨i, hi, rfl⟩ := List.mem_iff_getElem.mp hn
  have h1 := h.2.1
  obtain ⟨h2, h3⟩ := h.2.2 i hi
  have : ds[i].natAbs < 10000 := by omega
  exact Nat.lt_trans this (by decide)
theorem dec_self {α : Type} [DecidableEq α] (x : α) : decide (x = x) = true := decide_eq_true rfl
theorem pure__law_check (h : sp__law_check K a vs H Q E) : Run (t__law_check K a) 4 vs H Q := by
  obtain ⟨_, t, row, rfl, ht, hr, q⟩ := h
  obtain ⟨hcode, hdec, hlen⟩ := codeP_code hr
  unfold Run t__law_check
  walk_at "st"
  refine ⟨rfl, t, row, rfl, ht, hr.2.1, fun D H1 hD e1 hl => ?_⟩
  rw [digP_eq hr] at hl
  walk_at "st"
  refine ⟨2, rfl, by decide, by decide, ?_⟩
  refine forG (walk_range (n := 2)) (fun i σ H' => ∃ x2 x3 : Option V, σ = [some (.ref t), some (.ref D), x2, x3] ∧ Same H H' ∧ H' D = some (.lst ((codeP row).map V.int))) ⟨none, none, rfl, e1, hl⟩ (fun _ _ _ _ _ => trivial) ?_ ?_
  · rintro i v σ H2 H2' hi ⟨x2, x3, rfl, s2, hD2⟩ ⟨eH, hv⟩
    obtain rfl : H2 = H2' := eH.symm
    walk_at "st"
    refine make_okA (.inr (Same.seqT s2 ht)) hr fun x H3 nx e3 at_ => ?_
    walk_at "st"
    refine ⟨rfl, x, row, rfl, at_, fun f H4 nf e4 hf => ?_⟩
    have s4 : Same H2 H4 := e3.trans e4
    have hD4 := s4 _ _ hD2
    have fresh : H2 f = none := e3.free nf
    walk_at "st"
    refine i_reprO (rp_intsL (SqL.of hf)) (rpo_ints (code_small hcode)) (by rw [hlen]; have := hr.2.1; omega) (by decide) ?_
    walk_at "st"
    refine i_reprO (rp_intsL (SqL.of hD4)) (rpo_ints (code_small hcode)) (by rw [hlen]; have := hr.2.1; omega) (by decide) ?_
    refine i_ne rfl (i_bl ?_)
    rw [dec_self]
    refine iteN ?_
    walk_at "st"
    refine ⟨rfl, .ref f, some (codeP row), rfl, ⟨hcode, f, rfl, SqA.ofL hf⟩, fun ds e x2 H5 nx2 e5 at2 => ?_, fun e => by cases e⟩
    cases e
    refine row_ok at2 fun t2 ht2 => ?_
    rw [hdec] at ht2
    walk_at "st"
    refine ne_hd (hd_intsT ht2) (hd_intsT (Same.seqT ((s2.trans s4).trans e5) ht)) (i_bl ?_)
    rw [dec_self]
    refine iteN ?_
    walk_at "st"
    refine ⟨D, _, rfl, .inl ⟨SqL.of (e5 _ _ hD4), fun tt htt => ?_⟩⟩
    walk_at "st"
    have s6 := (s4.trans e5).trans (Same.new (o := .tup ((codeP row).map V.int)) htt)
    refine ⟨rfl, .ref tt, some (codeP row), rfl, ⟨hcode, tt, rfl, SqA.ofT upd_same⟩, fun ds e t3 H6 e6 ht3 => ?_, fun e => by cases e⟩
    cases e
    rw [hdec] at ht3
    walk_at "st"
    refine ne_hd (hd_intsT ht3) (hd_intsT (Same.seqT ((s2.trans s6).trans e6) ht)) (i_bl ?_)
    rw [dec_self]
    refine iteN ?_
    walk_at "st"
    have s7 := s6.trans e6
    have hf7 : H6 f = some (.lst ((codeP row).map V.int)) := e6 _ _ ((e5.trans (Same.new (o := .tup ((codeP row).map V.int)) htt)) _ _ hf)
    refine ⟨.inl ⟨rfl, _, SqL.of hf7⟩, ?_⟩
    walk_at "st"
    refine i_app hf7 (by rw [List.length_map, hlen]; have := hr.2.1; omega) ?_
    walk_at "st"
    refine ⟨_, _, rfl, s2.trans (Same.mut s7 fresh), ?_⟩
    have hDf : D ≠ f := ne_of_none hD2 fresh
    rw [upd_ne hDf]
    exact s7 _ _ hD2
  · rintro σ H2 ⟨x2, x3, rfl, s2, hD2⟩
    walk_at "st"
    exact q _ s2
/-! ### _law_kept_right -/
def sp__law_kept_right (K : PySem.W.Frag) (a : Ad) : Sp := fun vs H Q _ => vs.length = 0 ∧ vs = [] ∧ ∀ H', Same H H' → Q (.bl true) H'
def t__law_kept_right (K : PySem.W.Frag) (a : Ad) (E : XK) : TS := tSeq (tAsg (tLst (tCons (tC (.int 0)) (tCons (tC (.int 9)) (tNil)))) (gName 0))
  (tSeq (tTry K ((WO E)) (fun W => tDrop (tCallW (sp_from_code K a) W (tCons (tVar 0) (tNil)))) ((.ref a.InvalidCode, some 1, fun ea cls d => tSeq (tDrop (tBM K "list" (rAppend) (tVar 0) (tCons (tC (.int 1)) (tNil))))
  (tRet (tOp (rEqX K) (tXf ea cls d a.InvalidCode "value" (tVar 1)) (tLst (tCons (tC (.int 0)) (tCons (tC (.int 9)) (tCons (tC (.int 1)) (tNil)))))))) :: []))
  (tRet (tC (.bl false))))
theorem pure__law_kept_right (c : TldF K a) (h : sp__law_kept_right K a vs H Q E) : Run (t__law_kept_right K a E) 2 vs H Q := by
  obtain ⟨_, rfl, q⟩ := h
  unfold Run t__law_kept_right
  walk_at "st"
  refine ⟨by show 2 ≤ sizeLine; decide, fun l hl => ?_⟩
  have e0 : Same H (upd H l (.lst [.int 0, .int 9])) := Same.new hl
  walk_at "st"
  refine ⟨rfl, .ref l, none, rfl, .inl ⟨l, _, rfl, SqA.ofL upd_same, fun x hx => ?_, by decide, fun ⟨ds, e, h1, h2, h3⟩ => ?_⟩, (fun ds e => by cases e), fun _ dd H1 nd e1 hd => ?_⟩
  · rcases List.mem_cons.mp hx with rfl | hx
    · exact ⟨true, IntQ.int 0⟩
    · rcases List.mem_cons.mp hx with rfl | hx
      · exact ⟨true, IntQ.int 9⟩
      · cases hx
  · have e2 : ds = [0, 9] := inj_ints _ _ (by rw [← e]; rfl)
    subst e2
    have := (h3 1 (by decide)).2
    revert this
    decide
  · refine ⟨true, c.hx, fun _ ea hea => ?_, fun z => by cases z⟩
    dsimp only
    have hl1 : H1 l = some (.lst [.int 0, .int 9]) := e1 _ _ upd_same
    walk_at "st"
    refine ⟨.inl ⟨rfl, _, SqL.of hl1⟩, ?_⟩
    walk_at "st"
    refine i_app hl1 (by decide) ?_
    walk_at "st"
    have dl : dd ≠ l := fun z => by rw [z, hl1] at hd; cases hd
    refine xf_ok ((upd_ne dl).trans hd) ?_
    walk_at "st"
    refine ⟨by show 3 ≤ sizeLine; decide, fun l2 hl2 => ?_⟩
    have n2 : l ≠ l2 := fun z => by rw [← z, upd_same] at hl2; cases hl2
    refine eq_hd (x := ([0, 9, 1] : List Int)) (y := [0, 9, 1]) (hd_intsL (SqL.of ((upd_ne n2).trans upd_same))) (hd_intsL (SqL.of upd_same)) ?_
    rw [dec_self]
    refine q _ ?_
    exact Same.trans (Same.mut (e0.trans e1) hl) (Same.new hl2)
end
end TC

set_option Elab.async false
set_option linter.all false
set_option maxRecDepth 100000
set_option maxHeartbeats 4000000
namespace TC
open PySem PySem.Spec PyProof.Rows L2
open PySem.W (Datum Tup)
local macro_rules | `(tactic| walk_at "st") => `(tactic| repeat (first
  | with_reducible refine i_seq ?_ | with_reducible refine i_asg ?_ | with_reducible refine i_ret ?_ | with_reducible refine i_retN ?_ | with_reducible refine i_ifs ?_ | with_reducible refine i_next ?_ | with_reducible refine i_drop ?_
  | with_reducible refine i_lcX ?_ | with_reducible refine i_par ?_ | with_reducible refine i_gN ?_ | with_reducible refine i_gS ?_ | with_reducible refine i_nil ?_ | with_reducible refine i_cons ?_ | with_reducible refine i_tup ?_ | with_reducible refine i_lst ?_
  | with_reducible refine i_op ?_ | with_reducible refine i_un ?_ | with_reducible refine i_test ?_ | with_reducible refine i_B ?_ | with_reducible refine i_bl ?_ | with_reducible refine i_not ?_ | with_reducible refine i_and ?_ | with_reducible refine i_or ?_
  | with_reducible refine i_andV ?_ | with_reducible refine i_orV ?_ | with_reducible refine i_notV ?_ | with_reducible refine i_if ?_ | with_reducible refine i_chain ?_ | with_reducible refine i_cb ?_ | with_reducible refine i_call ?_ | with_reducible refine i_make ?_
  | with_reducible refine i_smeth ?_ | with_reducible refine i_prop ?_ | with_reducible refine i_fld ?_ | with_reducible refine i_sfld ?_ | with_reducible refine i_bm ?_ | with_reducible refine i_fmt ?_ | with_reducible refine i_fmt6 ?_ | with_reducible refine i_joined ?_ | with_reducible refine i_jsC ?_ | with_reducible refine i_jsN ?_ | with_reducible refine i_forG ?_ | with_reducible refine i_rng1 ?_ | with_reducible refine i_rng2 ?_ | with_reducible refine i_iL ?_ | with_reducible refine i_iT ?_ | with_reducible refine i_iLT ?_ | with_reducible refine i_iEn ?_ | with_reducible refine i_iZp ?_ | with_reducible refine i_lr1 ?_ | with_reducible refine i_lr2 ?_ | with_reducible refine i_gT ?_ | with_reducible refine i_gC ?_ | with_reducible refine i_gNil ?_ | with_reducible refine i_sl ?_ | with_reducible refine i_noP ?_ | with_reducible refine i_prt ?_ | with_reducible refine i_int ?_ | with_reducible refine i_jT ?_ | with_reducible refine i_bm0 ?_
  | ((with_reducible refine' i_var ?hv ?_); (case hv => exact rfl)) | with_reducible refine i_c ?_ | with_reducible refine i_rI0 ?_ | with_reducible refine i_rU ?_ | with_reducible refine i_abs ?_ | with_reducible refine i_max2 ?_ | with_reducible refine i_min2 ?_ | with_reducible refine i_int1 ?_
  | ((with_reducible refine' i_rI ?hc ?_); (case hc => first | (show (0 : Int) < _; first | decide | omega) | (refine Or.inl (Or.inl ?_); constructor <;> first | decide | omega) | (refine Or.inl (Or.inr ?_); constructor <;> first | decide | omega) | (refine divOk ?_ ?_ <;> first | decide | omega) | (refine ⟨?_, ?_, ?_⟩ <;> first | decide | omega)))
  | with_reducible refine i_callW ?_ | with_reducible refine i_makeW ?_ | with_reducible refine i_raise ?_ | with_reducible refine i_try ?_ | with_reducible refine i_par3 ?_ | with_reducible refine i_rng3 ?_ | with_reducible refine i_revL ?_ | with_reducible refine i_star ?_ | with_reducible refine i_xf ?_ | with_reducible refine i_isB ?_ | with_reducible refine i_notB ?_ | with_reducible refine i_enA ?_ | with_reducible refine i_brk ?_ | with_reducible refine i_cont ?_
  | with_reducible refine iteT ?_ | with_reducible refine iteF ?_ | with_reducible refine iteN ?_ | with_reducible refine iteM ?_))

section
variable {K : PySem.W.Frag} {a : Ad} {H H' : Hp} {Q : VK} {E : XK} {vs : List V}

/-! ### values that are no ints -/
theorem intq_no {v : V} {t : Value} {b1 b2 : Bool} (ty : TyX K H v t) (k1 : PySem.W.kitOne K t (.type "int") = some b1) (k2 : PySem.W.kitOne K t (.type "bool") = some b2) (hb : (b1 && !b2) = false) : IntQ K H v false := .inr ⟨rfl, t, b1, b2, ty, k1, k2, hb⟩
theorem intq_non : IntQ K H .non false := intq_no (b1 := false) (b2 := false) (.base .non) (kit_ty (by decide +kernel)) (kit_ty (by decide +kernel)) rfl
theorem intq_bl (b : Bool) : IntQ K H (.bl b) false := intq_no (b1 := true) (b2 := true) (.base (.bl b)) (kit_ty (by decide +kernel)) (kit_ty (by decide +kernel)) rfl
theorem intq_str (x : Str) : IntQ K H (.str x) false := intq_no (b1 := false) (b2 := false) (.base (.str x)) (kit_ty (by decide +kernel)) (kit_ty (by decide +kernel)) rfl
theorem intq_L {p : Addr} {xs : List V} (h : SqL K H p xs) : IntQ K H (.ref p) false := intq_no (b1 := false) (b2 := false) (tyx_L h) (kit_ty (by decide +kernel)) (kit_ty (by decide +kernel)) rfl
theorem intq_T {p : Addr} {xs : List V} (h : SqT K H p xs) : IntQ K H (.ref p) false := intq_no (b1 := false) (b2 := false) (tyx_T h) (kit_ty (by decide +kernel)) (kit_ty (by decide +kernel)) rfl
theorem seqno {T : String} (h1 : kitB T "list" = some false) (h2 : kitB T "tuple" = some false) : PySem.W.kitAny K (.type T) [.type "list", .type "tuple"] = some false :=
  kitAny_cons (b := false) (kit_ty h1) (fun _ => kitAny_cons (b := false) (kit_ty h2) (fun _ => kitAny_nil) (fun z => by cases z)) (fun z => by cases z)
/-! ### odd digits -/
structure OddE (K : PySem.W.Frag) (H : Hp) (pos : Nat) (x : V) : Prop where
  iq : ∃ b, IntQ K H x b
  no : ∀ z, x = .int z → ¬ (0 ≤ z ∧ z ≤ 2 * (pos : Int) + 1)
  rp : ∃ d, Rp K H x d ∧ PyData.hasDict d = false ∧ RpO d 200 3
theorem OddE.same {pos : Nat} {x : V} (e : Same H H') (h : OddE K H pos x) : OddE K H' pos x := ⟨h.iq.imp fun b z => z.same e, h.no, h.rp.imp fun d z => ⟨Rp.same e _ _ z.1, z.2⟩⟩
theorem odd_int {pos : Nat} {z : Int} (h : ¬ (0 ≤ z ∧ z ≤ 2 * (pos : Int) + 1)) (hz : z.natAbs < 10 ^ 50) : OddE K H pos (.int z) := ⟨⟨true, IntQ.int z⟩, fun y e => by cases e; exact h, _, .int z, rfl, (rpo_int hz).mono (by decide) (by decide)⟩
theorem odd_non {pos : Nat} : OddE K H pos .non := ⟨⟨false, intq_non⟩, (fun y e => by cases e), _, .non, rfl, rpo_none.mono (by decide) (by decide)⟩
theorem odd_bl {pos : Nat} (b : Bool) : OddE K H pos (.bl b) := ⟨⟨false, intq_bl b⟩, (fun y e => by cases e), _, .bl b, rfl, (rpo_bool b).mono (by decide) (by decide)⟩
theorem odd_str {pos : Nat} {x : Str} (h : (reprText x).length ≤ 51) : OddE K H pos (.str x) := ⟨⟨false, intq_str x⟩, (fun y e => by cases e), _, .str x, rfl, (rpo_str h).mono (by decide) (by decide)⟩
theorem rpo_one {i : Int} (h : i.natAbs < 10 ^ 50) : RpO (.list [.int i]) 200 3 ∧ RpO (.tuple [.int i]) 200 3 :=
  ⟨(rpo_list (ds := [.int i]) (m := 51) (k := 0) (fun d hd => by rw [List.mem_singleton.mp hd]; exact rpo_int h)).mono (by show 1 * 51 + 2 * 1 + 3 ≤ 200; decide) (by decide), (rpo_tup (ds := [.int i]) (m := 51) (k := 0) (fun d hd => by rw [List.mem_singleton.mp hd]; exact rpo_int h)).mono (by show 1 * 51 + 2 * 1 + 3 ≤ 200; decide) (by decide)⟩
theorem odd_L {pos : Nat} {p : Addr} {i : Int} (h : SqL K H p [.int i]) (hi : i.natAbs < 10 ^ 50) : OddE K H pos (.ref p) := ⟨⟨false, intq_L h⟩, (fun y e => by cases e), _, rp_intsL (ns := [i]) h, rfl, (rpo_one hi).1⟩
theorem odd_T {pos : Nat} {p : Addr} {i : Int} (h : SqT K H p [.int i]) (hi : i.natAbs < 10 ^ 50) : OddE K H pos (.ref p) := ⟨⟨false, intq_T h⟩, (fun y e => by cases e), _, rp_intsT (ns := [i]) h, rfl, (rpo_one hi).2⟩
/-- a value that is no code, and what repr shows of it -/
def BadE (K : PySem.W.Frag) (H : Hp) (x : V) : Prop := CdV K H x none ∧ ∃ d, Rp K H x d ∧ RpO d 500000 9
theorem BadE.same {x : V} (e : Same H H') (h : BadE K H x) : BadE K H' x := ⟨h.1.same e, h.2.imp fun d z => ⟨Rp.same e _ _ z.1, z.2⟩⟩
theorem rpo_pl {ns : List Int} (h : ∀ n ∈ ns, n.natAbs < 10 ^ 50) : ∀ d ∈ ns.map PyData.int, RpO d 200 3 := fun d hd => by
  obtain ⟨n, hn, rfl⟩ := List.mem_map.mp hd
  exact (rpo_int (h n hn)).mono (by decide) (by decide)
theorem nodict_app : ∀ (xs ys : List PyData), PyData.hasDictAll xs = false → PyData.hasDictAll ys = false → PyData.hasDictAll (xs ++ ys) = false
  | [], _, _, h => h
  | x :: xs, ys, h, g => by
    have h' : (PyData.hasDict x || PyData.hasDictAll xs) = false := h
    rw [Bool.or_eq_false_iff] at h'
    show (PyData.hasDict x || PyData.hasDictAll (xs ++ ys)) = false
    rw [h'.1, nodict_app xs ys h'.2 g]
    rfl
/-- a code with one digit exchanged -/
theorem bad_one {ds : List Int} {pos : Nat} {x : V} {p : Addr} (hc : IsCode ds) (hl : ds.length ≤ 100) (hp : pos < ds.length) (ho : OddE K H pos x) (hs : SqL K H p ((ds.take pos).map V.int ++ [x] ++ (ds.drop (pos + 1)).map V.int)) : BadE K H (.ref p) := by
  obtain ⟨d, rd, nd, od⟩ := ho.rp
  have h1 : ∀ n ∈ ds.take pos, n.natAbs < 10 ^ 50 := fun n hn => code_small hc n (List.mem_of_mem_take hn)
  have h2 : ∀ n ∈ ds.drop (pos + 1), n.natAbs < 10 ^ 50 := fun n hn => code_small hc n (List.mem_of_mem_drop hn)
  refine ⟨.inl ⟨p, _, rfl, .inl hs, fun y hy => ?_, ?_, fun ⟨ds', e, h3⟩ => ?_⟩, .list ((ds.take pos).map PyData.int ++ [d] ++ (ds.drop (pos + 1)).map PyData.int), ?_, ?_⟩
  · rcases List.mem_append.mp hy with hy | hy
    · rcases List.mem_append.mp hy with hy | hy
      · obtain ⟨i, _, rfl⟩ := List.mem_map.mp hy
        exact ⟨true, IntQ.int i⟩
      · rw [List.mem_singleton.mp hy]
        exact ho.iq
    · obtain ⟨i, _, rfl⟩ := List.mem_map.mp hy
      exact ⟨true, IntQ.int i⟩
  · simp
    omega
  · have hg : (ds'.map V.int)[pos]? = some x := by
      have e0 : ((ds.take pos).map V.int).length = pos := by rw [List.length_map, List.length_take, Nat.min_eq_left (Nat.le_of_lt hp)]
      rw [← e, List.append_assoc, List.getElem?_append_right (by rw [e0]; exact Nat.le_refl _), e0, Nat.sub_self]
      rfl
    rw [List.getElem?_map] at hg
    cases hd : ds'[pos]? with
    | none =>
      rw [hd] at hg
      cases hg
    | some z =>
      rw [hd] at hg
      have hz := (Option.some.inj hg).symm
      obtain ⟨hlt, he⟩ := List.getElem?_eq_some_iff.mp hd
      have := h3.2.2 pos hlt
      rw [he] at this
      exact ho.no z hz this
  · refine .lst hs (RpAll.app (RpAll.app (rpAll_ints _) (.cons rd .nil)) (rpAll_ints _)) (nodict_app _ _ (nodict_app _ _ (nodict_ints _) ?_) (nodict_ints _))
    show (PyData.hasDict d || false) = false
    rw [nd]
    rfl
  · refine (rpo_list (m := 200) (k := 3) fun y hy => ?_).mono ?_ (by decide)
    · rcases List.mem_append.mp hy with hy | hy
      · rcases List.mem_append.mp hy with hy | hy
        · exact rpo_pl h1 y hy
        · rw [List.mem_singleton.mp hy]
          exact od
      · exact rpo_pl h2 y hy
    · simp
      omega
/-- what told says of a value that is no code, against what the law expects -/
theorem told_bad {x : V} {σ : L2.St} {D : Ends} {j : Nat} (hx : BadE K H x) (hj : σ[j]? = some (some x)) (k : ∀ H', Same H H' → D.nx σ H') :
    tIfS (tTest (tOp (rNeX K) (tCallR (sp__law_told K a) E0 (tCons (tVar j) (tNil))) (tTup (tCons (tCB (rRepr K) (tCons (tVar j) (tNil))) (tCons (tC (.bl true)) (tNil)))))) (tRet (tC (.bl false))) (tNext) D σ H := by
  obtain ⟨hc, d, rp, ro⟩ := hx
  refine i_ifs (i_test (i_op (i_call (i_cons (i_var hj (i_nil ?_))))))
  refine ⟨rfl, x, none, rfl, hc, (fun ds e => by cases e), fun _ => ⟨d, _, _, rp, ro, by decide, by decide, fun t H1 nt e1 ht => ?_⟩⟩
  refine i_tup (i_cons (i_cb (i_cons (i_var hj (i_nil ?_)))))
  refine i_reprO (Rp.same e1 _ _ rp) ro (by decide) (by decide) ?_
  refine i_cons (i_c (i_nil ⟨by show 2 ≤ sizeLine; decide, fun t2 ht2 => ?_⟩))
  have e2 := Same.new (o := .tup [.str d.shown, .bl true]) ht2
  refine ne_hd (x := ((d.shown, true) : Str × Bool)) (y := (d.shown, true)) (.tup (SqT.of (e2 _ _ ht)) (.cons (.str _) (.cons (.bl _) .nil))) (.tup (SqT.of upd_same) (.cons (.str _) (.cons (.bl _) .nil))) (i_bl ?_)
  rw [dec_self]
  exact iteN (i_next (k _ (e1.trans e2)))
/-! ### the law -/
def sp_law (K : PySem.W.Frag) (a : Ad) : Sp := fun vs H Q _ => vs.length = 1 ∧ ∃ (s : Addr) (ns : List Int), vs = [.ref s] ∧ SqL K H s (ns.map V.int) ∧ ns.length ≤ 63 ∧ ∀ H', Q (.bl true) H'
def t_law (K : PySem.W.Frag) (a : Ad) : TS := tSeq (tFor (iRng1 (tCons (tCB (rMax2) (tCons (tC (.int 1)) (tCons (tCB (rMin2) (tCons (tC (.int 10)) (tCons (tCB (rLenS K) (tCons (tVar 0) (tNil))) (tNil)))) (tNil)))) (tNil))) (gName 1) (tSeq (tAsg (tCallR (sp__law_pool K a) E0 (tCons (tVar 0) (tCons (tVar 1) (tNil)))) (gName 2))
  (tSeq (tAsg (tCallR (sp__law_cards K a) E0 (tCons (tVar 2) (tCons (tOp (rAddI) (tC (.int 1)) (tCallR (sp__law_take K a) E0 (tCons (tVar 2) (tCons (tC (.int 12)) (tNil))))) (tNil)))) (gName 3))
  (tSeq (tIfS (tOr (tNot (tB (tCallR (sp__law_check K a) E0 (tCons (tVar 3) (tNil))))) (tAnd (tTest (tOp (rEq) (tVar 1) (tC (.int 0)))) (tNot (tB (tCallR (sp__law_check K a) E0 (tCons (tCallR (sp__law_cards K a) E0 (tCons (tVar 2) (tCons (tOp (rAddI) (tC (.int 100)) (tCallR (sp__law_take K a) E0 (tCons (tVar 2) (tCons (tC (.int 101)) (tNil))))) (tNil)))) (tNil))))))) (tRet (tC (.bl false))) (tNext))
  (tSeq (tAsg (tLc (iRng1 (tCons (tOp (rAddI) (tC (.int 1)) (tCallR (sp__law_take K a) E0 (tCons (tVar 2) (tCons (tC (.int 15)) (tNil))))) (tNil))) (gName 8) (tYes) (tCallR (sp__law_take K a) E0 (tCons (tVar 2) (tCons (tOp (rAddI) (tOp (rMulI) (tC (.int 2)) (tVar 8)) (tC (.int 2))) (tNil)))) [8]) (gName 4))
  (tSeq (tIfS (tTest (tOp (rNeX K) (tCallR (sp_code K a) E0 (tCons (tCallR (sp_from_code K a) E0 (tCons (tVar 4) (tNil))) (tNil))) (tVar 4))) (tRet (tC (.bl false))) (tNext))
  (tSeq (tAsg (tCallR (sp__law_take K a) E0 (tCons (tVar 2) (tCons (tCB (rLenS K) (tCons (tVar 4) (tNil))) (tNil)))) (gName 5))
  (tSeq (tFor (iList K (tLst (tCons (tUn rNeg (tC (.int 1))) (tCons (tOp (rAddI) (tOp (rMulI) (tC (.int 2)) (tVar 5)) (tC (.int 2))) (tCons (tC .non) (tCons (tC (.bl true)) (tCons (tC (.str "0")) (tCons (tTup (tCons (tC (.int 0)) (tNil))) (tCons (tLst (tCons (tC (.int 0)) (tNil))) (tCons (tOp (rPowI) (tC (.int 10)) (tC (.int 30))) (tNil))))))))))) (gName 6) (tSeq (tAsg (tOp (rCat) (tOp (rCat) (tSl (rSlL K) (tVar 4) (tNoPart) (tPart (tVar 5))) (tLst (tCons (tVar 6) (tNil)))) (tSl (rSlL K) (tVar 4) (tPart (tOp (rAddI) (tVar 5) (tC (.int 1)))) (tNoPart))) (gName 7))
  (tIfS (tTest (tOp (rNeX K) (tCallR (sp__law_told K a) E0 (tCons (tVar 7) (tNil))) (tTup (tCons (tCB (rRepr K) (tCons (tVar 7) (tNil))) (tCons (tC (.bl true)) (tNil)))))) (tRet (tC (.bl false))) (tNext))))
  (tFor (iList K (tLst (tCons (tC .non) (tCons (tC (.int 5)) (tCons (tC (.str "0")) (tCons (tLst (tNil)) (tCons (tTup (tNil)) (tCons (tDNewK) (tCons (tLst (tCons (tLst (tCons (tC (.int 0)) (tNil))) (tNil))) (tCons (tLst (tCons (tC (.int 2)) (tNil))) (tCons (tLst (tCons (tC (.int 0)) (tCons (tC (.int 4)) (tNil)))) (tCons (tC (.bl true)) (tCons (tOp (rRep) (tLst (tCons (tC (.int 0)) (tNil))) (tC (.int 2001))) (tNil)))))))))))))) (gName 7) (tIfS (tTest (tOp (rNeX K) (tCallR (sp__law_told K a) E0 (tCons (tVar 7) (tNil))) (tTup (tCons (tCB (rRepr K) (tCons (tVar 7) (tNil))) (tCons (tC (.bl true)) (tNil)))))) (tRet (tC (.bl false))) (tNext)))))))))))
  (tRet (tAndV (tOp (rEq) (tCB (rLenO a.Arrangement (sp_Arrangement___len__ K a) E0) (tCons (tCallR (sp_from_code K a) E0 (tCons (tOp (rRep) (tLst (tCons (tC (.int 0)) (tNil))) (tC (.int 2000))) (tNil))) (tNil))) (tC (.int 2000))) (tCallR (sp__law_kept_right K a) E0 tNil)))
theorem keptSame {p : Addr} {H0 : Hp} (e : Same H0 H) (n : H0 p = none) (k : Kept p H H') : Same H0 H' := fun b o h => by
  rw [k b (ne_of_none h n)]
  exact e b o h
theorem offSame {p : Addr} {H0 : Hp} (e : Same H0 H) (n : H0 p = none) (k : Off p H H') : Same H0 H' := fun b o h => k b o (ne_of_none h n) (e b o h)
theorem poolSame {p : Addr} (e : Same H H') (h : PoolAt H p) : PoolAt H' p := by
  obtain ⟨A, B, h1, h2⟩ := h
  exact ⟨A, B, e _ _ h1, h2⟩
theorem zeros_code (n : Nat) (h1 : 1 ≤ n) (h2 : n ≤ 2000) : IsCode (List.replicate n 0) := ⟨by simpa using h1, by simpa using h2, fun i hi => by simp; omega⟩
theorem flat_rep (n : Nat) (x : V) : (List.replicate n [x]).flatten = List.replicate n x := by
  induction n with
  | zero => rfl
  | succ n ih => rw [List.replicate_succ, List.flatten_cons, ih, List.replicate_succ]; rfl
theorem rep_ints (n : Nat) (i : Int) : List.replicate n (V.int i) = (List.replicate n i).map V.int := by rw [List.map_replicate]
theorem i_repL {l : Addr} {x : V} {n : Nat} (hl : H l = some (.lst [x])) (hn : n ≤ 100000) (h : ∀ p, H p = none → Q (.ref p) (upd H p (.lst (List.replicate n x)))) : rRep (.ref l) (.int (n : Nat)) H Q :=
  ⟨l, _, [x], rfl, rfl, hl, by omega, by omega, by rw [List.length_singleton, Int.toNat_natCast, Nat.one_mul]; exact Nat.le_trans hn (by decide), fun p hp => by rw [Int.toNat_natCast, flat_rep]; exact h p hp⟩

theorem i_slL {p : Addr} {xs : List V} {lo hi : Option Int} (hs : SqL K H p xs) (h : ∀ q, H q = none → Q (.ref q) (upd H q (.lst (cutV xs lo hi)))) : rSlL K (.ref p) lo hi H Q := ⟨p, xs, rfl, hs, h⟩
theorem cut_drop {xs : List V} {i : Nat} (hi : i ≤ xs.length) : cutV xs (some (i : Int)) none = xs.drop i := by
  unfold cutV
  rw [HT.sIx_nat, HT.sIx_none, Nat.min_eq_left hi]
  exact List.take_of_length_le (by rw [List.length_drop]; omega)
theorem bad_ints {p : Addr} {ns : List Int} (h : SqA K H p (ns.map V.int)) (hn : ¬ IsCode ns) (hz : ns.length ≤ 5000) (hb : ∀ n ∈ ns, n.natAbs < 10 ^ 50) : BadE K H (.ref p) := by
  refine ⟨.inl ⟨p, _, rfl, h, fun x hx => ?_, by rw [List.length_map]; omega, fun ⟨ds, e, hd⟩ => ?_⟩, ?_⟩
  · obtain ⟨i, _, rfl⟩ := List.mem_map.mp hx
    exact ⟨true, IntQ.int i⟩
  · rw [← inj_ints _ _ e] at hd
    exact hn hd
  · rcases h with h | h
    · exact ⟨_, rp_intsL h, (rpo_ints hb).mono (by omega) (by decide)⟩
    · refine ⟨_, rp_intsT h, ?_⟩
      have := rpo_tup (ds := ns.map PyData.int) (m := 51) (k := 0) (by
        intro d hd
        obtain ⟨n, hn, rfl⟩ := List.mem_map.mp hd
        exact rpo_int (hb n hn))
      rw [List.length_map] at this
      exact this.mono (by omega) (by decide)
theorem bad_ty {v : V} {T : String} {d : PyData} (ty : TyX K H v (.type T)) (h1 : kitB T "list" = some false) (h2 : kitB T "tuple" = some false) (rp : Rp K H v d) (ro : RpO d 500000 9) : BadE K H v := ⟨.inr ⟨_, ty, seqno h1 h2⟩, d, rp, ro⟩
theorem tYes_ok {σ : L2.St} {R : Bool → Hp → Prop} (h : R true H) : tYes σ H R := h
theorem pure_law (h : sp_law K a vs H Q E) : Run (t_law K a) 9 vs H Q := by
  obtain ⟨_, s, ns, rfl, hs, hn, q⟩ := h
  unfold Run t_law
  walk_at "st"
  refine i_lenL hs ?_
  walk_at "st"
  rw [List.length_map]
  have hj : ∀ l : Nat, l ≤ 63 → 1 ≤ (if (if (l : Int) < 10 then (l : Int) else 10) > 1 then (if (l : Int) < 10 then (l : Int) else 10) else 1) ∧ (if (if (l : Int) < 10 then (l : Int) else 10) > 1 then (if (l : Int) < 10 then (l : Int) else 10) else 1) ≤ 10 := by
    intro l hl
    split <;> split at * <;> omega
  have hj2 := hj ns.length hn
  generalize (if (if (ns.length : Int) < 10 then (ns.length : Int) else 10) > 1 then (if (ns.length : Int) < 10 then (ns.length : Int) else 10) else 1) = j at hj2
  refine ⟨j, rfl, by omega, by omega, ?_⟩
  refine forG (walk_range (n := j.toNat)) (fun i σ H' => ∃ x1 x2 x3 x4 x5 x6 x7 x8 : Option V, σ = [some (.ref s), x1, x2, x3, x4, x5, x6, x7, x8] ∧ Same H H') ⟨none, none, none, none, none, none, none, none, rfl, Same.refl _⟩ (fun _ _ _ _ _ => trivial) ?_ ?_
  · rintro i v σ H1 H1' hi ⟨x1, x2, x3, x4, x5, x6, x7, x8, rfl, s1⟩ ⟨eH, hv⟩
    obtain rfl : H1 = H1' := eH.symm
    have hv2 : v = .int (i : Nat) := by
      rw [hv]
      show V.int (0 + (i : Int)) = _
      rw [Int.zero_add]
    subst hv2
    walk_at "st"
    refine ⟨rfl, s, ns, _, rfl, s1.seq hs, by omega, by omega, fun p o pn pool => ?_⟩
    walk_at "st"
    refine ⟨rfl, p, 12, rfl, pool, by omega, by omega, fun r H2 r0 r1 kept2 pool2 => ?_⟩
    walk_at "st"
    refine ⟨rfl, p, _, rfl, pool2, by omega, by omega, fun t row H3 nt off3 pool3 ht hl hr => ?_⟩
    have s3 : Same H1 H3 := offSame (keptSame (Same.new (o := o) pn) pn kept2) pn off3
    walk_at "st"
    refine ⟨rfl, t, row, rfl, SqT.of ht, hr, fun H4 e4 => ?_⟩
    have s4 := s3.trans e4
    have pool4 := poolSame e4 pool3
    walk_at "st"
    have second : ∀ (σ : L2.St) (R : Bool → Hp → Prop), σ[2]? = some (some (.ref p)) → (∀ Ha, Same H1 Ha → PoolAt Ha p → R false Ha) → rEq (V.int (i : Nat)) (V.int 0) H4 fun x H' => ∃ k, x = V.bl k ∧ if k = true then
        tNot (tB (tCallR (sp__law_check K a) E0 (tCons (tCallR (sp__law_cards K a) E0 (tCons (tVar 2) (tCons (tOp rAddI (tC (V.int 100)) (tCallR (sp__law_take K a) E0 (tCons (tVar 2) (tCons (tC (V.int 101)) tNil)))) tNil))) tNil))) σ H' R else R false H' := by
      intro σ R hσ k
      refine i_eq rfl (i_bl ?_)
      by_cases hk : V.int (i : Nat) = V.int 0
      · refine i_dT hk ?_
        refine i_not (i_B (i_call (i_cons (i_call (i_cons (i_var hσ (i_cons (i_op (i_c (i_call (i_cons (i_var hσ (i_cons (i_c (i_nil ?_)))))))))))))))
        refine ⟨rfl, p, 101, rfl, pool4, by omega, by omega, fun r2 H5 r20 r21 kept5 pool5 => ?_⟩
        refine i_rI0 (i_nil ?_)
        refine ⟨rfl, p, _, rfl, pool5, by omega, by omega, fun t2 row2 H6 nt2 off6 pool6 ht2 hl2 hr2 => ?_⟩
        refine i_nil ⟨rfl, t2, row2, rfl, SqT.of ht2, hr2, fun H7 e7 => i_bl ?_⟩
        exact k H7 ((offSame (keptSame s4 pn kept5) pn off6).trans e7) (poolSame e7 pool6)
      · exact i_dF hk (k _ s4 pool4)
    refine second _ _ rfl fun H5 s5 pool5 => ?_
    refine iteF ?_
    walk_at "st"
    refine ⟨rfl, p, 15, rfl, pool5, by omega, by omega, fun r2 H6 r20 r21 kept6 pool6 => ?_⟩
    have s6 := keptSame s5 pn kept6
    walk_at "st"
    refine ⟨_, rfl, by omega, by omega, ?_⟩
    obtain ⟨n, hn2⟩ : ∃ n : Nat, (1 + r2).toNat = n := ⟨_, rfl⟩
    rw [hn2]
    have n1 : 1 ≤ n := by omega
    have n15 : n ≤ 15 := by omega
    intro D hD
    have Dp' : D ≠ p := fun e => by
      obtain ⟨A, B, e1, _⟩ := pool6
      rw [← e, hD] at e1
      cases e1
    refine lc_it (walk_range (n := n)) (Qd := fun H' => _) (fun k H' => ∃ ds : List Int, ds.length = k ∧ H' D = some (.lst (ds.map V.int)) ∧ (∀ j (h : j < ds.length), 0 ≤ ds[j] ∧ ds[j] ≤ 2 * (j : Int) + 1) ∧ PoolAt H' p ∧ Same H1 H') ⟨[], rfl, upd_same, fun j h => absurd h (Nat.not_lt_zero j), poolSame (Same.new hD) pool6, Same.trans s6 (Same.new hD)⟩ (fun _ _ _ _ => trivial) ?_ ?_
    · rintro k v Ha Ha' hk ⟨ds, hdl, hDa, hdd, pa, sa⟩ ⟨eH, hv⟩
      obtain rfl : Ha = Ha' := eH.symm
      have hv2 : v = .int (k : Nat) := by
        rw [hv]
        show V.int (0 + (k : Int)) = _
        rw [Int.zero_add]
      subst hv2
      refine i_gN ⟨rfl, tYes_ok ?_⟩
      refine iteT ?_
      walk_at "st"
      refine ⟨rfl, p, _, rfl, pa, by omega, by omega, fun z Hb z0 z1 kb pb => ?_⟩
      refine ⟨ds.map V.int, (kb D Dp').trans hDa, ?_, ds ++ [z], ?_, ?_, ?_, ?_, ?_⟩
      · rw [List.length_map, hdl]
        exact Nat.lt_of_lt_of_le (show k < 100 by omega) (by decide)
      · rw [List.length_append, hdl]; rfl
      · rw [upd_same, List.map_append]; rfl
      · intro j hj
        rw [List.length_append, List.length_singleton] at hj
        by_cases hlt : j < ds.length
        · rw [List.getElem_append_left hlt]
          exact hdd j hlt
        · have : j = ds.length := by omega
          subst this
          rw [List.getElem_append_right (Nat.le_refl _)]
          simp only [Nat.sub_self, List.getElem_singleton]
          omega
      · obtain ⟨A, B, e1, e2⟩ := pb
        exact ⟨A, B, by rw [upd_ne Dp'.symm]; exact e1, e2⟩
      · have hD1 : H1 D = none := s6.free hD
        exact Same.mut (keptSame sa pn kb) hD1
    · rintro H7 ⟨ds, hdl, hD7, hdd, pool7, s7⟩
      have hcode : IsCode ds := ⟨by omega, by omega, hdd⟩
      walk_at "st"
      refine ⟨rfl, .ref D, some ds, rfl, ⟨hcode, D, rfl, SqA.ofL hD7⟩, fun ds' e x H8 nx e8 at_ => ?_, fun e => by cases e⟩
      cases e
      walk_at "st"
      refine ⟨rfl, x, _, rfl, at_, fun f H9 nf e9 hf => ?_⟩
      rw [(decP_row hcode).2.1] at hf
      walk_at "st"
      refine ne_hd (hd_intsL (SqL.of hf)) (hd_intsL (SqL.of (e9 _ _ (e8 _ _ hD7)))) (i_bl ?_)
      rw [dec_self]
      refine iteN ?_
      walk_at "st"
      have s79 : Same H7 H9 := e8.trans e9
      refine i_lenL (SqL.of (s79 _ _ hD7)) ?_
      walk_at "st"
      rw [List.length_map]
      refine ⟨rfl, p, _, rfl, poolSame s79 pool7, by omega, by omega, fun pz H10 p0 p1 kept10 pool10 => ?_⟩
      have hD10 : H10 D = some (.lst (ds.map V.int)) := (kept10 D Dp').trans (s79 _ _ hD7)
      have s10 := keptSame (s7.trans s79) pn kept10
      obtain ⟨pos, hpos⟩ : ∃ pos : Nat, pz = (pos : Int) := ⟨pz.toNat, by omega⟩
      subst hpos
      have hpl : pos < ds.length := by omega
      walk_at "st"
      refine ⟨by show 1 ≤ sizeLine; decide, fun q1 nq1 => ?_⟩
      walk_at "st"
      refine ⟨by show 1 ≤ sizeLine; decide, fun q2 nq2 => ?_⟩
      walk_at "st"
      refine ⟨by show 8 ≤ sizeLine; decide, fun l nl => ?_⟩
      obtain ⟨Hb, hHb⟩ : ∃ Hb, upd (upd (upd H10 q1 (.tup [V.int 0])) q2 (.lst [V.int 0])) l (.lst [V.int (-1), V.int (2 * (pos : Int) + 2), V.non, V.bl true, V.str "0", V.ref q1, V.ref q2, V.int (10 ^ (30 : Int).toNat)]) = Hb := ⟨_, rfl⟩
      have sb : Same H10 Hb := by
        rw [← hHb]
        exact ((Same.new nq1).trans (Same.new nq2)).trans (Same.new nl)
      have hq2 : Hb q2 = some (.lst [V.int 0]) := by
        rw [← hHb]
        exact Same.new nl _ _ upd_same
      have hq1 : Hb q1 = some (.tup [V.int 0]) := by
        rw [← hHb]
        exact ((Same.new nq2).trans (Same.new nl)) _ _ upd_same
      have hlb : Hb l = some (.lst [V.int (-1), V.int (2 * (pos : Int) + 2), V.non, V.bl true, V.str "0", V.ref q1, V.ref q2, V.int (10 ^ (30 : Int).toNat)]) := by
        rw [← hHb]
        exact upd_same
      have hodd : ∀ x ∈ [V.int (-1), V.int (2 * (pos : Int) + 2), V.non, V.bl true, V.str "0", V.ref q1, V.ref q2, V.int (10 ^ (30 : Int).toNat)], OddE K Hb pos x := by
        intro x hx
        simp only [List.mem_cons, List.not_mem_nil, or_false] at hx
        rcases hx with rfl | rfl | rfl | rfl | rfl | rfl | rfl | rfl
        · exact odd_int (by omega) (by decide)
        · exact odd_int (by omega) (Nat.lt_trans (show (2 * (pos : Int) + 2).natAbs < 100 by omega) (by decide))
        · exact odd_non
        · exact odd_bl true
        · exact odd_str (by decide +kernel)
        · exact odd_T (SqT.of hq1) (by decide)
        · exact odd_L (SqL.of hq2) (by decide)
        · refine odd_int ?_ (by decide)
          have : (10 : Int) ^ (30 : Int).toNat = 1000000000000000000000000000000 := by decide
          omega
      rw [hHb]
      refine ⟨l, rfl, ⟨_, SqL.of hlb⟩, ?_⟩
      refine forG (walk_list (K := K) (a := l) (xs := [V.int (-1), V.int (2 * (pos : Int) + 2), V.non, V.bl true, V.str "0", V.ref q1, V.ref q2, V.int (10 ^ (30 : Int).toNat)])) (fun k σ H' => ∃ y6 y7 y8 : Option V, σ = [some (.ref s), some (.int (i : Nat)), some (.ref p), some (.ref t), some (.ref D), some (.int (pos : Nat)), y6, y7, y8] ∧ Same Hb H')
        ⟨_, _, _, rfl, Same.refl _⟩ (fun _ _ _ _ h => by obtain ⟨_, _, _, _, k⟩ := h; exact SqL.of (k _ _ hlb)) ?_ ?_
      · rintro k x σ Ha Ha' hk ⟨y6, y7, y8, rfl, sa⟩ ⟨eH, hx⟩
        obtain rfl : Ha = Ha' := eH.symm
        have hox := (hodd x (List.mem_of_getElem? hx)).same sa
        have hDa : Ha D = some (.lst (ds.map V.int)) := sa _ _ (sb _ _ hD10)
        walk_at "st"
        refine i_slL (SqL.of hDa) fun g1 n1' => ?_
        rw [cut_take (by rw [List.length_map]; omega), ← List.map_take]
        walk_at "st"
        refine ⟨by show 1 ≤ sizeLine; decide, fun g2 n2' => ?_⟩
        have g12 : g1 ≠ g2 := fun z => by rw [← z, upd_same] at n2'; cases n2'
        refine ⟨g1, g2, _, _, rfl, rfl, (upd_ne g12).trans upd_same, upd_same, ?_, fun g3 n3' => ?_⟩
        · rw [List.length_map, List.length_take]
          exact Nat.le_trans (show _ ≤ 100 by simp; omega) (by decide)
        have sa3 := ((Same.new (o := .lst ((ds.take pos).map V.int)) n1').trans (Same.new (o := .lst [x]) n2')).trans (Same.new (o := .lst ((ds.take pos).map V.int ++ [x])) n3')
        walk_at "st"
        refine i_slL (SqL.of (sa3 _ _ hDa)) fun g4 n4' => ?_
        have ec : cutV (ds.map V.int) (some ((pos : Int) + 1)) none = (ds.drop (pos + 1)).map V.int := by
          have := cut_drop (xs := ds.map V.int) (i := pos + 1) (by rw [List.length_map]; omega)
          rw [List.map_drop]
          exact this
        rw [ec]
        have g34 : g3 ≠ g4 := fun z => by rw [← z, upd_same] at n4'; cases n4'
        refine ⟨g3, g4, _, _, rfl, rfl, (upd_ne g34).trans upd_same, upd_same, ?_, fun g5 n5' => ?_⟩
        · exact Nat.le_trans (show _ ≤ 100 by simp; omega) (by decide)
        have sa5 := (sa3.trans (Same.new (o := .lst ((ds.drop (pos + 1)).map V.int)) n4')).trans (Same.new (o := .lst ((ds.take pos).map V.int ++ [x] ++ (ds.drop (pos + 1)).map V.int)) n5')
        refine i_gN ?_
        refine told_bad (j := 7) (bad_one hcode (by omega) hpl (hox.same sa5) (SqL.of upd_same)) rfl fun Hc sc => ?_
        exact ⟨_, _, _, rfl, (sa.trans sa5).trans sc⟩
      · rintro σ Ha ⟨y6, y7, y8, rfl, sa⟩
        have s11 : Same H1 Ha := (s10.trans sb).trans sa
        walk_at "st"
        refine ⟨by show 0 ≤ sizeLine; exact Nat.zero_le _, fun q3 nq3 => ?_⟩
        walk_at "st"
        refine ⟨by show 0 ≤ sizeLine; exact Nat.zero_le _, fun q4 nq4 => ?_⟩
        walk_at "st"
        intro q5 nq5
        walk_at "st"
        refine ⟨by show 1 ≤ sizeLine; decide, fun q6 nq6 => ?_⟩
        walk_at "st"
        refine ⟨by show 1 ≤ sizeLine; decide, fun q7 nq7 => ?_⟩
        walk_at "st"
        refine ⟨by show 1 ≤ sizeLine; decide, fun q8 nq8 => ?_⟩
        walk_at "st"
        refine ⟨by show 2 ≤ sizeLine; decide, fun q9 nq9 => ?_⟩
        walk_at "st"
        refine ⟨by show 1 ≤ sizeLine; decide, fun q10 nq10 => ?_⟩
        walk_at "st"
        refine i_repL (n := 2001) upd_same (by decide) fun q11 nq11 => ?_
        walk_at "st"
        refine ⟨by show 11 ≤ sizeLine; decide, fun l2 nl2 => ?_⟩
        have t3 := Same.new (o := .lst []) nq3
        have t4 := Same.new (o := .tup []) nq4
        have t5 := Same.new (o := .dK []) nq5
        have t6 := Same.new (o := .lst [V.int 0]) nq6
        have t7 := Same.new (o := .lst [V.ref q6]) nq7
        have t8 := Same.new (o := .lst [V.int 2]) nq8
        have t9 := Same.new (o := .lst [V.int 0, V.int 4]) nq9
        have t10 := Same.new (o := .lst [V.int 0]) nq10
        have t11 := Same.new (o := .lst (List.replicate 2001 (V.int 0))) nq11
        have t12 := Same.new (o := .lst [V.non, V.int 5, V.str "0", V.ref q3, V.ref q4, V.ref q5, V.ref q7, V.ref q8, V.ref q9, V.bl true, V.ref q11]) nl2
        have u11 := t12
        have u10 := t11.trans u11
        have u9 := t10.trans u10
        have u8 := t9.trans u9
        have u7 := t8.trans u8
        have u6 := t7.trans u7
        have u5 := t6.trans u6
        have u4 := t5.trans u5
        have u3 := t4.trans u4
        have u2 := t3.trans u3
        have f3 := u3 q3 _ upd_same
        have f4 := u4 q4 _ upd_same
        have f5 := u5 q5 _ upd_same
        have f6 := u6 q6 _ upd_same
        have f7 := u7 q7 _ upd_same
        have f8 := u8 q8 _ upd_same
        have f9 := u9 q9 _ upd_same
        have f11 := u11 q11 _ upd_same
        clear t3 t4 t5 t6 t7 t8 t9 t10 t11 t12 u11 u10 u9 u8 u7 u6 u5 u4 u3
        generalize hHd : upd (upd (upd (upd (upd (upd (upd (upd (upd (upd Ha q3 (HO.lst [])) q4 (HO.tup [])) q5 (HO.dK [])) q6 (HO.lst [V.int 0])) q7 (HO.lst [V.ref q6])) q8 (HO.lst [V.int 2])) q9 (HO.lst [V.int 0, V.int 4])) q10 (HO.lst [V.int 0])) q11 (HO.lst (List.replicate 2001 (V.int 0)))) l2 (HO.lst [V.non, V.int 5, V.str "0", V.ref q3, V.ref q4, V.ref q5, V.ref q7, V.ref q8, V.ref q9, V.bl true, V.ref q11]) = Hd at *
        have fl2 : Hd l2 = some (.lst [V.non, V.int 5, V.str "0", V.ref q3, V.ref q4, V.ref q5, V.ref q7, V.ref q8, V.ref q9, V.bl true, V.ref q11]) := by
          rw [← hHd]
          exact upd_same
        have hbad : ∀ x ∈ [V.non, V.int 5, V.str "0", V.ref q3, V.ref q4, V.ref q5, V.ref q7, V.ref q8, V.ref q9, V.bl true, V.ref q11], BadE K Hd x := by
          intro x hx
          simp only [List.mem_cons, List.not_mem_nil, or_false] at hx
          rcases hx with rfl | rfl | rfl | rfl | rfl | rfl | rfl | rfl | rfl | rfl | rfl
          · exact bad_ty (.base .non) (by decide +kernel) (by decide +kernel) .non (rpo_none.mono (by decide) (by decide))
          · exact bad_ty (.base (.int 5)) (by decide +kernel) (by decide +kernel) (.int 5) ((rpo_int (by decide)).mono (by decide) (by decide))
          · exact bad_ty (.base (.str _)) (by decide +kernel) (by decide +kernel) (.str _) ((rpo_str (by decide +kernel)).mono (by decide) (by decide))
          · exact bad_ints (ns := []) (SqA.ofL f3) (fun h => absurd h.1 (by decide)) (by decide) (fun n hn => by cases hn)
          · exact bad_ints (ns := []) (SqA.ofT f4) (fun h => absurd h.1 (by decide)) (by decide) (fun n hn => by cases hn)
          · exact bad_ty (.base (.dK f5)) (by decide +kernel) (by decide +kernel) (.emp f5) (rpo_emp.mono (by decide) (by decide))
          · refine ⟨.inl ⟨q7, _, rfl, SqA.ofL f7, fun y hy => ?_, by show 1 ≤ 100000; decide, fun ⟨ds', e, _⟩ => ?_⟩, .list [.list [.int 0]], .lst (SqL.of f7) (.cons (rp_intsL (ns := [0]) (SqL.of f6)) .nil) rfl, ?_⟩
            · rw [List.mem_singleton.mp hy]
              exact ⟨false, intq_L (SqL.of f6)⟩
            · cases ds' with
              | nil => cases e
              | cons z zs =>
                rw [List.map_cons, List.cons.injEq] at e
                cases e.1
            · exact (rpo_list (ds := [.list [.int 0]]) (m := 200) (k := 3) (fun d hd => by rw [List.mem_singleton.mp hd]; exact (rpo_one (i := 0) (by decide)).1)).mono (by decide) (by decide)
          · exact bad_ints (ns := [2]) (SqA.ofL f8) (fun h => absurd (h.2.2 0 (by decide)).2 (by decide)) (by decide) (fun n hn => by rw [List.mem_singleton.mp hn]; decide)
          · refine bad_ints (ns := [0, 4]) (SqA.ofL f9) (fun h => absurd (h.2.2 1 (by decide)).2 (by decide)) (by decide) (fun n hn => ?_)
            rcases List.mem_cons.mp hn with rfl | hn
            · decide
            · rw [List.mem_singleton.mp hn]
              decide
          · exact bad_ty (.base (.bl true)) (by decide +kernel) (by decide +kernel) (.bl true) ((rpo_bool true).mono (by decide) (by decide))
          · refine bad_ints (ns := List.replicate 2001 0) (SqA.ofL (by rw [f11, rep_ints])) (fun h => absurd h.2.1 (by rw [List.length_replicate]; decide)) (by rw [List.length_replicate]; decide) (fun n hn => by rw [(List.mem_replicate.mp hn).2]; decide)
        refine ⟨l2, rfl, ⟨_, SqL.of fl2⟩, ?_⟩
        refine forG (walk_list (K := K) (a := l2) (xs := [V.non, V.int 5, V.str "0", V.ref q3, V.ref q4, V.ref q5, V.ref q7, V.ref q8, V.ref q9, V.bl true, V.ref q11])) (fun k σ H' => ∃ y6 y7 y8 : Option V, σ = [some (.ref s), some (.int (i : Nat)), some (.ref p), some (.ref t), some (.ref D), some (.int (pos : Nat)), y6, y7, y8] ∧ Same Hd H')
          ⟨_, _, _, rfl, Same.refl _⟩ (fun _ _ _ _ h => by obtain ⟨_, _, _, _, k⟩ := h; exact SqL.of (k _ _ fl2)) ?_ ?_
        · rintro k x σ He He' hk ⟨z6, z7, z8, rfl, se⟩ ⟨eH, hx⟩
          obtain rfl : He = He' := eH.symm
          refine i_gN ?_
          refine told_bad (j := 7) ((hbad x (List.mem_of_getElem? hx)).same se) rfl fun Hc sc => ?_
          exact ⟨_, _, _, rfl, se.trans sc⟩
        · rintro σ He ⟨z6, z7, z8, rfl, se⟩
          exact ⟨_, _, _, _, _, _, _, _, rfl, s1.trans ((s11.trans u2).trans se)⟩

  · rintro σ H1 ⟨x1, x2, x3, x4, x5, x6, x7, x8, rfl, s1⟩
    walk_at "st"
    refine ⟨by show 1 ≤ sizeLine; decide, fun l hl => ?_⟩
    walk_at "st"
    refine i_repL (n := 2000) upd_same (by decide) fun z hz => ?_
    have hz2 : (upd (upd H1 l (.lst [.int 0])) z (.lst (List.replicate 2000 (V.int 0)))) z = some (.lst ((List.replicate 2000 (0 : Int)).map V.int)) := by rw [upd_same, rep_ints]
    walk_at "st"
    refine ⟨rfl, .ref z, some (List.replicate 2000 0), rfl, ⟨zeros_code 2000 (by decide) (by decide), z, rfl, SqA.ofL hz2⟩, fun ds e x H2 nx e2 at_ => ?_, fun e => by cases e⟩
    cases e
    walk_at "st"
    obtain ⟨dx, tt, a1, a2, a3⟩ := id at_
    have len := (decP_row (zeros_code 2000 (by decide) (by decide))).2.2
    refine ⟨x, dx, _, rfl, a1, rfl, x, _, rfl, at_, _, rfl, by omega, by rw [len, List.length_replicate]; decide, ?_⟩
    rw [len, List.length_replicate]
    walk_at "st"
    refine i_eq rfl ⟨_, rfl, ?_⟩
    refine i_dT rfl ?_
    refine i_call ?_
    refine ⟨rfl, rfl, fun H3 e3 => q H3⟩
end
end TC

set_option Elab.async false
set_option linter.all false
set_option maxRecDepth 100000
set_option maxHeartbeats 4000000
namespace TCG
open PySem PySem.Spec PyProof.Rows L2 TC
def top (i : Nat) : Stmt := PySem.Challenge.pw_turnedcards_k30_codes_of_arrangements.main.body.getD i (.Pass ⟨0, 0, 0, 0⟩)
abbrev s__law_pool : Stmt := top 23
abbrev N__law_pool : List Str := ["_law_script", "_law_k", "_law_cell", "_law_mixed"]
theorem sc__law_pool : FnScope N__law_pool ["_law_script", "_law_k"] (defScope s__law_pool) := ⟨rfl, rfl, rfl, by decide +kernel, rfl, by decide +kernel, by decide +kernel⟩
abbrev s__law_take : Stmt := top 24
abbrev N__law_take : List Str := ["_law_pool_here", "_law_count", "_law_result"]
theorem sc__law_take : FnScope N__law_take ["_law_pool_here", "_law_count"] (defScope s__law_take) := ⟨rfl, rfl, rfl, by decide +kernel, rfl, by decide +kernel, by decide +kernel⟩
abbrev s__law_cards : Stmt := top 25
abbrev N__law_cards : List Str := ["_law_pool_here", "_law_many", "_law_turn", "_law_rest", "_law_result", "_law_card"]
theorem sc__law_cards : FnScope N__law_cards ["_law_pool_here", "_law_many"] (defScope s__law_cards) := ⟨rfl, rfl, rfl, by decide +kernel, rfl, by decide +kernel, by decide +kernel⟩
abbrev s__law_digits : Stmt := top 26
abbrev N__law_digits : List Str := ["_law_cards_here", "_law_result", "_law_place", "_law_card", "_law_digit", "_law_other"]
theorem sc__law_digits : FnScope N__law_digits ["_law_cards_here"] (defScope s__law_digits) := ⟨rfl, rfl, rfl, by decide +kernel, rfl, by decide +kernel, by decide +kernel⟩
abbrev s_Arrangement_row : Stmt := inClass (top 16) 3
abbrev N_Arrangement_row : List Str := ["self"]
theorem sc_Arrangement_row : FnScope N_Arrangement_row ["self"] (defScope s_Arrangement_row) := ⟨rfl, rfl, rfl, by decide +kernel, rfl, by decide +kernel, by decide +kernel⟩
abbrev s_code : Stmt := top 18
abbrev N_code : List Str := ["a", "result", "index", "card", "smaller", "earlier"]
theorem sc_code : FnScope N_code ["a"] (defScope s_code) := ⟨rfl, rfl, rfl, by decide +kernel, rfl, by decide +kernel, by decide +kernel⟩
abbrev s_is_integer : Stmt := top 9
abbrev N_is_integer : List Str := ["value"]
theorem sc_is_integer : FnScope N_is_integer ["value"] (defScope s_is_integer) := ⟨rfl, rfl, rfl, by decide +kernel, rfl, by decide +kernel, by decide +kernel⟩
abbrev s_Arrangement_is_row : Stmt := inClass (top 16) 2
abbrev N_Arrangement_is_row : List Str := ["value", "card"]
theorem sc_Arrangement_is_row : FnScope N_Arrangement_is_row ["value"] (defScope s_Arrangement_is_row) := ⟨rfl, rfl, rfl, by decide +kernel, rfl, by decide +kernel, by decide +kernel⟩
abbrev s_Arrangement___init__ : Stmt := inClass (top 16) 0
abbrev N_Arrangement___init__ : List Str := ["self", "row"]
theorem sc_Arrangement___init__ : FnScope N_Arrangement___init__ ["self", "row"] (defScope s_Arrangement___init__) := ⟨rfl, rfl, rfl, by decide +kernel, rfl, by decide +kernel, by decide +kernel⟩
abbrev s_is_between : Stmt := top 10
abbrev N_is_between : List Str := ["value", "low", "high"]
theorem sc_is_between : FnScope N_is_between ["value", "low", "high"] (defScope s_is_between) := ⟨rfl, rfl, rfl, by decide +kernel, rfl, by decide +kernel, by decide +kernel⟩
abbrev s_is_code : Stmt := top 19
abbrev N_is_code : List Str := ["value", "index", "digit"]
theorem sc_is_code : FnScope N_is_code ["value"] (defScope s_is_code) := ⟨rfl, rfl, rfl, by decide +kernel, rfl, by decide +kernel, by decide +kernel⟩
abbrev s_InvalidCode___init__ : Stmt := inClass (top 5) 0
abbrev N_InvalidCode___init__ : List Str := ["self", "value"]
theorem sc_InvalidCode___init__ : FnScope N_InvalidCode___init__ ["self", "value"] (defScope s_InvalidCode___init__) := ⟨rfl, rfl, rfl, by decide +kernel, rfl, by decide +kernel, by decide +kernel⟩
abbrev s_decoded : Stmt := top 20
abbrev N_decoded : List Str := ["digits", "index", "left", "result", "digit", "card"]
theorem sc_decoded : FnScope N_decoded ["digits"] (defScope s_decoded) := ⟨rfl, rfl, rfl, by decide +kernel, rfl, by decide +kernel, by decide +kernel⟩
abbrev s_from_code : Stmt := top 21
abbrev N_from_code : List Str := ["code"]
theorem sc_from_code : FnScope N_from_code ["code"] (defScope s_from_code) := ⟨rfl, rfl, rfl, by decide +kernel, rfl, by decide +kernel, by decide +kernel⟩
abbrev s__law_told : Stmt := top 27
abbrev N__law_told : List Str := ["_law_value", "e"]
theorem sc__law_told : FnScope N__law_told ["_law_value"] (defScope s__law_told) := ⟨rfl, rfl, rfl, by decide +kernel, rfl, by decide +kernel, by decide +kernel⟩
abbrev s__law_check : Stmt := top 28
abbrev N__law_check : List Str := ["_law_cards_here", "_law_due", "_law_turn", "_law_found"]
theorem sc__law_check : FnScope N__law_check ["_law_cards_here"] (defScope s__law_check) := ⟨rfl, rfl, rfl, by decide +kernel, rfl, by decide +kernel, by decide +kernel⟩
abbrev s_Arrangement___len__ : Stmt := inClass (top 16) 8
abbrev N_Arrangement___len__ : List Str := ["self"]
theorem sc_Arrangement___len__ : FnScope N_Arrangement___len__ ["self"] (defScope s_Arrangement___len__) := ⟨rfl, rfl, rfl, by decide +kernel, rfl, by decide +kernel, by decide +kernel⟩
abbrev s__law_kept_right : Stmt := top 29
abbrev N__law_kept_right : List Str := ["_law_bad", "e"]
theorem sc__law_kept_right : FnScope N__law_kept_right [] (defScope s__law_kept_right) := ⟨rfl, rfl, rfl, by decide +kernel, rfl, by decide +kernel, by decide +kernel⟩
abbrev s_law : Stmt := top 30
abbrev N_law : List Str := ["_law_script", "_law_k", "_law_pool_here", "_law_cards_here", "_law_digits_here", "_law_pos", "_law_odd", "_law_bad", "_law_place"]
theorem sc_law : FnScope N_law ["_law_script"] (defScope s_law) := ⟨rfl, rfl, rfl, by decide +kernel, rfl, by decide +kernel, by decide +kernel⟩
structure Fa where
  _law_pool : Addr
  _law_take : Addr
  _law_cards : Addr
  _law_digits : Addr
  Arrangement_row : Addr
  code : Addr
  is_integer : Addr
  Arrangement_is_row : Addr
  Arrangement___init__ : Addr
  is_between : Addr
  is_code : Addr
  InvalidCode___init__ : Addr
  decoded : Addr
  from_code : Addr
  _law_told : Addr
  _law_check : Addr
  Arrangement___len__ : Addr
  _law_kept_right : Addr
  law : Addr
  r_Arrangement_row : Addr
  r_Arrangement_is_row : Addr
  t_MOST_CARDS : Tok
structure Txt (K : PySem.W.Frag) (mg : Str → Option Value) (a : Ad) (fa : Fa) : Prop where
  F__law_pool : ∃ fd, Fun K "_law_pool" "_law_pool" s__law_pool fa._law_pool fd
  g__law_pool : mg "_law_pool" = some (.ref fa._law_pool)
  k__law_pool : PySem.W.keepIn K (.ref fa._law_pool) = true
  F__law_take : ∃ fd, Fun K "_law_take" "_law_take" s__law_take fa._law_take fd
  g__law_take : mg "_law_take" = some (.ref fa._law_take)
  k__law_take : PySem.W.keepIn K (.ref fa._law_take) = true
  F__law_cards : ∃ fd, Fun K "_law_cards" "_law_cards" s__law_cards fa._law_cards fd
  g__law_cards : mg "_law_cards" = some (.ref fa._law_cards)
  k__law_cards : PySem.W.keepIn K (.ref fa._law_cards) = true
  F__law_digits : ∃ fd, Fun K "_law_digits" "_law_digits" s__law_digits fa._law_digits fd
  g__law_digits : mg "_law_digits" = some (.ref fa._law_digits)
  k__law_digits : PySem.W.keepIn K (.ref fa._law_digits) = true
  F_Arrangement_row : ∃ fd, Fun K "row" "Arrangement.row" s_Arrangement_row fa.Arrangement_row fd
  p_Arrangement_row : PropOf K a.Arrangement "row" fa.r_Arrangement_row fa.Arrangement_row
  F_code : ∃ fd, Fun K "code" "code" s_code fa.code fd
  g_code : mg "code" = some (.ref fa.code)
  k_code : PySem.W.keepIn K (.ref fa.code) = true
  F_is_integer : ∃ fd, Fun K "is_integer" "is_integer" s_is_integer fa.is_integer fd
  g_is_integer : mg "is_integer" = some (.ref fa.is_integer)
  k_is_integer : PySem.W.keepIn K (.ref fa.is_integer) = true
  F_Arrangement_is_row : ∃ fd, Fun K "is_row" "Arrangement.is_row" s_Arrangement_is_row fa.Arrangement_is_row fd
  s_Arrangement_is_row : SMet K a.Arrangement (.type "type") "is_row" fa.r_Arrangement_is_row fa.Arrangement_is_row
  F_Arrangement___init__ : ∃ fd, Fun K "__init__" "Arrangement.__init__" s_Arrangement___init__ fa.Arrangement___init__ fd
  m_Arrangement : Mk K a.Arrangement fa.Arrangement___init__
  F_is_between : ∃ fd, Fun K "is_between" "is_between" s_is_between fa.is_between fd
  g_is_between : mg "is_between" = some (.ref fa.is_between)
  k_is_between : PySem.W.keepIn K (.ref fa.is_between) = true
  F_is_code : ∃ fd, Fun K "is_code" "is_code" s_is_code fa.is_code fd
  g_is_code : mg "is_code" = some (.ref fa.is_code)
  k_is_code : PySem.W.keepIn K (.ref fa.is_code) = true
  F_InvalidCode___init__ : ∃ fd, Fun K "__init__" "InvalidCode.__init__" s_InvalidCode___init__ fa.InvalidCode___init__ fd
  F_decoded : ∃ fd, Fun K "decoded" "decoded" s_decoded fa.decoded fd
  g_decoded : mg "decoded" = some (.ref fa.decoded)
  k_decoded : PySem.W.keepIn K (.ref fa.decoded) = true
  F_from_code : ∃ fd, Fun K "from_code" "from_code" s_from_code fa.from_code fd
  g_from_code : mg "from_code" = some (.ref fa.from_code)
  k_from_code : PySem.W.keepIn K (.ref fa.from_code) = true
  F__law_told : ∃ fd, Fun K "_law_told" "_law_told" s__law_told fa._law_told fd
  g__law_told : mg "_law_told" = some (.ref fa._law_told)
  k__law_told : PySem.W.keepIn K (.ref fa._law_told) = true
  F__law_check : ∃ fd, Fun K "_law_check" "_law_check" s__law_check fa._law_check fd
  g__law_check : mg "_law_check" = some (.ref fa._law_check)
  k__law_check : PySem.W.keepIn K (.ref fa._law_check) = true
  F_Arrangement___len__ : ∃ fd, Fun K "__len__" "Arrangement.__len__" s_Arrangement___len__ fa.Arrangement___len__ fd
  f_Arrangement___len__ : PySem.W.findIn K (.ref a.Arrangement) "__len__" = some (some (.ref fa.Arrangement___len__))
  i_Arrangement___len__ : PySem.W.isFn K (.ref fa.Arrangement___len__) = true
  F__law_kept_right : ∃ fd, Fun K "_law_kept_right" "_law_kept_right" s__law_kept_right fa._law_kept_right fd
  g__law_kept_right : mg "_law_kept_right" = some (.ref fa._law_kept_right)
  k__law_kept_right : PySem.W.keepIn K (.ref fa._law_kept_right) = true
  F_law : ∃ fd, Fun K "law" "law" s_law fa.law fd
  g_law : mg "law" = some (.ref fa.law)
  k_law : PySem.W.keepIn K (.ref fa.law) = true
  g_Arrangement : mg "Arrangement" = some (.ref a.Arrangement)
  cl_Arrangement : Cls K a.Arrangement
  r_Arrangement : ClX.CRead K a.Arrangement (.type "type")
  n_Arrangement_cards : NoAttr K a.Arrangement "cards"
  c_MOST_CARDS : mg "MOST_CARDS" = some (.int 2000 fa.t_MOST_CARDS)
  g_CardError : mg "CardError" = some (.ref a.CardError)
  g_InvalidCode : mg "InvalidCode" = some (.ref a.InvalidCode)
  g_InvalidRow : mg "InvalidRow" = some (.ref a.InvalidRow)
  r_CardError : ClX.CRead K a.CardError (.type "type")
  vi_CardError : PySem.W.findCls K (.ref a.CardError) (.type "type") "__init__" = some (.val (.builtin "ValueError.__init__"))
  ox_InvalidCode : OexC K a.InvalidCode
  ic_InvalidCode : PySem.W.findIn K (.ref a.InvalidCode) "__init__" = some (some (.ref fa.InvalidCode___init__))
  it_InvalidCode : PySem.W.typeIn K (.ref fa.InvalidCode___init__) = some (.type "function")
  nv_InvalidCode : PySem.W.findIn K (.ref a.InvalidCode) "value" = some none
  xf_InvalidCode : XfC K a.InvalidCode
  xc_InvalidCode : ExcC K a.InvalidCode
  ex_InvalidCode_InvalidCode : PySem.W.exmOne K (.ref a.InvalidCode) (.ref a.InvalidCode) = some true
  ki_InvalidCode_CardError : PySem.W.kitOne K (.ref a.InvalidCode) (.ref a.CardError) = some true
  ki_InvalidCode_InvalidRow : PySem.W.kitOne K (.ref a.InvalidCode) (.ref a.InvalidRow) = some false
section
variable {P : Program} {w : World} {K : PySem.W.Frag} {mg : Str → Option Value} {base : Heap} {a : Ad} {fa : Fa}
theorem ok__law_pool (T : Txt K mg a fa) (n : Nm mg)  : FnE P w K mg base CX0 1 fa._law_pool ["_law_script", "_law_k"] (sp__law_pool K a) := by
  obtain ⟨fd, F⟩ := T.F__law_pool
  refine ⟨fd, F.ok sc__law_pool (fun vs H Q E h => h.1) (fun cdv A outer s H vs Q E hr h => ⟨t__law_pool K a, ?_, pure__law_pool h⟩), F.binds fun _ _ _ _ _ _ us hl => match us, hl with | [_, _], _ => rfl⟩
  exact pss_cons (ps_set (i := 2) sc__law_pool.nd rfl (Or.inl rfl) (pe_int))
    (pss_cons (ps_if (pt_cmpR op_lt (pv 1) (pe_callB c_lenS (by rfl) n.len (by decide +kernel) (by exact (pa_cons (pv 0) (pa_nil)))) (nomark _)) (pss_one (ps_set (i := 2) sc__law_pool.nd rfl (Or.inl rfl) (pe_callB c_abs (by rfl) n.abs (by decide +kernel) (by exact (pa_cons (pe_ix ix_list (pv 0) (pv 1) (fun _ _ => rfl)) (pa_nil)))))) (pss_nil))
    (pss_cons (ps_set (i := 3) sc__law_pool.nd rfl (Or.inl rfl) (pe_op op_mod (pe_op op_mulA (pe_op op_add (pe_op op_add (pe_op op_add (pe_op op_mod (pv 2) (pe_int)) (pe_op op_mulA (pe_op op_mulA (pe_int) (pv 1)) (pv 1))) (pe_op op_mulA (pe_int) (pv 1))) (pe_int)) (pe_int)) (pe_int)))
    (pss_one (ps_ret (pe_lst (pa_cons (pe_op op_mulA (pv 2) (pe_callTy c_int1 (by rfl) n.int_ (by decide +kernel) (by exact (pa_cons (pe_cmpR op_ge (pv 2) (pe_op op_pow (pe_int) (pe_int)) (nomark _)) (pa_nil))))) (pa_cons (pe_op op_mod (pe_op op_mulA (pv 3) (pv 3)) (pe_int)) (pa_nil))))))))
theorem ok__law_take (T : Txt K mg a fa) (n : Nm mg)  : FnE P w K mg base CX0 1 fa._law_take ["_law_pool_here", "_law_count"] (sp__law_take K a) := by
  obtain ⟨fd, F⟩ := T.F__law_take
  refine ⟨fd, F.ok sc__law_take (fun vs H Q E h => h.1) (fun cdv A outer s H vs Q E hr h => ⟨t__law_take K a, ?_, pure__law_take h⟩), F.binds fun _ _ _ _ _ _ us hl => match us, hl with | [_, _], _ => rfl⟩
  exact pss_cons (ps_if (pt_cmpR op_gt (pe_ix ix_list (pv 0) (pe_int) (fun _ _ => rfl)) (pe_int) (nomark _)) (pss_cons (ps_set (i := 2) sc__law_take.nd rfl (Or.inl rfl) (pe_op op_mod (pe_ix ix_list (pv 0) (pe_int) (fun _ _ => rfl)) (pv 1)))
    (pss_cons (ps_asg (pe_op op_fdivW (pe_ix ix_list (pv 0) (pe_int) (fun _ _ => rfl)) (pv 1)) (pg_sub (pv 0) (pe_int) set_list))
    (pss_one (ps_ret (pv 2))))) (pss_nil))
    (pss_cons (ps_asg (pe_op op_mod (pe_op op_add (pe_op op_mulA (pe_ix ix_list (pv 0) (pe_int) (fun _ _ => rfl)) (pe_int)) (pe_int)) (pe_int)) (pg_sub (pv 0) (pe_int) set_list))
    (pss_one (ps_ret (pe_op op_mod (pe_op op_fdivW (pe_op op_mod (pe_op op_mulA (pe_ix ix_list (pv 0) (pe_int) (fun _ _ => rfl)) (pe_ix ix_list (pv 0) (pe_int) (fun _ _ => rfl))) (pe_int)) (pe_int)) (pv 1)))))
theorem ok__law_cards (T : Txt K mg a fa) (n : Nm mg) (G__law_take : FnE P w K mg base CX0 1 fa._law_take ["_law_pool_here", "_law_count"] (sp__law_take K a)) : FnE P w K mg base CX0 2 fa._law_cards ["_law_pool_here", "_law_many"] (sp__law_cards K a) := by
  obtain ⟨fd, F⟩ := T.F__law_cards
  refine ⟨fd, F.ok sc__law_cards (fun vs H Q E h => h.1) (fun cdv A outer s H vs Q E hr h => ⟨t__law_cards K a, ?_, pure__law_cards h⟩), F.binds fun _ _ _ _ _ _ us hl => match us, hl with | [_, _], _ => rfl⟩
  exact pss_cons (ps_par (by rfl) sc__law_cards.nd rfl rfl (by decide) rfl rfl (by exact (pa_cons (g_lr2 n rfl (pe_int) (pe_op op_add (pv 1) (pe_int)) rfl rfl) (pa_cons (pe_lst (pa_nil)) (pa_nil)))) (by rfl))
    (pss_cons (ps_for PassesOwn.never rfl (pi_range1 (by rfl) n.range (by exact (pa_cons (pv 1) (pa_nil)))) (pg_name (i := 2) sc__law_cards.nd rfl (.inl rfl))
     (pss_cons (ps_set (i := 5) sc__law_cards.nd rfl (Or.inl rfl) (pe_bm PySem.F.plainAttrs_list PySem.F.slot_list_pop PySem.F.type_list_pop mt_popAt (pv 3) (by exact (pa_cons (pe_callR G__law_take (hr.mono (by decide)) rfl T.g__law_take T.k__law_take pass0 (by exact (pa_cons (pv 0) (pa_cons (pe_callB c_lenS (by rfl) n.len (by decide +kernel) (by exact (pa_cons (pv 3) (pa_nil)))) (pa_nil))))) (pa_nil)))))
    (pss_one (ps_expr (pe_bm PySem.F.plainAttrs_list PySem.F.slot_list_append PySem.F.type_list_append mt_append (pv 4) (by exact (pa_cons (pe_ix ix_list (pe_lst (pa_cons (pv 5) (pa_cons (pe_op op_sub (pe_int) (pv 5)) (pa_nil)))) (pe_callR G__law_take (hr.mono (by decide)) rfl T.g__law_take T.k__law_take pass0 (by exact (pa_cons (pv 0) (pa_cons (pe_int) (pa_nil))))) (fun _ _ => rfl)) (pa_nil))))))))
    (pss_one (ps_ret (pe_callTy c_tupS (by rfl) n.tuple_ (by decide +kernel) (by exact (pa_cons (pv 4) (pa_nil)))))))
theorem ok__law_digits (T : Txt K mg a fa) (n : Nm mg)  : FnE P w K mg base CX0 1 fa._law_digits ["_law_cards_here"] (sp__law_digits K a) := by
  obtain ⟨fd, F⟩ := T.F__law_digits
  refine ⟨fd, F.ok sc__law_digits (fun vs H Q E h => h.1) (fun cdv A outer s H vs Q E hr h => ⟨t__law_digits K a, ?_, pure__law_digits h⟩), F.binds fun _ _ _ _ _ _ us hl => match us, hl with | [_], _ => rfl⟩
  exact pss_cons (ps_set (i := 1) sc__law_digits.nd rfl (Or.inl rfl) (pe_lst (pa_nil)))
    (pss_cons (ps_for PassesOwn.never rfl (pi_enumS (by rfl) n.enumerate (by exact (pa_cons (pv 0) (pa_nil)))) (pg_tup (n := 2) rfl (pgs_cons (pg_name (i := 2) sc__law_digits.nd rfl (.inl rfl)) (pgs_cons (pg_name (i := 3) sc__law_digits.nd rfl (.inr rfl)) (pgs_nil))))
     (pss_cons (ps_set (i := 4) sc__law_digits.nd rfl (Or.inl rfl) (pe_op op_add (pe_callTy c_int1 (by rfl) n.int_ (by decide +kernel) (by exact (pa_cons (pe_cmpR op_lt (pv 3) (pe_int) (nomark _)) (pa_nil)))) (pe_callB c_lenS (by rfl) n.len (by decide +kernel) (by exact (pa_cons (pe_lc (own := [("_law_other", 5)]) (g := gName 5) (tt := tTest (tOp (rGtI) (tVar 5) (tVar 3))) (by rfl) sc__law_digits.nd (pi_tup (pe_slice sl_tupA (pv 0) (po_none) (po_some (pv 2)))) (blkOk_by (own := [("_law_other", 5)]) (N := N__law_digits) (sc := defScope s__law_digits) (by decide +kernel)) (fun _ _ _ _ _ => pg_name (i := 5) sc__law_digits.nd rfl (.inl rfl)) (fun _ _ _ _ _ => pts_one (pt_cmpR op_gt (pv 5) (pv 3) (nomark _))) (fun _ _ _ _ _ => pv 5)) (pa_nil))))))
    (pss_one (ps_expr (pe_bm PySem.F.plainAttrs_list PySem.F.slot_list_append PySem.F.type_list_append mt_append (pv 1) (by exact (pa_cons (pe_op op_add (pv 4) (pe_callB c_lenS (by rfl) n.len (by decide +kernel) (by exact (pa_cons (pe_lc (own := [("_law_other", 5)]) (g := gName 5) (tt := tTest (tOp (rLtI) (tOp (rAddI) (tVar 5) (tVar 3)) (tC (.int 0)))) (by rfl) sc__law_digits.nd (pi_tup (pe_slice sl_tupA (pv 0) (po_none) (po_some (pv 2)))) (blkOk_by (own := [("_law_other", 5)]) (N := N__law_digits) (sc := defScope s__law_digits) (by decide +kernel)) (fun _ _ _ _ _ => pg_name (i := 5) sc__law_digits.nd rfl (.inl rfl)) (fun _ _ _ _ _ => pts_one (pt_cmpR op_lt (pe_op op_add (pv 5) (pv 3)) (pe_int) (nomark _))) (fun _ _ _ _ _ => pv 5)) (pa_nil))))) (pa_nil))))))))
    (pss_one (ps_ret (pv 1))))
theorem ok_Arrangement_row (T : Txt K mg a fa) (n : Nm mg)  : FnE P w K mg base CX0 1 fa.Arrangement_row ["self"] (sp_Arrangement_row K a) := by
  obtain ⟨fd, F⟩ := T.F_Arrangement_row
  refine ⟨fd, F.ok sc_Arrangement_row (fun vs H Q E h => h.1) (fun cdv A outer s H vs Q E hr h => ⟨t_Arrangement_row K a, ?_, pure_Arrangement_row ⟨T.cl_Arrangement, T.n_Arrangement_cards⟩ h⟩), F.binds fun _ _ _ _ _ _ us hl => match us, hl with | [_], _ => rfl⟩
  exact pss_one (ps_ret (pe_fld (pv 0) rfl))
theorem ok_code (T : Txt K mg a fa) (n : Nm mg) (G_Arrangement_row : FnE P w K mg base CX0 1 fa.Arrangement_row ["self"] (sp_Arrangement_row K a)) : FnE P w K mg base CX0 3 fa.code ["a"] (sp_code K a) := by
  obtain ⟨fd, F⟩ := T.F_code
  refine ⟨fd, F.ok sc_code (fun vs H Q E h => h.1) (fun cdv A outer s H vs Q E hr h => ⟨t_code K a, ?_, pure_code h⟩), F.binds fun _ _ _ _ _ _ us hl => match us, hl with | [_], _ => rfl⟩
  exact pss_cons (ps_set (i := 1) sc_code.nd rfl (Or.inl rfl) (pe_lst (pa_nil)))
    (pss_cons (ps_for PassesOwn.never rfl (pi_enumS (by rfl) n.enumerate (by exact (pa_cons (pe_propR (pv 0) T.cl_Arrangement T.p_Arrangement_row G_Arrangement_row (hr.mono (by decide)) pass0 rfl) (pa_nil)))) (pg_tup (n := 2) rfl (pgs_cons (pg_name (i := 2) sc_code.nd rfl (.inl rfl)) (pgs_cons (pg_name (i := 3) sc_code.nd rfl (.inr rfl)) (pgs_nil))))
     (pss_cons (ps_set (i := 4) sc_code.nd rfl (Or.inl rfl) (pe_callB c_lenS (by rfl) n.len (by decide +kernel) (by exact (pa_cons (pe_lc (own := [("earlier", 5)]) (g := gName 5) (tt := tTest (tOp (rLtI) (tCB (rAbs) (tCons (tVar 5) (tNil))) (tCB (rAbs) (tCons (tVar 3) (tNil))))) (by rfl) sc_code.nd (pi_tup (pe_slice sl_tupA (pe_propR (pv 0) T.cl_Arrangement T.p_Arrangement_row G_Arrangement_row (hr.mono (by decide)) pass0 rfl) (po_none) (po_some (pv 2)))) (blkOk_by (own := [("earlier", 5)]) (N := N_code) (sc := defScope s_code) (by decide +kernel)) (fun _ _ _ _ _ => pg_name (i := 5) sc_code.nd rfl (.inl rfl)) (fun _ _ _ _ _ => pts_one (pt_cmpR op_lt (pe_callB c_abs (by rfl) n.abs (by decide +kernel) (by exact (pa_cons (pv 5) (pa_nil)))) (pe_callB c_abs (by rfl) n.abs (by decide +kernel) (by exact (pa_cons (pv 3) (pa_nil)))) (nomark _))) (fun _ _ _ _ _ => pv 5)) (pa_nil)))))
    (pss_one (ps_expr (pe_bm PySem.F.plainAttrs_list PySem.F.slot_list_append PySem.F.type_list_append mt_append (pv 1) (by exact (pa_cons (pe_ifExp (pt_cmpR op_gt (pv 3) (pe_int) (nomark _)) (pe_op op_sub (pv 2) (pv 4)) (pe_op op_add (pe_op op_add (pv 2) (pe_int)) (pv 4))) (pa_nil))))))))
    (pss_one (ps_ret (pv 1))))
theorem ok_is_integer (T : Txt K mg a fa) (n : Nm mg)  : FnE P w K mg base CX0 1 fa.is_integer ["value"] (sp_is_integer K a) := by
  obtain ⟨fd, F⟩ := T.F_is_integer
  refine ⟨fd, F.ok sc_is_integer (fun vs H Q E h => h.1) (fun cdv A outer s H vs Q E hr h => ⟨t_is_integer K a, ?_, pure_is_integer h⟩), F.binds fun _ _ _ _ _ _ us hl => match us, hl with | [_], _ => rfl⟩
  exact pss_one (ps_ret (pe_and (pe_callB call_isi (by rfl) n.isinstance (by decide +kernel) (by exact (pa_cons (pv 0) (pa_cons (pe_bltn (v := .ty "int") (by rfl) n.int_ (by decide +kernel) rfl) (pa_nil))))) (pe_one (pe_not (pe_callB call_isi (by rfl) n.isinstance (by decide +kernel) (by exact (pa_cons (pv 0) (pa_cons (pe_bltn (v := .ty "bool") (by rfl) n.bool_ (by decide +kernel) rfl) (pa_nil)))))))))
theorem ok_Arrangement_is_row (T : Txt K mg a fa) (n : Nm mg) (G_is_integer : FnE P w K mg base CX0 1 fa.is_integer ["value"] (sp_is_integer K a)) : FnE P w K mg base CX0 2 fa.Arrangement_is_row ["value"] (sp_Arrangement_is_row K a) := by
  obtain ⟨fd, F⟩ := T.F_Arrangement_is_row
  refine ⟨fd, F.ok sc_Arrangement_is_row (fun vs H Q E h => h.1) (fun cdv A outer s H vs Q E hr h => ⟨t_Arrangement_is_row K a, ?_, pure_Arrangement_is_row h⟩), F.binds fun _ _ _ _ _ _ us hl => match us, hl with | [_], _ => rfl⟩
  exact pss_cons (ps_if (PW.pt (pw_or (pt_not (pt_val (pe_callB call_isiT (by rfl) n.isinstance (by decide +kernel) (by exact (pa_cons (pv 0) (pa_cons (pe_tup (pa_cons (pe_bltn (v := .ty "list") (by rfl) n.list_ (by decide +kernel) rfl) (pa_cons (pe_bltn (v := .ty "tuple") (by rfl) n.tuple_ (by decide +kernel) rfl) (pa_nil)))) (pa_nil))))))) (pw_or1 (pt_not (pt_chain op_le op_le (pe_int) (pe_callB c_lenS (by rfl) n.len (by decide +kernel) (by exact (pa_cons (pv 0) (pa_nil)))) (pe_glob rfl T.c_MOST_CARDS ⟨_, rfl⟩)))))) (pss_one (ps_ret (pe_bl))) (pss_nil))
    (pss_cons (ps_if (pt_not (pt_val (pe_callB (cr_all rfl) (by rfl) n.all (by decide +kernel) (by exact (pa_cons (pe_lc (own := [("card", 1)]) (g := gName 1) (tt := tYes) (by rfl) sc_Arrangement_is_row.nd (pi_ltp (pv 0)) (blkOk_by (own := [("card", 1)]) (N := N_Arrangement_is_row) (sc := defScope s_Arrangement_is_row) (by decide +kernel)) (fun _ _ _ _ _ => pg_name (i := 1) sc_Arrangement_is_row.nd rfl (.inl rfl)) (fun _ _ _ _ _ => pts_nil) (fun _ _ _ _ _ => pe_callR G_is_integer (hr.mono (by decide)) rfl T.g_is_integer T.k_is_integer pass0 (by exact (pa_cons (pv 1) (pa_nil))))) (pa_nil)))))) (pss_one (ps_ret (pe_bl))) (pss_nil))
    (pss_one (ps_ret (pe_cmpR (op_eqX hr.units) (pe_callB cr_sortedI (by rfl) n.sorted (by decide +kernel) (by exact (pa_cons (pe_lc (own := [("card", 1)]) (g := gName 1) (tt := tYes) (by rfl) sc_Arrangement_is_row.nd (pi_ltp (pv 0)) (blkOk_by (own := [("card", 1)]) (N := N_Arrangement_is_row) (sc := defScope s_Arrangement_is_row) (by decide +kernel)) (fun _ _ _ _ _ => pg_name (i := 1) sc_Arrangement_is_row.nd rfl (.inl rfl)) (fun _ _ _ _ _ => pts_nil) (fun _ _ _ _ _ => pe_callB c_abs (by rfl) n.abs (by decide +kernel) (by exact (pa_cons (pv 1) (pa_nil))))) (pa_nil)))) (g_lr2 n rfl (pe_int) (pe_op op_add (pe_callB c_lenS (by rfl) n.len (by decide +kernel) (by exact (pa_cons (pv 0) (pa_nil)))) (pe_int)) rfl rfl) (nomark _)))))
theorem ok_Arrangement___init__ (T : Txt K mg a fa) (n : Nm mg) (G_Arrangement_is_row : FnE P w K mg base CX0 2 fa.Arrangement_is_row ["value"] (sp_Arrangement_is_row K a)) : FnE P w K mg base CX0 3 fa.Arrangement___init__ ["self", "row"] (sp_Arrangement___init__ K a) := by
  obtain ⟨fd, F⟩ := T.F_Arrangement___init__
  refine ⟨fd, F.ok sc_Arrangement___init__ (fun vs H Q E h => h.1) (fun cdv A outer s H vs Q E hr h => ⟨t_Arrangement___init__ K a, ?_, pure_Arrangement___init__ ⟨T.cl_Arrangement, T.n_Arrangement_cards⟩ h⟩), F.binds fun _ _ _ _ _ _ us hl => match us, hl with | [_, _], _ => rfl⟩
  exact pss_cons (ps_if (pt_not (pt_val (pe_smethR (pe_glob rfl T.g_Arrangement rfl) T.r_Arrangement T.s_Arrangement_is_row G_Arrangement_is_row (hr.mono (by decide)) pass0 (by exact (pa_cons (pv 1) (pa_nil)))))) (pss_one (ps_never)) (pss_nil))
    (pss_one (ps_fld (pv 0) (pe_callTy c_tupS (by rfl) n.tuple_ (by decide +kernel) (by exact (pa_cons (pv 1) (pa_nil)))) rfl))
theorem ok_is_between (T : Txt K mg a fa) (n : Nm mg) (G_is_integer : FnE P w K mg base CX0 1 fa.is_integer ["value"] (sp_is_integer K a)) : FnE P w K mg base CX0 2 fa.is_between ["value", "low", "high"] (sp_is_between K a) := by
  obtain ⟨fd, F⟩ := T.F_is_between
  refine ⟨fd, F.ok sc_is_between (fun vs H Q E h => h.1) (fun cdv A outer s H vs Q E hr h => ⟨t_is_between K a, ?_, pure_is_between h⟩), F.binds fun _ _ _ _ _ _ us hl => match us, hl with | [_, _, _], _ => rfl⟩
  exact pss_one (ps_ret (pe_and (pe_callR G_is_integer (hr.mono (by decide)) rfl T.g_is_integer T.k_is_integer pass0 (by exact (pa_cons (pv 0) (pa_nil)))) (pe_one (pe_chain op_le op_le (pv 1) (pv 0) (pv 2)))))
theorem ok_is_code (T : Txt K mg a fa) (n : Nm mg) (G_is_between : FnE P w K mg base CX0 2 fa.is_between ["value", "low", "high"] (sp_is_between K a)) : FnE P w K mg base CX0 3 fa.is_code ["value"] (sp_is_code K a) := by
  obtain ⟨fd, F⟩ := T.F_is_code
  refine ⟨fd, F.ok sc_is_code (fun vs H Q E h => h.1) (fun cdv A outer s H vs Q E hr h => ⟨t_is_code K a, ?_, pure_is_code h⟩), F.binds fun _ _ _ _ _ _ us hl => match us, hl with | [_], _ => rfl⟩
  exact pss_cons (ps_if (PW.pt (pw_or (pt_not (pt_val (pe_callB call_isiT (by rfl) n.isinstance (by decide +kernel) (by exact (pa_cons (pv 0) (pa_cons (pe_tup (pa_cons (pe_bltn (v := .ty "list") (by rfl) n.list_ (by decide +kernel) rfl) (pa_cons (pe_bltn (v := .ty "tuple") (by rfl) n.tuple_ (by decide +kernel) rfl) (pa_nil)))) (pa_nil))))))) (pw_or1 (pt_not (pt_chain op_le op_le (pe_int) (pe_callB c_lenS (by rfl) n.len (by decide +kernel) (by exact (pa_cons (pv 0) (pa_nil)))) (pe_glob rfl T.c_MOST_CARDS ⟨_, rfl⟩)))))) (pss_one (ps_ret (pe_bl))) (pss_nil))
    (pss_one (ps_ret (pe_callB (cr_all rfl) (by rfl) n.all (by decide +kernel) (by exact (pa_cons (pe_lc (own := [("index", 1), ("digit", 2)]) (g := gTup K 2 (gCons (gName 1) (gCons (gName 2) (gNil)))) (tt := tYes) (by rfl) sc_is_code.nd (pi_enumS (by rfl) n.enumerate (by exact (pa_cons (pv 0) (pa_nil)))) (blkOk_by (own := [("index", 1), ("digit", 2)]) (N := N_is_code) (sc := defScope s_is_code) (by decide +kernel)) (fun _ _ _ _ _ => pg_tup (n := 2) rfl (pgs_cons (pg_name (i := 1) sc_is_code.nd rfl (.inl rfl)) (pgs_cons (pg_name (i := 2) sc_is_code.nd rfl (.inl rfl)) (pgs_nil)))) (fun _ _ _ _ _ => pts_nil) (fun _ _ _ _ _ => pe_callR G_is_between (hr.mono (by decide)) rfl T.g_is_between T.k_is_between pass0 (by exact (pa_cons (pv 2) (pa_cons (pe_int) (pa_cons (pe_op op_add (pe_op op_mulA (pe_int) (pv 1)) (pe_int)) (pa_nil))))))) (pa_nil))))))
theorem ok_InvalidCode___init__ (T : Txt K mg a fa) (n : Nm mg)  : FnE P w K mg base CX0 1 fa.InvalidCode___init__ ["self", "value"] (sp_Er K a.InvalidCode "value") := by
  obtain ⟨fd, F⟩ := T.F_InvalidCode___init__
  refine ⟨fd, F.ok sc_InvalidCode___init__ (fun vs H Q E h => h.1) (fun cdv A outer s H vs Q E hr h => ⟨(t_Er K "value" "invalid code"), ?_, pure_Er h⟩), F.binds fun _ _ _ _ _ _ us hl => match us, hl with | [_, _], _ => rfl⟩
  exact pss_cons (ps_expr (pe_ceinit rfl T.g_CardError T.r_CardError T.vi_CardError (by exact (pa_cons (pv 0) (pa_cons (pe_str) (pa_nil))))))
    (pss_one (ps_ost (pv 0) (pv 1)))
theorem ok_decoded (T : Txt K mg a fa) (n : Nm mg) (G_Arrangement___init__ : FnE P w K mg base CX0 3 fa.Arrangement___init__ ["self", "row"] (sp_Arrangement___init__ K a)) : FnE P w K mg base CX0 5 fa.decoded ["digits"] (sp_decoded K a) := by
  obtain ⟨fd, F⟩ := T.F_decoded
  refine ⟨fd, F.ok sc_decoded (fun vs H Q E h => h.1) (fun cdv A outer s H vs Q E hr h => ⟨t_decoded K a, ?_, pure_decoded h⟩), F.binds fun _ _ _ _ _ _ us hl => match us, hl with | [_], _ => rfl⟩
  exact pss_cons (ps_par (by rfl) sc_decoded.nd rfl rfl (by decide) rfl rfl (by exact (pa_cons (g_lr2 n rfl (pe_int) (pe_op op_add (pe_callB c_lenS (by rfl) n.len (by decide +kernel) (by exact (pa_cons (pv 0) (pa_nil)))) (pe_int)) rfl rfl) (pa_cons (pe_lst (pa_nil)) (pa_nil)))) (by rfl))
    (pss_cons (ps_for PassesOwn.never rfl (pi_range3 (by rfl) n.range (by exact (pa_cons (pe_op op_sub (pe_callB c_lenS (by rfl) n.len (by decide +kernel) (by exact (pa_cons (pv 0) (pa_nil)))) (pe_int)) (pa_cons (pe_un un_neg (pe_int)) (pa_cons (pe_un un_neg (pe_int)) (pa_nil)))))) (pg_name (i := 1) sc_decoded.nd rfl (.inl rfl))
     (pss_cons (ps_set (i := 4) sc_decoded.nd rfl (Or.inl rfl) (pe_ix ix_ltp (pv 0) (pv 1) (fun _ _ => rfl)))
    (pss_cons (ps_set (i := 5) sc_decoded.nd rfl (Or.inl rfl) (pe_bm PySem.F.plainAttrs_list PySem.F.slot_list_pop PySem.F.type_list_pop mt_popAt (pv 2) (by exact (pa_cons (pe_ifExp (pt_cmpR op_le (pv 4) (pv 1) (nomark _)) (pe_op op_sub (pv 1) (pv 4)) (pe_op op_sub (pe_op op_sub (pv 4) (pv 1)) (pe_int))) (pa_nil)))))
    (pss_one (ps_expr (pe_bm PySem.F.plainAttrs_list PySem.F.slot_list_append PySem.F.type_list_append mt_append (pv 3) (by exact (pa_cons (pe_ifExp (pt_cmpR op_le (pv 4) (pv 1) (nomark _)) (pv 5) (pe_un un_neg (pv 5))) (pa_nil)))))))))
    (pss_one (ps_ret (pe_makeR T.m_Arrangement G_Arrangement___init__ (hr.mono (by decide)) rfl T.g_Arrangement pass0 (by exact (pa_cons (pe_revL (pv 3)) (pa_nil)))))))
theorem ok_from_code (T : Txt K mg a fa) (n : Nm mg) (G_is_code : FnE P w K mg base CX0 3 fa.is_code ["value"] (sp_is_code K a)) (G_InvalidCode___init__ : FnE P w K mg base CX0 1 fa.InvalidCode___init__ ["self", "value"] (sp_Er K a.InvalidCode "value")) (G_decoded : FnE P w K mg base CX0 5 fa.decoded ["digits"] (sp_decoded K a)) : FnE P w K mg base (L2.CX P w) 6 fa.from_code ["code"] (sp_from_code K a) := by
  obtain ⟨fd, F⟩ := T.F_from_code
  refine ⟨fd, F.okX sc_from_code (fun vs H Q E h => h.1) (fun cdv A outer s H vs Q E hr h => ⟨t_from_code K a E, ?_, pure_from_code ⟨T.ox_InvalidCode, T.nv_InvalidCode⟩ h⟩), F.binds fun _ _ _ _ _ _ us hl => match us, hl with | [_], _ => rfl⟩
  exact pss_cons (ps_if (pt_not (pt_val (pe_callR G_is_code (hr.mono (by decide)) rfl T.g_is_code T.k_is_code pass0 (by exact (pa_cons (pv 0) (pa_nil)))))) (pss_one (ps_raiseV rfl (takes_of rfl rfl rfl rfl) T.ox_InvalidCode T.ic_InvalidCode T.it_InvalidCode G_InvalidCode___init__ (hr.mono (by decide)) pass0 rfl T.g_InvalidCode (pv 0))) (pss_nil))
    (pss_one (ps_ret (pe_callR G_decoded (hr.mono (by decide)) rfl T.g_decoded T.k_decoded pass0 (by exact (pa_cons (pv 0) (pa_nil))))))
theorem ok__law_told (T : Txt K mg a fa) (n : Nm mg) (G_from_code : FnE P w K mg base (L2.CX P w) 6 fa.from_code ["code"] (sp_from_code K a)) (G_Arrangement_row : FnE P w K mg base CX0 1 fa.Arrangement_row ["self"] (sp_Arrangement_row K a)) : FnGE P w K mg base (L2.CX P w) 7 fa._law_told ["_law_value"] (sp__law_told K a) := by
  obtain ⟨fd, F⟩ := T.F__law_told
  refine ⟨fd, fnG_of F sc__law_told (fun vs H Q E h => h.1) (fun cdv A outer s H vs Q E hG hr h => ⟨t__law_told K a E, ?_, pure__law_told ⟨T.ex_InvalidCode_InvalidCode, T.ki_InvalidCode_CardError, T.ki_InvalidCode_InvalidRow⟩ h⟩), F.binds fun _ _ _ _ _ _ us hl => match us, hl with | [_], _ => rfl⟩
  exact pss_one (ps_tryC (tb := fun W => tRet (tPropR a.Arrangement (sp_Arrangement_row K a) E0 (tCallW (sp_from_code K a) W (tCons (tVar 0) (tNil))))) (l := (.ref a.InvalidCode, some 1, fun ea cls d => tRet (tTup (tCons (tCB (rRepr K) (tCons (tXf ea cls d a.InvalidCode "value" (tVar 1)) (tNil))) (tCons (tAndV (tCB (rIsD K a.InvalidCode ea cls d) (tCons (tVar 1) (tCons (tC (.ref a.CardError)) (tNil)))) (tNotV (tCB (rIsD K a.InvalidCode ea cls d) (tCons (tVar 1) (tCons (tC (.ref a.InvalidRow)) (tNil)))))) (tNil))))) :: []) rfl rfl sc__law_told.nd (takes_of rfl rfl rfl rfl) (fun W pn xe tk po => pss_one (ps_ret (pe_propR (pe_callW G_from_code (hr.mono (by decide)) rfl T.g_from_code T.k_from_code tk (by exact (pa_cons (pv 0) (pa_nil)))) T.cl_Arrangement T.p_Arrangement_row G_Arrangement_row (hr.mono (by decide)) pass0 rfl))) (.nm (i := 1) rfl rfl ⟨rfl, by decide, Or.inl T.g_InvalidCode⟩ (fun ea oe cls d pn hz hf => pss_one (ps_ret (pe_tup (pa_cons (pe_callB (call_reprD (by have z := hG; exact z) (by have z := Room.u64 hr; exact z)) (by rfl) n.repr_ (by decide +kernel) (by exact (pa_cons (pe_xf T.xf_InvalidCode T.nv_InvalidCode hz hf (pv 1)) (pa_nil)))) (pa_cons (pe_and (pe_callB (call_isD T.xc_InvalidCode hz hf) (by rfl) n.isinstance (by decide +kernel) (by exact (pa_cons (pv 1) (pa_cons (pe_glob rfl T.g_CardError rfl) (pa_nil))))) (pe_one (pe_not (pe_callB (call_isD T.xc_InvalidCode hz hf) (by rfl) n.isinstance (by decide +kernel) (by exact (pa_cons (pv 1) (pa_cons (pe_glob rfl T.g_InvalidRow rfl) (pa_nil)))))))) (pa_nil)))))) (.nil)))
theorem ok__law_check (T : Txt K mg a fa) (n : Nm mg) (G__law_digits : FnE P w K mg base CX0 1 fa._law_digits ["_law_cards_here"] (sp__law_digits K a)) (G_code : FnE P w K mg base CX0 3 fa.code ["a"] (sp_code K a)) (G_Arrangement___init__ : FnE P w K mg base CX0 3 fa.Arrangement___init__ ["self", "row"] (sp_Arrangement___init__ K a)) (G_from_code : FnE P w K mg base (L2.CX P w) 6 fa.from_code ["code"] (sp_from_code K a)) (G_Arrangement_row : FnE P w K mg base CX0 1 fa.Arrangement_row ["self"] (sp_Arrangement_row K a)) (G__law_told : FnGE P w K mg base (L2.CX P w) 7 fa._law_told ["_law_value"] (sp__law_told K a)) : FnGE P w K mg base (L2.CX P w) 8 fa._law_check ["_law_cards_here"] (sp__law_check K a) := by
  obtain ⟨fd, F⟩ := T.F__law_check
  refine ⟨fd, fnG_of F sc__law_check (fun vs H Q E h => h.1) (fun cdv A outer s H vs Q E hG hr h => ⟨t__law_check K a, ?_, pure__law_check h⟩), F.binds fun _ _ _ _ _ _ us hl => match us, hl with | [_], _ => rfl⟩
  exact pss_cons (ps_set (i := 1) sc__law_check.nd rfl (Or.inl rfl) (pe_callR G__law_digits (hr.mono (by decide)) rfl T.g__law_digits T.k__law_digits pass0 (by exact (pa_cons (pv 0) (pa_nil)))))
    (pss_cons (ps_for (passes_of rfl) rfl (pi_range1 (by rfl) n.range (by exact (pa_cons (pe_int) (pa_nil)))) (pg_name (i := 2) sc__law_check.nd rfl (.inl rfl))
     (pss_cons (ps_set (i := 3) sc__law_check.nd rfl (Or.inl rfl) (pe_callR G_code (hr.mono (by decide)) rfl T.g_code T.k_code pass0 (by exact (pa_cons (pe_makeR T.m_Arrangement G_Arrangement___init__ (hr.mono (by decide)) rfl T.g_Arrangement pass0 (by exact (pa_cons (pv 0) (pa_nil)))) (pa_nil)))))
    (pss_cons (ps_if (PW.pt (pw_or (pt_cmpR op_ne (pe_callB (call_reprD hG (Room.u64 hr)) (by rfl) n.repr_ (by decide +kernel) (by exact (pa_cons (pv 3) (pa_nil)))) (pe_callB (call_reprD hG (Room.u64 hr)) (by rfl) n.repr_ (by decide +kernel) (by exact (pa_cons (pv 1) (pa_nil)))) (nomark _)) (pw_or (pt_cmpR (op_neX hr.units) (pe_propR (pe_callR G_from_code (hr.mono (by decide)) rfl T.g_from_code T.k_from_code passL (by exact (pa_cons (pv 3) (pa_nil)))) T.cl_Arrangement T.p_Arrangement_row G_Arrangement_row (hr.mono (by decide)) pass0 rfl) (pv 0) (nomark _)) (pw_or1 (pt_cmpR (op_neX hr.units) (pe_callG hG G__law_told (hr.mono (by decide)) rfl T.g__law_told T.k__law_told passL (by exact (pa_cons (pe_callTy c_tupS (by rfl) n.tuple_ (by decide +kernel) (by exact (pa_cons (pv 1) (pa_nil)))) (pa_nil)))) (pv 0) (nomark _)))))) (pss_one (ps_ret (pe_bl))) (pss_nil))
    (pss_one (ps_expr (pe_bm PySem.F.plainAttrs_list PySem.F.slot_list_append PySem.F.type_list_append mt_append (pv 3) (by exact (pa_cons (pe_int) (pa_nil)))))))))
    (pss_one (ps_ret (pe_bl))))
theorem ok_Arrangement___len__ (T : Txt K mg a fa) (n : Nm mg)  : FnE P w K mg base CX0 1 fa.Arrangement___len__ ["self"] (sp_Arrangement___len__ K a) := by
  obtain ⟨fd, F⟩ := T.F_Arrangement___len__
  refine ⟨fd, F.ok sc_Arrangement___len__ (fun vs H Q E h => h.1) (fun cdv A outer s H vs Q E hr h => ⟨t_Arrangement___len__ K a, ?_, pure_Arrangement___len__ ⟨T.cl_Arrangement, T.n_Arrangement_cards⟩ h⟩), F.binds fun _ _ _ _ _ _ us hl => match us, hl with | [_], _ => rfl⟩
  exact pss_one (ps_ret (pe_callB c_lenS (by rfl) n.len (by decide +kernel) (by exact (pa_cons (pe_fld (pv 0) rfl) (pa_nil)))))
theorem ok__law_kept_right (T : Txt K mg a fa) (n : Nm mg) (G_from_code : FnE P w K mg base (L2.CX P w) 6 fa.from_code ["code"] (sp_from_code K a)) : FnE P w K mg base (L2.CX P w) 7 fa._law_kept_right [] (sp__law_kept_right K a) := by
  obtain ⟨fd, F⟩ := T.F__law_kept_right
  refine ⟨fd, F.okX sc__law_kept_right (fun vs H Q E h => h.1) (fun cdv A outer s H vs Q E hr h => ⟨t__law_kept_right K a E, ?_, pure__law_kept_right ⟨T.ex_InvalidCode_InvalidCode, T.ki_InvalidCode_CardError, T.ki_InvalidCode_InvalidRow⟩ h⟩), F.binds fun _ _ _ _ _ _ us hl => match us, hl with | [], _ => rfl⟩
  exact pss_cons (ps_set (i := 0) sc__law_kept_right.nd rfl (Or.inl rfl) (pe_lst (pa_cons (pe_int) (pa_cons (pe_int) (pa_nil)))))
    (pss_cons (ps_tryC (tb := fun W => tDrop (tCallW (sp_from_code K a) W (tCons (tVar 0) (tNil)))) (l := (.ref a.InvalidCode, some 1, fun ea cls d => tSeq (tDrop (tBM K "list" (rAppend) (tVar 0) (tCons (tC (.int 1)) (tNil))))
  (tRet (tOp (rEqX K) (tXf ea cls d a.InvalidCode "value" (tVar 1)) (tLst (tCons (tC (.int 0)) (tCons (tC (.int 9)) (tCons (tC (.int 1)) (tNil)))))))) :: []) rfl rfl sc__law_kept_right.nd (takes_of rfl rfl rfl rfl) (fun W pn xe tk po => pss_one (ps_expr (pe_callW G_from_code (hr.mono (by decide)) rfl T.g_from_code T.k_from_code tk (by exact (pa_cons (pv 0) (pa_nil)))))) (.nm (i := 1) rfl rfl ⟨rfl, by decide, Or.inl T.g_InvalidCode⟩ (fun ea oe cls d pn hz hf => pss_cons (ps_expr (pe_bm PySem.F.plainAttrs_list PySem.F.slot_list_append PySem.F.type_list_append mt_append (pv 0) (by exact (pa_cons (pe_int) (pa_nil)))))
    (pss_one (ps_ret (pe_cmpR (op_eqX hr.units) (pe_xf T.xf_InvalidCode T.nv_InvalidCode hz hf (pv 1)) (pe_lst (pa_cons (pe_int) (pa_cons (pe_int) (pa_cons (pe_int) (pa_nil))))) (nomark _))))) (.nil)))
    (pss_one (ps_ret (pe_bl))))
end
theorem law_ok {P : Program} {w : World} {K : PySem.W.Frag} {mg : Str → Option Value} {base : Heap} {a : Ad} {fa : Fa} (T : Txt K mg a fa) (n : Nm mg) {f : Addr} {fd : FuncData} (F : Fun K "law" "law" s_law f fd) (G__law_pool : FnE P w K mg base CX0 1 fa._law_pool ["_law_script", "_law_k"] (sp__law_pool K a)) (G__law_cards : FnE P w K mg base CX0 2 fa._law_cards ["_law_pool_here", "_law_many"] (sp__law_cards K a)) (G__law_take : FnE P w K mg base CX0 1 fa._law_take ["_law_pool_here", "_law_count"] (sp__law_take K a)) (G__law_check : FnGE P w K mg base (L2.CX P w) 8 fa._law_check ["_law_cards_here"] (sp__law_check K a)) (G_code : FnE P w K mg base CX0 3 fa.code ["a"] (sp_code K a)) (G_from_code : FnE P w K mg base (L2.CX P w) 6 fa.from_code ["code"] (sp_from_code K a)) (G__law_told : FnGE P w K mg base (L2.CX P w) 7 fa._law_told ["_law_value"] (sp__law_told K a)) (G_Arrangement___len__ : FnE P w K mg base CX0 1 fa.Arrangement___len__ ["self"] (sp_Arrangement___len__ K a)) (G__law_kept_right : FnE P w K mg base (L2.CX P w) 7 fa._law_kept_right [] (sp__law_kept_right K a)) : FnG P w K mg base (L2.CX P w) 9 f fd ["_law_script"] (sp_law K a) := by
  refine fnG_of F sc_law (fun vs H Q E h => h.1) (fun cdv A outer s H vs Q E hG hr h => ⟨t_law K a, ?_, pure_law h⟩)
  exact pss_cons (ps_for (passes_of rfl) rfl (pi_range1 (by rfl) n.range (by exact (pa_cons (pe_callB (c_max2 rfl) (by rfl) n.max (by decide +kernel) (by exact (pa_cons (pe_int) (pa_cons (pe_callB (c_min2 rfl) (by rfl) n.min (by decide +kernel) (by exact (pa_cons (pe_int) (pa_cons (pe_callB c_lenS (by rfl) n.len (by decide +kernel) (by exact (pa_cons (pv 0) (pa_nil)))) (pa_nil))))) (pa_nil))))) (pa_nil)))) (pg_name (i := 1) sc_law.nd rfl (.inl rfl))
     (pss_cons (ps_set (i := 2) sc_law.nd rfl (Or.inr rfl) (pe_callR G__law_pool (hr.mono (by decide)) rfl T.g__law_pool T.k__law_pool pass0 (by exact (pa_cons (pv 0) (pa_cons (pv 1) (pa_nil))))))
    (pss_cons (ps_set (i := 3) sc_law.nd rfl (Or.inl rfl) (pe_callR G__law_cards (hr.mono (by decide)) rfl T.g__law_cards T.k__law_cards pass0 (by exact (pa_cons (pv 2) (pa_cons (pe_op op_add (pe_int) (pe_callR G__law_take (hr.mono (by decide)) rfl T.g__law_take T.k__law_take pass0 (by exact (pa_cons (pv 2) (pa_cons (pe_int) (pa_nil)))))) (pa_nil))))))
    (pss_cons (ps_if (PW.pt (pw_or (pt_not (pt_val (pe_callG hG G__law_check (hr.mono (by decide)) rfl T.g__law_check T.k__law_check passL (by exact (pa_cons (pv 3) (pa_nil)))))) (pw_or1 (PW.pt (pw_and (pt_cmpR op_eq (pv 1) (pe_int) (nomark _)) (pw_and1 (pt_not (pt_val (pe_callG hG G__law_check (hr.mono (by decide)) rfl T.g__law_check T.k__law_check passL (by exact (pa_cons (pe_callR G__law_cards (hr.mono (by decide)) rfl T.g__law_cards T.k__law_cards pass0 (by exact (pa_cons (pv 2) (pa_cons (pe_op op_add (pe_int) (pe_callR G__law_take (hr.mono (by decide)) rfl T.g__law_take T.k__law_take pass0 (by exact (pa_cons (pv 2) (pa_cons (pe_int) (pa_nil)))))) (pa_nil))))) (pa_nil)))))))))))) (pss_one (ps_ret (pe_bl))) (pss_nil))
    (pss_cons (ps_setLc (own := [("_law_place", 8)]) (g := gName 8) (tt := tYes) (i := 4) rfl sc_law.nd rfl rfl (sw_true rfl rfl rfl (by decide +kernel)) (pi_range1 (by rfl) n.range (by exact (pa_cons (pe_op op_add (pe_int) (pe_callR G__law_take (hr.mono (by decide)) rfl T.g__law_take T.k__law_take pass0 (by exact (pa_cons (pv 2) (pa_cons (pe_int) (pa_nil)))))) (pa_nil)))) (blkOk_by (own := [("_law_place", 8)]) (N := N_law) (sc := defScope s_law) (by decide +kernel)) (fun _ _ _ _ _ => pg_name (i := 8) sc_law.nd rfl (.inl rfl)) (fun _ _ _ _ _ => pts_nil) (fun _ _ _ _ _ => pe_callR G__law_take (hr.mono (by decide)) rfl T.g__law_take T.k__law_take pass0 (by exact (pa_cons (pv 2) (pa_cons (pe_op op_add (pe_op op_mulA (pe_int) (pv 8)) (pe_int)) (pa_nil))))))
    (pss_cons (ps_if (pt_cmpR (op_neX hr.units) (pe_callR G_code (hr.mono (by decide)) rfl T.g_code T.k_code pass0 (by exact (pa_cons (pe_callR G_from_code (hr.mono (by decide)) rfl T.g_from_code T.k_from_code passL (by exact (pa_cons (pv 4) (pa_nil)))) (pa_nil)))) (pv 4) (nomark _)) (pss_one (ps_ret (pe_bl))) (pss_nil))
    (pss_cons (ps_set (i := 5) sc_law.nd rfl (Or.inl rfl) (pe_callR G__law_take (hr.mono (by decide)) rfl T.g__law_take T.k__law_take pass0 (by exact (pa_cons (pv 2) (pa_cons (pe_callB c_lenS (by rfl) n.len (by decide +kernel) (by exact (pa_cons (pv 4) (pa_nil)))) (pa_nil))))))
    (pss_cons (ps_for (passes_of rfl) rfl (pi_list (pe_lst (pa_cons (pe_un un_neg (pe_int)) (pa_cons (pe_op op_add (pe_op op_mulA (pe_int) (pv 5)) (pe_int)) (pa_cons (pe_non) (pa_cons (pe_bl) (pa_cons (pe_str) (pa_cons (pe_tup (pa_cons (pe_int) (pa_nil))) (pa_cons (pe_lst (pa_cons (pe_int) (pa_nil))) (pa_cons (pe_op op_pow (pe_int) (pe_int)) (pa_nil))))))))))) (pg_name (i := 6) sc_law.nd rfl (.inl rfl))
     (pss_cons (ps_set (i := 7) sc_law.nd rfl (Or.inl rfl) (pe_op op_cat (pe_op op_cat (pe_slice sl_list (pv 4) (po_none) (po_some (pv 5))) (pe_lst (pa_cons (pv 6) (pa_nil)))) (pe_slice sl_list (pv 4) (po_some (pe_op op_add (pv 5) (pe_int))) (po_none))))
    (pss_one (ps_if (pt_cmpR (op_neX hr.units) (pe_callG hG G__law_told (hr.mono (by decide)) rfl T.g__law_told T.k__law_told passL (by exact (pa_cons (pv 7) (pa_nil)))) (pe_tup (pa_cons (pe_callB (call_reprD hG (Room.u64 hr)) (by rfl) n.repr_ (by decide +kernel) (by exact (pa_cons (pv 7) (pa_nil)))) (pa_cons (pe_bl) (pa_nil)))) (nomark _)) (pss_one (ps_ret (pe_bl))) (pss_nil)))))
    (pss_one (ps_for (passes_of rfl) rfl (pi_list (pe_lst (pa_cons (pe_non) (pa_cons (pe_int) (pa_cons (pe_str) (pa_cons (pe_lst (pa_nil)) (pa_cons (pe_tup (pa_nil)) (pa_cons (pe_dnewK) (pa_cons (pe_lst (pa_cons (pe_lst (pa_cons (pe_int) (pa_nil))) (pa_nil))) (pa_cons (pe_lst (pa_cons (pe_int) (pa_nil))) (pa_cons (pe_lst (pa_cons (pe_int) (pa_cons (pe_int) (pa_nil)))) (pa_cons (pe_bl) (pa_cons (pe_op op_rep (pe_lst (pa_cons (pe_int) (pa_nil))) (pe_int)) (pa_nil)))))))))))))) (pg_name (i := 7) sc_law.nd rfl (.inl rfl))
     (pss_one (ps_if (pt_cmpR (op_neX hr.units) (pe_callG hG G__law_told (hr.mono (by decide)) rfl T.g__law_told T.k__law_told passL (by exact (pa_cons (pv 7) (pa_nil)))) (pe_tup (pa_cons (pe_callB (call_reprD hG (Room.u64 hr)) (by rfl) n.repr_ (by decide +kernel) (by exact (pa_cons (pv 7) (pa_nil)))) (pa_cons (pe_bl) (pa_nil)))) (nomark _)) (pss_one (ps_ret (pe_bl))) (pss_nil)))))))))))))
    (pss_one (ps_ret (pe_and (pe_cmpR op_eq (pe_callB (call_lenE T.f_Arrangement___len__ T.i_Arrangement___len__ G_Arrangement___len__ (hr.mono (by decide)) pass0) (by rfl) n.len (by decide +kernel) (by exact (pa_cons (pe_callR G_from_code (hr.mono (by decide)) rfl T.g_from_code T.k_from_code passL (by exact (pa_cons (pe_op op_rep (pe_lst (pa_cons (pe_int) (pa_nil))) (pe_int)) (pa_nil)))) (pa_nil)))) (pe_int) (nomark _)) (pe_one (pe_callR0 G__law_kept_right (hr.mono (by decide)) rfl T.g__law_kept_right T.k__law_kept_right passL)))))
def sp_lawX (K : PySem.W.Frag) : Sp := fun vs H Q E => ∀ a : Ad, sp_law K a vs H Q E
theorem all_mk {l : PySem.W.OpenLaw} {w : World} {K : PySem.W.Frag} {h : Heap} {mg : Str → Option Value} {f0 : Addr} (X : K.In h) (G : h.Ns mainGlobals mg) (hfa : mg "law" = some (.ref f0))
    {f__law_pool f__law_take f__law_cards f__law_digits f_Arrangement_row r_Arrangement_row f_code f_is_integer f_Arrangement_is_row r_Arrangement_is_row f_Arrangement___init__ f_is_between f_is_code f_InvalidCode___init__ f_decoded f_from_code f__law_told f__law_check f_Arrangement___len__ f__law_kept_right f_law C_Arrangement C_CardError C_InvalidCode C_InvalidRow eN_InvalidCode : Addr} {od__law_pool an__law_pool od__law_take an__law_take od__law_cards an__law_cards od__law_digits an__law_digits od_Arrangement_row an_Arrangement_row od_code an_code od_is_integer an_is_integer od_Arrangement_is_row an_Arrangement_is_row od_Arrangement___init__ an_Arrangement___init__ od_is_between an_is_between od_is_code an_is_code od_InvalidCode___init__ an_InvalidCode___init__ od_decoded an_decoded od_from_code an_from_code od__law_told an__law_told od__law_check an__law_check od_Arrangement___len__ an_Arrangement___len__ od__law_kept_right an__law_kept_right od_law an_law : Option Addr} {oc__law_pool kV__law_pool dc__law_pool pm__law_pool cd__law_pool ct__law_pool oc__law_take kV__law_take dc__law_take pm__law_take cd__law_take ct__law_take oc__law_cards kV__law_cards dc__law_cards pm__law_cards cd__law_cards ct__law_cards oc__law_digits kV__law_digits dc__law_digits pm__law_digits cd__law_digits ct__law_digits oc_Arrangement_row kV_Arrangement_row dc_Arrangement_row pm_Arrangement_row cd_Arrangement_row ct_Arrangement_row oc_code kV_code dc_code pm_code cd_code ct_code oc_is_integer kV_is_integer dc_is_integer pm_is_integer cd_is_integer ct_is_integer oc_Arrangement_is_row kV_Arrangement_is_row dc_Arrangement_is_row pm_Arrangement_is_row cd_Arrangement_is_row ct_Arrangement_is_row oc_Arrangement___init__ kV_Arrangement___init__ dc_Arrangement___init__ pm_Arrangement___init__ cd_Arrangement___init__ ct_Arrangement___init__ oc_is_between kV_is_between dc_is_between pm_is_between cd_is_between ct_is_between oc_is_code kV_is_code dc_is_code pm_is_code cd_is_code ct_is_code oc_InvalidCode___init__ kV_InvalidCode___init__ dc_InvalidCode___init__ pm_InvalidCode___init__ cd_InvalidCode___init__ ct_InvalidCode___init__ oc_decoded kV_decoded dc_decoded pm_decoded cd_decoded ct_decoded oc_from_code kV_from_code dc_from_code pm_from_code cd_from_code ct_from_code oc__law_told kV__law_told dc__law_told pm__law_told cd__law_told ct__law_told oc__law_check kV__law_check dc__law_check pm__law_check cd__law_check ct__law_check oc_Arrangement___len__ kV_Arrangement___len__ dc_Arrangement___len__ pm_Arrangement___len__ cd_Arrangement___len__ ct_Arrangement___len__ oc__law_kept_right kV__law_kept_right dc__law_kept_right pm__law_kept_right cd__law_kept_right ct__law_kept_right oc_law kV_law dc_law pm_law cd_law ct_law : Value} {sl__law_pool sl__law_take sl__law_cards sl__law_digits sl_Arrangement_row sl_code sl_is_integer sl_Arrangement_is_row sl_Arrangement___init__ sl_is_between sl_is_code sl_InvalidCode___init__ sl_decoded sl_from_code sl__law_told sl__law_check sl_Arrangement___len__ sl__law_kept_right sl_law : Array (Option Value)} {enm_InvalidCode eq_InvalidCode : Str} {ebs_InvalidCode esub_InvalidCode : List Value} {esn_InvalidCode : List Str} {eab_InvalidCode : Bool} {ecol_InvalidCode : Option Bool} {edd_InvalidCode : Option Addr} {em0_InvalidCode em1_InvalidCode em2_InvalidCode em3_InvalidCode em5_InvalidCode : Option Value} {re_Arrangement_row re_Arrangement_is_row : List Value} {tk_MOST_CARDS : Tok}
    (aC_Arrangement : PySem.W.nsIn K mainGlobals "Arrangement" = some (some (.ref C_Arrangement)))
    (pg_Arrangement : PySem.W.plainGet K C_Arrangement Str.empty = true)
    (hd_Arrangement : PySem.W.hasDictIn K C_Arrangement = true)
    (po_Arrangement : PySem.W.plainOver K C_Arrangement = true)
    (sa_Arrangement : PySem.W.findIn K (.ref C_Arrangement) "__setattr__" = some (some (.builtin "object.__setattr__")))
    (mk_Arrangement : PySem.W.makesIn K C_Arrangement = true)
    (kc_Arrangement : PySem.W.keepIn K (.ref C_Arrangement) = true)
    (rd_Arrangement : PySem.W.readsIn K C_Arrangement (.type "type") = true)
    (ga_Arrangement : PySem.W.specialIn K (.ref C_Arrangement) "__getattribute__" = some (some (.builtin "type.__getattribute__")))
    (no_Arrangement_cards : PySem.W.findIn K (.ref C_Arrangement) "cards" = some none)
    (aC_CardError : PySem.W.nsIn K mainGlobals "CardError" = some (some (.ref C_CardError)))
    (aC_InvalidCode : PySem.W.nsIn K mainGlobals "InvalidCode" = some (some (.ref C_InvalidCode)))
    (aC_InvalidRow : PySem.W.nsIn K mainGlobals "InvalidRow" = some (some (.ref C_InvalidRow)))
    (rd_CardError : PySem.W.readsIn K C_CardError (.type "type") = true)
    (gm_CardError : PySem.W.specialIn K (.ref C_CardError) "__getattribute__" = some (some (.builtin "type.__getattribute__")))
    (vi_CardError : PySem.W.findCls K (.ref C_CardError) (.type "type") "__init__" = some (.val (.builtin "ValueError.__init__")))
    (xL_InvalidCode : K.lookup C_InvalidCode = some (excClassObj enm_InvalidCode eq_InvalidCode C_InvalidCode eN_InvalidCode ebs_InvalidCode [.ref C_CardError, .type "ValueError", .type "Exception", .type "BaseException", .type "object"] true esn_InvalidCode esub_InvalidCode eab_InvalidCode ecol_InvalidCode edd_InvalidCode em0_InvalidCode em1_InvalidCode em2_InvalidCode em3_InvalidCode em5_InvalidCode "ValueError.__new__"))
    (sa_InvalidCode : PySem.W.findIn K (.ref C_InvalidCode) "__setattr__" = some (some (.builtin "object.__setattr__")))
    (eC_InvalidCode : PySem.W.subIn K (.ref C_InvalidCode) (.type "BaseException") = some true)
    (tC_InvalidCode : PySem.W.typeIn K (.ref C_InvalidCode) = some (.type "type"))
    (kC_InvalidCode : PySem.W.keepIn K (.ref C_InvalidCode) = true)
    (ic_InvalidCode : PySem.W.findIn K (.ref C_InvalidCode) "__init__" = some (some (.ref f_InvalidCode___init__)))
    (it_InvalidCode : PySem.W.typeIn K (.ref f_InvalidCode___init__) = some (.type "function"))
    (nv_InvalidCode : PySem.W.findIn K (.ref C_InvalidCode) "value" = some none)
    (hn_ : PySem.W.specialIn K (.builtin "object.__class__") "__get__" = some (some (.builtin "getset_descriptor.__get__")))
    (ht_ : PySem.W.takesIn K (.builtin "object.__class__") = some true)
    (xga_InvalidCode : PySem.W.findIn K (.ref C_InvalidCode) "__getattribute__" = some (some (.builtin "BaseException.__getattribute__")))
    (xgg_InvalidCode : PySem.W.findIn K (.ref C_InvalidCode) "__getattr__" = some none)
    (xhd_InvalidCode : PySem.W.hasDictIn K C_InvalidCode = true)
    (xha_InvalidCode : PySem.W.findIn K (.ref C_InvalidCode) "__class__" = some (some (.builtin "object.__class__")))
    (xhm_InvalidCode : PySem.W.mroIn K C_InvalidCode (.type "object") = some true)
    (ex_InvalidCode_InvalidCode : PySem.W.exmOne K (.ref C_InvalidCode) (.ref C_InvalidCode) = some true)
    (ki_InvalidCode_CardError : PySem.W.kitOne K (.ref C_InvalidCode) (.ref C_CardError) = some true)
    (ki_InvalidCode_InvalidRow : PySem.W.kitOne K (.ref C_InvalidCode) (.ref C_InvalidRow) = some false)
    (a__law_pool : PySem.W.nsIn K mainGlobals "_law_pool" = some (some (.ref f__law_pool)))
    (l__law_pool : K.lookup f__law_pool = some ⟨oc__law_pool, od__law_pool, .func (PySem.W.fnOf "_law_pool" "_law_pool" (defArgs s__law_pool) (defBody s__law_pool) (defScope s__law_pool) .none kV__law_pool dc__law_pool pm__law_pool an__law_pool cd__law_pool ct__law_pool), sl__law_pool⟩)
    (c__law_pool : PySem.W.codeIn K cd__law_pool "_law_pool" = true)
    (k__law_pool : PySem.W.keepIn K (.ref f__law_pool) = true)
    (a__law_take : PySem.W.nsIn K mainGlobals "_law_take" = some (some (.ref f__law_take)))
    (l__law_take : K.lookup f__law_take = some ⟨oc__law_take, od__law_take, .func (PySem.W.fnOf "_law_take" "_law_take" (defArgs s__law_take) (defBody s__law_take) (defScope s__law_take) .none kV__law_take dc__law_take pm__law_take an__law_take cd__law_take ct__law_take), sl__law_take⟩)
    (c__law_take : PySem.W.codeIn K cd__law_take "_law_take" = true)
    (k__law_take : PySem.W.keepIn K (.ref f__law_take) = true)
    (a__law_cards : PySem.W.nsIn K mainGlobals "_law_cards" = some (some (.ref f__law_cards)))
    (l__law_cards : K.lookup f__law_cards = some ⟨oc__law_cards, od__law_cards, .func (PySem.W.fnOf "_law_cards" "_law_cards" (defArgs s__law_cards) (defBody s__law_cards) (defScope s__law_cards) .none kV__law_cards dc__law_cards pm__law_cards an__law_cards cd__law_cards ct__law_cards), sl__law_cards⟩)
    (c__law_cards : PySem.W.codeIn K cd__law_cards "_law_cards" = true)
    (k__law_cards : PySem.W.keepIn K (.ref f__law_cards) = true)
    (a__law_digits : PySem.W.nsIn K mainGlobals "_law_digits" = some (some (.ref f__law_digits)))
    (l__law_digits : K.lookup f__law_digits = some ⟨oc__law_digits, od__law_digits, .func (PySem.W.fnOf "_law_digits" "_law_digits" (defArgs s__law_digits) (defBody s__law_digits) (defScope s__law_digits) .none kV__law_digits dc__law_digits pm__law_digits an__law_digits cd__law_digits ct__law_digits), sl__law_digits⟩)
    (c__law_digits : PySem.W.codeIn K cd__law_digits "_law_digits" = true)
    (k__law_digits : PySem.W.keepIn K (.ref f__law_digits) = true)
    (a_Arrangement_row : PySem.W.findIn K (.ref C_Arrangement) "row" = some (some (.ref r_Arrangement_row)))
    (b_Arrangement_row : PySem.W.specialIn K (.ref r_Arrangement_row) "__get__" = some (some (.builtin "property.__get__")))
    (d_Arrangement_row : PySem.W.takesIn K (.ref r_Arrangement_row) = some true)
    (e_Arrangement_row : PySem.W.recIn K r_Arrangement_row "property" = some (.ref f_Arrangement_row :: re_Arrangement_row))
    (l_Arrangement_row : K.lookup f_Arrangement_row = some ⟨oc_Arrangement_row, od_Arrangement_row, .func (PySem.W.fnOf "row" "Arrangement.row" (defArgs s_Arrangement_row) (defBody s_Arrangement_row) (defScope s_Arrangement_row) .none kV_Arrangement_row dc_Arrangement_row pm_Arrangement_row an_Arrangement_row cd_Arrangement_row ct_Arrangement_row), sl_Arrangement_row⟩)
    (c_Arrangement_row : PySem.W.codeIn K cd_Arrangement_row "Arrangement.row" = true)
    (k_Arrangement_row : PySem.W.keepIn K (.ref f_Arrangement_row) = true)
    (a_code : PySem.W.nsIn K mainGlobals "code" = some (some (.ref f_code)))
    (l_code : K.lookup f_code = some ⟨oc_code, od_code, .func (PySem.W.fnOf "code" "code" (defArgs s_code) (defBody s_code) (defScope s_code) .none kV_code dc_code pm_code an_code cd_code ct_code), sl_code⟩)
    (c_code : PySem.W.codeIn K cd_code "code" = true)
    (k_code : PySem.W.keepIn K (.ref f_code) = true)
    (a_is_integer : PySem.W.nsIn K mainGlobals "is_integer" = some (some (.ref f_is_integer)))
    (l_is_integer : K.lookup f_is_integer = some ⟨oc_is_integer, od_is_integer, .func (PySem.W.fnOf "is_integer" "is_integer" (defArgs s_is_integer) (defBody s_is_integer) (defScope s_is_integer) .none kV_is_integer dc_is_integer pm_is_integer an_is_integer cd_is_integer ct_is_integer), sl_is_integer⟩)
    (c_is_integer : PySem.W.codeIn K cd_is_integer "is_integer" = true)
    (k_is_integer : PySem.W.keepIn K (.ref f_is_integer) = true)
    (a_Arrangement_is_row : PySem.W.findCls K (.ref C_Arrangement) (.type "type") "is_row" = some (.get (.builtin "staticmethod.__get__") (.ref r_Arrangement_is_row) .none (.ref C_Arrangement)))
    (e_Arrangement_is_row : PySem.W.recIn K r_Arrangement_is_row "staticmethod" = some (.ref f_Arrangement_is_row :: re_Arrangement_is_row))
    (l_Arrangement_is_row : K.lookup f_Arrangement_is_row = some ⟨oc_Arrangement_is_row, od_Arrangement_is_row, .func (PySem.W.fnOf "is_row" "Arrangement.is_row" (defArgs s_Arrangement_is_row) (defBody s_Arrangement_is_row) (defScope s_Arrangement_is_row) .none kV_Arrangement_is_row dc_Arrangement_is_row pm_Arrangement_is_row an_Arrangement_is_row cd_Arrangement_is_row ct_Arrangement_is_row), sl_Arrangement_is_row⟩)
    (c_Arrangement_is_row : PySem.W.codeIn K cd_Arrangement_is_row "Arrangement.is_row" = true)
    (k_Arrangement_is_row : PySem.W.keepIn K (.ref f_Arrangement_is_row) = true)
    (a_Arrangement___init__ : PySem.W.findIn K (.ref C_Arrangement) "__init__" = some (some (.ref f_Arrangement___init__)))
    (i_Arrangement___init__ : PySem.W.isFn K (.ref f_Arrangement___init__) = true)
    (l_Arrangement___init__ : K.lookup f_Arrangement___init__ = some ⟨oc_Arrangement___init__, od_Arrangement___init__, .func (PySem.W.fnOf "__init__" "Arrangement.__init__" (defArgs s_Arrangement___init__) (defBody s_Arrangement___init__) (defScope s_Arrangement___init__) .none kV_Arrangement___init__ dc_Arrangement___init__ pm_Arrangement___init__ an_Arrangement___init__ cd_Arrangement___init__ ct_Arrangement___init__), sl_Arrangement___init__⟩)
    (c_Arrangement___init__ : PySem.W.codeIn K cd_Arrangement___init__ "Arrangement.__init__" = true)
    (k_Arrangement___init__ : PySem.W.keepIn K (.ref f_Arrangement___init__) = true)
    (a_is_between : PySem.W.nsIn K mainGlobals "is_between" = some (some (.ref f_is_between)))
    (l_is_between : K.lookup f_is_between = some ⟨oc_is_between, od_is_between, .func (PySem.W.fnOf "is_between" "is_between" (defArgs s_is_between) (defBody s_is_between) (defScope s_is_between) .none kV_is_between dc_is_between pm_is_between an_is_between cd_is_between ct_is_between), sl_is_between⟩)
    (c_is_between : PySem.W.codeIn K cd_is_between "is_between" = true)
    (k_is_between : PySem.W.keepIn K (.ref f_is_between) = true)
    (a_is_code : PySem.W.nsIn K mainGlobals "is_code" = some (some (.ref f_is_code)))
    (l_is_code : K.lookup f_is_code = some ⟨oc_is_code, od_is_code, .func (PySem.W.fnOf "is_code" "is_code" (defArgs s_is_code) (defBody s_is_code) (defScope s_is_code) .none kV_is_code dc_is_code pm_is_code an_is_code cd_is_code ct_is_code), sl_is_code⟩)
    (c_is_code : PySem.W.codeIn K cd_is_code "is_code" = true)
    (k_is_code : PySem.W.keepIn K (.ref f_is_code) = true)
    (l_InvalidCode___init__ : K.lookup f_InvalidCode___init__ = some ⟨oc_InvalidCode___init__, od_InvalidCode___init__, .func (PySem.W.fnOf "__init__" "InvalidCode.__init__" (defArgs s_InvalidCode___init__) (defBody s_InvalidCode___init__) (defScope s_InvalidCode___init__) .none kV_InvalidCode___init__ dc_InvalidCode___init__ pm_InvalidCode___init__ an_InvalidCode___init__ cd_InvalidCode___init__ ct_InvalidCode___init__), sl_InvalidCode___init__⟩)
    (c_InvalidCode___init__ : PySem.W.codeIn K cd_InvalidCode___init__ "InvalidCode.__init__" = true)
    (k_InvalidCode___init__ : PySem.W.keepIn K (.ref f_InvalidCode___init__) = true)
    (a_decoded : PySem.W.nsIn K mainGlobals "decoded" = some (some (.ref f_decoded)))
    (l_decoded : K.lookup f_decoded = some ⟨oc_decoded, od_decoded, .func (PySem.W.fnOf "decoded" "decoded" (defArgs s_decoded) (defBody s_decoded) (defScope s_decoded) .none kV_decoded dc_decoded pm_decoded an_decoded cd_decoded ct_decoded), sl_decoded⟩)
    (c_decoded : PySem.W.codeIn K cd_decoded "decoded" = true)
    (k_decoded : PySem.W.keepIn K (.ref f_decoded) = true)
    (a_from_code : PySem.W.nsIn K mainGlobals "from_code" = some (some (.ref f_from_code)))
    (l_from_code : K.lookup f_from_code = some ⟨oc_from_code, od_from_code, .func (PySem.W.fnOf "from_code" "from_code" (defArgs s_from_code) (defBody s_from_code) (defScope s_from_code) .none kV_from_code dc_from_code pm_from_code an_from_code cd_from_code ct_from_code), sl_from_code⟩)
    (c_from_code : PySem.W.codeIn K cd_from_code "from_code" = true)
    (k_from_code : PySem.W.keepIn K (.ref f_from_code) = true)
    (a__law_told : PySem.W.nsIn K mainGlobals "_law_told" = some (some (.ref f__law_told)))
    (l__law_told : K.lookup f__law_told = some ⟨oc__law_told, od__law_told, .func (PySem.W.fnOf "_law_told" "_law_told" (defArgs s__law_told) (defBody s__law_told) (defScope s__law_told) .none kV__law_told dc__law_told pm__law_told an__law_told cd__law_told ct__law_told), sl__law_told⟩)
    (c__law_told : PySem.W.codeIn K cd__law_told "_law_told" = true)
    (k__law_told : PySem.W.keepIn K (.ref f__law_told) = true)
    (a__law_check : PySem.W.nsIn K mainGlobals "_law_check" = some (some (.ref f__law_check)))
    (l__law_check : K.lookup f__law_check = some ⟨oc__law_check, od__law_check, .func (PySem.W.fnOf "_law_check" "_law_check" (defArgs s__law_check) (defBody s__law_check) (defScope s__law_check) .none kV__law_check dc__law_check pm__law_check an__law_check cd__law_check ct__law_check), sl__law_check⟩)
    (c__law_check : PySem.W.codeIn K cd__law_check "_law_check" = true)
    (k__law_check : PySem.W.keepIn K (.ref f__law_check) = true)
    (a_Arrangement___len__ : PySem.W.findIn K (.ref C_Arrangement) "__len__" = some (some (.ref f_Arrangement___len__)))
    (i_Arrangement___len__ : PySem.W.isFn K (.ref f_Arrangement___len__) = true)
    (l_Arrangement___len__ : K.lookup f_Arrangement___len__ = some ⟨oc_Arrangement___len__, od_Arrangement___len__, .func (PySem.W.fnOf "__len__" "Arrangement.__len__" (defArgs s_Arrangement___len__) (defBody s_Arrangement___len__) (defScope s_Arrangement___len__) .none kV_Arrangement___len__ dc_Arrangement___len__ pm_Arrangement___len__ an_Arrangement___len__ cd_Arrangement___len__ ct_Arrangement___len__), sl_Arrangement___len__⟩)
    (c_Arrangement___len__ : PySem.W.codeIn K cd_Arrangement___len__ "Arrangement.__len__" = true)
    (k_Arrangement___len__ : PySem.W.keepIn K (.ref f_Arrangement___len__) = true)
    (a__law_kept_right : PySem.W.nsIn K mainGlobals "_law_kept_right" = some (some (.ref f__law_kept_right)))
    (l__law_kept_right : K.lookup f__law_kept_right = some ⟨oc__law_kept_right, od__law_kept_right, .func (PySem.W.fnOf "_law_kept_right" "_law_kept_right" (defArgs s__law_kept_right) (defBody s__law_kept_right) (defScope s__law_kept_right) .none kV__law_kept_right dc__law_kept_right pm__law_kept_right an__law_kept_right cd__law_kept_right ct__law_kept_right), sl__law_kept_right⟩)
    (c__law_kept_right : PySem.W.codeIn K cd__law_kept_right "_law_kept_right" = true)
    (k__law_kept_right : PySem.W.keepIn K (.ref f__law_kept_right) = true)
    (a_law : PySem.W.nsIn K mainGlobals "law" = some (some (.ref f_law)))
    (l_law : K.lookup f_law = some ⟨oc_law, od_law, .func (PySem.W.fnOf "law" "law" (defArgs s_law) (defBody s_law) (defScope s_law) .none kV_law dc_law pm_law an_law cd_law ct_law), sl_law⟩)
    (c_law : PySem.W.codeIn K cd_law "law" = true)
    (k_law : PySem.W.keepIn K (.ref f_law) = true)
    (v_MOST_CARDS : PySem.W.nsIn K mainGlobals "MOST_CARDS" = some (some (.int 2000 tk_MOST_CARDS)))
    (z_abs : PySem.W.nsIn K mainGlobals "abs" = some none)
    (z_all : PySem.W.nsIn K mainGlobals "all" = some none)
    (z_any : PySem.W.nsIn K mainGlobals "any" = some none)
    (z_bool : PySem.W.nsIn K mainGlobals "bool" = some none)
    (z_dict : PySem.W.nsIn K mainGlobals "dict" = some none)
    (z_enumerate : PySem.W.nsIn K mainGlobals "enumerate" = some none)
    (z_int : PySem.W.nsIn K mainGlobals "int" = some none)
    (z_isinstance : PySem.W.nsIn K mainGlobals "isinstance" = some none)
    (z_iter : PySem.W.nsIn K mainGlobals "iter" = some none)
    (z_len : PySem.W.nsIn K mainGlobals "len" = some none)
    (z_list : PySem.W.nsIn K mainGlobals "list" = some none)
    (z_max : PySem.W.nsIn K mainGlobals "max" = some none)
    (z_min : PySem.W.nsIn K mainGlobals "min" = some none)
    (z_next : PySem.W.nsIn K mainGlobals "next" = some none)
    (z_range : PySem.W.nsIn K mainGlobals "range" = some none)
    (z_repr : PySem.W.nsIn K mainGlobals "repr" = some none)
    (z_reversed : PySem.W.nsIn K mainGlobals "reversed" = some none)
    (z_set : PySem.W.nsIn K mainGlobals "set" = some none)
    (z_sorted : PySem.W.nsIn K mainGlobals "sorted" = some none)
    (z_str : PySem.W.nsIn K mainGlobals "str" = some none)
    (z_sum : PySem.W.nsIn K mainGlobals "sum" = some none)
    (z_tuple : PySem.W.nsIn K mainGlobals "tuple" = some none)
    (z_zip : PySem.W.nsIn K mainGlobals "zip" = some none)
    : ∃ fd : FuncData, (∀ (s : Shared) (v : Value), BindsTo s fd ⟨[v], []⟩ [("_law_script", v)]) ∧ ∃ a : Ad, ∀ base : Heap, K.In base → base.Ns mainGlobals mg → FnG l.prog w K mg base (L2.CX l.prog w) 9 f0 fd ["_law_script"] (sp_law K a) := by
  have e := (PySem.W.mg_of X G a_law).symm.trans hfa
  have e2 : f_law = f0 := Value.ref.inj (Option.some.inj e)
  subst e2
  let a : Ad := ⟨C_Arrangement, 0, 0, 0, C_CardError, C_InvalidRow, 0, 0, 0, 0, C_InvalidCode, 0, 0, 0, 0, 0, 0, 0⟩
  let fa : Fa := ⟨f__law_pool, f__law_take, f__law_cards, f__law_digits, f_Arrangement_row, f_code, f_is_integer, f_Arrangement_is_row, f_Arrangement___init__, f_is_between, f_is_code, f_InvalidCode___init__, f_decoded, f_from_code, f__law_told, f__law_check, f_Arrangement___len__, f__law_kept_right, f_law, r_Arrangement_row, r_Arrangement_is_row, tk_MOST_CARDS⟩
  have cl_Arrangement : Cls K C_Arrangement := ⟨pg_Arrangement, hd_Arrangement, po_Arrangement, sa_Arrangement⟩
  have T : Txt K mg a fa := ⟨⟨_, fun_mk (st := s__law_pool) l__law_pool c__law_pool k__law_pool⟩, PySem.W.mg_of X G a__law_pool, k__law_pool, ⟨_, fun_mk (st := s__law_take) l__law_take c__law_take k__law_take⟩, PySem.W.mg_of X G a__law_take, k__law_take, ⟨_, fun_mk (st := s__law_cards) l__law_cards c__law_cards k__law_cards⟩, PySem.W.mg_of X G a__law_cards, k__law_cards, ⟨_, fun_mk (st := s__law_digits) l__law_digits c__law_digits k__law_digits⟩, PySem.W.mg_of X G a__law_digits, k__law_digits, ⟨_, fun_mk (st := s_Arrangement_row) l_Arrangement_row c_Arrangement_row k_Arrangement_row⟩, ⟨a_Arrangement_row, b_Arrangement_row, d_Arrangement_row, ⟨_, e_Arrangement_row⟩⟩, ⟨_, fun_mk (st := s_code) l_code c_code k_code⟩, PySem.W.mg_of X G a_code, k_code, ⟨_, fun_mk (st := s_is_integer) l_is_integer c_is_integer k_is_integer⟩, PySem.W.mg_of X G a_is_integer, k_is_integer, ⟨_, fun_mk (st := s_Arrangement_is_row) l_Arrangement_is_row c_Arrangement_is_row k_Arrangement_is_row⟩, ⟨a_Arrangement_is_row, ⟨_, e_Arrangement_is_row⟩, k_Arrangement_is_row⟩, ⟨_, fun_mk (st := s_Arrangement___init__) l_Arrangement___init__ c_Arrangement___init__ k_Arrangement___init__⟩, ⟨mk_Arrangement, a_Arrangement___init__, i_Arrangement___init__, kc_Arrangement⟩, ⟨_, fun_mk (st := s_is_between) l_is_between c_is_between k_is_between⟩, PySem.W.mg_of X G a_is_between, k_is_between, ⟨_, fun_mk (st := s_is_code) l_is_code c_is_code k_is_code⟩, PySem.W.mg_of X G a_is_code, k_is_code, ⟨_, fun_mk (st := s_InvalidCode___init__) l_InvalidCode___init__ c_InvalidCode___init__ k_InvalidCode___init__⟩, ⟨_, fun_mk (st := s_decoded) l_decoded c_decoded k_decoded⟩, PySem.W.mg_of X G a_decoded, k_decoded, ⟨_, fun_mk (st := s_from_code) l_from_code c_from_code k_from_code⟩, PySem.W.mg_of X G a_from_code, k_from_code, ⟨_, fun_mk (st := s__law_told) l__law_told c__law_told k__law_told⟩, PySem.W.mg_of X G a__law_told, k__law_told, ⟨_, fun_mk (st := s__law_check) l__law_check c__law_check k__law_check⟩, PySem.W.mg_of X G a__law_check, k__law_check, ⟨_, fun_mk (st := s_Arrangement___len__) l_Arrangement___len__ c_Arrangement___len__ k_Arrangement___len__⟩, a_Arrangement___len__, i_Arrangement___len__, ⟨_, fun_mk (st := s__law_kept_right) l__law_kept_right c__law_kept_right k__law_kept_right⟩, PySem.W.mg_of X G a__law_kept_right, k__law_kept_right, ⟨_, fun_mk (st := s_law) l_law c_law k_law⟩, PySem.W.mg_of X G a_law, k_law, PySem.W.mg_of X G aC_Arrangement, cl_Arrangement, ⟨rd_Arrangement, ga_Arrangement⟩, no_Arrangement_cards, PySem.W.mg_of X G v_MOST_CARDS, PySem.W.mg_of X G aC_CardError, PySem.W.mg_of X G aC_InvalidCode, PySem.W.mg_of X G aC_InvalidRow, ⟨rd_CardError, gm_CardError⟩, vi_CardError, ⟨⟨_, _, _, _, _, _, _, _, _, _, _, _, _, _, _, xL_InvalidCode, by rfl⟩, sa_InvalidCode, eC_InvalidCode, tC_InvalidCode, kC_InvalidCode⟩, ic_InvalidCode, it_InvalidCode, nv_InvalidCode, ⟨xga_InvalidCode, xgg_InvalidCode, eC_InvalidCode, xhd_InvalidCode⟩, ⟨xga_InvalidCode, xgg_InvalidCode, eC_InvalidCode, xhd_InvalidCode, xha_InvalidCode, hn_, ht_, xhm_InvalidCode⟩, ex_InvalidCode_InvalidCode, ki_InvalidCode_CardError, ki_InvalidCode_InvalidRow⟩
  have n : Nm mg := ⟨PySem.W.mg_none_of X G z_abs, PySem.W.mg_none_of X G z_all, PySem.W.mg_none_of X G z_any, PySem.W.mg_none_of X G z_bool, PySem.W.mg_none_of X G z_dict, PySem.W.mg_none_of X G z_enumerate, PySem.W.mg_none_of X G z_int, PySem.W.mg_none_of X G z_isinstance, PySem.W.mg_none_of X G z_iter, PySem.W.mg_none_of X G z_len, PySem.W.mg_none_of X G z_list, PySem.W.mg_none_of X G z_max, PySem.W.mg_none_of X G z_min, PySem.W.mg_none_of X G z_next, PySem.W.mg_none_of X G z_range, PySem.W.mg_none_of X G z_repr, PySem.W.mg_none_of X G z_reversed, PySem.W.mg_none_of X G z_set, PySem.W.mg_none_of X G z_sorted, PySem.W.mg_none_of X G z_str, PySem.W.mg_none_of X G z_sum, PySem.W.mg_none_of X G z_tuple, PySem.W.mg_none_of X G z_zip⟩
  refine ⟨PySem.W.fnOf "law" "law" (defArgs s_law) (defBody s_law) (defScope s_law) .none kV_law dc_law pm_law an_law cd_law ct_law, fun s v => .of_eq rfl, a, fun base _ _ => ?_⟩
  have G__law_pool : FnE l.prog w K mg base CX0 1 fa._law_pool ["_law_script", "_law_k"] (sp__law_pool K a) := ok__law_pool T n 
  have G__law_take : FnE l.prog w K mg base CX0 1 fa._law_take ["_law_pool_here", "_law_count"] (sp__law_take K a) := ok__law_take T n 
  have G__law_cards : FnE l.prog w K mg base CX0 2 fa._law_cards ["_law_pool_here", "_law_many"] (sp__law_cards K a) := ok__law_cards T n G__law_take
  have G__law_digits : FnE l.prog w K mg base CX0 1 fa._law_digits ["_law_cards_here"] (sp__law_digits K a) := ok__law_digits T n 
  have G_Arrangement_row : FnE l.prog w K mg base CX0 1 fa.Arrangement_row ["self"] (sp_Arrangement_row K a) := ok_Arrangement_row T n 
  have G_code : FnE l.prog w K mg base CX0 3 fa.code ["a"] (sp_code K a) := ok_code T n G_Arrangement_row
  have G_is_integer : FnE l.prog w K mg base CX0 1 fa.is_integer ["value"] (sp_is_integer K a) := ok_is_integer T n 
  have G_Arrangement_is_row : FnE l.prog w K mg base CX0 2 fa.Arrangement_is_row ["value"] (sp_Arrangement_is_row K a) := ok_Arrangement_is_row T n G_is_integer
  have G_Arrangement___init__ : FnE l.prog w K mg base CX0 3 fa.Arrangement___init__ ["self", "row"] (sp_Arrangement___init__ K a) := ok_Arrangement___init__ T n G_Arrangement_is_row
  have G_is_between : FnE l.prog w K mg base CX0 2 fa.is_between ["value", "low", "high"] (sp_is_between K a) := ok_is_between T n G_is_integer
  have G_is_code : FnE l.prog w K mg base CX0 3 fa.is_code ["value"] (sp_is_code K a) := ok_is_code T n G_is_between
  have G_InvalidCode___init__ : FnE l.prog w K mg base CX0 1 fa.InvalidCode___init__ ["self", "value"] (sp_Er K a.InvalidCode "value") := ok_InvalidCode___init__ T n 
  have G_decoded : FnE l.prog w K mg base CX0 5 fa.decoded ["digits"] (sp_decoded K a) := ok_decoded T n G_Arrangement___init__
  have G_from_code : FnE l.prog w K mg base (L2.CX l.prog w) 6 fa.from_code ["code"] (sp_from_code K a) := ok_from_code T n G_is_code G_InvalidCode___init__ G_decoded
  have G__law_told : FnGE l.prog w K mg base (L2.CX l.prog w) 7 fa._law_told ["_law_value"] (sp__law_told K a) := ok__law_told T n G_from_code G_Arrangement_row
  have G__law_check : FnGE l.prog w K mg base (L2.CX l.prog w) 8 fa._law_check ["_law_cards_here"] (sp__law_check K a) := ok__law_check T n G__law_digits G_code G_Arrangement___init__ G_from_code G_Arrangement_row G__law_told
  have G_Arrangement___len__ : FnE l.prog w K mg base CX0 1 fa.Arrangement___len__ ["self"] (sp_Arrangement___len__ K a) := ok_Arrangement___len__ T n 
  have G__law_kept_right : FnE l.prog w K mg base (L2.CX l.prog w) 7 fa._law_kept_right [] (sp__law_kept_right K a) := ok__law_kept_right T n G_from_code
  have hl := fun_mk (st := s_law) l_law c_law k_law
  have F := law_ok (P := l.prog) (w := w) (base := base) T n hl G__law_pool G__law_cards G__law_take G__law_check G_code G_from_code G__law_told G_Arrangement___len__ G__law_kept_right
  exact F
theorem walk {l : PySem.W.OpenLaw} {q : Program} {loose : List Str} {XP : (Str → Option Value) → Heap → Prop} {YP : World → Heap → Prop} {d : DefRec} {K : Params → PySem.W.Frag} (hn : l.most = some 63) (hdf : d.params.defaults = [])
    (hY : ∀ (w : World) (h : Heap), YP w h → (K w.params).In h)
    (F : ∀ (w : World) (mg : Str → Option Value) (fa : Addr) (h : Heap), (K w.params).In h → h.Ns mainGlobals mg → mg d.name = some (.ref fa) →
      ∃ fd : FuncData, (∀ (s : Shared) (u : Value), BindsTo s fd ⟨[u], []⟩ [("_law_script", u)]) ∧ ∃ a : Ad, ∀ base : Heap, (K w.params).In base → base.Ns mainGlobals mg → FnG l.prog w (K w.params) mg base (L2.CX l.prog w) 9 fa fd ["_law_script"] (sp_law (K w.params) a)) :
    PySem.W.WalkO q loose XP YP l.row.toRowW d [] (fun f vs => PySem.call f vs) :=
  walk_ofG (n := 63) (k := 9) (x := "_law_script") (CX := fun w => L2.CX l.prog w) (sp := fun w => sp_lawX (K w.params)) hn (by decide) hdf ⟨rfl, by decide, by decide⟩ hY
    (fun w mg fa h KX G hm => by
      obtain ⟨fd, b, a, f⟩ := F w mg fa h KX G hm
      exact ⟨fd, b, fun base h1 h2 => (f base h1 h2).imp fun vs H Q E z => z a⟩) (fun _ _ a ns hl hb hS _ => ⟨rfl, a, ns, rfl, hS, hl, fun _ => rfl⟩) fun _ _ _ _ _ z => by
      obtain ⟨_, _, _, _, _, _, _, _, _, _, _, _, z⟩ := z
      exact z.elim
end TCG
open PySem PySem.W PyProof.Rows
set_option maxRecDepth 100000 in
set_option maxHeartbeats 0 in
theorem PySem.Challenge.cw_turnedcards_k30_codes_of_arrangements_holds : PySem.Challenge.rw_turnedcards_k30_codes_of_arrangements.Holds := by
  w_on; o_law; k_head; (case hw => w_witness2)
  k_fill
  refine TCG.walk (l := PySem.Challenge.rw_turnedcards_k30_codes_of_arrangements) rfl rfl (fun w h Y => PySem.W.kIn_of Y) ?F
  case F =>
    intro w mg fa h KX G hmg
    refine' TCG.all_mk KX G hmg ?aC_Arrangement ?pg_Arrangement ?hd_Arrangement ?po_Arrangement ?sa_Arrangement ?mk_Arrangement ?kc_Arrangement ?rd_Arrangement ?ga_Arrangement ?no_Arrangement_cards ?aC_CardError ?aC_InvalidCode ?aC_InvalidRow ?rd_CardError ?gm_CardError ?vi_CardError ?xL_InvalidCode ?sa_InvalidCode ?eC_InvalidCode ?tC_InvalidCode ?kC_InvalidCode ?ic_InvalidCode ?it_InvalidCode ?nv_InvalidCode ?hn_ ?ht_ ?xga_InvalidCode ?xgg_InvalidCode ?xhd_InvalidCode ?xha_InvalidCode ?xhm_InvalidCode ?ex_InvalidCode_InvalidCode ?ki_InvalidCode_CardError ?ki_InvalidCode_InvalidRow ?a__law_pool ?l__law_pool ?c__law_pool ?k__law_pool ?a__law_take ?l__law_take ?c__law_take ?k__law_take ?a__law_cards ?l__law_cards ?c__law_cards ?k__law_cards ?a__law_digits ?l__law_digits ?c__law_digits ?k__law_digits ?a_Arrangement_row ?b_Arrangement_row ?d_Arrangement_row ?e_Arrangement_row ?l_Arrangement_row ?c_Arrangement_row ?k_Arrangement_row ?a_code ?l_code ?c_code ?k_code ?a_is_integer ?l_is_integer ?c_is_integer ?k_is_integer ?a_Arrangement_is_row ?e_Arrangement_is_row ?l_Arrangement_is_row ?c_Arrangement_is_row ?k_Arrangement_is_row ?a_Arrangement___init__ ?i_Arrangement___init__ ?l_Arrangement___init__ ?c_Arrangement___init__ ?k_Arrangement___init__ ?a_is_between ?l_is_between ?c_is_between ?k_is_between ?a_is_code ?l_is_code ?c_is_code ?k_is_code ?l_InvalidCode___init__ ?c_InvalidCode___init__ ?k_InvalidCode___init__ ?a_decoded ?l_decoded ?c_decoded ?k_decoded ?a_from_code ?l_from_code ?c_from_code ?k_from_code ?a__law_told ?l__law_told ?c__law_told ?k__law_told ?a__law_check ?l__law_check ?c__law_check ?k__law_check ?a_Arrangement___len__ ?i_Arrangement___len__ ?l_Arrangement___len__ ?c_Arrangement___len__ ?k_Arrangement___len__ ?a__law_kept_right ?l__law_kept_right ?c__law_kept_right ?k__law_kept_right ?a_law ?l_law ?c_law ?k_law ?v_MOST_CARDS ?z_abs ?z_all ?z_any ?z_bool ?z_dict ?z_enumerate ?z_int ?z_isinstance ?z_iter ?z_len ?z_list ?z_max ?z_min ?z_next ?z_range ?z_repr ?z_reversed ?z_set ?z_sorted ?z_str ?z_sum ?z_tuple ?z_zip
    (case aC_Arrangement => k_is)
    (case pg_Arrangement => k_is)
    (case hd_Arrangement => k_is)
    (case po_Arrangement => k_is)
    (case sa_Arrangement => k_is)
    (case mk_Arrangement => k_is)
    (case kc_Arrangement => k_is)
    (case rd_Arrangement => k_is)
    (case ga_Arrangement => k_is)
    (case no_Arrangement_cards => k_is)
    (case aC_CardError => k_is)
    (case aC_InvalidCode => k_is)
    (case aC_InvalidRow => k_is)
    (case rd_CardError => k_is)
    (case gm_CardError => k_is)
    (case vi_CardError => k_is)
    (case xL_InvalidCode => k_is)
    (case sa_InvalidCode => k_is)
    (case eC_InvalidCode => k_is)
    (case tC_InvalidCode => k_is)
    (case kC_InvalidCode => k_is)
    (case ic_InvalidCode => k_is)
    (case it_InvalidCode => k_is)
    (case nv_InvalidCode => k_is)
    (case hn_ => k_is)
    (case ht_ => k_is)
    (case xga_InvalidCode => k_is)
    (case xgg_InvalidCode => k_is)
    (case xhd_InvalidCode => k_is)
    (case xha_InvalidCode => k_is)
    (case xhm_InvalidCode => k_is)
    (case ex_InvalidCode_InvalidCode => first | rfl | k_is)
    (case ki_InvalidCode_CardError => first | rfl | k_is)
    (case ki_InvalidCode_InvalidRow => first | rfl | k_is)
    (case a__law_pool => k_is)
    (case l__law_pool => k_is)
    (case c__law_pool => k_is)
    (case k__law_pool => k_is)
    (case a__law_take => k_is)
    (case l__law_take => k_is)
    (case c__law_take => k_is)
    (case k__law_take => k_is)
    (case a__law_cards => k_is)
    (case l__law_cards => k_is)
    (case c__law_cards => k_is)
    (case k__law_cards => k_is)
    (case a__law_digits => k_is)
    (case l__law_digits => k_is)
    (case c__law_digits => k_is)
    (case k__law_digits => k_is)
    (case a_Arrangement_row => k_is)
    (case b_Arrangement_row => k_is)
    (case d_Arrangement_row => k_is)
    (case e_Arrangement_row => k_is)
    (case l_Arrangement_row => k_is)
    (case c_Arrangement_row => k_is)
    (case k_Arrangement_row => k_is)
    (case a_code => k_is)
    (case l_code => k_is)
    (case c_code => k_is)
    (case k_code => k_is)
    (case a_is_integer => k_is)
    (case l_is_integer => k_is)
    (case c_is_integer => k_is)
    (case k_is_integer => k_is)
    (case a_Arrangement_is_row => k_is)
    (case e_Arrangement_is_row => k_is)
    (case l_Arrangement_is_row => k_is)
    (case c_Arrangement_is_row => k_is)
    (case k_Arrangement_is_row => k_is)
    (case a_Arrangement___init__ => k_is)
    (case i_Arrangement___init__ => k_is)
    (case l_Arrangement___init__ => k_is)
    (case c_Arrangement___init__ => k_is)
    (case k_Arrangement___init__ => k_is)
    (case a_is_between => k_is)
    (case l_is_between => k_is)
    (case c_is_between => k_is)
    (case k_is_between => k_is)
    (case a_is_code => k_is)
    (case l_is_code => k_is)
    (case c_is_code => k_is)
    (case k_is_code => k_is)
    (case l_InvalidCode___init__ => k_is)
    (case c_InvalidCode___init__ => k_is)
    (case k_InvalidCode___init__ => k_is)
    (case a_decoded => k_is)
    (case l_decoded => k_is)
    (case c_decoded => k_is)
    (case k_decoded => k_is)
    (case a_from_code => k_is)
    (case l_from_code => k_is)
    (case c_from_code => k_is)
    (case k_from_code => k_is)
    (case a__law_told => k_is)
    (case l__law_told => k_is)
    (case c__law_told => k_is)
    (case k__law_told => k_is)
    (case a__law_check => k_is)
    (case l__law_check => k_is)
    (case c__law_check => k_is)
    (case k__law_check => k_is)
    (case a_Arrangement___len__ => k_is)
    (case i_Arrangement___len__ => k_is)
    (case l_Arrangement___len__ => k_is)
    (case c_Arrangement___len__ => k_is)
    (case k_Arrangement___len__ => k_is)
    (case a__law_kept_right => k_is)
    (case l__law_kept_right => k_is)
    (case c__law_kept_right => k_is)
    (case k__law_kept_right => k_is)
    (case a_law => k_is)
    (case l_law => k_is)
    (case c_law => k_is)
    (case k_law => k_is)
    (case v_MOST_CARDS => k_is)
    (case z_abs => k_is)
    (case z_all => k_is)
    (case z_any => k_is)
    (case z_bool => k_is)
    (case z_dict => k_is)
    (case z_enumerate => k_is)
    (case z_int => k_is)
    (case z_isinstance => k_is)
    (case z_iter => k_is)
    (case z_len => k_is)
    (case z_list => k_is)
    (case z_max => k_is)
    (case z_min => k_is)
    (case z_next => k_is)
    (case z_range => k_is)
    (case z_repr => k_is)
    (case z_reversed => k_is)
    (case z_set => k_is)
    (case z_sorted => k_is)
    (case z_str => k_is)
    (case z_sum => k_is)
    (case z_tuple => k_is)
    (case z_zip => k_is)
