import PyProof.Rows.All
import Wide.All
import OpenK.AllK
import Wide.FinOn
import KE.KWithOwn
import HandS.ForMost
import HandS.More
import HandS.Star
import HandS.Codes
import KE.KOpsOwn
import KE.GoesEnum
import KE.GoesMore
import HandS.Zip
import HandS.TupMul
import HandS.ClsMeth
import HandS.ExcInit
import HandS.TryOnly
import HandS.WordsExc
import HandS.FStr
import HandS.StrMore
import HandS.Wide
import HandS.WideBits
import HandS.Style
import HandS.TupAny
import HandS.IsInst
import HandS.Property
import HandS.Defaults
import HandS.Conv
import HandS.Rev
import HandS.HeadHook4
import PySem.Challenge.RW_everyring_k74_whole_consoles_boards_and
import HandS.Head0
import HandS.Head1
import HandS.Head2
import HandS.HeadEnd
import KE.KStateDown
import HandS.Walk
section
set_option Elab.async false
set_option linter.all false
set_option maxRecDepth 100000
set_option maxHeartbeats 4000000
namespace L2
open PySem PySem.Spec PyProof.Rows
section
variable {X : Cx}

/-- a statement, an expression that is never reached -/
theorem ps_dead {st : Stmt} : PS X st (fun _ _ _ => False) := ⟨fun _ _ _ _ _ _ h => h.elim⟩
theorem pss_dead {st : List Stmt} : PSs X st (fun _ _ _ => False) := ⟨fun _ _ _ _ _ _ h => h.elim⟩
theorem pe_dead {e : Expr} : PE X e (fun _ _ _ => False) := ⟨fun _ _ _ _ _ _ h => h.elim⟩

/-- o.m( *e), e a tuple or a list -/
def tMethSA (K : PySem.W.Frag) (C : Addr) (m : Str) (g : Addr) (sp : Sp) (E : XK) (ta te : TE) : TE := fun σ H Q => ta σ H fun x H1 => ∃ a dx fs, x = .ref a ∧ H1 a = some (.ins C dx fs) ∧ fs.lookup m = none ∧
  ∀ q, H1 q = none → te σ (upd H1 q (.met g a)) fun y H2 => ∃ b vs, y = .ref b ∧ (SqT K H2 b vs ∨ SqL K H2 b vs) ∧ H2 q = some (.met g a) ∧ sp (.ref a :: vs) H2 Q E
theorem pe_methSA {CX : CXT} {k : Nat} {C g : Addr} {m : Str} {sp : Sp} {E : XK} {o e : Expr} {ta te : TE} {p apos pos : Pos} (he : PE X o ta) (c : Cls X.K C) (b : BMeth X.K C m g) (F : FnR X.prog X.w X.K X.mg X.base CX k g sp) (hr : Room k X.A)
    (hx : Passes CX X E) (ha : PE X e te) (hbase : attributeBase o m X.env (eval o X.env) = eval o X.env := by rfl) : PE X (.Call (.Attribute o m apos) [.Starred e p] [] pos) (tMethSA X.K C m g sp E ta te) := by
  refine ⟨fun pins s σ H Q I h => ?_⟩
  refine starcall_of hbase (thn (he.run pins s σ H _ I h) fun u s1 ⟨x, H1, I1, rx, a, dx, fs, ex, ea, l, q⟩ => ?_)
  subst ex
  obtain rfl : u = Value.ref a := rx
  refine getbound_ok I1 ea c b l fun q1 s2 hq1 I2 => ?_
  refine PySem.W.ks_call (P := PySem.W.MethP X.K q1 g (.ref a)) rfl (PySem.W.keeps_M b.fi) (PySem.W.ks_lone ?_)
  refine thn (ha.run pins s2 σ _ _ I2 (q q1 hq1)) fun v s3 ⟨y, H2, I3, ry, t, vs, ey, ht, hm, hsp⟩ => ?_
  subst ey
  obtain rfl : v = Value.ref t := ry
  refine StX.star_any I3 ht fun us s4 I4 rv => ⟨met_P I4 hm, ?_⟩
  exact wpAny_call (PySem.W.method_call (met_P I4 hm).1 (run_fnR (us := Value.ref a :: us) (vs := V.ref a :: vs) F hr hx I4 (.cons rfl rv) hsp))

/-- with e as y: body (nothing is raised within): __enter__, the body, __exit__ at each of its ends -/
def tWith (C : Addr) (i : Nat) (spE spX : Sp) (te : TE) (tb : TS) : TS := fun D σ H => te σ H fun x H1 => ∃ a dx fs, x = .ref a ∧ H1 a = some (.ins C dx fs) ∧
  spE [.ref a] H1 (fun v H2 => tb
    { nx := fun σ3 H3 => spX [.ref a, .non, .non, .non] H3 (fun _ H4 => D.nx σ3 H4) E0
      rt := fun u H3 => spX [.ref a, .non, .non, .non] H3 (fun _ H4 => D.rt u H4) E0 } (σ.set i (some v)) H2) E0
theorem ps_with {ctx : Expr} {y : Str} {py pos : Pos} {body : List Stmt} {i k : Nat} {C fe fx : Addr} {fdE fdX : FuncData} {psE psX : List Str} {spE spX : Sp} {te : TE} {tb : TS} (hN : X.N.Nodup) (hi : X.N[i]? = some y) (hy : Loc X.env.scope y) (he : PE X ctx te)
    (mE : Meth X.K C "__enter__" fe) (mX : Meth X.K C "__exit__" fx) (c : Cls X.K C) (FE : FnOk X.prog X.w X.K X.mg X.base CX0 k fe fdE psE spE) (bE : Binds X.K fdE psE [])
    (FX : FnOk X.prog X.w X.K X.mg X.base CX0 k fx fdX psX spX) (bX : Binds X.K fdX psX []) (hr : Room k X.A) (hb : PSs X.nox body tb)
    (hf : X.fn y = true ∨ X.env.scope.names.lookup y = some .local := by first | exact .inl rfl | exact .inr rfl | assumption) :
    PS X (.With [⟨ctx, some (.Name y py)⟩] body pos) (tWith C i spE spX te tb) := by
  refine ⟨fun pins s σ H D I h => ?_⟩
  refine PySem.W.kw_execN (thn (he.run pins s σ H _ I h) fun u s1 ⟨x, H1, I1, rx, a, dx, fs, ex, ea, q⟩ => ?_)
  subst ex
  obtain rfl : u = Value.ref a := rx
  obtain ⟨mA, O, _, _, _, _⟩ := ins_get I1.hok ea
  obtain ⟨od, J, _⟩ := O.look
  unfold PySem.W.KwIn
  show wpAny _ _ (withItem false ctx.pos X.env (pure (.ref a)) (some (assign (.Name y py) X.env)) (execs body X.env)) _ _ _
  refine PySem.W.kw_core (b := assign (.Name y py) X.env) I1.kIn J mE.at_ mE.fn mX.at_ mX.fn ?_
  refine wpAny_mono (run_fn (us := [.ref a]) (vs := [.ref a]) FE hr bE .nil pass0 I1 (.cons rfl .nil) q) (fun v s2 ⟨z, H2, I2, rz, q2⟩ => ?_) fun _ _ z => z
  refine wpAny_assign_Name (store_ok I2 hN hi hy rz (fun s3 I3 => ?_) hf)
  refine wpAny_mono (hb.run pins s3 _ H2 _ (I3.wish _) q2) (fun f s4 h4 => ?_) fun _ _ z => z
  have h4 := h4.unwish
  cases f with
  | next =>
    obtain ⟨σ', H', I', q3⟩ := h4
    exact wpAny_mono (run_fn (us := [.ref a, .none, .none, .none]) (vs := [.ref a, .non, .non, .non]) FX hr bX .nil pass0 I' (.cons rfl (.cons rfl (.cons rfl (.cons rfl .nil)))) q3) (fun _ s5 ⟨z5, H5, I5, _, q5⟩ => ⟨σ', H5, I5, q5⟩) fun _ _ z => z
  | brk =>
    obtain ⟨σ', H', I', q3⟩ := h4
    exact q3.elim
  | cont =>
    obtain ⟨σ', H', I', q3⟩ := h4
    exact q3.elim
  | ret u2 =>
    obtain ⟨v2, σ', H', I', r2, q3⟩ := h4
    exact wpAny_mono (run_fn (us := [.ref a, .none, .none, .none]) (vs := [.ref a, .non, .non, .non]) FX hr bX .nil pass0 I' (.cons rfl (.cons rfl (.cons rfl (.cons rfl .nil)))) q3) (fun _ s5 ⟨z5, H5, I5, _, q5⟩ => ⟨v2, σ', H5, I5, r2, q5⟩) fun _ _ z => z
end
end L2
end
section
set_option Elab.async false
set_option linter.all false
set_option maxRecDepth 100000
set_option maxHeartbeats 4000000
namespace L2
open PySem PySem.Spec PyProof.Rows
section
variable {X : Cx}
/-- the callee runs one unit deeper (a special method that a builtin calls) -/
theorem run_fn1 {k : Nat} {f : Addr} {fd : FuncData} {ps : List Str} {sp : Sp} {E' : Value → Shared → Prop} {pins : List (Addr × Obj)} {σ : St} {H : Hp} {s : Shared} {Q : VK} {us : List Value} {vs : List V} (F : FnOk X.prog X.w X.K X.mg X.base CX0 k f fd ps sp) (hr : Room (k + 1) X.A) (hb : Binds X.K fd ps [])
    (I : Inv X pins σ H s) (r : Vals vs us) (h : sp vs H Q E0) : wpAny (model X.prog X.w) X.A.in1 (call (.ref f) us) (EP X pins σ Q) E' s := by
  have hl : us.length = ps.length := by rw [← r.length]; exact F.len _ _ _ _ h
  have hb2 : BindsTo s fd ⟨us, []⟩ (ps.zip us) := by
    have := hb s us I.kIn (by rw [List.append_nil]; exact hl)
    rw [List.append_nil] at this
    exact this
  refine wpAny_call (codeAny_mono (F.run X.A.in1 X.stack s H ⟨us, []⟩ us vs Q E0 hr.in1 I.env0.in1 hb2 r h) fun r s' hq => ?_)
  cases r with
  | error e => exact hq.elim
  | ok fl =>
    cases fl with
    | ret u => exact I.after hq
    | next => exact False.elim hq
    | brk => exact False.elim hq
    | cont => exact False.elim hq
/-- what of an instance of an own class a special method's call needs -/
theorem ins_look {pins : List (Addr × Obj)} {σ : St} {H : Hp} {s : Shared} {a C dx : Addr} {fs : List (Str × V)} (I : Inv X pins σ H s) (e : H a = some (.ins C dx fs)) : ∃ od, PySem.W.InstAt s.heap a (PySem.W.instObj C dx) C (some od) := by
  obtain ⟨mA, O, _, _, _, _⟩ := ins_get I.hok e
  obtain ⟨od, J, _⟩ := O.look
  exact ⟨od, J⟩

/-- len(o) by the class's own __len__ -/
theorem call_lenOwn {k : Nat} {C f : Addr} {fd : FuncData} {ps : List Str} {sp : Sp} (hs : PySem.W.findIn X.K (.ref C) "__len__" = some (some (.ref f))) (hf : PySem.W.isFn X.K (.ref f) = true) (F : FnOk X.prog X.w X.K X.mg X.base CX0 k f fd ps sp) (hr : Room (k + 1) X.A) (hb : Binds X.K fd ps []) :
    CallR X (.builtin "len") (fun xs H Q => ∃ a dx fs, xs = [.ref a] ∧ H a = some (.ins C dx fs) ∧ sp [.ref a] H (fun v H' => ∃ n : Int, v = .int n ∧ 0 ≤ n ∧ n < 2 ^ 63 ∧ Q (.int n) H') E0) := by
  intro pins s σ H xs us Q I r h
  obtain ⟨a, dx, fs, rfl, ea, q⟩ := h
  obtain rfl := Vals.ref1 r
  obtain ⟨od, J⟩ := ins_look I ea
  obtain ⟨m, fr⟩ := I.fr
  refine PySem.W.len_K fr I.mod.kin J hs hf (wpAny_mono (run_fn1 (us := [.ref a]) (vs := [.ref a]) F hr hb I (.cons rfl .nil) q) (fun v s' ⟨z, H', I', rz, n, e, h0, h1, q'⟩ => ?_) fun _ _ z => z)
  subst e
  obtain ⟨t, rfl⟩ := rz
  exact ⟨⟨h0, h1⟩, .int n, H', I'.tok _, ⟨_, rfl⟩, q'⟩

/-- o[i] by the class's own __getitem__ -/
def tItemOwn (C : Addr) (sp : Sp) (ta tb : TE) : TE := fun σ H Q => ta σ H fun x H1 => tb σ H1 fun y H2 => ∃ a dx fs, x = .ref a ∧ H2 a = some (.ins C dx fs) ∧ sp [.ref a, y] H2 Q E0
theorem pe_itemOwn {k : Nat} {C f : Addr} {fd : FuncData} {ps : List Str} {sp : Sp} {a b : Expr} {ta tb : TE} {pos : Pos} (hs : PySem.W.findIn X.K (.ref C) "__getitem__" = some (some (.ref f))) (hfn : PySem.W.fnIn X.K f = true) (hf : PySem.W.isFn X.K (.ref f) = true)
    (F : FnOk X.prog X.w X.K X.mg X.base CX0 k f fd ps sp) (hr : Room (k + 1) X.A) (hb : Binds X.K fd ps []) (h1 : PE X a ta) (h2 : PE X b tb)
    (hsl : ∀ o i, subscripted b true o i = runValue (.builtin "lifetime.subscript" ⟨[o, i], []⟩) := by intro _ _; with_unfolding_all rfl) : PE X (.Subscript a b pos) (tItemOwn C sp ta tb) := by
  refine ⟨fun pins s σ H Q I h => ?_⟩
  refine Subscript_ (binT h1 h2 I h fun v u s2 x y H2 I2 rx ry q => ?_)
  obtain ⟨p, dx, fs, rfl, ea, q⟩ := q
  obtain rfl : v = Value.ref p := rx
  obtain ⟨od, J⟩ := ins_look I2 ea
  obtain ⟨m, fr⟩ := I2.fr
  exact PySem.W.sub_K fr I2.mod.kin J hs hfn hf (run_fn1 (us := [.ref p, u]) (vs := [.ref p, y]) F hr hb I2 (.cons rfl (.cons ry .nil)) q) (hsl _ _)

/-- o[i] = v by the class's own __setitem__ -/
theorem set_own {k : Nat} {C f : Addr} {fd : FuncData} {ps : List Str} {sp : Sp} (hq : PySem.W.noSeq X.K C = true) (hs : PySem.W.findIn X.K (.ref C) "__setitem__" = some (some (.ref f))) (hf : PySem.W.isFn X.K (.ref f) = true)
    (F : FnOk X.prog X.w X.K X.mg X.base CX0 k f fd ps sp) (hr : Room k X.A) (hb : Binds X.K fd ps []) : PSet X (fun o i v H Q => ∃ a dx fs, o = .ref a ∧ H a = some (.ins C dx fs) ∧ sp [.ref a, i, v] H (fun _ H' => Q H') E0) := by
  intro pins s σ H o i v ov iv u Q I ro ri rv h
  obtain ⟨a, dx, fs, rfl, ea, q⟩ := h
  obtain rfl : ov = Value.ref a := ro
  obtain ⟨od, J⟩ := ins_look I ea
  obtain ⟨m, fr⟩ := I.fr
  refine PySem.W.ksp_setItem fr I.mod.kin J hq hs hf (wpAny_mono (run_fn (us := [.ref a, iv, u]) (vs := [.ref a, i, v]) F hr hb .nil pass0 I (.cons rfl (.cons ri (.cons rv .nil))) q) (fun v s' ⟨z, H', I', rz, q'⟩ => ⟨H', I', q'⟩) fun _ _ z => z)
end
end L2
end
section
set_option Elab.async false
set_option linter.all false
set_option maxRecDepth 100000
set_option maxHeartbeats 4000000
namespace EnT
open PySem
open Sem (wp)
theorem meets_enumerate_newT (l : Addr) (items : Array Value) :
    Meets (Builtin.«enumerate.__new__» ⟨[.type "enumerate", .ref l], []⟩) (fun _ R s => s.heap.IsTuple l items ∧
      R (.ok (.ret (.ref (s.heap.push { cls := .type "tuple_iterator", data := .fields #[.ref l, .int 0 0] }).objs.size)))
        { s with heap := (s.heap.push { cls := .type "tuple_iterator", data := .fields #[.ref l, .int 0 0] }).push { cls := .type "enumerate", data := .fields #[.none, .bool false, .ref s.heap.objs.size, rawInt 0, .none, .none] } }) :=
  .of_wp fun prog w A R s h => by
    obtain ⟨hp, g, d, tk, os⟩ := s; obtain ⟨hl, h⟩ := h
    have hsub := sub_enumerate
    have q1 : ∀ {A' : Around} {E : Value → Shared → Prop} {Q : Value → Shared → Prop}, Q (.ref hp.objs.size) ⟨hp.push { cls := .type "tuple_iterator", data := .fields #[.ref l, .int 0 0] }, g, d, tk, os⟩ → wpAny (model prog w) A' (pyIter (.ref l)) Q E ⟨hp, g, d, tk, os⟩ :=
      fun q => wpAny_pyIter_tuple (s := ⟨hp, g, d, tk, os⟩) hl q
    wp_walk using q1
    refine wpAny_stack_any fun st => wpAny_pure ?_
    split
    · rename_i c _ _ _ _ _
      cases (c == Value.type "enumerate")
      · wp_walk using q1
        exact ⟨_, rfl, h⟩
      · wp_walk using q1
        exact ⟨_, rfl, h⟩
    · wp_walk using q1
      exact ⟨_, rfl, h⟩
section
variable {prog : Program} {w : World} {A : Around} {E : Value → Shared → Prop} {s : Shared}
theorem call_enumerate_tuple {l : Addr} {items : Array Value} {Q : Value → Shared → Prop} (hL : s.heap.IsTuple l items)
    (h : ∀ h', IsEnum h' (s.heap.objs.size + 1) s.heap.objs.size 0 .none → h'.IsTupleIter s.heap.objs.size l 0 → h'.objs.size = s.heap.objs.size + 2 →
      (∀ b o, s.heap.get? b = some o → h'.get? b = some o) → Q (.ref (s.heap.objs.size + 1)) { s with heap := h' }) :
    wpAny (model prog w) A (call (.type "enumerate") [.ref l]) Q E s := by
  refine callType_new F.called_enumerate (by decide) (F.typeCall_enumerate_1 _) (F.newCall_enumerate_1 _) (fun obj => F.args_object_init_2 obj _) F.entry_enumerate_new
    (meets_enumerate_newT l items) ⟨hL, ?_⟩
  have hz : (s.heap.push { cls := .type "tuple_iterator", data := .fields #[.ref l, .int 0 0] }).objs.size = s.heap.objs.size + 1 := Heap.size_push ..
  show _ ∧ _
  rw [hz]
  have he : IsEnum ((s.heap.push { cls := .type "tuple_iterator", data := .fields #[.ref l, .int 0 0] }).push
      { cls := .type "enumerate", data := .fields #[.none, .bool false, .ref s.heap.objs.size, rawInt 0, .none, .none] }) (s.heap.objs.size + 1) s.heap.objs.size 0 .none := by
    have := Heap.get?_push_size (s.heap.push { cls := .type "tuple_iterator", data := .fields #[.ref l, .int 0 0] })
      (o := { cls := .type "enumerate", data := .fields #[.none, .bool false, .ref s.heap.objs.size, rawInt 0, .none, .none] }) rfl
    rw [hz] at this; exact this
  refine ⟨⟨_, he, rfl⟩, h _ he ⟨_, Heap.get?_push_of_some _ (Heap.get?_push_size _ rfl), rfl, rfl⟩ (by rw [Heap.size_push, hz]) fun b o x => Heap.get?_push_of_some _ (Heap.get?_push_of_some _ x)⟩
end
end EnT
namespace L2
open PySem PySem.Spec PyProof.Rows
/-- the tuple at a as it stands at each turn, each item in a new pair -/
def IteT (K : PySem.W.Frag) (a : Addr) : It :=
  ⟨fun i H => ∃ (xs : List V) (x : V), SqT K H a xs ∧ xs[i]? = some x, fun i H v H' => ∃ T x, v = .ref T ∧ H T = none ∧ H' = upd H T (.tup [.int (i : Nat), x]) ∧ ∀ xs, SqT K H a xs → xs[i]? = some x, fun i H => ∃ xs : List V, SqT K H a xs ∧ xs.length = i⟩
theorem turn_enumT {P : Program} {w : World} {K : PySem.W.Frag} {elts : List Expr} {kk : Nat} {tpos : Pos} (a e it : Addr) :
    Turn P w K (.Tuple elts kk tpos) (IteT K a) [e, it] e (fun i h => (∃ old, IsEnum h e it ((i : Nat) : Int) old) ∧ h.IsTupleIter it a i ∧ e ≠ it) where
  mem := by simp
  obj := fun i h st b hb => by
    obtain ⟨⟨old, he⟩, ⟨o, ho, hc, hd⟩, _⟩ := st
    have e' : b = e ∨ b = it := by simpa using hb
    rcases e' with z | z
    · rw [z]; exact ⟨_, he, fun v q => nomatch q⟩
    · rw [z]; exact ⟨o, ho, fun v q => by rw [hd] at q; cases q⟩
  keep := fun i h h' st k => let ⟨⟨old, he⟩, hi, hne⟩ := st; ⟨⟨old, k e (by simp) _ he⟩, hi.at fun o q => k it (by simp) o q, hne⟩
  item := by
    intro X hP hw hK hc i pins s σ H E I hf st hg
    subst hP hw hK
    obtain ⟨⟨old, he⟩, hit, hne⟩ := st
    obtain ⟨xs, x, hq, hx⟩ := hg
    obtain ⟨its, rv, p, hz⟩ := I.tuple hq
    obtain ⟨u, hu, ru⟩ := rv.get hx
    have hel : e < s.heap.objs.size := Heap.lt_size he
    have hil : it < s.heap.objs.size := by obtain ⟨_, q, _⟩ := hit; exact Heap.lt_size q
    obtain ⟨ot, hot, hct, nt, hdt⟩ := id p
    obtain ⟨oi, hoi, hci, hdi⟩ := id hit
    have hae : e ≠ a := fun z => by rw [z] at he; rw [he] at hot; cases hot; cases hdt
    have hai : a ≠ it := fun z => by rw [z, hoi] at hot; cases hot; rw [hdi] at hdt; cases hdt
    have hlen : i < its.toArray.size := by
      obtain ⟨q, _⟩ := List.getElem?_eq_some_iff.mp hu
      simpa using q
    refine wpAny_pyNext_enum_itemD (Draws.tuple (A := X.A.in1) (I.ok.hd hc) it a hai its.toArray) he ⟨hit, p⟩ hlen hne (by simp [hne, hae]) fun z h' tk hz2 ho hit' hT hsz hk => ?_
    have ez : z = u := by
      have q : its[i]? = some z := by simpa using hz2
      rw [hu] at q
      exact (Option.some.inj q).symm
    subst ez
    refine ⟨_, rfl, wpAny_letOwnedTupleGo_enum (s := { s with heap := h', toks := tk + 1 }) ho fun h'' he' sb => ?_⟩
    have hT2 : h''.get? s.heap.objs.size = some { cls := .type "tuple", data := .seq #[.int i tk, z] } := (sb.2 _ (Nat.ne_of_gt hel)).trans hT
    have new : ObjOk X.prog X.w (upd H s.heap.objs.size (.tup [.int (i : Nat), x])) h'' s.heap.objs.size (.tup [.int (i : Nat), x]) :=
      ⟨by show 2 ≤ sizeLine; decide, [.int i tk, z], .cons ⟨_, rfl⟩ (.cons ru .nil), ⟨_, hT2, rfl, _, rfl⟩⟩
    have I1 : Inv X pins σ (upd H s.heap.objs.size (.tup [.int (i : Nat), x])) { s with heap := h'', toks := tk + 1 } :=
      I.turnedNew (ch := [e, it]) (fun b ob hb q => (sb.2 b (fun z => hb (by simp [z]))).trans (hk b ob (fun z => hb (by simp [z])) (fun z => hb (by simp [z])) q)) hf (Nat.le_refl _) new
    refine ⟨.ref s.heap.objs.size, _, I1, rfl, ⟨_, x, rfl, I.hok.fresh (Nat.le_refl _), rfl, fun ys hy => by rw [I.tuple_inj hy hq]; exact hx⟩, ⟨⟨z, ?_⟩, hit'.1.at fun o q => (sb.2 it (Ne.symm hne)).trans q, hne⟩, fun b hb => ?_⟩
    · have e1 : ((i + 1 : Nat) : Int) = (i : Int) + 1 := by omega
      rw [e1]; exact he'
    · have hb' : b < s.heap.objs.size := by
        have e' : b = e ∨ b = it := by simpa using hb
        rcases e' with z | z
        · rw [z]; exact hel
        · rw [z]; exact hil
      rw [upd_ne (Nat.ne_of_lt hb')]
      exact (hf b hb).1
  done := by
    intro X hP hw hK hc i pins s σ H E I hf st hg
    subst hP hw hK
    obtain ⟨⟨old, he⟩, hit, hne⟩ := st
    obtain ⟨xs, hq, hx⟩ := hg
    obtain ⟨its, rv, p, hz⟩ := I.tuple hq
    obtain ⟨f0, f1, f2, f3, f4, f5⟩ := hf it (by simp)
    have hl := rv.length
    obtain ⟨ot, hot, hct, nt, hdt⟩ := id p
    obtain ⟨oi, hoi, hci, hdi⟩ := id hit
    have hai : a ≠ it := fun z => by rw [z, hoi] at hot; cases hot; rw [hdi] at hdt; cases hdt
    have en : its.toArray.size = i := by simp; omega
    refine wpAny_pyNext_enum_endD (Draws.tuple (A := X.A.in1) (I.ok.hd hc) it a hai its.toArray) he ⟨by rw [en]; exact hit, p⟩ fun h' eb => ⟨rfl, I.turned (t' := s.toks) (fun b o hb q => eb b o hb q) f0 f1 f3 f4 f5⟩
  self := fun A i s Q E st h => let ⟨⟨_, he⟩, _⟩ := st; wpAny_pyIter_enum he h
def iEnumT (K : PySem.W.Frag) (ta : TA) : TI := fun σ H R => ta σ H fun vs H1 => ∃ a xs, vs = [.ref a] ∧ SqT K H1 a xs ∧ R (IteT K a) H1
theorem pi_enumT {X : Cx} {e : Expr} {ta : TA} {p pos tpos : Pos} {elts : List Expr} {kk : Nat} (hg : Gl X "enumerate") (hm : X.mg "enumerate" = none) (ha : PA X [e] ta) (hs : starEach [e] X.env = [(false, eval e X.env)] := by rfl) :
    PI X (.Tuple elts kk tpos) (.Call (.Name "enumerate" p) [e] [] pos) (iEnumT X.K ta) := by
  refine ⟨fun pins s σ H R I h => ?_⟩
  refine Call_ (ld_blt I hg hm boot_enumerate (PyProof.Rows.callWith_type1 (thn (ha.run pos pins s σ H _ I h) fun us s1 ⟨vs, H1, I1, r1, q1⟩ => ?_) hs rfl))
  obtain ⟨a, xs, ex, hq, q⟩ := q1
  subst ex
  cases r1 with
  | cons r rr =>
    cases rr
    cases r
    obtain ⟨its, rv, p', hz⟩ := I1.tuple hq
    refine EnT.call_enumerate_tuple (items := its.toArray) p' fun h' he hit hsz hk => wpAny_pyIter_enum he ?_
    have I2 : Inv X pins σ H1 { s1 with heap := h' } := I1.kept (t' := s1.toks) hk
    refine ⟨s1.heap.objs.size + 1, [s1.heap.objs.size + 1, s1.heap.objs.size], _, _, H1, rfl, I2, turn_enumT a (s1.heap.objs.size + 1) s1.heap.objs.size, ⟨⟨.none, he⟩, hit, Nat.succ_ne_self _⟩, fun b hb => ?_, q⟩
    have e' : b = s1.heap.objs.size + 1 ∨ b = s1.heap.objs.size := by simpa using hb
    have hle : s1.heap.objs.size ≤ b := by
      rcases e' with z | z
      · rw [z]; exact Nat.le_add_right _ _
      · rw [z]; exact Nat.le_refl _
    exact I1.fpOk hle (I1.hok.fresh hle)
end L2
end
section
set_option Elab.async false
set_option linter.all false
set_option maxRecDepth 100000
set_option maxHeartbeats 4000000
namespace L2
open PySem PySem.Spec PyProof.Rows
theorem tuple_mul0 (l : Addr) (items : Array Value) (n : Nat) (dd : Option Addr) (sl : Array (Option Value)) (x : Int) (u : Tok) (c0 : (decide (x < -(2 ^ 63)) || decide (x ≥ 2 ^ 63)) = false) (c1 : (items.isEmpty || x == 1) = false) (c2 : (decide (x ≤ 0) || items.isEmpty) = true) :
    Meets (Builtin.«tuple.__mul__» ⟨[.ref l, .int x u], []⟩) (fun _ R s => s.heap.get? l = some { cls := .type "tuple", dict := dd, data := .seq items n, slots := sl } ∧
      R (.ok (.ret (Value.ref s.heap.objs.size))) { s with heap := s.heap.push { cls := Value.type "tuple", data := Data.seq #[] }, toks := s.toks }) :=
  .of_wp fun prog w A R s h => by
    obtain ⟨hp, g, d, tk, os⟩ := s
    obtain ⟨hl, h⟩ := h
    have f1 := AutoSeq1.idx_int
    wp_walk using wpAny_loadPart' hl
    repeat (first
      | (refine wpAny_ite_false (decide_eq_false (by rw [c0]; exact Bool.false_ne_true)) ?_; wp_walk using wpAny_loadPart' hl)
      | (refine wpAny_ite_false (decide_eq_false (by rw [c1]; exact Bool.false_ne_true)) ?_; wp_walk using wpAny_loadPart' hl)
      | (refine wpAny_ite_true (decide_eq_true c2) ?_; wp_walk using wpAny_loadPart' hl))
    exact ⟨_, rfl, h⟩
theorem tuple_mul1 (l : Addr) (items : Array Value) (n : Nat) (dd : Option Addr) (sl : Array (Option Value)) (u : Tok) :
    Meets (Builtin.«tuple.__mul__» ⟨[.ref l, .int 1 u], []⟩) (fun _ R s => s.heap.get? l = some { cls := .type "tuple", dict := dd, data := .seq items n, slots := sl } ∧
      R (.ok (.ret (Value.ref l))) s) :=
  .of_wp fun prog w A R s h => by
    obtain ⟨hp, g, d, tk, os⟩ := s
    obtain ⟨hl, h⟩ := h
    have f1 := AutoSeq1.idx_int
    have c1 : (items.isEmpty || (1 : Int) == 1) = true := by simp
    wp_walk using wpAny_loadPart' hl
    repeat (first
      | (refine wpAny_ite_true (decide_eq_true c1) ?_; wp_walk using wpAny_loadPart' hl))
    exact ⟨_, rfl, h⟩

/-- t * k, any k from 0 on -/
def rRepA (K : PySem.W.Frag) : R2 := fun x y H Q => ∃ l k xs, x = .ref l ∧ y = .int k ∧ SqT K H l xs ∧ xs ≠ [] ∧ 0 ≤ k ∧ k ≤ 1000 ∧ xs.length ≤ 1000 ∧ (k = 1 → Q (.ref l) H) ∧ (k ≠ 1 → ∀ p, H p = none → Q (.ref p) (upd H p (.tup (List.replicate k.toNat xs).flatten)))
theorem op_repA {X : Cx} : OpR X (binaryOp .Mult) (rRepA X.K) := by
  intro pins s σ H x y v u Q I rx ry h
  obtain ⟨l, k, xs, rfl, rfl, hT, hne, h0, h2, hz, q1, q2⟩ := h
  by_cases hk2 : 2 ≤ k
  · exact op_repT pins s σ H _ _ v u Q I rx ry ⟨l, k, xs, rfl, rfl, hT, hne, hk2, h2, hz, q2 (by omega)⟩
  · cases rx
    obtain ⟨t, rfl⟩ := ry
    obtain ⟨its, r, ⟨⟨cls, dd, data, sl⟩, ho, hc, n, hd⟩, hs⟩ := I.tuple hT
    simp only at hc hd
    subst hc hd
    have hle : its.length = xs.length := r.length.symm
    have hn : its ≠ [] := fun e => hne (by
      rw [e] at hle
      exact List.eq_nil_of_length_eq_zero hle.symm)
    have hi : its.toArray.isEmpty = false := by
      cases its with
      | nil => exact absurd rfl hn
      | cons a b => rfl
    by_cases hk1 : k = 1
    · subst hk1
      refine wpAny_binaryOp_repeat_ref (T := "tuple") (U := "int") (by decide) ⟨_, ho, rfl⟩ (fun s' => typeIs_int s' 1 t) noFill_tuple_mul F.fills_int_mul F.slot_int_rmul repeat_tuple F.slot_int_index.lookup
        (call_meets F.slot_int_rmul (typeIs_int s 1 t) F.entry_int_rmul (F.args_int_rmul_2 _ _) (int_rmul_tuple 1 t l its.toArray n dd sl)
          ⟨ho, rfl, ⟨_, ho, rfl⟩, call_meets F.slot_tuple_mul ⟨_, ho, rfl⟩ F.entry_tuple_mul (F.args_tuple_mul_2 _ _) (tuple_mul1 l its.toArray n dd sl t) ⟨ho, ?_⟩⟩)
      exact ⟨.ref l, H, I, rfl, q1 rfl⟩
    · have hk0 : k = 0 := by omega
      subst hk0
      refine wpAny_binaryOp_repeat_ref (T := "tuple") (U := "int") (by decide) ⟨_, ho, rfl⟩ (fun s' => typeIs_int s' 0 t) noFill_tuple_mul F.fills_int_mul F.slot_int_rmul repeat_tuple F.slot_int_index.lookup
        (call_meets F.slot_int_rmul (typeIs_int s 0 t) F.entry_int_rmul (F.args_int_rmul_2 _ _) (int_rmul_tuple 0 t l its.toArray n dd sl)
          ⟨ho, rfl, ⟨_, ho, rfl⟩, call_meets F.slot_tuple_mul ⟨_, ho, rfl⟩ F.entry_tuple_mul (F.args_tuple_mul_2 _ _) (tuple_mul0 l its.toArray n dd sl 0 t (by decide) (by rw [hi]; rfl) (by rfl)) ⟨ho, ?_⟩⟩)
      have hf : H s.heap.objs.size = none := I.hok.fresh (Nat.le_refl _)
      refine ⟨.ref s.heap.objs.size, _, I.laid (o := .tup []) (t' := s.toks) (fun b u e => Heap.get?_push_of_some _ e) (Nat.le_refl _) ?_, rfl, q2 (by decide) _ hf⟩
      exact ⟨Nat.zero_le _, [], .nil, ⟨_, Heap.get?_push_size _ rfl, rfl, _, rfl⟩⟩

/-- s * k -/
def repS (k : Nat) (a : Str) : Str := ⟨(List.replicate k a.cps).foldl (· ++ ·) #[]⟩
def rRepS : R2 := fun x y H Q => ∃ (a : Str) (k : Int), x = .str a ∧ y = .int k ∧ 1 ≤ k ∧ k ≤ 1000 ∧ 0 < a.length ∧ a.length ≤ 1000 ∧ Q (.str (repS k.toNat a)) H
theorem foldl_sz (a : Array Nat) : ∀ (k : Nat) (b : Array Nat), ((List.replicate k a).foldl (· ++ ·) b).size = b.size + k * a.size
  | 0, b => by simp
  | k + 1, b => by rw [List.replicate_succ, List.foldl_cons, foldl_sz a k]; simp [Nat.succ_mul]; omega
theorem op_repS {X : Cx} : OpR X (binaryOp .Mult) rRepS := by
  intro pins s σ H x y v u Q I rx ry h
  obtain ⟨a, k, rfl, rfl, h1, h2, h3, h4, q⟩ := h
  obtain ⟨t, rfl⟩ := rx
  obtain ⟨t', rfl⟩ := ry
  have hm : a.length * k.toNat ≤ 1000 * 1000 := Nat.mul_le_mul h4 (by omega)
  refine PySem.P.mul_str (by rw [decide_eq_false (by omega), decide_eq_false (by omega)]; rfl) (fun _ _ => ?_) (fun _ _ => ?_) ?_
  · have hle : (1000 : Int) ≤ (2 ^ 63 - 1) / k := by
      rw [Int.le_ediv_iff_mul_le (by omega)]; omega
    omega
  · unfold PySem.Builtin.Str.tooLong
    first | exact decide_eq_false (by rw [sizeLine_eq]; omega) | (simp [sizeLine_eq]; omega)
  · rw [if_neg (by omega)]
    by_cases hk : k = 1
    · subst hk
      rw [if_pos (by rfl)]
      have e : repS (1 : Int).toNat a = a := by
        unfold repS
        show (⟨#[] ++ a.cps⟩ : Str) = a
        simp
      rw [e] at q
      exact ⟨.str a, H, I, ⟨t, rfl⟩, q⟩
    · rw [if_neg (by simp [hk]; omega)]
      refine ⟨?_, .str (repS k.toNat a), H, I.tok _, ⟨_, rfl⟩, q⟩
      have e : (⟨(List.replicate k.toNat a.cps).foldl (· ++ ·) #[]⟩ : Str).length = k.toNat * a.length := by
        show ((List.replicate k.toNat a.cps).foldl (· ++ ·) #[]).size = _
        rw [foldl_sz]; simp [Str.length]
      rw [e, sizeLine_eq]
      rw [Nat.mul_comm] at hm
      omega
end L2
end
section
set_option Elab.async false
set_option linter.all false
set_option maxRecDepth 100000
set_option maxHeartbeats 4000000
namespace L2
open PySem PySem.Spec PyProof.Rows
section
variable {X : Cx} {o e : Expr} {es : List Expr} {to te : TE} {ta : TA} {f : Str} {p p' p1 p2 pos : Pos}
/-- B.__init__(self, ..), B an own class over ValueError without an __init__ -/
theorem pe_binit {pl : Sem Bool} {x : Str} {B : Addr} (hg : Gl X x) (hm : X.mg x = some (.ref B)) (rd : ClX.CRead X.K B (.type "type")) (vV : PySem.W.findCls X.K (.ref B) (.type "type") "__init__" = some (.val (.builtin "ValueError.__init__"))) (ha : PA X (e :: es) ta)
    (hdb : (x == ("__debug__" : Str)) = false := by decide)
    (hc : eval (.Call (.Attribute (.Name x p1) "__init__" p2) (e :: es) [] pos) X.env = (do
      let ov ← eval (.Name x p1) X.env
      standAt p2.atName
      let (f, first) ← holding [ov] (getMethod ov "__init__" pl)
      callWith pos f first (backTo pos (starEach (e :: es) X.env)) (backToKw pos (keywordEach [] X.env))) := by rfl)
    (he : starEach (e :: es) X.env = (false, eval e X.env) :: starEach es X.env := by rfl) (hpl : (backTo pos (starEach es X.env)).any (·.1) = false := by rfl) :
    PE X (.Call (.Attribute (.Name x p1) "__init__" p2) (e :: es) [] pos) (tVeI X.K ta) := by
  refine ⟨fun pins s σ H Q I h => ?_⟩
  refine PySem.W.methodCall_KW (ld_glob I hg hm ?_ hdb) hc
  refine PySem.W.method_cls I.kIn rd.ga ?_
  refine PySem.W.cls_value I.kIn rd.rd vV (by decide +kernel) ?_
  show wpAny _ _ (callWith pos (Value.builtin "ValueError.__init__") [] (backTo pos (starEach (e :: es) X.env)) []) _ _ _
  refine PyProof.Rows.callWith_method1 (thn (ha.run pos pins _ σ H _ (I.tok _) h) fun us s1 ⟨vs, H1, I1, r1, a, C, ws, ev, hl, T, ea, q⟩ => ?_) he hpl
  subst ev
  cases r1 with
  | @cons _ u0 _ ur ra rw' =>
    obtain rfl : u0 = Value.ref a := ra
    have hlen : ur.length ≤ sizeLine := by
      rw [← Paired.length rw', sizeLine_eq]
      omega
    exact oinit_ok T I1 ea hlen fun s' J => ⟨.non, H1, J, rfl, q⟩
end
end L2
end
section
set_option Elab.async false
set_option linter.all false
set_option maxRecDepth 100000
set_option maxHeartbeats 4000000
namespace EV
open PySem PySem.Spec PyProof.Rows L2
def top (i : Nat) : Stmt := PySem.Challenge.pw_everyring_k74_whole_consoles_boards_and.main.body.getD i (.Pass ⟨0, 0, 0, 0⟩)
/-! ### where a def stands -/
def pAd (K : PySem.W.Frag) (C f : Str) : Addr := He.ma K (He.ga K C) f
def gAd (K : PySem.W.Frag) (C f : Str) : Addr := match PySem.W.recIn K (pAd K C f) "property" with
  | some (.ref g :: _) => g
  | _ => 0
def dflO (K : PySem.W.Frag) (f : Addr) : Addr := match K.lookup f with
  | some ⟨_, _, .func fd, _⟩ => (match fd.defaults with
    | .ref t => (match K.lookup t with
      | some ⟨_, _, .seq its _, _⟩ => (match its.toList.head? with
        | some (Value.ref a) => a
        | _ => 0)
      | _ => 0)
    | _ => 0)
  | _ => 0
def dfl0 (K : PySem.W.Frag) (C m : Str) : Addr := dflO K (He.ma K (He.ga K C) m)
structure DefZ where
  at_ : PySem.W.Frag → Addr
  name : Str
  qual : Str
  params : Arguments
  body : List Stmt
  scope : Scope
  dfl : List He.Dv := []
abbrev s_NotReached_init : Stmt := inClass (top 15) 0
abbrev n_NotReached_init : List Str := ["self", "weights"]
theorem sc_NotReached_init : FnScope n_NotReached_init ["self", "weights"] (defScope s_NotReached_init) := ⟨rfl, rfl, rfl, by decide +kernel, rfl, by decide +kernel, by decide +kernel⟩
abbrev s_is_number : Stmt := top 18
abbrev n_is_number : List Str := ["value"]
theorem sc_is_number : FnScope n_is_number ["value"] (defScope s_is_number) := ⟨rfl, rfl, rfl, by decide +kernel, rfl, by decide +kernel, by decide +kernel⟩
abbrev s_is_whole : Stmt := top 19
abbrev n_is_whole : List Str := ["value", "low", "high"]
theorem sc_is_whole : FnScope n_is_whole ["value", "low", "high"] (defScope s_is_whole) := ⟨rfl, rfl, rfl, by decide +kernel, rfl, by decide +kernel, by decide +kernel⟩
abbrev s_is_prime : Stmt := top 20
abbrev n_is_prime : List Str := ["value"]
theorem sc_is_prime : FnScope n_is_prime ["value"] (defScope s_is_prime) := ⟨rfl, rfl, rfl, by decide +kernel, rfl, by decide +kernel, by decide +kernel⟩
abbrev s_is_pair : Stmt := top 21
abbrev n_is_pair : List Str := ["prime", "value"]
theorem sc_is_pair : FnScope n_is_pair ["prime", "value"] (defScope s_is_pair) := ⟨rfl, rfl, rfl, by decide +kernel, rfl, by decide +kernel, by decide +kernel⟩
abbrev s_fits_rule : Stmt := top 22
abbrev n_fits_rule : List Str := ["prime", "value", "part", "here", "there"]
theorem sc_fits_rule : FnScope n_fits_rule ["prime", "value"] (defScope s_fits_rule) := ⟨rfl, rfl, rfl, by decide +kernel, rfl, by decide +kernel, by decide +kernel⟩
abbrev s_need_prime : Stmt := top 23
abbrev n_need_prime : List Str := ["prime"]
theorem sc_need_prime : FnScope n_need_prime ["prime"] (defScope s_need_prime) := ⟨rfl, rfl, rfl, by decide +kernel, rfl, by decide +kernel, by decide +kernel⟩
abbrev s_need_number : Stmt := top 24
abbrev n_need_number : List Str := ["value"]
theorem sc_need_number : FnScope n_need_number ["value"] (defScope s_need_number) := ⟨rfl, rfl, rfl, by decide +kernel, rfl, by decide +kernel, by decide +kernel⟩
abbrev s_trimmed : Stmt := top 25
abbrev n_trimmed : List Str := ["row", "length"]
theorem sc_trimmed : FnScope n_trimmed ["row"] (defScope s_trimmed) := ⟨rfl, rfl, rfl, by decide +kernel, rfl, by decide +kernel, by decide +kernel⟩
abbrev s_inverse : Stmt := top 26
abbrev n_inverse : List Str := ["prime", "colour", "other"]
theorem sc_inverse : FnScope n_inverse ["prime", "colour"] (defScope s_inverse) := ⟨rfl, rfl, rfl, by decide +kernel, rfl, by decide +kernel, by decide +kernel⟩
abbrev s_scaled : Stmt := top 27
abbrev n_scaled : List Str := ["prime", "row", "colour", "part"]
theorem sc_scaled : FnScope n_scaled ["prime", "row", "colour"] (defScope s_scaled) := ⟨rfl, rfl, rfl, by decide +kernel, rfl, by decide +kernel, by decide +kernel⟩
abbrev s_monic : Stmt := top 28
abbrev n_monic : List Str := ["prime", "row"]
theorem sc_monic : FnScope n_monic ["prime", "row"] (defScope s_monic) := ⟨rfl, rfl, rfl, by decide +kernel, rfl, by decide +kernel, by decide +kernel⟩
abbrev s_added : Stmt := top 29
abbrev n_added : List Str := ["prime", "one", "other", "longer", "first", "second", "here", "there"]
theorem sc_added : FnScope n_added ["prime", "one", "other"] (defScope s_added) := ⟨rfl, rfl, rfl, by decide +kernel, rfl, by decide +kernel, by decide +kernel⟩
abbrev s_timesed : Stmt := top 30
abbrev n_timesed : List Str := ["prime", "one", "other", "found", "at", "here", "beside", "there"]
theorem sc_timesed : FnScope n_timesed ["prime", "one", "other"] (defScope s_timesed) := ⟨rfl, rfl, rfl, by decide +kernel, rfl, by decide +kernel, by decide +kernel⟩
abbrev s_divided : Stmt := top 31
abbrev n_divided : List Str := ["prime", "one", "other", "rest", "over", "found", "at", "beside", "part"]
theorem sc_divided : FnScope n_divided ["prime", "one", "other"] (defScope s_divided) := ⟨rfl, rfl, rfl, by decide +kernel, rfl, by decide +kernel, by decide +kernel⟩
abbrev s_common_of_two : Stmt := top 32
abbrev n_common_of_two : List Str := ["prime", "one", "other"]
theorem sc_common_of_two : FnScope n_common_of_two ["prime", "one", "other"] (defScope s_common_of_two) := ⟨rfl, rfl, rfl, by decide +kernel, rfl, by decide +kernel, by decide +kernel⟩
abbrev s_gcd_of : Stmt := top 33
abbrev n_gcd_of : List Str := ["prime", "rows", "found", "row"]
theorem sc_gcd_of : FnScope n_gcd_of ["prime", "rows"] (defScope s_gcd_of) := ⟨rfl, rfl, rfl, by decide +kernel, rfl, by decide +kernel, by decide +kernel⟩
abbrev s_power_of_x : Stmt := top 34
abbrev n_power_of_x : List Str := ["prime", "many", "modulus", "found", "square", "left"]
theorem sc_power_of_x : FnScope n_power_of_x ["prime", "many", "modulus"] (defScope s_power_of_x) := ⟨rfl, rfl, rfl, by decide +kernel, rfl, by decide +kernel, by decide +kernel⟩
abbrev s_of_rule : Stmt := top 35
abbrev n_of_rule : List Str := ["rule", "least", "found", "offset", "amount"]
theorem sc_of_rule : FnScope n_of_rule ["rule"] (defScope s_of_rule) := ⟨rfl, rfl, rfl, by decide +kernel, rfl, by decide +kernel, by decide +kernel⟩
abbrev s_core_of : Stmt := top 36
abbrev n_core_of : List Str := ["prime", "rule"]
theorem sc_core_of : FnScope n_core_of ["prime", "rule"] (defScope s_core_of) := ⟨rfl, rfl, rfl, by decide +kernel, rfl, by decide +kernel, by decide +kernel⟩
abbrev s_fits_panel : Stmt := top 43
abbrev n_fits_panel : List Str := ["value", "button"]
theorem sc_fits_panel : FnScope n_fits_panel ["value"] (defScope s_fits_panel) := ⟨rfl, rfl, rfl, by decide +kernel, rfl, by decide +kernel, by decide +kernel⟩
abbrev s_is_lamp : Stmt := top 44
abbrev n_is_lamp : List Str := ["prime", "size", "value"]
theorem sc_is_lamp : FnScope n_is_lamp ["prime", "size", "value"] (defScope s_is_lamp) := ⟨rfl, rfl, rfl, by decide +kernel, rfl, by decide +kernel, by decide +kernel⟩
abbrev s_fits_picture : Stmt := top 45
abbrev n_fits_picture : List Str := ["prime", "size", "value", "lamp", "here", "there"]
theorem sc_fits_picture : FnScope n_fits_picture ["prime", "size", "value"] (defScope s_fits_picture) := ⟨rfl, rfl, rfl, by decide +kernel, rfl, by decide +kernel, by decide +kernel⟩
abbrev s_need_panel : Stmt := top 46
abbrev n_need_panel : List Str := ["panel"]
theorem sc_need_panel : FnScope n_need_panel ["panel"] (defScope s_need_panel) := ⟨rfl, rfl, rfl, by decide +kernel, rfl, by decide +kernel, by decide +kernel⟩
abbrev s_need_size : Stmt := top 47
abbrev n_need_size : List Str := ["size"]
theorem sc_need_size : FnScope n_need_size ["size"] (defScope s_need_size) := ⟨rfl, rfl, rfl, by decide +kernel, rfl, by decide +kernel, by decide +kernel⟩
abbrev s_need_picture : Stmt := top 48
abbrev n_need_picture : List Str := ["prime", "size", "picture"]
theorem sc_need_picture : FnScope n_need_picture ["prime", "size", "picture"] (defScope s_need_picture) := ⟨rfl, rfl, rfl, by decide +kernel, rfl, by decide +kernel, by decide +kernel⟩
abbrev s_generator_of : Stmt := top 49
abbrev n_generator_of : List Str := ["panel", "button"]
theorem sc_generator_of : FnScope n_generator_of ["panel"] (defScope s_generator_of) := ⟨rfl, rfl, rfl, by decide +kernel, rfl, by decide +kernel, by decide +kernel⟩
abbrev s_divisor_on : Stmt := top 50
abbrev n_divisor_on : List Str := ["panel", "size", "whole", "rest"]
theorem sc_divisor_on : FnScope n_divisor_on ["panel", "size"] (defScope s_divisor_on) := ⟨rfl, rfl, rfl, by decide +kernel, rfl, by decide +kernel, by decide +kernel⟩
abbrev s_rest_of : Stmt := top 51
abbrev n_rest_of : List Str := ["prime", "picture", "divisor", "found", "place", "colour"]
theorem sc_rest_of : FnScope n_rest_of ["prime", "picture", "divisor"] (defScope s_rest_of) := ⟨rfl, rfl, rfl, by decide +kernel, rfl, by decide +kernel, by decide +kernel⟩
abbrev s_behind_press : Stmt := top 52
abbrev n_behind_press : List Str := ["prime", "ring", "button", "place", "times", "found", "offset", "amount", "at"]
theorem sc_behind_press : FnScope n_behind_press ["prime", "ring", "button", "place", "times"] (defScope s_behind_press) := ⟨rfl, rfl, rfl, by decide +kernel, rfl, by decide +kernel, by decide +kernel⟩
abbrev s_colours_of : Stmt := top 53
abbrev n_colours_of : List Str := ["size", "picture", "found", "place", "colour"]
theorem sc_colours_of : FnScope n_colours_of ["size", "picture"] (defScope s_colours_of) := ⟨rfl, rfl, rfl, by decide +kernel, rfl, by decide +kernel, by decide +kernel⟩
abbrev s_picture_of : Stmt := top 54
abbrev n_picture_of : List Str := ["ring", "place", "colour"]
theorem sc_picture_of : FnScope n_picture_of ["ring"] (defScope s_picture_of) := ⟨rfl, rfl, rfl, by decide +kernel, rfl, by decide +kernel, by decide +kernel⟩
abbrev s_lessened : Stmt := top 55
abbrev n_lessened : List Str := ["prime", "one", "other", "times", "here", "there"]
theorem sc_lessened : FnScope n_lessened ["prime", "one", "other", "times"] (defScope s_lessened) := ⟨rfl, rfl, rfl, by decide +kernel, rfl, by decide +kernel, by decide +kernel⟩
abbrev s_lessened_by : Stmt := top 56
abbrev n_lessened_by : List Str := ["prime", "basis", "ring", "mix", "at", "row", "used", "times"]
theorem sc_lessened_by : FnScope n_lessened_by ["prime", "basis", "ring", "mix"] (defScope s_lessened_by) := ⟨rfl, rfl, rfl, by decide +kernel, rfl, by decide +kernel, by decide +kernel⟩
abbrev s_basis_of : Stmt := top 57
abbrev n_basis_of : List Str := ["panel", "size", "prime", "buttons", "found", "at", "start", "ring", "mix", "lit", "over", "bare", "place", "colour"]
theorem sc_basis_of : FnScope n_basis_of ["panel", "size"] (defScope s_basis_of) := ⟨rfl, rfl, rfl, by decide +kernel, rfl, by decide +kernel, by decide +kernel⟩
abbrev s_found_presses : Stmt := top 58
abbrev n_found_presses : List Str := ["panel", "size", "picture", "prime", "buttons", "rest", "mix", "colour", "at", "times"]
theorem sc_found_presses : FnScope n_found_presses ["panel", "size", "picture"] (defScope s_found_presses) := ⟨rfl, rfl, rfl, by decide +kernel, rfl, by decide +kernel, by decide +kernel⟩
abbrev s_found_weights : Stmt := top 59
abbrev n_found_weights : List Str := ["panel", "size", "picture", "prime", "divisor", "whole", "missing", "colours", "turn", "weights", "place", "colour"]
theorem sc_found_weights : FnScope n_found_weights ["panel", "size", "picture"] (defScope s_found_weights) := ⟨rfl, rfl, rfl, by decide +kernel, rfl, by decide +kernel, by decide +kernel⟩
abbrev s_can_reach : Stmt := top 60
abbrev n_can_reach : List Str := ["panel", "size", "picture"]
theorem sc_can_reach : FnScope n_can_reach ["panel", "size", "picture"] (defScope s_can_reach) := ⟨rfl, rfl, rfl, by decide +kernel, rfl, by decide +kernel, by decide +kernel⟩
abbrev s_Board_init : Stmt := inClass (top 63) 0
abbrev n_Board_init : List Str := ["self", "panel", "size", "picture"]
theorem sc_Board_init : FnScope n_Board_init ["self", "panel", "size", "picture"] (defScope s_Board_init) := ⟨rfl, rfl, rfl, by decide +kernel, rfl, by decide +kernel, by decide +kernel⟩
abbrev s_Board_panel : Stmt := inClass (top 63) 1
abbrev n_Board_panel : List Str := ["self"]
theorem sc_Board_panel : FnScope n_Board_panel ["self"] (defScope s_Board_panel) := ⟨rfl, rfl, rfl, by decide +kernel, rfl, by decide +kernel, by decide +kernel⟩
abbrev s_Board_size : Stmt := inClass (top 63) 2
abbrev n_Board_size : List Str := ["self"]
theorem sc_Board_size : FnScope n_Board_size ["self"] (defScope s_Board_size) := ⟨rfl, rfl, rfl, by decide +kernel, rfl, by decide +kernel, by decide +kernel⟩
abbrev s_Board_picture : Stmt := inClass (top 63) 3
abbrev n_Board_picture : List Str := ["self"]
theorem sc_Board_picture : FnScope n_Board_picture ["self"] (defScope s_Board_picture) := ⟨rfl, rfl, rfl, by decide +kernel, rfl, by decide +kernel, by decide +kernel⟩
abbrev s_Board_deeds : Stmt := inClass (top 63) 4
abbrev n_Board_deeds : List Str := ["self"]
theorem sc_Board_deeds : FnScope n_Board_deeds ["self"] (defScope s_Board_deeds) := ⟨rfl, rfl, rfl, by decide +kernel, rfl, by decide +kernel, by decide +kernel⟩
abbrev s_Board_lit : Stmt := inClass (top 63) 5
abbrev n_Board_lit : List Str := ["self"]
theorem sc_Board_lit : FnScope n_Board_lit ["self"] (defScope s_Board_lit) := ⟨rfl, rfl, rfl, by decide +kernel, rfl, by decide +kernel, by decide +kernel⟩
abbrev s_Board_len : Stmt := inClass (top 63) 7
abbrev n_Board_len : List Str := ["self"]
theorem sc_Board_len : FnScope n_Board_len ["self"] (defScope s_Board_len) := ⟨rfl, rfl, rfl, by decide +kernel, rfl, by decide +kernel, by decide +kernel⟩
abbrev s_Board_getitem : Stmt := inClass (top 63) 10
abbrev n_Board_getitem : List Str := ["self", "place"]
theorem sc_Board_getitem : FnScope n_Board_getitem ["self", "place"] (defScope s_Board_getitem) := ⟨rfl, rfl, rfl, by decide +kernel, rfl, by decide +kernel, by decide +kernel⟩
abbrev s_Board_setitem : Stmt := inClass (top 63) 11
abbrev n_Board_setitem : List Str := ["self", "place", "colour", "lamps"]
theorem sc_Board_setitem : FnScope n_Board_setitem ["self", "place", "colour"] (defScope s_Board_setitem) := ⟨rfl, rfl, rfl, by decide +kernel, rfl, by decide +kernel, by decide +kernel⟩
abbrev s_Board_need_place : Stmt := inClass (top 63) 13
abbrev n_Board_need_place : List Str := ["self", "place"]
theorem sc_Board_need_place : FnScope n_Board_need_place ["self", "place"] (defScope s_Board_need_place) := ⟨rfl, rfl, rfl, by decide +kernel, rfl, by decide +kernel, by decide +kernel⟩
abbrev s_Board_need_button : Stmt := inClass (top 63) 14
abbrev n_Board_need_button : List Str := ["self", "index"]
theorem sc_Board_need_button : FnScope n_Board_need_button ["self", "index"] (defScope s_Board_need_button) := ⟨rfl, rfl, rfl, by decide +kernel, rfl, by decide +kernel, by decide +kernel⟩
abbrev s_Board_allows : Stmt := inClass (top 63) 15
abbrev n_Board_allows : List Str := ["self", "lamps"]
theorem sc_Board_allows : FnScope n_Board_allows ["self", "lamps"] (defScope s_Board_allows) := ⟨rfl, rfl, rfl, by decide +kernel, rfl, by decide +kernel, by decide +kernel⟩
abbrev s_Board_note : Stmt := inClass (top 63) 16
abbrev n_Board_note : List Str := ["self", "times"]
theorem sc_Board_note : FnScope n_Board_note ["self", "times"] (defScope s_Board_note) := ⟨rfl, rfl, rfl, by decide +kernel, rfl, by decide +kernel, by decide +kernel⟩
abbrev s_Board_press : Stmt := inClass (top 63) 17
abbrev n_Board_press : List Str := ["self", "index", "place", "times", "lamps"]
theorem sc_Board_press : FnScope n_Board_press ["self", "index", "place", "times"] (defScope s_Board_press) := ⟨rfl, rfl, rfl, by decide +kernel, rfl, by decide +kernel, by decide +kernel⟩
abbrev s_Board_do_turn : Stmt := inClass (top 63) 18
abbrev n_Board_do_turn : List Str := ["self", "index", "lamps", "place", "colour"]
theorem sc_Board_do_turn : FnScope n_Board_do_turn ["self", "index"] (defScope s_Board_do_turn) := ⟨rfl, rfl, rfl, by decide +kernel, rfl, by decide +kernel, by decide +kernel⟩
abbrev s_Board_undo : Stmt := inClass (top 63) 19
abbrev n_Board_undo : List Str := ["self", "floor"]
theorem sc_Board_undo : FnScope n_Board_undo ["self"] (defScope s_Board_undo) := ⟨rfl, rfl, rfl, by decide +kernel, rfl, by decide +kernel, by decide +kernel⟩
abbrev s_Board_begin : Stmt := inClass (top 63) 20
abbrev n_Board_begin : List Str := ["self"]
theorem sc_Board_begin : FnScope n_Board_begin ["self"] (defScope s_Board_begin) := ⟨rfl, rfl, rfl, by decide +kernel, rfl, by decide +kernel, by decide +kernel⟩
abbrev s_Board_finish : Stmt := inClass (top 63) 21
abbrev n_Board_finish : List Str := ["self"]
theorem sc_Board_finish : FnScope n_Board_finish ["self"] (defScope s_Board_finish) := ⟨rfl, rfl, rfl, by decide +kernel, rfl, by decide +kernel, by decide +kernel⟩
abbrev s_Board_clearing : Stmt := inClass (top 63) 22
abbrev n_Board_clearing : List Str := ["self", "prime", "missing", "found", "colour"]
theorem sc_Board_clearing : FnScope n_Board_clearing ["self"] (defScope s_Board_clearing) := ⟨rfl, rfl, rfl, by decide +kernel, rfl, by decide +kernel, by decide +kernel⟩
abbrev s_whole_of : Stmt := top 72
abbrev n_whole_of : List Str := ["word", "digits", "sign"]
theorem sc_whole_of : FnScope n_whole_of ["word"] (defScope s_whole_of) := ⟨rfl, rfl, rfl, by decide +kernel, rfl, by decide +kernel, by decide +kernel⟩
abbrev s_pair_of : Stmt := top 73
abbrev n_pair_of : List Str := ["word", "before", "colon", "behind", "first", "second"]
theorem sc_pair_of : FnScope n_pair_of ["word"] (defScope s_pair_of) := ⟨rfl, rfl, rfl, by decide +kernel, rfl, by decide +kernel, by decide +kernel⟩
abbrev s_pair_words : Stmt := top 74
abbrev n_pair_words : List Str := ["pairs", "first", "second"]
theorem sc_pair_words : FnScope n_pair_words ["pairs"] (defScope s_pair_words) := ⟨rfl, rfl, rfl, by decide +kernel, rfl, by decide +kernel, by decide +kernel⟩
abbrev s_word_at : Stmt := top 75
abbrev n_word_at : List Str := ["words", "at"]
theorem sc_word_at : FnScope n_word_at ["words", "at"] (defScope s_word_at) := ⟨rfl, rfl, rfl, by decide +kernel, rfl, by decide +kernel, by decide +kernel⟩
abbrev s_need_word : Stmt := top 76
abbrev n_need_word : List Str := ["words", "at", "right"]
theorem sc_need_word : FnScope n_need_word ["words", "at", "right"] (defScope s_need_word) := ⟨rfl, rfl, rfl, by decide +kernel, rfl, by decide +kernel, by decide +kernel⟩
abbrev s_number_at : Stmt := top 77
abbrev n_number_at : List Str := ["words", "at", "low", "high", "number"]
theorem sc_number_at : FnScope n_number_at ["words", "at", "low", "high"] (defScope s_number_at) := ⟨rfl, rfl, rfl, by decide +kernel, rfl, by decide +kernel, by decide +kernel⟩
abbrev s_pair_at : Stmt := top 78
abbrev n_pair_at : List Str := ["prime", "words", "at", "low", "high", "pair"]
theorem sc_pair_at : FnScope n_pair_at ["prime", "words", "at", "low", "high"] (defScope s_pair_at) := ⟨rfl, rfl, rfl, by decide +kernel, rfl, by decide +kernel, by decide +kernel⟩
abbrev s_pairs_at : Stmt := top 79
abbrev n_pairs_at : List Str := ["prime", "words", "at", "low", "high", "found", "pair"]
theorem sc_pairs_at : FnScope n_pairs_at ["prime", "words", "at", "low", "high"] (defScope s_pairs_at) := ⟨rfl, rfl, rfl, by decide +kernel, rfl, by decide +kernel, by decide +kernel⟩
abbrev s_write_panel : Stmt := top 80
abbrev n_write_panel : List Str := ["panel", "words", "button"]
theorem sc_write_panel : FnScope n_write_panel ["panel"] (defScope s_write_panel) := ⟨rfl, rfl, rfl, by decide +kernel, rfl, by decide +kernel, by decide +kernel⟩
abbrev s_read_panel : Stmt := top 81
abbrev n_read_panel : List Str := ["text", "words", "buttons", "at", "prime", "first", "others"]
theorem sc_read_panel : FnScope n_read_panel ["text"] (defScope s_read_panel) := ⟨rfl, rfl, rfl, by decide +kernel, rfl, by decide +kernel, by decide +kernel⟩
abbrev s_write_picture : Stmt := top 82
abbrev n_write_picture : List Str := ["prime", "size", "picture"]
theorem sc_write_picture : FnScope n_write_picture ["prime", "size", "picture"] (defScope s_write_picture) := ⟨rfl, rfl, rfl, by decide +kernel, rfl, by decide +kernel, by decide +kernel⟩
abbrev s_read_picture : Stmt := top 83
abbrev n_read_picture : List Str := ["prime", "text", "words", "size", "picture", "at"]
theorem sc_read_picture : FnScope n_read_picture ["prime", "text"] (defScope s_read_picture) := ⟨rfl, rfl, rfl, by decide +kernel, rfl, by decide +kernel, by decide +kernel⟩
abbrev s_are_numbers : Stmt := top 88
abbrev n_are_numbers : List Str := ["words", "word"]
theorem sc_are_numbers : FnScope n_are_numbers ["words"] (defScope s_are_numbers) := ⟨rfl, rfl, rfl, by decide +kernel, rfl, by decide +kernel, by decide +kernel⟩
abbrev s_is_known : Stmt := top 89
abbrev n_is_known : List Str := ["command", "depth", "words"]
theorem sc_is_known : FnScope n_is_known ["command", "depth"] (defScope s_is_known) := ⟨rfl, rfl, rfl, by decide +kernel, rfl, by decide +kernel, by decide +kernel⟩
abbrev s_Block_init : Stmt := inClass (top 90) 0
abbrev n_Block_init : List Str := ["self", "board"]
theorem sc_Block_init : FnScope n_Block_init ["self", "board"] (defScope s_Block_init) := ⟨rfl, rfl, rfl, by decide +kernel, rfl, by decide +kernel, by decide +kernel⟩
abbrev s_Block_enter : Stmt := inClass (top 90) 1
abbrev n_Block_enter : List Str := ["self", "board"]
theorem sc_Block_enter : FnScope n_Block_enter ["self"] (defScope s_Block_enter) := ⟨rfl, rfl, rfl, by decide +kernel, rfl, by decide +kernel, by decide +kernel⟩
abbrev s_Block_exit : Stmt := inClass (top 90) 2
abbrev n_Block_exit : List Str := ["self", "kind", "value", "trace"]
theorem sc_Block_exit : FnScope n_Block_exit ["self", "kind", "value", "trace"] (defScope s_Block_exit) := ⟨rfl, rfl, rfl, by decide +kernel, rfl, by decide +kernel, by decide +kernel⟩
abbrev s_Console_init : Stmt := inClass (top 91) 0
abbrev n_Console_init : List Str := ["self", "panel", "size"]
theorem sc_Console_init : FnScope n_Console_init ["self", "panel", "size"] (defScope s_Console_init) := ⟨rfl, rfl, rfl, by decide +kernel, rfl, by decide +kernel, by decide +kernel⟩
abbrev s_Console_execute : Stmt := inClass (top 91) 1
abbrev n_Console_execute : List Str := ["self", "command"]
theorem sc_Console_execute : FnScope n_Console_execute ["self", "command"] (defScope s_Console_execute) := ⟨rfl, rfl, rfl, by decide +kernel, rfl, by decide +kernel, by decide +kernel⟩
abbrev s_Console_answer : Stmt := inClass (top 91) 2
abbrev n_Console_answer : List Str := ["self", "command", "words", "numbers", "word"]
theorem sc_Console_answer : FnScope n_Console_answer ["self", "command"] (defScope s_Console_answer) := ⟨rfl, rfl, rfl, by decide +kernel, rfl, by decide +kernel, by decide +kernel⟩
abbrev s_Console_tried : Stmt := inClass (top 91) 3
abbrev n_Console_tried : List Str := ["self", "words", "board"]
theorem sc_Console_tried : FnScope n_Console_tried ["self", "words"] (defScope s_Console_tried) := ⟨rfl, rfl, rfl, by decide +kernel, rfl, by decide +kernel, by decide +kernel⟩
abbrev s_Console_told : Stmt := inClass (top 91) 5
abbrev n_Console_told : List Str := ["self", "word", "numbers", "panel", "size", "picture"]
theorem sc_Console_told : FnScope n_Console_told ["self", "word", "numbers"] (defScope s_Console_told) := ⟨rfl, rfl, rfl, by decide +kernel, rfl, by decide +kernel, by decide +kernel⟩
abbrev s_law_bag : Stmt := top 93
abbrev n_law_bag : List Str := ["_law_cell", "_law_rest"]
theorem sc_law_bag : FnScope n_law_bag ["_law_cell"] (defScope s_law_bag) := ⟨rfl, rfl, rfl, by decide +kernel, rfl, by decide +kernel, by decide +kernel⟩
abbrev s_law_draw : Stmt := top 94
abbrev n_law_draw : List Str := ["_law_bag_here", "_law_many", "_law_digit", "_law_turn", "_law_mixed"]
theorem sc_law_draw : FnScope n_law_draw ["_law_bag_here", "_law_many"] (defScope s_law_draw) := ⟨rfl, rfl, rfl, by decide +kernel, rfl, by decide +kernel, by decide +kernel⟩
abbrev s_law_base : Stmt := top 95
abbrev n_law_base : List Str := ["_law_bag_here"]
theorem sc_law_base : FnScope n_law_base ["_law_bag_here"] (defScope s_law_base) := ⟨rfl, rfl, rfl, by decide +kernel, rfl, by decide +kernel, by decide +kernel⟩
abbrev s_law_pairs : Stmt := top 96
abbrev n_law_pairs : List Str := ["_law_bag_here", "_law_base_here", "_law_far", "_law_often", "_law_found", "_law_k"]
theorem sc_law_pairs : FnScope n_law_pairs ["_law_bag_here", "_law_base_here", "_law_far"] (defScope s_law_pairs) := ⟨rfl, rfl, rfl, by decide +kernel, rfl, by decide +kernel, by decide +kernel⟩
abbrev s_law_desk : Stmt := top 99
abbrev n_law_desk : List Str := ["_law_bag_here", "_law_base_here", "_law_most", "_law_far", "_law_found", "_law_k", "_law_pairs_here"]
theorem sc_law_desk : FnScope n_law_desk ["_law_bag_here", "_law_base_here", "_law_most", "_law_far"] (defScope s_law_desk) := ⟨rfl, rfl, rfl, by decide +kernel, rfl, by decide +kernel, by decide +kernel⟩
abbrev s_law_clearing : Stmt := top 100
abbrev n_law_clearing : List Str := ["_law_board", "_law_found"]
theorem sc_law_clearing : FnScope n_law_clearing ["_law_board"] (defScope s_law_clearing) := ⟨rfl, rfl, rfl, by decide +kernel, rfl, by decide +kernel, by decide +kernel⟩
abbrev s_law_agree : Stmt := top 101
abbrev n_law_agree : List Str := ["_law_desk_here", "_law_board", "_law_console", "_law_base_here", "_law_wide", "_law_lights", "_law_told", "_law_presses_here", "_law_due", "_law_ahead", "_law_at", "_law_spot", "_law_times_here", "_law_k"]
theorem sc_law_agree : FnScope n_law_agree ["_law_desk_here", "_law_board", "_law_console"] (defScope s_law_agree) := ⟨rfl, rfl, rfl, by decide +kernel, rfl, by decide +kernel, by decide +kernel⟩
abbrev s_law_deed_right : Stmt := top 102
abbrev n_law_deed_right : List Str := ["_law_bag_here", "_law_desk_here", "_law_board", "_law_console", "_law_twin", "_law_way", "_law_at", "_law_spot", "_law_times_here", "_law_ask", "_law_due", "_law_shade"]
theorem sc_law_deed_right : FnScope n_law_deed_right ["_law_bag_here", "_law_desk_here", "_law_board", "_law_console", "_law_twin"] (defScope s_law_deed_right) := ⟨rfl, rfl, rfl, by decide +kernel, rfl, by decide +kernel, by decide +kernel⟩
abbrev s_law : Stmt := top 103
abbrev n_law : List Str := ["_law_script", "_law_cell", "_law_bag_here", "_law_base_here", "_law_wide", "_law_desk_here", "_law_board", "_law_console", "_law_twin", "_law_k", "_law_due"]
theorem sc_law : FnScope n_law ["_law_script"] (defScope s_law) := ⟨rfl, rfl, rfl, by decide +kernel, rfl, by decide +kernel, by decide +kernel⟩
def d_NotReached_init : DefZ := ⟨(fun K => He.ma K (He.ga K "NotReached") "__init__"), "__init__", "NotReached.__init__", defArgs s_NotReached_init, defBody s_NotReached_init, defScope s_NotReached_init, []⟩
def d_is_number : DefZ := ⟨(fun K => He.ga K "is_number"), "is_number", "is_number", defArgs s_is_number, defBody s_is_number, defScope s_is_number, []⟩
def d_is_whole : DefZ := ⟨(fun K => He.ga K "is_whole"), "is_whole", "is_whole", defArgs s_is_whole, defBody s_is_whole, defScope s_is_whole, []⟩
def d_is_prime : DefZ := ⟨(fun K => He.ga K "is_prime"), "is_prime", "is_prime", defArgs s_is_prime, defBody s_is_prime, defScope s_is_prime, []⟩
def d_is_pair : DefZ := ⟨(fun K => He.ga K "is_pair"), "is_pair", "is_pair", defArgs s_is_pair, defBody s_is_pair, defScope s_is_pair, []⟩
def d_fits_rule : DefZ := ⟨(fun K => He.ga K "fits_rule"), "fits_rule", "fits_rule", defArgs s_fits_rule, defBody s_fits_rule, defScope s_fits_rule, []⟩
def d_need_prime : DefZ := ⟨(fun K => He.ga K "need_prime"), "need_prime", "need_prime", defArgs s_need_prime, defBody s_need_prime, defScope s_need_prime, []⟩
def d_need_number : DefZ := ⟨(fun K => He.ga K "need_number"), "need_number", "need_number", defArgs s_need_number, defBody s_need_number, defScope s_need_number, []⟩
def d_trimmed : DefZ := ⟨(fun K => He.ga K "trimmed"), "trimmed", "trimmed", defArgs s_trimmed, defBody s_trimmed, defScope s_trimmed, []⟩
def d_inverse : DefZ := ⟨(fun K => He.ga K "inverse"), "inverse", "inverse", defArgs s_inverse, defBody s_inverse, defScope s_inverse, []⟩
def d_scaled : DefZ := ⟨(fun K => He.ga K "scaled"), "scaled", "scaled", defArgs s_scaled, defBody s_scaled, defScope s_scaled, []⟩
def d_monic : DefZ := ⟨(fun K => He.ga K "monic"), "monic", "monic", defArgs s_monic, defBody s_monic, defScope s_monic, []⟩
def d_added : DefZ := ⟨(fun K => He.ga K "added"), "added", "added", defArgs s_added, defBody s_added, defScope s_added, []⟩
def d_timesed : DefZ := ⟨(fun K => He.ga K "timesed"), "timesed", "timesed", defArgs s_timesed, defBody s_timesed, defScope s_timesed, []⟩
def d_divided : DefZ := ⟨(fun K => He.ga K "divided"), "divided", "divided", defArgs s_divided, defBody s_divided, defScope s_divided, []⟩
def d_common_of_two : DefZ := ⟨(fun K => He.ga K "common_of_two"), "common_of_two", "common_of_two", defArgs s_common_of_two, defBody s_common_of_two, defScope s_common_of_two, []⟩
def d_gcd_of : DefZ := ⟨(fun K => He.ga K "gcd_of"), "gcd_of", "gcd_of", defArgs s_gcd_of, defBody s_gcd_of, defScope s_gcd_of, []⟩
def d_power_of_x : DefZ := ⟨(fun K => He.ga K "power_of_x"), "power_of_x", "power_of_x", defArgs s_power_of_x, defBody s_power_of_x, defScope s_power_of_x, []⟩
def d_of_rule : DefZ := ⟨(fun K => He.ga K "of_rule"), "of_rule", "of_rule", defArgs s_of_rule, defBody s_of_rule, defScope s_of_rule, []⟩
def d_core_of : DefZ := ⟨(fun K => He.ga K "core_of"), "core_of", "core_of", defArgs s_core_of, defBody s_core_of, defScope s_core_of, []⟩
def d_fits_panel : DefZ := ⟨(fun K => He.ga K "fits_panel"), "fits_panel", "fits_panel", defArgs s_fits_panel, defBody s_fits_panel, defScope s_fits_panel, []⟩
def d_is_lamp : DefZ := ⟨(fun K => He.ga K "is_lamp"), "is_lamp", "is_lamp", defArgs s_is_lamp, defBody s_is_lamp, defScope s_is_lamp, []⟩
def d_fits_picture : DefZ := ⟨(fun K => He.ga K "fits_picture"), "fits_picture", "fits_picture", defArgs s_fits_picture, defBody s_fits_picture, defScope s_fits_picture, []⟩
def d_need_panel : DefZ := ⟨(fun K => He.ga K "need_panel"), "need_panel", "need_panel", defArgs s_need_panel, defBody s_need_panel, defScope s_need_panel, []⟩
def d_need_size : DefZ := ⟨(fun K => He.ga K "need_size"), "need_size", "need_size", defArgs s_need_size, defBody s_need_size, defScope s_need_size, []⟩
def d_need_picture : DefZ := ⟨(fun K => He.ga K "need_picture"), "need_picture", "need_picture", defArgs s_need_picture, defBody s_need_picture, defScope s_need_picture, []⟩
def d_generator_of : DefZ := ⟨(fun K => He.ga K "generator_of"), "generator_of", "generator_of", defArgs s_generator_of, defBody s_generator_of, defScope s_generator_of, []⟩
def d_divisor_on : DefZ := ⟨(fun K => He.ga K "divisor_on"), "divisor_on", "divisor_on", defArgs s_divisor_on, defBody s_divisor_on, defScope s_divisor_on, []⟩
def d_rest_of : DefZ := ⟨(fun K => He.ga K "rest_of"), "rest_of", "rest_of", defArgs s_rest_of, defBody s_rest_of, defScope s_rest_of, []⟩
def d_behind_press : DefZ := ⟨(fun K => He.ga K "behind_press"), "behind_press", "behind_press", defArgs s_behind_press, defBody s_behind_press, defScope s_behind_press, []⟩
def d_colours_of : DefZ := ⟨(fun K => He.ga K "colours_of"), "colours_of", "colours_of", defArgs s_colours_of, defBody s_colours_of, defScope s_colours_of, []⟩
def d_picture_of : DefZ := ⟨(fun K => He.ga K "picture_of"), "picture_of", "picture_of", defArgs s_picture_of, defBody s_picture_of, defScope s_picture_of, []⟩
def d_lessened : DefZ := ⟨(fun K => He.ga K "lessened"), "lessened", "lessened", defArgs s_lessened, defBody s_lessened, defScope s_lessened, []⟩
def d_lessened_by : DefZ := ⟨(fun K => He.ga K "lessened_by"), "lessened_by", "lessened_by", defArgs s_lessened_by, defBody s_lessened_by, defScope s_lessened_by, []⟩
def d_basis_of : DefZ := ⟨(fun K => He.ga K "basis_of"), "basis_of", "basis_of", defArgs s_basis_of, defBody s_basis_of, defScope s_basis_of, []⟩
def d_found_presses : DefZ := ⟨(fun K => He.ga K "found_presses"), "found_presses", "found_presses", defArgs s_found_presses, defBody s_found_presses, defScope s_found_presses, []⟩
def d_found_weights : DefZ := ⟨(fun K => He.ga K "found_weights"), "found_weights", "found_weights", defArgs s_found_weights, defBody s_found_weights, defScope s_found_weights, []⟩
def d_can_reach : DefZ := ⟨(fun K => He.ga K "can_reach"), "can_reach", "can_reach", defArgs s_can_reach, defBody s_can_reach, defScope s_can_reach, []⟩
def d_Board_init : DefZ := ⟨(fun K => He.ma K (He.ga K "Board") "__init__"), "__init__", "Board.__init__", defArgs s_Board_init, defBody s_Board_init, defScope s_Board_init, [.adr (fun K => dfl0 K "Board" "__init__")]⟩
def d_Board_panel : DefZ := ⟨(fun K => gAd K "Board" "panel"), "panel", "Board.panel", defArgs s_Board_panel, defBody s_Board_panel, defScope s_Board_panel, []⟩
def d_Board_size : DefZ := ⟨(fun K => gAd K "Board" "size"), "size", "Board.size", defArgs s_Board_size, defBody s_Board_size, defScope s_Board_size, []⟩
def d_Board_picture : DefZ := ⟨(fun K => gAd K "Board" "picture"), "picture", "Board.picture", defArgs s_Board_picture, defBody s_Board_picture, defScope s_Board_picture, []⟩
def d_Board_deeds : DefZ := ⟨(fun K => gAd K "Board" "deeds"), "deeds", "Board.deeds", defArgs s_Board_deeds, defBody s_Board_deeds, defScope s_Board_deeds, []⟩
def d_Board_lit : DefZ := ⟨(fun K => gAd K "Board" "lit"), "lit", "Board.lit", defArgs s_Board_lit, defBody s_Board_lit, defScope s_Board_lit, []⟩
def d_Board_len : DefZ := ⟨(fun K => He.ma K (He.ga K "Board") "__len__"), "__len__", "Board.__len__", defArgs s_Board_len, defBody s_Board_len, defScope s_Board_len, []⟩
def d_Board_getitem : DefZ := ⟨(fun K => He.ma K (He.ga K "Board") "__getitem__"), "__getitem__", "Board.__getitem__", defArgs s_Board_getitem, defBody s_Board_getitem, defScope s_Board_getitem, []⟩
def d_Board_setitem : DefZ := ⟨(fun K => He.ma K (He.ga K "Board") "__setitem__"), "__setitem__", "Board.__setitem__", defArgs s_Board_setitem, defBody s_Board_setitem, defScope s_Board_setitem, []⟩
def d_Board_need_place : DefZ := ⟨(fun K => He.ma K (He.ga K "Board") "need_place"), "need_place", "Board.need_place", defArgs s_Board_need_place, defBody s_Board_need_place, defScope s_Board_need_place, []⟩
def d_Board_need_button : DefZ := ⟨(fun K => He.ma K (He.ga K "Board") "need_button"), "need_button", "Board.need_button", defArgs s_Board_need_button, defBody s_Board_need_button, defScope s_Board_need_button, []⟩
def d_Board_allows : DefZ := ⟨(fun K => He.ma K (He.ga K "Board") "allows"), "allows", "Board.allows", defArgs s_Board_allows, defBody s_Board_allows, defScope s_Board_allows, []⟩
def d_Board_note : DefZ := ⟨(fun K => He.ma K (He.ga K "Board") "note"), "note", "Board.note", defArgs s_Board_note, defBody s_Board_note, defScope s_Board_note, []⟩
def d_Board_press : DefZ := ⟨(fun K => He.ma K (He.ga K "Board") "press"), "press", "Board.press", defArgs s_Board_press, defBody s_Board_press, defScope s_Board_press, [.int 1]⟩
def d_Board_do_turn : DefZ := ⟨(fun K => He.ma K (He.ga K "Board") "do_turn"), "do_turn", "Board.do_turn", defArgs s_Board_do_turn, defBody s_Board_do_turn, defScope s_Board_do_turn, []⟩
def d_Board_undo : DefZ := ⟨(fun K => He.ma K (He.ga K "Board") "undo"), "undo", "Board.undo", defArgs s_Board_undo, defBody s_Board_undo, defScope s_Board_undo, []⟩
def d_Board_begin : DefZ := ⟨(fun K => He.ma K (He.ga K "Board") "begin"), "begin", "Board.begin", defArgs s_Board_begin, defBody s_Board_begin, defScope s_Board_begin, []⟩
def d_Board_finish : DefZ := ⟨(fun K => He.ma K (He.ga K "Board") "finish"), "finish", "Board.finish", defArgs s_Board_finish, defBody s_Board_finish, defScope s_Board_finish, []⟩
def d_Board_clearing : DefZ := ⟨(fun K => He.ma K (He.ga K "Board") "clearing"), "clearing", "Board.clearing", defArgs s_Board_clearing, defBody s_Board_clearing, defScope s_Board_clearing, []⟩
def d_whole_of : DefZ := ⟨(fun K => He.ga K "whole_of"), "whole_of", "whole_of", defArgs s_whole_of, defBody s_whole_of, defScope s_whole_of, []⟩
def d_pair_of : DefZ := ⟨(fun K => He.ga K "pair_of"), "pair_of", "pair_of", defArgs s_pair_of, defBody s_pair_of, defScope s_pair_of, []⟩
def d_pair_words : DefZ := ⟨(fun K => He.ga K "pair_words"), "pair_words", "pair_words", defArgs s_pair_words, defBody s_pair_words, defScope s_pair_words, []⟩
def d_word_at : DefZ := ⟨(fun K => He.ga K "word_at"), "word_at", "word_at", defArgs s_word_at, defBody s_word_at, defScope s_word_at, []⟩
def d_need_word : DefZ := ⟨(fun K => He.ga K "need_word"), "need_word", "need_word", defArgs s_need_word, defBody s_need_word, defScope s_need_word, []⟩
def d_number_at : DefZ := ⟨(fun K => He.ga K "number_at"), "number_at", "number_at", defArgs s_number_at, defBody s_number_at, defScope s_number_at, []⟩
def d_pair_at : DefZ := ⟨(fun K => He.ga K "pair_at"), "pair_at", "pair_at", defArgs s_pair_at, defBody s_pair_at, defScope s_pair_at, []⟩
def d_pairs_at : DefZ := ⟨(fun K => He.ga K "pairs_at"), "pairs_at", "pairs_at", defArgs s_pairs_at, defBody s_pairs_at, defScope s_pairs_at, []⟩
def d_write_panel : DefZ := ⟨(fun K => He.ga K "write_panel"), "write_panel", "write_panel", defArgs s_write_panel, defBody s_write_panel, defScope s_write_panel, []⟩
def d_read_panel : DefZ := ⟨(fun K => He.ga K "read_panel"), "read_panel", "read_panel", defArgs s_read_panel, defBody s_read_panel, defScope s_read_panel, []⟩
def d_write_picture : DefZ := ⟨(fun K => He.ga K "write_picture"), "write_picture", "write_picture", defArgs s_write_picture, defBody s_write_picture, defScope s_write_picture, []⟩
def d_read_picture : DefZ := ⟨(fun K => He.ga K "read_picture"), "read_picture", "read_picture", defArgs s_read_picture, defBody s_read_picture, defScope s_read_picture, []⟩
def d_are_numbers : DefZ := ⟨(fun K => He.ga K "are_numbers"), "are_numbers", "are_numbers", defArgs s_are_numbers, defBody s_are_numbers, defScope s_are_numbers, []⟩
def d_is_known : DefZ := ⟨(fun K => He.ga K "is_known"), "is_known", "is_known", defArgs s_is_known, defBody s_is_known, defScope s_is_known, []⟩
def d_Block_init : DefZ := ⟨(fun K => He.ma K (He.ga K "Block") "__init__"), "__init__", "Block.__init__", defArgs s_Block_init, defBody s_Block_init, defScope s_Block_init, []⟩
def d_Block_enter : DefZ := ⟨(fun K => He.ma K (He.ga K "Block") "__enter__"), "__enter__", "Block.__enter__", defArgs s_Block_enter, defBody s_Block_enter, defScope s_Block_enter, []⟩
def d_Block_exit : DefZ := ⟨(fun K => He.ma K (He.ga K "Block") "__exit__"), "__exit__", "Block.__exit__", defArgs s_Block_exit, defBody s_Block_exit, defScope s_Block_exit, []⟩
def d_Console_init : DefZ := ⟨(fun K => He.ma K (He.ga K "Console") "__init__"), "__init__", "Console.__init__", defArgs s_Console_init, defBody s_Console_init, defScope s_Console_init, []⟩
def d_Console_execute : DefZ := ⟨(fun K => He.ma K (He.ga K "Console") "execute"), "execute", "Console.execute", defArgs s_Console_execute, defBody s_Console_execute, defScope s_Console_execute, []⟩
def d_Console_answer : DefZ := ⟨(fun K => He.ma K (He.ga K "Console") "answer"), "answer", "Console.answer", defArgs s_Console_answer, defBody s_Console_answer, defScope s_Console_answer, []⟩
def d_Console_tried : DefZ := ⟨(fun K => He.ma K (He.ga K "Console") "tried"), "tried", "Console.tried", defArgs s_Console_tried, defBody s_Console_tried, defScope s_Console_tried, []⟩
def d_Console_told : DefZ := ⟨(fun K => He.ma K (He.ga K "Console") "told"), "told", "Console.told", defArgs s_Console_told, defBody s_Console_told, defScope s_Console_told, []⟩
def d_law_bag : DefZ := ⟨(fun K => He.ga K "_law_bag"), "_law_bag", "_law_bag", defArgs s_law_bag, defBody s_law_bag, defScope s_law_bag, []⟩
def d_law_draw : DefZ := ⟨(fun K => He.ga K "_law_draw"), "_law_draw", "_law_draw", defArgs s_law_draw, defBody s_law_draw, defScope s_law_draw, []⟩
def d_law_base : DefZ := ⟨(fun K => He.ga K "_law_base"), "_law_base", "_law_base", defArgs s_law_base, defBody s_law_base, defScope s_law_base, []⟩
def d_law_pairs : DefZ := ⟨(fun K => He.ga K "_law_pairs"), "_law_pairs", "_law_pairs", defArgs s_law_pairs, defBody s_law_pairs, defScope s_law_pairs, []⟩
def d_law_desk : DefZ := ⟨(fun K => He.ga K "_law_desk"), "_law_desk", "_law_desk", defArgs s_law_desk, defBody s_law_desk, defScope s_law_desk, []⟩
def d_law_clearing : DefZ := ⟨(fun K => He.ga K "_law_clearing"), "_law_clearing", "_law_clearing", defArgs s_law_clearing, defBody s_law_clearing, defScope s_law_clearing, []⟩
def d_law_agree : DefZ := ⟨(fun K => He.ga K "_law_agree"), "_law_agree", "_law_agree", defArgs s_law_agree, defBody s_law_agree, defScope s_law_agree, []⟩
def d_law_deed_right : DefZ := ⟨(fun K => He.ga K "_law_deed_right"), "_law_deed_right", "_law_deed_right", defArgs s_law_deed_right, defBody s_law_deed_right, defScope s_law_deed_right, []⟩
def d_law : DefZ := ⟨(fun K => He.ga K "law"), "law", "law", defArgs s_law, defBody s_law, defScope s_law, []⟩
def defs0 : List DefZ := [d_NotReached_init, d_is_number, d_is_whole, d_is_prime, d_is_pair, d_fits_rule, d_need_prime, d_need_number, d_trimmed, d_inverse, d_scaled, d_monic, d_added, d_timesed, d_divided, d_common_of_two, d_gcd_of, d_power_of_x, d_of_rule, d_core_of, d_fits_panel, d_is_lamp, d_fits_picture, d_need_panel, d_need_size, d_need_picture, d_generator_of, d_divisor_on, d_rest_of, d_behind_press]
def defs1 : List DefZ := [d_colours_of, d_picture_of, d_lessened, d_lessened_by, d_basis_of, d_found_presses, d_found_weights, d_can_reach, d_Board_init, d_Board_panel, d_Board_size, d_Board_picture, d_Board_deeds, d_Board_lit, d_Board_len, d_Board_getitem, d_Board_setitem, d_Board_need_place, d_Board_need_button, d_Board_allows, d_Board_note, d_Board_press, d_Board_do_turn, d_Board_undo, d_Board_begin, d_Board_finish, d_Board_clearing, d_whole_of, d_pair_of, d_pair_words]
def defs2 : List DefZ := [d_word_at, d_need_word, d_number_at, d_pair_at, d_pairs_at, d_write_panel, d_read_panel, d_write_picture, d_read_picture, d_are_numbers, d_is_known, d_Block_init, d_Block_enter, d_Block_exit, d_Console_init, d_Console_execute, d_Console_answer, d_Console_tried, d_Console_told, d_law_bag, d_law_draw, d_law_base, d_law_pairs, d_law_desk, d_law_clearing, d_law_agree, d_law_deed_right, d_law]
def defsL : List DefZ := defs0 ++ defs1 ++ defs2
/-! ### the calls -/
/-- a property of a class -/
structure Prp (P : Program) (w : World) (K : PySem.W.Frag) (mg : Str → Option Value) (base : Heap) (k : Nat) (C f : Str) (sp : Sp) : Prop where
  ex : ∃ (p g : Addr) (fd : FuncData), PropOf K (He.ga K C) f p g ∧ Cls K (He.ga K C) ∧ FnOk P w K mg base CX0 k g fd ["self"] sp ∧ Binds K fd ["self"] []
theorem Prp.prop {X : Cx} {j k : Nat} {C f : Str} {sp : Sp} {e : Expr} {ta : TE} {pos : Pos} (c : Prp X.prog X.w X.K X.mg X.base k C f sp) (he : PE X e ta) (hr : Room j X.A) (hk : k + 1 ≤ j)
    (hab : attributeBase e f X.env (eval e X.env) = eval e X.env) : PE X (.Attribute e f pos) (tProp (He.ga X.K C) sp [] E0 ta) := by
  obtain ⟨p, g, fd, hp, cl, F, b⟩ := c.ex
  exact pe_prop he cl hp F (hr.mono hk) b .nil pass0 hab
/-- a special method of a class -/
structure Spm (P : Program) (w : World) (K : PySem.W.Frag) (mg : Str → Option Value) (base : Heap) (k : Nat) (C m : Str) (sp : Sp) : Prop where
  ex : ∃ (f : Addr) (fd : FuncData) (ps : List Str), Meth K (He.ga K C) m f ∧ Cls K (He.ga K C) ∧ PySem.W.fnIn K f = true ∧ FnOk P w K mg base CX0 k f fd ps sp ∧ Binds K fd ps []
section
variable {X : Cx} {j k : Nat} {C : Str} {sp : Sp}
theorem spm_len (c : Spm X.prog X.w X.K X.mg X.base k C "__len__" sp) (hl : ∀ vs H Q E, sp vs H Q E → vs.length = 1) (hr : Room j X.A) (hk : k + 1 ≤ j) :
    CallR X (.builtin "len") (fun xs H Q => ∃ a dx fs, xs = [.ref a] ∧ H a = some (.ins (He.ga X.K C) dx fs) ∧ sp [.ref a] H (fun v H' => ∃ n : Int, v = .int n ∧ 0 ≤ n ∧ n < 2 ^ 63 ∧ Q (.int n) H') E0) := by
  obtain ⟨f, fd, ps, me, cl, fi, F, b⟩ := c.ex
  exact call_lenOwn me.at_ me.fn F (hr.mono hk) b
theorem spm_item {a b : Expr} {ta tb : TE} {pos : Pos} (c : Spm X.prog X.w X.K X.mg X.base k C "__getitem__" sp) (hr : Room j X.A) (hk : k + 1 ≤ j) (h1 : PE X a ta) (h2 : PE X b tb)
    (hsl : ∀ o i, subscripted b true o i = runValue (.builtin "lifetime.subscript" ⟨[o, i], []⟩) := by intro _ _; with_unfolding_all rfl) : PE X (.Subscript a b pos) (tItemOwn (He.ga X.K C) sp ta tb) := by
  obtain ⟨f, fd, ps, me, cl, fi, F, b⟩ := c.ex
  exact pe_itemOwn me.at_ fi me.fn F (hr.mono hk) b h1 h2 hsl
theorem spm_set (c : Spm X.prog X.w X.K X.mg X.base k C "__setitem__" sp) (hq : PySem.W.noSeq X.K (He.ga X.K C) = true) (hr : Room j X.A) (hk : k ≤ j) :
    PSet X (fun o i v H Q => ∃ a dx fs, o = .ref a ∧ H a = some (.ins (He.ga X.K C) dx fs) ∧ sp [.ref a, i, v] H (fun _ H' => Q H') E0) := by
  obtain ⟨f, fd, ps, me, cl, fi, F, b⟩ := c.ex
  exact set_own hq me.at_ me.fn F (hr.mono hk) b
theorem spm_with {kX : Nat} {ctx : Expr} {y : Str} {py pos : Pos} {body : List Stmt} {i : Nat} {spX : Sp} {te : TE} {tb : TS} (hN : X.N.Nodup) (hi : X.N[i]? = some y) (hy : Loc X.env.scope y) (he : PE X ctx te)
    (cE : Spm X.prog X.w X.K X.mg X.base k C "__enter__" sp) (cX : Spm X.prog X.w X.K X.mg X.base kX C "__exit__" spX) (hr : Room j X.A) (hk : k ≤ j) (hkX : kX ≤ j) (hb : PSs X.nox body tb)
    (hf : X.fn y = true ∨ X.env.scope.names.lookup y = some .local := by first | exact .inl rfl | exact .inr rfl | assumption) :
    PS X (.With [⟨ctx, some (.Name y py)⟩] body pos) (tWith (He.ga X.K C) i sp spX te tb) := by
  obtain ⟨f, fd, ps, me, cl, fi, F, b⟩ := cE.ex
  obtain ⟨f2, fd2, ps2, me2, cl2, fi2, F2, b2⟩ := cX.ex
  exact ps_with hN hi hy he me me2 cl (F.mono hk) b (F2.mono hkX) b2 hr hb hf
end
/-- a method called with a starred list -/
structure Sta (P : Program) (w : World) (K : PySem.W.Frag) (mg : Str → Option Value) (base : Heap) (k : Nat) (C m : Str) (sp : Sp) : Prop where
  cl : Cls K (He.ga K C)
  bm : BMeth K (He.ga K C) m (pAd K C m)
  F : FnR P w K mg base CX0 k (pAd K C m) sp
theorem Sta.star {X : Cx} {j k : Nat} {C m : Str} {sp : Sp} {o e : Expr} {ta te : TE} {p apos pos : Pos} (c : Sta X.prog X.w X.K X.mg X.base k C m sp) (hr : Room j X.A) (hk : k ≤ j) (he : PE X o ta) (ha : PE X e te)
    (hbase : attributeBase o m X.env (eval o X.env) = eval o X.env := by rfl) : PE X (.Call (.Attribute o m apos) [.Starred e p] [] pos) (tMethSA X.K (He.ga X.K C) m (pAd X.K C m) sp E0 ta te) :=
  pe_methSA he c.cl c.bm c.F (hr.mono hk) pass0 ha hbase
theorem FnR.or {P : Program} {w : World} {K : PySem.W.Frag} {mg : Str → Option Value} {base : Heap} {CX : CXT} {k : Nat} {f : Addr} {sp sp' : Sp} (a : FnR P w K mg base CX k f sp) (b : FnR P w K mg base CX k f sp') : FnR P w K mg base CX k f (fun vs H Q E => sp vs H Q E ∨ sp' vs H Q E) :=
  fun A outer s H us vs Q E hr e0 r h => h.elim (a A outer s H us vs Q E hr e0 r) (b A outer s H us vs Q E hr e0 r)
/-- s in d, d a written dict with text keys -/
theorem op_in_kdE {X : Cx} {d : Addr} (h : ∃ es n, KDict X.K X.w d es n) : OpR X (compareOp .In) (fun x y H Q => ∃ (z : Str) (r : Option Value), x = .str z ∧ y = .ref d ∧ PySem.W.nsIn X.K d z = some r ∧ Q (.bl r.isSome) H) := by
  obtain ⟨es, n, D⟩ := h
  exact op_in_kd D

/-! ### what the top has left, by names -/
def gloL0 : List Str := ["is_number", "is_whole", "is_prime", "is_pair", "fits_rule", "need_prime", "need_number", "trimmed", "inverse", "scaled", "monic", "added", "timesed", "divided", "common_of_two", "gcd_of", "power_of_x", "of_rule", "core_of", "fits_panel", "is_lamp", "fits_picture", "need_panel", "need_size", "need_picture", "generator_of", "divisor_on", "rest_of", "behind_press", "colours_of"]
def gloL1 : List Str := ["picture_of", "lessened", "lessened_by", "basis_of", "found_presses", "found_weights", "can_reach", "whole_of", "pair_of", "pair_words", "word_at", "need_word", "number_at", "pair_at", "pairs_at", "write_panel", "read_panel", "write_picture", "read_picture", "are_numbers", "is_known", "_law_bag", "_law_draw", "_law_base", "_law_pairs", "_law_desk", "_law_clearing", "_law_agree", "_law_deed_right", "law"]
def gloL2 : List Str := ["Board", "Block", "Console"]
def gloL : List Str := gloL0 ++ gloL1 ++ gloL2
def freeL : List Str := ["int", "bool", "tuple", "str", "len", "isinstance", "all", "any", "sum", "max", "list", "range", "enumerate", "zip"]
def methL : List (Str × Str) := [("Board", "__len__"), ("Board", "__getitem__"), ("Board", "__setitem__"), ("Board", "need_place"), ("Board", "need_button"), ("Board", "allows"), ("Board", "note"), ("Board", "press"), ("Board", "do_turn"), ("Board", "undo"), ("Board", "begin"), ("Board", "finish"), ("Board", "clearing"), ("Block", "__enter__"), ("Block", "__exit__"), ("Console", "execute"), ("Console", "answer"), ("Console", "tried"), ("Console", "told")]
def propL : List Str := ["panel", "size", "picture", "deeds", "lit"]
structure TX (K : PySem.W.Frag) (mg : Str → Option Value) (w : World) : Prop where
  def_ : ∀ (i : Nat) (d : DefZ), defsL[i]? = some d → ∃ fd, FunD K d.name d.qual d.params d.body d.scope (d.dfl.map (He.Dv.v K)) [] (d.at_ K) fd
  glo : ∀ (i : Nat) (x : Str), gloL[i]? = some x → mg x = some (.ref (He.ga K x))
  fr : ∀ (i : Nat) {x : Str}, freeL[i]? = some x → mg x = none
  meth : ∀ (i : Nat) (p : Str × Str), methL[i]? = some p → Meth K (He.ga K p.1) p.2 (pAd K p.1 p.2) ∧ PySem.W.fnIn K (pAd K p.1 p.2) = true
  prop : ∀ (i : Nat) (f : Str), propL[i]? = some f → PropOf K (He.ga K "Board") f (pAd K "Board" f) (gAd K "Board" f)
  cl_Board : Cls K (He.ga K "Board")
  cl_Block : Cls K (He.ga K "Block")
  cl_Console : Cls K (He.ga K "Console")
  mk_Board : Mk K (He.ga K "Board") (pAd K "Board" "__init__")
  mk_Block : Mk K (He.ga K "Block") (pAd K "Block" "__init__")
  mk_Console : Mk K (He.ga K "Console") (pAd K "Console" "__init__")
  bm_press : BMeth K (He.ga K "Board") "press" (pAd K "Board" "press")
  q_Board : PySem.W.noSeq K (He.ga K "Board") = true
  na_panel : NoAttr K (He.ga K "Board") "whole_panel"
  na_past : NoAttr K (He.ga K "Board") "past"
  na_kept : NoAttr K (He.ga K "Board") "kept"
  na_bboard : NoAttr K (He.ga K "Block") "board"
  na_bpast : NoAttr K (He.ga K "Block") "kept_past"
  na_bblocks : NoAttr K (He.ga K "Block") "kept_blocks"
  na_cboard : NoAttr K (He.ga K "Console") "board"
  t_dfl : ∀ H, SqT K H (dfl0 K "Board" "__init__") []
  g_PRIMES : ∃ u, mg "PRIMES" = some u ∧ RelV (.ref (He.ga K "PRIMES")) u
  t_PRIMES : ∀ H, SqT K H (He.ga K "PRIMES") [.int 2, .int 3, .int 5]
  g_MOST_DIGITS : ∃ u, mg "MOST_DIGITS" = some u ∧ RelV (.int 9) u
  g_MOST_NUMBER : ∃ u, mg "MOST_NUMBER" = some u ∧ RelV (.int 999999999) u
  g_MOST_TRIED : ∃ u, mg "MOST_TRIED" = some u ∧ RelV (.int 8) u
  g_NUMBERS : ∃ u, mg "NUMBERS" = some u ∧ RelV (.ref (He.ga K "NUMBERS")) u
  k_NUMBERS : ∃ es n, KDict K w (He.ga K "NUMBERS") es n
  n_has : ∀ p ∈ ([("press", [2, 3]), ("turn", [1]), ("set", [2]), ("undo", [0]), ("at", [1])] : List (Str × List Int)), ∃ t : Addr, PySem.W.nsIn K (He.ga K "NUMBERS") p.1 = some (some (.ref t)) ∧ ∀ H, SqT K H t (p.2.map V.int)
  n_not : ∀ x ∈ (["picture", "clear", "try"] : List Str), PySem.W.nsIn K (He.ga K "NUMBERS") x = some none
  g_PLAIN_COMMANDS : ∃ u, mg "PLAIN_COMMANDS" = some u ∧ RelV (.ref (He.ga K "PLAIN_COMMANDS")) u
  t_PLAIN_COMMANDS : ∀ H, SqT K H (He.ga K "PLAIN_COMMANDS") [.str "picture", .str "clear", .str "marks"]
  ox_NotReached : OexC K (He.ga K "NotReached")
  in_NotReached : PySem.W.findIn K (.ref (He.ga K "NotReached")) "__init__" = some (some (.ref (pAd K "NotReached" "__init__")))
  ty_NotReached : PySem.W.typeIn K (.ref (pAd K "NotReached" "__init__")) = some (.type "function")
  nw_NotReached : PySem.W.findIn K (.ref (He.ga K "NotReached")) "weights" = some none
  g_NotReached : mg "NotReached" = some (.ref (He.ga K "NotReached"))
  em_NotReached : PySem.W.exmOne K (.ref (He.ga K "NotReached")) (.ref (He.ga K "NotReached")) = some true
  g_RingError : mg "RingError" = some (.ref (He.ga K "RingError"))
  rd_RingError : ClX.CRead K (He.ga K "RingError") (.type "type")
  vi_RingError : PySem.W.findCls K (.ref (He.ga K "RingError")) (.type "type") "__init__" = some (.val (.builtin "ValueError.__init__"))

section
variable {P : Program} {w : World} {K : PySem.W.Frag} {mg : Str → Option Value} {base : Heap}
/-- a def's promise by its body -/
theorem TX.fnok {CX : CXT} (T : TX K mg w) {d : DefZ} (i : Nat) (hi : defsL[i]? = some d) {N ps : List Str} {k : Nat} {sp : Sp} (S : FnScope N ps d.scope) (len : ∀ vs H Q E, sp vs H Q E → vs.length = ps.length)
    (hbody : ∀ (cdv : Value) (A : Around) (outer : List Env) (s : Shared) (H : Hp) (vs : List V) (Q : VK) (E : XK), Room k (A.deeper (envOfC d.qual d.scope s.heap.objs.size (d.at_ K) cdv)) → sp vs H Q E →
      ∃ t, PSs (cxOf CX P w K mg base N d.qual d.scope (d.at_ K) cdv A outer s H E) d.body t ∧ t { nx := fun _ H' => Q .non H', rt := Q } (start N vs) H) :
    ∃ fd, FnOk P w K mg base CX (k + 1) (d.at_ K) fd ps sp ∧ FunD K d.name d.qual d.params d.body d.scope (d.dfl.map (He.Dv.v K)) [] (d.at_ K) fd := by
  obtain ⟨fd, F⟩ := T.def_ i d hi
  exact ⟨fd, F.ok S len hbody, F⟩
abbrev BindH (d : DefZ) (ps : List Str) : Prop := ∀ (kV doc pm : Value) (an : Option Addr) (cdv ct : Value) (us : List Value), us.length = ps.length → bindArgs (PySem.W.fnOf d.name d.qual d.params d.body d.scope .none kV doc pm an cdv ct) ⟨us, []⟩ = pure (ps.zip us)
abbrev BodyH (P : Program) (w : World) (K : PySem.W.Frag) (mg : Str → Option Value) (base : Heap) (d : DefZ) (N : List Str) (k : Nat) (sp : Sp) : Prop :=
  ∀ (cdv : Value) (A : Around) (outer : List Env) (s : Shared) (H : Hp) (vs : List V) (Q : VK) (E : XK), Room k (A.deeper (envOfC d.qual d.scope s.heap.objs.size (d.at_ K) cdv)) → sp vs H Q E →
      ∃ t, PSs (cxOf CX0 P w K mg base N d.qual d.scope (d.at_ K) cdv A outer s H E).nox d.body t ∧ t { nx := fun _ H' => Q .non H', rt := Q } (start N vs) H
theorem TX.bindsN (T : TX K mg w) {d : DefZ} {ps : List Str} {fd : FuncData} (hd : d.dfl = []) (hb : BindH d ps) (F : FunD K d.name d.qual d.params d.body d.scope (d.dfl.map (He.Dv.v K)) [] (d.at_ K) fd) : Binds K fd ps [] := by
  rw [hd] at F
  exact FunD.bindsN F hb
theorem TX.cal (T : TX K mg w) {d : DefZ} (i j : Nat) (hi : defsL[i]? = some d) (hj : gloL[j]? = some d.name) {N ps : List Str} {k : Nat} {sp : Sp} (S : FnScope N ps d.scope) (hb : BindH d ps) (len : ∀ vs H Q E, sp vs H Q E → vs.length = ps.length)
    (hbody : BodyH P w K mg base d N k sp) (hd : d.dfl = [] := by rfl) (ha : d.at_ K = He.ga K d.name := by rfl) : C8.Cal P w K mg base (k + 1) d.name sp [] := by
  obtain ⟨fd, O, F⟩ := T.fnok (CX := CX0) i hi S len fun cdv A outer s H vs Q E hr h => (hbody cdv A outer s H vs Q E hr h).imp fun t q => ⟨q.1.nox, q.2⟩
  refine ⟨d.at_ K, fd, ps, [], O, ?_, F.kp, T.bindsN hd hb F, .nil⟩
  rw [ha]; exact T.glo j _ hj
theorem TX.met (T : TX K mg w) {d : DefZ} {C : Str} (i j : Nat) (hi : defsL[i]? = some d) (hj : methL[j]? = some (C, d.name)) {N ps : List Str} {k : Nat} {sp : Sp} (S : FnScope N ps d.scope) (hb : BindH d ps) (len : ∀ vs H Q E, sp vs H Q E → vs.length = ps.length)
    (hbody : BodyH P w K mg base d N k sp) (cl : Cls K (He.ga K C)) (hd : d.dfl = [] := by rfl) (ha : d.at_ K = pAd K C d.name := by rfl) : C8.Met P w K mg base (k + 1) (He.ga K C) d.name sp [] := by
  obtain ⟨fd, O, F⟩ := T.fnok (CX := CX0) i hi S len fun cdv A outer s H vs Q E hr h => (hbody cdv A outer s H vs Q E hr h).imp fun t q => ⟨q.1.nox, q.2⟩
  refine ⟨d.at_ K, fd, ps, [], cl, ?_, O, T.bindsN hd hb F, .nil⟩
  rw [ha]; exact (T.meth j _ hj).1
theorem TX.spm (T : TX K mg w) {d : DefZ} {C : Str} (i j : Nat) (hi : defsL[i]? = some d) (hj : methL[j]? = some (C, d.name)) {N ps : List Str} {k : Nat} {sp : Sp} (S : FnScope N ps d.scope) (hb : BindH d ps) (len : ∀ vs H Q E, sp vs H Q E → vs.length = ps.length)
    (hbody : BodyH P w K mg base d N k sp) (cl : Cls K (He.ga K C)) (hd : d.dfl = [] := by rfl) (ha : d.at_ K = pAd K C d.name := by rfl) : Spm P w K mg base (k + 1) C d.name sp := by
  obtain ⟨fd, O, F⟩ := T.fnok (CX := CX0) i hi S len fun cdv A outer s H vs Q E hr h => (hbody cdv A outer s H vs Q E hr h).imp fun t q => ⟨q.1.nox, q.2⟩
  refine ⟨d.at_ K, fd, ps, ?_, cl, ?_, O, T.bindsN hd hb F⟩
  · rw [ha]; exact (T.meth j _ hj).1
  · rw [ha]; exact (T.meth j _ hj).2
theorem TX.prp (T : TX K mg w) {d : DefZ} (i j : Nat) (hi : defsL[i]? = some d) (hj : propL[j]? = some d.name) {N : List Str} {k : Nat} {sp : Sp} (S : FnScope N ["self"] d.scope) (hb : BindH d ["self"]) (len : ∀ vs H Q E, sp vs H Q E → vs.length = ["self"].length)
    (hbody : BodyH P w K mg base d N k sp) (hd : d.dfl = [] := by rfl) (ha : d.at_ K = gAd K "Board" d.name := by rfl) : Prp P w K mg base (k + 1) "Board" d.name sp := by
  obtain ⟨fd, O, F⟩ := T.fnok (CX := CX0) i hi S len fun cdv A outer s H vs Q E hr h => (hbody cdv A outer s H vs Q E hr h).imp fun t q => ⟨q.1.nox, q.2⟩
  have B := T.bindsN hd hb F
  rw [ha] at O
  exact ⟨_, _, fd, T.prop j _ hj, T.cl_Board, O, B⟩
theorem TX.mak (T : TX K mg w) {d : DefZ} {C : Str} (i j : Nat) (hi : defsL[i]? = some d) (hj : gloL[j]? = some C) {N ps : List Str} {k : Nat} {sp : Sp} (S : FnScope N ps d.scope) (hb : BindH d ps) (len : ∀ vs H Q E, sp vs H Q E → vs.length = ps.length)
    (hbody : BodyH P w K mg base d N k sp) (M : Mk K (He.ga K C) (pAd K C "__init__")) (hd : d.dfl = [] := by rfl) (ha : d.at_ K = pAd K C "__init__" := by rfl) : C8.Mak P w K mg base (k + 1) C (He.ga K C) sp [] := by
  obtain ⟨fd, O, F⟩ := T.fnok (CX := CX0) i hi S len fun cdv A outer s H vs Q E hr h => (hbody cdv A outer s H vs Q E hr h).imp fun t q => ⟨q.1.nox, q.2⟩
  have B := T.bindsN hd hb F
  rw [ha] at O
  exact ⟨_, fd, ps, [], M, O, T.glo j _ hj, B, .nil⟩
end
end EV
end
section
set_option Elab.async false
set_option linter.all false
set_option maxRecDepth 100000
set_option maxHeartbeats 4000000
namespace EV
open PySem PySem.Spec PyProof.Rows L2
open He (Fa Dv FnW frG asD ba dflB relAll ga ma)
/-! ### the Hook: defs by any address, facts of the kit, one Bool more -/
def fnZ (K : PySem.W.Frag) (d : DefZ) : FnW := match K.lookup (d.at_ K) with
  | some ⟨_, _, .func fd, _⟩ => some (fd.name, fd.qualname, fd.params, fd.body, fd.scope, fd.globals, fd.closure, fd.builtins)
  | _ => none
def DefZ.val (d : DefZ) : FnW := some (d.name, d.qual, d.params, .stmts d.body, d.scope, mainGlobals, [], builtinsNs)
def DefZ.ok (K : PySem.W.Frag) (d : DefZ) : Bool := PySem.W.keepIn K (.ref (d.at_ K)) && (match K.lookup (d.at_ K) with
  | some ⟨_, _, .func fd, _⟩ => PySem.W.codeIn K fd.code d.qual && dflB K fd.defaults (d.dfl.map (Dv.v K))
  | _ => false)
theorem DefZ.funD {K : PySem.W.Frag} {d : DefZ} (e : fnZ K d = d.val) (c : d.ok K = true) : ∃ fd, FunD K d.name d.qual d.params d.body d.scope (d.dfl.map (Dv.v K)) [] (d.at_ K) fd := by
  obtain ⟨kp, c2⟩ := ba c
  unfold fnZ at e
  cases q : K.lookup (d.at_ K) with
  | none =>
    rw [q] at c2
    cases c2
  | some o =>
    obtain ⟨oc, od, dt, osl⟩ := o
    rw [q] at c2 e
    cases dt with
    | func fd =>
      obtain ⟨n1, n2, n3, n4, n5, n6, n7, n8, n9, n10, n11, n12, n13, n14, n15⟩ := fd
      have e2 : (some (n1, n2, n3, n4, n5, n6, n7, n15) : FnW) = some (d.name, d.qual, d.params, .stmts d.body, d.scope, mainGlobals, [], builtinsNs) := e
      simp only [Option.some.injEq, Prod.mk.injEq] at e2
      obtain ⟨h1, h2, h3, h4, h5, h6, h7, h8⟩ := e2
      obtain ⟨k1, k3⟩ := ba (show (PySem.W.codeIn K n13 d.qual && dflB K n8 (d.dfl.map (Dv.v K))) = true from c2)
      subst h1 h2 h3 h4 h5 h6 h7 h8
      exact ⟨_, ⟨oc, od, n8, n9, n10, n11, n12, n13, n14, osl, rfl, q, k1, He.dflB_ok k3, .inl rfl⟩, kp⟩
    | _ => cases c2
abbrev AlZ : Type := Bool × List FnW × Option (List (Option (Str × Int)))
/-- what the module's names reach: layer by layer, each looked at once -/
def layZ (g : Addr → Option Obj) (as : List Addr) : List Addr := as.flatMap fun a => match g a with
  | some o => He.refsD o
  | none => []
def asZ (g : Addr → Option Obj) : Nat → List Addr → List Addr
  | 0, as => as
  | n + 1, as => as ++ asZ g n (layZ g as)
/-- one dict with text keys: where, the keys -/
abbrev TabZ : Type := (PySem.W.Frag → Addr) × List Str
def obsZ (fa : List Fa) (fn : List DefZ) (ex : PySem.W.Frag → Bool) (tb : TabZ) (K : PySem.W.Frag) : AlZ := ((fa.all fun f => f.ok K) && ((fn.all fun d => d.ok K) && ex K), fn.map (fun d => fnZ K d), He.dicW K (tb.1 K))
def valZ (fn : List DefZ) (tb : TabZ) (w : World) : AlZ := (true, fn.map DefZ.val, some (He.keysIn w.params tb.2))
def obsZG (n : Nat) (fa : List Fa) (fn : List DefZ) (ex : PySem.W.Frag → Bool) (tb : TabZ) (g : Addr → Option Obj) : AlZ := obsZ fa fn ex tb (frG g (asZ g n [mainGlobals] ++ [PySem.cStatics]))
structure SaysZ (fa : List Fa) (fn : List DefZ) (ex : PySem.W.Frag → Bool) (tb : TabZ) (w : World) (K : PySem.W.Frag) : Prop where
  eq : obsZ fa fn ex tb K = valZ fn tb w
def hookZ (n : Nat) (fa : List Fa) (fn : List DefZ) (ex : PySem.W.Frag → Bool) (tb : TabZ) : PySem.W.Hook where
  α := AlZ
  obs := fun s => obsZG n fa fn ex tb s.heap.get?
  val := fun w => valZ fn tb w
  says := fun w h => ∃ K : PySem.W.Frag, K.In h ∧ SaysZ fa fn ex tb w K
  of := fun _ _ e => ⟨_, He.frG_in, ⟨e⟩⟩
  keeps := fun _ _ _ ⟨K, hK, c⟩ k => ⟨K, PySem.W.Frag.In.keeps hK k, c⟩
theorem obsZG_eq {n : Nat} {fa : List Fa} {fn : List DefZ} {ex : PySem.W.Frag → Bool} {tb : TabZ} {g : Addr → Option Obj} {s : Shared} (h : ∀ a, g a = s.heap.get? a) : obsZG n fa fn ex tb g = (hookZ n fa fn ex tb).obs s := by
  have e : g = s.heap.get? := funext h
  rw [e] <;> rfl
section
variable {fa : List Fa} {fn : List DefZ} {ex : PySem.W.Frag → Bool} {tb : TabZ} {w : World} {K : PySem.W.Frag} (c : SaysZ fa fn ex tb w K)
include c
theorem SaysZ.fact (i : Nat) {f : Fa} (h : fa[i]? = some f) : f.ok K = true := by
  have c1 := (ba (show ((fa.all fun f => f.ok K) && ((fn.all fun d => d.ok K) && ex K)) = true from congrArg (fun z : AlZ => z.1) c.eq)).1
  exact List.all_eq_true.mp c1 f (List.mem_of_getElem? h)
theorem SaysZ.more : ex K = true :=
  (ba (ba (show ((fa.all fun f => f.ok K) && ((fn.all fun d => d.ok K) && ex K)) = true from congrArg (fun z : AlZ => z.1) c.eq)).2).2
theorem SaysZ.dic : ∃ es n, KDict K w (tb.1 K) es n := He.dicW_ok (show He.dicW K (tb.1 K) = some (He.keysIn w.params tb.2) from congrArg (fun z : AlZ => z.2.2) c.eq)
theorem SaysZ.def_ (i : Nat) {d : DefZ} (h : fn[i]? = some d) : ∃ fd, FunD K d.name d.qual d.params d.body d.scope (d.dfl.map (Dv.v K)) [] (d.at_ K) fd := by
  have c2 := (ba (ba (show ((fa.all fun f => f.ok K) && ((fn.all fun d => d.ok K) && ex K)) = true from congrArg (fun z : AlZ => z.1) c.eq)).2).1
  have e : fn.map (fun d => fnZ K d) = fn.map DefZ.val := congrArg (fun z : AlZ => z.2.1) c.eq
  have e2 : (fn.map fun d => fnZ K d)[i]? = (fn.map DefZ.val)[i]? := by rw [e]
  rw [List.getElem?_map, List.getElem?_map, h] at e2
  exact DefZ.funD (Option.some.inj e2) (List.all_eq_true.mp c2 d (List.mem_of_getElem? h))
end
end EV
end
section
set_option Elab.async false
set_option linter.all false
set_option maxRecDepth 100000
set_option maxHeartbeats 4000000
namespace EV
open PySem PySem.Spec PyProof.Rows L2
open He (Fa Dv FnW frG asD ba dflB relAll ga ma eqO eqO_ok)
/-! ### the facts of the module's start -/
def faGlo : List Fa := gloL.map Fa.glo
def faFree : List Fa := freeL.map Fa.free
def faMeth : List Fa := methL.map fun p => Fa.meth p.1 p.2
def faRest : List Fa := [.cls "Board", .cls "Block", .cls "Console", .mkr "Board", .mkr "Block", .mkr "Console", .noat "Board" "whole_panel", .noat "Board" "past", .noat "Board" "kept", .noat "Block" "board", .noat "Block" "kept_past", .noat "Block" "kept_blocks", .noat "Console" "board",
  .glo "PRIMES", .int "MOST_DIGITS" 9, .int "MOST_NUMBER" 999999999, .int "MOST_TRIED" 8, .glo "NUMBERS", .glo "PLAIN_COMMANDS", .glo "NotReached", .glo "RingError", .exm "NotReached" "NotReached" true, .noat "NotReached" "weights", .meth "NotReached" "__init__"]
def faAll : List Fa := faGlo ++ (faFree ++ (faMeth ++ faRest))
/-- a property of Board -/
def prpB (K : PySem.W.Frag) (f : Str) : Bool := eqO (PySem.W.findIn K (.ref (ga K "Board")) f) (some (some (.ref (pAd K "Board" f)))) && (eqO (PySem.W.specialIn K (.ref (pAd K "Board" f)) "__get__") (some (some (.builtin "property.__get__"))) &&
  (decide (PySem.W.takesIn K (.ref (pAd K "Board" f)) = some true) && (match PySem.W.recIn K (pAd K "Board" f) "property" with
    | some (.ref _ :: _) => true
    | _ => false)))
theorem prpB_ok {K : PySem.W.Frag} {f : Str} (h : prpB K f = true) : PropOf K (ga K "Board") f (pAd K "Board" f) (gAd K "Board" f) := by
  obtain ⟨h1, h⟩ := ba h
  obtain ⟨h2, h⟩ := ba h
  obtain ⟨h3, h4⟩ := ba h
  refine ⟨eqO_ok h1, eqO_ok h2, of_decide_eq_true h3, ?_⟩
  unfold gAd
  split at h4
  · rename_i g r e
    exact ⟨r, by rw [e]⟩
  · cases h4
def tupA (K : PySem.W.Frag) (a : Addr) (vs : List Dv) : Bool := match K.lookup a with
  | some ⟨.type c, _, .seq its _, _⟩ => decide (c = "tuple") && (decide (its.size ≤ sizeLine) && relAll (vs.map (Dv.v K)) its.toList)
  | _ => false
theorem tupA_ok {K : PySem.W.Frag} {a : Addr} {vs : List Dv} (h : tupA K a vs = true) (H : Hp) : SqT K H a (vs.map (Dv.v K)) := by
  unfold tupA at h
  cases q : K.lookup a with
  | none =>
    rw [q] at h
    cases h
  | some o =>
    obtain ⟨oc, od, dt, osl⟩ := o
    rw [q] at h
    cases oc with
    | type c =>
      cases dt with
      | seq its n =>
        obtain ⟨h1, h2⟩ := ba (show (decide (c = "tuple") && (decide (its.size ≤ sizeLine) && relAll (vs.map (Dv.v K)) its.toList)) = true from h)
        obtain ⟨h3, h4⟩ := ba h2
        exact .inr ⟨_, its, n, q, congrArg Value.type (of_decide_eq_true h1), rfl, of_decide_eq_true h3, He.relAll_ok h4⟩
      | _ => cases h
    | _ => cases dt <;> cases h
def numB (K : PySem.W.Frag) (p : Str × List Int) : Bool := match PySem.W.nsIn K (ga K "NUMBERS") p.1 with
  | some (some (.ref t)) => tupA K t (p.2.map Dv.int)
  | _ => false
theorem numB_ok {K : PySem.W.Frag} {p : Str × List Int} (h : numB K p = true) : ∃ t : Addr, PySem.W.nsIn K (ga K "NUMBERS") p.1 = some (some (.ref t)) ∧ ∀ H, SqT K H t (p.2.map V.int) := by
  unfold numB at h
  split at h
  · rename_i t e
    refine ⟨t, e, fun H => ?_⟩
    have q := tupA_ok h H
    rw [List.map_map] at q
    exact q
  · cases h
def oexB (K : PySem.W.Frag) (C : Addr) : Bool := match K.lookup C with
  | some ⟨.type "type", _, .cls cd, sl⟩ => (match cd.mro, sl.toList with
    | .ref C' :: bm, [_, _, _, _, some (.builtin n), _] => C' == C && n == "ValueError.__new__" && !cd.hasDel && (cd.hasDict && PySem.HandSPX.refsVE bm)
    | _, _ => false)
  | _ => false
theorem oexB_ok {K : PySem.W.Frag} {C : Addr} (q : oexB K C = true) : ∃ nm q N bs bm sn sub ab col dd k0 k1 k2 k3 k5, K.lookup C = some (excClassObj nm q C N bs bm true sn sub ab col dd k0 k1 k2 k3 k5 "ValueError.__new__") ∧ PySem.HandSPX.refsVE bm = true := by
  unfold oexB at q
  split at q
  · rename_i dd cd sl ho
    split at q
    · rename_i C' bm k0 k1 k2 k3 n k5 hm hs
      simp only [Bool.and_eq_true, beq_iff_eq, Bool.not_eq_true'] at q
      obtain ⟨⟨⟨e1, e2⟩, hdel⟩, hd, ht⟩ := q
      obtain ⟨nm, bs, mro, ns, qn, hd', sn, sub, ab, col, del⟩ := cd
      dsimp only at hm hdel hd
      subst hm hdel hd e1 e2
      have hsl : sl = #[k0, k1, k2, k3, some (.builtin "ValueError.__new__"), k5] := by
        obtain ⟨l⟩ := sl
        simp only at hs
        rw [hs]
      subst hsl
      exact ⟨nm, qn, ns, bs, bm, sn, sub, ab, col, dd, k0, k1, k2, k3, k5, ho, ht⟩
    · cases q
  · cases q
def ringB (K : PySem.W.Frag) (C : Addr) : Bool := PySem.W.readsIn K C (.type "type") && (eqO (PySem.W.specialIn K (.ref C) "__getattribute__") (some (some (.builtin "type.__getattribute__"))) && (match PySem.W.findCls K (.ref C) (.type "type") "__init__" with
    | some (.val (.builtin n)) => decide (n = "ValueError.__init__")
    | _ => false))
theorem ringB_ok {K : PySem.W.Frag} {C : Addr} (h : ringB K C = true) : ClX.CRead K C (.type "type") ∧ PySem.W.findCls K (.ref C) (.type "type") "__init__" = some (.val (.builtin "ValueError.__init__")) := by
  obtain ⟨h1, h⟩ := ba h
  obtain ⟨h2, h3⟩ := ba h
  refine ⟨⟨h1, eqO_ok h2⟩, ?_⟩
  split at h3
  · rename_i n e
    rw [e, of_decide_eq_true h3]
  · cases h3
def nums : List (Str × List Int) := [("press", [2, 3]), ("turn", [1]), ("set", [2]), ("undo", [0]), ("at", [1])]
def nots : List Str := ["picture", "clear", "try"]
def exB1 (K : PySem.W.Frag) : Bool := (methL.all fun p => PySem.W.fnIn K (pAd K p.1 p.2)) && ((propL.all fun f => prpB K f) && (eqO (PySem.W.specialIn K (.ref (pAd K "Board" "press")) "__get__") (some (some (.builtin "function.__get__"))) &&
  (decide (PySem.W.takesIn K (.ref (pAd K "Board" "press")) = some false) && (PySem.W.noSeq K (ga K "Board") && tupA K (dfl0 K "Board" "__init__") []))))
def exB2 (K : PySem.W.Frag) : Bool := tupA K (ga K "PRIMES") [.int 2, .int 3, .int 5] && (tupA K (ga K "PLAIN_COMMANDS") [.str "picture", .str "clear", .str "marks"] && ((nums.all fun p => numB K p) && (nots.all fun x => eqO (PySem.W.nsIn K (ga K "NUMBERS") x) (some none))))
def exB3 (K : PySem.W.Frag) : Bool := oexB K (ga K "NotReached") && (eqO (PySem.W.findIn K (.ref (ga K "NotReached")) "__setattr__") (some (some (.builtin "object.__setattr__"))) && (decide (PySem.W.subIn K (.ref (ga K "NotReached")) (.type "BaseException") = some true) &&
  (decide (PySem.W.typeIn K (.ref (ga K "NotReached")) = some (.type "type")) && (PySem.W.keepIn K (.ref (ga K "NotReached")) && (decide (PySem.W.typeIn K (.ref (pAd K "NotReached" "__init__")) = some (.type "function")) && ringB K (ga K "RingError"))))))
def exB (K : PySem.W.Frag) : Bool := exB1 K && (exB2 K && exB3 K)
def tbZ : TabZ := (fun K => ga K "NUMBERS", (["press", "turn", "set", "undo", "at", "loss"] : List Str))
theorem getA {α : Type} {l r : List α} {i : Nat} {x : α} (h : l[i]? = some x) : (l ++ r)[i]? = some x := by
  rw [List.getElem?_append_left]
  · exact h
  · exact (List.getElem?_eq_some_iff.mp h).1
theorem getB {α : Type} {l r : List α} {i : Nat} {x : α} (h : r[i]? = some x) : (l ++ r)[l.length + i]? = some x := by
  rw [List.getElem?_append_right (Nat.le_add_right _ _), Nat.add_sub_cancel_left]
  exact h
theorem tx_of {w : World} {K : PySem.W.Frag} {h : Heap} {mg : Str → Option Value} (X : K.In h) (G : h.Ns mainGlobals mg) (c : SaysZ faAll defsL exB tbZ w K) : TX K mg w := by
  have hg : ∀ (i : Nat) (x : Str), gloL[i]? = some x → mg x = some (.ref (ga K x)) := fun i x e =>
    He.glo_ok X G (c.fact i (f := .glo x) (getA (by rw [faGlo, List.getElem?_map, e] <;> rfl)))
  have hf : ∀ (i : Nat) {x : Str}, freeL[i]? = some x → mg x = none := fun i x e =>
    He.free_ok X G (c.fact (faGlo.length + i) (f := .free x) (getB (getA (by rw [faFree, List.getElem?_map, e] <;> rfl))))
  have hm : ∀ (i : Nat) (p : Str × Str), methL[i]? = some p → Meth K (ga K p.1) p.2 (pAd K p.1 p.2) := fun i p e =>
    He.meth_ok (c.fact (faGlo.length + (faFree.length + i)) (f := .meth p.1 p.2) (getB (getB (getA (by rw [faMeth, List.getElem?_map, e] <;> rfl)))))
  have hR : ∀ (i : Nat) {f : Fa}, faRest[i]? = some f → f.ok K = true := fun i f e => c.fact (faGlo.length + (faFree.length + (faMeth.length + i))) (getB (getB (getB e)))
  obtain ⟨x1, x2⟩ := ba c.more
  obtain ⟨x2, x3⟩ := ba x2
  obtain ⟨a1, x1⟩ := ba x1
  obtain ⟨a2, x1⟩ := ba x1
  obtain ⟨a3, x1⟩ := ba x1
  obtain ⟨a4, x1⟩ := ba x1
  obtain ⟨a5, a6⟩ := ba x1
  obtain ⟨b1, x2⟩ := ba x2
  obtain ⟨b2, x2⟩ := ba x2
  obtain ⟨b3, b4⟩ := ba x2
  obtain ⟨c1, x3⟩ := ba x3
  obtain ⟨c2, x3⟩ := ba x3
  obtain ⟨c3, x3⟩ := ba x3
  obtain ⟨c4, x3⟩ := ba x3
  obtain ⟨c5, x3⟩ := ba x3
  obtain ⟨c6, c7⟩ := ba x3
  obtain ⟨r1, r2⟩ := ringB_ok c7
  have fi : ∀ (i : Nat) (p : Str × Str), methL[i]? = some p → PySem.W.fnIn K (pAd K p.1 p.2) = true := fun i p e => List.all_eq_true.mp a1 p (List.mem_of_getElem? e)
  have int_ : ∀ {x : Str} {n : Int}, (∃ t, mg x = some (.int n t)) → ∃ u, mg x = some u ∧ RelV (.int n) u := fun ⟨t, e⟩ => ⟨_, e, t, rfl⟩
  have mNR := He.meth_ok (x := "NotReached") (m := "__init__") (hR 23 rfl)
  exact {
    def_ := fun i d e => c.def_ i e
    glo := hg
    fr := hf
    meth := fun i p e => ⟨hm i p e, fi i p e⟩
    prop := fun i f e => prpB_ok (List.all_eq_true.mp a2 f (List.mem_of_getElem? e))
    cl_Board := He.cls_ok (hR 0 rfl)
    cl_Block := He.cls_ok (hR 1 rfl)
    cl_Console := He.cls_ok (hR 2 rfl)
    mk_Board := He.mkr_ok (hR 3 rfl)
    mk_Block := He.mkr_ok (hR 4 rfl)
    mk_Console := He.mkr_ok (hR 5 rfl)
    bm_press := ⟨hm 7 ("Board", "press") rfl, eqO_ok a3, of_decide_eq_true a4, by decide, fi 7 ("Board", "press") rfl⟩
    q_Board := a5
    na_panel := He.noat_ok (hR 6 rfl)
    na_past := He.noat_ok (hR 7 rfl)
    na_kept := He.noat_ok (hR 8 rfl)
    na_bboard := He.noat_ok (hR 9 rfl)
    na_bpast := He.noat_ok (hR 10 rfl)
    na_bblocks := He.noat_ok (hR 11 rfl)
    na_cboard := He.noat_ok (hR 12 rfl)
    t_dfl := fun H => tupA_ok a6 H
    g_PRIMES := ⟨_, He.glo_ok X G (hR 13 rfl), rfl⟩
    t_PRIMES := fun H => tupA_ok (vs := [.int 2, .int 3, .int 5]) b1 H
    g_MOST_DIGITS := int_ (He.int_ok X G (hR 14 rfl))
    g_MOST_NUMBER := int_ (He.int_ok X G (hR 15 rfl))
    g_MOST_TRIED := int_ (He.int_ok X G (hR 16 rfl))
    g_NUMBERS := ⟨_, He.glo_ok X G (hR 17 rfl), rfl⟩
    k_NUMBERS := c.dic
    n_has := fun p hp => numB_ok (List.all_eq_true.mp b3 p hp)
    n_not := fun x hx => eqO_ok (List.all_eq_true.mp b4 x hx)
    g_PLAIN_COMMANDS := ⟨_, He.glo_ok X G (hR 18 rfl), rfl⟩
    t_PLAIN_COMMANDS := fun H => tupA_ok (vs := [.str "picture", .str "clear", .str "marks"]) b2 H
    ox_NotReached := ⟨oexB_ok c1, eqO_ok c2, of_decide_eq_true c3, of_decide_eq_true c4, c5⟩
    in_NotReached := mNR.at_
    ty_NotReached := of_decide_eq_true c6
    nw_NotReached := He.noat_ok (hR 22 rfl)
    g_NotReached := He.glo_ok X G (hR 19 rfl)
    em_NotReached := He.exm_ok (hR 21 rfl)
    g_RingError := He.glo_ok X G (hR 20 rfl)
    rd_RingError := r1
    vi_RingError := r2 }
end EV
end
section
set_option Elab.async false
set_option linter.all false
set_option maxRecDepth 100000
set_option maxHeartbeats 0
namespace EV
open PySem PySem.W PySem.Calls PyProof.Rows
abbrev rowR : OpenRow := OpenLaw.row PySem.Challenge.rw_everyring_k74_whole_consoles_boards_and
abbrev qv : Program := view rowR.prog [103]
def names0 : List PySem.Str := ["_wall", "__name__", "RingError", "InvalidPrime", "InvalidPanel", "InvalidSize", "InvalidPicture", "InvalidNumber", "InvalidPlace", "InvalidColour", "NothingToUndo", "NoBlock", "TooMany", "InvalidCommand", "InvalidText", "NotReached", "PRIMES", "is_number", "is_whole", "is_prime", "is_pair", "fits_rule", "need_prime", "need_number", "trimmed", "inverse", "scaled", "monic", "added", "timesed"]
def names1 : List PySem.Str := ["divided", "common_of_two", "gcd_of", "power_of_x", "of_rule", "core_of", "rows_of_degree", "factors_of", "with_last", "divisors_that_are_prime", "order_of_factor", "fits_panel", "is_lamp", "fits_picture", "need_panel", "need_size", "need_picture", "generator_of", "divisor_on", "rest_of", "behind_press", "colours_of", "picture_of", "lessened", "lessened_by", "basis_of", "found_presses", "found_weights", "can_reach", "loss"]
def names2 : List PySem.Str := ["Board", "parts_of", "marks_of", "marks", "alike", "MOST_DIGITS", "MOST_NUMBER", "whole_of", "pair_of", "pair_words", "word_at", "need_word", "number_at", "pair_at", "pairs_at", "write_panel", "read_panel", "write_picture", "read_picture", "NUMBERS", "PLAIN_COMMANDS", "MOST_TRIED", "are_numbers", "is_known", "Block", "Console", "_law_bag", "_law_draw", "_law_base", "_law_pairs"]
def names3 : List PySem.Str := ["_law_summed", "_law_product", "_law_desk", "_law_clearing", "_law_agree", "_law_deed_right"]
def names : List PySem.Str := names0 ++ names1 ++ names2 ++ names3
abbrev hk : PySem.W.Hook := hookZ 6 faAll defsL exB tbZ
def ob (s : PySem.W.SharedT) : AlZ := obsZG 6 faAll defsL exB tbZ (HandSHeadRun.getT s)
theorem ob_eq (s : PySem.W.SharedT) : ob s = hk.obs s.abs := obsZG_eq (HandSHeadRun.getT_eq s)
noncomputable def KZ (s : PySem.W.SharedT) : PySem.W.Frag := He.frG (HandSHeadRun.getT s) (asZ (HandSHeadRun.getT s) 6 [mainGlobals] ++ [PySem.cStatics])
noncomputable def pA (s : PySem.W.SharedT) : Bool := faAll.all fun f => f.ok (KZ s)
noncomputable def pB (s : PySem.W.SharedT) : Bool := defsL.all fun d => d.ok (KZ s)
noncomputable def pC (s : PySem.W.SharedT) : Bool := exB (KZ s)
noncomputable def pD (s : PySem.W.SharedT) : List He.FnW := defsL.map fun d => fnZ (KZ s) d
noncomputable def pE (s : PySem.W.SharedT) : Option (List (Option (PySem.Str × Int))) := He.dicW (KZ s) (tbZ.1 (KZ s))
theorem ob_parts (s : PySem.W.SharedT) : ob s = ((pA s && (pB s && pC s)), pD s, pE s) := rfl
/-- the state behind the top -/
noncomputable abbrev endZ (w : World) (os : OsState) : Option PySem.W.SharedT := HandSHeadRun.endF (HandSHeadRun.stepQ (HandSHeadRun.denQ HandSHeadRun.tabQ) rowR.prog w) 8000 rowR.prog w os
noncomputable def lookZ (w : World) (s : PySem.W.SharedT) : Bool := HandSHeadRun.looksF rowR.prog (boot_heap w.params) s.abs
noncomputable abbrev seenZ (s : PySem.W.SharedT) := HandSHeadRun.seenQ qv names (importedModules rowR.prog.main.body) (fun s => xlAt qv [] s && recOk rowR.toRowW.records s) s.abs
/-- one run, looked at in three -/
theorem glue {S A B C : Type} {x : Option S} {l a b c : S → Bool} {q : S → A} {d : S → B} {e : S → C} {o : S → Bool × B × C} {g : A} {dv : B} {ev : C} (ho : ∀ s, o s = ((a s && (b s && c s)), d s, e s))
    (h1 : x.map (fun s => (l s, q s, d s)) = some (true, g, dv)) (h2 : x.map b = some true) (h3 : x.map (fun s => (a s, c s, e s)) = some (true, true, ev)) : x.map (fun s => (l s, q s, o s)) = some (true, g, (true, dv, ev)) := by
  cases x with
  | none => cases h2
  | some s =>
    simp only [Option.map_some, Option.some.injEq, Prod.mk.injEq] at h1 h2 h3 ⊢
    obtain ⟨h4, h5, h6⟩ := h1
    obtain ⟨h7, h8, h9⟩ := h3
    rw [ho, h2, h4, h5, h6, h7, h8, h9]
    exact ⟨rfl, rfl, rfl⟩
theorem runA0 (w : World) (os : OsState) : (endZ (w.withFollow "special-get-raises" false) os).map (fun s => (lookZ (w.withFollow "special-get-raises" false) s, seenZ s, pD s)) = some (true, openGood qv names, defsL.map DefZ.val) := by kernel_rfl
theorem runB0 (w : World) (os : OsState) : (endZ (w.withFollow "special-get-raises" false) os).map pB = some true := by kernel_rfl
theorem runC0 (w : World) (os : OsState) : (endZ (w.withFollow "special-get-raises" false) os).map (fun s => (pA s, pC s, pE s)) = some (true, true, some (He.keysIn (w.withFollow "special-get-raises" false).params tbZ.2)) := by kernel_rfl
theorem run0 (w : World) : HandSHeadRun.RunEq rowR qv hk ob 8000 names (w.withFollow "special-get-raises" false) := fun os => glue ob_parts (runA0 w os) (runB0 w os) (runC0 w os)
theorem runA1 (w : World) (os : OsState) : (endZ (w.withFollow "special-get-raises" true) os).map (fun s => (lookZ (w.withFollow "special-get-raises" true) s, seenZ s, pD s)) = some (true, openGood qv names, defsL.map DefZ.val) := by kernel_rfl
theorem runB1 (w : World) (os : OsState) : (endZ (w.withFollow "special-get-raises" true) os).map pB = some true := by kernel_rfl
theorem runC1 (w : World) (os : OsState) : (endZ (w.withFollow "special-get-raises" true) os).map (fun s => (pA s, pC s, pE s)) = some (true, true, some (He.keysIn (w.withFollow "special-get-raises" true).params tbZ.2)) := by kernel_rfl
theorem run1 (w : World) : HandSHeadRun.RunEq rowR qv hk ob 8000 names (w.withFollow "special-get-raises" true) := fun os => glue ob_parts (runA1 w os) (runB1 w os) (runC1 w os)
theorem run (w : World) : HandSHeadRun.RunEq rowR qv hk ob 8000 names w := byRow2 "special-get-raises" run0 run1 w
end EV
end
section
set_option linter.all false
set_option maxHeartbeats 1000000
namespace ER

/-! ### coefficients, lists -/
abbrev Pol := Nat → Int
def cf (r : List Int) (i : Nat) : Int := r.getD i 0
theorem cf_nil (i : Nat) : cf [] i = 0 := rfl
theorem cf_zero (a : Int) (r : List Int) : cf (a :: r) 0 = a := rfl
theorem cf_succ (a : Int) (r : List Int) (i : Nat) : cf (a :: r) (i+1) = cf r i := rfl
theorem cf_ge {r : List Int} {i : Nat} (h : r.length ≤ i) : cf r i = 0 := by
  unfold cf; rw [List.getD_eq_getElem?_getD, List.getElem?_eq_none h]; rfl
theorem cf_lt {r : List Int} {i : Nat} (h : i < r.length) : cf r i = r[i] := by
  unfold cf; rw [List.getD_eq_getElem?_getD, List.getElem?_eq_getElem h]; rfl
theorem cf_set {r : List Int} {k : Nat} {v : Int} (h : k < r.length) (i : Nat) : cf (r.set k v) i = if i = k then v else cf r i := by
  unfold cf
  rw [List.getD_eq_getElem?_getD, List.getD_eq_getElem?_getD]
  by_cases e : i = k
  · subst e; rw [if_pos rfl, List.getElem?_set_self h]; rfl
  · rw [if_neg e, List.getElem?_set_ne (Ne.symm e)]
theorem cf_rep (n i : Nat) : cf (List.replicate n 0) i = 0 := by
  by_cases h : i < n
  · rw [cf_lt (by simpa using h)]; simp
  · exact cf_ge (by simpa using h)
/-- all entries are colours -/
def Bd (p : Int) (r : List Int) : Prop := ∀ x ∈ r, 0 ≤ x ∧ x < p
theorem Bd.cf {p : Int} {r : List Int} (h : Bd p r) (hp : 0 < p) (i : Nat) : 0 ≤ cf r i ∧ cf r i < p := by
  by_cases e : i < r.length
  · rw [cf_lt e]; exact h _ (List.getElem_mem e)
  · rw [cf_ge (by omega)]; omega
theorem bd_mod {p : Int} (hp : 0 < p) (x : Int) : 0 ≤ x % p ∧ x % p < p := ⟨Int.emod_nonneg _ (by omega), Int.emod_lt_of_pos _ hp⟩
theorem Bd.set {p : Int} {r : List Int} (h : Bd p r) {k : Nat} {v : Int} (hv : 0 ≤ v ∧ v < p) : Bd p (r.set k v) := fun x hx => by
  rcases List.mem_or_eq_of_mem_set hx with e | e
  · exact h x e
  · rw [e]; exact hv
theorem Bd.rep {p : Int} (hp : 0 < p) (n : Nat) : Bd p (List.replicate n 0) := fun x hx => by
  rw [(List.mem_replicate.mp hx).2]; omega
theorem Bd.take {p : Int} {r : List Int} (h : Bd p r) (n : Nat) : Bd p (r.take n) := fun x hx => h x (List.mem_of_mem_take hx)
theorem Bd.append {p : Int} {r s : List Int} (h : Bd p r) (h' : Bd p s) : Bd p (r ++ s) := fun x hx => (List.mem_append.mp hx).elim (h x) (h' x)
theorem Bd.nil {p : Int} : Bd p [] := fun _ h => by cases h
theorem Bd.map {α : Type} {p : Int} {l : List α} {f : α → Int} (h : ∀ x, 0 ≤ f x ∧ f x < p) : Bd p (l.map f) := fun x hx => by
  obtain ⟨y, _, rfl⟩ := List.mem_map.mp hx; exact h y

/-! ### trim -/
def trim : List Int → List Int
  | [] => []
  | a :: r => match trim r with
    | [] => if a = 0 then [] else [a]
    | b :: t => a :: b :: t
theorem cf_trim (r : List Int) : ∀ i, cf (trim r) i = cf r i := by
  induction r with
  | nil => intro i; rfl
  | cons a r ih =>
    intro i
    unfold trim
    cases e : trim r with
    | nil =>
      rw [e] at ih
      by_cases h : a = 0
      · simp only [if_pos h]
        cases i with
        | zero => rw [cf_nil, cf_zero, h]
        | succ i => rw [cf_nil, cf_succ, ← ih i, cf_nil]
      · simp only [if_neg h]
        cases i with
        | zero => rfl
        | succ i => rw [cf_succ, cf_succ, ← ih i]
    | cons b t =>
      rw [e] at ih
      cases i with
      | zero => rfl
      | succ i => show cf (b :: t) i = cf r i; rw [ih i]
theorem trim_last (r : List Int) (h : trim r ≠ []) : cf (trim r) ((trim r).length - 1) ≠ 0 := by
  induction r with
  | nil => exact absurd rfl h
  | cons a r ih =>
    unfold trim at h ⊢
    cases e : trim r with
    | nil =>
      rw [e] at h
      by_cases h0 : a = 0
      · simp only [if_pos h0] at h; exact absurd rfl h
      · simp only [if_neg h0]; exact h0
    | cons b t =>
      rw [e] at ih
      exact ih (by simp)
theorem trim_sub (r : List Int) : ∀ x ∈ trim r, x ∈ r := by
  induction r with
  | nil => intro x h; exact h
  | cons a r ih =>
    intro x h
    unfold trim at h
    cases e : trim r with
    | nil =>
      rw [e] at h
      by_cases h0 : a = 0
      · simp only [if_pos h0] at h; cases h
      · simp only [if_neg h0, List.mem_singleton] at h; rw [h]; exact List.mem_cons_self
    | cons b t =>
      rw [e] at h ih
      rcases List.mem_cons.mp h with h | h
      · rw [h]; exact List.mem_cons_self
      · exact List.mem_cons_of_mem _ (ih x h)
theorem trim_len (r : List Int) : (trim r).length ≤ r.length := by
  induction r with
  | nil => exact Nat.le_refl _
  | cons a r ih =>
    unfold trim
    cases e : trim r with
    | nil => by_cases h0 : a = 0 <;> simp [h0]
    | cons b t => rw [e] at ih; simpa using ih
theorem Bd.trim {p : Int} {r : List Int} (h : Bd p r) : Bd p (trim r) := fun x hx => h x (trim_sub r x hx)
theorem trim_len_le {r : List Int} {m : Nat} (h : ∀ i, m ≤ i → cf r i = 0) : (trim r).length ≤ m := by
  by_cases e : trim r = []
  · rw [e]; exact Nat.zero_le _
  · have q := trim_last r e
    rw [cf_trim] at q
    have hl : 0 < (trim r).length := List.length_pos_iff.mpr e
    have : ¬ m ≤ (trim r).length - 1 := fun z => q (h _ z)
    omega
theorem trim_take {r : List Int} {n : Nat} (hn : n ≤ r.length) (h0 : ∀ i, n ≤ i → cf r i = 0) (hl : n = 0 ∨ cf r (n - 1) ≠ 0) : trim r = r.take n := by
  induction r generalizing n with
  | nil => simp [trim]
  | cons a r ih =>
    cases n with
    | zero =>
      have e : trim r = [] := by
        have := ih (n := 0) (Nat.zero_le _) (fun i _ => by have := h0 (i+1) (Nat.zero_le _); exact this) (.inl rfl)
        simpa using this
      have ha : a = 0 := h0 0 (Nat.le_refl _)
      unfold trim; rw [e]; simp [ha]
    | succ n =>
      have hn' : n ≤ r.length := by simpa using hn
      have hr := ih (n := n) hn' (fun i hi => h0 (i+1) (by omega)) (by
        rcases hl with h | h
        · omega
        · cases n with
          | zero => exact .inl rfl
          | succ n => exact .inr (by have h2 : cf (a :: r) (n + 1) ≠ 0 := h; rw [cf_succ] at h2; exact h2))
      unfold trim
      rw [hr]
      cases n with
      | zero =>
        have ha : a ≠ 0 := by
          rcases hl with h | h
          · omega
          · exact h
        simp [ha]
      | succ n =>
        cases r with
        | nil => simp at hn'
        | cons b t => simp

/-! ### rows -/
structure Row (p : Int) (r : List Int) : Prop where
  bd : Bd p r
  last : r ≠ [] → cf r (r.length - 1) ≠ 0
theorem Row.nil {p : Int} : Row p [] := ⟨Bd.nil, fun h => absurd rfl h⟩
theorem Row.trim {p : Int} {r : List Int} (h : Bd p r) : Row p (trim r) := ⟨h.trim, trim_last r⟩

/-! ### the primes -/
def P3 (p : Int) : Prop := p = 2 ∨ p = 3 ∨ p = 5
theorem P3.pos {p : Int} (h : P3 p) : 0 < p := by rcases h with rfl | rfl | rfl <;> decide
theorem P3.two {p : Int} (h : P3 p) : 2 ≤ p := by rcases h with rfl | rfl | rfl <;> decide
theorem P3.le {p : Int} (h : P3 p) : p ≤ 5 := by rcases h with rfl | rfl | rfl <;> decide
def invF (p c : Int) : Int := if p = 2 then 1 else if p = 3 then c else c * c * c % 5
theorem invF_ok {p c : Int} (h : P3 p) (h0 : 0 < c) (h1 : c < p) : 0 < invF p c ∧ invF p c < p ∧ invF p c * c % p = 1 := by
  have key : ∀ (p : Fin 6) (c : Fin 5), (p.1 = 2 ∨ p.1 = 3 ∨ p.1 = 5) → 0 < c.1 → c.1 < p.1 → 0 < invF p.1 c.1 ∧ invF p.1 c.1 < p.1 ∧ invF p.1 c.1 * c.1 % p.1 = 1 := by decide
  have k := key ⟨p.toNat, by have := h.le; omega⟩ ⟨c.toNat, by have := h.le; omega⟩
  have ep : ((p.toNat : Nat) : Int) = p := by have := h.pos; omega
  have ec : ((c.toNat : Nat) : Int) = c := by omega
  simp only [ep, ec] at k
  refine k ?_ (by omega) (by omega)
  rcases h with rfl | rfl | rfl <;> simp
theorem invF_unique {p c v : Int} (h : P3 p) (h0 : 0 < c) (h1 : c < p) (v0 : 0 ≤ v) (v1 : v < p) : v * c % p = 1 ↔ v = invF p c := by
  have key : ∀ (p : Fin 6) (c : Fin 5) (v : Fin 5), (p.1 = 2 ∨ p.1 = 3 ∨ p.1 = 5) → 0 < c.1 → c.1 < p.1 → v.1 < p.1 → ((v.1 : Int) * c.1 % p.1 = 1 ↔ (v.1 : Int) = invF p.1 c.1) := by decide
  have k := key ⟨p.toNat, by have := h.le; omega⟩ ⟨c.toNat, by have := h.le; omega⟩ ⟨v.toNat, by have := h.le; omega⟩
  have ep : ((p.toNat : Nat) : Int) = p := by have := h.pos; omega
  have ec : ((c.toNat : Nat) : Int) = c := by omega
  have ev : ((v.toNat : Nat) : Int) = v := by omega
  simp only [ep, ec, ev] at k
  refine k ?_ (by omega) (by omega) (by omega)
  rcases h with rfl | rfl | rfl <;> simp
theorem invF_dvd {p c : Int} (h : P3 p) (h0 : 0 < c) (h1 : c < p) : p ∣ invF p c * c - 1 := by
  have := (invF_ok h h0 h1).2.2
  exact Int.dvd_of_emod_eq_zero (by rw [Int.sub_emod, this]; have := h.two; rw [Int.emod_eq_of_lt (a := 1) (by omega) (by omega)]; simp)
theorem dvd_lt {p x : Int} (h : p ∣ x) (h0 : 0 ≤ x) (h1 : x < p) : x = 0 := by
  have := Int.emod_eq_zero_of_dvd h
  rw [Int.emod_eq_of_lt h0 h1] at this
  exact this
theorem dvd_sub_mod (p x : Int) : p ∣ x - x % p := ⟨x / p, by have := Int.mul_ediv_add_emod x p; omega⟩
theorem dvd_mod_sub (p x : Int) : p ∣ x % p - x := ⟨-(x / p), by have := Int.mul_ediv_add_emod x p; grind⟩
theorem dvd_add {p a b : Int} (h : p ∣ a) (h' : p ∣ b) : p ∣ a + b := Int.dvd_add h h'
theorem dvd_mul {p a : Int} (c : Int) (h : p ∣ a) : p ∣ c * a := by obtain ⟨k, rfl⟩ := h; exact ⟨c * k, by grind⟩
theorem dvd_of_eq {p a b : Int} (h : p ∣ a) (e : b = a) : p ∣ b := e ▸ h
theorem euclid {p a b : Int} (h : P3 p) (hd : p ∣ a * b) : p ∣ a ∨ p ∣ b := by
  have e := Int.emod_eq_zero_of_dvd hd
  rw [Int.mul_emod] at e
  have ha := bd_mod h.pos a
  have hb := bd_mod h.pos b
  have key : ∀ (p : Fin 6) (c : Fin 5) (v : Fin 5), (p.1 = 2 ∨ p.1 = 3 ∨ p.1 = 5) → c.1 < p.1 → v.1 < p.1 → ((c.1 : Int) * v.1 % p.1 = 0) → (c.1 : Int) = 0 ∨ (v.1 : Int) = 0 := by decide
  have k := key ⟨p.toNat, by have := h.le; omega⟩ ⟨(a % p).toNat, by have := h.le; omega⟩ ⟨(b % p).toNat, by have := h.le; omega⟩
  have ep : ((p.toNat : Nat) : Int) = p := by have := h.pos; omega
  have ec : (((a % p).toNat : Nat) : Int) = a % p := by omega
  have ev : (((b % p).toNat : Nat) : Int) = b % p := by omega
  simp only [ep, ec, ev] at k
  have k2 := k (by rcases h with rfl | rfl | rfl <;> simp) (by omega) (by omega) e
  rcases k2 with z | z
  · exact .inl (Int.dvd_of_emod_eq_zero z)
  · exact .inr (Int.dvd_of_emod_eq_zero z)

/-! ### ideals of coefficient functions -/
def sh (f : Pol) : Pol := fun i => match i with | 0 => 0 | i+1 => f i
def shN : Nat → Pol → Pol
  | 0, f => f
  | k+1, f => sh (shN k f)
theorem shN_at (k : Nat) (f : Pol) (i : Nat) : shN k f i = if i < k then 0 else f (i - k) := by
  induction k generalizing i with
  | zero => simp [shN]
  | succ k ih =>
    cases i with
    | zero => simp [shN, sh]
    | succ i =>
      show shN k f i = _
      rw [ih i]
      by_cases h : i < k
      · rw [if_pos h, if_pos (by omega)]
      · rw [if_neg h, if_neg (by omega), Nat.succ_sub_succ]
structure Ideal (p : Int) (J : Pol → Prop) : Prop where
  zero : ∀ f : Pol, (∀ i, p ∣ f i) → J f
  add : ∀ f g : Pol, J f → J g → J (fun i => f i + g i)
  smul : ∀ (c : Int) (f : Pol), J f → J (fun i => c * f i)
  shift : ∀ f : Pol, J f → J (sh f)
section
variable {p : Int} {J : Pol → Prop} (I : Ideal p J)
include I
theorem Ideal.cong {f g : Pol} (h : J f) (e : ∀ i, p ∣ g i - f i) : J g := by
  have q := I.add f (fun i => g i - f i) h (I.zero _ e)
  have z : (fun i => f i + (g i - f i)) = g := funext fun i => by omega
  rw [z] at q; exact q
theorem Ideal.sub {f g : Pol} (h : J f) (h' : J g) : J (fun i => f i - g i) := by
  have q := I.add f _ h (I.smul (-1) g h')
  have z : (fun i => f i + -1 * g i) = fun i => f i - g i := funext fun i => by omega
  rw [z] at q; exact q
theorem Ideal.shiftN {f : Pol} (h : J f) (k : Nat) : J (shN k f) := by
  induction k with
  | zero => exact h
  | succ k ih => exact I.shift _ ih
end
/-- q * g -/
def mulf : List Int → Pol → Pol
  | [], _ => fun _ => 0
  | a :: q, g => fun i => a * g i + sh (mulf q g) i
theorem Ideal.mulf {p : Int} {J : Pol → Prop} (I : Ideal p J) {g : Pol} (h : J g) : ∀ q : List Int, J (mulf q g)
  | [] => I.zero _ fun _ => ⟨0, by simp [ER.mulf]⟩
  | a :: q => I.add _ _ (I.smul a g h) (I.shift _ (Ideal.mulf I h q))
theorem mulf_set {f : List Int} {k : Nat} {c : Int} {g : Pol} (hk : k < f.length) (h0 : cf f k = 0) (i : Nat) : mulf (f.set k c) g i = mulf f g i + c * shN k g i := by
  induction f generalizing k i with
  | nil => simp at hk
  | cons a f ih =>
    cases k with
    | zero =>
      have ha : a = 0 := h0
      show c * g i + sh (mulf f g) i = (a * g i + sh (mulf f g) i) + c * g i
      rw [ha]; grind
    | succ k =>
      cases i with
      | zero => show a * g 0 + 0 = (a * g 0 + 0) + c * 0; grind
      | succ i =>
        have := ih (k := k) (by simpa using hk) h0 i
        show a * g (i+1) + mulf (f.set k c) g i = (a * g (i+1) + mulf f g i) + c * shN k g i
        rw [this]; grind
theorem mulf_trim (f : List Int) (g : Pol) : ∀ i, mulf (trim f) g i = mulf f g i := by
  induction f with
  | nil => intro i; rfl
  | cons a f ih =>
    intro i
    unfold trim
    cases e : trim f with
    | nil =>
      rw [e] at ih
      have s0 : sh (mulf f g) i = 0 := by
        cases i with
        | zero => rfl
        | succ i => exact (ih i).symm
      by_cases h : a = 0
      · simp only [if_pos h]
        show 0 = a * g i + sh (mulf f g) i
        rw [s0, h]; simp
      · simp only [if_neg h]
        show a * g i + sh (mulf [] g) i = a * g i + sh (mulf f g) i
        rw [s0]
        cases i <;> rfl
    | cons b t =>
      rw [e] at ih
      show a * g i + sh (mulf (b :: t) g) i = a * g i + sh (mulf f g) i
      cases i with
      | zero => rfl
      | succ i => show _ + mulf (b :: t) g i = _ + mulf f g i; rw [ih i]
theorem mulf_rep (n : Nat) (g : Pol) (i : Nat) : mulf (List.replicate n 0) g i = 0 := by
  induction n generalizing i with
  | zero => rfl
  | succ n ih =>
    show 0 * g i + sh (mulf (List.replicate n 0) g) i = 0
    cases i with
    | zero => show 0 * g 0 + 0 = 0; simp
    | succ i => show 0 * g (i+1) + mulf (List.replicate n 0) g i = 0; rw [ih i]; simp
end ER
end
section
set_option linter.all false
set_option maxHeartbeats 1000000
namespace ER
/-! ### mirrors -/
def foldI {α β : Type} (f : α → Nat → β → α) : α → Nat → List β → α
  | a, _, [] => a
  | a, n, b :: l => foldI f (f a n b) (n + 1) l
def lastF (r : List Int) : Int := cf r (r.length - 1)
def scaledF (p : Int) (r : List Int) (c : Int) : List Int := trim (r.map fun x => x * c % p)
def monicF (p : Int) (r : List Int) : List Int := scaledF p r (invF p (lastF r))
def padF (r : List Int) (n : Nat) : List Int := r ++ List.replicate (n - r.length) 0
def addedF (p : Int) (a b : List Int) : List Int := trim (List.zipWith (fun x y => (x + y) % p) (padF a (max a.length b.length)) (padF b (max a.length b.length)))
def addAt (p : Int) (k : Nat) (c : Int) (f : List Int) (o : List Int) : List Int := foldI (fun f j b => f.set (k + j) ((cf f (k + j) + c * b) % p)) f 0 o
def timesF (p : Int) (a b : List Int) : List Int := trim (foldI (fun f i x => addAt p i x f b) (List.replicate (a.length + b.length) 0) 0 a)
def subAt (p : Int) (k : Nat) (c : Int) (r : List Int) (o : List Int) : List Int := foldI (fun r j b => r.set (k + j) ((cf r (k + j) - c * b) % p)) r 0 o
def divLoop (p over : Int) (o : List Int) : Nat → List Int → List Int → List Int × List Int
  | 0, f, r => (f, r)
  | n + 1, f, r => divLoop p over o n (f.set n (cf r (n + o.length - 1) * over % p)) (subAt p n (cf r (n + o.length - 1) * over % p) r o)
def divF (p : Int) (a b : List Int) : List Int × List Int :=
  (trim (divLoop p (invF p (lastF b)) b (a.length + 1 - b.length) (List.replicate (a.length + 1 - b.length) 0) a).1, trim (divLoop p (invF p (lastF b)) b (a.length + 1 - b.length) (List.replicate (a.length + 1 - b.length) 0) a).2)
def gcdL (p : Int) : Nat → List Int → List Int → List Int
  | 0, a, _ => a
  | n + 1, a, b => if b = [] then a else gcdL p n b (divF p a b).2
def commonF (p : Int) (a b : List Int) : List Int := if gcdL p b.length a b = [] then [] else monicF p (gcdL p b.length a b)
def gcdOf (p : Int) (rows : List (List Int)) : List Int := rows.foldl (commonF p) []
def powL (p : Int) (m : List Int) : Nat → Nat → List Int → List Int → List Int
  | 0, _, f, _ => f
  | n + 1, l, f, s => if l = 0 then f else powL p m n (l / 2) (if l % 2 = 1 then (divF p (timesF p f s) m).2 else f) (divF p (timesF p s s) m).2
def powF (p : Int) (n : Nat) (m : List Int) : List Int := powL p m n n (divF p [1] m).2 (divF p [0, 1] m).2
abbrev Pairs := List (Int × Int)
def leastF (r : Pairs) : Int := (r.headD (0, 0)).1
def ruleRow (r : Pairs) : List Int := r.foldl (fun f q => f.set (q.1 - leastF r).toNat q.2) (List.replicate ((r.getLastD (0, 0)).1 - leastF r + 1).toNat 0)
def coreF (p : Int) (r : Pairs) : List Int := monicF p (ruleRow r)
def genF (p : Int) (bs : List Pairs) : List Int := gcdOf p (bs.map (coreF p))
def divOnF (p : Int) (bs : List Pairs) (n : Nat) : List Int := gcdOf p [genF p bs, (divF p (addedF p (powF p n (genF p bs)) [p - 1]) (genF p bs)).2]
def restF (p : Int) (pic : Pairs) (d : List Int) : List Int := pic.foldl (fun f q => addedF p f (scaledF p (powF p q.1.toNat d) q.2)) []
def pressF (p : Int) (ring : List Int) (b : Pairs) (x t : Int) : List Int :=
  b.foldl (fun f q => f.set ((x + q.1) % (f.length : Int)).toNat ((cf f ((x + q.1) % (f.length : Int)).toNat + q.2 * t) % p)) ring
def coloursF (n : Nat) (pic : Pairs) : List Int := pic.foldl (fun f q => f.set q.1.toNat q.2) (List.replicate n 0)
def picFrom : Nat → List Int → Pairs
  | _, [] => []
  | i, c :: r => if c = 0 then picFrom (i + 1) r else ((i : Int), c) :: picFrom (i + 1) r
def picF (ring : List Int) : Pairs := picFrom 0 ring
def lessF (p : Int) (a b : List Int) (t : Int) : List Int := List.zipWith (fun h u => (h - t * u) % p) a b
structure BRow where
  at_ : Nat
  row : List Int
  mix : List Int
def lessByF (p : Int) (bs : List BRow) (ring mix : List Int) : List Int × List Int :=
  bs.foldl (fun q b => if cf q.1 b.at_ = 0 then q else (lessF p q.1 b.row (cf q.1 b.at_), lessF p q.2 b.mix (cf q.1 b.at_))) (ring, mix)
/-- the first place that is not 0 -/
def litF : List Int → Option Nat
  | [] => none
  | c :: r => if c = 0 then (litF r).map (· + 1) else some 0
def unitF (m k : Nat) : List Int := (List.replicate m (0 : Int)).set k 1
def basisStep (p : Int) (bs : List Pairs) (n : Nat) (B : List BRow) (k : Nat) : List BRow :=
  let q := lessByF p B (pressF p (List.replicate n 0) (bs.getD (k / n) []) ((k % n : Nat) : Int) 1) (unitF (bs.length * n) k)
  match litF q.1 with
  | none => B
  | some l => B ++ [⟨l, lessF p (List.replicate n 0) q.1 (-invF p (cf q.1 l)), lessF p (List.replicate (bs.length * n) 0) q.2 (-invF p (cf q.1 l))⟩]
def basisF (p : Int) (bs : List Pairs) (n : Nat) : List BRow := (List.range (bs.length * n)).foldl (basisStep p bs n) []
def foundQ (p : Int) (bs : List Pairs) (n : Nat) (pic : Pairs) : List Int × List Int := lessByF p (basisF p bs n) (coloursF n pic) (List.replicate (bs.length * n) 0)
def mixFrom (p : Int) (n : Nat) : Nat → List Int → List (Int × Int × Int)
  | _, [] => []
  | k, t :: r => if t = 0 then mixFrom p n (k + 1) r else (((k / n : Nat) : Int), ((k % n : Nat) : Int), -t % p) :: mixFrom p n (k + 1) r
def foundF (p : Int) (bs : List Pairs) (n : Nat) (pic : Pairs) : Option (List (Int × Int × Int)) :=
  if (foundQ p bs n pic).1.all (· = 0) then some (mixFrom p n 0 (foundQ p bs n pic).2) else none
def turnF (p : Int) (ring : List Int) (b : Pairs) : List Int := (picF ring).foldl (fun f q => pressF p f b q.1 q.2) (List.replicate ring.length 0)

/-! ### lengths, bounds -/
theorem foldI_inv {α β : Type} {f : α → Nat → β → α} (Pv : α → Prop) (hf : ∀ a n b, Pv a → Pv (f a n b)) : ∀ (l : List β) (a : α) (n : Nat), Pv a → Pv (foldI f a n l)
  | [], _, _, h => h
  | b :: l, a, n, h => foldI_inv Pv hf l _ _ (hf a n b h)
theorem addAt_len (p : Int) (k : Nat) (c : Int) (f o : List Int) : (addAt p k c f o).length = f.length :=
  foldI_inv (fun g => g.length = f.length) (fun a n b h => by rw [List.length_set]; exact h) o f 0 rfl
theorem addAt_bd {p : Int} (hp : 0 < p) (k : Nat) (c : Int) {f : List Int} (o : List Int) (h : Bd p f) : Bd p (addAt p k c f o) :=
  foldI_inv (fun g => Bd p g) (fun a n b h => h.set (bd_mod hp _)) o f 0 h
theorem subAt_len (p : Int) (k : Nat) (c : Int) (f o : List Int) : (subAt p k c f o).length = f.length :=
  foldI_inv (fun g => g.length = f.length) (fun a n b h => by rw [List.length_set]; exact h) o f 0 rfl
theorem subAt_bd {p : Int} (hp : 0 < p) (k : Nat) (c : Int) {f : List Int} (o : List Int) (h : Bd p f) : Bd p (subAt p k c f o) :=
  foldI_inv (fun g => Bd p g) (fun a n b h => h.set (bd_mod hp _)) o f 0 h
theorem divLoop_len (p over : Int) (o : List Int) : ∀ (n : Nat) (f r : List Int), (divLoop p over o n f r).1.length = f.length ∧ (divLoop p over o n f r).2.length = r.length
  | 0, _, _ => ⟨rfl, rfl⟩
  | n + 1, f, r => by
    unfold divLoop
    have q := divLoop_len p over o n (f.set n (cf r (n + o.length - 1) * over % p)) (subAt p n (cf r (n + o.length - 1) * over % p) r o)
    rw [List.length_set, subAt_len] at q
    exact q
theorem divLoop_bd {p : Int} (hp : 0 < p) (over : Int) (o : List Int) : ∀ (n : Nat) (f r : List Int), Bd p f → Bd p r → Bd p (divLoop p over o n f r).1 ∧ Bd p (divLoop p over o n f r).2
  | 0, _, _, h, h' => ⟨h, h'⟩
  | n + 1, f, r, h, h' => by
    unfold divLoop
    exact divLoop_bd hp over o n _ _ (h.set (bd_mod hp _)) (subAt_bd hp _ _ _ h')
theorem scaledF_row {p : Int} (hp : 0 < p) (r : List Int) (c : Int) : Row p (scaledF p r c) := Row.trim (Bd.map fun x => bd_mod hp _)
theorem addedF_row {p : Int} (hp : 0 < p) (a b : List Int) : Row p (addedF p a b) := Row.trim fun x hx => by
  obtain ⟨i, hi, e⟩ := List.mem_iff_getElem.mp hx
  rw [← e, List.getElem_zipWith]
  exact bd_mod hp _
theorem timesF_row {p : Int} (hp : 0 < p) (a b : List Int) : Row p (timesF p a b) := Row.trim (foldI_inv (fun g => Bd p g) (fun g n x h => addAt_bd hp _ _ _ h) a _ 0 (Bd.rep hp _))
theorem divF_row {p : Int} (hp : 0 < p) {a : List Int} (b : List Int) (h : Bd p a) : Row p (divF p a b).1 ∧ Row p (divF p a b).2 := by
  have q := divLoop_bd hp (invF p (lastF b)) b (a.length + 1 - b.length) (List.replicate (a.length + 1 - b.length) 0) a (Bd.rep hp _) h
  exact ⟨Row.trim q.1, Row.trim q.2⟩
theorem monicF_row {p : Int} (hp : 0 < p) (r : List Int) : Row p (monicF p r) := scaledF_row hp _ _
theorem scaledF_len (p : Int) (r : List Int) (c : Int) : (scaledF p r c).length ≤ r.length := by
  have := trim_len (r.map fun x => x * c % p)
  rw [List.length_map] at this
  exact this
theorem addedF_len (p : Int) (a b : List Int) : (addedF p a b).length ≤ max a.length b.length := by
  refine Nat.le_trans (trim_len _) ?_
  rw [List.length_zipWith]
  unfold padF
  simp only [List.length_append, List.length_replicate]
  omega
theorem timesF_len (p : Int) (a b : List Int) : (timesF p a b).length ≤ a.length + b.length := by
  refine Nat.le_trans (trim_len _) ?_
  have := foldI_inv (f := fun f i x => addAt p i x f b) (fun g => g.length = a.length + b.length) (fun g n x h => by rw [addAt_len]; exact h) a (List.replicate (a.length + b.length) 0) 0 (by simp)
  omega
theorem divF_len1 (p : Int) (a b : List Int) : (divF p a b).1.length ≤ a.length + 1 - b.length := by
  refine Nat.le_trans (trim_len _) ?_
  rw [(divLoop_len p _ b _ _ a).1]; simp
theorem divF_len2 (p : Int) (a b : List Int) : (divF p a b).2.length ≤ a.length := by
  refine Nat.le_trans (trim_len _) ?_
  rw [(divLoop_len p _ b _ _ a).2]; exact Nat.le_refl _

/-! ### division -/
theorem cf_subAt_gen (p : Int) (k : Nat) (c : Int) : ∀ (o : List Int) (j : Nat) (r : List Int), k + j + o.length ≤ r.length → ∀ i,
    cf (foldI (fun r j b => r.set (k + j) ((cf r (k + j) - c * b) % p)) r j o) i = if k + j ≤ i ∧ i < k + j + o.length then (cf r i - c * cf o (i - (k + j))) % p else cf r i
  | [], j, r, _, i => by
    rw [if_neg (fun h => by rw [List.length_nil] at h; omega)]; rfl
  | b :: o, j, r, h, i => by
    unfold foldI
    rw [List.length_cons] at h
    have ih := cf_subAt_gen p k c o (j + 1) (r.set (k + j) ((cf r (k + j) - c * b) % p)) (by rw [List.length_set]; omega) i
    rw [ih, cf_set (by omega)]
    by_cases e : i = k + j
    · subst e
      rw [if_neg (by omega), if_pos rfl, if_pos (by rw [List.length_cons]; omega), Nat.sub_self, cf_zero]
    · rw [if_neg e]
      by_cases h1 : k + (j + 1) ≤ i ∧ i < k + (j + 1) + o.length
      · rw [if_pos h1, if_pos (by rw [List.length_cons]; omega)]
        have : i - (k + j) = (i - (k + (j + 1))) + 1 := by omega
        rw [this, cf_succ]
      · rw [if_neg h1, if_neg (by rw [List.length_cons]; omega)]
theorem cf_subAt {p : Int} {k : Nat} {c : Int} {o r : List Int} (h : k + o.length ≤ r.length) (i : Nat) :
    cf (subAt p k c r o) i = if k ≤ i ∧ i < k + o.length then (cf r i - c * cf o (i - k)) % p else cf r i := by
  have := cf_subAt_gen p k c o 0 r (by simpa using h) i
  simpa [subAt] using this
theorem cf_addAt_gen (p : Int) (k : Nat) (c : Int) : ∀ (o : List Int) (j : Nat) (r : List Int), k + j + o.length ≤ r.length → ∀ i,
    cf (foldI (fun r j b => r.set (k + j) ((cf r (k + j) + c * b) % p)) r j o) i = if k + j ≤ i ∧ i < k + j + o.length then (cf r i + c * cf o (i - (k + j))) % p else cf r i
  | [], j, r, _, i => by
    rw [if_neg (fun h => by rw [List.length_nil] at h; omega)]; rfl
  | b :: o, j, r, h, i => by
    unfold foldI
    rw [List.length_cons] at h
    have ih := cf_addAt_gen p k c o (j + 1) (r.set (k + j) ((cf r (k + j) + c * b) % p)) (by rw [List.length_set]; omega) i
    rw [ih, cf_set (by omega)]
    by_cases e : i = k + j
    · subst e
      rw [if_neg (by omega), if_pos rfl, if_pos (by rw [List.length_cons]; omega), Nat.sub_self, cf_zero]
    · rw [if_neg e]
      by_cases h1 : k + (j + 1) ≤ i ∧ i < k + (j + 1) + o.length
      · rw [if_pos h1, if_pos (by rw [List.length_cons]; omega)]
        have : i - (k + j) = (i - (k + (j + 1))) + 1 := by omega
        rw [this, cf_succ]
      · rw [if_neg h1, if_neg (by rw [List.length_cons]; omega)]
theorem cf_addAt {p : Int} {k : Nat} {c : Int} {o r : List Int} (h : k + o.length ≤ r.length) (i : Nat) :
    cf (addAt p k c r o) i = if k ≤ i ∧ i < k + o.length then (cf r i + c * cf o (i - k)) % p else cf r i := by
  have := cf_addAt_gen p k c o 0 r (by simpa using h) i
  simpa [addAt] using this
theorem shN_cf (k : Nat) (o : List Int) (i : Nat) : shN k (cf o) i = if k ≤ i ∧ i < k + o.length then cf o (i - k) else 0 := by
  rw [shN_at]
  by_cases h : i < k
  · rw [if_pos h, if_neg (by omega)]
  · rw [if_neg h]
    by_cases h2 : i < k + o.length
    · rw [if_pos (by omega)]
    · rw [if_neg (by omega)]; exact cf_ge (by omega)
theorem subAt_dvd {p : Int} {k : Nat} {c : Int} {o r : List Int} (h : k + o.length ≤ r.length) (i : Nat) : p ∣ cf r i - (cf (subAt p k c r o) i + c * shN k (cf o) i) := by
  rw [cf_subAt h, shN_cf]
  by_cases h1 : k ≤ i ∧ i < k + o.length
  · rw [if_pos h1, if_pos h1]
    refine dvd_of_eq (dvd_sub_mod p (cf r i - c * cf o (i - k))) ?_
    omega
  · rw [if_neg h1, if_neg h1]; exact ⟨0, by simp⟩
theorem addAt_dvd {p : Int} {k : Nat} {c : Int} {o r : List Int} (h : k + o.length ≤ r.length) (i : Nat) : p ∣ (cf r i + c * shN k (cf o) i) - cf (addAt p k c r o) i := by
  rw [cf_addAt h, shN_cf]
  by_cases h1 : k ≤ i ∧ i < k + o.length
  · rw [if_pos h1, if_pos h1]
    exact dvd_sub_mod p _
  · rw [if_neg h1, if_neg h1]; exact ⟨0, by simp⟩
/-- the loop of a division: what it keeps -/
theorem divLoop_dvd {p : Int} (over : Int) {o : List Int} : ∀ (n : Nat) (f r : List Int), n + o.length ≤ r.length + 1 → 0 < o.length → n ≤ f.length → (∀ k, k < n → cf f k = 0) → ∀ i,
    p ∣ (cf r i + mulf f (cf o) i) - (cf (divLoop p over o n f r).2 i + mulf (divLoop p over o n f r).1 (cf o) i)
  | 0, f, r, _, _, _, _, i => ⟨0, by unfold divLoop; simp⟩
  | n + 1, f, r, h, h0, hf, hz, i => by
    unfold divLoop
    have hs : n + o.length ≤ r.length := by omega
    have ih := divLoop_dvd (p := p) over (o := o) n (f.set n (cf r (n + o.length - 1) * over % p)) (subAt p n (cf r (n + o.length - 1) * over % p) r o) (by rw [subAt_len]; omega) h0 (by rw [List.length_set]; omega)
      (fun k hk => by rw [cf_set (by omega), if_neg (by omega)]; exact hz k (by omega)) i
    rw [mulf_set (by omega) (hz n (by omega))] at ih
    have d := subAt_dvd (p := p) (c := cf r (n + o.length - 1) * over % p) hs i
    refine dvd_of_eq (dvd_add ih d) ?_
    omega
/-- .. and that the rest is short -/
theorem divLoop_short {p : Int} {over : Int} {o : List Int} (hp : 0 < p) (ho : p ∣ over * lastF o - 1) : ∀ (n : Nat) (f r : List Int), n + o.length ≤ r.length + 1 → 0 < o.length → (∀ i, n + o.length - 1 ≤ i → cf r i = 0) →
    ∀ i, o.length - 1 ≤ i → cf (divLoop p over o n f r).2 i = 0
  | 0, f, r, _, _, hz, i, hi => by unfold divLoop; exact hz i (by omega)
  | n + 1, f, r, h, h0, hz, i, hi => by
    unfold divLoop
    have hs : n + o.length ≤ r.length := by omega
    refine divLoop_short hp ho n _ _ (by rw [subAt_len]; omega) h0 (fun j hj => ?_) i hi
    rw [cf_subAt hs]
    by_cases e : j = n + o.length - 1
    · rw [if_pos (by omega)]
      have e2 : j - n = o.length - 1 := by omega
      have e3 : cf o (j - n) = lastF o := by rw [e2]; rfl
      rw [e3, e]
      refine Int.emod_eq_zero_of_dvd ?_
      obtain ⟨a, ha⟩ := ho
      obtain ⟨b, hb⟩ := dvd_sub_mod p (cf r (n + o.length - 1) * over)
      refine ⟨-(cf r (n + o.length - 1)) * a + b * lastF o, ?_⟩
      grind
    · rw [if_neg (by omega)]
      exact hz j (by omega)
theorem Row.lastpos {p : Int} {r : List Int} (h : Row p r) (hp : 0 < p) (hr : r ≠ []) : 0 < lastF r ∧ lastF r < p := by
  have h1 := h.bd.cf hp (r.length - 1)
  have h2 := h.last hr
  show 0 < cf r (r.length - 1) ∧ cf r (r.length - 1) < p
  omega
theorem divF_dvd {p : Int} {a b : List Int} (h0 : b ≠ []) (i : Nat) : p ∣ cf a i - (cf (divF p a b).2 i + mulf (divF p a b).1 (cf b) i) := by
  have hl : 0 < b.length := List.length_pos_iff.mpr h0
  unfold divF
  rw [cf_trim, mulf_trim]
  by_cases hab : b.length ≤ a.length + 1
  · have q := divLoop_dvd (p := p) (invF p (lastF b)) (o := b) (a.length + 1 - b.length) (List.replicate (a.length + 1 - b.length) 0) a (by omega) hl (by simp) (fun k _ => cf_rep _ _) i
    rw [mulf_rep] at q
    refine dvd_of_eq q ?_
    omega
  · have e : a.length + 1 - b.length = 0 := by omega
    rw [e]
    exact ⟨0, by simp [divLoop, mulf]⟩
theorem divF_short {p : Int} (hp : P3 p) {a b : List Int} (hb : Row p b) (h0 : b ≠ []) : (divF p a b).2.length < b.length := by
  have hl : 0 < b.length := List.length_pos_iff.mpr h0
  obtain ⟨h1, h2⟩ := hb.lastpos hp.pos h0
  have key : (divF p a b).2.length ≤ b.length - 1 := by
    refine trim_len_le ?_
    by_cases hab : b.length ≤ a.length + 1
    · exact divLoop_short hp.pos (invF_dvd hp h1 h2) _ _ _ (by omega) hl (fun i hi => cf_ge (by omega))
    · intro i hi
      have e : a.length + 1 - b.length = 0 := by omega
      rw [e]
      unfold divLoop
      show cf a i = 0
      exact cf_ge (by omega)
  omega
end ER
end
section
set_option linter.all false
set_option maxHeartbeats 1000000
namespace ER
theorem gcdL_nil (p : Int) (a : List Int) : ∀ n, gcdL p n a [] = a
  | 0 => rfl
  | n + 1 => by unfold gcdL; rw [if_pos rfl]
theorem gcdL_fuel {p : Int} (hp : P3 p) : ∀ (n m : Nat) (a b : List Int), Row p a → Row p b → b.length ≤ n → b.length ≤ m → gcdL p n a b = gcdL p m a b
  | 0, m, a, b, _, _, h, _ => by
    have : b = [] := List.length_eq_zero_iff.mp (by omega)
    subst this
    rw [gcdL_nil, gcdL_nil]
  | n + 1, m, a, b, ra, rb, h, h' => by
    by_cases e : b = []
    · subst e; rw [gcdL_nil, gcdL_nil]
    · have hl : 0 < b.length := List.length_pos_iff.mpr e
      obtain ⟨m', rfl⟩ : ∃ m', m = m' + 1 := ⟨m - 1, by omega⟩
      have hs := divF_short hp (a := a) rb e
      unfold gcdL
      rw [if_neg e, if_neg e]
      exact gcdL_fuel hp n m' b _ rb (divF_row hp.pos b ra.bd).2 (by omega) (by omega)
theorem gcdL_step {p : Int} (hp : P3 p) {a b : List Int} (ra : Row p a) (rb : Row p b) (e : b ≠ []) : gcdL p b.length a b = gcdL p (divF p a b).2.length b (divF p a b).2 := by
  have hl : 0 < b.length := List.length_pos_iff.mpr e
  have hs := divF_short hp (a := a) rb e
  obtain ⟨n, hn⟩ : ∃ n, b.length = n + 1 := ⟨b.length - 1, by omega⟩
  have : gcdL p b.length a b = gcdL p n b (divF p a b).2 := by
    rw [hn]
    conv => lhs; unfold gcdL
    rw [if_neg e]
  rw [this]
  exact gcdL_fuel hp _ _ _ _ rb (divF_row hp.pos b ra.bd).2 (by omega) (Nat.le_refl _)
theorem gcdL_row {p : Int} (hp : P3 p) : ∀ (n : Nat) (a b : List Int), Row p a → Row p b → Row p (gcdL p n a b) ∧ (gcdL p n a b).length ≤ max a.length b.length
  | 0, a, b, ra, _ => ⟨ra, by unfold gcdL; omega⟩
  | n + 1, a, b, ra, rb => by
    unfold gcdL
    by_cases e : b = []
    · rw [if_pos e]; exact ⟨ra, by omega⟩
    · rw [if_neg e]
      have hs := divF_short hp (a := a) rb e
      have := gcdL_row hp n b _ rb (divF_row hp.pos b ra.bd).2
      exact ⟨this.1, by omega⟩
theorem commonF_row {p : Int} (hp : P3 p) {a b : List Int} (ra : Row p a) (rb : Row p b) : Row p (commonF p a b) ∧ (commonF p a b).length ≤ max a.length b.length := by
  have q := gcdL_row hp b.length a b ra rb
  unfold commonF
  by_cases e : gcdL p b.length a b = []
  · rw [if_pos e]; exact ⟨Row.nil, by simp⟩
  · rw [if_neg e]
    exact ⟨monicF_row hp.pos _, Nat.le_trans (scaledF_len p _ _) q.2⟩
theorem gcdFold_row {p : Int} (hp : P3 p) {M : Nat} : ∀ (rows : List (List Int)) (a : List Int), Row p a → a.length ≤ M → (∀ r ∈ rows, Row p r ∧ r.length ≤ M) → Row p (rows.foldl (commonF p) a) ∧ (rows.foldl (commonF p) a).length ≤ M
  | [], _, ra, la, _ => ⟨ra, la⟩
  | r :: rows, a, ra, la, h => by
    have h1 := h r (List.mem_cons_self ..)
    have h2 := commonF_row hp ra h1.1
    exact gcdFold_row hp rows _ h2.1 (by omega) fun x hx => h x (List.mem_cons_of_mem _ hx)
theorem gcdOf_row {p : Int} (hp : P3 p) {M : Nat} {rows : List (List Int)} (h : ∀ r ∈ rows, Row p r ∧ r.length ≤ M) : Row p (gcdOf p rows) ∧ (gcdOf p rows).length ≤ M :=
  gcdFold_row hp rows [] Row.nil (Nat.zero_le _) h
theorem powL_fuel (p : Int) (m : List Int) : ∀ (n k l : Nat) (f s : List Int), l ≤ n → l ≤ k → powL p m n l f s = powL p m k l f s
  | 0, k, l, f, s, h, _ => by
    have : l = 0 := by omega
    subst this
    cases k with
    | zero => rfl
    | succ k => unfold powL; rw [if_pos rfl]
  | n + 1, k, l, f, s, h, h' => by
    by_cases e : l = 0
    · subst e
      cases k with
      | zero => unfold powL; rw [if_pos rfl]
      | succ k => unfold powL; rw [if_pos rfl, if_pos rfl]
    · obtain ⟨k', rfl⟩ : ∃ k', k = k' + 1 := ⟨k - 1, by omega⟩
      unfold powL
      rw [if_neg e, if_neg e]
      exact powL_fuel p m n k' _ _ _ (by omega) (by omega)
theorem powL_step (p : Int) (m : List Int) {l : Nat} (f s : List Int) (e : l ≠ 0) : powL p m l l f s = powL p m (l / 2) (l / 2) (if l % 2 = 1 then (divF p (timesF p f s) m).2 else f) (divF p (timesF p s s) m).2 := by
  obtain ⟨k, rfl⟩ : ∃ k, l = k + 1 := ⟨l - 1, by omega⟩
  conv => lhs; unfold powL
  rw [if_neg e]
  exact powL_fuel p m _ _ _ _ _ (by omega) (by omega)
theorem powL_inv {p : Int} {m : List Int} (Pv : List Int → Prop) (hm : ∀ f s, Pv f → Pv s → Pv (divF p (timesF p f s) m).2) : ∀ (n l : Nat) (f s : List Int), Pv f → Pv s → Pv (powL p m n l f s)
  | 0, _, _, _, h, _ => h
  | n + 1, l, f, s, h, h' => by
    unfold powL
    by_cases e : l = 0
    · rw [if_pos e]; exact h
    · rw [if_neg e]
      refine powL_inv Pv hm n _ _ _ ?_ (hm _ _ h' h')
      split
      · exact hm _ _ h h'
      · exact h
theorem powF_row {p : Int} (hp : P3 p) {m : List Int} (rm : Row p m) (hm : m ≠ []) (n : Nat) : Row p (powF p n m) ∧ (powF p n m).length < m.length := by
  have p1 : Bd p [1] := fun x hx => by rw [List.mem_singleton.mp hx]; have := hp.two; omega
  have p2 : Bd p [0, 1] := fun x hx => by
    have := hp.two
    simp only [List.mem_cons, List.not_mem_nil, or_false] at hx
    omega
  refine powL_inv (fun r => Row p r ∧ r.length < m.length) (fun f s h h' => ⟨(divF_row hp.pos m (timesF_row hp.pos f s).bd).2, divF_short hp rm hm⟩) n n _ _ ?_ ?_
  · exact ⟨(divF_row hp.pos m p1).2, divF_short hp rm hm⟩
  · exact ⟨(divF_row hp.pos m p2).2, divF_short hp rm hm⟩
/-! ### rules -/
structure Rule (p : Int) (b : Pairs) : Prop where
  ne : b ≠ []
  asc : b.Pairwise fun x y => x.1 < y.1
  amt : ∀ q ∈ b, 0 < q.2 ∧ q.2 < p
  off : ∀ q ∈ b, -4 ≤ q.1 ∧ q.1 ≤ 4
/-- the least and the last offset -/
theorem Rule.ends {p : Int} {b : Pairs} (h : Rule p b) : ∃ l, b.getLastD (0, 0) = l ∧ l ∈ b ∧ ∀ q ∈ b, leastF b ≤ q.1 ∧ q.1 ≤ l.1 := by
  obtain ⟨ne, asc, _, _⟩ := h
  refine ⟨b.getLast ne, ?_, List.getLast_mem ne, fun q hq => ⟨?_, ?_⟩⟩
  · rw [List.getLastD_eq_getLast?, List.getLast?_eq_some_getLast ne]; rfl
  · cases b with
    | nil => exact absurd rfl ne
    | cons a r =>
      rcases List.mem_cons.mp hq with e | e
      · subst e; exact Int.le_refl _
      · exact Int.le_of_lt ((List.pairwise_cons.mp asc).1 _ e)
  · have e := (List.dropLast_concat_getLast ne)
    rw [← e] at asc hq
    rcases List.mem_append.mp hq with h1 | h1
    · exact Int.le_of_lt ((List.pairwise_append.mp asc).2.2 _ h1 _ (List.mem_singleton.mpr rfl))
    · rw [List.mem_singleton.mp h1]; exact Int.le_refl _
/-- how much a rule has at an offset -/
def amtF : Pairs → Int → Int
  | [], _ => 0
  | q :: b, o => if q.1 = o then q.2 else amtF b o
theorem amtF_cons (q : Int × Int) (b : Pairs) (o : Int) : amtF (q :: b) o = if q.1 = o then q.2 else amtF b o := rfl
def setAll (l : Int) (b : Pairs) (f : List Int) : List Int := b.foldl (fun f q => f.set (q.1 - l).toNat q.2) f
theorem setAll_len (l : Int) : ∀ (b : Pairs) (f : List Int), (setAll l b f).length = f.length
  | [], _ => rfl
  | q :: b, f => by
    have := setAll_len l b (f.set (q.1 - l).toNat q.2)
    rw [List.length_set] at this
    exact this
theorem setAll_bd {p : Int} (l : Int) : ∀ (b : Pairs) (f : List Int), (∀ q ∈ b, 0 < q.2 ∧ q.2 < p) → Bd p f → Bd p (setAll l b f)
  | [], _, _, h => h
  | q :: b, f, ha, h => by
    have hq := ha q (List.mem_cons_self ..)
    exact setAll_bd l b _ (fun x hx => ha x (List.mem_cons_of_mem _ hx)) (h.set ⟨by omega, hq.2⟩)
theorem amtF_none : ∀ (b : Pairs) (o : Int), (∀ q ∈ b, q.1 ≠ o) → amtF b o = 0
  | [], _, _ => rfl
  | q :: b, o, h => by
    unfold amtF
    rw [if_neg (h q (List.mem_cons_self ..))]
    exact amtF_none b o fun x hx => h x (List.mem_cons_of_mem _ hx)
theorem setAll_cf (l : Int) : ∀ (b : Pairs) (f : List Int), b.Pairwise (fun x y => x.1 < y.1) → (∀ q ∈ b, l ≤ q.1 ∧ (q.1 - l).toNat < f.length) → (∀ q ∈ b, cf f (q.1 - l).toNat = 0) → ∀ i : Nat, cf (setAll l b f) i = cf f i + amtF b (l + i)
  | [], f, _, _, _, i => by unfold setAll amtF; simp
  | q :: b, f, asc, h, hz, i => by
    obtain ⟨a1, a2⟩ := List.pairwise_cons.mp asc
    have hq := h q (List.mem_cons_self ..)
    have hzq := hz q (List.mem_cons_self ..)
    have ih := setAll_cf l b (f.set (q.1 - l).toNat q.2) a2 (fun x hx => by rw [List.length_set]; exact h x (List.mem_cons_of_mem _ hx)) (fun x hx => by
      have hx1 := h x (List.mem_cons_of_mem _ hx)
      have hx2 := a1 x hx
      rw [cf_set hq.2, if_neg (by omega)]
      exact hz x (List.mem_cons_of_mem _ hx)) i
    show cf (setAll l b (f.set (q.1 - l).toNat q.2)) i = _
    rw [ih, cf_set hq.2, amtF_cons]
    by_cases e : i = (q.1 - l).toNat
    · rw [if_pos e, if_pos (by omega), e, hzq, amtF_none b (l + ((q.1 - l).toNat : Nat)) (fun x hx => by have := a1 x hx; omega)]
      omega
    · rw [if_neg e, if_neg (by omega)]
theorem ruleRow_len (b : Pairs) : (ruleRow b).length = ((b.getLastD (0, 0)).1 - leastF b + 1).toNat := by
  show (setAll (leastF b) b _).length = _
  rw [setAll_len, List.length_replicate]
theorem Rule.cf {p : Int} {b : Pairs} (h : Rule p b) (i : Nat) : cf (ruleRow b) i = amtF b (leastF b + i) := by
  obtain ⟨l, e, hl, hq⟩ := h.ends
  show ER.cf (setAll (leastF b) b _) i = _
  rw [setAll_cf _ _ _ h.asc ?_ ?_, cf_rep, Int.zero_add]
  · intro q hm
    have := hq q hm
    rw [List.length_replicate, e]
    omega
  · intro q _; exact cf_rep _ _
theorem amtF_mem : ∀ {b : Pairs} {q : Int × Int}, b.Pairwise (fun x y => x.1 < y.1) → q ∈ b → amtF b q.1 = q.2
  | [], _, _, h => by cases h
  | a :: b, q, asc, h => by
    obtain ⟨a1, a2⟩ := List.pairwise_cons.mp asc
    unfold amtF
    rcases List.mem_cons.mp h with e | e
    · subst e; rw [if_pos rfl]
    · have := a1 q e
      rw [if_neg (by omega)]
      exact amtF_mem a2 e
theorem Rule.row {p : Int} (hp : P3 p) {b : Pairs} (h : Rule p b) : Row p (ruleRow b) ∧ ruleRow b ≠ [] ∧ (ruleRow b).length ≤ 9 := by
  obtain ⟨l, e, hl, hq⟩ := h.ends
  have hlen := ruleRow_len b
  rw [e] at hlen
  have h1 := hq l hl
  have hb : Bd p (ruleRow b) := setAll_bd _ _ _ h.amt (Bd.rep hp.pos _)
  have least : ∃ q ∈ b, leastF b = q.1 := by
    have ne := h.ne
    cases b with
    | nil => exact absurd rfl ne
    | cons a r => exact ⟨a, List.mem_cons_self .., rfl⟩
  obtain ⟨q0, hq0, e0⟩ := least
  have o1 := h.off l hl
  have o2 := h.off q0 hq0
  refine ⟨⟨hb, fun _ => ?_⟩, fun z => ?_, by omega⟩
  · rw [h.cf]
    have : leastF b + (((ruleRow b).length - 1 : Nat) : Int) = l.1 := by omega
    rw [this, amtF_mem h.asc hl]
    have := h.amt l hl
    omega
  · rw [z] at hlen
    simp at hlen
    omega
theorem coreF_row {p : Int} (hp : P3 p) {b : Pairs} (h : Rule p b) : Row p (coreF p b) ∧ (coreF p b).length ≤ 9 := by
  have q := h.row hp
  exact ⟨monicF_row hp.pos _, Nat.le_trans (scaledF_len p _ _) q.2.2⟩
theorem genF_row {p : Int} (hp : P3 p) {bs : List Pairs} (h : ∀ b ∈ bs, Rule p b) : Row p (genF p bs) ∧ (genF p bs).length ≤ 9 :=
  gcdOf_row hp fun r hr => by
    obtain ⟨b, hb, rfl⟩ := List.mem_map.mp hr
    exact coreF_row hp (h b hb)
end ER
namespace ER
theorem trim_ne {r : List Int} {i : Nat} (h : cf r i ≠ 0) : trim r ≠ [] := fun e => h (by rw [← cf_trim, e, cf_nil])
theorem cf_map (r : List Int) (f : Int → Int) (h0 : f 0 = 0) (i : Nat) : cf (r.map f) i = f (cf r i) := by
  by_cases h : i < r.length
  · rw [cf_lt (by rw [List.length_map]; exact h), cf_lt h, List.getElem_map]
  · rw [cf_ge (by rw [List.length_map]; omega), cf_ge (by omega), h0]
theorem cf_scaledF (p : Int) (r : List Int) (c : Int) (i : Nat) : cf (scaledF p r c) i = cf r i * c % p := by
  unfold scaledF
  rw [cf_trim, cf_map _ _ (by simp)]
theorem monicF_ne {p : Int} (hp : P3 p) {r : List Int} (rr : Row p r) (h : r ≠ []) : monicF p r ≠ [] := by
  obtain ⟨h1, h2⟩ := rr.lastpos hp.pos h
  obtain ⟨_, _, e⟩ := invF_ok hp h1 h2
  intro z
  have := cf_scaledF p r (invF p (lastF r)) (r.length - 1)
  rw [show scaledF p r (invF p (lastF r)) = [] from z, cf_nil, Int.mul_comm, show cf r (r.length - 1) = lastF r from rfl, e] at this
  omega
theorem gcdL_ne {p : Int} : ∀ (n : Nat) (a b : List Int), b.length ≤ n → (a ≠ [] ∨ b ≠ []) → gcdL p n a b ≠ []
  | 0, a, b, h, h2 => by
    have : b = [] := List.length_eq_zero_iff.mp (by omega)
    unfold gcdL
    rcases h2 with h2 | h2
    · exact h2
    · exact absurd this h2
  | n + 1, a, b, h, h2 => by
    unfold gcdL
    by_cases e : b = []
    · rw [if_pos e]
      rcases h2 with h2 | h2
      · exact h2
      · exact absurd e h2
    · rw [if_neg e]
      by_cases h3 : (divF p a b).2.length ≤ n
      · exact gcdL_ne n b _ h3 (.inl e)
      · exact gcdL_any n b _ e
  where gcdL_any {p : Int} : ∀ (n : Nat) (a b : List Int), a ≠ [] → gcdL p n a b ≠ []
    | 0, a, b, h => h
    | n + 1, a, b, h => by
      unfold gcdL
      by_cases e : b = []
      · rw [if_pos e]; exact h
      · rw [if_neg e]; exact gcdL_any n b _ e
theorem commonF_ne {p : Int} (hp : P3 p) {a b : List Int} (ra : Row p a) (rb : Row p b) (h : a ≠ [] ∨ b ≠ []) : commonF p a b ≠ [] := by
  have := gcdL_ne (p := p) b.length a b (Nat.le_refl _) h
  unfold commonF
  rw [if_neg this]
  exact monicF_ne hp (gcdL_row hp _ _ _ ra rb).1 this
theorem gcdFold_ne {p : Int} (hp : P3 p) : ∀ (rows : List (List Int)) (a : List Int), Row p a → (∀ r ∈ rows, Row p r) → (a ≠ [] ∨ ∃ r ∈ rows, r ≠ []) → rows.foldl (commonF p) a ≠ []
  | [], _, _, _, h => by
    rcases h with h | ⟨_, h, _⟩
    · exact h
    · cases h
  | r :: rows, a, ra, hr, h => by
    have h1 := hr r (List.mem_cons_self ..)
    refine gcdFold_ne hp rows _ (commonF_row hp ra h1).1 (fun x hx => hr x (List.mem_cons_of_mem _ hx)) ?_
    rcases h with h | ⟨x, hx, hn⟩
    · exact .inl (commonF_ne hp ra h1 (.inl h))
    · rcases List.mem_cons.mp hx with e | e
      · subst e; exact .inl (commonF_ne hp ra h1 (.inr hn))
      · exact .inr ⟨x, e, hn⟩
theorem gcdOf_ne {p : Int} (hp : P3 p) {rows : List (List Int)} (h : ∀ r ∈ rows, Row p r) (hn : ∃ r ∈ rows, r ≠ []) : gcdOf p rows ≠ [] := gcdFold_ne hp rows [] Row.nil h (.inr hn)
/-- a panel -/
structure Pan (p : Int) (bs : List Pairs) : Prop where
  hp : P3 p
  ne : bs ≠ []
  len : bs.length ≤ 3
  rule : ∀ b ∈ bs, Rule p b
theorem Pan.gen {p : Int} {bs : List Pairs} (h : Pan p bs) : Row p (genF p bs) ∧ (genF p bs).length ≤ 9 ∧ genF p bs ≠ [] := by
  have q := genF_row h.hp h.rule
  refine ⟨q.1, q.2, gcdOf_ne h.hp (fun r hr => ?_) ?_⟩
  · obtain ⟨b, hb, rfl⟩ := List.mem_map.mp hr
    exact (coreF_row h.hp (h.rule b hb)).1
  · obtain ⟨b, hb⟩ := List.exists_mem_of_ne_nil _ h.ne
    have rw1 := (h.rule b hb).row h.hp
    exact ⟨_, List.mem_map.mpr ⟨b, hb, rfl⟩, monicF_ne h.hp rw1.1 rw1.2.1⟩
theorem Pan.div {p : Int} {bs : List Pairs} (h : Pan p bs) (n : Nat) : Row p (divOnF p bs n) ∧ (divOnF p bs n).length ≤ 9 ∧ divOnF p bs n ≠ [] := by
  obtain ⟨g1, g2, g3⟩ := h.gen
  have r2 := (divF_row h.hp.pos (genF p bs) (addedF_row h.hp.pos (powF p n (genF p bs)) [p - 1]).bd).2
  have hs := divF_short h.hp (a := addedF p (powF p n (genF p bs)) [p - 1]) g1 g3
  have hr : ∀ r ∈ [genF p bs, (divF p (addedF p (powF p n (genF p bs)) [p - 1]) (genF p bs)).2], Row p r ∧ r.length ≤ 9 := fun r hr => by
    simp only [List.mem_cons, List.not_mem_nil, or_false] at hr
    rcases hr with rfl | rfl
    · exact ⟨g1, g2⟩
    · exact ⟨r2, by omega⟩
  have q := gcdOf_row h.hp hr
  exact ⟨q.1, q.2, gcdOf_ne h.hp (fun r h => (hr r h).1) ⟨_, List.mem_cons_self .., g3⟩⟩
end ER
end
section
set_option linter.all false
set_option maxHeartbeats 1000000
namespace ER
def mono (n : Nat) : Pol := fun i => if i = n then 1 else 0
theorem sh_mono (n : Nat) : sh (mono n) = mono (n + 1) := funext fun i => by
  cases i with
  | zero => simp [sh, mono]
  | succ i => simp [sh, mono]
theorem shN_mono (k n : Nat) : shN k (mono n) = mono (n + k) := by
  induction k with
  | zero => rfl
  | succ k ih => show sh (shN k (mono n)) = _; rw [ih, sh_mono]; rfl
theorem shN_sub (k : Nat) (f g : Pol) (i : Nat) : shN k (fun i => f i - g i) i = shN k f i - shN k g i := by
  rw [shN_at, shN_at, shN_at]; split <;> simp
theorem mulf_sub (f : List Int) (g h : Pol) : ∀ i, mulf f (fun i => g i - h i) i = mulf f g i - mulf f h i := by
  induction f with
  | nil => intro i; rfl
  | cons a f ih =>
    intro i
    show a * (g i - h i) + sh (mulf f fun i => g i - h i) i = (a * g i + sh (mulf f g) i) - (a * h i + sh (mulf f h) i)
    cases i with
    | zero => show a * (g 0 - h 0) + 0 = (a * g 0 + 0) - (a * h 0 + 0); grind
    | succ i =>
      show a * (g (i+1) - h (i+1)) + mulf f (fun i => g i - h i) i = (a * g (i+1) + mulf f g i) - (a * h (i+1) + mulf f h i)
      rw [ih i]; grind
theorem mulf_mono (f : List Int) (a : Nat) : ∀ i, mulf f (mono a) i = shN a (cf f) i := by
  induction f with
  | nil => intro i; rw [shN_at]; simp [mulf, cf_nil]
  | cons x f ih =>
    intro i
    show x * mono a i + sh (mulf f (mono a)) i = _
    rw [shN_at]
    cases i with
    | zero =>
      show x * mono a 0 + 0 = _
      unfold mono
      by_cases h : 0 < a
      · rw [if_pos h, if_neg (by omega)]; simp
      · have : a = 0 := by omega
        subst this
        simp [cf_zero]
    | succ i =>
      show x * mono a (i+1) + mulf f (mono a) i = _
      rw [ih i, shN_at]
      unfold mono
      by_cases h : i + 1 < a
      · rw [if_neg (show ¬ i + 1 = a by omega), if_pos (show i < a by omega), if_pos h]; simp
      · by_cases h2 : i + 1 = a
        · rw [if_pos h2, if_pos (show i < a by omega), if_neg h, show i + 1 - a = 0 by omega, cf_zero]; simp
        · rw [if_neg h2, if_neg (show ¬ i < a by omega), if_neg h, show i + 1 - a = (i - a) + 1 by omega, cf_succ]; simp
theorem timesF_dvd_gen {p : Int} (b : List Int) : ∀ (a f : List Int) (k : Nat), k + a.length + b.length ≤ f.length + 1 ∨ a = [] → (k + a.length + b.length ≤ f.length) → ∀ i,
    p ∣ (cf f i + shN k (mulf a (cf b)) i) - cf (foldI (fun f i x => addAt p i x f b) f k a) i
  | [], f, k, _, _, i => by
    have : shN k (mulf [] (cf b)) i = 0 := by rw [shN_at]; split <;> rfl
    rw [this]; exact ⟨0, by simp [foldI]⟩
  | x :: a, f, k, _, h, i => by
    rw [List.length_cons] at h
    have ih := timesF_dvd_gen (p := p) b a (addAt p k x f b) (k + 1) (.inl (by rw [addAt_len]; omega)) (by rw [addAt_len]; omega) i
    have d := addAt_dvd (p := p) (c := x) (show k + b.length ≤ f.length by omega) i
    have e : shN k (mulf (x :: a) (cf b)) i = x * shN k (cf b) i + shN (k + 1) (mulf a (cf b)) i := by
      rw [shN_at, shN_at, shN_at]
      by_cases h1 : i < k
      · rw [if_pos h1, if_pos h1, if_pos (by omega)]; simp
      · rw [if_neg h1, if_neg h1]
        show x * cf b (i - k) + sh (mulf a (cf b)) (i - k) = _
        by_cases h2 : i < k + 1
        · rw [if_pos h2, show i - k = 0 by omega]; rfl
        · rw [if_neg h2, show i - k = (i - (k + 1)) + 1 by omega]; rfl
    rw [e]
    show p ∣ _ - cf (foldI (fun f i x => addAt p i x f b) (addAt p k x f b) (k + 1) a) i
    refine dvd_of_eq (dvd_add d ih) ?_
    omega
theorem timesF_dvd {p : Int} (a b : List Int) (i : Nat) : p ∣ mulf a (cf b) i - cf (timesF p a b) i := by
  unfold timesF
  rw [cf_trim]
  have := timesF_dvd_gen (p := p) b a (List.replicate (a.length + b.length) 0) 0 (.inl (by simp)) (by simp) i
  rw [cf_rep] at this
  refine dvd_of_eq this ?_
  show _ = (0 + mulf a (cf b) i) - _
  omega
theorem cf_app (a b : List Int) (i : Nat) : cf (a ++ b) i = if i < a.length then cf a i else cf b (i - a.length) := by
  by_cases h : i < a.length
  · rw [if_pos h, cf_lt (by rw [List.length_append]; omega), cf_lt h, List.getElem_append_left h]
  · rw [if_neg h]
    by_cases h2 : i < a.length + b.length
    · rw [cf_lt (by rw [List.length_append]; omega), cf_lt (by omega), List.getElem_append_right (by omega)]
    · rw [cf_ge (by rw [List.length_append]; omega), cf_ge (by omega)]
theorem cf_pad (a : List Int) (n i : Nat) : cf (padF a n) i = cf a i := by
  unfold padF
  rw [cf_app]
  split
  · rfl
  · rw [cf_rep, cf_ge (by omega)]
theorem cf_zip (a b : List Int) (f : Int → Int → Int) (h0 : f 0 0 = 0) (hl : a.length = b.length) (i : Nat) : cf (List.zipWith f a b) i = f (cf a i) (cf b i) := by
  by_cases h : i < a.length
  · rw [cf_lt (by rw [List.length_zipWith]; omega), cf_lt h, cf_lt (by omega), List.getElem_zipWith]
  · rw [cf_ge (by rw [List.length_zipWith]; omega), cf_ge (by omega), cf_ge (by omega), h0]
theorem cf_addedF (p : Int) (a b : List Int) (i : Nat) : cf (addedF p a b) i = (cf a i + cf b i) % p := by
  unfold addedF
  rw [cf_trim, cf_zip _ _ _ (by simp), cf_pad, cf_pad]
  unfold padF
  simp only [List.length_append, List.length_replicate]
  omega
section
variable {p : Int} {J : Pol → Prop} (I : Ideal p J) (hp : P3 p)
include I hp
theorem Ideal.div {a b : List Int} (hb : b ≠ []) (h : J (cf b)) : J (cf a) ↔ J (cf (divF p a b).2) := by
  have m := I.mulf h (divF p a b).1
  have d := divF_dvd (p := p) (a := a) hb
  constructor
  · intro ha
    refine I.cong (I.sub ha m) fun i => dvd_of_eq (Int.dvd_neg.mpr (d i)) ?_
    omega
  · intro hr
    refine I.cong (I.add _ _ hr m) fun i => ?_
    exact d i
theorem Ideal.gcdL_iff : ∀ (n : Nat) (a b : List Int), b.length ≤ n → Row p a → Row p b → ((J (cf a) ∧ J (cf b)) ↔ J (cf (gcdL p n a b)))
  | 0, a, b, h, _, _ => by
    have : b = [] := List.length_eq_zero_iff.mp (by omega)
    subst this
    exact ⟨fun h => h.1, fun h => ⟨h, I.zero _ fun i => ⟨0, by simp [cf_nil]⟩⟩⟩
  | n + 1, a, b, h, ra, rb => by
    unfold gcdL
    by_cases e : b = []
    · rw [if_pos e]
      subst e
      exact ⟨fun h => h.1, fun h => ⟨h, I.zero _ fun i => ⟨0, by simp [cf_nil]⟩⟩⟩
    · rw [if_neg e]
      have hs := divF_short hp (a := a) rb e
      have ih := Ideal.gcdL_iff n b (divF p a b).2 (by omega) rb (divF_row hp.pos b ra.bd).2
      constructor
      · rintro ⟨h1, h2⟩
        exact ih.mp ⟨h2, (I.div hp e h2).mp h1⟩
      · intro h
        obtain ⟨h1, h2⟩ := ih.mpr h
        exact ⟨(I.div hp e h1).mpr h2, h1⟩
theorem Ideal.monic {r : List Int} (rr : Row p r) (e : r ≠ []) : J (cf (monicF p r)) ↔ J (cf r) := by
  obtain ⟨h1, h2⟩ := rr.lastpos hp.pos e
  obtain ⟨k, hk⟩ := invF_dvd hp h1 h2
  have c : ∀ i, cf (monicF p r) i = cf r i * invF p (lastF r) % p := fun i => cf_scaledF p r _ i
  constructor
  · intro h
    refine I.cong (I.smul (lastF r) _ h) fun i => ?_
    rw [c]
    obtain ⟨m, hm⟩ := dvd_sub_mod p (cf r i * invF p (lastF r))
    refine ⟨-(cf r i * k) + lastF r * m, ?_⟩
    grind
  · intro h
    refine I.cong (I.smul (invF p (lastF r)) _ h) fun i => ?_
    rw [c]
    exact dvd_of_eq (dvd_mod_sub p (cf r i * invF p (lastF r))) (by grind)
theorem Ideal.nil : J (cf []) := I.zero _ fun i => ⟨0, by simp [cf_nil]⟩
theorem Ideal.common {a b : List Int} (ra : Row p a) (rb : Row p b) : (J (cf a) ∧ J (cf b)) ↔ J (cf (commonF p a b)) := by
  have h := I.gcdL_iff hp b.length a b (Nat.le_refl _) ra rb
  unfold commonF
  by_cases e : gcdL p b.length a b = []
  · rw [if_pos e]
    rw [e] at h
    exact h
  · rw [if_neg e, h]
    exact (I.monic hp (gcdL_row hp _ _ _ ra rb).1 e).symm
theorem Ideal.gcdFold : ∀ (rows : List (List Int)) (a : List Int), Row p a → (∀ r ∈ rows, Row p r) → ((J (cf a) ∧ ∀ r ∈ rows, J (cf r)) ↔ J (cf (rows.foldl (commonF p) a)))
  | [], a, _, _ => ⟨fun h => h.1, fun h => ⟨h, fun _ h => by cases h⟩⟩
  | r :: rows, a, ra, h => by
    have h1 := h r (List.mem_cons_self ..)
    have ih := Ideal.gcdFold rows (commonF p a r) (commonF_row hp ra h1).1 fun x hx => h x (List.mem_cons_of_mem _ hx)
    rw [List.foldl_cons, ← ih, ← I.common hp ra h1]
    constructor
    · rintro ⟨q1, q2⟩
      exact ⟨⟨q1, q2 r (List.mem_cons_self ..)⟩, fun x hx => q2 x (List.mem_cons_of_mem _ hx)⟩
    · rintro ⟨⟨q1, q2⟩, q3⟩
      refine ⟨q1, fun x hx => ?_⟩
      rcases List.mem_cons.mp hx with e | e
      · subst e; exact q2
      · exact q3 x e
theorem Ideal.gcdOf {rows : List (List Int)} (h : ∀ r ∈ rows, Row p r) : (∀ r ∈ rows, J (cf r)) ↔ J (cf (gcdOf p rows)) := by
  have := I.gcdFold hp rows [] Row.nil h
  exact ⟨fun q => this.mp ⟨I.nil hp, q⟩, fun q => (this.mpr q).2⟩
/-- f is x ** u -/
theorem Ideal.prod {f s m : List Int} {u v : Nat} (hm : J (cf m)) (ne : m ≠ []) (h1 : J (fun i => mono u i - cf f i)) (h2 : J (fun i => mono v i - cf s i)) : J (fun i => mono (u + v) i - cf (divF p (timesF p f s) m).2 i) := by
  have a1 := I.mulf h2 f
  have a2 := I.shiftN h1 v
  have a3 := I.mulf hm (divF p (timesF p f s) m).1
  refine I.cong (I.add _ _ (I.add _ _ a1 a2) a3) fun i => ?_
  rw [mulf_sub, mulf_mono, shN_sub, shN_mono]
  have d1 := timesF_dvd (p := p) f s i
  have d2 := divF_dvd (p := p) (a := timesF p f s) ne i
  refine dvd_of_eq (dvd_add d1 d2) ?_
  omega
theorem Ideal.powL {m : List Int} (hm : J (cf m)) (ne : m ≠ []) : ∀ (n l : Nat) (f s : List Int) (u v : Nat), l ≤ n → J (fun i => mono u i - cf f i) → J (fun i => mono v i - cf s i) → J (fun i => mono (u + v * l) i - cf (powL p m n l f s) i)
  | 0, l, f, s, u, v, h, h1, _ => by
    have : l = 0 := by omega
    subst this
    exact h1
  | n + 1, l, f, s, u, v, h, h1, h2 => by
    unfold ER.powL
    by_cases e : l = 0
    · rw [if_pos e]; subst e; exact h1
    · rw [if_neg e]
      have sq := I.prod hp hm ne h2 h2
      by_cases o : l % 2 = 1
      · rw [if_pos o]
        have q := Ideal.powL hm ne n (l / 2) _ _ (u + v) (v + v) (by omega) (I.prod hp hm ne h1 h2) sq
        have e2 : u + v + (v + v) * (l / 2) = u + v * l := by
          have : l = 2 * (l / 2) + 1 := by omega
          generalize l / 2 = t at this
          subst this
          grind
        rw [e2] at q; exact q
      · rw [if_neg o]
        have q := Ideal.powL hm ne n (l / 2) f _ u (v + v) (by omega) h1 sq
        have e2 : u + (v + v) * (l / 2) = u + v * l := by
          have : l = 2 * (l / 2) := by omega
          generalize l / 2 = t at this
          subst this
          grind
        rw [e2] at q; exact q
theorem Ideal.pow {m : List Int} (hm : J (cf m)) (ne : m ≠ []) (n : Nat) : J (fun i => mono n i - cf (powF p n m) i) := by
  have base : ∀ (a : List Int) (u : Nat), (∀ i, cf a i = mono u i) → J (fun i => mono u i - cf (divF p a m).2 i) := fun a u ha => by
    have a3 := I.mulf hm (divF p a m).1
    refine I.cong a3 fun i => ?_
    have d := divF_dvd (p := p) (a := a) ne i
    rw [ha] at d
    refine dvd_of_eq d ?_
    omega
  have q := I.powL hp hm ne n n _ _ 0 1 (Nat.le_refl _) (base [1] 0 fun i => by cases i <;> rfl) (base [0, 1] 1 fun i => by
    match i with
    | 0 => rfl
    | 1 => rfl
    | i + 2 => rfl)
  rw [show 0 + 1 * n = n by omega] at q
  exact q
end
end ER
end
section
set_option linter.all false
set_option maxHeartbeats 1000000
namespace ER
/-- the sum of colour x ** place -/
def picpol : Pairs → Pol
  | [], _ => 0
  | q :: l, i => q.2 * mono q.1.toNat i + picpol l i
theorem picpol_from : ∀ (r : List Int) (k i : Nat), picpol (picFrom k r) i = shN k (cf r) i
  | [], k, i => by rw [shN_at]; simp [picFrom, picpol, cf_nil]
  | c :: r, k, i => by
    have ih := picpol_from r (k + 1) i
    have e : shN k (cf (c :: r)) i = c * mono k i + shN (k + 1) (cf r) i := by
      rw [shN_at, shN_at]
      unfold mono
      by_cases h : i < k
      · rw [if_pos h, if_neg (show ¬ i = k by omega), if_pos (show i < k + 1 by omega)]; simp
      · by_cases h2 : i = k
        · rw [if_neg h, if_pos h2, if_pos (show i < k + 1 by omega), show i - k = 0 by omega, cf_zero]; simp
        · rw [if_neg h, if_neg h2, if_neg (show ¬ i < k + 1 by omega), show i - k = (i - (k + 1)) + 1 by omega, cf_succ]; simp
    unfold picFrom
    by_cases hc : c = 0
    · rw [if_pos hc, ih, e, hc]; simp
    · rw [if_neg hc]
      show c * mono ((k : Int)).toNat i + picpol (picFrom (k + 1) r) i = _
      rw [ih, e, Int.toNat_natCast]
theorem picpol_pic (r : List Int) (i : Nat) : picpol (picF r) i = cf r i := picpol_from r 0 i
section
variable {p : Int} {J : Pol → Prop} (I : Ideal p J) (hp : P3 p)
include I hp
/-- the divisor on a size -/
theorem Ideal.divOn {bs : List Pairs} (h : Pan p bs) (n : Nat) : J (cf (divOnF p bs n)) ↔ ((∀ b ∈ bs, J (cf (ruleRow b))) ∧ J (fun i => mono n i - mono 0 i)) := by
  obtain ⟨g1, g2, g3⟩ := h.gen
  have hg : J (cf (genF p bs)) ↔ ∀ b ∈ bs, J (cf (ruleRow b)) := by
    have hr : ∀ r ∈ bs.map (coreF p), Row p r := fun r hr => by
      obtain ⟨b, hb, rfl⟩ := List.mem_map.mp hr
      exact (coreF_row hp (h.rule b hb)).1
    have q := I.gcdOf hp hr
    show J (cf (ER.gcdOf p (bs.map (coreF p)))) ↔ _
    rw [← q]
    constructor
    · intro z b hb
      have rr := (h.rule b hb).row hp
      exact (I.monic hp rr.1 rr.2.1).mp (z _ (List.mem_map.mpr ⟨b, hb, rfl⟩))
    · intro z r hr
      obtain ⟨b, hb, rfl⟩ := List.mem_map.mp hr
      have rr := (h.rule b hb).row hp
      exact (I.monic hp rr.1 rr.2.1).mpr (z b hb)
  have ra := addedF_row hp.pos (powF p n (genF p bs)) [p - 1]
  have hrows : ∀ r ∈ [genF p bs, (divF p (addedF p (powF p n (genF p bs)) [p - 1]) (genF p bs)).2], Row p r := fun r hr => by
    simp only [List.mem_cons, List.not_mem_nil, or_false] at hr
    rcases hr with rfl | rfl
    · exact g1
    · exact (divF_row hp.pos _ ra.bd).2
  have q := I.gcdOf hp hrows
  have e1 : J (cf (divOnF p bs n)) ↔ (J (cf (genF p bs)) ∧ J (cf (divF p (addedF p (powF p n (genF p bs)) [p - 1]) (genF p bs)).2)) := by
    show J (cf (ER.gcdOf p _)) ↔ _
    rw [← q]
    constructor
    · intro z; exact ⟨z _ (by simp), z _ (by simp)⟩
    · rintro ⟨z1, z2⟩ r hr
      simp only [List.mem_cons, List.not_mem_nil, or_false] at hr
      rcases hr with rfl | rfl
      · exact z1
      · exact z2
  rw [e1, ← hg]
  have key : J (cf (genF p bs)) → (J (cf (divF p (addedF p (powF p n (genF p bs)) [p - 1]) (genF p bs)).2) ↔ J (fun i => mono n i - mono 0 i)) := fun hj => by
    have pw := I.pow hp hj g3 n
    rw [← I.div hp g3 hj]
    have ca : ∀ i, p ∣ cf (addedF p (powF p n (genF p bs)) [p - 1]) i - (cf (powF p n (genF p bs)) i - mono 0 i) := fun i => by
      rw [cf_addedF]
      have d := dvd_mod_sub p (cf (powF p n (genF p bs)) i + cf [p - 1] i)
      have e2 : p ∣ cf [p - 1] i + mono 0 i := by
        cases i with
        | zero => exact ⟨1, by show (p - 1) + 1 = p * 1; omega⟩
        | succ i => exact ⟨0, by show (0 : Int) + 0 = p * 0; simp⟩
      refine dvd_of_eq (dvd_add d e2) ?_
      omega
    constructor
    · intro z
      refine I.cong (I.add _ _ z pw) fun i => dvd_of_eq (Int.dvd_neg.mpr (ca i)) ?_
      omega
    · intro z
      refine I.cong (I.sub z pw) fun i => dvd_of_eq (ca i) ?_
      omega
  constructor
  · rintro ⟨z1, z2⟩; exact ⟨z1, (key z1).mp z2⟩
  · rintro ⟨z1, z2⟩; exact ⟨z1, (key z1).mpr z2⟩
theorem Ideal.restFold {d : List Int} (hd : J (cf d)) (ne : d ≠ []) : ∀ (pic : Pairs) (f : List Int), J (fun i => cf (pic.foldl (fun f q => addedF p f (scaledF p (powF p q.1.toNat d) q.2)) f) i - (cf f i + picpol pic i))
  | [], f => I.zero _ fun i => ⟨0, by show cf f i - (cf f i + 0) = p * 0; omega⟩
  | q :: l, f => by
    have ih := Ideal.restFold hd ne l (addedF p f (scaledF p (powF p q.1.toNat d) q.2))
    have pw := I.smul q.2 _ (I.pow hp hd ne q.1.toNat)
    rw [List.foldl_cons]
    refine I.cong (I.sub ih pw) fun i => ?_
    rw [cf_addedF, cf_scaledF]
    have d1 := dvd_mod_sub p (cf f i + cf (powF p q.1.toNat d) i * q.2 % p)
    have d2 := dvd_mod_sub p (cf (powF p q.1.toNat d) i * q.2)
    show p ∣ _ - (cf f i + (q.2 * mono q.1.toNat i + picpol l i)) - _
    obtain ⟨k1, h1⟩ := d1
    obtain ⟨k2, h2⟩ := d2
    refine ⟨k1 + k2, ?_⟩
    grind
/-- the rest of a picture is in it just if the picture is -/
theorem Ideal.rest {d : List Int} (hd : J (cf d)) (ne : d ≠ []) (r : List Int) : J (cf (restF p (picF r) d)) ↔ J (cf r) := by
  have h := I.restFold hp hd ne (picF r) []
  constructor
  · intro z
    refine I.cong (I.sub z h) fun i => ⟨0, ?_⟩
    rw [picpol_pic, cf_nil]
    show _ = p * 0
    unfold restF
    omega
  · intro z
    refine I.cong (I.add _ _ z h) fun i => ⟨0, ?_⟩
    rw [picpol_pic, cf_nil]
    show _ = p * 0
    unfold restF
    omega
end
/-! ### the multiples of a row -/
def addL : List Int → List Int → List Int
  | [], b => b
  | a, [] => a
  | x :: a, y :: b => (x + y) :: addL a b
theorem mulf_addL (g : Pol) : ∀ (a b : List Int) (i : Nat), mulf (addL a b) g i = mulf a g i + mulf b g i
  | [], b, i => by show mulf b g i = 0 + mulf b g i; omega
  | x :: a, [], i => by show mulf (x :: a) g i = mulf (x :: a) g i + 0; omega
  | x :: a, y :: b, i => by
    show (x + y) * g i + sh (mulf (addL a b) g) i = (x * g i + sh (mulf a g) i) + (y * g i + sh (mulf b g) i)
    cases i with
    | zero => show (x + y) * g 0 + 0 = (x * g 0 + 0) + (y * g 0 + 0); grind
    | succ i => show (x + y) * g (i+1) + mulf (addL a b) g i = (x * g (i+1) + mulf a g i) + (y * g (i+1) + mulf b g i); rw [mulf_addL g a b i]; grind
theorem mulf_smul (g : Pol) (c : Int) : ∀ (a : List Int) (i : Nat), mulf (a.map (c * ·)) g i = c * mulf a g i
  | [], i => by show (0 : Int) = c * 0; simp
  | x :: a, i => by
    show (c * x) * g i + sh (mulf (a.map (c * ·)) g) i = c * (x * g i + sh (mulf a g) i)
    cases i with
    | zero => show (c * x) * g 0 + 0 = c * (x * g 0 + 0); grind
    | succ i => show (c * x) * g (i+1) + mulf (a.map (c * ·)) g i = c * (x * g (i+1) + mulf a g i); rw [mulf_smul g c a i]; grind
def Mult (p : Int) (d : List Int) : Pol → Prop := fun f => ∃ q : List Int, ∀ i, p ∣ f i - mulf q (cf d) i
theorem mult_ideal (p : Int) (d : List Int) : Ideal p (Mult p d) where
  zero f h := ⟨[], fun i => by show p ∣ f i - 0; rw [Int.sub_zero]; exact h i⟩
  add f g := fun ⟨q1, h1⟩ ⟨q2, h2⟩ => ⟨addL q1 q2, fun i => by rw [mulf_addL]; exact dvd_of_eq (dvd_add (h1 i) (h2 i)) (by show f i + g i - _ = _; omega)⟩
  smul c f := fun ⟨q, h⟩ => ⟨q.map (c * ·), fun i => by rw [mulf_smul]; exact dvd_of_eq (dvd_mul c (h i)) (by grind)⟩
  shift f := fun ⟨q, h⟩ => ⟨0 :: q, fun i => by
    show p ∣ sh f i - (0 * cf d i + sh (mulf q (cf d)) i)
    cases i with
    | zero => exact ⟨0, by show (0 : Int) - (0 * cf d 0 + 0) = p * 0; simp⟩
    | succ i => exact dvd_of_eq (h i) (by show f i - (0 * cf d (i+1) + mulf q (cf d) i) = _; omega)⟩
theorem mult_self (p : Int) (d : List Int) : Mult p d (cf d) := ⟨[1], fun i => ⟨0, by
  show cf d i - (1 * cf d i + sh (mulf [] (cf d)) i) = p * 0
  have : sh (mulf [] (cf d)) i = 0 := by cases i <;> rfl
  rw [this]; omega⟩⟩
theorem mulf_high (g : Pol) {m : Nat} (hg : ∀ i, m ≤ i → g i = 0) : ∀ (q : List Int) (i : Nat), q.length + m ≤ i → mulf q g i = 0
  | [], i, _ => rfl
  | x :: q, i, h => by
    rw [List.length_cons] at h
    show x * g i + sh (mulf q g) i = 0
    rw [hg i (by omega)]
    cases i with
    | zero => show x * 0 + 0 = 0; simp
    | succ i => show x * 0 + mulf q g i = 0; rw [mulf_high g hg q i (by omega)]; simp
theorem mulf_snoc (g : Pol) (c : Int) : ∀ (q : List Int) (i : Nat), mulf (q ++ [c]) g i = mulf q g i + c * shN q.length g i
  | [], i => by
    show c * g i + sh (mulf [] g) i = 0 + c * g i
    have : sh (mulf [] g) i = 0 := by cases i <;> rfl
    rw [this]; omega
  | x :: q, i => by
    show x * g i + sh (mulf (q ++ [c]) g) i = (x * g i + sh (mulf q g) i) + c * sh (shN q.length g) i
    cases i with
    | zero => show x * g 0 + 0 = (x * g 0 + 0) + c * 0; simp
    | succ i => show x * g (i+1) + mulf (q ++ [c]) g i = (x * g (i+1) + mulf q g i) + c * shN q.length g i; rw [mulf_snoc g c q i]; omega
/-- a short multiple is 0 -/
theorem mult_short {p : Int} (hp : P3 p) {d : List Int} (rd : Row p d) (ne : d ≠ []) : ∀ (n : Nat) (q : List Int), q.length = n → ∀ (f : Pol), (∀ i, p ∣ f i - mulf q (cf d) i) → (∀ i, d.length ≤ i + 1 → f i = 0) → ∀ i, p ∣ f i
  | 0, q, hq, f, h, _, i => by
    have : q = [] := List.length_eq_zero_iff.mp hq
    subst this
    have := h i
    exact dvd_of_eq this (by show f i = f i - 0; omega)
  | n + 1, q, hq, f, h, hz, i => by
    have hqne : q ≠ [] := fun e => by rw [e] at hq; simp at hq
    obtain ⟨q', c, rfl⟩ : ∃ q' c, q = q' ++ [c] := ⟨q.dropLast, q.getLast hqne, (List.dropLast_concat_getLast hqne).symm⟩
    have hq' : q'.length = n := by rw [List.length_append] at hq; simp at hq; exact hq
    have dl : 0 < d.length := List.length_pos_iff.mpr ne
    obtain ⟨l0, l1⟩ := rd.lastpos hp.pos ne
    -- the top coefficient
    have top := h (q'.length + (d.length - 1))
    rw [mulf_snoc, hz _ (by omega)] at top
    have hsh : shN q'.length (cf d) (q'.length + (d.length - 1)) = lastF d := by
      rw [shN_at, if_neg (by omega), show q'.length + (d.length - 1) - q'.length = d.length - 1 by omega]; rfl
    rw [hsh] at top
    have hm : mulf q' (cf d) (q'.length + (d.length - 1)) = 0 := by
      by_cases hq0 : q' = []
      · subst hq0; rfl
      · have := mulf_top (cf d) (m := d.length) dl (fun i hi => cf_ge hi) q' (q'.length + (d.length - 1)) (by omega)
        exact this
    rw [hm] at top
    have hc : p ∣ c := by
      have : p ∣ c * lastF d := by
        refine dvd_of_eq (Int.dvd_neg.mpr top) ?_
        omega
      rcases euclid hp this with z | z
      · exact z
      · exact absurd (dvd_lt z (by omega) l1) (by omega)
    refine mult_short hp rd ne n q' hq' f (fun j => ?_) hz i
    have hj := h j
    rw [mulf_snoc] at hj
    refine dvd_of_eq (dvd_add hj (dvd_mul (shN q'.length (cf d) j) hc)) ?_
    grind
  where mulf_top (g : Pol) {m : Nat} (m0 : 0 < m) (hg : ∀ i, m ≤ i → g i = 0) : ∀ (q : List Int) (i : Nat), q.length + m ≤ i + 1 → mulf q g i = 0
    | [], i, _ => rfl
    | x :: q, i, h => by
      rw [List.length_cons] at h
      show x * g i + sh (mulf q g) i = 0
      rw [hg i (by omega)]
      cases i with
      | zero => show x * 0 + 0 = 0; simp
      | succ i => show x * 0 + mulf q g i = 0; rw [mulf_top g m0 hg q i (by omega)]; simp
theorem row_zero {p : Int} (hp : 0 < p) {r : List Int} (rr : Row p r) (h : ∀ i, p ∣ cf r i) : r = [] := by
  by_cases e : r = []
  · exact e
  · have := rr.lastpos hp e
    exact absurd (dvd_lt (h (r.length - 1)) (Int.le_of_lt this.1) this.2) (by have h2 := this.1; unfold lastF at h2; omega)
/-- in short: the rest is nothing just if the picture is a multiple of the divisor -/
theorem rest_iff {p : Int} (hp : P3 p) {d : List Int} (rd : Row p d) (ne : d ≠ []) {r : List Int} (hr : Bd p r) : restF p (picF r) d = [] ↔ Mult p d (cf r) := by
  have I := mult_ideal p d
  rw [← I.rest hp (mult_self p d) ne r]
  constructor
  · intro e; rw [e]; exact I.nil hp
  · rintro ⟨q, hq⟩
    have hrow : Row p (restF p (picF r) d) ∧ (restF p (picF r) d).length ≤ d.length - 1 := by
      have h : ∀ (l : Pairs) (f : List Int), (Row p f ∧ f.length ≤ d.length - 1) → Row p (l.foldl (fun f q => addedF p f (scaledF p (powF p q.1.toNat d) q.2)) f) ∧ (l.foldl (fun f q => addedF p f (scaledF p (powF p q.1.toNat d) q.2)) f).length ≤ d.length - 1 := by
        intro l
        induction l with
        | nil => intro f h; exact h
        | cons q l ih =>
          intro f h
          refine ih _ ⟨addedF_row hp.pos _ _, ?_⟩
          have a1 := addedF_len p f (scaledF p (powF p q.1.toNat d) q.2)
          have a2 := scaledF_len p (powF p q.1.toNat d) q.2
          have a3 := (powF_row hp rd ne q.1.toNat).2
          have a4 := h.2
          show (addedF p f (scaledF p (powF p q.1.toNat d) q.2)).length ≤ d.length - 1
          omega
      exact h _ [] ⟨Row.nil, Nat.zero_le _⟩
    exact row_zero hp.pos hrow.1 (mult_short hp rd ne _ q rfl _ hq fun i hi => cf_ge (by omega))
end ER
end
section
set_option linter.all false
set_option maxHeartbeats 1000000
namespace ER
/-- the place of an offset -/
def plc (n : Nat) (x : Int) : Nat := (x % (n : Int)).toNat
theorem plc_lt {n : Nat} (hn : 0 < n) (x : Int) : plc n x < n := by
  unfold plc
  have h0 := Int.emod_nonneg x (show (n : Int) ≠ 0 by omega)
  have h1 := Int.emod_lt_of_pos x (show (0 : Int) < n by omega)
  omega
/-- what one press of a button does -/
def prF (n : Nat) : Pairs → Int → Pol
  | [], _, _ => 0
  | q :: b, x, i => q.2 * mono (plc n (x + q.1)) i + prF n b x i
theorem prF_ge {n : Nat} (hn : 0 < n) : ∀ (b : Pairs) (x : Int) (i : Nat), n ≤ i → prF n b x i = 0
  | [], _, _, _ => rfl
  | q :: b, x, i, h => by
    show q.2 * mono (plc n (x + q.1)) i + prF n b x i = 0
    rw [prF_ge hn b x i h]
    have := plc_lt hn (x + q.1)
    unfold mono
    rw [if_neg (by omega)]; simp
theorem plc_mod {n : Nat} (x y : Int) (h : (n : Int) ∣ x - y) : plc n x = plc n y := by
  unfold plc
  have : x % (n : Int) = y % (n : Int) := Int.emod_eq_emod_iff_emod_sub_eq_zero.mpr (Int.emod_eq_zero_of_dvd h)
  rw [this]
theorem prF_mod {n : Nat} : ∀ (b : Pairs) (x y : Int), (n : Int) ∣ x - y → ∀ i, prF n b x i = prF n b y i
  | [], _, _, _, _ => rfl
  | q :: b, x, y, h, i => by
    show q.2 * mono (plc n (x + q.1)) i + prF n b x i = q.2 * mono (plc n (y + q.1)) i + prF n b y i
    rw [prF_mod b x y h i, plc_mod (x + q.1) (y + q.1) (by rw [show x + q.1 - (y + q.1) = x - y by omega]; exact h)]
theorem pressF_len' (p x t : Int) : ∀ (b : Pairs) (r : List Int), (pressF p r b x t).length = r.length
  | [], _ => rfl
  | q :: b, r => by
    have := pressF_len' p x t b (r.set ((x + q.1) % (r.length : Int)).toNat ((cf r ((x + q.1) % (r.length : Int)).toNat + q.2 * t) % p))
    rw [List.length_set] at this
    exact this
theorem pressF_cf (p x t : Int) : ∀ (b : Pairs) (r : List Int), 0 < r.length → ∀ i, p ∣ (cf r i + t * prF r.length b x i) - cf (pressF p r b x t) i
  | [], r, _, i => ⟨0, by show cf r i + t * 0 - cf r i = p * 0; grind⟩
  | q :: b, r, hr, i => by
    have hl := plc_lt hr (x + q.1)
    have ih := pressF_cf p x t b (r.set (plc r.length (x + q.1)) ((cf r (plc r.length (x + q.1)) + q.2 * t) % p)) (by rw [List.length_set]; exact hr) i
    rw [List.length_set, cf_set hl] at ih
    have d := dvd_sub_mod p (cf r (plc r.length (x + q.1)) + q.2 * t)
    show p ∣ (cf r i + t * (q.2 * mono (plc r.length (x + q.1)) i + prF r.length b x i)) - cf (pressF p (r.set (plc r.length (x + q.1)) ((cf r (plc r.length (x + q.1)) + q.2 * t) % p)) b x t) i
    unfold mono
    by_cases e : i = plc r.length (x + q.1)
    · rw [if_pos e] at ih ⊢
      rw [e] at ih ⊢
      refine dvd_of_eq (dvd_add ih d) ?_
      grind
    · rw [if_neg e] at ih ⊢
      refine dvd_of_eq ih ?_
      grind
/-- press k of a panel -/
def pk (bs : List Pairs) (n k : Nat) : Pol := prF n (bs.getD (k / n) []) ((k % n : Nat) : Int)
def cmb (bs : List Pairs) (n : Nat) : Nat → List Int → Pol
  | _, [], _ => 0
  | k, t :: m, i => t * pk bs n k i + cmb bs n (k + 1) m i
theorem cmb_less {p : Int} (bs : List Pairs) (n : Nat) (t : Int) : ∀ (a b : List Int) (k i : Nat), a.length = b.length → p ∣ cmb bs n k (lessF p a b t) i - (cmb bs n k a i - t * cmb bs n k b i)
  | [], [], k, i, _ => ⟨0, by show (0 : Int) - (0 - t * 0) = p * 0; simp⟩
  | x :: a, y :: b, k, i, h => by
    have ih := cmb_less (p := p) bs n t a b (k + 1) i (by simpa using h)
    have d := dvd_mul (pk bs n k i) (dvd_mod_sub p (x - t * y))
    show p ∣ ((x - t * y) % p * pk bs n k i + cmb bs n (k + 1) (lessF p a b t) i) - ((x * pk bs n k i + cmb bs n (k + 1) a i) - t * (y * pk bs n k i + cmb bs n (k + 1) b i))
    refine dvd_of_eq (dvd_add ih d) ?_
    grind
  | [], _ :: _, _, _, h => by simp at h
  | _ :: _, [], _, _, h => by simp at h
theorem cmb_zero (bs : List Pairs) (n : Nat) (m : Nat) : ∀ k i, cmb bs n k (List.replicate m 0) i = 0 := by
  induction m with
  | zero => intro k i; rfl
  | succ m ih => intro k i; show 0 * pk bs n k i + cmb bs n (k + 1) (List.replicate m 0) i = 0; rw [ih]; simp
theorem cmb_set (bs : List Pairs) (n : Nat) : ∀ (f : List Int) (k j : Nat) (c : Int), j < f.length → cf f j = 0 → ∀ i, cmb bs n k (f.set j c) i = cmb bs n k f i + c * pk bs n (k + j) i
  | [], _, _, _, h, _, _ => by simp at h
  | x :: f, k, 0, c, _, h0, i => by
    have : x = 0 := h0
    show c * pk bs n k i + cmb bs n (k + 1) f i = (x * pk bs n k i + cmb bs n (k + 1) f i) + c * pk bs n (k + 0) i
    rw [this, Nat.add_zero]; grind
  | x :: f, k, j + 1, c, h, h0, i => by
    have ih := cmb_set bs n f (k + 1) j c (by simpa using h) h0 i
    show x * pk bs n k i + cmb bs n (k + 1) (f.set j c) i = (x * pk bs n k i + cmb bs n (k + 1) f i) + c * pk bs n (k + (j + 1)) i
    rw [ih, show k + 1 + j = k + (j + 1) by omega]; omega
theorem cf_lessF {p : Int} (a b : List Int) (t : Int) (h : a.length = b.length) (i : Nat) : cf (lessF p a b t) i = (cf a i - t * cf b i) % p := by
  unfold lessF
  rw [cf_zip _ _ _ (by simp) h]
/-- a row that is what its mix says -/
structure Tr (p : Int) (bs : List Pairs) (n m : Nat) (b : BRow) : Prop where
  at_ : b.at_ < n
  row : b.row.length = n
  mix : b.mix.length = m
  eq : ∀ i, p ∣ cf b.row i - cmb bs n 0 b.mix i
theorem lessBy_tr {p : Int} {bs : List Pairs} {n m : Nat} (R0 : Pol) : ∀ (B : List BRow) (r mx : List Int), (∀ b ∈ B, Tr p bs n m b) → r.length = n → mx.length = m → (∀ i, p ∣ cf r i - (R0 i + cmb bs n 0 mx i)) →
    (lessByF p B r mx).1.length = n ∧ (lessByF p B r mx).2.length = m ∧ ∀ i, p ∣ cf (lessByF p B r mx).1 i - (R0 i + cmb bs n 0 (lessByF p B r mx).2 i)
  | [], r, mx, _, h1, h2, h3 => ⟨h1, h2, h3⟩
  | b :: B, r, mx, hB, h1, h2, h3 => by
    have hb := hB b (List.mem_cons_self ..)
    have hB' := fun x hx => hB x (List.mem_cons_of_mem _ hx)
    have e : lessByF p (b :: B) r mx = if cf r b.at_ = 0 then lessByF p B r mx else lessByF p B (lessF p r b.row (cf r b.at_)) (lessF p mx b.mix (cf r b.at_)) := by
      unfold lessByF
      rw [List.foldl_cons]
      split <;> rfl
    rw [e]
    split
    · exact lessBy_tr R0 B r mx hB' h1 h2 h3
    · refine lessBy_tr R0 B _ _ hB' (by unfold lessF; rw [List.length_zipWith, h1, hb.row, Nat.min_self]) (by unfold lessF; rw [List.length_zipWith, h2, hb.mix, Nat.min_self]) fun i => ?_
      rw [cf_lessF _ _ _ (by rw [h1, hb.row])]
      have d1 := dvd_mod_sub p (cf r i - cf r b.at_ * cf b.row i)
      have d2 := cmb_less (p := p) bs n (cf r b.at_) mx b.mix 0 i (by rw [h2, hb.mix])
      have d3 := dvd_mul (cf r b.at_) (hb.eq i)
      refine dvd_of_eq (dvd_add (dvd_add d1 (h3 i)) (dvd_add (Int.dvd_neg.mpr d2) (Int.dvd_neg.mpr d3))) ?_
      grind
end ER
end
section
set_option linter.all false
set_option maxHeartbeats 1000000
namespace ER
theorem litF_spec : ∀ r : List Int, (litF r = none ∧ ∀ i, cf r i = 0) ∨ ∃ l, litF r = some l ∧ l < r.length ∧ cf r l ≠ 0
  | [] => .inl ⟨rfl, fun i => cf_nil i⟩
  | c :: r => by
    unfold litF
    by_cases h : c = 0
    · rw [if_pos h]
      rcases litF_spec r with ⟨h1, h2⟩ | ⟨l, h1, h2, h3⟩
      · left
        rw [h1]
        refine ⟨rfl, fun i => ?_⟩
        cases i with
        | zero => exact h
        | succ i => exact h2 i
      · right
        rw [h1]
        exact ⟨l + 1, rfl, by rw [List.length_cons]; omega, h3⟩
    · rw [if_neg h]
      exact .inr ⟨0, rfl, by simp, h⟩
theorem lessF_len' (p : Int) (a b : List Int) (t : Int) (h : a.length = b.length) : (lessF p a b t).length = a.length := by
  unfold lessF; rw [List.length_zipWith, h, Nat.min_self]
theorem lessF_bd' {p : Int} (hp : 0 < p) (a b : List Int) (t : Int) : Bd p (lessF p a b t) := fun x hx => by
  unfold lessF at hx
  obtain ⟨i, hi, e⟩ := List.mem_iff_getElem.mp hx
  rw [← e, List.getElem_zipWith]
  exact bd_mod hp _
theorem lessBy_cons (p : Int) (b : BRow) (B : List BRow) (r m : List Int) : lessByF p (b :: B) r m = if cf r b.at_ = 0 then lessByF p B r m else lessByF p B (lessF p r b.row (cf r b.at_)) (lessF p m b.mix (cf r b.at_)) := by
  unfold lessByF
  rw [List.foldl_cons]
  split <;> rfl
theorem lessBy_bd {p : Int} (hp : 0 < p) : ∀ (B : List BRow) (r m : List Int), Bd p r → Bd p m → Bd p (lessByF p B r m).1 ∧ Bd p (lessByF p B r m).2
  | [], _, _, h, h' => ⟨h, h'⟩
  | b :: B, r, m, h, h' => by
    rw [lessBy_cons]
    split
    · exact lessBy_bd hp B r m h h'
    · exact lessBy_bd hp B _ _ (lessF_bd' hp _ _ _) (lessF_bd' hp _ _ _)
/-- one press of the bare ring -/
def prL (p : Int) (bs : List Pairs) (n k : Nat) : List Int := pressF p (List.replicate n 0) (bs.getD (k / n) []) ((k % n : Nat) : Int) 1
theorem prL_len (p : Int) (bs : List Pairs) (n k : Nat) : (prL p bs n k).length = n := by unfold prL; rw [pressF_len', List.length_replicate]
theorem prL_cf {p : Int} {bs : List Pairs} {n : Nat} (hn : 0 < n) (k i : Nat) : p ∣ pk bs n k i - cf (prL p bs n k) i := by
  have := pressF_cf p ((k % n : Nat) : Int) 1 (bs.getD (k / n) []) (List.replicate n 0) (by simpa using hn) i
  rw [cf_rep, List.length_replicate] at this
  refine dvd_of_eq this ?_
  unfold pk prL
  omega
theorem basisStep_eq' (p : Int) (bs : List Pairs) (n : Nat) (B : List BRow) (k : Nat) : basisStep p bs n B k = match litF (lessByF p B (prL p bs n k) (unitF (bs.length * n) k)).1 with
      | none => B
      | some l => B ++ [⟨l, lessF p (List.replicate n 0) (lessByF p B (prL p bs n k) (unitF (bs.length * n) k)).1 (-invF p (cf (lessByF p B (prL p bs n k) (unitF (bs.length * n) k)).1 l)), lessF p (List.replicate (bs.length * n) 0) (lessByF p B (prL p bs n k) (unitF (bs.length * n) k)).2 (-invF p (cf (lessByF p B (prL p bs n k) (unitF (bs.length * n) k)).1 l))⟩] := rfl
theorem step_tr {p : Int} {bs : List Pairs} {n : Nat} (hn : 0 < n) {B : List BRow} {k : Nat} (hk : k < bs.length * n) (hB : ∀ b ∈ B, Tr p bs n (bs.length * n) b) : ∀ b ∈ basisStep p bs n B k, Tr p bs n (bs.length * n) b := by
  have lU : (unitF (bs.length * n) k).length = bs.length * n := by unfold unitF; rw [List.length_set, List.length_replicate]
  have cU : ∀ i, cmb bs n 0 (unitF (bs.length * n) k) i = pk bs n k i := fun i => by
    unfold unitF
    rw [cmb_set bs n _ 0 k 1 (by simpa using hk) (cf_rep _ _), cmb_zero, Nat.zero_add]; omega
  have h := lessBy_tr (p := p) (fun _ => 0) B (prL p bs n k) (unitF (bs.length * n) k) hB (prL_len ..) lU fun i => by
    rw [cU]
    refine dvd_of_eq (Int.dvd_neg.mpr (prL_cf (p := p) (bs := bs) hn k i)) ?_
    omega
  rw [basisStep_eq']
  generalize lessByF p B (prL p bs n k) (unitF (bs.length * n) k) = q at h
  obtain ⟨r, m⟩ := q
  obtain ⟨h1, h2, h3⟩ := h
  dsimp only at h1 h2 h3 ⊢
  rcases litF_spec r with ⟨e, _⟩ | ⟨l, e, hl, _⟩
  · rw [e]; exact hB
  · rw [e]
    intro b hb
    rcases List.mem_append.mp hb with hb | hb
    · exact hB b hb
    · rw [List.mem_singleton.mp hb]
      refine ⟨by rw [← h1]; exact hl, by rw [lessF_len' _ _ _ _ (by simp [h1])]; simp, by rw [lessF_len' _ _ _ _ (by simp [h2])]; simp, fun i => ?_⟩
      dsimp only
      generalize -invF p (cf r l) = v
      rw [cf_lessF _ _ _ (by simp [h1]), cf_rep]
      have d1 := dvd_mod_sub p (0 - v * cf r i)
      have d2 := cmb_less (p := p) bs n v (List.replicate (bs.length * n) 0) m 0 i (by simp [h2])
      rw [cmb_zero] at d2
      have d3 := dvd_mul (-v) (h3 i)
      refine dvd_of_eq (dvd_add (dvd_add d1 d3) (Int.dvd_neg.mpr d2)) ?_
      grind
theorem basis_tr {p : Int} {bs : List Pairs} {n : Nat} (hn : 0 < n) : ∀ b ∈ basisF p bs n, Tr p bs n (bs.length * n) b := by
  have h : ∀ (l : List Nat) (B : List BRow), (∀ k ∈ l, k < bs.length * n) → (∀ b ∈ B, Tr p bs n (bs.length * n) b) → ∀ b ∈ l.foldl (basisStep p bs n) B, Tr p bs n (bs.length * n) b := by
    intro l
    induction l with
    | nil => intro B _ hB; exact hB
    | cons k l ih => intro B hl hB; exact ih _ (fun x hx => hl x (List.mem_cons_of_mem _ hx)) (step_tr hn (hl k (List.mem_cons_self ..)) hB)
  exact h _ [] (fun k hk => List.mem_range.mp hk) (fun b hb => by cases hb)
/-! ### the colours of a picture -/
theorem setPic_cf : ∀ (s f : List Int) (k : Nat), k + s.length ≤ f.length → (∀ i, k ≤ i → cf f i = 0) → ∀ i, cf ((picFrom k s).foldl (fun f q => f.set q.1.toNat q.2) f) i = cf f i + shN k (cf s) i
  | [], f, k, _, _, i => by
    have : shN k (cf []) i = 0 := by rw [shN_at]; split <;> rfl
    rw [this]; show cf f i = cf f i + 0; omega
  | c :: s, f, k, hl, hz, i => by
    rw [List.length_cons] at hl
    have e : shN k (cf (c :: s)) i = (if i = k then c else 0) + shN (k + 1) (cf s) i := by
      rw [shN_at, shN_at]
      by_cases h : i < k
      · rw [if_pos h, if_neg (show ¬ i = k by omega), if_pos (show i < k + 1 by omega)]; simp
      · by_cases h2 : i = k
        · rw [if_neg h, if_pos h2, if_pos (show i < k + 1 by omega), show i - k = 0 by omega, cf_zero]; simp
        · rw [if_neg h, if_neg h2, if_neg (show ¬ i < k + 1 by omega), show i - k = (i - (k + 1)) + 1 by omega, cf_succ]; simp
    unfold picFrom
    by_cases hc : c = 0
    · rw [if_pos hc, setPic_cf s f (k + 1) (by omega) (fun j hj => hz j (by omega)) i, e, hc]
      split <;> simp
    · rw [if_neg hc, List.foldl_cons]
      show cf ((picFrom (k + 1) s).foldl _ (f.set ((k : Int)).toNat c)) i = _
      rw [Int.toNat_natCast, setPic_cf s _ (k + 1) (by rw [List.length_set]; omega) (fun j hj => by rw [cf_set (by omega), if_neg (by omega)]; exact hz j (by omega)) i, e, cf_set (by omega)]
      by_cases h : i = k
      · rw [if_pos h, if_pos h, h, hz k (Nat.le_refl _)]; omega
      · rw [if_neg h, if_neg h]; omega
theorem colours_cf {n : Nat} {s : List Int} (h : s.length = n) (i : Nat) : cf (coloursF n (picF s)) i = cf s i := by
  have := setPic_cf s (List.replicate n 0) 0 (by simp [h]) (fun i _ => cf_rep _ _) i
  rw [cf_rep] at this
  show cf ((picFrom 0 s).foldl _ _) i = _
  rw [this]
  show 0 + cf s i = _
  omega
theorem colours_len (n : Nat) (pic : Pairs) : (coloursF n pic).length = n := by
  have h : ∀ (l : Pairs) (f : List Int), (l.foldl (fun f q => f.set q.1.toNat q.2) f).length = f.length := by
    intro l
    induction l with
    | nil => intro f; rfl
    | cons a l ih => intro f; rw [List.foldl_cons, ih, List.length_set]
  unfold coloursF
  rw [h, List.length_replicate]
def negL (p : Int) (r : List Int) : List Int := r.map fun c => -c % p
theorem negL_cf (p : Int) (r : List Int) (i : Nat) : cf (negL p r) i = -cf r i % p := by
  unfold negL
  rw [cf_map r (fun c => -c % p) (by simp)]
/-- what has been found -/
theorem found_some {p : Int} {bs : List Pairs} {n : Nat} (hp : 0 < p) (hn : 0 < n) {r : List Int} (hr : r.length = n) {ps : List (Int × Int × Int)} (h : foundF p bs n (picF (negL p r)) = some ps) :
    ∃ mx : List Int, mx.length = bs.length * n ∧ Bd p mx ∧ ps = mixFrom p n 0 mx ∧ ∀ i, p ∣ cf r i - cmb bs n 0 mx i := by
  have t := lessBy_tr (p := p) (cf (negL p r)) (basisF p bs n) (coloursF n (picF (negL p r))) (List.replicate (bs.length * n) 0) (basis_tr hn) (colours_len ..) List.length_replicate fun i => by
    rw [colours_cf (by unfold negL; rw [List.length_map, hr]), cmb_zero]
    exact ⟨0, by simp⟩
  have hb := (lessBy_bd hp (basisF p bs n) (List.replicate (bs.length * n) 0) (List.replicate (bs.length * n) 0) (Bd.rep hp _) (Bd.rep hp _))
  unfold foundF at h
  have e : foundQ p bs n (picF (negL p r)) = lessByF p (basisF p bs n) (coloursF n (picF (negL p r))) (List.replicate (bs.length * n) 0) := rfl
  rw [e] at h
  have hbd : Bd p (lessByF p (basisF p bs n) (coloursF n (picF (negL p r))) (List.replicate (bs.length * n) 0)).2 := by
    have g : ∀ (B : List BRow) (r m : List Int), Bd p m → Bd p (lessByF p B r m).2 := by
      intro B
      induction B with
      | nil => intro r m h; exact h
      | cons b B ih =>
        intro r m h
        rw [lessBy_cons]
        split
        · exact ih r m h
        · exact ih _ _ (lessF_bd' hp _ _ _)
    exact g _ _ _ (Bd.rep hp _)
  generalize lessByF p (basisF p bs n) (coloursF n (picF (negL p r))) (List.replicate (bs.length * n) 0) = q at h t hbd
  obtain ⟨r', m'⟩ := q
  obtain ⟨t1, t2, t3⟩ := t
  dsimp only at h t1 t2 t3 hbd
  by_cases hall : r'.all (fun x => decide (x = 0)) = true
  · rw [if_pos hall] at h
    injection h with h
    refine ⟨m', t2, hbd, h.symm, fun i => ?_⟩
    have hz : cf r' i = 0 := by
      by_cases hi : i < r'.length
      · rw [cf_lt hi]
        have := List.all_eq_true.mp hall _ (List.getElem_mem hi)
        exact of_decide_eq_true this
      · exact cf_ge (by omega)
    have d := t3 i
    rw [hz, negL_cf] at d
    have d2 := dvd_mod_sub p (-cf r i)
    refine dvd_of_eq (dvd_add d d2) ?_
    omega
  · rw [if_neg hall] at h
    cases h
end ER
end
section
set_option linter.all false
set_option maxHeartbeats 1000000
namespace ER
/-! ### pressing what was found -/
def exL (ps : List (Int × Int × Int)) : List (Nat × Nat) := ps.flatMap fun q => List.replicate q.2.2.toNat (q.1.toNat, q.2.1.toNat)
def pressAll (p : Int) (bs : List Pairs) (l : List (Nat × Nat)) (r : List Int) : List Int := l.foldl (fun f (q : Nat × Nat) => pressF p f (bs.getD q.1 []) (q.2 : Int) 1) r
def sumL (bs : List Pairs) (n : Nat) : List (Nat × Nat) → Pol
  | [], _ => 0
  | q :: l, i => prF n (bs.getD q.1 []) (q.2 : Int) i + sumL bs n l i
theorem sumL_app (bs : List Pairs) (n : Nat) : ∀ (a b : List (Nat × Nat)) (i : Nat), sumL bs n (a ++ b) i = sumL bs n a i + sumL bs n b i
  | [], b, i => by show sumL bs n b i = 0 + sumL bs n b i; omega
  | q :: a, b, i => by show _ + sumL bs n (a ++ b) i = (_ + sumL bs n a i) + sumL bs n b i; rw [sumL_app bs n a b i]; omega
theorem sumL_rep (bs : List Pairs) (n : Nat) (q : Nat × Nat) (i : Nat) : ∀ k : Nat, sumL bs n (List.replicate k q) i = (k : Int) * prF n (bs.getD q.1 []) (q.2 : Int) i
  | 0 => by show (0 : Int) = ((0 : Nat) : Int) * _; simp
  | k + 1 => by
    rw [List.replicate_succ]
    show prF n (bs.getD q.1 []) (q.2 : Int) i + sumL bs n (List.replicate k q) i = _
    rw [sumL_rep bs n q i k]
    rw [show ((k + 1 : Nat) : Int) = (k : Int) + 1 by omega]
    grind
theorem pressF_bd' {p : Int} (hp : 0 < p) (x t : Int) : ∀ (b : Pairs) (r : List Int), Bd p r → Bd p (pressF p r b x t)
  | [], _, h => h
  | q :: b, r, h => pressF_bd' hp x t b _ (h.set (bd_mod hp _))
theorem press_all {p : Int} (hp : 0 < p) (bs : List Pairs) {n : Nat} (hn : 0 < n) : ∀ (l : List (Nat × Nat)) (r : List Int), r.length = n → Bd p r → (pressAll p bs l r).length = n ∧ Bd p (pressAll p bs l r) ∧ ∀ i, p ∣ (cf r i + sumL bs n l i) - cf (pressAll p bs l r) i
  | [], r, h, hb => ⟨h, hb, fun i => ⟨0, by show cf r i + 0 - cf r i = p * 0; omega⟩⟩
  | q :: l, r, h, hb => by
    obtain ⟨h1, h2, h3⟩ := press_all hp bs hn l (pressF p r (bs.getD q.1 []) (q.2 : Int) 1) (by rw [pressF_len']; exact h) (pressF_bd' hp _ _ _ _ hb)
    refine ⟨h1, h2, fun i => ?_⟩
    have d := pressF_cf p (q.2 : Int) 1 (bs.getD q.1 []) r (by omega) i
    rw [h] at d
    have e := h3 i
    show p ∣ (cf r i + (prF n (bs.getD q.1 []) (q.2 : Int) i + sumL bs n l i)) - cf (pressAll p bs l (pressF p r (bs.getD q.1 []) (q.2 : Int) 1)) i
    refine dvd_of_eq (dvd_add d e) ?_
    omega
theorem neg_mod {p t : Int} (h0 : 0 ≤ t) (h1 : t < p) (hz : t ≠ 0) : -t % p = p - t := by
  have : -t % p = (p - t) % p := by rw [← Int.add_emod_right]; congr 1; omega
  rw [this, Int.emod_eq_of_lt (by omega) (by omega)]
theorem sum_mix {p : Int} (bs : List Pairs) (n : Nat) : ∀ (mx : List Int) (k : Nat), Bd p mx → ∀ i, p ∣ sumL bs n (exL (mixFrom p n k mx)) i + cmb bs n k mx i
  | [], k, _, i => ⟨0, by show (0 : Int) + 0 = p * 0; simp⟩
  | t :: mx, k, hb, i => by
    have ht := hb t (List.mem_cons_self ..)
    have ih := sum_mix (p := p) bs n mx (k + 1) (fun x hx => hb x (List.mem_cons_of_mem _ hx)) i
    unfold mixFrom
    by_cases h : t = 0
    · rw [if_pos h, h]
      refine dvd_of_eq ih ?_
      show _ + (0 * pk bs n k i + cmb bs n (k + 1) mx i) = _
      omega
    · rw [if_neg h]
      have e := neg_mod ht.1 ht.2 h
      show p ∣ sumL bs n (List.replicate (-t % p).toNat ((((k / n : Nat) : Int)).toNat, (((k % n : Nat) : Int)).toNat) ++ exL (mixFrom p n (k + 1) mx)) i + (t * pk bs n k i + cmb bs n (k + 1) mx i)
      rw [sumL_app, sumL_rep, e, Int.toNat_natCast, Int.toNat_natCast, show (((p - t).toNat : Nat) : Int) = p - t by omega]
      refine dvd_of_eq (dvd_add ih ⟨pk bs n k i, rfl⟩) ?_
      show (p - t) * pk bs n k i + _ + (t * pk bs n k i + _) = _
      grind
theorem mix_mem {p : Int} {bs : List Pairs} {n : Nat} (hn : 0 < n) : ∀ (mx : List Int) (k : Nat), Bd p mx → k + mx.length ≤ bs.length * n → ∀ q ∈ mixFrom p n k mx, 0 ≤ q.1 ∧ q.1 < bs.length ∧ 0 ≤ q.2.1 ∧ q.2.1 < n ∧ 1 ≤ q.2.2 ∧ q.2.2 < p
  | [], k, _, _, q, h => by cases h
  | t :: mx, k, hb, hk, q, h => by
    have ht := hb t (List.mem_cons_self ..)
    rw [List.length_cons] at hk
    have ih := mix_mem (p := p) (bs := bs) hn mx (k + 1) (fun x hx => hb x (List.mem_cons_of_mem _ hx)) (by omega)
    unfold mixFrom at h
    by_cases hz : t = 0
    · rw [if_pos hz] at h; exact ih q h
    · rw [if_neg hz] at h
      rcases List.mem_cons.mp h with rfl | h
      · have e := neg_mod ht.1 ht.2 hz
        have h1 : k / n < bs.length := Nat.div_lt_of_lt_mul (by rw [Nat.mul_comm]; omega)
        have h2 := Nat.mod_lt k hn
        dsimp only
        rw [e]
        exact ⟨Int.natCast_nonneg _, Int.ofNat_lt.mpr h1, Int.natCast_nonneg _, Int.ofNat_lt.mpr h2, by omega, by omega⟩
      · exact ih q h
theorem pic_nil : ∀ (r : List Int) (k : Nat), (∀ i, cf r i = 0) → picFrom k r = []
  | [], _, _ => rfl
  | c :: r, k, h => by
    unfold picFrom
    rw [if_pos (show c = 0 from h 0)]
    exact pic_nil r (k + 1) fun i => h (i + 1)
theorem found_clear {p : Int} {bs : List Pairs} {n : Nat} (hp : 0 < p) (hn : 0 < n) {r : List Int} (hr : r.length = n) (br : Bd p r) {ps : List (Int × Int × Int)} (h : foundF p bs n (picF (negL p r)) = some ps) :
    (∀ q ∈ ps, 0 ≤ q.1 ∧ q.1 < bs.length ∧ 0 ≤ q.2.1 ∧ q.2.1 < n ∧ 1 ≤ q.2.2 ∧ q.2.2 < p) ∧ picF (pressAll p bs (exL ps) r) = [] := by
  obtain ⟨mx, h1, h2, rfl, h4⟩ := found_some hp hn hr h
  refine ⟨mix_mem hn mx 0 h2 (by omega), pic_nil _ 0 fun i => ?_⟩
  obtain ⟨q1, q2, q3⟩ := press_all hp bs hn (exL (mixFrom p n 0 mx)) r hr br
  have b := q2.cf hp i
  refine dvd_lt ?_ b.1 b.2
  have d1 := q3 i
  have d2 := sum_mix (p := p) bs n mx 0 h2 i
  have d3 := h4 i
  refine dvd_of_eq (dvd_add (dvd_add d3 d2) (Int.dvd_neg.mpr d1)) ?_
  omega
/-! ### presses in an ideal -/
def sumQ : Pairs → (Int → Nat) → Pol
  | [], _, _ => 0
  | q :: b, f, i => q.2 * mono (f q.1) i + sumQ b f i
theorem prF_sum (n : Nat) (x : Int) : ∀ (b : Pairs) (i : Nat), prF n b x i = sumQ b (fun o => plc n (x + o)) i
  | [], _ => rfl
  | q :: b, i => by show _ + prF n b x i = _ + sumQ b _ i; rw [prF_sum n x b i]
theorem shN_sumQ (m : Nat) (f : Int → Nat) : ∀ (b : Pairs) (i : Nat), shN m (sumQ b f) i = sumQ b (fun o => f o + m) i
  | [], i => by rw [shN_at]; split <;> rfl
  | q :: b, i => by
    have ih := shN_sumQ m f b i
    have e : shN m (sumQ (q :: b) f) i = q.2 * shN m (mono (f q.1)) i + shN m (sumQ b f) i := by
      rw [shN_at, shN_at, shN_at]
      split
      · simp
      · rfl
    rw [e, ih, shN_mono]; rfl
theorem amt_sum : ∀ (b : Pairs) (l : Int), b.Pairwise (fun x y => x.1 < y.1) → (∀ q ∈ b, l ≤ q.1) → ∀ i : Nat, amtF b (l + i) = sumQ b (fun o => (o - l).toNat) i
  | [], _, _, _, _ => rfl
  | q :: b, l, asc, hl, i => by
    obtain ⟨a1, a2⟩ := List.pairwise_cons.mp asc
    have hq := hl q (List.mem_cons_self ..)
    have ih := amt_sum b l a2 (fun x hx => hl x (List.mem_cons_of_mem _ hx)) i
    rw [amtF_cons]
    show _ = q.2 * mono (q.1 - l).toNat i + sumQ b _ i
    rw [← ih]
    unfold mono
    by_cases h : q.1 = l + i
    · rw [if_pos h, if_pos (by omega), amtF_none b (l + i) (fun x hx => by have := a1 x hx; omega)]; omega
    · rw [if_neg h, if_neg (by omega)]; omega
theorem Rule.sum {p : Int} {b : Pairs} (h : Rule p b) (i : Nat) : ER.cf (ruleRow b) i = sumQ b (fun o => (o - leastF b).toNat) i := by
  obtain ⟨l, e, hl, hq⟩ := h.ends
  rw [h.cf, amt_sum b (leastF b) h.asc (fun q hm => (hq q hm).1)]
section
variable {p : Int} {J : Pol → Prop} (I : Ideal p J)
include I
theorem Ideal.sumQ_cong {f g : Int → Nat} : ∀ (b : Pairs), (∀ q ∈ b, J (fun i => mono (f q.1) i - mono (g q.1) i)) → J (fun i => sumQ b f i - sumQ b g i)
  | [], _ => I.zero _ fun i => ⟨0, by show (0 : Int) - 0 = p * 0; simp⟩
  | q :: b, h => by
    have h1 := I.smul q.2 _ (h q (List.mem_cons_self ..))
    have h2 := Ideal.sumQ_cong b fun x hx => h x (List.mem_cons_of_mem _ hx)
    refine I.cong (I.add _ _ h1 h2) fun i => ⟨0, ?_⟩
    show (q.2 * mono (f q.1) i + sumQ b f i) - (q.2 * mono (g q.1) i + sumQ b g i) - (q.2 * (mono (f q.1) i - mono (g q.1) i) + (sumQ b f i - sumQ b g i)) = p * 0
    grind
theorem Ideal.mono_mod {n : Nat} (hn : 0 < n) (hx : J (fun i => mono n i - mono 0 i)) (a : Nat) : J (fun i => mono a i - mono (a % n) i) := by
  induction a using Nat.strongRecOn with
  | ind a ih =>
    by_cases h : a < n
    · refine I.zero _ fun i => ⟨0, ?_⟩
      rw [Nat.mod_eq_of_lt h]; simp
    · have q := I.shiftN hx (a - n)
      have r := ih (a - n) (by omega)
      have e : (a - n) % n = a % n := by
        conv => rhs; rw [show a = (a - n) + n by omega, Nat.add_mod_right]
      rw [e] at r
      refine I.cong (I.add _ _ q r) fun i => ⟨0, ?_⟩
      rw [shN_sub, shN_mono, shN_mono, show n + (a - n) = a by omega, show 0 + (a - n) = a - n by omega]
      show _ = p * 0
      omega
theorem Ideal.press {n : Nat} (hn : 0 < n) (hx : J (fun i => mono n i - mono 0 i)) {b : Pairs} (R : Rule p b) (hb : J (cf (ruleRow b))) (x : Int) : J (prF n b x) := by
  obtain ⟨l, e, hl, hq⟩ := R.ends
  have h1 := I.shiftN hb (plc n (x + leastF b))
  have h2 := I.sumQ_cong (f := fun o => plc n (x + o)) (g := fun o => (o - leastF b).toNat + plc n (x + leastF b)) b fun q hm => by
    have h0 := (hq q hm).1
    have key : plc n (x + q.1) = ((q.1 - leastF b).toNat + plc n (x + leastF b)) % n := by
      have e1 : plc n (((q.1 - leastF b).toNat + plc n (x + leastF b) : Nat) : Int) = ((q.1 - leastF b).toNat + plc n (x + leastF b)) % n := by
        unfold plc
        rw [← Int.natCast_emod, Int.toNat_natCast]
      rw [← e1]
      refine (plc_mod _ _ ?_).symm
      have e2 : ((plc n (x + leastF b) : Nat) : Int) = (x + leastF b) % (n : Int) := by
        unfold plc
        have := Int.emod_nonneg (x + leastF b) (show (n : Int) ≠ 0 by omega)
        omega
      have d := dvd_mod_sub (n : Int) (x + leastF b)
      refine dvd_of_eq d ?_
      omega
    rw [key]
    have mm := I.mono_mod hn hx ((q.1 - leastF b).toNat + plc n (x + leastF b))
    refine I.cong (I.smul (-1) _ mm) fun i => ⟨0, ?_⟩
    show _ = p * 0
    omega
  refine I.cong (I.add _ _ h1 h2) fun i => ⟨0, ?_⟩
  have e1 : shN (plc n (x + leastF b)) (cf (ruleRow b)) i = sumQ b (fun o => (o - leastF b).toNat + plc n (x + leastF b)) i := by
    have : cf (ruleRow b) = sumQ b (fun o => (o - leastF b).toNat) := funext fun i => R.sum i
    rw [this, shN_sumQ]
  rw [prF_sum, e1]
  show _ = p * 0
  omega
theorem Ideal.cmb {bs : List Pairs} {n : Nat} (h : ∀ k, k < bs.length * n → J (pk bs n k)) : ∀ (mx : List Int) (k : Nat), k + mx.length ≤ bs.length * n → J (cmb bs n k mx)
  | [], k, _ => I.zero _ fun i => ⟨0, by show (0 : Int) = p * 0; simp⟩
  | t :: mx, k, hk => by
    rw [List.length_cons] at hk
    exact I.add _ _ (I.smul t _ (h k (by omega))) (Ideal.cmb h mx (k + 1) (by omega))
end
end ER
end
section
set_option linter.all false
set_option maxHeartbeats 1000000
namespace ER
/-- found: so it is a multiple of the divisor -/
theorem found_mult {p : Int} {bs : List Pairs} {n : Nat} (h : Pan p bs) (hn : 0 < n) {r : List Int} (hr : r.length = n) {ps : List (Int × Int × Int)} (hf : foundF p bs n (picF (negL p r)) = some ps) : Mult p (divOnF p bs n) (cf r) := by
  have I := mult_ideal p (divOnF p bs n)
  obtain ⟨mx, h1, h2, _, h4⟩ := found_some h.hp.pos hn hr hf
  obtain ⟨j1, j2⟩ := (I.divOn h.hp h n).mp (mult_self p _)
  have hk : ∀ k, k < bs.length * n → Mult p (divOnF p bs n) (pk bs n k) := fun k hk => by
    have hlt : k / n < bs.length := Nat.div_lt_of_lt_mul (by rw [Nat.mul_comm]; exact hk)
    have hm : bs.getD (k / n) [] ∈ bs := by
      rw [List.getD_eq_getElem?_getD, List.getElem?_eq_getElem hlt]; exact List.getElem_mem hlt
    exact I.press hn j2 (h.rule _ hm) (j1 _ hm) _
  refine I.cong (I.cmb hk mx 0 (by omega)) fun i => ?_
  exact h4 i
/-! ### elimination on functions -/
def redF : List BRow → Pol → Pol
  | [], g => g
  | b :: B, g => redF B (fun i => g i - g b.at_ * cf b.row i)
theorem red_add : ∀ (B : List BRow) (f g : Pol) (i : Nat), redF B (fun i => f i + g i) i = redF B f i + redF B g i
  | [], _, _, _ => rfl
  | b :: B, f, g, i => by
    show redF B _ i = redF B _ i + redF B _ i
    rw [← red_add B]
    congr 1
    funext j
    grind
theorem red_smul : ∀ (B : List BRow) (c : Int) (f : Pol) (i : Nat), redF B (fun i => c * f i) i = c * redF B f i
  | [], _, _, _ => rfl
  | b :: B, c, f, i => by
    show redF B _ i = c * redF B _ i
    rw [← red_smul B]
    congr 1
    funext j
    grind
theorem red_dvd {p : Int} : ∀ (B : List BRow) (g : Pol), (∀ i, p ∣ g i) → ∀ i, p ∣ redF B g i
  | [], _, h, i => h i
  | b :: B, g, h, i => red_dvd B _ (fun j => by
      obtain ⟨k1, h1⟩ := h j
      obtain ⟨k2, h2⟩ := h b.at_
      exact ⟨k1 - k2 * cf b.row j, by rw [h1, h2]; grind⟩) i
theorem red_cong {p : Int} (B : List BRow) {f g : Pol} (h : ∀ i, p ∣ f i - g i) (i : Nat) : p ∣ redF B f i - redF B g i := by
  have e : redF B f i = redF B g i + redF B (fun i => f i - g i) i := by
    rw [← red_add]; congr 1; funext j; omega
  rw [e]
  exact dvd_of_eq (red_dvd B _ h i) (by omega)
theorem red_app : ∀ (B : List BRow) (b : BRow) (g : Pol) (i : Nat), redF (B ++ [b]) g i = redF B g i - redF B g b.at_ * cf b.row i
  | [], _, _, _ => rfl
  | a :: B, b, g, i => red_app B b _ i
theorem less_red {p : Int} {n : Nat} : ∀ (B : List BRow) (r m : List Int) (g : Pol), (∀ b ∈ B, b.row.length = n) → r.length = n → (∀ i, p ∣ cf r i - g i) → ∀ i, p ∣ cf (lessByF p B r m).1 i - redF B g i
  | [], r, m, g, _, _, h, i => h i
  | b :: B, r, m, g, hB, hr, h, i => by
    have hb := hB b (List.mem_cons_self ..)
    have hB' := fun x hx => hB x (List.mem_cons_of_mem _ hx)
    rw [lessBy_cons]
    show p ∣ _ - redF B (fun i => g i - g b.at_ * cf b.row i) i
    split
    · rename_i hz
      refine less_red B r m _ hB' hr (fun j => ?_) i
      have h1 := h j
      have h2 := h b.at_
      rw [hz] at h2
      obtain ⟨k1, e1⟩ := h1
      obtain ⟨k2, e2⟩ := h2
      refine ⟨k1 - k2 * cf b.row j, ?_⟩
      have : g b.at_ = -(p * k2) := by omega
      rw [this]
      grind
    · refine less_red B _ _ _ hB' (by rw [lessF_len' _ _ _ _ (by rw [hr, hb]), hr]) (fun j => ?_) i
      rw [cf_lessF _ _ _ (by rw [hr, hb])]
      obtain ⟨k0, e0⟩ := dvd_mod_sub p (cf r j - cf r b.at_ * cf b.row j)
      obtain ⟨k1, e1⟩ := h j
      obtain ⟨k2, e2⟩ := h b.at_
      refine ⟨k0 + k1 - k2 * cf b.row j, ?_⟩
      have h1 : g j = cf r j - p * k1 := by omega
      have h2 : g b.at_ = cf r b.at_ - p * k2 := by omega
      rw [h1, h2]
      grind
def Zr (p : Int) (B : List BRow) (g : Pol) : Prop := ∀ i, p ∣ redF B g i
theorem step_z {p : Int} (hp : P3 p) {bs : List Pairs} {n : Nat} (hn : 0 < n) {B : List BRow} {k : Nat} (hB : ∀ b ∈ B, Tr p bs n (bs.length * n) b) :
    (∀ g, Zr p B g → Zr p (basisStep p bs n B k) g) ∧ Zr p (basisStep p bs n B k) (pk bs n k) := by
  have lU : (unitF (bs.length * n) k).length = bs.length * n := by unfold unitF; rw [List.length_set, List.length_replicate]
  have h := less_red (p := p) B (prL p bs n k) (unitF (bs.length * n) k) (pk bs n k) (fun b hb => (hB b hb).row) (prL_len ..) fun i => dvd_of_eq (Int.dvd_neg.mpr (prL_cf (p := p) (bs := bs) hn k i)) (by omega)
  have hb : Bd p (lessByF p B (prL p bs n k) (unitF (bs.length * n) k)).1 := by
    refine (lessBy_bd hp.pos B _ _ (pressF_bd' hp.pos _ _ _ _ (Bd.rep hp.pos _)) ?_).1
    exact (Bd.rep hp.pos _).set ⟨by omega, by have := hp.two; omega⟩
  have hlen : (lessByF p B (prL p bs n k) (unitF (bs.length * n) k)).1.length = n := by
    have g : ∀ (B : List BRow) (r m : List Int), (∀ b ∈ B, b.row.length = n) → r.length = n → (lessByF p B r m).1.length = n := by
      intro B
      induction B with
      | nil => intro r m _ h; exact h
      | cons b B ih =>
        intro r m hB h
        rw [lessBy_cons]
        split
        · exact ih r m (fun x hx => hB x (List.mem_cons_of_mem _ hx)) h
        · exact ih _ _ (fun x hx => hB x (List.mem_cons_of_mem _ hx)) (by rw [lessF_len' _ _ _ _ (by rw [h, hB b (List.mem_cons_self ..)]), h])
    exact g B _ _ (fun b hb => (hB b hb).row) (prL_len ..)
  rw [basisStep_eq']
  generalize lessByF p B (prL p bs n k) (unitF (bs.length * n) k) = q at h hb hlen
  obtain ⟨r, m⟩ := q
  dsimp only at h hb hlen ⊢
  rcases litF_spec r with ⟨e, hz⟩ | ⟨l, e, hl, hnz⟩
  · rw [e]
    refine ⟨fun g hg => hg, fun i => ?_⟩
    have := h i
    rw [hz] at this
    show p ∣ redF B (pk bs n k) i
    exact dvd_of_eq (Int.dvd_neg.mpr this) (by omega)
  · rw [e]
    refine ⟨fun g hg i => ?_, fun i => ?_⟩
    · rw [red_app]
      obtain ⟨k1, e1⟩ := hg i
      obtain ⟨k2, e2⟩ := hg l
      dsimp only
      rw [e1, e2]
      exact ⟨k1 - k2 * cf (lessF p (List.replicate n 0) r (-invF p (cf r l))) i, by grind⟩
    · rw [red_app]
      dsimp only
      rw [cf_lessF _ _ _ (by simp [hlen]), cf_rep]
      have hc := hb.cf hp.pos l
      obtain ⟨kv, ev⟩ := invF_dvd hp (show 0 < cf r l by omega) hc.2
      generalize invF p (cf r l) = v at ev
      obtain ⟨k0, e0⟩ := dvd_mod_sub p (0 - -v * cf r i)
      obtain ⟨k1, e1⟩ := h i
      obtain ⟨k2, e2⟩ := h l
      have h1 : redF B (pk bs n k) i = cf r i - p * k1 := by omega
      have h2 : redF B (pk bs n k) l = cf r l - p * k2 := by omega
      have h3 : (0 - -v * cf r i) % p = (0 - -v * cf r i) + p * k0 := by omega
      rw [h1, h2, h3]
      refine ⟨-k1 + k2 * ((0 - -v * cf r i) + p * k0) - cf r l * k0 - kv * cf r i, ?_⟩
      grind
theorem basis_z {p : Int} (hp : P3 p) {bs : List Pairs} {n : Nat} (hn : 0 < n) : ∀ k, k < bs.length * n → Zr p (basisF p bs n) (pk bs n k) := by
  have h : ∀ (l : List Nat) (B : List BRow), (∀ k ∈ l, k < bs.length * n) → (∀ b ∈ B, Tr p bs n (bs.length * n) b) →
      (∀ g, Zr p B g → Zr p (l.foldl (basisStep p bs n) B) g) ∧ ∀ k ∈ l, Zr p (l.foldl (basisStep p bs n) B) (pk bs n k) := by
    intro l
    induction l with
    | nil => intro B _ _; exact ⟨fun g hg => hg, fun k hk => by cases hk⟩
    | cons k l ih =>
      intro B hl hB
      obtain ⟨s1, s2⟩ := step_z hp hn (k := k) hB
      obtain ⟨i1, i2⟩ := ih (basisStep p bs n B k) (fun x hx => hl x (List.mem_cons_of_mem _ hx)) (step_tr hn (hl k (List.mem_cons_self ..)) hB)
      refine ⟨fun g hg => i1 g (s1 g hg), fun x hx => ?_⟩
      rcases List.mem_cons.mp hx with e | e
      · subst e; exact i1 _ s2
      · exact i2 x e
  intro k hk
  exact (h _ [] (fun k hk => List.mem_range.mp hk) (fun b hb => by cases hb)).2 k (List.mem_range.mpr hk)
end ER
end
section
set_option linter.all false
set_option maxHeartbeats 1000000
namespace ER
/-! ### an ideal of what is reduced to 0 at every turn -/
def fd (n : Nat) : Nat → List Int → Pol
  | _, [], _ => 0
  | k, c :: r, i => c * mono (k % n) i + fd n (k + 1) r i
theorem fd_add (n : Nat) : ∀ (a b : List Int) (k i : Nat), fd n k (addL a b) i = fd n k a i + fd n k b i
  | [], b, k, i => by show fd n k b i = 0 + fd n k b i; omega
  | x :: a, [], k, i => by show fd n k (x :: a) i = fd n k (x :: a) i + 0; omega
  | x :: a, y :: b, k, i => by
    show (x + y) * mono (k % n) i + fd n (k + 1) (addL a b) i = (x * mono (k % n) i + fd n (k + 1) a i) + (y * mono (k % n) i + fd n (k + 1) b i)
    rw [fd_add n a b (k + 1) i]; grind
theorem fd_smul (n : Nat) (c : Int) : ∀ (a : List Int) (k i : Nat), fd n k (a.map (c * ·)) i = c * fd n k a i
  | [], k, i => by show (0 : Int) = c * 0; simp
  | x :: a, k, i => by
    show (c * x) * mono (k % n) i + fd n (k + 1) (a.map (c * ·)) i = c * (x * mono (k % n) i + fd n (k + 1) a i)
    rw [fd_smul n c a (k + 1) i]; grind
theorem cf_addL : ∀ (a b : List Int) (i : Nat), cf (addL a b) i = cf a i + cf b i
  | [], b, i => by rw [cf_nil]; show cf b i = 0 + cf b i; omega
  | x :: a, [], i => by rw [cf_nil]; show cf (x :: a) i = cf (x :: a) i + 0; omega
  | x :: a, y :: b, i => by
    cases i with
    | zero => rfl
    | succ i => show cf (addL a b) i = cf a i + cf b i; exact cf_addL a b i
theorem fd_dvd {p : Int} (n : Nat) : ∀ (s : List Int) (k : Nat), (∀ j, p ∣ cf s j) → ∀ i, p ∣ fd n k s i
  | [], _, _, i => ⟨0, by show (0 : Int) = p * 0; simp⟩
  | c :: s, k, h, i => by
    have h0 : p ∣ c := h 0
    have ih := fd_dvd (p := p) n s (k + 1) (fun j => h (j + 1)) i
    show p ∣ c * mono (k % n) i + fd n (k + 1) s i
    exact dvd_add (dvd_of_eq (dvd_mul (mono (k % n) i) h0) (by grind)) ih
theorem fd_set (n : Nat) : ∀ (f : List Int) (k j : Nat) (c : Int), j < f.length → cf f j = 0 → ∀ i, fd n k (f.set j c) i = fd n k f i + c * mono ((k + j) % n) i
  | [], _, _, _, h, _, _ => by simp at h
  | x :: f, k, 0, c, _, h0, i => by
    have : x = 0 := h0
    show c * mono (k % n) i + fd n (k + 1) f i = (x * mono (k % n) i + fd n (k + 1) f i) + c * mono ((k + 0) % n) i
    rw [this, Nat.add_zero]; grind
  | x :: f, k, j + 1, c, h, h0, i => by
    have ih := fd_set n f (k + 1) j c (by simpa using h) h0 i
    show x * mono (k % n) i + fd n (k + 1) (f.set j c) i = (x * mono (k % n) i + fd n (k + 1) f i) + c * mono ((k + (j + 1)) % n) i
    rw [ih, show k + 1 + j = k + (j + 1) by omega]; omega
theorem fd_rep (n m : Nat) : ∀ k i, fd n k (List.replicate m 0) i = 0 := by
  induction m with
  | zero => intro k i; rfl
  | succ m ih => intro k i; show 0 * mono (k % n) i + fd n (k + 1) (List.replicate m 0) i = 0; rw [ih]; simp
theorem fd_setAll (n : Nat) (l : Int) : ∀ (b : Pairs) (f : List Int) (k : Nat), b.Pairwise (fun x y => x.1 < y.1) → (∀ q ∈ b, l ≤ q.1 ∧ (q.1 - l).toNat < f.length) → (∀ q ∈ b, cf f (q.1 - l).toNat = 0) → ∀ i, fd n k (setAll l b f) i = fd n k f i + sumQ b (fun o => (k + (o - l).toNat) % n) i
  | [], f, k, _, _, _, i => by show fd n k f i = fd n k f i + 0; omega
  | q :: b, f, k, asc, h, hz, i => by
    obtain ⟨a1, a2⟩ := List.pairwise_cons.mp asc
    have hq := h q (List.mem_cons_self ..)
    have hzq := hz q (List.mem_cons_self ..)
    have ih := fd_setAll n l b (f.set (q.1 - l).toNat q.2) k a2 (fun x hx => by rw [List.length_set]; exact h x (List.mem_cons_of_mem _ hx)) (fun x hx => by
      have hx1 := h x (List.mem_cons_of_mem _ hx)
      have hx2 := a1 x hx
      rw [cf_set hq.2, if_neg (by omega)]
      exact hz x (List.mem_cons_of_mem _ hx)) i
    show fd n k (setAll l b (f.set (q.1 - l).toNat q.2)) i = _ + (q.2 * mono ((k + (q.1 - l).toNat) % n) i + sumQ b _ i)
    rw [ih, fd_set n f k _ q.2 hq.2 hzq]; omega
theorem fd_snoc (n : Nat) (c : Int) : ∀ (f : List Int) (k i : Nat), fd n k (f ++ [c]) i = fd n k f i + c * mono ((k + f.length) % n) i
  | [], k, i => by show c * mono (k % n) i + 0 = 0 + c * mono ((k + 0) % n) i; rw [Nat.add_zero]; omega
  | x :: f, k, i => by
    show x * mono (k % n) i + fd n (k + 1) (f ++ [c]) i = (x * mono (k % n) i + fd n (k + 1) f i) + c * mono ((k + (f.length + 1)) % n) i
    rw [fd_snoc n c f (k + 1) i, show k + 1 + f.length = k + (f.length + 1) by omega]; omega
theorem fd_self {n : Nat} : ∀ (r : List Int) (k : Nat), k + r.length ≤ n → ∀ i, fd n k r i = shN k (cf r) i
  | [], k, _, i => by rw [shN_at]; split <;> rfl
  | c :: r, k, h, i => by
    rw [List.length_cons] at h
    show c * mono (k % n) i + fd n (k + 1) r i = _
    rw [fd_self r (k + 1) (by omega) i, Nat.mod_eq_of_lt (by omega), shN_at, shN_at]
    unfold mono
    by_cases h1 : i < k
    · rw [if_pos h1, if_neg (show ¬ i = k by omega), if_pos (show i < k + 1 by omega)]; simp
    · by_cases h2 : i = k
      · rw [if_neg h1, if_pos h2, if_pos (show i < k + 1 by omega), show i - k = 0 by omega, cf_zero]; simp
      · rw [if_neg h1, if_neg h2, if_neg (show ¬ i < k + 1 by omega), show i - k = (i - (k + 1)) + 1 by omega, cf_succ]; simp
def Jz (p : Int) (B : List BRow) (n : Nat) : Pol → Prop := fun f => ∃ rr : List Int, (∀ i, p ∣ f i - cf rr i) ∧ ∀ k, Zr p B (fd n k rr)
theorem zr_cong {p : Int} {B : List BRow} {f g : Pol} (h : Zr p B f) (e : ∀ i, p ∣ g i - f i) : Zr p B g := fun i =>
  dvd_of_eq (dvd_add (h i) (red_cong B e i)) (by omega)
theorem jz_ideal (p : Int) (B : List BRow) (n : Nat) : Ideal p (Jz p B n) where
  zero f h := ⟨[], fun i => by rw [cf_nil, Int.sub_zero]; exact h i, fun k i => red_dvd B _ (fun j => ⟨0, by show (0 : Int) = p * 0; simp⟩) i⟩
  add f g := fun ⟨a, h1, h2⟩ ⟨b, h3, h4⟩ => ⟨addL a b, fun i => by rw [cf_addL]; exact dvd_of_eq (dvd_add (h1 i) (h3 i)) (by show f i + g i - _ = _; omega), fun k i => by
    have e : fd n k (addL a b) = fun i => fd n k a i + fd n k b i := funext fun i => fd_add n a b k i
    rw [e, red_add]
    exact dvd_add (h2 k i) (h4 k i)⟩
  smul c f := fun ⟨a, h1, h2⟩ => ⟨a.map (c * ·), fun i => by rw [cf_map a (c * ·) (by simp)]; exact dvd_of_eq (dvd_mul c (h1 i)) (by grind), fun k i => by
    have e : fd n k (a.map (c * ·)) = fun i => c * fd n k a i := funext fun i => fd_smul n c a k i
    rw [e, red_smul]
    exact dvd_mul c (h2 k i)⟩
  shift f := fun ⟨a, h1, h2⟩ => ⟨0 :: a, fun i => by
    cases i with
    | zero => exact ⟨0, by show (0 : Int) - 0 = p * 0; simp⟩
    | succ i => exact h1 i, fun k => by
    have e : fd n k (0 :: a) = fd n (k + 1) a := funext fun i => by show 0 * mono (k % n) i + fd n (k + 1) a i = _; omega
    rw [e]
    exact h2 (k + 1)⟩
theorem jz_rule {p : Int} (hp : P3 p) {bs : List Pairs} (h : Pan p bs) {n : Nat} (hn : 0 < n) {b : Pairs} (hb : b ∈ bs) : Jz p (basisF p bs n) n (cf (ruleRow b)) := by
  have R := h.rule b hb
  refine ⟨ruleRow b, fun i => ⟨0, by omega⟩, fun k => ?_⟩
  obtain ⟨l, e, hl, hq⟩ := R.ends
  obtain ⟨x, hx, rfl⟩ := List.mem_iff_getElem.mp hb
  have hj := plc_lt hn ((k : Int) - leastF bs[x])
  have hk : x * n + plc n ((k : Int) - leastF bs[x]) < bs.length * n := by
    have := Nat.mul_le_mul_right n (show x + 1 ≤ bs.length by omega)
    rw [Nat.succ_mul] at this
    omega
  have z := basis_z hp (bs := bs) hn _ hk
  refine zr_cong z fun i => ⟨0, ?_⟩
  have e1 : fd n k (ruleRow bs[x]) i = sumQ bs[x] (fun o => (k + (o - leastF bs[x]).toNat) % n) i := by
    show fd n k (setAll (leastF bs[x]) bs[x] (List.replicate _ 0)) i = _
    rw [fd_setAll n (leastF bs[x]) bs[x] _ k R.asc (fun q hm => ⟨(hq q hm).1, by
      have := hq q hm
      rw [List.length_replicate, e]
      omega⟩) (fun q _ => cf_rep _ _), fd_rep]
    omega
  have e2 : pk bs n (x * n + plc n ((k : Int) - leastF bs[x])) i = prF n bs[x] ((k : Int) - leastF bs[x]) i := by
    unfold pk
    have d1 : (x * n + plc n ((k : Int) - leastF bs[x])) / n = x := by
      rw [Nat.mul_comm, Nat.mul_add_div hn, Nat.div_eq_of_lt hj, Nat.add_zero]
    have d2 : (x * n + plc n ((k : Int) - leastF bs[x])) % n = plc n ((k : Int) - leastF bs[x]) := by
      rw [Nat.mul_comm, Nat.mul_add_mod, Nat.mod_eq_of_lt hj]
    rw [d1, d2, List.getD_eq_getElem?_getD, List.getElem?_eq_getElem hx]
    refine prF_mod bs[x] _ _ ?_ i
    have e3 : ((plc n ((k : Int) - leastF bs[x]) : Nat) : Int) = ((k : Int) - leastF bs[x]) % (n : Int) := by
      unfold plc
      have := Int.emod_nonneg ((k : Int) - leastF bs[x]) (show (n : Int) ≠ 0 by omega)
      omega
    rw [e3]
    exact dvd_mod_sub _ _
  rw [e1, e2, prF_sum]
  have e4 : ∀ (c : Pairs), (∀ q ∈ c, q ∈ bs[x]) → sumQ c (fun o => (k + (o - leastF bs[x]).toNat) % n) i = sumQ c (fun o => plc n ((k : Int) - leastF bs[x] + o)) i := by
    intro c
    induction c with
    | nil => intro _; rfl
    | cons q c ih =>
      intro hc
      have h0 := (hq q (hc q (List.mem_cons_self ..))).1
      show q.2 * mono ((k + (q.1 - leastF bs[x]).toNat) % n) i + sumQ c _ i = q.2 * mono (plc n ((k : Int) - leastF bs[x] + q.1)) i + sumQ c _ i
      rw [ih fun y hy => hc y (List.mem_cons_of_mem _ hy)]
      have e5 : plc n ((k : Int) - leastF bs[x] + q.1) = (k + (q.1 - leastF bs[x]).toNat) % n := by
        have e6 : (k : Int) - leastF bs[x] + q.1 = ((k + (q.1 - leastF bs[x]).toNat : Nat) : Int) := by omega
        unfold plc
        rw [e6, ← Int.natCast_emod, Int.toNat_natCast]
      rw [e5]
  rw [e4 bs[x] fun _ h => h]
  simp
theorem jz_cyc (p : Int) (B : List BRow) {n : Nat} (hn : 0 < n) : Jz p B n (fun i => mono n i - mono 0 i) := by
  obtain ⟨m, rfl⟩ : ∃ m, n = m + 1 := ⟨n - 1, by omega⟩
  refine ⟨(-1) :: (List.replicate m 0 ++ [1]), fun i => ⟨0, ?_⟩, fun k i => ?_⟩
  · show mono (m + 1) i - mono 0 i - cf ((-1) :: (List.replicate m 0 ++ [1])) i = p * 0
    cases i with
    | zero => simp [mono, cf_zero]
    | succ i =>
      rw [cf_succ, cf_app, List.length_replicate, cf_rep]
      unfold mono
      by_cases h : i < m
      · rw [if_pos h, if_neg (by omega), if_neg (by omega)]; simp
      · rw [if_neg h]
        by_cases h2 : i = m
        · subst h2; simp [cf_zero]
        · rw [if_neg (by omega), if_neg (by omega), cf_ge (by simp; omega)]; simp
  · have e : fd (m + 1) k ((-1) :: (List.replicate m 0 ++ [1])) = fun _ => 0 := funext fun j => by
      show -1 * mono (k % (m + 1)) j + fd (m + 1) (k + 1) (List.replicate m 0 ++ [1]) j = 0
      rw [fd_snoc, fd_rep, List.length_replicate, show k + 1 + m = k + (m + 1) by omega, Nat.add_mod_right]
      omega
    rw [e]
    exact red_dvd B _ (fun j => ⟨0, by simp⟩) i
/-- a multiple of the divisor: so it is found -/
theorem mult_found {p : Int} {bs : List Pairs} {n : Nat} (h : Pan p bs) (hn : 0 < n) {r : List Int} (hr : r.length = n) (hm : Mult p (divOnF p bs n) (cf r)) : (foundF p bs n (picF (negL p r))).isSome = true := by
  have hp := h.hp
  have I := jz_ideal p (basisF p bs n) n
  have hd := (I.divOn hp h n).mpr ⟨fun b hb => jz_rule hp h hn hb, jz_cyc p _ hn⟩
  obtain ⟨q, hq⟩ := hm
  obtain ⟨rr, h1, h2⟩ := I.cong (I.mulf hd q) hq
  have z : Zr p (basisF p bs n) (cf r) := zr_cong (h2 0) fun i => by
    have e := fd_dvd (p := p) n (addL r (rr.map (-1 * ·))) 0 (fun j => by
      rw [cf_addL, cf_map rr (-1 * ·) (by simp)]
      exact dvd_of_eq (h1 j) (by omega)) i
    rw [fd_add, fd_smul, fd_self r 0 (by omega)] at e
    refine dvd_of_eq e ?_
    show cf r i - _ = cf r i + _
    omega
  have z2 : Zr p (basisF p bs n) (cf (coloursF n (picF (negL p r)))) := zr_cong (f := fun i => -1 * cf r i) (fun i => by rw [red_smul]; exact dvd_mul _ (z i)) fun i => by
    rw [colours_cf (by unfold negL; rw [List.length_map, hr]), negL_cf]
    exact dvd_of_eq (dvd_mod_sub p (-cf r i)) (by omega)
  have l := less_red (p := p) (basisF p bs n) (coloursF n (picF (negL p r))) (List.replicate (bs.length * n) 0) (cf (coloursF n (picF (negL p r)))) (fun b hb => (basis_tr hn b hb).row) (colours_len ..) (fun i => ⟨0, by omega⟩)
  have bc : Bd p (coloursF n (picF (negL p r))) := by
    intro x hx
    obtain ⟨i, hi, e⟩ := List.mem_iff_getElem.mp hx
    rw [← e, ← cf_lt hi, colours_cf (by unfold negL; rw [List.length_map, hr]), negL_cf]
    exact bd_mod hp.pos _
  have bb := (lessBy_bd hp.pos (basisF p bs n) _ _ bc (Bd.rep hp.pos (bs.length * n))).1
  have e : foundQ p bs n (picF (negL p r)) = lessByF p (basisF p bs n) (coloursF n (picF (negL p r))) (List.replicate (bs.length * n) 0) := rfl
  unfold foundF
  rw [e]
  rw [if_pos]
  · rfl
  · rw [List.all_eq_true]
    intro x hx
    obtain ⟨i, hi, ex⟩ := List.mem_iff_getElem.mp hx
    have b := bb x hx
    have d := dvd_add (l i) (z2 i)
    rw [cf_lt hi, ex] at d
    exact decide_eq_true (dvd_lt (dvd_of_eq d (by omega)) b.1 b.2)
theorem found_iff {p : Int} {bs : List Pairs} {n : Nat} (h : Pan p bs) (hn : 0 < n) {r : List Int} (hr : r.length = n) (br : Bd p r) : (foundF p bs n (picF (negL p r))).isSome = true ↔ restF p (picF r) (divOnF p bs n) = [] := by
  obtain ⟨d1, d2, d3⟩ := h.div n
  rw [rest_iff h.hp d1 d3 br]
  constructor
  · intro z
    obtain ⟨ps, hps⟩ := Option.isSome_iff_exists.mp z
    exact found_mult h hn hr hps
  · exact mult_found h hn hr
end ER
end
section
set_option Elab.async false
set_option linter.all false
set_option maxRecDepth 100000
set_option maxHeartbeats 4000000
namespace EV
open PySem PySem.Spec PyProof.Rows L2
section
variable {P : Program} {w : World} {K : PySem.W.Frag} {mg : Str → Option Value} {base : Heap}
theorem tyT {H : Hp} {a : Addr} {xs : List V} (h : SqT K H a xs) : TyX K H (.ref a) (.type "tuple") := by
  rcases h with (h | ⟨o, h⟩) | ⟨o, its, n, h, hc, _⟩
  · exact .base (.tup h)
  · exact .fTuple h
  · exact .kTuple h hc
theorem iteI {c : Prop} [Decidable c] {A B : Prop} (hc : c) (h : A) : if c then A else B := by rw [if_pos hc]; exact h
theorem iteN {c : Prop} [Decidable c] {A B : Prop} (hc : ¬ c) (h : B) : if c then A else B := by rw [if_neg hc]; exact h
def sp_is_number (K : PySem.W.Frag) : Sp := fun vs H Q _ => ∃ n : Int, vs = [.int n] ∧ Q (.bl true) H
theorem ok_is_number (T : TX K mg w)  : C8.Cal P w K mg base 1 "is_number" (sp_is_number K) [] := by
  refine T.cal (d := d_is_number) 1 0 rfl rfl (S := sc_is_number) (fun _ _ _ _ _ _ us hl => match us, hl with | [_], _ => rfl) (fun vs H Q E h => ?_) (fun cdv A outer s H vs Q E hr h => ?_)
  · obtain ⟨n, rfl, _⟩ := h; rfl
  · obtain ⟨n, rfl, h⟩ := h
    refine ⟨_, (pss_one (ps_ret (pe_and (pe_callB call_isi (by rfl) (T.fr 5 rfl) (by decide +kernel) (pa_cons (pv 0) (pa_cons (pe_bltn (v := .ty "int") (u := .type "int") (by rfl) (T.fr 0 rfl) (by decide +kernel) rfl) pa_nil))) (pe_one (pe_not (pe_callB call_isi (by rfl) (T.fr 5 rfl) (by decide +kernel) (pa_cons (pv 0) (pa_cons (pe_bltn (v := .ty "bool") (u := .type "bool") (by rfl) (T.fr 1 rfl) (by decide +kernel) rfl) pa_nil)))))))), ?_⟩
    refine ⟨_, rfl, _, _, .type "int", .type "int", true, rfl, .ty _, .base (.int n), kit_ty (by decide +kernel), _, rfl, iteT ?_⟩
    refine ⟨_, rfl, _, _, .type "int", .type "bool", false, rfl, .ty _, .base (.int n), kit_ty (by decide +kernel), _, rfl, h⟩
def sp_is_whole (K : PySem.W.Frag) : Sp := fun vs H Q _ => ∃ n lo hi : Int, vs = [.int n, .int lo, .int hi] ∧ Q (.bl (decide (lo ≤ n ∧ n ≤ hi))) H
theorem ok_is_whole (T : TX K mg w) (c_is_number : C8.Cal P w K mg base 1 "is_number" (sp_is_number K) []) : C8.Cal P w K mg base 2 "is_whole" (sp_is_whole K) [] := by
  refine T.cal (d := d_is_whole) 2 1 rfl rfl (S := sc_is_whole) (fun _ _ _ _ _ _ us hl => match us, hl with | [_, _, _], _ => rfl) (fun vs H Q E h => ?_) (fun cdv A outer s H vs Q E hr h => ?_)
  · obtain ⟨n, lo, hi, rfl, _⟩ := h; rfl
  · obtain ⟨n, lo, hi, rfl, h⟩ := h
    refine ⟨_, (pss_one (ps_ret (pe_and (C8.pe_c c_is_number hr (by decide) (by rfl) (pa_cons (pv 0) pa_nil)) (pe_one (pe_chain op_le op_le (pv 1) (pv 0) (pv 2)))))), ?_⟩
    refine ⟨_, rfl, n, rfl, _, rfl, iteT ?_⟩
    refine ⟨_, rfl, _, rfl, _, _, rfl, rfl, _, rfl, ?_⟩
    by_cases h1 : lo ≤ n
    · refine iteI (by simpa using h1) ⟨_, rfl, _, _, rfl, rfl, ?_⟩
      have e : decide (lo ≤ n ∧ n ≤ hi) = decide (n ≤ hi) := by simp [h1]
      rw [e] at h; exact h
    · refine iteN (by simpa using h1) ?_
      have e : decide (lo ≤ n ∧ n ≤ hi) = false := by simp [h1]
      rw [e] at h; exact h
def isP (n : Int) : Bool := decide (n = 2 ∨ n = 3 ∨ n = 5)
def sp_is_prime (K : PySem.W.Frag) : Sp := fun vs H Q _ => ∃ n : Int, vs = [.int n] ∧ Q (.bl (isP n)) H
theorem inV_P (n : Int) : inV (V.int n) [V.int 2, V.int 3, V.int 5] = isP n := by
  unfold inV isP eqV
  simp [Bool.beq_eq_decide_eq]
  by_cases h2 : n = 2
  · subst h2; decide
  · by_cases h3 : n = 3
    · subst h3; decide
    · by_cases h5 : n = 5
      · subst h5; decide
      · simp [h2, h3, h5, Ne.symm h2, Ne.symm h3, Ne.symm h5]
theorem ok_is_prime (T : TX K mg w) (c_is_number : C8.Cal P w K mg base 1 "is_number" (sp_is_number K) []) : C8.Cal P w K mg base 2 "is_prime" (sp_is_prime K) [] := by
  refine T.cal (d := d_is_prime) 3 2 rfl rfl (S := sc_is_prime) (fun _ _ _ _ _ _ us hl => match us, hl with | [_], _ => rfl) (fun vs H Q E h => ?_) (fun cdv A outer s H vs Q E hr h => ?_)
  · obtain ⟨n, rfl, _⟩ := h; rfl
  · obtain ⟨n, rfl, h⟩ := h
    refine ⟨_, (pss_one (ps_ret (pe_and (C8.pe_c c_is_number hr (by decide) (by rfl) (pa_cons (pv 0) pa_nil)) (pe_one (pe_cmpR op_in_seq (pv 0) (C8.pe_gc rfl T.g_PRIMES) (by rfl)))))), ?_⟩
    refine ⟨_, rfl, n, rfl, _, rfl, iteT ?_⟩
    refine ⟨_, rfl, _, _, rfl, .inr (T.t_PRIMES H), rfl, rfl, ?_⟩
    rw [← inV_P] at h
    exact h
def sp_need_prime (K : PySem.W.Frag) : Sp := fun vs H Q _ => ∃ n : Int, vs = [.int n] ∧ isP n = true ∧ Q .non H
theorem ok_need_prime (T : TX K mg w) (c_is_prime : C8.Cal P w K mg base 2 "is_prime" (sp_is_prime K) []) : C8.Cal P w K mg base 3 "need_prime" (sp_need_prime K) [] := by
  refine T.cal (d := d_need_prime) 6 5 rfl rfl (S := sc_need_prime) (fun _ _ _ _ _ _ us hl => match us, hl with | [_], _ => rfl) (fun vs H Q E h => ?_) (fun cdv A outer s H vs Q E hr h => ?_)
  · obtain ⟨n, rfl, _⟩ := h; rfl
  · obtain ⟨n, rfl, hp, h⟩ := h
    refine ⟨_, (pss_one (ps_if (pt_not (pt_val (C8.pe_c c_is_prime hr (by decide) (by rfl) (pa_cons (pv 0) pa_nil)))) (pss_one ps_dead) pss_nil)), ?_⟩
    refine ⟨_, rfl, n, rfl, _, rfl, iteN (by rw [hp]; decide) h⟩
def sp_need_number (K : PySem.W.Frag) : Sp := fun vs H Q _ => ∃ n : Int, vs = [.int n] ∧ 0 ≤ n ∧ Q .non H
theorem ok_need_number (T : TX K mg w) (c_is_number : C8.Cal P w K mg base 1 "is_number" (sp_is_number K) []) : C8.Cal P w K mg base 2 "need_number" (sp_need_number K) [] := by
  refine T.cal (d := d_need_number) 7 6 rfl rfl (S := sc_need_number) (fun _ _ _ _ _ _ us hl => match us, hl with | [_], _ => rfl) (fun vs H Q E h => ?_) (fun cdv A outer s H vs Q E hr h => ?_)
  · obtain ⟨n, rfl, _⟩ := h; rfl
  · obtain ⟨n, rfl, hp, h⟩ := h
    refine ⟨_, (pss_one (ps_if (PW.pt (pw_or (pt_not (pt_val (C8.pe_c c_is_number hr (by decide) (by rfl) (pa_cons (pv 0) pa_nil)))) (pw_or1 (pt_cmpR op_lt (pv 0) pe_int (nomark _))))) (pss_one ps_dead) pss_nil)), ?_⟩
    refine ⟨_, rfl, n, rfl, _, rfl, iteN (by decide) ?_⟩
    refine ⟨_, rfl, _, _, rfl, rfl, _, rfl, iteN (by simpa using hp) h⟩
def sp_need_size (K : PySem.W.Frag) : Sp := fun vs H Q _ => ∃ n : Int, vs = [.int n] ∧ 1 ≤ n ∧ Q .non H
theorem ok_need_size (T : TX K mg w) (c_is_number : C8.Cal P w K mg base 1 "is_number" (sp_is_number K) []) : C8.Cal P w K mg base 2 "need_size" (sp_need_size K) [] := by
  refine T.cal (d := d_need_size) 24 23 rfl rfl (S := sc_need_size) (fun _ _ _ _ _ _ us hl => match us, hl with | [_], _ => rfl) (fun vs H Q E h => ?_) (fun cdv A outer s H vs Q E hr h => ?_)
  · obtain ⟨n, rfl, _⟩ := h; rfl
  · obtain ⟨n, rfl, hp, h⟩ := h
    refine ⟨_, (pss_one (ps_if (PW.pt (pw_or (pt_not (pt_val (C8.pe_c c_is_number hr (by decide) (by rfl) (pa_cons (pv 0) pa_nil)))) (pw_or1 (pt_cmpR op_lt (pv 0) pe_int (nomark _))))) (pss_one ps_dead) pss_nil)), ?_⟩
    refine ⟨_, rfl, n, rfl, _, rfl, iteN (by decide) ?_⟩
    refine ⟨_, rfl, _, _, rfl, rfl, _, rfl, iteN (by simpa using hp) h⟩
end
end EV
end
section
set_option Elab.async false
set_option linter.all false
set_option maxRecDepth 100000
set_option maxHeartbeats 4000000
namespace EV
open PySem PySem.Spec PyProof.Rows L2
open ER (cf)
def rLenS (K : PySem.W.Frag) : List V → Hp → VK → Prop := fun xs H Q => ∃ p ys, xs = [V.ref p] ∧ (SqL K H p ys ∨ SqT K H p ys) ∧ Q (V.int ys.length) H
/-! ### data in the heap -/
section
variable {K : PySem.W.Frag}
/-- no tuple that is read is lost -/
def KeepT (K : PySem.W.Frag) (H H' : Hp) : Prop := ∀ a xs, SqT K H a xs → SqT K H' a xs
theorem KeepT.refl (H : Hp) : KeepT K H H := fun _ _ h => h
theorem KeepT.trans {H H1 H2 : Hp} (a : KeepT K H H1) (b : KeepT K H1 H2) : KeepT K H H2 := fun c x h => b c x (a c x h)
theorem keepT {H H' : Hp} (e : Same H H') : KeepT K H H' := fun a xs h => by
  rcases h with (h | ⟨o, h⟩) | h
  · exact .inl (.inl (e _ _ h))
  · exact .inl (.inr ⟨o, e _ _ h⟩)
  · exact .inr h
/-- an object that is no tuple is changed -/
theorem keepT_upd {H : Hp} {a : Addr} {o u : HO} (h : H a = some u) (nt : ∀ xs, u ≠ .tup xs) (nf : ∀ o' v, u ≠ .frz o' v) : KeepT K H (upd H a o) := fun b xs q => by
  rcases q with (q | ⟨o', q⟩) | q
  · refine .inl (.inl ?_)
    rw [upd_ne (fun e => by rw [e, h] at q; exact nt xs (Option.some.inj q))]; exact q
  · refine .inl (.inr ⟨o', ?_⟩)
    rw [upd_ne (fun e => by rw [e, h] at q; exact nf _ _ (Option.some.inj q))]; exact q
  · exact .inr q
theorem keepT_lst {H : Hp} {a : Addr} {o : HO} {xs : List V} (h : H a = some (.lst xs)) : KeepT K H (upd H a o) := keepT_upd h (fun _ z => by cases z) (fun _ _ z => by cases z)
theorem Same.new {H : Hp} {p : Addr} {o : HO} (np : H p = none) : Same H (upd H p o) := fun b u e => by rw [upd_ne (ne_of_none e np)]; exact e
theorem Same.tup {H H' : Hp} {a : Addr} {xs : List V} (e : Same H H') (h : SqT K H a xs) : SqT K H' a xs := keepT e a xs h
/-- a tuple of ints -/
def TI (K : PySem.W.Frag) (H : Hp) (v : V) (ns : List Int) : Prop := ∃ a, v = .ref a ∧ SqT K H a (ns.map V.int)
theorem TI.keep {H H' : Hp} {v : V} {ns : List Int} (k : KeepT K H H') (h : TI K H v ns) : TI K H' v ns := by
  obtain ⟨a, e, q⟩ := h; exact ⟨a, e, k a _ q⟩
/-- a tuple of such -/
def TS (R : Hp → V → List Int → Prop) (K : PySem.W.Frag) (H : Hp) (v : V) (ds : List (List Int)) : Prop := ∃ a xs, v = .ref a ∧ SqT K H a xs ∧ Paired (R H) xs ds
/-- a tuple of pairs of ints -/
def TP (K : PySem.W.Frag) (H : Hp) (v : V) (ps : List (Int × Int)) : Prop := ∃ a xs, v = .ref a ∧ SqT K H a xs ∧ Paired (fun x (q : Int × Int) => TI K H x [q.1, q.2]) xs ps
theorem paired_mono {α β : Type} {F G : α → β → Prop} : ∀ {l : List α} {m : List β}, (∀ a b, F a b → G a b) → Paired F l m → Paired G l m
  | _, _, _, .nil => .nil
  | _, _, f, .cons r t => .cons (f _ _ r) (paired_mono f t)
theorem TP.keep {H H' : Hp} {v : V} {ps : List (Int × Int)} (k : KeepT K H H') (h : TP K H v ps) : TP K H' v ps := by
  obtain ⟨a, xs, e, q, r⟩ := h; exact ⟨a, xs, e, k a _ q, paired_mono (fun _ _ z => z.keep k) r⟩
/-- the buttons -/
def TB (K : PySem.W.Frag) (H : Hp) (v : V) (bs : List (List (Int × Int))) : Prop := ∃ a xs, v = .ref a ∧ SqT K H a xs ∧ Paired (TP K H) xs bs
theorem TB.keep {H H' : Hp} {v : V} {bs : List (List (Int × Int))} (k : KeepT K H H') (h : TB K H v bs) : TB K H' v bs := by
  obtain ⟨a, xs, e, q, r⟩ := h; exact ⟨a, xs, e, k a _ q, paired_mono (fun _ _ z => z.keep k) r⟩
/-- a panel -/
def TPan (K : PySem.W.Frag) (H : Hp) (v : V) (p : Int) (bs : List (List (Int × Int))) : Prop := ∃ a u, v = .ref a ∧ SqT K H a [.int p, u] ∧ TB K H u bs
theorem TPan.keep {H H' : Hp} {v : V} {p : Int} {bs : List (List (Int × Int))} (k : KeepT K H H') (h : TPan K H v p bs) : TPan K H' v p bs := by
  obtain ⟨a, u, e, q, r⟩ := h; exact ⟨a, u, e, k a _ q, r.keep k⟩
theorem paired_len {α β : Type} {F : α → β → Prop} : ∀ {l : List α} {m : List β}, Paired F l m → l.length = m.length
  | _, _, .nil => rfl
  | _, _, .cons _ t => by rw [List.length_cons, List.length_cons, paired_len t]
theorem paired_get {α β : Type} {F : α → β → Prop} : ∀ {l : List α} {m : List β} {i : Nat} {x : α}, Paired F l m → l[i]? = some x → ∃ y, m[i]? = some y ∧ F x y
  | _, _, _, _, .nil, e => by simp at e
  | _, _, 0, _, .cons r _, e => by simp at e; subst e; exact ⟨_, rfl, r⟩
  | _, _, i + 1, x, .cons _ t, e => by
    obtain ⟨y, h1, h2⟩ := paired_get (i := i) t (by simpa using e)
    exact ⟨y, by simpa using h1, h2⟩
theorem paired_get2 {α β : Type} {F : α → β → Prop} : ∀ {l : List α} {m : List β} {i : Nat} {y : β}, Paired F l m → m[i]? = some y → ∃ x, l[i]? = some x ∧ F x y
  | _, _, _, _, .nil, e => by simp at e
  | _, _, 0, _, .cons r _, e => by simp at e; subst e; exact ⟨_, rfl, r⟩
  | _, _, i + 1, x, .cons _ t, e => by
    obtain ⟨y, h1, h2⟩ := paired_get2 (i := i) t (by simpa using e)
    exact ⟨y, by simpa using h1, h2⟩
theorem paired_app {α β : Type} {F : α → β → Prop} : ∀ {l l2 : List α} {m m2 : List β}, Paired F l m → Paired F l2 m2 → Paired F (l ++ l2) (m ++ m2)
  | _, _, _, _, .nil, s => s
  | _, _, _, _, .cons r t, s => .cons r (paired_app t s)
theorem paired_map {α β : Type} (f : β → α) : ∀ (l : List β), Paired (fun x d => x = f d) (l.map f) l
  | [] => .nil
  | _ :: l => .cons rfl (paired_map f l)
theorem paired_eq {α β : Type} {f : β → α} : ∀ {l : List α} {m : List β}, Paired (fun x d => x = f d) l m → l = m.map f
  | _, _, .nil => rfl
  | _, _, .cons r t => by rw [List.map_cons, ← r, ← paired_eq t]
/-! ### places -/
theorem at_int {r : List Int} {i : Int} (h0 : 0 ≤ i) (h1 : i < r.length) : atI (r.map V.int) i = some (.int (cf r i.toNat)) := by
  have e : (r.map V.int)[i.toNat]? = some (.int (cf r i.toNat)) := by
    rw [List.getElem?_map, List.getElem?_eq_getElem (by omega), ER.cf_lt (by omega)]; rfl
  have := atI_nat e
  rw [show ((i.toNat : Nat) : Int) = i by omega] at this
  exact this
theorem at_neg1 {α : Type} {xs : List α} {v : α} (h : xs[xs.length - 1]? = some v) : atI xs (-1) = some v := by
  have hl := (List.getElem?_eq_some_iff.mp h).1
  have e : ixN xs.length (-1) = some (xs.length - 1) := by
    unfold ixN
    rw [if_neg (by decide), if_pos (by omega)]
    congr 1
    omega
  unfold atI
  rw [e]; exact h
theorem at_last {r : List Int} (h : r ≠ []) : atI (r.map V.int) (-1) = some (.int (ER.lastF r)) := by
  have hl := List.length_pos_iff.mpr h
  refine at_neg1 ?_
  rw [List.length_map, List.getElem?_map, List.getElem?_eq_getElem (by omega), ← ER.cf_lt (by omega)]; rfl
theorem at0 {α : Type} {x : α} {xs : List α} : atI (x :: xs) 0 = some x := by
  unfold atI ixN; simp
theorem at1 {α : Type} {x y : α} {xs : List α} : atI (x :: y :: xs) 1 = some y := by
  unfold atI ixN
  rw [if_pos (by decide), if_pos (by simp only [List.length_cons]; omega)]
  rfl
theorem map_get {r : List Int} {i : Nat} {x : V} (h : (r.map V.int)[i]? = some x) : x = V.int (cf r i) ∧ i < r.length := by
  rw [List.getElem?_map] at h
  by_cases e : i < r.length
  · rw [List.getElem?_eq_getElem e] at h
    cases h
    exact ⟨by rw [ER.cf_lt e], e⟩
  · rw [List.getElem?_eq_none (by omega)] at h; cases h
theorem ixN_nat {n : Nat} {i : Int} {j : Nat} (e : i = (j : Int)) (h : j < n) : ixN n i = some j := by
  subst e
  unfold ixN
  rw [if_pos (by omega), if_pos (by omega), Int.toNat_natCast]
theorem map_set_int (r : List Int) (k : Nat) (v : Int) : (r.map V.int).set k (.int v) = (r.set k v).map V.int := by rw [List.map_set]
/-! ### walks -/
theorem walk_enumT {a : Addr} {xs : List V} : Walk (IteT K a) xs.length (fun H => SqT K H a xs) (YPair (fun i => some (.int (i : Nat))) (fun i => xs[i]?)) := by
  refine ⟨fun i _ hi q => ⟨xs, xs[i], q, by simp [hi]⟩, fun _ q => ⟨xs, q, rfl⟩, fun i H v H' _ q y => ?_⟩
  obtain ⟨T, x, h1, h2, h3, h4⟩ := y
  exact ⟨T, .int (i : Nat), x, h1, h2, h3, rfl, h4 xs q⟩
theorem walk_zipT {a b : Addr} {xs ys : List V} {n : Nat} (hn : n = min xs.length ys.length) : Walk (RZ.ItzT K a b) n (fun H => SqT K H a xs ∧ SqT K H b ys) (YPair (fun i => xs[i]?) (fun i => ys[i]?)) := by
  subst hn
  refine ⟨fun i _ hi q => ?_, fun _ q => ⟨xs, ys, q.1, q.2, by omega⟩, fun i H v H' _ q y => ?_⟩
  · have h1 : i < xs.length := by omega
    have h2 : i < ys.length := by omega
    exact ⟨xs, ys, xs[i], ys[i], q.1, q.2, by simp [h1], by simp [h2]⟩
  · obtain ⟨T, x, z, h1, h2, h3, h4, h5⟩ := y
    exact ⟨T, x, z, h1, h2, h3, h4 xs q.1, h5 ys q.2⟩
/-- a comprehension that changes nothing: t says which turns give an item, f what it is -/
theorem lc_gen {δ : Type} (Rp : Hp → V → δ → Prop) (mono : ∀ H H' v d, KeepT K H H' → Rp H v d → Rp H' v d) {J : It} {n : Nat} {G : Hp → Prop} {Y : Nat → Hp → V → Hp → Prop} (w : Walk J n G Y) {g : TG} {tt : TT} {te : TE} {vs : List Nat} {σ : L2.St} {H1 : Hp} {D : Addr} {Qd : Hp → Prop}
    (hG : ∀ H, Same H1 H → G H) (t : Nat → Bool) (f : Nat → δ) (hn : n < sizeLine) (hD : H1 D = none)
    (hs : ∀ i x H H' (post : V → Hp → Prop) (postN : Hp → Prop), i < n → Same H1 H → Y i H x H' → (∀ y H4, Same H H4 → t i = true → Rp H4 y (f i) → post y H4) → (∀ H4, Same H H4 → t i = false → postN H4) →
      g x (wipe σ vs) H' fun σ2 H2 => wipe σ2 vs = wipe σ vs ∧ tt σ2 H2 fun b H3 => if b = true then te σ2 H3 post else postN H3)
    (hd : ∀ H acc, Same H1 H → H D = some (.lst acc) → Paired (Rp H) acc (((List.range n).filter t).map f) → Qd H) :
    ∃ W : Nat → Nat → Hp → Prop, (∃ m, W 0 m (upd H1 D (.lst []))) ∧ ∀ i m H, W i m H →
      (J.stop i H ∧ Qd H) ∨ (J.go i H ∧ ∃ Nx : Hp → Prop, (∀ H', Nx H' → ∃ m', m' < m ∧ W (i + 1) m' H') ∧ ∀ x H', J.yld i H x H' → g x (wipe σ vs) H' fun σ2 H2 => wipe σ2 vs = wipe σ vs ∧ tt σ2 H2 fun b H3 =>
        if b = true then te σ2 H3 fun y H4 => ∃ acc, H4 D = some (.lst acc) ∧ acc.length < sizeLine ∧ Nx (upd H4 D (.lst (acc ++ [y]))) else Nx H3) := by
  refine lc_it w (fun i H => Same H1 H ∧ ∃ acc, H D = some (.lst acc) ∧ Paired (Rp H) acc (((List.range i).filter t).map f)) ⟨Same.new hD, [], upd_same, .nil⟩ (fun i H _ p => hG H p.1) ?_ ?_
  · rintro i x H H' hi ⟨s1, acc, hacc, pr⟩ y
    refine hs i x H H' _ _ hi s1 y (fun y H4 s2 ht hr => ⟨acc, s2 _ _ hacc, ?_, ?_, acc ++ [y], upd_same, ?_⟩) (fun H4 s2 ht => ⟨s1.trans s2, acc, s2 _ _ hacc, ?_⟩)
    · have := paired_len pr
      have h2 := List.length_filter_le t (List.range i)
      rw [List.length_map] at this
      rw [List.length_range] at h2
      omega
    · intro b o e
      rw [upd_ne (ne_of_none e hD)]
      exact s2 _ _ (s1 _ _ e)
    · rw [List.range_succ, List.filter_append, List.map_append]
      have k : KeepT K H4 (upd H4 D (.lst (acc ++ [y]))) := keepT_lst (s2 _ _ hacc)
      refine paired_app (paired_mono (fun v d z => mono _ _ _ _ k (mono _ _ _ _ (keepT s2) z)) pr) ?_
      simp only [List.filter_cons, ht, List.filter_nil, if_true, List.map_cons, List.map_nil]
      exact .cons (mono _ _ _ _ k hr) .nil
    · rw [List.range_succ, List.filter_append, List.map_append]
      simp only [List.filter_cons, ht, List.filter_nil, List.map_nil, List.append_nil, Bool.false_eq_true, if_false]
      exact paired_mono (fun v d z => mono _ _ _ _ (keepT s2) z) pr
  · rintro H ⟨s1, acc, hacc, pr⟩
    exact hd H acc s1 hacc pr
/-- its ints -/
theorem lc_int {J : It} {n : Nat} {G : Hp → Prop} {Y : Nat → Hp → V → Hp → Prop} (w : Walk J n G Y) {g : TG} {tt : TT} {te : TE} {vs : List Nat} {σ : L2.St} {H1 : Hp} {D : Addr} {Qd : Hp → Prop}
    (hG : ∀ H, Same H1 H → G H) (t : Nat → Bool) (f : Nat → V) (hn : n < sizeLine) (hD : H1 D = none)
    (hs : ∀ i x H H' (post : V → Hp → Prop) (postN : Hp → Prop), i < n → Same H1 H → Y i H x H' → (∀ H4, Same H H4 → t i = true → post (f i) H4) → (∀ H4, Same H H4 → t i = false → postN H4) →
      g x (wipe σ vs) H' fun σ2 H2 => wipe σ2 vs = wipe σ vs ∧ tt σ2 H2 fun b H3 => if b = true then te σ2 H3 post else postN H3)
    (hd : ∀ H, Same H1 H → H D = some (.lst (((List.range n).filter t).map f)) → Qd H) :
    ∃ W : Nat → Nat → Hp → Prop, (∃ m, W 0 m (upd H1 D (.lst []))) ∧ ∀ i m H, W i m H →
      (J.stop i H ∧ Qd H) ∨ (J.go i H ∧ ∃ Nx : Hp → Prop, (∀ H', Nx H' → ∃ m', m' < m ∧ W (i + 1) m' H') ∧ ∀ x H', J.yld i H x H' → g x (wipe σ vs) H' fun σ2 H2 => wipe σ2 vs = wipe σ vs ∧ tt σ2 H2 fun b H3 =>
        if b = true then te σ2 H3 fun y H4 => ∃ acc, H4 D = some (.lst acc) ∧ acc.length < sizeLine ∧ Nx (upd H4 D (.lst (acc ++ [y]))) else Nx H3) := by
  refine lc_gen (K := ([] : PySem.W.Frag)) (fun _ v d => v = d) (fun _ _ _ _ _ z => z) w hG t f hn hD (fun i x H H' post postN hi s y k1 k2 => hs i x H H' post postN hi s y (fun H4 s2 ht => k1 _ H4 s2 ht rfl) k2) (fun H acc s ha pr => hd H s ?_)
  have e := paired_eq (f := fun d : V => d) pr
  rw [List.map_id'] at e
  rw [ha, e]
/-- every turn gives an item -/
theorem all_range {α β : Type} (l : List α) (f : Nat → β) (h : α → β) (e : ∀ i (hi : i < l.length), f i = h l[i]) : ((List.range l.length).filter fun _ => true).map f = l.map h := by
  rw [List.filter_eq_self.mpr (fun _ _ => rfl)]
  refine List.ext_getElem (by simp) fun i h1 h2 => ?_
  simp only [List.getElem_map, List.getElem_range]
  exact e i (by simpa using h2)
end
end EV
end
section
set_option Elab.async false
set_option linter.all false
set_option maxRecDepth 100000
set_option maxHeartbeats 4000000
namespace EV
open PySem PySem.Spec PyProof.Rows L2
open ER (cf Bd Row P3)
section
variable {P : Program} {w : World} {K : PySem.W.Frag} {mg : Str → Option Value} {base : Heap}
theorem eqT {a b : Int} (h : a = b) : decide (V.int a = V.int b) = true := by rw [h]; simp
theorem eqF {a b : Int} (h : ¬ a = b) : ¬ decide (V.int a = V.int b) = true := by simpa using h
theorem neT {a b : Int} (h : ¬ a = b) : (!decide (V.int a = V.int b)) = true := by simpa using h
theorem neF {a b : Int} (h : a = b) : ¬ (!decide (V.int a = V.int b)) = true := by simpa using h
def sp_trimmed (K : PySem.W.Frag) : Sp := fun vs H Q _ => ∃ (a : Addr) (r : List Int), vs = [.ref a] ∧ SqL K H a (r.map V.int) ∧ r.length ≤ 1000 ∧ ∀ v H', Same H H' → TI K H' v (ER.trim r) → Q v H'
theorem cut_to (r : List Int) (n : Nat) (h : n ≤ r.length) : cutV (r.map V.int) none (some (n : Int)) = (r.take n).map V.int := by
  unfold cutV
  rw [HT.sIx_none, HT.sIx_nat, List.drop_zero, List.length_map, Nat.min_eq_left h, Nat.sub_zero, List.map_take]
theorem ok_trimmed (T : TX K mg w)  : C8.Cal P w K mg base 1 "trimmed" (sp_trimmed K) [] := by
  refine T.cal (d := d_trimmed) 8 7 rfl rfl (S := sc_trimmed) (fun _ _ _ _ _ _ us hl => match us, hl with | [_], _ => rfl) (fun vs H Q E h => ?_) (fun cdv A outer s H vs Q E hr h => ?_)
  · obtain ⟨a, r, rfl, _⟩ := h; rfl
  · obtain ⟨a, r, rfl, hS, hl, k⟩ := h
    refine ⟨_, (pss_cons (ps_set (i := 1) sc_trimmed.nd rfl (by first | exact Or.inl rfl | exact Or.inr rfl) (pe_callB call_len_seq (by rfl) (T.fr 4 rfl) (by decide +kernel) (pa_cons (pv 0) pa_nil)))
    (pss_cons (ps_while PassesOwn.never (PW.pt (pw_and (pt_cmpR op_gt (pv 1) pe_int (nomark _)) (pw_and1 (pt_cmpR op_eq (pe_ix ix_list (pv 0) (pe_op op_sub (pv 1) pe_int) (fun _ _ => rfl)) pe_int (nomark _))))) (pss_one (ps_set (i := 1) sc_trimmed.nd rfl (by first | exact Or.inl rfl | exact Or.inr rfl) (pe_op op_sub (pv 1) pe_int))))
    (pss_one (ps_ret (pe_callTy call_tuple_of (by rfl) (T.fr 2 rfl) (by decide +kernel) (pa_cons (pe_slice sl_list (pv 0) po_none (po_some (pv 1))) pa_nil)))))), ?_⟩
    refine ⟨_, rfl, a, _, rfl, .inl hS, ?_⟩
    rw [List.length_map]
    refine ⟨fun m σ H' => H' = H ∧ m ≤ r.length ∧ σ = [some (.ref a), some (.int (m : Int))] ∧ ∀ i, m ≤ i → cf r i = 0, ⟨r.length, rfl, Nat.le_refl _, rfl, fun i hi => ER.cf_ge hi⟩, ?_⟩
    rintro m σ H' ⟨rfl, hm, rfl, hz⟩
    have fin : (m = 0 ∨ cf r (m - 1) ≠ 0) → ∀ p, H' p = none → ∀ q, upd H' p (.lst (cutV (r.map V.int) none (some (m : Int)))) q = none → Q (.ref q) (upd (upd H' p (.lst (cutV (r.map V.int) none (some (m : Int))))) q (.tup (cutV (r.map V.int) none (some (m : Int))))) := fun hc p np q nq => by
      refine k _ _ ((Same.new np).trans (Same.new nq)) ⟨q, rfl, ?_⟩
      rw [ER.trim_take hm hz hc, ← cut_to r m hm]
      exact SqT.of upd_same
    refine ⟨_, rfl, _, _, rfl, rfl, _, rfl, ?_⟩
    by_cases h0 : m = 0
    · refine iteN (by simp [h0]) (iteN (by decide) ?_)
      refine ⟨_, rfl, _, rfl, _, rfl, a, _, rfl, hS, fun p np => ?_⟩
      exact ⟨p, _, rfl, .inl ⟨SqL.of upd_same, fun q nq => fin (.inl h0) p np q nq⟩⟩
    · refine iteI (by simp; omega) ?_
      refine ⟨_, rfl, _, rfl, _, _, rfl, rfl, a, _, _, _, rfl, rfl, hS, at_int (by omega) (by omega), rfl, _, rfl, ?_⟩
      have e1 : ((m : Int) - 1).toNat = m - 1 := by omega
      rw [e1]
      by_cases hc : cf r (m - 1) = 0
      · refine iteI (by simp [hc]) ?_
        refine ⟨fun σ H2 => H2 = H' ∧ σ = [some (.ref a), some (.int ((m - 1 : Nat) : Int))], fun σ' H2 ⟨q1, q2⟩ => ⟨m - 1, by omega, q1, by omega, q2, fun i hi => ?_⟩, ?_⟩
        · by_cases e : i = m - 1
          · rw [e]; exact hc
          · exact hz i (by omega)
        · refine ⟨_, rfl, _, _, rfl, rfl, rfl, ?_⟩
          have e2 : (m : Int) - 1 = ((m - 1 : Nat) : Int) := by omega
          show [some (V.ref a), some (V.int ((m : Int) - 1))] = _
          rw [e2]
      · refine iteN (by simp [hc]) ?_
        refine ⟨_, rfl, _, rfl, _, rfl, a, _, rfl, hS, fun p np => ?_⟩
        exact ⟨p, _, rfl, .inl ⟨SqL.of upd_same, fun q nq => fin (.inr hc) p np q nq⟩⟩

def sp_inverse (K : PySem.W.Frag) : Sp := fun vs H Q _ => ∃ p c : Int, vs = [.int p, .int c] ∧ P3 p ∧ 0 < c ∧ c < p ∧ ∀ H', Same H H' → Q (.int (ER.invF p c)) H'
theorem inv_list {p c : Int} (hp : P3 p) (h0 : 0 < c) (h1 : c < p) : (((List.range p.toNat).filter fun i : Nat => decide ((0 + (i : Int)) * c % p = 1)).map fun i : Nat => V.int (0 + (i : Int))) = [V.int (ER.invF p c)] := by
  rcases hp with rfl | rfl | rfl
  · have : c = 1 := by omega
    subst this; decide
  · have : c = 1 ∨ c = 2 := by omega
    rcases this with rfl | rfl <;> decide
  · have : c = 1 ∨ c = 2 ∨ c = 3 ∨ c = 4 := by omega
    rcases this with rfl | rfl | rfl | rfl <;> decide
theorem ok_inverse (T : TX K mg w)  : C8.Cal P w K mg base 1 "inverse" (sp_inverse K) [] := by
  refine T.cal (d := d_inverse) 9 8 rfl rfl (S := sc_inverse) (fun _ _ _ _ _ _ us hl => match us, hl with | [_, _], _ => rfl) (fun vs H Q E h => ?_) (fun cdv A outer s H vs Q E hr h => ?_)
  · obtain ⟨p, c, rfl, _⟩ := h; rfl
  · obtain ⟨p, c, rfl, hp, h0, h1, k⟩ := h
    have p5 := hp.le
    have pp := hp.pos
    refine ⟨_, (pss_one (ps_ret (pe_ix ix_list (pe_lc (own := [("other", 2)]) (g := (gName 2)) rfl sc_inverse.nd (pi_range1 rfl (T.fr 11 rfl) (pa_cons (pv 0) pa_nil)) (blkOk_by (own := [("other", 2)]) (N := n_inverse) (sc := defScope s_inverse) (by decide +kernel)) (fun _ _ _ _ _ => (pg_name (i := 2) sc_inverse.nd rfl (by first | exact Or.inl rfl | exact Or.inr rfl))) (fun _ _ _ _ _ => (pts_one (pt_cmpR op_eq (pe_op op_mod (pe_op op_mul (pv 2) (pv 1)) (pv 0)) pe_int (nomark _)))) (fun _ _ _ _ _ => (pv 2))) pe_int (fun _ _ => rfl)))), ?_⟩
    refine ⟨_, rfl, p, rfl, by omega, by omega, fun D nD => ?_⟩
    refine lc_int walk_range (G := fun _ => True) (fun _ _ => trivial) (fun i : Nat => decide ((0 + (i : Int)) * c % p = 1)) (fun i : Nat => V.int (0 + (i : Int))) (by rw [sizeLine_eq]; omega) nD ?_ ?_
    · rintro i x H1 H2 post postN hi s1 ⟨rfl, rfl⟩ k1 k2
      refine ⟨rfl, _, rfl, _, rfl, _, _, rfl, rfl, .inr (by omega), _, rfl, _, _, rfl, rfl, pp, rfl, _, rfl, ?_⟩
      by_cases hq : (0 + (i : Int)) * c % p = 1
      · refine iteI (eqT hq) ⟨_, rfl, k1 _ (Same.refl _) (decide_eq_true hq)⟩
      · refine iteN (eqF hq) (k2 _ (Same.refl _) (decide_eq_false hq))
    · intro H1 s1 hD
      rw [inv_list hp h0 h1] at hD
      exact ⟨_, _, _, _, rfl, rfl, SqL.of hD, at0, k _ s1⟩
def sp_scaled (K : PySem.W.Frag) : Sp := fun vs H Q _ => ∃ (p c : Int) (v : V) (r : List Int), vs = [.int p, v, .int c] ∧ TI K H v r ∧ Bd p r ∧ P3 p ∧ r.length ≤ 1000 ∧ ∀ v H', Same H H' → TI K H' v (ER.scaledF p r c) → Q v H'
theorem ok_scaled (T : TX K mg w) (c_trimmed : C8.Cal P w K mg base 1 "trimmed" (sp_trimmed K) []) : C8.Cal P w K mg base 2 "scaled" (sp_scaled K) [] := by
  refine T.cal (d := d_scaled) 10 9 rfl rfl (S := sc_scaled) (fun _ _ _ _ _ _ us hl => match us, hl with | [_, _, _], _ => rfl) (fun vs H Q E h => ?_) (fun cdv A outer s H vs Q E hr h => ?_)
  · obtain ⟨p, c, v, r, rfl, _⟩ := h; rfl
  · obtain ⟨p, c, v, r, rfl, ⟨a, rfl, hS⟩, hb, hp, hl, k⟩ := h
    have p5 := hp.le
    have pp := hp.pos
    refine ⟨_, (pss_one (ps_ret (C8.pe_c c_trimmed hr (by decide) (by rfl) (pa_cons (pe_lc (own := [("part", 3)]) (g := (gName 3)) rfl sc_scaled.nd (pi_tup (pv 1)) (blkOk_by (own := [("part", 3)]) (N := n_scaled) (sc := defScope s_scaled) (by decide +kernel)) (fun _ _ _ _ _ => (pg_name (i := 3) sc_scaled.nd rfl (by first | exact Or.inl rfl | exact Or.inr rfl))) (fun _ _ _ _ _ => pts_nil) (fun _ _ _ _ _ => (pe_op op_mod (pe_op op_mul (pv 3) (pv 2)) (pv 0)))) pa_nil)))), ?_⟩
    refine ⟨_, rfl, a, rfl, ⟨_, hS⟩, fun D nD => ?_⟩
    refine lc_int walk_tup (fun H1 s1 => Same.tup s1 hS) (fun _ => true) (fun i => V.int (cf r i * c % p)) (by rw [List.length_map, sizeLine_eq]; omega) nD ?_ ?_
    · rintro i x H1 H2 post postN hi s1 ⟨rfl, hx⟩ k1 k2
      rw [List.length_map] at hi
      rw [List.getElem?_map, List.getElem?_eq_getElem hi] at hx
      cases hx
      have hb1 := hb _ (List.getElem_mem hi)
      refine ⟨rfl, ?_⟩
      refine ⟨_, rfl, _, rfl, _, _, rfl, rfl, .inl (by omega), _, rfl, _, _, rfl, rfl, pp, ?_⟩
      have := k1 _ (Same.refl _) rfl
      rw [ER.cf_lt hi] at this
      exact this
    · intro H1 s1 hD
      rw [all_range (r.map V.int) _ (fun x => match x with | V.int i => V.int (i * c % p) | _ => .non) (fun i hi => by
        rw [List.length_map] at hi
        rw [List.getElem_map, ER.cf_lt hi]), List.map_map] at hD
      have e : (r.map ((fun x => match x with | V.int i => V.int (i * c % p) | _ => V.non) ∘ V.int)) = (r.map fun x => x * c % p).map V.int := by rw [List.map_map]; rfl
      rw [e] at hD
      exact ⟨D, _, rfl, SqL.of hD, by rw [List.length_map]; exact hl, fun v H2 s2 ht => k v H2 (s1.trans s2) ht⟩
def sp_monic (K : PySem.W.Frag) : Sp := fun vs H Q _ => ∃ (p : Int) (v : V) (r : List Int), vs = [.int p, v] ∧ TI K H v r ∧ Row p r ∧ r ≠ [] ∧ P3 p ∧ r.length ≤ 1000 ∧ ∀ v H', Same H H' → TI K H' v (ER.monicF p r) → Q v H'
theorem ok_monic (T : TX K mg w) (c_inverse : C8.Cal P w K mg base 1 "inverse" (sp_inverse K) []) (c_scaled : C8.Cal P w K mg base 2 "scaled" (sp_scaled K) []) : C8.Cal P w K mg base 3 "monic" (sp_monic K) [] := by
  refine T.cal (d := d_monic) 11 10 rfl rfl (S := sc_monic) (fun _ _ _ _ _ _ us hl => match us, hl with | [_, _], _ => rfl) (fun vs H Q E h => ?_) (fun cdv A outer s H vs Q E hr h => ?_)
  · obtain ⟨p, v, r, rfl, _⟩ := h; rfl
  · obtain ⟨p, v, r, rfl, ht, hrow, hne, hp, hl, k⟩ := h
    obtain ⟨h0, h1⟩ := hrow.lastpos hp.pos hne
    refine ⟨_, (pss_one (ps_ret (C8.pe_c c_scaled hr (by decide) (by rfl) (pa_cons (pv 0) (pa_cons (pv 1) (pa_cons (C8.pe_c c_inverse hr (by decide) (by rfl) (pa_cons (pv 0) (pa_cons (pe_ix ix_tup (pv 1) (pe_un un_neg pe_int) (fun _ _ => rfl)) pa_nil))) pa_nil)))))), ?_⟩
    obtain ⟨a, rfl, hS⟩ := id ht
    refine ⟨_, rfl, _, rfl, _, rfl, _, rfl, _, rfl, _, _, _, _, rfl, rfl, hS, at_last hne, p, _, rfl, hp, h0, h1, fun H1 s1 => ?_⟩
    exact ⟨p, _, _, r, rfl, ht.keep (keepT s1), hrow.bd, hp, hl, fun v H2 s2 t => k v H2 (s1.trans s2) t⟩
end
end EV
end
section
set_option Elab.async false
set_option linter.all false
set_option maxRecDepth 100000
set_option maxHeartbeats 4000000
namespace EV
open PySem PySem.Spec PyProof.Rows L2
open ER (cf Bd Row P3)
section
variable {P : Program} {w : World} {K : PySem.W.Frag} {mg : Str → Option Value} {base : Heap}
theorem flat0 (n : Nat) : (List.replicate n [V.int 0]).flatten = (List.replicate n (0 : Int)).map V.int := by
  induction n with
  | zero => rfl
  | succ n ih => rw [List.replicate_succ, List.flatten_cons, ih, List.replicate_succ]; rfl
theorem max_int (a b : Nat) : (if (b : Int) > (a : Int) then (b : Int) else (a : Int)) = ((max a b : Nat) : Int) := by
  split <;> omega
def sp_added (K : PySem.W.Frag) : Sp := fun vs H Q _ => ∃ (p : Int) (v u : V) (a b : List Int), vs = [.int p, v, u] ∧ TI K H v a ∧ TI K H u b ∧ P3 p ∧ a.length ≤ 400 ∧ b.length ≤ 400 ∧ ∀ v H', Same H H' → TI K H' v (ER.addedF p a b) → Q v H'
theorem zip_eq (p : Int) (xs ys : List Int) (h : xs.length = ys.length) : ((List.range xs.length).filter fun _ => true).map (fun i => V.int ((cf xs i + cf ys i) % p)) = (List.zipWith (fun x y => (x + y) % p) xs ys).map V.int := by
  rw [List.filter_eq_self.mpr (fun _ _ => rfl)]
  refine List.ext_getElem (by simp [h]) fun i h1 h2 => ?_
  have hi : i < xs.length := by simpa using h1
  simp only [List.getElem_map, List.getElem_range, List.getElem_zipWith]
  rw [ER.cf_lt hi, ER.cf_lt (by omega)]
theorem ok_added (T : TX K mg w) (c_trimmed : C8.Cal P w K mg base 1 "trimmed" (sp_trimmed K) []) : C8.Cal P w K mg base 2 "added" (sp_added K) [] := by
  refine T.cal (d := d_added) 12 11 rfl rfl (S := sc_added) (fun _ _ _ _ _ _ us hl => match us, hl with | [_, _, _], _ => rfl) (fun vs H Q E h => ?_) (fun cdv A outer s H vs Q E hr h => ?_)
  · obtain ⟨p, v, u, a, b, rfl, _⟩ := h; rfl
  · obtain ⟨p, v, u, a, b, rfl, ⟨va, rfl, ha⟩, ⟨ub, rfl, hb⟩, hp, hla, hlb, k⟩ := h
    have pp := hp.pos
    refine ⟨_, (pss_cons (ps_set (i := 3) sc_added.nd rfl (by first | exact Or.inl rfl | exact Or.inr rfl) (pe_callB (call_max2 rfl) (by rfl) (T.fr 9 rfl) (by decide +kernel) (pa_cons (pe_callB call_len_seq (by rfl) (T.fr 4 rfl) (by decide +kernel) (pa_cons (pv 1) pa_nil)) (pa_cons (pe_callB call_len_seq (by rfl) (T.fr 4 rfl) (by decide +kernel) (pa_cons (pv 2) pa_nil)) pa_nil))))
    (pss_cons (ps_set (i := 4) sc_added.nd rfl (by first | exact Or.inl rfl | exact Or.inr rfl) (pe_op op_cat (pe_callTy call_list_of (by rfl) (T.fr 10 rfl) (by decide +kernel) (pa_cons (pv 1) pa_nil)) (pe_op op_rep (pe_lst (pa_cons pe_int pa_nil)) (pe_op op_sub (pv 3) (pe_callB call_len_seq (by rfl) (T.fr 4 rfl) (by decide +kernel) (pa_cons (pv 1) pa_nil))))))
    (pss_cons (ps_set (i := 5) sc_added.nd rfl (by first | exact Or.inl rfl | exact Or.inr rfl) (pe_op op_cat (pe_callTy call_list_of (by rfl) (T.fr 10 rfl) (by decide +kernel) (pa_cons (pv 2) pa_nil)) (pe_op op_rep (pe_lst (pa_cons pe_int pa_nil)) (pe_op op_sub (pv 3) (pe_callB call_len_seq (by rfl) (T.fr 4 rfl) (by decide +kernel) (pa_cons (pv 2) pa_nil))))))
    (pss_one (ps_ret (C8.pe_c c_trimmed hr (by decide) (by rfl) (pa_cons (pe_lc (own := [("here", 6), ("there", 7)]) (g := (gTup K 2 (gCons (gName 6) (gCons (gName 7) gNil)))) rfl sc_added.nd (RZ.pi_zipA (by rfl) (T.fr 13 rfl) (pa_cons (pv 4) (pa_cons (pv 5) pa_nil))) (blkOk_by (own := [("here", 6), ("there", 7)]) (N := n_added) (sc := defScope s_added) (by decide +kernel)) (fun _ _ _ _ _ => (pg_tup rfl (pgs_cons (pg_name (i := 6) sc_added.nd rfl (by first | exact Or.inl rfl | exact Or.inr rfl)) (pgs_cons (pg_name (i := 7) sc_added.nd rfl (by first | exact Or.inl rfl | exact Or.inr rfl)) pgs_nil)))) (fun _ _ _ _ _ => pts_nil) (fun _ _ _ _ _ => (pe_op op_mod (pe_op op_add (pv 6) (pv 7)) (pv 0)))) pa_nil))))))), ?_⟩
    refine ⟨_, rfl, va, _, rfl, .inr ha, _, rfl, ub, _, rfl, .inr hb, _, _, rfl, ?_⟩
    rw [List.length_map, List.length_map, max_int]
    have hm : max a.length b.length ≤ 400 := by omega
    -- first
    refine ⟨_, rfl, va, _, rfl, .inr ha, fun l1 n1 => ?_⟩
    refine ⟨by show 1 ≤ sizeLine; decide, fun l2 n2 => ?_⟩
    have s1 := Same.new (o := .lst (a.map V.int)) n1
    have s2 := s1.trans (Same.new (o := .lst [V.int 0]) n2)
    refine ⟨_, rfl, _, rfl, va, _, rfl, .inr (Same.tup s2 ha), _, _, rfl, rfl, ?_⟩
    rw [List.length_map]
    have e1 : (((max a.length b.length : Nat) : Int) - (a.length : Int)).toNat = max a.length b.length - a.length := by omega
    refine ⟨l2, _, _, rfl, rfl, upd_same, by omega, by omega, by rw [e1, sizeLine_eq]; simp only [List.length_cons, List.length_nil]; omega, fun l3 n3 => ?_⟩
    rw [e1, flat0]
    have s3 := s2.trans (Same.new (o := .lst ((List.replicate (max a.length b.length - a.length) (0 : Int)).map V.int)) n3)
    have h13 : upd (upd (upd H l1 (.lst (a.map V.int))) l2 (.lst [V.int 0])) l3 (.lst ((List.replicate (max a.length b.length - a.length) (0 : Int)).map V.int)) l1 = some (.lst (a.map V.int)) := by
      have q1 : upd H l1 (.lst (a.map V.int)) l1 = some (.lst (a.map V.int)) := upd_same
      exact (Same.new n3) _ _ ((Same.new n2) _ _ q1)
    refine ⟨l1, l3, _, _, rfl, rfl, h13, upd_same, by rw [List.length_map, List.length_map, List.length_replicate, sizeLine_eq]; omega, fun l4 n4 => ?_⟩
    rw [← List.map_append]
    generalize hH4 : upd (upd (upd (upd H l1 (.lst (a.map V.int))) l2 (.lst [V.int 0])) l3 (.lst ((List.replicate (max a.length b.length - a.length) (0 : Int)).map V.int))) l4 (.lst ((a ++ List.replicate (max a.length b.length - a.length) 0).map V.int)) = H4
    have s4 : Same H H4 := hH4 ▸ s3.trans (Same.new n4)
    have hf : H4 l4 = some (.lst ((ER.padF a (max a.length b.length)).map V.int)) := by rw [← hH4]; exact upd_same
    clear hH4 h13 s3 s2 s1 n1 n2 n3 n4
    -- second
    refine ⟨_, rfl, ub, _, rfl, .inr (Same.tup s4 hb), fun m1 n1 => ?_⟩
    refine ⟨by show 1 ≤ sizeLine; decide, fun m2 n2 => ?_⟩
    have s1 := Same.new (o := .lst (b.map V.int)) n1
    have s2 := s1.trans (Same.new (o := .lst [V.int 0]) n2)
    refine ⟨_, rfl, _, rfl, ub, _, rfl, .inr (Same.tup s2 (Same.tup s4 hb)), _, _, rfl, rfl, ?_⟩
    rw [List.length_map]
    have e2 : (((max a.length b.length : Nat) : Int) - (b.length : Int)).toNat = max a.length b.length - b.length := by omega
    refine ⟨m2, _, _, rfl, rfl, upd_same, by omega, by omega, by rw [e2, sizeLine_eq]; simp only [List.length_cons, List.length_nil]; omega, fun m3 n3 => ?_⟩
    rw [e2, flat0]
    have s3 := s2.trans (Same.new (o := .lst ((List.replicate (max a.length b.length - b.length) (0 : Int)).map V.int)) n3)
    have h13 : upd (upd (upd H4 m1 (.lst (b.map V.int))) m2 (.lst [V.int 0])) m3 (.lst ((List.replicate (max a.length b.length - b.length) (0 : Int)).map V.int)) m1 = some (.lst (b.map V.int)) := by
      have q1 : upd H4 m1 (.lst (b.map V.int)) m1 = some (.lst (b.map V.int)) := upd_same
      exact (Same.new n3) _ _ ((Same.new n2) _ _ q1)
    refine ⟨m1, m3, _, _, rfl, rfl, h13, upd_same, by rw [List.length_map, List.length_map, List.length_replicate, sizeLine_eq]; omega, fun m4 n4 => ?_⟩
    rw [← List.map_append]
    generalize hH5 : upd (upd (upd (upd H4 m1 (.lst (b.map V.int))) m2 (.lst [V.int 0])) m3 (.lst ((List.replicate (max a.length b.length - b.length) (0 : Int)).map V.int))) m4 (.lst ((b ++ List.replicate (max a.length b.length - b.length) 0).map V.int)) = H5
    have s5 : Same H4 H5 := hH5 ▸ s3.trans (Same.new n4)
    have hg : H5 m4 = some (.lst ((ER.padF b (max a.length b.length)).map V.int)) := by rw [← hH5]; exact upd_same
    clear hH5 h13 s3 s2 s1 n1 n2 n3 n4
    have hf5 := s5 _ _ hf
    have la : (ER.padF a (max a.length b.length)).length = max a.length b.length := by unfold ER.padF; simp only [List.length_append, List.length_replicate]; omega
    have lb : (ER.padF b (max a.length b.length)).length = max a.length b.length := by unfold ER.padF; simp only [List.length_append, List.length_replicate]; omega
    -- the sums
    refine ⟨_, rfl, _, rfl, l4, m4, _, _, rfl, .inl ⟨SqL.of hf5, SqL.of hg, fun D nD => ?_⟩⟩
    refine lc_int (walk_zip (n := max a.length b.length) (by rw [List.length_map, List.length_map, la, lb, Nat.min_self])) (fun H1 s1 => ⟨SqL.of (s1 _ _ hf5), SqL.of (s1 _ _ hg)⟩) (fun _ => true) (fun i => V.int ((cf (ER.padF a (max a.length b.length)) i + cf (ER.padF b (max a.length b.length)) i) % p)) (by rw [sizeLine_eq]; omega) nD ?_ ?_
    · rintro i x H1 H2 post postN hi s1 ⟨t, x, y, rfl, nt, rfl, hx, hy⟩ k1 k2
      obtain ⟨rfl, _⟩ := map_get hx
      obtain ⟨rfl, _⟩ := map_get hy
      refine ⟨t, _, rfl, SqT.of upd_same, rfl, _, _, rfl, _, _, rfl, rfl, rfl, ?_⟩
      refine ⟨_, rfl, _, rfl, _, _, rfl, rfl, _, rfl, _, _, rfl, rfl, pp, ?_⟩
      exact k1 _ (Same.new nt) rfl
    · intro H1 s1 hD
      have e := zip_eq p (ER.padF a (max a.length b.length)) (ER.padF b (max a.length b.length)) (by rw [la, lb])
      rw [la] at e
      rw [e] at hD
      refine ⟨D, _, rfl, SqL.of hD, by rw [List.length_zipWith, la, lb]; omega, fun v H2 s2 ht => k v H2 (s4.trans (s5.trans (s1.trans s2))) ht⟩
end
end EV
end
section
set_option Elab.async false
set_option linter.all false
set_option maxRecDepth 100000
set_option maxHeartbeats 4000000
namespace EV
open PySem PySem.Spec PyProof.Rows L2
open ER (cf Bd Row P3)
section
variable {P : Program} {w : World} {K : PySem.W.Frag} {mg : Str → Option Value} {base : Heap}
theorem drop_cf {r : List Int} {i : Nat} (h : i < r.length) : r.drop i = cf r i :: r.drop (i + 1) := by
  rw [List.drop_eq_getElem_cons h, ER.cf_lt h]
theorem Same.put {H H' : Hp} {a : Addr} {o : HO} (s : Same H H') (n : H a = none) : Same H (upd H' a o) := fun b u e => by
  rw [upd_ne (ne_of_none e n)]; exact s _ _ e
def sp_timesed (K : PySem.W.Frag) : Sp := fun vs H Q _ => ∃ (p : Int) (v u : V) (a b : List Int), vs = [.int p, v, u] ∧ TI K H v a ∧ TI K H u b ∧ P3 p ∧ Bd p a ∧ a.length ≤ 400 ∧ b.length ≤ 400 ∧ ∀ v H', Same H H' → TI K H' v (ER.timesF p a b) → Q v H'
theorem ok_timesed (T : TX K mg w) (c_trimmed : C8.Cal P w K mg base 1 "trimmed" (sp_trimmed K) []) : C8.Cal P w K mg base 2 "timesed" (sp_timesed K) [] := by
  refine T.cal (d := d_timesed) 13 12 rfl rfl (S := sc_timesed) (fun _ _ _ _ _ _ us hl => match us, hl with | [_, _, _], _ => rfl) (fun vs H Q E h => ?_) (fun cdv A outer s H vs Q E hr h => ?_)
  · obtain ⟨p, v, u, a, b, rfl, _⟩ := h; rfl
  · obtain ⟨p, v, u, a, b, rfl, ⟨va, rfl, ha⟩, ⟨ub, rfl, hb⟩, hp, hba, hla, hlb, k⟩ := h
    have pp := hp.pos
    have p5 := hp.le
    refine ⟨_, (pss_cons (ps_set (i := 3) sc_timesed.nd rfl (by first | exact Or.inl rfl | exact Or.inr rfl) (pe_op op_rep (pe_lst (pa_cons pe_int pa_nil)) (pe_op op_add (pe_callB call_len_seq (by rfl) (T.fr 4 rfl) (by decide +kernel) (pa_cons (pv 1) pa_nil)) (pe_callB call_len_seq (by rfl) (T.fr 4 rfl) (by decide +kernel) (pa_cons (pv 2) pa_nil)))))
    (pss_cons (ps_for PassesOwn.never rfl (pi_enumT (by rfl) (T.fr 12 rfl) (pa_cons (pv 1) pa_nil)) (pg_tup rfl (pgs_cons (pg_name (i := 4) sc_timesed.nd rfl (by first | exact Or.inl rfl | exact Or.inr rfl)) (pgs_cons (pg_name (i := 5) sc_timesed.nd rfl (by first | exact Or.inl rfl | exact Or.inr rfl)) pgs_nil))) (pss_one (ps_for PassesOwn.never rfl (pi_enumT (by rfl) (T.fr 12 rfl) (pa_cons (pv 2) pa_nil)) (pg_tup rfl (pgs_cons (pg_name (i := 6) sc_timesed.nd rfl (by first | exact Or.inl rfl | exact Or.inr rfl)) (pgs_cons (pg_name (i := 7) sc_timesed.nd rfl (by first | exact Or.inl rfl | exact Or.inr rfl)) pgs_nil))) (pss_one (ps_asg (pe_op op_mod (pe_op op_add (pe_ix ix_list (pv 3) (pe_op op_add (pv 4) (pv 6)) (fun _ _ => rfl)) (pe_op op_mul (pv 5) (pv 7))) (pv 0)) (pg_sub (pv 3) (pe_op op_add (pv 4) (pv 6)) set_list))))))
    (pss_one (ps_ret (C8.pe_c c_trimmed hr (by decide) (by rfl) (pa_cons (pv 3) pa_nil)))))), ?_⟩
    refine ⟨by show 1 ≤ sizeLine; decide, fun l1 n1 => ?_⟩
    have s1 := Same.new (o := .lst [V.int 0]) n1
    refine ⟨_, rfl, va, _, rfl, .inr (Same.tup s1 ha), _, rfl, ub, _, rfl, .inr (Same.tup s1 hb), _, _, rfl, rfl, ?_⟩
    rw [List.length_map, List.length_map]
    have e1 : ((a.length : Int) + (b.length : Int)).toNat = a.length + b.length := by omega
    refine ⟨l1, _, _, rfl, rfl, upd_same, by omega, by omega, by rw [e1, sizeLine_eq]; simp only [List.length_cons, List.length_nil]; omega, fun F nF => ?_⟩
    rw [e1, flat0]
    have nF0 : H F = none := s1.free nF
    have s2 := s1.trans (Same.new (o := .lst ((List.replicate (a.length + b.length) (0 : Int)).map V.int)) nF)
    refine ⟨_, rfl, va, _, rfl, Same.tup s2 ha, ?_⟩
    refine for_it walk_enumT (fun i σ H' => ∃ (c4 c5 c6 c7 : Option V) (g : List Int), σ = [some (.int p), some (.ref va), some (.ref ub), some (.ref F), c4, c5, c6, c7] ∧ Same H H' ∧ H' F = some (.lst (g.map V.int)) ∧ g.length = a.length + b.length ∧
      ER.foldI (fun f i x => ER.addAt p i x f b) g i (a.drop i) = ER.foldI (fun f i x => ER.addAt p i x f b) (List.replicate (a.length + b.length) 0) 0 a)
      ⟨none, none, none, none, _, rfl, s2, upd_same, by simp, rfl⟩ (fun i σ H' _ ⟨_, _, _, _, _, _, s, _⟩ => Same.tup s ha) ?_ ?_
    · rintro i x σ H1 H2 hi ⟨c4, c5, c6, c7, g, rfl, s3, hF, hgl, hg⟩ ⟨t, x, y, rfl, nt, rfl, hx, hy⟩
      rw [List.length_map] at hi
      cases hx
      obtain ⟨rfl, _⟩ := map_get hy
      have hxi := hba.cf pp i
      have s4 := s3.trans (Same.new (o := .tup [V.int (i : Int), V.int (cf a i)]) nt)
      have hF4 : upd H1 t (.tup [V.int (i : Int), V.int (cf a i)]) F = some (.lst (g.map V.int)) := Same.new nt _ _ hF
      have hT : upd H1 t (.tup [V.int (i : Int), V.int (cf a i)]) t = some (.tup [V.int (i : Int), V.int (cf a i)]) := upd_same
      generalize upd H1 t (.tup [V.int (i : Int), V.int (cf a i)]) = H4 at s4 hF4 hT
      rw [drop_cf hi] at hg
      refine ⟨t, _, rfl, SqT.of hT, rfl, _, _, rfl, _, _, rfl, rfl, ?_⟩
      refine ⟨_, rfl, ub, _, rfl, Same.tup s4 hb, ?_⟩
      refine for_it walk_enumT (fun j σ H' => ∃ (d6 d7 : Option V) (g' : List Int), σ = [some (.int p), some (.ref va), some (.ref ub), some (.ref F), some (.int (i : Int)), some (.int (cf a i)), d6, d7] ∧ Same H H' ∧ H' F = some (.lst (g'.map V.int)) ∧ g'.length = a.length + b.length ∧
        ER.foldI (fun f j x => f.set (i + j) ((cf f (i + j) + cf a i * x) % p)) g' j (b.drop j) = ER.addAt p i (cf a i) g b)
        ⟨c6, c7, g, rfl, s4, hF4, hgl, rfl⟩ (fun i σ H' _ ⟨_, _, _, _, s, _⟩ => Same.tup s hb) ?_ ?_
      · rintro j x σ H1 H2 hj ⟨d6, d7, g', rfl, s5, hF5, hgl5, hg5⟩ ⟨t2, x2, y2, rfl, nt2, rfl, hx2, hy2⟩
        rw [List.length_map] at hj
        cases hx2
        obtain ⟨rfl, _⟩ := map_get hy2
        have s6 := s5.trans (Same.new (o := .tup [V.int (j : Int), V.int (cf b j)]) nt2)
        have hF6 : upd H1 t2 (.tup [V.int (j : Int), V.int (cf b j)]) F = some (.lst (g'.map V.int)) := Same.new nt2 _ _ hF5
        have hT2 : upd H1 t2 (.tup [V.int (j : Int), V.int (cf b j)]) t2 = some (.tup [V.int (j : Int), V.int (cf b j)]) := upd_same
        generalize upd H1 t2 (.tup [V.int (j : Int), V.int (cf b j)]) = H6 at s6 hF6 hT2
        rw [drop_cf hj] at hg5
        refine ⟨t2, _, rfl, SqT.of hT2, rfl, _, _, rfl, _, _, rfl, rfl, ?_⟩
        refine ⟨_, rfl, _, rfl, _, rfl, _, _, rfl, rfl, F, _, _, _, rfl, rfl, SqL.of hF6, at_int (by omega) (by omega), ?_⟩
        refine ⟨_, rfl, _, rfl, _, _, rfl, rfl, .inl (by omega), _, _, rfl, rfl, _, rfl, _, _, rfl, rfl, pp, ?_⟩
        refine ⟨_, rfl, _, rfl, _, rfl, _, _, rfl, rfl, F, _, _, i + j, rfl, rfl, hF6, ixN_nat (by omega) (by rw [List.length_map]; omega), ?_⟩
        have e2 : ((i : Int) + (j : Int)).toNat = i + j := by omega
        rw [e2, map_set_int]
        exact ⟨_, _, _, rfl, Same.put s6 nF0, upd_same, by rw [List.length_set]; exact hgl5, hg5⟩
      · rintro σ H1 ⟨d6, d7, g', rfl, s5, hF5, hgl5, hg5⟩
        rw [List.length_map, List.drop_length] at hg5
        exact ⟨_, _, _, _, g', rfl, s5, hF5, hgl5, by rw [show g' = ER.addAt p i (cf a i) g b from hg5]; exact hg⟩
    · rintro σ H1 ⟨c4, c5, c6, c7, g, rfl, s3, hF, hgl, hg⟩
      rw [List.length_map, List.drop_length] at hg
      refine ⟨_, rfl, F, g, rfl, SqL.of hF, by omega, fun v H2 s4 ht => k v H2 (s3.trans s4) ?_⟩
      rw [show g = _ from hg] at ht
      exact ht
end
end EV
end
section
set_option Elab.async false
set_option linter.all false
set_option maxRecDepth 100000
set_option maxHeartbeats 4000000
namespace EV
open PySem PySem.Spec PyProof.Rows L2
open ER (cf Bd Row P3)
section
variable {P : Program} {w : World} {K : PySem.W.Frag} {mg : Str → Option Value} {base : Heap}
def sp_divided (K : PySem.W.Frag) : Sp := fun vs H Q _ => ∃ (p : Int) (v u : V) (a b : List Int), vs = [.int p, v, u] ∧ TI K H v a ∧ TI K H u b ∧ P3 p ∧ Bd p a ∧ Row p b ∧ b ≠ [] ∧ a.length ≤ 800 ∧ b.length ≤ 400 ∧
  ∀ t q r H', Same H H' → SqT K H' t [q, r] → TI K H' q (ER.divF p a b).1 → TI K H' r (ER.divF p a b).2 → Q (.ref t) H'
theorem ok_divided (T : TX K mg w) (c_trimmed : C8.Cal P w K mg base 1 "trimmed" (sp_trimmed K) []) (c_inverse : C8.Cal P w K mg base 1 "inverse" (sp_inverse K) []) : C8.Cal P w K mg base 2 "divided" (sp_divided K) [] := by
  refine T.cal (d := d_divided) 14 13 rfl rfl (S := sc_divided) (fun _ _ _ _ _ _ us hl => match us, hl with | [_, _, _], _ => rfl) (fun vs H Q E h => ?_) (fun cdv A outer s H vs Q E hr h => ?_)
  · obtain ⟨p, v, u, a, b, rfl, _⟩ := h; rfl
  · obtain ⟨p, v, u, a, b, rfl, ⟨va, rfl, ha⟩, ⟨ub, rfl, hb⟩, hp, hba, hrow, hne, hla, hlb, k⟩ := h
    have pp := hp.pos
    have p5 := hp.le
    have bl : 0 < b.length := List.length_pos_iff.mpr hne
    obtain ⟨h0, h1⟩ := hrow.lastpos pp hne
    refine ⟨_, (pss_cons (ps_set (i := 3) sc_divided.nd rfl (by first | exact Or.inl rfl | exact Or.inr rfl) (pe_callTy call_list_of (by rfl) (T.fr 10 rfl) (by decide +kernel) (pa_cons (pv 1) pa_nil)))
    (pss_cons (ps_set (i := 4) sc_divided.nd rfl (by first | exact Or.inl rfl | exact Or.inr rfl) (C8.pe_c c_inverse hr (by decide) (by rfl) (pa_cons (pv 0) (pa_cons (pe_ix ix_tup (pv 2) (pe_un un_neg pe_int) (fun _ _ => rfl)) pa_nil))))
    (pss_cons (ps_set (i := 5) sc_divided.nd rfl (by first | exact Or.inl rfl | exact Or.inr rfl) (pe_op op_rep (pe_lst (pa_cons pe_int pa_nil)) (pe_callB (call_max2 rfl) (by rfl) (T.fr 9 rfl) (by decide +kernel) (pa_cons pe_int (pa_cons (pe_op op_add (pe_op op_sub (pe_callB call_len_seq (by rfl) (T.fr 4 rfl) (by decide +kernel) (pa_cons (pv 1) pa_nil)) (pe_callB call_len_seq (by rfl) (T.fr 4 rfl) (by decide +kernel) (pa_cons (pv 2) pa_nil))) pe_int) pa_nil)))))
    (pss_cons (ps_for PassesOwn.never rfl (pi_range3 rfl (T.fr 11 rfl) (pa_cons (pe_op op_sub (pe_callB call_len_seq (by rfl) (T.fr 4 rfl) (by decide +kernel) (pa_cons (pv 5) pa_nil)) pe_int) (pa_cons (pe_un un_neg pe_int) (pa_cons (pe_un un_neg pe_int) pa_nil)))) (pg_name (i := 6) sc_divided.nd rfl (by first | exact Or.inl rfl | exact Or.inr rfl)) (pss_cons (ps_asg (pe_op op_mod (pe_op op_mul (pe_ix ix_list (pv 3) (pe_op op_sub (pe_op op_add (pv 6) (pe_callB call_len_seq (by rfl) (T.fr 4 rfl) (by decide +kernel) (pa_cons (pv 2) pa_nil))) pe_int) (fun _ _ => rfl)) (pv 4)) (pv 0)) (pg_sub (pv 5) (pv 6) set_list))
    (pss_one (ps_for PassesOwn.never rfl (pi_enumT (by rfl) (T.fr 12 rfl) (pa_cons (pv 2) pa_nil)) (pg_tup rfl (pgs_cons (pg_name (i := 7) sc_divided.nd rfl (by first | exact Or.inl rfl | exact Or.inr rfl)) (pgs_cons (pg_name (i := 8) sc_divided.nd rfl (by first | exact Or.inl rfl | exact Or.inr rfl)) pgs_nil))) (pss_one (ps_asg (pe_op op_mod (pe_op op_sub (pe_ix ix_list (pv 3) (pe_op op_add (pv 6) (pv 7)) (fun _ _ => rfl)) (pe_op op_mul (pe_ix ix_list (pv 5) (pv 6) (fun _ _ => rfl)) (pv 8))) (pv 0)) (pg_sub (pv 3) (pe_op op_add (pv 6) (pv 7)) set_list)))))))
    (pss_one (ps_ret (pe_tup (pa_cons (C8.pe_c c_trimmed hr (by decide) (by rfl) (pa_cons (pv 5) pa_nil)) (pa_cons (C8.pe_c c_trimmed hr (by decide) (by rfl) (pa_cons (pv 3) pa_nil)) pa_nil))))))))), ?_⟩
    refine ⟨_, rfl, va, _, rfl, .inr ha, fun R nR => ?_⟩
    have s1 := Same.new (o := .lst (a.map V.int)) nR
    have hR1 : upd H R (.lst (a.map V.int)) R = some (.lst (a.map V.int)) := upd_same
    generalize upd H R (.lst (a.map V.int)) = H1 at s1 hR1
    refine ⟨_, rfl, _, rfl, _, rfl, _, _, _, _, rfl, rfl, Same.tup s1 hb, at_last hne, p, _, rfl, hp, h0, h1, fun H2 s2 => ?_⟩
    have hR2 := s2 _ _ hR1
    have s12 := s1.trans s2
    obtain ⟨i0, i1, _⟩ := ER.invF_ok hp h0 h1
    refine ⟨by show 1 ≤ sizeLine; decide, fun l1 n1 => ?_⟩
    have s3 := s12.trans (Same.new (o := .lst [V.int 0]) n1)
    have hR3 : upd H2 l1 (.lst [V.int 0]) R = some (.lst (a.map V.int)) := Same.new n1 _ _ hR2
    have hl3 : upd H2 l1 (.lst [V.int 0]) l1 = some (.lst [V.int 0]) := upd_same
    generalize upd H2 l1 (.lst [V.int 0]) = H3 at s3 hR3 hl3
    refine ⟨_, rfl, va, _, rfl, .inr (Same.tup s3 ha), _, rfl, ub, _, rfl, .inr (Same.tup s3 hb), _, _, rfl, rfl, _, _, rfl, rfl, _, _, rfl, ?_⟩
    rw [List.length_map, List.length_map]
    have e1 : (if (a.length : Int) - (b.length : Int) + 1 > 0 then (a.length : Int) - (b.length : Int) + 1 else 0) = ((a.length + 1 - b.length : Nat) : Int) := by
      split <;> omega
    rw [e1]
    refine ⟨l1, _, _, rfl, rfl, hl3, by omega, by omega, by rw [Int.toNat_natCast, sizeLine_eq]; simp only [List.length_cons, List.length_nil]; omega, fun F nF => ?_⟩
    rw [Int.toNat_natCast, flat0]
    have nF0 : H F = none := s3.free nF
    have nR0 : H R = none := nR
    have nFR : F ≠ R := fun e => by rw [e, hR3] at nF; cases nF
    have s4 := s3.trans (Same.new (o := .lst ((List.replicate (a.length + 1 - b.length) (0 : Int)).map V.int)) nF)
    have hR4 : upd H3 F (.lst ((List.replicate (a.length + 1 - b.length) (0 : Int)).map V.int)) R = some (.lst (a.map V.int)) := Same.new nF _ _ hR3
    have hF4 : upd H3 F (.lst ((List.replicate (a.length + 1 - b.length) (0 : Int)).map V.int)) F = some (.lst ((List.replicate (a.length + 1 - b.length) (0 : Int)).map V.int)) := upd_same
    generalize upd H3 F (.lst ((List.replicate (a.length + 1 - b.length) (0 : Int)).map V.int)) = H4 at s4 hR4 hF4
    refine ⟨_, rfl, F, _, rfl, .inl (SqL.of hF4), _, _, rfl, rfl, _, rfl, _, rfl, _, _, _, (a.length + 1 - b.length), rfl, ?_, ?_⟩
    · have q := RgC.neg (i := ((((List.replicate (a.length + 1 - b.length) (0 : Int)).map V.int).length : Nat) : Int) - 1) (j := -1) (by rw [List.length_map, List.length_replicate]; omega) (by rw [List.length_map, List.length_replicate]; omega) (by decide) (by decide)
      have e : (((((List.replicate (a.length + 1 - b.length) (0 : Int)).map V.int).length : Nat) : Int) - 1 - (-1)).toNat = a.length + 1 - b.length := by rw [List.length_map, List.length_replicate]; omega
      rw [e] at q
      exact q
    rw [List.length_map, List.length_replicate]
    refine for_rangeC (fun i σ H' => ∃ (c6 c7 c8 : Option V) (f r : List Int), σ = [some (.int p), some (.ref va), some (.ref ub), some (.ref R), some (.int (ER.invF p (ER.lastF b))), some (.ref F), c6, c7, c8] ∧ Same H H' ∧
        H' F = some (.lst (f.map V.int)) ∧ H' R = some (.lst (r.map V.int)) ∧ f.length = a.length + 1 - b.length ∧ r.length = a.length ∧ Bd p r ∧
        ER.divLoop p (ER.invF p (ER.lastF b)) b (a.length + 1 - b.length - i) f r = ER.divLoop p (ER.invF p (ER.lastF b)) b (a.length + 1 - b.length) (List.replicate (a.length + 1 - b.length) 0) a)
      ⟨none, none, none, _, _, rfl, s4, hF4, hR4, by simp, rfl, hba, rfl⟩ ?_ ?_
    · rintro i σ H5 hi ⟨c6, c7, c8, f, r, rfl, s5, hF5, hR5, hfl, hrl, hbr, hrem⟩
      generalize hN : a.length + 1 - b.length = N at *
      obtain ⟨m, hm⟩ : ∃ m, N - i = m + 1 := ⟨N - i - 1, by omega⟩
      rw [hm] at hrem
      change ER.divLoop p (ER.invF p (ER.lastF b)) b m (f.set m (cf r (m + b.length - 1) * ER.invF p (ER.lastF b) % p)) (ER.subAt p m (cf r (m + b.length - 1) * ER.invF p (ER.lastF b) % p) r b) = _ at hrem
      have em : ((N : Int) - 1 + (i : Nat) * -1) = (m : Int) := by omega
      have cb := hbr.cf pp (m + b.length - 1)
      have cv := ER.bd_mod pp (cf r (m + b.length - 1) * ER.invF p (ER.lastF b))
      rw [em]
      have hat : atI (r.map V.int) ((m : Int) + (((b.map V.int).length : Nat) : Int) - 1) = some (V.int (cf r (m + b.length - 1))) := by
        rw [List.length_map]
        have ei : ((m : Int) + (b.length : Int) - 1).toNat = m + b.length - 1 := by omega
        rw [at_int (by omega) (by omega), ei]
      refine ⟨_, rfl, _, rfl, _, rfl, ub, _, rfl, .inr (Same.tup s5 hb), _, _, rfl, rfl, _, _, rfl, rfl, R, _, _, _, rfl, rfl, SqL.of hR5, hat, ?_⟩
      refine ⟨_, rfl, _, _, rfl, rfl, .inl (by omega), _, rfl, _, _, rfl, rfl, pp, ?_⟩
      dsimp only
      generalize hc : cf r (m + b.length - 1) * ER.invF p (ER.lastF b) % p = c at *
      refine ⟨_, rfl, _, rfl, F, _, _, m, rfl, rfl, hF5, ixN_nat rfl (by rw [List.length_map]; omega), ?_⟩
      rw [map_set_int]
      have s6 := Same.put (o := .lst ((f.set m c).map V.int)) s5 nF0
      have hF6 : upd H5 F (.lst ((f.set m c).map V.int)) F = some (.lst ((f.set m c).map V.int)) := upd_same
      have hR6 : upd H5 F (.lst ((f.set m c).map V.int)) R = some (.lst (r.map V.int)) := by rw [upd_ne nFR.symm]; exact hR5
      generalize upd H5 F (.lst ((f.set m c).map V.int)) = H6 at s6 hF6 hR6
      refine ⟨_, rfl, ub, _, rfl, Same.tup s6 hb, ?_⟩
      refine for_it walk_enumT (fun j σ H' => ∃ (d7 d8 : Option V) (r' : List Int), σ = [some (.int p), some (.ref va), some (.ref ub), some (.ref R), some (.int (ER.invF p (ER.lastF b))), some (.ref F), some (.int (m : Int)), d7, d8] ∧ Same H H' ∧
          H' F = some (.lst ((f.set m c).map V.int)) ∧ H' R = some (.lst (r'.map V.int)) ∧ r'.length = a.length ∧ Bd p r' ∧ ER.foldI (fun r j b => r.set (m + j) ((cf r (m + j) - c * b) % p)) r' j (b.drop j) = ER.subAt p m c r b)
        ⟨c7, c8, r, rfl, s6, hF6, hR6, hrl, hbr, rfl⟩ (fun i σ H' _ ⟨_, _, _, _, s, _⟩ => Same.tup s hb) ?_ ?_
      · rintro j x σ H7 H8 hj ⟨d7, d8, r', rfl, s7, hF7, hR7, hrl7, hbr7, hg7⟩ ⟨t2, x2, y2, rfl, nt2, rfl, hx2, hy2⟩
        rw [List.length_map] at hj
        cases hx2
        obtain ⟨rfl, _⟩ := map_get hy2
        have s8 := s7.trans (Same.new (o := .tup [V.int (j : Int), V.int (cf b j)]) nt2)
        have hF8 : upd H7 t2 (.tup [V.int (j : Int), V.int (cf b j)]) F = some (.lst ((f.set m c).map V.int)) := Same.new nt2 _ _ hF7
        have hR8 : upd H7 t2 (.tup [V.int (j : Int), V.int (cf b j)]) R = some (.lst (r'.map V.int)) := Same.new nt2 _ _ hR7
        have hT2 : upd H7 t2 (.tup [V.int (j : Int), V.int (cf b j)]) t2 = some (.tup [V.int (j : Int), V.int (cf b j)]) := upd_same
        generalize upd H7 t2 (.tup [V.int (j : Int), V.int (cf b j)]) = H8 at s8 hF8 hR8 hT2
        rw [drop_cf hj] at hg7
        have em2 : ((m : Int)).toNat = m := by omega
        have e2 : ((m : Int) + (j : Int)).toNat = m + j := by omega
        refine ⟨t2, _, rfl, SqT.of hT2, rfl, _, _, rfl, _, _, rfl, rfl, ?_⟩
        refine ⟨_, rfl, _, rfl, _, rfl, _, _, rfl, rfl, R, _, _, _, rfl, rfl, SqL.of hR8, at_int (by omega) (by omega), ?_⟩
        refine ⟨_, rfl, _, rfl, F, _, _, _, rfl, rfl, SqL.of hF8, at_int (by omega) (by rw [List.length_set]; omega), ?_⟩
        rw [em2, ER.cf_set (by omega), if_pos rfl, e2]
        refine ⟨_, rfl, _, _, rfl, rfl, .inl (by omega), _, _, rfl, rfl, _, rfl, _, _, rfl, rfl, pp, ?_⟩
        refine ⟨_, rfl, _, rfl, _, rfl, _, _, rfl, rfl, R, _, _, m + j, rfl, rfl, hR8, ixN_nat (by omega) (by rw [List.length_map]; omega), ?_⟩
        rw [map_set_int]
        exact ⟨_, _, _, rfl, Same.put s8 nR0, by rw [upd_ne nFR]; exact hF8, upd_same, by rw [List.length_set]; exact hrl7, hbr7.set (ER.bd_mod pp _), hg7⟩
      · rintro σ H7 ⟨d7, d8, r', rfl, s7, hF7, hR7, hrl7, hbr7, hg7⟩
        rw [List.length_map, List.drop_length] at hg7
        have er : r' = ER.subAt p m c r b := hg7
        refine ⟨_, _, _, f.set m c, r', rfl, s7, hF7, hR7, by rw [List.length_set]; exact hfl, hrl7, hbr7, ?_⟩
        rw [show N - (i + 1) = m by omega, er]
        exact hrem
    · rintro σ H5 ⟨c6, c7, c8, f, r, rfl, s5, hF5, hR5, hfl, hrl, hbr, hrem⟩
      rw [Nat.sub_self] at hrem
      have hfr : (f, r) = ER.divLoop p (ER.invF p (ER.lastF b)) b (a.length + 1 - b.length) (List.replicate (a.length + 1 - b.length) 0) a := hrem
      refine ⟨_, rfl, F, f, rfl, SqL.of hF5, by omega, fun q H6 s6 tq => ?_⟩
      refine ⟨_, rfl, R, r, rfl, SqL.of (s6 _ _ hR5), by omega, fun q2 H7 s7 tr => ?_⟩
      refine ⟨by show 2 ≤ sizeLine; decide, fun t nt => ?_⟩
      have s8 := Same.new (o := .tup [q, q2]) nt
      refine k t q q2 _ (s5.trans (s6.trans (s7.trans s8))) (SqT.of upd_same) ?_ ?_
      · have := (tq.keep (keepT s7)).keep (keepT s8)
        rw [show f = (ER.divLoop p (ER.invF p (ER.lastF b)) b (a.length + 1 - b.length) (List.replicate (a.length + 1 - b.length) 0) a).1 from congrArg Prod.fst hfr] at this
        exact this
      · have := tr.keep (keepT s8)
        rw [show r = (ER.divLoop p (ER.invF p (ER.lastF b)) b (a.length + 1 - b.length) (List.replicate (a.length + 1 - b.length) 0) a).2 from congrArg Prod.snd hfr] at this
        exact this
end
end EV
end
section
set_option Elab.async false
set_option linter.all false
set_option maxRecDepth 100000
set_option maxHeartbeats 4000000
namespace EV
open PySem PySem.Spec PyProof.Rows L2
open ER (cf)
theorem sw_cell {elt : Expr} {gs : List Comprehension} {scope : Scope} {pos py : Pos} {y : Str} {l : Nat} {env : Env} (hy : env.scope.names.lookup y = some .cell) : swapsWith (.ListComp elt gs scope pos) (some (.Name y py)) l env = pure false := by
  have ky : env.kindOf y = some .cell := hy
  unfold swapsWith
  simp only [ky]
  have e : (some NameKind.cell == some NameKind.local) = false := rfl
  rw [e, Bool.and_false, Bool.false_and, Bool.false_and]
/-! ### == of data -/
structure OkD (n : Nat) (d : PyData) : Prop where
  lay : d.canLay0 = true
  dep : d.depth ≤ n
  refl : PyData.eqv d d = true
theorem canLayAll0_of : ∀ {ds : List PyData}, (∀ d ∈ ds, d.canLay0 = true) → PyData.canLayAll0 ds = true
  | [], _ => rfl
  | d :: ds, h => by rw [PyData.canLayAll0, h d (List.mem_cons_self ..), canLayAll0_of fun x hx => h x (List.mem_cons_of_mem _ hx)]; rfl
theorem depthAll_of {n : Nat} : ∀ {ds : List PyData}, (∀ d ∈ ds, d.depth ≤ n) → PyData.depthAll ds ≤ n
  | [], _ => Nat.zero_le _
  | d :: ds, h => by
    rw [PyData.depthAll]
    have h1 := h d (List.mem_cons_self ..)
    have h2 := depthAll_of (ds := ds) fun x hx => h x (List.mem_cons_of_mem _ hx)
    omega
theorem eqvAll_of : ∀ {ds : List PyData}, (∀ d ∈ ds, PyData.eqv d d = true) → PyData.eqvAll ds ds = true
  | [], _ => by rw [PyData.eqvAll]
  | d :: ds, h => by rw [PyData.eqvAll, h d (List.mem_cons_self ..), eqvAll_of fun x hx => h x (List.mem_cons_of_mem _ hx)]; rfl
theorem OkD.int {n : Nat} (i : Int) : OkD n (.int i) := ⟨rfl, by rw [PyData.depth]; exact Nat.zero_le _, by rw [PyData.eqv]; exact beq_self_eq_true i⟩
theorem OkD.str {n : Nat} {x : Str} (h : PyData.strOk x = true) : OkD n (.str x) := ⟨by rw [PyData.canLay0]; exact h, by rw [PyData.depth]; exact Nat.zero_le _, by rw [PyData.eqv]; exact beq_self_eq_true x⟩
theorem OkD.list {n : Nat} {ds : List PyData} (h : ∀ d ∈ ds, OkD n d) : OkD (n + 1) (.list ds) :=
  ⟨by rw [PyData.canLay0]; exact canLayAll0_of fun d hd => (h d hd).lay, by rw [PyData.depth]; exact Nat.succ_le_succ (depthAll_of fun d hd => (h d hd).dep), by rw [PyData.eqv]; exact eqvAll_of fun d hd => (h d hd).refl⟩
theorem OkD.tuple {n : Nat} {ds : List PyData} (h : ∀ d ∈ ds, OkD n d) : OkD (n + 1) (.tuple ds) :=
  ⟨by rw [PyData.canLay0]; exact canLayAll0_of fun d hd => (h d hd).lay, by rw [PyData.depth]; exact Nat.succ_le_succ (depthAll_of fun d hd => (h d hd).dep), by rw [PyData.eqv]; exact eqvAll_of fun d hd => (h d hd).refl⟩
theorem OkD.shaped {n : Nat} {d : PyData} (h : OkD n d) (hn : n ≤ 64 := by decide) : SeqAt.shaped d = true := by
  unfold SeqAt.shaped
  rw [h.lay, Bool.true_and]
  exact decide_eq_true (Nat.le_trans h.dep hn)
def dI (r : List Int) : PyData := .tuple (r.map PyData.int)
def dP (ps : List (Int × Int)) : PyData := .tuple (ps.map fun q => dI [q.1, q.2])
def dB (bs : List (List (Int × Int))) : PyData := .tuple (bs.map dP)
theorem ok_dI (r : List Int) : OkD 1 (dI r) := OkD.tuple fun d hd => by
  obtain ⟨i, _, rfl⟩ := List.mem_map.mp hd
  exact OkD.int i
theorem ok_dP (r : List (Int × Int)) : OkD 2 (dP r) := OkD.tuple fun d hd => by
  obtain ⟨i, _, rfl⟩ := List.mem_map.mp hd
  exact ok_dI _
theorem ok_dN {n : Nat} : OkD (n + 1) (.tuple []) := OkD.tuple fun _ h => by cases h
section
variable {K : PySem.W.Frag} {H : Hp}
theorem dpAll_ints : ∀ r : List Int, DpAll K H (r.map V.int) (r.map PyData.int)
  | [] => .nil
  | i :: r => .cons (.int i) (dpAll_ints r)
theorem dpAll_strs : ∀ r : List Str, DpAll K H (r.map V.str) (r.map PyData.str)
  | [] => .nil
  | i :: r => .cons (.str i) (dpAll_strs r)
theorem dp_I {v : V} {r : List Int} (h : TI K H v r) : Dp K H v (dI r) := by
  obtain ⟨a, rfl, q⟩ := h
  exact .tup q (dpAll_ints r)
theorem dpAll_of {α : Type} {F : V → α → Prop} {f : α → PyData} (hf : ∀ v d, F v d → Dp K H v (f d)) : ∀ {xs : List V} {l : List α}, Paired F xs l → DpAll K H xs (l.map f)
  | _, _, .nil => .nil
  | _, _, .cons r t => .cons (hf _ _ r) (dpAll_of hf t)
theorem dp_P {v : V} {r : List (Int × Int)} (h : TP K H v r) : Dp K H v (dP r) := by
  obtain ⟨a, xs, rfl, q, p⟩ := h
  exact .tup q (dpAll_of (fun v d z => dp_I z) p)
theorem dp_N {a : Addr} (h : H a = some (.tup [])) : Dp K H (.ref a) (.tuple []) := .tup (SqT.of h) .nil
end
theorem eqvN_I (r : List Int) : PyData.eqv (dI r) (.tuple []) = decide (r = []) := by
  cases r with
  | nil => rfl
  | cons a r => unfold dI; rw [PyData.eqv, List.map_cons, PyData.eqvAll]; rfl
theorem eqvN_P (r : List (Int × Int)) : PyData.eqv (dP r) (.tuple []) = decide (r = []) := by
  cases r with
  | nil => rfl
  | cons a r => unfold dP; rw [PyData.eqv, List.map_cons, PyData.eqvAll]; rfl
/-- the tuple of some ints that has been made -/
theorem TI.made {K : PySem.W.Frag} {H : Hp} {p : Addr} {r : List Int} : TI K (upd H p (.tup (r.map V.int))) (.ref p) r := ⟨p, rfl, SqT.of upd_same⟩
theorem TI.nil {K : PySem.W.Frag} {H : Hp} {p : Addr} : TI K (upd H p (.tup [])) (.ref p) [] := ⟨p, rfl, SqT.of upd_same⟩
theorem TI.same {K : PySem.W.Frag} {H H' : Hp} {v : V} {r : List Int} (h : TI K H v r) (s : Same H H') : TI K H' v r := h.keep (keepT s)
theorem TP.same {K : PySem.W.Frag} {H H' : Hp} {v : V} {r : List (Int × Int)} (h : TP K H v r) (s : Same H H') : TP K H' v r := h.keep (keepT s)
theorem TB.same {K : PySem.W.Frag} {H H' : Hp} {v : V} {r : List (List (Int × Int))} (h : TB K H v r) (s : Same H H') : TB K H' v r := h.keep (keepT s)
theorem TPan.same {K : PySem.W.Frag} {H H' : Hp} {v : V} {p : Int} {r : List (List (Int × Int))} (h : TPan K H v p r) (s : Same H H') : TPan K H' v p r := h.keep (keepT s)
end EV
end
section
set_option Elab.async false
set_option linter.all false
set_option maxRecDepth 100000
set_option maxHeartbeats 4000000
namespace EV
open PySem PySem.Spec PyProof.Rows L2
open ER (cf Bd Row P3)
section
variable {P : Program} {w : World} {K : PySem.W.Frag} {mg : Str → Option Value} {base : Heap}
def sp_common_of_two (K : PySem.W.Frag) : Sp := fun vs H Q _ => ∃ (p : Int) (v u : V) (a b : List Int), vs = [.int p, v, u] ∧ TI K H v a ∧ TI K H u b ∧ P3 p ∧ Row p a ∧ Row p b ∧ a.length ≤ 100 ∧ b.length ≤ 100 ∧
  ∀ v H', Same H H' → TI K H' v (ER.commonF p a b) → Q v H'
theorem ok_common_of_two (T : TX K mg w) (c_monic : C8.Cal P w K mg base 3 "monic" (sp_monic K) []) (c_divided : C8.Cal P w K mg base 2 "divided" (sp_divided K) []) : C8.Cal P w K mg base 4 "common_of_two" (sp_common_of_two K) [] := by
  refine T.cal (d := d_common_of_two) 15 14 rfl rfl (S := sc_common_of_two) (fun _ _ _ _ _ _ us hl => match us, hl with | [_, _, _], _ => rfl) (fun vs H Q E h => ?_) (fun cdv A outer s H vs Q E hr h => ?_)
  · obtain ⟨p, v, u, a, b, rfl, _⟩ := h; rfl
  · obtain ⟨p, v, u, a, b, rfl, ha, hb, hp, ra, rb, la, lb, k⟩ := h
    refine ⟨_, (pss_cons (ps_while PassesOwn.never (pt_cmpR (op_neD hr.units) (pv 2) (pe_tup pa_nil) (nomark _)) (pss_one (ps_par (i := 1) (j := 2) rfl sc_common_of_two.nd rfl rfl (by decide) rfl rfl (pa_cons (pv 2) (pa_cons (pe_ix ix_tup (C8.pe_c c_divided hr (by decide) (by rfl) (pa_cons (pv 0) (pa_cons (pv 1) (pa_cons (pv 2) pa_nil)))) pe_int (fun _ _ => rfl)) pa_nil)) (by rfl))))
    (pss_one (ps_ret (pe_ifExp (pt_cmpR (op_neD hr.units) (pv 1) (pe_tup pa_nil) (nomark _)) (C8.pe_c c_monic hr (by decide) (by rfl) (pa_cons (pv 0) (pa_cons (pv 1) pa_nil))) (pe_tup pa_nil))))), ?_⟩
    refine ⟨fun m σ H' => ∃ (v u : V) (c d : List Int), σ = [some (.int p), some v, some u] ∧ Same H H' ∧ TI K H' v c ∧ TI K H' u d ∧ Row p c ∧ Row p d ∧ c.length ≤ 100 ∧ d.length = m ∧ m ≤ 100 ∧ ER.gcdL p d.length c d = ER.gcdL p b.length a b, ⟨b.length, v, u, a, b, rfl, Same.refl _, ha, hb, ra, rb, la, rfl, lb, rfl⟩, ?_⟩
    rintro m σ H1 ⟨v, u, c, d, rfl, s1, hc, hd, rc, rd, lc, rfl, ld, hg⟩
    refine ⟨_, rfl, by show 0 ≤ sizeLine; decide, fun t nt => ?_⟩
    have s2 := Same.new (o := .tup []) nt
    refine ⟨_, _, dp_I (hd.same s2), dp_N upd_same, (ok_dI d).shaped, (ok_dN (n := 0)).shaped, _, rfl, ?_⟩
    generalize upd H1 t (.tup []) = H2 at s2
    rw [eqvN_I]
    by_cases e : d = []
    · subst e
      refine iteN (by simp) ?_
      rw [ER.gcdL_nil] at hg
      refine ⟨_, rfl, by show 0 ≤ sizeLine; decide, fun t nt => ?_⟩
      have s3 := Same.new (o := .tup []) nt
      refine ⟨_, _, dp_I ((hc.same s2).same s3), dp_N upd_same, (ok_dI c).shaped, (ok_dN (n := 0)).shaped, _, rfl, ?_⟩
      rw [eqvN_I]
      have s13 := s1.trans (s2.trans s3)
      by_cases e2 : c = []
      · refine iteN (by simp [e2]) ⟨by show 0 ≤ sizeLine; decide, fun t2 nt2 => ?_⟩
        refine k _ _ (s13.trans (Same.new nt2)) ?_
        have : ER.commonF p a b = [] := by unfold ER.commonF; rw [← hg, if_pos e2]
        rw [this]; exact TI.nil
      · refine iteI (by simp [e2]) ⟨_, rfl, _, rfl, p, v, c, rfl, (hc.same s2).same s3, rc, e2, hp, by omega, fun v' H4 s4 h4 => ?_⟩
        refine k _ _ (s13.trans s4) ?_
        have : ER.commonF p a b = ER.monicF p c := by unfold ER.commonF; rw [← hg, if_neg e2]
        rw [this]; exact h4
    · refine iteI (by simp [e]) ?_
      have hs := ER.divF_short hp (a := c) rd e
      refine ⟨fun σ H' => ∃ (v u : V) (c d2 : List Int), σ = [some (.int p), some v, some u] ∧ Same H H' ∧ TI K H' v c ∧ TI K H' u d2 ∧ Row p c ∧ Row p d2 ∧ c.length ≤ 100 ∧ d2.length < d.length ∧ ER.gcdL p d2.length c d2 = ER.gcdL p b.length a b, fun σ' H' ⟨v, u, c, d2, q1, q2, q3, q4, q5, q6, q7, q8, q9⟩ => ⟨d2.length, q8, v, u, c, d2, q1, q2, q3, q4, q5, q6, q7, rfl, by omega, q9⟩, ?_⟩
      refine ⟨_, rfl, _, rfl, _, rfl, _, rfl, p, v, u, c, d, rfl, hc.same s2, hd.same s2, hp, rc.bd, rd, e, by omega, by omega, fun t q r H3 s3 ht hq hr3 => ?_⟩
      refine ⟨_, _, _, _, rfl, rfl, ht, at1, ?_⟩
      exact ⟨u, r, rfl, u, r, d, _, rfl, s1.trans (s2.trans s3), (hd.same s2).same s3, hr3, rd, (ER.divF_row hp.pos d rc.bd).2, ld, hs, by rw [← ER.gcdL_step hp rc rd e]; exact hg⟩
def LT (K : PySem.W.Frag) (H : Hp) (v : V) (rows : List (List Int)) : Prop := ∃ a xs, v = .ref a ∧ SqL K H a xs ∧ Paired (TI K H) xs rows
def sp_gcd_of (K : PySem.W.Frag) : Sp := fun vs H Q _ => ∃ (p : Int) (a : Addr) (xs : List V) (rows : List (List Int)), vs = [.int p, .ref a] ∧ H a = some (.lst xs) ∧ Paired (TI K H) xs rows ∧ P3 p ∧ (∀ r ∈ rows, Row p r ∧ r.length ≤ 100) ∧
  ∀ v H', Same H H' → TI K H' v (ER.gcdOf p rows) → Q v H'
theorem ok_gcd_of (T : TX K mg w) (c_common_of_two : C8.Cal P w K mg base 4 "common_of_two" (sp_common_of_two K) []) : C8.Cal P w K mg base 5 "gcd_of" (sp_gcd_of K) [] := by
  refine T.cal (d := d_gcd_of) 16 15 rfl rfl (S := sc_gcd_of) (fun _ _ _ _ _ _ us hl => match us, hl with | [_, _], _ => rfl) (fun vs H Q E h => ?_) (fun cdv A outer s H vs Q E hr h => ?_)
  · obtain ⟨p, a, xs, rows, rfl, _⟩ := h; rfl
  · obtain ⟨p, a, xs, rows, rfl, ha, hx, hp, hrow, k⟩ := h
    refine ⟨_, (pss_cons (ps_set (i := 2) sc_gcd_of.nd rfl (by first | exact Or.inl rfl | exact Or.inr rfl) (pe_tup pa_nil))
    (pss_cons (ps_for PassesOwn.never rfl (pi_list (pv 1)) (pg_name (i := 3) sc_gcd_of.nd rfl (by first | exact Or.inl rfl | exact Or.inr rfl)) (pss_one (ps_set (i := 2) sc_gcd_of.nd rfl (by first | exact Or.inl rfl | exact Or.inr rfl) (C8.pe_c c_common_of_two hr (by decide) (by rfl) (pa_cons (pv 0) (pa_cons (pv 2) (pa_cons (pv 3) pa_nil)))))))
    (pss_one (ps_ret (pv 2))))), ?_⟩
    refine ⟨by show 0 ≤ sizeLine; decide, fun t nt => ?_⟩
    have s1 := Same.new (o := .tup []) nt
    have ht : TI K (upd H t (.tup [])) (.ref t) [] := TI.nil
    generalize upd H t (.tup []) = H1 at s1 ht
    refine ⟨_, rfl, a, rfl, ⟨_, SqL.of (s1 _ _ ha)⟩, ?_⟩
    refine for_it walk_list (fun i σ H' => ∃ (f c : Option V) (v : V) (r : List Int), σ = [some (.int p), some (.ref a), some v, c] ∧ Same H H' ∧ TI K H' v r ∧ Row p r ∧ r.length ≤ 100 ∧ (rows.drop i).foldl (ER.commonF p) r = ER.gcdOf p rows)
      ⟨none, none, _, _, rfl, s1, ht, Row.nil, by simp, rfl⟩ (fun i σ H' _ ⟨_, _, _, _, _, s, _⟩ => SqL.of (s _ _ ha)) ?_ ?_
    · rintro i x σ H2 H3 hi ⟨f, c, v, r, rfl, s2, hv, rr, lr, hg⟩ ⟨rfl, hxi⟩
      obtain ⟨row, hr1, hr2⟩ := paired_get hx hxi
      have hm := hrow row (List.mem_of_getElem? hr1)
      obtain ⟨hlt, e⟩ := List.getElem?_eq_some_iff.mp hr1
      rw [List.drop_eq_getElem_cons hlt, e, List.foldl_cons] at hg
      have q := ER.commonF_row hp rr hm.1
      refine ⟨_, rfl, _, rfl, _, rfl, p, v, x, r, row, rfl, hv, hr2.same s2, hp, rr, hm.1, lr, hm.2, fun v' H4 s4 h4 => ?_⟩
      exact ⟨none, _, _, _, rfl, s2.trans s4, h4, q.1, by omega, hg⟩
    · rintro σ H2 ⟨f, c, v, r, rfl, s2, hv, rr, lr, hg⟩
      rw [paired_len hx, List.drop_length] at hg
      exact ⟨_, rfl, k _ _ s2 (hg ▸ hv)⟩
end
end EV
end
section
set_option Elab.async false
set_option linter.all false
set_option maxRecDepth 100000
set_option maxHeartbeats 4000000
namespace EV
open PySem PySem.Spec PyProof.Rows L2
open ER (cf Bd Row P3)
section
variable {P : Program} {w : World} {K : PySem.W.Frag} {mg : Str → Option Value} {base : Heap}
def sp_power_of_x (K : PySem.W.Frag) : Sp := fun vs H Q _ => ∃ (p : Int) (n : Nat) (v : V) (m : List Int), vs = [.int p, .int (n : Int), v] ∧ TI K H v m ∧ P3 p ∧ Row p m ∧ m ≠ [] ∧ m.length ≤ 100 ∧
  ∀ v H', Same H H' → TI K H' v (ER.powF p n m) → Q v H'
theorem bd1 {p : Int} (hp : P3 p) : Bd p [1] := fun x hx => by rw [List.mem_singleton.mp hx]; have := hp.two; omega
theorem bd01 {p : Int} (hp : P3 p) : Bd p [0, 1] := fun x hx => by
  have := hp.two
  simp only [List.mem_cons, List.not_mem_nil, or_false] at hx
  omega
theorem ok_power_of_x (T : TX K mg w) (c_timesed : C8.Cal P w K mg base 2 "timesed" (sp_timesed K) []) (c_divided : C8.Cal P w K mg base 2 "divided" (sp_divided K) []) : C8.Cal P w K mg base 3 "power_of_x" (sp_power_of_x K) [] := by
  refine T.cal (d := d_power_of_x) 17 16 rfl rfl (S := sc_power_of_x) (fun _ _ _ _ _ _ us hl => match us, hl with | [_, _, _], _ => rfl) (fun vs H Q E h => ?_) (fun cdv A outer s H vs Q E hr h => ?_)
  · obtain ⟨p, n, v, m, rfl, _⟩ := h; rfl
  · obtain ⟨p, n, v, m, rfl, hm, hp, rm, ne, lm, k⟩ := h
    refine ⟨_, (pss_cons (ps_set (i := 3) sc_power_of_x.nd rfl (by first | exact Or.inl rfl | exact Or.inr rfl) (pe_ix ix_tup (C8.pe_c c_divided hr (by decide) (by rfl) (pa_cons (pv 0) (pa_cons (pe_tup (pa_cons pe_int pa_nil)) (pa_cons (pv 2) pa_nil)))) pe_int (fun _ _ => rfl)))
    (pss_cons (ps_set (i := 4) sc_power_of_x.nd rfl (by first | exact Or.inl rfl | exact Or.inr rfl) (pe_ix ix_tup (C8.pe_c c_divided hr (by decide) (by rfl) (pa_cons (pv 0) (pa_cons (pe_tup (pa_cons pe_int (pa_cons pe_int pa_nil))) (pa_cons (pv 2) pa_nil)))) pe_int (fun _ _ => rfl)))
    (pss_cons (ps_set (i := 5) sc_power_of_x.nd rfl (by first | exact Or.inl rfl | exact Or.inr rfl) (pv 1))
    (pss_cons (ps_while PassesOwn.never (pt_cmpR op_gt (pv 5) pe_int (nomark _)) (pss_cons (ps_if (pt_cmpR op_eq (pe_op op_andM (pv 5) pe_int) pe_int (nomark _)) (pss_one (ps_set (i := 3) sc_power_of_x.nd rfl (by first | exact Or.inl rfl | exact Or.inr rfl) (pe_ix ix_tup (C8.pe_c c_divided hr (by decide) (by rfl) (pa_cons (pv 0) (pa_cons (C8.pe_c c_timesed hr (by decide) (by rfl) (pa_cons (pv 0) (pa_cons (pv 3) (pa_cons (pv 4) pa_nil)))) (pa_cons (pv 2) pa_nil)))) pe_int (fun _ _ => rfl)))) pss_nil)
    (pss_cons (ps_set (i := 4) sc_power_of_x.nd rfl (by first | exact Or.inl rfl | exact Or.inr rfl) (pe_ix ix_tup (C8.pe_c c_divided hr (by decide) (by rfl) (pa_cons (pv 0) (pa_cons (C8.pe_c c_timesed hr (by decide) (by rfl) (pa_cons (pv 0) (pa_cons (pv 4) (pa_cons (pv 4) pa_nil)))) (pa_cons (pv 2) pa_nil)))) pe_int (fun _ _ => rfl)))
    (pss_one (ps_set (i := 5) sc_power_of_x.nd rfl (by first | exact Or.inl rfl | exact Or.inr rfl) (pe_op op_shr (pv 5) pe_int))))))
    (pss_one (ps_ret (pv 3))))))), ?_⟩
    refine ⟨_, rfl, by show 1 ≤ sizeLine; decide, fun t1 n1 => ?_⟩
    have s1 := Same.new (o := .tup [V.int 1]) n1
    refine ⟨_, rfl, p, _, v, [1], m, rfl, TI.made (r := [1]), hm.same s1, hp, bd1 hp, rm, ne, by simp, by omega, fun t2 q2 f2 H2 s2 ht2 hq2 hf2 => ?_⟩
    refine ⟨_, _, _, _, rfl, rfl, ht2, at1, ?_⟩
    have s12 := s1.trans s2
    refine ⟨_, rfl, by show 2 ≤ sizeLine; decide, fun t3 n3 => ?_⟩
    have s3 := Same.new (o := .tup [V.int 0, V.int 1]) n3
    refine ⟨_, rfl, p, _, v, [0, 1], m, rfl, TI.made (r := [0, 1]), (hm.same s12).same s3, hp, bd01 hp, rm, ne, by simp, by omega, fun t4 q4 f4 H4 s4 ht4 hq4 hf4 => ?_⟩
    refine ⟨_, _, _, _, rfl, rfl, ht4, at1, ?_⟩
    have s34 := s3.trans s4
    have s14 := s12.trans s34
    refine ⟨_, rfl, ?_⟩
    have hf0 := hf2.same s34
    refine ⟨fun l σ H' => ∃ (f s : V) (fr sr : List Int), σ = [some (.int p), some (.int (n : Int)), some v, some f, some s, some (.int (l : Int))] ∧ Same H H' ∧ TI K H' f fr ∧ TI K H' s sr ∧ Row p fr ∧ Row p sr ∧ fr.length < m.length ∧ sr.length < m.length ∧ ER.powL p m l l fr sr = ER.powF p n m,
      ⟨n, f2, f4, _, _, rfl, s14, hf0, hf4, (ER.divF_row hp.pos m (bd1 hp)).2, (ER.divF_row hp.pos m (bd01 hp)).2, ER.divF_short hp rm ne, ER.divF_short hp rm ne, rfl⟩, ?_⟩
    rintro l σ H5 ⟨f, s, fr, sr, rfl, s5, hf, hs, rf, rs, lf, ls, hg⟩
    refine ⟨_, rfl, _, _, rfl, rfl, _, rfl, ?_⟩
    by_cases h0 : l = 0
    · subst h0
      refine iteN (by simp) ⟨_, rfl, k _ _ s5 ?_⟩
      rw [← hg]; exact hf
    · refine iteI (by simp; omega) ?_
      rw [ER.powL_step p m fr sr h0] at hg
      refine ⟨fun σ H' => ∃ (f s : V) (fr sr : List Int), σ = [some (.int p), some (.int (n : Int)), some v, some f, some s, some (.int ((l / 2 : Nat) : Int))] ∧ Same H H' ∧ TI K H' f fr ∧ TI K H' s sr ∧ Row p fr ∧ Row p sr ∧ fr.length < m.length ∧ sr.length < m.length ∧ ER.powL p m (l / 2) (l / 2) fr sr = ER.powF p n m,
        fun σ' H' q => ⟨l / 2, by omega, q⟩, ?_⟩
      refine ⟨_, rfl, _, 1, rfl, rfl, rfl, _, rfl, ?_⟩
      have e2 : (l : Int) % 2 ^ 1 = ((l % 2 : Nat) : Int) := by omega
      rw [e2]
      have e3 : (l : Int) / 2 ^ (1 : Int).toNat = ((l / 2 : Nat) : Int) := by show (l : Int) / 2 ^ 1 = _; omega
      by_cases h1 : l % 2 = 1
      · refine iteI (eqT (by omega)) ?_
        rw [if_pos h1] at hg
        refine ⟨_, rfl, _, rfl, _, rfl, _, rfl, p, f, s, fr, sr, rfl, hf, hs, hp, rf.bd, by omega, by omega, fun g H6 s6 hg6 => ?_⟩
        have rg := ER.timesF_row hp.pos fr sr
        have lg := ER.timesF_len p fr sr
        refine ⟨_, rfl, p, g, v, _, m, rfl, hg6, (hm.same s5).same s6, hp, rg.bd, rm, ne, by omega, by omega, fun t7 q7 f7 H7 s7 ht7 hq7 hf7 => ?_⟩
        refine ⟨_, _, _, _, rfl, rfl, ht7, at1, ?_⟩
        refine ⟨_, rfl, _, rfl, _, rfl, _, rfl, p, s, s, sr, sr, rfl, (hs.same s6).same s7, (hs.same s6).same s7, hp, rs.bd, by omega, by omega, fun g8 H8 s8 hg8 => ?_⟩
        have rg2 := ER.timesF_row hp.pos sr sr
        have lg2 := ER.timesF_len p sr sr
        refine ⟨_, rfl, p, g8, v, _, m, rfl, hg8, ((hm.same s5).same (s6.trans s7)).same s8, hp, rg2.bd, rm, ne, by omega, by omega, fun t9 q9 f9 H9 s9 ht9 hq9 hf9 => ?_⟩
        refine ⟨_, _, _, _, rfl, rfl, ht9, at1, ?_⟩
        refine ⟨_, rfl, _, _, rfl, rfl, by show (0 : Int) ≤ 1; decide, ?_⟩
        refine ⟨f7, f9, _, _, ?_, s5.trans ((s6.trans s7).trans (s8.trans s9)), hf7.same (s8.trans s9), hf9, (ER.divF_row hp.pos m rg.bd).2, (ER.divF_row hp.pos m rg2.bd).2, ER.divF_short hp rm ne, ER.divF_short hp rm ne, hg⟩
        rw [← e3]; rfl
      · refine iteN (eqF (by omega)) ?_
        rw [if_neg h1] at hg
        refine ⟨_, rfl, _, rfl, _, rfl, _, rfl, p, s, s, sr, sr, rfl, hs, hs, hp, rs.bd, by omega, by omega, fun g8 H8 s8 hg8 => ?_⟩
        have rg2 := ER.timesF_row hp.pos sr sr
        have lg2 := ER.timesF_len p sr sr
        refine ⟨_, rfl, p, g8, v, _, m, rfl, hg8, (hm.same s5).same s8, hp, rg2.bd, rm, ne, by omega, by omega, fun t9 q9 f9 H9 s9 ht9 hq9 hf9 => ?_⟩
        refine ⟨_, _, _, _, rfl, rfl, ht9, at1, ?_⟩
        refine ⟨_, rfl, _, _, rfl, rfl, by show (0 : Int) ≤ 1; decide, ?_⟩
        refine ⟨f, f9, _, _, ?_, s5.trans (s8.trans s9), hf.same (s8.trans s9), hf9, rf, (ER.divF_row hp.pos m rg2.bd).2, lf, ER.divF_short hp rm ne, hg⟩
        rw [← e3]; rfl
end
end EV
end
section
set_option Elab.async false
set_option linter.all false
set_option maxRecDepth 100000
set_option maxHeartbeats 4000000
namespace EV
open PySem PySem.Spec PyProof.Rows L2
open ER (cf Bd Row P3 Rule)
section
variable {P : Program} {w : World} {K : PySem.W.Frag} {mg : Str → Option Value} {base : Heap}
theorem paired_at {α β : Type} {F : α → β → Prop} {l : List α} {m : List β} {i : Int} {d : β} (h : Paired F l m) (e : atI m i = some d) : ∃ x, atI l i = some x ∧ F x d := by
  unfold atI at e ⊢
  rw [paired_len h]
  cases h2 : ixN m.length i with
  | none => rw [h2] at e; cases e
  | some j =>
    rw [h2] at e
    exact paired_get2 h e
theorem at_head {b : List (Int × Int)} (h : b ≠ []) : ∃ q, atI b 0 = some q ∧ q.1 = ER.leastF b ∧ q ∈ b := by
  cases b with
  | nil => exact absurd rfl h
  | cons a r => exact ⟨a, at0, rfl, List.mem_cons_self ..⟩
theorem at_tail {b : List (Int × Int)} (h : b ≠ []) : atI b (-1) = some (b.getLastD (0, 0)) := by
  refine at_neg1 ?_
  rw [List.getLastD_eq_getLast?, List.getLast?_eq_getElem?]
  have := List.length_pos_iff.mpr h
  rw [List.getElem?_eq_getElem (by omega)]; rfl
def sp_of_rule (K : PySem.W.Frag) : Sp := fun vs H Q _ => ∃ (p : Int) (v : V) (b : List (Int × Int)), vs = [v] ∧ TP K H v b ∧ P3 p ∧ Rule p b ∧
  ∀ t q H', Same H H' → SqT K H' t [.int (ER.leastF b), q] → TI K H' q (ER.ruleRow b) → Q (.ref t) H'
theorem ok_of_rule (T : TX K mg w)  : C8.Cal P w K mg base 1 "of_rule" (sp_of_rule K) [] := by
  refine T.cal (d := d_of_rule) 18 17 rfl rfl (S := sc_of_rule) (fun _ _ _ _ _ _ us hl => match us, hl with | [_], _ => rfl) (fun vs H Q E h => ?_) (fun cdv A outer s H vs Q E hr h => ?_)
  · obtain ⟨p, v, b, rfl, _⟩ := h; rfl
  · obtain ⟨p, v, b, rfl, hb, hp, R, k⟩ := h
    have hb0 := hb
    obtain ⟨a, xs, rfl, hs, pr⟩ := hb
    obtain ⟨q0, e0, e0', m0⟩ := at_head R.ne
    have o0 := R.off q0 m0
    obtain ⟨x0, ax0, a0, rfl, t0⟩ := paired_at pr e0
    obtain ⟨x1, ax1, a1, rfl, t1⟩ := paired_at pr (at_tail R.ne)
    obtain ⟨l, el, hl, hq⟩ := R.ends
    have lq := hq l hl
    have o1 := R.off l hl
    have rl := R.row hp
    have hlen := ER.ruleRow_len b
    rw [el] at hlen t1
    refine ⟨_, (pss_cons (ps_set (i := 1) sc_of_rule.nd rfl (by first | exact Or.inl rfl | exact Or.inr rfl) (pe_ix ix_tup (pe_ix ix_tup (pv 0) pe_int (fun _ _ => rfl)) pe_int (fun _ _ => rfl)))
    (pss_cons (ps_set (i := 2) sc_of_rule.nd rfl (by first | exact Or.inl rfl | exact Or.inr rfl) (pe_op op_rep (pe_lst (pa_cons pe_int pa_nil)) (pe_op op_add (pe_op op_sub (pe_ix ix_tup (pe_ix ix_tup (pv 0) (pe_un un_neg pe_int) (fun _ _ => rfl)) pe_int (fun _ _ => rfl)) (pv 1)) pe_int)))
    (pss_cons (ps_for PassesOwn.never rfl (pi_tup (pv 0)) (pg_tup rfl (pgs_cons (pg_name (i := 3) sc_of_rule.nd rfl (by first | exact Or.inl rfl | exact Or.inr rfl)) (pgs_cons (pg_name (i := 4) sc_of_rule.nd rfl (by first | exact Or.inl rfl | exact Or.inr rfl)) pgs_nil))) (pss_one (ps_asg (pv 4) (pg_sub (pv 2) (pe_op op_sub (pv 3) (pv 1)) set_list))))
    (pss_one (ps_ret (pe_tup (pa_cons (pv 1) (pa_cons (pe_callTy call_tuple_of (by rfl) (T.fr 2 rfl) (by decide +kernel) (pa_cons (pv 2) pa_nil)) pa_nil)))))))), ?_⟩
    refine ⟨_, rfl, a, _, _, _, rfl, rfl, hs, ax0, _, _, _, _, rfl, rfl, t0, at0, ?_⟩
    refine ⟨by show 1 ≤ sizeLine; decide, fun l1 n1 => ?_⟩
    have s1 := Same.new (o := .lst [V.int 0]) n1
    have hl1 : upd H l1 (.lst [V.int 0]) l1 = some (.lst [V.int 0]) := upd_same
    generalize upd H l1 (.lst [V.int 0]) = H1 at s1 hl1
    refine ⟨_, rfl, _, rfl, a, _, _, _, rfl, rfl, Same.tup s1 hs, ax1, _, _, _, _, rfl, rfl, Same.tup s1 t1, at0, _, rfl, _, _, rfl, rfl, _, _, rfl, rfl, ?_⟩
    rw [e0']
    refine ⟨l1, _, _, rfl, rfl, hl1, by omega, by omega, by rw [sizeLine_eq]; simp only [List.length_cons, List.length_nil]; omega, fun F nF => ?_⟩
    rw [flat0, ← hlen]
    have nF0 : H F = none := s1.free nF
    have s2 := s1.trans (Same.new (o := .lst ((List.replicate (ER.ruleRow b).length (0 : Int)).map V.int)) nF)
    have hF2 : upd H1 F (.lst ((List.replicate (ER.ruleRow b).length (0 : Int)).map V.int)) F = some (.lst ((List.replicate (ER.ruleRow b).length (0 : Int)).map V.int)) := upd_same
    generalize upd H1 F (.lst ((List.replicate (ER.ruleRow b).length (0 : Int)).map V.int)) = H2 at s2 hF2
    refine ⟨_, rfl, a, rfl, ⟨_, Same.tup s2 hs⟩, ?_⟩
    refine for_it walk_tup (fun i σ H' => ∃ (c3 c4 : Option V) (f : List Int), σ = [some (.ref a), some (.int (ER.leastF b)), some (.ref F), c3, c4] ∧ Same H H' ∧ H' F = some (.lst (f.map V.int)) ∧ f.length = (ER.ruleRow b).length ∧ ER.setAll (ER.leastF b) (b.drop i) f = ER.ruleRow b)
      ⟨none, none, _, rfl, s2, hF2, by simp, by rw [hlen]; unfold ER.ruleRow; rw [el]; rfl⟩ (fun i σ H' _ ⟨_, _, _, _, s, _⟩ => Same.tup s hs) ?_ ?_
    · rintro i x σ H3 H4 hi ⟨c3, c4, f, rfl, s3, hF3, lf, hg⟩ ⟨rfl, hxi⟩
      obtain ⟨q, hq1, ta, rfl, hq2⟩ := paired_get pr hxi
      obtain ⟨hlt, e⟩ := List.getElem?_eq_some_iff.mp hq1
      have hm := hq q (List.mem_of_getElem? hq1)
      rw [List.drop_eq_getElem_cons hlt, e] at hg
      refine ⟨ta, _, rfl, Same.tup s3 hq2, rfl, _, _, rfl, _, _, rfl, rfl, ?_⟩
      refine ⟨_, rfl, _, rfl, _, rfl, _, rfl, _, _, rfl, rfl, F, _, _, (q.1 - ER.leastF b).toNat, rfl, rfl, hF3, ixN_nat (by omega) (by rw [List.length_map]; omega), ?_⟩
      rw [map_set_int]
      exact ⟨_, _, _, rfl, Same.put s3 nF0, upd_same, by rw [List.length_set]; exact lf, hg⟩
    · rintro σ H3 ⟨c3, c4, f, rfl, s3, hF3, lf, hg⟩
      rw [paired_len pr, List.drop_length] at hg
      have hg' : f = ER.ruleRow b := hg
      subst hg'
      refine ⟨_, rfl, _, rfl, F, _, rfl, .inl ⟨SqL.of hF3, fun q nq => ?_⟩⟩
      have s4 := s3.trans (Same.new (o := .tup ((ER.ruleRow b).map V.int)) nq)
      refine ⟨by show 2 ≤ sizeLine; decide, fun t nt => ?_⟩
      have s5 := Same.new (o := .tup [V.int (ER.leastF b), .ref q]) nt
      exact k t (.ref q) _ (s4.trans s5) (SqT.of upd_same) (TI.made.same s5)
end
end EV
end
section
set_option Elab.async false
set_option linter.all false
set_option maxRecDepth 100000
set_option maxHeartbeats 4000000
namespace EV
open PySem PySem.Spec PyProof.Rows L2
open ER (cf Bd Row P3 Rule Pan)
section
variable {P : Program} {w : World} {K : PySem.W.Frag} {mg : Str → Option Value} {base : Heap}
def sp_core_of (K : PySem.W.Frag) : Sp := fun vs H Q _ => ∃ (p : Int) (v : V) (b : List (Int × Int)), vs = [.int p, v] ∧ TP K H v b ∧ P3 p ∧ Rule p b ∧
  ∀ v H', Same H H' → TI K H' v (ER.coreF p b) → Q v H'
theorem ok_core_of (T : TX K mg w) (c_monic : C8.Cal P w K mg base 3 "monic" (sp_monic K) []) (c_of_rule : C8.Cal P w K mg base 1 "of_rule" (sp_of_rule K) []) : C8.Cal P w K mg base 4 "core_of" (sp_core_of K) [] := by
  refine T.cal (d := d_core_of) 19 18 rfl rfl (S := sc_core_of) (fun _ _ _ _ _ _ us hl => match us, hl with | [_, _], _ => rfl) (fun vs H Q E h => ?_) (fun cdv A outer s H vs Q E hr h => ?_)
  · obtain ⟨p, v, b, rfl, _⟩ := h; rfl
  · obtain ⟨p, v, b, rfl, hb, hp, R, k⟩ := h
    have rr := R.row hp
    refine ⟨_, (pss_one (ps_ret (C8.pe_c c_monic hr (by decide) (by rfl) (pa_cons (pv 0) (pa_cons (pe_ix ix_tup (C8.pe_c c_of_rule hr (by decide) (by rfl) (pa_cons (pv 1) pa_nil)) pe_int (fun _ _ => rfl)) pa_nil))))), ?_⟩
    refine ⟨_, rfl, _, rfl, p, v, b, rfl, hb, hp, R, fun t q H1 s1 ht hq => ?_⟩
    refine ⟨_, _, _, _, rfl, rfl, ht, at1, p, q, _, rfl, hq, rr.1, rr.2.1, hp, by omega, fun v H2 s2 hv => ?_⟩
    exact k _ _ (s1.trans s2) hv
def sp_generator_of (K : PySem.W.Frag) : Sp := fun vs H Q _ => ∃ (p : Int) (v : V) (bs : List (List (Int × Int))), vs = [v] ∧ TPan K H v p bs ∧ Pan p bs ∧
  ∀ v H', Same H H' → TI K H' v (ER.genF p bs) → Q v H'
theorem ok_generator_of (T : TX K mg w) (c_gcd_of : C8.Cal P w K mg base 5 "gcd_of" (sp_gcd_of K) []) (c_core_of : C8.Cal P w K mg base 4 "core_of" (sp_core_of K) []) : C8.Cal P w K mg base 6 "generator_of" (sp_generator_of K) [] := by
  refine T.cal (d := d_generator_of) 26 25 rfl rfl (S := sc_generator_of) (fun _ _ _ _ _ _ us hl => match us, hl with | [_], _ => rfl) (fun vs H Q E h => ?_) (fun cdv A outer s H vs Q E hr h => ?_)
  · obtain ⟨p, v, bs, rfl, _⟩ := h; rfl
  · obtain ⟨p, v, bs, rfl, hv, hP, k⟩ := h
    obtain ⟨va, ub, rfl, hs, bb, xs, rfl, hb, pr⟩ := hv
    have hp := hP.hp
    have pl := paired_len pr
    have h3 := hP.len
    refine ⟨_, (pss_one (ps_ret (C8.pe_c c_gcd_of hr (by decide) (by rfl) (pa_cons (pe_ix ix_tup (pv 0) pe_int (fun _ _ => rfl)) (pa_cons (pe_lc (own := [("button", 1)]) (g := (gName 1)) rfl sc_generator_of.nd (pi_tup (pe_ix ix_tup (pv 0) pe_int (fun _ _ => rfl))) (blkOk_by (own := [("button", 1)]) (N := n_generator_of) (sc := defScope s_generator_of) (by decide +kernel)) (fun _ _ _ _ _ => (pg_name (i := 1) sc_generator_of.nd rfl (by first | exact Or.inl rfl | exact Or.inr rfl))) (fun _ _ _ _ _ => pts_nil) (fun _ _ _ _ _ => (C8.pe_c c_core_of hr (by decide) (by rfl) (pa_cons (pe_ix (show IxR _ (rIxT K) from ix_tup) (pv 0) pe_int (fun _ _ => rfl)) (pa_cons (pv 1) pa_nil))))) pa_nil))))), ?_⟩
    refine ⟨_, rfl, va, _, _, _, rfl, rfl, hs, at0, ?_⟩
    refine ⟨_, rfl, va, _, _, _, rfl, rfl, hs, at1, bb, rfl, ⟨_, hb⟩, fun D nD => ?_⟩
    refine lc_gen (TI K) (fun _ _ _ _ k h => h.keep k) walk_tup (fun H' s => Same.tup s hb) (fun _ => true) (fun i => ER.coreF p (bs.getD i [])) (by rw [sizeLine_eq]; omega) nD ?_ ?_
    · rintro i x H1 H2 post postN hi s1 ⟨rfl, hxi⟩ k1 k2
      obtain ⟨b, hb1, hb2⟩ := paired_get pr hxi
      obtain ⟨hlt, e⟩ := List.getElem?_eq_some_iff.mp hb1
      have hR := hP.rule b (List.mem_of_getElem? hb1)
      refine ⟨rfl, _, rfl, va, _, _, _, rfl, rfl, Same.tup s1 hs, at0, _, rfl, p, x, b, rfl, hb2.same s1, hp, hR, fun v H3 s3 hv => ?_⟩
      refine k1 _ _ s3 rfl ?_
      have e2 : bs.getD i [] = b := by rw [List.getD_eq_getElem?_getD, hb1]; rfl
      rw [e2]; exact hv
    · intro H1 acc s1 hD pa
      have er : ((List.range xs.length).filter fun _ => true).map (fun i => ER.coreF p (bs.getD i [])) = bs.map (ER.coreF p) := by
        rw [pl]
        refine all_range bs _ _ fun i hi => ?_
        rw [List.getD_eq_getElem?_getD, List.getElem?_eq_getElem hi]; rfl
      rw [er] at pa
      refine ⟨p, D, acc, _, rfl, hD, pa, hp, fun r hr => ?_, fun v H2 s2 hv => k _ _ (s1.trans s2) hv⟩
      obtain ⟨b, hb1, rfl⟩ := List.mem_map.mp hr
      have q := ER.coreF_row hp (hP.rule b hb1)
      exact ⟨q.1, by omega⟩
def sp_divisor_on (K : PySem.W.Frag) : Sp := fun vs H Q _ => ∃ (p : Int) (v : V) (bs : List (List (Int × Int))) (n : Nat), vs = [v, .int (n : Int)] ∧ TPan K H v p bs ∧ Pan p bs ∧
  ∀ v H', Same H H' → TI K H' v (ER.divOnF p bs n) → Q v H'
theorem ok_divisor_on (T : TX K mg w) (c_added : C8.Cal P w K mg base 2 "added" (sp_added K) []) (c_divided : C8.Cal P w K mg base 2 "divided" (sp_divided K) []) (c_gcd_of : C8.Cal P w K mg base 5 "gcd_of" (sp_gcd_of K) []) (c_power_of_x : C8.Cal P w K mg base 3 "power_of_x" (sp_power_of_x K) []) (c_generator_of : C8.Cal P w K mg base 6 "generator_of" (sp_generator_of K) []) : C8.Cal P w K mg base 7 "divisor_on" (sp_divisor_on K) [] := by
  refine T.cal (d := d_divisor_on) 27 26 rfl rfl (S := sc_divisor_on) (fun _ _ _ _ _ _ us hl => match us, hl with | [_, _], _ => rfl) (fun vs H Q E h => ?_) (fun cdv A outer s H vs Q E hr h => ?_)
  · obtain ⟨p, v, bs, n, rfl, _⟩ := h; rfl
  · obtain ⟨p, v, bs, n, rfl, hv, hP, k⟩ := h
    have hv0 := hv
    obtain ⟨va, ub, rfl, hs, hb⟩ := hv
    have hp := hP.hp
    obtain ⟨g1, g2, g3⟩ := hP.gen
    refine ⟨_, (pss_cons (ps_set (i := 2) sc_divisor_on.nd rfl (by first | exact Or.inl rfl | exact Or.inr rfl) (C8.pe_c c_generator_of hr (by decide) (by rfl) (pa_cons (pv 0) pa_nil)))
    (pss_cons (ps_set (i := 3) sc_divisor_on.nd rfl (by first | exact Or.inl rfl | exact Or.inr rfl) (C8.pe_c c_added hr (by decide) (by rfl) (pa_cons (pe_ix ix_tup (pv 0) pe_int (fun _ _ => rfl)) (pa_cons (C8.pe_c c_power_of_x hr (by decide) (by rfl) (pa_cons (pe_ix ix_tup (pv 0) pe_int (fun _ _ => rfl)) (pa_cons (pv 1) (pa_cons (pv 2) pa_nil)))) (pa_cons (pe_tup (pa_cons (pe_op op_sub (pe_ix ix_tup (pv 0) pe_int (fun _ _ => rfl)) pe_int) pa_nil)) pa_nil)))))
    (pss_one (ps_ret (C8.pe_c c_gcd_of hr (by decide) (by rfl) (pa_cons (pe_ix ix_tup (pv 0) pe_int (fun _ _ => rfl)) (pa_cons (pe_lst (pa_cons (pv 2) (pa_cons (pe_ix ix_tup (C8.pe_c c_divided hr (by decide) (by rfl) (pa_cons (pe_ix ix_tup (pv 0) pe_int (fun _ _ => rfl)) (pa_cons (pv 3) (pa_cons (pv 2) pa_nil)))) pe_int (fun _ _ => rfl)) pa_nil))) pa_nil))))))), ?_⟩
    refine ⟨_, rfl, p, _, bs, rfl, hv0, hP, fun g H1 s1 hg => ?_⟩
    refine ⟨_, rfl, va, _, _, _, rfl, rfl, Same.tup s1 hs, at0, _, rfl, va, _, _, _, rfl, rfl, Same.tup s1 hs, at0, _, rfl, _, rfl, p, n, g, _, rfl, hg, hp, g1, g3, by omega, fun q H2 s2 hq => ?_⟩
    have s12 := s1.trans s2
    refine ⟨_, rfl, va, _, _, _, rfl, rfl, Same.tup s12 hs, at0, _, _, rfl, rfl, by show 1 ≤ sizeLine; decide, fun t nt => ?_⟩
    have s3 := Same.new (o := .tup [V.int (p - 1)]) nt
    have hpw := ER.powF_row hp g1 g3 n
    refine ⟨p, q, _, _, [p - 1], rfl, hq.same s3, TI.made (r := [p - 1]), hp, by omega, by simp, fun a H4 s4 ha => ?_⟩
    have s14 := s12.trans (s3.trans s4)
    have ra := ER.addedF_row hp.pos (ER.powF p n (ER.genF p bs)) [p - 1]
    have la := ER.addedF_len p (ER.powF p n (ER.genF p bs)) [p - 1]
    refine ⟨_, rfl, va, _, _, _, rfl, rfl, Same.tup s14 hs, at0, _, rfl, _, rfl, va, _, _, _, rfl, rfl, Same.tup s14 hs, at0, _, rfl, _, rfl, p, a, g, _, _, rfl, ha, hg.same (s2.trans (s3.trans s4)), hp, ra.bd, g1, g3, by simp only [List.length_cons, List.length_nil] at la; omega, by omega, fun t5 q5 r5 H5 s5 ht5 hq5 hr5 => ?_⟩
    refine ⟨_, _, _, _, rfl, rfl, ht5, at1, by show 2 ≤ sizeLine; decide, fun L nL => ?_⟩
    have s6 := Same.new (o := .lst [g, r5]) nL
    have hd := ER.divF_short hp (a := ER.addedF p (ER.powF p n (ER.genF p bs)) [p - 1]) g1 g3
    refine ⟨p, L, _, [ER.genF p bs, _], rfl, upd_same, .cons (hg.same ((s2.trans (s3.trans s4)).trans (s5.trans s6))) (.cons (hr5.same s6) .nil), hp, fun r hr => ?_, fun v H7 s7 hv => k _ _ (s14.trans (s5.trans (s6.trans s7))) hv⟩
    simp only [List.mem_cons, List.not_mem_nil, or_false] at hr
    rcases hr with rfl | rfl
    · exact ⟨g1, by omega⟩
    · exact ⟨(ER.divF_row hp.pos _ ra.bd).2, by omega⟩
def sp_rest_of (K : PySem.W.Frag) : Sp := fun vs H Q _ => ∃ (p : Int) (v u : V) (pic : List (Int × Int)) (d : List Int), vs = [.int p, v, u] ∧ TP K H v pic ∧ TI K H u d ∧ P3 p ∧ Row p d ∧ d ≠ [] ∧ d.length ≤ 9 ∧ (∀ q ∈ pic, 0 ≤ q.1 ∧ 0 < q.2 ∧ q.2 < p) ∧
  ∀ v H', Same H H' → TI K H' v (ER.restF p pic d) → Q v H'
theorem ok_rest_of (T : TX K mg w) (c_scaled : C8.Cal P w K mg base 2 "scaled" (sp_scaled K) []) (c_added : C8.Cal P w K mg base 2 "added" (sp_added K) []) (c_power_of_x : C8.Cal P w K mg base 3 "power_of_x" (sp_power_of_x K) []) : C8.Cal P w K mg base 4 "rest_of" (sp_rest_of K) [] := by
  refine T.cal (d := d_rest_of) 28 27 rfl rfl (S := sc_rest_of) (fun _ _ _ _ _ _ us hl => match us, hl with | [_, _, _], _ => rfl) (fun vs H Q E h => ?_) (fun cdv A outer s H vs Q E hr h => ?_)
  · obtain ⟨p, v, u, pic, d, rfl, _⟩ := h; rfl
  · obtain ⟨p, v, u, pic, d, rfl, hv, hd, hp, rd, ne, ld, hq, k⟩ := h
    obtain ⟨a, xs, rfl, hs, pr⟩ := hv
    refine ⟨_, (pss_cons (ps_set (i := 3) sc_rest_of.nd rfl (by first | exact Or.inl rfl | exact Or.inr rfl) (pe_tup pa_nil))
    (pss_cons (ps_for PassesOwn.never rfl (pi_tup (pv 1)) (pg_tup rfl (pgs_cons (pg_name (i := 4) sc_rest_of.nd rfl (by first | exact Or.inl rfl | exact Or.inr rfl)) (pgs_cons (pg_name (i := 5) sc_rest_of.nd rfl (by first | exact Or.inl rfl | exact Or.inr rfl)) pgs_nil))) (pss_one (ps_set (i := 3) sc_rest_of.nd rfl (by first | exact Or.inl rfl | exact Or.inr rfl) (C8.pe_c c_added hr (by decide) (by rfl) (pa_cons (pv 0) (pa_cons (pv 3) (pa_cons (C8.pe_c c_scaled hr (by decide) (by rfl) (pa_cons (pv 0) (pa_cons (C8.pe_c c_power_of_x hr (by decide) (by rfl) (pa_cons (pv 0) (pa_cons (pv 4) (pa_cons (pv 2) pa_nil)))) (pa_cons (pv 5) pa_nil)))) pa_nil)))))))
    (pss_one (ps_ret (pv 3))))), ?_⟩
    refine ⟨by show 0 ≤ sizeLine; decide, fun t nt => ?_⟩
    have s1 := Same.new (o := .tup []) nt
    have ht : TI K (upd H t (.tup [])) (.ref t) [] := TI.nil
    generalize upd H t (.tup []) = H1 at s1 ht
    refine ⟨_, rfl, a, rfl, ⟨_, Same.tup s1 hs⟩, ?_⟩
    refine for_it walk_tup (fun i σ H' => ∃ (c4 c5 : Option V) (v : V) (r : List Int), σ = [some (.int p), some (.ref a), some u, some v, c4, c5] ∧ Same H H' ∧ TI K H' v r ∧ Bd p r ∧ r.length ≤ 9 ∧
        (pic.drop i).foldl (fun f q => ER.addedF p f (ER.scaledF p (ER.powF p q.1.toNat d) q.2)) r = ER.restF p pic d)
      ⟨none, none, _, [], rfl, s1, ht, Bd.nil, by simp, rfl⟩ (fun i σ H' _ ⟨_, _, _, _, _, s, _⟩ => Same.tup s hs) ?_ ?_
    · rintro i x σ H2 H3 hi ⟨c4, c5, v, r, rfl, s2, hv, br, lr, hg⟩ ⟨rfl, hxi⟩
      obtain ⟨q, hq1, ta, rfl, hq2⟩ := paired_get pr hxi
      obtain ⟨hlt, e⟩ := List.getElem?_eq_some_iff.mp hq1
      have hm := hq q (List.mem_of_getElem? hq1)
      rw [List.drop_eq_getElem_cons hlt, e] at hg
      have hpw := ER.powF_row hp rd ne q.1.toNat
      have e1 : q.1 = ((q.1.toNat : Nat) : Int) := by omega
      refine ⟨ta, _, rfl, Same.tup s2 hq2, rfl, _, _, rfl, _, _, rfl, rfl, ?_⟩
      refine ⟨_, rfl, _, rfl, _, rfl, _, rfl, _, rfl, _, rfl, p, q.1.toNat, u, d, by rw [← e1]; rfl, hd.same s2, hp, rd, ne, by omega, fun y H4 s4 hy => ?_⟩
      refine ⟨_, rfl, p, q.2, y, _, rfl, hy, hpw.1.bd, hp, by omega, fun z H5 s5 hz => ?_⟩
      have lz := ER.scaledF_len p (ER.powF p q.1.toNat d) q.2
      have lw := ER.addedF_len p r (ER.scaledF p (ER.powF p q.1.toNat d) q.2)
      refine ⟨p, v, z, r, _, rfl, hv.same (s4.trans s5), hz, hp, by omega, by omega, fun y6 H6 s6 h6 => ?_⟩
      exact ⟨_, _, y6, _, rfl, s2.trans (s4.trans (s5.trans s6)), h6, (ER.addedF_row hp.pos _ _).bd, by omega, hg⟩
    · rintro σ H2 ⟨c4, c5, v, r, rfl, s2, hv, br, lr, hg⟩
      rw [paired_len pr, List.drop_length] at hg
      have hg' : r = ER.restF p pic d := hg
      exact ⟨_, rfl, k _ _ s2 (hg' ▸ hv)⟩
end
end EV
end
section
set_option Elab.async false
set_option linter.all false
set_option maxRecDepth 100000
set_option maxHeartbeats 4000000
namespace EV
open PySem PySem.Spec PyProof.Rows L2
open ER (cf Bd Row P3 Rule Pan)
section
variable {P : Program} {w : World} {K : PySem.W.Frag} {mg : Str → Option Value} {base : Heap}
theorem all_trues (n : Nat) : (((List.range n).filter fun _ => true).map fun _ => V.bl true) = (List.replicate n true).map V.bl := by
  rw [List.filter_eq_self.mpr (fun _ _ => rfl), List.map_const', List.length_range, List.map_replicate]
theorem all_rep (n : Nat) : (List.replicate n true).all id = true := by
  rw [List.all_eq_true]; intro x hx; rw [List.eq_of_mem_replicate hx]; rfl
/-- xs[1:] -/
theorem cut_from1 (xs : List V) : cutV xs (some (1 : Int)) none = xs.drop 1 := by
  unfold cutV
  rw [HT.sIx_none, show (1 : Int) = ((1 : Nat) : Int) from rfl, HT.sIx_nat]
  by_cases h : xs.length = 0
  · have : xs = [] := List.length_eq_zero_iff.mp h
    subst this; rfl
  · rw [Nat.min_eq_left (by omega)]
    exact List.take_of_length_le (by rw [List.length_drop]; exact Nat.le_refl _)
theorem tail_slice {H : Hp} {a : Addr} {xs : List V} {Q : VK} (h : SqT K H a xs) (k : ∀ b H1, Same H H1 → SqT K H1 b (xs.drop 1) → Q (.ref b) H1) : rSlA K (.ref a) (some (1 : Int)) none H Q := by
  refine ⟨a, xs, rfl, h, fun e => ?_, fun _ p np => ?_⟩
  · rw [show (1 : Int) = ((1 : Nat) : Int) from rfl, HT.sIx_nat] at e
    have hx : xs = [] := List.length_eq_zero_iff.mp (by omega)
    refine k a H (Same.refl _) ?_
    rw [hx] at h ⊢
    exact h
  · rw [cut_from1]
    exact k p _ (Same.new np) (SqT.of upd_same)
theorem asc_at {ps : List (Int × Int)} (h : ps.Pairwise fun x y => x.1 < y.1) {i : Nat} {x y : Int × Int} (h1 : ps[i]? = some x) (h2 : ps[i + 1]? = some y) : x.1 < y.1 := by
  obtain ⟨l1, e1⟩ := List.getElem?_eq_some_iff.mp h1
  obtain ⟨l2, e2⟩ := List.getElem?_eq_some_iff.mp h2
  have := List.pairwise_iff_getElem.mp h i (i + 1) l1 l2 (by omega)
  rw [e1, e2] at this; exact this
def sp_is_pair (K : PySem.W.Frag) : Sp := fun vs H Q _ => ∃ (p : Int) (v : V) (x y : Int), vs = [.int p, v] ∧ TI K H v [x, y] ∧ 0 < y ∧ y < p ∧ Q (.bl true) H
theorem ok_is_pair (T : TX K mg w) (c_is_number : C8.Cal P w K mg base 1 "is_number" (sp_is_number K) []) (c_is_whole : C8.Cal P w K mg base 2 "is_whole" (sp_is_whole K) []) : C8.Cal P w K mg base 3 "is_pair" (sp_is_pair K) [] := by
  refine T.cal (d := d_is_pair) 4 3 rfl rfl (S := sc_is_pair) (fun _ _ _ _ _ _ us hl => match us, hl with | [_, _], _ => rfl) (fun vs H Q E h => ?_) (fun cdv A outer s H vs Q E hr h => ?_)
  · obtain ⟨p, v, x, y, rfl, _⟩ := h; rfl
  · obtain ⟨p, v, x, y, rfl, ⟨a, rfl, hs⟩, h1, h2, k⟩ := h
    refine ⟨_, (pss_one (ps_ret (pe_and (pe_callB call_isi (by rfl) (T.fr 5 rfl) (by decide +kernel) (pa_cons (pv 1) (pa_cons (pe_bltn (v := .ty "tuple") (u := .type "tuple") (by rfl) (T.fr 2 rfl) (by decide +kernel) rfl) pa_nil))) (pe_and (pe_cmpR op_eq (pe_callB call_len_seq (by rfl) (T.fr 4 rfl) (by decide +kernel) (pa_cons (pv 1) pa_nil)) pe_int (nomark _)) (pe_and (C8.pe_c c_is_number hr (by decide) (by rfl) (pa_cons (pe_ix ix_tup (pv 1) pe_int (fun _ _ => rfl)) pa_nil)) (pe_one (C8.pe_c c_is_whole hr (by decide) (by rfl) (pa_cons (pe_ix ix_tup (pv 1) pe_int (fun _ _ => rfl)) (pa_cons pe_int (pa_cons (pe_op op_sub (pv 0) pe_int) pa_nil)))))))))), ?_⟩
    refine ⟨_, rfl, _, _, .type "tuple", .type "tuple", true, rfl, .ty _, tyT hs, kit_ty (by decide +kernel), _, rfl, iteT ?_⟩
    refine ⟨_, rfl, a, _, rfl, .inr hs, rfl, _, rfl, iteI (eqT rfl) ?_⟩
    refine ⟨_, rfl, a, _, _, _, rfl, rfl, hs, at0, x, rfl, _, rfl, iteT ?_⟩
    refine ⟨_, rfl, a, _, _, _, rfl, rfl, hs, at1, _, rfl, _, _, rfl, rfl, y, _, _, rfl, ?_⟩
    rw [decide_eq_true (⟨by omega, by omega⟩ : 1 ≤ y ∧ y ≤ p - 1)]
    exact k
def sp_fits_rule (K : PySem.W.Frag) : Sp := fun vs H Q _ => ∃ (p : Int) (v : V) (b : List (Int × Int)), vs = [.int p, v] ∧ TP K H v b ∧ b.length ≤ 20 ∧ (∀ q ∈ b, 0 < q.2 ∧ q.2 < p) ∧ b.Pairwise (fun x y => x.1 < y.1) ∧ ∀ H', Same H H' → Q (.bl true) H'
theorem ok_fits_rule (T : TX K mg w) (c_is_pair : C8.Cal P w K mg base 3 "is_pair" (sp_is_pair K) []) : C8.Cal P w K mg base 4 "fits_rule" (sp_fits_rule K) [] := by
  refine T.cal (d := d_fits_rule) 5 4 rfl rfl (S := sc_fits_rule) (fun _ _ _ _ _ _ us hl => match us, hl with | [_, _], _ => rfl) (fun vs H Q E h => ?_) (fun cdv A outer s H vs Q E hr h => ?_)
  · obtain ⟨p, v, b, rfl, _⟩ := h; rfl
  · obtain ⟨p, v, b, rfl, ⟨a, xs, rfl, hs, pr⟩, lb, hq, asc, k⟩ := h
    have pl := paired_len pr
    refine ⟨_, (pss_cons (ps_if (PW.pt (pw_or (pt_not (pt_val (pe_callB call_isi (by rfl) (T.fr 5 rfl) (by decide +kernel) (pa_cons (pv 1) (pa_cons (pe_bltn (v := .ty "tuple") (u := .type "tuple") (by rfl) (T.fr 2 rfl) (by decide +kernel) rfl) pa_nil))))) (pw_or1 (pt_not (pt_val (pe_callB (cr_all rfl) (by rfl) (T.fr 6 rfl) (by decide +kernel) (pa_cons (pe_lc (own := [("part", 2)]) (g := (gName 2)) rfl sc_fits_rule.nd (pi_tup (pv 1)) (blkOk_by (own := [("part", 2)]) (N := n_fits_rule) (sc := defScope s_fits_rule) (by decide +kernel)) (fun _ _ _ _ _ => (pg_name (i := 2) sc_fits_rule.nd rfl (by first | exact Or.inl rfl | exact Or.inr rfl))) (fun _ _ _ _ _ => pts_nil) (fun _ _ _ _ _ => (C8.pe_c c_is_pair hr (by decide) (by rfl) (pa_cons (pv 0) (pa_cons (pv 2) pa_nil))))) pa_nil))))))) (pss_one (ps_ret pe_bl)) pss_nil)
    (pss_one (ps_ret (pe_callB (cr_all rfl) (by rfl) (T.fr 6 rfl) (by decide +kernel) (pa_cons (pe_lc (own := [("here", 3), ("there", 4)]) (g := (gTup K 2 (gCons (gName 3) (gCons (gName 4) gNil)))) rfl sc_fits_rule.nd (RZ.pi_zipA (by rfl) (T.fr 13 rfl) (pa_cons (pv 1) (pa_cons (pe_slice sl_tupA (pv 1) (po_some pe_int) po_none) pa_nil))) (blkOk_by (own := [("here", 3), ("there", 4)]) (N := n_fits_rule) (sc := defScope s_fits_rule) (by decide +kernel)) (fun _ _ _ _ _ => (pg_tup rfl (pgs_cons (pg_name (i := 3) sc_fits_rule.nd rfl (by first | exact Or.inl rfl | exact Or.inr rfl)) (pgs_cons (pg_name (i := 4) sc_fits_rule.nd rfl (by first | exact Or.inl rfl | exact Or.inr rfl)) pgs_nil)))) (fun _ _ _ _ _ => pts_nil) (fun _ _ _ _ _ => (pe_cmpR op_lt (pe_ix (show IxR _ (rIxT K) from ix_tup) (pv 3) pe_int (fun _ _ => rfl)) (pe_ix (show IxR _ (rIxT K) from ix_tup) (pv 4) pe_int (fun _ _ => rfl)) (nomark _)))) pa_nil))))), ?_⟩
    refine ⟨_, rfl, _, _, .type "tuple", .type "tuple", true, rfl, .ty _, tyT hs, kit_ty (by decide +kernel), _, rfl, iteN (by decide) ?_⟩
    refine ⟨_, rfl, a, rfl, ⟨_, hs⟩, fun D nD => ?_⟩
    refine lc_int walk_tup (fun H' s => Same.tup s hs) (fun _ => true) (fun _ => .bl true) (by rw [sizeLine_eq]; omega) nD ?_ ?_
    · rintro i x H1 H2 post postN hi s1 ⟨rfl, hxi⟩ k1 k2
      obtain ⟨q, hq1, hq2⟩ := paired_get pr hxi
      have hm := hq q (List.mem_of_getElem? hq1)
      exact ⟨rfl, _, rfl, _, rfl, p, x, q.1, q.2, rfl, hq2.same s1, hm.1, hm.2, k1 _ (Same.refl _) rfl⟩
    · intro H1 s1 hD
      rw [all_trues] at hD
      refine ⟨D, _, rfl, SqL.of hD, _, rfl, iteN (by rw [all_rep]; decide) ?_⟩
      refine ⟨_, rfl, _, rfl, _, rfl, ?_⟩
      dsimp only [tNoPart]
      refine tail_slice (Same.tup s1 hs) fun c H2 s2 hc => ?_
      refine ⟨a, c, _, _, rfl, .inr ⟨Same.tup (s1.trans s2) hs, hc, fun D2 nD2 => ?_⟩⟩
      refine lc_int (walk_zipT (n := xs.length - 1) (by rw [List.length_drop]; omega)) (fun H' s => ⟨Same.tup ((s1.trans s2).trans s) hs, Same.tup s hc⟩) (fun _ => true) (fun _ => .bl true) (by rw [sizeLine_eq]; omega) nD2 ?_ ?_
      · rintro i x H3 H4 post postN hi s3 ⟨t, x1, y1, rfl, nt, rfl, hx1, hy1⟩ k1 k2
        obtain ⟨q1, hq1, a1, rfl, t1⟩ := paired_get pr hx1
        dsimp only at hy1
        rw [List.getElem?_drop, Nat.add_comm] at hy1
        obtain ⟨q2, hq2, a2, rfl, t2⟩ := paired_get pr hy1
        have s4 := Same.new (o := .tup [.ref a1, .ref a2]) nt
        have s14 := (s1.trans (s2.trans s3)).trans s4
        refine ⟨t, _, rfl, SqT.of upd_same, rfl, _, _, rfl, _, _, rfl, rfl, rfl, ?_⟩
        refine ⟨_, rfl, a1, _, _, _, rfl, rfl, Same.tup s14 t1, at0, _, rfl, a2, _, _, _, rfl, rfl, Same.tup s14 t2, at0, _, _, rfl, rfl, ?_⟩
        dsimp only
        rw [decide_eq_true (asc_at asc hq1 hq2)]
        exact k1 _ s4 rfl
      · intro H3 s3 hD3
        rw [all_trues] at hD3
        refine ⟨D2, _, rfl, SqL.of hD3, ?_⟩
        rw [all_rep]
        exact k _ (s1.trans (s2.trans s3))
def sp_fits_panel (K : PySem.W.Frag) : Sp := fun vs H Q _ => ∃ (p : Int) (v : V) (bs : List (List (Int × Int))), vs = [v] ∧ TPan K H v p bs ∧ Pan p bs ∧ ∀ H', Same H H' → Q (.bl true) H'
theorem isP_of {p : Int} (h : P3 p) : isP p = true := decide_eq_true h
theorem Rule.len {p : Int} {b : List (Int × Int)} (R : Rule p b) : b.length ≤ 20 := by
  have h : ∀ (b : List (Int × Int)) (lo : Int), (∀ q ∈ b, lo ≤ q.1 ∧ q.1 ≤ 4) → b.Pairwise (fun x y => x.1 < y.1) → lo ≤ 5 → (b.length : Int) ≤ 5 - lo := by
    intro b
    induction b with
    | nil => intro lo _ _ h; simp; omega
    | cons a r ih =>
      intro lo h asc _
      obtain ⟨a1, a2⟩ := List.pairwise_cons.mp asc
      have h1 := h a (List.mem_cons_self ..)
      have := ih (a.1 + 1) (fun q hq => ⟨by have := a1 q hq; omega, (h q (List.mem_cons_of_mem _ hq)).2⟩) a2 (by omega)
      rw [List.length_cons]
      omega
  have := h b (-4) R.off R.asc (by decide)
  omega
theorem ok_fits_panel (T : TX K mg w) (c_is_prime : C8.Cal P w K mg base 2 "is_prime" (sp_is_prime K) []) (c_fits_rule : C8.Cal P w K mg base 4 "fits_rule" (sp_fits_rule K) []) : C8.Cal P w K mg base 5 "fits_panel" (sp_fits_panel K) [] := by
  refine T.cal (d := d_fits_panel) 20 19 rfl rfl (S := sc_fits_panel) (fun _ _ _ _ _ _ us hl => match us, hl with | [_], _ => rfl) (fun vs H Q E h => ?_) (fun cdv A outer s H vs Q E hr h => ?_)
  · obtain ⟨p, v, bs, rfl, _⟩ := h; rfl
  · obtain ⟨p, v, bs, rfl, ⟨va, ub, rfl, hs, bb, xs, rfl, hb, pr⟩, hP, k⟩ := h
    have hp := hP.hp
    have pl := paired_len pr
    have h3 := hP.len
    have hne : xs.length ≠ 0 := by rw [pl]; exact fun e => hP.ne (List.length_eq_zero_iff.mp e)
    refine ⟨_, (pss_cons (ps_if (PW.pt (pw_or (pt_not (pt_val (pe_callB call_isi (by rfl) (T.fr 5 rfl) (by decide +kernel) (pa_cons (pv 0) (pa_cons (pe_bltn (v := .ty "tuple") (u := .type "tuple") (by rfl) (T.fr 2 rfl) (by decide +kernel) rfl) pa_nil))))) (pw_or (pt_cmpR op_ne (pe_callB call_len_seq (by rfl) (T.fr 4 rfl) (by decide +kernel) (pa_cons (pv 0) pa_nil)) pe_int (nomark _)) (pw_or1 (pt_not (pt_val (C8.pe_c c_is_prime hr (by decide) (by rfl) (pa_cons (pe_ix ix_tup (pv 0) pe_int (fun _ _ => rfl)) pa_nil)))))))) (pss_one (ps_ret pe_bl)) pss_nil)
    (pss_cons (ps_if (PW.pt (pw_or (pt_not (pt_val (pe_callB call_isi (by rfl) (T.fr 5 rfl) (by decide +kernel) (pa_cons (pe_ix ix_tup (pv 0) pe_int (fun _ _ => rfl)) (pa_cons (pe_bltn (v := .ty "tuple") (u := .type "tuple") (by rfl) (T.fr 2 rfl) (by decide +kernel) rfl) pa_nil))))) (pw_or1 (pt_cmpR op_eq (pe_callB call_len_seq (by rfl) (T.fr 4 rfl) (by decide +kernel) (pa_cons (pe_ix ix_tup (pv 0) pe_int (fun _ _ => rfl)) pa_nil)) pe_int (nomark _))))) (pss_one (ps_ret pe_bl)) pss_nil)
    (pss_one (ps_ret (pe_callB (cr_all rfl) (by rfl) (T.fr 6 rfl) (by decide +kernel) (pa_cons (pe_lc (own := [("button", 1)]) (g := (gName 1)) rfl sc_fits_panel.nd (pi_tup (pe_ix ix_tup (pv 0) pe_int (fun _ _ => rfl))) (blkOk_by (own := [("button", 1)]) (N := n_fits_panel) (sc := defScope s_fits_panel) (by decide +kernel)) (fun _ _ _ _ _ => (pg_name (i := 1) sc_fits_panel.nd rfl (by first | exact Or.inl rfl | exact Or.inr rfl))) (fun _ _ _ _ _ => pts_nil) (fun _ _ _ _ _ => (pe_and (C8.pe_c c_fits_rule hr (by decide) (by rfl) (pa_cons (pe_ix (show IxR _ (rIxT K) from ix_tup) (pv 0) pe_int (fun _ _ => rfl)) (pa_cons (pv 1) pa_nil))) (pe_one (pe_cmpR op_gt (pe_callB (show CallR _ (.builtin "len") (rLenS K) from call_len_seq) (by rfl) (T.fr 4 rfl) (by decide +kernel) (pa_cons (pv 1) pa_nil)) pe_int (nomark _)))))) pa_nil)))))), ?_⟩
    refine ⟨_, rfl, _, _, .type "tuple", .type "tuple", true, rfl, .ty _, tyT hs, kit_ty (by decide +kernel), _, rfl, iteN (by decide) ?_⟩
    refine ⟨_, rfl, va, _, rfl, .inr hs, rfl, _, rfl, iteN (neF rfl) ?_⟩
    refine ⟨_, rfl, va, _, _, _, rfl, rfl, hs, at0, p, rfl, _, rfl, iteN (by rw [isP_of hp]; decide) ?_⟩
    refine ⟨_, rfl, va, _, _, _, rfl, rfl, hs, at1, _, _, .type "tuple", .type "tuple", true, rfl, .ty _, tyT hb, kit_ty (by decide +kernel), _, rfl, iteN (by decide) ?_⟩
    refine ⟨_, rfl, va, _, _, _, rfl, rfl, hs, at1, bb, _, rfl, .inr hb, rfl, _, rfl, iteN (eqF (by omega)) ?_⟩
    refine ⟨_, rfl, va, _, _, _, rfl, rfl, hs, at1, bb, rfl, ⟨_, hb⟩, fun D nD => ?_⟩
    refine lc_int walk_tup (fun H' s => Same.tup s hb) (fun _ => true) (fun _ => .bl true) (by rw [sizeLine_eq]; omega) nD ?_ ?_
    · rintro i x H1 H2 post postN hi s1 ⟨rfl, hxi⟩ k1 k2
      obtain ⟨b, hb1, hb2⟩ := paired_get pr hxi
      have hR := hP.rule b (List.mem_of_getElem? hb1)
      refine ⟨rfl, _, rfl, va, _, _, _, rfl, rfl, Same.tup s1 hs, at0, _, rfl, p, x, b, rfl, hb2.same s1, Rule.len hR, hR.amt, hR.asc, fun H3 s3 => ?_⟩
      obtain ⟨ya, ys, rfl, hys, pr2⟩ := hb2.same (s1.trans s3)
      have l2 := paired_len pr2
      have l3 : b.length ≠ 0 := fun e => hR.ne (List.length_eq_zero_iff.mp e)
      refine ⟨_, rfl, iteT ?_⟩
      refine ⟨_, rfl, ya, _, rfl, .inr hys, _, _, rfl, rfl, ?_⟩
      dsimp only
      rw [decide_eq_true (show ((0 : Int) < (ys.length : Int)) by omega)]
      exact k1 _ s3 rfl
    · intro H1 s1 hD
      rw [all_trues] at hD
      refine ⟨D, _, rfl, SqL.of hD, ?_⟩
      rw [all_rep]
      exact k _ s1
structure Pic (p : Int) (n : Nat) (ps : List (Int × Int)) : Prop where
  asc : ps.Pairwise fun x y => x.1 < y.1
  lo : ∀ q ∈ ps, 0 ≤ q.1 ∧ q.1 < n
  col : ∀ q ∈ ps, 0 < q.2 ∧ q.2 < p
theorem Pic.len {p : Int} {n : Nat} {ps : List (Int × Int)} (h : Pic p n ps) : ps.length ≤ n := by
  have h2 : ∀ (b : List (Int × Int)) (lo : Int), (∀ q ∈ b, lo ≤ q.1 ∧ q.1 < n) → b.Pairwise (fun x y => x.1 < y.1) → lo ≤ n → (b.length : Int) ≤ n - lo := by
    intro b
    induction b with
    | nil => intro lo _ _ h; simp; omega
    | cons a r ih =>
      intro lo h asc _
      obtain ⟨a1, a2⟩ := List.pairwise_cons.mp asc
      have h1 := h a (List.mem_cons_self ..)
      have := ih (a.1 + 1) (fun q hq => ⟨by have := a1 q hq; omega, (h q (List.mem_cons_of_mem _ hq)).2⟩) a2 (by omega)
      rw [List.length_cons]
      omega
  have := h2 ps 0 h.lo h.asc (by omega)
  omega
def sp_is_lamp (K : PySem.W.Frag) : Sp := fun vs H Q _ => ∃ (p n : Int) (v : V) (x y : Int), vs = [.int p, .int n, v] ∧ TI K H v [x, y] ∧ 0 ≤ x ∧ x < n ∧ 0 < y ∧ y < p ∧ Q (.bl true) H
theorem ok_is_lamp (T : TX K mg w) (c_is_whole : C8.Cal P w K mg base 2 "is_whole" (sp_is_whole K) []) : C8.Cal P w K mg base 3 "is_lamp" (sp_is_lamp K) [] := by
  refine T.cal (d := d_is_lamp) 21 20 rfl rfl (S := sc_is_lamp) (fun _ _ _ _ _ _ us hl => match us, hl with | [_, _, _], _ => rfl) (fun vs H Q E h => ?_) (fun cdv A outer s H vs Q E hr h => ?_)
  · obtain ⟨p, n, v, x, y, rfl, _⟩ := h; rfl
  · obtain ⟨p, n, v, x, y, rfl, ⟨a, rfl, hs⟩, h3, h4, h1, h2, k⟩ := h
    refine ⟨_, (pss_cons (ps_if (PW.pt (pw_or (pt_not (pt_val (pe_callB call_isi (by rfl) (T.fr 5 rfl) (by decide +kernel) (pa_cons (pv 2) (pa_cons (pe_bltn (v := .ty "tuple") (u := .type "tuple") (by rfl) (T.fr 2 rfl) (by decide +kernel) rfl) pa_nil))))) (pw_or1 (pt_cmpR op_ne (pe_callB call_len_seq (by rfl) (T.fr 4 rfl) (by decide +kernel) (pa_cons (pv 2) pa_nil)) pe_int (nomark _))))) (pss_one (ps_ret pe_bl)) pss_nil)
    (pss_one (ps_ret (pe_and (C8.pe_c c_is_whole hr (by decide) (by rfl) (pa_cons (pe_ix ix_tup (pv 2) pe_int (fun _ _ => rfl)) (pa_cons pe_int (pa_cons (pe_op op_sub (pv 1) pe_int) pa_nil)))) (pe_one (C8.pe_c c_is_whole hr (by decide) (by rfl) (pa_cons (pe_ix ix_tup (pv 2) pe_int (fun _ _ => rfl)) (pa_cons pe_int (pa_cons (pe_op op_sub (pv 0) pe_int) pa_nil))))))))), ?_⟩
    refine ⟨_, rfl, _, _, .type "tuple", .type "tuple", true, rfl, .ty _, tyT hs, kit_ty (by decide +kernel), _, rfl, iteN (by decide) ?_⟩
    refine ⟨_, rfl, a, _, rfl, .inr hs, rfl, _, rfl, iteN (neF rfl) ?_⟩
    refine ⟨_, rfl, a, _, _, _, rfl, rfl, hs, at0, _, rfl, _, _, rfl, rfl, x, _, _, rfl, _, rfl, ?_⟩
    rw [decide_eq_true (⟨by omega, by omega⟩ : 0 ≤ x ∧ x ≤ n - 1)]
    refine iteT ?_
    refine ⟨_, rfl, a, _, _, _, rfl, rfl, hs, at1, _, rfl, _, _, rfl, rfl, y, _, _, rfl, ?_⟩
    rw [decide_eq_true (⟨by omega, by omega⟩ : 1 ≤ y ∧ y ≤ p - 1)]
    exact k
def sp_fits_picture (K : PySem.W.Frag) : Sp := fun vs H Q _ => ∃ (p : Int) (n : Nat) (v : V) (b : List (Int × Int)), vs = [.int p, .int (n : Int), v] ∧ TP K H v b ∧ n ≤ 100 ∧ Pic p n b ∧ ∀ H', Same H H' → Q (.bl true) H'
theorem ok_fits_picture (T : TX K mg w) (c_is_lamp : C8.Cal P w K mg base 3 "is_lamp" (sp_is_lamp K) []) : C8.Cal P w K mg base 4 "fits_picture" (sp_fits_picture K) [] := by
  refine T.cal (d := d_fits_picture) 22 21 rfl rfl (S := sc_fits_picture) (fun _ _ _ _ _ _ us hl => match us, hl with | [_, _, _], _ => rfl) (fun vs H Q E h => ?_) (fun cdv A outer s H vs Q E hr h => ?_)
  · obtain ⟨p, n, v, b, rfl, _⟩ := h; rfl
  · obtain ⟨p, n, v, b, rfl, ⟨a, xs, rfl, hs, pr⟩, ln, hP, k⟩ := h
    have pl := paired_len pr
    have lb := hP.len
    refine ⟨_, (pss_cons (ps_if (PW.pt (pw_or (pt_not (pt_val (pe_callB call_isi (by rfl) (T.fr 5 rfl) (by decide +kernel) (pa_cons (pv 2) (pa_cons (pe_bltn (v := .ty "tuple") (u := .type "tuple") (by rfl) (T.fr 2 rfl) (by decide +kernel) rfl) pa_nil))))) (pw_or1 (pt_not (pt_val (pe_callB (cr_all rfl) (by rfl) (T.fr 6 rfl) (by decide +kernel) (pa_cons (pe_lc (own := [("lamp", 3)]) (g := (gName 3)) rfl sc_fits_picture.nd (pi_tup (pv 2)) (blkOk_by (own := [("lamp", 3)]) (N := n_fits_picture) (sc := defScope s_fits_picture) (by decide +kernel)) (fun _ _ _ _ _ => (pg_name (i := 3) sc_fits_picture.nd rfl (by first | exact Or.inl rfl | exact Or.inr rfl))) (fun _ _ _ _ _ => pts_nil) (fun _ _ _ _ _ => (C8.pe_c c_is_lamp hr (by decide) (by rfl) (pa_cons (pv 0) (pa_cons (pv 1) (pa_cons (pv 3) pa_nil)))))) pa_nil))))))) (pss_one (ps_ret pe_bl)) pss_nil)
    (pss_one (ps_ret (pe_callB (cr_all rfl) (by rfl) (T.fr 6 rfl) (by decide +kernel) (pa_cons (pe_lc (own := [("here", 4), ("there", 5)]) (g := (gTup K 2 (gCons (gName 4) (gCons (gName 5) gNil)))) rfl sc_fits_picture.nd (RZ.pi_zipA (by rfl) (T.fr 13 rfl) (pa_cons (pv 2) (pa_cons (pe_slice sl_tupA (pv 2) (po_some pe_int) po_none) pa_nil))) (blkOk_by (own := [("here", 4), ("there", 5)]) (N := n_fits_picture) (sc := defScope s_fits_picture) (by decide +kernel)) (fun _ _ _ _ _ => (pg_tup rfl (pgs_cons (pg_name (i := 4) sc_fits_picture.nd rfl (by first | exact Or.inl rfl | exact Or.inr rfl)) (pgs_cons (pg_name (i := 5) sc_fits_picture.nd rfl (by first | exact Or.inl rfl | exact Or.inr rfl)) pgs_nil)))) (fun _ _ _ _ _ => pts_nil) (fun _ _ _ _ _ => (pe_cmpR op_lt (pe_ix (show IxR _ (rIxT K) from ix_tup) (pv 4) pe_int (fun _ _ => rfl)) (pe_ix (show IxR _ (rIxT K) from ix_tup) (pv 5) pe_int (fun _ _ => rfl)) (nomark _)))) pa_nil))))), ?_⟩
    refine ⟨_, rfl, _, _, .type "tuple", .type "tuple", true, rfl, .ty _, tyT hs, kit_ty (by decide +kernel), _, rfl, iteN (by decide) ?_⟩
    refine ⟨_, rfl, a, rfl, ⟨_, hs⟩, fun D nD => ?_⟩
    refine lc_int walk_tup (fun H' s => Same.tup s hs) (fun _ => true) (fun _ => .bl true) (by rw [sizeLine_eq]; omega) nD ?_ ?_
    · rintro i x H1 H2 post postN hi s1 ⟨rfl, hxi⟩ k1 k2
      obtain ⟨q, hq1, hq2⟩ := paired_get pr hxi
      have hm := hP.lo q (List.mem_of_getElem? hq1)
      have hm2 := hP.col q (List.mem_of_getElem? hq1)
      exact ⟨rfl, _, rfl, _, rfl, _, rfl, p, _, x, q.1, q.2, rfl, hq2.same s1, hm.1, hm.2, hm2.1, hm2.2, k1 _ (Same.refl _) rfl⟩
    · intro H1 s1 hD
      rw [all_trues] at hD
      refine ⟨D, _, rfl, SqL.of hD, _, rfl, iteN (by rw [all_rep]; decide) ?_⟩
      refine ⟨_, rfl, _, rfl, _, rfl, ?_⟩
      dsimp only [tNoPart]
      refine tail_slice (Same.tup s1 hs) fun c H2 s2 hc => ?_
      refine ⟨a, c, _, _, rfl, .inr ⟨Same.tup (s1.trans s2) hs, hc, fun D2 nD2 => ?_⟩⟩
      refine lc_int (walk_zipT (n := xs.length - 1) (by rw [List.length_drop]; omega)) (fun H' s => ⟨Same.tup ((s1.trans s2).trans s) hs, Same.tup s hc⟩) (fun _ => true) (fun _ => .bl true) (by rw [sizeLine_eq]; omega) nD2 ?_ ?_
      · rintro i x H3 H4 post postN hi s3 ⟨t, x1, y1, rfl, nt, rfl, hx1, hy1⟩ k1 k2
        obtain ⟨q1, hq1, a1, rfl, t1⟩ := paired_get pr hx1
        dsimp only at hy1
        rw [List.getElem?_drop, Nat.add_comm] at hy1
        obtain ⟨q2, hq2, a2, rfl, t2⟩ := paired_get pr hy1
        have s4 := Same.new (o := .tup [.ref a1, .ref a2]) nt
        have s14 := (s1.trans (s2.trans s3)).trans s4
        refine ⟨t, _, rfl, SqT.of upd_same, rfl, _, _, rfl, _, _, rfl, rfl, rfl, ?_⟩
        refine ⟨_, rfl, a1, _, _, _, rfl, rfl, Same.tup s14 t1, at0, _, rfl, a2, _, _, _, rfl, rfl, Same.tup s14 t2, at0, _, _, rfl, rfl, ?_⟩
        dsimp only
        rw [decide_eq_true (asc_at hP.asc hq1 hq2)]
        exact k1 _ s4 rfl
      · intro H3 s3 hD3
        rw [all_trues] at hD3
        refine ⟨D2, _, rfl, SqL.of hD3, ?_⟩
        rw [all_rep]
        exact k _ (s1.trans (s2.trans s3))
def sp_need_panel (K : PySem.W.Frag) : Sp := fun vs H Q _ => ∃ (p : Int) (v : V) (bs : List (List (Int × Int))), vs = [v] ∧ TPan K H v p bs ∧ Pan p bs ∧ ∀ H', Same H H' → Q .non H'
theorem ok_need_panel (T : TX K mg w) (c_fits_panel : C8.Cal P w K mg base 5 "fits_panel" (sp_fits_panel K) []) : C8.Cal P w K mg base 6 "need_panel" (sp_need_panel K) [] := by
  refine T.cal (d := d_need_panel) 23 22 rfl rfl (S := sc_need_panel) (fun _ _ _ _ _ _ us hl => match us, hl with | [_], _ => rfl) (fun vs H Q E h => ?_) (fun cdv A outer s H vs Q E hr h => ?_)
  · obtain ⟨p, v, bs, rfl, _⟩ := h; rfl
  · obtain ⟨p, v, bs, rfl, hv, hP, k⟩ := h
    refine ⟨_, (pss_one (ps_if (pt_not (pt_val (C8.pe_c c_fits_panel hr (by decide) (by rfl) (pa_cons (pv 0) pa_nil)))) (pss_one ps_dead) pss_nil)), ?_⟩
    exact ⟨_, rfl, p, v, bs, rfl, hv, hP, fun H1 s1 => ⟨_, rfl, iteN (by decide) (k _ s1)⟩⟩
def sp_need_picture (K : PySem.W.Frag) : Sp := fun vs H Q _ => ∃ (p : Int) (n : Nat) (v : V) (b : List (Int × Int)), vs = [.int p, .int (n : Int), v] ∧ TP K H v b ∧ n ≤ 100 ∧ Pic p n b ∧ ∀ H', Same H H' → Q .non H'
theorem ok_need_picture (T : TX K mg w) (c_fits_picture : C8.Cal P w K mg base 4 "fits_picture" (sp_fits_picture K) []) : C8.Cal P w K mg base 5 "need_picture" (sp_need_picture K) [] := by
  refine T.cal (d := d_need_picture) 25 24 rfl rfl (S := sc_need_picture) (fun _ _ _ _ _ _ us hl => match us, hl with | [_, _, _], _ => rfl) (fun vs H Q E h => ?_) (fun cdv A outer s H vs Q E hr h => ?_)
  · obtain ⟨p, n, v, b, rfl, _⟩ := h; rfl
  · obtain ⟨p, n, v, b, rfl, hv, ln, hP, k⟩ := h
    refine ⟨_, (pss_one (ps_if (pt_not (pt_val (C8.pe_c c_fits_picture hr (by decide) (by rfl) (pa_cons (pv 0) (pa_cons (pv 1) (pa_cons (pv 2) pa_nil)))))) (pss_one ps_dead) pss_nil)), ?_⟩
    exact ⟨_, rfl, _, rfl, _, rfl, p, n, v, b, rfl, hv, ln, hP, fun H1 s1 => ⟨_, rfl, iteN (by decide) (k _ s1)⟩⟩
def sp_can_reach (K : PySem.W.Frag) : Sp := fun vs H Q _ => ∃ (p : Int) (n : Nat) (v u : V) (bs : List (List (Int × Int))) (pic : List (Int × Int)), vs = [v, .int (n : Int), u] ∧ TPan K H v p bs ∧ TP K H u pic ∧ Pan p bs ∧ 1 ≤ n ∧ n ≤ 100 ∧ Pic p n pic ∧
  ∀ H', Same H H' → Q (.bl (decide (ER.restF p pic (ER.divOnF p bs n) = []))) H'
theorem ok_can_reach (T : TX K mg w) (c_need_panel : C8.Cal P w K mg base 6 "need_panel" (sp_need_panel K) []) (c_need_size : C8.Cal P w K mg base 2 "need_size" (sp_need_size K) []) (c_need_picture : C8.Cal P w K mg base 5 "need_picture" (sp_need_picture K) []) (c_divisor_on : C8.Cal P w K mg base 7 "divisor_on" (sp_divisor_on K) []) (c_rest_of : C8.Cal P w K mg base 4 "rest_of" (sp_rest_of K) []) : C8.Cal P w K mg base 8 "can_reach" (sp_can_reach K) [] := by
  refine T.cal (d := d_can_reach) 37 36 rfl rfl (S := sc_can_reach) (fun _ _ _ _ _ _ us hl => match us, hl with | [_, _, _], _ => rfl) (fun vs H Q E h => ?_) (fun cdv A outer s H vs Q E hr h => ?_)
  · obtain ⟨p, n, v, u, bs, pic, rfl, _⟩ := h; rfl
  · obtain ⟨p, n, v, u, bs, pic, rfl, hv, hu, hP, n1, ln, hQ, k⟩ := h
    have hv0 := hv
    obtain ⟨va, ub, rfl, hs, hb⟩ := hv
    obtain ⟨d1, d2, d3⟩ := hP.div n
    refine ⟨_, (pss_cons (ps_expr (C8.pe_c c_need_panel hr (by decide) (by rfl) (pa_cons (pv 0) pa_nil)))
    (pss_cons (ps_expr (C8.pe_c c_need_size hr (by decide) (by rfl) (pa_cons (pv 1) pa_nil)))
    (pss_cons (ps_expr (C8.pe_c c_need_picture hr (by decide) (by rfl) (pa_cons (pe_ix ix_tup (pv 0) pe_int (fun _ _ => rfl)) (pa_cons (pv 1) (pa_cons (pv 2) pa_nil)))))
    (pss_one (ps_ret (pe_cmpR (op_eqD hr.units) (C8.pe_c c_rest_of hr (by decide) (by rfl) (pa_cons (pe_ix ix_tup (pv 0) pe_int (fun _ _ => rfl)) (pa_cons (pv 2) (pa_cons (C8.pe_c c_divisor_on hr (by decide) (by rfl) (pa_cons (pv 0) (pa_cons (pv 1) pa_nil))) pa_nil)))) (pe_tup pa_nil) (nomark _))))))), ?_⟩
    refine ⟨_, rfl, p, _, bs, rfl, hv0, hP, fun H1 s1 => ?_⟩
    refine ⟨_, rfl, n, rfl, by omega, ?_⟩
    refine ⟨_, rfl, va, _, _, _, rfl, rfl, Same.tup s1 hs, at0, _, rfl, _, rfl, p, n, u, pic, rfl, hu.same s1, ln, hQ, fun H2 s2 => ?_⟩
    have s12 := s1.trans s2
    refine ⟨_, rfl, va, _, _, _, rfl, rfl, Same.tup s12 hs, at0, _, rfl, _, rfl, _, rfl, p, _, bs, n, rfl, hv0.same s12, hP, fun d H3 s3 hd => ?_⟩
    refine ⟨p, u, d, pic, _, rfl, hu.same (s12.trans s3), hd, hP.hp, d1, d3, d2, fun q hq => ⟨(hQ.lo q hq).1, hQ.col q hq⟩, fun r H4 s4 hr4 => ?_⟩
    refine ⟨by show 0 ≤ sizeLine; decide, fun t nt => ?_⟩
    have s5 := Same.new (o := .tup []) nt
    refine ⟨_, _, dp_I (hr4.same s5), dp_N upd_same, (ok_dI _).shaped, (ok_dN (n := 0)).shaped, ?_⟩
    rw [eqvN_I]
    exact k _ (s12.trans (s3.trans (s4.trans s5)))
end
end EV
end
section
set_option Elab.async false
set_option linter.all false
set_option maxRecDepth 100000
set_option maxHeartbeats 4000000
namespace EV
open PySem PySem.Spec PyProof.Rows L2
open ER (cf Bd Row P3 Rule Pan)
section
variable {P : Program} {w : World} {K : PySem.W.Frag} {mg : Str → Option Value} {base : Heap}
/-- a list or a tuple of ints -/
def LI (K : PySem.W.Frag) (H : Hp) (v : V) (r : List Int) : Prop := ∃ a, v = .ref a ∧ (SqL K H a (r.map V.int) ∨ SqT K H a (r.map V.int))
theorem TI.li {H : Hp} {v : V} {r : List Int} (h : TI K H v r) : LI K H v r := by obtain ⟨a, e, q⟩ := h; exact ⟨a, e, .inr q⟩
theorem pressF_len (p : Int) (x t : Int) : ∀ (b : List (Int × Int)) (r : List Int), (ER.pressF p r b x t).length = r.length
  | [], _ => rfl
  | q :: b, r => by
    have := pressF_len p x t b (r.set ((x + q.1) % (r.length : Int)).toNat ((cf r ((x + q.1) % (r.length : Int)).toNat + q.2 * t) % p))
    rw [List.length_set] at this
    exact this
theorem pressF_bd {p : Int} (hp : 0 < p) (x t : Int) : ∀ (b : List (Int × Int)) (r : List Int), Bd p r → Bd p (ER.pressF p r b x t)
  | [], _, h => h
  | q :: b, r, h => pressF_bd hp x t b _ (h.set (ER.bd_mod hp _))
def sp_behind_press (K : PySem.W.Frag) : Sp := fun vs H Q _ => ∃ (p x t : Int) (v u : V) (r : List Int) (b : List (Int × Int)), vs = [.int p, v, u, .int x, .int t] ∧ LI K H v r ∧ TP K H u b ∧ P3 p ∧ (∀ q ∈ b, 0 < q.2 ∧ q.2 < p) ∧ r ≠ [] ∧ r.length ≤ 100 ∧
  ∀ v H', Same H H' → TI K H' v (ER.pressF p r b x t) → Q v H'
theorem ok_behind_press (T : TX K mg w)  : C8.Cal P w K mg base 1 "behind_press" (sp_behind_press K) [] := by
  refine T.cal (d := d_behind_press) 29 28 rfl rfl (S := sc_behind_press) (fun _ _ _ _ _ _ us hl => match us, hl with | [_, _, _, _, _], _ => rfl) (fun vs H Q E h => ?_) (fun cdv A outer s H vs Q E hr h => ?_)
  · obtain ⟨p, x, t, v, u, r, b, rfl, _⟩ := h; rfl
  · obtain ⟨p, x, t, v, u, r, b, rfl, ⟨va, rfl, hv⟩, ⟨ub, xs, rfl, hs, pr⟩, hp, hq, ne, lr, k⟩ := h
    have p5 := hp.le
    have pp := hp.pos
    have rl : 0 < r.length := List.length_pos_iff.mpr ne
    refine ⟨_, (pss_cons (ps_set (i := 5) sc_behind_press.nd rfl (by first | exact Or.inl rfl | exact Or.inr rfl) (pe_callTy call_list_of (by rfl) (T.fr 10 rfl) (by decide +kernel) (pa_cons (pv 1) pa_nil)))
    (pss_cons (ps_for PassesOwn.never rfl (pi_tup (pv 2)) (pg_tup rfl (pgs_cons (pg_name (i := 6) sc_behind_press.nd rfl (by first | exact Or.inl rfl | exact Or.inr rfl)) (pgs_cons (pg_name (i := 7) sc_behind_press.nd rfl (by first | exact Or.inl rfl | exact Or.inr rfl)) pgs_nil))) (pss_cons (ps_set (i := 8) sc_behind_press.nd rfl (by first | exact Or.inl rfl | exact Or.inr rfl) (pe_op op_mod (pe_op op_add (pv 3) (pv 6)) (pe_callB call_len_seq (by rfl) (T.fr 4 rfl) (by decide +kernel) (pa_cons (pv 5) pa_nil))))
    (pss_one (ps_asg (pe_op op_mod (pe_op op_add (pe_ix ix_list (pv 5) (pv 8) (fun _ _ => rfl)) (pe_op op_mul (pv 7) (pv 4))) (pv 0)) (pg_sub (pv 5) (pv 8) set_list)))))
    (pss_one (ps_ret (pe_callTy call_tuple_of (by rfl) (T.fr 2 rfl) (by decide +kernel) (pa_cons (pv 5) pa_nil)))))), ?_⟩
    refine ⟨_, rfl, va, _, rfl, hv, fun F nF => ?_⟩
    have s1 := Same.new (o := .lst (r.map V.int)) nF
    have hF1 : upd H F (.lst (r.map V.int)) F = some (.lst (r.map V.int)) := upd_same
    generalize upd H F (.lst (r.map V.int)) = H1 at s1 hF1
    refine ⟨_, rfl, ub, rfl, ⟨_, Same.tup s1 hs⟩, ?_⟩
    refine for_it walk_tup (fun i σ H' => ∃ (c6 c7 c8 : Option V) (f : List Int), σ = [some (.int p), some (.ref va), some (.ref ub), some (.int x), some (.int t), some (.ref F), c6, c7, c8] ∧ Same H H' ∧ H' F = some (.lst (f.map V.int)) ∧ f.length = r.length ∧ ER.pressF p f (b.drop i) x t = ER.pressF p r b x t)
      ⟨none, none, none, r, rfl, s1, hF1, rfl, rfl⟩ (fun i σ H' _ ⟨_, _, _, _, _, s, _⟩ => Same.tup s hs) ?_ ?_
    · rintro i y σ H2 H3 hi ⟨c6, c7, c8, f, rfl, s2, hF2, lf, hg⟩ ⟨rfl, hxi⟩
      obtain ⟨q, hq1, ta, rfl, hq2⟩ := paired_get pr hxi
      obtain ⟨hlt, e⟩ := List.getElem?_eq_some_iff.mp hq1
      have hm := hq q (List.mem_of_getElem? hq1)
      rw [List.drop_eq_getElem_cons hlt, e] at hg
      change ER.pressF p (f.set ((x + q.1) % (f.length : Int)).toNat ((cf f ((x + q.1) % (f.length : Int)).toNat + q.2 * t) % p)) (b.drop (i + 1)) x t = _ at hg
      have m0 : 0 ≤ (x + q.1) % (f.length : Int) := Int.emod_nonneg _ (by omega)
      have m1 : (x + q.1) % (f.length : Int) < f.length := Int.emod_lt_of_pos _ (by omega)
      refine ⟨ta, _, rfl, Same.tup s2 hq2, rfl, _, _, rfl, _, _, rfl, rfl, ?_⟩
      refine ⟨_, rfl, _, rfl, _, _, rfl, rfl, _, rfl, F, _, rfl, .inl (SqL.of hF2), _, _, rfl, rfl, by show (0 : Int) < _; rw [List.length_map]; omega, ?_⟩
      rw [List.length_map]
      refine ⟨_, rfl, _, rfl, F, _, _, _, rfl, rfl, SqL.of hF2, at_int m0 m1, _, rfl, _, rfl, _, _, rfl, rfl, .inl (by omega), _, _, rfl, rfl, _, rfl, _, _, rfl, rfl, pp, ?_⟩
      refine ⟨_, rfl, _, rfl, F, _, _, ((x + q.1) % (f.length : Int)).toNat, rfl, rfl, hF2, ixN_nat (by omega) (by rw [List.length_map]; omega), ?_⟩
      rw [map_set_int]
      refine ⟨_, _, _, _, rfl, Same.put s2 nF, upd_same, by rw [List.length_set]; exact lf, hg⟩
    · rintro σ H2 ⟨c6, c7, c8, f, rfl, s2, hF2, lf, hg⟩
      rw [paired_len pr, List.drop_length] at hg
      have hg' : f = ER.pressF p r b x t := hg
      subst hg'
      refine ⟨_, rfl, F, _, rfl, .inl ⟨SqL.of hF2, fun q nq => k _ _ (s2.trans (Same.new nq)) TI.made⟩⟩
theorem coloursF_len (n : Nat) (pic : List (Int × Int)) : (ER.coloursF n pic).length = n := by
  have h : ∀ (l : List (Int × Int)) (f : List Int), (l.foldl (fun f q => f.set q.1.toNat q.2) f).length = f.length := by
    intro l
    induction l with
    | nil => intro f; rfl
    | cons a l ih => intro f; rw [List.foldl_cons, ih, List.length_set]
  unfold ER.coloursF
  rw [h, List.length_replicate]
def sp_colours_of (K : PySem.W.Frag) : Sp := fun vs H Q _ => ∃ (n : Nat) (v : V) (ps : List (Int × Int)), vs = [.int (n : Int), v] ∧ TP K H v ps ∧ n ≤ 100 ∧ (∀ q ∈ ps, 0 ≤ q.1 ∧ q.1 < n) ∧
  ∀ v H', Same H H' → TI K H' v (ER.coloursF n ps) → Q v H'
theorem ok_colours_of (T : TX K mg w)  : C8.Cal P w K mg base 1 "colours_of" (sp_colours_of K) [] := by
  refine T.cal (d := d_colours_of) 30 29 rfl rfl (S := sc_colours_of) (fun _ _ _ _ _ _ us hl => match us, hl with | [_, _], _ => rfl) (fun vs H Q E h => ?_) (fun cdv A outer s H vs Q E hr h => ?_)
  · obtain ⟨n, v, ps, rfl, _⟩ := h; rfl
  · obtain ⟨n, v, ps, rfl, ⟨va, xs, rfl, hs, pr⟩, ln, hq, k⟩ := h
    refine ⟨_, (pss_cons (ps_set (i := 2) sc_colours_of.nd rfl (by first | exact Or.inl rfl | exact Or.inr rfl) (pe_op op_rep (pe_lst (pa_cons pe_int pa_nil)) (pv 0)))
    (pss_cons (ps_for PassesOwn.never rfl (pi_tup (pv 1)) (pg_tup rfl (pgs_cons (pg_name (i := 3) sc_colours_of.nd rfl (by first | exact Or.inl rfl | exact Or.inr rfl)) (pgs_cons (pg_name (i := 4) sc_colours_of.nd rfl (by first | exact Or.inl rfl | exact Or.inr rfl)) pgs_nil))) (pss_one (ps_asg (pv 4) (pg_sub (pv 2) (pv 3) set_list))))
    (pss_one (ps_ret (pe_callTy call_tuple_of (by rfl) (T.fr 2 rfl) (by decide +kernel) (pa_cons (pv 2) pa_nil)))))), ?_⟩
    refine ⟨by show 1 ≤ sizeLine; decide, fun l1 n1 => ?_⟩
    have s1 := Same.new (o := .lst [V.int 0]) n1
    have hl1 : upd H l1 (.lst [V.int 0]) l1 = some (.lst [V.int 0]) := upd_same
    generalize upd H l1 (.lst [V.int 0]) = H1 at s1 hl1
    refine ⟨_, rfl, l1, _, _, rfl, rfl, hl1, by omega, by omega, by rw [Int.toNat_natCast, sizeLine_eq]; simp only [List.length_cons, List.length_nil]; omega, fun F nF => ?_⟩
    rw [Int.toNat_natCast, flat0]
    have nF0 : H F = none := s1.free nF
    have s2 := s1.trans (Same.new (o := .lst ((List.replicate n (0 : Int)).map V.int)) nF)
    have hF2 : upd H1 F (.lst ((List.replicate n (0 : Int)).map V.int)) F = some (.lst ((List.replicate n (0 : Int)).map V.int)) := upd_same
    generalize upd H1 F (.lst ((List.replicate n (0 : Int)).map V.int)) = H2 at s2 hF2
    refine ⟨_, rfl, va, rfl, ⟨_, Same.tup s2 hs⟩, ?_⟩
    refine for_it walk_tup (fun i σ H' => ∃ (c3 c4 : Option V) (f : List Int), σ = [some (.int (n : Int)), some (.ref va), some (.ref F), c3, c4] ∧ Same H H' ∧ H' F = some (.lst (f.map V.int)) ∧ f.length = n ∧ (ps.drop i).foldl (fun f q => f.set q.1.toNat q.2) f = ER.coloursF n ps)
      ⟨none, none, _, rfl, s2, hF2, by simp, rfl⟩ (fun i σ H' _ ⟨_, _, _, _, s, _⟩ => Same.tup s hs) ?_ ?_
    · rintro i x σ H3 H4 hi ⟨c3, c4, f, rfl, s3, hF3, lf, hg⟩ ⟨rfl, hxi⟩
      obtain ⟨q, hq1, ta, rfl, hq2⟩ := paired_get pr hxi
      obtain ⟨hlt, e⟩ := List.getElem?_eq_some_iff.mp hq1
      have hm := hq q (List.mem_of_getElem? hq1)
      rw [List.drop_eq_getElem_cons hlt, e] at hg
      refine ⟨ta, _, rfl, Same.tup s3 hq2, rfl, _, _, rfl, _, _, rfl, rfl, ?_⟩
      refine ⟨_, rfl, _, rfl, _, rfl, F, _, _, q.1.toNat, rfl, rfl, hF3, ixN_nat (by omega) (by rw [List.length_map]; omega), ?_⟩
      rw [map_set_int]
      exact ⟨_, _, _, rfl, Same.put s3 nF0, upd_same, by rw [List.length_set]; exact lf, hg⟩
    · rintro σ H3 ⟨c3, c4, f, rfl, s3, hF3, lf, hg⟩
      rw [paired_len pr, List.drop_length] at hg
      have hg' : f = ER.coloursF n ps := hg
      subst hg'
      refine ⟨_, rfl, F, _, rfl, .inl ⟨SqL.of hF3, fun q nq => k _ _ (s3.trans (Same.new nq)) TI.made⟩⟩
def sp_picture_of (K : PySem.W.Frag) : Sp := fun vs H Q _ => ∃ (v : V) (r : List Int), vs = [v] ∧ TI K H v r ∧ r.length ≤ 100 ∧ ∀ v H', Same H H' → TP K H' v (ER.picF r) → Q v H'
def sp_picture_ofL (K : PySem.W.Frag) : Sp := fun vs H Q _ => ∃ (a : Addr) (r : List Int), vs = [.ref a] ∧ H a = some (.lst (r.map V.int)) ∧ r.length ≤ 100 ∧ ∀ v H', Same H H' → TP K H' v (ER.picF r) → Q v H'
theorem picFrom_range : ∀ (r : List Int) (k : Nat), ER.picFrom k r = ((List.range r.length).filter fun i => !decide (cf r i = 0)).map fun i => (((k + i : Nat) : Int), cf r i)
  | [], k => rfl
  | c :: r, k => by
    rw [List.length_cons, List.range_succ_eq_map]
    unfold ER.picFrom
    rw [List.filter_cons]
    have e : List.map (fun i => (((k + i : Nat) : Int), cf (c :: r) i)) (List.filter (fun i => !decide (cf (c :: r) i = 0)) (List.map Nat.succ (List.range r.length))) = ER.picFrom (k + 1) r := by
      rw [picFrom_range r (k + 1), List.filter_map, List.map_map]
      refine List.map_congr_left fun i _ => ?_
      show (((k + (i + 1) : Nat) : Int), cf (c :: r) (i + 1)) = _
      rw [ER.cf_succ]
      have : k + (i + 1) = k + 1 + i := by omega
      rw [this]
    by_cases h : c = 0
    · rw [if_pos h, if_neg (by rw [ER.cf_zero]; simp [h]), e]
    · rw [if_neg h, if_pos (by rw [ER.cf_zero]; simp [h]), List.map_cons, e]
      rfl
theorem ok_picture_of (T : TX K mg w)  : C8.Cal P w K mg base 1 "picture_of" (sp_picture_of K) [] := by
  refine T.cal (d := d_picture_of) 31 30 rfl rfl (S := sc_picture_of) (fun _ _ _ _ _ _ us hl => match us, hl with | [_], _ => rfl) (fun vs H Q E h => ?_) (fun cdv A outer s H vs Q E hr h => ?_)
  · obtain ⟨v, r, rfl, _⟩ := h; rfl
  · obtain ⟨v, r, rfl, ⟨a, rfl, hs⟩, lr, k⟩ := h
    refine ⟨_, (pss_one (ps_ret (pe_callTy call_tuple_of (by rfl) (T.fr 2 rfl) (by decide +kernel) (pa_cons (pe_lc (own := [("place", 1), ("colour", 2)]) (g := (gTup K 2 (gCons (gName 1) (gCons (gName 2) gNil)))) rfl sc_picture_of.nd (pi_enumT (by rfl) (T.fr 12 rfl) (pa_cons (pv 0) pa_nil)) (blkOk_by (own := [("place", 1), ("colour", 2)]) (N := n_picture_of) (sc := defScope s_picture_of) (by decide +kernel)) (fun _ _ _ _ _ => (pg_tup rfl (pgs_cons (pg_name (i := 1) sc_picture_of.nd rfl (by first | exact Or.inl rfl | exact Or.inr rfl)) (pgs_cons (pg_name (i := 2) sc_picture_of.nd rfl (by first | exact Or.inl rfl | exact Or.inr rfl)) pgs_nil)))) (fun _ _ _ _ _ => (pts_one (pt_cmpR op_ne (pv 2) pe_int (nomark _)))) (fun _ _ _ _ _ => (pe_tup (pa_cons (pv 1) (pa_cons (pv 2) pa_nil))))) pa_nil)))), ?_⟩
    refine ⟨_, rfl, a, _, rfl, hs, fun D nD => ?_⟩
    refine lc_gen (fun H v (q : Int × Int) => TI K H v [q.1, q.2]) (fun _ _ _ _ k h => h.keep k) walk_enumT (fun H' s => Same.tup s hs) (fun i => !decide (cf r i = 0)) (fun i => (((0 + i : Nat) : Int), cf r i)) (by rw [sizeLine_eq, List.length_map]; omega) nD ?_ ?_
    · rintro i x H1 H2 post postN hi s1 ⟨t, x1, y1, rfl, nt, rfl, hx1, hy1⟩ k1 k2
      dsimp only at hx1
      obtain rfl := Option.some.inj hx1
      obtain ⟨rfl, _⟩ := map_get hy1
      have s2 := Same.new (o := .tup [.int (i : Nat), .int (cf r i)]) nt
      refine ⟨t, _, rfl, SqT.of upd_same, rfl, _, _, rfl, _, _, rfl, rfl, rfl, ?_⟩
      refine ⟨_, rfl, rfl, _, rfl, ?_⟩
      by_cases h0 : cf r i = 0
      · exact iteN (neF h0) (k2 _ s2 (by simp [h0]))
      · refine iteI (neT h0) ⟨_, rfl, _, rfl, by show 2 ≤ sizeLine; decide, fun q nq => ?_⟩
        refine k1 _ _ (s2.trans (Same.new nq)) (by simp [h0]) ?_
        dsimp only
        rw [Nat.zero_add]
        exact TI.made (r := [(i : Int), cf r i])
    · intro H1 acc s1 hD pa
      rw [List.length_map, ← picFrom_range r 0] at pa
      refine ⟨D, acc, rfl, .inl ⟨SqL.of hD, fun q nq => ?_⟩⟩
      have s2 := Same.new (o := .tup acc) nq
      exact k _ _ (s1.trans s2) ⟨q, acc, rfl, SqT.of upd_same, paired_mono (fun _ _ z => z.same s2) pa⟩
theorem ok_picture_ofL (T : TX K mg w)  : C8.Cal P w K mg base 1 "picture_of" (sp_picture_ofL K) [] := by
  refine T.cal (d := d_picture_of) 31 30 rfl rfl (S := sc_picture_of) (fun _ _ _ _ _ _ us hl => match us, hl with | [_], _ => rfl) (fun vs H Q E h => ?_) (fun cdv A outer s H vs Q E hr h => ?_)
  · obtain ⟨a, r, rfl, _⟩ := h; rfl
  · obtain ⟨a, r, rfl, hs, lr, k⟩ := h
    refine ⟨_, (pss_one (ps_ret (pe_callTy call_tuple_of (by rfl) (T.fr 2 rfl) (by decide +kernel) (pa_cons (pe_lc (own := [("place", 1), ("colour", 2)]) (g := (gTup K 2 (gCons (gName 1) (gCons (gName 2) gNil)))) rfl sc_picture_of.nd (pi_enum (by rfl) (T.fr 12 rfl) (pa_cons (pv 0) pa_nil)) (blkOk_by (own := [("place", 1), ("colour", 2)]) (N := n_picture_of) (sc := defScope s_picture_of) (by decide +kernel)) (fun _ _ _ _ _ => (pg_tup rfl (pgs_cons (pg_name (i := 1) sc_picture_of.nd rfl (by first | exact Or.inl rfl | exact Or.inr rfl)) (pgs_cons (pg_name (i := 2) sc_picture_of.nd rfl (by first | exact Or.inl rfl | exact Or.inr rfl)) pgs_nil)))) (fun _ _ _ _ _ => (pts_one (pt_cmpR op_ne (pv 2) pe_int (nomark _)))) (fun _ _ _ _ _ => (pe_tup (pa_cons (pv 1) (pa_cons (pv 2) pa_nil))))) pa_nil)))), ?_⟩
    refine ⟨_, rfl, a, _, rfl, SqL.of hs, fun D nD => ?_⟩
    refine lc_gen (fun H v (q : Int × Int) => TI K H v [q.1, q.2]) (fun _ _ _ _ k h => h.keep k) (G := fun H' => SqL K H' a (r.map V.int)) walk_enum (fun H' s => SqL.of (s _ _ hs)) (fun i => !decide (cf r i = 0)) (fun i => (((0 + i : Nat) : Int), cf r i)) (by rw [sizeLine_eq, List.length_map]; omega) nD ?_ ?_
    · rintro i x H1 H2 post postN hi s1 ⟨t, x1, y1, rfl, nt, rfl, hx1, hy1⟩ k1 k2
      dsimp only at hx1
      obtain rfl := Option.some.inj hx1
      obtain ⟨rfl, _⟩ := map_get hy1
      have s2 := Same.new (o := .tup [.int (i : Nat), .int (cf r i)]) nt
      refine ⟨t, _, rfl, SqT.of upd_same, rfl, _, _, rfl, _, _, rfl, rfl, rfl, ?_⟩
      refine ⟨_, rfl, rfl, _, rfl, ?_⟩
      by_cases h0 : cf r i = 0
      · exact iteN (neF h0) (k2 _ s2 (by simp [h0]))
      · refine iteI (neT h0) ⟨_, rfl, _, rfl, by show 2 ≤ sizeLine; decide, fun q nq => ?_⟩
        refine k1 _ _ (s2.trans (Same.new nq)) (by simp [h0]) ?_
        dsimp only
        rw [Nat.zero_add]
        exact TI.made (r := [(i : Int), cf r i])
    · intro H1 acc s1 hD pa
      rw [List.length_map, ← picFrom_range r 0] at pa
      refine ⟨D, acc, rfl, .inl ⟨SqL.of hD, fun q nq => ?_⟩⟩
      have s2 := Same.new (o := .tup acc) nq
      exact k _ _ (s1.trans s2) ⟨q, acc, rfl, SqT.of upd_same, paired_mono (fun _ _ z => z.same s2) pa⟩
theorem lessF_len (p : Int) (a b : List Int) (t : Int) (h : a.length = b.length) : (ER.lessF p a b t).length = a.length := by
  unfold ER.lessF; rw [List.length_zipWith, h, Nat.min_self]
theorem lessF_bd {p : Int} (hp : 0 < p) (a b : List Int) (t : Int) : Bd p (ER.lessF p a b t) := fun x hx => by
  unfold ER.lessF at hx
  obtain ⟨i, hi, e⟩ := List.mem_iff_getElem.mp hx
  rw [← e, List.getElem_zipWith]
  exact ER.bd_mod hp _
theorem lessF_range (p : Int) (a b : List Int) (t : Int) (h : a.length = b.length) : (((List.range a.length).filter fun _ => true).map fun i => V.int ((cf a i - t * cf b i) % p)) = (ER.lessF p a b t).map V.int := by
  rw [List.filter_eq_self.mpr (fun _ _ => rfl)]
  refine List.ext_getElem (by rw [List.length_map, List.length_range, List.length_map, lessF_len p a b t h]) fun i h1 h2 => ?_
  have hi : i < a.length := by simpa using h1
  simp only [List.getElem_map, List.getElem_range, ER.lessF, List.getElem_zipWith]
  rw [ER.cf_lt hi, ER.cf_lt (by omega)]
def sp_lessened (K : PySem.W.Frag) : Sp := fun vs H Q _ => ∃ (p t : Int) (v u : V) (a b : List Int), vs = [.int p, v, u, .int t] ∧ TI K H v a ∧ TI K H u b ∧ a.length = b.length ∧ a.length ≤ 100 ∧ P3 p ∧ -100 ≤ t ∧ t ≤ 100 ∧ ∀ v H', Same H H' → TI K H' v (ER.lessF p a b t) → Q v H'
theorem ok_lessened (T : TX K mg w)  : C8.Cal P w K mg base 1 "lessened" (sp_lessened K) [] := by
  refine T.cal (d := d_lessened) 32 31 rfl rfl (S := sc_lessened) (fun _ _ _ _ _ _ us hl => match us, hl with | [_, _, _, _], _ => rfl) (fun vs H Q E h => ?_) (fun cdv A outer s H vs Q E hr h => ?_)
  · obtain ⟨p, t, v, u, a, b, rfl, _⟩ := h; rfl
  · obtain ⟨p, t, v, u, a, b, rfl, ⟨va, rfl, ha⟩, ⟨ub, rfl, hb⟩, hl, la, hp, t0, t1, k⟩ := h
    have pp := hp.pos
    refine ⟨_, (pss_one (ps_ret (pe_callTy call_tuple_of (by rfl) (T.fr 2 rfl) (by decide +kernel) (pa_cons (pe_lc (own := [("here", 4), ("there", 5)]) (g := (gTup K 2 (gCons (gName 4) (gCons (gName 5) gNil)))) rfl sc_lessened.nd (RZ.pi_zipA (by rfl) (T.fr 13 rfl) (pa_cons (pv 1) (pa_cons (pv 2) pa_nil))) (blkOk_by (own := [("here", 4), ("there", 5)]) (N := n_lessened) (sc := defScope s_lessened) (by decide +kernel)) (fun _ _ _ _ _ => (pg_tup rfl (pgs_cons (pg_name (i := 4) sc_lessened.nd rfl (by first | exact Or.inl rfl | exact Or.inr rfl)) (pgs_cons (pg_name (i := 5) sc_lessened.nd rfl (by first | exact Or.inl rfl | exact Or.inr rfl)) pgs_nil)))) (fun _ _ _ _ _ => pts_nil) (fun _ _ _ _ _ => (pe_op op_mod (pe_op op_sub (pv 4) (pe_op op_mul (pv 3) (pv 5))) (pv 0)))) pa_nil)))), ?_⟩
    refine ⟨_, rfl, _, rfl, va, ub, _, _, rfl, .inr ⟨ha, hb, fun D nD => ?_⟩⟩
    refine lc_int (walk_zipT (n := a.length) (by rw [List.length_map, List.length_map, hl, Nat.min_self])) (fun H' s => ⟨Same.tup s ha, Same.tup s hb⟩) (fun _ => true) (fun i => V.int ((cf a i - t * cf b i) % p)) (by rw [sizeLine_eq]; omega) nD ?_ ?_
    · rintro i x H1 H2 post postN hi s1 ⟨t, x1, y1, rfl, nt, rfl, hx1, hy1⟩ k1 k2
      obtain ⟨rfl, _⟩ := map_get hx1
      obtain ⟨rfl, _⟩ := map_get hy1
      refine ⟨t, _, rfl, SqT.of upd_same, rfl, _, _, rfl, _, _, rfl, rfl, rfl, ?_⟩
      refine ⟨_, rfl, _, rfl, _, rfl, _, _, rfl, rfl, .inl (by omega), _, _, rfl, rfl, _, rfl, _, _, rfl, rfl, pp, ?_⟩
      exact k1 _ (Same.new nt) rfl
    · intro H1 s1 hD
      rw [lessF_range p a b t hl] at hD
      refine ⟨D, _, rfl, .inl ⟨SqL.of hD, fun q nq => k _ _ (s1.trans (Same.new nq)) TI.made⟩⟩
end
end EV
end
section
set_option Elab.async false
set_option linter.all false
set_option maxRecDepth 100000
set_option maxHeartbeats 4000000
namespace EV
open PySem PySem.Spec PyProof.Rows L2
open ER (cf Bd Row P3 Rule Pan BRow)
section
variable {P : Program} {w : World} {K : PySem.W.Frag} {mg : Str → Option Value} {base : Heap}
def TR (K : PySem.W.Frag) (H : Hp) (v : V) (b : BRow) : Prop := ∃ t u w, v = .ref t ∧ SqT K H t [.int (b.at_ : Int), u, w] ∧ TI K H u b.row ∧ TI K H w b.mix
theorem TR.keep {H H' : Hp} {v : V} {b : BRow} (k : KeepT K H H') (h : TR K H v b) : TR K H' v b := by
  obtain ⟨t, u, w, e, h1, h2, h3⟩ := h
  exact ⟨t, u, w, e, k _ _ h1, h2.keep k, h3.keep k⟩
structure BWf (p : Int) (n m : Nat) (b : BRow) : Prop where
  at_ : b.at_ < n
  row : b.row.length = n
  mix : b.mix.length = m
theorem lessByF_cons (p : Int) (b : BRow) (B : List BRow) (r m : List Int) : ER.lessByF p (b :: B) r m = if cf r b.at_ = 0 then ER.lessByF p B r m else ER.lessByF p B (ER.lessF p r b.row (cf r b.at_)) (ER.lessF p m b.mix (cf r b.at_)) := by
  unfold ER.lessByF
  rw [List.foldl_cons]
  split <;> rfl
theorem lessByF_inv {p : Int} (hp : 0 < p) {n k : Nat} : ∀ (B : List BRow) (r m : List Int), (∀ b ∈ B, BWf p n k b) → r.length = n → m.length = k → Bd p r → Bd p m →
    (ER.lessByF p B r m).1.length = n ∧ (ER.lessByF p B r m).2.length = k ∧ Bd p (ER.lessByF p B r m).1 ∧ Bd p (ER.lessByF p B r m).2
  | [], r, m, _, h1, h2, h3, h4 => ⟨h1, h2, h3, h4⟩
  | b :: B, r, m, hB, h1, h2, h3, h4 => by
    have hb := hB b (List.mem_cons_self ..)
    rw [lessByF_cons]
    split
    · exact lessByF_inv hp B r m (fun x hx => hB x (List.mem_cons_of_mem _ hx)) h1 h2 h3 h4
    · exact lessByF_inv hp B _ _ (fun x hx => hB x (List.mem_cons_of_mem _ hx)) (by rw [lessF_len _ _ _ _ (by rw [h1, hb.row]), h1]) (by rw [lessF_len _ _ _ _ (by rw [h2, hb.mix]), h2]) (lessF_bd hp _ _ _) (lessF_bd hp _ _ _)
def sp_lessened_by (K : PySem.W.Frag) : Sp := fun vs H Q _ => ∃ (p : Int) (n m : Nat) (a : Addr) (xs : List V) (B : List BRow) (v u : V) (r mx : List Int), vs = [.int p, .ref a, v, u] ∧ H a = some (.lst xs) ∧ Paired (TR K H) xs B ∧ (∀ b ∈ B, BWf p n m b) ∧ TI K H v r ∧ TI K H u mx ∧ r.length = n ∧ mx.length = m ∧ n ≤ 100 ∧ m ≤ 100 ∧ Bd p r ∧ Bd p mx ∧ P3 p ∧
  ∀ t v u H', Same H H' → SqT K H' t [v, u] → TI K H' v (ER.lessByF p B r mx).1 → TI K H' u (ER.lessByF p B r mx).2 → Q (.ref t) H'
theorem ok_lessened_by (T : TX K mg w) (c_lessened : C8.Cal P w K mg base 1 "lessened" (sp_lessened K) []) : C8.Cal P w K mg base 2 "lessened_by" (sp_lessened_by K) [] := by
  refine T.cal (d := d_lessened_by) 33 32 rfl rfl (S := sc_lessened_by) (fun _ _ _ _ _ _ us hl => match us, hl with | [_, _, _, _], _ => rfl) (fun vs H Q E h => ?_) (fun cdv A outer s H vs Q E hr h => ?_)
  · obtain ⟨p, n, m, a, xs, B, v, u, r, mx, rfl, _⟩ := h; rfl
  · obtain ⟨p, n, m, a, xs, B, v, u, r, mx, rfl, ha, pr, hB, hv, hu, lr, lm, ln, l2, br, bm, hp, k⟩ := h
    have pp := hp.pos
    have p5 := hp.le
    refine ⟨_, (pss_cons (ps_for PassesOwn.never rfl (pi_list (pv 1)) (pg_tup rfl (pgs_cons (pg_name (i := 4) sc_lessened_by.nd rfl (by first | exact Or.inl rfl | exact Or.inr rfl)) (pgs_cons (pg_name (i := 5) sc_lessened_by.nd rfl (by first | exact Or.inl rfl | exact Or.inr rfl)) (pgs_cons (pg_name (i := 6) sc_lessened_by.nd rfl (by first | exact Or.inl rfl | exact Or.inr rfl)) pgs_nil)))) (pss_cons (ps_set (i := 7) sc_lessened_by.nd rfl (by first | exact Or.inl rfl | exact Or.inr rfl) (pe_ix ix_tup (pv 2) (pv 4) (fun _ _ => rfl)))
    (pss_one (ps_if (pt_cmpR op_ne (pv 7) pe_int (nomark _)) (pss_cons (ps_set (i := 2) sc_lessened_by.nd rfl (by first | exact Or.inl rfl | exact Or.inr rfl) (C8.pe_c c_lessened hr (by decide) (by rfl) (pa_cons (pv 0) (pa_cons (pv 2) (pa_cons (pv 5) (pa_cons (pv 7) pa_nil))))))
    (pss_one (ps_set (i := 3) sc_lessened_by.nd rfl (by first | exact Or.inl rfl | exact Or.inr rfl) (C8.pe_c c_lessened hr (by decide) (by rfl) (pa_cons (pv 0) (pa_cons (pv 3) (pa_cons (pv 6) (pa_cons (pv 7) pa_nil)))))))) pss_nil))))
    (pss_one (ps_ret (pe_tup (pa_cons (pv 2) (pa_cons (pv 3) pa_nil)))))), ?_⟩
    refine ⟨_, rfl, a, rfl, ⟨_, SqL.of ha⟩, ?_⟩
    refine for_it walk_list (fun i σ H' => ∃ (c4 c5 c6 c7 : Option V) (v u : V) (r' m' : List Int), σ = [some (.int p), some (.ref a), some v, some u, c4, c5, c6, c7] ∧ Same H H' ∧ TI K H' v r' ∧ TI K H' u m' ∧ r'.length = n ∧ m'.length = m ∧ Bd p r' ∧ Bd p m' ∧
        ER.lessByF p (B.drop i) r' m' = ER.lessByF p B r mx)
      ⟨none, none, none, none, v, u, r, mx, rfl, Same.refl _, hv, hu, lr, lm, br, bm, rfl⟩ (fun i σ H' _ ⟨_, _, _, _, _, _, _, _, _, s, _⟩ => SqL.of (s _ _ ha)) ?_ ?_
    · rintro i x σ H2 H3 hi ⟨c4, c5, c6, c7, v, u, r', m', rfl, s2, hv, hu, lr, lm, br, bm, hg⟩ ⟨rfl, hxi⟩
      obtain ⟨b, hb1, tb, ur, um, rfl, hb2, hb3, hb4⟩ := paired_get pr hxi
      obtain ⟨hlt, e⟩ := List.getElem?_eq_some_iff.mp hb1
      have hw := hB b (List.mem_of_getElem? hb1)
      have hat := hw.at_
      rw [List.drop_eq_getElem_cons hlt, e, lessByF_cons] at hg
      have c1 := br.cf pp b.at_
      have hv0 := hv
      obtain ⟨va, rfl, hvs⟩ := hv0
      refine ⟨tb, _, rfl, Same.tup s2 hb2, rfl, _, _, rfl, _, _, rfl, _, _, rfl, rfl, ?_⟩
      refine ⟨_, rfl, _, rfl, va, _, _, _, rfl, rfl, hvs, at_int (by omega) (by omega), ?_⟩
      rw [Int.toNat_natCast]
      refine ⟨_, rfl, rfl, _, rfl, ?_⟩
      by_cases h0 : cf r' b.at_ = 0
      · refine iteN (neF h0) ?_
        rw [if_pos h0] at hg
        exact ⟨_, _, _, _, _, _, _, _, rfl, s2, hv, hu, lr, lm, br, bm, hg⟩
      · refine iteI (neT h0) ?_
        rw [if_neg h0] at hg
        refine ⟨_, rfl, _, rfl, _, rfl, _, rfl, p, _, _, _, r', b.row, rfl, hv, hb3.same s2, by rw [lr, hw.row], by omega, hp, by omega, by omega, fun v3 H3 s3 hv3 => ?_⟩
        refine ⟨_, rfl, _, rfl, _, rfl, _, rfl, p, _, _, _, m', b.mix, rfl, hu.same s3, hb4.same (s2.trans s3), by rw [lm, hw.mix], by omega, hp, by omega, by omega, fun v4 H4 s4 hv4 => ?_⟩
        exact ⟨_, _, _, _, v3, v4, _, _, rfl, s2.trans (s3.trans s4), hv3.same s4, hv4, by rw [lessF_len _ _ _ _ (by rw [lr, hw.row]), lr], by rw [lessF_len _ _ _ _ (by rw [lm, hw.mix]), lm], lessF_bd pp _ _ _, lessF_bd pp _ _ _, hg⟩
    · rintro σ H2 ⟨c4, c5, c6, c7, v, u, r', m', rfl, s2, hv, hu, lr, lm, br, bm, hg⟩
      rw [paired_len pr, List.drop_length] at hg
      have hg' : (r', m') = ER.lessByF p B r mx := hg
      refine ⟨_, rfl, _, rfl, by show 2 ≤ sizeLine; decide, fun t nt => ?_⟩
      have s3 := Same.new (o := .tup [v, u]) nt
      refine k t v u _ (s2.trans s3) (SqT.of upd_same) ?_ ?_
      · rw [← hg']; exact hv.same s3
      · rw [← hg']; exact hu.same s3
end
end EV
end
section
set_option Elab.async false
set_option linter.all false
set_option maxRecDepth 100000
set_option maxHeartbeats 4000000
namespace EV
open PySem PySem.Spec PyProof.Rows L2
open ER (cf Bd Row P3 Rule Pan BRow)
section
variable {P : Program} {w : World} {K : PySem.W.Frag} {mg : Str → Option Value} {base : Heap}
/-- (0,) * n -/
theorem rep_zeros {H : Hp} {l : Addr} {n : Nat} {Q : VK} (h : H l = some (.tup [V.int 0])) (hn : n ≤ 1000) (k : ∀ v H', Same H H' → TI K H' v (List.replicate n 0) → Q v H') : rRepA K (.ref l) (.int (n : Int)) H Q := by
  refine ⟨l, n, [V.int 0], rfl, rfl, SqT.of h, by simp, by omega, by omega, by simp, fun e => ?_, fun _ p np => ?_⟩
  · have : n = 1 := by omega
    subst this
    exact k _ _ (Same.refl _) ⟨l, rfl, SqT.of h⟩
  · rw [Int.toNat_natCast, flat0]
    exact k _ _ (Same.new np) TI.made
def litsF (r : List Int) : List Int := ((List.range r.length).filter fun i => !decide (cf r i = 0)).map fun (i : Nat) => (i : Int)
theorem litsF_lit : ∀ r : List Int, litsF r = [] ∧ ER.litF r = none ∨ ∃ (l : Nat) (t : List Int), litsF r = (l : Int) :: t ∧ ER.litF r = some l ∧ l < r.length ∧ cf r l ≠ 0
  | [] => .inl ⟨rfl, rfl⟩
  | c :: r => by
    have e : litsF (c :: r) = (if c = 0 then [] else [0]) ++ (litsF r).map (· + 1) := by
      unfold litsF
      rw [List.length_cons, List.range_succ_eq_map, List.filter_cons, List.filter_map, List.map_map]
      have h2 : (List.filter ((fun i => !decide (cf (c :: r) i = 0)) ∘ Nat.succ) (List.range r.length)) = List.filter (fun i => !decide (cf r i = 0)) (List.range r.length) := rfl
      rw [h2]
      by_cases h : c = 0
      · rw [if_pos h, if_neg (by rw [ER.cf_zero]; simp [h])]
        simp [Function.comp_def]
      · rw [if_neg h, if_pos (by rw [ER.cf_zero]; simp [h])]
        simp [Function.comp_def]
    rw [e]
    unfold ER.litF
    by_cases h : c = 0
    · rw [if_pos h, if_pos h]
      rcases litsF_lit r with ⟨h1, h2⟩ | ⟨l, t, h1, h2, h3, h4⟩
      · rw [h1, h2]; exact .inl ⟨rfl, rfl⟩
      · rw [h1, h2]
        exact .inr ⟨l + 1, t.map (· + 1), by simp, rfl, by rw [List.length_cons]; omega, by rw [ER.cf_succ]; exact h4⟩
    · rw [if_neg h, if_neg h]
      exact .inr ⟨0, (litsF r).map (· + 1), by simp, rfl, by simp, h⟩
theorem basisStep_eq (p : Int) (bs : List (List (Int × Int))) (n : Nat) (B : List BRow) (k : Nat) {r m : List Int} (e : (r, m) = ER.lessByF p B (ER.pressF p (List.replicate n 0) (bs.getD (k / n) []) ((k % n : Nat) : Int) 1) (ER.unitF (bs.length * n) k)) :
    ER.basisStep p bs n B k = match ER.litF r with
      | none => B
      | some l => B ++ [⟨l, ER.lessF p (List.replicate n 0) r (-ER.invF p (cf r l)), ER.lessF p (List.replicate (bs.length * n) 0) m (-ER.invF p (cf r l))⟩] := by
  unfold ER.basisStep
  rw [← e] <;> rfl
theorem eqvN_L (r : List Int) : PyData.eqv (.list (r.map PyData.int)) (.list []) = decide (r = []) := by
  cases r with
  | nil => rfl
  | cons a r => rw [PyData.eqv, List.map_cons, PyData.eqvAll]; rfl
theorem ok_dL (r : List Int) : OkD 1 (.list (r.map PyData.int)) := OkD.list fun d hd => by
  obtain ⟨i, _, rfl⟩ := List.mem_map.mp hd
  exact OkD.int i
theorem ok_dLN {n : Nat} : OkD (n + 1) (.list []) := OkD.list fun _ h => by cases h
theorem Same.upd_lst {H : Hp} {a : Addr} {xs : List V} {o : HO} (h : H a = some (.lst xs)) : KeepT K H (upd H a o) := keepT_lst h
def sp_basis_of (K : PySem.W.Frag) : Sp := fun vs H Q _ => ∃ (p : Int) (v : V) (bs : List (List (Int × Int))) (n : Nat), vs = [v, .int (n : Int)] ∧ TPan K H v p bs ∧ Pan p bs ∧ 0 < n ∧ n ≤ 20 ∧
  ∀ a xs H', Same H H' → H' a = some (.lst xs) → Paired (TR K H') xs (ER.basisF p bs n) → (∀ b ∈ ER.basisF p bs n, BWf p n (bs.length * n) b) → Q (.ref a) H'
theorem ok_basis_of (T : TX K mg w) (c_behind_press : C8.Cal P w K mg base 1 "behind_press" (sp_behind_press K) []) (c_lessened : C8.Cal P w K mg base 1 "lessened" (sp_lessened K) []) (c_lessened_by : C8.Cal P w K mg base 2 "lessened_by" (sp_lessened_by K) []) : C8.Cal P w K mg base 3 "basis_of" (sp_basis_of K) [] := by
  refine T.cal (d := d_basis_of) 34 33 rfl rfl (S := sc_basis_of) (fun _ _ _ _ _ _ us hl => match us, hl with | [_, _], _ => rfl) (fun vs H Q E h => ?_) (fun cdv A outer s H vs Q E hr h => ?_)
  · obtain ⟨p, v, bs, n, rfl, _⟩ := h; rfl
  · obtain ⟨p, v, bs, n, rfl, hv, hP, n0, ln, k⟩ := h
    obtain ⟨va, ub, rfl, hs, bb, xs, rfl, hb, pr⟩ := hv
    have hp := hP.hp
    have pp := hp.pos
    have p5 := hp.le
    have pl := paired_len pr
    have h3 := hP.len
    obtain ⟨m, hm⟩ : ∃ m, m = bs.length * n := ⟨_, rfl⟩
    have lm : m ≤ 60 := by rw [hm]; exact Nat.le_trans (Nat.mul_le_mul h3 ln) (by decide)
    have em : (xs.length : Int) * (n : Int) = (m : Int) := by rw [hm, pl]; exact (Int.natCast_mul _ _).symm
    refine ⟨_, (pss_cons (ps_asg (pv 0) (pg_tup rfl (pgs_cons (pg_name (i := 2) sc_basis_of.nd rfl (by first | exact Or.inl rfl | exact Or.inr rfl)) (pgs_cons (pg_name (i := 3) sc_basis_of.nd rfl (by first | exact Or.inl rfl | exact Or.inr rfl)) pgs_nil))))
    (pss_cons (ps_set (i := 4) sc_basis_of.nd rfl (by first | exact Or.inl rfl | exact Or.inr rfl) (pe_lst pa_nil))
    (pss_cons (ps_for PassesOwn.never rfl (pi_range1 rfl (T.fr 11 rfl) (pa_cons (pe_op op_mul (pe_callB call_len_seq (by rfl) (T.fr 4 rfl) (by decide +kernel) (pa_cons (pv 3) pa_nil)) (pv 1)) pa_nil)) (pg_name (i := 5) sc_basis_of.nd rfl (by first | exact Or.inl rfl | exact Or.inr rfl)) (pss_cons (ps_set (i := 6) sc_basis_of.nd rfl (by first | exact Or.inl rfl | exact Or.inr rfl) (pe_op op_rep (pe_lst (pa_cons pe_int pa_nil)) (pe_op op_mul (pe_callB call_len_seq (by rfl) (T.fr 4 rfl) (by decide +kernel) (pa_cons (pv 3) pa_nil)) (pv 1))))
    (pss_cons (ps_asg pe_int (pg_sub (pv 6) (pv 5) set_list))
    (pss_cons (ps_set (i := 7) sc_basis_of.nd rfl (by first | exact Or.inl rfl | exact Or.inr rfl) (C8.pe_c c_behind_press hr (by decide) (by rfl) (pa_cons (pv 2) (pa_cons (pe_op op_rep (pe_lst (pa_cons pe_int pa_nil)) (pv 1)) (pa_cons (pe_ix ix_tup (pv 3) (pe_op op_fdiv (pv 5) (pv 1)) (fun _ _ => rfl)) (pa_cons (pe_op op_mod (pv 5) (pv 1)) (pa_cons pe_int pa_nil)))))))
    (pss_cons (ps_asg (C8.pe_c c_lessened_by hr (by decide) (by rfl) (pa_cons (pv 2) (pa_cons (pv 4) (pa_cons (pv 7) (pa_cons (pe_callTy call_tuple_of (by rfl) (T.fr 2 rfl) (by decide +kernel) (pa_cons (pv 6) pa_nil)) pa_nil))))) (pg_tup rfl (pgs_cons (pg_name (i := 7) sc_basis_of.nd rfl (by first | exact Or.inl rfl | exact Or.inr rfl)) (pgs_cons (pg_name (i := 8) sc_basis_of.nd rfl (by first | exact Or.inl rfl | exact Or.inr rfl)) pgs_nil))))
    (pss_cons (ps_set (i := 9) sc_basis_of.nd rfl (by first | exact Or.inl rfl | exact Or.inr rfl) (pe_lc (own := [("place", 12), ("colour", 13)]) (g := (gTup K 2 (gCons (gName 12) (gCons (gName 13) gNil)))) rfl sc_basis_of.nd (pi_enumT (by rfl) (T.fr 12 rfl) (pa_cons (pv 7) pa_nil)) (blkOk_by (own := [("place", 12), ("colour", 13)]) (N := n_basis_of) (sc := defScope s_basis_of) (by decide +kernel)) (fun _ _ _ _ _ => (pg_tup rfl (pgs_cons (pg_name (i := 12) sc_basis_of.nd rfl (by first | exact Or.inl rfl | exact Or.inr rfl)) (pgs_cons (pg_name (i := 13) sc_basis_of.nd rfl (by first | exact Or.inl rfl | exact Or.inr rfl)) pgs_nil)))) (fun _ _ _ _ _ => (pts_one (pt_cmpR op_ne (pv 13) pe_int (nomark _)))) (fun _ _ _ _ _ => (pv 12))) (sw_cell rfl))
    (pss_one (ps_if (pt_cmpR (op_neD hr.units) (pv 9) (pe_lst pa_nil) (nomark _)) (pss_cons (ps_set (i := 10) sc_basis_of.nd rfl (by first | exact Or.inl rfl | exact Or.inr rfl) (pe_ix ix_list (pe_lc (own := [("colour", 13)]) (g := (gName 13)) rfl sc_basis_of.nd (pi_range1 rfl (T.fr 11 rfl) (pa_cons (pv 2) pa_nil)) (blkOk_by (own := [("colour", 13)]) (N := n_basis_of) (sc := defScope s_basis_of) (by decide +kernel)) (fun _ _ _ _ _ => (pg_name (i := 13) sc_basis_of.nd rfl (by first | exact Or.inl rfl | exact Or.inr rfl))) (fun _ _ _ _ _ => (pts_one (pt_cmpR op_eq (pe_op op_mod (pe_op op_mul (pv 13) (pe_ix (show IxR _ (rIxT K) from ix_tup) (pv 7) (pe_ix (show IxR _ (rIxL K) from ix_list) (pv 9) pe_int (fun _ _ => rfl)) (fun _ _ => rfl))) (pv 2)) pe_int (nomark _)))) (fun _ _ _ _ _ => (pv 13))) pe_int (fun _ _ => rfl)))
    (pss_cons (ps_set (i := 11) sc_basis_of.nd rfl (by first | exact Or.inl rfl | exact Or.inr rfl) (pe_op op_repA (pe_tup (pa_cons pe_int pa_nil)) (pe_callB call_len_seq (by rfl) (T.fr 4 rfl) (by decide +kernel) (pa_cons (pv 8) pa_nil))))
    (pss_one (ps_expr (pe_bm PySem.F.plainAttrs_list PySem.F.slot_list_append PySem.F.type_list_append mt_append (pv 4) (pa_cons (pe_tup (pa_cons (pe_ix ix_list (pv 9) pe_int (fun _ _ => rfl)) (pa_cons (C8.pe_c c_lessened hr (by decide) (by rfl) (pa_cons (pv 2) (pa_cons (pe_op op_repA (pe_tup (pa_cons pe_int pa_nil)) (pv 1)) (pa_cons (pv 7) (pa_cons (pe_un un_neg (pv 10)) pa_nil))))) (pa_cons (C8.pe_c c_lessened hr (by decide) (by rfl) (pa_cons (pv 2) (pa_cons (pv 11) (pa_cons (pv 8) (pa_cons (pe_un un_neg (pv 10)) pa_nil))))) pa_nil)))) pa_nil)))))) pss_nil))))))))
    (pss_one (ps_ret (pv 4)))))), ?_⟩
    refine ⟨_, rfl, va, _, rfl, hs, rfl, _, _, rfl, _, _, rfl, rfl, ?_⟩
    refine ⟨by show 0 ≤ sizeLine; decide, fun F nF => ?_⟩
    have s1 := Same.new (o := .lst []) nF
    have hF1 : upd H F (.lst []) F = some (.lst []) := upd_same
    generalize upd H F (.lst []) = H1 at s1 hF1
    refine ⟨_, rfl, bb, _, rfl, .inr (Same.tup s1 hb), _, rfl, _, _, rfl, rfl, .inl (by omega), m, by dsimp only; rw [em], by omega, by omega, ?_⟩
    refine for_it walk_range (fun i σ H' => ∃ (c5 c6 c7 c8 c9 c10 c11 : Option V) (ys : List V) (B : List BRow), σ = [some (.ref va), some (.int (n : Int)), some (.int p), some (.ref bb), some (.ref F), c5, c6, c7, c8, c9, c10, c11, none, none] ∧ Same H H' ∧ H' F = some (.lst ys) ∧ Paired (TR K H') ys B ∧ (∀ b ∈ B, BWf p n m b) ∧ B.length ≤ i ∧
        ((List.range m).drop i).foldl (ER.basisStep p bs n) B = ER.basisF p bs n)
      ⟨none, none, none, none, none, none, none, [], [], rfl, s1, hF1, .nil, (fun b hb => by cases hb), Nat.le_refl _, by rw [hm]; rfl⟩ (fun _ _ _ _ _ => trivial) ?_ ?_
    · rintro i x σ H1' H2 hi ⟨c5, c6, c7, c8, c9, c10, c11, ys, B, rfl, s2, hF2, pB, hB, lB, hg⟩ ⟨rfl, rfl⟩
      have hi' : i < m := by simpa using hi
      have hk1 : i / n < xs.length := by rw [pl]; exact Nat.div_lt_of_lt_mul (by rw [Nat.mul_comm, ← hm]; exact hi')
      have hk2 : i % n < n := Nat.mod_lt _ n0
      obtain ⟨xb, hxb, hxb2⟩ : ∃ xb, xs[i / n]? = some xb ∧ TP K H xb (bs.getD (i / n) []) := by
        obtain ⟨y, h1, h2⟩ := paired_get pr (List.getElem?_eq_getElem hk1)
        exact ⟨_, List.getElem?_eq_getElem hk1, by rw [List.getD_eq_getElem?_getD, h1]; exact h2⟩
      have hRule : Rule p (bs.getD (i / n) []) := by
        have : i / n < bs.length := by omega
        rw [List.getD_eq_getElem?_getD, List.getElem?_eq_getElem this]
        exact hP.rule _ (List.getElem_mem this)
      rw [List.drop_eq_getElem_cons (by rw [List.length_range]; exact hi'), List.getElem_range, List.foldl_cons] at hg
      simp only [Int.zero_add]
      have e0 : (0 : Int) + (i : Int) = (i : Int) := Int.zero_add _
      -- start
      refine ⟨by show 1 ≤ sizeLine; decide, fun l1 n1 => ?_⟩
      have s3 := Same.new (o := .lst [V.int 0]) n1
      have hl1 : upd H2 l1 (.lst [V.int 0]) l1 = some (.lst [V.int 0]) := upd_same
      have hF3 : upd H2 l1 (.lst [V.int 0]) F = some (.lst ys) := s3 _ _ hF2
      generalize upd H2 l1 (.lst [V.int 0]) = H3 at s3 hl1 hF3
      refine ⟨_, rfl, bb, _, rfl, .inr (Same.tup (s2.trans s3) hb), _, rfl, _, _, rfl, rfl, .inl (by omega), l1, _, _, rfl, rfl, hl1, by omega, by omega, by rw [em, Int.toNat_natCast, sizeLine_eq]; simp only [List.length_cons, List.length_nil]; omega, fun S nS => ?_⟩
      rw [em, Int.toNat_natCast, flat0]
      have nS0 : H S = none := (s2.trans s3).free nS
      have nSF : S ≠ F := fun e => by rw [e, hF3] at nS; cases nS
      have s4 := Same.new (o := .lst ((List.replicate m (0 : Int)).map V.int)) nS
      have hS4 : upd H3 S (.lst ((List.replicate m (0 : Int)).map V.int)) S = some (.lst ((List.replicate m (0 : Int)).map V.int)) := upd_same
      have hF4 : upd H3 S (.lst ((List.replicate m (0 : Int)).map V.int)) F = some (.lst ys) := s4 _ _ hF3
      generalize upd H3 S (.lst ((List.replicate m (0 : Int)).map V.int)) = H4 at s4 hS4 hF4
      have k24 : KeepT K H2 H4 := keepT (s3.trans s4)
      have s24 : Same H H4 := s2.trans (s3.trans s4)
      refine ⟨_, rfl, _, rfl, S, _, _, i, rfl, rfl, hS4, ixN_nat rfl (by rw [List.length_map, List.length_replicate]; exact hi'), ?_⟩
      rw [map_set_int]
      have s25 : Same H (upd H4 S (.lst ((ER.unitF m i).map V.int))) := Same.put s24 nS0
      have k45 : KeepT K H4 (upd H4 S (.lst ((ER.unitF m i).map V.int))) := keepT_lst hS4
      have hS5 : upd H4 S (.lst ((ER.unitF m i).map V.int)) S = some (.lst ((ER.unitF m i).map V.int)) := upd_same
      have hF5 : upd H4 S (.lst ((ER.unitF m i).map V.int)) F = some (.lst ys) := by rw [upd_ne nSF.symm]; exact hF4
      change tSeq _ _ _ _ (upd H4 S (.lst ((ER.unitF m i).map V.int)))
      generalize upd H4 S (.lst ((ER.unitF m i).map V.int)) = H5 at s25 k45 hS5 hF5
      have k25 := k24.trans k45
      -- ring
      refine ⟨_, rfl, by show 1 ≤ sizeLine; decide, fun l2 n2 => ?_⟩
      have s6 := Same.new (o := .lst [V.int 0]) n2
      have hl2 : upd H5 l2 (.lst [V.int 0]) l2 = some (.lst [V.int 0]) := upd_same
      generalize upd H5 l2 (.lst [V.int 0]) = H6 at s6 hl2
      refine ⟨_, rfl, l2, _, _, rfl, rfl, hl2, by omega, by omega, by rw [Int.toNat_natCast, sizeLine_eq]; simp only [List.length_cons, List.length_nil]; omega, fun Z nZ => ?_⟩
      rw [Int.toNat_natCast, flat0]
      have s7 := s6.trans (Same.new (o := .lst ((List.replicate n (0 : Int)).map V.int)) nZ)
      have hZ7 : upd H6 Z (.lst ((List.replicate n (0 : Int)).map V.int)) Z = some (.lst ((List.replicate n (0 : Int)).map V.int)) := upd_same
      generalize upd H6 Z (.lst ((List.replicate n (0 : Int)).map V.int)) = H7 at s7 hZ7
      have ediv : (i : Int) / (n : Int) = ((i / n : Nat) : Int) := (Int.natCast_ediv _ _).symm
      have emod : (i : Int) % (n : Int) = ((i % n : Nat) : Int) := (Int.natCast_emod _ _).symm
      refine ⟨_, rfl, _, rfl, _, rfl, _, _, rfl, rfl, ⟨by omega, by omega⟩, bb, _, _, _, rfl, rfl, Same.tup (s25.trans s7) hb, by rw [ediv]; exact atI_nat hxb, ?_⟩
      refine ⟨_, rfl, _, rfl, _, _, rfl, rfl, by show (0 : Int) < _; omega, p, ((i % n : Nat) : Int), 1, _, xb, List.replicate n 0, bs.getD (i / n) [], by rw [← emod]; rfl, ⟨Z, rfl, .inl (SqL.of hZ7)⟩, hxb2.same (s25.trans s7), hp, hRule.amt, by intro e; have := congrArg List.length e; simp at this; omega, by simp; omega, fun vr H8 s8 hr8 => ?_⟩
      have s58 := s7.trans s8
      have hF8 := s58 _ _ hF5
      have hS8 := s58 _ _ hS5
      have k28 := k25.trans (keepT s58)
      have s28 := s25.trans s58
      -- ring, mix
      refine ⟨_, rfl, _, rfl, _, rfl, _, rfl, S, _, rfl, .inl ⟨SqL.of hS8, fun q nq => ?_⟩⟩
      have s9 := Same.new (o := .tup ((ER.unitF m i).map V.int)) nq
      have hq9 : TI K (upd H8 q (.tup ((ER.unitF m i).map V.int))) (.ref q) (ER.unitF m i) := TI.made
      generalize upd H8 q (.tup ((ER.unitF m i).map V.int)) = H9 at s9 hq9
      have lP : (ER.pressF p (List.replicate n 0) (bs.getD (i / n) []) ((i % n : Nat) : Int) 1).length = n := by rw [pressF_len, List.length_replicate]
      have lU : (ER.unitF m i).length = m := by unfold ER.unitF; rw [List.length_set, List.length_replicate]
      have bP : Bd p (ER.pressF p (List.replicate n 0) (bs.getD (i / n) []) ((i % n : Nat) : Int) 1) := pressF_bd pp _ _ _ _ (Bd.rep pp _)
      have bU : Bd p (ER.unitF m i) := (Bd.rep pp _).set ⟨by omega, by have := hp.two; omega⟩
      obtain ⟨i1, i2, i3, i4⟩ := lessByF_inv pp B _ _ hB lP lU bP bU
      refine ⟨p, n, m, F, ys, B, vr, _, _, _, rfl, s9 _ _ hF8, paired_mono (fun _ _ z => z.keep (k28.trans (keepT s9))) pB, hB, hr8.same s9, hq9, lP, lU, by omega, by omega, bP, bU, hp, fun t10 v10 u10 H10 s10 ht10 hv10 hu10 => ?_⟩
      generalize hrm : ER.lessByF p B (ER.pressF p (List.replicate n 0) (bs.getD (i / n) []) ((i % n : Nat) : Int) 1) (ER.unitF m i) = rm at hv10 hu10 i1 i2 i3 i4
      obtain ⟨r, mx⟩ := rm
      dsimp only at hv10 hu10 i1 i2 i3 i4
      have s210 := s28.trans (s9.trans s10)
      have k210 := k28.trans (keepT (s9.trans s10))
      have hF10 := (s9.trans s10) _ _ hF8
      refine ⟨t10, _, rfl, ht10, rfl, _, _, rfl, _, _, rfl, rfl, ?_⟩
      -- lit
      have hv10' := hv10
      obtain ⟨va10, rfl, hvs10⟩ := hv10'
      refine ⟨_, rfl, va10, _, rfl, hvs10, fun D nD => ?_⟩
      refine lc_int (walk_enumT (xs := r.map V.int)) (fun H' s => Same.tup s hvs10) (fun i => !decide (cf r i = 0)) (fun i => .int (i : Nat)) (by rw [sizeLine_eq, List.length_map]; omega) nD ?_ ?_
      · rintro j x H11 H12 post postN hj s11 ⟨t, x1, y1, rfl, nt, rfl, hx1, hy1⟩ k1 k2
        dsimp only at hx1
        obtain rfl := Option.some.inj hx1
        obtain ⟨rfl, _⟩ := map_get hy1
        have s12 := Same.new (o := .tup [.int (j : Nat), .int (cf r j)]) nt
        refine ⟨t, _, rfl, SqT.of upd_same, rfl, _, _, rfl, _, _, rfl, rfl, rfl, ?_⟩
        refine ⟨_, rfl, rfl, _, rfl, ?_⟩
        by_cases h0 : cf r j = 0
        · exact iteN (neF h0) (k2 _ s12 (by simp [h0]))
        · exact iteI (neT h0) ⟨_, rfl, k1 _ s12 (by simp [h0])⟩
      · intro H11 s11 hD11
        have eD : (((List.range (r.map V.int).length).filter fun i => !decide (cf r i = 0)).map fun i => V.int (i : Nat)) = (litsF r).map V.int := by
          rw [List.length_map]; unfold litsF; rw [List.map_map]; rfl
        rw [eD] at hD11
        have s211 := s210.trans s11
        have k211 := k210.trans (keepT s11)
        have hF11 := s11 _ _ hF10
        refine ⟨_, rfl, by show 0 ≤ sizeLine; decide, fun t nt => ?_⟩
        have s12 := Same.new (o := .lst []) nt
        refine ⟨_, _, .lst (SqL.of (s12 _ _ hD11)) (dpAll_ints _), .lst (SqL.of upd_same) .nil, (ok_dL _).shaped, (ok_dLN (n := 0)).shaped, _, rfl, ?_⟩
        generalize upd H11 t (.lst []) = H12 at s12
        rw [eqvN_L]
        have hrm' := hrm.symm
        rw [hm] at hrm'
        have hst := basisStep_eq p bs n B i hrm'
        rw [← hm] at hst
        rcases litsF_lit r with ⟨e1, e2⟩ | ⟨l, tl, e1, e2, e3, e4⟩
        · refine iteN (by simp [e1]) ?_
          rw [hst, e2] at hg
          exact ⟨_, _, _, _, _, _, _, ys, B, rfl, s211.trans s12, s12 _ _ hF11, paired_mono (fun _ _ z => z.keep (k211.trans (keepT s12))) pB, hB, by omega, hg⟩
        · refine iteI (by simp [e1]) ?_
          rw [hst, e2] at hg
          have hD12 := s12 _ _ hD11
          rw [e1] at hD12
          have hvs12 := Same.tup (s11.trans s12) hvs10
          have cl := i3.cf pp l
          have cl0 : 0 < cf r l := by omega
          obtain ⟨j0, j1, _⟩ := ER.invF_ok hp cl0 cl.2
          refine ⟨_, rfl, p, rfl, by omega, by omega, fun D2 nD2 => ?_⟩
          refine lc_int walk_range (G := fun _ => True) (fun _ _ => trivial) (fun i : Nat => decide ((0 + (i : Int)) * cf r l % p = 1)) (fun i : Nat => V.int (0 + (i : Int))) (by rw [sizeLine_eq]; omega) nD2 ?_ ?_
          · rintro j x H13 H14 post postN hj s13 ⟨rfl, rfl⟩ k1 k2
            refine ⟨rfl, _, rfl, _, rfl, _, rfl, D, _, _, _, rfl, rfl, SqL.of (s13 _ _ hD12), at0, va10, _, _, _, rfl, rfl, Same.tup s13 hvs12, at_int (by omega) (by omega), _, _, rfl, rfl, .inr (by rw [Int.toNat_natCast]; omega), _, rfl, _, _, rfl, rfl, pp, rfl, _, rfl, ?_⟩
            rw [Int.toNat_natCast]
            by_cases hq : (0 + (j : Int)) * cf r l % p = 1
            · exact iteI (eqT hq) ⟨_, rfl, k1 _ (Same.refl _) (decide_eq_true hq)⟩
            · exact iteN (eqF hq) (k2 _ (Same.refl _) (decide_eq_false hq))
          · intro H13 s13 hD13
            rw [inv_list hp cl0 cl.2] at hD13
            refine ⟨_, _, _, _, rfl, rfl, SqL.of hD13, at0, ?_⟩
            -- bare
            refine ⟨by show 1 ≤ sizeLine; decide, fun l3 n3 => ?_⟩
            have s14 := Same.new (o := .tup [V.int 0]) n3
            have hl3 : upd H13 l3 (.tup [V.int 0]) l3 = some (.tup [V.int 0]) := upd_same
            generalize upd H13 l3 (.tup [V.int 0]) = H14 at s14 hl3
            have s1014 := (s11.trans s12).trans (s13.trans s14)
            have hu14 := hu10.same s1014
            obtain ⟨ua, rfl, hus⟩ := hu14
            refine ⟨_, rfl, ua, _, rfl, .inr hus, ?_⟩
            rw [List.length_map, i2]
            refine rep_zeros hl3 (by omega) fun vb H15 s15 hb15 => ?_
            have s1015 := s1014.trans s15
            -- append
            refine ⟨_, rfl, .inl ⟨rfl, _, SqL.of (s1015 _ _ hF10)⟩, _, rfl, D, _, _, _, rfl, rfl, SqL.of ((s13.trans (s14.trans s15)) _ _ hD12), at0, _, rfl, by show 1 ≤ sizeLine; decide, fun l4 n4 => ?_⟩
            have s16 := Same.new (o := .tup [V.int 0]) n4
            have hl4 : upd H15 l4 (.tup [V.int 0]) l4 = some (.tup [V.int 0]) := upd_same
            generalize upd H15 l4 (.tup [V.int 0]) = H16 at s16 hl4
            refine ⟨_, rfl, ?_⟩
            refine rep_zeros hl4 (by omega) fun vz H17 s17 hz17 => ?_
            have s1017 := s1015.trans (s16.trans s17)
            refine ⟨_, rfl, _, rfl, _, rfl, p, _, vz, _, List.replicate n 0, r, rfl, hz17, hv10.same s1017, by simp [i1], by simp; omega, hp, by omega, by omega, fun v18 H18 s18 hv18 => ?_⟩
            have s1018 := s1017.trans s18
            refine ⟨_, rfl, _, rfl, _, rfl, _, rfl, _, rfl, p, _, vb, _, List.replicate m 0, mx, rfl, hb15.same ((s16.trans s17).trans s18), hu10.same s1018, by simp [i2], by simp; omega, hp, by omega, by omega, fun v19 H19 s19 hv19 => ?_⟩
            have s1019 := s1018.trans s19
            refine ⟨by show 3 ≤ sizeLine; decide, fun t20 n20 => ?_⟩
            have s20 := Same.new (o := .tup [.int (l : Int), v18, v19]) n20
            have ht20 : upd H19 t20 (.tup [.int (l : Int), v18, v19]) t20 = some (.tup [.int (l : Int), v18, v19]) := upd_same
            generalize upd H19 t20 (.tup [.int (l : Int), v18, v19]) = H20 at s20 ht20
            have s1020 := s1019.trans s20
            have hF20 := s1020 _ _ hF10
            have lB' := paired_len pB
            refine ⟨F, _, _, rfl, rfl, hF20, by rw [sizeLine_eq]; omega, ?_⟩
            have k20 : KeepT K H20 (upd H20 F (.lst (ys ++ [.ref t20]))) := keepT_lst hF20
            refine ⟨_, _, _, _, _, _, _, ys ++ [.ref t20], B ++ [_], rfl, Same.put (s210.trans s1020) nF, upd_same, ?_, ?_, ?_, hg⟩
            · refine paired_app (paired_mono (fun _ _ z => z.keep ((k210.trans (keepT s1020)).trans k20)) pB) (.cons ⟨t20, v18, v19, rfl, k20 _ _ (SqT.of ht20), ?_, ?_⟩ .nil)
              · exact (hv18.same (s19.trans s20)).keep k20
              · exact (hv19.same s20).keep k20
            · intro b hb
              rcases List.mem_append.mp hb with h | h
              · exact hB b h
              · rw [List.mem_singleton.mp h]
                exact ⟨by rw [← i1]; exact e3, by rw [lessF_len _ _ _ _ (by simp [i1])]; simp, by rw [lessF_len _ _ _ _ (by simp [i2])]; simp⟩
            · rw [List.length_append]; simp only [List.length_cons, List.length_nil]; omega
    · rintro σ H2 ⟨c5, c6, c7, c8, c9, c10, c11, ys, B, rfl, s2, hF2, pB, hB, lB, hg⟩
      rw [List.drop_eq_nil_of_le (by rw [List.length_range]; omega)] at hg
      have hg' : B = ER.basisF p bs n := hg
      subst hg'
      exact ⟨_, rfl, k F ys _ s2 hF2 pB (hm ▸ hB)⟩
end
end EV
end
section
set_option Elab.async false
set_option linter.all false
set_option maxRecDepth 100000
set_option maxHeartbeats 4000000
namespace EV
open PySem PySem.Spec PyProof.Rows L2
open ER (cf Bd Row P3 Rule Pan BRow)
section
variable {P : Program} {w : World} {K : PySem.W.Frag} {mg : Str → Option Value} {base : Heap}
theorem rep_zerosI {H : Hp} {l : Addr} {n : Int} {Q : VK} (h : H l = some (.tup [V.int 0])) (h0 : 0 ≤ n) (hn : n ≤ 1000) (k : ∀ v H', Same H H' → TI K H' v (List.replicate n.toNat 0) → Q v H') : rRepA K (.ref l) (.int n) H Q := by
  obtain ⟨m, rfl⟩ : ∃ m : Nat, n = (m : Int) := ⟨n.toNat, by omega⟩
  rw [Int.toNat_natCast] at k
  exact rep_zeros h (by omega) k
theorem cat_ints {H : Hp} {v u : V} {a b : List Int} {Q : VK} (h1 : TI K H v a) (h2 : TI K H u b) (hl : a.length + b.length ≤ 1000) (k : ∀ v H', Same H H' → TI K H' v (a ++ b) → Q v H') : rCatA K v u H Q := by
  obtain ⟨va, rfl, ha⟩ := h1
  obtain ⟨ub, rfl, hb⟩ := h2
  refine ⟨va, ub, _, _, rfl, rfl, ha, hb, by rw [sizeLine_eq, List.length_map, List.length_map]; omega, fun e => ?_, fun _ e => ?_, fun _ _ p np => ?_⟩
  · have e' : a = [] := List.map_eq_nil_iff.mp e
    subst e'
    exact k _ _ (Same.refl _) ⟨ub, rfl, hb⟩
  · have e' : b = [] := List.map_eq_nil_iff.mp e
    subst e'
    exact k _ _ (Same.refl _) ⟨va, rfl, by rw [List.append_nil]; exact ha⟩
  · rw [← List.map_append]
    exact k _ _ (Same.new np) TI.made
theorem ite_both {b : Bool} {A B : Prop} (h : A) (h' : B) : if b = true then A else B := by cases b <;> simp only [if_true, if_false, Bool.false_eq_true] <;> assumption
theorem any_all (r : List Int) : ((List.range r.length).map fun i => !decide (cf r i = 0)).any id = !(r.all fun x => decide (x = 0)) := by
  cases h : r.all fun x => decide (x = 0) with
  | true =>
    rw [List.all_eq_true] at h
    refine List.any_eq_false.mpr fun x hx => ?_
    obtain ⟨i, hi, rfl⟩ := List.mem_map.mp hx
    rw [List.mem_range] at hi
    have := h r[i] (List.getElem_mem hi)
    rw [ER.cf_lt hi]
    simpa using this
  | false =>
    obtain ⟨x, hx, hn⟩ := List.all_eq_false.mp h
    obtain ⟨i, hi, rfl⟩ := List.mem_iff_getElem.mp hx
    refine List.any_eq_true.mpr ⟨_, List.mem_map.mpr ⟨i, List.mem_range.mpr hi, rfl⟩, ?_⟩
    rw [ER.cf_lt hi]
    simpa using hn
theorem mixFrom_range (p : Int) (n : Nat) : ∀ (r : List Int) (k : Nat), ER.mixFrom p n k r = ((List.range r.length).filter fun i => !decide (cf r i = 0)).map fun i => ((((k + i) / n : Nat) : Int), (((k + i) % n : Nat) : Int), -cf r i % p)
  | [], k => rfl
  | c :: r, k => by
    rw [List.length_cons, List.range_succ_eq_map]
    unfold ER.mixFrom
    rw [List.filter_cons]
    have e : List.map (fun i => ((((k + i) / n : Nat) : Int), (((k + i) % n : Nat) : Int), -cf (c :: r) i % p)) (List.filter (fun i => !decide (cf (c :: r) i = 0)) (List.map Nat.succ (List.range r.length))) = ER.mixFrom p n (k + 1) r := by
      rw [mixFrom_range p n r (k + 1), List.filter_map, List.map_map]
      refine List.map_congr_left fun i _ => ?_
      show ((((k + (i + 1)) / n : Nat) : Int), (((k + (i + 1)) % n : Nat) : Int), -cf (c :: r) (i + 1) % p) = _
      rw [ER.cf_succ]
      have : k + (i + 1) = k + 1 + i := by omega
      rw [this]
    by_cases h : c = 0
    · rw [if_pos h, if_neg (by rw [ER.cf_zero]; simp [h]), e]
    · rw [if_neg h, if_pos (by rw [ER.cf_zero]; simp [h]), List.map_cons, e]
      rfl
/-- a tuple of triples of ints -/
def TQ (K : PySem.W.Frag) (H : Hp) (v : V) (ps : List (Int × Int × Int)) : Prop := ∃ a xs, v = .ref a ∧ SqT K H a xs ∧ Paired (fun x (q : Int × Int × Int) => TI K H x [q.1, q.2.1, q.2.2]) xs ps
theorem TQ.keep {H H' : Hp} {v : V} {ps : List (Int × Int × Int)} (k : KeepT K H H') (h : TQ K H v ps) : TQ K H' v ps := by
  obtain ⟨a, xs, e, q, r⟩ := h; exact ⟨a, xs, e, k a _ q, paired_mono (fun _ _ z => z.keep k) r⟩
def OQ (K : PySem.W.Frag) (H : Hp) (v : V) : Option (List (Int × Int × Int)) → Prop
  | none => v = .non
  | some ps => TQ K H v ps
def sp_found_presses (K : PySem.W.Frag) : Sp := fun vs H Q _ => ∃ (p : Int) (n : Nat) (v u : V) (bs : List (List (Int × Int))) (pic : List (Int × Int)), vs = [v, .int (n : Int), u] ∧ TPan K H v p bs ∧ Pan p bs ∧ TP K H u pic ∧ Pic p n pic ∧ 0 < n ∧ n ≤ 20 ∧
  ∀ v H', Same H H' → OQ K H' v (ER.foundF p bs n pic) → Q v H'
theorem coloursF_bd {p : Int} (hp : 0 < p) (n : Nat) {pic : List (Int × Int)} (h : ∀ q ∈ pic, 0 < q.2 ∧ q.2 < p) : Bd p (ER.coloursF n pic) := by
  have h2 : ∀ (l : List (Int × Int)) (f : List Int), (∀ q ∈ l, 0 < q.2 ∧ q.2 < p) → Bd p f → Bd p (l.foldl (fun f q => f.set q.1.toNat q.2) f) := by
    intro l
    induction l with
    | nil => intro f _ h; exact h
    | cons a l ih =>
      intro f hl hf
      have ha := hl a (List.mem_cons_self ..)
      exact ih _ (fun q hq => hl q (List.mem_cons_of_mem _ hq)) (hf.set ⟨by omega, ha.2⟩)
  exact h2 pic _ h (Bd.rep hp n)
theorem basisF_wf {p : Int} (hp : 0 < p) (bs : List (List (Int × Int))) (n : Nat) : ∀ b ∈ ER.basisF p bs n, BWf p n (bs.length * n) b := by
  have step : ∀ (k : Nat) (B : List BRow), (∀ b ∈ B, BWf p n (bs.length * n) b) → ∀ b ∈ ER.basisStep p bs n B k, BWf p n (bs.length * n) b := by
    intro k B hB
    have lP : (ER.pressF p (List.replicate n 0) (bs.getD (k / n) []) ((k % n : Nat) : Int) 1).length = n := by rw [pressF_len, List.length_replicate]
    have lU : (ER.unitF (bs.length * n) k).length = bs.length * n := by unfold ER.unitF; rw [List.length_set, List.length_replicate]
    have h := lessByF_inv2 (p := p) B _ _ hB lP lU
    rw [basisStep_eq p bs n B k (r := (ER.lessByF p B (ER.pressF p (List.replicate n 0) (bs.getD (k / n) []) ((k % n : Nat) : Int) 1) (ER.unitF (bs.length * n) k)).1) (m := (ER.lessByF p B (ER.pressF p (List.replicate n 0) (bs.getD (k / n) []) ((k % n : Nat) : Int) 1) (ER.unitF (bs.length * n) k)).2) rfl]
    generalize ER.lessByF p B (ER.pressF p (List.replicate n 0) (bs.getD (k / n) []) ((k % n : Nat) : Int) 1) (ER.unitF (bs.length * n) k) = rm at h
    obtain ⟨r, m⟩ := rm
    dsimp only at h ⊢
    rcases litsF_lit r with ⟨_, e2⟩ | ⟨l, tl, e1, e2, e3, e4⟩
    · rw [e2]; exact hB
    · rw [e2]
      intro b hb
      rcases List.mem_append.mp hb with h' | h'
      · exact hB b h'
      · rw [List.mem_singleton.mp h']
        exact ⟨by rw [← h.1]; exact e3, by rw [lessF_len _ _ _ _ (by simp [h.1])]; simp, by rw [lessF_len _ _ _ _ (by simp [h.2])]; simp⟩
  have h : ∀ (l : List Nat) (B : List BRow), (∀ b ∈ B, BWf p n (bs.length * n) b) → ∀ b ∈ l.foldl (ER.basisStep p bs n) B, BWf p n (bs.length * n) b := by
    intro l
    induction l with
    | nil => intro B hB; exact hB
    | cons k l ih => intro B hB; exact ih _ (step k B hB)
  exact h _ [] fun b hb => by cases hb
  where lessByF_inv2 {p : Int} {n k : Nat} : ∀ (B : List BRow) (r m : List Int), (∀ b ∈ B, BWf p n k b) → r.length = n → m.length = k → (ER.lessByF p B r m).1.length = n ∧ (ER.lessByF p B r m).2.length = k
    | [], r, m, _, h1, h2 => ⟨h1, h2⟩
    | b :: B, r, m, hB, h1, h2 => by
      have hb := hB b (List.mem_cons_self ..)
      rw [lessByF_cons]
      split
      · exact lessByF_inv2 B r m (fun x hx => hB x (List.mem_cons_of_mem _ hx)) h1 h2
      · exact lessByF_inv2 B _ _ (fun x hx => hB x (List.mem_cons_of_mem _ hx)) (by rw [lessF_len _ _ _ _ (by rw [h1, hb.row]), h1]) (by rw [lessF_len _ _ _ _ (by rw [h2, hb.mix]), h2])
theorem ok_found_presses (T : TX K mg w) (c_colours_of : C8.Cal P w K mg base 1 "colours_of" (sp_colours_of K) []) (c_lessened_by : C8.Cal P w K mg base 2 "lessened_by" (sp_lessened_by K) []) (c_basis_of : C8.Cal P w K mg base 3 "basis_of" (sp_basis_of K) []) : C8.Cal P w K mg base 4 "found_presses" (sp_found_presses K) [] := by
  refine T.cal (d := d_found_presses) 35 34 rfl rfl (S := sc_found_presses) (fun _ _ _ _ _ _ us hl => match us, hl with | [_, _, _], _ => rfl) (fun vs H Q E h => ?_) (fun cdv A outer s H vs Q E hr h => ?_)
  · obtain ⟨p, n, v, u, bs, pic, rfl, _⟩ := h; rfl
  · obtain ⟨p, n, v, u, bs, pic, rfl, hv, hP, hu, hQ, n0, ln, k⟩ := h
    have hv0 := hv
    obtain ⟨va, ub, rfl, hs, bb, xs, rfl, hb, pr⟩ := hv
    have hp := hP.hp
    have pp := hp.pos
    have p5 := hp.le
    have pl := paired_len pr
    have h3 := hP.len
    obtain ⟨m, hm⟩ : ∃ m, m = bs.length * n := ⟨_, rfl⟩
    have lm : m ≤ 60 := by rw [hm]; exact Nat.le_trans (Nat.mul_le_mul h3 ln) (by decide)
    have em : (xs.length : Int) * (n : Int) = (m : Int) := by rw [hm, pl]; exact (Int.natCast_mul _ _).symm
    refine ⟨_, (pss_cons (ps_asg (pv 0) (pg_tup rfl (pgs_cons (pg_name (i := 3) sc_found_presses.nd rfl (by first | exact Or.inl rfl | exact Or.inr rfl)) (pgs_cons (pg_name (i := 4) sc_found_presses.nd rfl (by first | exact Or.inl rfl | exact Or.inr rfl)) pgs_nil))))
    (pss_cons (ps_asg (C8.pe_c c_lessened_by hr (by decide) (by rfl) (pa_cons (pv 3) (pa_cons (C8.pe_c c_basis_of hr (by decide) (by rfl) (pa_cons (pv 0) (pa_cons (pv 1) pa_nil))) (pa_cons (C8.pe_c c_colours_of hr (by decide) (by rfl) (pa_cons (pv 1) (pa_cons (pv 2) pa_nil))) (pa_cons (pe_op op_repA (pe_tup (pa_cons pe_int pa_nil)) (pe_op op_mul (pe_callB call_len_seq (by rfl) (T.fr 4 rfl) (by decide +kernel) (pa_cons (pv 4) pa_nil)) (pv 1))) pa_nil))))) (pg_tup rfl (pgs_cons (pg_name (i := 5) sc_found_presses.nd rfl (by first | exact Or.inl rfl | exact Or.inr rfl)) (pgs_cons (pg_name (i := 6) sc_found_presses.nd rfl (by first | exact Or.inl rfl | exact Or.inr rfl)) pgs_nil))))
    (pss_cons (ps_if (pt_val (pe_callB (cr_any rfl) (by rfl) (T.fr 7 rfl) (by decide +kernel) (pa_cons (pe_lc (own := [("colour", 7)]) (g := (gName 7)) rfl sc_found_presses.nd (pi_tup (pv 5)) (blkOk_by (own := [("colour", 7)]) (N := n_found_presses) (sc := defScope s_found_presses) (by decide +kernel)) (fun _ _ _ _ _ => (pg_name (i := 7) sc_found_presses.nd rfl (by first | exact Or.inl rfl | exact Or.inr rfl))) (fun _ _ _ _ _ => pts_nil) (fun _ _ _ _ _ => (pe_cmpR op_ne (pv 7) pe_int (nomark _)))) pa_nil))) (pss_one (ps_ret pe_non)) pss_nil)
    (pss_one (ps_ret (pe_callTy call_tuple_of (by rfl) (T.fr 2 rfl) (by decide +kernel) (pa_cons (pe_lc (own := [("at", 8), ("times", 9)]) (g := (gTup K 2 (gCons (gName 8) (gCons (gName 9) gNil)))) rfl sc_found_presses.nd (pi_enumT (by rfl) (T.fr 12 rfl) (pa_cons (pv 6) pa_nil)) (blkOk_by (own := [("at", 8), ("times", 9)]) (N := n_found_presses) (sc := defScope s_found_presses) (by decide +kernel)) (fun _ _ _ _ _ => (pg_tup rfl (pgs_cons (pg_name (i := 8) sc_found_presses.nd rfl (by first | exact Or.inl rfl | exact Or.inr rfl)) (pgs_cons (pg_name (i := 9) sc_found_presses.nd rfl (by first | exact Or.inl rfl | exact Or.inr rfl)) pgs_nil)))) (fun _ _ _ _ _ => (pts_one (pt_cmpR op_ne (pv 9) pe_int (nomark _)))) (fun _ _ _ _ _ => (pe_tup (pa_cons (pe_op op_fdiv (pv 8) (pv 1)) (pa_cons (pe_op op_mod (pv 8) (pv 1)) (pa_cons (pe_op op_mod (pe_un un_neg (pv 9)) (pv 3)) pa_nil)))))) pa_nil))))))), ?_⟩
    refine ⟨_, rfl, va, _, rfl, hs, rfl, _, _, rfl, _, _, rfl, rfl, ?_⟩
    refine ⟨_, rfl, _, rfl, _, rfl, p, _, bs, n, rfl, hv0, hP, n0, ln, fun F ys H1 s1 hF1 pB hB => ?_⟩
    refine ⟨_, rfl, _, rfl, n, u, pic, rfl, hu.same s1, by omega, hQ.lo, fun vc H2 s2 hc => ?_⟩
    have s12 := s1.trans s2
    refine ⟨by show 1 ≤ sizeLine; decide, fun l3 n3 => ?_⟩
    have s3 := Same.new (o := .tup [V.int 0]) n3
    have hl3 : upd H2 l3 (.tup [V.int 0]) l3 = some (.tup [V.int 0]) := upd_same
    generalize upd H2 l3 (.tup [V.int 0]) = H3 at s3 hl3
    refine ⟨_, rfl, bb, _, rfl, .inr (Same.tup (s12.trans s3) hb), _, rfl, _, _, rfl, rfl, .inl (by omega), ?_⟩
    dsimp only
    rw [em]
    refine rep_zeros hl3 (by omega) fun vz H4 s4 hz => ?_
    have s24 := s2.trans (s3.trans s4)
    rw [← hm] at hB
    have lC := coloursF_len n pic
    have bC := coloursF_bd pp n hQ.col
    obtain ⟨i1, i2, i3, i4⟩ := lessByF_inv pp (ER.basisF p bs n) _ _ hB lC (List.length_replicate (n := m) (a := (0 : Int))) bC (Bd.rep pp m)
    refine ⟨p, n, m, F, ys, _, vc, vz, _, _, rfl, s24 _ _ hF1, paired_mono (fun _ _ z => z.keep (keepT s24)) pB, hB, hc.same (s3.trans s4), hz, lC, List.length_replicate, by omega, by omega, bC, Bd.rep pp m, hp, fun t v5 u5 H5 s5 ht5 hv5 hu5 => ?_⟩
    have ef : ER.foundF p bs n pic = if (ER.lessByF p (ER.basisF p bs n) (ER.coloursF n pic) (List.replicate m 0)).1.all (fun x => decide (x = 0)) then some (ER.mixFrom p n 0 (ER.lessByF p (ER.basisF p bs n) (ER.coloursF n pic) (List.replicate m 0)).2) else none := by rw [hm]; rfl
    rw [ef] at k
    generalize ER.lessByF p (ER.basisF p bs n) (ER.coloursF n pic) (List.replicate m 0) = rm at hv5 hu5 i1 i2 i3 i4 k
    obtain ⟨r, mx⟩ := rm
    dsimp only at hv5 hu5 i1 i2 i3 i4 k
    have s15 := s1.trans (s24.trans s5)
    refine ⟨t, _, rfl, ht5, rfl, _, _, rfl, _, _, rfl, rfl, ?_⟩
    obtain ⟨va5, rfl, hvs5⟩ := hv5
    refine ⟨_, rfl, va5, rfl, ⟨_, hvs5⟩, fun D nD => ?_⟩
    refine lc_int walk_tup (fun H' s => Same.tup s hvs5) (fun _ => true) (fun i => .bl (!decide (cf r i = 0))) (by rw [sizeLine_eq, List.length_map]; omega) nD ?_ ?_
    · rintro i x H6 H7 post postN hi s6 ⟨rfl, hxi⟩ k1 k2
      obtain ⟨rfl, _⟩ := map_get hxi
      refine ⟨rfl, _, rfl, rfl, ?_⟩
      have e : (!decide (V.int (cf r i) = V.int 0)) = !decide (cf r i = 0) := by simp
      have := k1 _ (Same.refl _) rfl
      rw [← e] at this
      exact this
    · intro H6 s6 hD6
      have eD : (((List.range (r.map V.int).length).filter fun _ => true).map fun i => V.bl (!decide (cf r i = 0))) = ((List.range r.length).map fun i => !decide (cf r i = 0)).map V.bl := by
        rw [List.filter_eq_self.mpr (fun _ _ => rfl), List.length_map, List.map_map]; rfl
      rw [eD] at hD6
      refine ⟨D, _, rfl, SqL.of hD6, _, rfl, ?_⟩
      rw [any_all]
      cases hall : r.all (fun x => decide (x = 0)) with
      | false =>
        rw [hall] at k
        exact iteI rfl (k _ _ (s15.trans s6) rfl)
      | true =>
        rw [hall] at k
        refine iteN (by decide) ?_
        obtain ⟨ua5, rfl, hus5⟩ := hu5
        refine ⟨_, rfl, ua5, _, rfl, Same.tup s6 hus5, fun D2 nD2 => ?_⟩
        refine lc_gen (fun H v (q : Int × Int × Int) => TI K H v [q.1, q.2.1, q.2.2]) (fun _ _ _ _ k h => h.keep k) (walk_enumT (xs := mx.map V.int)) (fun H' s => Same.tup (s6.trans s) hus5) (fun i => !decide (cf mx i = 0)) (fun i => ((((0 + i) / n : Nat) : Int), (((0 + i) % n : Nat) : Int), -cf mx i % p)) (by rw [sizeLine_eq, List.length_map]; omega) nD2 ?_ ?_
        · rintro i x H7 H8 post postN hi s7 ⟨t, x1, y1, rfl, nt, rfl, hx1, hy1⟩ k1 k2
          dsimp only at hx1
          obtain rfl := Option.some.inj hx1
          obtain ⟨rfl, _⟩ := map_get hy1
          have s8 := Same.new (o := .tup [.int (i : Nat), .int (cf mx i)]) nt
          refine ⟨t, _, rfl, SqT.of upd_same, rfl, _, _, rfl, _, _, rfl, rfl, rfl, ?_⟩
          refine ⟨_, rfl, rfl, _, rfl, ?_⟩
          by_cases h0 : cf mx i = 0
          · exact iteN (neF h0) (k2 _ s8 (by simp [h0]))
          · refine iteI (neT h0) ?_
            refine ⟨_, rfl, _, rfl, _, _, rfl, rfl, ⟨by omega, by omega⟩, _, rfl, _, rfl, _, _, rfl, rfl, by show (0 : Int) < _; omega, _, rfl, _, rfl, _, rfl, _, _, rfl, rfl, pp, by show 3 ≤ sizeLine; decide, fun q nq => ?_⟩
            refine k1 _ _ (s8.trans (Same.new nq)) (by simp [h0]) ?_
            dsimp only
            rw [Nat.zero_add]
            exact TI.made (r := [(i : Int) / (n : Int), (i : Int) % (n : Int), -cf mx i % p])
        · intro H7 acc s7 hD7 pa
          rw [List.length_map, ← mixFrom_range p n mx 0] at pa
          refine ⟨D2, acc, rfl, .inl ⟨SqL.of hD7, fun q nq => ?_⟩⟩
          have s8 := Same.new (o := .tup acc) nq
          exact k _ _ (s15.trans (s6.trans (s7.trans s8))) ⟨q, acc, rfl, SqT.of upd_same, paired_mono (fun _ _ z => z.keep (keepT s8)) pa⟩
/-- only that it ends -/
def sp_found_weights (K : PySem.W.Frag) : Sp := fun vs H Q _ => ∃ (p : Int) (n : Nat) (v u : V) (bs : List (List (Int × Int))) (pic : List (Int × Int)), vs = [v, .int (n : Int), u] ∧ TPan K H v p bs ∧ Pan p bs ∧ TP K H u pic ∧ Pic p n pic ∧ 0 < n ∧ n ≤ 20 ∧
  ∀ v H', Same H H' → Q v H'
theorem ok_found_weights (T : TX K mg w) (c_divided : C8.Cal P w K mg base 2 "divided" (sp_divided K) []) (c_divisor_on : C8.Cal P w K mg base 7 "divisor_on" (sp_divisor_on K) []) (c_picture_ofL : C8.Cal P w K mg base 1 "picture_of" (sp_picture_ofL K) []) : C8.Cal P w K mg base 8 "found_weights" (sp_found_weights K) [] := by
  refine T.cal (d := d_found_weights) 36 35 rfl rfl (S := sc_found_weights) (fun _ _ _ _ _ _ us hl => match us, hl with | [_, _, _], _ => rfl) (fun vs H Q E h => ?_) (fun cdv A outer s H vs Q E hr h => ?_)
  · obtain ⟨p, n, v, u, bs, pic, rfl, _⟩ := h; rfl
  · obtain ⟨p, n, v, u, bs, pic, rfl, hv, hP, hu, hQ, n0, ln, k⟩ := h
    have hv0 := hv
    obtain ⟨va, ub, rfl, hs, bb, xs, rfl, hb, pr⟩ := hv
    obtain ⟨ua, us, rfl, hus, pru⟩ := hu
    have hp := hP.hp
    have pp := hp.pos
    have p5 := hp.le
    obtain ⟨d1, d2, d3⟩ := hP.div n
    refine ⟨_, (pss_cons (ps_set (i := 3) sc_found_weights.nd rfl (by first | exact Or.inl rfl | exact Or.inr rfl) (pe_ix ix_tup (pv 0) pe_int (fun _ _ => rfl)))
    (pss_cons (ps_set (i := 4) sc_found_weights.nd rfl (by first | exact Or.inl rfl | exact Or.inr rfl) (C8.pe_c c_divisor_on hr (by decide) (by rfl) (pa_cons (pv 0) (pa_cons (pv 1) pa_nil))))
    (pss_cons (ps_if (pt_cmpR (op_eqD hr.units) (pv 4) (pe_tup (pa_cons pe_int pa_nil)) (nomark _)) (pss_one (ps_ret pe_non)) pss_nil)
    (pss_cons (ps_set (i := 5) sc_found_weights.nd rfl (by first | exact Or.inl rfl | exact Or.inr rfl) (pe_op op_catA (pe_op op_catA (pe_tup (pa_cons (pe_op op_sub (pv 3) pe_int) pa_nil)) (pe_op op_repA (pe_tup (pa_cons pe_int pa_nil)) (pe_op op_sub (pv 1) pe_int))) (pe_tup (pa_cons pe_int pa_nil))))
    (pss_cons (ps_set (i := 6) sc_found_weights.nd rfl (by first | exact Or.inl rfl | exact Or.inr rfl) (pe_ix ix_tup (C8.pe_c c_divided hr (by decide) (by rfl) (pa_cons (pv 3) (pa_cons (pv 5) (pa_cons (pv 4) pa_nil)))) pe_int (fun _ _ => rfl)))
    (pss_cons (ps_set (i := 7) sc_found_weights.nd rfl (by first | exact Or.inl rfl | exact Or.inr rfl) (pe_op op_cat (pe_callTy call_list_of (by rfl) (T.fr 10 rfl) (by decide +kernel) (pa_cons (pv 6) pa_nil)) (pe_op op_rep (pe_lst (pa_cons pe_int pa_nil)) (pe_op op_sub (pv 1) (pe_callB call_len_seq (by rfl) (T.fr 4 rfl) (by decide +kernel) (pa_cons (pv 6) pa_nil))))))
    (pss_cons (ps_for PassesOwn.never rfl (pi_range1 rfl (T.fr 11 rfl) (pa_cons (pv 1) pa_nil)) (pg_name (i := 8) sc_found_weights.nd rfl (by first | exact Or.inl rfl | exact Or.inr rfl)) (pss_cons (ps_set (i := 9) sc_found_weights.nd rfl (by first | exact Or.inl rfl | exact Or.inr rfl) (pe_lc (own := [("place", 10)]) (g := (gName 10)) rfl sc_found_weights.nd (pi_range1 rfl (T.fr 11 rfl) (pa_cons (pv 1) pa_nil)) (blkOk_by (own := [("place", 10)]) (N := n_found_weights) (sc := defScope s_found_weights) (by decide +kernel)) (fun _ _ _ _ _ => (pg_name (i := 10) sc_found_weights.nd rfl (by first | exact Or.inl rfl | exact Or.inr rfl))) (fun _ _ _ _ _ => pts_nil) (fun _ _ _ _ _ => (pe_ix (show IxR _ (rIxL K) from ix_list) (pv 7) (pe_op op_mod (pe_op op_sub (pv 8) (pv 10)) (pv 1)) (fun _ _ => rfl)))) (sw_cell rfl))
    (pss_one (ps_if (pt_cmpR op_ne (pe_op op_mod (pe_callB (cr_sum rfl) (by rfl) (T.fr 8 rfl) (by decide +kernel) (pa_cons (pe_lc (own := [("place", 10), ("colour", 11)]) (g := (gTup K 2 (gCons (gName 10) (gCons (gName 11) gNil)))) rfl sc_found_weights.nd (pi_tup (pv 2)) (blkOk_by (own := [("place", 10), ("colour", 11)]) (N := n_found_weights) (sc := defScope s_found_weights) (by decide +kernel)) (fun _ _ _ _ _ => (pg_tup rfl (pgs_cons (pg_name (i := 10) sc_found_weights.nd rfl (by first | exact Or.inl rfl | exact Or.inr rfl)) (pgs_cons (pg_name (i := 11) sc_found_weights.nd rfl (by first | exact Or.inl rfl | exact Or.inr rfl)) pgs_nil)))) (fun _ _ _ _ _ => pts_nil) (fun _ _ _ _ _ => (pe_op op_mul (pe_ix (show IxR _ (rIxL K) from ix_list) (pv 9) (pv 10) (fun _ _ => rfl)) (pv 11)))) pa_nil)) (pv 3)) pe_int (nomark _)) (pss_one (ps_ret (C8.pe_c c_picture_ofL hr (by decide) (by rfl) (pa_cons (pv 9) pa_nil)))) pss_nil))))
    (pss_one (ps_ret pe_non))))))))), ?_⟩
    refine ⟨_, rfl, va, _, _, _, rfl, rfl, hs, at0, ?_⟩
    refine ⟨_, rfl, _, rfl, p, _, bs, n, rfl, hv0, hP, fun vd H1 s1 hd => ?_⟩
    refine ⟨_, rfl, by show 1 ≤ sizeLine; decide, fun t nt => ?_⟩
    have s2 := Same.new (o := .tup [V.int 1]) nt
    refine ⟨_, _, dp_I (hd.same s2), dp_I (TI.made (r := [1])), (ok_dI _).shaped, (ok_dI _).shaped, _, rfl, ?_⟩
    generalize upd H1 t (.tup [V.int 1]) = H2 at s2
    have s12 := s1.trans s2
    refine ite_both (k _ _ s12) ?_
    refine ⟨_, rfl, _, _, rfl, rfl, by show 1 ≤ sizeLine; decide, fun t1 n1 => ?_⟩
    have s3 := Same.new (o := .tup [V.int (p - 1)]) n1
    have h3 : TI K (upd H2 t1 (.tup [V.int (p - 1)])) (.ref t1) [p - 1] := TI.made (r := [p - 1])
    generalize upd H2 t1 (.tup [V.int (p - 1)]) = H3 at s3 h3
    refine ⟨by show 1 ≤ sizeLine; decide, fun l4 n4 => ?_⟩
    have s4 := Same.new (o := .tup [V.int 0]) n4
    have hl4 : upd H3 l4 (.tup [V.int 0]) l4 = some (.tup [V.int 0]) := upd_same
    generalize upd H3 l4 (.tup [V.int 0]) = H4 at s4 hl4
    refine ⟨_, rfl, _, _, rfl, rfl, ?_⟩
    refine rep_zerosI hl4 (by omega) (by omega) fun vz H5 s5 hz => ?_
    refine cat_ints (h3.same (s4.trans s5)) hz (by simp; omega) fun vc H6 s6 hc => ?_
    refine ⟨by show 1 ≤ sizeLine; decide, fun l7 n7 => ?_⟩
    have s7 := Same.new (o := .tup [V.int 1]) n7
    have h7 : TI K (upd H6 l7 (.tup [V.int 1])) (.ref l7) [1] := TI.made (r := [1])
    generalize upd H6 l7 (.tup [V.int 1]) = H7 at s7 h7
    refine cat_ints (hc.same s7) h7 (by simp; omega) fun vw H8 s8 hw => ?_
    have s18 := s12.trans ((s3.trans (s4.trans s5)).trans (s6.trans (s7.trans s8)))
    have s28 := s2.trans ((s3.trans (s4.trans s5)).trans (s6.trans (s7.trans s8)))
    have bw : Bd p ([p - 1] ++ List.replicate ((n : Int) - 1).toNat 0 ++ [1]) := by
      have := hp.two
      refine Bd.append (Bd.append (fun x hx => ?_) (Bd.rep pp _)) (bd1 hp)
      rw [List.mem_singleton.mp hx]; omega
    have lw : ([p - 1] ++ List.replicate ((n : Int) - 1).toNat (0 : Int) ++ [1]).length = n + 1 := by simp; omega
    generalize [p - 1] ++ List.replicate ((n : Int) - 1).toNat (0 : Int) ++ [1] = wl at hw bw lw
    refine ⟨_, rfl, _, rfl, _, rfl, p, vw, vd, wl, _, rfl, hw, hd.same s28, hp, bw, d1, d3, by omega, by omega, fun t9 q9 r9 H9 s9 ht9 hq9 hr9 => ?_⟩
    refine ⟨_, _, _, _, rfl, rfl, ht9, at0, ?_⟩
    have lq := ER.divF_len1 p wl (ER.divOnF p bs n)
    have bq := (ER.divF_row pp (ER.divOnF p bs n) bw).1.bd
    have ld : 0 < (ER.divOnF p bs n).length := List.length_pos_iff.mpr d3
    generalize (ER.divF p wl (ER.divOnF p bs n)).1 = ms at hq9 lq bq
    have lms : ms.length ≤ n + 1 := by omega
    obtain ⟨qa, rfl, hqs⟩ := hq9
    have s19 := s18.trans s9
    -- colours
    refine ⟨_, rfl, qa, _, rfl, .inr hqs, fun l10 n10 => ?_⟩
    have s10 := Same.new (o := .lst (ms.map V.int)) n10
    have hl10 : upd H9 l10 (.lst (ms.map V.int)) l10 = some (.lst (ms.map V.int)) := upd_same
    generalize upd H9 l10 (.lst (ms.map V.int)) = H10 at s10 hl10
    refine ⟨by show 1 ≤ sizeLine; decide, fun l11 n11 => ?_⟩
    have s11 := Same.new (o := .lst [V.int 0]) n11
    have hl11 : upd H10 l11 (.lst [V.int 0]) l11 = some (.lst [V.int 0]) := upd_same
    have h11 := s11 _ _ hl10
    generalize upd H10 l11 (.lst [V.int 0]) = H11 at s11 hl11 h11
    refine ⟨_, rfl, _, rfl, qa, _, rfl, .inr (Same.tup (s10.trans s11) hqs), _, _, rfl, rfl, ?_⟩
    rw [List.length_map]
    have e1 : ((n : Int) - (ms.length : Int)).toNat = n - ms.length := by omega
    refine ⟨l11, _, _, rfl, rfl, hl11, by omega, by omega, by rw [e1, sizeLine_eq]; simp only [List.length_cons, List.length_nil]; omega, fun l12 n12 => ?_⟩
    rw [e1, flat0]
    have s12' := Same.new (o := .lst ((List.replicate (n - ms.length) (0 : Int)).map V.int)) n12
    have hl12 : upd H11 l12 (.lst ((List.replicate (n - ms.length) (0 : Int)).map V.int)) l12 = some (.lst ((List.replicate (n - ms.length) (0 : Int)).map V.int)) := upd_same
    have h12 := s12' _ _ h11
    generalize upd H11 l12 (.lst ((List.replicate (n - ms.length) (0 : Int)).map V.int)) = H12 at s12' hl12 h12
    refine ⟨l10, l12, _, _, rfl, rfl, h12, hl12, by rw [List.length_map, List.length_map, List.length_replicate, sizeLine_eq]; omega, fun F nF => ?_⟩
    rw [← List.map_append]
    have bF : Bd p (ms ++ List.replicate (n - ms.length) 0) := bq.append (Bd.rep pp _)
    have lF : n ≤ (ms ++ List.replicate (n - ms.length) (0 : Int)).length := by simp; omega
    have lF2 : (ms ++ List.replicate (n - ms.length) (0 : Int)).length ≤ 100 := by simp; omega
    generalize ms ++ List.replicate (n - ms.length) (0 : Int) = cs at bF lF lF2
    have s13 := Same.new (o := .lst (cs.map V.int)) nF
    have hF13 : upd H12 F (.lst (cs.map V.int)) F = some (.lst (cs.map V.int)) := upd_same
    generalize upd H12 F (.lst (cs.map V.int)) = H13 at s13 hF13
    have s113 := s19.trans ((s10.trans s11).trans (s12'.trans s13))
    -- turns
    refine ⟨_, rfl, (n : Int), rfl, by omega, by omega, ?_⟩
    refine for_it walk_range (fun i σ H' => ∃ (c8 c9 : Option V), σ = [some (.ref va), some (.int (n : Int)), some (.ref ua), some (.int p), some vd, some vw, some (.ref qa), some (.ref F), c8, c9, none, none] ∧ Same H H' ∧ H' F = some (.lst (cs.map V.int)))
      ⟨none, none, rfl, s113, hF13⟩ (fun _ _ _ _ _ => trivial) ?_ ?_
    · rintro i x σ H1' H14 hi ⟨c8, c9, rfl, s14, hF14⟩ ⟨rfl, rfl⟩
      refine ⟨_, rfl, (n : Int), rfl, by omega, by omega, fun W nW => ?_⟩
      refine lc_int walk_range (G := fun _ => True) (fun _ _ => trivial) (fun _ => true) (fun j => .int (cf cs (((0 + (i : Int)) - (0 + (j : Nat))) % (n : Int)).toNat)) (by rw [sizeLine_eq]; omega) nW ?_ ?_
      · rintro j x H15 H16 post postN hj s15 ⟨rfl, rfl⟩ k1 k2
        have m0 : 0 ≤ ((0 + (i : Int)) - (0 + (j : Nat))) % (n : Int) := Int.emod_nonneg _ (by omega)
        have m1 : ((0 + (i : Int)) - (0 + (j : Nat))) % (n : Int) < n := Int.emod_lt_of_pos _ (by omega)
        refine ⟨rfl, _, rfl, _, rfl, _, rfl, _, _, rfl, rfl, _, rfl, _, _, rfl, rfl, by show (0 : Int) < _; omega, F, _, _, _, rfl, rfl, SqL.of (s15 _ _ hF14), at_int m0 (by omega), ?_⟩
        exact k1 _ (Same.refl _) rfl
      · intro H15 s15 hW15
        have hF15 := s15 _ _ hF14
        have s115 := s14.trans s15
        have eW : (((List.range ((n : Int)).toNat).filter fun _ => true).map fun j : Nat => V.int (cf cs (((0 + (i : Int)) - (0 + (j : Nat))) % (n : Int)).toNat)) = ((List.range n).map fun j : Nat => cf cs (((0 + (i : Int)) - (0 + (j : Nat))) % (n : Int)).toNat).map V.int := by
          rw [List.filter_eq_self.mpr (fun _ _ => rfl), Int.toNat_natCast, List.map_map]; rfl
        rw [eW] at hW15
        have lW : ((List.range n).map fun j : Nat => cf cs (((0 + (i : Int)) - (0 + (j : Nat))) % (n : Int)).toNat).length = n := by simp
        have bW : Bd p ((List.range n).map fun j : Nat => cf cs (((0 + (i : Int)) - (0 + (j : Nat))) % (n : Int)).toNat) := Bd.map fun j => bF.cf pp _
        generalize ((List.range n).map fun j : Nat => cf cs (((0 + (i : Int)) - (0 + (j : Nat))) % (n : Int)).toNat) = ws at hW15 lW bW
        refine ⟨_, rfl, ua, rfl, ⟨_, Same.tup s115 hus⟩, fun D nD => ?_⟩
        refine lc_int walk_tup (fun H' s => Same.tup (s115.trans s) hus) (fun _ => true) (fun j => .int (cf ws (pic.getD j (0, 0)).1.toNat * (pic.getD j (0, 0)).2)) (by rw [sizeLine_eq, paired_len pru]; have := hQ.len; omega) nD ?_ ?_
        · rintro j x H16 H17 post postN hj s16 ⟨rfl, hxj⟩ k1 k2
          obtain ⟨q, hq1, ta, rfl, hq2⟩ := paired_get pru hxj
          have hm := hQ.lo q (List.mem_of_getElem? hq1)
          have hm2 := hQ.col q (List.mem_of_getElem? hq1)
          have eq : pic.getD j (0, 0) = q := by rw [List.getD_eq_getElem?_getD, hq1]; rfl
          refine ⟨ta, _, rfl, Same.tup (s115.trans s16) hq2, rfl, _, _, rfl, _, _, rfl, rfl, rfl, ?_⟩
          have k1' := k1 _ (Same.refl _) rfl
          rw [eq] at k1'
          refine ⟨_, rfl, _, rfl, W, _, _, _, rfl, rfl, SqL.of (s16 _ _ hW15), at_int hm.1 (by omega), _, rfl, _, _, rfl, rfl, .inr (by omega), k1'⟩
        · intro H16 s16 hD16
          have eD : (((List.range us.length).filter fun _ => true).map fun j => V.int (cf ws (pic.getD j (0, 0)).1.toNat * (pic.getD j (0, 0)).2)) = ((List.range us.length).map fun j => cf ws (pic.getD j (0, 0)).1.toNat * (pic.getD j (0, 0)).2).map V.int := by
            rw [List.filter_eq_self.mpr (fun _ _ => rfl), List.map_map]; rfl
          rw [eD] at hD16
          refine ⟨D, _, rfl, SqL.of hD16, _, rfl, _, _, rfl, rfl, pp, rfl, _, rfl, ?_⟩
          refine ite_both ?_ ?_
          · refine ⟨_, rfl, W, ws, rfl, s16 _ _ hW15, by omega, fun v H17 s17 _ => k _ _ (s115.trans (s16.trans s17))⟩
          · exact ⟨_, _, rfl, s115.trans s16, s16 _ _ hF15⟩
    · rintro σ H14 ⟨c8, c9, rfl, s14, hF14⟩
      exact k _ _ s14
end
end EV
end
section
set_option Elab.async false
set_option linter.all false
set_option maxRecDepth 100000
set_option maxHeartbeats 4000000
namespace EV
open PySem PySem.Spec PyProof.Rows L2
open ER (cf Bd Row P3 Rule Pan BRow)
section
variable {P : Program} {w : World} {K : PySem.W.Frag} {mg : Str → Option Value} {base : Heap}
/-- only some objects are changed -/
def Fr (S : List Addr) (H H' : Hp) : Prop := ∀ c o, H c = some o → c ∉ S → H' c = some o
theorem Fr.refl {S : List Addr} (H : Hp) : Fr S H H := fun _ _ h _ => h
theorem Fr.trans {S : List Addr} {H H1 H2 : Hp} (a : Fr S H H1) (b : Fr S H1 H2) : Fr S H H2 := fun c o h n => b c o (a c o h n) n
theorem Same.fr {S : List Addr} {H H' : Hp} (s : Same H H') : Fr S H H' := fun c o h _ => s c o h
theorem Fr.upd {S : List Addr} {H : Hp} {a : Addr} {o : HO} (h : a ∈ S) : Fr S H (upd H a o) := fun c u e n => by
  rw [upd_ne (fun (z : c = a) => n (by rw [z]; exact h))]; exact e
theorem Fr.mono {S S' : List Addr} {H H' : Hp} (h : Fr S H H') (s : ∀ c ∈ S, c ∈ S') : Fr S' H H' := fun c o e n => h c o e (fun z => n (s c z))
/-- an object that can be changed -/
def Mut (H : Hp) (a : Addr) : Prop := (∃ xs, H a = some (.lst xs)) ∨ ∃ C dx fs, H a = some (.ins C dx fs)
theorem Fr.keepT {S : List Addr} {H H' : Hp} (f : Fr S H H') (m : ∀ c ∈ S, Mut H c) : KeepT K H H' := fun a xs h => by
  rcases h with (h | ⟨o, h⟩) | h
  · refine .inl (.inl (f _ _ h fun z => ?_))
    rcases m a z with ⟨ys, e⟩ | ⟨C, dx, fs, e⟩ <;> (rw [h] at e; cases e)
  · refine .inl (.inr ⟨o, f _ _ h fun z => ?_⟩)
    rcases m a z with ⟨ys, e⟩ | ⟨C, dx, fs, e⟩ <;> (rw [h] at e; cases e)
  · exact .inr h
/-- a board -/
def BO (K : PySem.W.Frag) (H : Hp) (a l kl : Addr) (p : Int) (bs : List (List (Int × Int))) (past : List (List Int)) (ys : List V) : Prop :=
  ∃ dx v xs, H a = some (.ins (He.ga K "Board") dx [("whole_panel", v), ("past", .ref l), ("kept", .ref kl)]) ∧ TPan K H v p bs ∧ H l = some (.lst xs) ∧ Paired (TI K H) xs past ∧ H kl = some (.lst ys) ∧ l ≠ kl
theorem BO.same {H H' : Hp} {a l kl : Addr} {p : Int} {bs : List (List (Int × Int))} {past : List (List Int)} {ys : List V} (h : BO K H a l kl p bs past ys) (s : Same H H') : BO K H' a l kl p bs past ys := by
  obtain ⟨dx, v, xs, h1, h2, h3, h4, h5, h6⟩ := h
  exact ⟨dx, v, xs, s _ _ h1, h2.same s, s _ _ h3, paired_mono (fun _ _ z => z.same s) h4, s _ _ h5, h6⟩
theorem BO.mut {H : Hp} {a l kl : Addr} {p : Int} {bs : List (List (Int × Int))} {past : List (List Int)} {ys : List V} (h : BO K H a l kl p bs past ys) : ∀ c ∈ [a, l, kl], Mut H c := by
  obtain ⟨dx, v, xs, h1, h2, h3, h4, h5, h6⟩ := h
  intro c hc
  simp only [List.mem_cons, List.not_mem_nil, or_false] at hc
  rcases hc with rfl | rfl | rfl
  · exact .inr ⟨_, _, _, h1⟩
  · exact .inl ⟨_, h3⟩
  · exact .inl ⟨_, h5⟩
theorem BO.keepT {H H' : Hp} {a l kl : Addr} {p : Int} {bs : List (List (Int × Int))} {past : List (List Int)} {ys : List V} (h : BO K H a l kl p bs past ys) (f : Fr [a, l, kl] H H') : KeepT K H H' := f.keepT h.mut
/-- a board that nothing has touched -/
theorem BO.fr {S : List Addr} {H H' : Hp} {a l kl : Addr} {p : Int} {bs : List (List (Int × Int))} {past : List (List Int)} {ys : List V} (h : BO K H a l kl p bs past ys) (f : Fr S H H') (k : KeepT K H H') (n : ∀ c ∈ [a, l, kl], c ∉ S) : BO K H' a l kl p bs past ys := by
  obtain ⟨dx, v, xs, h1, h2, h3, h4, h5, h6⟩ := h
  exact ⟨dx, v, xs, f _ _ h1 (n _ (by simp)), h2.keep k, f _ _ h3 (n _ (by simp)), paired_mono (fun _ _ z => z.keep k) h4, f _ _ h5 (n _ (by simp)), h6⟩
/-- one more picture -/
theorem BO.push {H : Hp} {a l kl : Addr} {p : Int} {bs : List (List (Int × Int))} {past : List (List Int)} {ys : List V} {v : V} {r : List Int} (h : BO K H a l kl p bs past ys) (hv : TI K H v r) {xs : List V} (hl : H l = some (.lst xs)) :
    BO K (upd H l (.lst (xs ++ [v]))) a l kl p bs (past ++ [r]) ys ∧ Fr [a, l, kl] H (upd H l (.lst (xs ++ [v]))) := by
  obtain ⟨dx, w, xs', h1, h2, h3, h4, h5, h6⟩ := h
  rw [hl] at h3
  cases h3
  have k : KeepT K H (upd H l (.lst (xs ++ [v]))) := keepT_lst hl
  refine ⟨⟨dx, w, xs ++ [v], ?_, h2.keep k, upd_same, paired_app (paired_mono (fun _ _ z => z.keep k) h4) (.cons (hv.keep k) .nil), ?_, h6⟩, Fr.upd (by simp)⟩
  · rw [upd_ne (fun e => by rw [e, hl] at h1; cases h1)]; exact h1
  · rw [upd_ne h6.symm]; exact h5
theorem at_end {α : Type} {xs : List α} {x : α} : atI (xs ++ [x]) (-1) = some x := at_neg1 (by simp)
/-- what a board's pasts are -/
structure PastOk (p : Int) (n : Nat) (past : List (List Int)) : Prop where
  len : ∀ r ∈ past, r.length = n
  bd : ∀ r ∈ past, Bd p r
  few : past.length ≤ 200
/-- its last picture -/
theorem BO.last {H : Hp} {a l kl : Addr} {p : Int} {bs : List (List (Int × Int))} {rest : List (List Int)} {r : List Int} {ys : List V} (h : BO K H a l kl p bs (rest ++ [r]) ys) :
    ∃ dx v xs x, H a = some (.ins (He.ga K "Board") dx [("whole_panel", v), ("past", .ref l), ("kept", .ref kl)]) ∧ TPan K H v p bs ∧ H l = some (.lst xs) ∧ atI xs (-1) = some x ∧ TI K H x r ∧ xs.length = rest.length + 1 ∧ H kl = some (.lst ys) := by
  obtain ⟨dx, v, xs, h1, h2, h3, h4, h5, h6⟩ := h
  obtain ⟨x, e, q⟩ := paired_at h4 (at_end (xs := rest) (x := r))
  have := paired_len h4
  rw [List.length_append] at this
  exact ⟨dx, v, xs, x, h1, h2, h3, e, q, this, h5⟩
/-! ### what only looks -/
def spP (K : PySem.W.Frag) (G : Addr → Int → List (List (Int × Int)) → List (List Int) → List Int → List V → Hp → VK → Prop) : Sp := fun vs H Q _ => ∃ (a l kl : Addr) (p : Int) (bs : List (List (Int × Int))) (rest : List (List Int)) (r : List Int) (ys : List V),
  vs = [.ref a] ∧ BO K H a l kl p bs (rest ++ [r]) ys ∧ r.length ≤ 100 ∧ G a p bs rest r ys H Q
def sp_Board_panel (K : PySem.W.Frag) : Sp := spP K fun a p bs rest r ys H Q => ∀ v, TPan K H v p bs → Q v H
def sp_Board_size (K : PySem.W.Frag) : Sp := spP K fun a p bs rest r ys H Q => Q (.int r.length) H
def sp_Board_len (K : PySem.W.Frag) : Sp := spP K fun a p bs rest r ys H Q => Q (.int r.length) H
def sp_Board_deeds (K : PySem.W.Frag) : Sp := spP K fun a p bs rest r ys H Q => Q (.int rest.length) H
def sp_Board_picture (K : PySem.W.Frag) : Sp := spP K fun a p bs rest r ys H Q => ∀ v H', Same H H' → TP K H' v (ER.picF r) → Q v H'
def sp_Board_lit (K : PySem.W.Frag) : Sp := spP K fun a p bs rest r ys H Q => ∀ H', Same H H' → Q (.int (ER.picF r).length) H'
theorem ok_Board_panel (T : TX K mg w)  : Prp P w K mg base 1 "Board" "panel" (sp_Board_panel K) := by
  refine T.prp (d := d_Board_panel) 39 0 rfl rfl (S := sc_Board_panel) (fun _ _ _ _ _ _ us hl => match us, hl with | [_], _ => rfl) (fun vs H Q E h => ?_) (fun cdv A outer s H vs Q E hr h => ?_)
  · obtain ⟨a, l, kl, p, bs, rest, r, ys, rfl, _⟩ := h; rfl
  · obtain ⟨a, l, kl, p, bs, rest, r, ys, rfl, hB, lr, k⟩ := h
    obtain ⟨dx, v, xs, x, h1, h2, h3, h4, h5, h6, h7⟩ := hB.last
    refine ⟨_, (pss_one (ps_ret (pe_fld (pv 0) rfl))), ?_⟩
    exact ⟨_, rfl, a, _, dx, _, _, rfl, h1, T.cl_Board, T.na_panel, rfl, k v h2⟩
theorem ok_Board_size (T : TX K mg w)  : Prp P w K mg base 1 "Board" "size" (sp_Board_size K) := by
  refine T.prp (d := d_Board_size) 40 1 rfl rfl (S := sc_Board_size) (fun _ _ _ _ _ _ us hl => match us, hl with | [_], _ => rfl) (fun vs H Q E h => ?_) (fun cdv A outer s H vs Q E hr h => ?_)
  · obtain ⟨a, l, kl, p, bs, rest, r, ys, rfl, _⟩ := h; rfl
  · obtain ⟨a, l, kl, p, bs, rest, r, ys, rfl, hB, lr, k⟩ := h
    obtain ⟨dx, v, xs, x, h1, h2, h3, h4, ⟨xa, rfl, h5⟩, h6, h7⟩ := hB.last
    refine ⟨_, (pss_one (ps_ret (pe_callB call_len_seq (by rfl) (T.fr 4 rfl) (by decide +kernel) (pa_cons (pe_ix ix_list (pe_fld (pv 0) rfl) (pe_un un_neg pe_int) (fun _ _ => rfl)) pa_nil)))), ?_⟩
    refine ⟨_, rfl, a, _, dx, _, _, rfl, h1, T.cl_Board, T.na_past, rfl, _, rfl, l, _, _, _, rfl, rfl, SqL.of h3, h4, xa, _, rfl, .inr h5, ?_⟩
    rw [List.length_map]; exact k
theorem ok_Board_len (T : TX K mg w)  : Spm P w K mg base 1 "Board" "__len__" (sp_Board_len K) := by
  refine T.spm (d := d_Board_len) 44 0 rfl rfl (S := sc_Board_len) (fun _ _ _ _ _ _ us hl => match us, hl with | [_], _ => rfl) (fun vs H Q E h => ?_) (fun cdv A outer s H vs Q E hr h => ?_) T.cl_Board
  · obtain ⟨a, l, kl, p, bs, rest, r, ys, rfl, _⟩ := h; rfl
  · obtain ⟨a, l, kl, p, bs, rest, r, ys, rfl, hB, lr, k⟩ := h
    obtain ⟨dx, v, xs, x, h1, h2, h3, h4, ⟨xa, rfl, h5⟩, h6, h7⟩ := hB.last
    refine ⟨_, (pss_one (ps_ret (pe_callB call_len_seq (by rfl) (T.fr 4 rfl) (by decide +kernel) (pa_cons (pe_ix ix_list (pe_fld (pv 0) rfl) (pe_un un_neg pe_int) (fun _ _ => rfl)) pa_nil)))), ?_⟩
    refine ⟨_, rfl, a, _, dx, _, _, rfl, h1, T.cl_Board, T.na_past, rfl, _, rfl, l, _, _, _, rfl, rfl, SqL.of h3, h4, xa, _, rfl, .inr h5, ?_⟩
    rw [List.length_map]; exact k
theorem ok_Board_deeds (T : TX K mg w)  : Prp P w K mg base 1 "Board" "deeds" (sp_Board_deeds K) := by
  refine T.prp (d := d_Board_deeds) 42 3 rfl rfl (S := sc_Board_deeds) (fun _ _ _ _ _ _ us hl => match us, hl with | [_], _ => rfl) (fun vs H Q E h => ?_) (fun cdv A outer s H vs Q E hr h => ?_)
  · obtain ⟨a, l, kl, p, bs, rest, r, ys, rfl, _⟩ := h; rfl
  · obtain ⟨a, l, kl, p, bs, rest, r, ys, rfl, hB, lr, k⟩ := h
    obtain ⟨dx, v, xs, x, h1, h2, h3, h4, h5, h6, h7⟩ := hB.last
    refine ⟨_, (pss_one (ps_ret (pe_op op_sub (pe_callB call_len_seq (by rfl) (T.fr 4 rfl) (by decide +kernel) (pa_cons (pe_fld (pv 0) rfl) pa_nil)) pe_int))), ?_⟩
    refine ⟨_, rfl, a, _, dx, _, _, rfl, h1, T.cl_Board, T.na_past, rfl, l, _, rfl, .inl (SqL.of h3), _, _, rfl, rfl, ?_⟩
    have e : ((xs.length : Nat) : Int) - 1 = (rest.length : Int) := by omega
    dsimp only
    rw [e]; exact k
theorem ok_Board_picture (T : TX K mg w) (c_picture_of : C8.Cal P w K mg base 1 "picture_of" (sp_picture_of K) []) : Prp P w K mg base 2 "Board" "picture" (sp_Board_picture K) := by
  refine T.prp (d := d_Board_picture) 41 2 rfl rfl (S := sc_Board_picture) (fun _ _ _ _ _ _ us hl => match us, hl with | [_], _ => rfl) (fun vs H Q E h => ?_) (fun cdv A outer s H vs Q E hr h => ?_)
  · obtain ⟨a, l, kl, p, bs, rest, r, ys, rfl, _⟩ := h; rfl
  · obtain ⟨a, l, kl, p, bs, rest, r, ys, rfl, hB, lr, k⟩ := h
    obtain ⟨dx, v, xs, x, h1, h2, h3, h4, h5, h6, h7⟩ := hB.last
    refine ⟨_, (pss_one (ps_ret (C8.pe_c c_picture_of hr (by decide) (by rfl) (pa_cons (pe_ix ix_list (pe_fld (pv 0) rfl) (pe_un un_neg pe_int) (fun _ _ => rfl)) pa_nil)))), ?_⟩
    exact ⟨_, rfl, a, _, dx, _, _, rfl, h1, T.cl_Board, T.na_past, rfl, _, rfl, l, _, _, _, rfl, rfl, SqL.of h3, h4, x, r, rfl, h5, lr, k⟩
theorem ok_Board_lit (T : TX K mg w) (c_picture_of : C8.Cal P w K mg base 1 "picture_of" (sp_picture_of K) []) : Prp P w K mg base 2 "Board" "lit" (sp_Board_lit K) := by
  refine T.prp (d := d_Board_lit) 43 4 rfl rfl (S := sc_Board_lit) (fun _ _ _ _ _ _ us hl => match us, hl with | [_], _ => rfl) (fun vs H Q E h => ?_) (fun cdv A outer s H vs Q E hr h => ?_)
  · obtain ⟨a, l, kl, p, bs, rest, r, ys, rfl, _⟩ := h; rfl
  · obtain ⟨a, l, kl, p, bs, rest, r, ys, rfl, hB, lr, k⟩ := h
    obtain ⟨dx, v, xs, x, h1, h2, h3, h4, h5, h6, h7⟩ := hB.last
    refine ⟨_, (pss_one (ps_ret (pe_callB call_len_seq (by rfl) (T.fr 4 rfl) (by decide +kernel) (pa_cons (C8.pe_c c_picture_of hr (by decide) (by rfl) (pa_cons (pe_ix ix_list (pe_fld (pv 0) rfl) (pe_un un_neg pe_int) (fun _ _ => rfl)) pa_nil)) pa_nil)))), ?_⟩
    refine ⟨_, rfl, a, _, dx, _, _, rfl, h1, T.cl_Board, T.na_past, rfl, _, rfl, l, _, _, _, rfl, rfl, SqL.of h3, h4, x, r, rfl, h5, lr, fun v H' s hv => ?_⟩
    obtain ⟨va, us, rfl, hs, pr⟩ := hv
    refine ⟨va, us, rfl, .inr hs, ?_⟩
    rw [paired_len pr]
    exact k _ s
def spQ (K : PySem.W.Frag) (G : Addr → Addr → Addr → Int → List (List (Int × Int)) → List (List Int) → List Int → List V → Int → Hp → VK → Prop) : Sp := fun vs H Q _ => ∃ (a l kl : Addr) (p : Int) (bs : List (List (Int × Int))) (rest : List (List Int)) (r : List Int) (ys : List V) (x : Int),
  vs = [.ref a, .int x] ∧ BO K H a l kl p bs (rest ++ [r]) ys ∧ r.length ≤ 100 ∧ G a l kl p bs rest r ys x H Q
def sp_Board_need_place (K : PySem.W.Frag) : Sp := spQ K fun a l kl p bs rest r ys x H Q => 0 ≤ x ∧ x < r.length ∧ Q .non H
def sp_Board_need_button (K : PySem.W.Frag) : Sp := spQ K fun a l kl p bs rest r ys x H Q => 0 ≤ x ∧ x < bs.length ∧ Q .non H
def sp_Board_getitem (K : PySem.W.Frag) : Sp := spQ K fun a l kl p bs rest r ys x H Q => 0 ≤ x ∧ x < r.length ∧ Q (.int (cf r x.toNat)) H
theorem ok_Board_need_place (T : TX K mg w) (c_is_whole : C8.Cal P w K mg base 2 "is_whole" (sp_is_whole K) []) : C8.Met P w K mg base 3 (He.ga K "Board") "need_place" (sp_Board_need_place K) [] := by
  refine T.met (d := d_Board_need_place) 47 3 rfl rfl (S := sc_Board_need_place) (fun _ _ _ _ _ _ us hl => match us, hl with | [_, _], _ => rfl) (fun vs H Q E h => ?_) (fun cdv A outer s H vs Q E hr h => ?_) T.cl_Board
  · obtain ⟨a, l, kl, p, bs, rest, r, ys, x, rfl, _⟩ := h; rfl
  · obtain ⟨a, l, kl, p, bs, rest, r, ys, x, rfl, hB, lr, x0, x1, k⟩ := h
    obtain ⟨dx, v, xs, y, h1, h2, h3, h4, ⟨xa, rfl, h5⟩, h6, h7⟩ := hB.last
    refine ⟨_, (pss_one (ps_if (pt_not (pt_val (C8.pe_c c_is_whole hr (by decide) (by rfl) (pa_cons (pv 1) (pa_cons pe_int (pa_cons (pe_op op_sub (pe_callB call_len_seq (by rfl) (T.fr 4 rfl) (by decide +kernel) (pa_cons (pe_ix ix_list (pe_fld (pv 0) rfl) (pe_un un_neg pe_int) (fun _ _ => rfl)) pa_nil)) pe_int) pa_nil)))))) (pss_one ps_dead) pss_nil)), ?_⟩
    refine ⟨_, rfl, _, rfl, a, _, dx, _, _, rfl, h1, T.cl_Board, T.na_past, rfl, _, rfl, l, _, _, _, rfl, rfl, SqL.of h3, h4, xa, _, rfl, .inr h5, _, _, rfl, rfl, x, 0, _, rfl, _, rfl, ?_⟩
    exact iteN (by rw [List.length_map, decide_eq_true (⟨by omega, by omega⟩ : 0 ≤ x ∧ x ≤ (r.length : Int) - 1)]; decide) k
theorem ok_Board_need_button (T : TX K mg w) (c_is_whole : C8.Cal P w K mg base 2 "is_whole" (sp_is_whole K) []) : C8.Met P w K mg base 3 (He.ga K "Board") "need_button" (sp_Board_need_button K) [] := by
  refine T.met (d := d_Board_need_button) 48 4 rfl rfl (S := sc_Board_need_button) (fun _ _ _ _ _ _ us hl => match us, hl with | [_, _], _ => rfl) (fun vs H Q E h => ?_) (fun cdv A outer s H vs Q E hr h => ?_) T.cl_Board
  · obtain ⟨a, l, kl, p, bs, rest, r, ys, x, rfl, _⟩ := h; rfl
  · obtain ⟨a, l, kl, p, bs, rest, r, ys, x, rfl, hB, lr, x0, x1, k⟩ := h
    obtain ⟨dx, v, xs, y, h1, ⟨va, ub, rfl, h8, bb, us, rfl, h9, pr⟩, h3, h4, h5, h6, h7⟩ := hB.last
    have pl := paired_len pr
    refine ⟨_, (pss_one (ps_if (pt_not (pt_val (C8.pe_c c_is_whole hr (by decide) (by rfl) (pa_cons (pv 1) (pa_cons pe_int (pa_cons (pe_op op_sub (pe_callB call_len_seq (by rfl) (T.fr 4 rfl) (by decide +kernel) (pa_cons (pe_ix ix_tup (pe_fld (pv 0) rfl) pe_int (fun _ _ => rfl)) pa_nil)) pe_int) pa_nil)))))) (pss_one ps_dead) pss_nil)), ?_⟩
    refine ⟨_, rfl, _, rfl, a, _, dx, _, _, rfl, h1, T.cl_Board, T.na_panel, rfl, va, _, _, _, rfl, rfl, h8, at1, bb, _, rfl, .inr h9, _, _, rfl, rfl, x, 0, _, rfl, _, rfl, ?_⟩
    exact iteN (by rw [pl, decide_eq_true (⟨by omega, by omega⟩ : 0 ≤ x ∧ x ≤ (bs.length : Int) - 1)]; decide) k
theorem ok_Board_getitem (T : TX K mg w) (c_Board_need_place : C8.Met P w K mg base 3 (He.ga K "Board") "need_place" (sp_Board_need_place K) []) : Spm P w K mg base 4 "Board" "__getitem__" (sp_Board_getitem K) := by
  refine T.spm (d := d_Board_getitem) 45 1 rfl rfl (S := sc_Board_getitem) (fun _ _ _ _ _ _ us hl => match us, hl with | [_, _], _ => rfl) (fun vs H Q E h => ?_) (fun cdv A outer s H vs Q E hr h => ?_) T.cl_Board
  · obtain ⟨a, l, kl, p, bs, rest, r, ys, x, rfl, _⟩ := h; rfl
  · obtain ⟨a, l, kl, p, bs, rest, r, ys, x, rfl, hB, lr, x0, x1, k⟩ := h
    obtain ⟨dx, v, xs, y, h1, h2, h3, h4, ⟨xa, rfl, h5⟩, h6, h7⟩ := hB.last
    refine ⟨_, (pss_cons (ps_expr (C8.pe_mt c_Board_need_place hr (by decide) (pv 0) (pa_cons (pv 1) pa_nil)))
    (pss_one (ps_ret (pe_ix ix_tup (pe_ix ix_list (pe_fld (pv 0) rfl) (pe_un un_neg pe_int) (fun _ _ => rfl)) (pv 1) (fun _ _ => rfl))))), ?_⟩
    refine ⟨_, rfl, a, dx, _, rfl, h1, rfl, _, rfl, a, l, kl, p, bs, rest, r, ys, x, rfl, hB, lr, x0, x1, ?_⟩
    exact ⟨_, rfl, a, _, dx, _, _, rfl, h1, T.cl_Board, T.na_past, rfl, _, rfl, l, _, _, _, rfl, rfl, SqL.of h3, h4, _, rfl, xa, _, _, _, rfl, rfl, h5, at_int x0 x1, k⟩
end
end EV
end
section
set_option Elab.async false
set_option linter.all false
set_option maxRecDepth 100000
set_option maxHeartbeats 4000000
namespace EV
open PySem PySem.Spec PyProof.Rows L2
open ER (cf Bd Row P3 Rule Pan BRow)
section
variable {P : Program} {w : World} {K : PySem.W.Frag} {mg : Str → Option Value} {base : Heap}
theorem keepT_ins {H : Hp} {a : Addr} {o : HO} {C dx : Addr} {fs : List (Str × V)} (h : H a = some (.ins C dx fs)) : KeepT K H (upd H a o) := keepT_upd h (fun _ z => by cases z) (fun _ _ z => by cases z)
def sp_Board_init (K : PySem.W.Frag) : Sp := fun vs H Q _ => ∃ (x dx : Addr) (v u : V) (p : Int) (bs : List (List (Int × Int))) (n : Nat) (pic : List (Int × Int)), vs = [.ref x, v, .int (n : Int), u] ∧ H x = some (.ins (He.ga K "Board") dx []) ∧ TPan K H v p bs ∧ Pan p bs ∧ 1 ≤ n ∧ n ≤ 100 ∧ TP K H u pic ∧ Pic p n pic ∧
  ∀ l kl H', H l = none → H kl = none → BO K H' x l kl p bs [ER.coloursF n pic] [] → Fr [x] H H' → Q .non H'
theorem body_Board_init (T : TX K mg w) (c_need_panel : C8.Cal P w K mg base 6 "need_panel" (sp_need_panel K) []) (c_need_size : C8.Cal P w K mg base 2 "need_size" (sp_need_size K) []) (c_need_picture : C8.Cal P w K mg base 5 "need_picture" (sp_need_picture K) []) (c_colours_of : C8.Cal P w K mg base 1 "colours_of" (sp_colours_of K) []) : BodyH P w K mg base d_Board_init n_Board_init (7 - 1) (sp_Board_init K) := fun cdv A outer s H vs Q E hr h => by
  obtain ⟨x, dx, v, u, p, bs, n, pic, rfl, hx, hv, hP, n1, ln, hu, hQ, k⟩ := h
  have hv0 := hv
  obtain ⟨va, ub, rfl, hs, hb⟩ := hv
  refine ⟨_, (pss_cons (ps_expr (C8.pe_c c_need_panel hr (by decide) (by rfl) (pa_cons (pv 1) pa_nil)))
    (pss_cons (ps_expr (C8.pe_c c_need_size hr (by decide) (by rfl) (pa_cons (pv 2) pa_nil)))
    (pss_cons (ps_expr (C8.pe_c c_need_picture hr (by decide) (by rfl) (pa_cons (pe_ix ix_tup (pv 1) pe_int (fun _ _ => rfl)) (pa_cons (pv 2) (pa_cons (pv 3) pa_nil)))))
    (pss_cons (ps_fld (pv 0) (pv 1) rfl)
    (pss_cons (ps_fld (pv 0) (pe_lst (pa_cons (C8.pe_c c_colours_of hr (by decide) (by rfl) (pa_cons (pv 2) (pa_cons (pv 3) pa_nil))) pa_nil)) rfl)
    (pss_one (ps_fld (pv 0) (pe_lst pa_nil) rfl))))))), ?_⟩
  refine ⟨_, rfl, p, _, bs, rfl, hv0, hP, fun H1 s1 => ?_⟩
  refine ⟨_, rfl, n, rfl, by omega, ?_⟩
  refine ⟨_, rfl, va, _, _, _, rfl, rfl, Same.tup s1 hs, at0, _, rfl, _, rfl, p, n, u, pic, rfl, hu.same s1, ln, hQ, fun H2 s2 => ?_⟩
  have s12 := s1.trans s2
  have hx2 := s12 _ _ hx
  refine ⟨_, rfl, _, rfl, x, _, dx, _, rfl, hx2, T.cl_Board, T.na_panel, by decide, ?_⟩
  have f3 : Fr [x] H (upd H2 x (.ins (He.ga K "Board") dx [("whole_panel", .ref va)])) := (Same.fr s12).trans (Fr.upd (by simp))
  have k3 : KeepT K H (upd H2 x (.ins (He.ga K "Board") dx [("whole_panel", .ref va)])) := (keepT s12).trans (keepT_ins hx2)
  have hx3 : upd H2 x (.ins (He.ga K "Board") dx [("whole_panel", .ref va)]) x = some (.ins (He.ga K "Board") dx [("whole_panel", .ref va)]) := upd_same
  change tSeq _ _ _ _ (upd H2 x (.ins (He.ga K "Board") dx [("whole_panel", .ref va)]))
  generalize upd H2 x (.ins (He.ga K "Board") dx [("whole_panel", .ref va)]) = H3 at f3 k3 hx3
  refine ⟨_, rfl, _, rfl, n, u, pic, rfl, hu.keep k3, ln, hQ.lo, fun vc H4 s4 hc => ?_⟩
  refine ⟨by show 1 ≤ sizeLine; decide, fun l nl => ?_⟩
  have s5 := Same.new (o := .lst [vc]) nl
  have hx5 := (s4.trans s5) _ _ hx3
  have nl0 : H l = none := by
    cases e : H l with
    | none => rfl
    | some o =>
      exfalso
      by_cases z : l = x
      · rw [z, s4 _ _ hx3] at nl; cases nl
      · rw [(s4 _ _ (f3 _ _ e (by simpa using z)))] at nl; cases nl
  have lx : l ≠ x := fun e => by rw [e, s4 _ _ hx3] at nl; cases nl
  refine ⟨_, rfl, x, _, dx, _, rfl, hx5, T.cl_Board, T.na_past, by show 1 < 1000; decide, ?_⟩
  have hl5 : upd H4 l (.lst [vc]) l = some (.lst [vc]) := upd_same
  have hc5 := hc.same s5
  generalize upd H4 l (.lst [vc]) = H5 at s5 hx5 hl5 hc5
  have f6 : Fr [x] H (upd H5 x (.ins (He.ga K "Board") dx [("whole_panel", .ref va), ("past", .ref l)])) := (f3.trans (Same.fr (s4.trans s5))).trans (Fr.upd (by simp))
  have k56 : KeepT K H5 (upd H5 x (.ins (He.ga K "Board") dx [("whole_panel", .ref va), ("past", .ref l)])) := keepT_ins hx5
  have hx6 : upd H5 x (.ins (He.ga K "Board") dx [("whole_panel", .ref va), ("past", .ref l)]) x = some (.ins (He.ga K "Board") dx [("whole_panel", .ref va), ("past", .ref l)]) := upd_same
  have hl6 : upd H5 x (.ins (He.ga K "Board") dx [("whole_panel", .ref va), ("past", .ref l)]) l = some (.lst [vc]) := by rw [upd_ne lx]; exact hl5
  refine ⟨by show 0 ≤ sizeLine; decide, fun kl nkl => ?_⟩
  change upd H5 x (.ins (He.ga K "Board") dx [("whole_panel", .ref va), ("past", .ref l)]) kl = none at nkl
  refine ⟨_, rfl, x, _, dx, _, rfl, (Same.new nkl) _ _ hx6, T.cl_Board, T.na_kept, by show 2 < 1000; decide, ?_⟩
  change Q .non (upd (upd (upd H5 x (.ins (He.ga K "Board") dx [("whole_panel", .ref va), ("past", .ref l)])) kl (.lst [])) x (.ins (He.ga K "Board") dx [("whole_panel", .ref va), ("past", .ref l), ("kept", .ref kl)]))
  generalize upd H5 x (.ins (He.ga K "Board") dx [("whole_panel", .ref va), ("past", .ref l)]) = H6 at f6 k56 hx6 hl6 nkl
  have klx : kl ≠ x := fun e => by rw [e, hx6] at nkl; cases nkl
  have kll : l ≠ kl := fun e => by rw [← e, hl6] at nkl; cases nkl
  have nkl0 : H kl = none := by
    cases e : H kl with
    | none => rfl
    | some o =>
      exfalso
      rw [f6 _ _ e (by simpa using klx)] at nkl; cases nkl
  have s7 := Same.new (o := .lst []) nkl
  have hx7 := s7 _ _ hx6
  have hkl7 : upd H6 kl (.lst []) kl = some (.lst []) := upd_same
  have hl7 := s7 _ _ hl6
  generalize upd H6 kl (.lst []) = H7 at s7 hx7 hkl7 hl7
  have k78 : KeepT K H7 (upd H7 x (.ins (He.ga K "Board") dx [("whole_panel", .ref va), ("past", .ref l), ("kept", .ref kl)])) := keepT_ins hx7
  have kk := (k56.trans (keepT s7)).trans k78
  refine k l kl _ nl0 nkl0 ⟨dx, .ref va, [vc], upd_same, hv0.keep ((k3.trans (keepT (s4.trans s5))).trans kk), ?_, .cons (hc5.keep kk) .nil, ?_, kll⟩ ((f6.trans (Same.fr s7)).trans (Fr.upd (by simp)))
  · rw [upd_ne lx]; exact hl7
  · rw [upd_ne klx]; exact hkl7
theorem ok_Board_init (T : TX K mg w) (c_need_panel : C8.Cal P w K mg base 6 "need_panel" (sp_need_panel K) []) (c_need_size : C8.Cal P w K mg base 2 "need_size" (sp_need_size K) []) (c_need_picture : C8.Cal P w K mg base 5 "need_picture" (sp_need_picture K) []) (c_colours_of : C8.Cal P w K mg base 1 "colours_of" (sp_colours_of K) []) : C8.Mak P w K mg base 7 "Board" (He.ga K "Board") (sp_Board_init K) [.ref (dfl0 K "Board" "__init__")] := by
  obtain ⟨fd, O, F⟩ := T.fnok (P := P) (base := base) (CX := CX0) 38 rfl (d := d_Board_init) sc_Board_init (k := 7 - 1) (sp := sp_Board_init K) (fun vs H Q E h => by obtain ⟨x, dx, v, u, p, bs, n, pic, rfl, _⟩ := h; rfl) fun cdv A outer s H vs Q E hr h => (body_Board_init T c_need_panel c_need_size c_need_picture c_colours_of cdv A outer s H vs Q E hr h).imp fun t q => ⟨q.1.nox, q.2⟩
  obtain ⟨ds, hd, hb⟩ := FunD.binds1 (ps := ["self", "panel", "size", "picture"]) F 3 0 (by intro z; cases z) rfl (fun T kV doc pm an cdv ct us its h1 h2 => by
    match us, h1, its, h2 with
    | [a, b, c], _, [d], _ => exact ⟨_, rfl, rfl⟩)
  exact ⟨_, fd, _, ds, T.mk_Board, O, T.glo 60 _ rfl, hb, hd⟩
end
end EV
end
section
set_option Elab.async false
set_option linter.all false
set_option maxRecDepth 100000
set_option maxHeartbeats 4000000
namespace EV
open PySem PySem.Spec PyProof.Rows L2
open ER (cf Bd Row P3 Rule Pan BRow)
section
variable {P : Program} {w : World} {K : PySem.W.Frag} {mg : Str → Option Value} {base : Heap}
def sp_Board_allows (K : PySem.W.Frag) : Sp := fun vs H Q _ => ∃ x y : V, vs = [x, y] ∧ Q (.bl true) H
def sp_Board_note (K : PySem.W.Frag) : Sp := fun vs H Q _ => ∃ x y : V, vs = [x, y] ∧ Q .non H
theorem ok_Board_allows (T : TX K mg w)  : C8.Met P w K mg base 1 (He.ga K "Board") "allows" (sp_Board_allows K) [] := by
  refine T.met (d := d_Board_allows) 49 5 rfl rfl (S := sc_Board_allows) (fun _ _ _ _ _ _ us hl => match us, hl with | [_, _], _ => rfl) (fun vs H Q E h => ?_) (fun cdv A outer s H vs Q E hr h => ?_) T.cl_Board
  · obtain ⟨x, y, rfl, _⟩ := h; rfl
  · obtain ⟨x, y, rfl, k⟩ := h
    exact ⟨_, (pss_one (ps_ret pe_bl)), k⟩
theorem ok_Board_note (T : TX K mg w)  : C8.Met P w K mg base 1 (He.ga K "Board") "note" (sp_Board_note K) [] := by
  refine T.met (d := d_Board_note) 50 6 rfl rfl (S := sc_Board_note) (fun _ _ _ _ _ _ us hl => match us, hl with | [_, _], _ => rfl) (fun vs H Q E h => ?_) (fun cdv A outer s H vs Q E hr h => ?_) T.cl_Board
  · obtain ⟨x, y, rfl, _⟩ := h; rfl
  · obtain ⟨x, y, rfl, k⟩ := h
    exact ⟨_, (pss_one ps_pass), k⟩
def sp_Board_press (K : PySem.W.Frag) : Sp := fun vs H Q _ => ∃ (a l kl : Addr) (p : Int) (bs : List (List (Int × Int))) (rest : List (List Int)) (r : List Int) (ys : List V) (i : Nat) (x t : Int) (b : List (Int × Int)),
  vs = [.ref a, .int (i : Int), .int x, .int t] ∧ BO K H a l kl p bs (rest ++ [r]) ys ∧ r.length ≤ 100 ∧ Pan p bs ∧ rest.length ≤ 200 ∧ bs[i]? = some b ∧ 0 ≤ x ∧ x < r.length ∧ 0 ≤ t ∧
  ∀ H', Fr [a, l, kl] H H' → BO K H' a l kl p bs (rest ++ [r] ++ [ER.pressF p r b x t]) ys → Q (.int (ER.picF (ER.pressF p r b x t)).length) H'
theorem body_Board_press (T : TX K mg w) (c_need_number : C8.Cal P w K mg base 2 "need_number" (sp_need_number K) []) (c_behind_press : C8.Cal P w K mg base 1 "behind_press" (sp_behind_press K) []) (c_Board_lit : Prp P w K mg base 2 "Board" "lit" (sp_Board_lit K)) (c_Board_need_place : C8.Met P w K mg base 3 (He.ga K "Board") "need_place" (sp_Board_need_place K) []) (c_Board_need_button : C8.Met P w K mg base 3 (He.ga K "Board") "need_button" (sp_Board_need_button K) []) (c_Board_allows : C8.Met P w K mg base 1 (He.ga K "Board") "allows" (sp_Board_allows K) []) (c_Board_note : C8.Met P w K mg base 1 (He.ga K "Board") "note" (sp_Board_note K) []) : BodyH P w K mg base d_Board_press n_Board_press (4 - 1) (sp_Board_press K) := fun cdv A outer s H vs Q E hr h => by
  obtain ⟨a, l, kl, p, bs, rest, r, ys, i, x, t, b, rfl, hB, lr, hP, lrest, hi, x0, x1, t0, k⟩ := h
  obtain ⟨dx, v, xs, y, h1, ⟨va, ub, rfl, h8, bb, us, rfl, h9, pr⟩, h3, h4, h5, h6, h7⟩ := hB.last
  obtain ⟨xb, hxb, hxb2⟩ := paired_get2 pr hi
  have hR := hP.rule b (List.mem_of_getElem? hi)
  have li : i < bs.length := (List.getElem?_eq_some_iff.mp hi).1
  refine ⟨_, (pss_cons (ps_expr (C8.pe_mt c_Board_need_button hr (by decide) (pv 0) (pa_cons (pv 1) pa_nil)))
    (pss_cons (ps_expr (C8.pe_mt c_Board_need_place hr (by decide) (pv 0) (pa_cons (pv 2) pa_nil)))
    (pss_cons (ps_expr (C8.pe_c c_need_number hr (by decide) (by rfl) (pa_cons (pv 3) pa_nil)))
    (pss_cons (ps_set (i := 4) sc_Board_press.nd rfl (by first | exact Or.inl rfl | exact Or.inr rfl) (C8.pe_c c_behind_press hr (by decide) (by rfl) (pa_cons (pe_ix ix_tup (pe_fld (pv 0) rfl) pe_int (fun _ _ => rfl)) (pa_cons (pe_ix ix_list (pe_fld (pv 0) rfl) (pe_un un_neg pe_int) (fun _ _ => rfl)) (pa_cons (pe_ix ix_tup (pe_ix ix_tup (pe_fld (pv 0) rfl) pe_int (fun _ _ => rfl)) (pv 1) (fun _ _ => rfl)) (pa_cons (pv 2) (pa_cons (pv 3) pa_nil)))))))
    (pss_cons (ps_if (pt_not (pt_val (C8.pe_mt c_Board_allows hr (by decide) (pv 0) (pa_cons (pv 4) pa_nil)))) (pss_one ps_dead) pss_nil)
    (pss_cons (ps_expr (C8.pe_mt c_Board_note hr (by decide) (pv 0) (pa_cons (pv 3) pa_nil)))
    (pss_cons (ps_expr (pe_bm PySem.F.plainAttrs_list PySem.F.slot_list_append PySem.F.type_list_append mt_append (pe_fld (pv 0) rfl) (pa_cons (pv 4) pa_nil)))
    (pss_one (ps_ret (c_Board_lit.prop (pv 0) hr (by decide) rfl)))))))))), ?_⟩
  refine ⟨_, rfl, a, dx, _, rfl, h1, rfl, _, rfl, a, l, kl, p, bs, rest, r, ys, i, rfl, hB, lr, by omega, by omega, ?_⟩
  refine ⟨_, rfl, a, dx, _, rfl, h1, rfl, _, rfl, a, l, kl, p, bs, rest, r, ys, x, rfl, hB, lr, x0, x1, ?_⟩
  refine ⟨_, rfl, t, rfl, t0, ?_⟩
  refine ⟨_, rfl, a, _, dx, _, _, rfl, h1, T.cl_Board, T.na_panel, rfl, va, _, _, _, rfl, rfl, h8, at0, ?_⟩
  refine ⟨_, rfl, a, _, dx, _, _, rfl, h1, T.cl_Board, T.na_past, rfl, _, rfl, l, _, _, _, rfl, rfl, SqL.of h3, h4, ?_⟩
  refine ⟨_, rfl, a, _, dx, _, _, rfl, h1, T.cl_Board, T.na_panel, rfl, va, _, _, _, rfl, rfl, h8, at1, _, rfl, bb, _, _, _, rfl, rfl, h9, atI_nat hxb, ?_⟩
  refine ⟨_, rfl, _, rfl, p, x, t, y, xb, r, b, rfl, h5.li, hxb2, hP.hp, hR.amt, by intro e; rw [e] at x1; simp at x1; omega, lr, fun vp H1 s1 hp1 => ?_⟩
  have h11 := s1 _ _ h1
  refine ⟨_, rfl, a, dx, _, rfl, h11, rfl, _, rfl, _, _, rfl, _, rfl, iteN (by decide) ?_⟩
  refine ⟨_, rfl, a, dx, _, rfl, h11, rfl, _, rfl, _, _, rfl, ?_⟩
  have h31 := s1 _ _ h3
  refine ⟨_, rfl, a, _, dx, _, _, rfl, h11, T.cl_Board, T.na_past, rfl, .inl ⟨rfl, _, SqL.of h31⟩, _, rfl, l, xs, _, rfl, rfl, h31, by rw [sizeLine_eq]; omega, ?_⟩
  obtain ⟨hB2, f2⟩ := (BO.same hB s1).push hp1 h31
  have lp := pressF_len p x t b r
  have hB2' := hB2
  rw [List.append_assoc] at hB2'
  obtain ⟨dx2, v2, xs2, y2, g1, g2, g3, g4, g5, g6, g7⟩ := (show BO K _ a l kl p bs ((rest ++ [r]) ++ [ER.pressF p r b x t]) ys from hB2).last
  refine ⟨_, rfl, a, dx2, _, rfl, g1, a, l, kl, p, bs, rest ++ [r], _, ys, rfl, hB2, by omega, fun H3 s3 => ?_⟩
  exact k H3 (((Same.fr s1).trans f2).trans (Same.fr s3)) (hB2.same s3)
theorem fn_Board_press (T : TX K mg w) (c_need_number : C8.Cal P w K mg base 2 "need_number" (sp_need_number K) []) (c_behind_press : C8.Cal P w K mg base 1 "behind_press" (sp_behind_press K) []) (c_Board_lit : Prp P w K mg base 2 "Board" "lit" (sp_Board_lit K)) (c_Board_need_place : C8.Met P w K mg base 3 (He.ga K "Board") "need_place" (sp_Board_need_place K) []) (c_Board_need_button : C8.Met P w K mg base 3 (He.ga K "Board") "need_button" (sp_Board_need_button K) []) (c_Board_allows : C8.Met P w K mg base 1 (He.ga K "Board") "allows" (sp_Board_allows K) []) (c_Board_note : C8.Met P w K mg base 1 (He.ga K "Board") "note" (sp_Board_note K) []) : ∃ fd, FnOk P w K mg base CX0 4 (pAd K "Board" "press") fd ["self", "index", "place", "times"] (sp_Board_press K) ∧ FunD K "press" "Board.press" (defArgs s_Board_press) (defBody s_Board_press) (defScope s_Board_press) [.int 1] [] (pAd K "Board" "press") fd := by
  exact T.fnok (P := P) (base := base) (CX := CX0) 51 rfl (d := d_Board_press) sc_Board_press (k := 4 - 1) (sp := sp_Board_press K) (fun vs H Q E h => by obtain ⟨a, l, kl, p, bs, rest, r, ys, i, x, t, b, rfl, _⟩ := h; rfl) fun cdv A outer s H vs Q E hr h => (body_Board_press T c_need_number c_behind_press c_Board_lit c_Board_need_place c_Board_need_button c_Board_allows c_Board_note cdv A outer s H vs Q E hr h).imp fun t q => ⟨q.1.nox, q.2⟩
theorem ok_Board_press (T : TX K mg w) (c_need_number : C8.Cal P w K mg base 2 "need_number" (sp_need_number K) []) (c_behind_press : C8.Cal P w K mg base 1 "behind_press" (sp_behind_press K) []) (c_Board_lit : Prp P w K mg base 2 "Board" "lit" (sp_Board_lit K)) (c_Board_need_place : C8.Met P w K mg base 3 (He.ga K "Board") "need_place" (sp_Board_need_place K) []) (c_Board_need_button : C8.Met P w K mg base 3 (He.ga K "Board") "need_button" (sp_Board_need_button K) []) (c_Board_allows : C8.Met P w K mg base 1 (He.ga K "Board") "allows" (sp_Board_allows K) []) (c_Board_note : C8.Met P w K mg base 1 (He.ga K "Board") "note" (sp_Board_note K) []) : C8.Met P w K mg base 4 (He.ga K "Board") "press" (sp_Board_press K) [] := by
  obtain ⟨fd, O, F⟩ := fn_Board_press T c_need_number c_behind_press c_Board_lit c_Board_need_place c_Board_need_button c_Board_allows c_Board_note
  obtain ⟨ds, hd, hb⟩ := FunD.binds1 (ps := ["self", "index", "place", "times"]) F 4 1 (by intro z; cases z) rfl (fun T kV doc pm an cdv ct us its h1 h2 => by
    match us, h1, its, h2 with
    | [a, b, c, d], _, [e], _ => exact ⟨_, rfl, rfl⟩)
  exact ⟨_, fd, _, ds, T.cl_Board, (T.meth 7 _ rfl).1, O, hb, hd⟩
theorem ok_Board_press2 (T : TX K mg w) (c_need_number : C8.Cal P w K mg base 2 "need_number" (sp_need_number K) []) (c_behind_press : C8.Cal P w K mg base 1 "behind_press" (sp_behind_press K) []) (c_Board_lit : Prp P w K mg base 2 "Board" "lit" (sp_Board_lit K)) (c_Board_need_place : C8.Met P w K mg base 3 (He.ga K "Board") "need_place" (sp_Board_need_place K) []) (c_Board_need_button : C8.Met P w K mg base 3 (He.ga K "Board") "need_button" (sp_Board_need_button K) []) (c_Board_allows : C8.Met P w K mg base 1 (He.ga K "Board") "allows" (sp_Board_allows K) []) (c_Board_note : C8.Met P w K mg base 1 (He.ga K "Board") "note" (sp_Board_note K) []) : C8.Met P w K mg base 4 (He.ga K "Board") "press" (sp_Board_press K) [.int 1] := by
  obtain ⟨fd, O, F⟩ := fn_Board_press T c_need_number c_behind_press c_Board_lit c_Board_need_place c_Board_need_button c_Board_allows c_Board_note
  obtain ⟨ds, hd, hb⟩ := FunD.binds1 (ps := ["self", "index", "place", "times"]) F 3 0 (by intro z; cases z) rfl (fun T kV doc pm an cdv ct us its h1 h2 => by
    match us, h1, its, h2 with
    | [a, b, c], _, [e], _ => exact ⟨_, rfl, rfl⟩)
  exact ⟨_, fd, _, ds, T.cl_Board, (T.meth 7 _ rfl).1, O, hb, hd⟩
def sp_Board_press_star (K : PySem.W.Frag) : Sp := fun vs H Q E => sp_Board_press K (vs ++ []) H Q E ∨ sp_Board_press K (vs ++ [.int 1]) H Q E
theorem ok_Board_press_star (T : TX K mg w) (c_need_number : C8.Cal P w K mg base 2 "need_number" (sp_need_number K) []) (c_behind_press : C8.Cal P w K mg base 1 "behind_press" (sp_behind_press K) []) (c_Board_lit : Prp P w K mg base 2 "Board" "lit" (sp_Board_lit K)) (c_Board_need_place : C8.Met P w K mg base 3 (He.ga K "Board") "need_place" (sp_Board_need_place K) []) (c_Board_need_button : C8.Met P w K mg base 3 (He.ga K "Board") "need_button" (sp_Board_need_button K) []) (c_Board_allows : C8.Met P w K mg base 1 (He.ga K "Board") "allows" (sp_Board_allows K) []) (c_Board_note : C8.Met P w K mg base 1 (He.ga K "Board") "note" (sp_Board_note K) []) : Sta P w K mg base 4 "Board" "press" (sp_Board_press_star K) := by
  obtain ⟨fd, O, F⟩ := fn_Board_press T c_need_number c_behind_press c_Board_lit c_Board_need_place c_Board_need_button c_Board_allows c_Board_note
  obtain ⟨ds, hd, hb⟩ := FunD.binds1 (ps := ["self", "index", "place", "times"]) F 4 1 (by intro z; cases z) rfl (fun T kV doc pm an cdv ct us its h1 h2 => by
    match us, h1, its, h2 with
    | [a, b, c, d], _, [e], _ => exact ⟨_, rfl, rfl⟩)
  obtain ⟨ds2, hd2, hb2⟩ := FunD.binds1 (ps := ["self", "index", "place", "times"]) F 3 0 (by intro z; cases z) rfl (fun T kV doc pm an cdv ct us its h1 h2 => by
    match us, h1, its, h2 with
    | [a, b, c], _, [e], _ => exact ⟨_, rfl, rfl⟩)
  exact ⟨T.cl_Board, T.bm_press, FnR.or (O.raw hb hd) (O.raw hb2 hd2)⟩
theorem slice_ints {H : Hp} {v : V} {r r' : List Int} {lo hi : Option Int} {Q : VK} (h : TI K H v r) (hc : cutV (r.map V.int) lo hi = r'.map V.int) (k : ∀ v H', Same H H' → TI K H' v r' → Q v H') : rSlA K v lo hi H Q := by
  obtain ⟨a, rfl, hs⟩ := h
  refine ⟨a, _, rfl, hs, fun e => ?_, fun _ p np => ?_⟩
  · have e2 : cutV (r.map V.int) lo hi = r.map V.int := by
      unfold cutV
      rw [e.1, e.2, List.drop_zero, Nat.sub_zero, List.take_length]
    rw [e2] at hc
    exact k _ _ (Same.refl _) ⟨a, rfl, hc ▸ hs⟩
  · rw [hc]
    exact k _ _ (Same.new np) TI.made
theorem cut_from (r : List Int) (n : Int) (h0 : 0 ≤ n) (h : n ≤ r.length) : cutV (r.map V.int) (some n) none = (r.drop n.toNat).map V.int := by
  obtain ⟨m, rfl⟩ : ∃ m : Nat, n = (m : Int) := ⟨n.toNat, by omega⟩
  unfold cutV
  rw [HT.sIx_none, HT.sIx_nat, List.length_map, Nat.min_eq_left (by omega), Int.toNat_natCast, ← List.map_drop, ← List.map_take]
  congr 1
  exact List.take_of_length_le (by rw [List.length_drop]; exact Nat.le_refl _)
def sp_Board_setitem (K : PySem.W.Frag) : Sp := fun vs H Q _ => ∃ (a l kl : Addr) (p : Int) (bs : List (List (Int × Int))) (rest : List (List Int)) (r : List Int) (ys : List V) (x : Nat) (c : Int),
  vs = [.ref a, .int (x : Int), .int c] ∧ BO K H a l kl p bs (rest ++ [r]) ys ∧ r.length ≤ 100 ∧ rest.length ≤ 200 ∧ x < r.length ∧ 0 ≤ c ∧ c < p ∧
  ∀ H', Fr [a, l, kl] H H' → BO K H' a l kl p bs (rest ++ [r] ++ [r.set x c]) ys → Q .non H'
theorem ok_Board_setitem (T : TX K mg w) (c_is_whole : C8.Cal P w K mg base 2 "is_whole" (sp_is_whole K) []) (c_Board_need_place : C8.Met P w K mg base 3 (He.ga K "Board") "need_place" (sp_Board_need_place K) []) : Spm P w K mg base 4 "Board" "__setitem__" (sp_Board_setitem K) := by
  refine T.spm (d := d_Board_setitem) 46 2 rfl rfl (S := sc_Board_setitem) (fun _ _ _ _ _ _ us hl => match us, hl with | [_, _, _], _ => rfl) (fun vs H Q E h => ?_) (fun cdv A outer s H vs Q E hr h => ?_) T.cl_Board
  · obtain ⟨a, l, kl, p, bs, rest, r, ys, x, c, rfl, _⟩ := h; rfl
  · obtain ⟨a, l, kl, p, bs, rest, r, ys, x, c, rfl, hB, lr, lrest, x1, c0, c1, k⟩ := h
    obtain ⟨dx, v, xs, y, h1, ⟨va, ub, rfl, h8, bb, us, rfl, h9, pr⟩, h3, h4, h5, h6, h7⟩ := hB.last
    refine ⟨_, (pss_cons (ps_expr (C8.pe_mt c_Board_need_place hr (by decide) (pv 0) (pa_cons (pv 1) pa_nil)))
    (pss_cons (ps_if (pt_not (pt_val (C8.pe_c c_is_whole hr (by decide) (by rfl) (pa_cons (pv 2) (pa_cons pe_int (pa_cons (pe_op op_sub (pe_ix ix_tup (pe_fld (pv 0) rfl) pe_int (fun _ _ => rfl)) pe_int) pa_nil)))))) (pss_one ps_dead) pss_nil)
    (pss_cons (ps_set (i := 3) sc_Board_setitem.nd rfl (by first | exact Or.inl rfl | exact Or.inr rfl) (pe_ix ix_list (pe_fld (pv 0) rfl) (pe_un un_neg pe_int) (fun _ _ => rfl)))
    (pss_one (ps_expr (pe_bm PySem.F.plainAttrs_list PySem.F.slot_list_append PySem.F.type_list_append mt_append (pe_fld (pv 0) rfl) (pa_cons (pe_op op_catA (pe_op op_catA (pe_slice sl_tupA (pv 3) po_none (po_some (pv 1))) (pe_tup (pa_cons (pv 2) pa_nil))) (pe_slice sl_tupA (pv 3) (po_some (pe_op op_add (pv 1) pe_int)) po_none)) pa_nil))))))), ?_⟩
    refine ⟨_, rfl, a, dx, _, rfl, h1, rfl, _, rfl, a, l, kl, p, bs, rest, r, ys, x, rfl, hB, lr, by omega, by omega, ?_⟩
    refine ⟨_, rfl, _, rfl, a, _, dx, _, _, rfl, h1, T.cl_Board, T.na_panel, rfl, va, _, _, _, rfl, rfl, h8, at0, _, _, rfl, rfl, c, 0, _, rfl, _, rfl, ?_⟩
    refine iteN (by rw [decide_eq_true (⟨by omega, by omega⟩ : 0 ≤ c ∧ c ≤ p - 1)]; decide) ?_
    refine ⟨_, rfl, a, _, dx, _, _, rfl, h1, T.cl_Board, T.na_past, rfl, _, rfl, l, _, _, _, rfl, rfl, SqL.of h3, h4, ?_⟩
    refine ⟨_, rfl, a, _, dx, _, _, rfl, h1, T.cl_Board, T.na_past, rfl, .inl ⟨rfl, _, SqL.of h3⟩, _, rfl, ?_⟩
    dsimp only [tNoPart]
    refine ⟨_, rfl, _, rfl, ?_⟩
    refine slice_ints h5 (cut_to r x (by omega)) fun v1 H1 s1 hv1 => ?_
    refine ⟨_, rfl, by show 1 ≤ sizeLine; decide, fun t2 n2 => ?_⟩
    have s2 := Same.new (o := .tup [V.int c]) n2
    have h2' : TI K (upd H1 t2 (.tup [V.int c])) (.ref t2) [c] := TI.made (r := [c])
    generalize upd H1 t2 (.tup [V.int c]) = H2 at s2 h2'
    refine cat_ints (hv1.same s2) h2' (by simp; omega) fun v3 H3 s3 hv3 => ?_
    refine ⟨_, rfl, _, rfl, _, _, rfl, rfl, _, rfl, ?_⟩
    dsimp only [tNoPart]
    refine slice_ints (h5.same (s1.trans (s2.trans s3))) (cut_from r ((x : Int) + 1) (by omega) (by omega)) fun v4 H4 s4 hv4 => ?_
    refine cat_ints (hv3.same s4) hv4 (by simp; omega) fun v5 H5 s5 hv5 => ?_
    have s15 := (s1.trans (s2.trans s3)).trans (s4.trans s5)
    have h35 := s15 _ _ h3
    refine ⟨l, xs, _, rfl, rfl, h35, by rw [sizeLine_eq]; omega, ?_⟩
    have e : r.take x ++ [c] ++ r.drop ((x : Int) + 1).toNat = r.set x c := by
      rw [List.set_eq_take_append_cons_drop, if_pos x1, show ((x : Int) + 1).toNat = x + 1 by omega, List.append_assoc]; rfl
    rw [e] at hv5
    obtain ⟨hB2, f2⟩ := (BO.same hB s15).push hv5 h35
    exact k _ ((Same.fr s15).trans f2) hB2
theorem turn_len (p : Int) (b : List (Int × Int)) : ∀ (l : List (Int × Int)) (f : List Int), (l.foldl (fun f q => ER.pressF p f b q.1 q.2) f).length = f.length
  | [], _ => rfl
  | q :: l, f => by rw [List.foldl_cons, turn_len p b l, pressF_len]
theorem turnF_len (p : Int) (r : List Int) (b : List (Int × Int)) : (ER.turnF p r b).length = r.length := by
  unfold ER.turnF; rw [turn_len, List.length_replicate]
def sp_Board_do_turn (K : PySem.W.Frag) : Sp := fun vs H Q _ => ∃ (a l kl : Addr) (p : Int) (bs : List (List (Int × Int))) (rest : List (List Int)) (r : List Int) (ys : List V) (i : Nat) (b : List (Int × Int)),
  vs = [.ref a, .int (i : Int)] ∧ BO K H a l kl p bs (rest ++ [r]) ys ∧ r.length ≤ 100 ∧ r ≠ [] ∧ Pan p bs ∧ rest.length ≤ 200 ∧ bs[i]? = some b ∧
  ∀ H', Fr [a, l, kl] H H' → BO K H' a l kl p bs (rest ++ [r] ++ [ER.turnF p r b]) ys → Q (.int (ER.picF (ER.turnF p r b)).length) H'
theorem ok_Board_do_turn (T : TX K mg w) (c_behind_press : C8.Cal P w K mg base 1 "behind_press" (sp_behind_press K) []) (c_picture_of : C8.Cal P w K mg base 1 "picture_of" (sp_picture_of K) []) (c_Board_lit : Prp P w K mg base 2 "Board" "lit" (sp_Board_lit K)) (c_Board_need_button : C8.Met P w K mg base 3 (He.ga K "Board") "need_button" (sp_Board_need_button K) []) : C8.Met P w K mg base 4 (He.ga K "Board") "do_turn" (sp_Board_do_turn K) [] := by
  refine T.met (d := d_Board_do_turn) 52 8 rfl rfl (S := sc_Board_do_turn) (fun _ _ _ _ _ _ us hl => match us, hl with | [_, _], _ => rfl) (fun vs H Q E h => ?_) (fun cdv A outer s H vs Q E hr h => ?_) T.cl_Board
  · obtain ⟨a, l, kl, p, bs, rest, r, ys, i, b, rfl, _⟩ := h; rfl
  · obtain ⟨a, l, kl, p, bs, rest, r, ys, i, b, rfl, hB, lr, ne, hP, lrest, hi, k⟩ := h
    obtain ⟨dx, v, xs, y, h1, ⟨va, ub, rfl, h8, bb, us, rfl, h9, pr⟩, h3, h4, h5, h6, h7⟩ := hB.last
    obtain ⟨xb, hxb, hxb2⟩ := paired_get2 pr hi
    have hR := hP.rule b (List.mem_of_getElem? hi)
    have li : i < bs.length := (List.getElem?_eq_some_iff.mp hi).1
    have rl : 0 < r.length := List.length_pos_iff.mpr ne
    have h5' := h5
    obtain ⟨ya, rfl, hys⟩ := h5'
    refine ⟨_, (pss_cons (ps_expr (C8.pe_mt c_Board_need_button hr (by decide) (pv 0) (pa_cons (pv 1) pa_nil)))
    (pss_cons (ps_set (i := 2) sc_Board_do_turn.nd rfl (by first | exact Or.inl rfl | exact Or.inr rfl) (pe_op op_repA (pe_tup (pa_cons pe_int pa_nil)) (pe_callB call_len_seq (by rfl) (T.fr 4 rfl) (by decide +kernel) (pa_cons (pe_ix ix_list (pe_fld (pv 0) rfl) (pe_un un_neg pe_int) (fun _ _ => rfl)) pa_nil))))
    (pss_cons (ps_for PassesOwn.never rfl (pi_tup (C8.pe_c c_picture_of hr (by decide) (by rfl) (pa_cons (pe_ix ix_list (pe_fld (pv 0) rfl) (pe_un un_neg pe_int) (fun _ _ => rfl)) pa_nil))) (pg_tup rfl (pgs_cons (pg_name (i := 3) sc_Board_do_turn.nd rfl (by first | exact Or.inl rfl | exact Or.inr rfl)) (pgs_cons (pg_name (i := 4) sc_Board_do_turn.nd rfl (by first | exact Or.inl rfl | exact Or.inr rfl)) pgs_nil))) (pss_one (ps_set (i := 2) sc_Board_do_turn.nd rfl (by first | exact Or.inl rfl | exact Or.inr rfl) (C8.pe_c c_behind_press hr (by decide) (by rfl) (pa_cons (pe_ix ix_tup (pe_fld (pv 0) rfl) pe_int (fun _ _ => rfl)) (pa_cons (pv 2) (pa_cons (pe_ix ix_tup (pe_ix ix_tup (pe_fld (pv 0) rfl) pe_int (fun _ _ => rfl)) (pv 1) (fun _ _ => rfl)) (pa_cons (pv 3) (pa_cons (pv 4) pa_nil)))))))))
    (pss_cons (ps_expr (pe_bm PySem.F.plainAttrs_list PySem.F.slot_list_append PySem.F.type_list_append mt_append (pe_fld (pv 0) rfl) (pa_cons (pv 2) pa_nil)))
    (pss_one (ps_ret (c_Board_lit.prop (pv 0) hr (by decide) rfl))))))), ?_⟩
    refine ⟨_, rfl, a, dx, _, rfl, h1, rfl, _, rfl, a, l, kl, p, bs, rest, r, ys, i, rfl, hB, lr, by omega, by omega, ?_⟩
    refine ⟨by show 1 ≤ sizeLine; decide, fun l1 n1 => ?_⟩
    have s1 := Same.new (o := .tup [V.int 0]) n1
    have hl1 : upd H l1 (.tup [V.int 0]) l1 = some (.tup [V.int 0]) := upd_same
    generalize upd H l1 (.tup [V.int 0]) = H1 at s1 hl1
    refine ⟨_, rfl, a, _, dx, _, _, rfl, s1 _ _ h1, T.cl_Board, T.na_past, rfl, _, rfl, l, _, _, _, rfl, rfl, SqL.of (s1 _ _ h3), h4, ya, _, rfl, .inr (Same.tup s1 hys), ?_⟩
    rw [List.length_map]
    refine rep_zeros hl1 (by omega) fun vz H2 s2 hz => ?_
    have s12 := s1.trans s2
    refine ⟨_, rfl, a, _, dx, _, _, rfl, s12 _ _ h1, T.cl_Board, T.na_past, rfl, _, rfl, l, _, _, _, rfl, rfl, SqL.of (s12 _ _ h3), h4, _, r, rfl, h5.same s12, lr, fun vp H3 s3 hp3 => ?_⟩
    obtain ⟨pa, ps, rfl, hps, prp⟩ := hp3
    have s13 := s12.trans s3
    refine ⟨pa, rfl, ⟨_, hps⟩, ?_⟩
    refine for_it walk_tup (fun j σ H' => ∃ (c3 c4 : Option V) (v : V) (f : List Int), σ = [some (.ref a), some (.int (i : Int)), some v, c3, c4] ∧ Same H H' ∧ Same H3 H' ∧ TI K H' v f ∧ f.length = r.length ∧
        ((ER.picF r).drop j).foldl (fun f q => ER.pressF p f b q.1 q.2) f = ER.turnF p r b)
      ⟨none, none, vz, _, rfl, s13, Same.refl _, hz.same s3, by simp, rfl⟩ (fun i σ H' _ ⟨_, _, _, _, _, _, s, _⟩ => Same.tup s hps) ?_ ?_
    · rintro j x σ H4 H5 hj ⟨c3, c4, v, f, rfl, s4, s34, hv, lf, hg⟩ ⟨rfl, hxj⟩
      obtain ⟨q, hq1, ta, rfl, hq2⟩ := paired_get prp hxj
      obtain ⟨hlt, e⟩ := List.getElem?_eq_some_iff.mp hq1
      rw [List.drop_eq_getElem_cons hlt, e, List.foldl_cons] at hg
      refine ⟨ta, _, rfl, Same.tup s34 hq2, rfl, _, _, rfl, _, _, rfl, rfl, ?_⟩
      refine ⟨_, rfl, a, _, dx, _, _, rfl, s4 _ _ h1, T.cl_Board, T.na_panel, rfl, va, _, _, _, rfl, rfl, Same.tup s4 h8, at0, _, rfl, ?_⟩
      refine ⟨_, rfl, a, _, dx, _, _, rfl, s4 _ _ h1, T.cl_Board, T.na_panel, rfl, va, _, _, _, rfl, rfl, Same.tup s4 h8, at1, _, rfl, bb, _, _, _, rfl, rfl, Same.tup s4 h9, atI_nat hxb, ?_⟩
      refine ⟨_, rfl, _, rfl, p, q.1, q.2, v, xb, f, b, rfl, hv.li, hxb2.same s4, hP.hp, hR.amt, by intro e; rw [e] at lf; simp at lf; omega, by omega, fun v6 H6 s6 h6 => ?_⟩
      exact ⟨_, _, v6, _, rfl, s4.trans s6, s34.trans s6, h6, by rw [pressF_len]; exact lf, hg⟩
    · rintro σ H4 ⟨c3, c4, v, f, rfl, s4, s34, hv, lf, hg⟩
      rw [paired_len prp, List.drop_length] at hg
      have hg' : f = ER.turnF p r b := hg
      subst hg'
      have h34 := s4 _ _ h3
      refine ⟨_, rfl, a, _, dx, _, _, rfl, s4 _ _ h1, T.cl_Board, T.na_past, rfl, .inl ⟨rfl, _, SqL.of h34⟩, _, rfl, l, xs, _, rfl, rfl, h34, by rw [sizeLine_eq]; omega, ?_⟩
      obtain ⟨hB2, f2⟩ := (BO.same hB s4).push hv h34
      obtain ⟨dx2, v2, xs2, y2, g1, g2, g3, g4, g5, g6, g7⟩ := (show BO K _ a l kl p bs ((rest ++ [r]) ++ [ER.turnF p r b]) ys from hB2).last
      refine ⟨_, rfl, a, dx2, _, rfl, g1, a, l, kl, p, bs, rest ++ [r], _, ys, rfl, hB2, by omega, fun H5 s5 => ?_⟩
      exact k H5 (((Same.fr s4).trans f2).trans (Same.fr s5)) (hB2.same s5)
def sp_Board_undo (K : PySem.W.Frag) : Sp := fun vs H Q _ => ∃ (a l kl : Addr) (p : Int) (bs : List (List (Int × Int))) (rest : List (List Int)) (r : List Int),
  vs = [.ref a] ∧ BO K H a l kl p bs (rest ++ [r]) [] ∧ rest ≠ [] ∧
  ∀ H', Fr [a, l, kl] H H' → BO K H' a l kl p bs rest [] → Q .non H'
theorem paired_drop {α β : Type} {F : α → β → Prop} {xs : List α} {l : List β} {d : β} (h : Paired F xs (l ++ [d])) : Paired F xs.dropLast l := by
  induction l generalizing xs with
  | nil => cases h with | cons a b => cases b; exact .nil
  | cons c l ih =>
    cases h with
    | cons a b =>
      have := ih b
      rename_i xs0
      have hne : xs0.length = (l ++ [d]).length := paired_len b
      rw [List.length_append] at hne
      cases xs0 with
      | nil => simp at hne
      | cons a' b' => exact .cons a (by simpa using this)
theorem ok_Board_undo (T : TX K mg w)  : C8.Met P w K mg base 1 (He.ga K "Board") "undo" (sp_Board_undo K) [] := by
  refine T.met (d := d_Board_undo) 53 9 rfl rfl (S := sc_Board_undo) (fun _ _ _ _ _ _ us hl => match us, hl with | [_], _ => rfl) (fun vs H Q E h => ?_) (fun cdv A outer s H vs Q E hr h => ?_) T.cl_Board
  · obtain ⟨a, l, kl, p, bs, rest, r, rfl, _⟩ := h; rfl
  · obtain ⟨a, l, kl, p, bs, rest, r, rfl, hB, ne, k⟩ := h
    have rl : 0 < rest.length := List.length_pos_iff.mpr ne
    obtain ⟨dx, v, xs, h1, h2, h3, h4, h5, h6⟩ := hB
    have pl := paired_len h4
    rw [List.length_append] at pl
    refine ⟨_, (pss_cons (ps_set (i := 1) sc_Board_undo.nd rfl (by first | exact Or.inl rfl | exact Or.inr rfl) (pe_ifExp (pt_cmpR (op_neD hr.units) (pe_fld (pv 0) rfl) (pe_lst pa_nil) (nomark _)) (pe_callB call_len_seq (by rfl) (T.fr 4 rfl) (by decide +kernel) (pa_cons (pe_ix ix_list (pe_fld (pv 0) rfl) (pe_un un_neg pe_int) (fun _ _ => rfl)) pa_nil)) pe_int))
    (pss_cons (ps_if (pt_cmpR op_le (pe_callB call_len_seq (by rfl) (T.fr 4 rfl) (by decide +kernel) (pa_cons (pe_fld (pv 0) rfl) pa_nil)) (pv 1) (nomark _)) (pss_one ps_dead) pss_nil)
    (pss_one (ps_expr (pe_bm0 PySem.F.plainAttrs_list PySem.F.slot_list_pop PySem.F.type_list_pop mt_pop (pe_fld (pv 0) rfl)))))), ?_⟩
    refine ⟨_, rfl, a, _, dx, _, _, rfl, h1, T.cl_Board, T.na_kept, rfl, by show 0 ≤ sizeLine; decide, fun t nt => ?_⟩
    have s1 := Same.new (o := .lst []) nt
    refine ⟨_, _, .lst (SqL.of (s1 _ _ h5)) .nil, .lst (SqL.of upd_same) .nil, (ok_dLN (n := 0)).shaped, (ok_dLN (n := 0)).shaped, _, rfl, ?_⟩
    generalize upd H t (.lst []) = H1 at s1
    refine iteN (by decide) ?_
    have h31 := s1 _ _ h3
    have h11 := s1 _ _ h1
    refine ⟨_, rfl, a, _, dx, _, _, rfl, h11, T.cl_Board, T.na_past, rfl, l, _, rfl, .inl (SqL.of h31), _, rfl, _, _, rfl, rfl, _, rfl, iteN ?_ ?_⟩
    · simp only [List.length_cons, List.length_nil] at pl
      simp; omega
    have hy : xs[xs.length - 1]? = some (xs[xs.length - 1]'(by simp at pl; omega)) := List.getElem?_eq_getElem (by simp at pl; omega)
    refine ⟨_, rfl, a, _, dx, _, _, rfl, h11, T.cl_Board, T.na_past, rfl, .inl ⟨rfl, _, SqL.of h31⟩, l, xs, _, rfl, rfl, h31, hy, ?_⟩
    have kk : KeepT K H (upd H1 l (.lst xs.dropLast)) := (keepT s1).trans (keepT_lst h31)
    refine k _ ((Same.fr s1).trans (Fr.upd (by simp))) ⟨dx, v, xs.dropLast, ?_, h2.keep kk, upd_same, paired_mono (fun _ _ z => z.keep kk) (paired_drop h4), ?_, h6⟩
    · rw [upd_ne (fun e => by rw [e, h31] at h11; cases h11)]; exact h11
    · rw [upd_ne h6.symm]; exact s1 _ _ h5
/-- the innermost block -/
def sp_Board_begin (K : PySem.W.Frag) : Sp := fun vs H Q _ => ∃ (a l kl : Addr) (p : Int) (bs : List (List (Int × Int))) (past : List (List Int)) (ys : List V),
  vs = [.ref a] ∧ BO K H a l kl p bs past ys ∧ ys.length ≤ 100 ∧
  ∀ b H', H b = none → Fr [a, l, kl] H H' → BO K H' a l kl p bs past (ys ++ [.ref b]) → (∃ zs, H' b = some (.lst zs) ∧ Paired (TI K H') zs past) → b ≠ l → b ≠ kl → Q .non H'
theorem ok_Board_begin (T : TX K mg w)  : C8.Met P w K mg base 1 (He.ga K "Board") "begin" (sp_Board_begin K) [] := by
  refine T.met (d := d_Board_begin) 54 10 rfl rfl (S := sc_Board_begin) (fun _ _ _ _ _ _ us hl => match us, hl with | [_], _ => rfl) (fun vs H Q E h => ?_) (fun cdv A outer s H vs Q E hr h => ?_) T.cl_Board
  · obtain ⟨a, l, kl, p, bs, past, ys, rfl, _⟩ := h; rfl
  · obtain ⟨a, l, kl, p, bs, past, ys, rfl, ⟨dx, v, xs, h1, h2, h3, h4, h5, h6⟩, ly, k⟩ := h
    refine ⟨_, (pss_one (ps_expr (pe_bm PySem.F.plainAttrs_list PySem.F.slot_list_append PySem.F.type_list_append mt_append (pe_fld (pv 0) rfl) (pa_cons (pe_callTy call_list_of (by rfl) (T.fr 10 rfl) (by decide +kernel) (pa_cons (pe_fld (pv 0) rfl) pa_nil)) pa_nil)))), ?_⟩
    refine ⟨_, rfl, a, _, dx, _, _, rfl, h1, T.cl_Board, T.na_kept, rfl, .inl ⟨rfl, _, SqL.of h5⟩, _, rfl, a, _, dx, _, _, rfl, h1, T.cl_Board, T.na_past, rfl, l, _, rfl, .inl (SqL.of h3), fun b nb => ?_⟩
    have s1 := Same.new (o := .lst xs) nb
    have hb1 : upd H b (.lst xs) b = some (.lst xs) := upd_same
    have bl : b ≠ l := fun e => by rw [e, h3] at nb; cases nb
    have bk : b ≠ kl := fun e => by rw [e, h5] at nb; cases nb
    generalize upd H b (.lst xs) = H1 at s1 hb1
    have h51 := s1 _ _ h5
    have h11 := s1 _ _ h1
    refine ⟨kl, ys, _, rfl, rfl, h51, by rw [sizeLine_eq]; omega, ?_⟩
    have kk : KeepT K H (upd H1 kl (.lst (ys ++ [.ref b]))) := (keepT s1).trans (keepT_lst h51)
    refine k b _ nb ((Same.fr s1).trans (Fr.upd (by simp))) ⟨dx, v, xs, ?_, h2.keep kk, ?_, paired_mono (fun _ _ z => z.keep kk) h4, upd_same, h6⟩ ⟨xs, ?_, paired_mono (fun _ _ z => z.keep kk) h4⟩ bl bk
    · rw [upd_ne (fun e => by rw [e, h51] at h11; cases h11)]; exact h11
    · rw [upd_ne h6]; exact s1 _ _ h3
    · rw [upd_ne bk]; exact hb1
def sp_Board_finish (K : PySem.W.Frag) : Sp := fun vs H Q _ => ∃ (a l kl b : Addr) (p : Int) (bs : List (List (Int × Int))) (past past0 : List (List Int)) (zs : List V),
  vs = [.ref a] ∧ BO K H a l kl p bs past [.ref b] ∧ H b = some (.lst zs) ∧ Paired (TI K H) zs past0 ∧ b ≠ kl ∧
  ∀ H', Fr [a, l, kl] H H' → BO K H' a b kl p bs past0 [] → Q .non H'
theorem ok_Board_finish (T : TX K mg w)  : C8.Met P w K mg base 1 (He.ga K "Board") "finish" (sp_Board_finish K) [] := by
  refine T.met (d := d_Board_finish) 55 11 rfl rfl (S := sc_Board_finish) (fun _ _ _ _ _ _ us hl => match us, hl with | [_], _ => rfl) (fun vs H Q E h => ?_) (fun cdv A outer s H vs Q E hr h => ?_) T.cl_Board
  · obtain ⟨a, l, kl, b, p, bs, past, past0, zs, rfl, _⟩ := h; rfl
  · obtain ⟨a, l, kl, b, p, bs, past, past0, zs, rfl, ⟨dx, v, xs, h1, h2, h3, h4, h5, h6⟩, hb, pz, bk, k⟩ := h
    refine ⟨_, (pss_cons (ps_if (pt_cmpR (op_eqD hr.units) (pe_fld (pv 0) rfl) (pe_lst pa_nil) (nomark _)) (pss_one ps_dead) pss_nil)
    (pss_one (ps_fld (pv 0) (pe_bm0 PySem.F.plainAttrs_list PySem.F.slot_list_pop PySem.F.type_list_pop mt_pop (pe_fld (pv 0) rfl)) rfl))), ?_⟩
    refine ⟨_, rfl, a, _, dx, _, _, rfl, h1, T.cl_Board, T.na_kept, rfl, by show 0 ≤ sizeLine; decide, fun t nt => ?_⟩
    have s1 := Same.new (o := .lst []) nt
    have od : OkD 3 (.list [.list (past0.map dI)]) := OkD.list fun d hd => by
      rw [List.mem_singleton.mp hd]
      exact OkD.list fun d hd => by
        obtain ⟨r, _, rfl⟩ := List.mem_map.mp hd
        have := ok_dI r
        exact ⟨this.lay, Nat.le_trans this.dep (by decide), this.refl⟩
    refine ⟨_, _, .lst (SqL.of (s1 _ _ h5)) (.cons (.lst (SqL.of (s1 _ _ hb)) (dpAll_of (fun v d z => dp_I z) (paired_mono (fun _ _ z => z.same s1) pz))) .nil), .lst (SqL.of upd_same) .nil, od.shaped, (ok_dLN (n := 0)).shaped, _, rfl, ?_⟩
    generalize upd H t (.lst []) = H1 at s1
    refine iteN (by rw [PyData.eqv, PyData.eqvAll]; decide) ?_
    have h51 := s1 _ _ h5
    have h11 := s1 _ _ h1
    have ak : a ≠ kl := fun e => by rw [e, h51] at h11; cases h11
    have ab : a ≠ b := fun e => by rw [e, hb] at h1; cases h1
    refine ⟨_, rfl, a, _, dx, _, _, rfl, h11, T.cl_Board, T.na_kept, rfl, .inl ⟨rfl, _, SqL.of h51⟩, kl, _, _, rfl, rfl, h51, rfl, ?_⟩
    have k2 : KeepT K H1 (upd H1 kl (.lst [])) := keepT_lst h51
    have h12 : upd H1 kl (.lst []) a = some (.ins (He.ga K "Board") dx [("whole_panel", v), ("past", .ref l), ("kept", .ref kl)]) := by rw [upd_ne ak]; exact h11
    have hb2 : upd H1 kl (.lst []) b = some (.lst zs) := by rw [upd_ne bk]; exact s1 _ _ hb
    have hk2 : upd H1 kl (.lst []) kl = some (.lst []) := upd_same
    have f2 : Fr [a, l, kl] H (upd H1 kl (.lst [])) := (Same.fr s1).trans (Fr.upd (by simp))
    change (tVar 0) _ (upd H1 kl (.lst [])) _
    generalize upd H1 kl (.lst []) = H2 at k2 h12 hb2 hk2 f2
    refine ⟨_, rfl, a, _, dx, _, rfl, h12, T.cl_Board, T.na_past, by show 3 < 1000; decide, ?_⟩
    have k3 : KeepT K H2 (upd H2 a (.ins (He.ga K "Board") dx [("whole_panel", v), ("past", .ref b), ("kept", .ref kl)])) := keepT_ins h12
    have kk := ((keepT s1).trans k2).trans k3
    refine k _ (f2.trans (Fr.upd (by simp))) ⟨dx, v, zs, upd_same, h2.keep kk, ?_, paired_mono (fun _ _ z => z.keep kk) pz, ?_, bk⟩
    · rw [upd_ne ab.symm]; exact hb2
    · rw [upd_ne ak.symm]; exact hk2
end
end EV
end
section
set_option Elab.async false
set_option linter.all false
set_option maxRecDepth 100000
set_option maxHeartbeats 4000000
namespace EV
open PySem PySem.Spec PyProof.Rows L2
open ER (cf Bd Row P3 Rule Pan BRow)
/-- o.m(e, ..) within a try -/
def tMethS (C : Addr) (m : Str) (sp : Sp) (E : L2.St → XK) (ta : TE) (t : TA) : TE := fun σ H Q => ta σ H fun x H1 => ∃ a dx fs, x = .ref a ∧ H1 a = some (.ins C dx fs) ∧ fs.lookup m = none ∧ t σ H1 fun vs H2 => sp (x :: vs) H2 Q (E σ)
theorem pe_methS0 {X : Cx} {CX : CXT} {k : Nat} {f C : Addr} {fd : FuncData} {ps : List Str} {sp : Sp} {E : L2.St → XK} {m : Str} {pos apos : Pos} {o : Expr} {ta : TE} {pl : Sem Bool} (he : PE X o ta) (c : Cls X.K C) (hm : Meth X.K C m f)
    (F : FnOk X.prog X.w X.K X.mg X.base CX k f fd ps sp) (hr : Room k X.A) (hb : Binds X.K fd ps []) (hx : ∀ σ, PassesAt CX X σ (E σ))
    (ht : eval (.Call (.Attribute o m apos) [] [] pos) X.env = (do
      let ov ← eval o X.env
      standAt apos.atName
      let (f, first) ← holding [ov] (getMethod ov m pl)
      callWith pos f first (backTo pos (starEach [] X.env)) (backToKw pos (keywordEach [] X.env))) := by rfl) :
    PE X (.Call (.Attribute o m apos) [] [] pos) (tMethS C m sp E ta tNil) := by
  refine ⟨fun pins s σ H Q I h => ?_⟩
  refine PySem.W.methodCall_KW (pl := pl) (thn (he.run pins s σ H _ I h) fun u s1 ⟨x, H1, I1, rx, a, dx, fs, ex, ea, l, q⟩ => ?_) ht
  subst ex
  obtain rfl : u = Value.ref a := rx
  refine getmeth_ok I1 ea c hm l ?_
  exact PySem.W.callWith_K0 (first := [.ref a]) I1.kIn hm.kp (run_fnS (us := [.ref a]) (vs := [.ref a]) F hr hb (hx σ) I1 (.cons rfl .nil) q)
section
variable {P : Program} {w : World} {K : PySem.W.Frag} {mg : Str → Option Value} {base : Heap}
def sp_NotReached_init (K : PySem.W.Frag) : Sp := fun vs H Q _ => ∃ (a : Addr) (v : V), vs = [.ref a, v] ∧ H a = some (exo a (He.ga K "NotReached") none) ∧ ∀ dx, H dx = none → dx ≠ a → Q .non (upd (upd H dx (exd dx [("weights", v)])) a (exo a (He.ga K "NotReached") (some dx)))
theorem ok_NotReached_init (T : TX K mg w) : ∃ fd, FnOk P w K mg base CX0 1 (pAd K "NotReached" "__init__") fd ["self", "weights"] (sp_NotReached_init K) ∧ Binds K fd ["self", "weights"] [] := by
  obtain ⟨fd, O, F⟩ := T.fnok (P := P) (base := base) (CX := CX0) 0 rfl (d := d_NotReached_init) sc_NotReached_init (k := 0) (sp := sp_NotReached_init K) (fun vs H Q E h => by obtain ⟨a, v, rfl, _⟩ := h; rfl) fun cdv A outer s H vs Q E hr h => by
    obtain ⟨a, v, rfl, ha, k⟩ := h
    refine ⟨_, (show PSs (cxOf CX0 P w K mg base n_NotReached_init d_NotReached_init.qual d_NotReached_init.scope (d_NotReached_init.at_ K) cdv A outer s H E).nox d_NotReached_init.body _ from (pss_cons (ps_expr (pe_binit (by rfl) T.g_RingError T.rd_RingError T.vi_RingError (pa_cons (pv 0) (pa_cons pe_str pa_nil))))
    (pss_one (ps_ost (pv 0) (pv 1))))).nox, ?_⟩
    refine ⟨_, rfl, a, _, _, rfl, by simp, T.ox_NotReached, ha, ?_⟩
    exact ⟨_, rfl, _, rfl, a, _, rfl, T.ox_NotReached, T.nw_NotReached, .inl ⟨ha, fun dx n1 n2 => k dx n1 n2⟩⟩
  exact ⟨fd, O, T.bindsN rfl (fun _ _ _ _ _ _ us hl => match us, hl with | [_, _], _ => rfl) F⟩
def negF (p : Int) (r : List Int) : List Int := r.map fun c => -c % p
theorem picF_mem {p : Int} {r : List Int} (h : Bd p r) : Pic p r.length (ER.picF r) := by
  have e : ER.picF r = _ := picFrom_range r 0
  rw [e]
  refine ⟨?_, ?_, ?_⟩
  · rw [List.pairwise_map]
    refine List.Pairwise.imp ?_ (List.Pairwise.filter _ List.pairwise_lt_range)
    intro a b hab
    show (((0 + a : Nat) : Int)) < ((0 + b : Nat) : Int)
    omega
  · intro q hq
    obtain ⟨i, hi, rfl⟩ := List.mem_map.mp hq
    have := List.mem_range.mp (List.mem_filter.mp hi).1
    dsimp only
    omega
  · intro q hq
    obtain ⟨i, hi, rfl⟩ := List.mem_map.mp hq
    have h1 := List.mem_range.mp (List.mem_filter.mp hi).1
    have h2 := (List.mem_filter.mp hi).2
    have h3 := h r[i] (List.getElem_mem h1)
    rw [← ER.cf_lt h1] at h3
    dsimp only
    have h4 : cf r i ≠ 0 := by simpa using h2
    omega
def missF (p : Int) (r : List Int) : List (Int × Int) := ER.picF (negF p r)
def sp_Board_clearing (K : PySem.W.Frag) : Sp := fun vs H Q E => ∃ (a l kl : Addr) (p : Int) (bs : List (List (Int × Int))) (rest : List (List Int)) (r : List Int) (ys : List V),
  vs = [.ref a] ∧ BO K H a l kl p bs (rest ++ [r]) ys ∧ Pan p bs ∧ 0 < r.length ∧ r.length ≤ 20 ∧ Bd p r ∧
  (∀ ps v H', ER.foundF p bs r.length (missF p r) = some ps → Same H H' → TQ K H' v ps → Q v H') ∧ (∀ d H', ER.foundF p bs r.length (missF p r) = none → Same H H' → E (.ref (He.ga K "NotReached")) d H')
theorem fn_Board_clearing (T : TX K mg w) (c_picture_ofL : C8.Cal P w K mg base 1 "picture_of" (sp_picture_ofL K) []) (c_found_presses : C8.Cal P w K mg base 4 "found_presses" (sp_found_presses K) []) (c_found_weights : C8.Cal P w K mg base 8 "found_weights" (sp_found_weights K) []) (c_Board_picture : Prp P w K mg base 2 "Board" "picture" (sp_Board_picture K)) :
    ∃ fd, FnOk P w K mg base (L2.CX P w) 11 (pAd K "Board" "clearing") fd ["self"] (sp_Board_clearing K) ∧ Binds K fd ["self"] [] := by
  obtain ⟨fdI, OI, bI⟩ := ok_NotReached_init (P := P) (base := base) T
  obtain ⟨fd, O, F⟩ := T.fnok (P := P) (base := base) (CX := L2.CX P w) 56 rfl (d := d_Board_clearing) sc_Board_clearing (k := 11 - 1) (sp := sp_Board_clearing K) (fun vs H Q E h => by obtain ⟨a, l, kl, p, bs, rest, r, ys, rfl, _⟩ := h; rfl) fun cdv A outer s H vs Q E hr h => by
    obtain ⟨a, l, kl, p, bs, rest, r, ys, rfl, hB, hP, r0, lr, br, k1, k2⟩ := h
    obtain ⟨dx, v, xs, y, h1, hv, h3, h4, h5, h6, h7⟩ := hB.last
    have pp := hP.hp.pos
    have hv0 := hv
    obtain ⟨va, ub, rfl, h8, bb, us, rfl, h9, pr⟩ := hv
    have h5' := h5
    obtain ⟨ya, rfl, hys⟩ := h5'
    refine ⟨_, (pss_cons (ps_set (i := 1) sc_Board_clearing.nd rfl (by first | exact Or.inl rfl | exact Or.inr rfl) (pe_ix ix_tup (pe_fld (pv 0) rfl) pe_int (fun _ _ => rfl)))
    (pss_cons (ps_set (i := 2) sc_Board_clearing.nd rfl (by first | exact Or.inl rfl | exact Or.inr rfl) (C8.pe_c c_picture_ofL hr (by decide) (by rfl) (pa_cons (pe_lc (own := [("colour", 4)]) (g := (gName 4)) rfl sc_Board_clearing.nd (pi_tup (pe_ix ix_list (pe_fld (pv 0) rfl) (pe_un un_neg pe_int) (fun _ _ => rfl))) (blkOk_by (own := [("colour", 4)]) (N := n_Board_clearing) (sc := defScope s_Board_clearing) (by decide +kernel)) (fun _ _ _ _ _ => (pg_name (i := 4) sc_Board_clearing.nd rfl (by first | exact Or.inl rfl | exact Or.inr rfl))) (fun _ _ _ _ _ => pts_nil) (fun _ _ _ _ _ => (pe_op op_mod (pe_un un_neg (pv 4)) (pv 1)))) pa_nil)))
    (pss_cons (ps_set (i := 3) sc_Board_clearing.nd rfl (by first | exact Or.inl rfl | exact Or.inr rfl) (C8.pe_c c_found_presses hr (by decide) (by rfl) (pa_cons (pe_fld (pv 0) rfl) (pa_cons (pe_callB call_len_seq (by rfl) (T.fr 4 rfl) (by decide +kernel) (pa_cons (pe_ix ix_list (pe_fld (pv 0) rfl) (pe_un un_neg pe_int) (fun _ _ => rfl)) pa_nil)) (pa_cons (pv 2) pa_nil)))))
    (pss_cons (ps_if (pt_cmpR op_isN (pv 3) pe_non (nomark _)) (pss_one (ps_raise rfl (takes_of rfl rfl rfl rfl) (pmk_oex T.ox_NotReached T.in_NotReached T.ty_NotReached OI (hr.mono (by decide)) bI .nil pass0 (by rfl) T.g_NotReached (pa_cons (C8.pe_c c_found_weights hr (by decide) (by rfl) (pa_cons (pe_fld (pv 0) rfl) (pa_cons (pe_callB call_len_seq (by rfl) (T.fr 4 rfl) (by decide +kernel) (pa_cons (pe_ix ix_list (pe_fld (pv 0) rfl) (pe_un un_neg pe_int) (fun _ _ => rfl)) pa_nil)) (pa_cons (c_Board_picture.prop (pv 0) hr (by decide) rfl) pa_nil)))) pa_nil)))) pss_nil)
    (pss_one (ps_ret (pv 3))))))), ?_⟩
    refine ⟨_, rfl, a, _, dx, _, _, rfl, h1, T.cl_Board, T.na_panel, rfl, va, _, _, _, rfl, rfl, h8, at0, ?_⟩
    refine ⟨_, rfl, a, _, dx, _, _, rfl, h1, T.cl_Board, T.na_past, rfl, _, rfl, l, _, _, _, rfl, rfl, SqL.of h3, h4, ya, rfl, ⟨_, hys⟩, fun D nD => ?_⟩
    refine lc_int walk_tup (fun H' s => Same.tup s hys) (fun _ => true) (fun i => .int (-cf r i % p)) (by rw [sizeLine_eq, List.length_map]; omega) nD ?_ ?_
    · rintro i x H1 H2 post postN hi s1 ⟨rfl, hxi⟩ k1 k2
      obtain ⟨rfl, _⟩ := map_get hxi
      exact ⟨rfl, _, rfl, _, rfl, _, rfl, _, _, rfl, rfl, pp, k1 _ (Same.refl _) rfl⟩
    · intro H1 s1 hD
      have eD : (((List.range (r.map V.int).length).filter fun _ => true).map fun i => V.int (-cf r i % p)) = (negF p r).map V.int := by
        unfold negF
        rw [List.map_map, List.length_map]
        exact all_range r _ _ fun i hi => by rw [ER.cf_lt hi]; rfl
      rw [eD] at hD
      have ln : (negF p r).length = r.length := by unfold negF; rw [List.length_map]
      have bn : Bd p (negF p r) := Bd.map fun c => ER.bd_mod pp _
      have hpic := picF_mem bn
      rw [ln] at hpic
      refine ⟨D, _, rfl, hD, by omega, fun vm H2 s2 hm => ?_⟩
      have s12 := s1.trans s2
      refine ⟨_, rfl, a, _, dx, _, _, rfl, s12 _ _ h1, T.cl_Board, T.na_panel, rfl, ?_⟩
      refine ⟨_, rfl, a, _, dx, _, _, rfl, s12 _ _ h1, T.cl_Board, T.na_past, rfl, _, rfl, l, _, _, _, rfl, rfl, SqL.of (s12 _ _ h3), h4, ya, _, rfl, .inr (Same.tup s12 hys), ?_⟩
      rw [List.length_map]
      refine ⟨_, rfl, p, r.length, _, vm, bs, missF p r, rfl, hv0.same s12, hP, hm, hpic, r0, lr, fun vf H3 s3 hf => ?_⟩
      have s13 := s12.trans s3
      cases ef : ER.foundF p bs r.length (missF p r) with
      | none =>
        rw [ef] at hf
        obtain rfl : vf = V.non := hf
        refine ⟨_, rfl, rfl, _, rfl, iteI (by decide) ?_⟩
        refine ⟨_, rfl, a, _, dx, _, _, rfl, s13 _ _ h1, T.cl_Board, T.na_panel, rfl, ?_⟩
        refine ⟨_, rfl, a, _, dx, _, _, rfl, s13 _ _ h1, T.cl_Board, T.na_past, rfl, _, rfl, l, _, _, _, rfl, rfl, SqL.of (s13 _ _ h3), h4, ya, _, rfl, .inr (Same.tup s13 hys), ?_⟩
        rw [List.length_map]
        refine ⟨_, rfl, a, dx, _, rfl, s13 _ _ h1, a, l, kl, p, bs, rest, r, ys, rfl, BO.same hB s13, by omega, fun vp H4 s4 hp4 => ?_⟩
        have s14 := s13.trans s4
        refine ⟨p, r.length, _, vp, bs, ER.picF r, rfl, hv0.same s14, hP, hp4, picF_mem br, r0, lr, fun vw H5 s5 => ?_⟩
        have s15 := s14.trans s5
        refine ⟨by simp, fun e ne => ⟨e, vw, rfl, upd_same, fun dd n1 n2 => ⟨rfl, dd, [("weights", vw)], upd_same, ?_, ?_, ?_⟩⟩⟩
        · rw [upd_ne n2]; exact upd_same
        · rw [upd_ne n2] at n1; exact n1
        · have nd : H5 dd = none := by rw [upd_ne n2] at n1; exact n1
          refine k2 _ _ ef (s15.trans fun b o hb => ?_)
          have be : b ≠ e := fun z => by rw [z, ne] at hb; cases hb
          have bd : b ≠ dd := fun z => by rw [z, nd] at hb; cases hb
          rw [upd_ne bd, del_ne be, upd_ne be, upd_ne bd, upd_ne be]
          exact hb
      | some ps =>
        rw [ef] at hf
        have hf' : TQ K H3 vf ps := hf
        have nn : vf ≠ .non := by
          obtain ⟨fa, fx, rfl, _⟩ := hf'
          intro z; cases z
        refine ⟨_, rfl, rfl, _, rfl, iteN (by simpa using nn) ?_⟩
        exact ⟨_, rfl, k1 ps vf H3 ef s13 hf'⟩
  exact ⟨fd, O, T.bindsN rfl (fun _ _ _ _ _ _ us hl => match us, hl with | [_], _ => rfl) F⟩
def sp_law_clearing (K : PySem.W.Frag) : Sp := fun vs H Q _ => ∃ (a l kl : Addr) (p : Int) (bs : List (List (Int × Int))) (rest : List (List Int)) (r : List Int) (ys : List V),
  vs = [.ref a] ∧ BO K H a l kl p bs (rest ++ [r]) ys ∧ Pan p bs ∧ 0 < r.length ∧ r.length ≤ 20 ∧ Bd p r ∧
  ∀ v H', Same H H' → OQ K H' v (ER.foundF p bs r.length (missF p r)) → Q v H'
theorem ok_law_clearing (T : TX K mg w) (c_picture_ofL : C8.Cal P w K mg base 1 "picture_of" (sp_picture_ofL K) []) (c_found_presses : C8.Cal P w K mg base 4 "found_presses" (sp_found_presses K) []) (c_found_weights : C8.Cal P w K mg base 8 "found_weights" (sp_found_weights K) []) (c_Board_picture : Prp P w K mg base 2 "Board" "picture" (sp_Board_picture K)) :
    C8.Cal P w K mg base 12 "_law_clearing" (sp_law_clearing K) [] := by
  obtain ⟨fdC, FC, bC⟩ := fn_Board_clearing T c_picture_ofL c_found_presses c_found_weights c_Board_picture
  have mC := (T.meth 12 _ rfl).1
  refine T.cal (d := d_law_clearing) 84 56 rfl rfl (S := sc_law_clearing) (fun _ _ _ _ _ _ us hl => match us, hl with | [_], _ => rfl) (fun vs H Q E h => ?_) (fun cdv A outer s H vs Q E hr h => ?_)
  · obtain ⟨a, l, kl, p, bs, rest, r, ys, rfl, _⟩ := h; rfl
  · obtain ⟨a, l, kl, p, bs, rest, r, ys, rfl, hB, hP, r0, lr, br, k⟩ := h
    obtain ⟨dx, v, xs, y, h1, hv, h3, h4, h5, h6, h7⟩ := hB.last
    refine ⟨_, (pss_cons (ps_set (i := 1) sc_law_clearing.nd rfl (by first | exact Or.inl rfl | exact Or.inr rfl) pe_non)
      (pss_cons (ps_try_only (tb := fun W => tAsg (tMethS (He.ga K "Board") "clearing" (sp_Board_clearing K) (WE W) (tVar 0) tNil) (gName 1)) (ts := fun _ _ _ => tAsg (tC .non) (gName 1)) (Wout := fun _ _ _ _ => False) rfl rfl ⟨rfl, by decide, Or.inl T.g_NotReached⟩ takes0
          (fun W pn xe tk _ => pss_one (ps_set (i := 1) sc_law_clearing.nd rfl (Or.inl rfl) (pe_methS0 (pv 0) T.cl_Board mC FC hr bC (fun σ => passAt tk σ))))
          (fun _ _ _ _ _ _ _ => pss_one (ps_set (i := 1) sc_law_clearing.nd rfl (Or.inl rfl) pe_non)))
      (pss_one (ps_ret (pv 1))))), ?_⟩
    refine ⟨_, rfl, a, dx, _, rfl, h1, rfl, a, l, kl, p, bs, rest, r, ys, rfl, hB, hP, r0, lr, br, fun ps v H' ef s hv => ?_, fun d H' ef s => ?_⟩
    · exact ⟨_, rfl, k _ _ s (by rw [ef]; exact hv)⟩
    · exact ⟨true, T.em_NotReached, fun _ e _ => ⟨_, rfl, k _ _ s (by rw [ef]; rfl)⟩, fun z => by cases z⟩
end
end EV
end
section
set_option Elab.async false
set_option linter.all false
set_option maxRecDepth 100000
set_option maxHeartbeats 4000000
namespace EV
open PySem PySem.Spec PyProof.Rows L2
open ER (cf Bd Row P3 Rule Pan BRow)
open TL (tl ext_tl tl_append partition_app)
/-! ### words -/
def nS (i : Int) : Str := Str.ofString (toString i)
def pS (q : Int × Int) : Str := Str.empty ++ nS q.1 ++ ":" ++ nS q.2
def numOk (i : Int) : Bool :=
  !decide (Txt.removeprefix (nS i) "-" = "") && (decide ((Txt.removeprefix (nS i) "-").length ≤ 9) && ((tl (Txt.removeprefix (nS i) "-")).all (fun c => decide (c ∈ tl "0123456789")) &&
    (decide (PySem.intText? (nS i) = some i) && (decide ((nS i).length ≤ 4) && (!decide (32 ∈ tl (nS i)) && (!decide (58 ∈ tl (nS i)) && (decide (nS i ≠ "") && (decide (nS i ≠ "-") && (nS i).cps.all (· < 0x110000)))))))))
theorem numOk_fin : ∀ k : Fin 21, numOk ((k.val : Int) - 4) = true := by decide +kernel
structure Num (i : Int) : Prop where
  ne : Txt.removeprefix (nS i) "-" ≠ ""
  few : (Txt.removeprefix (nS i) "-").length ≤ 9
  dig : ∀ c ∈ tl (Txt.removeprefix (nS i) "-"), c ∈ tl "0123456789"
  int : PySem.intText? (nS i) = some i
  len : (nS i).length ≤ 4
  sp : 32 ∉ tl (nS i)
  co : 58 ∉ tl (nS i)
  nn : nS i ≠ ""
  nm : nS i ≠ "-"
  ok : (nS i).cps.all (· < 0x110000) = true
theorem num_of {i : Int} (h0 : -4 ≤ i) (h1 : i ≤ 16) : Num i := by
  have h := numOk_fin ⟨(i + 4).toNat, by omega⟩
  have e : (((i + 4).toNat : Nat) : Int) - 4 = i := by omega
  dsimp only at h
  rw [e] at h
  unfold numOk at h
  simp only [Bool.and_eq_true, decide_eq_true_eq, Bool.not_eq_true', decide_eq_false_iff_not, List.all_eq_true] at h
  obtain ⟨a, b, c, d, e, f, g, n1, n2, k⟩ := h
  exact ⟨a, b, c, d, e, f, g, n1, n2, k⟩
def pairOk (q : Int × Int) : Bool := !decide (32 ∈ tl (pS q)) && (decide (pS q ≠ "button") && (decide ((pS q).length ≤ 9) && (pS q).cps.all (· < 0x110000)))
theorem pairOk_fin : ∀ k : Fin 21, ∀ j : Fin 4, pairOk ((k.val : Int) - 4, (j.val : Int) + 1) = true := by decide +kernel
structure Pw (q : Int × Int) : Prop where
  sp : 32 ∉ tl (pS q)
  nb : pS q ≠ "button"
  len : (pS q).length ≤ 9
  ok : (pS q).cps.all (· < 0x110000) = true
theorem pw_of {q : Int × Int} (h0 : -4 ≤ q.1) (h1 : q.1 ≤ 16) (h2 : 0 < q.2) (h3 : q.2 < 5) : Pw q := by
  have h := pairOk_fin ⟨(q.1 + 4).toNat, by omega⟩ ⟨(q.2 - 1).toNat, by omega⟩
  have e : (((q.1 + 4).toNat : Nat) : Int) - 4 = q.1 := by omega
  have e2 : (((q.2 - 1).toNat : Nat) : Int) + 1 = q.2 := by omega
  dsimp only at h
  rw [e, e2] at h
  unfold pairOk at h
  simp only [Bool.and_eq_true, decide_eq_true_eq, Bool.not_eq_true', decide_eq_false_iff_not] at h
  obtain ⟨a, b, c, d⟩ := h
  exact ⟨a, b, c, d⟩
theorem str_empty_app (x : Str) : Str.empty ++ x = x := ext_tl (by rw [tl_append]; rfl)
theorem pS_part {q : Int × Int} (h : Num q.1) : Txt.partition (pS q) ":" = (nS q.1, (":" : Str), nS q.2) := by
  unfold pS
  rw [str_empty_app]
  exact partition_app (s := 58) (S := []) rfl h.co
section
variable {P : Program} {w : World} {K : PySem.W.Frag} {mg : Str → Option Value} {base : Heap}
def sp_whole_of (K : PySem.W.Frag) : Sp := fun vs H Q _ => ∃ i : Int, vs = [.str (nS i)] ∧ -4 ≤ i ∧ i ≤ 16 ∧ ∀ H', Same H H' → Q (.int i) H'
theorem ok_whole_of (T : TX K mg w)  : C8.Cal P w K mg base 1 "whole_of" (sp_whole_of K) [] := by
  refine T.cal (d := d_whole_of) 57 37 rfl rfl (S := sc_whole_of) (fun _ _ _ _ _ _ us hl => match us, hl with | [_], _ => rfl) (fun vs H Q E h => ?_) (fun cdv A outer s H vs Q E hr h => ?_)
  · obtain ⟨i, rfl, _⟩ := h; rfl
  · obtain ⟨i, rfl, i0, i1, k⟩ := h
    have N := num_of i0 i1
    refine ⟨_, (pss_cons (ps_set (i := 1) sc_whole_of.nd rfl (by first | exact Or.inl rfl | exact Or.inr rfl) (pe_bm PySem.F.plainAttrs_str PySem.F.slot_str_removeprefix PySem.F.type_str_removeprefix mt_removeprefix (pv 0) (pa_cons pe_str pa_nil)))
    (pss_cons (ps_if (PW.pt (pw_or (pt_cmpR op_eq (pv 1) pe_str (nomark _)) (pw_or (pt_cmpR op_gt (pe_callB call_len (by rfl) (T.fr 4 rfl) (by decide +kernel) (pa_cons (pv 1) pa_nil)) (C8.pe_gc rfl T.g_MOST_DIGITS) (nomark _)) (pw_or1 (pt_not (pt_val (pe_callB (cr_all rfl) (by rfl) (T.fr 6 rfl) (by decide +kernel) (pa_cons (pe_lc (own := [("sign", 2)]) (g := (gName 2)) rfl sc_whole_of.nd (pi_str (pv 1)) (blkOk_by (own := [("sign", 2)]) (N := n_whole_of) (sc := defScope s_whole_of) (by decide +kernel)) (fun _ _ _ _ _ => (pg_name (i := 2) sc_whole_of.nd rfl (by first | exact Or.inl rfl | exact Or.inr rfl))) (fun _ _ _ _ _ => pts_nil) (fun _ _ _ _ _ => (pe_cmpR op_in_sign (pv 2) pe_str (by rfl)))) pa_nil)))))))) (pss_one (ps_ret pe_non)) pss_nil)
    (pss_one (ps_ret (pe_ifExp (pt_cmpR op_eq (pe_callTy call_str_int (by rfl) (T.fr 3 rfl) (by decide +kernel) (pa_cons (pe_callTy call_int_str (by rfl) (T.fr 0 rfl) (by decide +kernel) (pa_cons (pv 0) pa_nil)) pa_nil)) (pv 0) (nomark _)) (pe_callTy call_int_str (by rfl) (T.fr 0 rfl) (by decide +kernel) (pa_cons (pv 0) pa_nil)) pe_non))))), ?_⟩
    refine ⟨_, rfl, rfl, _, _, rfl, rfl, by have := N.len; rw [sizeLine_eq]; omega, ?_⟩
    refine ⟨_, rfl, rfl, _, rfl, iteN (by simpa using N.ne) ?_⟩
    refine ⟨_, rfl, _, _, rfl, ⟨by have := N.few; rw [sizeLine_eq]; omega, rfl⟩, _, _, rfl, rfl, _, rfl, iteN (by have := N.few; simp; omega) ?_⟩
    refine ⟨_, rfl, _, rfl, fun D nD => ?_⟩
    refine lc_int walk_str (G := fun _ => True) (fun _ _ => trivial) (fun _ => true) (fun _ => .bl true) (by rw [sizeLine_eq]; have := N.few; unfold Str.length at this; omega) nD ?_ ?_
    · rintro j x H1 H2 post postN hj s1 ⟨rfl, c, hc, rfl⟩ k1 k2
      refine ⟨rfl, _, rfl, c, _, rfl, rfl, ?_⟩
      have hm : c ∈ tl (Txt.removeprefix (nS i) "-") := by
        have : (tl (Txt.removeprefix (nS i) "-"))[j]? = some c := by
          rw [Array.getElem?_toList]; exact hc
        exact List.mem_of_getElem? this
      rw [decide_eq_true (N.dig c hm)]
      exact k1 _ (Same.refl _) rfl
    · intro H1 s1 hD
      rw [all_trues] at hD
      refine ⟨D, _, rfl, SqL.of hD, _, rfl, iteN (by rw [all_rep]; decide) ?_⟩
      have hl : i.natAbs.log2 < 1920 := by
        have h16 : i.natAbs ≤ 16 := by omega
        have : i.natAbs.log2 ≤ i.natAbs := Nat.log2_le_self _
        omega
      refine ⟨_, rfl, _, i, rfl, N.int, by have := N.len; omega, i, rfl, hl, _, rfl, rfl, _, rfl, iteI (by simp [nS]) ?_⟩
      exact ⟨_, rfl, _, i, rfl, N.int, by have := N.len; omega, k _ s1⟩
end
end EV
end
section
set_option Elab.async false
set_option linter.all false
set_option maxRecDepth 100000
set_option maxHeartbeats 4000000
namespace EV
open PySem PySem.Spec PyProof.Rows L2
open ER (cf Bd Row P3 Rule Pan BRow)
open TL (tl ext_tl tl_append partition_app)
structure PairB (q : Int × Int) : Prop where
  lo : -4 ≤ q.1
  hi : q.1 ≤ 16
  pos : 0 < q.2
  lt : q.2 < 5
theorem log_small {i : Int} (h0 : -100 ≤ i) (h1 : i ≤ 1000) : i.natAbs.log2 < 1920 := by
  have : i.natAbs.log2 ≤ i.natAbs := Nat.log2_le_self _
  omega
section
variable {P : Program} {w : World} {K : PySem.W.Frag} {mg : Str → Option Value} {base : Heap}
def sp_pair_of (K : PySem.W.Frag) : Sp := fun vs H Q _ => ∃ q : Int × Int, vs = [.str (pS q)] ∧ PairB q ∧ ∀ v H', Same H H' → TI K H' v [q.1, q.2] → Q v H'
theorem ok_pair_of (T : TX K mg w) (c_whole_of : C8.Cal P w K mg base 1 "whole_of" (sp_whole_of K) []) : C8.Cal P w K mg base 2 "pair_of" (sp_pair_of K) [] := by
  refine T.cal (d := d_pair_of) 58 38 rfl rfl (S := sc_pair_of) (fun _ _ _ _ _ _ us hl => match us, hl with | [_], _ => rfl) (fun vs H Q E h => ?_) (fun cdv A outer s H vs Q E hr h => ?_)
  · obtain ⟨q, rfl, _⟩ := h; rfl
  · obtain ⟨q, rfl, B, k⟩ := h
    obtain ⟨b1, b2, b3, b4⟩ := B
    have N := num_of b1 b2
    have W := pw_of b1 b2 b3 b4
    refine ⟨_, (pss_cons (ps_asg (pe_partition (pv 0) pe_str) (pg_tup rfl (pgs_cons (pg_name (i := 1) sc_pair_of.nd rfl (by first | exact Or.inl rfl | exact Or.inr rfl)) (pgs_cons (pg_name (i := 2) sc_pair_of.nd rfl (by first | exact Or.inl rfl | exact Or.inr rfl)) (pgs_cons (pg_name (i := 3) sc_pair_of.nd rfl (by first | exact Or.inl rfl | exact Or.inr rfl)) pgs_nil)))))
    (pss_cons (ps_par (i := 4) (j := 5) rfl sc_pair_of.nd rfl rfl (by decide) rfl rfl (pa_cons (C8.pe_c c_whole_of hr (by decide) (by rfl) (pa_cons (pv 1) pa_nil)) (pa_cons (C8.pe_c c_whole_of hr (by decide) (by rfl) (pa_cons (pv 3) pa_nil)) pa_nil)) (by rfl))
    (pss_one (ps_ret (pe_ifExp (PW.pt (pw_and (pt_cmpR op_eq (pv 2) pe_str (nomark _)) (pw_and (pt_cmpR op_notN (pv 4) pe_non (nomark _)) (pw_and1 (pt_cmpR op_notN (pv 5) pe_non (nomark _)))))) (pe_tup (pa_cons (pv 4) (pa_cons (pv 5) pa_nil))) pe_non))))), ?_⟩
    refine ⟨_, rfl, ⟨_, rfl⟩, pS q, ":", rfl, rfl, rfl, by have := W.len; rw [sizeLine_eq]; omega, fun p np => ?_⟩
    rw [pS_part N]
    dsimp only
    have s1 := Same.new (o := .tup [.str (nS q.1), .str (":" : Str), .str (nS q.2)]) np
    refine ⟨p, _, rfl, SqT.of upd_same, rfl, _, _, rfl, _, _, rfl, _, _, rfl, rfl, ?_⟩
    generalize upd H p (.tup [.str (nS q.1), .str (":" : Str), .str (nS q.2)]) = H1 at s1
    refine ⟨_, rfl, q.1, rfl, b1, b2, fun H2 s2 => ⟨_, rfl, q.2, rfl, by omega, by omega, fun H3 s3 => ⟨_, _, rfl, ?_⟩⟩⟩
    refine ⟨_, rfl, rfl, _, rfl, iteI (by decide) ?_⟩
    refine ⟨_, rfl, rfl, _, rfl, iteI (by simp) ?_⟩
    refine ⟨_, rfl, rfl, _, rfl, iteI (by simp) ?_⟩
    refine ⟨_, rfl, _, rfl, by show 2 ≤ sizeLine; decide, fun t nt => ?_⟩
    exact k _ _ ((s1.trans s2).trans (s3.trans (Same.new nt))) (TI.made (r := [q.1, q.2]))
def sp_pair_words (K : PySem.W.Frag) : Sp := fun vs H Q _ => ∃ (v : V) (ps : List (Int × Int)), vs = [v] ∧ TP K H v ps ∧ ps.length ≤ 100 ∧ (∀ q ∈ ps, PairB q) ∧ ∀ a H', Same H H' → H' a = some (.lst ((ps.map pS).map V.str)) → Q (.ref a) H'
theorem ok_pair_words (T : TX K mg w)  : C8.Cal P w K mg base 1 "pair_words" (sp_pair_words K) [] := by
  refine T.cal (d := d_pair_words) 59 39 rfl rfl (S := sc_pair_words) (fun _ _ _ _ _ _ us hl => match us, hl with | [_], _ => rfl) (fun vs H Q E h => ?_) (fun cdv A outer s H vs Q E hr h => ?_)
  · obtain ⟨v, ps, rfl, _⟩ := h; rfl
  · obtain ⟨v, ps, rfl, ⟨va, xs, rfl, hs, pr⟩, lp, hB, k⟩ := h
    have pl := paired_len pr
    refine ⟨_, (pss_one (ps_ret (pe_lc (own := [("first", 1), ("second", 2)]) (g := (gTup K 2 (gCons (gName 1) (gCons (gName 2) gNil)))) rfl sc_pair_words.nd (pi_tup (pv 0)) (blkOk_by (own := [("first", 1), ("second", 2)]) (N := n_pair_words) (sc := defScope s_pair_words) (by decide +kernel)) (fun _ _ _ _ _ => (pg_tup rfl (pgs_cons (pg_name (i := 1) sc_pair_words.nd rfl (by first | exact Or.inl rfl | exact Or.inr rfl)) (pgs_cons (pg_name (i := 2) sc_pair_words.nd rfl (by first | exact Or.inl rfl | exact Or.inr rfl)) pgs_nil)))) (fun _ _ _ _ _ => pts_nil) (fun _ _ _ _ _ => (pe_joined (PJ.cons (pe_fmt (pv 1)) (PJ.cons pe_str (PJ.cons (pe_fmt (pv 2)) PJ.nil)))))))), ?_⟩
    refine ⟨_, rfl, va, rfl, ⟨_, hs⟩, fun D nD => ?_⟩
    refine lc_int (te := fun σ H Q => tJs [tFmt (tVar 1), tC (.str ":"), tFmt (tVar 2)] Str.empty σ H fun out H1 => Q (.str out) H1) walk_tup (fun H' s => Same.tup s hs) (fun _ => true) (fun i => .str (pS (ps.getD i (0, 0)))) (by rw [sizeLine_eq]; omega) nD ?_ ?_
    · rintro i x H1 H2 post postN hi s1 ⟨rfl, hxi⟩ k1 k2
      obtain ⟨q, hq1, ta, rfl, hq2⟩ := paired_get pr hxi
      obtain ⟨b1, b2, b3, b4⟩ := hB q (List.mem_of_getElem? hq1)
      have eq : ps.getD i (0, 0) = q := by rw [List.getD_eq_getElem?_getD, hq1]; rfl
      have W := pw_of b1 b2 b3 b4
      have hk := k1 _ (Same.refl _) rfl
      rw [eq] at hk
      have l4 : (pS q).length ≤ sizeLine := by have := W.len; rw [sizeLine_eq]; omega
      have e3 : (pS q).length = (Str.empty ++ nS q.1 ++ (":" : Str)).length + (nS q.2).length := by unfold pS; rw [TL.len_tl, tl_append, List.length_append, ← TL.len_tl, ← TL.len_tl]
      have e2 : (Str.empty ++ nS q.1 ++ (":" : Str)).length = (Str.empty ++ nS q.1).length + (":" : Str).length := by rw [TL.len_tl, tl_append, List.length_append, ← TL.len_tl, ← TL.len_tl]
      refine ⟨ta, _, rfl, Same.tup s1 hq2, rfl, _, _, rfl, _, _, rfl, rfl, rfl, ?_⟩
      refine ⟨_, rfl, .inr ⟨q.1, rfl, log_small (by omega) (by omega), _, rfl, by show (Str.empty ++ nS q.1).length ≤ _; omega, ?_⟩⟩
      refine ⟨_, rfl, by show (Str.empty ++ nS q.1 ++ (":" : Str)).length ≤ _; omega, ?_⟩
      exact ⟨_, rfl, .inr ⟨q.2, rfl, log_small (by omega) (by omega), _, rfl, l4, hk⟩⟩
    · intro H1 s1 hD
      have eD : (((List.range xs.length).filter fun _ => true).map fun i => V.str (pS (ps.getD i (0, 0)))) = (ps.map pS).map V.str := by
        rw [pl, List.map_map]
        refine all_range ps _ _ fun i hi => ?_
        rw [List.getD_eq_getElem?_getD, List.getElem?_eq_getElem hi]; rfl
      rw [eD] at hD
      exact k D _ s1 hD
def sp_word_at (K : PySem.W.Frag) : Sp := fun vs H Q _ => ∃ (a : Addr) (ws : List Str) (i : Nat) (s : Str), vs = [.ref a, .int (i : Int)] ∧ SqL K H a (ws.map V.str) ∧ ws[i]? = some s ∧ Q (.str s) H
theorem at_str {ws : List Str} {i : Nat} {s : Str} (h : ws[i]? = some s) : atI (ws.map V.str) (i : Int) = some (.str s) := atI_nat (by rw [List.getElem?_map, h]; rfl)
theorem ok_word_at (T : TX K mg w)  : C8.Cal P w K mg base 1 "word_at" (sp_word_at K) [] := by
  refine T.cal (d := d_word_at) 60 40 rfl rfl (S := sc_word_at) (fun _ _ _ _ _ _ us hl => match us, hl with | [_, _], _ => rfl) (fun vs H Q E h => ?_) (fun cdv A outer s H vs Q E hr h => ?_)
  · obtain ⟨a, ws, i, s, rfl, _⟩ := h; rfl
  · obtain ⟨a, ws, i, s, rfl, ha, hi, k⟩ := h
    have hlt := (List.getElem?_eq_some_iff.mp hi).1
    refine ⟨_, (pss_cons (ps_if (pt_cmpR op_ge (pv 1) (pe_callB call_len_seq (by rfl) (T.fr 4 rfl) (by decide +kernel) (pa_cons (pv 0) pa_nil)) (nomark _)) (pss_one ps_dead) pss_nil)
    (pss_one (ps_ret (pe_ix ix_list (pv 0) (pv 1) (fun _ _ => rfl))))), ?_⟩
    refine ⟨_, rfl, _, rfl, a, _, rfl, .inl ha, _, _, rfl, rfl, _, rfl, iteN (by rw [List.length_map]; simp; omega) ?_⟩
    exact ⟨_, rfl, _, rfl, a, _, _, _, rfl, rfl, ha, at_str hi, k⟩
def sp_need_word (K : PySem.W.Frag) : Sp := fun vs H Q _ => ∃ (a : Addr) (ws : List Str) (i : Nat) (s : Str), vs = [.ref a, .int (i : Int), .str s] ∧ SqL K H a (ws.map V.str) ∧ ws[i]? = some s ∧ Q .non H
theorem ok_need_word (T : TX K mg w) (c_word_at : C8.Cal P w K mg base 1 "word_at" (sp_word_at K) []) : C8.Cal P w K mg base 2 "need_word" (sp_need_word K) [] := by
  refine T.cal (d := d_need_word) 61 41 rfl rfl (S := sc_need_word) (fun _ _ _ _ _ _ us hl => match us, hl with | [_, _, _], _ => rfl) (fun vs H Q E h => ?_) (fun cdv A outer s H vs Q E hr h => ?_)
  · obtain ⟨a, ws, i, s, rfl, _⟩ := h; rfl
  · obtain ⟨a, ws, i, s, rfl, ha, hi, k⟩ := h
    refine ⟨_, (pss_one (ps_if (pt_cmpR op_ne (C8.pe_c c_word_at hr (by decide) (by rfl) (pa_cons (pv 0) (pa_cons (pv 1) pa_nil))) (pv 2) (nomark _)) (pss_one ps_dead) pss_nil)), ?_⟩
    exact ⟨_, rfl, _, rfl, a, ws, i, s, rfl, ha, hi, _, rfl, rfl, _, rfl, iteN (by simp) k⟩
def sp_number_at (K : PySem.W.Frag) : Sp := fun vs H Q _ => ∃ (a : Addr) (ws : List Str) (i : Nat) (n lo hi : Int), vs = [.ref a, .int (i : Int), .int lo, .int hi] ∧ SqL K H a (ws.map V.str) ∧ ws[i]? = some (nS n) ∧ -4 ≤ n ∧ n ≤ 16 ∧ lo ≤ n ∧ n ≤ hi ∧ ∀ H', Same H H' → Q (.int n) H'
theorem ok_number_at (T : TX K mg w) (c_is_whole : C8.Cal P w K mg base 2 "is_whole" (sp_is_whole K) []) (c_whole_of : C8.Cal P w K mg base 1 "whole_of" (sp_whole_of K) []) (c_word_at : C8.Cal P w K mg base 1 "word_at" (sp_word_at K) []) : C8.Cal P w K mg base 3 "number_at" (sp_number_at K) [] := by
  refine T.cal (d := d_number_at) 62 42 rfl rfl (S := sc_number_at) (fun _ _ _ _ _ _ us hl => match us, hl with | [_, _, _, _], _ => rfl) (fun vs H Q E h => ?_) (fun cdv A outer s H vs Q E hr h => ?_)
  · obtain ⟨a, ws, i, n, lo, hi, rfl, _⟩ := h; rfl
  · obtain ⟨a, ws, i, n, lo, hi, rfl, ha, hi, n0, n1, l0, l1, k⟩ := h
    refine ⟨_, (pss_cons (ps_set (i := 4) sc_number_at.nd rfl (by first | exact Or.inl rfl | exact Or.inr rfl) (C8.pe_c c_whole_of hr (by decide) (by rfl) (pa_cons (C8.pe_c c_word_at hr (by decide) (by rfl) (pa_cons (pv 0) (pa_cons (pv 1) pa_nil))) pa_nil)))
    (pss_cons (ps_if (PW.pt (pw_or (pt_cmpR op_isN (pv 4) pe_non (nomark _)) (pw_or1 (pt_not (pt_val (C8.pe_c c_is_whole hr (by decide) (by rfl) (pa_cons (pv 4) (pa_cons (pv 2) (pa_cons (pv 3) pa_nil))))))))) (pss_one ps_dead) pss_nil)
    (pss_one (ps_ret (pv 4))))), ?_⟩
    refine ⟨_, rfl, _, rfl, a, ws, i, _, rfl, ha, hi, n, rfl, n0, n1, fun H1 s1 => ?_⟩
    refine ⟨_, rfl, rfl, _, rfl, iteN (by simp) ?_⟩
    refine ⟨_, rfl, _, rfl, _, rfl, n, lo, _, rfl, _, rfl, iteN (by rw [decide_eq_true (⟨l0, l1⟩ : lo ≤ n ∧ n ≤ _)]; decide) ?_⟩
    exact ⟨_, rfl, k _ s1⟩
def sp_pair_at (K : PySem.W.Frag) : Sp := fun vs H Q _ => ∃ (p : Int) (a : Addr) (ws : List Str) (i : Nat) (q : Int × Int) (lo hi : Int), vs = [.int p, .ref a, .int (i : Int), .int lo, .int hi] ∧ SqL K H a (ws.map V.str) ∧ ws[i]? = some (pS q) ∧ PairB q ∧ lo ≤ q.1 ∧ q.1 ≤ hi ∧ q.2 < p ∧ ∀ v H', Same H H' → TI K H' v [q.1, q.2] → Q v H'
theorem ok_pair_at (T : TX K mg w) (c_is_whole : C8.Cal P w K mg base 2 "is_whole" (sp_is_whole K) []) (c_pair_of : C8.Cal P w K mg base 2 "pair_of" (sp_pair_of K) []) (c_word_at : C8.Cal P w K mg base 1 "word_at" (sp_word_at K) []) : C8.Cal P w K mg base 3 "pair_at" (sp_pair_at K) [] := by
  refine T.cal (d := d_pair_at) 63 43 rfl rfl (S := sc_pair_at) (fun _ _ _ _ _ _ us hl => match us, hl with | [_, _, _, _, _], _ => rfl) (fun vs H Q E h => ?_) (fun cdv A outer s H vs Q E hr h => ?_)
  · obtain ⟨p, a, ws, i, q, lo, hi, rfl, _⟩ := h; rfl
  · obtain ⟨p, a, ws, i, q, lo, hi, rfl, ha, hi, B, l0, l1, lp, k⟩ := h
    have b3 := B.pos
    refine ⟨_, (pss_cons (ps_set (i := 5) sc_pair_at.nd rfl (by first | exact Or.inl rfl | exact Or.inr rfl) (C8.pe_c c_pair_of hr (by decide) (by rfl) (pa_cons (C8.pe_c c_word_at hr (by decide) (by rfl) (pa_cons (pv 1) (pa_cons (pv 2) pa_nil))) pa_nil)))
    (pss_cons (ps_if (PW.pt (pw_or (pt_cmpR op_isN (pv 5) pe_non (nomark _)) (pw_or (pt_not (pt_val (C8.pe_c c_is_whole hr (by decide) (by rfl) (pa_cons (pe_ix ix_tup (pv 5) pe_int (fun _ _ => rfl)) (pa_cons (pv 3) (pa_cons (pv 4) pa_nil)))))) (pw_or1 (pt_not (pt_val (C8.pe_c c_is_whole hr (by decide) (by rfl) (pa_cons (pe_ix ix_tup (pv 5) pe_int (fun _ _ => rfl)) (pa_cons pe_int (pa_cons (pe_op op_sub (pv 0) pe_int) pa_nil)))))))))) (pss_one ps_dead) pss_nil)
    (pss_one (ps_ret (pv 5))))), ?_⟩
    refine ⟨_, rfl, _, rfl, a, ws, i, _, rfl, ha, hi, q, rfl, B, fun v H1 s1 hv => ?_⟩
    obtain ⟨va, rfl, hs⟩ := hv
    refine ⟨_, rfl, rfl, _, rfl, iteN (by simp) ?_⟩
    refine ⟨_, rfl, va, _, _, _, rfl, rfl, hs, at0, _, rfl, _, rfl, q.1, lo, _, rfl, _, rfl, iteN (by rw [decide_eq_true (⟨l0, l1⟩ : lo ≤ q.1 ∧ q.1 ≤ _)]; decide) ?_⟩
    refine ⟨_, rfl, va, _, _, _, rfl, rfl, hs, at1, _, rfl, _, _, rfl, rfl, q.2, 1, _, rfl, _, rfl, iteN (by rw [decide_eq_true (⟨by omega, by omega⟩ : 1 ≤ q.2 ∧ q.2 ≤ p - 1)]; decide) ?_⟩
    exact ⟨_, rfl, k _ _ s1 ⟨va, rfl, hs⟩⟩
/-- the pairs that stand from a place on -/
structure Asc (p lo hi : Int) (ps : List (Int × Int)) : Prop where
  asc : ps.Pairwise fun x y => x.1 < y.1
  mem : ∀ q ∈ ps, PairB q ∧ lo ≤ q.1 ∧ q.1 ≤ hi ∧ q.2 < p
theorem Asc.tail {p lo hi : Int} {q : Int × Int} {ps : List (Int × Int)} (h : Asc p lo hi (q :: ps)) : Asc p (q.1 + 1) hi ps := by
  obtain ⟨a1, a2⟩ := List.pairwise_cons.mp h.asc
  refine ⟨a2, fun x hx => ?_⟩
  have h1 := h.mem x (List.mem_cons_of_mem _ hx)
  have h2 := a1 x hx
  exact ⟨h1.1, by omega, h1.2.2⟩
def sp_pairs_at (K : PySem.W.Frag) : Sp := fun vs H Q _ => ∃ (p : Int) (a : Addr) (ws : List Str) (i : Nat) (ps : List (Int × Int)) (rest : List Str) (lo hi : Int), vs = [.int p, .ref a, .int (i : Int), .int lo, .int hi] ∧ H a = some (.lst (ws.map V.str)) ∧ ws.drop i = ps.map pS ++ rest ∧ (rest = [] ∨ ∃ r, rest = ("button" : Str) :: r) ∧
  ps.length ≤ 100 ∧ i ≤ ws.length ∧ Asc p lo hi ps ∧ ∀ t v H', Same H H' → SqT K H' t [v, .int ((i + ps.length : Nat) : Int)] → TP K H' v ps → Q (.ref t) H'
theorem drop_cons_get {α : Type} {l : List α} {i : Nat} {x : α} {r : List α} (h : l.drop i = x :: r) : l[i]? = some x ∧ l.drop (i + 1) = r ∧ i < l.length := by
  have h1 : i < l.length := by
    have := congrArg List.length h
    rw [List.length_drop, List.length_cons] at this
    omega
  rw [List.drop_eq_getElem_cons h1] at h
  injection h with h2 h3
  exact ⟨by rw [List.getElem?_eq_getElem h1, h2], h3, h1⟩
theorem ok_pairs_at (T : TX K mg w) (c_pair_at : C8.Cal P w K mg base 3 "pair_at" (sp_pair_at K) []) : C8.Cal P w K mg base 4 "pairs_at" (sp_pairs_at K) [] := by
  refine T.cal (d := d_pairs_at) 64 44 rfl rfl (S := sc_pairs_at) (fun _ _ _ _ _ _ us hl => match us, hl with | [_, _, _, _, _], _ => rfl) (fun vs H Q E h => ?_) (fun cdv A outer s H vs Q E hr h => ?_)
  · obtain ⟨p, a, ws, i, ps, rest, lo, hi, rfl, _⟩ := h; rfl
  · obtain ⟨p, a, ws, i, ps, rest, lo, hi, rfl, ha, hd, hrest, lp, li, hA, k⟩ := h
    refine ⟨_, (pss_cons (ps_set (i := 5) sc_pairs_at.nd rfl (by first | exact Or.inl rfl | exact Or.inr rfl) (pe_lst pa_nil))
    (pss_cons (ps_while PassesOwn.never (PW.pt (pw_and (pt_cmpR op_lt (pv 2) (pe_callB call_len_seq (by rfl) (T.fr 4 rfl) (by decide +kernel) (pa_cons (pv 1) pa_nil)) (nomark _)) (pw_and1 (pt_cmpR op_ne (pe_ix ix_list (pv 1) (pv 2) (fun _ _ => rfl)) pe_str (nomark _))))) (pss_cons (ps_set (i := 6) sc_pairs_at.nd rfl (by first | exact Or.inl rfl | exact Or.inr rfl) (C8.pe_c c_pair_at hr (by decide) (by rfl) (pa_cons (pv 0) (pa_cons (pv 1) (pa_cons (pv 2) (pa_cons (pv 3) (pa_cons (pv 4) pa_nil)))))))
    (pss_cons (ps_expr (pe_bm PySem.F.plainAttrs_list PySem.F.slot_list_append PySem.F.type_list_append mt_append (pv 5) (pa_cons (pv 6) pa_nil)))
    (pss_one (ps_par (i := 3) (j := 2) rfl sc_pairs_at.nd rfl rfl (by decide) rfl rfl (pa_cons (pe_op op_add (pe_ix ix_tup (pv 6) pe_int (fun _ _ => rfl)) pe_int) (pa_cons (pe_op op_add (pv 2) pe_int) pa_nil)) (by rfl))))))
    (pss_one (ps_ret (pe_tup (pa_cons (pe_callTy call_tuple_of (by rfl) (T.fr 2 rfl) (by decide +kernel) (pa_cons (pv 5) pa_nil)) (pa_cons (pv 2) pa_nil))))))), ?_⟩
    refine ⟨by show 0 ≤ sizeLine; decide, fun F nF => ?_⟩
    have s1 := Same.new (o := .lst []) nF
    have hF1 : upd H F (.lst []) F = some (.lst []) := upd_same
    generalize upd H F (.lst []) = H1 at s1 hF1
    refine ⟨fun m σ H' => ∃ (c6 : Option V) (lo' : Int) (done qs : List (Int × Int)) (xs : List V), σ = [some (.int p), some (.ref a), some (.int ((i + done.length : Nat) : Int)), some (.int lo'), some (.int hi), some (.ref F), c6] ∧ Same H H' ∧ H' F = some (.lst xs) ∧ Paired (fun x (q : Int × Int) => TI K H' x [q.1, q.2]) xs done ∧ ps = done ++ qs ∧ qs.length = m ∧ Asc p lo' hi qs ∧ ws.drop (i + done.length) = qs.map pS ++ rest,
      ⟨ps.length, none, lo, [], ps, [], rfl, s1, hF1, .nil, rfl, rfl, hA, hd⟩, ?_⟩
    rintro m σ H2 ⟨c6, lo', done, qs, xs, rfl, s2, hF2, pr, rfl, rfl, hA2, hd2⟩
    have ha2 := s2 _ _ ha
    rw [List.length_append] at lp
    cases qs with
    | nil =>
      rw [List.append_nil] at k
      have fin : ∀ (q : Addr) (H3 : Hp), Same H2 H3 → H3 q = some (.tup xs) → ∀ t, H3 t = none → Q (.ref t) (upd H3 t (.tup [.ref q, .int ((i + done.length : Nat) : Int)])) := fun q H3 s3 hq t nt => by
        have s4 := Same.new (o := .tup [.ref q, .int ((i + done.length : Nat) : Int)]) nt
        exact k t (.ref q) _ (s2.trans (s3.trans s4)) (SqT.of upd_same) ⟨q, xs, rfl, Same.tup s4 (SqT.of hq), paired_mono (fun _ _ z => z.same (s3.trans s4)) pr⟩
      rcases hrest with rfl | ⟨r, rfl⟩
      · have hlen : ws.length ≤ i + done.length := by
          have := congrArg List.length hd2
          rw [List.length_drop] at this
          simp at this
          omega
        refine ⟨_, rfl, _, rfl, a, _, rfl, .inl (SqL.of ha2), _, _, rfl, rfl, _, rfl, iteN (by rw [List.length_map]; simp; omega) ?_⟩
        refine ⟨_, rfl, F, _, rfl, .inl ⟨SqL.of hF2, fun q nq => ⟨_, rfl, by show 2 ≤ sizeLine; decide, fun t nt => fin q _ (Same.new nq) upd_same t nt⟩⟩⟩
      · obtain ⟨h1, h2, h3⟩ := drop_cons_get hd2
        refine ⟨_, rfl, _, rfl, a, _, rfl, .inl (SqL.of ha2), _, _, rfl, rfl, _, rfl, iteI (by rw [List.length_map]; simp; omega) ?_⟩
        refine ⟨_, rfl, _, rfl, a, _, _, _, rfl, rfl, SqL.of ha2, at_str h1, rfl, _, rfl, iteN (by simp) ?_⟩
        refine ⟨_, rfl, F, _, rfl, .inl ⟨SqL.of hF2, fun q nq => ⟨_, rfl, by show 2 ≤ sizeLine; decide, fun t nt => fin q _ (Same.new nq) upd_same t nt⟩⟩⟩
    | cons q qs =>
      obtain ⟨h1, h2, h3⟩ := drop_cons_get hd2
      have hq := hA2.mem q (List.mem_cons_self ..)
      have W := pw_of hq.1.lo hq.1.hi hq.1.pos hq.1.lt
      refine ⟨_, rfl, _, rfl, a, _, rfl, .inl (SqL.of ha2), _, _, rfl, rfl, _, rfl, iteI (by rw [List.length_map]; simp; omega) ?_⟩
      refine ⟨_, rfl, _, rfl, a, _, _, _, rfl, rfl, SqL.of ha2, at_str h1, rfl, _, rfl, iteI (by simpa using W.nb) ?_⟩
      rw [List.length_cons] at lp
      refine ⟨fun σ H' => ∃ (c6 : Option V) (lo' : Int) (done' : List (Int × Int)) (xs : List V), σ = [some (.int p), some (.ref a), some (.int ((i + done'.length : Nat) : Int)), some (.int lo'), some (.int hi), some (.ref F), c6] ∧ Same H H' ∧ H' F = some (.lst xs) ∧ Paired (fun x (q : Int × Int) => TI K H' x [q.1, q.2]) xs done' ∧ done ++ q :: qs = done' ++ qs ∧ Asc p lo' hi qs ∧ ws.drop (i + done'.length) = qs.map pS ++ rest,
        fun σ' H' ⟨c6, lo', done', xs, g1, g2, g3, g4, g5, g6, g7⟩ => ⟨qs.length, by simp, c6, lo', done', qs, xs, g1, g2, g3, g4, g5, rfl, g6, g7⟩, ?_⟩
      refine ⟨_, rfl, _, rfl, _, rfl, _, rfl, _, rfl, p, a, ws, i + done.length, q, lo', hi, rfl, SqL.of ha2, h1, hq.1, hq.2.1, hq.2.2.1, hq.2.2.2, fun v H3 s3 hv => ?_⟩
      have hF3 := s3 _ _ hF2
      have lxs := paired_len pr
      refine ⟨_, rfl, .inl ⟨rfl, _, SqL.of hF3⟩, _, rfl, F, xs, _, rfl, rfl, hF3, by rw [sizeLine_eq]; omega, ?_⟩
      have k4 : KeepT K H3 (upd H3 F (.lst (xs ++ [v]))) := keepT_lst hF3
      have hv4 := hv.keep k4
      obtain ⟨va, rfl, hvs⟩ := hv4
      refine ⟨_, rfl, va, _, _, _, rfl, rfl, hvs, at0, _, _, rfl, rfl, _, rfl, _, _, rfl, rfl, _, _, rfl, ?_⟩
      refine ⟨some (.ref va), q.1 + 1, done ++ [q], xs ++ [.ref va], ?_, Same.put (s2.trans s3) nF, upd_same, paired_app (paired_mono (fun _ _ z => (z.same s3).keep k4) pr) (.cons ⟨va, rfl, hvs⟩ .nil), by simp, hA2.tail, ?_⟩
      · have e : ((i + (done ++ [q]).length : Nat) : Int) = ((i + done.length : Nat) : Int) + 1 := by simp; omega
        rw [e]; rfl
      · rw [List.length_append]
        exact h2
/-! ### whole texts -/
theorem join_sp (l : List Str) : Txt.join " " l = Str.join " " l := TL.join_eq _ _
theorem split_back {l : List Str} (h : l ≠ []) (hs : ∀ w ∈ l, 32 ∉ tl w) : Txt.split (Txt.join " " l) " " = l := TL.split_join (s := 32) (S := []) rfl (by decide +kernel) h hs
def picWords (n : Int) (ps : List (Int × Int)) : List Str := "ring" :: nS n :: ps.map pS
def picText (n : Int) (ps : List (Int × Int)) : Str := Txt.join " " (picWords n ps)
def panWords : List (List (Int × Int)) → List Str
  | [] => []
  | b :: bs => "button" :: (b.map pS ++ panWords bs)
def panText (p : Int) (bs : List (List (Int × Int))) : Str := Txt.join " " ("prime" :: nS p :: panWords bs)
theorem join_len_le (l : List Str) (m : Nat) (h : ∀ w ∈ l, w.length ≤ m) : (l.map (·.length)).sum ≤ l.length * m := by
  induction l with
  | nil => simp
  | cons a l ih =>
    have h1 := h a (List.mem_cons_self ..)
    have h2 := ih fun w hw => h w (List.mem_cons_of_mem _ hw)
    rw [List.map_cons, List.sum_cons, List.length_cons, Nat.succ_mul]
    omega
theorem join_bound (l : List Str) (m : Nat) (h : ∀ w ∈ l, w.length ≤ m) : (Txt.join " " l).length ≤ l.length * (m + 1) := by
  rw [join_sp]
  induction l with
  | nil => exact Nat.zero_le _
  | cons a l ih =>
    have h1 := h a (List.mem_cons_self ..)
    cases l with
    | nil => show a.length ≤ _; simp; omega
    | cons b l =>
      have h2 := ih fun w hw => h w (List.mem_cons_of_mem _ hw)
      show (a ++ (" " : Str) ++ Str.join " " (b :: l)).length ≤ _
      have e : (a ++ (" " : Str) ++ Str.join " " (b :: l)).length = a.length + 1 + (Str.join " " (b :: l)).length := by
        simp only [TL.len_tl, tl_append, List.length_append]
        rfl
      rw [e, List.length_cons, Nat.succ_mul]
      omega
theorem picWords_ok {n : Int} {ps : List (Int × Int)} (h0 : -4 ≤ n) (h1 : n ≤ 16) (hB : ∀ q ∈ ps, PairB q) : ∀ w ∈ picWords n ps, 32 ∉ tl w ∧ w.length ≤ 9 := by
  intro w hw
  unfold picWords at hw
  rcases List.mem_cons.mp hw with rfl | hw
  · decide
  rcases List.mem_cons.mp hw with rfl | hw
  · have := num_of h0 h1; exact ⟨this.sp, by have := this.len; omega⟩
  · obtain ⟨q, hq, rfl⟩ := List.mem_map.mp hw
    obtain ⟨b1, b2, b3, b4⟩ := hB q hq
    have := pw_of b1 b2 b3 b4
    exact ⟨this.sp, this.len⟩
def sp_write_picture (K : PySem.W.Frag) : Sp := fun vs H Q _ => ∃ (p : Int) (n : Nat) (v : V) (ps : List (Int × Int)), vs = [.int p, .int (n : Int), v] ∧ TP K H v ps ∧ P3 p ∧ 1 ≤ n ∧ n ≤ 16 ∧ Pic p n ps ∧ ∀ H', Same H H' → Q (.str (picText n ps)) H'
theorem Pic.pairB {p : Int} {n : Nat} {ps : List (Int × Int)} (h : Pic p n ps) (hp : P3 p) (hn : n ≤ 16) : ∀ q ∈ ps, PairB q := fun q hq => by
  have h1 := h.lo q hq
  have h2 := h.col q hq
  have := hp.le
  exact ⟨by omega, by omega, h2.1, by omega⟩
theorem ok_write_picture (T : TX K mg w) (c_need_prime : C8.Cal P w K mg base 3 "need_prime" (sp_need_prime K) []) (c_need_size : C8.Cal P w K mg base 2 "need_size" (sp_need_size K) []) (c_need_picture : C8.Cal P w K mg base 5 "need_picture" (sp_need_picture K) []) (c_pair_words : C8.Cal P w K mg base 1 "pair_words" (sp_pair_words K) []) : C8.Cal P w K mg base 6 "write_picture" (sp_write_picture K) [] := by
  refine T.cal (d := d_write_picture) 67 47 rfl rfl (S := sc_write_picture) (fun _ _ _ _ _ _ us hl => match us, hl with | [_, _, _], _ => rfl) (fun vs H Q E h => ?_) (fun cdv A outer s H vs Q E hr h => ?_)
  · obtain ⟨p, n, v, ps, rfl, _⟩ := h; rfl
  · obtain ⟨p, n, v, ps, rfl, hv, hp, n1, ln, hQ, k⟩ := h
    have hB := hQ.pairB hp ln
    have lq := hQ.len
    refine ⟨_, (pss_cons (ps_expr (C8.pe_c c_need_prime hr (by decide) (by rfl) (pa_cons (pv 0) pa_nil)))
    (pss_cons (ps_expr (C8.pe_c c_need_size hr (by decide) (by rfl) (pa_cons (pv 1) pa_nil)))
    (pss_cons (ps_expr (C8.pe_c c_need_picture hr (by decide) (by rfl) (pa_cons (pv 0) (pa_cons (pv 1) (pa_cons (pv 2) pa_nil)))))
    (pss_one (ps_ret (pe_join pe_str (pe_lst (pa_cons pe_str (pa_cons (pe_callTy call_str_int (by rfl) (T.fr 3 rfl) (by decide +kernel) (pa_cons (pv 1) pa_nil)) (StX.pa_star (C8.pe_c c_pair_words hr (by decide) (by rfl) (pa_cons (pv 2) pa_nil)) pa_nil)))))))))), ?_⟩
    refine ⟨_, rfl, p, rfl, isP_of hp, ?_⟩
    refine ⟨_, rfl, n, rfl, by omega, ?_⟩
    refine ⟨_, rfl, _, rfl, _, rfl, p, n, v, ps, rfl, hv, by omega, hQ, fun H1 s1 => ?_⟩
    refine ⟨⟨_, rfl⟩, _, rfl, _, rfl, log_small (by omega) (by omega), _, rfl, v, ps, rfl, hv.same s1, by omega, hB, fun a H2 s2 ha => ?_⟩
    have e : V.str ("ring" : Str) :: V.str (Str.ofString (toString (n : Int))) :: ((ps.map pS).map V.str ++ []) = (picWords n ps).map V.str := by simp [picWords, nS]
    have lw : (picWords n ps).length = ps.length + 2 := by simp [picWords]
    refine ⟨a, _, rfl, .inr (SqL.of ha), by rw [sizeLine_eq]; simp; omega, fun L nL => ?_⟩
    refine ⟨_, L, picWords n ps, rfl, rfl, .inl (SqL.of (by rw [← e]; exact upd_same)), ?_, k _ ((s1.trans s2).trans (Same.new nL))⟩
    have := join_len_le (picWords n ps) 9 fun w hw => (picWords_ok (by omega) (by omega) hB w hw).2
    show _ + (picWords n ps).length * 1 ≤ _
    omega
def sp_read_picture (K : PySem.W.Frag) : Sp := fun vs H Q _ => ∃ (p : Int) (n : Nat) (ps : List (Int × Int)), vs = [.int p, .str (picText n ps)] ∧ P3 p ∧ 1 ≤ n ∧ n ≤ 16 ∧ Pic p n ps ∧ ∀ t v H', Same H H' → SqT K H' t [.int (n : Int), v] → TP K H' v ps → Q (.ref t) H'
theorem ok_read_picture (T : TX K mg w) (c_need_prime : C8.Cal P w K mg base 3 "need_prime" (sp_need_prime K) []) (c_need_word : C8.Cal P w K mg base 2 "need_word" (sp_need_word K) []) (c_number_at : C8.Cal P w K mg base 3 "number_at" (sp_number_at K) []) (c_pairs_at : C8.Cal P w K mg base 4 "pairs_at" (sp_pairs_at K) []) : C8.Cal P w K mg base 5 "read_picture" (sp_read_picture K) [] := by
  refine T.cal (d := d_read_picture) 68 48 rfl rfl (S := sc_read_picture) (fun _ _ _ _ _ _ us hl => match us, hl with | [_, _], _ => rfl) (fun vs H Q E h => ?_) (fun cdv A outer s H vs Q E hr h => ?_)
  · obtain ⟨p, n, ps, rfl, _⟩ := h; rfl
  · obtain ⟨p, n, ps, rfl, hp, n1, ln, hQ, k⟩ := h
    have hB := hQ.pairB hp ln
    have lq := hQ.len
    have hok := picWords_ok (n := n) (by omega) (by omega) hB
    have lw : (picWords n ps).length = ps.length + 2 := by simp [picWords]
    have lt := join_bound (picWords n ps) 9 fun w hw => (hok w hw).2
    have es : Txt.split (picText n ps) " " = picWords n ps := split_back (by simp [picWords]) fun w hw => (hok w hw).1
    refine ⟨_, (pss_cons (ps_expr (C8.pe_c c_need_prime hr (by decide) (by rfl) (pa_cons (pv 0) pa_nil)))
    (pss_cons (ps_set (i := 2) sc_read_picture.nd rfl (by first | exact Or.inl rfl | exact Or.inr rfl) (pe_split (pv 1) pe_str))
    (pss_cons (ps_expr (C8.pe_c c_need_word hr (by decide) (by rfl) (pa_cons (pv 2) (pa_cons pe_int (pa_cons pe_str pa_nil)))))
    (pss_cons (ps_set (i := 3) sc_read_picture.nd rfl (by first | exact Or.inl rfl | exact Or.inr rfl) (C8.pe_c c_number_at hr (by decide) (by rfl) (pa_cons (pv 2) (pa_cons pe_int (pa_cons pe_int (pa_cons (C8.pe_gc rfl T.g_MOST_NUMBER) pa_nil))))))
    (pss_cons (ps_asg (C8.pe_c c_pairs_at hr (by decide) (by rfl) (pa_cons (pv 0) (pa_cons (pv 2) (pa_cons pe_int (pa_cons pe_int (pa_cons (pe_op op_sub (pv 3) pe_int) pa_nil)))))) (pg_tup rfl (pgs_cons (pg_name (i := 4) sc_read_picture.nd rfl (by first | exact Or.inl rfl | exact Or.inr rfl)) (pgs_cons (pg_name (i := 5) sc_read_picture.nd rfl (by first | exact Or.inl rfl | exact Or.inr rfl)) pgs_nil))))
    (pss_cons (ps_if (pt_cmpR op_lt (pv 5) (pe_callB call_len_seq (by rfl) (T.fr 4 rfl) (by decide +kernel) (pa_cons (pv 2) pa_nil)) (nomark _)) (pss_one ps_dead) pss_nil)
    (pss_one (ps_ret (pe_tup (pa_cons (pv 3) (pa_cons (pv 4) pa_nil))))))))))), ?_⟩
    refine ⟨_, rfl, p, rfl, isP_of hp, ?_⟩
    refine ⟨_, rfl, ⟨_, rfl⟩, _, _, rfl, rfl, rfl, by rw [sizeLine_eq]; show (Txt.join " " (picWords n ps)).length + 2 ≤ _; omega, fun W nW => ?_⟩
    rw [es]
    have s1 := Same.new (o := .lst ((picWords n ps).map V.str)) nW
    have hW : upd H W (.lst ((picWords n ps).map V.str)) W = some (.lst ((picWords n ps).map V.str)) := upd_same
    generalize upd H W (.lst ((picWords n ps).map V.str)) = H1 at s1 hW
    refine ⟨_, rfl, W, picWords n ps, 0, "ring", rfl, SqL.of hW, rfl, ?_⟩
    refine ⟨_, rfl, W, picWords n ps, 1, n, 1, 999999999, rfl, SqL.of hW, rfl, by omega, by omega, by omega, by omega, fun H2 s2 => ?_⟩
    refine ⟨_, rfl, _, rfl, _, rfl, _, _, rfl, rfl, p, W, picWords n ps, 2, ps, [], 0, _, rfl, s2 _ _ hW, by simp [picWords], .inl rfl, by omega, by omega, ⟨hQ.asc, fun q hq => ⟨hB q hq, (hQ.lo q hq).1, by have := (hQ.lo q hq).2; omega, (hQ.col q hq).2⟩⟩, fun t v H3 s3 ht hv => ?_⟩
    refine ⟨t, _, rfl, ht, rfl, _, _, rfl, _, _, rfl, rfl, ?_⟩
    refine ⟨_, rfl, _, rfl, W, _, rfl, .inl (SqL.of (s3 _ _ (s2 _ _ hW))), _, _, rfl, rfl, _, rfl, iteN (by rw [List.length_map, lw]; simp; omega) ?_⟩
    refine ⟨_, rfl, _, rfl, by show 2 ≤ sizeLine; decide, fun t4 n4 => ?_⟩
    have s4 := Same.new (o := .tup [.int (n : Int), v]) n4
    exact k t4 v _ ((s1.trans s2).trans (s3.trans s4)) (SqT.of upd_same) (hv.same s4)
theorem panWords_app : ∀ (l : List (List (Int × Int))) (b : List (Int × Int)), panWords (l ++ [b]) = panWords l ++ ("button" : Str) :: b.map pS
  | [], b => by simp [panWords]
  | a :: l, b => by
    show ("button" : Str) :: (a.map pS ++ panWords (l ++ [b])) = ("button" : Str) :: (a.map pS ++ panWords l) ++ _
    rw [panWords_app l b]
    simp
theorem Rule.pairB {p : Int} (hp : P3 p) {b : List (Int × Int)} (R : Rule p b) : ∀ q ∈ b, PairB q := fun q hq => by
  have h1 := R.off q hq
  have h2 := R.amt q hq
  have := hp.le
  exact ⟨h1.1, by omega, h2.1, by omega⟩
theorem panWords_ok {p : Int} (hp : P3 p) : ∀ {bs : List (List (Int × Int))}, (∀ b ∈ bs, Rule p b) → (∀ w ∈ panWords bs, 32 ∉ tl w ∧ w.length ≤ 9) ∧ (panWords bs).length ≤ bs.length * 21
  | [], _ => ⟨(fun _ h => by cases h), Nat.le_refl _⟩
  | b :: bs, h => by
    have hb := h b (List.mem_cons_self ..)
    have ih := panWords_ok hp (bs := bs) fun x hx => h x (List.mem_cons_of_mem _ hx)
    refine ⟨fun w hw => ?_, ?_⟩
    · rcases List.mem_cons.mp hw with rfl | hw
      · exact ⟨by decide, by decide⟩
      · rcases List.mem_append.mp hw with hw | hw
        · obtain ⟨q, hq, rfl⟩ := List.mem_map.mp hw
          obtain ⟨b1, b2, b3, b4⟩ := Rule.pairB hp hb q hq
          have := pw_of b1 b2 b3 b4
          exact ⟨this.sp, this.len⟩
        · exact ih.1 w hw
    · have := Rule.len hb
      have h2 := ih.2
      show (("button" : Str) :: (b.map pS ++ panWords bs)).length ≤ _
      rw [List.length_cons, List.length_append, List.length_map, List.length_cons, Nat.succ_mul]
      omega
theorem p3_num {p : Int} (hp : P3 p) : Num p := by rcases hp with rfl | rfl | rfl <;> exact num_of (by decide) (by decide)
def sp_write_panel (K : PySem.W.Frag) : Sp := fun vs H Q _ => ∃ (p : Int) (v : V) (bs : List (List (Int × Int))), vs = [v] ∧ TPan K H v p bs ∧ Pan p bs ∧ ∀ H', Same H H' → Q (.str (panText p bs)) H'
theorem ok_write_panel (T : TX K mg w) (c_need_panel : C8.Cal P w K mg base 6 "need_panel" (sp_need_panel K) []) (c_pair_words : C8.Cal P w K mg base 1 "pair_words" (sp_pair_words K) []) : C8.Cal P w K mg base 7 "write_panel" (sp_write_panel K) [] := by
  refine T.cal (d := d_write_panel) 65 45 rfl rfl (S := sc_write_panel) (fun _ _ _ _ _ _ us hl => match us, hl with | [_], _ => rfl) (fun vs H Q E h => ?_) (fun cdv A outer s H vs Q E hr h => ?_)
  · obtain ⟨p, v, bs, rfl, _⟩ := h; rfl
  · obtain ⟨p, v, bs, rfl, hv, hP, k⟩ := h
    have hv0 := hv
    obtain ⟨va, ub, rfl, hs, bb, xs, rfl, hb, pr⟩ := hv
    have hp := hP.hp
    have p5 := hp.le
    have p2 := hp.two
    have hok := panWords_ok hp hP.rule
    have l3 := hP.len
    have lall : (panWords bs).length ≤ 63 := Nat.le_trans hok.2 (by omega)
    refine ⟨_, (pss_cons (ps_expr (C8.pe_c c_need_panel hr (by decide) (by rfl) (pa_cons (pv 0) pa_nil)))
    (pss_cons (ps_set (i := 1) sc_write_panel.nd rfl (by first | exact Or.inl rfl | exact Or.inr rfl) (pe_lst (pa_cons pe_str (pa_cons (pe_callTy call_str_int (by rfl) (T.fr 3 rfl) (by decide +kernel) (pa_cons (pe_ix ix_tup (pv 0) pe_int (fun _ _ => rfl)) pa_nil)) pa_nil))))
    (pss_cons (ps_for PassesOwn.never rfl (pi_tup (pe_ix ix_tup (pv 0) pe_int (fun _ _ => rfl))) (pg_name (i := 2) sc_write_panel.nd rfl (by first | exact Or.inl rfl | exact Or.inr rfl)) (pss_one (ps_set (i := 1) sc_write_panel.nd rfl (by first | exact Or.inl rfl | exact Or.inr rfl) (pe_lst (StX.pa_star (pv 1) (pa_cons pe_str (StX.pa_star (C8.pe_c c_pair_words hr (by decide) (by rfl) (pa_cons (pv 2) pa_nil)) pa_nil)))))))
    (pss_one (ps_ret (pe_join pe_str (pv 1))))))), ?_⟩
    refine ⟨_, rfl, p, _, bs, rfl, hv0, hP, fun H1 s1 => ?_⟩
    refine ⟨_, rfl, va, _, _, _, rfl, rfl, Same.tup s1 hs, at0, p, rfl, log_small (by omega) (by omega), by show 2 ≤ sizeLine; decide, fun L nL => ?_⟩
    have s2 := Same.new (o := .lst [.str ("prime" : Str), .str (nS p)]) nL
    have hL2 : upd H1 L (.lst [.str ("prime" : Str), .str (nS p)]) L = some (.lst [.str ("prime" : Str), .str (nS p)]) := upd_same
    change tSeq _ _ _ _ (upd H1 L (.lst [.str ("prime" : Str), .str (nS p)]))
    generalize upd H1 L (.lst [.str ("prime" : Str), .str (nS p)]) = H2 at s2 hL2
    have s12 := s1.trans s2
    refine ⟨_, rfl, va, _, _, _, rfl, rfl, Same.tup s12 hs, at1, bb, rfl, ⟨_, Same.tup s12 hb⟩, ?_⟩
    refine for_it walk_tup (fun i σ H' => ∃ (c2 : Option V) (L : Addr), σ = [some (.ref va), some (.ref L), c2] ∧ Same H H' ∧ H' L = some (.lst ((("prime" : Str) :: nS p :: panWords (bs.take i)).map V.str)))
      ⟨none, L, rfl, s12, hL2⟩ (fun i σ H' _ ⟨_, _, _, s, _⟩ => Same.tup s hb) ?_ ?_
    · rintro i x σ H3' H3 hi ⟨c2, L, rfl, s3, hL3⟩ ⟨rfl, hxi⟩
      obtain ⟨b, hb1, hb2⟩ := paired_get pr hxi
      obtain ⟨hlt, e⟩ := List.getElem?_eq_some_iff.mp hb1
      have hR := hP.rule b (List.mem_of_getElem? hb1)
      have hRl := Rule.len hR
      have hwt : (panWords (bs.take i)).length ≤ 63 := Nat.le_trans (panWords_ok hp (bs := bs.take i) fun x hx => hP.rule x (List.mem_of_mem_take hx)).2 (by rw [List.length_take]; omega)
      refine ⟨_, rfl, L, _, rfl, .inr (SqL.of hL3), _, rfl, x, b, rfl, hb2.same s3, by omega, Rule.pairB hp hR, fun a H4 s4 ha => ?_⟩
      refine ⟨a, _, rfl, .inr (SqL.of ha), by rw [sizeLine_eq]; simp; omega, fun L2 nL2 => ?_⟩
      refine ⟨_, L2, rfl, (s3.trans s4).trans (Same.new nL2), ?_⟩
      rw [upd_same]
      congr 2
      have et : bs.take (i + 1) = bs.take i ++ [b] := by rw [List.take_add_one, hb1]; rfl
      rw [et, panWords_app]
      simp
    · rintro σ H3 ⟨c2, L, rfl, s3, hL3⟩
      rw [paired_len pr, List.take_length] at hL3
      refine ⟨⟨_, rfl⟩, _, rfl, _, L, _, rfl, rfl, .inl (SqL.of hL3), ?_, k _ s3⟩
      have := join_len_le (("prime" : Str) :: nS p :: panWords bs) 9 fun w hw => by
        rcases List.mem_cons.mp hw with rfl | hw
        · decide
        rcases List.mem_cons.mp hw with rfl | hw
        · have := (p3_num hp).len; omega
        · exact (hok.1 w hw).2
      show _ + (("prime" : Str) :: nS p :: panWords bs).length * 1 ≤ _
      simp only [List.length_cons] at this ⊢
      omega
end
end EV
end
section
set_option Elab.async false
set_option linter.all false
set_option maxRecDepth 100000
set_option maxHeartbeats 4000000
namespace EV
open PySem PySem.Spec PyProof.Rows L2
open ER (cf Bd Row P3 Rule Pan BRow)
open TL (tl ext_tl tl_append partition_app)
section
variable {P : Program} {w : World} {K : PySem.W.Frag} {mg : Str → Option Value} {base : Heap}
theorem ok_dPs (r : List (List (Int × Int))) : OkD 3 (.list (r.map dP)) := OkD.list fun d hd => by
  obtain ⟨i, _, rfl⟩ := List.mem_map.mp hd
  exact ok_dP i
theorem inP {p : Int} (hp : P3 p) : inV (V.int p) [V.int 2, V.int 3, V.int 5] = true := by rw [inV_P]; exact isP_of hp
def sp_read_panel (K : PySem.W.Frag) : Sp := fun vs H Q _ => ∃ (p : Int) (bs : List (List (Int × Int))), vs = [.str (panText p bs)] ∧ Pan p bs ∧ ∀ v H', Same H H' → TPan K H' v p bs → Q v H'
theorem ok_read_panel (T : TX K mg w) (c_need_word : C8.Cal P w K mg base 2 "need_word" (sp_need_word K) []) (c_number_at : C8.Cal P w K mg base 3 "number_at" (sp_number_at K) []) (c_pair_at : C8.Cal P w K mg base 3 "pair_at" (sp_pair_at K) []) (c_pairs_at : C8.Cal P w K mg base 4 "pairs_at" (sp_pairs_at K) []) : C8.Cal P w K mg base 5 "read_panel" (sp_read_panel K) [] := by
  refine T.cal (d := d_read_panel) 66 46 rfl rfl (S := sc_read_panel) (fun _ _ _ _ _ _ us hl => match us, hl with | [_], _ => rfl) (fun vs H Q E h => ?_) (fun cdv A outer s H vs Q E hr h => ?_)
  · obtain ⟨p, bs, rfl, _⟩ := h; rfl
  · obtain ⟨p, bs, rfl, hP, k⟩ := h
    have hp := hP.hp
    have p5 := hp.le
    have p2 := hp.two
    have hok := panWords_ok hp hP.rule
    have l3 := hP.len
    have lall : (panWords bs).length ≤ 63 := Nat.le_trans hok.2 (by omega)
    obtain ⟨ws, hws⟩ : ∃ ws, ws = ("prime" : Str) :: nS p :: panWords bs := ⟨_, rfl⟩
    have lws : ws.length = (panWords bs).length + 2 := by rw [hws]; rfl
    have wok : ∀ x ∈ ws, 32 ∉ tl x ∧ x.length ≤ 9 := fun x hx => by
      rw [hws] at hx
      rcases List.mem_cons.mp hx with rfl | hx
      · exact ⟨by decide, by decide⟩
      rcases List.mem_cons.mp hx with rfl | hx
      · have := p3_num hp; exact ⟨this.sp, by have := this.len; omega⟩
      · exact hok.1 x hx
    have lt := join_bound ws 9 fun x hx => (wok x hx).2
    have es : Txt.split (Txt.join " " ws) " " = ws := split_back (by rw [hws]; simp) fun x hx => (wok x hx).1
    have et : panText p bs = Txt.join " " ws := by rw [hws]; rfl
    refine ⟨_, (pss_cons (ps_par3 (i := 1) (j := 2) (l := 3) rfl sc_read_panel.nd rfl rfl rfl (by decide) (by decide) (by decide) rfl rfl rfl (pa_cons (pe_split (pv 0) pe_str) (pa_cons (pe_lst pa_nil) (pa_cons pe_int pa_nil))) (by rfl))
    (pss_cons (ps_expr (C8.pe_c c_need_word hr (by decide) (by rfl) (pa_cons (pv 1) (pa_cons pe_int (pa_cons pe_str pa_nil)))))
    (pss_cons (ps_set (i := 4) sc_read_panel.nd rfl (by first | exact Or.inl rfl | exact Or.inr rfl) (C8.pe_c c_number_at hr (by decide) (by rfl) (pa_cons (pv 1) (pa_cons pe_int (pa_cons pe_int (pa_cons pe_int pa_nil))))))
    (pss_cons (ps_if (pt_cmpR op_notIn_seq (pv 4) (C8.pe_gc rfl T.g_PRIMES) (by rfl)) (pss_one ps_dead) pss_nil)
    (pss_cons (ps_while PassesOwn.never (PW.pt (pw_or (pt_cmpR op_lt (pv 3) (pe_callB call_len_seq (by rfl) (T.fr 4 rfl) (by decide +kernel) (pa_cons (pv 1) pa_nil)) (nomark _)) (pw_or1 (pt_cmpR (op_eqD hr.units) (pv 2) (pe_lst pa_nil) (nomark _))))) (pss_cons (ps_expr (C8.pe_c c_need_word hr (by decide) (by rfl) (pa_cons (pv 1) (pa_cons (pv 3) (pa_cons pe_str pa_nil)))))
    (pss_cons (ps_set (i := 5) sc_read_panel.nd rfl (by first | exact Or.inl rfl | exact Or.inr rfl) (C8.pe_c c_pair_at hr (by decide) (by rfl) (pa_cons (pv 4) (pa_cons (pv 1) (pa_cons (pe_op op_add (pv 3) pe_int) (pa_cons (pe_un un_neg (C8.pe_gc rfl T.g_MOST_NUMBER)) (pa_cons (C8.pe_gc rfl T.g_MOST_NUMBER) pa_nil)))))))
    (pss_cons (ps_asg (C8.pe_c c_pairs_at hr (by decide) (by rfl) (pa_cons (pv 4) (pa_cons (pv 1) (pa_cons (pe_op op_add (pv 3) pe_int) (pa_cons (pe_op op_add (pe_ix ix_tup (pv 5) pe_int (fun _ _ => rfl)) pe_int) (pa_cons (C8.pe_gc rfl T.g_MOST_NUMBER) pa_nil)))))) (pg_tup rfl (pgs_cons (pg_name (i := 6) sc_read_panel.nd rfl (by first | exact Or.inl rfl | exact Or.inr rfl)) (pgs_cons (pg_name (i := 3) sc_read_panel.nd rfl (by first | exact Or.inl rfl | exact Or.inr rfl)) pgs_nil))))
    (pss_one (ps_expr (pe_bm PySem.F.plainAttrs_list PySem.F.slot_list_append PySem.F.type_list_append mt_append (pv 2) (pa_cons (pe_tup (pa_cons (pv 5) (StX.pa_star (pv 6) pa_nil))) pa_nil))))))))
    (pss_one (ps_ret (pe_tup (pa_cons (pv 4) (pa_cons (pe_callTy call_tuple_of (by rfl) (T.fr 2 rfl) (by decide +kernel) (pa_cons (pv 2) pa_nil)) pa_nil)))))))))), ?_⟩
    refine ⟨_, rfl, ⟨_, rfl⟩, _, _, rfl, rfl, rfl, by rw [et, sizeLine_eq]; omega, fun W nW => ?_⟩
    rw [et, es]
    have s1 := Same.new (o := .lst (ws.map V.str)) nW
    have hW : upd H W (.lst (ws.map V.str)) W = some (.lst (ws.map V.str)) := upd_same
    generalize upd H W (.lst (ws.map V.str)) = H1 at s1 hW
    refine ⟨by show 0 ≤ sizeLine; decide, fun B nB => ⟨_, _, _, rfl, ?_⟩⟩
    have nB0 : H B = none := s1.free nB
    have BW : B ≠ W := fun e => by rw [e, hW] at nB; cases nB
    have s2 := Same.new (o := .lst []) nB
    have hB2 : upd H1 B (.lst []) B = some (.lst []) := upd_same
    have hW2 := s2 _ _ hW
    generalize upd H1 B (.lst []) = H2 at s2 hB2 hW2
    have s12 := s1.trans s2
    refine ⟨_, rfl, W, ws, 0, "prime", rfl, SqL.of hW2, by rw [hws]; rfl, ?_⟩
    refine ⟨_, rfl, W, ws, 1, p, 2, 5, rfl, SqL.of hW2, by rw [hws]; rfl, by omega, by omega, by omega, by omega, fun H3 s3 => ?_⟩
    refine ⟨_, rfl, _, _, rfl, .inr (T.t_PRIMES _), rfl, rfl, _, rfl, iteN (by rw [inP hp]; decide) ?_⟩
    have s13 := s12.trans s3
    have hW3 := s3 _ _ hW2
    have hB3 := s3 _ _ hB2
    refine ⟨fun m σ H' => ∃ (c5 c6 : Option V) (done rest : List (List (Int × Int))) (xs : List V), σ = [some (.str (panText p bs)), some (.ref W), some (.ref B), some (.int ((2 + (panWords done).length : Nat) : Int)), some (.int p), c5, c6] ∧ Same H H' ∧ H' W = some (.lst (ws.map V.str)) ∧ H' B = some (.lst xs) ∧ Paired (TP K H') xs done ∧ bs = done ++ rest ∧ rest.length = m ∧ ws.drop (2 + (panWords done).length) = panWords rest,
      ⟨bs.length, none, none, [], bs, [], by rw [et]; rfl, s13, hW3, hB3, .nil, rfl, rfl, by rw [hws]; rfl⟩, ?_⟩
    rintro m σ H4 ⟨c5, c6, done, rest, xs, rfl, s4, hW4, hB4, pr, rfl, rfl, hd⟩
    cases rest with
    | nil =>
      have hlen : ws.length ≤ 2 + (panWords done).length := by
        have := congrArg List.length hd
        rw [List.length_drop] at this
        simp [panWords] at this
        omega
      refine ⟨_, rfl, _, rfl, W, _, rfl, .inl (SqL.of hW4), _, _, rfl, rfl, _, rfl, iteN (by rw [List.length_map]; simp; omega) ?_⟩
      refine ⟨_, rfl, by show 0 ≤ sizeLine; decide, fun t nt => ?_⟩
      have s5 := Same.new (o := .lst []) nt
      refine ⟨_, _, .lst (SqL.of (s5 _ _ hB4)) (dpAll_of (fun v d z => dp_P z) (paired_mono (fun _ _ z => z.same s5) pr)), .lst (SqL.of upd_same) .nil, (ok_dPs done).shaped, (ok_dLN (n := 0)).shaped, _, rfl, ?_⟩
      generalize upd H4 t (.lst []) = H5 at s5
      have hne : done ≠ [] := fun e => hP.ne (by rw [e]; rfl)
      have ee : PyData.eqv (.list (done.map dP)) (.list []) = false := by
        cases done with
        | nil => exact absurd rfl hne
        | cons a r => rw [PyData.eqv, List.map_cons, PyData.eqvAll]
      rw [ee]
      refine iteN (by decide) ?_
      rw [List.append_nil] at k
      refine ⟨_, rfl, _, rfl, B, xs, rfl, .inl ⟨SqL.of (s5 _ _ hB4), fun q nq => ?_⟩⟩
      have s6 := Same.new (o := .tup xs) nq
      refine ⟨by show 2 ≤ sizeLine; decide, fun t7 n7 => ?_⟩
      have s7 := Same.new (o := .tup [V.int p, .ref q]) n7
      exact k _ _ (s4.trans (s5.trans (s6.trans s7))) ⟨t7, .ref q, rfl, SqT.of upd_same, q, xs, rfl, Same.tup s7 (SqT.of upd_same), paired_mono (fun _ _ z => z.same (s5.trans (s6.trans s7))) pr⟩
    | cons b rest =>
      have hR := hP.rule b (by simp)
      have hRl := Rule.len hR
      obtain ⟨h1, h2, h3⟩ := drop_cons_get hd
      refine ⟨_, rfl, _, rfl, W, _, rfl, .inl (SqL.of hW4), _, _, rfl, rfl, _, rfl, iteI (by rw [List.length_map]; simp; omega) ?_⟩
      cases b with
      | nil => exact absurd rfl hR.ne
      | cons q qs =>
        have hpb := Rule.pairB hp hR
        have hq := hpb q (List.mem_cons_self ..)
        have hqa := hR.amt q (List.mem_cons_self ..)
        have hqo := hR.off q (List.mem_cons_self ..)
        obtain ⟨a1, a2⟩ := List.pairwise_cons.mp hR.asc
        have h2' : ws.drop (2 + (panWords done).length + 1) = pS q :: (qs.map pS ++ panWords rest) := h2
        obtain ⟨g1, g2, g3⟩ := drop_cons_get h2'
        refine ⟨fun σ H' => ∃ (c5 c6 : Option V) (done' : List (List (Int × Int))) (xs : List V), σ = [some (.str (panText p (done ++ (q :: qs) :: rest))), some (.ref W), some (.ref B), some (.int ((2 + (panWords done').length : Nat) : Int)), some (.int p), c5, c6] ∧ Same H H' ∧ H' W = some (.lst (ws.map V.str)) ∧ H' B = some (.lst xs) ∧ Paired (TP K H') xs done' ∧ done ++ (q :: qs) :: rest = done' ++ rest ∧ ws.drop (2 + (panWords done').length) = panWords rest,
          fun σ' H' ⟨c5, c6, done', xs, g1, g2, g3, g4, g5, g6, g7⟩ => ⟨rest.length, by simp, c5, c6, done', rest, xs, g1, g2, g3, g4, g5, g6, rfl, g7⟩, ?_⟩
        refine ⟨_, rfl, _, rfl, W, ws, 2 + (panWords done).length, "button", rfl, SqL.of hW4, h1, ?_⟩
        refine ⟨_, rfl, _, rfl, _, rfl, _, _, rfl, rfl, _, rfl, p, W, ws, 2 + (panWords done).length + 1, q, -999999999, 999999999, rfl, SqL.of hW4, g1, hq, by omega, by omega, hqa.2, fun v H5 s5 hv => ?_⟩
        have hv0 := hv
        obtain ⟨va, rfl, hvs⟩ := hv
        have hW5 := s5 _ _ hW4
        refine ⟨_, rfl, _, rfl, _, rfl, _, _, rfl, rfl, _, rfl, va, _, _, _, rfl, rfl, hvs, at0, _, _, rfl, rfl, p, W, ws, 2 + (panWords done).length + 2, qs, panWords rest, q.1 + 1, _, rfl, hW5, g2, ?_, ?_, by omega, ⟨a2, fun x hx => ?_⟩, fun t v6 H6 s6 ht hv6 => ?_⟩
        · cases rest with
          | nil => exact .inl rfl
          | cons r rs => exact .inr ⟨_, rfl⟩
        · rw [List.length_cons] at hRl; omega
        · have x1 := hpb x (List.mem_cons_of_mem _ hx)
          have x2 := hR.amt x (List.mem_cons_of_mem _ hx)
          have x3 := hR.off x (List.mem_cons_of_mem _ hx)
          have x4 := a1 x hx
          exact ⟨x1, by omega, by omega, x2.2⟩
        · refine ⟨t, _, rfl, ht, rfl, _, _, rfl, _, _, rfl, rfl, ?_⟩
          have s56 := s5.trans s6
          have hB6 := s56 _ _ hB4
          obtain ⟨pa, px, rfl, hps, pp6⟩ := hv6
          refine ⟨_, rfl, .inl ⟨rfl, _, SqL.of hB6⟩, _, rfl, _, rfl, pa, px, rfl, .inl hps, by have := paired_len pp6; rw [List.length_cons] at hRl; rw [sizeLine_eq]; simp; omega, fun t7 n7 => ?_⟩
          have s7 := Same.new (o := .tup (V.ref va :: (px ++ []))) n7
          have ht7 : upd H6 t7 (.tup (V.ref va :: (px ++ []))) t7 = some (.tup (V.ref va :: (px ++ []))) := upd_same
          have hB7 := s7 _ _ hB6
          have hW7 := s7 _ _ (s56 _ _ hW4)
          generalize upd H6 t7 (.tup (V.ref va :: (px ++ []))) = H7 at s7 ht7 hB7 hW7
          have lxs := paired_len pr
          refine ⟨B, xs, _, rfl, rfl, hB7, by rw [sizeLine_eq]; rw [List.length_append] at l3; omega, ?_⟩
          have k8 : KeepT K H7 (upd H7 B (.lst (xs ++ [.ref t7]))) := keepT_lst hB7
          have k48 := (keepT (K := K) (s56.trans s7)).trans k8
          rw [List.append_nil] at ht7
          refine ⟨some (.ref va), some (.ref pa), done ++ [q :: qs], xs ++ [.ref t7], ?_, Same.put (s4.trans (s56.trans s7)) nB0, ?_, upd_same, paired_app (paired_mono (fun _ _ z => z.keep k48) pr) (.cons ⟨t7, _, rfl, k8 _ _ (SqT.of ht7), .cons ((hv0.same (s6.trans s7)).keep k8) (paired_mono (fun _ _ z => (z.same s7).keep k8) pp6)⟩ .nil), by simp, ?_⟩
          · have e : 2 + (panWords (done ++ [q :: qs])).length = 2 + (panWords done).length + 2 + qs.length := by
              rw [panWords_app]; simp; omega
            rw [e]; rfl
          · rw [upd_ne BW.symm]; exact hW7
          · have e : 2 + (panWords (done ++ [q :: qs])).length = (2 + (panWords done).length + 2) + qs.length := by
              rw [panWords_app]; simp; omega
            rw [e, ← List.drop_drop, show 2 + (panWords done).length + 2 = 2 + (panWords done).length + 1 + 1 by omega, g2, List.drop_append_of_le_length (by simp)]
            simp
end
end EV
end
section
set_option Elab.async false
set_option linter.all false
set_option maxRecDepth 100000
set_option maxHeartbeats 4000000
namespace EV
open PySem PySem.Spec PyProof.Rows L2
open ER (cf Bd Row P3 Rule Pan BRow)
open TL (tl ext_tl tl_append partition_app)
section
variable {P : Program} {w : World} {K : PySem.W.Frag} {mg : Str → Option Value} {base : Heap}
theorem Fr.none {S : List Addr} {H H' : Hp} {b : Addr} (f : Fr S H H') (n : H' b = none) (h : b ∉ S) : H b = none := by
  cases e : H b with
  | none => rfl
  | some o => rw [f _ _ e h] at n; cases n
def BlkO (K : PySem.W.Frag) (H : Hp) (b a q1 q2 : Addr) : Prop := ∃ dx, H b = some (.ins (He.ga K "Block") dx [("board", .ref a), ("kept_past", .ref q1), ("kept_blocks", .ref q2)])
def sp_Block_init (K : PySem.W.Frag) : Sp := fun vs H Q _ => ∃ (b dx a : Addr), vs = [.ref b, .ref a] ∧ H b = some (.ins (He.ga K "Block") dx []) ∧ ∀ q1 q2 H', BlkO K H' b a q1 q2 → Fr [b] H H' → Q .non H'
theorem ok_Block_init (T : TX K mg w)  : C8.Mak P w K mg base 1 "Block" (He.ga K "Block") (sp_Block_init K) [] := by
  refine T.mak (d := d_Block_init) 71 61 rfl rfl (S := sc_Block_init) (fun _ _ _ _ _ _ us hl => match us, hl with | [_, _], _ => rfl) (fun vs H Q E h => ?_) (fun cdv A outer s H vs Q E hr h => ?_) T.mk_Block
  · obtain ⟨b, dx, a, rfl, _⟩ := h; rfl
  · obtain ⟨b, dx, a, rfl, hb, k⟩ := h
    refine ⟨_, (pss_cons (ps_fld (pv 0) (pv 1) rfl)
    (pss_cons (ps_fld (pv 0) (pe_lst pa_nil) rfl)
    (pss_one (ps_fld (pv 0) (pe_lst pa_nil) rfl)))), ?_⟩
    refine ⟨_, rfl, _, rfl, b, _, dx, _, rfl, hb, T.cl_Block, T.na_bboard, by decide, ?_⟩
    have f1 : Fr [b] H (upd H b (.ins (He.ga K "Block") dx [("board", .ref a)])) := Fr.upd (by simp)
    have h1 : upd H b (.ins (He.ga K "Block") dx [("board", .ref a)]) b = some (.ins (He.ga K "Block") dx [("board", .ref a)]) := upd_same
    change tSeq _ _ _ _ (upd H b (.ins (He.ga K "Block") dx [("board", .ref a)]))
    generalize upd H b (.ins (He.ga K "Block") dx [("board", .ref a)]) = H1 at f1 h1
    refine ⟨by show 0 ≤ sizeLine; decide, fun q1 n1 => ⟨_, rfl, b, _, dx, _, rfl, (Same.new n1) _ _ h1, T.cl_Block, T.na_bpast, by show 1 < 1000; decide, ?_⟩⟩
    have s2 := Same.new (o := .lst []) n1
    have h2 := s2 _ _ h1
    have f3 : Fr [b] H (upd (upd H1 q1 (.lst [])) b (.ins (He.ga K "Block") dx (putF "kept_past" (.ref q1) [("board", .ref a)]))) := (f1.trans (Same.fr s2)).trans (Fr.upd (by simp))
    have h3 : upd (upd H1 q1 (.lst [])) b (.ins (He.ga K "Block") dx (putF "kept_past" (.ref q1) [("board", .ref a)])) b = some (.ins (He.ga K "Block") dx [("board", .ref a), ("kept_past", .ref q1)]) := upd_same
    generalize upd (upd H1 q1 (.lst [])) b (.ins (He.ga K "Block") dx (putF "kept_past" (.ref q1) [("board", .ref a)])) = H3 at f3 h3
    refine ⟨by show 0 ≤ sizeLine; decide, fun q2 n2 => ⟨_, rfl, b, _, dx, _, rfl, (Same.new n2) _ _ h3, T.cl_Block, T.na_bblocks, by show 2 < 1000; decide, ?_⟩⟩
    have s4 := Same.new (o := .lst []) n2
    exact k q1 q2 _ ⟨dx, upd_same⟩ ((f3.trans (Same.fr s4)).trans (Fr.upd (by simp)))
def sp_Block_enter (K : PySem.W.Frag) : Sp := fun vs H Q _ => ∃ (b a q1 q2 l kl : Addr) (p : Int) (bs : List (List (Int × Int))) (past : List (List Int)) (ys : List V), vs = [.ref b] ∧ BlkO K H b a q1 q2 ∧ BO K H a l kl p bs past ys ∧ ys.length ≤ 100 ∧ past.length ≤ 1000 ∧
  ∀ kp kb lb xs H', H kp = none → H kb = none → kp ≠ kb → BlkO K H' b a kp kb → H' kp = some (.lst xs) → Paired (TI K H') xs past → H' kb = some (.lst ys) → BO K H' a l kl p bs past (ys ++ [.ref lb]) → Fr [b, a, l, kl] H H' → Q (.ref a) H'
theorem ok_Block_enter (T : TX K mg w) (c_Board_begin : C8.Met P w K mg base 1 (He.ga K "Board") "begin" (sp_Board_begin K) []) : Spm P w K mg base 2 "Block" "__enter__" (sp_Block_enter K) := by
  refine T.spm (d := d_Block_enter) 72 13 rfl rfl (S := sc_Block_enter) (fun _ _ _ _ _ _ us hl => match us, hl with | [_], _ => rfl) (fun vs H Q E h => ?_) (fun cdv A outer s H vs Q E hr h => ?_) T.cl_Block
  · obtain ⟨b, a, q1, q2, l, kl, p, bs, past, ys, rfl, _⟩ := h; rfl
  · obtain ⟨b, a, q1, q2, l, kl, p, bs, past, ys, rfl, ⟨dx, hb⟩, hB, ly, lp, k⟩ := h
    have hB0 := hB
    obtain ⟨dxa, v, xs, h1, h2, h3, h4, h5, h6⟩ := hB
    have ab : a ≠ b := fun e => by rw [e, hb] at h1; injection h1 with h1; injection h1 with _ _ h1; injection h1 with h1; injection h1 with h1; exact absurd h1 (by decide)
    have lb' : l ≠ b := fun e => by rw [e, hb] at h3; cases h3
    have klb : kl ≠ b := fun e => by rw [e, hb] at h5; cases h5
    refine ⟨_, (pss_cons (ps_set (i := 1) sc_Block_enter.nd rfl (by first | exact Or.inl rfl | exact Or.inr rfl) (pe_fld (pv 0) rfl))
    (pss_cons (ps_fld (pv 0) (pe_callTy call_list_of (by rfl) (T.fr 10 rfl) (by decide +kernel) (pa_cons (pe_fld (pv 1) rfl) pa_nil)) rfl)
    (pss_cons (ps_fld (pv 0) (pe_callTy call_list_of (by rfl) (T.fr 10 rfl) (by decide +kernel) (pa_cons (pe_fld (pv 1) rfl) pa_nil)) rfl)
    (pss_cons (ps_expr (C8.pe_mt0 c_Board_begin hr (by decide) (pv 1)))
    (pss_one (ps_ret (pv 1))))))), ?_⟩
    refine ⟨_, rfl, b, _, dx, _, _, rfl, hb, T.cl_Block, T.na_bboard, rfl, ?_⟩
    -- kept_past
    refine ⟨_, rfl, a, _, dxa, _, _, rfl, h1, T.cl_Board, T.na_past, rfl, l, _, rfl, .inl (SqL.of h3), fun kp nkp => ?_⟩
    have s1 := Same.new (o := .lst xs) nkp
    have hkp1 : upd H kp (.lst xs) kp = some (.lst xs) := upd_same
    have bkp : b ≠ kp := fun e => by rw [← e, hb] at nkp; cases nkp
    refine ⟨_, rfl, b, _, dx, _, rfl, s1 _ _ hb, T.cl_Block, T.na_bpast, by show 3 < 1000; decide, ?_⟩
    have f2 : Fr [b] H (upd (upd H kp (.lst xs)) b (.ins (He.ga K "Block") dx (putF "kept_past" (.ref kp) [("board", .ref a), ("kept_past", .ref q1), ("kept_blocks", .ref q2)]))) := (Same.fr s1).trans (Fr.upd (by simp))
    have hb2 : upd (upd H kp (.lst xs)) b (.ins (He.ga K "Block") dx (putF "kept_past" (.ref kp) [("board", .ref a), ("kept_past", .ref q1), ("kept_blocks", .ref q2)])) b = some (.ins (He.ga K "Block") dx [("board", .ref a), ("kept_past", .ref kp), ("kept_blocks", .ref q2)]) := upd_same
    have hkp2 : upd (upd H kp (.lst xs)) b (.ins (He.ga K "Block") dx (putF "kept_past" (.ref kp) [("board", .ref a), ("kept_past", .ref q1), ("kept_blocks", .ref q2)])) kp = some (.lst xs) := by rw [upd_ne bkp.symm]; exact hkp1
    have k2 : KeepT K H (upd (upd H kp (.lst xs)) b (.ins (He.ga K "Block") dx (putF "kept_past" (.ref kp) [("board", .ref a), ("kept_past", .ref q1), ("kept_blocks", .ref q2)]))) := (keepT s1).trans (keepT_ins (s1 _ _ hb))
    generalize upd (upd H kp (.lst xs)) b (.ins (He.ga K "Block") dx (putF "kept_past" (.ref kp) [("board", .ref a), ("kept_past", .ref q1), ("kept_blocks", .ref q2)])) = H2 at f2 hb2 hkp2 k2
    have h12 := f2 _ _ h1 (by simpa using ab)
    have h52 := f2 _ _ h5 (by simpa using klb)
    -- kept_blocks
    refine ⟨_, rfl, a, _, dxa, _, _, rfl, h12, T.cl_Board, T.na_kept, rfl, kl, _, rfl, .inl (SqL.of h52), fun kb nkb => ?_⟩
    have s3 := Same.new (o := .lst ys) nkb
    have hkb3 : upd H2 kb (.lst ys) kb = some (.lst ys) := upd_same
    have bkb : b ≠ kb := fun e => by rw [← e, hb2] at nkb; cases nkb
    have kpb : kp ≠ kb := fun e => by rw [← e, hkp2] at nkb; cases nkb
    have nkb0 : H kb = none := Fr.none f2 nkb (by simpa using bkb.symm)
    refine ⟨_, rfl, b, _, dx, _, rfl, s3 _ _ hb2, T.cl_Block, T.na_bblocks, by show 3 < 1000; decide, ?_⟩
    have f4 : Fr [b] H (upd (upd H2 kb (.lst ys)) b (.ins (He.ga K "Block") dx (putF "kept_blocks" (.ref kb) [("board", .ref a), ("kept_past", .ref kp), ("kept_blocks", .ref q2)]))) := (f2.trans (Same.fr s3)).trans (Fr.upd (by simp))
    have hb4 : upd (upd H2 kb (.lst ys)) b (.ins (He.ga K "Block") dx (putF "kept_blocks" (.ref kb) [("board", .ref a), ("kept_past", .ref kp), ("kept_blocks", .ref q2)])) b = some (.ins (He.ga K "Block") dx [("board", .ref a), ("kept_past", .ref kp), ("kept_blocks", .ref kb)]) := upd_same
    have hkp4 : upd (upd H2 kb (.lst ys)) b (.ins (He.ga K "Block") dx (putF "kept_blocks" (.ref kb) [("board", .ref a), ("kept_past", .ref kp), ("kept_blocks", .ref q2)])) kp = some (.lst xs) := by rw [upd_ne bkp.symm]; exact s3 _ _ hkp2
    have hkb4 : upd (upd H2 kb (.lst ys)) b (.ins (He.ga K "Block") dx (putF "kept_blocks" (.ref kb) [("board", .ref a), ("kept_past", .ref kp), ("kept_blocks", .ref q2)])) kb = some (.lst ys) := by rw [upd_ne bkb.symm]; exact hkb3
    have k4 : KeepT K H (upd (upd H2 kb (.lst ys)) b (.ins (He.ga K "Block") dx (putF "kept_blocks" (.ref kb) [("board", .ref a), ("kept_past", .ref kp), ("kept_blocks", .ref q2)]))) := (k2.trans (keepT s3)).trans (keepT_ins (s3 _ _ hb2))
    generalize upd (upd H2 kb (.lst ys)) b (.ins (He.ga K "Block") dx (putF "kept_blocks" (.ref kb) [("board", .ref a), ("kept_past", .ref kp), ("kept_blocks", .ref q2)])) = H4 at f4 hb4 hkp4 hkb4 k4
    have hB4 : BO K H4 a l kl p bs past ys := hB0.fr f4 k4 (by
      intro c hc
      simp only [List.mem_cons, List.not_mem_nil, or_false] at hc ⊢
      rcases hc with rfl | rfl | rfl
      · exact ab
      · exact lb'
      · exact klb)
    have h14 := f4 _ _ h1 (by simpa using ab)
    refine ⟨_, rfl, a, dxa, _, rfl, h14, rfl, a, l, kl, p, bs, past, ys, rfl, hB4, ly, fun lb H5 nlb f5 hB5 _ _ _ => ?_⟩
    have kpl : kp ≠ l := fun e => by rw [e, h3] at nkp; cases nkp
    have kpk : kp ≠ kl := fun e => by rw [e, h5] at nkp; cases nkp
    have kpa : kp ≠ a := fun e => by rw [e, h1] at nkp; cases nkp
    have kba : kb ≠ a := fun e => by rw [e, h1] at nkb0; cases nkb0
    have kbl : kb ≠ l := fun e => by rw [e, h3] at nkb0; cases nkb0
    have kbk : kb ≠ kl := fun e => by rw [e, h5] at nkb0; cases nkb0
    have k5 : KeepT K H4 H5 := hB4.keepT f5
    refine ⟨_, rfl, k kp kb lb xs H5 nkp nkb0 kpb ⟨dx, f5 _ _ hb4 (by simp [ab.symm, lb'.symm, klb.symm])⟩ (f5 _ _ hkp4 (by simp [kpa, kpl, kpk])) (paired_mono (fun _ _ z => (z.keep k4).keep k5) h4) (f5 _ _ hkb4 (by simp [kba, kbl, kbk])) hB5 ?_⟩
    exact (f4.mono (by intro c hc; simp at hc ⊢; exact .inl hc)).trans (f5.mono (by intro c hc; simp at hc ⊢; exact .inr hc))
def sp_Block_exit (K : PySem.W.Frag) : Sp := fun vs H Q _ => ∃ (b a kp kb l kl : Addr) (p : Int) (bs : List (List (Int × Int))) (past past2 : List (List Int)) (xs ys ys2 : List V), vs = [.ref b, .non, .non, .non] ∧ BlkO K H b a kp kb ∧ BO K H a l kl p bs past2 ys2 ∧ H kp = some (.lst xs) ∧ Paired (TI K H) xs past ∧ H kb = some (.lst ys) ∧ kp ≠ kb ∧
  ∀ H', BO K H' a kp kb p bs past ys → Fr [a] H H' → Q .non H'
theorem ok_Block_exit (T : TX K mg w)  : Spm P w K mg base 1 "Block" "__exit__" (sp_Block_exit K) := by
  refine T.spm (d := d_Block_exit) 73 14 rfl rfl (S := sc_Block_exit) (fun _ _ _ _ _ _ us hl => match us, hl with | [_, _, _, _], _ => rfl) (fun vs H Q E h => ?_) (fun cdv A outer s H vs Q E hr h => ?_) T.cl_Block
  · obtain ⟨b, a, kp, kb, l, kl, p, bs, past, past2, xs, ys, ys2, rfl, _⟩ := h; rfl
  · obtain ⟨b, a, kp, kb, l, kl, p, bs, past, past2, xs, ys, ys2, rfl, ⟨dx, hb⟩, ⟨dxa, v, xs2, h1, h2, h3, h4, h5, h6⟩, hkp, pk, hkb, kpb, k⟩ := h
    have ab : a ≠ b := fun e => by rw [e, hb] at h1; injection h1 with h1; injection h1 with _ _ h1; injection h1 with h1; injection h1 with h1; exact absurd h1 (by decide)
    have akp : kp ≠ a := fun e => by rw [e, h1] at hkp; cases hkp
    have akb : kb ≠ a := fun e => by rw [e, h1] at hkb; cases hkb
    refine ⟨_, (pss_cons (ps_fld (pe_fld (pv 0) rfl) (pe_fld (pv 0) rfl) rfl)
    (pss_one (ps_fld (pe_fld (pv 0) rfl) (pe_fld (pv 0) rfl) rfl))), ?_⟩
    refine ⟨_, rfl, b, _, dx, _, _, rfl, hb, T.cl_Block, T.na_bpast, rfl, ?_⟩
    refine ⟨_, rfl, b, _, dx, _, _, rfl, hb, T.cl_Block, T.na_bboard, rfl, a, _, dxa, _, rfl, h1, T.cl_Board, T.na_past, by show 3 < 1000; decide, ?_⟩
    have f1 : Fr [a] H (upd H a (.ins (He.ga K "Board") dxa (putF "past" (.ref kp) [("whole_panel", v), ("past", .ref l), ("kept", .ref kl)]))) := Fr.upd (by simp)
    have k1 : KeepT K H (upd H a (.ins (He.ga K "Board") dxa (putF "past" (.ref kp) [("whole_panel", v), ("past", .ref l), ("kept", .ref kl)]))) := keepT_ins h1
    have h11 : upd H a (.ins (He.ga K "Board") dxa (putF "past" (.ref kp) [("whole_panel", v), ("past", .ref l), ("kept", .ref kl)])) a = some (.ins (He.ga K "Board") dxa [("whole_panel", v), ("past", .ref kp), ("kept", .ref kl)]) := upd_same
    generalize upd H a (.ins (He.ga K "Board") dxa (putF "past" (.ref kp) [("whole_panel", v), ("past", .ref l), ("kept", .ref kl)])) = H1 at f1 k1 h11
    have hb1 := f1 _ _ hb (by simpa using ab.symm)
    refine ⟨_, rfl, b, _, dx, _, _, rfl, hb1, T.cl_Block, T.na_bblocks, rfl, ?_⟩
    refine ⟨_, rfl, b, _, dx, _, _, rfl, hb1, T.cl_Block, T.na_bboard, rfl, a, _, dxa, _, rfl, h11, T.cl_Board, T.na_kept, by show 3 < 1000; decide, ?_⟩
    have f2 : Fr [a] H1 (upd H1 a (.ins (He.ga K "Board") dxa (putF "kept" (.ref kb) [("whole_panel", v), ("past", .ref kp), ("kept", .ref kl)]))) := Fr.upd (by simp)
    have k2 : KeepT K H1 (upd H1 a (.ins (He.ga K "Board") dxa (putF "kept" (.ref kb) [("whole_panel", v), ("past", .ref kp), ("kept", .ref kl)]))) := keepT_ins h11
    have h12 : upd H1 a (.ins (He.ga K "Board") dxa (putF "kept" (.ref kb) [("whole_panel", v), ("past", .ref kp), ("kept", .ref kl)])) a = some (.ins (He.ga K "Board") dxa [("whole_panel", v), ("past", .ref kp), ("kept", .ref kb)]) := upd_same
    have f12 := f1.trans f2
    have k12 := k1.trans k2
    exact k _ ⟨dxa, v, xs, h12, h2.keep k12, f12 _ _ hkp (by simpa using akp), paired_mono (fun _ _ z => z.keep k12) pk, f12 _ _ hkb (by simpa using akb), kpb⟩ f12
/-- a console -/
def CO (K : PySem.W.Frag) (H : Hp) (c a l kl : Addr) (p : Int) (bs : List (List (Int × Int))) (past : List (List Int)) (ys : List V) : Prop := (∃ dx, H c = some (.ins (He.ga K "Console") dx [("board", .ref a)])) ∧ BO K H a l kl p bs past ys
def sp_Console_init (K : PySem.W.Frag) : Sp := fun vs H Q _ => ∃ (c dx : Addr) (v : V) (p : Int) (bs : List (List (Int × Int))) (n : Nat), vs = [.ref c, v, .int (n : Int)] ∧ H c = some (.ins (He.ga K "Console") dx []) ∧ TPan K H v p bs ∧ Pan p bs ∧ 1 ≤ n ∧ n ≤ 100 ∧
  ∀ a l kl H', H a = none → H l = none → H kl = none → CO K H' c a l kl p bs [ER.coloursF n []] [] → Fr [c] H H' → Q .non H'
theorem ok_Console_init (T : TX K mg w) (c_Board_init : C8.Mak P w K mg base 7 "Board" (He.ga K "Board") (sp_Board_init K) [.ref (dfl0 K "Board" "__init__")]) : C8.Mak P w K mg base 9 "Console" (He.ga K "Console") (sp_Console_init K) [] := by
  refine T.mak (d := d_Console_init) 74 62 rfl rfl (S := sc_Console_init) (fun _ _ _ _ _ _ us hl => match us, hl with | [_, _, _], _ => rfl) (fun vs H Q E h => ?_) (fun cdv A outer s H vs Q E hr h => ?_) T.mk_Console
  · obtain ⟨c, dx, v, p, bs, n, rfl, _⟩ := h; rfl
  · obtain ⟨c, dx, v, p, bs, n, rfl, hc, hv, hP, n1, ln, k⟩ := h
    refine ⟨_, (pss_one (ps_fld (pv 0) (C8.pe_mk c_Board_init hr (by decide) (by rfl) (pa_cons (pv 1) (pa_cons (pv 2) pa_nil))) rfl)), ?_⟩
    refine ⟨_, rfl, _, rfl, fun x dd nx nd ne => ?_⟩
    have s1 : Same H (upd (upd H dd (.own x)) x (.ins (He.ga K "Board") dd [])) := (Same.new nd).trans (Same.new (by rw [upd_ne ne.symm]; exact nx))
    have hx1 : upd (upd H dd (.own x)) x (.ins (He.ga K "Board") dd []) x = some (.ins (He.ga K "Board") dd []) := upd_same
    generalize upd (upd H dd (.own x)) x (.ins (He.ga K "Board") dd []) = H1 at s1 hx1
    have cx : c ≠ x := fun e => by rw [e, nx] at hc; cases hc
    refine ⟨x, dd, v, .ref (dfl0 K "Board" "__init__"), p, bs, n, [], rfl, hx1, hv.same s1, hP, n1, ln, ⟨_, [], rfl, T.t_dfl _, .nil⟩, ⟨.nil, (fun _ h => by cases h), (fun _ h => by cases h)⟩, fun l kl H2 nl nkl hB f2 => ⟨rfl, ?_⟩⟩
    have hc2 := f2 _ _ (s1 _ _ hc) (by simpa using cx)
    refine ⟨_, rfl, c, _, dx, _, rfl, hc2, T.cl_Console, T.na_cboard, by decide, ?_⟩
    have nl0 := s1.free nl
    have nkl0 := s1.free nkl
    have f3 : Fr [c] H2 (upd H2 c (.ins (He.ga K "Console") dx (putF "board" (.ref x) []))) := Fr.upd (by simp)
    have k3 : KeepT K H2 (upd H2 c (.ins (He.ga K "Console") dx (putF "board" (.ref x) []))) := keepT_ins hc2
    have lc : l ≠ c := fun e => by rw [e, hc] at nl0; cases nl0
    have klc : kl ≠ c := fun e => by rw [e, hc] at nkl0; cases nkl0
    refine k x l kl _ nx nl0 nkl0 ⟨⟨dx, upd_same⟩, hB.fr f3 k3 (by
      intro y hy
      simp only [List.mem_cons, List.not_mem_nil, or_false] at hy ⊢
      rcases hy with rfl | rfl | rfl
      · exact cx.symm
      · exact lc
      · exact klc)⟩ (fun y o hy hn => f3 _ _ (f2 _ _ (s1 _ _ hy) (fun z => ?_)) hn)
    have : y = x := by simpa using z
    rw [this, nx] at hy
    cases hy
end
end EV
end
section
set_option Elab.async false
set_option linter.all false
set_option maxRecDepth 100000
set_option maxHeartbeats 4000000
namespace EV
open PySem PySem.Spec PyProof.Rows L2
open ER (cf Bd Row P3 Rule Pan BRow)
open TL (tl ext_tl tl_append partition_app)
/-! ### commands -/
inductive Cmd where
  | press (i x : Nat) (t : Option Nat)
  | turn (i : Nat)
  | setc (x : Nat) (c : Int)
  | undo
  | atc (k : Nat)
  | picture
  | clear
  | tryc (i x : Nat) (c : Cmd)
namespace Cmd
def nest : Cmd → Nat
  | .tryc _ _ c => c.nest + 1
  | _ => 0
def hd : Cmd → Str
  | .press .. => "press"
  | .turn .. => "turn"
  | .setc .. => "set"
  | .undo => "undo"
  | .atc .. => "at"
  | .picture => "picture"
  | .clear => "clear"
  | .tryc .. => "try"
def nums : Cmd → List Int
  | .press i x none => [(i : Int), (x : Int)]
  | .press i x (some t) => [(i : Int), (x : Int), (t : Int)]
  | .turn i => [(i : Int)]
  | .setc x c => [(x : Int), c]
  | .atc k => [(k : Int)]
  | .tryc i x _ => [(i : Int), (x : Int)]
  | _ => []
def tail : Cmd → List Str
  | .tryc _ _ c => c.hd :: c.nums.map nS ++ c.tail
  | _ => []
def words (c : Cmd) : List Str := c.hd :: c.nums.map nS ++ c.tail
def text (c : Cmd) : Str := Txt.join " " c.words
def isTry : Cmd → Bool
  | .tryc .. => true
  | _ => false
def isUndo : Cmd → Bool
  | .undo => true
  | _ => false
def plain : Cmd → Bool
  | .undo => false
  | .setc .. => false
  | _ => true
def Ok (m n : Nat) : Cmd → Prop
  | .press i x t => i < m ∧ x < n ∧ ∀ k, t = some k → k ≤ 6
  | .turn i => i < m
  | .setc x c => x < n ∧ 0 ≤ c ∧ c < 5
  | .atc k => k < n
  | .tryc i x c => i < m ∧ x < n ∧ c.Ok m n ∧ c.plain = true
  | _ => True
theorem nums_ok {m n : Nat} (hm : m ≤ 3) (hn : n ≤ 16) {c : Cmd} (h : c.Ok m n) : (∀ i ∈ c.nums, -4 ≤ i ∧ i ≤ 16) ∧ c.nums.length ≤ 3 := by
  cases c with
  | press i x t =>
    obtain ⟨h1, h2, h3⟩ := h
    cases t with
    | none => exact ⟨fun j hj => by simp [nums] at hj; omega, by simp [nums]⟩
    | some k =>
      have := h3 k rfl
      exact ⟨fun j hj => by simp [nums] at hj; omega, by simp [nums]⟩
  | turn i => exact ⟨fun j hj => by have h' : i < m := h; simp [nums] at hj; omega, by simp [nums]⟩
  | setc x c => obtain ⟨h1, h2, h3⟩ := h; exact ⟨fun j hj => by simp [nums] at hj; omega, by simp [nums]⟩
  | undo => exact ⟨fun j hj => by simp [nums] at hj, by simp [nums]⟩
  | atc k => exact ⟨fun j hj => by have h' : k < n := h; simp [nums] at hj; omega, by simp [nums]⟩
  | picture => exact ⟨fun j hj => by simp [nums] at hj, by simp [nums]⟩
  | clear => exact ⟨fun j hj => by simp [nums] at hj, by simp [nums]⟩
  | tryc i x c => obtain ⟨h1, h2, h3⟩ := h; exact ⟨fun j hj => by simp [nums] at hj; omega, by simp [nums]⟩
theorem hd_ok (c : Cmd) : 32 ∉ tl c.hd ∧ c.hd.length ≤ 9 := by cases c <;> (dsimp only [hd]; decide +kernel)
theorem words_ok {m n : Nat} (hm : m ≤ 3) (hn : n ≤ 16) : ∀ {c : Cmd}, c.Ok m n → (∀ w ∈ c.words, 32 ∉ tl w ∧ w.length ≤ 9) ∧ c.words.length ≤ 4 + 4 * c.nest := by
  have base : ∀ c : Cmd, c.Ok m n → (∀ w ∈ c.hd :: c.nums.map nS, 32 ∉ tl w ∧ w.length ≤ 9) ∧ (c.hd :: c.nums.map nS).length ≤ 4 := fun c h => by
    obtain ⟨h1, h2⟩ := nums_ok hm hn h
    refine ⟨fun w hw => ?_, by rw [List.length_cons, List.length_map]; omega⟩
    rcases List.mem_cons.mp hw with rfl | hw
    · exact hd_ok c
    · obtain ⟨i, hi, rfl⟩ := List.mem_map.mp hw
      have b := h1 i hi
      have N := num_of b.1 b.2
      exact ⟨N.sp, by have := N.len; omega⟩
  intro c
  induction c with
  | tryc i x c ih =>
    intro h
    have b := base (.tryc i x c) h
    have q := ih h.2.2.1
    refine ⟨fun w hw => ?_, ?_⟩
    · rcases List.mem_append.mp hw with hw | hw
      · exact b.1 w hw
      · exact q.1 w hw
    · show ((_ :: _) ++ c.words).length ≤ _
      rw [List.length_append]
      have := b.2
      have := q.2
      show _ ≤ 4 + 4 * (c.nest + 1)
      omega
  | press i x t => intro h; have b := base _ h; unfold words tail; rw [List.append_nil]; exact ⟨b.1, Nat.le_trans b.2 (Nat.le_add_right _ _)⟩
  | turn i => intro h; have b := base _ h; unfold words tail; rw [List.append_nil]; exact ⟨b.1, Nat.le_trans b.2 (Nat.le_add_right _ _)⟩
  | setc x c => intro h; have b := base _ h; unfold words tail; rw [List.append_nil]; exact ⟨b.1, Nat.le_trans b.2 (Nat.le_add_right _ _)⟩
  | undo => intro h; have b := base _ h; unfold words tail; rw [List.append_nil]; exact ⟨b.1, Nat.le_trans b.2 (Nat.le_add_right _ _)⟩
  | atc k => intro h; have b := base _ h; unfold words tail; rw [List.append_nil]; exact ⟨b.1, Nat.le_trans b.2 (Nat.le_add_right _ _)⟩
  | picture => intro h; have b := base _ h; unfold words tail; rw [List.append_nil]; exact ⟨b.1, Nat.le_trans b.2 (Nat.le_add_right _ _)⟩
  | clear => intro h; have b := base _ h; unfold words tail; rw [List.append_nil]; exact ⟨b.1, Nat.le_trans b.2 (Nat.le_add_right _ _)⟩
theorem tail_nil {c : Cmd} (h : c.isTry = false) : c.words = c.hd :: c.nums.map nS := by
  cases c <;> first | (unfold words tail; rw [List.append_nil]) | cases h
end Cmd
section
variable {P : Program} {w : World} {K : PySem.W.Frag} {mg : Str → Option Value} {base : Heap}
theorem inV_non (ns : List Int) : inV .non (ns.map V.int) = false := by
  unfold inV
  rw [List.any_eq_false]
  intro x hx
  obtain ⟨i, _, rfl⟩ := List.mem_map.mp hx
  simp [eqV]
theorem inV_mem {k : Int} {ns : List Int} (h : k ∈ ns) : inV (.int k) (ns.map V.int) = true := by
  unfold inV
  rw [List.any_eq_true]
  exact ⟨_, List.mem_map.mpr ⟨k, h, rfl⟩, by simp [eqV]⟩
theorem flat_ints (ns : List Int) : (ns.map V.int).all flatV = true := by
  rw [List.all_eq_true]
  intro x hx
  obtain ⟨i, _, rfl⟩ := List.mem_map.mp hx
  rfl
theorem cutN {xs : List V} {a : Nat} (h : a ≤ xs.length) : cutV xs (some (a : Int)) none = xs.drop a := by
  unfold cutV
  rw [HT.sIx_none, HT.sIx_nat, Nat.min_eq_left h]
  exact List.take_of_length_le (by rw [List.length_drop]; exact Nat.le_refl _)
theorem cutNN {xs : List V} {a b : Nat} (h : b ≤ xs.length) (h2 : a ≤ xs.length) : cutV xs (some (a : Int)) (some (b : Int)) = (xs.drop a).take (b - a) := by
  unfold cutV
  rw [HT.sIx_nat, HT.sIx_nat, Nat.min_eq_left h, Nat.min_eq_left h2]
def sp_are_numbers (K : PySem.W.Frag) : Sp := fun vs H Q _ => ∃ (a : Addr) (ns : List Int), vs = [.ref a] ∧ H a = some (.lst ((ns.map nS).map V.str)) ∧ ns.length ≤ 100 ∧ (∀ i ∈ ns, -4 ≤ i ∧ i ≤ 16) ∧ ∀ H', Same H H' → Q (.bl true) H'
theorem ok_are_numbers (T : TX K mg w) (c_whole_of : C8.Cal P w K mg base 1 "whole_of" (sp_whole_of K) []) : C8.Cal P w K mg base 2 "are_numbers" (sp_are_numbers K) [] := by
  refine T.cal (d := d_are_numbers) 69 49 rfl rfl (S := sc_are_numbers) (fun _ _ _ _ _ _ us hl => match us, hl with | [_], _ => rfl) (fun vs H Q E h => ?_) (fun cdv A outer s H vs Q E hr h => ?_)
  · obtain ⟨a, ns, rfl, _⟩ := h; rfl
  · obtain ⟨a, ns, rfl, ha, hl, hb, k⟩ := h
    refine ⟨_, (pss_one (ps_ret (pe_cmpR op_notIn_seq pe_non (pe_lc (own := [("word", 1)]) (g := (gName 1)) rfl sc_are_numbers.nd (pi_list (pv 0)) (blkOk_by (own := [("word", 1)]) (N := n_are_numbers) (sc := defScope s_are_numbers) (by decide +kernel)) (fun _ _ _ _ _ => (pg_name (i := 1) sc_are_numbers.nd rfl (by first | exact Or.inl rfl | exact Or.inr rfl))) (fun _ _ _ _ _ => pts_nil) (fun _ _ _ _ _ => (C8.pe_c c_whole_of hr (by decide) (by rfl) (pa_cons (pv 1) pa_nil)))) (by rfl)))), ?_⟩
    refine ⟨_, rfl, a, rfl, ⟨_, SqL.of ha⟩, fun D nD => ?_⟩
    refine lc_int walk_list (fun H' s => SqL.of (s _ _ ha)) (fun _ => true) (fun i => .int (ns.getD i 0)) (by rw [sizeLine_eq]; simp; omega) nD ?_ ?_
    · rintro i x H1 H2 post postN hi s1 ⟨rfl, hxi⟩ k1 k2
      rw [List.getElem?_map, List.getElem?_map] at hxi
      cases e : ns[i]? with
      | none => rw [e] at hxi; cases hxi
      | some j =>
        rw [e] at hxi
        obtain rfl := Option.some.inj hxi
        have hj := hb j (List.mem_of_getElem? e)
        have ej : ns.getD i 0 = j := by rw [List.getD_eq_getElem?_getD, e]; rfl
        exact ⟨rfl, _, rfl, j, rfl, hj.1, hj.2, fun H3 s3 => by have := k1 _ s3 rfl; rw [ej] at this; exact this⟩
    · intro H1 s1 hD
      have eD : (((List.range ((ns.map nS).map V.str).length).filter fun _ => true).map fun i => V.int (ns.getD i 0)) = ns.map V.int := by
        rw [List.length_map, List.length_map]
        exact all_range ns _ _ fun i hi => by rw [List.getD_eq_getElem?_getD, List.getElem?_eq_getElem hi]; rfl
      rw [eD] at hD
      refine ⟨D, _, rfl, .inl (SqL.of hD), rfl, flat_ints ns, ?_⟩
      rw [inV_non]
      exact k _ s1
def isNum : Cmd → Bool
  | .press .. => true
  | .turn .. => true
  | .setc .. => true
  | .undo => true
  | .atc .. => true
  | _ => false
theorem num_facts (T : TX K mg w) {c : Cmd} (h : isNum c = true) : ∃ (t : Addr) (ns : List Int), PySem.W.nsIn K (He.ga K "NUMBERS") c.hd = some (some (.ref t)) ∧ (∀ H, SqT K H t (ns.map V.int)) ∧ (c.nums.length : Int) ∈ ns := by
  cases c with
  | press i x t =>
    obtain ⟨a, h1, h2⟩ := T.n_has ("press", [2, 3]) (by simp)
    exact ⟨a, _, h1, h2, by cases t <;> simp [Cmd.nums]⟩
  | turn i =>
    obtain ⟨a, h1, h2⟩ := T.n_has ("turn", [1]) (by simp)
    exact ⟨a, _, h1, h2, by simp [Cmd.nums]⟩
  | setc x c =>
    obtain ⟨a, h1, h2⟩ := T.n_has ("set", [2]) (by simp)
    exact ⟨a, _, h1, h2, by simp [Cmd.nums]⟩
  | undo =>
    obtain ⟨a, h1, h2⟩ := T.n_has ("undo", [0]) (by simp)
    exact ⟨a, _, h1, h2, by simp [Cmd.nums]⟩
  | atc k =>
    obtain ⟨a, h1, h2⟩ := T.n_has ("at", [1]) (by simp)
    exact ⟨a, _, h1, h2, by simp [Cmd.nums]⟩
  | picture => cases h
  | clear => cases h
  | tryc i x c => cases h
theorem num_not (T : TX K mg w) {c : Cmd} (h : isNum c = false) : PySem.W.nsIn K (He.ga K "NUMBERS") c.hd = some none := by
  cases c with
  | picture => exact T.n_not _ (by simp [Cmd.hd])
  | clear => exact T.n_not _ (by simp [Cmd.hd])
  | tryc i x c => exact T.n_not _ (by simp [Cmd.hd])
  | press i x t => cases h
  | turn i => cases h
  | setc x c => cases h
  | undo => cases h
  | atc k => cases h
theorem hd_ask (c : Cmd) : inV (.str c.hd) [.str "reach", .str "same"] = false := by cases c <;> (dsimp only [Cmd.hd]; decide +kernel)
theorem words0 (c : Cmd) : c.words[0]? = some c.hd := rfl
theorem num_try {c : Cmd} (h : isNum c = true) : c.isTry = false := by cases c <;> first | rfl | cases h
theorem text_len {m n : Nat} (hm : m ≤ 3) (hn : n ≤ 16) {c : Cmd} (h : c.Ok m n) (hd : c.nest ≤ 8) : c.text.length ≤ 400 := by
  have q := Cmd.words_ok hm hn h
  have := join_bound c.words 9 fun x hx => (q.1 x hx).2
  have l := q.2
  unfold Cmd.text
  omega
theorem text_split {m n : Nat} (hm : m ≤ 3) (hn : n ≤ 16) {c : Cmd} (h : c.Ok m n) : Txt.split c.text " " = c.words := split_back (by unfold Cmd.words; simp) fun x hx => ((Cmd.words_ok hm hn h).1 x hx).1
theorem text_bound {m n : Nat} (hm : m ≤ 3) (hn : n ≤ 16) {c : Cmd} (h : c.Ok m n) (hd : c.nest ≤ 8) : (c.words.map (·.length)).sum + c.words.length * (" " : Str).length ≤ 16777216 := by
  have q := Cmd.words_ok hm hn h
  have := join_len_le c.words 9 fun x hx => (q.1 x hx).2
  have l := q.2
  show _ + c.words.length * 1 ≤ _
  omega
def sp_is_known0 (K : PySem.W.Frag) (d : Nat) : Sp := fun vs H Q _ => ∃ (c : Cmd) (j m n : Nat), vs = [.str c.text, .int (j : Int)] ∧ c.nest < d ∧ c.nest ≤ j ∧ c.nest ≤ 8 ∧ m ≤ 3 ∧ n ≤ 16 ∧ c.Ok m n ∧ ∀ H', Same H H' → Q (.bl true) H'
theorem ok_is_known0 (T : TX K mg w) (c_are_numbers : C8.Cal P w K mg base 2 "are_numbers" (sp_are_numbers K) []) : ∀ d : Nat, C8.Cal P w K mg base (3 + d) "is_known" (sp_is_known0 K d) []
  | 0 => T.cal (d := d_is_known) (N := n_is_known) (k := 2) 70 50 rfl rfl (S := sc_is_known) (fun _ _ _ _ _ _ us hl => match us, hl with | [_, _], _ => rfl) (fun vs H Q E h => by obtain ⟨c, j, m, n, _, h, _⟩ := h; omega) (fun cdv A outer s H vs Q E hr h => by obtain ⟨c, j, m, n, _, h, _⟩ := h; omega)
  | d + 1 => by
    have c_is_known := ok_is_known0 T c_are_numbers d
    refine T.cal (d := d_is_known) (k := 3 + d) 70 50 rfl rfl (S := sc_is_known) (fun _ _ _ _ _ _ us hl => match us, hl with | [_, _], _ => rfl) (fun vs H Q E h => ?_) (fun cdv A outer s H vs Q E hr h => ?_)
    · obtain ⟨c, j, m, n, rfl, _⟩ := h; rfl
    · obtain ⟨c, j, m, n, rfl, hd, hj, h8, hm, hn, ho, k⟩ := h
      have wl := (Cmd.words_ok hm hn ho).2
      have tl := text_len hm hn ho h8
      refine ⟨_, (pss_cons (ps_set (i := 2) sc_is_known.nd rfl (by first | exact Or.inl rfl | exact Or.inr rfl) (pe_split (pv 0) pe_str))
    (pss_cons (ps_if (pt_cmpR op_in_seq (pe_ix ix_list (pv 2) pe_int (fun _ _ => rfl)) (pe_tup (pa_cons pe_str (pa_cons pe_str pa_nil))) (by rfl)) (pss_one (ps_ret (pe_cmpR op_gt (pe_callB call_len_seq (by rfl) (T.fr 4 rfl) (by decide +kernel) (pa_cons (pv 2) pa_nil)) pe_int (nomark _)))) pss_nil)
    (pss_cons (ps_if (pt_cmpR (op_in_kdE T.k_NUMBERS) (pe_ix ix_list (pv 2) pe_int (fun _ _ => rfl)) (C8.pe_gc rfl T.g_NUMBERS) (by rfl)) (pss_one (ps_ret (pe_and (pe_cmpR op_in_seq (pe_op op_sub (pe_callB call_len_seq (by rfl) (T.fr 4 rfl) (by decide +kernel) (pa_cons (pv 2) pa_nil)) pe_int) (pe_ix ix_kdict (C8.pe_gc rfl T.g_NUMBERS) (pe_ix ix_list (pv 2) pe_int (fun _ _ => rfl)) (fun _ _ => rfl)) (by rfl)) (pe_one (C8.pe_c c_are_numbers hr (by omega) (by rfl) (pa_cons (pe_slice sl_list (pv 2) (po_some pe_int) po_none) pa_nil)))))) pss_nil)
    (pss_cons (ps_if (pt_cmpR op_ne (pe_ix ix_list (pv 2) pe_int (fun _ _ => rfl)) pe_str (nomark _)) (pss_one (ps_ret (pe_cmpR op_in_seq (pv 0) (C8.pe_gc rfl T.g_PLAIN_COMMANDS) (by rfl)))) pss_nil)
    (pss_cons (ps_if (PW.pt (pw_or (pt_cmpR op_eq (pv 1) pe_int (nomark _)) (pw_or1 (pt_cmpR op_lt (pe_callB call_len_seq (by rfl) (T.fr 4 rfl) (by decide +kernel) (pa_cons (pv 2) pa_nil)) pe_int (nomark _))))) (pss_one (ps_ret pe_bl)) pss_nil)
    (pss_cons (ps_if (pt_cmpR op_eq (pe_ix ix_list (pv 2) pe_int (fun _ _ => rfl)) pe_str (nomark _)) (pss_one (ps_ret (C8.pe_c c_is_known hr (by omega) (by rfl) (pa_cons (pe_join pe_str (pe_slice sl_list (pv 2) (po_some pe_int) po_none)) (pa_cons (pe_op op_sub (pv 1) pe_int) pa_nil))))) pss_nil)
    (pss_one (ps_ret (pe_and (pe_cmpR op_gt (pe_callB call_len_seq (by rfl) (T.fr 4 rfl) (by decide +kernel) (pa_cons (pv 2) pa_nil)) pe_int (nomark _)) (pe_and (C8.pe_c c_are_numbers hr (by omega) (by rfl) (pa_cons (pe_slice sl_list (pv 2) (po_some pe_int) (po_some pe_int)) pa_nil)) (pe_one (C8.pe_c c_is_known hr (by omega) (by rfl) (pa_cons (pe_join pe_str (pe_slice sl_list (pv 2) (po_some pe_int) po_none)) (pa_cons (pe_op op_sub (pv 1) pe_int) pa_nil)))))))))))))), ?_⟩
      refine ⟨_, rfl, ⟨_, rfl⟩, _, _, rfl, rfl, rfl, by rw [sizeLine_eq]; omega, fun W nW => ?_⟩
      rw [text_split hm hn ho]
      have s1 := Same.new (o := .lst (c.words.map V.str)) nW
      have hW : upd H W (.lst (c.words.map V.str)) W = some (.lst (c.words.map V.str)) := upd_same
      generalize upd H W (.lst (c.words.map V.str)) = H1 at s1 hW
      refine ⟨_, rfl, W, _, _, _, rfl, rfl, SqL.of hW, at_str (i := 0) (words0 c), by show 2 ≤ sizeLine; decide, fun t nt => ?_⟩
      have s2 := Same.new (o := .tup [.str ("reach" : Str), .str ("same" : Str)]) nt
      refine ⟨t, _, rfl, .inr (SqT.of upd_same), rfl, rfl, _, rfl, iteN (by rw [hd_ask]; decide) ?_⟩
      generalize upd H1 t (.tup [.str ("reach" : Str), .str ("same" : Str)]) = H2 at s2
      have hW2 := s2 _ _ hW
      have s12 := s1.trans s2
      cases hnum : isNum c with
      | true =>
        obtain ⟨ta, ns, e1, e2, e3⟩ := num_facts T hnum
        refine ⟨_, rfl, W, _, _, _, rfl, rfl, SqL.of hW2, at_str (i := 0) (words0 c), _, _, rfl, rfl, e1, _, rfl, iteI rfl ?_⟩
        have hw := Cmd.tail_nil (num_try hnum)
        have elen : (((c.words.map V.str).length : Nat) : Int) - 1 = (c.nums.length : Int) := by rw [hw]; simp
        have hin : inV (.int ((((c.words.map V.str).length : Nat) : Int) - 1)) (ns.map V.int) = true := by rw [elen]; exact inV_mem e3
        obtain ⟨es, nn, D⟩ := T.k_NUMBERS
        refine ⟨_, rfl, W, _, rfl, .inl (SqL.of hW2), _, _, rfl, rfl, _, rfl, W, _, _, _, rfl, rfl, SqL.of hW2, at_str (i := 0) (words0 c), _, _, .ref ta, rfl, rfl, ⟨es, nn, .ref ta, D.at_, D.lit, e1, rfl⟩, ta, _, rfl, .inr (e2 _), rfl, flat_ints ns, _, rfl, iteI (by simpa using hin) ?_⟩
        refine ⟨_, rfl, _, rfl, ?_⟩
        dsimp only [tNoPart]
        refine ⟨W, _, rfl, SqL.of hW2, fun q nq => ?_⟩
        have ec : cutV (c.words.map V.str) (some (1 : Int)) none = (c.nums.map nS).map V.str := by rw [cut_from1, hw]; rfl
        rw [ec]
        obtain ⟨b1, b2⟩ := Cmd.nums_ok hm hn ho
        have s3 := Same.new (o := .lst ((c.nums.map nS).map V.str)) nq
        exact ⟨q, c.nums, rfl, upd_same, by omega, b1, fun H4 s4 => k _ (s12.trans (s3.trans s4))⟩
      | false =>
        refine ⟨_, rfl, W, _, _, _, rfl, rfl, SqL.of hW2, at_str (i := 0) (words0 c), _, _, rfl, rfl, num_not T hnum, _, rfl, iteN (by decide) ?_⟩
        cases c with
        | press i x t => cases hnum
        | turn i => cases hnum
        | setc x c => cases hnum
        | undo => cases hnum
        | atc k => cases hnum
        | picture =>
          refine ⟨_, rfl, W, _, _, _, rfl, rfl, SqL.of hW2, at_str (i := 0) (words0 _), rfl, _, rfl, iteI (by decide +kernel) ?_⟩
          refine ⟨_, rfl, _, _, rfl, .inr (T.t_PLAIN_COMMANDS _), rfl, rfl, ?_⟩
          have e : inV (.str (Cmd.text .picture)) [.str "picture", .str "clear", .str "marks"] = true := by decide +kernel
          have := k _ s12
          rw [← e] at this
          exact this
        | clear =>
          refine ⟨_, rfl, W, _, _, _, rfl, rfl, SqL.of hW2, at_str (i := 0) (words0 _), rfl, _, rfl, iteI (by decide +kernel) ?_⟩
          refine ⟨_, rfl, _, _, rfl, .inr (T.t_PLAIN_COMMANDS _), rfl, rfl, ?_⟩
          have e : inV (.str (Cmd.text .clear)) [.str "picture", .str "clear", .str "marks"] = true := by decide +kernel
          have := k _ s12
          rw [← e] at this
          exact this
        | tryc i x c =>
          have hj' : c.nest + 1 ≤ j := hj
          have hd' : c.nest + 1 < d + 1 := hd
          have h8' : c.nest + 1 ≤ 8 := h8
          have wlen : 3 < ((Cmd.tryc i x c).words.map V.str).length := by
            rw [List.length_map]; show 3 < ((_ :: _ :: _ :: []) ++ c.words).length; simp [Cmd.words]; 
          obtain ⟨o1, o2, o3, o4⟩ := ho
          have N1 := num_of (i := (i : Int)) (by omega) (by omega)
          refine ⟨_, rfl, W, _, _, _, rfl, rfl, SqL.of hW2, at_str (i := 0) (words0 _), rfl, _, rfl, iteN (by simp [Cmd.hd]) ?_⟩
          refine ⟨_, rfl, rfl, _, rfl, iteN (eqF (by omega)) ?_⟩
          refine ⟨_, rfl, W, _, rfl, .inl (SqL.of hW2), _, _, rfl, rfl, _, rfl, iteN (by simp only [decide_eq_true_eq]; omega) ?_⟩
          refine ⟨_, rfl, W, _, _, _, rfl, rfl, SqL.of hW2, at_str (i := 1) rfl, rfl, _, rfl, iteN (by simpa using N1.nm) ?_⟩
          refine ⟨_, rfl, W, _, rfl, .inl (SqL.of hW2), _, _, rfl, rfl, _, rfl, iteI (by simp only [decide_eq_true_eq]; omega) ?_⟩
          refine ⟨_, rfl, _, rfl, _, rfl, W, _, rfl, SqL.of hW2, fun q nq => ?_⟩
          have ec : cutV ((Cmd.tryc i x c).words.map V.str) (some (1 : Int)) (some (3 : Int)) = (([(i : Int), (x : Int)] : List Int).map nS).map V.str := by
            rw [show (1 : Int) = ((1 : Nat) : Int) from rfl, show (3 : Int) = ((3 : Nat) : Int) from rfl, cutNN (by omega) (by omega)]
            rfl
          rw [ec]
          have s3 := Same.new (o := .lst ((([(i : Int), (x : Int)] : List Int).map nS).map V.str)) nq
          refine ⟨q, _, rfl, upd_same, by simp, fun y hy => by simp at hy; omega, fun H4 s4 => ⟨_, rfl, iteI rfl ?_⟩⟩
          have hW4 := (s3.trans s4) _ _ hW2
          refine ⟨⟨_, rfl⟩, _, rfl, _, rfl, ?_⟩
          dsimp only [tNoPart]
          refine ⟨W, _, rfl, SqL.of hW4, fun q5 n5 => ?_⟩
          have ec2 : cutV ((Cmd.tryc i x c).words.map V.str) (some (3 : Int)) none = c.words.map V.str := by
            rw [show (3 : Int) = ((3 : Nat) : Int) from rfl, cutN (by omega)]
            rfl
          rw [ec2]
          have s5 := Same.new (o := .lst (c.words.map V.str)) n5
          refine ⟨_, q5, _, rfl, rfl, .inl (SqL.of upd_same), text_bound hm hn o3 (by omega), ?_⟩
          refine ⟨_, rfl, _, _, rfl, rfl, c, j - 1, m, n, ?_, by omega, by omega, by omega, hm, hn, o3, fun H6 s6 => k _ (s12.trans ((s3.trans s4).trans (s5.trans s6)))⟩
          have ej : (j : Int) - 1 = ((j - 1 : Nat) : Int) := by omega
          rw [← ej]; rfl
def sp_is_known (K : PySem.W.Frag) : Sp := sp_is_known0 K 9
end
end EV
end
section
set_option Elab.async false
set_option linter.all false
set_option maxRecDepth 100000
set_option maxHeartbeats 4000000
namespace EV
open PySem PySem.Spec PyProof.Rows L2
open ER (cf Bd Row P3 Rule Pan BRow)
open TL (tl ext_tl tl_append partition_app)
def ansF (p : Int) (bs : List (List (Int × Int))) : Cmd → List Int → Str
  | .press i x t, r => nS (ER.picF (ER.pressF p r (bs.getD i []) (x : Int) ((t.getD 1 : Nat) : Int))).length
  | .turn i, r => nS (ER.picF (ER.turnF p r (bs.getD i []))).length
  | .setc .., _ => "ok"
  | .undo, _ => "ok"
  | .atc k, r => nS (cf r k)
  | .picture, r => picText r.length (ER.picF r)
  | .clear, r => if ER.picF r = [] then "bare" else if ER.restF p (ER.picF r) (ER.divOnF p bs r.length) = [] then "yes" else "no"
  | .tryc i x c, r => ansF p bs c (ER.pressF p r (bs.getD i []) (x : Int) 1)
def nextF (p : Int) (bs : List (List (Int × Int))) (rest : List (List Int)) (r : List Int) : Cmd → List (List Int)
  | .press i x t => rest ++ [r] ++ [ER.pressF p r (bs.getD i []) (x : Int) ((t.getD 1 : Nat) : Int)]
  | .turn i => rest ++ [r] ++ [ER.turnF p r (bs.getD i [])]
  | .setc x c => rest ++ [r] ++ [r.set x c]
  | .undo => rest
  | _ => rest ++ [r]
section
variable {P : Program} {w : World} {K : PySem.W.Frag} {mg : Str → Option Value} {base : Heap}
def looks : Cmd → Bool
  | .atc _ => true
  | .picture => true
  | .clear => true
  | _ => false
theorem nS_def (i : Int) : nS i = Str.ofString (toString i) := rfl
def sp_Console_told (K : PySem.W.Frag) : Sp := fun vs H Q _ => ∃ (cn a l kl nl : Addr) (p : Int) (bs : List (List (Int × Int))) (rest : List (List Int)) (r : List Int) (ys : List V) (c : Cmd),
  vs = [.ref cn, .str c.hd, .ref nl] ∧ CO K H cn a l kl p bs (rest ++ [r]) ys ∧ H nl = some (.lst (c.nums.map V.int)) ∧ looks c = true ∧ c.Ok bs.length r.length ∧ Pan p bs ∧ Bd p r ∧ 1 ≤ r.length ∧ r.length ≤ 16 ∧ ∀ H', Same H H' → Q (.str (ansF p bs c r)) H'
theorem ok_Console_told (T : TX K mg w) (c_can_reach : C8.Cal P w K mg base 8 "can_reach" (sp_can_reach K) []) (c_Board_panel : Prp P w K mg base 1 "Board" "panel" (sp_Board_panel K)) (c_Board_size : Prp P w K mg base 1 "Board" "size" (sp_Board_size K)) (c_Board_picture : Prp P w K mg base 2 "Board" "picture" (sp_Board_picture K)) (c_Board_getitem : Spm P w K mg base 4 "Board" "__getitem__" (sp_Board_getitem K)) (c_write_picture : C8.Cal P w K mg base 6 "write_picture" (sp_write_picture K) []) : C8.Met P w K mg base 9 (He.ga K "Console") "told" (sp_Console_told K) [] := by
  refine T.met (d := d_Console_told) 78 18 rfl rfl (S := sc_Console_told) (fun _ _ _ _ _ _ us hl => match us, hl with | [_, _, _], _ => rfl) (fun vs H Q E h => ?_) (fun cdv A outer s H vs Q E hr h => ?_) T.cl_Console
  · obtain ⟨cn, a, l, kl, nl, p, bs, rest, r, ys, c, rfl, _⟩ := h; rfl
  · obtain ⟨cn, a, l, kl, nl, p, bs, rest, r, ys, c, rfl, ⟨⟨dx, hc⟩, hB⟩, hnl, hlook, hok, hP, br, n1, ln, k⟩ := h
    have pp := hP.hp.pos
    have p5 := hP.hp.le
    obtain ⟨dxa, v, xs, y, h1, hv, h3, h4, h5, h6, h7⟩ := hB.last
    refine ⟨_, (pss_cons (ps_par3 (i := 3) (j := 4) (l := 5) rfl sc_Console_told.nd rfl rfl rfl (by decide) (by decide) (by decide) rfl rfl rfl (pa_cons (c_Board_panel.prop (pe_fld (pv 0) rfl) hr (by decide) rfl) (pa_cons (c_Board_size.prop (pe_fld (pv 0) rfl) hr (by decide) rfl) (pa_cons (c_Board_picture.prop (pe_fld (pv 0) rfl) hr (by decide) rfl) pa_nil))) (by rfl))
    (pss_cons (ps_if (pt_cmpR op_eq (pv 1) pe_str (nomark _)) (pss_one (ps_ret (pe_callTy call_str_int (by rfl) (T.fr 3 rfl) (by decide +kernel) (pa_cons (spm_item c_Board_getitem hr (by decide) (pe_fld (pv 0) rfl) (pe_ix ix_list (pv 2) pe_int (fun _ _ => rfl))) pa_nil)))) pss_nil)
    (pss_cons (ps_if (pt_cmpR op_eq (pv 1) pe_str (nomark _)) (pss_one ps_dead) pss_nil)
    (pss_cons (ps_if (pt_cmpR op_eq (pv 1) pe_str (nomark _)) (pss_one ps_dead) pss_nil)
    (pss_cons (ps_if (pt_cmpR op_eq (pv 1) pe_str (nomark _)) (pss_one (ps_ret (C8.pe_c c_write_picture hr (by decide) (by rfl) (pa_cons (pe_ix ix_tup (pv 3) pe_int (fun _ _ => rfl)) (pa_cons (pv 4) (pa_cons (pv 5) pa_nil)))))) pss_nil)
    (pss_cons (ps_if (pt_cmpR (op_eqD hr.units) (pv 5) (pe_tup pa_nil) (nomark _)) (pss_one (ps_ret pe_str)) pss_nil)
    (pss_one (ps_ret (pe_ifExp (pt_val (C8.pe_c c_can_reach hr (by decide) (by rfl) (pa_cons (pv 3) (pa_cons (pv 4) (pa_cons (pv 5) pa_nil))))) pe_str pe_str))))))))), ?_⟩
    refine ⟨_, rfl, cn, _, dx, _, _, rfl, hc, T.cl_Console, T.na_cboard, rfl, a, dxa, _, rfl, h1, a, l, kl, p, bs, rest, r, ys, rfl, hB, by omega, fun vp hvp => ?_⟩
    refine ⟨_, rfl, cn, _, dx, _, _, rfl, hc, T.cl_Console, T.na_cboard, rfl, a, dxa, _, rfl, h1, a, l, kl, p, bs, rest, r, ys, rfl, hB, by omega, ?_⟩
    refine ⟨_, rfl, cn, _, dx, _, _, rfl, hc, T.cl_Console, T.na_cboard, rfl, a, dxa, _, rfl, h1, a, l, kl, p, bs, rest, r, ys, rfl, hB, by omega, fun vpic H1 s1 hpic => ⟨_, _, _, rfl, ?_⟩⟩
    have hQ := picF_mem br
    have hB1 := BO.same hB s1
    have hc1 := s1 _ _ hc
    have h11 := s1 _ _ h1
    have hnl1 := s1 _ _ hnl
    cases c with
    | atc kk =>
      have hk : kk < r.length := hok
      have hcf := br.cf pp kk
      refine ⟨_, rfl, rfl, _, rfl, iteI (by simp [Cmd.hd]) ?_⟩
      refine ⟨_, rfl, cn, _, dx, _, _, rfl, hc1, T.cl_Console, T.na_cboard, rfl, _, rfl, nl, _, _, _, rfl, rfl, SqL.of hnl1, at0, a, dxa, _, rfl, h11, a, l, kl, p, bs, rest, r, ys, kk, rfl, hB1, by omega, by omega, by omega, ?_⟩
      rw [Int.toNat_natCast]
      exact ⟨_, rfl, log_small (by omega) (by omega), k _ s1⟩
    | picture =>
      refine ⟨_, rfl, rfl, _, rfl, iteN (by decide +kernel) ?_⟩
      refine ⟨_, rfl, rfl, _, rfl, iteN (by decide +kernel) ?_⟩
      refine ⟨_, rfl, rfl, _, rfl, iteN (by decide +kernel) ?_⟩
      refine ⟨_, rfl, rfl, _, rfl, iteI (by decide +kernel) ?_⟩
      have hvp' := hvp
      obtain ⟨pa, pu, rfl, hps, hpb⟩ := hvp'
      exact ⟨_, rfl, pa, _, _, _, rfl, rfl, Same.tup s1 hps, at0, _, rfl, _, rfl, p, r.length, vpic, ER.picF r, rfl, hpic, hP.hp, n1, ln, hQ, fun H2 s2 => k _ (s1.trans s2)⟩
    | clear =>
      refine ⟨_, rfl, rfl, _, rfl, iteN (by decide +kernel) ?_⟩
      refine ⟨_, rfl, rfl, _, rfl, iteN (by decide +kernel) ?_⟩
      refine ⟨_, rfl, rfl, _, rfl, iteN (by decide +kernel) ?_⟩
      refine ⟨_, rfl, rfl, _, rfl, iteN (by decide +kernel) ?_⟩
      refine ⟨_, rfl, by show 0 ≤ sizeLine; decide, fun t nt => ?_⟩
      have s2 := Same.new (o := .tup []) nt
      refine ⟨_, _, dp_P (hpic.same s2), dp_N upd_same, (ok_dP _).shaped, (ok_dN (n := 0)).shaped, _, rfl, ?_⟩
      generalize upd H1 t (.tup []) = H2 at s2
      rw [eqvN_P]
      have s12 := s1.trans s2
      have kk : ∀ H', Same H H' → Q (.str (if ER.picF r = [] then ("bare" : Str) else if ER.restF p (ER.picF r) (ER.divOnF p bs r.length) = [] then "yes" else "no")) H' := k
      by_cases e : ER.picF r = []
      · rw [if_pos e] at kk
        exact iteI (by simp [e]) (kk _ s12)
      · rw [if_neg e] at kk
        refine iteN (by simp [e]) ?_
        refine ⟨_, rfl, _, rfl, _, rfl, p, r.length, vp, vpic, bs, ER.picF r, rfl, hvp.same s12, hpic.same s2, hP, n1, by omega, hQ, fun H3 s3 => ⟨_, rfl, ?_⟩⟩
        by_cases e2 : ER.restF p (ER.picF r) (ER.divOnF p bs r.length) = []
        · rw [if_pos e2] at kk
          exact iteI (by simp [e2]) (kk _ (s12.trans s3))
        · rw [if_neg e2] at kk
          exact iteN (by simp [e2]) (kk _ (s12.trans s3))
    | press i x t => cases hlook
    | turn i => cases hlook
    | setc x c => cases hlook
    | undo => cases hlook
    | tryc i x c => cases hlook
/-- what a command does to a console -/
def spA (K : PySem.W.Frag) (d : Nat) (X : List Addr → Prop) (cn : Addr) (c : Cmd) (H : Hp) (Q : VK) : Prop := ∃ (a l kl : Addr) (p : Int) (bs : List (List (Int × Int))) (rest : List (List Int)) (r : List Int) (ys : List V),
  CO K H cn a l kl p bs (rest ++ [r]) ys ∧ X [a, l, kl] ∧ c.nest < d ∧ c.nest ≤ 8 ∧ c.Ok bs.length r.length ∧ (c.isUndo = true → ys = [] ∧ rest ≠ []) ∧ (∀ x cc, c = .setc x cc → cc < p) ∧ Pan p bs ∧ (∀ q ∈ rest ++ [r], q.length = r.length ∧ Bd p q) ∧ rest.length + c.nest ≤ 100 ∧ ys.length + c.nest ≤ 50 ∧ 1 ≤ r.length ∧ r.length ≤ 16 ∧
  ∀ l' kl' H', (l' = l ∨ H l' = none) → (kl' = kl ∨ H kl' = none) → Fr [a, l, kl] H H' → CO K H' cn a l' kl' p bs (nextF p bs rest r c) ys → Q (.str (ansF p bs c r)) H'
def sp_answer0 (K : PySem.W.Frag) (d : Nat) : Sp := fun vs H Q _ => ∃ (cn : Addr) (c : Cmd), vs = [.ref cn, .str c.text] ∧ spA K d (fun _ => True) cn c H Q
def sp_tried0 (K : PySem.W.Frag) (d : Nat) : Sp := fun vs H Q _ => ∃ (cn wl : Addr) (i x : Nat) (c : Cmd), vs = [.ref cn, .ref wl] ∧ H wl = some (.lst ((Cmd.tryc i x c).words.map V.str)) ∧ spA K d (fun l => wl ∉ l) cn (.tryc i x c) H Q
theorem CO.same {H H' : Hp} {c a l kl : Addr} {p : Int} {bs : List (List (Int × Int))} {past : List (List Int)} {ys : List V} (h : CO K H c a l kl p bs past ys) (s : Same H H') : CO K H' c a l kl p bs past ys := by
  obtain ⟨⟨dx, hc⟩, hB⟩ := h
  exact ⟨⟨dx, s _ _ hc⟩, hB.same s⟩
theorem CO.ne {H : Hp} {c a l kl : Addr} {p : Int} {bs : List (List (Int × Int))} {past : List (List Int)} {ys : List V} (h : CO K H c a l kl p bs past ys) : c ∉ [a, l, kl] := by
  obtain ⟨⟨dx, hc⟩, dxa, v, xs, h1, h2, h3, h4, h5, h6⟩ := h
  intro hm
  simp only [List.mem_cons, List.not_mem_nil, or_false] at hm
  rcases hm with rfl | rfl | rfl
  · rw [hc] at h1; injection h1 with h1; injection h1 with _ _ h1; injection h1 with h1; injection h1 with h1; exact absurd h1 (by decide)
  · rw [hc] at h3; cases h3
  · rw [hc] at h5; cases h5
theorem CO.bo {H H' : Hp} {c a l kl l' kl' : Addr} {p : Int} {bs : List (List (Int × Int))} {past past' : List (List Int)} {ys ys' : List V} (h : CO K H c a l kl p bs past ys) (f : Fr [a, l, kl] H H') (hB : BO K H' a l' kl' p bs past' ys') : CO K H' c a l' kl' p bs past' ys' := by
  have hn := h.ne
  obtain ⟨⟨dx, hc⟩, _⟩ := h
  exact ⟨⟨dx, f _ _ hc hn⟩, hB⟩
theorem pair_get {bs : List (List (Int × Int))} {i : Nat} (h : i < bs.length) : bs[i]? = some (bs.getD i []) := by
  rw [List.getD_eq_getElem?_getD, List.getElem?_eq_getElem h]; rfl
theorem Met.mono' {j k : Nat} {C : Addr} {m : Str} {sp : Sp} {dvs : List V} (c : C8.Met P w K mg base j C m sp dvs) (h : j ≤ k) : C8.Met P w K mg base k C m sp dvs := by
  obtain ⟨f, fd, ps, ds, h1, h2, h3, h4, h5⟩ := c.ex
  exact ⟨f, fd, ps, ds, h1, h2, h3.mono h, h4, h5⟩
theorem Cal.mono' {j k : Nat} {x : Str} {sp : Sp} {dvs : List V} (c : C8.Cal P w K mg base j x sp dvs) (h : j ≤ k) : C8.Cal P w K mg base k x sp dvs := by
  obtain ⟨f, fd, ps, ds, h1, h2, h3, h4, h5⟩ := c.ex
  exact ⟨f, fd, ps, ds, h1.mono h, h2, h3, h4, h5⟩
theorem ok_tried0 (T : TX K mg w) {k d : Nat} (hk : 8 ≤ k) (c_Board_press2 : C8.Met P w K mg base 4 (He.ga K "Board") "press" (sp_Board_press K) [.int 1]) (c_whole_of : C8.Cal P w K mg base 1 "whole_of" (sp_whole_of K) []) (c_Block_init : C8.Mak P w K mg base 1 "Block" (He.ga K "Block") (sp_Block_init K) []) (c_Block_enter : Spm P w K mg base 2 "Block" "__enter__" (sp_Block_enter K)) (c_Block_exit : Spm P w K mg base 1 "Block" "__exit__" (sp_Block_exit K))
    (c_Console_answer : C8.Met P w K mg base k (He.ga K "Console") "answer" (sp_answer0 K d) []) : C8.Met P w K mg base (k + 1) (He.ga K "Console") "tried" (sp_tried0 K (d + 1)) [] := by
  refine T.met (d := d_Console_tried) (k := k) 77 17 rfl rfl (S := sc_Console_tried) (fun _ _ _ _ _ _ us hl => match us, hl with | [_, _], _ => rfl) (fun vs H Q E h => ?_) (fun cdv A outer s H vs Q E hr h => ?_) T.cl_Console
  · obtain ⟨cn, wl, i, x, c, rfl, _⟩ := h; rfl
  · obtain ⟨cn, wl, i, x, c, rfl, hwl, a, l, kl, p, bs, rest, r, ys, hC, hwn, hd, h8, hok, hun, hset, hP, hall, lrest, lys, n1, ln, kk⟩ := h
    refine ⟨_, (pss_one (spm_with (i := 2) sc_Console_tried.nd rfl (by first | exact Or.inl rfl | exact Or.inr rfl) (C8.pe_mk c_Block_init hr (by omega) (by rfl) (pa_cons (pe_fld (pv 0) rfl) pa_nil)) c_Block_enter c_Block_exit hr (by omega) (by omega) (pss_cons (ps_if (pt_cmpR op_eq (pe_ix ix_list (pv 1) pe_int (fun _ _ => rfl)) pe_str (nomark _)) (pss_one (ps_ret (C8.pe_mt c_Console_answer hr (by omega) (pv 0) (pa_cons (pe_join pe_str (pe_slice sl_list (pv 1) (po_some pe_int) po_none)) pa_nil)))) pss_nil)
    (pss_cons (ps_expr (C8.pe_mt c_Board_press2 hr (by omega) (pv 2) (pa_cons (C8.pe_c c_whole_of hr (by omega) (by rfl) (pa_cons (pe_ix ix_list (pv 1) pe_int (fun _ _ => rfl)) pa_nil)) (pa_cons (C8.pe_c c_whole_of hr (by omega) (by rfl) (pa_cons (pe_ix ix_list (pv 1) pe_int (fun _ _ => rfl)) pa_nil)) pa_nil))))
    (pss_one (ps_ret (C8.pe_mt c_Console_answer hr (by omega) (pv 0) (pa_cons (pe_join pe_str (pe_slice sl_list (pv 1) (po_some pe_int) po_none)) pa_nil)))))))), ?_⟩
    obtain ⟨o1, o2, o3, o4⟩ := hok
    have hd' : c.nest + 1 < d + 1 := hd
    have h8' : c.nest + 1 ≤ 8 := h8
    have lrest' : rest.length + (c.nest + 1) ≤ 100 := lrest
    have lys' : ys.length + (c.nest + 1) ≤ 50 := lys
    have hm := hP.len
    have hne := hC.ne
    obtain ⟨⟨dx, hc⟩, hB⟩ := hC
    have hmut := hB.mut
    have nex : ∀ {y : Addr}, H y = none → y ∉ [a, l, kl] := fun {y} hy hm => by
      rcases hmut y hm with ⟨_, e⟩ | ⟨_, _, _, e⟩ <;> (rw [hy] at e; cases e)
    refine ⟨_, rfl, cn, _, dx, _, _, rfl, hc, T.cl_Console, T.na_cboard, rfl, fun b dd nb nd ne => ?_⟩
    have s1 : Same H (upd (upd H dd (.own b)) b (.ins (He.ga K "Block") dd [])) := (Same.new nd).trans (Same.new (by rw [upd_ne ne.symm]; exact nb))
    have hb1 : upd (upd H dd (.own b)) b (.ins (He.ga K "Block") dd []) b = some (.ins (He.ga K "Block") dd []) := upd_same
    generalize upd (upd H dd (.own b)) b (.ins (He.ga K "Block") dd []) = H1 at s1 hb1
    refine ⟨b, dd, a, rfl, hb1, fun q1 q2 H2 hBlk2 f2 => ⟨rfl, ?_⟩⟩
    have f02 : Fr [] H H2 := fun y o hy _ => f2 _ _ (s1 _ _ hy) (fun z => by rw [List.mem_singleton.mp z, nb] at hy; cases hy)
    have k02 : KeepT K H H2 := f02.keepT (fun _ h => by cases h)
    have hB2 : BO K H2 a l kl p bs (rest ++ [r]) ys := hB.fr f02 k02 (fun _ _ z => by cases z)
    obtain ⟨dxb, hb2⟩ := hBlk2
    refine ⟨b, dxb, _, rfl, hb2, b, a, q1, q2, l, kl, p, bs, rest ++ [r], ys, rfl, ⟨dxb, hb2⟩, hB2, by omega, by simp; omega, fun kp kb lb xs H3 nkp nkb kpb hBlk3 hkp3 pk3 hkb3 hB3 f3 => ?_⟩
    have nn : ∀ {y : Addr}, H2 y = none → H y = none := fun {y} hy => Fr.none f02 hy (fun z => by cases z)
    have nkp0 := nn nkp
    have nkb0 := nn nkb
    have f03 : Fr [a, l, kl] H H3 := fun y o hy hn => f3 _ _ (f02 _ _ hy (fun z => by cases z)) (fun z => by
      rcases List.mem_cons.mp z with rfl | z
      · rw [nb] at hy; cases hy
      · exact hn z)
    have hwl3 : H3 wl = some (.lst ((Cmd.tryc i x c).words.map V.str)) := f03 _ _ hwl hwn
    have N1 := num_of (i := (i : Int)) (by omega) (by omega)
    refine ⟨_, rfl, wl, _, _, _, rfl, rfl, SqL.of hwl3, at_str (i := 1) rfl, rfl, _, rfl, iteN (by simpa using N1.nm) ?_⟩
    have hB3' := hB3
    obtain ⟨dxa, v, us, g1, g2, g3, g4, g5, g6⟩ := hB3'
    refine ⟨_, rfl, a, dxa, _, rfl, g1, rfl, _, rfl, wl, _, _, _, rfl, rfl, SqL.of hwl3, at_str (i := 1) rfl, (i : Int), rfl, by omega, by omega, fun H4 s4 => ?_⟩
    refine ⟨_, rfl, wl, _, _, _, rfl, rfl, SqL.of (s4 _ _ hwl3), at_str (i := 2) rfl, (x : Int), rfl, by omega, by omega, fun H5 s5 => ?_⟩
    have s35 := s4.trans s5
    refine ⟨a, l, kl, p, bs, rest, r, ys ++ [.ref lb], i, x, 1, bs.getD i [], rfl, BO.same hB3 s35, by omega, hP, by omega, pair_get o1, by omega, by omega, by decide, fun H6 f6 hB6 => ?_⟩
    have f36 : Fr [a, l, kl] H3 H6 := (Same.fr s35).trans f6
    have hcn6 := f36 _ _ (f03 _ _ hc hne) hne
    have hwl6 : H6 wl = some (.lst ((Cmd.tryc i x c).words.map V.str)) := f36 _ _ hwl3 hwn
    have wlen : 3 < ((Cmd.tryc i x c).words.map V.str).length := by
      rw [List.length_map]; show 3 < ((_ :: _ :: _ :: []) ++ c.words).length; simp [Cmd.words]
    refine ⟨_, rfl, cn, dx, _, rfl, hcn6, rfl, ⟨_, rfl⟩, _, rfl, _, rfl, ?_⟩
    dsimp only [tNoPart]
    refine ⟨wl, _, rfl, SqL.of hwl6, fun q7 n7 => ?_⟩
    have ec2 : cutV ((Cmd.tryc i x c).words.map V.str) (some (3 : Int)) none = c.words.map V.str := by
      rw [show (3 : Int) = ((3 : Nat) : Int) from rfl, cutN (by omega)]
      rfl
    rw [ec2]
    have s7 := Same.new (o := .lst (c.words.map V.str)) n7
    refine ⟨_, q7, _, rfl, rfl, .inl (SqL.of upd_same), text_bound hm ln o3 (by omega), ?_⟩
    generalize upd H6 q7 (.lst (c.words.map V.str)) = H7 at s7
    have lp := pressF_len p (x : Int) 1 (bs.getD i []) r
    have br := (hall r (by simp)).2
    have c7 : CO K H7 cn a l kl p bs ((rest ++ [r]) ++ [ER.pressF p r (bs.getD i []) (x : Int) 1]) (ys ++ [.ref lb]) := ⟨⟨dx, s7 _ _ hcn6⟩, hB6.same s7⟩
    have cu : c.isUndo = false := by cases c <;> first | rfl | cases o4
    refine ⟨cn, c, rfl, a, l, kl, p, bs, rest ++ [r], _, ys ++ [.ref lb], c7, trivial, by omega, by omega, by rw [lp]; exact o3, (fun z => by rw [cu] at z; cases z), (fun y cc z => by rw [z] at o4; cases o4), hP, fun q hq => ?_, by simp; omega, by simp; omega, by omega, by omega, fun l' kl' H8 hl' hkl' f8 c8 => ?_⟩
    · rw [lp]
      rcases List.mem_append.mp hq with hq | hq
      · exact hall q hq
      · rw [List.mem_singleton.mp hq]
        exact ⟨lp, pressF_bd hP.hp.pos _ _ _ _ br⟩
    · have f38 : Fr [a, l, kl] H3 H8 := (f36.trans (Same.fr s7)).trans f8
      have k38 : KeepT K H3 H8 := hB3.keepT f38
      have nbm := nex nb
      have nkpm := nex nkp0
      have nkbm := nex nkb0
      obtain ⟨dxb3, hb3⟩ := hBlk3
      refine ⟨b, a, kp, kb, l', kl', p, bs, rest ++ [r], _, xs, ys, _, rfl, ⟨dxb3, f38 _ _ hb3 nbm⟩, c8.2, f38 _ _ hkp3 nkpm, paired_mono (fun _ _ z => z.keep k38) pk3, f38 _ _ hkb3 nkbm, kpb, fun H9 hB9 f9 => ?_⟩
      have f09 : Fr [a, l, kl] H H9 := (f03.trans f38).trans (f9.mono (by intro y hy; rw [List.mem_singleton.mp hy]; simp))
      exact kk kp kb H9 (.inr nkp0) (.inr nkb0) f09 ⟨⟨dx, f09 _ _ hc hne⟩, hB9⟩
theorem ne_s {a b : Str} (h : a ≠ b) : ¬ decide (V.str a = V.str b) = true := by simpa using h
theorem eq_s {a : Str} : decide (V.str a = V.str a) = true := by simp
theorem hd_ne_try {c : Cmd} (h : c.isTry = false) : ¬ decide (V.str c.hd = V.str (Str.ofString "try")) = true := by
  cases c with
  | press i x t => exact ne_s (a := "press") (b := "try") (by decide +kernel)
  | turn i => exact ne_s (a := "turn") (b := "try") (by decide +kernel)
  | setc x c => exact ne_s (a := "set") (b := "try") (by decide +kernel)
  | undo => exact ne_s (a := "undo") (b := "try") (by decide +kernel)
  | atc k => exact ne_s (a := "at") (b := "try") (by decide +kernel)
  | picture => exact ne_s (a := "picture") (b := "try") (by decide +kernel)
  | clear => exact ne_s (a := "clear") (b := "try") (by decide +kernel)
  | tryc i x c => cases h
theorem picFrom_len : ∀ (r : List Int) (k : Nat), (ER.picFrom k r).length ≤ r.length
  | [], k => Nat.le_refl _
  | c :: r, k => by
    have := picFrom_len r (k + 1)
    unfold ER.picFrom
    split
    · rw [List.length_cons]; omega
    · rw [List.length_cons, List.length_cons]; omega
theorem picF_len (r : List Int) : (ER.picF r).length ≤ r.length := picFrom_len r 0
theorem ok_answer0 (T : TX K mg w) {k d : Nat} (hk : 10 ≤ k) (c_Board_setitem : Spm P w K mg base 4 "Board" "__setitem__" (sp_Board_setitem K)) (c_Board_do_turn : C8.Met P w K mg base 4 (He.ga K "Board") "do_turn" (sp_Board_do_turn K) []) (c_Board_undo : C8.Met P w K mg base 1 (He.ga K "Board") "undo" (sp_Board_undo K) []) (c_whole_of : C8.Cal P w K mg base 1 "whole_of" (sp_whole_of K) []) (c_Console_told : C8.Met P w K mg base 9 (He.ga K "Console") "told" (sp_Console_told K) []) (c_Board_press_star : Sta P w K mg base 4 "Board" "press" (sp_Board_press_star K))
    (c_Console_tried : C8.Met P w K mg base k (He.ga K "Console") "tried" (sp_tried0 K d) []) : C8.Met P w K mg base (k + 1) (He.ga K "Console") "answer" (sp_answer0 K d) [] := by
  refine T.met (d := d_Console_answer) (k := k) 76 16 rfl rfl (S := sc_Console_answer) (fun _ _ _ _ _ _ us hl => match us, hl with | [_, _], _ => rfl) (fun vs H Q E h => ?_) (fun cdv A outer s H vs Q E hr h => ?_) T.cl_Console
  · obtain ⟨cn, c, rfl, _⟩ := h; rfl
  · obtain ⟨cn, c, rfl, a, l, kl, p, bs, rest, r, ys, hC, hwn, hd, h8, hok, hun, hset, hP, hall, lrest, lys, n1, ln, kk⟩ := h
    have hm := hP.len
    have tl := text_len hm ln hok h8
    have hne := hC.ne
    refine ⟨_, (pss_cons (ps_set (i := 2) sc_Console_answer.nd rfl (by first | exact Or.inl rfl | exact Or.inr rfl) (pe_split (pv 1) pe_str))
    (pss_cons (ps_if (pt_cmpR op_eq (pe_ix ix_list (pv 2) pe_int (fun _ _ => rfl)) pe_str (nomark _)) (pss_one (ps_ret (C8.pe_mt c_Console_tried hr (by omega) (pv 0) (pa_cons (pv 2) pa_nil)))) pss_nil)
    (pss_cons (ps_if (pt_cmpR op_in_seq (pe_ix ix_list (pv 2) pe_int (fun _ _ => rfl)) (pe_tup (pa_cons pe_str (pa_cons pe_str pa_nil))) (by rfl)) (pss_one ps_dead) pss_nil)
    (pss_cons (ps_setLc (i := 3) (own := [("word", 4)]) (g := (gName 4)) rfl sc_Console_answer.nd rfl rfl (sw_true rfl rfl rfl (by decide +kernel)) (pi_list (pe_slice sl_list (pv 2) (po_some pe_int) po_none)) (blkOk_by (own := [("word", 4)]) (N := n_Console_answer) (sc := defScope s_Console_answer) (by decide +kernel)) (fun _ _ _ _ _ => (pg_name (i := 4) sc_Console_answer.nd rfl (by first | exact Or.inl rfl | exact Or.inr rfl))) (fun _ _ _ _ _ => pts_nil) (fun _ _ _ _ _ => (C8.pe_c c_whole_of hr (by omega) (by rfl) (pa_cons (pv 4) pa_nil))))
    (pss_cons (ps_if (pt_cmpR op_eq (pe_ix ix_list (pv 2) pe_int (fun _ _ => rfl)) pe_str (nomark _)) (pss_one (ps_ret (pe_callTy call_str_int (by rfl) (T.fr 3 rfl) (by decide +kernel) (pa_cons (c_Board_press_star.star hr (by omega) (pe_fld (pv 0) rfl) (pv 3)) pa_nil)))) pss_nil)
    (pss_cons (ps_if (pt_cmpR op_eq (pe_ix ix_list (pv 2) pe_int (fun _ _ => rfl)) pe_str (nomark _)) (pss_one (ps_ret (pe_callTy call_str_int (by rfl) (T.fr 3 rfl) (by decide +kernel) (pa_cons (C8.pe_mt c_Board_do_turn hr (by omega) (pe_fld (pv 0) rfl) (pa_cons (pe_ix ix_list (pv 3) pe_int (fun _ _ => rfl)) pa_nil)) pa_nil)))) pss_nil)
    (pss_cons (ps_if (pt_cmpR op_eq (pe_ix ix_list (pv 2) pe_int (fun _ _ => rfl)) pe_str (nomark _)) (pss_cons (ps_asg (pe_ix ix_list (pv 3) pe_int (fun _ _ => rfl)) (pg_sub (pe_fld (pv 0) rfl) (pe_ix ix_list (pv 3) pe_int (fun _ _ => rfl)) (spm_set c_Board_setitem T.q_Board hr (by omega))))
    (pss_one (ps_ret pe_str))) pss_nil)
    (pss_cons (ps_if (pt_cmpR op_eq (pe_ix ix_list (pv 2) pe_int (fun _ _ => rfl)) pe_str (nomark _)) (pss_cons (ps_expr (C8.pe_mt0 c_Board_undo hr (by omega) (pe_fld (pv 0) rfl)))
    (pss_one (ps_ret pe_str))) pss_nil)
    (pss_one (ps_ret (C8.pe_mt c_Console_told hr (by omega) (pv 0) (pa_cons (pe_ix ix_list (pv 2) pe_int (fun _ _ => rfl)) (pa_cons (pv 3) pa_nil))))))))))))), ?_⟩
    refine ⟨_, rfl, ⟨_, rfl⟩, _, _, rfl, rfl, rfl, by rw [sizeLine_eq]; omega, fun W nW => ?_⟩
    rw [text_split hm ln hok]
    have s1 := Same.new (o := .lst (c.words.map V.str)) nW
    have hW : upd H W (.lst (c.words.map V.str)) W = some (.lst (c.words.map V.str)) := upd_same
    generalize upd H W (.lst (c.words.map V.str)) = H1 at s1 hW
    have hC1 := hC.same s1
    have nex : ∀ {y : Addr}, H y = none → y ∉ [a, l, kl] := fun {y} hy hm => by
      rcases hC.2.mut y hm with ⟨_, e⟩ | ⟨_, _, _, e⟩ <;> (rw [hy] at e; cases e)
    have kk1 : ∀ {H1 : Hp}, Same H H1 → ∀ l' kl' H', (l' = l ∨ H1 l' = none) → (kl' = kl ∨ H1 kl' = none) → Fr [a, l, kl] H1 H' → CO K H' cn a l' kl' p bs (nextF p bs rest r c) ys → Q (.str (ansF p bs c r)) H' := fun {H1} s l' kl' H' h1 h2 f hc => kk l' kl' H' (h1.imp_right s.free) (h2.imp_right s.free) ((Same.fr s).trans f) hc
    cases htry : c.isTry with
    | true =>
      cases c with
      | tryc i x c =>
        refine ⟨_, rfl, W, _, _, _, rfl, rfl, SqL.of hW, at_str (i := 0) (words0 _), rfl, _, rfl, iteI (eq_s (a := "try")) ?_⟩
        obtain ⟨⟨dx, hc⟩, hB⟩ := hC1
        exact ⟨_, rfl, cn, dx, _, rfl, hc, rfl, _, rfl, cn, W, i, x, c, rfl, hW, a, l, kl, p, bs, rest, r, ys, ⟨⟨dx, hc⟩, hB⟩, nex nW, hd, h8, hok, hun, hset, hP, hall, lrest, lys, n1, ln, kk1 s1⟩
      | press i x t => cases htry
      | turn i => cases htry
      | setc x c => cases htry
      | undo => cases htry
      | atc k => cases htry
      | picture => cases htry
      | clear => cases htry
    | false =>
      have hw := Cmd.tail_nil htry
      refine ⟨_, rfl, W, _, _, _, rfl, rfl, SqL.of hW, at_str (i := 0) (words0 _), rfl, _, rfl, iteN (hd_ne_try htry) ?_⟩
      refine ⟨_, rfl, W, _, _, _, rfl, rfl, SqL.of hW, at_str (i := 0) (words0 c), by show 2 ≤ sizeLine; decide, fun t nt => ?_⟩
      have s2 := Same.new (o := .tup [.str ("reach" : Str), .str ("same" : Str)]) nt
      refine ⟨t, _, rfl, .inr (SqT.of upd_same), rfl, rfl, _, rfl, iteN (by rw [hd_ask]; decide) ?_⟩
      generalize upd H1 t (.tup [.str ("reach" : Str), .str ("same" : Str)]) = H2 at s2
      have hW2 := s2 _ _ hW
      refine ⟨_, rfl, _, rfl, ?_⟩
      dsimp only [tNoPart]
      refine ⟨W, _, rfl, SqL.of hW2, fun q nq => ?_⟩
      have ec : cutV (c.words.map V.str) (some (1 : Int)) none = (c.nums.map nS).map V.str := by rw [cut_from1, hw]; rfl
      rw [ec]
      obtain ⟨b1, b2⟩ := Cmd.nums_ok hm ln hok
      have s3 := Same.new (o := .lst ((c.nums.map nS).map V.str)) nq
      have hq3 : upd H2 q (.lst ((c.nums.map nS).map V.str)) q = some (.lst ((c.nums.map nS).map V.str)) := upd_same
      refine ⟨q, rfl, ⟨_, SqL.of hq3⟩, fun D nD => ?_⟩
      have hW3 := s3 _ _ hW2
      generalize upd H2 q (.lst ((c.nums.map nS).map V.str)) = H3 at s3 hq3 nD hW3
      refine lc_int walk_list (fun H' s => SqL.of (s _ _ hq3)) (fun _ => true) (fun i => .int (c.nums.getD i 0)) (by rw [sizeLine_eq]; simp; omega) nD ?_ ?_
      · rintro i x H4' H4 post postN hi s4 ⟨rfl, hxi⟩ k1 k2
        rw [List.getElem?_map, List.getElem?_map] at hxi
        cases e : c.nums[i]? with
        | none => rw [e] at hxi; cases hxi
        | some j =>
          rw [e] at hxi
          obtain rfl := Option.some.inj hxi
          have hj := b1 j (List.mem_of_getElem? e)
          have ej : c.nums.getD i 0 = j := by rw [List.getD_eq_getElem?_getD, e]; rfl
          exact ⟨rfl, _, rfl, j, rfl, hj.1, hj.2, fun H5 s5 => by have := k1 _ s5 rfl; rw [ej] at this; exact this⟩
      · intro H4 s4 hD
        have eD : (((List.range ((c.nums.map nS).map V.str).length).filter fun _ => true).map fun i => V.int (c.nums.getD i 0)) = c.nums.map V.int := by
          rw [List.length_map, List.length_map]
          exact all_range c.nums _ _ fun i hi => by rw [List.getD_eq_getElem?_getD, List.getElem?_eq_getElem hi]; rfl
        rw [eD] at hD
        have s14 := s1.trans (s2.trans (s3.trans s4))
        have hW4 := s4 _ _ hW3
        have kk4 := kk1 s14
        obtain ⟨⟨dx, hc⟩, hB⟩ := hC.same s14
        obtain ⟨dxa, v, xs, y, g1, g2, g3, g4, g5, g6, g7⟩ := hB.last
        have wd : ∀ {Q : VK}, True := trivial
        have br := (hall r (by simp)).2
        cases c with
        | tryc i x c => cases htry
        | press i x t =>
          refine ⟨_, rfl, W, _, _, _, rfl, rfl, SqL.of hW4, at_str (i := 0) (words0 _), rfl, _, rfl, iteI (eq_s (a := "press")) ?_⟩
          obtain ⟨o1, o2, o3⟩ := hok
          refine ⟨_, rfl, cn, _, dx, _, _, rfl, hc, T.cl_Console, T.na_cboard, rfl, a, dxa, _, rfl, g1, rfl, fun q5 n5 => ?_⟩
          have s5 := Same.new (o := .met (pAd K "Board" "press") a) n5
          refine ⟨_, rfl, D, _, rfl, .inr (SqL.of (s5 _ _ hD)), upd_same, ?_⟩
          have fin : ∀ H6, Fr [a, l, kl] (upd H4 q5 (.met (pAd K "Board" "press") a)) H6 → BO K H6 a l kl p bs (rest ++ [r] ++ [ER.pressF p r (bs.getD i []) (x : Int) ((t.getD 1 : Nat) : Int)]) ys → (∃ j : Int, V.int (ER.picF (ER.pressF p r (bs.getD i []) (x : Int) ((t.getD 1 : Nat) : Int))).length = V.int j ∧ j.natAbs.log2 < 1920 ∧ Q (.str (Str.ofString (toString j))) H6) := fun H6 f6 hB6 => by
            have f46 := (Same.fr s5).trans f6
            exact ⟨_, rfl, log_small (by omega) (by have := picF_len (ER.pressF p r (bs.getD i []) (x : Int) ((t.getD 1 : Nat) : Int)); rw [pressF_len] at this; omega), kk4 l kl H6 (.inl rfl) (.inl rfl) f46 ⟨⟨dx, f46 _ _ hc hne⟩, hB6⟩⟩
          cases t with
          | none =>
            refine .inr ⟨a, l, kl, p, bs, rest, r, ys, i, x, 1, bs.getD i [], rfl, BO.same hB s5, by omega, hP, by omega, pair_get o1, by omega, by omega, by decide, fun H6 f6 hB6 => ?_⟩
            obtain ⟨j, e1, e2, e3⟩ := fin H6 f6 hB6
            exact ⟨j, by rw [← e1]; rfl, e2, e3⟩
          | some t =>
            refine .inl ⟨a, l, kl, p, bs, rest, r, ys, i, x, t, bs.getD i [], rfl, BO.same hB s5, by omega, hP, by omega, pair_get o1, by omega, by omega, by omega, fun H6 f6 hB6 => ?_⟩
            obtain ⟨j, e1, e2, e3⟩ := fin H6 f6 hB6
            exact ⟨j, by rw [← e1]; rfl, e2, e3⟩
        | turn i =>
          refine ⟨_, rfl, W, _, _, _, rfl, rfl, SqL.of hW4, at_str (i := 0) (words0 _), rfl, _, rfl, iteN (ne_s (a := "turn") (b := "press") (by decide +kernel)) ?_⟩
          refine ⟨_, rfl, W, _, _, _, rfl, rfl, SqL.of hW4, at_str (i := 0) (words0 _), rfl, _, rfl, iteI (eq_s (a := "turn")) ?_⟩
          have hi : i < bs.length := hok
          refine ⟨_, rfl, cn, _, dx, _, _, rfl, hc, T.cl_Console, T.na_cboard, rfl, a, dxa, _, rfl, g1, rfl, _, rfl, D, _, _, _, rfl, rfl, SqL.of hD, at0, a, l, kl, p, bs, rest, r, ys, i, bs.getD i [], rfl, hB, by omega, ?_, hP, by omega, pair_get hi, fun H5 f5 hB5 => ?_⟩
          · intro e; rw [e] at n1; simp at n1
          · exact ⟨_, rfl, log_small (by omega) (by have := picF_len (ER.turnF p r (bs.getD i [])); rw [turnF_len] at this; omega), kk4 l kl H5 (.inl rfl) (.inl rfl) f5 ⟨⟨dx, f5 _ _ hc hne⟩, hB5⟩⟩
        | setc x cc =>
          refine ⟨_, rfl, W, _, _, _, rfl, rfl, SqL.of hW4, at_str (i := 0) (words0 _), rfl, _, rfl, iteN (ne_s (a := "set") (b := "press") (by decide +kernel)) ?_⟩
          refine ⟨_, rfl, W, _, _, _, rfl, rfl, SqL.of hW4, at_str (i := 0) (words0 _), rfl, _, rfl, iteN (ne_s (a := "set") (b := "turn") (by decide +kernel)) ?_⟩
          refine ⟨_, rfl, W, _, _, _, rfl, rfl, SqL.of hW4, at_str (i := 0) (words0 _), rfl, _, rfl, iteI (eq_s (a := "set")) ?_⟩
          obtain ⟨o1, o2, o3⟩ := hok
          have hcp := hset x cc rfl
          refine ⟨_, rfl, D, _, _, _, rfl, rfl, SqL.of hD, at1, _, rfl, cn, _, dx, _, _, rfl, hc, T.cl_Console, T.na_cboard, rfl, _, rfl, D, _, _, _, rfl, rfl, SqL.of hD, at0, a, dxa, _, rfl, g1, a, l, kl, p, bs, rest, r, ys, x, cc, rfl, hB, by omega, by omega, o1, o2, hcp, fun H5 f5 hB5 => ?_⟩
          exact kk4 l kl H5 (.inl rfl) (.inl rfl) f5 ⟨⟨dx, f5 _ _ hc hne⟩, hB5⟩
        | undo =>
          refine ⟨_, rfl, W, _, _, _, rfl, rfl, SqL.of hW4, at_str (i := 0) (words0 _), rfl, _, rfl, iteN (ne_s (a := "undo") (b := "press") (by decide +kernel)) ?_⟩
          refine ⟨_, rfl, W, _, _, _, rfl, rfl, SqL.of hW4, at_str (i := 0) (words0 _), rfl, _, rfl, iteN (ne_s (a := "undo") (b := "turn") (by decide +kernel)) ?_⟩
          refine ⟨_, rfl, W, _, _, _, rfl, rfl, SqL.of hW4, at_str (i := 0) (words0 _), rfl, _, rfl, iteN (ne_s (a := "undo") (b := "set") (by decide +kernel)) ?_⟩
          refine ⟨_, rfl, W, _, _, _, rfl, rfl, SqL.of hW4, at_str (i := 0) (words0 _), rfl, _, rfl, iteI (eq_s (a := "undo")) ?_⟩
          obtain ⟨rfl, rne⟩ := hun rfl
          refine ⟨_, rfl, cn, _, dx, _, _, rfl, hc, T.cl_Console, T.na_cboard, rfl, a, dxa, _, rfl, g1, rfl, a, l, kl, p, bs, rest, r, rfl, hB, rne, fun H5 f5 hB5 => ?_⟩
          exact kk4 l kl H5 (.inl rfl) (.inl rfl) f5 ⟨⟨dx, f5 _ _ hc hne⟩, hB5⟩
        | atc kx =>
          refine ⟨_, rfl, W, _, _, _, rfl, rfl, SqL.of hW4, at_str (i := 0) (words0 _), rfl, _, rfl, iteN (ne_s (a := "at") (b := "press") (by decide +kernel)) ?_⟩
          refine ⟨_, rfl, W, _, _, _, rfl, rfl, SqL.of hW4, at_str (i := 0) (words0 _), rfl, _, rfl, iteN (ne_s (a := "at") (b := "turn") (by decide +kernel)) ?_⟩
          refine ⟨_, rfl, W, _, _, _, rfl, rfl, SqL.of hW4, at_str (i := 0) (words0 _), rfl, _, rfl, iteN (ne_s (a := "at") (b := "set") (by decide +kernel)) ?_⟩
          refine ⟨_, rfl, W, _, _, _, rfl, rfl, SqL.of hW4, at_str (i := 0) (words0 _), rfl, _, rfl, iteN (ne_s (a := "at") (b := "undo") (by decide +kernel)) ?_⟩
          exact ⟨_, rfl, cn, dx, _, rfl, hc, rfl, _, rfl, W, _, _, _, rfl, rfl, SqL.of hW4, at_str (i := 0) (words0 _), _, rfl, cn, a, l, kl, D, p, bs, rest, r, ys, _, rfl, ⟨⟨dx, hc⟩, hB⟩, hD, rfl, hok, hP, br, n1, ln, fun H5 s5 => kk4 l kl H5 (.inl rfl) (.inl rfl) (Same.fr s5) (CO.same ⟨⟨dx, hc⟩, hB⟩ s5)⟩
        | picture =>
          refine ⟨_, rfl, W, _, _, _, rfl, rfl, SqL.of hW4, at_str (i := 0) (words0 _), rfl, _, rfl, iteN (ne_s (a := "picture") (b := "press") (by decide +kernel)) ?_⟩
          refine ⟨_, rfl, W, _, _, _, rfl, rfl, SqL.of hW4, at_str (i := 0) (words0 _), rfl, _, rfl, iteN (ne_s (a := "picture") (b := "turn") (by decide +kernel)) ?_⟩
          refine ⟨_, rfl, W, _, _, _, rfl, rfl, SqL.of hW4, at_str (i := 0) (words0 _), rfl, _, rfl, iteN (ne_s (a := "picture") (b := "set") (by decide +kernel)) ?_⟩
          refine ⟨_, rfl, W, _, _, _, rfl, rfl, SqL.of hW4, at_str (i := 0) (words0 _), rfl, _, rfl, iteN (ne_s (a := "picture") (b := "undo") (by decide +kernel)) ?_⟩
          exact ⟨_, rfl, cn, dx, _, rfl, hc, rfl, _, rfl, W, _, _, _, rfl, rfl, SqL.of hW4, at_str (i := 0) (words0 _), _, rfl, cn, a, l, kl, D, p, bs, rest, r, ys, _, rfl, ⟨⟨dx, hc⟩, hB⟩, hD, rfl, hok, hP, br, n1, ln, fun H5 s5 => kk4 l kl H5 (.inl rfl) (.inl rfl) (Same.fr s5) (CO.same ⟨⟨dx, hc⟩, hB⟩ s5)⟩
        | clear =>
          refine ⟨_, rfl, W, _, _, _, rfl, rfl, SqL.of hW4, at_str (i := 0) (words0 _), rfl, _, rfl, iteN (ne_s (a := "clear") (b := "press") (by decide +kernel)) ?_⟩
          refine ⟨_, rfl, W, _, _, _, rfl, rfl, SqL.of hW4, at_str (i := 0) (words0 _), rfl, _, rfl, iteN (ne_s (a := "clear") (b := "turn") (by decide +kernel)) ?_⟩
          refine ⟨_, rfl, W, _, _, _, rfl, rfl, SqL.of hW4, at_str (i := 0) (words0 _), rfl, _, rfl, iteN (ne_s (a := "clear") (b := "set") (by decide +kernel)) ?_⟩
          refine ⟨_, rfl, W, _, _, _, rfl, rfl, SqL.of hW4, at_str (i := 0) (words0 _), rfl, _, rfl, iteN (ne_s (a := "clear") (b := "undo") (by decide +kernel)) ?_⟩
          exact ⟨_, rfl, cn, dx, _, rfl, hc, rfl, _, rfl, W, _, _, _, rfl, rfl, SqL.of hW4, at_str (i := 0) (words0 _), _, rfl, cn, a, l, kl, D, p, bs, rest, r, ys, _, rfl, ⟨⟨dx, hc⟩, hB⟩, hD, rfl, hok, hP, br, n1, ln, fun H5 s5 => kk4 l kl H5 (.inl rfl) (.inl rfl) (Same.fr s5) (CO.same ⟨⟨dx, hc⟩, hB⟩ s5)⟩
/-- the two together -/
theorem ok_answers (T : TX K mg w) (c_Board_press2 : C8.Met P w K mg base 4 (He.ga K "Board") "press" (sp_Board_press K) [.int 1]) (c_whole_of : C8.Cal P w K mg base 1 "whole_of" (sp_whole_of K) []) (c_Block_init : C8.Mak P w K mg base 1 "Block" (He.ga K "Block") (sp_Block_init K) []) (c_Block_enter : Spm P w K mg base 2 "Block" "__enter__" (sp_Block_enter K)) (c_Block_exit : Spm P w K mg base 1 "Block" "__exit__" (sp_Block_exit K))
    (c_Board_setitem : Spm P w K mg base 4 "Board" "__setitem__" (sp_Board_setitem K)) (c_Board_do_turn : C8.Met P w K mg base 4 (He.ga K "Board") "do_turn" (sp_Board_do_turn K) []) (c_Board_undo : C8.Met P w K mg base 1 (He.ga K "Board") "undo" (sp_Board_undo K) []) (c_Console_told : C8.Met P w K mg base 9 (He.ga K "Console") "told" (sp_Console_told K) []) (c_Board_press_star : Sta P w K mg base 4 "Board" "press" (sp_Board_press_star K)) :
    ∀ d : Nat, C8.Met P w K mg base (12 + 2 * d) (He.ga K "Console") "answer" (sp_answer0 K (d + 1)) []
  | 0 => by
    have tr : C8.Met P w K mg base 10 (He.ga K "Console") "tried" (sp_tried0 K 1) [] := T.met (d := d_Console_tried) (N := n_Console_tried) (k := 9) 77 17 rfl rfl (S := sc_Console_tried) (fun _ _ _ _ _ _ us hl => match us, hl with | [_, _], _ => rfl)
      (fun vs H Q E h => by obtain ⟨cn, wl, i, x, c, rfl, _⟩ := h; rfl) (fun cdv A outer s H vs Q E hr h => by
        obtain ⟨cn, wl, i, x, c, rfl, hwl, a, l, kl, p, bs, rest, r, ys, hC, hwn, hd, _⟩ := h
        have : c.nest + 1 < 1 := hd
        omega) T.cl_Console
    exact ok_answer0 T (k := 11) (by omega) c_Board_setitem c_Board_do_turn c_Board_undo c_whole_of c_Console_told c_Board_press_star (Met.mono' tr (by omega))
  | d + 1 => by
    have ih := ok_answers T c_Board_press2 c_whole_of c_Block_init c_Block_enter c_Block_exit c_Board_setitem c_Board_do_turn c_Board_undo c_Console_told c_Board_press_star d
    exact ok_answer0 T (k := 12 + 2 * d + 1) (by omega) c_Board_setitem c_Board_do_turn c_Board_undo c_whole_of c_Console_told c_Board_press_star (ok_tried0 T (by omega) c_Board_press2 c_whole_of c_Block_init c_Block_enter c_Block_exit ih)
def sp_Console_answer (K : PySem.W.Frag) : Sp := sp_answer0 K 9
def sp_Console_execute (K : PySem.W.Frag) : Sp := sp_answer0 K 9
theorem ok_Console_execute (T : TX K mg w) (c_is_known : C8.Cal P w K mg base 15 "is_known" (sp_is_known K) []) (c_Console_answer : C8.Met P w K mg base 30 (He.ga K "Console") "answer" (sp_Console_answer K) []) : C8.Met P w K mg base 31 (He.ga K "Console") "execute" (sp_Console_execute K) [] := by
  refine T.met (d := d_Console_execute) 75 15 rfl rfl (S := sc_Console_execute) (fun _ _ _ _ _ _ us hl => match us, hl with | [_, _], _ => rfl) (fun vs H Q E h => ?_) (fun cdv A outer s H vs Q E hr h => ?_) T.cl_Console
  · obtain ⟨cn, c, rfl, _⟩ := h; rfl
  · obtain ⟨cn, c, rfl, a, l, kl, p, bs, rest, r, ys, hC, hwn, hd, h8, hok, hun, hset, hP, hall, lrest, lys, n1, ln, kk⟩ := h
    refine ⟨_, (pss_cons (ps_if (PW.pt (pw_or (pt_not (pt_val (pe_callB call_isi (by rfl) (T.fr 5 rfl) (by decide +kernel) (pa_cons (pv 1) (pa_cons (pe_bltn (v := .ty "str") (u := .type "str") (by rfl) (T.fr 3 rfl) (by decide +kernel) rfl) pa_nil))))) (pw_or1 (pt_not (pt_val (C8.pe_c c_is_known hr (by decide) (by rfl) (pa_cons (pv 1) (pa_cons (C8.pe_gc rfl T.g_MOST_TRIED) pa_nil)))))))) (pss_one ps_dead) pss_nil)
    (pss_one (ps_ret (C8.pe_mt c_Console_answer hr (by decide) (pv 0) (pa_cons (pv 1) pa_nil))))), ?_⟩
    refine ⟨_, rfl, _, _, .type "str", .type "str", true, rfl, .ty _, .base (.str _), kit_ty (by decide +kernel), _, rfl, iteN (by decide) ?_⟩
    refine ⟨_, rfl, c, 8, bs.length, r.length, rfl, hd, h8, h8, hP.len, ln, hok, fun H1 s1 => ⟨_, rfl, iteN (by decide) ?_⟩⟩
    have hC1 := hC.same s1
    obtain ⟨⟨dx, hc⟩, hB⟩ := hC1
    refine ⟨_, rfl, cn, dx, _, rfl, hc, rfl, _, rfl, cn, c, rfl, a, l, kl, p, bs, rest, r, ys, ⟨⟨dx, hc⟩, hB⟩, trivial, hd, h8, hok, hun, hset, hP, hall, lrest, lys, n1, ln, fun l' kl' H' h1 h2 f hc => kk l' kl' H' (h1.imp_right s1.free) (h2.imp_right s1.free) ((Same.fr s1).trans f) hc⟩
end
end EV
end
section
set_option Elab.async false
set_option linter.all false
set_option maxRecDepth 100000
set_option maxHeartbeats 4000000
namespace EV
open PySem PySem.Spec PyProof.Rows L2
open ER (cf Bd Row P3 Rule Pan BRow)
section
variable {P : Program} {w : World} {K : PySem.W.Frag} {mg : Str → Option Value} {base : Heap}
/-- the bag of draws -/
def BG (H : Hp) (b : Addr) (m : Nat) : Prop := ∃ x y z : Int, H b = some (.lst [.int x, .int y, .int z]) ∧ 0 ≤ y ∧ y < 1000000000000000003 ∧ 0 ≤ z ∧ z ≤ m
theorem BG.mut {H : Hp} {b : Addr} {m : Nat} (h : BG H b m) : ∀ c ∈ [b], Mut H c := fun c hc => by
  obtain ⟨x, y, z, h1, _⟩ := h
  rw [List.mem_singleton.mp hc]
  exact .inl ⟨_, h1⟩
theorem BG.fr {S : List Addr} {H H' : Hp} {b : Addr} {m : Nat} (h : BG H b m) (f : Fr S H H') (n : b ∉ S) : BG H' b m := by
  obtain ⟨x, y, z, h1, h2⟩ := h
  exact ⟨x, y, z, f _ _ h1 n, h2⟩
theorem BG.same {H H' : Hp} {b : Addr} {m : Nat} (h : BG H b m) (s : Same H H') : BG H' b m := h.fr (S := []) (Same.fr s) (fun z => by cases z)
theorem BG.le {H : Hp} {b : Addr} {m k : Nat} (h : BG H b m) (hk : m ≤ k) : BG H b k := by
  obtain ⟨x, y, z, h1, h2, h3, h4, h5⟩ := h
  exact ⟨x, y, z, h1, h2, h3, h4, by omega⟩
def sp_law_bag (K : PySem.W.Frag) : Sp := fun vs H Q _ => ∃ c : Int, vs = [.int c] ∧ ∀ b H', H b = none → Same H H' → BG H' b 0 → Q (.ref b) H'
theorem ok_law_bag (T : TX K mg w)  : C8.Cal P w K mg base 1 "_law_bag" (sp_law_bag K) [] := by
  refine T.cal (d := d_law_bag) 79 51 rfl rfl (S := sc_law_bag) (fun _ _ _ _ _ _ us hl => match us, hl with | [_], _ => rfl) (fun vs H Q E h => ?_) (fun cdv A outer s H vs Q E hr h => ?_)
  · obtain ⟨c, rfl, _⟩ := h; rfl
  · obtain ⟨c, rfl, k⟩ := h
    refine ⟨_, (pss_cons (ps_set (i := 1) sc_law_bag.nd rfl (by first | exact Or.inl rfl | exact Or.inr rfl) pe_int)
    (pss_cons (ps_if (pt_cmpR op_ge (pv 0) (pe_op op_pow pe_int pe_int) (nomark _)) (pss_one (ps_set (i := 1) sc_law_bag.nd rfl (by first | exact Or.inl rfl | exact Or.inr rfl) (pe_op op_sub (pv 0) (pe_op op_pow pe_int pe_int)))) pss_nil)
    (pss_one (ps_ret (pe_lst (pa_cons (pv 1) (pa_cons (pe_op op_mod (pe_callTy call_int1 (by rfl) (T.fr 0 rfl) (by decide +kernel) (pa_cons (pv 0) pa_nil)) pe_int) (pa_cons pe_int pa_nil)))))))), ?_⟩
    have fin : ∀ x : Int, ∀ b, H b = none → Q (.ref b) (upd H b (.lst [.int x, .int (c % 1000000000000000003), .int 0])) := fun x b nb =>
      k b _ nb (Same.new nb) ⟨x, _, 0, upd_same, Int.emod_nonneg _ (by decide), Int.emod_lt_of_pos _ (by decide), Int.le_refl _, Int.le_refl _⟩
    refine ⟨_, rfl, _, _, rfl, rfl, ⟨by decide, by decide, by decide⟩, _, _, rfl, rfl, _, rfl, ite_both ?_ ?_⟩
    · refine ⟨_, rfl, _, _, rfl, rfl, ⟨by decide, by decide, by decide⟩, _, _, rfl, rfl, ?_⟩
      exact ⟨_, rfl, _, rfl, .inl ⟨_, rfl, _, _, rfl, rfl, by show (0 : Int) < 1000000000000000003; decide, by show 3 ≤ sizeLine; decide, fun b nb => fin _ b nb⟩⟩
    · exact ⟨_, rfl, _, rfl, .inl ⟨_, rfl, _, _, rfl, rfl, by show (0 : Int) < 1000000000000000003; decide, by show 3 ≤ sizeLine; decide, fun b nb => fin _ b nb⟩⟩
def sp_law_draw (K : PySem.W.Frag) : Sp := fun vs H Q _ => ∃ (b : Addr) (n : Int) (m : Nat), vs = [.ref b, .int n] ∧ BG H b m ∧ 0 < n ∧ n ≤ 100 ∧ m ≤ 10000 ∧ ∀ v H', 0 ≤ v → v < n → BG H' b (m + 1) → Fr [b] H H' → Q (.int v) H'
theorem nat_lt {x : Int} {k : Int} {a : Nat} (h0 : 0 ≤ x) (h1 : x < k) (hk : k ≤ ((2 ^ a : Nat) : Int)) : x.natAbs < 2 ^ a := by omega
theorem ok_law_draw (T : TX K mg w)  : C8.Cal P w K mg base 1 "_law_draw" (sp_law_draw K) [] := by
  refine T.cal (d := d_law_draw) 80 52 rfl rfl (S := sc_law_draw) (fun _ _ _ _ _ _ us hl => match us, hl with | [_, _], _ => rfl) (fun vs H Q E h => ?_) (fun cdv A outer s H vs Q E hr h => ?_)
  · obtain ⟨b, n, m, rfl, _⟩ := h; rfl
  · obtain ⟨b, n, m, rfl, ⟨x, y, z, hb, y0, y1, z0, z1⟩, n0, n1, hm, k⟩ := h
    refine ⟨_, (pss_cons (ps_if (pt_cmpR op_gt (pe_ix ix_list (pv 0) pe_int (fun _ _ => rfl)) pe_int (nomark _)) (pss_cons (ps_set (i := 2) sc_law_draw.nd rfl (by first | exact Or.inl rfl | exact Or.inr rfl) (pe_op op_mod (pe_callTy call_int1 (by rfl) (T.fr 0 rfl) (by decide +kernel) (pa_cons (pe_ix ix_list (pv 0) pe_int (fun _ _ => rfl)) pa_nil)) (pv 1)))
    (pss_cons (ps_asg (pe_op op_fdivW (pe_ix ix_list (pv 0) pe_int (fun _ _ => rfl)) (pv 1)) (pg_sub (pv 0) pe_int set_list))
    (pss_one (ps_ret (pv 2))))) pss_nil)
    (pss_cons (ps_asg (pe_op op_add (pe_ix ix_list (pv 0) pe_int (fun _ _ => rfl)) pe_int) (pg_sub (pv 0) pe_int set_list))
    (pss_cons (ps_set (i := 3) sc_law_draw.nd rfl (by first | exact Or.inl rfl | exact Or.inr rfl) (pe_ix ix_list (pv 0) pe_int (fun _ _ => rfl)))
    (pss_cons (ps_set (i := 4) sc_law_draw.nd rfl (by first | exact Or.inl rfl | exact Or.inr rfl) (pe_op op_add (pe_op op_mulW (pe_op op_add (pe_ix ix_list (pv 0) pe_int (fun _ _ => rfl)) pe_int) (pe_op op_add (pe_op op_add (pe_op op_mulW (pe_op op_mulW pe_int (pv 3)) (pv 3)) (pe_op op_mulW pe_int (pv 3))) pe_int)) (pe_op op_mulW pe_int (pv 3))))
    (pss_cons (ps_set (i := 4) sc_law_draw.nd rfl (by first | exact Or.inl rfl | exact Or.inr rfl) (pe_op op_fdivW (pe_op op_mod (pe_callTy call_int1 (by rfl) (T.fr 0 rfl) (by decide +kernel) (pa_cons (pe_op op_add (pe_op op_mulW (pv 4) (pv 4)) (pe_op op_mulW pe_int (pv 4))) pa_nil)) pe_int) pe_int))
    (pss_one (ps_ret (pe_op op_mod (pe_op op_fdivW (pe_op op_mod (pe_callTy call_int1 (by rfl) (T.fr 0 rfl) (by decide +kernel) (pa_cons (pe_op op_add (pe_op op_add (pe_op op_mulW (pv 4) (pv 4)) (pe_op op_mulW pe_int (pv 4))) (pv 3)) pa_nil)) pe_int) pe_int) (pv 1))))))))), ?_⟩
    refine ⟨_, rfl, b, _, _, _, rfl, rfl, SqL.of hb, at0, _, _, rfl, rfl, _, rfl, ite_both ?_ ?_⟩
    · refine ⟨_, rfl, b, _, _, _, rfl, rfl, SqL.of hb, at0, .inl ⟨_, rfl, _, rfl, _, _, rfl, rfl, n0, ?_⟩⟩
      refine ⟨_, rfl, b, _, _, _, rfl, rfl, SqL.of hb, at0, _, rfl, _, _, rfl, rfl, wide_div n0 (b := 7) (nat_lt (k := 101) (by omega) (by omega) (by decide)) (by decide) (by decide), ?_⟩
      refine ⟨_, rfl, b, _, _, 0, rfl, rfl, hb, rfl, ?_⟩
      exact ⟨_, rfl, k _ _ (Int.emod_nonneg _ (by omega)) (Int.emod_lt_of_pos _ n0) ⟨x / n, y, z, upd_same, y0, y1, z0, by omega⟩ (Fr.upd (by simp))⟩
    · refine ⟨_, rfl, b, _, _, _, rfl, rfl, SqL.of hb, rfl, _, _, rfl, rfl, ?_⟩
      refine ⟨_, rfl, b, _, _, 2, rfl, rfl, hb, rfl, ?_⟩
      have hb1 : upd H b (.lst ([V.int x, .int y, .int z].set 2 (.int (z + 1)))) b = some (.lst [.int x, .int y, .int (z + 1)]) := upd_same
      have f1 : Fr [b] H (upd H b (.lst ([V.int x, .int y, .int z].set 2 (.int (z + 1))))) := Fr.upd (by simp)
      generalize upd H b (.lst ([V.int x, .int y, .int z].set 2 (.int (z + 1)))) = H1 at hb1 f1
      obtain ⟨t, ht⟩ : ∃ t, t = z + 1 := ⟨_, rfl⟩
      rw [← ht] at hb1
      have t0 : 0 ≤ t := by omega
      have t1 : t < 10002 := by omega
      have w5 : ∀ {i : Int} {a : Nat}, 0 ≤ i → i < ((2 ^ a : Nat) : Int) → 0 < a → a ≤ 1000 → CMulW i t := fun {i a} h0 h1 h2 h3 => wide_mul (a := a) (b := 14) (nat_lt h0 h1 (Int.le_refl _)) (nat_lt (k := 10002) t0 t1 (by decide)) h2 (by decide) (by omega)
      have tt : t * t ≤ 10002 * 10002 := Int.mul_le_mul (by omega) (by omega) t0 (by decide)
      have tt0 : 0 ≤ t * t := Int.mul_nonneg t0 t0
      have e31 : 31 * t * t = 31 * (t * t) := Int.mul_assoc _ _ _
      have hB0 : 0 ≤ 31 * t * t + 104729 * t + 13 := by rw [e31]; omega
      have hB1 : 31 * t * t + 104729 * t + 13 < ((2 ^ 40 : Nat) : Int) := by
        rw [e31]
        have : ((2 ^ 40 : Nat) : Int) = 1099511627776 := by decide
        omega
      have hA : (y + 7).natAbs < 2 ^ 61 := nat_lt (k := 1000000000000000010) (by omega) (by omega) (by decide)
      have hBn : (31 * t * t + 104729 * t + 13).natAbs < 2 ^ 40 := nat_lt hB0 hB1 (Int.le_refl _)
      have hCn := wide_lt hA hBn
      have hDn : ((y + 7) * (31 * t * t + 104729 * t + 13) + 17 * t).natAbs < 2 ^ 102 := by
        have e1 : (2 : Nat) ^ (61 + 40) = 2535301200456458802993406410752 := by decide
        have e2 : (2 : Nat) ^ 102 = 5070602400912917605986812821504 := by decide
        rw [e1] at hCn
        rw [e2]
        generalize (y + 7) * (31 * t * t + 104729 * t + 13) = C at hCn
        omega
      refine ⟨_, rfl, b, _, _, _, rfl, rfl, SqL.of hb1, rfl, ?_⟩
      have c1 : CMulW 31 t := w5 (a := 5) (by decide) (by decide) (by decide) (by decide)
      have c2 : CMulW (31 * t) t := by
        have e : ((2 ^ 20 : Nat) : Int) = 1048576 := by decide
        exact w5 (a := 20) (by omega) (by rw [e]; omega) (by decide) (by decide)
      have c3 : CMulW 104729 t := w5 (a := 17) (by decide) (by decide) (by decide) (by decide)
      have c4 : CMulW 17 t := w5 (a := 5) (by decide) (by decide) (by decide) (by decide)
      have c5 := wide_mul hA hBn (by decide) (by decide) (by decide)
      refine ⟨_, rfl, b, _, _, _, rfl, rfl, SqL.of hb1, rfl, _, _, rfl, rfl, _, rfl, _, _, rfl, rfl, c1, _, rfl, _, _, rfl, rfl, c2, _, rfl, _, _, rfl, rfl, c3, _, _, rfl, rfl, _, _, rfl, rfl, _, _, rfl, rfl, c5, _, rfl, _, _, rfl, rfl, c4, _, _, rfl, rfl, ?_⟩
      have rest : ∀ D1 : Int, D1.natAbs < 2 ^ 102 → CMulW D1 D1 ∧ CMulW 999983 D1 := fun D1 h => ⟨wide_mul h h (by decide) (by decide) (by decide), wide_mul (a := 20) (nat_lt (k := 999984) (by decide) (by decide) (by decide)) h (by decide) (by decide) (by decide)⟩
      obtain ⟨c6, c7⟩ := rest _ hDn
      refine ⟨_, rfl, _, rfl, _, _, rfl, rfl, c6, _, rfl, _, _, rfl, rfl, c7, _, _, rfl, rfl, .inl ⟨_, rfl, _, _, rfl, rfl, by show (0 : Int) < 1000000000000000009; decide, _, _, rfl, rfl, wide_div (b := 10) (by decide) (by decide) (by decide) (by decide), ?_⟩⟩
      dsimp only
      generalize ((y + 7) * (31 * t * t + 104729 * t + 13) + 17 * t) * ((y + 7) * (31 * t * t + 104729 * t + 13) + 17 * t) + 999983 * ((y + 7) * (31 * t * t + 104729 * t + 13) + 17 * t) = F1
      have m0 : 0 ≤ F1 % 1000000000000000009 := Int.emod_nonneg _ (by decide)
      have m1 : F1 % 1000000000000000009 < 1000000000000000009 := Int.emod_lt_of_pos _ (by decide)
      have hE0 : 0 ≤ F1 % 1000000000000000009 / 1009 := by omega
      have hE1 : F1 % 1000000000000000009 / 1009 < 1000000000000000009 := by omega
      have hEn : (F1 % 1000000000000000009 / 1009).natAbs < 2 ^ 60 := nat_lt hE0 hE1 (by decide)
      have c8 := wide_mul hEn hEn (by decide) (by decide) (by decide)
      have c9 : CMulW 65537 (F1 % 1000000000000000009 / 1009) := wide_mul (a := 17) (nat_lt (k := 65538) (by decide) (by decide) (by decide)) hEn (by decide) (by decide) (by decide)
      refine ⟨_, rfl, _, rfl, _, _, rfl, rfl, c8, _, rfl, _, _, rfl, rfl, c9, _, _, rfl, rfl, _, rfl, _, _, rfl, rfl, .inl ⟨_, rfl, _, _, rfl, rfl, by show (0 : Int) < 2147483629; decide, _, _, rfl, rfl, wide_div (b := 5) (by decide) (by decide) (by decide) (by decide), _, rfl, _, _, rfl, rfl, n0, ?_⟩⟩
      exact k _ _ (Int.emod_nonneg _ (by omega)) (Int.emod_lt_of_pos _ n0) ⟨x, y, t, hb1, y0, y1, t0, by omega⟩ f1
def sp_law_base (K : PySem.W.Frag) : Sp := fun vs H Q _ => ∃ (b : Addr) (m : Nat), vs = [.ref b] ∧ BG H b m ∧ m ≤ 9000 ∧ ∀ p H', P3 p → BG H' b (m + 1) → Fr [b] H H' → Q (.int p) H'
theorem at_235 {v : Int} (h0 : 0 ≤ v) (h1 : v < 3) : ∃ p, P3 p ∧ atI [V.int 2, V.int 3, V.int 5] v = some (.int p) := by
  have : v = 0 ∨ v = 1 ∨ v = 2 := by omega
  rcases this with rfl | rfl | rfl
  · exact ⟨2, .inl rfl, rfl⟩
  · exact ⟨3, .inr (.inl rfl), rfl⟩
  · exact ⟨5, .inr (.inr rfl), rfl⟩
theorem Fr.ofNone {S : List Addr} {H H1 H2 : Hp} (s : Same H H1) (f : Fr S H1 H2) : Fr S H H2 := (Same.fr s).trans f
theorem ok_law_base (T : TX K mg w) (c_law_draw : C8.Cal P w K mg base 1 "_law_draw" (sp_law_draw K) []) : C8.Cal P w K mg base 2 "_law_base" (sp_law_base K) [] := by
  refine T.cal (d := d_law_base) 81 53 rfl rfl (S := sc_law_base) (fun _ _ _ _ _ _ us hl => match us, hl with | [_], _ => rfl) (fun vs H Q E h => ?_) (fun cdv A outer s H vs Q E hr h => ?_)
  · obtain ⟨b, m, rfl, _⟩ := h; rfl
  · obtain ⟨b, m, rfl, hb, hm, k⟩ := h
    refine ⟨_, (pss_one (ps_ret (pe_ix ix_list (pe_lst (pa_cons pe_int (pa_cons pe_int (pa_cons pe_int pa_nil)))) (C8.pe_c c_law_draw hr (by decide) (by rfl) (pa_cons (pv 0) (pa_cons pe_int pa_nil))) (fun _ _ => rfl)))), ?_⟩
    refine ⟨by show 3 ≤ sizeLine; decide, fun l nl => ?_⟩
    have s1 := Same.new (o := .lst [V.int 2, V.int 3, V.int 5]) nl
    have hl1 : upd H l (.lst [V.int 2, V.int 3, V.int 5]) l = some (.lst [V.int 2, V.int 3, V.int 5]) := upd_same
    generalize upd H l (.lst [V.int 2, V.int 3, V.int 5]) = H1 at s1 hl1
    have bl : l ≠ b := fun e => by obtain ⟨x, y, z, h1, _⟩ := hb; rw [e, h1] at nl; cases nl
    refine ⟨_, rfl, b, 3, m, rfl, hb.same s1, by decide, by decide, by omega, fun v H2 v0 v1 hb2 f2 => ?_⟩
    obtain ⟨p, hp, hat⟩ := at_235 v0 v1
    refine ⟨l, _, _, _, rfl, rfl, SqL.of (f2 _ _ hl1 (by simpa using bl)), hat, k p H2 hp hb2 (Fr.ofNone s1 f2)⟩
end
end EV
end
section
set_option Elab.async false
set_option linter.all false
set_option maxRecDepth 100000
set_option maxHeartbeats 4000000
namespace EV
open PySem PySem.Spec PyProof.Rows L2
open ER (cf Bd Row P3 Rule Pan BRow)
section
variable {P : Program} {w : World} {K : PySem.W.Frag} {mg : Str → Option Value} {base : Heap}
structure PR (p : Int) (b : List (Int × Int)) : Prop where
  asc : b.Pairwise fun x y => x.1 < y.1
  amt : ∀ q ∈ b, 0 < q.2 ∧ q.2 < p
  off : ∀ q ∈ b, -4 ≤ q.1 ∧ q.1 ≤ 4
theorem keepT_fr1 {H H' : Hp} {b : Addr} {m : Nat} (h : BG H b m) (f : Fr [b] H H') : KeepT K H H' := f.keepT h.mut
def sp_law_pairs (K : PySem.W.Frag) : Sp := fun vs H Q _ => ∃ (b : Addr) (p : Int) (m : Nat), vs = [.ref b, .int p, .int 4] ∧ BG H b m ∧ P3 p ∧ m ≤ 8000 ∧ ∀ v ps H', TP K H' v ps → PR p ps → BG H' b (m + 30) → Fr [b] H H' → Q v H'
theorem ok_law_pairs (T : TX K mg w) (c_law_draw : C8.Cal P w K mg base 1 "_law_draw" (sp_law_draw K) []) : C8.Cal P w K mg base 2 "_law_pairs" (sp_law_pairs K) [] := by
  refine T.cal (d := d_law_pairs) 82 54 rfl rfl (S := sc_law_pairs) (fun _ _ _ _ _ _ us hl => match us, hl with | [_, _, _], _ => rfl) (fun vs H Q E h => ?_) (fun cdv A outer s H vs Q E hr h => ?_)
  · obtain ⟨b, p, m, rfl, _⟩ := h; rfl
  · obtain ⟨b, p, m, rfl, hb, hp, hm, k⟩ := h
    have p2 := hp.two
    have p5 := hp.le
    refine ⟨_, (pss_cons (ps_set (i := 3) sc_law_pairs.nd rfl (by first | exact Or.inl rfl | exact Or.inr rfl) (pe_ix ix_list (pe_lst (pa_cons pe_int (pa_cons pe_int (pa_cons pe_int pa_nil)))) (C8.pe_c c_law_draw hr (by decide) (by rfl) (pa_cons (pv 0) (pa_cons pe_int pa_nil))) (fun _ _ => rfl)))
    (pss_cons (ps_setLc (i := 4) (own := [("_law_k", 5)]) (g := (gName 5)) rfl sc_law_pairs.nd rfl rfl (sw_true rfl rfl rfl (by decide +kernel)) (pi_range1 rfl (T.fr 11 rfl) (pa_cons (pe_op op_add (pe_op op_mul pe_int (pv 2)) pe_int) pa_nil)) (blkOk_by (own := [("_law_k", 5)]) (N := n_law_pairs) (sc := defScope s_law_pairs) (by decide +kernel)) (fun _ _ _ _ _ => (pg_name (i := 5) sc_law_pairs.nd rfl (by first | exact Or.inl rfl | exact Or.inr rfl))) (fun _ _ _ _ _ => (pts_one (pt_cmpR op_eq (C8.pe_c c_law_draw hr (by decide) (by rfl) (pa_cons (pv 0) (pa_cons (pv 3) pa_nil))) pe_int (nomark _)))) (fun _ _ _ _ _ => (pe_tup (pa_cons (pe_op op_sub (pv 5) (pv 2)) (pa_cons (pe_op op_add pe_int (C8.pe_c c_law_draw hr (by decide) (by rfl) (pa_cons (pv 0) (pa_cons (pe_op op_sub (pv 1) pe_int) pa_nil)))) pa_nil)))))
    (pss_one (ps_ret (pe_callTy call_tuple_of (by rfl) (T.fr 2 rfl) (by decide +kernel) (pa_cons (pv 4) pa_nil)))))), ?_⟩
    refine ⟨by show 3 ≤ sizeLine; decide, fun l nl => ?_⟩
    have s1 := Same.new (o := .lst [V.int 2, V.int 3, V.int 5]) nl
    have hl1 : upd H l (.lst [V.int 2, V.int 3, V.int 5]) l = some (.lst [V.int 2, V.int 3, V.int 5]) := upd_same
    generalize upd H l (.lst [V.int 2, V.int 3, V.int 5]) = H1 at s1 hl1
    have bl : l ≠ b := fun e => by obtain ⟨x, y, z, h1, _⟩ := hb; rw [e, h1] at nl; cases nl
    refine ⟨_, rfl, b, 3, m, rfl, hb.same s1, by decide, by decide, by omega, fun v H2 v0 v1 hb2 f2 => ?_⟩
    obtain ⟨o, ho, hat⟩ := at_235 v0 v1
    have o2 := ho.two
    have o5 := ho.le
    refine ⟨l, _, _, _, rfl, rfl, SqL.of (f2 _ _ hl1 (by simpa using bl)), hat, ?_⟩
    have f02 : Fr [b] H H2 := Fr.ofNone s1 f2
    refine ⟨_, rfl, _, _, rfl, rfl, .inl (by omega), _, _, rfl, rfl, 9, rfl, by decide, by decide, fun D nD => ?_⟩
    have Db : D ≠ b := fun e => by obtain ⟨x, y, z, h1, _⟩ := hb2; rw [e, h1] at nD; cases nD
    refine lc_it walk_range (fun i H' => Fr [b] H2 H' ∧ BG H' b (m + 1 + 2 * i) ∧ ∃ acc ps, H' D = some (.lst acc) ∧ Paired (fun x (q : Int × Int) => TI K H' x [q.1, q.2]) acc ps ∧ PR p ps ∧ (∀ q ∈ ps, q.1 < (i : Int) - 4) ∧ ps.length ≤ i)
      ⟨Same.fr (Same.new nD), hb2.same (Same.new nD), [], [], upd_same, .nil, ⟨.nil, (fun _ h => by cases h), (fun _ h => by cases h)⟩, (fun _ h => by cases h), Nat.le_refl _⟩ (fun _ _ _ _ => trivial) ?_ ?_
    · rintro i x H3' H3 hi ⟨f3, hb3, acc, ps, hacc, pr, hR, hlt, lp⟩ ⟨rfl, rfl⟩
      have hi9 : i < 9 := hi
      refine ⟨rfl, _, rfl, _, rfl, b, o, _, rfl, hb3, by omega, by omega, by omega, fun v4 H4 v40 v41 hb4 f4 => ?_⟩
      have k34 : KeepT K H3 H4 := keepT_fr1 hb3 f4
      have hacc4 := f4 _ _ hacc (by simpa using Db)
      refine ⟨rfl, _, rfl, ?_⟩
      by_cases hv : v4 = 0
      · refine iteI (eqT hv) ?_
        refine ⟨_, rfl, _, rfl, _, _, rfl, rfl, _, rfl, _, rfl, _, _, rfl, rfl, b, p - 1, _, rfl, hb4, by omega, by omega, by omega, fun v5 H5 v50 v51 hb5 f5 => ?_⟩
        have hacc5 := f5 _ _ hacc4 (by simpa using Db)
        refine ⟨_, _, rfl, rfl, by show 2 ≤ sizeLine; decide, fun t nt => ?_⟩
        have s6 := Same.new (o := .tup [.int (0 + (i : Int) - 4), .int (1 + v5)]) nt
        have k46 : KeepT K H4 _ := (keepT_fr1 hb4 f5).trans (keepT s6)
        have lacc := paired_len pr
        have hacc6 := s6 _ _ hacc5
        have k7 : KeepT K _ _ := keepT_lst (o := .lst (acc ++ [.ref t])) hacc6
        refine ⟨acc, hacc6, by rw [sizeLine_eq]; omega, ?_⟩
        have k37 := (k34.trans k46).trans k7
        have Db' : b ∉ [D] := by simpa using Db.symm
        have f37 : Fr [b] H2 (upd (upd H5 t (.tup [.int (0 + (i : Int) - 4), .int (1 + v5)])) D (.lst (acc ++ [.ref t]))) := fun y u hy hn => by
          rw [upd_ne (fun e => by rw [e, nD] at hy; cases hy)]
          exact s6 _ _ (f5 _ _ (f4 _ _ (f3 _ _ hy hn) hn) hn)
        refine ⟨f37, (((hb5.same s6).fr (S := [D]) (Fr.upd (by simp)) Db').le (by omega)), acc ++ [.ref t], ps ++ [(0 + (i : Int) - 4, 1 + v5)], upd_same, paired_app (paired_mono (fun _ _ z => z.keep k37) pr) (.cons ⟨t, rfl, k7 _ _ (SqT.of upd_same)⟩ .nil), ⟨?_, ?_, ?_⟩, ?_, by simp; omega⟩
        · refine List.pairwise_append.mpr ⟨hR.asc, by simp, fun x hx y hy => ?_⟩
          rw [List.mem_singleton.mp hy]
          have := hlt x hx
          show x.1 < 0 + (i : Int) - 4
          omega
        · intro q hq
          rcases List.mem_append.mp hq with hq | hq
          · exact hR.amt q hq
          · rw [List.mem_singleton.mp hq]
            show 0 < 1 + v5 ∧ 1 + v5 < p
            omega
        · intro q hq
          rcases List.mem_append.mp hq with hq | hq
          · exact hR.off q hq
          · rw [List.mem_singleton.mp hq]
            show -4 ≤ 0 + (i : Int) - 4 ∧ 0 + (i : Int) - 4 ≤ 4
            omega
        · intro q hq
          rcases List.mem_append.mp hq with hq | hq
          · have := hlt q hq; omega
          · rw [List.mem_singleton.mp hq]
            show 0 + (i : Int) - 4 < ((i + 1 : Nat) : Int) - 4
            omega
      · refine iteN (eqF hv) ⟨f3.trans f4, hb4.le (by omega), acc, ps, hacc4, paired_mono (fun _ _ z => z.keep k34) pr, hR, fun q hq => by have := hlt q hq; omega, by omega⟩
    · rintro H3 ⟨f3, hb3, acc, ps, hacc, pr, hR, hlt, lp⟩
      refine ⟨_, rfl, D, acc, rfl, .inl ⟨SqL.of hacc, fun q nq => ?_⟩⟩
      have s4 := Same.new (o := .tup acc) nq
      exact k _ ps _ ⟨q, acc, rfl, SqT.of upd_same, paired_mono (fun _ _ z => z.same s4) pr⟩ hR ((hb3.le (by show m + 1 + 2 * 9 ≤ m + 30; omega)).same s4) ((f02.trans f3).trans (Same.fr s4))
def sp_law_desk (K : PySem.W.Frag) : Sp := fun vs H Q _ => ∃ (b : Addr) (p : Int) (m : Nat), vs = [.ref b, .int p, .int 3, .int 4] ∧ BG H b m ∧ P3 p ∧ m ≤ 7000 ∧ ∀ v bs H', TPan K H' v p bs → Pan p bs → BG H' b (m + 200) → Fr [b] H H' → Q v H'
theorem ok_law_desk (T : TX K mg w) (c_law_draw : C8.Cal P w K mg base 1 "_law_draw" (sp_law_draw K) []) (c_law_pairs : C8.Cal P w K mg base 2 "_law_pairs" (sp_law_pairs K) []) : C8.Cal P w K mg base 3 "_law_desk" (sp_law_desk K) [] := by
  refine T.cal (d := d_law_desk) 83 55 rfl rfl (S := sc_law_desk) (fun _ _ _ _ _ _ us hl => match us, hl with | [_, _, _, _], _ => rfl) (fun vs H Q E h => ?_) (fun cdv A outer s H vs Q E hr h => ?_)
  · obtain ⟨b, p, m, rfl, _⟩ := h; rfl
  · obtain ⟨b, p, m, rfl, hb, hp, hm, k⟩ := h
    have p2 := hp.two
    have p5 := hp.le
    refine ⟨_, (pss_cons (ps_set (i := 4) sc_law_desk.nd rfl (by first | exact Or.inl rfl | exact Or.inr rfl) (pe_lst pa_nil))
    (pss_cons (ps_for PassesOwn.never rfl (pi_range1 rfl (T.fr 11 rfl) (pa_cons (pe_op op_add pe_int (C8.pe_c c_law_draw hr (by decide) (by rfl) (pa_cons (pv 0) (pa_cons (pv 2) pa_nil)))) pa_nil)) (pg_name (i := 5) sc_law_desk.nd rfl (by first | exact Or.inl rfl | exact Or.inr rfl)) (pss_cons (ps_set (i := 6) sc_law_desk.nd rfl (by first | exact Or.inl rfl | exact Or.inr rfl) (C8.pe_c c_law_pairs hr (by decide) (by rfl) (pa_cons (pv 0) (pa_cons (pv 1) (pa_cons (pv 3) pa_nil)))))
    (pss_one (ps_expr (pe_bm PySem.F.plainAttrs_list PySem.F.slot_list_append PySem.F.type_list_append mt_append (pv 4) (pa_cons (pe_ifExp (pt_cmpR (op_neD hr.units) (pv 6) (pe_tup pa_nil) (nomark _)) (pv 6) (pe_tup (pa_cons (pe_tup (pa_cons (pe_op op_sub (C8.pe_c c_law_draw hr (by decide) (by rfl) (pa_cons (pv 0) (pa_cons (pe_op op_add (pe_op op_mul pe_int (pv 3)) pe_int) pa_nil))) (pv 3)) (pa_cons (pe_op op_add pe_int (C8.pe_c c_law_draw hr (by decide) (by rfl) (pa_cons (pv 0) (pa_cons (pe_op op_sub (pv 1) pe_int) pa_nil)))) pa_nil))) pa_nil))) pa_nil))))))
    (pss_one (ps_ret (pe_tup (pa_cons (pv 1) (pa_cons (pe_callTy call_tuple_of (by rfl) (T.fr 2 rfl) (by decide +kernel) (pa_cons (pv 4) pa_nil)) pa_nil))))))), ?_⟩
    refine ⟨by show 0 ≤ sizeLine; decide, fun F nF => ?_⟩
    have s1 := Same.new (o := .lst []) nF
    have hF1 : upd H F (.lst []) F = some (.lst []) := upd_same
    have Fb : F ≠ b := fun e => by obtain ⟨x, y, z, h1, _⟩ := hb; rw [e, h1] at nF; cases nF
    generalize upd H F (.lst []) = H1 at s1 hF1
    refine ⟨_, rfl, _, rfl, b, 3, m, rfl, hb.same s1, by decide, by decide, by omega, fun v H2 v0 v1 hb2 f2 => ?_⟩
    have hF2 := f2 _ _ hF1 (by simpa using Fb)
    refine ⟨_, _, rfl, rfl, 1 + v, rfl, by omega, by omega, ?_⟩
    obtain ⟨n, hn⟩ : ∃ n : Nat, n = (1 + v).toNat := ⟨_, rfl⟩
    refine for_it walk_range (fun i σ H' => ∃ (c5 c6 : Option V) (xs : List V) (bs : List (List (Int × Int))), σ = [some (.ref b), some (.int p), some (.int 3), some (.int 4), some (.ref F), c5, c6] ∧ Fr [b] H H' ∧ BG H' b (m + 1 + 60 * i) ∧ H' F = some (.lst xs) ∧ Paired (TP K H') xs bs ∧ (∀ r ∈ bs, Rule p r) ∧ bs.length = i)
      ⟨none, none, [], [], rfl, Fr.ofNone s1 f2, hb2, hF2, .nil, (fun _ h => by cases h), rfl⟩ (fun _ _ _ _ _ => trivial) ?_ ?_
    · rintro i x σ H3' H3 hi ⟨c5, c6, xs, bs, rfl, f3, hb3, hF3, pr, hR, lb⟩ ⟨rfl, rfl⟩
      have hi3 : i < 3 := by have : i < (1 + v).toNat := hi; omega
      refine ⟨_, rfl, _, rfl, _, rfl, b, p, _, rfl, hb3, hp, by omega, fun u ps H4 hu hPR hb4 f4 => ?_⟩
      have k34 := keepT_fr1 hb3 f4 (K := K)
      have hF4 := f4 _ _ hF3 (by simpa using Fb)
      have lxs := paired_len pr
      refine ⟨_, rfl, .inl ⟨rfl, _, SqL.of hF4⟩, _, rfl, by show 0 ≤ sizeLine; decide, fun t nt => ?_⟩
      have s5 := Same.new (o := .tup []) nt
      refine ⟨_, _, dp_P (hu.same s5), dp_N upd_same, (ok_dP _).shaped, (ok_dN (n := 0)).shaped, _, rfl, ?_⟩
      have hF5 := s5 _ _ hF4
      have hb5 := hb4.same s5
      have hu5 := hu.same s5
      generalize upd H4 t (.tup []) = H5 at s5 hF5 hb5 hu5
      rw [eqvN_P]
      have push : ∀ (v : V) (r : List (Int × Int)) (H6 : Hp), KeepT K H3 H6 → Fr [b] H H6 → BG H6 b (m + 1 + 60 * (i + 1)) → H6 F = some (.lst xs) → TP K H6 v r → Rule p r →
          ∃ (xs' : List V) (bs' : List (List (Int × Int))), Fr [b] H (upd H6 F (.lst (xs ++ [v]))) ∧ BG (upd H6 F (.lst (xs ++ [v]))) b (m + 1 + 60 * (i + 1)) ∧ upd H6 F (.lst (xs ++ [v])) F = some (.lst xs') ∧ Paired (TP K (upd H6 F (.lst (xs ++ [v])))) xs' bs' ∧ (∀ r ∈ bs', Rule p r) ∧ bs'.length = i + 1 := fun v r H6 k6 f6 hb6 hF6 hv6 hR6 => by
        have k7 : KeepT K H6 (upd H6 F (.lst (xs ++ [v]))) := keepT_lst hF6
        refine ⟨xs ++ [v], bs ++ [r], fun y u hy hn => ?_, hb6.fr (S := [F]) (Fr.upd (by simp)) (by simpa using Fb.symm), upd_same, paired_app (paired_mono (fun _ _ z => (z.keep k6).keep k7) pr) (.cons (hv6.keep k7) .nil), fun q hq => ?_, by simp [lb]⟩
        · rw [upd_ne (fun e => by rw [e, nF] at hy; cases hy)]
          exact f6 _ _ hy hn
        · rcases List.mem_append.mp hq with hq | hq
          · exact hR q hq
          · rw [List.mem_singleton.mp hq]; exact hR6
      by_cases e : ps = []
      · refine iteN (by simp [e]) ?_
        refine ⟨_, rfl, _, rfl, _, _, rfl, rfl, .inl (by omega), _, _, rfl, rfl, b, 9, _, rfl, hb5, by decide, by decide, by omega, fun v6 H6 v60 v61 hb6 f6 => ?_⟩
        refine ⟨_, rfl, _, _, rfl, rfl, _, rfl, _, rfl, _, _, rfl, rfl, b, p - 1, _, rfl, hb6, by omega, by omega, by omega, fun v7 H7 v70 v71 hb7 f7 => ?_⟩
        refine ⟨_, _, rfl, rfl, by show 2 ≤ sizeLine; decide, fun t8 n8 => ?_⟩
        have s8 := Same.new (o := .tup [.int (v6 - 4), .int (1 + v7)]) n8
        have h8 : TI K (upd H7 t8 (.tup [.int (v6 - 4), .int (1 + v7)])) (.ref t8) [v6 - 4, 1 + v7] := ⟨t8, rfl, SqT.of upd_same⟩
        have k57 : KeepT K H5 H7 := (keepT_fr1 hb5 f6).trans (keepT_fr1 hb6 f7)
        have f57 : Fr [b] H5 H7 := f6.trans f7
        have hF7 := f57 _ _ hF5 (by simpa using Fb)
        have hF8 := s8 _ _ hF7
        have hb8 := hb7.same s8
        generalize upd H7 t8 (.tup [.int (v6 - 4), .int (1 + v7)]) = H8 at s8 h8 hF8 hb8
        refine ⟨by show 1 ≤ sizeLine; decide, fun t9 n9 => ?_⟩
        have s9 := Same.new (o := .tup [V.ref t8]) n9
        have h9 : TP K (upd H8 t9 (.tup [V.ref t8])) (.ref t9) [(v6 - 4, 1 + v7)] := ⟨t9, _, rfl, SqT.of upd_same, .cons (h8.same s9) .nil⟩
        have hF9 := s9 _ _ hF8
        have hb9 := hb8.same s9
        generalize upd H8 t9 (.tup [V.ref t8]) = H9 at s9 h9 hF9 hb9
        refine ⟨F, xs, _, rfl, rfl, hF9, by rw [sizeLine_eq]; omega, ?_⟩
        obtain ⟨xs', bs', g1, g2, g3, g4, g5, g6⟩ := push (.ref t9) [(v6 - 4, 1 + v7)] H9 ((k34.trans (keepT s5)).trans (k57.trans (keepT (s8.trans s9)))) (((f3.trans f4).trans (Same.fr s5)).trans (f57.trans (Same.fr (s8.trans s9)))) (hb9.le (by omega)) hF9 h9 ⟨by simp, by simp, fun q hq => by rw [List.mem_singleton.mp hq]; show 0 < 1 + v7 ∧ 1 + v7 < p; omega, fun q hq => by rw [List.mem_singleton.mp hq]; show -4 ≤ v6 - 4 ∧ v6 - 4 ≤ 4; omega⟩
        exact ⟨_, _, xs', bs', rfl, g1, g2, g3, g4, g5, g6⟩
      · refine iteI (by simp [e]) ?_
        refine ⟨_, rfl, F, xs, _, rfl, rfl, hF5, by rw [sizeLine_eq]; omega, ?_⟩
        obtain ⟨xs', bs', g1, g2, g3, g4, g5, g6⟩ := push u ps H5 (k34.trans (keepT s5)) ((f3.trans f4).trans (Same.fr s5)) (hb5.le (by omega)) hF5 hu5 ⟨e, hPR.asc, hPR.amt, hPR.off⟩
        exact ⟨_, _, xs', bs', rfl, g1, g2, g3, g4, g5, g6⟩
    · rintro σ H3 ⟨c5, c6, xs, bs, rfl, f3, hb3, hF3, pr, hR, lb⟩
      have hb3' : BG H3 b (m + 200) := hb3.le (by have : (1 + v).toNat ≤ 3 := by omega
                                                  have := Nat.mul_le_mul_left 60 this
                                                  omega)
      refine ⟨_, rfl, _, rfl, F, xs, rfl, .inl ⟨SqL.of hF3, fun q nq => ?_⟩⟩
      have s4 := Same.new (o := .tup xs) nq
      refine ⟨by show 2 ≤ sizeLine; decide, fun t nt => ?_⟩
      have s5 := Same.new (o := .tup [V.int p, .ref q]) nt
      refine k _ bs _ ⟨t, .ref q, rfl, SqT.of upd_same, q, xs, rfl, Same.tup s5 (SqT.of upd_same), paired_mono (fun _ _ z => z.same (s4.trans s5)) pr⟩ ⟨hp, ?_, by omega, hR⟩ (hb3'.same (s4.trans s5)) (f3.trans (Same.fr (s4.trans s5)))
      intro e
      rw [e] at lb
      simp at lb
      omega
end
end EV
end
section
set_option Elab.async false
set_option linter.all false
set_option maxRecDepth 100000
set_option maxHeartbeats 4000000
namespace EV
open PySem PySem.Spec PyProof.Rows L2
open ER (cf Bd Row P3 Rule Pan BRow)
section
variable {K : PySem.W.Frag}
structure Tri where
  o : Addr
  l : Addr
  k : Addr
def Tri.R (A : Tri) : List Addr := [A.o, A.l, A.k]
abbrev BrO (K : PySem.W.Frag) (H : Hp) (A : Tri) (p : Int) (bs : List (List (Int × Int))) (past : List (List Int)) (ys : List V) : Prop := BO K H A.o A.l A.k p bs past ys
abbrev CnO (K : PySem.W.Frag) (H : Hp) (c : Addr) (A : Tri) (p : Int) (bs : List (List (Int × Int))) (past : List (List Int)) (ys : List V) : Prop := CO K H c A.o A.l A.k p bs past ys
def Dj (xs ys : List Addr) : Prop := ∀ x ∈ xs, x ∉ ys
theorem Dj.symm {xs ys : List Addr} (h : Dj xs ys) : Dj ys xs := fun y hy hx => h y hx hy
/-- the same or fresh -/
def Nx (H : Hp) (A A' : Tri) : Prop := A'.o = A.o ∧ (A'.l = A.l ∨ H A'.l = none) ∧ (A'.k = A.k ∨ H A'.k = none)
theorem Nx.refl {H : Hp} {A : Tri} : Nx H A A := ⟨rfl, .inl rfl, .inl rfl⟩
theorem Nx.mem {H : Hp} {A A' : Tri} (h : Nx H A A') : ∀ x ∈ A'.R, x ∈ A.R ∨ H x = none := by
  obtain ⟨h1, h2, h3⟩ := h
  intro x hx
  simp only [Tri.R, List.mem_cons, List.not_mem_nil, or_false] at hx ⊢
  rcases hx with rfl | rfl | rfl
  · exact .inl (.inl h1)
  · exact h2.imp (fun e => .inr (.inl e)) id
  · exact h3.imp (fun e => .inr (.inr e)) id
theorem Dj.step {H : Hp} {A A' : Tri} {ys : List Addr} (h : Dj A.R ys) (n : Nx H A A') (al : ∀ y ∈ ys, Mut H y) : Dj A'.R ys := fun x hx hy => by
  rcases n.mem x hx with h1 | h1
  · exact h x h1 hy
  · rcases al x hy with ⟨_, e⟩ | ⟨_, _, _, e⟩ <;> (rw [h1] at e; cases e)
structure St3 (K : PySem.W.Frag) (H : Hp) (b : Addr) (m : Nat) (A C T : Tri) (c t : Addr) (p : Int) (bs : List (List (Int × Int))) (pa pc pt : List (List Int)) : Prop where
  bag : BG H b m
  brd : BrO K H A p bs pa []
  con : CnO K H c C p bs pc []
  twn : CnO K H t T p bs pt []
  dA : Dj A.R [b]
  dC : Dj C.R [b]
  dT : Dj T.R [b]
  dAC : Dj A.R C.R
  dAT : Dj A.R T.R
  dCT : Dj C.R T.R
def Reg (b : Addr) (A C T : Tri) : List Addr := b :: (A.R ++ C.R ++ T.R)
structure Go (K : PySem.W.Frag) (H : Hp) (S : List Addr) (H' : Hp) (S' : List Addr) : Prop where
  fr : Fr S H H'
  reg : ∀ x ∈ S', x ∈ S ∨ H x = none
  keep : KeepT K H H'
theorem Go.refl {H : Hp} {S : List Addr} : Go K H S H S := ⟨Fr.refl H, fun _ h => .inl h, KeepT.refl H⟩
theorem Go.same {H H' : Hp} {S : List Addr} (s : Same H H') : Go K H S H' S := ⟨Same.fr s, fun _ h => .inl h, keepT s⟩
theorem Go.trans {H H1 H2 : Hp} {S S1 S2 : List Addr} (a : Go K H S H1 S1) (b : Go K H1 S1 H2 S2) : Go K H S H2 S2 := by
  have new : ∀ {x : Addr}, H1 x = none → x ∈ S ∨ H x = none := fun {x} e => by
    by_cases h : x ∈ S
    · exact .inl h
    · exact .inr (Fr.none a.fr e h)
  refine ⟨fun y o hy hn => b.fr y o (a.fr y o hy hn) (fun z => ?_), fun x hx => ?_, a.keep.trans b.keep⟩
  · rcases a.reg y z with h | h
    · exact hn h
    · rw [h] at hy; cases hy
  · rcases b.reg x hx with h | h
    · exact a.reg x h
    · exact new h
variable {H H' : Hp} {b : Addr} {m : Nat} {A C T : Tri} {c t : Addr} {p : Int} {bs : List (List (Int × Int))} {pa pc pt past' : List (List Int)}
theorem CO.fr' {S : List Addr} {c : Addr} {A : Tri} {past : List (List Int)} (h : CnO K H c A p bs past []) (f : Fr S H H') (k : KeepT K H H') (n : Dj A.R S) (nc : c ∉ S) : CnO K H' c A p bs past [] := by
  obtain ⟨⟨dx, hc⟩, hB⟩ := h
  exact ⟨⟨dx, f _ _ hc nc⟩, hB.fr f k n⟩
/-- a console is no part of a board -/
theorem CO.out {c : Addr} {A B : Tri} {past past' : List (List Int)} {ys ys' : List V} (h : CnO K H c A p bs past ys) (h' : BrO K H B p bs past' ys') : c ∉ B.R := by
  obtain ⟨⟨dx, hc⟩, _⟩ := h
  obtain ⟨dxa, v, xs, h1, h2, h3, h4, h5, h6⟩ := h'
  intro hm
  simp only [Tri.R, List.mem_cons, List.not_mem_nil, or_false] at hm
  rcases hm with rfl | rfl | rfl
  · rw [hc] at h1; injection h1 with h1; injection h1 with _ _ h1; injection h1 with h1; injection h1 with h1; exact absurd h1 (by decide)
  · rw [hc] at h3; cases h3
  · rw [hc] at h5; cases h5
theorem CO.outB {c b : Addr} {m : Nat} {A : Tri} {past : List (List Int)} {ys : List V} (h : CnO K H c A p bs past ys) (h' : BG H b m) : c ∉ [b] := by
  obtain ⟨⟨dx, hc⟩, _⟩ := h
  obtain ⟨x, y, z, e, _⟩ := h'
  intro hm
  rw [List.mem_singleton.mp hm, e] at hc
  cases hc
theorem St3.same (h : St3 K H b m A C T c t p bs pa pc pt) (s : Same H H') : St3 K H' b m A C T c t p bs pa pc pt := by
  obtain ⟨h1, h2, h3, h4, d1, d2, d3, d4, d5, d6⟩ := h
  exact ⟨h1.same s, BO.same h2 s, CO.same h3 s, CO.same h4 s, d1, d2, d3, d4, d5, d6⟩
theorem St3.draw {m' : Nat} (h : St3 K H b m A C T c t p bs pa pc pt) (hb : BG H' b m') (f : Fr [b] H H') : St3 K H' b m' A C T c t p bs pa pc pt ∧ Go K H (Reg b A C T) H' (Reg b A C T) := by
  obtain ⟨h1, h2, h3, h4, d1, d2, d3, d4, d5, d6⟩ := h
  have k := keepT_fr1 h1 f (K := K)
  exact ⟨⟨hb, h2.fr f k d1, h3.fr' f k d2 (h3.outB h1), h4.fr' f k d3 (h4.outB h1), d1, d2, d3, d4, d5, d6⟩, f.mono (fun x hx => by rw [List.mem_singleton.mp hx]; exact List.mem_cons_self ..), fun _ h => .inl h, k⟩
theorem Fr.bag {S : List Addr} (h : BG H b m) (f : Fr S H H') (d : Dj S [b]) : BG H' b m := h.fr f (fun z => d b z (by simp))
theorem St3.board {A' : Tri} (h : St3 K H b m A C T c t p bs pa pc pt) (n : Nx H A A') (hB : BrO K H' A' p bs past' []) (f : Fr A.R H H') :
    St3 K H' b m A' C T c t p bs past' pc pt ∧ Go K H (Reg b A C T) H' (Reg b A' C T) := by
  obtain ⟨h1, h2, h3, h4, d1, d2, d3, d4, d5, d6⟩ := h
  have k := h2.keepT f
  refine ⟨⟨Fr.bag h1 f d1, hB, h3.fr' f k d4.symm (h3.out h2), h4.fr' f k d5.symm (h4.out h2), d1.step n h1.mut, d2, d3, d4.step n h3.2.mut, d5.step n h4.2.mut, d6⟩, f.mono (fun x hx => ?_), fun x hx => ?_, k⟩
  · simp only [Reg, List.mem_cons, List.mem_append]; exact .inr (.inl (.inl hx))
  · simp only [Reg, List.mem_cons, List.mem_append] at hx ⊢
    rcases hx with hx | (hx | hx) | hx
    · exact .inl (.inl hx)
    · exact (n.mem x hx).imp (fun q => .inr (.inl (.inl q))) id
    · exact .inl (.inr (.inl (.inr hx)))
    · exact .inl (.inr (.inr hx))
theorem St3.cons {C' : Tri} (h : St3 K H b m A C T c t p bs pa pc pt) (n : Nx H C C') (hC : CnO K H' c C' p bs past' []) (f : Fr C.R H H') :
    St3 K H' b m A C' T c t p bs pa past' pt ∧ Go K H (Reg b A C T) H' (Reg b A C' T) := by
  obtain ⟨h1, h2, h3, h4, d1, d2, d3, d4, d5, d6⟩ := h
  have k := h3.2.keepT f
  refine ⟨⟨Fr.bag h1 f d2, h2.fr f k d4, hC, h4.fr' f k d6.symm (h4.out h3.2), d1, d2.step n h1.mut, d3, (d4.symm.step n h2.mut).symm, d5, d6.step n h4.2.mut⟩, f.mono (fun x hx => ?_), fun x hx => ?_, k⟩
  · simp only [Reg, List.mem_cons, List.mem_append]; exact .inr (.inl (.inr hx))
  · simp only [Reg, List.mem_cons, List.mem_append] at hx ⊢
    rcases hx with hx | (hx | hx) | hx
    · exact .inl (.inl hx)
    · exact .inl (.inr (.inl (.inl hx)))
    · exact (n.mem x hx).imp (fun q => .inr (.inl (.inr q))) id
    · exact .inl (.inr (.inr hx))
theorem St3.twin {T' : Tri} (h : St3 K H b m A C T c t p bs pa pc pt) (n : Nx H T T') (hT : CnO K H' t T' p bs past' []) (f : Fr T.R H H') :
    St3 K H' b m A C T' c t p bs pa pc past' ∧ Go K H (Reg b A C T) H' (Reg b A C T') := by
  obtain ⟨h1, h2, h3, h4, d1, d2, d3, d4, d5, d6⟩ := h
  have k := h4.2.keepT f
  refine ⟨⟨Fr.bag h1 f d3, h2.fr f k d5, h3.fr' f k d6 (h3.out h4.2), hT, d1, d2, d3.step n h1.mut, d4, (d5.symm.step n h2.mut).symm, (d6.symm.step n h3.2.mut).symm⟩, f.mono (fun x hx => ?_), fun x hx => ?_, k⟩
  · simp only [Reg, List.mem_cons, List.mem_append]; exact .inr (.inr hx)
  · simp only [Reg, List.mem_cons, List.mem_append] at hx ⊢
    rcases hx with hx | (hx | hx) | hx
    · exact .inl (.inl hx)
    · exact .inl (.inr (.inl (.inl hx)))
    · exact .inl (.inr (.inl (.inr hx)))
    · exact (n.mem x hx).imp (fun q => .inr (.inr q)) id
theorem seq_cut {t u : L2.TS} {D : Ends} {σ : L2.St} {H : Hp} (M : L2.St → Hp → Prop) (h2 : ∀ σ' H', M σ' H' → u D σ' H') (h1 : ∀ N : L2.St → Hp → Prop, (∀ σ' H', M σ' H' → N σ' H') → t { D with nx := N } σ H) : tSeq t u D σ H := h1 _ h2
/-- all rows are rings of the size -/
def RowsOk (p : Int) (n : Nat) (past : List (List Int)) : Prop := ∀ q ∈ past, q.length = n ∧ Bd p q
end
end EV
end
section
set_option Elab.async false
set_option linter.all false
set_option maxRecDepth 100000
set_option maxHeartbeats 4000000
namespace EV
open PySem PySem.Spec PyProof.Rows L2
open ER (cf Bd Row P3 Rule Pan BRow)
open TL (tl ext_tl tl_append)
theorem tl_s (a b : String) (h : tl (Str.ofString a) = tl (Str.ofString b) ++ [32]) (x : Str) : tl (Str.ofString a ++ x) = tl (Str.ofString b) ++ ([32] ++ tl x) := by rw [tl_append, h, List.append_assoc]
theorem tl_sp : tl (" " : Str) = [32] := rfl
theorem join2 (a b : Str) : tl (Txt.join " " [a, b]) = tl a ++ ([32] ++ tl b) := by
  rw [join_sp]; show tl (a ++ (" " : Str) ++ b) = _; rw [tl_append, tl_append, List.append_assoc]; rfl
theorem join3 (a b c : Str) : tl (Txt.join " " [a, b, c]) = tl a ++ ([32] ++ (tl b ++ ([32] ++ tl c))) := by
  rw [join_sp]; show tl (a ++ (" " : Str) ++ (b ++ (" " : Str) ++ c)) = _; simp only [tl_append, List.append_assoc]; rfl
theorem join4 (a b c d : Str) : tl (Txt.join " " [a, b, c, d]) = tl a ++ ([32] ++ (tl b ++ ([32] ++ (tl c ++ ([32] ++ tl d))))) := by
  rw [join_sp]; show tl (a ++ (" " : Str) ++ (b ++ (" " : Str) ++ (c ++ (" " : Str) ++ d))) = _; simp only [tl_append, List.append_assoc]; rfl
theorem join5 (a b c d e : Str) : tl (Txt.join " " [a, b, c, d, e]) = tl a ++ ([32] ++ (tl b ++ ([32] ++ (tl c ++ ([32] ++ (tl d ++ ([32] ++ tl e))))))) := by
  rw [join_sp]; show tl (a ++ (" " : Str) ++ (b ++ (" " : Str) ++ (c ++ (" " : Str) ++ (d ++ (" " : Str) ++ e)))) = _; simp only [tl_append, List.append_assoc]; rfl
theorem txt_press (i x : Nat) : ("press " : Str) ++ nS i ++ " " ++ nS x ++ "" = Cmd.text (.press i x none) := ext_tl (by
  show _ = tl (Txt.join " " ["press", nS i, nS x])
  rw [join3]
  simp only [tl_append, List.append_assoc]
  rw [show tl ("" : Str) = [] from rfl, List.append_nil]
  rfl)
theorem txt_press2 (i x t : Nat) : ("press " : Str) ++ nS i ++ " " ++ nS x ++ (" " ++ nS t) = Cmd.text (.press i x (some t)) := ext_tl (by
  show _ = tl (Txt.join " " ["press", nS i, nS x, nS t])
  rw [join4]
  simp only [tl_append, List.append_assoc]
  rfl)
theorem txt_turn (i : Nat) : ("turn " : Str) ++ nS i = Cmd.text (.turn i) := ext_tl (by
  show _ = tl (Txt.join " " ["turn", nS i])
  rw [join2]
  simp only [tl_append, List.append_assoc]
  rfl)
theorem txt_set (x : Nat) (c : Int) : ("set " : Str) ++ nS x ++ " " ++ nS c = Cmd.text (.setc x c) := ext_tl (by
  show _ = tl (Txt.join " " ["set", nS x, nS c])
  rw [join3]
  simp only [tl_append, List.append_assoc]
  rfl)
theorem txt_at (k : Nat) : ("at " : Str) ++ nS k = Cmd.text (.atc k) := ext_tl (by
  show _ = tl (Txt.join " " ["at", nS k])
  rw [join2]
  simp only [tl_append, List.append_assoc]
  rfl)
theorem txt_try (i x j : Nat) : ("try " : Str) ++ nS i ++ " " ++ nS x ++ " turn " ++ nS j = Cmd.text (.tryc i x (.turn j)) := ext_tl (by
  show _ = tl (Txt.join " " ["try", nS i, nS x, "turn", nS j])
  rw [join5]
  simp only [tl_append, List.append_assoc]
  rfl)
theorem txt_undo : ("undo" : Str) = Cmd.text .undo := rfl
theorem txt_picture : ("picture" : Str) = Cmd.text .picture := rfl
theorem txt_clear : ("clear" : Str) = Cmd.text .clear := rfl
theorem len_app (a b : Str) : (a ++ b).length = a.length + b.length := by simp only [TL.len_tl, tl_append, List.length_append]
theorem ns_len {i : Int} (h0 : -4 ≤ i) (h1 : i ≤ 16) : (nS i).length ≤ 4 := (num_of h0 h1).len
/-- the answers of deeds -/
def deed : Cmd → Bool
  | .press .. => true
  | .turn .. => true
  | .setc .. => true
  | .undo => true
  | .tryc _ _ (.turn _) => true
  | _ => false
theorem deed_ok {p : Int} {bs : List (List (Int × Int))} {r : List Int} (hr : r.length ≤ 16) {c : Cmd} (h : deed c = true) : PyData.strOk (ansF p bs c r) = true := by
  have n : ∀ l : List Int, l.length ≤ 16 → PyData.strOk (nS ((ER.picF l).length : Int)) = true := fun l hl => by
    have := picF_len l
    exact (num_of (i := ((ER.picF l).length : Int)) (by omega) (by omega)).ok
  cases c with
  | press i x t => exact n _ (by rw [pressF_len]; exact hr)
  | turn i => exact n _ (by rw [turnF_len]; exact hr)
  | setc x c => exact (by decide +kernel : PyData.strOk ("ok" : Str) = true)
  | undo => exact (by decide +kernel : PyData.strOk ("ok" : Str) = true)
  | tryc i x c =>
    cases c with
    | turn j => exact n _ (by rw [turnF_len, pressF_len]; exact hr)
    | _ => cases h
  | _ => cases h
section
variable {P : Program} {w : World} {K : PySem.W.Frag} {mg : Str → Option Value} {base : Heap}
def sp_law_deed_right (K : PySem.W.Frag) : Sp := fun vs H Q _ => ∃ (b : Addr) (m : Nat) (A C T : Tri) (c t : Addr) (p : Int) (bs : List (List (Int × Int))) (rest : List (List Int)) (r : List Int) (v : V),
  vs = [.ref b, v, .ref A.o, .ref c, .ref t] ∧ TPan K H v p bs ∧ Pan p bs ∧ St3 K H b m A C T c t p bs (rest ++ [r]) (rest ++ [r]) (rest ++ [r]) ∧ RowsOk p r.length (rest ++ [r]) ∧ rest.length ≤ 50 ∧ 1 ≤ r.length ∧ r.length ≤ 16 ∧ m ≤ 5000 ∧
  ∀ A' C' T' rest' r' H', A'.o = A.o → St3 K H' b (m + 10) A' C' T' c t p bs (rest' ++ [r']) (rest' ++ [r']) (rest' ++ [r']) → RowsOk p r.length (rest' ++ [r']) → rest'.length ≤ rest.length + 1 → Go K H (Reg b A C T) H' (Reg b A' C' T') → Q (.bl true) H'
/-- the last statement of a deed -/
def DeedM (K : PySem.W.Frag) (H : Hp) (b : Addr) (m : Nat) (A C T : Tri) (c t : Addr) (p : Int) (bs : List (List (Int × Int))) (rest : List (List Int)) (r : List Int) (v : V) : L2.St → Hp → Prop := fun σ H' => ∃ (cmd : Cmd) (A' : Tri) (c5 c6 c7 c8 c11 : Option V) (rest' : List (List Int)) (r' : List Int),
  σ = [some (.ref b), some v, some (.ref A.o), some (.ref c), some (.ref t), c5, c6, c7, c8, some (.str cmd.text), some (.str (ansF p bs cmd r)), c11] ∧ A'.o = A.o ∧ St3 K H' b (m + 10) A' C T c t p bs (rest' ++ [r']) (rest ++ [r]) (rest ++ [r]) ∧ nextF p bs rest r cmd = rest' ++ [r'] ∧ RowsOk p r.length (rest' ++ [r']) ∧ rest'.length ≤ rest.length + 1 ∧
  Go K H (Reg b A C T) H' (Reg b A' C T) ∧ cmd.Ok bs.length r.length ∧ cmd.nest ≤ 1 ∧ deed cmd = true ∧ (cmd.isUndo = true → rest ≠ []) ∧ (∀ x cc, cmd = .setc x cc → cc < p)
theorem ite_tail {c : Prop} [Decidable c] {X B : Prop} (hB : B) (hX : c → B → X) : if c then X else B := by
  by_cases h : c
  · rw [if_pos h]; exact hX h hB
  · rw [if_neg h]; exact hB
theorem turn_bd {p : Int} (hp : 0 < p) (b : List (Int × Int)) : ∀ (l : List (Int × Int)) (f : List Int), Bd p f → Bd p (l.foldl (fun f q => ER.pressF p f b q.1 q.2) f)
  | [], _, h => h
  | q :: l, f, h => turn_bd hp b l _ (pressF_bd hp _ _ _ _ h)
theorem turnF_bd {p : Int} (hp : 0 < p) (r : List Int) (b : List (Int × Int)) : Bd p (ER.turnF p r b) := turn_bd hp b _ _ (Bd.rep hp _)
theorem press_opts {w : Int} (h0 : 0 ≤ w) (h1 : w < 3) {tm : Int} (t0 : 0 ≤ tm) (t1 : tm < 7) (i x : Nat) : ∃ tO : Option Nat, (∀ k, tO = some k → k ≤ 6) ∧ atI [V.int 1, V.int 1, V.int tm] w = some (.int ((tO.getD 1 : Nat) : Int)) ∧
    ∃ sfx : Str, atI [V.str ("" : Str), V.str ("" : Str), V.str ((" " : Str) ++ nS ((tO.getD 1 : Nat) : Int))] w = some (.str sfx) ∧ ("press " : Str) ++ nS i ++ " " ++ nS x ++ sfx = Cmd.text (.press i x tO) ∧ sfx.length ≤ 20 := by
  have : w = 0 ∨ w = 1 ∨ w = 2 := by omega
  rcases this with rfl | rfl | rfl
  · exact ⟨none, (fun _ h => by cases h), rfl, "", rfl, txt_press i x, by decide⟩
  · exact ⟨none, (fun _ h => by cases h), rfl, "", rfl, txt_press i x, by decide⟩
  · obtain ⟨n, rfl⟩ : ∃ n : Nat, tm = (n : Int) := ⟨tm.toNat, by omega⟩
    refine ⟨some n, (fun k h => by injection h with h; omega), rfl, _, rfl, txt_press2 i x n, ?_⟩
    rw [len_app]
    have := ns_len (i := (n : Int)) (by omega) (by omega)
    show 1 + (nS n).length ≤ 20
    omega
theorem ok_law_deed_right (T : TX K mg w) (c_Board_deeds : Prp P w K mg base 1 "Board" "deeds" (sp_Board_deeds K)) (c_Board_len : Spm P w K mg base 1 "Board" "__len__" (sp_Board_len K)) (c_Board_setitem : Spm P w K mg base 4 "Board" "__setitem__" (sp_Board_setitem K)) (c_Board_press : C8.Met P w K mg base 4 (He.ga K "Board") "press" (sp_Board_press K) []) (c_Board_do_turn : C8.Met P w K mg base 4 (He.ga K "Board") "do_turn" (sp_Board_do_turn K) []) (c_Board_undo : C8.Met P w K mg base 1 (He.ga K "Board") "undo" (sp_Board_undo K) []) (c_Board_begin : C8.Met P w K mg base 1 (He.ga K "Board") "begin" (sp_Board_begin K) []) (c_Board_finish : C8.Met P w K mg base 1 (He.ga K "Board") "finish" (sp_Board_finish K) []) (c_Console_execute : C8.Met P w K mg base 31 (He.ga K "Console") "execute" (sp_Console_execute K) []) (c_law_draw : C8.Cal P w K mg base 1 "_law_draw" (sp_law_draw K) []) (c_Board_press2 : C8.Met P w K mg base 4 (He.ga K "Board") "press" (sp_Board_press K) [.int 1]) (sl_Board_len : ∀ vs H Q E, sp_Board_len K vs H Q E → vs.length = 1) : C8.Cal P w K mg base 32 "_law_deed_right" (sp_law_deed_right K) [] := by
  refine T.cal (d := d_law_deed_right) 86 58 rfl rfl (S := sc_law_deed_right) (fun _ _ _ _ _ _ us hl => match us, hl with | [_, _, _, _, _], _ => rfl) (fun vs H Q E h => ?_) (fun cdv Ar outer s H vs Q E hr h => ?_)
  · obtain ⟨b, m, A, C, T, c, t, p, bs, rest, r, v, rfl, _⟩ := h; rfl
  · obtain ⟨b, m, A, C, Tw, c, t, p, bs, rest, r, v, rfl, hv, hP, hS, hrows, lrest, n1, ln, hm, kk⟩ := h
    have hv0 := hv
    obtain ⟨va, ub, rfl, hs, bb, us, rfl, hbu, pr⟩ := hv
    have pl := paired_len pr
    have l3 := hP.len
    have lbs : 0 < bs.length := List.length_pos_iff.mpr hP.ne
    have p5 := hP.hp.le
    have p2 := hP.hp.two
    refine ⟨_, (pss_cons (ps_par3 (i := 5) (j := 6) (l := 7) rfl sc_law_deed_right.nd rfl rfl rfl (by decide) (by decide) (by decide) rfl rfl rfl (pa_cons (C8.pe_c c_law_draw hr (by decide) (by rfl) (pa_cons (pv 0) (pa_cons pe_int pa_nil))) (pa_cons (C8.pe_c c_law_draw hr (by decide) (by rfl) (pa_cons (pv 0) (pa_cons (pe_callB call_len_seq (by rfl) (T.fr 4 rfl) (by decide +kernel) (pa_cons (pe_ix ix_tup (pv 1) pe_int (fun _ _ => rfl)) pa_nil)) pa_nil))) (pa_cons (C8.pe_c c_law_draw hr (by decide) (by rfl) (pa_cons (pv 0) (pa_cons (pe_callB (spm_len c_Board_len sl_Board_len hr (by decide)) (by rfl) (T.fr 4 rfl) (by decide +kernel) (pa_cons (pv 2) pa_nil)) pa_nil))) pa_nil))) (by rfl))
    (pss_cons (ps_if (pt_cmpR op_lt (pv 5) pe_int (nomark _)) (pss_cons (ps_set (i := 8) sc_law_deed_right.nd rfl (by first | exact Or.inl rfl | exact Or.inr rfl) (pe_ix ix_list (pe_lst (pa_cons pe_int (pa_cons pe_int (pa_cons (C8.pe_c c_law_draw hr (by decide) (by rfl) (pa_cons (pv 0) (pa_cons pe_int pa_nil))) pa_nil)))) (pv 5) (fun _ _ => rfl)))
    (pss_cons (ps_set (i := 9) sc_law_deed_right.nd rfl (by first | exact Or.inl rfl | exact Or.inr rfl) (pe_op op_add_str (pe_op op_add_str (pe_op op_add_str (pe_op op_add_str pe_str (pe_callTy call_str_int (by rfl) (T.fr 3 rfl) (by decide +kernel) (pa_cons (pv 6) pa_nil))) pe_str) (pe_callTy call_str_int (by rfl) (T.fr 3 rfl) (by decide +kernel) (pa_cons (pv 7) pa_nil))) (pe_ix ix_list (pe_lst (pa_cons pe_str (pa_cons pe_str (pa_cons (pe_op op_add_str pe_str (pe_callTy call_str_int (by rfl) (T.fr 3 rfl) (by decide +kernel) (pa_cons (pv 8) pa_nil))) pa_nil)))) (pv 5) (fun _ _ => rfl))))
    (pss_one (ps_set (i := 10) sc_law_deed_right.nd rfl (by first | exact Or.inl rfl | exact Or.inr rfl) (pe_callTy call_str_int (by rfl) (T.fr 3 rfl) (by decide +kernel) (pa_cons (C8.pe_mt c_Board_press hr (by decide) (pv 2) (pa_cons (pv 6) (pa_cons (pv 7) (pa_cons (pv 8) pa_nil)))) pa_nil)))))) (pss_one (ps_if (pt_cmpR op_eq (pv 5) pe_int (nomark _)) (pss_one (ps_par (i := 9) (j := 10) rfl sc_law_deed_right.nd rfl rfl (by decide) rfl rfl (pa_cons (pe_op op_add_str pe_str (pe_callTy call_str_int (by rfl) (T.fr 3 rfl) (by decide +kernel) (pa_cons (pv 6) pa_nil))) (pa_cons (pe_callTy call_str_int (by rfl) (T.fr 3 rfl) (by decide +kernel) (pa_cons (C8.pe_mt c_Board_do_turn hr (by decide) (pv 2) (pa_cons (pv 6) pa_nil)) pa_nil)) pa_nil)) (by rfl))) (pss_one (ps_if (pt_cmpR op_eq (pv 5) pe_int (nomark _)) (pss_cons (ps_set (i := 11) sc_law_deed_right.nd rfl (by first | exact Or.inl rfl | exact Or.inr rfl) (C8.pe_c c_law_draw hr (by decide) (by rfl) (pa_cons (pv 0) (pa_cons (pe_ix ix_tup (pv 1) pe_int (fun _ _ => rfl)) pa_nil))))
    (pss_cons (ps_asg (pv 11) (pg_sub (pv 2) (pv 7) (spm_set c_Board_setitem T.q_Board hr (by decide))))
    (pss_one (ps_par (i := 9) (j := 10) rfl sc_law_deed_right.nd rfl rfl (by decide) rfl rfl (pa_cons (pe_op op_add_str (pe_op op_add_str (pe_op op_add_str pe_str (pe_callTy call_str_int (by rfl) (T.fr 3 rfl) (by decide +kernel) (pa_cons (pv 7) pa_nil))) pe_str) (pe_callTy call_str_int (by rfl) (T.fr 3 rfl) (by decide +kernel) (pa_cons (pv 11) pa_nil))) (pa_cons pe_str pa_nil)) (by rfl))))) (pss_one (ps_if (PW.pt (pw_and (pt_cmpR op_eq (pv 5) pe_int (nomark _)) (pw_and1 (pt_cmpR op_gt (c_Board_deeds.prop (pv 2) hr (by decide) rfl) pe_int (nomark _))))) (pss_cons (ps_expr (C8.pe_mt0 c_Board_undo hr (by decide) (pv 2)))
    (pss_one (ps_asg (pe_tup (pa_cons pe_str (pa_cons pe_str pa_nil))) (pg_tup rfl (pgs_cons (pg_name (i := 9) sc_law_deed_right.nd rfl (by first | exact Or.inl rfl | exact Or.inr rfl)) (pgs_cons (pg_name (i := 10) sc_law_deed_right.nd rfl (by first | exact Or.inl rfl | exact Or.inr rfl)) pgs_nil)))))) (pss_cons (ps_expr (C8.pe_mt0 c_Board_begin hr (by decide) (pv 2)))
    (pss_cons (ps_expr (C8.pe_mt c_Board_press2 hr (by decide) (pv 2) (pa_cons (pv 6) (pa_cons (pv 7) pa_nil))))
    (pss_cons (ps_set (i := 9) sc_law_deed_right.nd rfl (by first | exact Or.inl rfl | exact Or.inr rfl) (pe_op op_add_str (pe_op op_add_str (pe_op op_add_str (pe_op op_add_str (pe_op op_add_str pe_str (pe_callTy call_str_int (by rfl) (T.fr 3 rfl) (by decide +kernel) (pa_cons (pv 6) pa_nil))) pe_str) (pe_callTy call_str_int (by rfl) (T.fr 3 rfl) (by decide +kernel) (pa_cons (pv 7) pa_nil))) pe_str) (pe_callTy call_str_int (by rfl) (T.fr 3 rfl) (by decide +kernel) (pa_cons (pv 6) pa_nil))))
    (pss_cons (ps_set (i := 10) sc_law_deed_right.nd rfl (by first | exact Or.inl rfl | exact Or.inr rfl) (pe_callTy call_str_int (by rfl) (T.fr 3 rfl) (by decide +kernel) (pa_cons (C8.pe_mt c_Board_do_turn hr (by decide) (pv 2) (pa_cons (pv 6) pa_nil)) pa_nil)))
    (pss_one (ps_expr (C8.pe_mt0 c_Board_finish hr (by decide) (pv 2)))))))))))))))
    (pss_one (ps_ret (pe_cmpR (op_eqD hr.units) (pe_lst (pa_cons (C8.pe_mt c_Console_execute hr (by decide) (pv 3) (pa_cons (pv 9) pa_nil)) (pa_cons (C8.pe_mt c_Console_execute hr (by decide) (pv 4) (pa_cons (pv 9) pa_nil)) pa_nil))) (pe_lst (pa_cons (pv 10) (pa_cons (pv 10) pa_nil))) (nomark _)))))), ?_⟩
    -- the three draws
    refine ⟨_, rfl, b, 7, m, rfl, hS.bag, by decide, by decide, by omega, fun wy H1 w0 w1 hb1 f1 => ?_⟩
    obtain ⟨hS1, g1⟩ := hS.draw hb1 f1
    refine ⟨_, rfl, _, rfl, va, _, _, _, rfl, rfl, g1.keep _ _ hs, at1, bb, _, rfl, .inr (g1.keep _ _ hbu), b, _, m + 1, rfl, hS1.bag, by omega, by omega, by omega, fun ai H2 a0 a1 hb2 f2 => ?_⟩
    obtain ⟨hS2, g2⟩ := hS1.draw hb2 f2
    obtain ⟨dx2, w2, xs2, x2, e1, e2, e3, e4, e5, e6, e7⟩ := BO.last hS2.brd
    refine ⟨_, rfl, _, rfl, A.o, dx2, _, rfl, e1, A.o, A.l, A.k, p, bs, rest, r, [], rfl, hS2.brd, by omega, _, rfl, by omega, by omega, b, _, m + 1 + 1, rfl, hS2.bag, by omega, by omega, by omega, fun si H3 s0 s1 hb3 f3 => ⟨_, _, _, rfl, ?_⟩⟩
    obtain ⟨hS3, g3⟩ := hS2.draw hb3 f3
    have g03 := (g1.trans g2).trans g3
    obtain ⟨i, rfl⟩ : ∃ i : Nat, ai = (i : Int) := ⟨ai.toNat, by omega⟩
    obtain ⟨x, rfl⟩ : ∃ x : Nat, si = (x : Int) := ⟨si.toNat, by omega⟩
    have hi : i < bs.length := by omega
    have hx : x < r.length := by omega
    have br := (hrows r (by simp)).2
    have lgi := log_small (i := (i : Int)) (by omega) (by omega)
    have lgx := log_small (i := (x : Int)) (by omega) (by omega)
    have nli := ns_len (i := (i : Int)) (by omega) (by omega)
    have nlx := ns_len (i := (x : Int)) (by omega) (by omega)
    dsimp only
    refine seq_cut (t := tIfS _ _ _) (DeedM K H b m A C Tw c t p bs rest r (.ref va)) ?_ ?_
    · rintro σ H4 ⟨cmd, A', c5, c6, c7, c8, c11, rest', r', rfl, hA', hS4, hnx, hrow4, lr4, g4, hok, hnest, hdeed, hun, hset⟩
      obtain ⟨⟨dxc, hc⟩, _⟩ := hS4.con
      refine ⟨_, rfl, c, dxc, _, rfl, hc, rfl, _, rfl, c, cmd, rfl, C.o, C.l, C.k, p, bs, rest, r, [], hS4.con, trivial, by omega, by omega, hok, (fun z => ⟨rfl, hun z⟩), hset, hP, hrows, by omega, by simp; omega, n1, ln, fun l' kl' H5 hl' hk' f5 hC5 => ?_⟩
      rw [hnx] at hC5
      obtain ⟨hS5, g5⟩ := hS4.cons (C' := ⟨C.o, l', kl'⟩) ⟨rfl, hl', hk'⟩ hC5 f5
      obtain ⟨⟨dxt, ht⟩, _⟩ := hS5.twn
      refine ⟨_, rfl, t, dxt, _, rfl, ht, rfl, _, rfl, t, cmd, rfl, Tw.o, Tw.l, Tw.k, p, bs, rest, r, [], hS5.twn, trivial, by omega, by omega, hok, (fun z => ⟨rfl, hun z⟩), hset, hP, hrows, by omega, by simp; omega, n1, ln, fun l2 kl2 H6 hl2 hk2 f6 hC6 => ?_⟩
      rw [hnx] at hC6
      obtain ⟨hS6, g6⟩ := hS5.twin (T' := ⟨Tw.o, l2, kl2⟩) ⟨rfl, hl2, hk2⟩ hC6 f6
      refine ⟨by show 2 ≤ sizeLine; decide, fun L nL => ⟨_, rfl, _, rfl, by show 2 ≤ sizeLine; decide, fun L2 nL2 => ?_⟩⟩
      have s7 := Same.new (o := .lst [.str (ansF p bs cmd r), .str (ansF p bs cmd r)]) nL
      have s8 := Same.new (o := .lst [.str (ansF p bs cmd r), .str (ansF p bs cmd r)]) nL2
      have od : OkD 1 (.list [.str (ansF p bs cmd r), .str (ansF p bs cmd r)]) := OkD.list fun d hd => by
        simp only [List.mem_cons, List.not_mem_nil, or_false, or_self] at hd
        rw [hd]; exact OkD.str (deed_ok ln hdeed)
      refine ⟨_, _, .lst (SqL.of (s8 _ _ upd_same)) (.cons (.str _) (.cons (.str _) .nil)), .lst (SqL.of upd_same) (.cons (.str _) (.cons (.str _) .nil)), od.shaped, od.shaped, ?_⟩
      rw [od.refl]
      have s78 := s7.trans s8
      exact kk A' ⟨C.o, l', kl'⟩ ⟨Tw.o, l2, kl2⟩ rest' r' _ hA' (hS6.same s78) hrow4 lr4 (((g4.trans g5).trans g6).trans (Go.same s78))
    · intro N hN
      have go : ∀ {σ : L2.St} {H' : Hp}, DeedM K H b m A C Tw c t p bs rest r (.ref va) σ H' → N σ H' := fun {σ H'} h => hN σ H' h
      by_cases h3 : wy < 3
      · refine ⟨_, rfl, _, _, rfl, rfl, _, rfl, iteI (by simpa using h3) ?_⟩
        refine ⟨_, rfl, b, 7, _, rfl, hS3.bag, by decide, by decide, by omega, fun tm H4 t0 t1 hb4 f4 => ?_⟩
        obtain ⟨hS4, g4⟩ := hS3.draw hb4 f4
        obtain ⟨tO, o1, o2, sfx, o3, o4, o5⟩ := press_opts w0 h3 t0 t1 i x
        refine ⟨by show 3 ≤ sizeLine; decide, fun l nl => ⟨_, rfl, l, _, _, _, rfl, rfl, SqL.of upd_same, o2, ?_⟩⟩
        have s5 := Same.new (o := .lst [V.int 1, V.int 1, V.int tm]) nl
        have hS5 := hS4.same s5
        generalize upd H4 l (.lst [V.int 1, V.int 1, V.int tm]) = H5 at s5 hS5
        have tT : ((tO.getD 1 : Nat) : Int) ≤ 6 := by
          cases e : tO with
          | none => decide
          | some n => have := o1 n e; show ((n : Nat) : Int) ≤ 6; omega
        have lgt := log_small (i := ((tO.getD 1 : Nat) : Int)) (by omega) (by omega)
        have nlt := ns_len (i := ((tO.getD 1 : Nat) : Int)) (by omega) (by omega)
        have L : ∀ {a b : Str}, a.length + b.length ≤ 1000 → a.length + b.length ≤ sizeLine := fun {a b} h => by rw [sizeLine_eq]; omega
        have l1 : ("press " : Str).length = 6 := rfl
        have l2 : (" " : Str).length = 1 := rfl
        refine ⟨_, rfl, _, rfl, lgi, _, _, rfl, rfl, L (by show 6 + (nS i).length ≤ _; omega), ?_⟩
        refine ⟨_, _, rfl, rfl, L (by show (("press " : Str) ++ nS i).length + 1 ≤ _; rw [len_app]; omega), ?_⟩
        refine ⟨_, rfl, _, rfl, lgx, _, _, rfl, rfl, L (by show (("press " : Str) ++ nS i ++ " ").length + (nS x).length ≤ _; rw [len_app, len_app]; omega), ?_⟩
        refine ⟨_, rfl, _, rfl, lgt, _, _, rfl, rfl, L (by show 1 + (nS ((tO.getD 1 : Nat) : Int)).length ≤ _; omega), by show 3 ≤ sizeLine; decide, fun l6 n6 => ⟨_, rfl, l6, _, _, _, rfl, rfl, SqL.of upd_same, o3, ?_⟩⟩
        have s6 := Same.new (o := .lst [V.str ("" : Str), V.str ("" : Str), V.str ((" " : Str) ++ nS ((tO.getD 1 : Nat) : Int))]) n6
        have hS6 := hS5.same s6
        have hne6 : ∀ {Q : Prop}, Q → Q := fun h => h
        refine ⟨_, _, rfl, rfl, L (by show (("press " : Str) ++ nS i ++ " " ++ nS x).length + sfx.length ≤ _; rw [len_app, len_app, len_app]; omega), ?_⟩
        obtain ⟨dx6, w6, xs6, x6, e61, _⟩ := BO.last hS6.brd
        refine ⟨_, rfl, A.o, dx6, _, rfl, e61, rfl, _, rfl, _, rfl, _, rfl, A.o, A.l, A.k, p, bs, rest, r, [], i, x, _, bs.getD i [], rfl, hS6.brd, by omega, hP, by omega, pair_get hi, by omega, by omega, by omega, fun H7 f7 hB7 => ?_⟩
        obtain ⟨hS7, g7⟩ := hS6.board (A' := A) Nx.refl hB7 f7
        refine ⟨_, rfl, log_small (by omega) (by have := picF_len (ER.pressF p r (bs.getD i []) (x : Int) ((tO.getD 1 : Nat) : Int)); rw [pressF_len] at this; omega), go ⟨.press i x tO, A, some (.int wy), some (.int (i : Int)), some (.int (x : Int)), some (.int ((tO.getD 1 : Nat) : Int)), none, rest ++ [r], ER.pressF p r (bs.getD i []) (x : Int) ((tO.getD 1 : Nat) : Int), ?_, rfl, ?_, rfl, ?_, ?_, (g03.trans (g4.trans (Go.same (s5.trans s6)))).trans g7, ⟨hi, hx, o1⟩, Nat.zero_le _, rfl, (fun z => by cases z), (fun y cc z => by cases z)⟩⟩
        · rw [← o4]; rfl
        · obtain ⟨q1, q2, q3, q4, d1, d2, d3, d4, d5, d6⟩ := hS7
          exact ⟨q1.le (by omega), q2, q3, q4, d1, d2, d3, d4, d5, d6⟩
        · intro q hq
          rcases List.mem_append.mp hq with hq | hq
          · exact hrows q hq
          · rw [List.mem_singleton.mp hq]; exact ⟨pressF_len .., pressF_bd hP.hp.pos _ _ _ _ br⟩
        · simp
      · refine ⟨_, rfl, _, _, rfl, rfl, _, rfl, iteN (by simpa using h3) ?_⟩
        have L : ∀ {a b : Str}, a.length + b.length ≤ 1000 → a.length + b.length ≤ sizeLine := fun {a b} h => by rw [sizeLine_eq]; omega
        obtain ⟨dx4, w4, xs4, x4, e41, _⟩ := BO.last hS3.brd
        have ler : ∀ {A' : Tri} {H' : Hp} {pa : List (List Int)} {m' : Nat}, m' ≤ m + 10 → St3 K H' b m' A' C Tw c t p bs pa (rest ++ [r]) (rest ++ [r]) → St3 K H' b (m + 10) A' C Tw c t p bs pa (rest ++ [r]) (rest ++ [r]) := fun hm h => by
          obtain ⟨q1, q2, q3, q4, d1, d2, d3, d4, d5, d6⟩ := h
          exact ⟨q1.le hm, q2, q3, q4, d1, d2, d3, d4, d5, d6⟩
        have rne : r ≠ [] := fun e => by rw [e] at n1; simp at n1
        by_cases h4 : wy = 3
        · refine ⟨_, rfl, rfl, _, rfl, iteI (eqT h4) ?_⟩
          refine ⟨_, rfl, _, rfl, lgi, _, _, rfl, rfl, L (by show 5 + (nS i).length ≤ _; omega), ?_⟩
          refine ⟨_, rfl, A.o, dx4, _, rfl, e41, rfl, _, rfl, A.o, A.l, A.k, p, bs, rest, r, [], i, bs.getD i [], rfl, hS3.brd, by omega, rne, hP, by omega, pair_get hi, fun H7 f7 hB7 => ?_⟩
          obtain ⟨hS7, g7⟩ := hS3.board (A' := A) Nx.refl hB7 f7
          refine ⟨_, rfl, log_small (by omega) (by have := picF_len (ER.turnF p r (bs.getD i [])); rw [turnF_len] at this; omega), _, _, rfl, go ⟨.turn i, A, some (.int wy), some (.int (i : Int)), some (.int (x : Int)), none, none, rest ++ [r], ER.turnF p r (bs.getD i []), ?_, rfl, ler (by omega) hS7, rfl, ?_, by simp, g03.trans g7, hi, Nat.zero_le _, rfl, (fun z => by cases z), (fun y cc z => by cases z)⟩⟩
          · rw [← txt_turn i]; rfl
          · intro q hq
            rcases List.mem_append.mp hq with hq | hq
            · exact hrows q hq
            · rw [List.mem_singleton.mp hq]; exact ⟨turnF_len .., turnF_bd hP.hp.pos r _⟩
        · refine ⟨_, rfl, rfl, _, rfl, iteN (eqF h4) ?_⟩
          by_cases h5 : wy = 4
          · refine ⟨_, rfl, rfl, _, rfl, iteI (eqT h5) ?_⟩
            refine ⟨_, rfl, _, rfl, va, _, _, _, rfl, rfl, g03.keep _ _ hs, at0, b, p, _, rfl, hS3.bag, by omega, by omega, by omega, fun sh H5 sh0 sh1 hb5 f5 => ?_⟩
            obtain ⟨hS5, g5⟩ := hS3.draw hb5 f5
            obtain ⟨dx5, w5, xs5, x5, e51, _⟩ := BO.last hS5.brd
            refine ⟨_, rfl, _, rfl, _, rfl, A.o, dx5, _, rfl, e51, A.o, A.l, A.k, p, bs, rest, r, [], x, sh, rfl, hS5.brd, by omega, by omega, hx, sh0, sh1, fun H7 f7 hB7 => ?_⟩
            obtain ⟨hS7, g7⟩ := hS5.board (A' := A) Nx.refl hB7 f7
            have nls := ns_len (i := sh) (by omega) (by omega)
            refine ⟨_, rfl, _, rfl, lgx, _, _, rfl, rfl, L (by show 4 + (nS x).length ≤ _; omega), ?_⟩
            refine ⟨_, _, rfl, rfl, L (by show (("set " : Str) ++ nS x).length + 1 ≤ _; rw [len_app]; show 4 + (nS x).length + 1 ≤ _; omega), ?_⟩
            refine ⟨_, rfl, _, rfl, log_small (by omega) (by omega), _, _, rfl, rfl, L (by show (("set " : Str) ++ nS x ++ " ").length + (nS sh).length ≤ _; rw [len_app, len_app]; show 4 + (nS x).length + 1 + (nS sh).length ≤ _; omega), ?_⟩
            refine ⟨_, _, rfl, go ⟨.setc x sh, A, some (.int wy), some (.int (i : Int)), some (.int (x : Int)), none, some (.int sh), rest ++ [r], r.set x sh, ?_, rfl, ler (by omega) hS7, rfl, ?_, by simp, (g03.trans g5).trans g7, ⟨hx, sh0, by omega⟩, Nat.zero_le _, rfl, (fun z => by cases z), (fun y cc z => by cases z; exact sh1)⟩⟩
            · rw [← txt_set x sh]; rfl
            · intro q hq
              rcases List.mem_append.mp hq with hq | hq
              · exact hrows q hq
              · rw [List.mem_singleton.mp hq]; exact ⟨List.length_set .., br.set ⟨sh0, sh1⟩⟩
          · refine ⟨_, rfl, rfl, _, rfl, iteN (eqF h5) ?_⟩
            by_cases h6 : wy = 5 ∧ 0 < rest.length
            · refine ⟨_, rfl, rfl, _, rfl, iteI (eqT h6.1) ?_⟩
              refine ⟨_, rfl, A.o, dx4, _, rfl, e41, A.o, A.l, A.k, p, bs, rest, r, [], rfl, hS3.brd, by omega, _, _, rfl, rfl, _, rfl, iteI (by simp; omega) ?_⟩
              have hne : rest ≠ [] := fun e => by rw [e] at h6; simp at h6
              refine ⟨_, rfl, A.o, dx4, _, rfl, e41, rfl, A.o, A.l, A.k, p, bs, rest, r, rfl, hS3.brd, hne, fun H7 f7 hB7 => ?_⟩
              obtain ⟨hS7, g7⟩ := hS3.board (A' := A) Nx.refl hB7 f7
              refine ⟨by show 2 ≤ sizeLine; decide, fun tq nq => ⟨tq, _, rfl, SqT.of upd_same, rfl, _, _, rfl, _, _, rfl, rfl, ?_⟩⟩
              have s8 := Same.new (o := .tup [.str ("undo" : Str), .str ("ok" : Str)]) nq
              obtain ⟨rest2, r2, hr2⟩ : ∃ rest2 r2, rest = rest2 ++ [r2] := ⟨rest.dropLast, rest.getLast hne, (List.dropLast_concat_getLast hne).symm⟩
              refine go ⟨.undo, A, some (.int wy), some (.int (i : Int)), some (.int (x : Int)), none, none, rest2, r2, rfl, rfl, ?_, hr2, ?_, ?_, (g03.trans g7).trans (Go.same s8), trivial, Nat.zero_le _, rfl, (fun _ => hne), (fun y cc z => by cases z)⟩
              · have := (ler (by omega) hS7).same s8
                rw [← hr2]; exact this
              · intro q hq
                rw [← hr2] at hq
                exact hrows q (List.mem_append_left _ hq)
              · have := congrArg List.length hr2
                rw [List.length_append] at this
                omega
            · refine ⟨_, rfl, rfl, _, rfl, ite_tail ?_ (fun e hB => ?_)⟩
              · refine ⟨_, rfl, A.o, dx4, _, rfl, e41, rfl, A.o, A.l, A.k, p, bs, rest ++ [r], [], rfl, hS3.brd, by simp, fun bk H5 nbk f5 hB5 hz5 bl bkk => ?_⟩
                have ba : bk ≠ A.o := fun e => by rw [e, e41] at nbk; cases nbk
                have bn : bk ∉ [A.o, A.l, A.k] := by simp [ba, bl, bkk]
                obtain ⟨zs, hz, pz⟩ := hz5
                obtain ⟨dx5, w5, xs5, x5, e51, _⟩ := BO.last hB5
                refine ⟨_, rfl, A.o, dx5, _, rfl, e51, rfl, _, rfl, _, rfl, A.o, A.l, A.k, p, bs, rest, r, [.ref bk], i, x, 1, bs.getD i [], rfl, hB5, by omega, hP, by omega, pair_get hi, by omega, by omega, by decide, fun H6 f6 hB6 => ?_⟩
                refine ⟨_, rfl, _, rfl, lgi, _, _, rfl, rfl, L (by show 4 + (nS i).length ≤ _; omega), ?_⟩
                refine ⟨_, _, rfl, rfl, L (by show (("try " : Str) ++ nS i).length + 1 ≤ _; rw [len_app]; show 4 + (nS i).length + 1 ≤ _; omega), ?_⟩
                refine ⟨_, rfl, _, rfl, lgx, _, _, rfl, rfl, L (by show (("try " : Str) ++ nS i ++ " ").length + (nS x).length ≤ _; rw [len_app, len_app]; show 4 + (nS i).length + 1 + (nS x).length ≤ _; omega), ?_⟩
                refine ⟨_, _, rfl, rfl, L (by show (("try " : Str) ++ nS i ++ " " ++ nS x).length + 6 ≤ _; rw [len_app, len_app, len_app]; show 4 + (nS i).length + 1 + (nS x).length + 6 ≤ _; omega), ?_⟩
                refine ⟨_, rfl, _, rfl, lgi, _, _, rfl, rfl, L (by show (("try " : Str) ++ nS i ++ " " ++ nS x ++ " turn ").length + (nS i).length ≤ _; rw [len_app, len_app, len_app, len_app]; show 4 + (nS i).length + 1 + (nS x).length + 6 + (nS i).length ≤ _; omega), ?_⟩
                have lp := pressF_len p (x : Int) 1 (bs.getD i []) r
                obtain ⟨dx6, w6, xs6, x6, e61, _⟩ := BO.last (show BO K H6 A.o A.l A.k p bs ((rest ++ [r]) ++ [ER.pressF p r (bs.getD i []) (x : Int) 1]) [.ref bk] from hB6)
                refine ⟨_, rfl, A.o, dx6, _, rfl, e61, rfl, _, rfl, A.o, A.l, A.k, p, bs, rest ++ [r], _, [.ref bk], i, bs.getD i [], rfl, hB6, by omega, ?_, hP, by simp; omega, pair_get hi, fun H7 f7 hB7 => ?_⟩
                · intro e; rw [e] at lp; simp at lp; omega
                · have f57 : Fr [A.o, A.l, A.k] H5 H7 := f6.trans f7
                  have k57 : KeepT K H5 H7 := hB5.keepT f57
                  obtain ⟨dx7, w7, xs7, x7, e71, _⟩ := BO.last (show BO K H7 A.o A.l A.k p bs ((rest ++ [r] ++ [ER.pressF p r (bs.getD i []) (x : Int) 1]) ++ [_]) [.ref bk] from hB7)
                  refine ⟨_, rfl, log_small (by omega) (by have := picF_len (ER.turnF p (ER.pressF p r (bs.getD i []) (x : Int) 1) (bs.getD i [])); rw [turnF_len, pressF_len] at this; omega), ?_⟩
                  refine ⟨_, rfl, A.o, dx7, _, rfl, e71, rfl, A.o, A.l, A.k, bk, p, bs, _, rest ++ [r], zs, rfl, hB7, f57 _ _ hz bn, paired_mono (fun _ _ z => z.keep k57) pz, bkk, fun H8 f8 hB8 => ?_⟩
                  obtain ⟨hS8, g8⟩ := hS3.board (A' := ⟨A.o, bk, A.k⟩) ⟨rfl, .inr nbk, .inl rfl⟩ hB8 ((f5.trans f57).trans f8)
                  refine go ⟨.tryc i x (.turn i), ⟨A.o, bk, A.k⟩, some (.int wy), some (.int (i : Int)), some (.int (x : Int)), none, none, rest, r, ?_, rfl, ler (by omega) hS8, rfl, hrows, by omega, g03.trans g8, ⟨hi, hx, hi, rfl⟩, Nat.le_refl _, rfl, (fun z => by cases z), (fun y cc z => by cases z)⟩
                  rw [← txt_try i x i]; rfl
              · have h50 : wy = 5 := by simpa using e
                exact ⟨_, rfl, A.o, dx4, _, rfl, e41, A.o, A.l, A.k, p, bs, rest, r, [], rfl, hS3.brd, by omega, _, _, rfl, rfl, _, rfl, iteN (fun z => h6 ⟨h50, by have := of_decide_eq_true z; omega⟩) hB⟩
end
end EV
end
section
set_option Elab.async false
set_option linter.all false
set_option maxRecDepth 100000
set_option maxHeartbeats 4000000
namespace EV
open PySem PySem.Spec PyProof.Rows L2
open ER (cf Bd Row P3 Rule Pan BRow)
open TL (tl ext_tl tl_append)
/-- what the two sides of the law need of the mathematics -/
structure Facts (p : Int) (bs : List (List (Int × Int))) (n : Nat) : Prop where
  iff : ∀ r, r.length = n → Bd p r → ((ER.foundF p bs n (missF p r)).isSome = true ↔ ER.restF p (ER.picF r) (ER.divOnF p bs n) = [])
  ok : ∀ r ps, r.length = n → Bd p r → ER.foundF p bs n (missF p r) = some ps → ∀ q ∈ ps, 0 ≤ q.1 ∧ q.1 < bs.length ∧ 0 ≤ q.2.1 ∧ q.2.1 < n ∧ 1 ≤ q.2.2 ∧ q.2.2 < p
  clear : ∀ r ps, r.length = n → Bd p r → ER.foundF p bs n (missF p r) = some ps → ER.picF ((ps.flatMap fun q => List.replicate q.2.2.toNat (q.1.toNat, q.2.1.toNat)).foldl (fun f (q : Nat × Nat) => ER.pressF p f (bs.getD q.1 []) (q.2 : Int) 1) r) = []
def segS (q : Nat × Nat) : Str := ("try " : Str) ++ nS q.1 ++ " " ++ nS q.2 ++ " "
def chainC : List (Nat × Nat) → Cmd
  | [] => .clear
  | q :: l => .tryc q.1 q.2 (chainC l)
def aheadL (l : List (Nat × Nat)) : List Nat := l.flatMap fun q => tl (segS q)
theorem chain_nest : ∀ l, (chainC l).nest = l.length
  | [] => rfl
  | q :: l => by show (chainC l).nest + 1 = _; rw [chain_nest l]; rfl
theorem chain_plain : ∀ l, (chainC l).plain = true
  | [] => rfl
  | _ :: _ => rfl
theorem chain_ok {m n : Nat} : ∀ {l : List (Nat × Nat)}, (∀ q ∈ l, q.1 < m ∧ q.2 < n) → (chainC l).Ok m n
  | [], _ => trivial
  | q :: l, h => ⟨(h q (List.mem_cons_self ..)).1, (h q (List.mem_cons_self ..)).2, chain_ok fun x hx => h x (List.mem_cons_of_mem _ hx), chain_plain l⟩
theorem chain_ans (p : Int) (bs : List (List (Int × Int))) : ∀ (l : List (Nat × Nat)) (r : List Int), ansF p bs (chainC l) r = ansF p bs .clear (l.foldl (fun f (q : Nat × Nat) => ER.pressF p f (bs.getD q.1 []) (q.2 : Int) 1) r)
  | [], _ => rfl
  | q :: l, r => chain_ans p bs l _
theorem words_ne (c : Cmd) : ∃ w ws, c.words = w :: ws := ⟨_, _, rfl⟩
theorem chain_text : ∀ l, tl (chainC l).text = aheadL l ++ tl ("clear" : Str)
  | [] => rfl
  | q :: l => by
    have ih := chain_text l
    obtain ⟨w, ws, e⟩ := words_ne (chainC l)
    have e2 : tl (Cmd.text (chainC (q :: l))) = tl ("try" : Str) ++ ([32] ++ (tl (nS q.1) ++ ([32] ++ (tl (nS q.2) ++ ([32] ++ tl (chainC l).text))))) := by
      show tl (Txt.join " " ("try" :: nS q.1 :: nS q.2 :: (chainC l).words)) = _
      unfold Cmd.text
      rw [join_sp, join_sp, e]
      show tl (("try" : Str) ++ (" " : Str) ++ (nS q.1 ++ (" " : Str) ++ (nS q.2 ++ (" " : Str) ++ Str.join " " (w :: ws)))) = _
      simp only [tl_append, List.append_assoc]
      rfl
    rw [e2, ih]
    show _ = tl (segS q) ++ aheadL l ++ tl ("clear" : Str)
    unfold segS
    simp only [tl_append, List.append_assoc]
    rfl
/-! ### how often 'try' stands in it -/
def cntS : List (Nat × Nat) → Nat → Nat
  | [], _ => 0
  | q :: l, i => if i = 0 then 0 else 1 + cntS l (i - (tl (segS q)).length)
theorem seg_split (q : Nat × Nat) : tl (segS q) = tl ("try" : Str) ++ ([32] ++ (tl (nS q.1) ++ ([32] ++ (tl (nS q.2) ++ [32])))) := by
  unfold segS
  simp only [tl_append, List.append_assoc]
  rfl
theorem seg_len (q : Nat × Nat) : 4 ≤ (tl (segS q)).length := by
  rw [seg_split, List.length_append, List.length_append]
  have : (tl ("try" : Str)).length = 3 := rfl
  have : ([32] : List Nat).length = 1 := rfl
  omega
theorem cnt0 (l : List (Nat × Nat)) : cntS l 0 = 0 := by cases l <;> rfl
theorem cnt_add : ∀ (l : List (Nat × Nat)) (i d : Nat), d ≤ 3 → cntS l (i + d) ≤ cntS l i + 1
  | [], _, _, _ => Nat.zero_le _
  | q :: l, i, d, hd => by
    have hs := seg_len q
    unfold cntS
    by_cases h0 : i = 0
    · subst h0
      rw [if_pos rfl, Nat.zero_add]
      by_cases hd0 : d = 0
      · rw [if_pos hd0]; omega
      · rw [if_neg hd0, show d - (tl (segS q)).length = 0 by omega, cnt0]; omega
    · rw [if_neg h0, if_neg (by omega)]
      by_cases hi : (tl (segS q)).length ≤ i
      · have := cnt_add l (i - (tl (segS q)).length) d hd
        rw [show i - (tl (segS q)).length + d = i + d - (tl (segS q)).length by omega] at this
        omega
      · have := cnt_add l 0 (i + d - (tl (segS q)).length) (by omega)
        rw [Nat.zero_add, cnt0] at this
        rw [show i - (tl (segS q)).length = 0 by omega, cnt0]
        omega
theorem cnt_step : ∀ (l : List (Nat × Nat)) (i : Nat), cntS l (i + 1) ≠ cntS l i → ∃ rest, (aheadL l).drop i = tl ("try" : Str) ++ rest
  | [], i, h => absurd rfl h
  | q :: l, i, h => by
    have hs := seg_len q
    have e : aheadL (q :: l) = tl (segS q) ++ aheadL l := rfl
    unfold cntS at h
    by_cases h0 : i = 0
    · subst h0
      rw [List.drop_zero, e, seg_split, List.append_assoc]
      exact ⟨_, rfl⟩
    · rw [if_neg h0, if_neg (by omega)] at h
      by_cases hi : (tl (segS q)).length ≤ i
      · obtain ⟨rest, hr⟩ := cnt_step l (i - (tl (segS q)).length) (fun z => h (by rw [← z, show i - (tl (segS q)).length + 1 = i + 1 - (tl (segS q)).length by omega]))
        refine ⟨rest, ?_⟩
        rw [e, List.drop_append, List.drop_eq_nil_of_le hi, List.nil_append]
        exact hr
      · exact absurd (by rw [show i + 1 - (tl (segS q)).length = 0 by omega, show i - (tl (segS q)).length = 0 by omega]) h
theorem cnt_total : ∀ (l : List (Nat × Nat)), cntS l (aheadL l).length = l.length
  | [] => rfl
  | q :: l => by
    have hs := seg_len q
    have e : (aheadL (q :: l)).length = (tl (segS q)).length + (aheadL l).length := by
      show (tl (segS q) ++ aheadL l).length = _
      rw [List.length_append]
    unfold cntS
    rw [if_neg (by omega), e, Nat.add_sub_cancel_left, cnt_total l, List.length_cons, Nat.add_comm]
open Builtin.Str in
theorem occ_loop {S : Str} {l : List (Nat × Nat)} (hS : tl S = aheadL l) : ∀ (n i : Nat) (st : Array Nat × Nat), cntS l (max i st.2) ≤ st.1.size → st.1.size ≤ i → i + n = S.length + 1 →
    cntS l (S.length + 1) ≤ (forIn (List.range' i n) st (StrLaws.occBody S ("try" : Str) S.length (S.length + 1))).run.fst.size
  | 0, i, st, h, _, hn => by
    have e : i = S.length + 1 := by omega
    show _ ≤ st.1.size
    have hm : cntS l i ≤ cntS l (max i st.2) := by
      have mono : ∀ (l : List (Nat × Nat)) (a b : Nat), a ≤ b → cntS l a ≤ cntS l b := by
        intro l
        induction l with
        | nil => intro a b _; exact Nat.le_refl _
        | cons q l ih =>
          intro a b hab
          unfold cntS
          by_cases h0 : a = 0
          · rw [if_pos h0]; exact Nat.zero_le _
          · rw [if_neg h0, if_neg (by omega)]
            have := ih (a - (tl (segS q)).length) (b - (tl (segS q)).length) (by omega)
            omega
      exact mono l _ _ (Nat.le_max_left _ _)
    rw [← e]; omega
  | n + 1, i, st, h, h2, hn => by
    rw [List.range'_succ, List.forIn_cons]
    have l3 : ("try" : Str).length = 3 := rfl
    unfold StrLaws.occBody
    by_cases hc : ((st.fst.size < S.length + 1 ∧ st.snd ≤ i) ∧ i + ("try" : Str).length ≤ S.length) ∧ subAt S ("try" : Str) i = true
    · rw [if_pos hc]
      refine occ_loop hS n (i + 1) (st.fst.push i, i + ("try" : Str).length) ?_ (by rw [Array.size_push]; omega) (by omega)
      rw [l3, Array.size_push]
      have := cnt_add l i 3 (Nat.le_refl _)
      have e1 : max i st.2 = i := by omega
      have e2 : max (i + 1) (i + 3) = i + 3 := by omega
      rw [e1] at h
      show cntS l (max (i + 1) (i + 3)) ≤ _
      rw [e2]; omega
    · rw [if_neg hc]
      refine occ_loop hS n (i + 1) (st.fst, st.snd) ?_ (by show st.1.size ≤ _; omega) (by omega)
      show cntS l (max (i + 1) st.2) ≤ st.1.size
      by_cases hf : st.2 ≤ i
      · have e1 : max i st.2 = i := by omega
        have e2 : max (i + 1) st.2 = i + 1 := by omega
        rw [e1] at h
        rw [e2]
        by_cases he : cntS l (i + 1) = cntS l i
        · omega
        · exfalso
          obtain ⟨rest, hr⟩ := cnt_step l i he
          refine hc ⟨⟨⟨by omega, hf⟩, ?_⟩, ?_⟩
          · have := congrArg List.length hr
            rw [← hS, List.length_drop, List.length_append] at this
            have e3 : (tl ("try" : Str)).length = 3 := rfl
            have e4 : S.length = (tl S).length := TL.len_tl S
            omega
          · rw [StrLaws.subAt_eq]
            show ((tl S).drop i).take 3 == tl ("try" : Str)
            rw [hS, hr]
            rfl
      · have e1 : max i st.2 = max (i + 1) st.2 := by omega
        rw [← e1]; exact h
theorem count_ge {S : Str} {l : List (Nat × Nat)} (hS : tl S = aheadL l) : (l.length : Int) ≤ Txt.count S "try" := by
  unfold Txt.count
  have h := occ_loop hS (S.length + 1) 0 (#[], 0) (by rw [show max 0 (#[], 0).2 = 0 from rfl, cnt0]; exact Nat.zero_le _) (Nat.le_refl _) (by omega)
  rw [StrLaws.occ_eq]
  have e1 : cntS l (S.length + 1) = l.length ∨ True := .inr trivial
  have hm : l.length ≤ cntS l (S.length + 1) := by
    have e4 : S.length = (aheadL l).length := by rw [TL.len_tl, hS]
    rw [e4]
    have ht := cnt_total l
    by_cases he : cntS l ((aheadL l).length + 1) = cntS l (aheadL l).length
    · omega
    · obtain ⟨rest, hr⟩ := cnt_step l _ he
      have := congrArg List.length hr
      rw [List.drop_length, List.length_append] at this
      have e3 : (tl ("try" : Str)).length = 3 := rfl
      simp only [List.length_nil] at this
      omega
  rw [Array.length_toList]
  exact Int.ofNat_le.mpr (Nat.le_trans hm h)
end EV
end
section
set_option Elab.async false
set_option linter.all false
set_option maxRecDepth 100000
set_option maxHeartbeats 4000000
namespace EV
open PySem PySem.Spec PyProof.Rows L2
open ER (cf Bd Row P3 Rule Pan BRow)
open TL (tl ext_tl tl_append)
section
variable {P : Program} {w : World} {K : PySem.W.Frag} {mg : Str → Option Value} {base : Heap}
section
variable {H H' : Hp} {b : Addr} {m : Nat} {A C T : Tri} {c t : Addr} {p : Int} {bs : List (List (Int × Int))} {pa pc pt : List (List Int)}
/-- an object that is no part of it -/
theorem St3.off (h : St3 K H b m A C T c t p bs pa pc pt) {D : Addr} {xs : List V} {o : HO} (hD : H D = some (.lst xs)) (n : D ∉ Reg b A C T) : St3 K (upd H D o) b m A C T c t p bs pa pc pt := by
  obtain ⟨h1, h2, h3, h4, d1, d2, d3, d4, d5, d6⟩ := h
  have f : Fr [D] H (upd H D o) := Fr.upd (by simp)
  have k : KeepT K H (upd H D o) := keepT_lst hD
  simp only [Reg, List.mem_cons, List.mem_append, not_or] at n
  obtain ⟨n0, ⟨nA, nC⟩, nT⟩ := n
  have dj : ∀ {R : List Addr}, D ∉ R → Dj R [D] := fun h x hx e => h (by rw [List.mem_singleton] at e; rw [← e]; exact hx)
  have nc : c ∉ [D] := by
    obtain ⟨⟨dx, hc⟩, _⟩ := h3
    intro e; rw [List.mem_singleton] at e; rw [e, hD] at hc; cases hc
  have ntt : t ∉ [D] := by
    obtain ⟨⟨dx, hc⟩, _⟩ := h4
    intro e; rw [List.mem_singleton] at e; rw [e, hD] at hc; cases hc
  exact ⟨h1.fr f (by simpa using Ne.symm n0), h2.fr f k (dj nA), h3.fr' f k (dj nC) nc, h4.fr' f k (dj nT) ntt, d1, d2, d3, d4, d5, d6⟩
/-- everything of it is there -/
theorem St3.mut (h : St3 K H b m A C T c t p bs pa pc pt) : ∀ x ∈ Reg b A C T, H x ≠ none := by
  intro x hx e
  have mm : Mut H x := by
    simp only [Reg, List.mem_cons, List.mem_append] at hx
    rcases hx with rfl | (hx | hx) | hx
    · exact h.bag.mut _ (by simp)
    · exact BO.mut h.brd x hx
    · exact BO.mut h.con.2 x hx
    · exact BO.mut h.twn.2 x hx
  rcases mm with ⟨_, q⟩ | ⟨_, _, _, q⟩ <;> (rw [e] at q; cases q)
theorem exec_go {rest : List (List Int)} {r : List Int} {cmd : Cmd} {s : Str} {Q : VK} (h : St3 K H b m A C T c t p bs pa (rest ++ [r]) pt) (hs : s = cmd.text) (hn : cmd.nest ≤ 8) (hok : cmd.Ok bs.length r.length) (hun : cmd.isUndo = true → rest ≠ []) (hset : ∀ x cc, cmd = .setc x cc → cc < p)
    (hP : Pan p bs) (hrows : RowsOk p r.length (rest ++ [r])) (lrest : rest.length ≤ 60) (n1 : 1 ≤ r.length) (ln : r.length ≤ 16)
    (k : ∀ C' H', St3 K H' b m A C' T c t p bs pa (nextF p bs rest r cmd) pt → Go K H (Reg b A C T) H' (Reg b A C' T) → Q (.str (ansF p bs cmd r)) H') : sp_Console_execute K [.ref c, .str s] H Q E0 := by
  subst hs
  refine ⟨c, cmd, rfl, C.o, C.l, C.k, p, bs, rest, r, [], h.con, trivial, by omega, hn, hok, fun z => ⟨rfl, hun z⟩, hset, hP, hrows, by omega, by simp; omega, n1, ln, fun l' kl' H5 hl' hk' f5 hC5 => ?_⟩
  obtain ⟨hS5, g5⟩ := h.cons (C' := ⟨C.o, l', kl'⟩) ⟨rfl, hl', hk'⟩ hC5 f5
  exact k _ _ hS5 g5
end
theorem repS_tl (k : Nat) (a : Str) : tl (repS k a) = (List.replicate k (tl a)).flatten := by
  unfold repS
  have h : ∀ (k : Nat) (b : Array Nat), ((List.replicate k a.cps).foldl (· ++ ·) b).toList = b.toList ++ (List.replicate k a.cps.toList).flatten := by
    intro k
    induction k with
    | zero => intro b; simp
    | succ k ih => intro b; rw [List.replicate_succ, List.foldl_cons, ih, List.replicate_succ]; simp
  exact h k #[]
def sp_law_agree (K : PySem.W.Frag) : Sp := fun vs H Q _ => ∃ (b : Addr) (m : Nat) (A C T : Tri) (c t : Addr) (p : Int) (bs : List (List (Int × Int))) (rest pt : List (List Int)) (r : List Int) (v : V),
  vs = [v, .ref A.o, .ref c] ∧ TPan K H v p bs ∧ Pan p bs ∧ St3 K H b m A C T c t p bs (rest ++ [r]) (rest ++ [r]) pt ∧ RowsOk p r.length (rest ++ [r]) ∧ rest.length ≤ 60 ∧ 1 ≤ r.length ∧ r.length ≤ 16 ∧ Facts p bs r.length ∧
  ∀ C' H', St3 K H' b m A C' T c t p bs (rest ++ [r]) (rest ++ [r]) pt → Go K H (Reg b A C T) H' (Reg b A C' T) → Q (.bl true) H'
theorem ok_law_agree (T : TX K mg w) (c_Board_picture : Prp P w K mg base 2 "Board" "picture" (sp_Board_picture K)) (c_Board_len : Spm P w K mg base 1 "Board" "__len__" (sp_Board_len K)) (c_Board_getitem : Spm P w K mg base 4 "Board" "__getitem__" (sp_Board_getitem K)) (c_write_picture : C8.Cal P w K mg base 6 "write_picture" (sp_write_picture K) []) (c_read_picture : C8.Cal P w K mg base 5 "read_picture" (sp_read_picture K) []) (c_Console_execute : C8.Met P w K mg base 31 (He.ga K "Console") "execute" (sp_Console_execute K) []) (c_law_clearing : C8.Cal P w K mg base 12 "_law_clearing" (sp_law_clearing K) []) (sl_Board_len : ∀ vs H Q E, sp_Board_len K vs H Q E → vs.length = 1) : C8.Cal P w K mg base 32 "_law_agree" (sp_law_agree K) [] := by
  refine T.cal (d := d_law_agree) 85 57 rfl rfl (S := sc_law_agree) (fun _ _ _ _ _ _ us hl => match us, hl with | [_, _, _], _ => rfl) (fun vs H Q E h => ?_) (fun cdv Ar outer s H vs Q E hr h => ?_)
  · obtain ⟨b, m, A, C, T, c, t, p, bs, rest, pt, r, v, rfl, _⟩ := h; rfl
  · obtain ⟨b, m, A, C, Tw, c, t, p, bs, rest, pt, r, v, rfl, hv, hP, hS, hrows, lrest, n1, ln, hF, kk⟩ := h
    have hv0 := hv
    obtain ⟨va, ub, rfl, hs, bb, us, rfl, hbu, pr⟩ := hv
    have p5 := hP.hp.le
    have p2 := hP.hp.two
    have pp := hP.hp.pos
    have br := (hrows r (by simp)).2
    have hQ := picF_mem br
    refine ⟨_, (pss_cons (ps_par3 (i := 3) (j := 4) (l := 5) rfl sc_law_agree.nd rfl rfl rfl (by decide) (by decide) (by decide) rfl rfl rfl (pa_cons (pe_ix ix_tup (pv 0) pe_int (fun _ _ => rfl)) (pa_cons (pe_callB (spm_len c_Board_len sl_Board_len hr (by decide)) (by rfl) (T.fr 4 rfl) (by decide +kernel) (pa_cons (pv 1) pa_nil)) (pa_cons (c_Board_picture.prop (pv 1) hr (by decide) rfl) pa_nil))) (by rfl))
    (pss_cons (ps_set (i := 6) sc_law_agree.nd rfl (by first | exact Or.inl rfl | exact Or.inr rfl) (C8.pe_mt c_Console_execute hr (by decide) (pv 2) (pa_cons pe_str pa_nil)))
    (pss_cons (ps_if (PW.pt (pw_or (pt_cmpR op_ne (pv 6) (C8.pe_c c_write_picture hr (by decide) (by rfl) (pa_cons (pv 3) (pa_cons (pv 4) (pa_cons (pv 5) pa_nil)))) (nomark _)) (pw_or1 (pt_cmpR (op_neD hr.units) (C8.pe_c c_read_picture hr (by decide) (by rfl) (pa_cons (pv 3) (pa_cons (pv 6) pa_nil))) (pe_tup (pa_cons (pv 4) (pa_cons (pv 5) pa_nil))) (nomark _))))) (pss_one (ps_ret pe_bl)) pss_nil)
    (pss_cons (ps_if (pt_cmpR (op_neD hr.units) (pe_lc (own := [("_law_k", 13)]) (g := (gName 13)) rfl sc_law_agree.nd (pi_range1 rfl (T.fr 11 rfl) (pa_cons (pv 4) pa_nil)) (blkOk_by (own := [("_law_k", 13)]) (N := n_law_agree) (sc := defScope s_law_agree) (by decide +kernel)) (fun _ _ _ _ _ => (pg_name (i := 13) sc_law_agree.nd rfl (by first | exact Or.inl rfl | exact Or.inr rfl))) (fun _ _ _ _ _ => pts_nil) (fun _ _ _ _ _ => (C8.pe_mt c_Console_execute hr (by decide) (pv 2) (pa_cons (pe_op op_add_str pe_str (pe_callTy call_str_int (by rfl) (T.fr 3 rfl) (by decide +kernel) (pa_cons (pv 13) pa_nil))) pa_nil)))) (pe_lc (own := [("_law_k", 13)]) (g := (gName 13)) rfl sc_law_agree.nd (pi_range1 rfl (T.fr 11 rfl) (pa_cons (pv 4) pa_nil)) (blkOk_by (own := [("_law_k", 13)]) (N := n_law_agree) (sc := defScope s_law_agree) (by decide +kernel)) (fun _ _ _ _ _ => (pg_name (i := 13) sc_law_agree.nd rfl (by first | exact Or.inl rfl | exact Or.inr rfl))) (fun _ _ _ _ _ => pts_nil) (fun _ _ _ _ _ => (pe_callTy call_str_int (by rfl) (T.fr 3 rfl) (by decide +kernel) (pa_cons (show PE _ _ (tItemOwn (He.ga K "Board") (sp_Board_getitem K) _ _) from (spm_item c_Board_getitem hr (by decide) (pv 1) (pv 13))) pa_nil)))) (nomark _)) (pss_one (ps_ret pe_bl)) pss_nil)
    (pss_cons (ps_set (i := 7) sc_law_agree.nd rfl (by first | exact Or.inl rfl | exact Or.inr rfl) (C8.pe_c c_law_clearing hr (by decide) (by rfl) (pa_cons (pv 1) pa_nil)))
    (pss_cons (ps_set (i := 8) sc_law_agree.nd rfl (by first | exact Or.inl rfl | exact Or.inr rfl) (pe_ifExp (pt_cmpR (op_eqD hr.units) (pv 5) (pe_tup pa_nil) (nomark _)) pe_str (pe_ix ix_list (pe_lst (pa_cons pe_str (pa_cons pe_str pa_nil))) (pe_callTy call_int1 (by rfl) (T.fr 0 rfl) (by decide +kernel) (pa_cons (pe_cmpR op_notN (pv 7) pe_non (nomark _)) pa_nil)) (fun _ _ => rfl))))
    (pss_cons (ps_if (pt_cmpR op_ne (C8.pe_mt c_Console_execute hr (by decide) (pv 2) (pa_cons pe_str pa_nil)) (pv 8) (nomark _)) (pss_one (ps_ret pe_bl)) pss_nil)
    (pss_cons (ps_if (PW.pt (pw_or (pt_cmpR op_isN (pv 7) pe_non (nomark _)) (pw_or1 (pt_cmpR op_gt (pe_callB call_len_seq (by rfl) (T.fr 4 rfl) (by decide +kernel) (pa_cons (pv 7) pa_nil)) pe_int (nomark _))))) (pss_one (ps_ret pe_bl)) pss_nil)
    (pss_cons (ps_set (i := 9) sc_law_agree.nd rfl (by first | exact Or.inl rfl | exact Or.inr rfl) pe_str)
    (pss_cons (ps_for PassesOwn.never rfl (pi_tup (pv 7)) (pg_tup rfl (pgs_cons (pg_name (i := 10) sc_law_agree.nd rfl (by first | exact Or.inl rfl | exact Or.inr rfl)) (pgs_cons (pg_name (i := 11) sc_law_agree.nd rfl (by first | exact Or.inl rfl | exact Or.inr rfl)) (pgs_cons (pg_name (i := 12) sc_law_agree.nd rfl (by first | exact Or.inl rfl | exact Or.inr rfl)) pgs_nil)))) (pss_one (ps_set (i := 9) sc_law_agree.nd rfl (by first | exact Or.inl rfl | exact Or.inr rfl) (pe_op op_add_str (pv 9) (pe_op op_repS (pe_op op_add_str (pe_op op_add_str (pe_op op_add_str (pe_op op_add_str pe_str (pe_callTy call_str_int (by rfl) (T.fr 3 rfl) (by decide +kernel) (pa_cons (pv 10) pa_nil))) pe_str) (pe_callTy call_str_int (by rfl) (T.fr 3 rfl) (by decide +kernel) (pa_cons (pv 11) pa_nil))) pe_str) (pv 12))))))
    (pss_one (ps_ret (pe_or (pe_cmpR op_gt (pe_bm PySem.F.plainAttrs_str PySem.F.slot_str_count PySem.F.type_str_count mt_count (pv 9) (pa_cons pe_str pa_nil)) pe_int (nomark _)) (pe_one (pe_cmpR op_eq (C8.pe_mt c_Console_execute hr (by decide) (pv 2) (pa_cons (pe_op op_add_str (pv 9) pe_str) pa_nil)) pe_str (nomark _)))))))))))))))), ?_⟩
    obtain ⟨dxa, wa, xsa, ya, e1, e2, e3, e4, e5, e6, e7⟩ := BO.last hS.brd
    refine ⟨_, rfl, va, _, _, _, rfl, rfl, hs, at0, ?_⟩
    refine ⟨_, rfl, A.o, dxa, _, rfl, e1, A.o, A.l, A.k, p, bs, rest, r, [], rfl, hS.brd, by omega, _, rfl, by omega, by omega, ?_⟩
    refine ⟨_, rfl, A.o, dxa, _, rfl, e1, A.o, A.l, A.k, p, bs, rest, r, [], rfl, hS.brd, by omega, fun vl H1 s1 hl => ⟨_, _, _, rfl, ?_⟩⟩
    have hS1 := hS.same s1
    have g1 : Go K H (Reg b A C Tw) H1 (Reg b A C Tw) := Go.same s1
    -- picture
    obtain ⟨⟨dxc, hc⟩, _⟩ := hS1.con
    refine ⟨_, rfl, c, dxc, _, rfl, hc, rfl, exec_go hS1 txt_picture (by decide) trivial (fun z => by cases z) (fun y cc z => by cases z) hP hrows lrest n1 ln fun C2 H2 hS2 g2 => ?_⟩
    have g12 := g1.trans g2
    have hl2 := hl.keep g2.keep
    refine ⟨_, rfl, _, rfl, _, rfl, _, rfl, p, r.length, vl, ER.picF r, rfl, hl2, hP.hp, n1, ln, hQ, fun H3 s3 => ⟨rfl, _, rfl, iteN (by simp [ansF]) ?_⟩⟩
    refine ⟨_, rfl, _, rfl, p, r.length, ER.picF r, rfl, hP.hp, n1, ln, hQ, fun tr vr H4 s4 htr hvr => ?_⟩
    refine ⟨_, rfl, _, rfl, by show 2 ≤ sizeLine; decide, fun t5 n5 => ?_⟩
    have s5 := Same.new (o := .tup [.int (r.length : Int), vl]) n5
    have od : OkD 3 (.tuple [.int (r.length : Int), dP (ER.picF r)]) := OkD.tuple fun d hd => by
      simp only [List.mem_cons, List.not_mem_nil, or_false] at hd
      rcases hd with rfl | rfl
      · exact OkD.int _
      · exact ok_dP _
    refine ⟨_, _, .tup (Same.tup s5 htr) (.cons (.int _) (.cons (dp_P (hvr.same s5)) .nil)), .tup (SqT.of upd_same) (.cons (.int _) (.cons (dp_P (hl2.same (s3.trans (s4.trans s5)))) .nil)), od.shaped, od.shaped, _, rfl, ?_⟩
    rw [od.refl]
    refine iteN (by decide) ?_
    generalize upd H4 t5 (.tup [.int (r.length : Int), vl]) = H5 at s5
    have s35 := s3.trans (s4.trans s5)
    have hS5 := hS2.same s35
    have g15 := g12.trans (Go.same s35)
    -- at
    refine ⟨_, rfl, (r.length : Int), rfl, by omega, by omega, fun D nD => ?_⟩
    have DReg : D ∉ Reg b A C2 Tw := fun z => hS5.mut _ z nD
    refine lc_it walk_range (fun i H' => ∃ C', St3 K H' b m A C' Tw c t p bs (rest ++ [r]) (rest ++ [r]) pt ∧ Go K H5 (Reg b A C2 Tw) H' (Reg b A C' Tw) ∧ D ∉ Reg b A C' Tw ∧ H' D = some (.lst ((List.range i).map fun k => V.str (nS (cf r k)))))
      ⟨C2, hS5.same (Same.new nD), Go.same (Same.new nD), DReg, upd_same⟩ (fun _ _ _ _ => trivial) ?_ ?_
    · rintro i x H6' H6 hi ⟨C6, hS6, g6, hD6, hDl⟩ ⟨rfl, rfl⟩
      have hi' : i < r.length := by simpa using hi
      simp only [Int.zero_add]
      obtain ⟨⟨dx6, hc6⟩, _⟩ := hS6.con
      have nli := ns_len (i := (i : Int)) (by omega) (by omega)
      refine ⟨rfl, _, rfl, c, dx6, _, rfl, hc6, rfl, _, rfl, _, rfl, log_small (by omega) (by omega), _, _, rfl, rfl, by rw [sizeLine_eq]; show 3 + (nS i).length ≤ _; omega, exec_go (cmd := .atc i) hS6 (txt_at i) (Nat.zero_le _) hi' (fun z => by cases z) (fun y cc z => by cases z) hP hrows lrest n1 ln fun C7 H7 hS7 g7 => ?_⟩
      have hD7 := g7.fr _ _ hDl hD6
      have hDR : D ∉ Reg b A C7 Tw := fun z => by
        rcases g7.reg D z with q | q
        · exact hD6 q
        · rw [q] at hDl; cases hDl
      refine ⟨_, hD7, by rw [sizeLine_eq]; simp; omega, C7, hS7.off hD7 hDR, ?_, hDR, ?_⟩
      · have g57 := g6.trans g7
        exact ⟨fun y o hy hn => by rw [upd_ne (fun e => by rw [e, nD] at hy; cases hy)]; exact g57.fr y o hy hn, g57.reg, g57.keep.trans (keepT_lst hD7)⟩
      · rw [upd_same, List.range_succ, List.map_append]; rfl
    · rintro H6 ⟨C6, hS6, g6, hD6, hDl⟩
      have g16 := g15.trans g6
      obtain ⟨dx6, w6, xs6, y6, e61, _⟩ := BO.last hS6.brd
      refine ⟨_, rfl, (r.length : Int), rfl, by omega, by omega, fun D2 nD2 => ?_⟩
      refine lc_int walk_range (G := fun _ => True) (fun _ _ => trivial) (fun _ => true) (fun k => V.str (nS (cf r k))) (by rw [sizeLine_eq]; show r.length < _; omega) nD2 ?_ ?_
      · rintro i x H7' H7 post postN hi s7 ⟨rfl, rfl⟩ k1 k2
        have hi' : i < r.length := by simpa using hi
        have hci := br.cf pp i
        simp only [Int.zero_add]
        refine ⟨rfl, _, rfl, _, rfl, A.o, dx6, _, rfl, s7 _ _ e61, A.o, A.l, A.k, p, bs, rest, r, [], i, rfl, (BO.same hS6.brd s7), by omega, by omega, by omega, _, rfl, log_small (by rw [Int.toNat_natCast]; omega) (by rw [Int.toNat_natCast]; omega), ?_⟩
        rw [Int.toNat_natCast]
        exact k1 _ (Same.refl _) rfl
      · intro H7 s7 hD2
        have eD2 : (((List.range ((r.length : Int)).toNat).filter fun _ => true).map fun k => V.str (nS (cf r k))) = ((List.range r.length).map fun k => nS (cf r k)).map V.str := by
          rw [List.filter_eq_self.mpr (fun _ _ => rfl), Int.toNat_natCast, List.map_map]; rfl
        have eD1 : (List.range ((r.length : Int)).toNat).map (fun k => V.str (nS (cf r k))) = ((List.range r.length).map fun k => nS (cf r k)).map V.str := by
          rw [Int.toNat_natCast, List.map_map]; rfl
        rw [eD2] at hD2
        have hD1 := s7 _ _ hDl
        rw [eD1] at hD1
        have ol : OkD 1 (.list (((List.range r.length).map fun k => nS (cf r k)).map PyData.str)) := OkD.list fun d hd => by
          obtain ⟨s, hs, rfl⟩ := List.mem_map.mp hd
          obtain ⟨k, _, rfl⟩ := List.mem_map.mp hs
          have hck := br.cf pp k
          exact OkD.str (num_of (by omega) (by omega)).ok
        refine ⟨_, _, .lst (SqL.of hD1) (dpAll_strs _), .lst (SqL.of hD2) (dpAll_strs _), ol.shaped, ol.shaped, _, rfl, ?_⟩
        rw [ol.refl]
        refine iteN (by decide) ?_
        have hS7 := hS6.same s7
        have g17 := g16.trans (Go.same s7)
        -- clearing
        refine ⟨_, rfl, A.o, A.l, A.k, p, bs, rest, r, [], rfl, hS7.brd, hP, by omega, by omega, br, fun vf H8 s8 hvf => ?_⟩
        have hS8 := hS7.same s8
        have g18 := g17.trans (Go.same s8)
        have hl8 := hl.keep ((g2.trans (Go.same s35)).trans (g6.trans (Go.same (s7.trans s8)))).keep
        -- due
        have hF1 := hF.iff r rfl br
        have hF2 := hF.ok r
        have hF3 := hF.clear r
        dsimp only
        refine seq_cut (t := tAsg _ _) (fun σ H' => σ = [some (.ref va), some (.ref A.o), some (.ref c), some (.int p), some (.int (r.length : Int)), some vl, some (.str (ansF p bs .picture r)), some vf, some (.str (ansF p bs .clear r)), none, none, none, none, none] ∧ Same H8 H') ?_ ?_
        · rintro σ H9 ⟨rfl, s9⟩
          have hS9 := hS8.same s9
          have g19 := g18.trans (Go.same s9)
          obtain ⟨⟨dx9, hc9⟩, _⟩ := hS9.con
          refine ⟨_, rfl, c, dx9, _, rfl, hc9, rfl, exec_go hS9 txt_clear (by decide) trivial (fun z => by cases z) (fun y cc z => by cases z) hP hrows lrest n1 ln fun C10 H10 hS10 g10 => ⟨_, rfl, rfl, _, rfl, iteN (by simp) ?_⟩⟩
          have g110 := g19.trans g10
          cases ef : ER.foundF p bs r.length (missF p r) with
          | none =>
            rw [ef] at hvf
            obtain rfl : vf = V.non := hvf
            refine ⟨_, rfl, rfl, _, rfl, iteI (by decide) ?_⟩
            exact kk C10 H10 hS10 g110
          | some ps =>
            rw [ef] at hvf
            have hvf' : TQ K H8 vf ps := hvf
            have hvf10 := hvf'.keep ((keepT s9).trans g10.keep)
            obtain ⟨fa, fx, rfl, hfx, pfx⟩ := hvf10
            have lfx := paired_len pfx
            refine ⟨_, rfl, rfl, _, rfl, iteN (by simp) ?_⟩
            refine ⟨_, rfl, fa, _, rfl, .inr hfx, _, _, rfl, rfl, _, rfl, ?_⟩
            by_cases h8 : 8 < fx.length
            · exact iteI (by simp; omega) (kk C10 H10 hS10 g110)
            · refine iteN (by simp; omega) ?_
              have hok := hF2 ps rfl br ef
              have hcl := hF3 ps rfl br ef
              have expd : ∀ (l : List (Int × Int × Int)), List (Nat × Nat) := fun l => l.flatMap fun q => List.replicate q.2.2.toNat (q.1.toNat, q.2.1.toNat)
              refine ⟨_, rfl, fa, rfl, ⟨_, hfx⟩, ?_⟩
              refine for_it walk_tup (fun i σ H' => ∃ (c10 c11 c12 c13 : Option V) (S : Str), σ = [some (.ref va), some (.ref A.o), some (.ref c), some (.int p), some (.int (r.length : Int)), some vl, some (.str (ansF p bs .picture r)), some (.ref fa), some (.str (ansF p bs .clear r)), some (.str S), c10, c11, c12, c13] ∧ H' = H10 ∧ tl S = aheadL ((ps.take i).flatMap fun q => List.replicate q.2.2.toNat (q.1.toNat, q.2.1.toNat)) ∧ S.length ≤ 60 * i)
                ⟨none, none, none, none, "", rfl, rfl, rfl, Nat.le_refl _⟩ (fun i σ H' _ ⟨_, _, _, _, _, _, e, _⟩ => e ▸ hfx) ?_ ?_
              · rintro i x σ H11 H12 hi ⟨c10, c11, c12, c13, S, rfl, rfl, hS11, hl11⟩ ⟨rfl, hxi⟩
                obtain ⟨q, hq1, ta, rfl, hq2⟩ := paired_get pfx hxi
                have hq := hok q (List.mem_of_getElem? hq1)
                obtain ⟨q1, q2, q3, q4, q5, q6⟩ := hq
                have l3 := hP.len
                have nl1 := ns_len (i := q.1) (by omega) (by have := hP.len; omega)
                have nl2 := ns_len (i := q.2.1) (by omega) (by omega)
                have eseg : segS (q.1.toNat, q.2.1.toNat) = ("try " : Str) ++ nS q.1 ++ " " ++ nS q.2.1 ++ " " := by
                  unfold segS
                  rw [show ((q.1.toNat : Nat) : Int) = q.1 by omega, show ((q.2.1.toNat : Nat) : Int) = q.2.1 by omega]
                have lseg : (("try " : Str) ++ nS q.1 ++ " " ++ nS q.2.1 ++ " ").length = 4 + (nS q.1).length + 1 + (nS q.2.1).length + 1 := by rw [len_app, len_app, len_app, len_app]; rfl
                refine ⟨ta, _, rfl, hq2, rfl, _, _, rfl, _, _, rfl, _, _, rfl, rfl, ?_⟩
                refine ⟨_, rfl, _, rfl, _, rfl, log_small (by omega) (by omega), _, _, rfl, rfl, by rw [sizeLine_eq]; show 4 + (nS q.1).length ≤ _; omega, ?_⟩
                refine ⟨_, _, rfl, rfl, by rw [sizeLine_eq]; show (("try " : Str) ++ nS q.1).length + 1 ≤ _; rw [len_app]; show 4 + (nS q.1).length + 1 ≤ _; omega, ?_⟩
                refine ⟨_, rfl, _, rfl, log_small (by omega) (by omega), _, _, rfl, rfl, by rw [sizeLine_eq]; show (("try " : Str) ++ nS q.1 ++ " ").length + (nS q.2.1).length ≤ _; rw [len_app, len_app]; show 4 + (nS q.1).length + 1 + (nS q.2.1).length ≤ _; omega, ?_⟩
                refine ⟨_, _, rfl, rfl, by rw [sizeLine_eq]; show (("try " : Str) ++ nS q.1 ++ " " ++ nS q.2.1).length + 1 ≤ _; rw [len_app, len_app, len_app]; show 4 + (nS q.1).length + 1 + (nS q.2.1).length + 1 ≤ _; omega, ?_⟩
                refine ⟨_, rfl, _, _, rfl, rfl, q5, by omega, by show 0 < (("try " : Str) ++ nS q.1 ++ " " ++ nS q.2.1 ++ " ").length; omega, by show (("try " : Str) ++ nS q.1 ++ " " ++ nS q.2.1 ++ " ").length ≤ 1000; omega, ?_⟩
                have lrep : (repS q.2.2.toNat (("try " : Str) ++ nS q.1 ++ " " ++ nS q.2.1 ++ " ")).length ≤ 60 := by
                  rw [TL.len_tl, repS_tl, List.length_flatten, List.map_replicate, List.sum_replicate_nat, ← TL.len_tl, lseg]
                  have h1 : q.2.2.toNat ≤ 4 := by omega
                  exact Nat.le_trans (Nat.mul_le_mul h1 (Nat.le_refl _)) (by omega)
                refine ⟨_, _, rfl, rfl, by rw [sizeLine_eq]; show S.length + (repS q.2.2.toNat (("try " : Str) ++ nS q.1 ++ " " ++ nS q.2.1 ++ " ")).length ≤ _; omega, ?_⟩
                refine ⟨_, _, _, _, S ++ repS q.2.2.toNat (("try " : Str) ++ nS q.1 ++ " " ++ nS q.2.1 ++ " "), rfl, rfl, ?_, by rw [len_app]; omega⟩
                have et : ps.take (i + 1) = ps.take i ++ [q] := by rw [List.take_add_one, hq1]; rfl
                rw [tl_append, hS11, et, List.flatMap_append, repS_tl, ← eseg]
                unfold aheadL
                rw [List.flatMap_append]
                congr 1
                simp only [List.flatMap_cons, List.flatMap_nil, List.append_nil, List.flatMap_replicate]
              · rintro σ H11 ⟨c10, c11, c12, c13, S, rfl, rfl, hS11, hl11⟩
                rw [lfx, List.take_length] at hS11
                have hcnt := count_ge hS11
                obtain ⟨⟨dx10, hc10⟩, _⟩ := hS10.con
                obtain ⟨l, hl⟩ : ∃ l, l = ps.flatMap fun q => List.replicate q.2.2.toNat (q.1.toNat, q.2.1.toNat) := ⟨_, rfl⟩
                rw [← hl] at hS11 hcnt hcl
                have lmem : ∀ q ∈ l, q.1 < bs.length ∧ q.2 < r.length := fun q hq => by
                  rw [hl] at hq
                  obtain ⟨z, hz, hq⟩ := List.mem_flatMap.mp hq
                  have := hok z hz
                  rw [List.eq_of_mem_replicate hq]
                  show z.1.toNat < bs.length ∧ z.2.1.toNat < r.length
                  omega
                refine ⟨_, rfl, rfl, S, _, rfl, rfl, _, _, rfl, rfl, _, rfl, ?_⟩
                by_cases h9 : Txt.count S ("try" : Str) > 8
                · exact iteI (by simpa using h9) (kk C10 _ hS10 g110)
                · have hl8 : l.length ≤ 8 := by omega
                  refine iteN (by simpa using h9) ?_
                  have htx : S ++ ("clear" : Str) = (chainC l).text := ext_tl (by rw [tl_append, hS11, chain_text])
                  have hcu : (chainC l).isUndo = false := by cases l <;> rfl
                  have hcs : ∀ (y : Nat) (cc : Int), chainC l = .setc y cc → cc < p := by cases l <;> (intro y cc z; cases z)
                  refine ⟨_, rfl, c, dx10, _, rfl, hc10, rfl, _, rfl, _, _, rfl, rfl, by rw [sizeLine_eq]; show S.length + 5 ≤ _; omega, exec_go (cmd := chainC l) hS10 htx (by rw [chain_nest]; exact hl8) (chain_ok lmem) (fun z => by rw [hcu] at z; cases z) hcs hP hrows lrest n1 ln fun C12 H12 hS12 g12' => ?_⟩
                  have hans : ansF p bs (chainC l) r = "bare" := by
                    rw [chain_ans]
                    exact if_pos hcl
                  have hnx : nextF p bs rest r (chainC l) = rest ++ [r] := by cases l <;> rfl
                  rw [hnx] at hS12
                  rw [hans]
                  refine ⟨rfl, ?_⟩
                  simp only [decide_true]
                  exact kk C12 H12 hS12 (g110.trans g12')
        · intro N hN
          refine ⟨_, rfl, by show 0 ≤ sizeLine; decide, fun t9 n9 => ?_⟩
          have s9 := Same.new (o := .tup []) n9
          refine ⟨_, _, dp_P (hl8.same s9), dp_N upd_same, (ok_dP _).shaped, (ok_dN (n := 0)).shaped, _, rfl, ?_⟩
          generalize upd H8 t9 (.tup []) = H9 at s9
          rw [eqvN_P]
          by_cases e : ER.picF r = []
          · refine iteI (by simp [e]) (hN _ _ ⟨?_, s9⟩)
            have ea : ansF p bs .clear r = "bare" := if_pos e
            rw [ea]; rfl
          · refine iteN (by simp [e]) ?_
            refine ⟨by show 2 ≤ sizeLine; decide, fun l nl => ⟨_, rfl, rfl, .inr ⟨_, rfl, l, _, _, .str (ansF p bs .clear r), rfl, rfl, SqL.of upd_same, ?_, hN _ _ ⟨?_, s9.trans (Same.new nl)⟩⟩⟩⟩
            · have ea : ansF p bs .clear r = (if ER.restF p (ER.picF r) (ER.divOnF p bs r.length) = [] then ("yes" : Str) else "no") := if_neg e
              cases ef : ER.foundF p bs r.length (missF p r) with
              | none =>
                rw [ef] at hvf
                obtain rfl : vf = V.non := hvf
                rw [ef] at hF1
                have hn : ¬ ER.restF p (ER.picF r) (ER.divOnF p bs r.length) = [] := fun z => by have := hF1.mpr z; cases this
                rw [if_neg hn] at ea
                rw [ea]; rfl
              | some ps =>
                rw [ef] at hvf hF1
                obtain ⟨fa, fx, rfl, _⟩ := hvf
                have hn : ER.restF p (ER.picF r) (ER.divOnF p bs r.length) = [] := hF1.mp rfl
                rw [if_pos hn] at ea
                rw [ea]; rfl
            · rfl
end
end EV
end
section
set_option Elab.async false
set_option linter.all false
set_option maxRecDepth 100000
set_option maxHeartbeats 4000000
namespace EV
open PySem PySem.Spec PyProof.Rows L2
open ER (cf Bd Row P3 Rule Pan BRow)
open TL (tl ext_tl tl_append)
section
variable {P : Program} {w : World} {K : PySem.W.Frag} {mg : Str → Option Value} {base : Heap}
theorem Dj.fresh {H : Hp} {xs ys : List Addr} (h : ∀ y ∈ xs, H y = none) (h' : ∀ x ∈ ys, H x ≠ none) : Dj xs ys := fun y hy hy' => h' y hy' (h y hy)
theorem mut_ne {H : Hp} {R : List Addr} (h : ∀ c ∈ R, Mut H c) : ∀ c ∈ R, H c ≠ none := fun c hc e => by
  rcases h c hc with ⟨_, q⟩ | ⟨_, _, _, q⟩ <;> (rw [e] at q; cases q)
theorem mem3 {a b c : Addr} {Pz : Addr → Prop} (h1 : Pz a) (h2 : Pz b) (h3 : Pz c) : ∀ y ∈ [a, b, c], Pz y := fun y hy => by
  simp only [List.mem_cons, List.not_mem_nil, or_false] at hy
  rcases hy with rfl | rfl | rfl
  · exact h1
  · exact h2
  · exact h3
theorem go_same {H0 H H' : Hp} {S S' : List Addr} (s : Same H0 H) (n : ∀ y ∈ S, H0 y = none) (g : Go K H S H' S') : Same H0 H' ∧ ∀ y ∈ S', H0 y = none := by
  refine ⟨fun y o hy => g.fr _ _ (s _ _ hy) (fun z => by rw [n y z] at hy; cases hy), fun y hy => ?_⟩
  rcases g.reg y hy with h | h
  · exact n y h
  · exact s.free h
theorem exec_goT {H : Hp} {b : Addr} {m : Nat} {A C T : Tri} {c t : Addr} {p : Int} {bs : List (List (Int × Int))} {pa pc : List (List Int)} {rest : List (List Int)} {r : List Int} {cmd : Cmd} {s : Str} {Q : VK} (h : St3 K H b m A C T c t p bs pa pc (rest ++ [r])) (hs : s = cmd.text) (hn : cmd.nest ≤ 8) (hok : cmd.Ok bs.length r.length) (hun : cmd.isUndo = true → rest ≠ []) (hset : ∀ x cc, cmd = .setc x cc → cc < p)
    (hP : Pan p bs) (hrows : RowsOk p r.length (rest ++ [r])) (lrest : rest.length ≤ 60) (n1 : 1 ≤ r.length) (ln : r.length ≤ 16)
    (k : ∀ T' H', St3 K H' b m A C T' c t p bs pa pc (nextF p bs rest r cmd) → Go K H (Reg b A C T) H' (Reg b A C T') → Q (.str (ansF p bs cmd r)) H') : sp_Console_execute K [.ref t, .str s] H Q E0 := by
  subst hs
  refine ⟨t, cmd, rfl, T.o, T.l, T.k, p, bs, rest, r, [], h.twn, trivial, by omega, hn, hok, fun z => ⟨rfl, hun z⟩, hset, hP, hrows, by omega, by simp; omega, n1, ln, fun l' kl' H5 hl' hk' f5 hC5 => ?_⟩
  obtain ⟨hS5, g5⟩ := h.twin (T' := ⟨T.o, l', kl'⟩) ⟨rfl, hl', hk'⟩ hC5 f5
  exact k _ _ hS5 g5
theorem St3.le {H : Hp} {b : Addr} {m m' : Nat} {A C T : Tri} {c t : Addr} {p : Int} {bs : List (List (Int × Int))} {pa pc pt : List (List Int)} (h : St3 K H b m A C T c t p bs pa pc pt) (hm : m ≤ m') : St3 K H b m' A C T c t p bs pa pc pt := by
  obtain ⟨q1, q2, q3, q4, d1, d2, d3, d4, d5, d6⟩ := h
  exact ⟨q1.le hm, q2, q3, q4, d1, d2, d3, d4, d5, d6⟩
theorem strOk_iff (x : Str) : PyData.strOk x = true ↔ ∀ c ∈ tl x, c < 0x110000 := by
  unfold PyData.strOk
  rw [← Array.all_toList, List.all_eq_true]
  exact ⟨fun h c hc => of_decide_eq_true (h c hc), fun h c hc => decide_eq_true (h c hc)⟩
theorem join_ok (l : List Str) (h : ∀ w ∈ l, PyData.strOk w = true) : PyData.strOk (Txt.join " " l) = true := by
  rw [join_sp]
  induction l with
  | nil => exact (strOk_iff _).mpr (fun c hc => by cases hc)
  | cons a l ih =>
    have h1 := h a (List.mem_cons_self ..)
    cases l with
    | nil => exact h1
    | cons b l =>
      have h2 := ih fun w hw => h w (List.mem_cons_of_mem _ hw)
      rw [strOk_iff] at h1 h2 ⊢
      intro c hc
      have e : tl (Str.join " " (a :: b :: l)) = tl a ++ (tl (" " : Str) ++ tl (Str.join " " (b :: l))) := by
        show tl (a ++ (" " : Str) ++ Str.join " " (b :: l)) = _
        simp only [tl_append, List.append_assoc]
      rw [e] at hc
      rcases List.mem_append.mp hc with hc | hc
      · exact h1 c hc
      · rcases List.mem_append.mp hc with hc | hc
        · have h' : c ∈ ([32] : List Nat) := hc
          rw [List.mem_singleton] at h'
          omega
        · exact h2 c hc
theorem picText_ok {n : Int} {ps : List (Int × Int)} (h0 : -4 ≤ n) (h1 : n ≤ 16) (hB : ∀ q ∈ ps, PairB q) : PyData.strOk (picText n ps) = true := join_ok _ fun w hw => by
  unfold picWords at hw
  rcases List.mem_cons.mp hw with rfl | hw
  · decide +kernel
  rcases List.mem_cons.mp hw with rfl | hw
  · exact (num_of h0 h1).ok
  · obtain ⟨q, hq, rfl⟩ := List.mem_map.mp hw
    obtain ⟨b1, b2, b3, b4⟩ := hB q hq
    exact (pw_of b1 b2 b3 b4).ok
def sp_law (K : PySem.W.Frag) : Sp := fun vs H Q _ => ∃ (a : Addr) (ns : List Int), vs = [.ref a] ∧ SqL K H a (ns.map V.int) ∧ ∀ H', Q (.bl true) H'
theorem cut_8 (ns : List Int) : ∃ ms : List Int, cutV (ns.map V.int) none (some (8 : Int)) = ms.map V.int ∧ ms.length ≤ 8 := by
  refine ⟨ns.take (min 8 ns.length), ?_, by rw [List.length_take]; omega⟩
  unfold cutV
  rw [HT.sIx_none, show (8 : Int) = ((8 : Nat) : Int) from rfl, HT.sIx_nat, List.length_map, List.drop_zero, Nat.sub_zero, List.map_take]
theorem TX.one (T : TX K mg w) {d : DefZ} (i : Nat) (hi : defsL[i]? = some d) (hd : d.dfl = []) {N ps : List Str} {k : Nat} {sp : Sp} (S : FnScope N ps d.scope) (len : ∀ vs H Q E, sp vs H Q E → vs.length = ps.length)
    (hbody : BodyH P w K mg base d N k sp) : ∃ fd, FnOk P w K mg base CX0 (k + 1) (d.at_ K) fd ps sp ∧ FunD K d.name d.qual d.params d.body d.scope [] [] (d.at_ K) fd := by
  obtain ⟨fd, O, F⟩ := T.fnok (CX := CX0) i hi S len fun cdv A outer s H vs Q E hr h => (hbody cdv A outer s H vs Q E hr h).imp fun t q => ⟨q.1.nox, q.2⟩
  rw [hd] at F
  exact ⟨fd, O, F⟩
theorem ok_law (T : TX K mg w) (c_Board_init : C8.Mak P w K mg base 7 "Board" (He.ga K "Board") (sp_Board_init K) [.ref (dfl0 K "Board" "__init__")]) (c_Board_picture : Prp P w K mg base 2 "Board" "picture" (sp_Board_picture K)) (c_Board_deeds : Prp P w K mg base 1 "Board" "deeds" (sp_Board_deeds K)) (c_Board_undo : C8.Met P w K mg base 1 (He.ga K "Board") "undo" (sp_Board_undo K) []) (c_write_panel : C8.Cal P w K mg base 7 "write_panel" (sp_write_panel K) []) (c_read_panel : C8.Cal P w K mg base 5 "read_panel" (sp_read_panel K) []) (c_write_picture : C8.Cal P w K mg base 6 "write_picture" (sp_write_picture K) []) (c_Console_init : C8.Mak P w K mg base 9 "Console" (He.ga K "Console") (sp_Console_init K) []) (c_Console_execute : C8.Met P w K mg base 31 (He.ga K "Console") "execute" (sp_Console_execute K) []) (c_law_bag : C8.Cal P w K mg base 1 "_law_bag" (sp_law_bag K) []) (c_law_draw : C8.Cal P w K mg base 1 "_law_draw" (sp_law_draw K) []) (c_law_base : C8.Cal P w K mg base 2 "_law_base" (sp_law_base K) []) (c_law_desk : C8.Cal P w K mg base 3 "_law_desk" (sp_law_desk K) []) (c_law_agree : C8.Cal P w K mg base 32 "_law_agree" (sp_law_agree K) []) (c_law_deed_right : C8.Cal P w K mg base 32 "_law_deed_right" (sp_law_deed_right K) []) (hF : ∀ (p : Int) (bs : List (List (Int × Int))) (n : Nat), Pan p bs → 1 ≤ n → n ≤ 16 → Facts p bs n) : ∃ fd, FnOk P w K mg base CX0 34 (d_law.at_ K) fd ["_law_script"] (sp_law K) ∧ FunD K d_law.name d_law.qual d_law.params d_law.body d_law.scope [] [] (d_law.at_ K) fd := by
  refine T.one (d := d_law) 87 rfl rfl (S := sc_law) (fun vs H Q E h => ?_) (fun cdv Ar outer s H vs Q E hr h => ?_)
  · obtain ⟨a, ns, rfl, _⟩ := h; rfl
  · obtain ⟨a, ns, rfl, hns, kk⟩ := h
    refine ⟨_, (pss_cons (ps_for PassesOwn.never rfl (pi_list (pe_op op_cat (pe_lst (pa_cons pe_int pa_nil)) (pe_slice sl_list (pv 0) po_none (po_some pe_int)))) (pg_name (i := 1) sc_law.nd rfl (by first | exact Or.inl rfl | exact Or.inr rfl)) (pss_cons (ps_set (i := 2) sc_law.nd rfl (by first | exact Or.inl rfl | exact Or.inr rfl) (C8.pe_c c_law_bag hr (by decide) (by rfl) (pa_cons (pv 1) pa_nil)))
    (pss_cons (ps_par (i := 3) (j := 4) rfl sc_law.nd rfl rfl (by decide) rfl rfl (pa_cons (C8.pe_c c_law_base hr (by decide) (by rfl) (pa_cons (pv 2) pa_nil)) (pa_cons (pe_op op_add pe_int (C8.pe_c c_law_draw hr (by decide) (by rfl) (pa_cons (pv 2) (pa_cons pe_int pa_nil)))) pa_nil)) (by rfl))
    (pss_cons (ps_set (i := 5) sc_law.nd rfl (by first | exact Or.inl rfl | exact Or.inr rfl) (C8.pe_c c_law_desk hr (by decide) (by rfl) (pa_cons (pv 2) (pa_cons (pv 3) (pa_cons pe_int (pa_cons pe_int pa_nil))))))
    (pss_cons (ps_par (i := 6) (j := 7) rfl sc_law.nd rfl rfl (by decide) rfl rfl (pa_cons (C8.pe_mk c_Board_init hr (by decide) (by rfl) (pa_cons (pv 5) (pa_cons (pv 4) pa_nil))) (pa_cons (C8.pe_mk c_Console_init hr (by decide) (by rfl) (pa_cons (pv 5) (pa_cons (pv 4) pa_nil))) pa_nil)) (by rfl))
    (pss_cons (ps_set (i := 8) sc_law.nd rfl (by first | exact Or.inl rfl | exact Or.inr rfl) (C8.pe_mk c_Console_init hr (by decide) (by rfl) (pa_cons (C8.pe_c c_read_panel hr (by decide) (by rfl) (pa_cons (C8.pe_c c_write_panel hr (by decide) (by rfl) (pa_cons (pv 5) pa_nil)) pa_nil)) (pa_cons (pv 4) pa_nil))))
    (pss_cons (ps_for PassesOwn.never rfl (pi_range1 rfl (T.fr 11 rfl) (pa_cons (pe_op op_add pe_int (C8.pe_c c_law_draw hr (by decide) (by rfl) (pa_cons (pv 2) (pa_cons pe_int pa_nil)))) pa_nil)) (pg_name (i := 9) sc_law.nd rfl (by first | exact Or.inl rfl | exact Or.inr rfl)) (pss_cons (ps_if (PW.pt (pw_or (pt_not (pt_val (C8.pe_c c_law_deed_right hr (by decide) (by rfl) (pa_cons (pv 2) (pa_cons (pv 5) (pa_cons (pv 6) (pa_cons (pv 7) (pa_cons (pv 8) pa_nil)))))))) (pw_or1 (pt_not (pt_val (C8.pe_c c_law_agree hr (by decide) (by rfl) (pa_cons (pv 5) (pa_cons (pv 6) (pa_cons (pv 7) pa_nil))))))))) (pss_one (ps_ret pe_bl)) pss_nil)
    (pss_one (ps_if (pt_cmpR op_ne (C8.pe_mt c_Console_execute hr (by decide) (pv 8) (pa_cons pe_str pa_nil)) (C8.pe_mt c_Console_execute hr (by decide) (pv 7) (pa_cons pe_str pa_nil)) (nomark _)) (pss_one (ps_ret pe_bl)) pss_nil))))
    (pss_cons (ps_while PassesOwn.never (pt_cmpR op_gt (c_Board_deeds.prop (pv 6) hr (by decide) rfl) pe_int (nomark _)) (pss_cons (ps_expr (C8.pe_mt0 c_Board_undo hr (by decide) (pv 6)))
    (pss_cons (ps_set (i := 10) sc_law.nd rfl (by first | exact Or.inl rfl | exact Or.inr rfl) (C8.pe_c c_write_picture hr (by decide) (by rfl) (pa_cons (pv 3) (pa_cons (pv 4) (pa_cons (c_Board_picture.prop (pv 6) hr (by decide) rfl) pa_nil)))))
    (pss_one (ps_if (pt_cmpR (op_neD hr.units) (pe_lst (pa_cons (C8.pe_mt c_Console_execute hr (by decide) (pv 7) (pa_cons pe_str pa_nil)) (pa_cons (C8.pe_mt c_Console_execute hr (by decide) (pv 7) (pa_cons pe_str pa_nil)) pa_nil))) (pe_lst (pa_cons pe_str (pa_cons (pv 10) pa_nil))) (nomark _)) (pss_one (ps_ret pe_bl)) pss_nil)))))
    (pss_one (ps_if (pt_not (pt_val (C8.pe_c c_law_agree hr (by decide) (by rfl) (pa_cons (pv 5) (pa_cons (pv 6) (pa_cons (pv 7) pa_nil)))))) (pss_one (ps_ret pe_bl)) pss_nil))))))))))
    (pss_one (ps_ret pe_bl))), ?_⟩
    refine ⟨by show 1 ≤ sizeLine; decide, fun l1 n1 => ?_⟩
    have s1 := Same.new (o := .lst [V.int 0]) n1
    have hl1 : upd H l1 (.lst [V.int 0]) l1 = some (.lst [V.int 0]) := upd_same
    have hns1 : SqL K (upd H l1 (.lst [V.int 0])) a (ns.map V.int) := by
      rcases hns with (h | ⟨o, h⟩) | h
      · exact .inl (.inl (s1 _ _ h))
      · exact .inl (.inr ⟨o, s1 _ _ h⟩)
      · exact .inr h
    generalize upd H l1 (.lst [V.int 0]) = H1 at s1 hl1 hns1
    refine ⟨_, rfl, _, rfl, a, _, rfl, hns1, fun q nq => ?_⟩
    obtain ⟨ms, hms, lms⟩ := cut_8 ns
    rw [hms]
    have s2 := Same.new (o := .lst (ms.map V.int)) nq
    have hq2 : upd H1 q (.lst (ms.map V.int)) q = some (.lst (ms.map V.int)) := upd_same
    have hl2 := s2 _ _ hl1
    generalize upd H1 q (.lst (ms.map V.int)) = H2 at s2 hq2 hl2
    refine ⟨l1, q, _, _, rfl, rfl, hl2, hq2, by rw [sizeLine_eq, List.length_map]; simp; omega, fun L nL => ?_⟩
    have hL3 : upd H2 L (.lst ([V.int 0] ++ ms.map V.int)) L = some (.lst ((0 :: ms).map V.int)) := upd_same
    generalize upd H2 L (.lst ([V.int 0] ++ ms.map V.int)) = H3 at hL3
    refine ⟨L, rfl, ⟨_, SqL.of hL3⟩, ?_⟩
    refine for_it walk_list (fun i σ H' => ∃ (c1 c2 c3 c4 c5 c6 c7 c8 c9 c10 : Option V), σ = [some (.ref a), c1, c2, c3, c4, c5, c6, c7, c8, c9, c10] ∧ H' L = some (.lst ((0 :: ms).map V.int)))
      ⟨none, none, none, none, none, none, none, none, none, none, rfl, hL3⟩ (fun i σ H' _ ⟨_, _, _, _, _, _, _, _, _, _, _, h⟩ => SqL.of h) ?_ ?_
    · rintro i x σ H0' H0 hi ⟨c1, c2, c3, c4, c5, c6, c7, c8, c9, c10, rfl, hL0⟩ ⟨rfl, hxi⟩
      obtain ⟨rfl, _⟩ := map_get hxi
      generalize cf (0 :: ms) i = cell
      refine ⟨_, rfl, cell, rfl, fun b H1 nb s1 hb1 => ?_⟩
      refine ⟨_, rfl, b, 0, rfl, hb1, by decide, fun p H2 hp hb2 f2 => ?_⟩
      refine ⟨_, rfl, b, 16, 0 + 1, rfl, hb2, by decide, by decide, by decide, fun v H3 v0 v1 hb3 f3 => ⟨_, _, rfl, rfl, _, _, rfl, ?_⟩⟩
      obtain ⟨n, hn⟩ : ∃ n : Nat, 1 + v = (n : Int) := ⟨(1 + v).toNat, by omega⟩
      have hn1 : 1 ≤ n := by omega
      have hn16 : n ≤ 16 := by omega
      dsimp only
      rw [hn]
      refine ⟨_, rfl, _, rfl, b, p, 0 + 1 + 1, rfl, hb3, hp, by decide, fun vd bs H4 hvd hP hb4 f4 => ?_⟩
      have f14 : Fr [b] H1 H4 := (f2.trans f3).trans f4
      have F0 := hF p bs n hP hn1 hn16
      -- the board
      refine ⟨_, rfl, _, rfl, fun xb db nxb ndb neb => ?_⟩
      have s5 : Same H4 (upd (upd H4 db (.own xb)) xb (.ins (He.ga K "Board") db [])) := (Same.new ndb).trans (Same.new (by rw [upd_ne neb.symm]; exact nxb))
      have hx5 : upd (upd H4 db (.own xb)) xb (.ins (He.ga K "Board") db []) xb = some (.ins (He.ga K "Board") db []) := upd_same
      generalize upd (upd H4 db (.own xb)) xb (.ins (He.ga K "Board") db []) = H5 at s5 hx5
      refine ⟨xb, db, vd, .ref (dfl0 K "Board" "__init__"), p, bs, n, [], rfl, hx5, hvd.same s5, hP, hn1, by omega, ⟨_, [], rfl, T.t_dfl _, .nil⟩, ⟨.nil, (fun _ h => by cases h), (fun _ h => by cases h)⟩, fun lb kb H6 nlb nkb hB6 f6 => ⟨rfl, ?_⟩⟩
      have s46 : Same H4 H6 := fun y o hy => f6 _ _ (s5 _ _ hy) (fun z => by rw [List.mem_singleton.mp z, nxb] at hy; cases hy)
      have nlb4 := s5.free nlb
      have nkb4 := s5.free nkb
      -- the console
      refine ⟨_, rfl, _, rfl, fun xc dc nxc ndc nec => ?_⟩
      have s7 : Same H6 (upd (upd H6 dc (.own xc)) xc (.ins (He.ga K "Console") dc [])) := (Same.new ndc).trans (Same.new (by rw [upd_ne nec.symm]; exact nxc))
      have hx7 : upd (upd H6 dc (.own xc)) xc (.ins (He.ga K "Console") dc []) xc = some (.ins (He.ga K "Console") dc []) := upd_same
      generalize upd (upd H6 dc (.own xc)) xc (.ins (He.ga K "Console") dc []) = H7 at s7 hx7
      refine ⟨xc, dc, vd, p, bs, n, rfl, hx7, hvd.same (s46.trans s7), hP, hn1, by omega, fun ac lc kc H8 nac nlc nkc hC8 f8 => ⟨rfl, _, _, rfl, ?_⟩⟩
      have s68 : Same H6 H8 := fun y o hy => f8 _ _ (s7 _ _ hy) (fun z => by rw [List.mem_singleton.mp z, nxc] at hy; cases hy)
      -- the twin
      refine ⟨_, rfl, p, vd, bs, rfl, hvd.same (s46.trans s68), hP, fun H9 s9 => ⟨p, bs, rfl, hP, fun v2 H10 s10 hv2 => ⟨_, rfl, fun xt dt nxt ndt nett => ?_⟩⟩⟩
      have s810 := s9.trans s10
      have s11 : Same H10 (upd (upd H10 dt (.own xt)) xt (.ins (He.ga K "Console") dt [])) := (Same.new ndt).trans (Same.new (by rw [upd_ne nett.symm]; exact nxt))
      have hx11 : upd (upd H10 dt (.own xt)) xt (.ins (He.ga K "Console") dt []) xt = some (.ins (He.ga K "Console") dt []) := upd_same
      generalize upd (upd H10 dt (.own xt)) xt (.ins (He.ga K "Console") dt []) = H11 at s11 hx11
      refine ⟨xt, dt, v2, p, bs, n, rfl, hx11, hv2.same s11, hP, hn1, by omega, fun at_ lt kt H12 nat nlt nkt hT12 f12 => ⟨rfl, ?_⟩⟩
      have s1012 : Same H10 H12 := fun y o hy => f12 _ _ (s11 _ _ hy) (fun z => by rw [List.mem_singleton.mp z, nxt] at hy; cases hy)
      have s612 := s68.trans (s810.trans s1012)
      have s812 := s810.trans s1012
      have s412 := s46.trans s612
      have lr0 := coloursF_len n []
      have br0 : Bd p (ER.coloursF n []) := coloursF_bd hp.pos n (fun _ h => by cases h)
      have hbm : ∀ {H' : Hp}, Same H4 H' → ∀ x ∈ [b], H' x ≠ none := fun s => mut_ne (hb4.same s).mut
      have hS12 : St3 K H12 b (0 + 1 + 1 + 200) ⟨xb, lb, kb⟩ ⟨ac, lc, kc⟩ ⟨at_, lt, kt⟩ xc xt p bs ([] ++ [ER.coloursF n []]) ([] ++ [ER.coloursF n []]) ([] ++ [ER.coloursF n []]) :=
        ⟨hb4.same s412, BO.same hB6 s612, CO.same hC8 s812, hT12, Dj.fresh (mem3 nxb nlb4 nkb4) (hbm (fun _ _ h => h)), Dj.fresh (mem3 nac nlc nkc) (hbm (s46.trans s7)), Dj.fresh (mem3 nat nlt nkt) (hbm (s46.trans (s68.trans (s810.trans s11)))),
          Dj.symm (Dj.fresh (mem3 nac nlc nkc) (mut_ne (BO.same hB6 s7).mut)), Dj.symm (Dj.fresh (mem3 nat nlt nkt) (mut_ne (BO.same hB6 (s68.trans (s810.trans s11))).mut)), Dj.symm (Dj.fresh (mem3 nat nlt nkt) (mut_ne (CO.same hC8 (s810.trans s11)).2.mut))⟩
      have s04 : Same H0 H4 := fun y o hy => f14 _ _ (s1 _ _ hy) (fun z => by rw [List.mem_singleton.mp z, nb] at hy; cases hy)
      have s012 := s04.trans s412
      have reg0 : ∀ y ∈ Reg b ⟨xb, lb, kb⟩ ⟨ac, lc, kc⟩ ⟨at_, lt, kt⟩, H0 y = none := fun y hy => by
        simp only [Reg, List.mem_cons, List.mem_append] at hy
        rcases hy with rfl | (hy | hy) | hy
        · exact nb
        · exact s04.free (mem3 (Pz := fun y => H4 y = none) nxb nlb4 nkb4 y hy)
        · exact (s04.trans (s46.trans s7)).free (mem3 (Pz := fun y => H7 y = none) nac nlc nkc y hy)
        · exact (s04.trans (s46.trans (s68.trans (s810.trans s11)))).free (mem3 (Pz := fun y => H11 y = none) nat nlt nkt y hy)
      refine ⟨_, rfl, b, 14, _, rfl, hS12.bag, by decide, by decide, by decide, fun v13 H13 v130 v131 hb13 f13 => ?_⟩
      obtain ⟨hS13, g13⟩ := hS12.draw hb13 f13
      obtain ⟨s013, reg13⟩ := go_same s012 reg0 g13
      refine ⟨_, _, rfl, rfl, 1 + v13, rfl, by omega, by omega, ?_⟩
      refine for_it walk_range (fun i σ H' => ∃ (c9 c10 : Option V) (A' C' T' : Tri) (rest : List (List Int)) (r : List Int), σ = [some (.ref a), some (.int cell), some (.ref b), some (.int p), some (.int (n : Int)), some vd, some (.ref A'.o), some (.ref xc), some (.ref xt), c9, c10] ∧ St3 K H' b (300 + 10 * i) A' C' T' xc xt p bs (rest ++ [r]) (rest ++ [r]) (rest ++ [r]) ∧ RowsOk p n (rest ++ [r]) ∧ rest.length ≤ i ∧ Same H0 H' ∧ (∀ y ∈ Reg b A' C' T', H0 y = none) ∧ TPan K H' vd p bs)
        ⟨c9, c10, ⟨xb, lb, kb⟩, ⟨ac, lc, kc⟩, ⟨at_, lt, kt⟩, [], ER.coloursF n [], rfl, hS13.le (by decide), (fun q hq => by rw [List.nil_append, List.mem_singleton] at hq; rw [hq]; exact ⟨lr0, br0⟩), Nat.le_refl _, s013, reg13, (hvd.same s412).keep g13.keep⟩ (fun _ _ _ _ _ => trivial) ?_ ?_
      · rintro i x σ H14' H14 hi ⟨c9, c10, A', C', T', rest, r, rfl, hS14, hrows, lrest, s014, reg14, hvd14⟩ ⟨rfl, rfl⟩
        have hi14 : i < 14 := by have : i < (1 + v13).toNat := hi; omega
        have hrl : r.length = n := (hrows r (by simp)).1
        refine ⟨_, rfl, _, rfl, _, rfl, _, rfl, _, rfl, b, _, A', C', T', xc, xt, p, bs, rest, r, vd, rfl, hvd14, hP, hS14, hrl ▸ hrows, by omega, by omega, by omega, by omega, fun A2 C2 T2 rest2 r2 H15 hA2 hS15 hrows2 lr2 g15 => ?_⟩
        obtain ⟨s015, reg15⟩ := go_same s014 reg14 g15
        rw [hrl] at hrows2
        have hrl2 : r2.length = n := (hrows2 r2 (by simp)).1
        have hvd15 := hvd14.keep g15.keep
        refine ⟨_, rfl, iteN (by decide) ?_⟩
        refine ⟨_, rfl, _, rfl, _, rfl, b, _, A2, C2, T2, xc, xt, p, bs, rest2, rest2 ++ [r2], r2, vd, by rw [hA2]; rfl, hvd15, hP, hS15, hrl2 ▸ hrows2, by omega, by omega, by omega, hrl2 ▸ F0, fun C3 H16 hS16 g16 => ?_⟩
        obtain ⟨s016, reg16⟩ := go_same s015 reg15 g16
        refine ⟨_, rfl, iteN (by decide) ?_⟩
        obtain ⟨⟨dxt, ht16⟩, _⟩ := hS16.twn
        refine ⟨_, rfl, xt, dxt, _, rfl, ht16, rfl, exec_goT hS16 txt_picture (by decide) trivial (fun z => by cases z) (fun y cc z => by cases z) hP (hrl2 ▸ hrows2) (by omega) (by omega) (by omega) fun T4 H17 hS17 g17 => ?_⟩
        obtain ⟨s017, reg17⟩ := go_same s016 reg16 g17
        obtain ⟨⟨dxc, hc17⟩, _⟩ := hS17.con
        refine ⟨_, rfl, xc, dxc, _, rfl, hc17, rfl, exec_go hS17 txt_picture (by decide) trivial (fun z => by cases z) (fun y cc z => by cases z) hP (hrl2 ▸ hrows2) (by omega) (by omega) (by omega) fun C5 H18 hS18 g18 => ?_⟩
        obtain ⟨s018, reg18⟩ := go_same s017 reg17 g18
        refine ⟨rfl, _, rfl, iteN (by simp) ?_⟩
        refine ⟨some (.int (0 + (i : Int))), c10, A2, C5, T4, rest2, r2, ?_, hS18.le (by omega), hrows2, by omega, s018, reg18, ((hvd15.keep g16.keep).keep g17.keep).keep g18.keep⟩
        rw [hA2]; rfl
      · rintro σ H14 ⟨c9, c10, A', C', T', rest, r, rfl, hS14, hrows, lrest, s014, reg14, hvd14⟩
        have l15 : rest.length ≤ 15 := by omega
        refine ⟨fun m σ H' => ∃ (c9 c10 : Option V) (A' C' T' : Tri) (rest pt : List (List Int)) (r : List Int), σ = [some (.ref a), some (.int cell), some (.ref b), some (.int p), some (.int (n : Int)), some vd, some (.ref A'.o), some (.ref xc), some (.ref xt), c9, c10] ∧ St3 K H' b 1000 A' C' T' xc xt p bs (rest ++ [r]) (rest ++ [r]) pt ∧ RowsOk p n (rest ++ [r]) ∧ rest.length = m ∧ m ≤ 15 ∧ Same H0 H' ∧ (∀ y ∈ Reg b A' C' T', H0 y = none) ∧ TPan K H' vd p bs,
          ⟨rest.length, c9, c10, A', C', T', rest, rest ++ [r], r, rfl, hS14.le (by omega), hrows, rfl, l15, s014, reg14, hvd14⟩, ?_⟩
        rintro m σ H15 ⟨c9, c10, A', C', T', rest, pt, r, rfl, hS15, hrows, rfl, lm, s015, reg15, hvd15⟩
        have hrl : r.length = n := (hrows r (by simp)).1
        obtain ⟨dxa, wa, xsa, ya, e1, _⟩ := BO.last hS15.brd
        refine ⟨_, rfl, A'.o, dxa, _, rfl, e1, A'.o, A'.l, A'.k, p, bs, rest, r, [], rfl, hS15.brd, by omega, _, _, rfl, rfl, _, rfl, ?_⟩
        by_cases h0 : rest = []
        · refine iteN (by simp [h0]) ?_
          refine ⟨_, rfl, _, rfl, _, rfl, b, _, A', C', T', xc, xt, p, bs, rest, pt, r, vd, rfl, hvd15, hP, hS15, hrl ▸ hrows, by omega, by omega, by omega, hrl ▸ F0, fun C3 H16 hS16 g16 => ?_⟩
          obtain ⟨s016, reg16⟩ := go_same s015 reg15 g16
          exact ⟨_, rfl, iteN (by decide) ⟨_, _, _, _, _, _, _, _, _, _, rfl, s016 _ _ hL0⟩⟩
        · have hpos : 0 < rest.length := List.length_pos_iff.mpr h0
          refine iteI (by simp; omega) ?_
          obtain ⟨rest2, r2, hr2⟩ : ∃ rest2 r2, rest = rest2 ++ [r2] := ⟨rest.dropLast, rest.getLast h0, (List.dropLast_concat_getLast h0).symm⟩
          have hl2 : rest.length = rest2.length + 1 := by rw [hr2]; simp
          have hrows2 : RowsOk p n (rest2 ++ [r2]) := fun q hq => hrows q (by rw [hr2]; exact List.mem_append_left _ hq)
          have hrl2 : r2.length = n := (hrows2 r2 (by simp)).1
          have br2 := (hrows2 r2 (by simp)).2
          refine ⟨fun σ H' => ∃ (c9 c10 : Option V) (A' C' T' : Tri) (rest pt : List (List Int)) (r : List Int), σ = [some (.ref a), some (.int cell), some (.ref b), some (.int p), some (.int (n : Int)), some vd, some (.ref A'.o), some (.ref xc), some (.ref xt), c9, c10] ∧ St3 K H' b 1000 A' C' T' xc xt p bs (rest ++ [r]) (rest ++ [r]) pt ∧ RowsOk p n (rest ++ [r]) ∧ rest.length = rest2.length ∧ Same H0 H' ∧ (∀ y ∈ Reg b A' C' T', H0 y = none) ∧ TPan K H' vd p bs,
            fun σ' H' ⟨c9, c10, A', C', T', rest, pt, r, h1, h2, h3, h4, h5, h6, h7⟩ => ⟨rest2.length, by omega, c9, c10, A', C', T', rest, pt, r, h1, h2, h3, h4, by omega, h5, h6, h7⟩, ?_⟩
          refine ⟨_, rfl, A'.o, dxa, _, rfl, e1, rfl, A'.o, A'.l, A'.k, p, bs, rest, r, rfl, hS15.brd, h0, fun H16 f16 hB16 => ?_⟩
          obtain ⟨hS16, g16⟩ := hS15.board (A' := A') Nx.refl hB16 f16
          obtain ⟨s016, reg16⟩ := go_same s015 reg15 g16
          have hB16' : BO K H16 A'.o A'.l A'.k p bs (rest2 ++ [r2]) [] := hr2 ▸ hB16
          obtain ⟨dx6, w6, xs6, y6, e61, _⟩ := BO.last hB16'
          refine ⟨_, rfl, _, rfl, _, rfl, A'.o, dx6, _, rfl, e61, A'.o, A'.l, A'.k, p, bs, rest2, r2, [], rfl, hB16', by omega, fun vp H17 s17 hvp => ?_⟩
          have hQ2 : Pic p n (ER.picF r2) := hrl2 ▸ picF_mem br2
          refine ⟨p, n, vp, ER.picF r2, rfl, hvp, hp, hn1, hn16, hQ2, fun H18 s18 => ?_⟩
          have hS18 := hS16.same (s17.trans s18)
          obtain ⟨s018, reg18⟩ := go_same s016 reg16 (Go.same (K := K) (s17.trans s18))
          obtain ⟨⟨dxc, hc18⟩, _⟩ := hS18.con
          refine ⟨_, rfl, xc, dxc, _, rfl, hc18, rfl, exec_go hS18 txt_undo (by decide) trivial (fun _ => h0) (fun y cc z => by cases z) hP (hrl ▸ hrows) (by omega) (by omega) (by omega) fun C3 H19 hS19 g19 => ?_⟩
          obtain ⟨s019, reg19⟩ := go_same s018 reg18 g19
          have hnx : nextF p bs rest r .undo = rest2 ++ [r2] := hr2
          rw [hnx] at hS19
          obtain ⟨⟨dxc2, hc19⟩, _⟩ := hS19.con
          refine ⟨_, rfl, xc, dxc2, _, rfl, hc19, rfl, exec_go hS19 txt_picture (by decide) trivial (fun z => by cases z) (fun y cc z => by cases z) hP (hrl2 ▸ hrows2) (by omega) (by omega) (by omega) fun C4 H20 hS20 g20 => ?_⟩
          obtain ⟨s020, reg20⟩ := go_same s019 reg19 g20
          refine ⟨by show 2 ≤ sizeLine; decide, fun L1 nL1 => ⟨_, rfl, by show 2 ≤ sizeLine; decide, fun L2 nL2 => ?_⟩⟩
          have ea : ansF p bs .picture r2 = picText (n : Int) (ER.picF r2) := by show picText (r2.length : Int) _ = _; rw [hrl2]
          have eo : ansF p bs .undo r = ("ok" : Str) := rfl
          rw [ea, eo]
          have sA := Same.new (o := .lst [.str ("ok" : Str), .str (picText (n : Int) (ER.picF r2))]) nL1
          have od : OkD 1 (.list [.str ("ok" : Str), .str (picText (n : Int) (ER.picF r2))]) := OkD.list fun d hd => by
            simp only [List.mem_cons, List.not_mem_nil, or_false] at hd
            rcases hd with rfl | rfl
            · exact OkD.str (by decide +kernel)
            · exact OkD.str (picText_ok (by omega) (by omega) (hQ2.pairB hp hn16))
          have sB := Same.new (o := .lst [.str ("ok" : Str), .str (picText (n : Int) (ER.picF r2))]) (ea ▸ nL2)
          refine ⟨_, _, .lst (SqL.of (sB _ _ upd_same)) (.cons (.str _) (.cons (.str _) .nil)), .lst (SqL.of upd_same) (.cons (.str _) (.cons (.str _) .nil)), od.shaped, od.shaped, _, rfl, ?_⟩
          have orf := od.refl
          refine iteN (fun z => by
            have z' : (!(PyData.eqv (.list [.str ("ok" : Str), .str (picText (n : Int) (ER.picF r2))]) (.list [.str ("ok" : Str), .str (picText (n : Int) (ER.picF r2))]))) = true := z
            rw [orf] at z'
            cases z') ?_
          have sAB := sA.trans sB
          obtain ⟨s021, reg21⟩ := go_same s020 reg20 (Go.same (K := K) sAB)
          have hpt : True := trivial
          refine ⟨_, _, A', C4, T', rest2, pt, r2, rfl, ?_, hrows2, rfl, s021, reg21, ?_⟩
          · have h := hS20.same sAB
            have e2 : nextF p bs rest2 r2 .picture = rest2 ++ [r2] := rfl
            rw [e2, hr2] at h
            exact h
          · exact (((hvd15.keep g16.keep).same (s17.trans s18)).keep g19.keep |>.keep g20.keep).same sAB
    · rintro σ H0 ⟨c1, c2, c3, c4, c5, c6, c7, c8, c9, c10, rfl, hL0⟩
      exact kk H0
end
end EV
end
section
set_option Elab.async false
set_option linter.all false
set_option maxRecDepth 100000
set_option maxHeartbeats 4000000
namespace EV
open PySem PySem.Spec PyProof.Rows L2
open ER (Pan)
theorem ok_all {P : Program} {w : World} {K : PySem.W.Frag} {mg : Str → Option Value} {base : Heap} (T : TX K mg w) (hF : ∀ (p : Int) (bs : List (List (Int × Int))) (n : Nat), Pan p bs → 1 ≤ n → n ≤ 16 → Facts p bs n) : ∃ fd, FnOk P w K mg base CX0 34 (d_law.at_ K) fd ["_law_script"] (sp_law K) ∧ FunD K d_law.name d_law.qual d_law.params d_law.body d_law.scope [] [] (d_law.at_ K) fd := by
  have sl : ∀ vs H Q E, sp_Board_len K vs H Q E → vs.length = 1 := fun vs H Q E h => by obtain ⟨a, l, kl, p, bs, rest, r, ys, rfl, _⟩ := h; rfl
  have c_is_number := ok_is_number (P := P) (base := base) T
  have c_is_prime := ok_is_prime (P := P) (base := base) T c_is_number
  have c_is_whole := ok_is_whole (P := P) (base := base) T c_is_number
  have c_is_pair := ok_is_pair (P := P) (base := base) T c_is_number c_is_whole
  have c_fits_rule := ok_fits_rule (P := P) (base := base) T c_is_pair
  have c_fits_panel := ok_fits_panel (P := P) (base := base) T c_is_prime c_fits_rule
  have c_need_panel := ok_need_panel (P := P) (base := base) T c_fits_panel
  have c_need_size := ok_need_size (P := P) (base := base) T c_is_number
  have c_is_lamp := ok_is_lamp (P := P) (base := base) T c_is_whole
  have c_fits_picture := ok_fits_picture (P := P) (base := base) T c_is_lamp
  have c_need_picture := ok_need_picture (P := P) (base := base) T c_fits_picture
  have c_colours_of := ok_colours_of (P := P) (base := base) T
  have c_Board_init := ok_Board_init (P := P) (base := base) T c_need_panel c_need_size c_need_picture c_colours_of
  have c_picture_of := ok_picture_of (P := P) (base := base) T
  have c_picture_ofL := ok_picture_ofL (P := P) (base := base) T
  have c_Board_picture := ok_Board_picture (P := P) (base := base) T c_picture_of
  have c_Board_deeds := ok_Board_deeds (P := P) (base := base) T
  have c_Board_undo := ok_Board_undo (P := P) (base := base) T
  have c_pair_words := ok_pair_words (P := P) (base := base) T
  have c_write_panel := ok_write_panel (P := P) (base := base) T c_need_panel c_pair_words
  have c_word_at := ok_word_at (P := P) (base := base) T
  have c_need_word := ok_need_word (P := P) (base := base) T c_word_at
  have c_whole_of := ok_whole_of (P := P) (base := base) T
  have c_number_at := ok_number_at (P := P) (base := base) T c_is_whole c_whole_of c_word_at
  have c_pair_of := ok_pair_of (P := P) (base := base) T c_whole_of
  have c_pair_at := ok_pair_at (P := P) (base := base) T c_is_whole c_pair_of c_word_at
  have c_pairs_at := ok_pairs_at (P := P) (base := base) T c_pair_at
  have c_read_panel := ok_read_panel (P := P) (base := base) T c_need_word c_number_at c_pair_at c_pairs_at
  have c_need_prime := ok_need_prime (P := P) (base := base) T c_is_prime
  have c_write_picture := ok_write_picture (P := P) (base := base) T c_need_prime c_need_size c_need_picture c_pair_words
  have c_Console_init := ok_Console_init (P := P) (base := base) T c_Board_init
  have c_are_numbers := ok_are_numbers (P := P) (base := base) T c_whole_of
  have c_is_known := Cal.mono' (ok_is_known0 (P := P) (base := base) T c_are_numbers 9) (show 12 ≤ 15 by decide)
  have c_need_number := ok_need_number (P := P) (base := base) T c_is_number
  have c_behind_press := ok_behind_press (P := P) (base := base) T
  have c_Board_lit := ok_Board_lit (P := P) (base := base) T c_picture_of
  have c_Board_need_place := ok_Board_need_place (P := P) (base := base) T c_is_whole
  have c_Board_need_button := ok_Board_need_button (P := P) (base := base) T c_is_whole
  have c_Board_allows := ok_Board_allows (P := P) (base := base) T
  have c_Board_note := ok_Board_note (P := P) (base := base) T
  have c_Board_press := ok_Board_press (P := P) (base := base) T c_need_number c_behind_press c_Board_lit c_Board_need_place c_Board_need_button c_Board_allows c_Board_note
  have c_Board_press2 := ok_Board_press2 (P := P) (base := base) T c_need_number c_behind_press c_Board_lit c_Board_need_place c_Board_need_button c_Board_allows c_Board_note
  have c_Board_press_star := ok_Board_press_star (P := P) (base := base) T c_need_number c_behind_press c_Board_lit c_Board_need_place c_Board_need_button c_Board_allows c_Board_note
  have c_Block_init := ok_Block_init (P := P) (base := base) T
  have c_Board_begin := ok_Board_begin (P := P) (base := base) T
  have c_Block_enter := ok_Block_enter (P := P) (base := base) T c_Board_begin
  have c_Block_exit := ok_Block_exit (P := P) (base := base) T
  have c_Board_setitem := ok_Board_setitem (P := P) (base := base) T c_is_whole c_Board_need_place
  have c_Board_do_turn := ok_Board_do_turn (P := P) (base := base) T c_behind_press c_picture_of c_Board_lit c_Board_need_button
  have c_trimmed := ok_trimmed (P := P) (base := base) T
  have c_added := ok_added (P := P) (base := base) T c_trimmed
  have c_inverse := ok_inverse (P := P) (base := base) T
  have c_divided := ok_divided (P := P) (base := base) T c_trimmed c_inverse
  have c_scaled := ok_scaled (P := P) (base := base) T c_trimmed
  have c_monic := ok_monic (P := P) (base := base) T c_inverse c_scaled
  have c_common_of_two := ok_common_of_two (P := P) (base := base) T c_monic c_divided
  have c_gcd_of := ok_gcd_of (P := P) (base := base) T c_common_of_two
  have c_timesed := ok_timesed (P := P) (base := base) T c_trimmed
  have c_power_of_x := ok_power_of_x (P := P) (base := base) T c_timesed c_divided
  have c_of_rule := ok_of_rule (P := P) (base := base) T
  have c_core_of := ok_core_of (P := P) (base := base) T c_monic c_of_rule
  have c_generator_of := ok_generator_of (P := P) (base := base) T c_gcd_of c_core_of
  have c_divisor_on := ok_divisor_on (P := P) (base := base) T c_added c_divided c_gcd_of c_power_of_x c_generator_of
  have c_rest_of := ok_rest_of (P := P) (base := base) T c_scaled c_added c_power_of_x
  have c_can_reach := ok_can_reach (P := P) (base := base) T c_need_panel c_need_size c_need_picture c_divisor_on c_rest_of
  have c_Board_panel := ok_Board_panel (P := P) (base := base) T
  have c_Board_size := ok_Board_size (P := P) (base := base) T
  have c_Board_getitem := ok_Board_getitem (P := P) (base := base) T c_Board_need_place
  have c_Console_told := ok_Console_told (P := P) (base := base) T c_can_reach c_Board_panel c_Board_size c_Board_picture c_Board_getitem c_write_picture
  have c_Console_answer := Met.mono' (ok_answers (P := P) (base := base) T c_Board_press2 c_whole_of c_Block_init c_Block_enter c_Block_exit c_Board_setitem c_Board_do_turn c_Board_undo c_Console_told c_Board_press_star 8) (show 28 ≤ 30 by decide)
  have c_Console_execute := ok_Console_execute (P := P) (base := base) T c_is_known c_Console_answer
  have c_law_bag := ok_law_bag (P := P) (base := base) T
  have c_law_draw := ok_law_draw (P := P) (base := base) T
  have c_law_base := ok_law_base (P := P) (base := base) T c_law_draw
  have c_law_pairs := ok_law_pairs (P := P) (base := base) T c_law_draw
  have c_law_desk := ok_law_desk (P := P) (base := base) T c_law_draw c_law_pairs
  have c_Board_len := ok_Board_len (P := P) (base := base) T
  have c_read_picture := ok_read_picture (P := P) (base := base) T c_need_prime c_need_word c_number_at c_pairs_at
  have c_lessened := ok_lessened (P := P) (base := base) T
  have c_lessened_by := ok_lessened_by (P := P) (base := base) T c_lessened
  have c_basis_of := ok_basis_of (P := P) (base := base) T c_behind_press c_lessened c_lessened_by
  have c_found_presses := ok_found_presses (P := P) (base := base) T c_colours_of c_lessened_by c_basis_of
  have c_found_weights := ok_found_weights (P := P) (base := base) T c_divided c_divisor_on c_picture_ofL
  have c_law_clearing := ok_law_clearing (P := P) (base := base) T c_picture_ofL c_found_presses c_found_weights c_Board_picture
  have c_law_agree := ok_law_agree (P := P) (base := base) T c_Board_picture c_Board_len c_Board_getitem c_write_picture c_read_picture c_Console_execute c_law_clearing sl
  have c_Board_finish := ok_Board_finish (P := P) (base := base) T
  have c_law_deed_right := ok_law_deed_right (P := P) (base := base) T c_Board_deeds c_Board_len c_Board_setitem c_Board_press c_Board_do_turn c_Board_undo c_Board_begin c_Board_finish c_Console_execute c_law_draw c_Board_press2 sl
  have c_law := ok_law (P := P) (base := base) T c_Board_init c_Board_picture c_Board_deeds c_Board_undo c_write_panel c_read_panel c_write_picture c_Console_init c_Console_execute c_law_bag c_law_draw c_law_base c_law_desk c_law_agree c_law_deed_right hF
  exact c_law
end EV
end
section
set_option Elab.async false
set_option linter.all false
set_option maxRecDepth 100000
set_option maxHeartbeats 4000000
namespace EV
open ER (Pan)
theorem facts_all (p : Int) (bs : List (List (Int × Int))) (n : Nat) (h : Pan p bs) (h1 : 1 ≤ n) (_ : n ≤ 16) : Facts p bs n where
  iff r hr br := by subst hr; exact ER.found_iff h h1 rfl br
  ok r ps hr br hf := by subst hr; exact (ER.found_clear h.hp.pos h1 rfl br hf).1
  clear r ps hr br hf := by subst hr; exact (ER.found_clear h.hp.pos h1 rfl br hf).2
end EV
end
section
set_option Elab.async false
set_option linter.all false
set_option maxRecDepth 100000
set_option maxHeartbeats 4000000
namespace EV
open PySem PySem.Spec PyProof.Rows L2
theorem funD_uniq {K : PySem.W.Frag} {x q : Str} {pr : Arguments} {bd : List Stmt} {sc : Scope} {dv : List V} {kw : List (Str × V)} {f : Addr} {fd fe : FuncData} (F : FunD K x q pr bd sc dv kw f fd) (G : FunD K x q pr bd sc dv kw f fe) : fd = fe := by
  obtain ⟨oc, od, dV, kV, doc, pm, an, cdv, ct, osl, rfl, lk, _, _, _⟩ := F.ex
  obtain ⟨oc2, od2, dV2, kV2, doc2, pm2, an2, cdv2, ct2, osl2, rfl, lk2, _, _, _⟩ := G.ex
  have e := Option.some.inj (lk.symm.trans lk2)
  injection e with e1 e2 e3 e4
  injection e3
theorem law_fn {P : Program} {w : World} {K : PySem.W.Frag} {h : Heap} {mg : Str → Option Value} {f : Addr} (X : K.In h) (G : h.Ns mainGlobals mg) (hfa : mg ("law" : Str) = some (.ref f)) (c : SaysZ faAll defsL exB tbZ w K) :
    ∃ fd : FuncData, (∀ (s : Shared) (v : Value), BindsTo s fd ⟨[v], []⟩ [("_law_script", v)]) ∧ ∀ base : Heap, K.In base → base.Ns mainGlobals mg → FnOk P w K mg base CX0 34 f fd ["_law_script"] (sp_law K) := by
  have T : TX K mg w := tx_of X G c
  obtain ⟨fd, F⟩ := T.def_ 87 d_law rfl
  have e := hfa.symm.trans (T.glo 59 "law" rfl)
  cases e
  have F' : FunD K d_law.name d_law.qual d_law.params d_law.body d_law.scope [] [] (d_law.at_ K) fd := F
  have b := FunD.bindsA (ps := ["_law_script"]) F' fun _ _ _ _ _ _ us hl => match us, hl with | [_], _ => rfl
  refine ⟨fd, fun s v => b s [v] rfl, fun base _ _ => ?_⟩
  obtain ⟨fe, O, F2⟩ := ok_all (P := P) (base := base) T facts_all
  rw [funD_uniq F' F2]
  exact O
end EV
end
section
set_option Elab.async false
set_option linter.all false
set_option maxRecDepth 100000
set_option maxHeartbeats 0
open PySem PySem.W PySem.Calls PyProof.Rows
theorem PySem.Challenge.cw_everyring_k74_whole_consoles_boards_and_holds : PySem.Challenge.rw_everyring_k74_whole_consoles_boards_and.Holds := by
  w_on; o_law
  refine HandSHeadRun.head_any (r := OpenLaw.row PySem.Challenge.rw_everyring_k74_whole_consoles_boards_and) (q := view (OpenLaw.row PySem.Challenge.rw_everyring_k74_whole_consoles_boards_and).prog [103]) (H := EV.hk) (ob := EV.ob) (M := 8000) (loose := EV.names) (d := HandSHeadRun.topDef (OpenLaw.row PySem.Challenge.rw_everyring_k74_whole_consoles_boards_and).prog 103) (kwd := []) EV.ob_eq
    (by kernel_rfl) (fun s => by kernel_rfl) EV.run (by kernel_rfl) (by kernel_rfl) (by kernel_rfl) (by rfl) (by first | assumption | decide +kernel) (by decide +kernel) ⟨rfl, rfl, rfl, rfl, rfl, by decide +kernel⟩ ?hw ?hc
  case hw => w_witness2
  case hc =>
    refine L2.walk_ofE (l := PySem.Challenge.rw_everyring_k74_whole_consoles_boards_and) (n := 63) (k := 34) (x := "_law_script") (CX := L2.CX0) rfl (by decide) (by kernel_rfl) ⟨rfl, by decide, by decide⟩ ?F (fun _ _ _ _ z => z)
    intro w mg fa h Y G hmg0
    obtain ⟨K, KX, c⟩ := Y
    have hmg : mg ("law" : PySem.Str) = some (.ref fa) := by
      have e : (HandSHeadRun.topDef (OpenLaw.row PySem.Challenge.rw_everyring_k74_whole_consoles_boards_and).prog 103).name = ("law" : PySem.Str) := by kernel_rfl
      rw [← e]
      exact hmg0
    obtain ⟨fd, hb, hF⟩ := EV.law_fn (P := (PySem.Challenge.rw_everyring_k74_whole_consoles_boards_and).prog) (w := w) KX G hmg c
    exact ⟨K, fd, EV.sp_law K, KX, hb, fun H a ns hl _ hS => ⟨a, ns, rfl, hS, fun _ => rfl⟩, hF⟩
end
