import PyProof.Rows.All
import Wide.All
import OpenK.AllK
import Wide.FinOn
import HandS.ForMost
import HandS.EndBits
import HandS.Exc
import KE.KExcIs
import HandS.ExcInit
import HandS.ExcField
import HandS.ExcIs
import HandS.ExcValue
import HandS.ClsMeth
import PyProof.ReprReads
import PyProof.ReprRoads
import HandS.RaiseMore
import HandS.Evl
import HandS.Defaults
import HandS.Head0
import HandS.Head1
import HandS.Head2
import HandS.HeadEnd
import HandS.HeadHook1
import HandS.HeadHook2
import HandS.HeadHook3
import HandS.NoneIn
import HandS.Style
import KE.KExcInit
import PyProof.ExcBaseAll.ValueError
import PyProof.ExcBaseAll.LookupError
import PyProof.ExcBaseAll.RuntimeError
import PyProof.ExcBaseAll.ArithmeticError
import PyProof.ReprBulk
import PySem.Challenge.RW_agreeingcasts_k18_exceptions
set_option Elab.async false
set_option linter.all false
set_option maxRecDepth 100000
set_option maxHeartbeats 4000000
/-! QG: promises of defs that are called where no repr is under way (so that repr of data may be asked in them). -/
namespace QG
open PySem PySem.Spec PyProof.Rows L2

/-- a def's promise, kept where no object is being shown -/
structure FnG (P : Program) (w : World) (K : PySem.W.Frag) (mg : Str → Option Value) (base : Heap) (CX : CXT) (k : Nat) (f : Addr) (fd : FuncData) (ps : List Str) (sp : Sp) : Prop where
  len : ∀ vs H Q E, sp vs H Q E → vs.length = ps.length
  run : ∀ (A : Around) (outer : List Env) (s : Shared) (H : Hp) (args : Args) (us : List Value) (vs : List V) (Q : VK) (E : XK), A.guards = some [] → Room k A →
    Env0 P w K mg base A outer s H → BindsTo s fd args (ps.zip us) → Vals vs us → sp vs H Q E → codeAny (model P w) A (.call (.ref f) args) (CR CX outer P w H s Q E) s

section
variable {P : Program} {w : World} {K : PySem.W.Frag} {mg : Str → Option Value} {base : Heap} {CX : CXT} {k : Nat} {f : Addr} {fd : FuncData} {ps : List Str} {sp : Sp}
theorem FnG.of (F : FnOk P w K mg base CX k f fd ps sp) : FnG P w K mg base CX k f fd ps sp := ⟨F.len, fun A outer s H args us vs Q E _ => F.run A outer s H args us vs Q E⟩
theorem FnG.mono {j : Nat} (F : FnG P w K mg base CX j f fd ps sp) (h : j ≤ k) : FnG P w K mg base CX k f fd ps sp :=
  ⟨F.len, fun A outer s H args us vs Q E hg hr => F.run A outer s H args us vs Q E hg (hr.mono h)⟩

theorem guards_deeper {A : Around} {env : Env} (h : A.guards = some []) : (A.deeper env).guards = some [] := h

/-- the body's rule -/
theorem fn_ofG {name qual : Str} {params : Arguments} {body : List Stmt} {scope : Scope} {dV kV doc pm cdv ct oc : Value} {an od : Option Addr} {osl : Array (Option Value)} {N : List Str}
    (lk : K.lookup f = some ⟨oc, od, .func (PySem.W.fnOf name qual params body scope dV kV doc pm an cdv ct), osl⟩) (hcd : PySem.W.codeIn K cdv qual = true) (S : FnScope N ps scope)
    (len : ∀ vs H Q E, sp vs H Q E → vs.length = ps.length)
    (hb : ∀ (A : Around) (outer : List Env) (s : Shared) (H : Hp) (vs : List V) (Q : VK) (E : XK), (A.deeper (envOfC qual scope s.heap.objs.size f cdv)).guards = some [] →
      Room k (A.deeper (envOfC qual scope s.heap.objs.size f cdv)) → sp vs H Q E →
      ∃ t, PSs (cxOf CX P w K mg base N qual scope f cdv A outer s H E) body t ∧ t { nx := fun _ H' => Q .non H', rt := Q } (start N vs) H) :
    FnG P w K mg base CX (k + 1) f (PySem.W.fnOf name qual params body scope dV kV doc pm an cdv ct) ps sp := by
  refine ⟨len, fun A outer s H args us vs Q E gd rm e0 bt rv q => ?_⟩
  have hl : vs.length = ps.length := len _ _ _ _ q
  have stays : ∀ b o, base.get? b = some o → s.heap.get? b = some o := fun b o e => (e0.bs b o e).1
  have KX : K.In s.heap := e0.mod.kin.keeps stays
  have lim : s.heap.NoLimit := e0.mod.nolimit.keeps stays
  have kinds : ∀ y ∈ ps.zip us, scope.names.lookup y.1 = some .local ∨ (scope.names.lookup y.1 = some .cell ∧ ((cellsFrom (s.heap.objs.size + 1) scope.names []).lookup y.1).isSome = true) := by
    rintro ⟨n, v⟩ hy
    have hn : n ∈ ps := (List.of_mem_zip hy).1
    exact (S.par n hn).imp id fun z => ⟨z, PySem.W.cellsFrom_some _ _ _ (.inl z)⟩
  refine codeAny_call_function rm.depth (KX _ _ lk) rfl S.co S.gen rfl (PySem.W.codeRec_of KX hcd) (bt _ _ _ _ ?_)
  refine wpAny_newFunctionEnv_cells S.kind kinds fun env he s1 x => ?_
  subst he
  refine ⟨lim.keeps x.toInCall.keep, codeAny_func ?_⟩
  obtain ⟨t, ht, hq⟩ := hb A outer s H vs Q E (guards_deeper gd) (rm.deeper _) q
  have I := inv_start (CX := CX) (P := P) (E := E) S rm.hd e0 hl rv x
  refine wpAny_mono (ht.run [] s1 (start N vs) H _ I hq) (fun fl s' hs => ?_) fun _ _ z => z
  cases fl with
  | ret u =>
    obtain ⟨v, σ', H', J, rv', q'⟩ := hs
    exact ⟨v, H', J.os, J.bare, J.base, J.hok, rv', q'⟩
  | next =>
    obtain ⟨σ', H', J, q'⟩ := hs
    exact ⟨.non, H', J.os, J.bare, J.base, J.hok, rfl, q'⟩
  | brk =>
    obtain ⟨_, _, _, z⟩ := hs
    exact z.elim
  | cont =>
    obtain ⟨_, _, _, z⟩ := hs
    exact z.elim
/-- .. for a def of the text; its exceptions, if any, lie as CX says -/
theorem okG {x qual : Str} {st : Stmt} {N : List Str} (F : Fun K x qual st f fd) (S : FnScope N ps (defScope st)) (len : ∀ vs H Q E, sp vs H Q E → vs.length = ps.length)
    (hb : ∀ (cdv : Value) (A : Around) (outer : List Env) (s : Shared) (H : Hp) (vs : List V) (Q : VK) (E : XK), (A.deeper (envOfC qual (defScope st) s.heap.objs.size f cdv)).guards = some [] →
      Room k (A.deeper (envOfC qual (defScope st) s.heap.objs.size f cdv)) → sp vs H Q E →
      ∃ t, PSs (cxOf CX P w K mg base N qual (defScope st) f cdv A outer s H E) (defBody st) t ∧ t { nx := fun _ H' => Q .non H', rt := Q } (start N vs) H) : FnG P w K mg base CX (k + 1) f fd ps sp := by
  obtain ⟨oc, od, kV, doc, pm, an, cdv, ct, osl, rfl, lk, hcd⟩ := F.ex
  exact fn_ofG lk hcd S len fun A outer s H vs Q E gd rm q => hb cdv A outer s H vs Q E gd rm q
end

section
variable {X : Cx} {CX : CXT} {k : Nat} {f : Addr} {fd : FuncData} {ps : List Str} {sp : Sp} {dvs : List V} {ds : List Value} {E : XK} {x : Str} {p pos : Pos} {e : Expr} {es : List Expr} {t : TA}
theorem run_fnG {pins : List (Addr × Obj)} {σ : L2.St} {H : Hp} {s : Shared} {Q : VK} {us : List Value} {vs : List V} (F : FnG X.prog X.w X.K X.mg X.base CX k f fd ps sp) (gd : X.A.guards = some []) (rm : Room k X.A)
    (bd : Binds X.K fd ps ds) (hd : Vals dvs ds) (hx : Passes CX X E) (I : Inv X pins σ H s) (rv : Vals vs us) (q : sp (vs ++ dvs) H Q E) : wpAny (model X.prog X.w) X.A (call (.ref f) us) (EP X pins σ Q) X.xe s := by
  have r2 : Vals (vs ++ dvs) (us ++ ds) := rv.append hd
  have hl : (us ++ ds).length = ps.length := r2.length.symm.trans (F.len _ _ _ _ q)
  refine wpAny_call (codeAny_mono (F.run X.A X.stack s H ⟨us, []⟩ (us ++ ds) (vs ++ dvs) Q E gd rm I.env0 (bd s us I.kIn hl) r2 q) fun r s' z => ?_)
  rcases r with er | fl
  · exact hx pins σ H s er s' I z
  · cases fl <;> first | exact I.after z | exact False.elim z
theorem pe_callG (F : FnG X.prog X.w X.K X.mg X.base CX k f fd ps sp) (gd : X.A.guards = some []) (rm : Room k X.A) (hg : Gl X x) (hm : X.mg x = some (.ref f)) (hk : PySem.W.keepIn X.K (.ref f) = true)
    (bd : Binds X.K fd ps ds) (hd : Vals dvs ds) (hx : Passes CX X E) (ha : PA X (e :: es) t) (hdb : (x == ("__debug__" : Str)) = false := by decide)
    (he : starEach (e :: es) X.env = (false, eval e X.env) :: starEach es X.env := by rfl) (hpl : (backTo pos (starEach es X.env)).any (·.1) = false := by rfl) : PE X (.Call (.Name x p) (e :: es) [] pos) (tCall sp dvs E t) :=
  ⟨fun pins s σ H Q I h => wpAny_Call_Name_kw (ld_glob I hg hm (PySem.W.callWith_K (h₀ := X.base) I.ok.mod.kin hk
    (thn (ha.run pos pins s σ H _ I h) fun _ _ ⟨_, _, I1, r, q⟩ => ⟨I1.kIn, run_fnG F gd rm bd hd hx I1 r q⟩) he hpl) hdb)⟩
end

/-! ### the end of a law row -/
section
variable {P : Program} {w : World} {K : PySem.W.Frag} {mg mb : Str → Option Value} {CX : CXT} {k : Nat} {fa a : Addr} {fd : FuncData} {x : Str} {sp : Sp} {s₁ : Shared} {vs : List Value} {ns : List Int}
/-- the script alone is tracked, or nothing -/
def H1 (K : PySem.W.Frag) (a : Addr) (o : Obj) (ns : List Int) : Hp := fun b => if b = a ∧ K.lookup a = none then some (.frz o (.lst (ns.map V.int))) else none
theorem law_callG (KX : K.In s₁.heap) (hns : s₁.heap.Ns mainGlobals mg) (hb : s₁.heap.Ns builtinsNs mb) (hbb : ∀ x : Str, x ≠ "__name__" → mb x = bootBuiltins x) (hlim : s₁.heap.NoLimit) (hg : s₁.gens = #[])
    (ha : s₁.heap.get? a = some { cls := .type "list", data := .seq vs.toArray }) (hi : IntsAre vs ns) (hl : ns.length ≤ sizeLine) (hr : Room k callerA)
    (F : ∀ base : Heap, K.In base → base.Ns mainGlobals mg → FnG P w K mg base CX k fa fd [x] sp) (hbind : ∀ (s : Shared) (u : Value), BindsTo s fd ⟨[u], []⟩ [(x, u)])
    (hsp : ∀ H : Hp, Only H → SqL K H a (ns.map V.int) → sp [.ref a] H (fun v _ => v = .bl true) fun _ _ _ => False)
    (hCX : ∀ H e s', CX [] H s₁ (fun _ _ _ => False) e s' → False) :
    codeAny (model P w) callerA (.call (.ref fa) ⟨[.ref a], []⟩) (fun r s' => r = .ok (.ret (.bool true)) ∧ OldK s₁.heap s'.heap ∧ s'.os = s₁.os ∧ AllBare s'.gens) s₁ := by
  have rv := vals_ints hi
  have lenV := hi.length
  obtain ⟨ob, eob⟩ : ∃ ob : Obj, ob = { cls := .type "list", data := .seq vs.toArray } := ⟨_, rfl⟩
  rw [← eob] at ha
  obtain ⟨H, eH⟩ : ∃ H : Hp, H = H1 K a ob ns := ⟨_, rfl⟩
  have Hother : ∀ b, b ≠ a → H b = none := fun b n => by rw [eH]; exact if_neg fun z => n z.1
  have Hat : K.lookup a = none → H a = some (.frz ob (.lst (ns.map V.int))) := fun z => by rw [eH]; exact if_pos ⟨rfl, z⟩
  have Hno : ∀ o, K.lookup a = some o → H a = none := fun o z => by rw [eH]; exact if_neg fun y => by rw [z] at y; cases y.2
  have Hval : ∀ b u, H b = some u → b = a ∧ K.lookup a = none ∧ u = .frz ob (.lst (ns.map V.int)) := fun b u z => by
    rw [eH] at z
    unfold H1 at z
    by_cases c : b = a ∧ K.lookup a = none
    · rw [if_pos c] at z
      exact ⟨c.1, c.2, (Option.some.inj z).symm⟩
    · rw [if_neg c] at z
      cases z
  have only : Only H := fun b => by
    cases e : H b with
    | none => exact .inl rfl
    | some u =>
      obtain ⟨_, _, rfl⟩ := Hval b u e
      exact .inr ⟨_, _, rfl⟩
  have hS : SqL K H a (ns.map V.int) := by
    cases hk : K.lookup a with
    | none => exact .inl (.inr ⟨ob, Hat hk⟩)
    | some o =>
      have e := KX a o hk
      rw [ha] at e
      cases e
      rw [eob] at hk
      exact .inr ⟨_, vs.toArray, _, hk, rfl, rfl, rfl, by rw [List.size_toArray, lenV]; exact hl, by simpa using rv⟩
  have hok : HOk P w H s₁.heap := fun b u z => by
    obtain ⟨rfl, _, rfl⟩ := Hval b u z
    exact ⟨ha, by rw [List.length_map]; exact hl, vs, _, rv, by rw [ha, eob]⟩
  have inB : ∀ {b : Addr} {o : Obj}, s₁.heap.get? b = some o → H b = none → (hidT s₁.heap H).get? b = some o := fun e n => hidT_get e n
  have noA : ∀ {b : Addr} {o : Obj} {es : Array DictEntry} {ep : Nat}, s₁.heap.get? b = some o → o.data = .dict es ep → H b = none := fun {b o es ep} e d => by
    by_cases c : b = a
    · rw [c, ha] at e
      cases e
      rw [eob] at d
      cases (show Data.seq vs.toArray _ = Data.dict es ep from d)
    · exact Hother b c
  have nsK : ∀ {b : Addr} {m : Str → Option Value}, s₁.heap.Ns b m → (hidT s₁.heap H).Ns b m := fun {b m} ⟨o, es, ep, e, d, r⟩ => ⟨o, es, ep, inB e (noA e d), d, r⟩
  have hKb : K.In (hidT s₁.heap H) := fun b o e => inB (KX b o e) (by
    by_cases c : b = a
    · rw [c] at e ⊢
      exact Hno o e
    · exact Hother b c)
  have hM : Mod K mg (hidT s₁.heap H) := ⟨hKb, nsK hns, ⟨mb, nsK hb, hbb⟩, let ⟨mc, h1, h2⟩ := hlim; ⟨mc, nsK h1, h2⟩⟩
  have nomem : ∀ b : Addr, b ∉ ([] : List Addr) := fun b z => by cases z
  have e0 : Env0 P w K mg (hidT s₁.heap H) callerA [] s₁ H := ⟨rfl, hM, fun b o e => of_hidT e, Nat.le_of_eq (hidT_size _ _), trivial, fun b z => absurd z (nomem b), hok, .of_eq hg⟩
  refine codeAny_mono ((F _ hKb (nsK hns)).run callerA [] s₁ H ⟨[.ref a], []⟩ [.ref a] [.ref a] _ _ rfl hr e0 (hbind s₁ (.ref a)) (.cons rfl .nil) (hsp H only hS)) fun r s' h => ?_
  rcases r with e | fl
  · exact (hCX H e s' h).elim
  cases fl with
  | next => exact False.elim h
  | brk => exact False.elim h
  | cont => exact False.elim h
  | ret u =>
    obtain ⟨v, H', os, bare, un, hok', r', q⟩ := h
    obtain rfl : v = .bl true := q
    obtain rfl : u = Value.bool true := r'
    refine ⟨rfl, OldK.of_keep fun b o e => ?_, os, bare⟩
    cases q : H b with
    | none => exact un.keep b o e q (nomem b) (nomem b)
    | some u =>
      obtain ⟨rfl, _, rfl⟩ := Hval b u q
      have z2 := un.frzs _ ob _ q
      have e2 := (hok' _ _ z2).1
      rw [ha] at e
      cases e
      exact e2
end
theorem walk_G {l : PySem.W.OpenLaw} {n k : Nat} {q : Program} {loose : List Str} {XP : (Str → Option Value) → Heap → Prop} {YP : World → Heap → Prop} {d : DefRec} {K : Params → PySem.W.Frag} {CX : World → CXT} {sp : World → Sp} {x : Str}
    (hn : l.most = some n) (hn2 : n ≤ sizeLine) (hdf : d.params.defaults = []) (hr : Room k callerA)
    (hY : ∀ (w : World) (h : Heap), YP w h → (K w.params).In h)
    (F : ∀ (w : World) (mg : Str → Option Value) (fa : Addr) (h : Heap), (K w.params).In h → h.Ns mainGlobals mg → mg d.name = some (.ref fa) →
      ∃ fd : FuncData, (∀ (s : Shared) (u : Value), BindsTo s fd ⟨[u], []⟩ [(x, u)]) ∧
        ∀ base : Heap, (K w.params).In base → base.Ns mainGlobals mg → FnG l.prog w (K w.params) mg base (CX w) k fa fd [x] (sp w))
    (hsp : ∀ (w : World) (H : Hp) (a : Addr) (ns : List Int), ns.length ≤ n → (∀ z ∈ ns, Builtin.Int.intBits z ≤ 1048576) → Only H → SqL (K w.params) H a (ns.map V.int) → sp w [.ref a] H (fun v _ => v = .bl true) fun _ _ _ => False)
    (hCX : ∀ (w : World) (H : Hp) (s : Shared) (e : Value) (s' : Shared), CX w [] H s (fun _ _ _ => False) e s' → False) :
    PySem.W.WalkO q loose XP YP l.row.toRowW d [] (fun f vs => PySem.call f vs) := by
  refine Att.attach_callB hn hdf fun w s₀ s₁ mg mb fa o pm cd doc a vs ns G Y ho hd hcd hmg hobj hints hlen hbits hg => ?_
  have KX := hY w _ Y
  obtain ⟨fd, hb, hF⟩ := F w mg fa _ KX G.T.g hmg
  exact law_callG KX G.T.g G.T.b G.T.builtins G.T.nolimit hg hobj hints (Nat.le_trans hlen hn2) hr hF hb (fun H hO hS => hsp w H a ns hlen hbits hO hS) fun H e s' => hCX w H s₁ e s'
end QG

set_option Elab.async false
set_option linter.all false
set_option maxRecDepth 100000
set_option maxHeartbeats 4000000
/-! QExc: exceptions of own classes, over any built-in base, with an own __init__ that calls the base's one: made as values, their fields read, isinstance. -/
namespace QE
open PySem PySem.Spec PySem.Calls PyProof.Rows L2

/-- own classes, then the line of a built-in class -/
def Line (tl bm : List Value) : Prop := ∃ cs : List Addr, bm = cs.map Value.ref ++ tl
theorem Line.has {tl bm : List Value} (h : Line tl bm) (X : String) : bm.contains (.type X) = tl.contains (.type X) := by
  obtain ⟨cs, rfl⟩ := h
  induction cs with
  | nil => rfl
  | cons c cs ih =>
    show (Value.ref c :: (cs.map Value.ref ++ tl)).contains (.type X) = _
    rw [List.contains_cons, ih]
    rfl
theorem Line.pass {B : String} {tl bm : List Value} (S : StoreFacts B tl "object.__setattr__" "object") (h : Line tl bm) (self : Value) : refuseLoop self "__setattr__" bm = pure () := by
  obtain ⟨cs, rfl⟩ := h
  induction cs with
  | nil => exact S.passes self
  | cons c cs ih => exact (refuseLoop_ref self _ c _).trans ih

section
open PySem.W Builtin Builtin.ObjectAttr
variable {prog : Program} {w : World} {A : Around} {R : Result → Shared → Prop} {hp : Heap} {g : Array GenState} {d : Drawn} {t : Nat} {os : OsState} {K : Frag} {name : Str} {tk : Tok} {v : Value} {x C : Addr} {cd : ClassData} {bm tl : List Value} {B : String}
theorem osa_pre {ox : Obj} {od : Option Obj} (X : K.In hp) (I : InstAt hp x ox C od) (hcd : clsIn K C = some cd) (hm : cd.mro = .ref C :: bm) (S : StoreFacts B tl "object.__setattr__" "object") (L : Line tl bm) (ha : findIn K (.ref C) name = some none)
    (hq : wpAny (model prog w) A.in1 (storeInOwnDict (.ref x) (.ref C) (.str name tk) name v false)
      (fun fin s' => match fin with | .done f => R (.ok f) s' | .again c' => c'.quiet = true ∧ codeAny (model prog w) A c' R s') (fun e s' => R (.error e) s') ⟨hp, g, d, t, os⟩) :
    codeAny (model prog w) A (.call (.builtin "object.__setattr__") ⟨[.ref x, .str name tk, v], []⟩) R ⟨hp, g, d, t, os⟩ := by
  have SF := F.store_object
  have hob : mroIn K C (.type "object") = some true := by
    have e : (Value.ref C :: bm).contains (.type "object") = true := by rw [List.contains_cons, L.has, S.hasOwner, Bool.or_true]
    unfold mroIn
    rw [hcd, Option.bind_some, hm, if_neg (show ¬ (List.isEmpty (Value.ref C :: bm) = true) from Bool.false_ne_true), e]
  have sub : Looks (model prog w) hp (isInstance (.ref x) (.type "object")) true := I.type.andThen (looks_mroIn X hob)
  have hmr : Looks (model prog w) hp (mroOf (.ref C)) cd.mro := (looks_clsIn X hcd).andThen .now
  have hno : Looks (model prog w) hp (storeTaker? none) none := .now
  have hpass : refuseLoop (.ref x) "__setattr__" cd.mro = pure () := by rw [hm]; exact (refuseLoop_ref _ _ C _).trans (L.pass S _)
  refine codeAny_call_builtin SF.slot.plain SF.entry (@check_slot (model prog w) _ _ ⟨hp, g, d, t, os⟩ "object.__setattr__" "object" "__setattr__" (.ref x) [.str name tk, v] [] _ SF.kind SF.split sub (SF.args (.ref x) (.str name tk) v) ?_)
  rw [osa_eq, refuse_eq]
  refine wpAny_bind (wpAny_bind (I.type.at (wpAny_bind (hmr.at ?_))))
  rw [hpass]
  exact wpAny_pure (wpAny_bind (I.type.at (wpAny_bind ((looks_findIn X ha).at (wpAny_bind (hno.at hq))))))
/-- the first field -/
theorem osa_first {fv : Array Value} (X : K.In hp) (hx : hp.get? x = some { cls := .ref C, data := .fields fv }) (hcd : clsIn K C = some cd) (hm : cd.mro = .ref C :: bm) (S : StoreFacts B tl "object.__setattr__" "object") (L : Line tl bm) (hh : cd.hasDict = true)
    (ha : findIn K (.ref C) name = some none)
    (hq : ∀ h' tk' dx, (∀ b o, b ≠ x → hp.get? b = some o → h'.get? b = some o) → hp.objs.size ≤ dx → dx ≠ x → h'.get? x = some { cls := .ref C, dict := some dx, data := .fields fv } →
      h'.Ns1 dx (fun y => if y = name then some v else none) → R (.ok (.ret .none)) ⟨h', g, d, tk', os⟩) :
    codeAny (model prog w) A (.call (.builtin "object.__setattr__") ⟨[.ref x, .str name tk, v], []⟩) R ⟨hp, g, d, t, os⟩ := by
  have hxs : x ≠ hp.objs.size := Nat.ne_of_lt (Heap.lt_size hx)
  have hcls : Looks (model prog w) hp (classData C) cd := looks_clsIn X hcd
  refine osa_pre X (od := none) ⟨hx, rfl, rfl, trivial⟩ hcd hm S L ha ?_
  obtain ⟨_, _, _, _, _, hd, _, _, _, _, _⟩ := cd
  obtain rfl : hd = true := hh
  unfold storeInOwnDict ownDictForStores
  repeat (first | with_reducible refine HandSPX.store_in_new ?_ ?_ | with_reducible refine wpAny_loadPart_at hx ?_ | with_reducible refine hcls.at ?_ | wp_step)
  · exact ⟨_, #[], _, (Heap.get?_update_ne _ _ _ _ hxs.symm).trans (Heap.get?_push_at rfl rfl), rfl, fun e he => absurd he (by simp), fun _ => rfl⟩
  · intro h' tk' hn' hs
    have hx1 := Heap.get?_push_of_some ({ cls := .type "dict", data := .dict #[] } : Obj) hx
    exact hq h' tk' hp.objs.size (fun b o hb ho => (hs.2 b (Nat.ne_of_lt (Heap.lt_size ho))).trans ((Heap.get?_update_ne _ _ _ _ hb).trans (Heap.get?_push_of_some _ ho))) (Nat.le_refl _) hxs.symm
      ((hs.2 x hxs).trans (Heap.get?_update_self _ hx1 rfl)) hn'
/-- a further field -/
theorem osa_more {dx : Addr} {fv : Array Value} {m0 : Str → Option Value} {nl : List Str} (X : K.In hp) (hx : hp.get? x = some { cls := .ref C, dict := some dx, data := .fields fv }) (hns : hp.Ns1 dx m0) (hw : Within m0 nl) (hz : nl.length ≤ 1000)
    (hcd : clsIn K C = some cd) (hm : cd.mro = .ref C :: bm) (S : StoreFacts B tl "object.__setattr__" "object") (L : Line tl bm) (hh : cd.hasDict = true) (ha : findIn K (.ref C) name = some none)
    (hq : ∀ h' tk', (∀ b o, b ≠ dx → hp.get? b = some o → h'.get? b = some o) → h'.Ns1 dx (fun y => if y = name then some v else m0 y) → R (.ok (.ret .none)) ⟨h', g, d, tk', os⟩) :
    codeAny (model prog w) A (.call (.builtin "object.__setattr__") ⟨[.ref x, .str name tk, v], []⟩) R ⟨hp, g, d, t, os⟩ := by
  obtain ⟨oD, _, _, hoD, _, _⟩ := hns.count hw
  have hcls : Looks (model prog w) hp (classData C) cd := looks_clsIn X hcd
  refine osa_pre X (od := some oD) ⟨hx, rfl, rfl, hoD⟩ hcd hm S L ha ?_
  obtain ⟨_, _, _, _, _, hd, _, _, _, _, _⟩ := cd
  obtain rfl : hd = true := hh
  unfold storeInOwnDict ownDictForStores
  repeat (first | with_reducible refine OEX.store_in_old hns hw hz ?_ | with_reducible refine wpAny_loadPart_at hx ?_ | with_reducible refine hcls.at ?_ | wp_step)
  exact fun h' tk' hn' hs => hq h' tk' (fun b o hb ho => (hs.2 b hb).trans ho) hn'
end

/-- what the written part says of an own exception class over the built-in class B -/
structure ExB (K : PySem.W.Frag) (C : Addr) (B newId initId : String) (tl : List Value) : Prop where
  F : ExcBaseFacts B newId initId tl
  S : StoreFacts B tl "object.__setattr__" "object"
  cls : ∃ nm q N bs bm sn sub ab col dd k0 k1 k2 k3 k5, K.lookup C = some (excClassObj nm q C N bs bm true sn sub ab col dd k0 k1 k2 k3 k5 newId) ∧ Line tl bm
  sa : PySem.W.findIn K (.ref C) "__setattr__" = some (some (.builtin "object.__setattr__"))
  ga : PySem.W.findIn K (.ref C) "__getattribute__" = some (some (.builtin "BaseException.__getattribute__"))
  gg : PySem.W.findIn K (.ref C) "__getattr__" = some none
  exC : PySem.W.subIn K (.ref C) (.type "BaseException") = some true
  tyC : PySem.W.typeIn K (.ref C) = some (.type "type")
  kC : PySem.W.keepIn K (.ref C) = true
  ca : PySem.W.findIn K (.ref C) "__class__" = some (some (.builtin "object.__class__"))
def ExX (K : PySem.W.Frag) (C : Addr) : Prop := ∃ B newId initId tl, ExB K C B newId initId tl
theorem ExB.cd {K : PySem.W.Frag} {C : Addr} {B newId initId : String} {tl : List Value} (T : ExB K C B newId initId tl) :
    ∃ cd bm, PySem.W.clsIn K C = some cd ∧ cd.mro = .ref C :: bm ∧ Line tl bm ∧ cd.hasDict = true := by
  obtain ⟨nm, q, N, bs, bm, sn, sub, ab, col, dd, k0, k1, k2, k3, k5, hC, hbm⟩ := T.cls
  exact ⟨{ name := nm, bases := bs, mro := .ref C :: bm, ns := N, qualname := q, hasDict := true, slotNames := sn, subclasses := sub, abstract := ab, collection := col, hasDel := false }, bm, by unfold PySem.W.clsIn; rw [hC] <;> rfl, rfl, hbm, rfl⟩
theorem ExB.own {K : PySem.W.Frag} {C : Addr} {B newId initId : String} {tl : List Value} (T : ExB K C B newId initId tl) : PySem.W.mroIn K C (.type "object") = some true := by
  obtain ⟨cd, bm, hcd, hm, L, _⟩ := T.cd
  have e : (Value.ref C :: bm).contains (.type "object") = true := by rw [List.contains_cons, L.has, T.S.hasOwner, Bool.or_true]
  unfold PySem.W.mroIn
  rw [hcd, Option.bind_some, hm, if_neg (show ¬ (List.isEmpty (Value.ref C :: bm) = true) from Bool.false_ne_true), e]
/-- facts of the metaclass side, the same for all classes -/
structure ExM (K : PySem.W.Frag) : Prop where
  hn : PySem.W.specialIn K (.builtin "object.__class__") "__get__" = some (some (.builtin "getset_descriptor.__get__"))
  ht : PySem.W.takesIn K (.builtin "object.__class__") = some true

section
variable {X : Cx} {pins : List (Addr × Obj)} {σ : L2.St} {H : Hp} {s : Shared} {a C dx : Addr} {f : Str} {y : V} {u : Value} {fs : List (Str × V)} {E : Value → Shared → Prop} {A : Around}
/-- self.f = y, the first one -/
theorem st_first {Q : Unit → Shared → Prop} (T : ExX X.K C) (I : Inv X pins σ H s) (e : H a = some (exo a C none)) (hno : PySem.W.findIn X.K (.ref C) f = some none) (ry : RelV y u)
    (h : ∀ dx s', H dx = none → dx ≠ a → Inv X pins σ (upd (upd H dx (exd dx [(f, y)])) a (exo a C (some dx))) s' → Q () s') : wpAny (model X.prog X.w) A (setAttr (.ref a) f u) Q E s := by
  obtain ⟨B, newId, initId, tl, T⟩ := T
  obtain ⟨cd, bm, hcd, hm, L, hh⟩ := T.cd
  obtain ⟨t1, ho⟩ := exo_at I.hok e
  obtain ⟨hp, g, d, t, os⟩ := s
  refine PySem.W.set_plain I.kIn (od := none) ⟨ho, rfl, rfl, trivial⟩ T.sa ?_
  refine osa_first I.kIn ho hcd hm T.S L hh hno (fun h' tk' dx k dn dne hx hn => ?_)
  have hnd : H dx = none := I.hok.fresh dn
  have nd : ∀ {b : Addr} {o : Obj}, hp.get? b = some o → b ≠ dx := fun {b o} q => Nat.ne_of_lt (Nat.lt_of_lt_of_le (Heap.lt_size q) dn)
  have na : ∀ {b : Addr}, H b = none → b ≠ a := fun {b} n z => by rw [z, e] at n; cases n
  have U : Un X.fs [] H (upd (upd H dx (exd dx [(f, y)])) a (exo a C (some dx))) hp h' := {
    keep := fun b o q n _ _ => k b o (na n) q
    slot := fun b o q n _ _ => ⟨o.slots, k b o (na n) q⟩
    free := fun b o q n _ => by rw [upd_ne (na n), upd_ne (nd q)]; exact n
    there := fun b o q _ => by
      by_cases hb : b = a
      · exact ⟨_, by rw [hb]; exact hx⟩
      · exact ⟨o, k b o hb q⟩
    tups := fun b xs q => by rw [upd_ne (at_ne e q exo_tup), upd_ne (ne_of_none q hnd)]; exact q
    frzs := fun b o v q => by rw [upd_ne (at_ne e q exo_frz), upd_ne (ne_of_none q hnd)]; exact q
    tbls := fun b ps q => ⟨#[], by rw [upd_ne (at_ne e q exo_tbl), upd_ne (ne_of_none q hnd), q]; simp⟩ }
  refine h dx _ hnd dne (I.un (t' := tk') U fun b o q => ?_)
  by_cases hb : b = a
  · subst hb
    rw [upd_same] at q
    cases q
    exact exo_ok hx
  rw [upd_ne hb] at q
  by_cases hd : b = dx
  · subst hd
    rw [upd_same] at q
    cases q
    exact exd_ok hn (relO_put (fs := []) ry fun g => True.intro)
  rw [upd_ne hd] at q
  refine (I.hok b o q).stay (fun c v hc z => k c v ?_ z) (fun c hc => by rw [upd_ne (at_ne e hc exo_own), upd_ne (ne_of_none hc hnd)]; exact hc) (fun c xs hc => by rw [upd_ne (at_ne e hc exo_tup), upd_ne (ne_of_none hc hnd)]; exact hc)
  rcases hc with hc | hc
  · rw [hc]; exact hb
  · exact at_ne e hc exo_own
/-- self.f = y, a further one -/
theorem st_more {Q : Unit → Shared → Prop} (T : ExX X.K C) (I : Inv X pins σ H s) (e : H a = some (exo a C (some dx))) (ed : H dx = some (exd dx fs)) (hl : fs.length ≤ 900) (hno : PySem.W.findIn X.K (.ref C) f = some none) (ry : RelV y u)
    (h : ∀ s', Inv X pins σ (upd H dx (exd dx ((f, y) :: fs))) s' → Q () s') : wpAny (model X.prog X.w) A (setAttr (.ref a) f u) Q E s := by
  obtain ⟨B, newId, initId, tl, T⟩ := T
  obtain ⟨cd, bm, hcd, hm, L, hh⟩ := T.cd
  obtain ⟨t1, ho⟩ := exo_at I.hok e
  obtain ⟨mA, hns, rel⟩ := exd_at I.hok ed
  have hw := within_of rel
  obtain ⟨hp, g, d, t, os⟩ := s
  obtain ⟨oD, _, _, hoD, _, _⟩ := hns.count hw
  refine PySem.W.set_plain I.kIn (od := some oD) ⟨ho, rfl, rfl, hoD⟩ T.sa ?_
  refine osa_more I.kIn ho hns hw (by rw [List.length_map]; omega) hcd hm T.S L hh hno (fun h' tk' k hn => ?_)
  have hd : ∃ o, h'.get? dx = some o := let ⟨o, _, _, e', _⟩ := hn; ⟨o, e'⟩
  exact h _ (I.write (t' := tk') (x := dx) (e := dx) (o := exd dx ((f, y) :: fs)) (by rw [ed]; exact True.intro) (.inl rfl) k hd (exd_ok hn (relO_put ry rel)))
/-- Base.__init__(self, ..): nothing of it is told -/
theorem base_init {B newId initId : String} {tl : List Value} {us : List Value} {Q : Value → Shared → Prop} (T : ExB X.K C B newId initId tl) (I : Inv X pins σ H s) (e : H a = some (exo a C none)) (hl : us.length ≤ sizeLine) (h : ∀ s', Inv X pins σ H s' → Q .none s') :
    wpAny (model X.prog X.w) A (call (.builtin initId) (.ref a :: us)) Q E s := by
  obtain ⟨nm, q, N, bs, bm, sn, sub, ab, col, dd, k0, k1, k2, k3, k5, hC, hbm⟩ := T.cls
  obtain ⟨t1, ho⟩ := exo_at I.hok e
  obtain ⟨hp, g, d, t, os⟩ := s
  refine wpAny_call (PySem.HandSPX.init_base T.F hbm.has (I.kIn _ _ hC) ho hl fun h' t2 k hx => h _ ?_)
  have J := I.write (t' := t) (x := a) (e := a) (o := exo a C none) (by rw [e]; exact True.intro) (.inl rfl) k ⟨_, hx⟩ (exo_ok hx)
  have eu : upd H a (exo a C none) = H := funext fun b => by
    by_cases hb : b = a
    · rw [hb, upd_same, e]
    · rw [upd_ne hb]
  rw [eu] at J
  exact J
end

/-! ### readings and rules -/
/-- Base.__init__(self, ..), the builtin's name told -/
def tBi (K : PySem.W.Frag) (initId : String) (ta : TA) : TE := fun σ H Q => ta σ H fun vs H1 => ∃ (a C : Addr) (B newId : String) (tl : List Value) (ws : List V), vs = .ref a :: ws ∧ ws.length ≤ 1000 ∧ ExB K C B newId initId tl ∧ H1 a = some (exo a C none) ∧ Q .non H1
/-- self.f = e -/
def tSt (K : PySem.W.Frag) (f : Str) (to te : TE) : TS := fun D σ H => te σ H fun y H1 => to σ H1 fun x H2 => ∃ a C : Addr, x = .ref a ∧ ExX K C ∧ PySem.W.findIn K (.ref C) f = some none ∧
  ((H2 a = some (exo a C none) ∧ ∀ dx, H2 dx = none → dx ≠ a → D.nx σ (upd (upd H2 dx (exd dx [(f, y)])) a (exo a C (some dx)))) ∨
    ∃ (dx : Addr) (fs : List (Str × V)), H2 a = some (exo a C (some dx)) ∧ H2 dx = some (exd dx fs) ∧ fs.length ≤ 900 ∧ D.nx σ (upd H2 dx (exd dx ((f, y) :: fs))))
/-- C(e, ..) as a value, C's own __init__ keeping sp -/
def tMkV (C : Addr) (sp : Sp) (dvs : List V) (E : XK) (ta : TA) : TE := fun σ H Q => ta σ H fun vs H1 => vs.length ≤ 1000 ∧ ∀ a, H1 a = none → sp (.ref a :: (vs ++ dvs)) (upd H1 a (exo a C none)) (fun v H2 => v = .non ∧ Q (.ref a) H2) E
/-- e.f -/
def tEf (K : PySem.W.Frag) (f : Str) (te : TE) : TE := fun σ H Q => te σ H fun x H1 => ∃ (a C d : Addr) (fs : List (Str × V)) (v : V), x = .ref a ∧ ExX K C ∧ PySem.W.findIn K (.ref C) f = some none ∧ H1 a = some (exo a C (some d)) ∧ H1 d = some (exd d fs) ∧ fs.lookup f = some v ∧ Q v H1
section
variable {X : Cx} {o e : Expr} {es : List Expr} {to te : TE} {ta : TA} {f : Str} {p p' p1 p2 pos : Pos}
/-- D.__init__(self, ..), D an own class that has the builtin's -/
theorem pe_binit {D : Addr} {mc : Value} {dn : Str} {initId : String} {pl : Sem Bool} (hg : Gl X dn) (hm : X.mg dn = some (.ref D)) (rd : ClX.CRead X.K D mc) (vV : PySem.W.findCls X.K (.ref D) mc "__init__" = some (.val (.builtin initId))) (ha : PA X (e :: es) ta)
    (hdb : (dn == ("__debug__" : Str)) = false := by decide) (hin : PySem.W.handedIn (.builtin initId) = true := by decide +kernel)
    (hc : eval (.Call (.Attribute (.Name dn p1) "__init__" p2) (e :: es) [] pos) X.env = (do
      let ov ← eval (.Name dn p1) X.env
      standAt p2.atName
      let (f, first) ← holding [ov] (getMethod ov "__init__" pl)
      callWith pos f first (backTo pos (starEach (e :: es) X.env)) (backToKw pos (keywordEach [] X.env))) := by rfl)
    (he : starEach (e :: es) X.env = (false, eval e X.env) :: starEach es X.env := by rfl) (hpl : (backTo pos (starEach es X.env)).any (·.1) = false := by rfl) :
    PE X (.Call (.Attribute (.Name dn p1) "__init__" p2) (e :: es) [] pos) (tBi X.K initId ta) := by
  refine ⟨fun pins s σ H Q I h => PySem.W.methodCall_KW (ld_glob I hg hm ?_ hdb) hc⟩
  refine PySem.W.method_cls I.kIn rd.ga (PySem.W.cls_value I.kIn rd.rd vV hin ?_)
  show wpAny _ _ (callWith pos (Value.builtin initId) [] (backTo pos (starEach (e :: es) X.env)) []) _ _ _
  refine PyProof.Rows.callWith_method1 (thn (ha.run pos pins _ σ H _ (I.tok _) h) fun us s1 ⟨vs, H1, I1, r1, a, C, B, newId, tl, ws, ev, hl, T, ea, q⟩ => ?_) he hpl
  subst ev
  cases r1 with
  | @cons _ u0 _ ur ra rw' =>
    obtain rfl : u0 = Value.ref a := ra
    exact base_init T I1 ea (by rw [← Paired.length rw', sizeLine_eq]; omega) fun s' J => ⟨.non, H1, J, rfl, q⟩
/-- T.__init__(self, ..), T a built-in class -/
theorem pe_tinit {dn : Str} {T initId : String} {pl : Sem Bool} (hg : Gl X dn) (hm : X.mg dn = none) (hv : bootBuiltins dn = some (.type T)) (ty : typeOf (.type T) = pure (.type "type")) (st : Manifest.isStub T = false)
    (vV : PySem.W.findCls X.K (.type T) (.type "type") "__init__" = some (.val (.builtin initId))) (ha : PA X (e :: es) ta) (hn : dn ≠ "__name__" := by decide) (hdb : (dn == ("__debug__" : Str)) = false := by decide) (hin : PySem.W.handedIn (.builtin initId) = true := by decide +kernel)
    (hc : eval (.Call (.Attribute (.Name dn p1) "__init__" p2) (e :: es) [] pos) X.env = (do
      let ov ← eval (.Name dn p1) X.env
      standAt p2.atName
      let (f, first) ← holding [ov] (getMethod ov "__init__" pl)
      callWith pos f first (backTo pos (starEach (e :: es) X.env)) (backToKw pos (keywordEach [] X.env))) := by rfl)
    (he : starEach (e :: es) X.env = (false, eval e X.env) :: starEach es X.env := by rfl) (hpl : (backTo pos (starEach es X.env)).any (·.1) = false := by rfl) :
    PE X (.Call (.Attribute (.Name dn p1) "__init__" p2) (e :: es) [] pos) (tBi X.K initId ta) := by
  refine ⟨fun pins s σ H Q I h => PySem.W.methodCall_KW (ld_blt I hg hm hv ?_ hn hdb) hc⟩
  obtain ⟨m, fr⟩ := I.fr
  refine PySem.W.method_type fr I.ok.mod.kin ty st vV hin ?_
  show wpAny _ _ (callWith pos (Value.builtin initId) [] (backTo pos (starEach (e :: es) X.env)) []) _ _ _
  refine PyProof.Rows.callWith_method1 (thn (ha.run pos pins _ σ H _ (I.tok _) h) fun us s1 ⟨vs, H1, I1, r1, a, C, B, newId, tl, ws, ev, hl, T, ea, q⟩ => ?_) he hpl
  subst ev
  cases r1 with
  | @cons _ u0 _ ur ra rw' =>
    obtain rfl : u0 = Value.ref a := ra
    exact base_init T I1 ea (by rw [← Paired.length rw', sizeLine_eq]; omega) fun s' J => ⟨.non, H1, J, rfl, q⟩
theorem ps_st (ho : PE X o to) (he : PE X e te) (hs : swapsWith e (some (.Attribute o f p')) pos.line X.env = pure false := by rfl) : PS X (.Assign [.Attribute o f p'] e pos) (tSt X.K f to te) := by
  refine ⟨fun pins s σ H D I h => ?_⟩
  refine plainObj_wpAny_Assign_Attribute (thn (he.run pins s σ H _ I h) fun v s1 ⟨y, H1, I1, r1, q1⟩ => thn (ho.run pins s1 σ H1 _ I1 q1) fun u s2 ⟨x, H2, I2, r2, a, C, ex, T, hno, q⟩ => ?_) hs
  subst ex
  obtain rfl : u = Value.ref a := r2
  rcases q with ⟨ea, q⟩ | ⟨dx, fs, ea, ed, hl, q⟩
  · exact st_first T I2 ea hno r1 fun dx s' n ne J => ⟨σ, _, J, q dx n ne⟩
  · exact st_more T I2 ea ed hl hno r1 fun s' J => ⟨σ, _, J, q⟩
theorem pe_ef (he : PE X e te) (hb : attributeBase e f X.env (eval e X.env) = eval e X.env := by rfl) : PE X (.Attribute e f pos) (tEf X.K f te) := by
  refine ⟨fun pins s σ H Q I h => attr_of hb (thn (he.run pins s σ H _ I h) fun u s1 hh => ?_)⟩
  obtain ⟨x, H1, I1, rx, a, C, d, fs, v, ex, ⟨B, newId, initId, tl, T⟩, hno, ea, ed, l, q⟩ := hh
  subst ex
  obtain rfl : u = Value.ref a := rx
  obtain ⟨t1, ho⟩ := exo_at I1.hok ea
  obtain ⟨mA, hns, hr⟩ := exd_at I1.hok ed
  obtain ⟨od, hod, hl⟩ := lookIn_ns hns
  obtain ⟨u, hu, ru⟩ := RelO.some_of (v := v) (o := mA f) (by rw [← l]; exact hr f)
  obtain ⟨cd, bm, hcd, hm, L, hh⟩ := T.cd
  have hd : PySem.W.hasDictIn X.K C = true := by unfold PySem.W.hasDictIn; rw [hcd]; exact hh
  exact HandSPX.exc_get I1.kIn (od := some od) ⟨ho, rfl, rfl, hod⟩ T.ga T.gg T.exC (PySem.W.findObj_own hd hno rfl (by rw [hl, hu])) (handed_of ru) ⟨v, H1, I1.tok _, ru, q⟩
/-- C(e, ..), an own exception class, as a value -/
theorem pe_mkV {CX : CXT} {x : Str} {C fI : Addr} {k : Nat} {fd : FuncData} {ps : List Str} {sp : Sp} {ds : List Value} {dvs : List V} {E : XK} (T : ExX X.K C) (iC : PySem.W.findIn X.K (.ref C) "__init__" = some (some (.ref fI))) (tI : PySem.W.typeIn X.K (.ref fI) = some (.type "function"))
    (F1 : FnOk X.prog X.w X.K X.mg X.base CX k fI fd ps sp) (hr : Room (k + 1) X.A) (hb : Binds X.K fd ps ds) (hd : Vals dvs ds) (hx : Passes CX X E) (hg : Gl X x) (hm : X.mg x = some (.ref C)) (ha : PA X (e :: es) ta)
    (hdb : (x == ("__debug__" : Str)) = false := by decide) (he : starEach (e :: es) X.env = (false, eval e X.env) :: starEach es X.env := by rfl) (hpl : (backTo pos (starEach es X.env)).any (·.1) = false := by rfl) :
    PE X (.Call (.Name x p) (e :: es) [] pos) (tMkV C sp dvs E ta) := by
  refine ⟨fun pins s σ H Q I h => ?_⟩
  obtain ⟨B, newId, initId, tl, T⟩ := T
  obtain ⟨nm, q, N, bs, bm, sn, sub, ab, col, dd, k0, k1, k2, k3, k5, hC, hbm⟩ := T.cls
  refine wpAny_Call_Name_kw (ld_glob I hg hm ?_ hdb)
  refine PySem.W.callWith_K (h₀ := X.base) I.ok.mod.kin T.kC (thn (ha.run pos pins s σ H _ I h) fun us s1 ⟨vs, H1, I1, r1, hz, q1⟩ => ⟨I1.kIn, ?_⟩) he hpl
  show wpAny _ _ (call (.ref C) us) _ _ _
  obtain ⟨hp, g, dr, tk, os⟩ := s1
  have hsz : hp.objs.size ≤ hp.objs.size + 1 := Nat.le_succ _
  have hq := q1 (hp.objs.size + 1) (I1.hok.fresh hsz)
  have kk : ∀ b o, hp.get? b = some o → ((hp.push (PySem.W.kdv_tup us)).push (PySem.HandSPX.excO C hp.objs.size)).get? b = some o := fun b o e => Heap.get?_push_of_some _ (Heap.get?_push_of_some _ e)
  have hget : ((hp.push (PySem.W.kdv_tup us)).push (PySem.HandSPX.excO C hp.objs.size)).get? (hp.objs.size + 1) = some (PySem.HandSPX.excO C hp.objs.size) := by heap_get
  have I2 : Inv X pins σ (upd H1 (hp.objs.size + 1) (exo (hp.objs.size + 1) C none)) ⟨(hp.push (PySem.W.kdv_tup us)).push (PySem.HandSPX.excO C hp.objs.size), g, dr, tk, os⟩ :=
    I1.laid (t' := tk) (a := hp.objs.size + 1) (o := exo (hp.objs.size + 1) C none) (h' := (hp.push (PySem.W.kdv_tup us)).push (PySem.HandSPX.excO C hp.objs.size)) kk hsz (exo_ok hget)
  have r2 : Vals (V.ref (hp.objs.size + 1) :: (vs ++ dvs)) (Value.ref (hp.objs.size + 1) :: (us ++ ds)) := .cons rfl (r1.append hd)
  have hl : (Value.ref (hp.objs.size + 1) :: us ++ ds).length = ps.length := r2.length.symm.trans (F1.len _ _ _ _ hq)
  have hus : us.length ≤ sizeLine := by rw [← Paired.length r1, sizeLine_eq]; omega
  refine wpAny_call (PySem.HandSPX.call_own T.F hbm.has (I1.kIn _ _ hC) (PySem.W.looks_findIn I1.kIn iC) (fun self => PySem.W.bind_fn I1.kIn self tI) hus
    (codeAny_mono (F1.run _ X.stack _ _ ⟨Value.ref (hp.objs.size + 1) :: us, []⟩ (Value.ref (hp.objs.size + 1) :: (us ++ ds)) _ _ E (hr.make C us []) (I2.env0.make C us []) (hb _ (Value.ref (hp.objs.size + 1) :: us) I2.kIn hl) r2 hq) fun r s' hq' => ?_))
  cases r with
  | error er => exact hx pins σ _ _ er s' I2 hq'
  | ok fl =>
    cases fl with
    | ret u =>
      obtain ⟨v, H', I3, rv, ev, q3⟩ := I2.after hq'
      subst ev
      exact ⟨rv, ⟨.ref (hp.objs.size + 1), H', I3, rfl, q3⟩⟩
    | next => exact False.elim hq'
    | brk => exact False.elim hq'
    | cont => exact False.elim hq'
end

/-! ### isinstance -/
section
variable {X : Cx} {pins : List (Addr × Obj)} {σ : L2.St} {H : Hp} {s : Shared} {a C : Addr} {d : Option Addr}
theorem kit_of {B newId initId : String} {tl : List Value} (M : ExM X.K) (T : ExB X.K C B newId initId tl) {x : Addr} {ox : Obj} {od : Option Obj} : PySem.W.KitX X.K (.ref x) (.ref C) (fun h => PySem.W.InstAt h x ox C od) := by
  obtain ⟨cd, _, hcd, _⟩ := T.cd
  exact PySem.W.kitx_exc (by rw [hcd]; rfl) T.ga T.gg T.exC T.ca M.hn M.ht T.own
/-- what the object a is, as an instance -/
theorem exo_inst (I : Inv X pins σ H s) (ea : H a = some (exo a C d)) (ed : ∀ dd, d = some dd → ∃ fs, H dd = some (exd dd fs)) : ∃ ox od, PySem.W.InstAt s.heap a ox C od := by
  obtain ⟨t1, ho⟩ := exo_at I.hok ea
  cases d with
  | none => exact ⟨_, none, ho, rfl, rfl, trivial⟩
  | some dd =>
    obtain ⟨fs, ed⟩ := ed dd rfl
    obtain ⟨mA, ⟨o, es, ep, e1, _⟩, _⟩ := exd_at I.hok ed
    exact ⟨_, some o, ho, rfl, rfl, e1⟩
/-- a value that is an exception of the class C -/
def IsEx (H : Hp) (a C : Addr) : Prop := (∃ d, H a = some (exo a C d) ∧ ∀ dd, d = some dd → ∃ fs, H dd = some (exd dd fs)) ∨ H a = some (ExO (.ref C) a)
theorem isEx_inst (I : Inv X pins σ H s) (h : IsEx H a C) : ∃ ox od, PySem.W.InstAt s.heap a ox C od := by
  rcases h with ⟨d, ea, ed⟩ | ea
  · exact exo_inst I ea ed
  · obtain ⟨⟨oe, vs, he, ⟨h1, h2⟩, hd, _⟩, _⟩ := I.hok a _ ea
    refine ⟨oe, none, he, h1, ?_, ?_⟩
    · unfold PySem.W.notCls
      rw [hd]
    · rw [h2]
      trivial
/-- isinstance(e, T): one class, or a tuple of such -/
def rIsX (K : PySem.W.Frag) : List V → Hp → VK → Prop := fun xs H Q => ∃ (a C : Addr) (c : V) (b : Bool), xs = [.ref a, c] ∧ ExX K C ∧ IsEx H a C ∧ ((∃ cv, (∀ u, RelV c u → u = cv) ∧ PySem.W.kitOne K (.ref C) cv = some b) ∨
  ∃ (p : Addr) (ts : List V) (cvs : List Value), c = .ref p ∧ H p = some (.tup ts) ∧ (∀ us, Vals ts us → us = cvs) ∧ PySem.W.kitAny K (.ref C) cvs = some b) ∧ Q (.bl b) H
theorem call_isX (M : ExM X.K) : CallR X (.builtin "isinstance") (rIsX X.K) := by
  intro pins s σ H xs us Q I r h
  obtain ⟨a, C, c, b, rfl, ⟨B, newId, initId, tl, T⟩, ia, hc, q⟩ := h
  obtain ⟨ox, od, J⟩ := isEx_inst I ia
  cases r with
  | @cons _ u0 _ _ rx rr =>
    cases rr with
    | @cons _ u1 _ _ rt rr =>
      cases rr
      obtain rfl : u0 = Value.ref a := rx
      rcases hc with ⟨cv, hcv, e⟩ | ⟨p, ts, cvs, rfl, hp, hcv, e⟩
      · have ec := hcv _ rt
        subst ec
        exact PySem.W.kia_one (kit_of M T) I.kIn J e (fun z => nomatch z) fun tk => ⟨.bl b, H, I.kept (t' := tk) fun _ _ z => z, rfl, q⟩
      · obtain rfl : u1 = Value.ref p := rt
        obtain ⟨_, its, rv, ob, ho, hcls, n, hd⟩ := I.hok p _ hp
        have ei := hcv _ rv
        subst ei
        obtain ⟨oc, odd, oda, osl⟩ := ob
        obtain rfl : oc = .type "tuple" := hcls
        obtain rfl : oda = .seq its.toArray n := hd
        exact PySem.W.kia_tup (kit_of M T) I.kIn J ho e (fun z => nomatch z) fun tk => ⟨.bl b, H, I.kept (t' := tk) fun _ _ z => z, rfl, q⟩
end
end QE

set_option Elab.async false
set_option linter.all false
set_option maxRecDepth 100000
set_option maxHeartbeats 4000000
/-! QR: values that are data at any depth, dicts among them; repr of data; == of data. -/
namespace QR
open PySem PySem.Spec PyProof.Rows L2

def keyD : Key → PyData
  | .inl i => .int i
  | .inr x => .str x
mutual
/-- in the heap H the value is that data -/
inductive Dv (K : PySem.W.Frag) (H : Hp) : V → PyData → Prop
  | non : Dv K H .non .none
  | bl (b : Bool) : Dv K H (.bl b) (.bool b)
  | int (i : Int) : Dv K H (.int i) (.int i)
  | str (x : Str) : Dv K H (.str x) (.str x)
  | lst {a : Addr} {xs : List V} {ds : List PyData} : SqL K H a xs → DvAll K H xs ds → Dv K H (.ref a) (.list ds)
  | tup {a : Addr} {xs : List V} {ds : List PyData} : SqT K H a xs → DvAll K H xs ds → Dv K H (.ref a) (.tuple ds)
  | dic {a : Addr} {kvs : List (Key × V)} {ds : List (PyData × PyData)} : H a = some (.dK kvs) → DvKv K H kvs ds → Dv K H (.ref a) (.dict ds)
inductive DvAll (K : PySem.W.Frag) (H : Hp) : List V → List PyData → Prop
  | nil : DvAll K H [] []
  | cons {v : V} {vs : List V} {d : PyData} {ds : List PyData} : Dv K H v d → DvAll K H vs ds → DvAll K H (v :: vs) (d :: ds)
inductive DvKv (K : PySem.W.Frag) (H : Hp) : List (Key × V) → List (PyData × PyData) → Prop
  | nil : DvKv K H [] []
  | cons {k : Key} {v : V} {kvs : List (Key × V)} {d : PyData} {ds : List (PyData × PyData)} : Dv K H v d → DvKv K H kvs ds → DvKv K H ((k, v) :: kvs) ((keyD k, d) :: ds)
end
section
variable {K : PySem.W.Frag} {H H' : Hp}
mutual
theorem Dv.mono (e : Same H H') : ∀ {v : V} {d : PyData}, Dv K H v d → Dv K H' v d
  | _, _, .non => .non
  | _, _, .bl b => .bl b
  | _, _, .int i => .int i
  | _, _, .str x => .str x
  | _, _, .lst h r => .lst (e.seq h) (DvAll.mono e r)
  | _, _, .tup h r => .tup (by
      rcases h with (h | ⟨o, h⟩) | h
      · exact .inl (.inl (e _ _ h))
      · exact .inl (.inr ⟨o, e _ _ h⟩)
      · exact .inr h) (DvAll.mono e r)
  | _, _, .dic h r => .dic (e _ _ h) (DvKv.mono e r)
theorem DvAll.mono (e : Same H H') : ∀ {vs : List V} {ds : List PyData}, DvAll K H vs ds → DvAll K H' vs ds
  | _, _, .nil => .nil
  | _, _, .cons h r => .cons (Dv.mono e h) (DvAll.mono e r)
theorem DvKv.mono (e : Same H H') : ∀ {kvs : List (Key × V)} {ds : List (PyData × PyData)}, DvKv K H kvs ds → DvKv K H' kvs ds
  | _, _, .nil => .nil
  | _, _, .cons h r => .cons (Dv.mono e h) (DvKv.mono e r)
end
theorem DvAll.length : ∀ {vs : List V} {ds : List PyData}, DvAll K H vs ds → vs.length = ds.length
  | _, _, .nil => rfl
  | _, _, .cons _ r => congrArg (· + 1) (DvAll.length r)
theorem DvAll.append : ∀ {vs : List V} {ds : List PyData} {ws : List V} {es : List PyData}, DvAll K H vs ds → DvAll K H ws es → DvAll K H (vs ++ ws) (ds ++ es)
  | _, _, _, _, .nil, s => s
  | _, _, _, _, .cons h r, s => .cons h (DvAll.append r s)
theorem DvAll.one {v : V} {d : PyData} (h : Dv K H v d) : DvAll K H [v] [d] := .cons h .nil
theorem DvAll.get : ∀ {vs : List V} {ds : List PyData} {i : Nat} {v : V}, DvAll K H vs ds → vs[i]? = some v → ∃ d, ds[i]? = some d ∧ Dv K H v d
  | _, _, i, _, .nil, e => by simp at e
  | _, _, 0, _, .cons h _, e => by
    simp at e
    subst e
    exact ⟨_, rfl, h⟩
  | _, _, i + 1, _, .cons _ r, e => by
    obtain ⟨d, h1, h2⟩ := DvAll.get (i := i) r (by simpa using e)
    exact ⟨d, by simpa using h1, h2⟩
theorem DvAll.get' : ∀ {vs : List V} {ds : List PyData} {i : Nat} {d : PyData}, DvAll K H vs ds → ds[i]? = some d → ∃ v, vs[i]? = some v ∧ Dv K H v d
  | _, _, i, _, .nil, e => by simp at e
  | _, _, 0, _, .cons h _, e => by
    simp at e
    subst e
    exact ⟨_, rfl, h⟩
  | _, _, i + 1, _, .cons _ r, e => by
    obtain ⟨v, h1, h2⟩ := DvAll.get' (i := i) r (by simpa using e)
    exact ⟨v, by simpa using h1, h2⟩
theorem DvAll.of_same {d : PyData} {v : V} (h : Dv K H v d) : ∀ n : Nat, DvAll K H (List.replicate n v) (List.replicate n d)
  | 0 => .nil
  | n + 1 => .cons h (DvAll.of_same h n)
theorem DvAll.strs : ∀ xs : List Str, DvAll K H (xs.map V.str) (xs.map PyData.str)
  | [] => .nil
  | x :: xs => .cons (.str x) (DvAll.strs xs)
theorem DvAll.ints : ∀ xs : List Int, DvAll K H (xs.map V.int) (xs.map PyData.int)
  | [] => .nil
  | x :: xs => .cons (.int x) (DvAll.ints xs)
theorem DvAll.bools : ∀ xs : List Bool, DvAll K H (xs.map V.bl) (xs.map PyData.bool)
  | [] => .nil
  | x :: xs => .cons (.bl x) (DvAll.bools xs)
theorem Dv.list {a : Addr} {xs : List V} {ds : List PyData} (h : H a = some (.lst xs)) (r : DvAll K H xs ds) : Dv K H (.ref a) (.list ds) := .lst (.of h) r
theorem Dv.tuple {a : Addr} {xs : List V} {ds : List PyData} (h : H a = some (.tup xs)) (r : DvAll K H xs ds) : Dv K H (.ref a) (.tuple ds) := .tup (.of h) r
end

/-! ### what is read of it -/
section
variable {X : Cx} {pins : List (Addr × Obj)} {σ : L2.St} {H : Hp} {s : Shared}
/-- sys.modules stands in the written part, a dict -/
def SysK (K : PySem.W.Frag) : Prop := ∃ oc od es ep sl, K.lookup sysModules = some ⟨oc, od, .dict es ep, sl⟩
theorem sys_free (I : Inv X pins σ H s) (hs : SysK X.K) : H sysModules = none := by
  obtain ⟨oc, od, es, ep, sl, e⟩ := hs
  exact (I.bs _ _ (I.ok.mod.kin _ _ e)).2
theorem list_nosys (I : Inv X pins σ H s) (hs : SysK X.K) {a : Addr} {xs : List V} (h : SqL X.K H a xs) : a ≠ sysModules := fun z => by
  subst z
  have n := sys_free I hs
  rcases h with (h | ⟨o, h⟩) | ⟨o, its, m, hk, _, _, hd, _⟩
  · rw [n] at h; cases h
  · rw [n] at h; cases h
  · obtain ⟨oc, od, es, ep, sl, e⟩ := hs
    rw [hk] at e
    cases e
    cases hd
mutual
theorem Dv.reads (I : Inv X pins σ H s) (hs : SysK X.K) : ∀ {v : V} {d : PyData} {u : Value}, Dv X.K H v d → RelV v u → ∃ as, Reads s.heap u d as ∧ sysModules ∉ as
  | _, _, _, .non, r => by
    cases r
    exact ⟨_, Reads.none, nofun⟩
  | _, _, _, .bl b, r => by
    cases r
    exact ⟨_, Reads.bool b, nofun⟩
  | _, _, _, .int i, r => by
    obtain ⟨t, rfl⟩ := r
    exact ⟨_, Reads.int i t, nofun⟩
  | _, _, _, .str x, r => by
    obtain ⟨t, rfl⟩ := r
    exact ⟨_, Reads.str x t, nofun⟩
  | _, _, _, .lst h ha, r => by
    cases r
    obtain ⟨its, rv, ⟨o, n, ho, hc, _, hd⟩, _⟩ := I.list h
    obtain ⟨as, hr, nn⟩ := DvAll.reads I hs ha rv
    exact ⟨_, Reads.list ho hc hd hr, fun z => (List.mem_cons.mp z).elim (fun e => list_nosys I hs h e.symm) nn⟩
  | _, _, _, .tup h ha, r => by
    cases r
    obtain ⟨its, rv, ⟨o, ho, hc, n, hd⟩, _⟩ := I.tuple h
    obtain ⟨as, hr, nn⟩ := DvAll.reads I hs ha rv
    exact ⟨_, Reads.tuple ho hc hd hr, nn⟩
  | _, _, _, .dic (a := a) (kvs := kvs) h ha, r => by
    cases r
    obtain ⟨_, ne, vs, rv, o, es, ep, ho, hx, hd, _, hp, _⟩ := (show ObjOk X.prog X.w H s.heap a (.dK kvs) from I.hok a _ h)
    obtain ⟨as, bs, h1, h2, n1, n2⟩ := DvKv.reads I hs ha rv hp
    refine ⟨_, Reads.dict ho hx.1 hd h1 h2, fun z => ?_⟩
    rcases List.mem_append.mp z with z | z
    · rcases List.mem_cons.mp z with e | z
      · rw [e] at ne
        simp at ne
      · exact n1 z
    · exact n2 z
theorem DvAll.reads (I : Inv X pins σ H s) (hs : SysK X.K) : ∀ {vs : List V} {ds : List PyData} {us : List Value}, DvAll X.K H vs ds → Vals vs us → ∃ as, ReadsAll s.heap us ds as ∧ sysModules ∉ as
  | _, _, _, .nil, r => by
    cases r
    exact ⟨_, ReadsAll.nil, nofun⟩
  | _, _, _, .cons h1 h2, r => by
    cases r with
    | cons r1 r2 =>
      obtain ⟨as, q1, n1⟩ := Dv.reads I hs h1 r1
      obtain ⟨bs, q2, n2⟩ := DvAll.reads I hs h2 r2
      exact ⟨_, ReadsAll.cons q1 q2, fun z => (List.mem_append.mp z).elim n1 n2⟩
theorem DvKv.reads (I : Inv X pins σ H s) (hs : SysK X.K) : ∀ {kvs : List (Key × V)} {ds : List (PyData × PyData)} {vs : List (Key × Value)} {es : List DictEntry}, DvKv X.K H kvs ds → KV kvs vs → Pairs (mixKind X.prog X.w) es vs →
    ∃ as bs, ReadsAll s.heap (es.map (·.key)) (ds.map (·.1)) as ∧ ReadsAll s.heap (es.map (·.val)) (ds.map (·.2)) bs ∧ sysModules ∉ as ∧ sysModules ∉ bs
  | _, _, _, _, .nil, r, p => by
    cases r
    cases p
    exact ⟨_, _, ReadsAll.nil, ReadsAll.nil, nofun, nofun⟩
  | _, _, _, _, .cons (k := k) h1 h2, r, p => by
    cases r with
    | cons r1 r2 =>
      cases p with
      | @cons en _ _ _ p1 p2 p3 =>
        obtain ⟨e1, rv⟩ := r1
        obtain ⟨as, bs, q1, q2, n1, n2⟩ := DvKv.reads I hs h2 r2 p3
        obtain ⟨cs, q3, n3⟩ := Dv.reads I hs h1 rv
        rw [← p2] at q3
        rw [← e1] at p1
        have kr : ∃ zs, Reads s.heap en.key (keyD k) zs ∧ sysModules ∉ zs := by
          rcases keyIs_shape p1 with ⟨i, t, ek, ev⟩ | ⟨x, t, ek, ev⟩
          · rw [show k = Sum.inl i from ek, ev]
            exact ⟨_, Reads.int i t, nofun⟩
          · rw [show k = Sum.inr x from ek, ev]
            exact ⟨_, Reads.str x t, nofun⟩
        obtain ⟨zs, q4, n4⟩ := kr
        exact ⟨_, _, ReadsAll.cons q4 q1, ReadsAll.cons q3 q2, fun z => (List.mem_append.mp z).elim n4 n1, fun z => (List.mem_append.mp z).elim n3 n2⟩
end
end

/-! ### repr, == -/
section
variable {X : Cx}
/-- what can be shown -/
structure Shows (d : PyData) : Prop where
  ok : d.showable = true
  deep : d.depth ≤ 40
  len : d.shown.length ≤ sizeLine
def rRepr (K : PySem.W.Frag) : List V → Hp → VK → Prop := fun xs H Q => ∃ v d, xs = [v] ∧ Dv K H v d ∧ ((∃ ds, d = .list ds) ∨ (∃ ds, d = .tuple ds) ∨ (∃ x, d = .str x)) ∧ Shows d ∧ Q (.str d.shown) H
theorem call_repr {k : Nat} (gd : X.A.guards = some []) (hr : Room k X.A) (hs : SysK X.K) : CallR X (.builtin "repr") (rRepr X.K) := by
  intro pins s σ H xs us Q I r h
  obtain ⟨v, d, rfl, dv, hk, S, q⟩ := h
  obtain ⟨u, rfl, ru⟩ : ∃ u, us = [u] ∧ RelV v u := by
    cases r with
    | cons r1 r2 =>
      cases r2
      exact ⟨_, rfl, r1⟩
  obtain ⟨as, rd, ns⟩ := Dv.reads I hs dv ru
  have hu : X.A.units + (d.depth + 1) < cLine := by have := hr.un; have := S.deep; omega
  have fin : ∀ (h' : Heap) (u : Tok) (tk : Nat), (∀ b o, s.heap.get? b = some o → h'.get? b = some o) → EP X pins σ Q (.str d.shown u) { s with heap := h', toks := tk } :=
    fun h' u tk k => ⟨.str d.shown, H, I.kept (t' := tk) k, ⟨u, rfl⟩, q⟩
  rcases hk with ⟨ds, rfl⟩ | ⟨ds, rfl⟩ | ⟨x, rfl⟩
  · cases dv with
    | lst h1 h2 =>
      cases ru
      exact repr_of_reads' rd S.ok (fun _ => ns) gd hu (fun _ _ e => e) fin S.len
  · cases dv with
    | tup h1 h2 =>
      cases ru
      exact repr_of_reads' rd S.ok (fun _ => ns) gd hu (fun _ _ e => e) fin S.len
  · cases dv
    obtain ⟨t, rfl⟩ := ru
    have e := S.len
    simp only [PyData.shown] at e q
    exact PySem.P.repr_of_str ⟨.str _, H, I.tok _, ⟨_, rfl⟩, q⟩ e
end
end QR

set_option Elab.async false
set_option linter.all false
set_option maxRecDepth 100000
set_option maxHeartbeats 4000000
/-! QH: the head's facts, told by Bools of the part of the heap that the module's names reach, and the end over them. -/
namespace QH
open PySem PySem.Spec PyProof.Rows L2

abbrev Fb : Type := PySem.W.Frag → Bool
abbrev AlQ : Type := Bool × List He.FnW
def obsQ (fs : List Fb) (fn : List He.DefD) (K : PySem.W.Frag) : AlQ := ((fs.all fun f => f K) && fn.all fun d => d.ok K, fn.map fun d => He.fnW K d.at_)
def valQ (fn : List He.DefD) : AlQ := (true, fn.map He.DefD.val)
def asQ (n : Nat) (g : Addr → Option Obj) : List Addr := sysModules :: cStatics :: He.asD g n
def obsQG (n : Nat) (fs : List Fb) (fn : List He.DefD) (g : Addr → Option Obj) : AlQ := obsQ fs fn (He.frG g (asQ n g))
def Says (fs : List Fb) (fn : List He.DefD) (K : PySem.W.Frag) : Prop := obsQ fs fn K = valQ fn
def hookQ (n : Nat) (fs : List Fb) (fn : List He.DefD) : PySem.W.Hook where
  α := AlQ
  obs := fun s => obsQG n fs fn s.heap.get?
  val := fun _ => valQ fn
  says := fun _ h => ∃ K : PySem.W.Frag, K.In h ∧ Says fs fn K
  of := fun _ _ e => ⟨_, He.frG_in, e⟩
  keeps := fun _ _ _ ⟨K, hK, c⟩ k => ⟨K, PySem.W.Frag.In.keeps hK k, c⟩
theorem obsQG_eq {n : Nat} {fs : List Fb} {fn : List He.DefD} {g : Addr → Option Obj} {s : Shared} (h : ∀ a, g a = s.heap.get? a) : obsQG n fs fn g = (hookQ n fs fn).obs s := by
  obtain rfl : g = s.heap.get? := funext h
  rfl
section
variable {fs : List Fb} {fn : List He.DefD} {K : PySem.W.Frag}
theorem Says.fact (c : Says fs fn K) (i : Nat) {f : Fb} (h : fs[i]? = some f := by rfl) : f K = true := by
  have c1 := (He.ba (show ((fs.all fun f => f K) && fn.all fun d => d.ok K) = true from congrArg (fun z : AlQ => z.1) c)).1
  exact List.all_eq_true.mp c1 f (List.mem_of_getElem? h)
theorem Says.def_ (c : Says fs fn K) (i : Nat) {d : He.DefD} (h : fn[i]? = some d := by rfl) : ∃ fd, FunD K d.name d.qual d.params d.body d.scope (d.dvs K) (d.kws K) (He.fAd K d.at_) fd := by
  have c2 := (He.ba (show ((fs.all fun f => f K) && fn.all fun d => d.ok K) = true from congrArg (fun z : AlQ => z.1) c)).2
  have e : fn.map (fun d => He.fnW K d.at_) = fn.map He.DefD.val := congrArg (fun z : AlQ => z.2) c
  have e2 : (fn.map fun d => He.fnW K d.at_)[i]? = (fn.map He.DefD.val)[i]? := by rw [e]
  rw [List.getElem?_map, List.getElem?_map, h] at e2
  exact He.DefD.funD (Option.some.inj e2) (List.all_eq_true.mp c2 d (List.mem_of_getElem? h))
end

/-! ### facts -/
def eqV (a b : Option (Option Value)) : Bool := decide (a = b)
theorem eqV_ok {a b : Option (Option Value)} (h : eqV a b = true) : a = b := of_decide_eq_true h
def glo (x : Str) : Fb := fun K => eqV (PySem.W.nsIn K mainGlobals x) (some (some (.ref (He.ga K x))))
def free (x : Str) : Fb := fun K => eqV (PySem.W.nsIn K mainGlobals x) (some none)
theorem glo_ok {K : PySem.W.Frag} {h : Heap} {mg : Str → Option Value} (X : K.In h) (G : h.Ns mainGlobals mg) {x : Str} (c : glo x K = true) : mg x = some (.ref (He.ga K x)) := PySem.W.mg_of X G (eqV_ok c)
theorem free_ok {K : PySem.W.Frag} {h : Heap} {mg : Str → Option Value} (X : K.In h) (G : h.Ns mainGlobals mg) {x : Str} (c : free x K = true) : mg x = none := PySem.W.mg_none_of X G (eqV_ok c)
/-- several names at once -/
def frees (xs : List Str) : Fb := fun K => xs.all fun x => free x K
theorem frees_ok {K : PySem.W.Frag} {h : Heap} {mg : Str → Option Value} (X : K.In h) (G : h.Ns mainGlobals mg) {xs : List Str} (c : frees xs K = true) {x : Str} (hx : x ∈ xs) : mg x = none := free_ok X G (List.all_eq_true.mp c x hx)
/-- sys.modules stands -/
def isDict : Data → Bool
  | .dict _ _ => true
  | _ => false
def sysB : Fb := fun K => match K.lookup sysModules with
  | some o => isDict o.data
  | none => false
theorem sysB_ok {K : PySem.W.Frag} (c : sysB K = true) : QR.SysK K := by
  unfold sysB at c
  split at c
  · rename_i o e
    obtain ⟨oc, od, dt, sl⟩ := o
    cases dt with
    | dict es ep => exact ⟨oc, od, es, ep, sl, e⟩
    | _ => cases c
  · cases c

/-! exceptions -/
def lineB (tl : List Value) : List Value → Bool
  | .ref c :: r => (Value.ref c :: r) == tl || lineB tl r
  | l => l == tl
theorem lineB_ok {tl : List Value} : ∀ {l : List Value}, lineB tl l = true → QE.Line tl l
  | .ref c :: r, h => by
    rcases Bool.or_eq_true_iff.mp (show ((Value.ref c :: r) == tl || lineB tl r) = true from h) with e | e
    · exact ⟨[], by rw [beq_iff_eq.mp e]; rfl⟩
    · obtain ⟨cs, e⟩ := lineB_ok e
      exact ⟨c :: cs, by rw [e]; rfl⟩
  | [], h => ⟨[], beq_iff_eq.mp h⟩
  | .none :: _, h => ⟨[], beq_iff_eq.mp h⟩
  | .ellipsis :: _, h => ⟨[], beq_iff_eq.mp h⟩
  | .notImplemented :: _, h => ⟨[], beq_iff_eq.mp h⟩
  | .bool _ :: _, h => ⟨[], beq_iff_eq.mp h⟩
  | .int _ _ :: _, h => ⟨[], beq_iff_eq.mp h⟩
  | .float _ _ :: _, h => ⟨[], beq_iff_eq.mp h⟩
  | .str _ _ :: _, h => ⟨[], beq_iff_eq.mp h⟩
  | .bytes _ _ :: _, h => ⟨[], beq_iff_eq.mp h⟩
  | .type _ :: _, h => ⟨[], beq_iff_eq.mp h⟩
  | .builtin _ :: _, h => ⟨[], beq_iff_eq.mp h⟩
def excO (K : PySem.W.Frag) (C : Addr) (newId : String) (tl : List Value) : Bool := match K.lookup C with
  | some ⟨.type "type", _, .cls cd, sl⟩ => (match cd.mro, sl.toList with
    | .ref C' :: bm, [_, _, _, _, some (.builtin n), _] => decide (C' = C) && (decide (n = newId) && (!cd.hasDel && (cd.hasDict && lineB tl bm)))
    | _, _ => false)
  | _ => false
theorem excO_ok {K : PySem.W.Frag} {C : Addr} {newId : String} {tl : List Value} (h : excO K C newId tl = true) :
    ∃ nm q N bs bm sn sub ab col dd k0 k1 k2 k3 k5, K.lookup C = some (excClassObj nm q C N bs bm true sn sub ab col dd k0 k1 k2 k3 k5 newId) ∧ QE.Line tl bm := by
  unfold excO at h
  split at h
  · rename_i dd cd sl ho
    split at h
    · rename_i C' bm k0 k1 k2 k3 n k5 hm hs
      obtain ⟨h2, h⟩ := He.ba h
      obtain ⟨h3, h⟩ := He.ba h
      obtain ⟨h4, h⟩ := He.ba h
      obtain ⟨h5, h6⟩ := He.ba h
      obtain rfl := of_decide_eq_true h2
      obtain rfl := of_decide_eq_true h3
      obtain ⟨nm, bs, mro, ns, qn, hd, sn, sub, ab, col, del⟩ := cd
      have hm' : mro = Value.ref C' :: bm := hm
      have h4' : (!del) = true := h4
      have h5' : hd = true := h5
      subst hm' h5'
      obtain rfl : del = false := by cases del <;> first | rfl | cases h4'
      have hsl : sl = #[k0, k1, k2, k3, some (.builtin n), k5] := by
        obtain ⟨l⟩ := sl
        have hs' : l = [k0, k1, k2, k3, some (.builtin n), k5] := hs
        rw [hs']
      subst hsl
      exact ⟨nm, qn, ns, bs, bm, sn, sub, ab, col, dd, k0, k1, k2, k3, k5, ho, lineB_ok h6⟩
    · cases h
  · cases h
/-- the class x over the built-in class that is told by newId and its line -/
def exc (x : Str) (newId : String) (tl : List Value) : Fb := fun K => excO K (He.ga K x) newId tl && (eqV (PySem.W.findIn K (.ref (He.ga K x)) "__setattr__") (some (some (.builtin "object.__setattr__"))) &&
  (eqV (PySem.W.findIn K (.ref (He.ga K x)) "__getattribute__") (some (some (.builtin "BaseException.__getattribute__"))) && (eqV (PySem.W.findIn K (.ref (He.ga K x)) "__getattr__") (some none) &&
  (decide (PySem.W.subIn K (.ref (He.ga K x)) (.type "BaseException") = some true) && (decide (PySem.W.typeIn K (.ref (He.ga K x)) = some (.type "type")) && (PySem.W.keepIn K (.ref (He.ga K x)) &&
  eqV (PySem.W.findIn K (.ref (He.ga K x)) "__class__") (some (some (.builtin "object.__class__")))))))))
theorem exc_ok {K : PySem.W.Frag} {x : Str} {B newId initId : String} {tl : List Value} (F : ExcBaseFacts B newId initId tl) (S : StoreFacts B tl "object.__setattr__" "object") (h : exc x newId tl K = true) : QE.ExB K (He.ga K x) B newId initId tl := by
  obtain ⟨h1, h⟩ := He.ba h
  obtain ⟨h2, h⟩ := He.ba h
  obtain ⟨h3, h⟩ := He.ba h
  obtain ⟨h4, h⟩ := He.ba h
  obtain ⟨h5, h⟩ := He.ba h
  obtain ⟨h6, h⟩ := He.ba h
  obtain ⟨h7, h8⟩ := He.ba h
  exact ⟨F, S, excO_ok h1, eqV_ok h2, eqV_ok h3, eqV_ok h4, of_decide_eq_true h5, of_decide_eq_true h6, h7, eqV_ok h8⟩
/-- its own __init__, a def; names that are no attributes of it -/
def ini (x : Str) (fs : List Str) : Fb := fun K => eqV (PySem.W.findIn K (.ref (He.ga K x)) "__init__") (some (some (.ref (He.ma K (He.ga K x) "__init__")))) &&
  (decide (PySem.W.typeIn K (.ref (He.ma K (He.ga K x) "__init__")) = some (.type "function")) && fs.all fun f => eqV (PySem.W.findIn K (.ref (He.ga K x)) f) (some none))
theorem ini_ok {K : PySem.W.Frag} {x : Str} {fs : List Str} (h : ini x fs K = true) : PySem.W.findIn K (.ref (He.ga K x)) "__init__" = some (some (.ref (He.ma K (He.ga K x) "__init__"))) ∧
    PySem.W.typeIn K (.ref (He.ma K (He.ga K x) "__init__")) = some (.type "function") ∧ ∀ f ∈ fs, PySem.W.findIn K (.ref (He.ga K x)) f = some none := by
  obtain ⟨h1, h⟩ := He.ba h
  obtain ⟨h2, h3⟩ := He.ba h
  exact ⟨eqV_ok h1, of_decide_eq_true h2, fun f hf => eqV_ok (List.all_eq_true.mp h3 f hf)⟩
def exM : Fb := fun K => eqV (PySem.W.specialIn K (.builtin "object.__class__") "__get__") (some (some (.builtin "getset_descriptor.__get__"))) && decide (PySem.W.takesIn K (.builtin "object.__class__") = some true)
theorem exM_ok {K : PySem.W.Frag} (h : exM K = true) : QE.ExM K := by
  obtain ⟨h1, h2⟩ := He.ba h
  exact ⟨eqV_ok h1, of_decide_eq_true h2⟩
/-- an attribute of a class that is a built-in -/
def clsV (c mc : Value) (f : Str) (id : String) (K : PySem.W.Frag) : Bool := match PySem.W.findCls K c mc f with
  | some (.val (.builtin n)) => decide (n = id)
  | _ => false
theorem clsV_ok {K : PySem.W.Frag} {c mc : Value} {f : Str} {id : String} (h : clsV c mc f id K = true) : PySem.W.findCls K c mc f = some (.val (.builtin id)) := by
  unfold clsV at h
  split at h
  · rename_i n e
    rw [e, of_decide_eq_true h]
  · cases h
/-- x.f, x an own class, is the built-in id -/
def cre (x : Str) (f : Str) (id : String) : Fb := fun K => PySem.W.readsIn K (He.ga K x) (.type "type") && (eqV (PySem.W.specialIn K (.ref (He.ga K x)) "__getattribute__") (some (some (.builtin "type.__getattribute__"))) && clsV (.ref (He.ga K x)) (.type "type") f id K)
theorem cre_ok {K : PySem.W.Frag} {x f : Str} {id : String} (h : cre x f id K = true) : ClX.CRead K (He.ga K x) (.type "type") ∧ PySem.W.findCls K (.ref (He.ga K x)) (.type "type") f = some (.val (.builtin id)) := by
  obtain ⟨h1, h⟩ := He.ba h
  obtain ⟨h2, h3⟩ := He.ba h
  exact ⟨⟨h1, eqV_ok h2⟩, clsV_ok h3⟩
/-- isinstance of an instance of x: for each class (a name of the module, a built-in one) its answer -/
def kin (x : Str) (cs : List (Value × Bool)) (os : List (Str × Bool)) : Fb := fun K => (cs.all fun c => decide (PySem.W.kitOne K (.ref (He.ga K x)) c.1 = some c.2)) && os.all fun c => decide (PySem.W.kitOne K (.ref (He.ga K x)) (.ref (He.ga K c.1)) = some c.2)
theorem kin_ok {K : PySem.W.Frag} {x : Str} {cs : List (Value × Bool)} {os : List (Str × Bool)} (h : kin x cs os K = true) : (∀ c ∈ cs, PySem.W.kitOne K (.ref (He.ga K x)) c.1 = some c.2) ∧ ∀ c ∈ os, PySem.W.kitOne K (.ref (He.ga K x)) (.ref (He.ga K c.1)) = some c.2 := by
  obtain ⟨h1, h2⟩ := He.ba h
  exact ⟨fun c hc => of_decide_eq_true (List.all_eq_true.mp h1 c hc), fun c hc => of_decide_eq_true (List.all_eq_true.mp h2 c hc)⟩
/-- .. of a tuple of classes -/
def kint (x : Str) (cs : List Value) (b : Bool) : Fb := fun K => decide (PySem.W.kitAny K (.ref (He.ga K x)) cs = some b)

/-! ### the end -/
theorem walk_GE {l : PySem.W.OpenLaw} {n k : Nat} {q : Program} {loose : List Str} {XP : (Str → Option Value) → Heap → Prop} {YP : World → Heap → Prop} {d : DefRec} {CX : World → CXT} {x : Str}
    (hn : l.most = some n) (hn2 : n ≤ sizeLine) (hdf : d.params.defaults = []) (hr : Room k callerA)
    (F : ∀ (w : World) (mg : Str → Option Value) (fa : Addr) (h : Heap), YP w h → h.Ns mainGlobals mg → mg d.name = some (.ref fa) →
      ∃ (K : PySem.W.Frag) (fd : FuncData) (sp : Sp), K.In h ∧ (∀ (s : Shared) (u : Value), BindsTo s fd ⟨[u], []⟩ [(x, u)]) ∧
        (∀ (H : Hp) (a : Addr) (ns : List Int), ns.length ≤ n → (∀ z ∈ ns, Builtin.Int.intBits z ≤ 1048576) → Only H → SqL K H a (ns.map V.int) → sp [.ref a] H (fun v _ => v = .bl true) fun _ _ _ => False) ∧
        ∀ base : Heap, K.In base → base.Ns mainGlobals mg → QG.FnG l.prog w K mg base (CX w) k fa fd [x] sp)
    (hCX : ∀ (w : World) (H : Hp) (s : Shared) (e : Value) (s' : Shared), CX w [] H s (fun _ _ _ => False) e s' → False) :
    PySem.W.WalkO q loose XP YP l.row.toRowW d [] (fun f vs => PySem.call f vs) := by
  refine Att.attach_callB hn hdf fun w s₀ s₁ mg mb fa o pm cd doc a vs ns G Y ho hd hcd hmg hobj hints hlen hbits hg => ?_
  obtain ⟨K, fd, sp, KX, hb, hsp, hF⟩ := F w mg fa _ Y G.T.g hmg
  exact QG.law_callG KX G.T.g G.T.b G.T.builtins G.T.nolimit hg hobj hints (Nat.le_trans hlen hn2) hr hF hb (fun H hO hS => hsp H a ns hlen hbits hO hS) fun H e s' => hCX w H s₁ e s'
end QH

set_option Elab.async false
set_option linter.all false
set_option maxRecDepth 100000
set_option maxHeartbeats 4000000
/-! QW: readings by worlds. F: what is known and stands for ever; H: the heap; a world: what may change besides, and what holds of it. -/
namespace QW
open PySem PySem.Spec PyProof.Rows L2

/-- from (F, H) to (F', H'): what was known is known, what is newly known is new, what stood stands but at M -/
structure Gr (M : List Addr) (F H F' H' : Hp) : Prop where
  ff : Same F F'
  fh : Same F' H'
  hh : ∀ b o, b ∉ M → H b = some o → H' b = some o
  nw : ∀ b, F b = none → H b ≠ none → F' b = none
theorem same_none {H H' : Hp} (e : Same H H') {b : Addr} (h : H' b = none) : H b = none := e.free h
theorem Gr.refl {M : List Addr} {F H : Hp} (h : Same F H) : Gr M F H F H := ⟨Same.refl F, h, fun _ _ _ e => e, fun _ e _ => e⟩
theorem Gr.trans {M : List Addr} {F H F1 H1 F2 H2 : Hp} (hM : ∀ m ∈ M, F m = none → F1 m = none → F2 m = none) (a : Gr M F H F1 H1) (b : Gr M F1 H1 F2 H2) : Gr M F H F2 H2 :=
  ⟨a.ff.trans b.ff, b.fh, fun x o n e => b.hh x o n (a.hh x o n e), fun x e n => by
    have e1 := a.nw x e n
    by_cases hm : x ∈ M
    · exact hM x hm e e1
    · refine b.nw x e1 fun z => ?_
      cases q : H x with
      | none => exact n q
      | some o => rw [a.hh x o hm q] at z; cases z⟩
/-- a new object that is not kept in mind, or will change -/
theorem Gr.temp {M : List Addr} {F H F' H' : Hp} {p : Addr} {o : HO} (g : Gr M F H F' H') (n : H' p = none) : Gr M F H F' (upd H' p o) :=
  ⟨g.ff, fun b u e => by rw [upd_ne (ne_of_none (g.fh b u e) n)]; exact g.fh b u e, fun b u m e => by rw [upd_ne (ne_of_none (g.hh b u m e) n)]; exact g.hh b u m e, g.nw⟩
/-- an object of ours changes: it is not known, and it was not there or is one of M -/
theorem Gr.mut {M : List Addr} {F H F' H' : Hp} {p : Addr} {o : HO} (g : Gr M F H F' H') (n : H p = none ∨ p ∈ M) (k : F' p = none) : Gr M F H F' (upd H' p o) :=
  ⟨g.ff, fun b u e => by rw [upd_ne (ne_of_none e k)]; exact g.fh b u e, fun b u m e => by
    rw [upd_ne]
    · exact g.hh b u m e
    · rintro rfl
      rcases n with n | n
      · rw [n] at e; cases e
      · exact m n, g.nw⟩
/-- an object of ours is from now on known -/
theorem Gr.keep {M : List Addr} {F H F' H' : Hp} {p : Addr} {o : HO} (g : Gr M F H F' H') (n : H p = none) (k : F' p = none) (e : H' p = some o) : Gr M F H (upd F' p o) H' :=
  ⟨fun b u q => by rw [upd_ne (ne_of_none (g.ff b u q) k)]; exact g.ff b u q, fun b u q => by
    by_cases hb : b = p
    · subst hb
      rw [upd_same] at q
      rw [e]
      exact q
    · rw [upd_ne hb] at q
      exact g.fh b u q, g.hh, fun b q z => by
    rw [upd_ne (fun y => z (by rw [y]; exact n))]
    exact g.nw b q z⟩
theorem same_upd {F : Hp} {p : Addr} {o : HO} (k : F p = none) : Same F (upd F p o) := fun b u q => by rw [upd_ne (ne_of_none q k)]; exact q
/-- a new object, known at once -/
theorem Gr.new {M : List Addr} {F H F' H' : Hp} {p : Addr} {o : HO} (g : Gr M F H F' H') (n : H' p = none) (nm : p ∉ M) : Gr M F H (upd F' p o) (upd H' p o) := by
  have k : F' p = none := same_none g.fh n
  have n0 : H p = none := by
    cases q : H p with
    | none => rfl
    | some u => rw [g.hh p u nm q] at n; cases n
  exact (g.temp n).keep n0 k upd_same

/-- a world: addresses that may change, what holds of them -/
structure Wd where
  M : List Addr
  J : Hp → Prop
  st : ∀ H H', J H → (∀ m o, m ∈ M → H m = some o → H' m = some o) → J H'
  tr : ∀ H, J H → ∀ m ∈ M, H m ≠ none
def W0 : Wd := ⟨[], fun _ => True, fun _ _ _ _ => True.intro, fun _ _ _ h => nomatch h⟩
theorem Wd.same (w : Wd) {H H' : Hp} (j : w.J H) (e : Same H H') : w.J H' := w.st H H' j fun m o _ q => e m o q
structure Gw (w : Wd) (F H F' H' : Hp) : Prop where
  g : Gr w.M F H F' H'
  j : w.J H'
structure Ok (w : Wd) (F H : Hp) : Prop where
  s : Same F H
  j : w.J H
  m : ∀ m ∈ w.M, F m = none
section
variable {w : Wd} {F H F1 H1 F2 H2 F3 H3 : Hp}
theorem Ok.refl (o : Ok w F H) : Gw w F H F H := ⟨.refl o.s, o.j⟩
theorem Gw.ok (o : Ok w F H) (a : Gw w F H F1 H1) : Ok w F1 H1 := ⟨a.g.fh, a.j, fun m hm => a.g.nw m (o.m m hm) (w.tr H o.j m hm)⟩
theorem Gw.trans (o : Ok w F H) (a : Gw w F H F1 H1) (b : Gw w F1 H1 F2 H2) : Gw w F H F2 H2 := by
  refine ⟨Gr.trans (fun m hm _ _ => ?_) a.g b.g, b.j⟩
  exact (b.ok (a.ok o)).m m hm
theorem Gw.new (o : Ok w F H) (a : Gw w F H F1 H1) {p : Addr} {u : HO} (n : H1 p = none) : Gw w F H (upd F1 p u) (upd H1 p u) :=
  ⟨a.g.new n fun z => w.tr H1 a.j p z n, w.same a.j (same_upd n)⟩
theorem Gw.temp (a : Gw w F H F1 H1) {p : Addr} {u : HO} (n : H1 p = none) : Gw w F H F1 (upd H1 p u) := ⟨a.g.temp n, w.same a.j (same_upd n)⟩
/-- what a pure step does is done in any world -/
theorem Gw.of0 (o : Ok w F H) (a : Gw W0 F H F1 H1) : Gw w F H F1 H1 := ⟨⟨a.g.ff, a.g.fh, fun b u _ e => a.g.hh b u (fun z => nomatch z) e, a.g.nw⟩, w.same o.j fun b u e => a.g.hh b u (fun z => nomatch z) e⟩
theorem Gw.same (a : Gw W0 F H F1 H1) : Same H H1 := fun b u e => a.g.hh b u (fun z => nomatch z) e
end

/-- what holds of a value over what is known -/
abbrev Pr : Type := V → Hp → Prop
def Mo (R : Pr) : Prop := ∀ v F F', Same F F' → R v F → R v F'
inductive Al : List Pr → List V → Hp → Prop
  | nil {F : Hp} : Al [] [] F
  | cons {R : Pr} {Rs : List Pr} {v : V} {vs : List V} {F : Hp} : R v F → Al Rs vs F → Al (R :: Rs) (v :: vs) F
theorem Al.mono {F F' : Hp} (e : Same F F') : ∀ {Rs : List Pr} {vs : List V}, (∀ R ∈ Rs, Mo R) → Al Rs vs F → Al Rs vs F'
  | _, _, _, .nil => .nil
  | _, _, m, .cons h r => .cons (m _ List.mem_cons_self _ _ _ e h) (Al.mono e (fun R hR => m R (List.mem_cons_of_mem _ hR)) r)
theorem Al.length {F : Hp} : ∀ {Rs : List Pr} {vs : List V}, Al Rs vs F → vs.length = Rs.length
  | _, _, .nil => rfl
  | _, _, .cons _ r => congrArg (· + 1) r.length
theorem Al.append {F : Hp} : ∀ {Rs Ss : List Pr} {vs us : List V}, Al Rs vs F → Al Ss us F → Al (Rs ++ Ss) (vs ++ us) F
  | _, _, _, _, .nil, s => s
  | _, _, _, _, .cons h r, s => .cons h (r.append s)
theorem Al.get {F : Hp} : ∀ {Rs : List Pr} {vs : List V} {i : Nat} {v : V}, Al Rs vs F → vs[i]? = some v → ∃ R, Rs[i]? = some R ∧ R v F
  | _, _, i, _, .nil, e => by simp at e
  | _, _, 0, _, .cons h _, e => by
    simp at e
    subst e
    exact ⟨_, rfl, h⟩
  | _, _, i + 1, _, .cons _ r, e => by
    obtain ⟨d, h1, h2⟩ := Al.get (i := i) r (by simpa using e)
    exact ⟨d, by simpa using h1, h2⟩
/-- exactly that value -/
def Is (v : V) : Pr := fun u _ => u = v
/-- data -/
def Da (K : PySem.W.Frag) (d : PyData) : Pr := fun v F => QR.Dv K F v d
theorem Al.is {α : Type} {F : Hp} {f : α → V} : ∀ {xs : List α} {vs : List V}, Al (xs.map fun x => Is (f x)) vs F → vs = xs.map f
  | [], _, h => by cases h; rfl
  | x :: xs, _, h => by
    cases h with
    | @cons _ _ u _ _ h r =>
      obtain rfl : u = f x := h
      rw [Al.is r]
      rfl
/-- a list of such | a tuple of such -/
def Li (Rs : List Pr) : Pr := fun v F => ∃ l vs, v = .ref l ∧ F l = some (.lst vs) ∧ Al Rs vs F
def Tu (Rs : List Pr) : Pr := fun v F => ∃ l vs, v = .ref l ∧ F l = some (.tup vs) ∧ Al Rs vs F
theorem Is.mo (v : V) : Mo (Is v) := fun _ _ _ _ h => h
theorem Da.mo (K : PySem.W.Frag) (d : PyData) : Mo (Da K d) := fun _ _ _ e h => h.mono e
theorem Li.mo {Rs : List Pr} (m : ∀ R ∈ Rs, Mo R) : Mo (Li Rs) := fun _ _ _ e ⟨l, vs, h1, h2, h3⟩ => ⟨l, vs, h1, e _ _ h2, h3.mono e m⟩
theorem Tu.mo {Rs : List Pr} (m : ∀ R ∈ Rs, Mo R) : Mo (Tu Rs) := fun _ _ _ e ⟨l, vs, h1, h2, h3⟩ => ⟨l, vs, h1, e _ _ h2, h3.mono e m⟩
theorem Al.das {K : PySem.W.Frag} {F : Hp} : ∀ {ds : List PyData} {vs : List V}, Al (ds.map (Da K)) vs F → QR.DvAll K F vs ds
  | [], _, h => by cases h; exact .nil
  | d :: ds, _, h => by
    cases h with
    | cons h r => exact .cons h (Al.das r)
theorem Al.of_das {K : PySem.W.Frag} {F : Hp} : ∀ {ds : List PyData} {vs : List V}, QR.DvAll K F vs ds → Al (ds.map (Da K)) vs F
  | _, _, .nil => .nil
  | _, _, .cons h r => .cons h (Al.of_das r)
theorem Li.da {K : PySem.W.Frag} {v : V} {F : Hp} {ds : List PyData} (h : Li (ds.map (Da K)) v F) : Da K (.list ds) v F := by
  obtain ⟨l, vs, rfl, h2, h3⟩ := h
  exact .list h2 h3.das
theorem Tu.da {K : PySem.W.Frag} {v : V} {F : Hp} {ds : List PyData} (h : Tu (ds.map (Da K)) v F) : Da K (.tuple ds) v F := by
  obtain ⟨l, vs, rfl, h2, h3⟩ := h
  exact .tuple h2 h3.das

/-! ### judgements -/
def EvW (w : Wd) (R : Pr) (te : TE) (σ : L2.St) (F H : Hp) : Prop := ∀ F1 H1, Gw w F H F1 H1 → ∀ Q : VK, (∀ v F2 H2, Gw w F1 H1 F2 H2 → R v F2 → Q v H2) → te σ H1 Q
def EvA (w : Wd) (Rs : List Pr) (ta : TA) (σ : L2.St) (F H : Hp) : Prop := ∀ F1 H1, Gw w F H F1 H1 → ∀ Q : List V → Hp → Prop, (∀ vs F2 H2, Gw w F1 H1 F2 H2 → Al Rs vs F2 → Q vs H2) → ta σ H1 Q
def EvT (w : Wd) (b : Bool) (tt : TT) (σ : L2.St) (F H : Hp) : Prop := ∀ F1 H1, Gw w F H F1 H1 → ∀ Q : Bool → Hp → Prop, (∀ F2 H2, Gw w F1 H1 F2 H2 → Q b H2) → tt σ H1 Q
section
variable {K : PySem.W.Frag} {w : Wd} {σ : L2.St} {F H F1 H1 F2 H2 : Hp} {ta tb te tx : TE} {t u : TT} {x y z v : V} {r : R2} {R S T : Pr} {Rs : List Pr} {tas : TA}
theorem EvW.mono (o : Ok w F H) (e : Gw w F H F1 H1) (h : EvW w R te σ F H) : EvW w R te σ F1 H1 := fun F2 H2 a Q q => h F2 H2 (e.trans o a) Q q
theorem EvA.mono (o : Ok w F H) (e : Gw w F H F1 H1) (h : EvA w Rs tas σ F H) : EvA w Rs tas σ F1 H1 := fun F2 H2 a Q q => h F2 H2 (e.trans o a) Q q
theorem EvT.mono {b : Bool} (o : Ok w F H) (e : Gw w F H F1 H1) (h : EvT w b t σ F H) : EvT w b t σ F1 H1 := fun F2 H2 a Q q => h F2 H2 (e.trans o a) Q q
theorem EvW.imp (h : EvW w R te σ F H) (i : ∀ v F', Same F F' → R v F' → S v F') : EvW w S te σ F H := fun F1 H1 a Q q => h F1 H1 a Q fun v F2 H2 b r => q v F2 H2 b (i v F2 (a.g.ff.trans b.g.ff) r)
theorem ev_var {i : Nat} (o : Ok w F H) (m : Mo R) (h : σ[i]? = some (some v)) (hr : R v F) : EvW w R (tVar i) σ F H := fun F1 H1 a _ q => ⟨v, h, q v F1 H1 (a.ok o).refl (m _ _ _ a.g.ff hr)⟩
theorem ev_c (o : Ok w F H) (hr : ∀ F, R v F) : EvW w R (tC v) σ F H := fun F1 H1 a _ q => q v F1 H1 (a.ok o).refl (hr F1)
theorem ea_nil (o : Ok w F H) : EvA w [] tNil σ F H := fun F1 H1 a _ q => q [] F1 H1 (a.ok o).refl .nil
theorem ea_cons {tr : TA} (o : Ok w F H) (m : Mo R) (h : EvW w R te σ F H) (hr : EvA w Rs tr σ F H) : EvA w (R :: Rs) (tCons te tr) σ F H := fun F1 H1 a _ q =>
  h F1 H1 a _ fun v F2 H2 b rv => hr F2 H2 (a.trans o b) _ fun vs F3 H3 c rs => q _ F3 H3 (b.trans (a.ok o) c) (.cons (m _ _ _ c.g.ff rv) rs)
theorem ev_lst (o : Ok w F H) (m : ∀ R ∈ Rs, Mo R) (h : EvA w Rs tas σ F H) (hl : Rs.length ≤ 100000) : EvW w (Li Rs) (tLst tas) σ F H := fun F1 H1 a _ q =>
  h F1 H1 a _ fun vs F2 H2 b rs => ⟨Evl.sz_of (by rw [rs.length]; exact hl), fun p n => q _ (upd F2 p (.lst vs)) _ (b.new (a.ok o) n) ⟨p, vs, rfl, upd_same, rs.mono (same_upd (same_none b.g.fh n)) m⟩⟩
theorem ev_tup (o : Ok w F H) (m : ∀ R ∈ Rs, Mo R) (h : EvA w Rs tas σ F H) (hl : Rs.length ≤ 100000) : EvW w (Tu Rs) (tTup tas) σ F H := fun F1 H1 a _ q =>
  h F1 H1 a _ fun vs F2 H2 b rs => ⟨Evl.sz_of (by rw [rs.length]; exact hl), fun p n => q _ (upd F2 p (.tup vs)) _ (b.new (a.ok o) n) ⟨p, vs, rfl, upd_same, rs.mono (same_upd (same_none b.g.fh n)) m⟩⟩
/-- an operation on two values -/
def OpW (w : Wd) (r : R2) (R S T : Pr) : Prop := ∀ x y F H, Ok w F H → R x F → S y F → ∀ Q : VK, (∀ v F2 H2, Gw w F H F2 H2 → T v F2 → Q v H2) → r x y H Q
theorem ev_op (o : Ok w F H) (m : Mo R) (ha : EvW w R ta σ F H) (hb : EvW w S tb σ F H) (ho : OpW w r R S T) : EvW w T (tOp r ta tb) σ F H := fun F1 H1 a _ q =>
  ha F1 H1 a _ fun x F2 H2 b rx => hb F2 H2 (a.trans o b) _ fun y F3 H3 c ry => ho x y F3 H3 (c.ok (b.ok (a.ok o))) (m _ _ _ c.g.ff rx) ry _ fun v F4 H4 d rv => q v F4 H4 ((b.trans (a.ok o) c).trans (a.ok o) d) rv
theorem ow_val {f : V → V → V} (h : ∀ x y F H, R x F → S y F → Same F H → ∀ Q : VK, Q (f x y) H → r x y H Q) (ht : ∀ x y F, R x F → S y F → T (f x y) F) : OpW w r R S T := fun x y F H o rx ry Q q => h x y F H rx ry o.s Q (q _ F H o.refl (ht x y F rx ry))
theorem ow_cat {Ss : List Pr} (m1 : ∀ R ∈ Rs, Mo R) (m2 : ∀ R ∈ Ss, Mo R) (hl : Rs.length + Ss.length ≤ 100000) : OpW w rCat (Li Rs) (Li Ss) (Li (Rs ++ Ss)) := by
  intro x y F H o rx ry Q q
  obtain ⟨l, vs, rfl, h1, a1⟩ := rx
  obtain ⟨k, us, rfl, h2, a2⟩ := ry
  refine ⟨l, k, vs, us, rfl, rfl, o.s _ _ h1, o.s _ _ h2, Evl.sz_of (by rw [a1.length, a2.length]; exact hl), fun p n => q _ (upd F p (.lst (vs ++ us))) _ (o.refl.new o n) ⟨p, vs ++ us, rfl, upd_same, ?_⟩⟩
  have e := same_upd (o := .lst (vs ++ us)) (same_none o.s n)
  exact (a1.mono e m1).append (a2.mono e m2)
theorem ow_rep (m : Mo R) (n : Nat) (hl : n ≤ 100000) : OpW w rRep (Li [R]) (Is (.int n)) (Li (List.replicate n R)) := by
  intro x y F H o rx ry Q q
  obtain ⟨l, vs, rfl, h1, a1⟩ := rx
  obtain rfl : y = .int n := ry
  obtain ⟨v, rfl, rv⟩ : ∃ v, vs = [v] ∧ R v F := by
    cases a1 with
    | cons h r => cases r; exact ⟨_, rfl, h⟩
  refine ⟨l, n, [v], rfl, rfl, o.s _ _ h1, by omega, by omega, by simpa using Evl.sz_of hl, fun p hp => q _ (upd F p _) _ (o.refl.new o hp) ⟨p, _, rfl, upd_same, ?_⟩⟩
  have e := same_upd (o := .lst (List.replicate ((n : Int).toNat) [v]).flatten) (same_none o.s hp)
  have key : ∀ k : Nat, Al (List.replicate k R) (List.replicate k [v]).flatten (upd F p (.lst (List.replicate ((n : Int).toNat) [v]).flatten)) := by
    intro k
    induction k with
    | zero => exact .nil
    | succ k ih =>
      rw [List.replicate_succ, List.replicate_succ, List.flatten_cons]
      exact .cons (m _ _ _ e rv) ih
  rw [Int.toNat_natCast]
  have := key n
  rw [Int.toNat_natCast] at this
  exact this
/-- == , != of data -/
theorem ow_eq {d e : PyData} (hd : ∀ v F, R v F → L2.Dp K F v d) (he : ∀ v F, S v F → L2.Dp K F v e) (sd : SeqAt.shaped d = true) (se : SeqAt.shaped e = true) (mo : ∀ {H H'}, Same H H' → ∀ {v d}, L2.Dp K H v d → L2.Dp K H' v d) : OpW w (rEqD K) R S (Is (.bl (PyData.eqv d e))) :=
  fun x y F H o rx ry Q q => ⟨d, e, mo o.s (hd x F rx), mo o.s (he y F ry), sd, se, q _ F H o.refl rfl⟩
/-- a call of a built-in by values -/
def CaW (w : Wd) (r : List V → Hp → VK → Prop) (Rs : List Pr) (T : Pr) : Prop := ∀ vs F H, Ok w F H → Al Rs vs F → ∀ Q : VK, (∀ v F2 H2, Gw w F H F2 H2 → T v F2 → Q v H2) → r vs H Q
theorem ev_cb {rc : List V → Hp → VK → Prop} (o : Ok w F H) (h : EvA w Rs tas σ F H) (hc : CaW w rc Rs T) : EvW w T (tCB rc tas) σ F H := fun F1 H1 a _ q =>
  h F1 H1 a _ fun vs F2 H2 b rs => hc vs F2 H2 (b.ok (a.ok o)) rs _ fun v F3 H3 c rv => q v F3 H3 (b.trans (a.ok o) c) rv
/-- a def's promise -/
def spW {α : Type} (w : α → Wd) (A : α → List Pr) (R : α → Pr) : Sp := fun vs H Q _ => ∃ (a : α) (F : Hp), Ok (w a) F H ∧ Al (A a) vs F ∧ ∀ v F' H', Gw (w a) F H F' H' → R a v F' → Q v H'
theorem spW.len {α : Type} {w : α → Wd} {A : α → List Pr} {R : α → Pr} {n : Nat} (h : ∀ a, (A a).length = n) : ∀ vs H Q E, spW w A R vs H Q E → vs.length = n := fun vs H Q E ⟨a, F, _, al, _⟩ => al.length.trans (h a)
theorem ev_call {α : Type} {wf : α → Wd} {A : α → List Pr} {Rf : α → Pr} {E : XK} (a : α) (o : Ok (wf a) F H) (h : EvA (wf a) (A a) tas σ F H) : EvW (wf a) (Rf a) (tCall (spW wf A Rf) [] E tas) σ F H := fun F1 H1 g _ q =>
  h F1 H1 g _ fun vs F2 H2 b rs => ⟨a, F2, b.ok (g.ok o), by rw [List.append_nil]; exact rs, fun v F3 H3 c rv => q v F3 H3 (b.trans (g.ok o) c) rv⟩
/-- a pure def called in any world -/
theorem ev_call0 {α : Type} {A : α → List Pr} {Rf : α → Pr} {E : XK} (a : α) (o : Ok w F H) (h : EvA w (A a) tas σ F H) : EvW w (Rf a) (tCall (spW (fun _ => W0) A Rf) [] E tas) σ F H := fun F1 H1 g _ q =>
  h F1 H1 g _ fun vs F2 H2 b rs => ⟨a, F2, ⟨(b.ok (g.ok o)).s, True.intro, fun _ z => nomatch z⟩, by rw [List.append_nil]; exact rs, fun v F3 H3 c rv => q v F3 H3 (b.trans (g.ok o) (c.of0 (b.ok (g.ok o)))) rv⟩
theorem et_val {b : Bool} (h : EvW w (Is (.bl b)) te σ F H) : EvT w b (tTest te) σ F H := fun F1 H1 a _ q => h F1 H1 a _ fun v F2 H2 c rv => ⟨b, rv, q F2 H2 c⟩
theorem et_B {b : Bool} (h : EvW w (Is (.bl b)) te σ F H) : EvT w b (tB te) σ F H := fun F1 H1 a _ q => h F1 H1 a _ fun v F2 H2 c rv => ⟨b, rv, q F2 H2 c⟩
theorem et_not {b : Bool} (h : EvT w b t σ F H) : EvT w (!b) (tNot t) σ F H := fun F1 H1 a _ q => h F1 H1 a _ fun F2 H2 c => q F2 H2 c
theorem et_or {a b : Bool} (o : Ok w F H) (h1 : EvT w a t σ F H) (h2 : a = false → EvT w b u σ F H) : EvT w (a || b) (tOr t u) σ F H := fun F1 H1 g _ q => h1 F1 H1 g _ fun F2 H2 c => by
  cases a with
  | true => exact q F2 H2 c
  | false => exact h2 rfl F2 H2 (g.trans o c) _ fun F3 H3 d => q F3 H3 (c.trans (g.ok o) d)
theorem et_and {a b : Bool} (o : Ok w F H) (h1 : EvT w a t σ F H) (h2 : a = true → EvT w b u σ F H) : EvT w (a && b) (tAnd t u) σ F H := fun F1 H1 g _ q => h1 F1 H1 g _ fun F2 H2 c => by
  cases a with
  | false => exact q F2 H2 c
  | true => exact h2 rfl F2 H2 (g.trans o c) _ fun F3 H3 d => q F3 H3 (c.trans (g.ok o) d)

/-! ### statements -/
variable {D : Ends} {tu tw : TS}
theorem s_asg {i : Nat} (o : Ok w F H) (h : EvW w R te σ F H) (k : ∀ v F1 H1, Gw w F H F1 H1 → R v F1 → D.nx (σ.set i (some v)) H1) : tAsg te (gName i) D σ H := h F H o.refl _ k
theorem s_ret (o : Ok w F H) (h : EvW w R te σ F H) (k : ∀ v F1 H1, Gw w F H F1 H1 → R v F1 → D.rt v H1) : tRet te D σ H := h F H o.refl _ k
theorem s_drop (o : Ok w F H) (h : EvW w R te σ F H) (k : ∀ v F1 H1, Gw w F H F1 H1 → R v F1 → D.nx σ H1) : tDrop te D σ H := h F H o.refl _ k
theorem s_yes (o : Ok w F H) (h : EvT w true t σ F H) (k : ∀ F1 H1, Gw w F H F1 H1 → tu D σ H1) : tIfS t tu tw D σ H := h F H o.refl _ fun F1 H1 a => (if_pos rfl).mpr (k F1 H1 a)
theorem s_no (o : Ok w F H) (h : EvT w false t σ F H) (k : ∀ F1 H1, Gw w F H F1 H1 → tw D σ H1) : tIfS t tu tw D σ H := h F H o.refl _ fun F1 H1 a => (if_neg Bool.false_ne_true).mpr (k F1 H1 a)

/-! ### comprehensions -/
/-- the block's slots -/
def Wip (σ : L2.St) (vs : List Nat) (j : Nat) : Prop := ∀ x, wipe ((wipe σ vs).set j (some x)) vs = wipe σ vs
theorem lc_run {tt : TT} {vs : List Nat} {j n : Nat} {Q : VK} (o : Ok w F H) (Iv : Nat → List V → Hp → Prop) (mono : ∀ i ys F F', Same F F' → Iv i ys F → Iv i ys F') (h0 : Iv 0 [] F) (hn : n ≤ 100000)
    (it : Nat → V → Prop)
    (hs : ∀ i x ys G H', it i x → i < n → Gw w F H G H' → Iv i ys G → ∀ (Qy : VK) (Qn : Hp → Prop), (∀ y G' H'', Gw w G H' G' H'' → Iv (i + 1) (ys ++ [y]) G' → Qy y H'') → (∀ G' H'', Gw w G H' G' H'' → Iv (i + 1) ys G' → Qn H'') →
      tt ((wipe σ vs).set j (some x)) H' fun b H3 => if b = true then te ((wipe σ vs).set j (some x)) H3 Qy else Qn H3)
    (q : ∀ D ys G H', H D = none → Gw w F H G H' → G D = some (.lst ys) → Iv n ys G → Q (.ref D) H') (D : Addr) (hD : H D = none) :
    ∃ Pv : Nat → Hp → Prop, Pv 0 (upd H D (.lst [])) ∧ (∀ i H', Pv i H' → ∃ G, Gw w F H G H') ∧
      (∀ i x H', i < n → it i x → Pv i H' → tt ((wipe σ vs).set j (some x)) H' fun b H3 => if b = true then te ((wipe σ vs).set j (some x)) H3 fun y H4 => ∃ acc, H4 D = some (.lst acc) ∧ acc.length < sizeLine ∧ Pv (i + 1) (upd H4 D (.lst (acc ++ [y]))) else Pv (i + 1) H3) ∧
      ∀ H', Pv n H' → Q (.ref D) H' := by
  have nm : D ∉ w.M := fun z => w.tr H o.j D z hD
  refine ⟨fun i H' => ∃ G ys, Gw w F H G H' ∧ G D = none ∧ H' D = some (.lst ys) ∧ Iv i ys G ∧ ys.length ≤ i, ⟨F, [], o.refl.temp hD, same_none o.s hD, upd_same, h0, Nat.le_refl _⟩, fun i H' ⟨G, _, g, _⟩ => ⟨G, g⟩, ?_, ?_⟩
  · rintro i x H' hi hx ⟨G, ys, g, gD, hD', iv, hl⟩
    have o' := g.ok o
    have key : ∀ {G' H''}, Gw w G H' G' H'' → G' D = none ∧ H'' D = some (.lst ys) := fun {G' H''} g' => ⟨g'.g.nw D gD (by rw [hD']; exact nofun), g'.g.hh D _ nm hD'⟩
    refine hs i x ys G H' hx hi g iv _ _ (fun y G' H'' g' iv' => ?_) fun G' H'' g' iv' => ?_
    · obtain ⟨e1, e2⟩ := key g'
      have g2 := g.trans o g'
      refine ⟨ys, e2, Evl.sz_lt (by omega), G', ys ++ [y], ⟨g2.g.mut (.inl hD) e1, ?_⟩, e1, upd_same, iv', by rw [List.length_append]; simp; omega⟩
      exact w.st _ _ g2.j fun m u hm e => by
        have ne : m ≠ D := fun z => by
          subst z
          exact nm hm
        rw [upd_ne ne]
        exact e
    · obtain ⟨e1, e2⟩ := key g'
      exact ⟨G', ys, g.trans o g', e1, e2, iv', by omega⟩
  · rintro H' ⟨G, ys, g, gD, hD', iv, hl⟩
    exact q D ys _ H' hD ⟨g.g.keep hD gD hD', g.j⟩ upd_same (mono _ _ _ _ (same_upd gD) iv)

/-- over a list -/
theorem ev_lcL {xs : List V} {a : Addr} {tl : TE} {tt : TT} {vs : List Nat} {j : Nat} (o : Ok w F H) (hw : Wip σ vs j) (hz : xs.length ≤ 100000) (hl : EvW w (fun v F' => v = .ref a ∧ SqL K F' a xs) tl σ F H)
    (Iv : Nat → List V → Hp → Prop) (mono : ∀ i ys F F', Same F F' → Iv i ys F → Iv i ys F') (h0 : ∀ F', Same F F' → Iv 0 [] F')
    (hs : ∀ i x ys G H', xs[i]? = some x → Gw w F H G H' → Iv i ys G → ∀ (Qy : VK) (Qn : Hp → Prop), (∀ y G' H'', Gw w G H' G' H'' → Iv (i + 1) (ys ++ [y]) G' → Qy y H'') → (∀ G' H'', Gw w G H' G' H'' → Iv (i + 1) ys G' → Qn H'') →
      tt ((wipe σ vs).set j (some x)) H' fun b H3 => if b = true then te ((wipe σ vs).set j (some x)) H3 Qy else Qn H3)
    (hr : ∀ ys G, Iv xs.length ys G → ∀ D, G D = some (.lst ys) → R (.ref D) G) : EvW w R (tLc (iList K tl) (gName j) tt te vs) σ F H := by
  intro F1 H1 a1 Q q
  refine hl F1 H1 a1 _ fun v F2 H2 b hv => ?_
  obtain ⟨rfl, hx⟩ := hv
  have o2 := b.ok (a1.ok o)
  have a2 := a1.trans o b
  refine ⟨a, rfl, ⟨xs, Evl.ex_l o2.s hx⟩, fun D hD => ?_⟩
  obtain ⟨Pv, p0, pg, pt, pe⟩ := lc_run (te := te) (Q := Q) (σ := σ) (tt := tt) (vs := vs) (j := j) (n := xs.length) o2 Iv mono (h0 F2 a2.g.ff) hz (fun i x => xs[i]? = some x)
    (fun i x ys G H' hx' _ g iv Qy Qn hy hn => hs i x ys G H' hx' (a2.trans o g) iv Qy Qn hy hn)
    (fun D ys G H' hD' g e iv => q _ G H' (b.trans (a1.ok o) g) (hr ys G iv D e)) D hD
  refine lc_list Pv p0 (fun i H' _ p => ?_) (fun i x H' hi p => ⟨hw x, pt i x H' (List.getElem?_eq_some_iff.mp hi).1 hi p⟩) pe
  obtain ⟨G, g⟩ := pg i H' p
  exact Evl.ex_l g.g.fh (Evl.ex_l g.g.ff hx)
/-- over range(n) -/
theorem ev_lcR {n : Nat} {ta : TA} {tt : TT} {vs : List Nat} {j : Nat} (o : Ok w F H) (hw : Wip σ vs j) (hz : n ≤ 100000) (hl : EvA w [Is (.int n)] ta σ F H)
    (Iv : Nat → List V → Hp → Prop) (mono : ∀ i ys F F', Same F F' → Iv i ys F → Iv i ys F') (h0 : ∀ F', Same F F' → Iv 0 [] F')
    (hs : ∀ i ys G H', i < n → Gw w F H G H' → Iv i ys G → ∀ (Qy : VK) (Qn : Hp → Prop), (∀ y G' H'', Gw w G H' G' H'' → Iv (i + 1) (ys ++ [y]) G' → Qy y H'') → (∀ G' H'', Gw w G H' G' H'' → Iv (i + 1) ys G' → Qn H'') →
      tt ((wipe σ vs).set j (some (.int i))) H' fun b H3 => if b = true then te ((wipe σ vs).set j (some (.int i))) H3 Qy else Qn H3)
    (hr : ∀ ys G, Iv n ys G → ∀ D, G D = some (.lst ys) → R (.ref D) G) : EvW w R (tLc (iRng1 ta) (gName j) tt te vs) σ F H := by
  intro F1 H1 a1 Q q
  refine hl F1 H1 a1 _ fun v F2 H2 b hv => ?_
  obtain rfl : v = [.int n] := by
    cases hv with
    | @cons _ _ u _ _ h r =>
      cases r
      obtain rfl : u = .int n := h
      rfl
  have o2 := b.ok (a1.ok o)
  have a2 := a1.trans o b
  refine ⟨n, rfl, by omega, by omega, fun D hD => ?_⟩
  obtain ⟨Pv, p0, pg, pt, pe⟩ := lc_run (te := te) (Q := Q) (σ := σ) (tt := tt) (vs := vs) (j := j) (n := n) o2 Iv mono (h0 F2 a2.g.ff) hz (fun i x => x = .int i)
    (fun i x ys G H' hx' hi g iv Qy Qn hy hn => by subst hx'; exact hs i ys G H' hi (a2.trans o g) iv Qy Qn hy hn)
    (fun D ys G H' hD' g e iv => q _ G H' (b.trans (a1.ok o) g) (hr ys G iv D e)) D hD
  rw [Int.toNat_natCast]
  refine lc_range (lo := 0) Pv p0 (fun i H' hi p => ?_) pe
  have e0 : (0 : Int) + (i : Int) = (i : Int) := Int.zero_add _
  show wipe ((wipe σ vs).set j (some (.int ((0 : Int) + (i : Int))))) vs = wipe σ vs ∧ _
  rw [e0]
  exact ⟨hw _, pt i _ H' hi rfl p⟩
/-- a comprehension without tests, an element that is pure in the world -/
theorem ev_mapL {xs : List V} {a : Addr} {tl : TE} {vs : List Nat} {j : Nat} (o : Ok w F H) (hw : Wip σ vs j) (hz : xs.length ≤ 100000) (hl : EvW w (fun v F' => v = .ref a ∧ SqL K F' a xs) tl σ F H) (Rs : List Pr) (m : ∀ R ∈ Rs, Mo R) (hlen : Rs.length = xs.length)
    (he : ∀ (i : Nat) (x : V) (S : Pr) (G H' : Hp), xs[i]? = some x → Rs[i]? = some S → Gw w F H G H' → EvW w S te ((wipe σ vs).set j (some x)) G H') : EvW w (Li Rs) (tLc (iList K tl) (gName j) tYes te vs) σ F H := by
  refine ev_lcL o hw hz hl (fun i ys G => Al (Rs.take i) ys G) (fun i ys F F' e h => h.mono e fun R hR => m R (List.mem_of_mem_take hR)) (fun F' _ => .nil) (fun i x ys G H' hx g iv Qy Qn hy hn => ?_) (fun ys G iv D e => ⟨D, ys, rfl, e, by rw [List.take_of_length_le (Nat.le_of_eq hlen)] at iv; exact iv⟩)
  have hi : i < Rs.length := by rw [hlen]; exact (List.getElem?_eq_some_iff.mp hx).1
  show (if true = true then te ((wipe σ vs).set j (some x)) H' Qy else Qn H')
  rw [if_pos rfl]
  refine he i x Rs[i] G H' hx (List.getElem?_eq_getElem hi) g G H' (g.ok o).refl Qy fun v G' H'' g' r => hy v G' H'' g' ?_
  rw [List.take_succ_eq_append_getElem hi]
  exact (iv.mono g'.g.ff fun R hR => m R (List.mem_of_mem_take hR)).append (.cons r .nil)
end

/-! ### built-ins by values -/
section
variable {K : PySem.W.Frag} {w : Wd}
theorem ca_all {bs : List Bool} : CaW w (rAll K) [Li (bs.map fun b => Is (.bl b))] (Is (.bl (bs.all id))) := by
  intro vs F H o al Q q
  cases al with
  | cons h r =>
    cases r
    obtain ⟨l, us, rfl, h1, h2⟩ := h
    have e : us = bs.map V.bl := h2.is
    subst e
    exact ⟨l, bs, rfl, .of (o.s _ _ h1), q _ F H o.refl rfl⟩
theorem ca_sum {ns : List Int} : CaW w (rSum K) [Li (ns.map fun b => Is (.int b))] (Is (.int ns.sum)) := by
  intro vs F H o al Q q
  cases al with
  | cons h r =>
    cases r
    obtain ⟨l, us, rfl, h1, h2⟩ := h
    have e : us = ns.map V.int := h2.is
    subst e
    exact ⟨l, ns, rfl, .of (o.s _ _ h1), q _ F H o.refl rfl⟩
end

/-! ### a pot: a list of two numbers that draws change -/
def PotAt (p : Addr) (H : Hp) : Prop := ∃ A B : Int, 0 ≤ A ∧ 0 ≤ B ∧ B ≤ 2147483587 ∧ H p = some (.lst [.int A, .int B])
def Wp (p : Addr) : Wd := ⟨[p], PotAt p, fun H H' ⟨A, B, h1, h2, h3, h4⟩ e => ⟨A, B, h1, h2, h3, e p _ List.mem_cons_self h4⟩, fun H ⟨A, B, _, _, _, h⟩ m hm => by
  obtain rfl : m = p := by simpa using hm
  rw [h]
  exact nofun⟩
end QW

set_option Elab.async false
set_option linter.all false
set_option maxRecDepth 100000
set_option maxHeartbeats 4000000
/-! QX: more readings by worlds: == of data, maps over lists of anything, lists that grow, exceptions as values. -/
namespace QW
open PySem PySem.Spec PyProof.Rows L2 QR

/-! ### data without dicts -/
mutual
theorem Dv.dp {K : PySem.W.Frag} {F : Hp} : ∀ {v : V} {d : PyData}, Dv K F v d → d.hasDict = false → L2.Dp K F v d
  | _, _, .non, _ => .non
  | _, _, .bl b, _ => .bl b
  | _, _, .int i, _ => .int i
  | _, _, .str x, _ => .str x
  | _, _, .lst h r, e => .lst h (DvAll.dp r (by simpa only [PyData.hasDict] using e))
  | _, _, .tup h r, e => .tup h (DvAll.dp r (by simpa only [PyData.hasDict] using e))
  | _, _, .dic _ _, e => by simp only [PyData.hasDict] at e; cases e
theorem DvAll.dp {K : PySem.W.Frag} {F : Hp} : ∀ {vs : List V} {ds : List PyData}, DvAll K F vs ds → PyData.hasDictAll ds = false → L2.DpAll K F vs ds
  | _, _, .nil, _ => .nil
  | _, _, .cons h r, e => by
    simp only [PyData.hasDictAll, Bool.or_eq_false_iff] at e
    exact .cons (Dv.dp h e.1) (DvAll.dp r e.2)
end
section
variable {K : PySem.W.Frag} {w : Wd} {σ : L2.St} {F H F1 H1 F2 H2 : Hp} {ta tb te tx : TE} {t u : TT} {v : V} {R S T : Pr} {Rs Ss : List Pr} {tas : TA} {D : Ends}
theorem ow_eqD {d e : PyData} (h1 : d.hasDict = false) (h2 : e.hasDict = false) (sd : SeqAt.shaped d = true) (se : SeqAt.shaped e = true) : OpW w (rEqD K) (Da K d) (Da K e) (Is (.bl (PyData.eqv d e))) :=
  fun x y F H o rx ry Q q => ⟨d, e, Dv.dp (Dv.mono o.s rx) h1, Dv.dp (Dv.mono o.s ry) h2, sd, se, q _ F H o.refl rfl⟩
theorem ow_neD {d e : PyData} (h1 : d.hasDict = false) (h2 : e.hasDict = false) (sd : SeqAt.shaped d = true) (se : SeqAt.shaped e = true) : OpW w (rNeD K) (Da K d) (Da K e) (Is (.bl (!PyData.eqv d e))) :=
  fun x y F H o rx ry Q q => ⟨d, e, Dv.dp (Dv.mono o.s rx) h1, Dv.dp (Dv.mono o.s ry) h2, sd, se, q _ F H o.refl rfl⟩
/-- texts -/
theorem ow_neS {a b : Str} : OpW w rNe (Is (.str a)) (Is (.str b)) (Is (.bl (!decide (V.str a = V.str b)))) := fun x y F H o rx ry Q q => by
  obtain rfl : x = .str a := rx
  obtain rfl : y = .str b := ry
  exact ⟨rfl, q _ F H o.refl rfl⟩
/-- a value that is data, by itself -/
theorem Is.da {d : PyData} {u : V} (h : ∀ F, Dv K F u d) {F : Hp} (hv : Is u v F) : Da K d v F := by
  obtain rfl : v = u := hv
  exact h F
theorem Al.da_of {α : Type} {f : α → Pr} {d : α → PyData} (h : ∀ x v F, f x v F → Da K (d x) v F) : ∀ {xs : List α} {vs : List V}, Al (xs.map f) vs F → DvAll K F vs (xs.map d)
  | [], _, al => by cases al; exact .nil
  | x :: xs, _, al => by
    cases al with
    | cons a r => exact .cons (h x _ _ a) (Al.da_of h r)
theorem Li.da_of {α : Type} {f : α → Pr} {d : α → PyData} (h : ∀ x v F, f x v F → Da K (d x) v F) {xs : List α} (hv : Li (xs.map f) v F) : Da K (.list (xs.map d)) v F := by
  obtain ⟨l, vs, rfl, h1, h2⟩ := hv
  exact .list h1 (Al.da_of h h2)
theorem Li.bools {bs : List Bool} (hv : Li (bs.map fun b => Is (.bl b)) v F) : Da K (.list (bs.map .bool)) v F := Li.da_of (d := .bool) (fun b v F e => by
  obtain rfl : v = .bl b := e
  exact .bl b) hv
theorem Li.intsD {ns : List Int} (hv : Li (ns.map fun b => Is (.int b)) v F) : Da K (.list (ns.map .int)) v F := Li.da_of (d := .int) (fun b v F e => by
  obtain rfl : v = .int b := e
  exact .int b) hv
/-- rows of data -/
theorem Li.rows {rows : List (List PyData)} (hv : Li (rows.map fun ds => Li (ds.map (Da K))) v F) : Da K (.list (rows.map .list)) v F := Li.da_of (d := .list) (fun ds v F e => Li.da e) hv

/-! ### maps over lists of anything -/
theorem ev_mapLi {tl : TE} {vs : List Nat} {j : Nat} (o : Ok w F H) (hw : Wip σ vs j) (hl : EvW w (Li Ss) tl σ F H) (m1 : ∀ R ∈ Ss, Mo R) (m : ∀ R ∈ Rs, Mo R) (hz : Ss.length ≤ 100000) (hlen : Rs.length = Ss.length)
    (he : ∀ (i : Nat) (x : V) (S T : Pr) (G H' : Hp), Ss[i]? = some S → Rs[i]? = some T → S x G → Gw w F H G H' → EvW w T te ((wipe σ vs).set j (some x)) G H') : EvW w (Li Rs) (tLc (iList K tl) (gName j) tYes te vs) σ F H := by
  intro F1 H1 a1 Q q
  refine hl F1 H1 a1 _ fun v F2 H2 b hv => ?_
  obtain ⟨a, xs, rfl, hx, al⟩ := hv
  have o2 := b.ok (a1.ok o)
  have a2 := a1.trans o b
  have hxl : xs.length = Ss.length := al.length
  refine ⟨a, rfl, ⟨xs, .of (o2.s _ _ hx)⟩, fun D hD => ?_⟩
  obtain ⟨Pv, p0, pg, pt, pe⟩ := lc_run (te := te) (tt := tYes) (Q := Q) (σ := σ) (vs := vs) (j := j) (n := xs.length) o2 (fun i ys G => Al (Rs.take i) ys G) (fun i ys F F' e h => h.mono e fun R hR => m R (List.mem_of_mem_take hR)) .nil
    (by omega) (fun i x => xs[i]? = some x) (fun i x ys G H' hx' hi g iv Qy Qn hy hn => by
      have hi' : i < Rs.length := by omega
      show (if true = true then te ((wipe σ vs).set j (some x)) H' Qy else Qn H')
      rw [if_pos rfl]
      obtain ⟨S, hS, hs⟩ := al.get hx'
      refine he i x S Rs[i] G H' hS (List.getElem?_eq_getElem hi') (m1 S (List.mem_of_getElem? hS) _ _ _ g.g.ff hs) (a2.trans o g) G H' (g.ok o2).refl Qy fun v G' H'' g' r => hy v G' H'' g' ?_
      rw [List.take_succ_eq_append_getElem hi']
      exact (iv.mono g'.g.ff fun R hR => m R (List.mem_of_mem_take hR)).append (.cons r .nil))
    (fun D ys G H' hD' g e iv => q _ G H' (b.trans (a1.ok o) g) ⟨D, ys, rfl, e, by rw [List.take_of_length_le (by omega)] at iv; exact iv⟩) D hD
  refine lc_list (K := K) (a := a) (xs := xs) (g := gName j) (tt := tYes) (te := te) (vs := vs) (σ := σ) Pv p0 (fun i H' _ p => ?_) (fun i x H' hi p => ⟨hw x, pt i x H' (List.getElem?_eq_some_iff.mp hi).1 hi p⟩) pe
  obtain ⟨G, g⟩ := pg i H' p
  exact .of (g.g.fh _ _ (g.g.ff _ _ hx))

/-! ### a list of one's own, not yet known -/
def EvO (w : Wd) (Rs : List Pr) (te : TE) (σ : L2.St) (F H : Hp) : Prop := ∀ F1 H1, Gw w F H F1 H1 → ∀ Q : VK, (∀ p vs F2 H2, Gw w F1 H1 F2 H2 → H1 p = none → F2 p = none → H2 p = some (.lst vs) → Al Rs vs F2 → Q (.ref p) H2) → te σ H1 Q
theorem eo_cat (o : Ok w F H) (m1 : ∀ R ∈ Rs, Mo R) (m2 : ∀ R ∈ Ss, Mo R) (hl : Rs.length + Ss.length ≤ 100000) (ha : EvW w (Li Rs) ta σ F H) (hb : EvW w (Li Ss) tb σ F H) : EvO w (Rs ++ Ss) (tOp rCat ta tb) σ F H := fun F1 H1 a Q q =>
  ha F1 H1 a _ fun x F2 H2 b rx => hb F2 H2 (a.trans o b) _ fun y F3 H3 c ry => by
    obtain ⟨l, vs, rfl, h1, a1⟩ := rx
    obtain ⟨k, us, rfl, h2, a2⟩ := ry
    have o1 := a.ok o
    have o3 := c.ok (b.ok o1)
    refine ⟨l, k, vs, us, rfl, rfl, o3.s _ _ (c.g.ff _ _ h1), o3.s _ _ h2, Evl.sz_of (by rw [a1.length, a2.length]; exact hl), fun p n => ?_⟩
    have n1 : H1 p = none := by
      cases e : H1 p with
      | none => rfl
      | some u =>
        have nm : p ∉ w.M := fun z => w.tr H3 o3.j p z n
        rw [c.g.hh _ _ nm (b.g.hh _ _ nm e)] at n
        cases n
    exact q p (vs ++ us) F3 _ ((b.trans o1 c).temp n) n1 (same_none o3.s n) upd_same ((a1.mono c.g.ff m1).append a2)
theorem eo_lst (o : Ok w F H) (h : EvA w Rs tas σ F H) (hl : Rs.length ≤ 100000) : EvO w Rs (tLst tas) σ F H := fun F1 H1 a Q q =>
  h F1 H1 a _ fun vs F2 H2 b rs => ⟨Evl.sz_of (by rw [rs.length]; exact hl), fun p n => by
    have o2 := b.ok (a.ok o)
    have n1 : H1 p = none := by
      cases e : H1 p with
      | none => rfl
      | some u =>
        rw [b.g.hh _ _ (fun z => w.tr H2 o2.j p z n) e] at n
        cases n
    exact q p vs F2 _ (b.temp n) n1 (same_none o2.s n) upd_same rs⟩
theorem s_asgO {i : Nat} (o : Ok w F H) (h : EvO w Rs te σ F H) (k : ∀ p vs F1 H1, Gw w F H F1 H1 → H p = none → F1 p = none → H1 p = some (.lst vs) → Al Rs vs F1 → D.nx (σ.set i (some (.ref p))) H1) : tAsg te (gName i) D σ H := h F H o.refl _ k
/-- p.append(e): p known from now on -/
theorem s_appK {p : Addr} {vs : List V} (o : Ok w F H) (n : F p = none) (hp : H p = some (.lst vs)) (nm : p ∉ w.M) (al : Al Rs vs F) (m : ∀ R ∈ Rs, Mo R) (mR : Mo R) (hz : vs.length < 100000) (ho : ∀ H1 (Q : VK), Q (.ref p) H1 → ta σ H1 Q) (h : EvW w R te σ F H)
    (k : ∀ F1 H1, Ok w F1 H1 → (∀ F0 H0, Ok w F0 H0 → Gw w F0 H0 F H → H0 p = none → Gw w F0 H0 F1 H1) → Li (Rs ++ [R]) (.ref p) F1 → D.nx σ H1) : tDrop (tBM K "list" rAppend ta (tCons te tNil)) D σ H := by
  refine ho H _ ⟨.inl ⟨rfl, vs, .of hp⟩, h F H o.refl _ fun v F1 H1 g rv => ?_⟩
  have e1 : H1 p = some (.lst vs) := g.g.hh _ _ nm hp
  have n1 : F1 p = none := g.g.nw p n (by rw [hp]; exact nofun)
  refine ⟨p, vs, v, rfl, rfl, e1, Evl.sz_lt hz, ?_⟩
  have o1 := g.ok o
  have J : w.J (upd H1 p (.lst (vs ++ [v]))) := w.st _ _ o1.j fun b u hb q => by
    have hne : b ≠ p := fun z => by subst z; exact nm hb
    rw [upd_ne hne]
    exact q
  refine k (upd F1 p (.lst (vs ++ [v]))) _ ⟨fun b u q => ?_, J, fun b hb => ?_⟩ (fun F0 H0 o0 G n0 => ?_) ⟨p, vs ++ [v], rfl, upd_same, ?_⟩
  · by_cases hb : b = p
    · subst hb
      rw [upd_same] at q ⊢
      exact q
    · rw [upd_ne hb] at q ⊢
      exact o1.s b u q
  · have hne : b ≠ p := fun z => by subst z; exact nm hb
    rw [upd_ne hne]
    exact o1.m b hb
  · exact ⟨((G.trans o0 g).g.mut (.inl n0) n1).keep n0 n1 upd_same, J⟩
  · exact ((al.mono g.g.ff m).mono (same_upd n1) m).append (.cons (mR _ _ _ (same_upd n1) rv) .nil)

/-! ### parallel stores -/
theorem s_par2 {i j : Nat} (o : Ok w F H) (h : EvA w [R, S] tas σ F H) (k : ∀ u v F1 H1, Gw w F H F1 H1 → R u F1 → S v F1 → D.nx ((σ.set i (some u)).set j (some v)) H1) : (tas σ H fun vs H1 => ∃ u v, vs = [u, v] ∧ D.nx ((σ.set i (some u)).set j (some v)) H1) := h F H o.refl _ fun vs F1 H1 g al => by
  cases al with
  | cons a r =>
    cases r with
    | cons b r =>
      cases r
      exact ⟨_, _, rfl, k _ _ F1 H1 g a b⟩
theorem s_par3 {i j l : Nat} (o : Ok w F H) (h : EvA w [R, S, T] tas σ F H) (k : ∀ u v z F1 H1, Gw w F H F1 H1 → R u F1 → S v F1 → T z F1 → D.nx (((σ.set i (some u)).set j (some v)).set l (some z)) H1) : (tas σ H fun vs H1 => ∃ u v z, vs = [u, v, z] ∧ D.nx (((σ.set i (some u)).set j (some v)).set l (some z)) H1) := h F H o.refl _ fun vs F1 H1 g al => by
  cases al with
  | cons a r =>
    cases r with
    | cons b r =>
      cases r with
      | cons c r =>
        cases r
        exact ⟨_, _, _, rfl, k _ _ _ F1 H1 g a b c⟩

/-! ### exceptions as values -/
/-- an exception of the class C with these fields -/
def Exv (C : Addr) (fs : List (Str × V)) : Pr := fun v F => ∃ a d, v = .ref a ∧ F a = some (exo a C (some d)) ∧ F d = some (exd d fs)
/-- an exception of the class C -/
def Exc (C : Addr) : Pr := fun v F => ∃ a, v = .ref a ∧ QE.IsEx F a C
theorem Exv.mo {C : Addr} {fs : List (Str × V)} : Mo (Exv C fs) := fun _ _ _ e ⟨a, d, h1, h2, h3⟩ => ⟨a, d, h1, e _ _ h2, e _ _ h3⟩
theorem isEx_mono {F F' : Hp} {a C : Addr} (e : Same F F') (h : QE.IsEx F a C) : QE.IsEx F' a C := by
  rcases h with ⟨d, h1, h2⟩ | h
  · exact .inl ⟨d, e _ _ h1, fun dd hd => let ⟨fs, h⟩ := h2 dd hd; ⟨fs, e _ _ h⟩⟩
  · exact .inr (e _ _ h)
theorem Exc.mo {C : Addr} : Mo (Exc C) := fun _ _ _ e ⟨a, h1, h2⟩ => ⟨a, h1, isEx_mono e h2⟩
theorem Exv.exc {C : Addr} {fs : List (Str × V)} (h : Exv C fs v F) : Exc C v F := by
  obtain ⟨a, d, rfl, h2, h3⟩ := h
  exact ⟨a, rfl, .inl ⟨some d, h2, fun dd hd => by cases hd; exact ⟨fs, h3⟩⟩⟩
/-- what an __init__ that keeps its arguments as fields promises -/
def spI (C : Addr) (names : List Str) : Sp := fun vs H Q _ => ∃ (a : Addr) (ws : List V), vs = .ref a :: ws ∧ ws.length = names.length ∧ H a = some (exo a C none) ∧
  ∀ d H', H d = none → d ≠ a → H' d = some (exd d (names.zip ws).reverse) → H' a = some (exo a C (some d)) → (∀ b o, b ≠ a → H b = some o → H' b = some o) → Q .non H'
theorem spI.len {C : Addr} {names : List Str} {n : Nat} (hn : names.length + 1 = n) : ∀ vs H Q E, spI C names vs H Q E → vs.length = n := fun vs H Q E ⟨a, ws, e, hl, _⟩ => by
  rw [e, List.length_cons, hl, hn]
theorem ev_mk {C : Addr} {names : List Str} {ws : List V} {E : XK} (o : Ok w F H) (h : EvA w (ws.map Is) tas σ F H) (hl : ws.length = names.length) (hz : ws.length ≤ 1000) : EvW w (Exv C (names.zip ws).reverse) (QE.tMkV C (spI C names) [] E tas) σ F H := fun F1 H1 a1 Q q =>
  h F1 H1 a1 _ fun vs F2 H2 b al => by
    have e : vs = ws := (Al.is (f := fun v => v) al).trans (List.map_id' ws)
    subst e
    refine ⟨hz, fun a na => ⟨a, vs, by rw [List.append_nil], hl, upd_same, fun d H' nd da hd ha hh => ⟨rfl, ?_⟩⟩⟩
    have nd2 : H2 d = none := by rw [upd_ne da] at nd; exact nd
    have o2 := b.ok (a1.ok o)
    have sH : Same H2 H' := fun c u e => hh c u (ne_of_none e na) (by rw [upd_ne (ne_of_none e na)]; exact e)
    refine q _ (upd (upd F2 d (exd d (names.zip vs).reverse)) a (exo a C (some d))) H' (b.trans (a1.ok o) ⟨⟨fun c u e => ?_, fun c u e => ?_, fun c u _ e => sH c u e, fun c e1 e2 => ?_⟩, w.same o2.j sH⟩) ⟨a, d, rfl, upd_same, ?_⟩
    · rw [upd_ne (ne_of_none e (same_none o2.s na)), upd_ne (ne_of_none e (same_none o2.s nd2))]
      exact e
    · by_cases hc : c = a
      · subst hc
        rw [upd_same] at e
        rw [ha]
        exact e
      · rw [upd_ne hc] at e
        by_cases hcd : c = d
        · subst hcd
          rw [upd_same] at e
          rw [hd]
          exact e
        · rw [upd_ne hcd] at e
          exact sH c u (o2.s c u e)
    · rw [upd_ne (fun z => e2 (by rw [z]; exact na)), upd_ne (fun z => e2 (by rw [z]; exact nd2))]
      exact e1
    · rw [upd_ne da, upd_same]
/-- e.f -/
theorem ev_ef {C : Addr} {fs : List (Str × V)} {f : Str} {y : V} (o : Ok w F H) (T : QE.ExX K C) (hno : PySem.W.findIn K (.ref C) f = some none) (h : EvW w (Exv C fs) te σ F H) (hf : fs.lookup f = some y) : EvW w (Is y) (QE.tEf K f te) σ F H := fun F1 H1 a1 Q q =>
  h F1 H1 a1 _ fun v F2 H2 b ⟨a, d, e, h1, h2⟩ => ⟨a, C, d, fs, y, e, T, hno, b.g.fh _ _ h1, b.g.fh _ _ h2, hf, q y F2 H2 b rfl⟩
/-- isinstance(e, T) -/
theorem ca_isX {C : Addr} {cv : Value} {cc : V} {b : Bool} (T : QE.ExX K C) (hc : ∀ u, RelV cc u → u = cv) (e : PySem.W.kitOne K (.ref C) cv = some b) : CaW w (QE.rIsX K) [Exc C, Is cc] (Is (.bl b)) := by
  intro vs F H o al Q q
  cases al with
  | cons h r =>
    cases r with
    | @cons _ _ y _ _ h2 r =>
      cases r
      obtain ⟨a, rfl, ia⟩ := h
      obtain rfl : y = cc := h2
      exact ⟨a, C, _, b, rfl, T, isEx_mono o.s ia, .inl ⟨cv, hc, e⟩, q _ F H o.refl rfl⟩
theorem ca_isXt {C : Addr} {cvs : List Value} {ts : List V} {b : Bool} (T : QE.ExX K C) (hc : ∀ us, Vals ts us → us = cvs) (e : PySem.W.kitAny K (.ref C) cvs = some b) : CaW w (QE.rIsX K) [Exc C, Tu (ts.map Is)] (Is (.bl b)) := by
  intro vs F H o al Q q
  cases al with
  | cons h r =>
    cases r with
    | @cons _ _ y _ _ h2 r =>
      cases r
      obtain ⟨a, rfl, ia⟩ := h
      obtain ⟨p, xs, rfl, h3, h4⟩ := h2
      have e1 : xs = ts := (Al.is (f := fun v => v) h4).trans (List.map_id' ts)
      subst e1
      exact ⟨a, C, _, b, rfl, T, isEx_mono o.s ia, .inr ⟨p, _, cvs, rfl, o.s _ _ h3, hc, e⟩, q _ F H o.refl rfl⟩
/-- C(), an own exception class without an own __init__ -/
theorem ev_mk0 {C : Addr} (o : Ok w F H) : EvW w (Exc C) (fun _ H Q => ∀ a, H a = none → Q (.ref a) (upd H a (ExO (.ref C) a))) σ F H := fun F1 H1 a1 Q q a na =>
  q _ (upd F1 a (ExO (.ref C) a)) _ ((a1.ok o).refl.new (a1.ok o) na) ⟨a, rfl, .inr upd_same⟩
end
section
variable {X : Cx} {x : Str} {p pos : Pos}
theorem pe_exc0 {C : Addr} {bmB : List Value} {B newId initId : String} (F : ExcBaseFacts B newId initId bmB) (q : PySem.W.excIn X.K C bmB newId = true) (gC : X.mg x = some (.ref C)) (kC : PySem.W.keepIn X.K (.ref C) = true) (hg : Gl X x) (hdb : (x == ("__debug__" : Str)) = false := by decide) :
    PE X (.Call (.Name x p) [] [] pos) (fun _ H Q => ∀ a, H a = none → Q (.ref a) (upd H a (ExO (.ref C) a))) := by
  refine ⟨fun pins s σ H Q I h => wpAny_Call_Name_kw (ld_glob I hg gC (PySem.W.callWith_K0 I.kIn kC ?_) hdb)⟩
  obtain ⟨bm, N, nm, qn, bs, hdct, sn, sub, ab, col, dd, k0, k1, k2, k3, k5, mN, hC, hN, hni, T⟩ := exc_obj I.kIn q
  refine wpAny_call_exc_subT F T hC hN hni (fun h' a hm => ?_) (Nat.zero_le _)
  have hn : H a = none := I.hok.gone hm.new
  obtain ⟨t, ht, _, _⟩ := hm.there
  exact ⟨.ref a, upd H a (ExO (.ref C) a), I.laidN hm.keeps hm.new hn (exO_ok ht ⟨rfl, rfl⟩ rfl rfl rfl (show 4 < 6 by decide)), rfl, h a hn⟩
end
end QW

set_option Elab.async false
set_option linter.all false
set_option maxRecDepth 100000
set_option maxHeartbeats 4000000
/-! QC: defs that may be called, in one bundle; the pot of draws. -/
namespace QC
open PySem PySem.Spec PyProof.Rows L2 QG

/-- a def that may be called by its name -/
structure Cal (P : Program) (w : World) (K : PySem.W.Frag) (mg : Str → Option Value) (base : Heap) (CX : CXT) (k : Nat) (x : Str) (sp : Sp) (dvs : List V) : Prop where
  ex : ∃ (f : Addr) (fd : FuncData) (ps : List Str) (ds : List Value), FnG P w K mg base CX k f fd ps sp ∧ mg x = some (.ref f) ∧ PySem.W.keepIn K (.ref f) = true ∧ Binds K fd ps ds ∧ Vals dvs ds
section
variable {P : Program} {w : World} {K : PySem.W.Frag} {mg : Str → Option Value} {base : Heap} {CX : CXT} {x qual : Str} {params : Arguments} {body : List Stmt} {scope : Scope} {f : Addr} {fd : FuncData} {N ps : List Str} {k : Nat} {sp : Sp}
theorem okG (F : FunD K x qual params body scope [] [] f fd) (S : FnScope N ps scope) (len : ∀ vs H Q E, sp vs H Q E → vs.length = ps.length)
    (hb : ∀ (cdv : Value) (A : Around) (outer : List Env) (s : Shared) (H : Hp) (vs : List V) (Q : VK) (E : XK), (A.deeper (envOfC qual scope s.heap.objs.size f cdv)).guards = some [] →
      Room k (A.deeper (envOfC qual scope s.heap.objs.size f cdv)) → sp vs H Q E →
      ∃ t, PSs (cxOf CX P w K mg base N qual scope f cdv A outer s H E) body t ∧ t { nx := fun _ H' => Q .non H', rt := Q } (start N vs) H) : FnG P w K mg base CX (k + 1) f fd ps sp := by
  obtain ⟨oc, od, dV, kV, doc, pm, an, cdv, ct, osl, rfl, lk, hcd, _, _⟩ := F.ex
  exact fn_ofG lk hcd S len fun A outer s H vs Q E gd rm q => hb cdv A outer s H vs Q E gd rm q
theorem cal (F : FunD K x x params body scope [] [] f fd) (hm : mg x = some (.ref f))
    (bd : ∀ (kV doc pm : Value) (an : Option Addr) (cdv ct : Value) (us : List Value), us.length = ps.length → bindArgs (PySem.W.fnOf x x params body scope .none kV doc pm an cdv ct) ⟨us, []⟩ = pure (ps.zip us))
    (S : FnScope N ps scope) (len : ∀ vs H Q E, sp vs H Q E → vs.length = ps.length)
    (hb : ∀ (cdv : Value) (A : Around) (outer : List Env) (s : Shared) (H : Hp) (vs : List V) (Q : VK) (E : XK), (A.deeper (envOfC x scope s.heap.objs.size f cdv)).guards = some [] →
      Room k (A.deeper (envOfC x scope s.heap.objs.size f cdv)) → sp vs H Q E →
      ∃ t, PSs (cxOf CX P w K mg base N x scope f cdv A outer s H E) body t ∧ t { nx := fun _ H' => Q .non H', rt := Q } (start N vs) H) : Cal P w K mg base CX (k + 1) x sp [] :=
  ⟨f, fd, ps, [], okG F S len hb, hm, F.kp, F.bindsN bd, .nil⟩
end
section
variable {X : Cx} {CX : CXT} {k j : Nat} {x : Str} {sp : Sp} {dvs : List V} {E : XK} {p pos : Pos} {e : Expr} {es : List Expr} {t : TA}
theorem pe_q (c : Cal X.prog X.w X.K X.mg X.base CX k x sp dvs) (gd : X.A.guards = some []) (hr : Room j X.A) (hk : k ≤ j) (hx : Passes CX X E) (hg : Gl X x) (ha : PA X (e :: es) t)
    (hdb : (x == ("__debug__" : Str)) = false := by decide) (he : starEach (e :: es) X.env = (false, eval e X.env) :: starEach es X.env := by rfl) (hpl : (backTo pos (starEach es X.env)).any (·.1) = false := by rfl) :
    PE X (.Call (.Name x p) (e :: es) [] pos) (tCall sp dvs E t) := by
  obtain ⟨f, fd, ps, ds, F, hm, kp, b, d⟩ := c.ex
  exact pe_callG F gd (hr.mono hk) hg hm kp b d hx ha hdb he hpl
end
end QC

namespace QW
open PySem PySem.Spec PyProof.Rows L2 QR

/-! ### plain values -/
section
variable {K : PySem.W.Frag} {w : Wd} {σ : L2.St} {F H F1 H1 F2 H2 : Hp} {ta tb te tx : TE} {t u : TT} {v : V} {R S T : Pr} {Rs Ss : List Pr} {tas : TA} {D : Ends}
theorem ow_int {g : Int → Int → V} {i j : Int} : OpW w (rI0 g) (Is (.int i)) (Is (.int j)) (Is (g i j)) := fun x y F H o rx ry Q q => by
  obtain rfl : x = .int i := rx
  obtain rfl : y = .int j := ry
  exact ⟨i, j, rfl, rfl, q _ F H o.refl rfl⟩
theorem ow_intC {C : Int → Int → Prop} {g : Int → Int → V} {i j : Int} (h : C i j) : OpW w (rI C g) (Is (.int i)) (Is (.int j)) (Is (g i j)) := fun x y F H o rx ry Q q => by
  obtain rfl : x = .int i := rx
  obtain rfl : y = .int j := ry
  exact ⟨i, j, rfl, rfl, h, q _ F H o.refl rfl⟩
theorem ow_eqS {a b : V} (h : scal a b = true) : OpW w rEq (Is a) (Is b) (Is (.bl (decide (a = b)))) := fun x y F H o rx ry Q q => by
  obtain rfl : x = a := rx
  obtain rfl : y = b := ry
  exact ⟨h, q _ F H o.refl rfl⟩
theorem ow_neS' {a b : V} (h : scal a b = true) : OpW w rNe (Is a) (Is b) (Is (.bl (!decide (a = b)))) := fun x y F H o rx ry Q q => by
  obtain rfl : x = a := rx
  obtain rfl : y = b := ry
  exact ⟨h, q _ F H o.refl rfl⟩
theorem ev_neg {i : Int} (h : EvW w (Is (.int i)) te σ F H) : EvW w (Is (.int (-i))) (tUn (rU fun i => .int (-i)) te) σ F H := fun F1 H1 a Q q => h F1 H1 a _ fun v F2 H2 b r => ⟨i, r, q _ F2 H2 b rfl⟩
/-- a place in a list -/
theorem ow_ix {i : Int} {T : Pr} (h : ∀ xs : List V, xs.length = Rs.length → ∃ j : Nat, atI xs i = xs[j]? ∧ Rs[j]? = some T) : OpW w (rIxL K) (Li Rs) (Is (.int i)) T := fun x y F H o rx ry Q q => by
  obtain ⟨l, xs, rfl, h1, al⟩ := rx
  obtain rfl : y = .int i := ry
  obtain ⟨j, e1, e2⟩ := h xs al.length
  have hj : j < xs.length := by rw [al.length]; exact (List.getElem?_eq_some_iff.mp e2).1
  obtain ⟨S, e3, s⟩ := al.get (List.getElem?_eq_getElem hj)
  rw [e2] at e3
  cases e3
  exact ⟨l, xs, i, xs[j], rfl, rfl, .of (o.s _ _ h1), e1.trans (List.getElem?_eq_getElem hj), q _ F H o.refl s⟩
/-- an empty dict -/
theorem ev_dnew (o : Ok w F H) : EvW w (Da K (.dict [])) tDNewK σ F H := fun F1 H1 a Q q p n => q (.ref p) (upd F1 p (.dK [])) _ ((a.ok o).refl.new (a.ok o) n) (.dic upd_same .nil)
/-- a value and what is known of it, one way or another -/
theorem EvW.ex {α : Type} {P : α → Pr} {x : α} (h : EvW w (P x) te σ F H) : EvW w (fun v F => ∃ x, P x v F) te σ F H := h.imp fun v F' _ r => ⟨x, r⟩
end

/-! ### the script -/
def Sc (K : PySem.W.Frag) (a : Addr) (xs : List V) : Pr := fun v F => v = .ref a ∧ SqL K F a xs
theorem Sc.mo {K : PySem.W.Frag} {a : Addr} {xs : List V} : Mo (Sc K a xs) := fun _ _ _ e h => ⟨h.1, e.seq h.2⟩
/-- the script's length -/
theorem ca_lenSc {K : PySem.W.Frag} {w : Wd} {a : Addr} {xs : List V} : CaW w (fun xs H Q => ∃ p ys, xs = [.ref p] ∧ (SqL K H p ys ∨ SqT K H p ys) ∧ Q (.int ys.length) H) [Sc K a xs] (Is (.int xs.length)) := by
  intro vs F H o al Q q
  cases al with
  | cons h r =>
    cases r
    obtain ⟨rfl, h⟩ := h
    exact ⟨a, xs, rfl, .inl (o.s.seq h), q _ F H o.refl rfl⟩
theorem ca_lenLi {K : PySem.W.Frag} {w : Wd} {Rs : List Pr} : CaW w (fun xs H Q => ∃ p ys, xs = [.ref p] ∧ (SqL K H p ys ∨ SqT K H p ys) ∧ Q (.int ys.length) H) [Li Rs] (Is (.int Rs.length)) := by
  intro vs F H o al Q q
  cases al with
  | cons h r =>
    cases r
    obtain ⟨l, ys, rfl, h1, h2⟩ := h
    refine ⟨l, ys, rfl, .inl (.of (o.s _ _ h1)), ?_⟩
    rw [h2.length]
    exact q _ F H o.refl rfl
theorem ca_max2 {w : Wd} {i j : Int} : CaW w (fun xs H Q => ∃ i j, xs = [.int i, .int j] ∧ Q (.int (if j > i then j else i)) H) [Is (.int i), Is (.int j)] (Is (.int (if j > i then j else i))) := by
  intro vs F H o al Q q
  obtain rfl := Al.is (f := fun v : V => v) (xs := [.int i, .int j]) al
  exact ⟨i, j, rfl, q _ F H o.refl rfl⟩
theorem ca_min2 {w : Wd} {i j : Int} : CaW w (fun xs H Q => ∃ i j, xs = [.int i, .int j] ∧ Q (.int (if j < i then j else i)) H) [Is (.int i), Is (.int j)] (Is (.int (if j < i then j else i))) := by
  intro vs F H o al Q q
  obtain rfl := Al.is (f := fun v : V => v) (xs := [.int i, .int j]) al
  exact ⟨i, j, rfl, q _ F H o.refl rfl⟩
/-- repr of data -/
theorem ca_repr {K : PySem.W.Frag} {w : Wd} {d : PyData} (hk : (∃ ds, d = .list ds) ∨ (∃ ds, d = .tuple ds) ∨ ∃ x, d = .str x) (S : Shows d) : CaW w (rRepr K) [Da K d] (Is (.str d.shown)) := by
  intro vs F H o al Q q
  cases al with
  | cons h r =>
    cases r
    exact ⟨_, d, rfl, Dv.mono o.s h, hk, S, q _ F H o.refl rfl⟩

/-! ### the pot -/
def spPot (K : PySem.W.Frag) : Sp := fun vs H Q _ => ∃ (a : Addr) (ns : List Int) (i : Int), vs = [.ref a, .int i] ∧ SqL K H a (ns.map V.int) ∧ 0 ≤ i ∧ i ≤ 1000 ∧ ∀ p H', H p = none → Same H H' → PotAt p H' → Q (.ref p) H'
theorem spPot.len {K : PySem.W.Frag} : ∀ vs H Q E, spPot K vs H Q E → vs.length = 2 := fun vs H Q E ⟨_, _, _, e, _⟩ => by rw [e]; rfl
theorem pot_at {p : Addr} {H : Hp} {x y : Int} (hx : 0 ≤ x) (hy : 0 ≤ y) (hy2 : y ≤ 2147483587) (h : H p = some (.lst [.int x, .int y])) : PotAt p H := ⟨x, y, hx, hy, hy2, h⟩
/-- the pot's world is left -/
theorem Gw.drop {F H H1 F2 H2 : Hp} {p : Addr} (n : H p = none) (s : Same H H1) (g : Gw (Wp p) F H1 F2 H2) : Gw W0 F H F2 H2 := ⟨⟨g.g.ff, g.g.fh, fun b u _ e => g.g.hh b u (fun z => by
  obtain rfl : b = p := by simpa [Wp] using z
  rw [n] at e
  cases e) (s _ _ e), fun b e1 e2 => g.g.nw b e1 fun z => e2 (s.free z)⟩, True.intro⟩
theorem Ok.pot {F H H1 : Hp} {p : Addr} (o : Ok W0 F H) (n : H p = none) (s : Same H H1) (h : PotAt p H1) : Ok (Wp p) F H1 := ⟨o.s.trans s, h, fun m hm => by
  obtain rfl : m = p := by simpa [Wp] using hm
  exact o.s.free n⟩
/-- f(pot(script, i)) -/
theorem ev_potted {K : PySem.W.Frag} {σ : L2.St} {F H : Hp} {a : Addr} {ns : List Int} {i : Int} {R : Pr} {E E' : XK} {tas : TA} (o : Ok W0 F H) (hi : 0 ≤ i) (hi2 : i ≤ 1000) (h : EvA W0 [Sc K a (ns.map V.int), Is (.int i)] tas σ F H) :
    EvW W0 R (tCall (spW (fun p => Wp p) (fun p => [Is (.ref p)]) fun _ => R) [] E (tCons (tCall (spPot K) [] E' tas) tNil)) σ F H := fun F1 H1 g Q q =>
  h F1 H1 g _ fun vs F2 H2 b al => by
    cases al with
    | cons h1 r =>
      cases r with
      | cons h2 r =>
        cases r
        obtain ⟨rfl, h1⟩ := h1
        obtain rfl : _ = V.int i := h2
        have o2 := b.ok (g.ok o)
        exact ⟨a, ns, i, rfl, o2.s.seq h1, hi, hi2, fun p H' n s hp => ⟨p, F2, o2.pot n s hp, .cons rfl .nil, fun v F3 H3 c r => q v F3 H3 (b.trans (g.ok o) (Gw.drop n s c)) r⟩⟩
structure DrA where
  p : Addr
  n : Int
  h : 0 < n
  h2 : n < 1073741824
def Dr (n : Int) : Pr := fun v _ => ∃ d : Int, v = .int d ∧ 0 ≤ d ∧ d < n
theorem Dr.mo {n : Int} : Mo (Dr n) := fun _ _ _ _ h => h
def spDraw : Sp := spW (fun a : DrA => Wp a.p) (fun a => [Is (.ref a.p), Is (.int a.n)]) fun a => Dr a.n
theorem spDraw.len : ∀ vs H Q E, spDraw vs H Q E → vs.length = 2 := spW.len fun _ => rfl
/-- what a draw needs, and leaves -/
theorem spDraw.raw {vs : List V} {H : Hp} {Q : VK} {E : XK} (h : spDraw vs H Q E) : ∃ (p : Addr) (n A B : Int), vs = [.ref p, .int n] ∧ 0 < n ∧ n < 1073741824 ∧ 0 ≤ A ∧ 0 ≤ B ∧ B ≤ 2147483587 ∧ H p = some (.lst [.int A, .int B]) ∧
    ∀ (d : Int) (H' : Hp), 0 ≤ d → d < n → (∀ b o, b ≠ p → H b = some o → H' b = some o) → PotAt p H' → Q (.int d) H' := by
  obtain ⟨⟨p, n, h1, h2⟩, F, o, al, q⟩ := h
  obtain rfl := Al.is (f := fun v : V => v) (xs := [.ref p, .int n]) al
  obtain ⟨A, B, a1, a2, a3, a4⟩ := o.j
  have k : F p = none := o.m p List.mem_cons_self
  refine ⟨p, n, A, B, rfl, h1, h2, a1, a2, a3, a4, fun d H' d1 d2 hh hp => q (.int d) F H' ⟨⟨Same.refl F, fun b u e => hh b u (ne_of_none e k) (o.s b u e), fun b u m e => hh b u (fun z => m (by rw [z]; exact List.mem_cons_self)) e, fun b e _ => e⟩, hp⟩ ⟨d, rfl, d1, d2⟩⟩
structure ChA where
  p : Addr
  Rs : List Pr
  m : ∀ R ∈ Rs, Mo R
  h : 0 < Rs.length
  h2 : Rs.length < 1000000
def Some_ (Rs : List Pr) : Pr := fun v F => ∃ R ∈ Rs, R v F
theorem Some_.mo {Rs : List Pr} (m : ∀ R ∈ Rs, Mo R) : Mo (Some_ Rs) := fun _ _ _ e ⟨R, h, r⟩ => ⟨R, h, m R h _ _ _ e r⟩
def spChoice : Sp := spW (fun a : ChA => Wp a.p) (fun a => [Is (.ref a.p), Li a.Rs]) fun a => Some_ a.Rs
theorem spChoice.len : ∀ vs H Q E, spChoice vs H Q E → vs.length = 2 := spW.len fun _ => rfl
/-- options[draw(pot, len(options))] -/
theorem ow_ixDr {K : PySem.W.Frag} {w : Wd} {Rs : List Pr} : OpW w (rIxL K) (Li Rs) (Dr Rs.length) (Some_ Rs) := fun x y F H o rx ry Q q => by
  obtain ⟨l, xs, rfl, h1, al⟩ := rx
  obtain ⟨d, rfl, d1, d2⟩ := ry
  have hl := al.length
  have hd : d.toNat < xs.length := by omega
  obtain ⟨R, e, r⟩ := al.get (List.getElem?_eq_getElem hd)
  refine ⟨l, xs, d, xs[d.toNat], rfl, rfl, .of (o.s _ _ h1), ?_, q _ F H o.refl ⟨R, List.mem_of_getElem? e, r⟩⟩
  unfold atI ixN
  rw [if_pos d1, if_pos (by omega)]
  exact List.getElem?_eq_getElem hd
end QW

set_option Elab.async false
set_option linter.all false
set_option maxRecDepth 100000
set_option maxHeartbeats 4000000
/-! QP: what the pot, the draw and the choice compute. -/
namespace QW
open PySem PySem.Spec PyProof.Rows L2 QR
section
variable {K : PySem.W.Frag} {vs : List V} {H : Hp} {Q : VK} {E : XK}
abbrev iLen (K : PySem.W.Frag) : List V → Hp → VK → Prop := fun xs H Q => ∃ p ys, xs = [.ref p] ∧ (SqL K H p ys ∨ SqT K H p ys) ∧ Q (.int ys.length) H
abbrev iAbs : List V → Hp → VK → Prop := fun xs H Q => ∃ i, xs = [.int i] ∧ Q (.int (if i < 0 then -i else i)) H
abbrev iMax : List V → Hp → VK → Prop := fun xs H Q => ∃ i j, xs = [.int i, .int j] ∧ Q (.int (if j > i then j else i)) H
abbrev iDm : List V → Hp → VK → Prop := fun xs H Q => ∃ i j, xs = [.int i, .int j] ∧ CDiv i j ∧ ∀ p, H p = none → Q (.ref p) (upd H p (.tup [.int (i / j), .int (i % j)]))
abbrev oAdd : R2 := rI0 fun i j => .int (i + j)
abbrev oSub : R2 := rI0 fun i j => .int (i - j)
abbrev oMul : R2 := rI CMul fun i j => .int (i * j)
abbrev oMod : R2 := rI (fun _ j => 0 < j) fun i j => .int (i % j)
abbrev oPow : R2 := rI CPow fun i j => .int (i ^ j.toNat)
abbrev oDiv : R2 := rI CDiv fun i j => .int (i / j)
abbrev oLt : R2 := rI0 fun i j => .bl (decide (i < j))
abbrev oGt : R2 := rI0 fun i j => .bl (decide (j < i))
def t_potEnd : TS := tRet (tLst (tCons (tCB iMax (tCons (tC (.int 0)) (tCons (tOp oSub (tVar 2) (tOp oPow (tC (.int 10)) (tC (.int 18)))) tNil)))
  (tCons (tOp oAdd (tOp oMod (tOp oPow (tOp oAdd (tOp oAdd (tOp oMod (tVar 2) (tC (.int 2147483629))) (tOp oMul (tC (.int 1013)) (tVar 1))) (tC (.int 7))) (tC (.int 3))) (tC (.int 2147483587))) (tC (.int 1))) tNil)))
def t_pot (K : PySem.W.Frag) : TS := tSeq (tAsg (tC (.int 0)) (gName 2)) (tSeq (tIfS (tTest (tOp oLt (tVar 1) (tCB (iLen K) (tCons (tVar 0) tNil)))) (tAsg (tCB iAbs (tCons (tOp (rIxL K) (tVar 0) (tVar 1)) tNil)) (gName 2)) tNext) t_potEnd)
theorem pot_end {a : Addr} {i c : Int} {D : Ends} (hi : 0 ≤ i) (hi2 : i ≤ 1000) (q : ∀ p H', H p = none → Same H H' → PotAt p H' → D.rt (.ref p) H') : t_potEnd D [some (.ref a), some (.int i), some (.int c)] H := by
  have hm0 : 0 ≤ c % 2147483629 := Int.emod_nonneg _ (by decide)
  have hm1 : c % 2147483629 < 2147483629 := Int.emod_lt_of_pos _ (by decide)
  have hp : CPow (c % 2147483629 + 1013 * i + 7) 3 := ⟨by decide, by decide, by omega⟩
  refine ⟨_, rfl, 10, 18, rfl, rfl, ⟨by decide, by decide, by decide⟩, c, _, rfl, rfl, 0, _, rfl, _, rfl, c, 2147483629, rfl, rfl, (by decide : (0 : Int) < 2147483629), _, rfl, 1013, i, rfl, rfl, .inl (by decide), _, _, rfl, rfl, _, 7, rfl, rfl, _, 3, rfl, rfl, hp, _, 2147483587, rfl, rfl, (by decide : (0 : Int) < 2147483587), _, 1, rfl, rfl, ?_⟩
  refine ⟨(by decide : 2 ≤ sizeLine), fun p n => q p _ n (same_upd n) ⟨_, _, ?_, ?_, ?_, upd_same⟩⟩
  · split <;> omega
  · have := Int.emod_nonneg ((c % 2147483629 + 1013 * i + 7) ^ (3 : Int).toNat) (show (2147483587 : Int) ≠ 0 by decide)
    omega
  · have := Int.emod_lt_of_pos ((c % 2147483629 + 1013 * i + 7) ^ (3 : Int).toNat) (show (0 : Int) < 2147483587 by decide)
    omega
theorem pure_pot (h : spPot K vs H Q E) : t_pot K { nx := fun _ H' => Q .non H', rt := Q } (L2.start ["script", "index", "cell"] vs) H := by
  obtain ⟨a, ns, i, rfl, hS, hi, hi2, q⟩ := h
  refine ⟨_, rfl, _, rfl, a, ns.map V.int, rfl, .inl hS, i, _, rfl, rfl, _, rfl, ?_⟩
  by_cases hc : i < ((ns.map V.int).length : Int)
  · refine (if_pos (decide_eq_true hc)).mpr ?_
    have hl : i.toNat < (ns.map V.int).length := by omega
    have hl2 : i.toNat < ns.length := by rw [List.length_map] at hl; exact hl
    have e : atI (ns.map V.int) i = some (V.int ns[i.toNat]) := by
      unfold atI ixN
      rw [if_pos hi, if_pos hc]
      show (ns.map V.int)[i.toNat]? = _
      rw [List.getElem?_map, List.getElem?_eq_getElem hl2]
      rfl
    exact ⟨_, rfl, _, rfl, a, _, i, _, rfl, rfl, hS, e, _, rfl, pot_end (D := { nx := fun _ H' => Q .non H', rt := Q }) hi hi2 q⟩
  · refine (if_neg (by rw [decide_eq_false hc]; decide)).mpr ?_
    exact pot_end (D := { nx := fun _ H' => Q .non H', rt := Q }) hi hi2 q
def t_draw (K : PySem.W.Frag) : TS := tSeq (tIfS (tTest (tOp oGt (tOp (rIxL K) (tVar 0) (tC (.int 0))) (tC (.int 0))))
    (tSeq (tAsg (tCB iDm (tCons (tOp (rIxL K) (tVar 0) (tC (.int 0))) (tCons (tVar 1) tNil))) (gTup K 2 (gCons (gSub (tVar 0) (tC (.int 0)) rSetL) (gCons (gName 2) gNil)))) (tRet (tVar 2))) tNext)
  (tSeq (tAsg (tOp oMod (tOp oAdd (tOp oMul (tOp (rIxL K) (tVar 0) (tC (.int 1))) (tC (.int 48271))) (tC (.int 10037))) (tC (.int 2147483587))) (gSub (tVar 0) (tC (.int 1)) rSetL))
    (tRet (tOp oMod (tOp oDiv (tOp oMod (tOp oMul (tOp (rIxL K) (tVar 0) (tC (.int 1))) (tOp (rIxL K) (tVar 0) (tC (.int 1)))) (tC (.int 2147483563))) (tC (.int 7))) (tVar 1))))
theorem pure_draw (h : spDraw vs H Q E) : t_draw K { nx := fun _ H' => Q .non H', rt := Q } (L2.start ["pot", "bound", "digit"] vs) H := by
  obtain ⟨p, n, A, B, rfl, hn, hn2, hA, hB, hB2, hp, q⟩ := h.raw
  have i0 : ∀ x y : Int, atI [V.int x, V.int y] 0 = some (.int x) := fun _ _ => rfl
  have i1 : ∀ x y : Int, atI [V.int x, V.int y] 1 = some (.int y) := fun _ _ => rfl
  have hC : CDiv A n := ⟨hn, hn2⟩
  refine ⟨_, rfl, p, _, 0, _, rfl, rfl, .of hp, i0 A B, A, 0, rfl, rfl, _, rfl, ?_⟩
  by_cases hc : 0 < A
  · refine (if_pos (decide_eq_true hc)).mpr ?_
    refine ⟨_, rfl, p, _, 0, _, rfl, rfl, .of hp, i0 A B, _, rfl, A, n, rfl, hC, fun t ht => ?_⟩
    have ne : t ≠ p := fun z => by rw [z, hp] at ht; cases ht
    have e1 : upd H t (.tup [.int (A / n), .int (A % n)]) p = some (.lst [.int A, .int B]) := by rw [upd_ne (Ne.symm ne)]; exact hp
    refine ⟨t, _, rfl, .inl (.inl upd_same), rfl, _, _, rfl, _, rfl, p, _, 0, 0, rfl, rfl, e1, rfl, _, _, rfl, rfl, _, rfl, ?_⟩
    refine q _ _ (Int.emod_nonneg _ (by omega)) (Int.emod_lt_of_pos _ hn) (fun b o hb e => by rw [upd_ne hb, upd_ne (ne_of_none e ht)]; exact e) ⟨A / n, B, Int.ediv_nonneg hA (by omega), hB, hB2, upd_same⟩
  · refine (if_neg (by rw [decide_eq_false hc]; decide)).mpr ?_
    have b0 : 0 ≤ (B * 48271 + 10037) % 2147483587 := Int.emod_nonneg _ (by decide)
    have b1 : (B * 48271 + 10037) % 2147483587 < 2147483587 := Int.emod_lt_of_pos _ (by decide)
    refine ⟨_, rfl, p, _, 1, _, rfl, rfl, .of hp, i1 A B, B, 48271, rfl, rfl, .inr (by decide), _, 10037, rfl, rfl, _, 2147483587, rfl, rfl, (by decide : (0 : Int) < 2147483587), ?_⟩
    refine ⟨_, rfl, p, _, 1, 1, rfl, rfl, hp, rfl, ?_⟩
    have e2 : upd H p (.lst ([V.int A, V.int B].set 1 (.int ((B * 48271 + 10037) % 2147483587)))) p = some (.lst [.int A, .int ((B * 48271 + 10037) % 2147483587)]) := upd_same
    refine ⟨_, rfl, p, _, 1, _, rfl, rfl, .of e2, i1 _ _, _, rfl, p, _, 1, _, rfl, rfl, .of e2, i1 _ _, _, _, rfl, rfl, .inl (by omega), _, 2147483563, rfl, rfl, (by decide : (0 : Int) < 2147483563), _, 7, rfl, rfl, ⟨by decide, by decide⟩, _, rfl, _, n, rfl, rfl, hn, ?_⟩
    exact q _ _ (Int.emod_nonneg _ (by omega)) (Int.emod_lt_of_pos _ hn) (fun b o hb e => by rw [upd_ne hb]; exact e) ⟨A, _, hA, b0, by omega, e2⟩
def t_choice (K : PySem.W.Frag) : TS := tRet (tOp (rIxL K) (tVar 1) (tCall spDraw [] E0 (tCons (tVar 0) (tCons (tCB (iLen K) (tCons (tVar 1) tNil)) tNil))))
theorem pure_choice (h : spChoice vs H Q E) : t_choice K { nx := fun _ H' => Q .non H', rt := Q } (L2.start ["pot", "options"] vs) H := by
  obtain ⟨⟨p, Rs, m, h1, h2⟩, F, o, al, q⟩ := h
  cases al with
  | cons a1 r =>
    cases r with
    | cons a2 r =>
      cases r
      obtain rfl : _ = V.ref p := a1
      rename_i u
      show t_choice K { nx := fun _ H' => Q .non H', rt := Q } [some (.ref p), some u] H
      refine s_ret (R := Some_ Rs) o (ev_op o (Li.mo m) (ev_var o (Li.mo m) rfl a2) (ev_call (wf := fun a : DrA => Wp a.p) (A := fun a => [Is (.ref a.p), Is (.int a.n)]) (Rf := fun a => Dr a.n) ⟨p, Rs.length, by omega, by omega⟩ o (ea_cons o (Is.mo _) (ev_var o (Is.mo _) rfl rfl) (ea_cons o (Is.mo _) (ev_cb o (ea_cons o (Li.mo m) (ev_var o (Li.mo m) rfl a2) (ea_nil o)) ca_lenLi) (ea_nil o)))) ow_ixDr) fun v F1 H1 g r => q v F1 H1 g r
end
end QW

set_option Elab.async false
set_option linter.all false
set_option maxRecDepth 100000
set_option maxHeartbeats 4000000
/-! QI: an exception's __init__ that keeps its arguments as fields; lists of exceptions. -/
namespace QW
open PySem PySem.Spec PyProof.Rows L2 QR QE
section
variable {K : PySem.W.Frag} {C : Addr} {B newId initId : String} {tl : List Value} {vs : List V} {H : Hp} {Q : VK} {E : XK} {f1 f2 f3 f4 m : Str} {N : List Str}
theorem init_pre {names : List Str} (h : spI C names vs H Q E) : ∃ (a : Addr) (ws : List V), vs = .ref a :: ws ∧ ws.length = names.length ∧ H a = some (exo a C none) ∧
    ∀ (d : Addr) (Hd : HO), H d = none → d ≠ a → Hd = exd d (names.zip ws).reverse → Q .non (upd (upd H d Hd) a (exo a C (some d))) := by
  obtain ⟨a, ws, e, hl, ha, q⟩ := h
  refine ⟨a, ws, e, hl, ha, fun d Hd n ne e2 => q d _ n ne ?_ upd_same fun b o hb hh => ?_⟩
  · rw [upd_ne ne, upd_same, e2]
  · rw [upd_ne hb, upd_ne (ne_of_none hh n)]
    exact hh
/-- the last heap, told by what it has -/
theorem init_end {names : List Str} {a : Addr} {ws : List V} (ha : H a = some (exo a C none)) (q : ∀ d H', H d = none → d ≠ a → H' d = some (exd d (names.zip ws).reverse) → H' a = some (exo a C (some d)) → (∀ b o, b ≠ a → H b = some o → H' b = some o) → Q .non H')
    {d : Addr} {u0 : HO} (n : H d = none) (ne : d ≠ a) {u : HO} (e : u = exd d (names.zip ws).reverse) : Q .non (upd (upd (upd H d u0) a (exo a C (some d))) d u) := by
  refine q d _ n ne (by rw [upd_same, e]) ?_ fun b o hb hh => ?_
  · rw [upd_ne (Ne.symm ne), upd_same]
  · rw [upd_ne (ne_of_none hh n), upd_ne hb, upd_ne (ne_of_none hh n)]
    exact hh
theorem init_end2 {names : List Str} {a : Addr} {ws : List V} (ha : H a = some (exo a C none)) (q : ∀ d H', H d = none → d ≠ a → H' d = some (exd d (names.zip ws).reverse) → H' a = some (exo a C (some d)) → (∀ b o, b ≠ a → H b = some o → H' b = some o) → Q .non H')
    {d : Addr} {u0 u1 u2 : HO} (n : H d = none) (ne : d ≠ a) {u : HO} (e : u = exd d (names.zip ws).reverse) : Q .non (upd (upd (upd (upd (upd H d u0) a (exo a C (some d))) d u1) d u2) d u) := by
  refine q d _ n ne (by rw [upd_same, e]) ?_ fun b o hb hh => ?_
  · rw [upd_ne (Ne.symm ne), upd_ne (Ne.symm ne), upd_ne (Ne.symm ne), upd_same]
  · rw [upd_ne (ne_of_none hh n), upd_ne (ne_of_none hh n), upd_ne (ne_of_none hh n), upd_ne hb, upd_ne (ne_of_none hh n)]
    exact hh
theorem pure_init1 (T : ExB K C B newId initId tl) (n1 : PySem.W.findIn K (.ref C) f1 = some none) (h : spI C [f1] vs H Q E) (hN : N.length = 2) :
    tSeq (tDrop (tBi K initId (tCons (tVar 0) (tCons (tC (.str m)) tNil)))) (tSt K f1 (tVar 0) (tVar 1)) { nx := fun _ H' => Q .non H', rt := Q } (L2.start N vs) H := by
  obtain ⟨a, ws, rfl, hl, ha, q⟩ := init_pre h
  obtain ⟨w1, rfl⟩ : ∃ w1, ws = [w1] := by
    match ws, hl with
    | [w1], _ => exact ⟨w1, rfl⟩
  have e : L2.start N [.ref a, w1] = [some (.ref a), some w1] := by unfold L2.start; rw [hN]; rfl
  rw [e]
  exact ⟨.ref a, rfl, a, C, B, newId, tl, [.str m], rfl, by simp, T, ha, w1, rfl, .ref a, rfl, a, C, rfl, ⟨_, _, _, _, T⟩, n1, .inl ⟨ha, fun d n ne => q d _ n ne rfl⟩⟩
theorem pure_init2 (T : ExB K C B newId initId tl) (n1 : PySem.W.findIn K (.ref C) f1 = some none) (n2 : PySem.W.findIn K (.ref C) f2 = some none) (h : spI C [f1, f2] vs H Q E) (hN : N.length = 3) :
    tSeq (tDrop (tBi K initId (tCons (tVar 0) (tCons (tC (.str m)) tNil)))) (tSeq (tSt K f1 (tVar 0) (tVar 1)) (tSt K f2 (tVar 0) (tVar 2))) { nx := fun _ H' => Q .non H', rt := Q } (L2.start N vs) H := by
  obtain ⟨a, ws, rfl, hl, ha, q⟩ := h
  obtain ⟨w1, w2, rfl⟩ : ∃ w1 w2, ws = [w1, w2] := by
    match ws, hl with
    | [w1, w2], _ => exact ⟨w1, w2, rfl⟩
  have e : L2.start N [.ref a, w1, w2] = [some (.ref a), some w1, some w2] := by unfold L2.start; rw [hN]; rfl
  rw [e]
  refine ⟨.ref a, rfl, a, C, B, newId, tl, [.str m], rfl, by simp, T, ha, w1, rfl, .ref a, rfl, a, C, rfl, ⟨_, _, _, _, T⟩, n1, .inl ⟨ha, fun d n ne => ?_⟩⟩
  exact ⟨w2, rfl, .ref a, rfl, a, C, rfl, ⟨_, _, _, _, T⟩, n2, .inr ⟨d, [(f1, w1)], upd_same, by rw [upd_ne ne, upd_same], by simp, init_end (names := [f1, f2]) (ws := [w1, w2]) ha q n ne rfl⟩⟩
theorem pure_init4 (T : ExB K C B newId initId tl) (n1 : PySem.W.findIn K (.ref C) f1 = some none) (n2 : PySem.W.findIn K (.ref C) f2 = some none) (n3 : PySem.W.findIn K (.ref C) f3 = some none) (n4 : PySem.W.findIn K (.ref C) f4 = some none) (h : spI C [f1, f2, f3, f4] vs H Q E) (hN : N.length = 5) :
    tSeq (tDrop (tBi K initId (tCons (tVar 0) (tCons (tC (.str m)) tNil)))) (tSeq (tSt K f1 (tVar 0) (tVar 1)) (tSeq (tSt K f2 (tVar 0) (tVar 2)) (tSeq (tSt K f3 (tVar 0) (tVar 3)) (tSt K f4 (tVar 0) (tVar 4))))) { nx := fun _ H' => Q .non H', rt := Q } (L2.start N vs) H := by
  obtain ⟨a, ws, rfl, hl, ha, q⟩ := h
  obtain ⟨w1, w2, w3, w4, rfl⟩ : ∃ w1 w2 w3 w4, ws = [w1, w2, w3, w4] := by
    match ws, hl with
    | [w1, w2, w3, w4], _ => exact ⟨w1, w2, w3, w4, rfl⟩
  have e : L2.start N [.ref a, w1, w2, w3, w4] = [some (.ref a), some w1, some w2, some w3, some w4] := by unfold L2.start; rw [hN]; rfl
  rw [e]
  refine ⟨.ref a, rfl, a, C, B, newId, tl, [.str m], rfl, by simp, T, ha, w1, rfl, .ref a, rfl, a, C, rfl, ⟨_, _, _, _, T⟩, n1, .inl ⟨ha, fun d n ne => ?_⟩⟩
  have en : a ≠ d := Ne.symm ne
  refine ⟨w2, rfl, .ref a, rfl, a, C, rfl, ⟨_, _, _, _, T⟩, n2, .inr ⟨d, [(f1, w1)], upd_same, by rw [upd_ne ne, upd_same], by simp, ?_⟩⟩
  refine ⟨w3, rfl, .ref a, rfl, a, C, rfl, ⟨_, _, _, _, T⟩, n3, .inr ⟨d, [(f2, w2), (f1, w1)], by rw [upd_ne en, upd_same], by rw [upd_same], by simp, ?_⟩⟩
  exact ⟨w4, rfl, .ref a, rfl, a, C, rfl, ⟨_, _, _, _, T⟩, n4, .inr ⟨d, [(f3, w3), (f2, w2), (f1, w1)], by rw [upd_ne en, upd_ne en, upd_same], by rw [upd_same], by simp, init_end2 (names := [f1, f2, f3, f4]) (ws := [w1, w2, w3, w4]) ha q n ne rfl⟩⟩
end
section
variable {K : PySem.W.Frag} {v : V} {F : Hp}
theorem Al.imp {α : Type} {f g : α → Pr} : ∀ {xs : List α} {vs : List V}, (∀ x ∈ xs, ∀ v, f x v F → g x v F) → Al (xs.map f) vs F → Al (xs.map g) vs F
  | [], _, _, h => by cases h; exact .nil
  | x :: xs, _, i, h => by
    cases h with
    | cons a r => exact .cons (i x List.mem_cons_self _ a) (Al.imp (fun y hy => i y (List.mem_cons_of_mem _ hy)) r)
theorem Li.imp {α : Type} {f g : α → Pr} {xs : List α} (i : ∀ x ∈ xs, ∀ v, f x v F → g x v F) (h : Li (xs.map f) v F) : Li (xs.map g) v F := by
  obtain ⟨l, vs, e, h1, h2⟩ := h
  exact ⟨l, vs, e, h1, Al.imp i h2⟩
/-- values that are data, by themselves -/
theorem Al.isda {vs : List V} {ds : List PyData} (h : DvAll K F vs ds) : ∀ {us : List V}, Al (vs.map Is) us F → DvAll K F us ds := fun {us} a => by
  obtain rfl : us = vs := (Al.is (f := fun v => v) a).trans (List.map_id' vs)
  exact h
end
end QW

set_option Elab.async false
set_option linter.all false
set_option maxRecDepth 100000
set_option maxHeartbeats 4000000
/-! QV: joints: statements one behind another, calls in lists, classes of exceptions that may be made. -/
namespace QE
open PySem PySem.Spec PyProof.Rows L2
theorem ExB.x {K : PySem.W.Frag} {C : Addr} {B newId initId : String} {tl : List Value} (h : ExB K C B newId initId tl) : ExX K C := ⟨B, newId, initId, tl, h⟩
theorem ty_VE : typeOf (.type "ValueError") = pure (.type "type") := by kernel_rfl
theorem ty_LE : typeOf (.type "LookupError") = pure (.type "type") := by kernel_rfl
theorem ty_RE : typeOf (.type "RuntimeError") = pure (.type "type") := by kernel_rfl
theorem ty_AE : typeOf (.type "ArithmeticError") = pure (.type "type") := by kernel_rfl
/-- an exception class with an own __init__ that keeps its arguments -/
structure MkE (P : Program) (w : World) (K : PySem.W.Frag) (mg : Str → Option Value) (base : Heap) (x : Str) (C : Addr) (names : List Str) : Prop where
  ex : ∃ (fI : Addr) (fd : FuncData) (ps : List Str), ExX K C ∧ PySem.W.findIn K (.ref C) "__init__" = some (some (.ref fI)) ∧ PySem.W.typeIn K (.ref fI) = some (.type "function") ∧
    FnOk P w K mg base L2.CX0 1 fI fd ps (QW.spI C names) ∧ Binds K fd ps [] ∧ mg x = some (.ref C)
theorem pe_mkE {X : Cx} {x : Str} {C : Addr} {names : List Str} {j : Nat} {e : Expr} {es : List Expr} {t : TA} {p pos : Pos} (m : MkE X.prog X.w X.K X.mg X.base x C names) (hr : Room j X.A) (hj : 2 ≤ j) (hg : Gl X x) (ha : PA X (e :: es) t)
    (hdb : (x == ("__debug__" : Str)) = false := by decide) (he : starEach (e :: es) X.env = (false, eval e X.env) :: starEach es X.env := by rfl) (hpl : (backTo pos (starEach es X.env)).any (·.1) = false := by rfl) :
    PE X (.Call (.Name x p) (e :: es) [] pos) (tMkV C (QW.spI C names) [] L2.E0 t) := by
  obtain ⟨fI, fd, ps, hx, i1, i2, F, b, g⟩ := m.ex
  exact pe_mkV hx i1 i2 F (hr.mono hj) b .nil L2.pass0 hg g ha hdb he hpl
end QE
namespace QW
open PySem PySem.Spec PyProof.Rows L2 QR
theorem mos_nil : ∀ R ∈ ([] : List Pr), Mo R := fun _ h => nomatch h
theorem mos_cons {R : Pr} {Rs : List Pr} (h : Mo R) (r : ∀ R ∈ Rs, Mo R) : ∀ S ∈ R :: Rs, Mo S := fun S hS => (List.mem_cons.mp hS).elim (fun e => e ▸ h) (r S)
theorem mos_map {α : Type} {f : α → Pr} (h : ∀ x, Mo (f x)) (xs : List α) : ∀ R ∈ xs.map f, Mo R := fun R hR => by
  obtain ⟨x, _, rfl⟩ := List.mem_map.mp hR
  exact h x
section
variable {K : PySem.W.Frag} {w : Wd} {σ : L2.St} {F H F1 H1 F2 H2 : Hp} {ta tb te tx : TE} {t : TT} {v : V} {R S T : Pr} {Rs Ss : List Pr} {tas : TA} {D : Ends} {u a : TS}
theorem q_asg {i : Nat} (o : Ok w F H) (h : EvW w R te σ F H) (k : ∀ v F1 H1, Gw w F H F1 H1 → R v F1 → u D (σ.set i (some v)) H1) : tSeq (tAsg te (gName i)) u D σ H := s_asg (D := { D with nx := u D }) o h k
theorem q_par2 {i j : Nat} (o : Ok w F H) (h : EvA w [R, S] tas σ F H) (k : ∀ u1 v F1 H1, Gw w F H F1 H1 → R u1 F1 → S v F1 → u D ((σ.set i (some u1)).set j (some v)) H1) : tSeq (tPar i j tas) u D σ H := s_par2 (D := { D with nx := u D }) o h k
theorem q_par3 {i j l : Nat} (o : Ok w F H) (h : EvA w [R, S, T] tas σ F H) (k : ∀ u1 v z F1 H1, Gw w F H F1 H1 → R u1 F1 → S v F1 → T z F1 → u D (((σ.set i (some u1)).set j (some v)).set l (some z)) H1) : tSeq (tPar3 i j l tas) u D σ H := s_par3 (D := { D with nx := u D }) o h k
/-- a test that fails: on -/
theorem q_no (o : Ok w F H) (h : EvT w false t σ F H) (k : ∀ F1 H1, Gw w F H F1 H1 → u D σ H1) : tSeq (tIfS t a tNext) u D σ H := s_no (D := { D with nx := u D }) o h k
theorem q_ret (o : Ok w F H) (h : EvW w R te σ F H) (k : ∀ v F1 H1, Gw w F H F1 H1 → R v F1 → D.rt v H1) : tRet te D σ H := s_ret o h k
theorem q_appK {p : Addr} {vs : List V} (o : Ok w F H) (n : F p = none) (hp : H p = some (.lst vs)) (nm : p ∉ w.M) (al : Al Rs vs F) (m : ∀ R ∈ Rs, Mo R) (mR : Mo R) (hz : vs.length < 100000) (ho : ∀ H1 (Q : VK), Q (.ref p) H1 → ta σ H1 Q) (h : EvW w R te σ F H)
    (k : ∀ F1 H1, Ok w F1 H1 → (∀ F0 H0, Ok w F0 H0 → Gw w F0 H0 F H → H0 p = none → Gw w F0 H0 F1 H1) → Li (Rs ++ [R]) (.ref p) F1 → u D σ H1) : tSeq (tDrop (tBM K "list" rAppend ta (tCons te tNil))) u D σ H := s_appK (D := { D with nx := u D }) o n hp nm al m mR hz ho h k
theorem q_asgO {i : Nat} (o : Ok w F H) (h : EvO w Rs te σ F H) (k : ∀ p vs F1 H1, Gw w F H F1 H1 → H p = none → F1 p = none → H1 p = some (.lst vs) → Al Rs vs F1 → u D (σ.set i (some (.ref p))) H1) : tSeq (tAsg te (gName i)) u D σ H := s_asgO (D := { D with nx := u D }) o h k
theorem fa_nil {α : Type} {p : α → Prop} : ∀ x ∈ ([] : List α), p x := fun _ h => nomatch h
theorem fa_cons {α : Type} {p : α → Prop} {a : α} {l : List α} (h : p a) (r : ∀ x ∈ l, p x) : ∀ x ∈ a :: l, p x := fun x hx => (List.mem_cons.mp hx).elim (fun e => e ▸ h) (r x)
/-- int(b) -/
theorem ca_intB {w : Wd} {b : Bool} : CaW w (fun xs H Q => (∃ i, xs = [.int i] ∧ Q (.int i) H) ∨ ∃ k, xs = [.bl k] ∧ Q (.int (if k then 1 else 0)) H) [Is (.bl b)] (Is (.int (if b then 1 else 0))) := by
  intro vs F H o al Q q
  obtain rfl := Al.is (f := fun v : V => v) (xs := [.bl b]) al
  exact .inr ⟨b, rfl, q _ F H o.refl rfl⟩
/-- a list display by the properties of its elements -/
theorem ev_mapC {α : Type} {Cs : List α} {f g : α → Pr} {tl : TE} {vs : List Nat} {j : Nat} (o : Ok w F H) (hw : Wip σ vs j) (hl : EvW w (Li (Cs.map f)) tl σ F H) (m1 : ∀ C, Mo (f C)) (mT : ∀ C, Mo (g C)) (hz : Cs.length ≤ 100000)
    (he : ∀ C x G H', C ∈ Cs → f C x G → Gw w F H G H' → EvW w (g C) te ((wipe σ vs).set j (some x)) G H') : EvW w (Li (Cs.map g)) (tLc (iList K tl) (gName j) tYes te vs) σ F H :=
  ev_mapLi o hw hl (mos_map m1 _) (mos_map mT _) (by rw [List.length_map]; exact hz) (by rw [List.length_map, List.length_map]) fun i x S T G H' e1 e2 s g => by
    rw [List.getElem?_map] at e1 e2
    cases hc : Cs[i]? with
    | none => rw [hc] at e1; cases e1
    | some C =>
      rw [hc] at e1 e2
      cases e1
      cases e2
      exact he C x G H' (List.mem_of_getElem? hc) s g
/-- the class of an exception, by what isinstance says of it -/
structure KinOk (K : PySem.W.Frag) (C : Addr) (kE : Addr) (b0 b1 b2 b3 b4 : Bool) : Prop where
  x : QE.ExX K C
  ce : PySem.W.kitOne K (.ref C) (.ref kE) = some b0
  ve : PySem.W.kitOne K (.ref C) (.type "ValueError") = some b1
  le : PySem.W.kitOne K (.ref C) (.type "LookupError") = some b2
  re : PySem.W.kitOne K (.ref C) (.type "RuntimeError") = some b3
  ae : PySem.W.kitOne K (.ref C) (.type "ArithmeticError") = some b4
  tt : PySem.W.kitAny K (.ref C) [.type "KeyError", .type "IndexError"] = some false
theorem vals_ke {us : List Value} (h : Vals [.ty "KeyError", .ty "IndexError"] us) : us = [.type "KeyError", .type "IndexError"] := by
  cases h with
  | cons a r =>
    cases r with
    | cons b r =>
      cases r
      obtain rfl := a
      obtain rfl := b
      rfl
theorem ev_is1 {C : Addr} {c : V} {cv : Value} {b : Bool} (o : Ok w F H) (X : QE.ExX K C) (hc : ∀ u, RelV c u → u = cv) (e : PySem.W.kitOne K (.ref C) cv = some b) (ha : EvW w (Exc C) ta σ F H) : EvW w (Is (.bl b)) (tCB (QE.rIsX K) (tCons ta (tCons (tC c) tNil))) σ F H :=
  ev_cb o (ea_cons o Exc.mo ha (ea_cons o (Is.mo _) (ev_c o fun _ => rfl) (ea_nil o))) (ca_isX X hc e)
theorem ev_is2 {C : Addr} {c d : V} {cvs : List Value} {b : Bool} (o : Ok w F H) (X : QE.ExX K C) (hc : ∀ us, Vals [c, d] us → us = cvs) (e : PySem.W.kitAny K (.ref C) cvs = some b) (ha : EvW w (Exc C) ta σ F H) : EvW w (Is (.bl b)) (tCB (QE.rIsX K) (tCons ta (tCons (tTup (tCons (tC c) (tCons (tC d) tNil))) tNil))) σ F H :=
  ev_cb o (ea_cons o Exc.mo ha (ea_cons o (Tu.mo (mos_map Is.mo [c, d])) (ev_tup o (mos_map Is.mo [c, d]) (ea_cons o (Is.mo _) (ev_c o fun _ => rfl) (ea_cons o (Is.mo _) (ev_c o fun _ => rfl) (ea_nil o))) (by simp)) (ea_nil o))) (ca_isXt X hc e)
/-- == of data that is told -/
theorem ev_eqD {d e : PyData} {b : Bool} (o : Ok w F H) (ha : EvW w (Da K d) ta σ F H) (hb : EvW w (Da K e) tb σ F H) (h1 : d.hasDict = false) (h2 : e.hasDict = false) (h3 : SeqAt.shaped d = true) (h4 : SeqAt.shaped e = true) (h5 : PyData.eqv d e = b) : EvW w (Is (.bl b)) (tOp (rEqD K) ta tb) σ F H := by
  subst h5
  exact ev_op o (Da.mo _ _) ha hb (ow_eqD h1 h2 h3 h4)
theorem ev_neD {d e : PyData} {b : Bool} (o : Ok w F H) (ha : EvW w (Da K d) ta σ F H) (hb : EvW w (Da K e) tb σ F H) (h1 : d.hasDict = false) (h2 : e.hasDict = false) (h3 : SeqAt.shaped d = true) (h4 : SeqAt.shaped e = true) (h5 : (!PyData.eqv d e) = b) : EvW w (Is (.bl b)) (tOp (rNeD K) ta tb) σ F H := by
  subst h5
  exact ev_op o (Da.mo _ _) ha hb (ow_neD h1 h2 h3 h4)
theorem EvW.boolsD {bs : List Bool} (h : EvW w (Li (bs.map fun b => Is (.bl b))) te σ F H) : EvW w (Da K (.list (bs.map .bool))) te σ F H := h.imp fun v F' _ r => r.bools
theorem EvW.intsD {bs : List Int} (h : EvW w (Li (bs.map fun b => Is (.int b))) te σ F H) : EvW w (Da K (.list (bs.map .int))) te σ F H := h.imp fun v F' _ r => r.intsD
theorem EvW.rowsB {rows : List (List Bool)} (h : EvW w (Li (rows.map fun bs => Li (bs.map fun b => Is (.bl b)))) te σ F H) : EvW w (Da K (.list (rows.map fun bs => .list (bs.map .bool)))) te σ F H :=
  h.imp fun v F' _ r => Li.da_of (d := fun bs : List Bool => PyData.list (bs.map .bool)) (fun bs v F e => Li.bools e) r
end
end QW

set_option Elab.async false
set_option linter.all false
set_option maxRecDepth 100000
set_option maxHeartbeats 4000000
/-! QS: small data can be shown; loops over range. -/
namespace QR
open PySem PySem.Spec PyProof.Rows L2
/-- small data -/
structure Small (n : Nat) (d : PyData) : Prop where
  s : d.showable = true
  dp : d.depth ≤ 5
  l : d.leavesShort 40 = true
  b : d.bulk ≤ n
theorem small_all {n : Nat} : ∀ {ds : List PyData}, (∀ d ∈ ds, Small n d) → PyData.showableAll ds = true ∧ PyData.depthAll ds ≤ 5 ∧ PyData.leavesShortAll 40 ds = true ∧ PyData.bulkAll ds ≤ (n + 1) * ds.length
  | [], _ => ⟨by simp only [PyData.showableAll], by simp only [PyData.depthAll]; omega, by simp only [PyData.leavesShortAll], by simp only [PyData.bulkAll]; omega⟩
  | d :: ds, h => by
    obtain ⟨h1, h2, h3, h4⟩ := small_all fun x hx => h x (List.mem_cons_of_mem _ hx)
    have q := h d List.mem_cons_self
    have b := q.b
    have e := q.dp
    refine ⟨by simp only [PyData.showableAll, q.s, h1, Bool.and_self], by simp only [PyData.depthAll]; omega, by simp only [PyData.leavesShortAll, q.l, h3, Bool.and_self], ?_⟩
    simp only [PyData.bulkAll, List.length_cons]
    rw [Nat.mul_add]
    omega
/-- rows of small data can be shown -/
theorem shows_rows {n m k : Nat} {rows : List (List PyData)} (h : ∀ r ∈ rows, r.length ≤ m ∧ ∀ d ∈ r, Small n d) (hk : rows.length ≤ k) (hz : 42 * (((n + 1) * m + 1) * k) + 40 ≤ 10000000) : Shows (.list (rows.map .list)) := by
  have key : ∀ rs : List (List PyData), (∀ r ∈ rs, r.length ≤ m ∧ ∀ d ∈ r, Small n d) → PyData.showableAll (rs.map .list) = true ∧ PyData.depthAll (rs.map .list) ≤ 6 ∧ PyData.leavesShortAll 40 (rs.map .list) = true ∧ PyData.bulkAll (rs.map .list) ≤ ((n + 1) * m + 1) * rs.length := by
    intro rs
    induction rs with
    | nil => exact fun _ => ⟨by simp only [List.map_nil, PyData.showableAll], by simp only [List.map_nil, PyData.depthAll]; omega, by simp only [List.map_nil, PyData.leavesShortAll], by simp only [List.map_nil, PyData.bulkAll]; omega⟩
    | cons r rs ih =>
      intro h
      obtain ⟨h1, h2, h3, h4⟩ := ih fun x hx => h x (List.mem_cons_of_mem _ hx)
      obtain ⟨hm, hr⟩ := h r List.mem_cons_self
      obtain ⟨q1, q2, q3, q4⟩ := small_all hr
      have hb : (n + 1) * r.length ≤ (n + 1) * m := Nat.mul_le_mul_left _ hm
      refine ⟨by simp only [List.map_cons, PyData.showableAll, PyData.showable, q1, h1, Bool.and_self], by simp only [List.map_cons, PyData.depthAll, PyData.depth]; omega, by simp only [List.map_cons, PyData.leavesShortAll, PyData.leavesShort, q3, h3, Bool.and_self], ?_⟩
      simp only [List.map_cons, PyData.bulkAll, PyData.bulk, List.length_cons]
      rw [Nat.mul_add]
      omega
  obtain ⟨h1, h2, h3, h4⟩ := key rows h
  refine ⟨by simp only [PyData.showable, h1], by simp only [PyData.depth]; omega, ?_⟩
  have e := PyData.shown_le_bulk 40 (by decide) (.list (rows.map .list)) (by simp only [PyData.leavesShort, h3])
  have hb : ((n + 1) * m + 1) * rows.length ≤ ((n + 1) * m + 1) * k := Nat.mul_le_mul_left _ hk
  simp only [PyData.bulk] at e
  have hs : sizeLine = 16777216 := by decide
  have h5 := Nat.mul_le_mul_left 42 (Nat.le_trans h4 hb)
  omega
end QR
namespace QC
open PySem PySem.Spec PyProof.Rows L2
theorem hu64 {A : Around} {k : Nat} (hr : Room k A) : A.units + 64 < cLine := by have := hr.un; omega
end QC
namespace QW
open PySem PySem.Spec PyProof.Rows L2 QR
section
variable {K : PySem.W.Frag} {w : Wd} {σ : L2.St} {F H F1 H1 F2 H2 : Hp} {te tx : TE} {t : TT} {v : V} {R S T : Pr} {Rs Ss : List Pr} {ta : TA} {D : Ends} {u a tb : TS} {g : TG}
theorem lc_yes {Qy : VK} {Qn : Hp → Prop} (h : te σ H Qy) : tYes σ H (fun b H3 => if b = true then te σ H3 Qy else Qn H3) := by
  show (if true = true then te σ H Qy else Qn H)
  rw [if_pos rfl]
  exact h
theorem q_asgG (o : Ok w F H) (h : EvW w R te σ F H) (k : ∀ v F1 H1, Gw w F H F1 H1 → R v F1 → g v σ H1 (u D)) : tSeq (tAsg te g) u D σ H := h F H o.refl _ k
theorem q_par4 {K : PySem.W.Frag} {U : Pr} {tas : TA} {i j l m : Nat} (o : Ok w F H) (h : EvA w [R, S, T, U] tas σ F H)
    (k : ∀ u1 v z y F1 H1, Gw w F H F1 H1 → R u1 F1 → S v F1 → T z F1 → U y F1 → u D ((((σ.set i (some u1)).set j (some v)).set l (some z)).set m (some y)) H1) :
    tSeq (tAsg (tTup tas) (gTup K 4 (gCons (gName i) (gCons (gName j) (gCons (gName l) (gCons (gName m) gNil)))))) u D σ H := h F H o.refl _ fun vs F1 H1 g al => by
  cases al with
  | cons a r =>
    cases r with
    | cons b r =>
      cases r with
      | cons c r =>
        cases r with
        | cons d r =>
          cases r
          exact ⟨(by decide : 4 ≤ sizeLine), fun p n => ⟨p, _, rfl, .inl (.inl upd_same), rfl, _, _, rfl, _, _, rfl, _, _, rfl, _, _, rfl, rfl, k _ _ _ _ F1 _ (g.temp n) a b c d⟩⟩
theorem q_asgS {i : Nat} (σ' : V → L2.St) (o : Ok w F H) (h : EvW w R te σ F H) (k : ∀ v F1 H1, Gw w F H F1 H1 → R v F1 → u D (σ' v) H1) (hs : ∀ v, σ.set i (some v) = σ' v := by intro _; rfl) : tSeq (tAsg te (gName i)) u D σ H :=
  q_asg o h fun v F1 H1 g r => by rw [hs]; exact k v F1 H1 g r
theorem q_asgOS {i : Nat} (σ' : V → L2.St) (o : Ok w F H) (h : EvO w Rs te σ F H) (k : ∀ p vs F1 H1, Gw w F H F1 H1 → H p = none → F1 p = none → H1 p = some (.lst vs) → Al Rs vs F1 → u D (σ' (.ref p)) H1) (hs : ∀ v, σ.set i (some v) = σ' v := by intro _; rfl) : tSeq (tAsg te (gName i)) u D σ H :=
  q_asgO o h fun p vs F1 H1 g n1 n2 e al => by rw [hs]; exact k p vs F1 H1 g n1 n2 e al
theorem q_par2S {tas : TA} {i j : Nat} (σ' : V → V → L2.St) (o : Ok w F H) (h : EvA w [R, S] tas σ F H) (k : ∀ u1 v F1 H1, Gw w F H F1 H1 → R u1 F1 → S v F1 → u D (σ' u1 v) H1) (hs : ∀ u1 v, (σ.set i (some u1)).set j (some v) = σ' u1 v := by intro _ _; rfl) : tSeq (tPar i j tas) u D σ H :=
  q_par2 o h fun u1 v F1 H1 g r1 r2 => by rw [hs]; exact k u1 v F1 H1 g r1 r2
theorem q_par3S {tas : TA} {i j l : Nat} (σ' : V → V → V → L2.St) (o : Ok w F H) (h : EvA w [R, S, T] tas σ F H) (k : ∀ u1 v z F1 H1, Gw w F H F1 H1 → R u1 F1 → S v F1 → T z F1 → u D (σ' u1 v z) H1) (hs : ∀ u1 v z, ((σ.set i (some u1)).set j (some v)).set l (some z) = σ' u1 v z := by intro _ _ _; rfl) : tSeq (tPar3 i j l tas) u D σ H :=
  q_par3 o h fun u1 v z F1 H1 g r1 r2 r3 => by rw [hs]; exact k u1 v z F1 H1 g r1 r2 r3
theorem q_par4S {K : PySem.W.Frag} {U : Pr} {tas : TA} {i j l m : Nat} (σ' : V → V → V → V → L2.St) (o : Ok w F H) (h : EvA w [R, S, T, U] tas σ F H)
    (k : ∀ u1 v z y F1 H1, Gw w F H F1 H1 → R u1 F1 → S v F1 → T z F1 → U y F1 → u D (σ' u1 v z y) H1) (hs : ∀ u1 v z y, (((σ.set i (some u1)).set j (some v)).set l (some z)).set m (some y) = σ' u1 v z y := by intro _ _ _ _; rfl) :
    tSeq (tAsg (tTup tas) (gTup K 4 (gCons (gName i) (gCons (gName j) (gCons (gName l) (gCons (gName m) gNil)))))) u D σ H :=
  q_par4 o h fun u1 v z y F1 H1 g r1 r2 r3 r4 => by rw [hs]; exact k u1 v z y F1 H1 g r1 r2 r3 r4
/-- for j in range(n): the body goes on -/
theorem q_forR {n : Int} {j : Nat} (o : Ok w F H) (h0n : 0 ≤ n) (hz : n < 2 ^ 62) (hl : EvA w [Is (.int n)] ta σ F H) (S : L2.St → Prop) (h0 : S σ)
    (hs : ∀ (i : Int) σ' G H', 0 ≤ i → i < n → S σ' → Gw w F H G H' → tb { D with nx := fun σ'' H'' => S σ'' ∧ ∃ G', Gw w F H G' H'', ct := fun σ'' H'' => S σ'' ∧ ∃ G', Gw w F H G' H'', bk := u D } (σ'.set j (some (.int i))) H')
    (k : ∀ σ' G H', S σ' → Gw w F H G H' → u D σ' H') : tSeq (tFor (iRng1 ta) (gName j) tb) u D σ H := by
  refine hl F H o.refl _ fun v F2 H2 b hv => ?_
  obtain rfl : v = [.int n] := by
    cases hv with
    | @cons _ _ u _ _ h r =>
      cases r
      obtain rfl : u = .int n := h
      rfl
  refine ⟨n, rfl, by omega, hz, ?_⟩
  refine for_range (lo := 0) (n := n.toNat) (D := { D with nx := u D }) (fun i σ' H' => S σ' ∧ ∃ G, Gw w F H G H') ⟨h0, F2, b⟩ (fun i σ' H' hi ⟨p, G, q⟩ => ?_) fun σ' H' ⟨p, G, q⟩ => k σ' G H' p q
  have e0 : (0 : Int) + (i : Int) = (i : Int) := Int.zero_add _
  rw [e0]
  exact hs i σ' G H' (by omega) (by omega) p q
end
end QW

set_option Elab.async false
set_option linter.all false
set_option maxRecDepth 100000
set_option maxHeartbeats 4000000
/-! QK: rules whose readings name K itself (so that a comprehension's reading does not name its context). -/
namespace QK
open PySem PySem.Spec PyProof.Rows L2
section
variable {X : Cx} {K : PySem.W.Frag} {e tg l : Expr} {f : Str} {pos : Pos} {te tl : TE} {j : Nat}
theorem pe_ef (hK : X.K = K) (he : PE X e te) (hb : attributeBase e f X.env (eval e X.env) = eval e X.env := by rfl) : PE X (.Attribute e f pos) (QE.tEf K f te) := by
  subst hK
  exact QE.pe_ef he hb
theorem ix_list (hK : X.K = K) : IxR X (rIxL K) := by subst hK; exact L2.ix_list
theorem call_len_seq (hK : X.K = K) : CallR X (.builtin "len") (QW.iLen K) := by subst hK; exact L2.call_len_seq
theorem call_isX (hK : X.K = K) (M : QE.ExM K) : CallR X (.builtin "isinstance") (QE.rIsX K) := by subst hK; exact QE.call_isX M
theorem cr_all (hK : X.K = K) (hc : X.calm = true) : CallR X (.builtin "all") (rAll K) := by subst hK; exact L2.cr_all hc
theorem cr_sum (hK : X.K = K) (hc : X.calm = true) : CallR X (.builtin "sum") (rSum K) := by subst hK; exact L2.cr_sum hc
theorem op_eqD (hK : X.K = K) (hu : X.A.units + 64 < cLine) : OpR X (compareOp .Eq) (rEqD K) := by subst hK; exact L2.op_eqD hu
theorem op_neD (hK : X.K = K) (hu : X.A.units + 64 < cLine) : OpR X (compareOp .NotEq) (rNeD K) := by subst hK; exact L2.op_neD hu
theorem pi_list (hK : X.K = K) (hl : PE X l tl) : PI X tg l (iList K tl) := by subst hK; exact L2.pi_list hl
theorem call_repr (hK : X.K = K) (gd : X.A.guards = some []) (hr : Room j X.A) (hs : QR.SysK K) : CallR X (.builtin "repr") (QR.rRepr K) := by subst hK; exact QR.call_repr gd hr hs
end
end QK
namespace QW
open PySem PySem.Spec PyProof.Rows L2
theorem Al.da_by {K : PySem.W.Frag} {F : Hp} {α : Type} {f : α → Pr} {d : α → PyData} (h : ∀ x v, f x v F → Da K (d x) v F) : ∀ {xs : List α} {vs : List V}, Al (xs.map f) vs F → QR.DvAll K F vs (xs.map d)
  | [], _, al => by cases al; exact .nil
  | x :: xs, _, al => by
    cases al with
    | cons a r => exact .cons (h x _ a) (Al.da_by h r)
theorem Li.rows_by {K : PySem.W.Frag} {F : Hp} {v : V} {α : Type} {f : α → Pr} {d : α → PyData} {xs : List α} (h : ∀ x v, f x v F → Da K (d x) v F) (hv : Li (xs.map f) v F) : Da K (.list (xs.map d)) v F := by
  obtain ⟨l, vs, rfl, h1, h2⟩ := hv
  exact .list h1 (Al.da_by h h2)
theorem ev_allT {K : PySem.W.Frag} {w : Wd} {σ : L2.St} {F H : Hp} {te : TE} {α : Type} {Cs : List α} (o : Ok w F H) (h : EvW w (Li (Cs.map fun _ => Is (.bl true))) te σ F H) : EvW w (Is (.bl true)) (tCB (rAll K) (tCons te tNil)) σ F H := by
  have e : (Cs.map fun _ => Is (.bl true)) = (Cs.map (fun _ => true)).map (fun b => Is (.bl b)) := by rw [List.map_map]; rfl
  have e2 : (Cs.map (fun _ => true)).all id = true := by rw [List.all_eq_true]; intro x hx; obtain ⟨c, _, rfl⟩ := List.mem_map.mp hx; rfl
  rw [e] at h
  have q := ev_cb o (ea_cons o (Li.mo (mos_map (f := fun b => Is (.bl b)) (fun b => Is.mo _) _)) h (ea_nil o)) (ca_all (K := K) (bs := Cs.map fun _ => true))
  rw [e2] at q
  exact q
end QW

set_option Elab.async false
set_option linter.all false
set_option maxRecDepth 100000
set_option maxHeartbeats 0
namespace K18
open PySem PySem.Spec PyProof.Rows L2
abbrev prog : Program := PySem.Challenge.pw_agreeingcasts_k18_exceptions
def top (i : Nat) : Stmt := prog.main.body.getD i (.Pass ⟨0, 0, 0, 0⟩)
def dF (x : Str) (st : Stmt) : He.DefD := ⟨(x, none), x, x, defArgs st, defBody st, defScope st, [], []⟩
def dM (c m q : Str) (st : Stmt) : He.DefD := ⟨(c, some m), m, q, defArgs st, defBody st, defScope st, [], []⟩
def veL : List Value := [.type "ValueError", .type "Exception", .type "BaseException", .type "object"]
def leL : List Value := [.type "LookupError", .type "Exception", .type "BaseException", .type "object"]
def reL : List Value := [.type "RuntimeError", .type "Exception", .type "BaseException", .type "object"]
def aeL : List Value := [.type "ArithmeticError", .type "Exception", .type "BaseException", .type "object"]

def fn : List He.DefD := [
  dF "_law_pot" (top 38),
  dF "_law_draw" (top 39),
  dF "_law_choice" (top 40),
  dF "_law_things" (top 41),
  dF "_law_kin" (top 42),
  dF "_law_late_kin" (top 43),
  dF "_law_values" (top 44),
  dF "_law_unknown" (top 45),
  dF "_law_told" (top 46),
  dF "_law_due" (top 47),
  dF "_law_bases_right" (top 48),
  dF "_law_unlike_right" (top 49),
  dF "law" (top 50),
  dM "InvalidName" "__init__" "InvalidName.__init__" (inClass (top 2) 0),
  dM "InvalidScheme" "__init__" "InvalidScheme.__init__" (inClass (top 3) 0),
  dM "InvalidTypes" "__init__" "InvalidTypes.__init__" (inClass (top 4) 0),
  dM "InvalidKind" "__init__" "InvalidKind.__init__" (inClass (top 5) 0),
  dM "InvalidPath" "__init__" "InvalidPath.__init__" (inClass (top 6) 0),
  dM "InvalidShape" "__init__" "InvalidShape.__init__" (inClass (top 7) 0),
  dM "InvalidWay" "__init__" "InvalidWay.__init__" (inClass (top 8) 0),
  dM "InvalidComparisons" "__init__" "InvalidComparisons.__init__" (inClass (top 9) 0),
  dM "InvalidSchemes" "__init__" "InvalidSchemes.__init__" (inClass (top 10) 0),
  dM "InvalidGroup" "__init__" "InvalidGroup.__init__" (inClass (top 11) 0),
  dM "InvalidTables" "__init__" "InvalidTables.__init__" (inClass (top 12) 0),
  dM "InvalidSize" "__init__" "InvalidSize.__init__" (inClass (top 13) 0),
  dM "InvalidTable" "__init__" "InvalidTable.__init__" (inClass (top 14) 0),
  dM "InvalidValue" "__init__" "InvalidValue.__init__" (inClass (top 15) 0),
  dM "InvalidOperation" "__init__" "InvalidOperation.__init__" (inClass (top 16) 0),
  dM "InvalidExpression" "__init__" "InvalidExpression.__init__" (inClass (top 17) 0),
  dM "InvalidCount" "__init__" "InvalidCount.__init__" (inClass (top 18) 0),
  dM "InvalidText" "__init__" "InvalidText.__init__" (inClass (top 19) 0),
  dM "InvalidCommand" "__init__" "InvalidCommand.__init__" (inClass (top 20) 0),
  dM "UnknownType" "__init__" "UnknownType.__init__" (inClass (top 21) 0),
  dM "UnknownCast" "__init__" "UnknownCast.__init__" (inClass (top 22) 0),
  dM "UnknownVersion" "__init__" "UnknownVersion.__init__" (inClass (top 23) 0),
  dM "UnknownOperator" "__init__" "UnknownOperator.__init__" (inClass (top 24) 0),
  dM "NoVersion" "__init__" "NoVersion.__init__" (inClass (top 25) 0),
  dM "NoPath" "__init__" "NoPath.__init__" (inClass (top 26) 0),
  dM "NameTaken" "__init__" "NameTaken.__init__" (inClass (top 27) 0),
  dM "Cyclic" "__init__" "Cyclic.__init__" (inClass (top 28) 0),
  dM "WrongArity" "__init__" "WrongArity.__init__" (inClass (top 29) 0),
  dM "InUse" "__init__" "InUse.__init__" (inClass (top 30) 0),
  dM "Conflicting" "__init__" "Conflicting.__init__" (inClass (top 31) 0),
  dM "Incoherent" "__init__" "Incoherent.__init__" (inClass (top 32) 0),
  dM "NotRegular" "__init__" "NotRegular.__init__" (inClass (top 33) 0),
  dM "CommandFailed" "__init__" "CommandFailed.__init__" (inClass (top 35) 0),
  dM "TooMany" "__init__" "TooMany.__init__" (inClass (top 36) 0)]
def fs : List QH.Fb := [
  QH.sysB,
  QH.exM,
  QH.frees ((["max", "min", "abs", "len", "range", "divmod", "isinstance", "all", "sum", "int", "repr", "ValueError", "LookupError", "RuntimeError", "ArithmeticError", "KeyError", "IndexError"] : List PySem.Str)),
  QH.glo "CastError",
  QH.glo "InvalidName",
  QH.glo "InvalidScheme",
  QH.glo "InvalidTypes",
  QH.glo "InvalidKind",
  QH.glo "InvalidPath",
  QH.glo "InvalidShape",
  QH.glo "InvalidWay",
  QH.glo "InvalidComparisons",
  QH.glo "InvalidSchemes",
  QH.glo "InvalidGroup",
  QH.glo "InvalidTables",
  QH.glo "InvalidSize",
  QH.glo "InvalidTable",
  QH.glo "InvalidValue",
  QH.glo "InvalidOperation",
  QH.glo "InvalidExpression",
  QH.glo "InvalidCount",
  QH.glo "InvalidText",
  QH.glo "InvalidCommand",
  QH.glo "UnknownType",
  QH.glo "UnknownCast",
  QH.glo "UnknownVersion",
  QH.glo "UnknownOperator",
  QH.glo "NoVersion",
  QH.glo "NoPath",
  QH.glo "NameTaken",
  QH.glo "Cyclic",
  QH.glo "WrongArity",
  QH.glo "InUse",
  QH.glo "Conflicting",
  QH.glo "Incoherent",
  QH.glo "NotRegular",
  QH.glo "NothingToUndo",
  QH.glo "CommandFailed",
  QH.glo "TooMany",
  QH.glo "_law_pot",
  QH.glo "_law_draw",
  QH.glo "_law_choice",
  QH.glo "_law_things",
  QH.glo "_law_kin",
  QH.glo "_law_late_kin",
  QH.glo "_law_values",
  QH.glo "_law_unknown",
  QH.glo "_law_told",
  QH.glo "_law_due",
  QH.glo "_law_bases_right",
  QH.glo "_law_unlike_right",
  QH.glo "law",
  QH.cre "CastError" "__init__" "ValueError.__init__",
  (fun K => QH.clsV (.type "LookupError") (.type "type") "__init__" "LookupError.__init__" K),
  (fun K => QH.clsV (.type "RuntimeError") (.type "type") "__init__" "RuntimeError.__init__" K),
  (fun K => QH.clsV (.type "ArithmeticError") (.type "type") "__init__" "ArithmeticError.__init__" K),
  QH.exc "InvalidName" "ValueError.__new__" veL,
  QH.ini "InvalidName" ["value"],
  QH.kin "InvalidName" [(.type "ValueError", true), (.type "LookupError", false), (.type "RuntimeError", false), (.type "ArithmeticError", false)] [("CastError", true), ("InvalidName", true), ("InvalidValue", false), ("InvalidShape", false), ("InvalidTable", false), ("InvalidTables", false), ("InvalidScheme", false), ("InvalidSchemes", false)],
  QH.kint "InvalidName" [.type "KeyError", .type "IndexError"] false,
  QH.exc "InvalidScheme" "ValueError.__new__" veL,
  QH.ini "InvalidScheme" ["problem", "position"],
  QH.kin "InvalidScheme" [(.type "ValueError", true), (.type "LookupError", false), (.type "RuntimeError", false), (.type "ArithmeticError", false)] [("CastError", true), ("InvalidName", false), ("InvalidValue", false), ("InvalidShape", false), ("InvalidTable", false), ("InvalidTables", false), ("InvalidScheme", true), ("InvalidSchemes", false)],
  QH.kint "InvalidScheme" [.type "KeyError", .type "IndexError"] false,
  QH.exc "InvalidTypes" "ValueError.__new__" veL,
  QH.ini "InvalidTypes" ["value"],
  QH.kin "InvalidTypes" [(.type "ValueError", true), (.type "LookupError", false), (.type "RuntimeError", false), (.type "ArithmeticError", false)] [("CastError", true), ("InvalidName", false), ("InvalidValue", false), ("InvalidShape", false), ("InvalidTable", false), ("InvalidTables", false), ("InvalidScheme", false), ("InvalidSchemes", false)],
  QH.kint "InvalidTypes" [.type "KeyError", .type "IndexError"] false,
  QH.exc "InvalidKind" "ValueError.__new__" veL,
  QH.ini "InvalidKind" ["value"],
  QH.kin "InvalidKind" [(.type "ValueError", true), (.type "LookupError", false), (.type "RuntimeError", false), (.type "ArithmeticError", false)] [("CastError", true), ("InvalidName", false), ("InvalidValue", false), ("InvalidShape", false), ("InvalidTable", false), ("InvalidTables", false), ("InvalidScheme", false), ("InvalidSchemes", false)],
  QH.kint "InvalidKind" [.type "KeyError", .type "IndexError"] false,
  QH.exc "InvalidPath" "ValueError.__new__" veL,
  QH.ini "InvalidPath" ["value"],
  QH.kin "InvalidPath" [(.type "ValueError", true), (.type "LookupError", false), (.type "RuntimeError", false), (.type "ArithmeticError", false)] [("CastError", true), ("InvalidName", false), ("InvalidValue", false), ("InvalidShape", false), ("InvalidTable", false), ("InvalidTables", false), ("InvalidScheme", false), ("InvalidSchemes", false)],
  QH.kint "InvalidPath" [.type "KeyError", .type "IndexError"] false,
  QH.exc "InvalidShape" "ValueError.__new__" veL,
  QH.ini "InvalidShape" ["value"],
  QH.kin "InvalidShape" [(.type "ValueError", true), (.type "LookupError", false), (.type "RuntimeError", false), (.type "ArithmeticError", false)] [("CastError", true), ("InvalidName", false), ("InvalidValue", false), ("InvalidShape", true), ("InvalidTable", false), ("InvalidTables", false), ("InvalidScheme", false), ("InvalidSchemes", false)],
  QH.kint "InvalidShape" [.type "KeyError", .type "IndexError"] false,
  QH.exc "InvalidWay" "ValueError.__new__" veL,
  QH.ini "InvalidWay" ["value"],
  QH.kin "InvalidWay" [(.type "ValueError", true), (.type "LookupError", false), (.type "RuntimeError", false), (.type "ArithmeticError", false)] [("CastError", true), ("InvalidName", false), ("InvalidValue", false), ("InvalidShape", false), ("InvalidTable", false), ("InvalidTables", false), ("InvalidScheme", false), ("InvalidSchemes", false)],
  QH.kint "InvalidWay" [.type "KeyError", .type "IndexError"] false,
  QH.exc "InvalidComparisons" "ValueError.__new__" veL,
  QH.ini "InvalidComparisons" ["position"],
  QH.kin "InvalidComparisons" [(.type "ValueError", true), (.type "LookupError", false), (.type "RuntimeError", false), (.type "ArithmeticError", false)] [("CastError", true), ("InvalidName", false), ("InvalidValue", false), ("InvalidShape", false), ("InvalidTable", false), ("InvalidTables", false), ("InvalidScheme", false), ("InvalidSchemes", false)],
  QH.kint "InvalidComparisons" [.type "KeyError", .type "IndexError"] false,
  QH.exc "InvalidSchemes" "ValueError.__new__" veL,
  QH.ini "InvalidSchemes" ["position"],
  QH.kin "InvalidSchemes" [(.type "ValueError", true), (.type "LookupError", false), (.type "RuntimeError", false), (.type "ArithmeticError", false)] [("CastError", true), ("InvalidName", false), ("InvalidValue", false), ("InvalidShape", false), ("InvalidTable", false), ("InvalidTables", false), ("InvalidScheme", false), ("InvalidSchemes", true)],
  QH.kint "InvalidSchemes" [.type "KeyError", .type "IndexError"] false,
  QH.exc "InvalidGroup" "ValueError.__new__" veL,
  QH.ini "InvalidGroup" ["value"],
  QH.kin "InvalidGroup" [(.type "ValueError", true), (.type "LookupError", false), (.type "RuntimeError", false), (.type "ArithmeticError", false)] [("CastError", true), ("InvalidName", false), ("InvalidValue", false), ("InvalidShape", false), ("InvalidTable", false), ("InvalidTables", false), ("InvalidScheme", false), ("InvalidSchemes", false)],
  QH.kint "InvalidGroup" [.type "KeyError", .type "IndexError"] false,
  QH.exc "InvalidTables" "ValueError.__new__" veL,
  QH.ini "InvalidTables" ["kind", "name"],
  QH.kin "InvalidTables" [(.type "ValueError", true), (.type "LookupError", false), (.type "RuntimeError", false), (.type "ArithmeticError", false)] [("CastError", true), ("InvalidName", false), ("InvalidValue", false), ("InvalidShape", false), ("InvalidTable", false), ("InvalidTables", true), ("InvalidScheme", false), ("InvalidSchemes", false)],
  QH.kint "InvalidTables" [.type "KeyError", .type "IndexError"] false,
  QH.exc "InvalidSize" "ValueError.__new__" veL,
  QH.ini "InvalidSize" ["value"],
  QH.kin "InvalidSize" [(.type "ValueError", true), (.type "LookupError", false), (.type "RuntimeError", false), (.type "ArithmeticError", false)] [("CastError", true), ("InvalidName", false), ("InvalidValue", false), ("InvalidShape", false), ("InvalidTable", false), ("InvalidTables", false), ("InvalidScheme", false), ("InvalidSchemes", false)],
  QH.kint "InvalidSize" [.type "KeyError", .type "IndexError"] false,
  QH.exc "InvalidTable" "ValueError.__new__" veL,
  QH.ini "InvalidTable" ["value"],
  QH.kin "InvalidTable" [(.type "ValueError", true), (.type "LookupError", false), (.type "RuntimeError", false), (.type "ArithmeticError", false)] [("CastError", true), ("InvalidName", false), ("InvalidValue", false), ("InvalidShape", false), ("InvalidTable", true), ("InvalidTables", false), ("InvalidScheme", false), ("InvalidSchemes", false)],
  QH.kint "InvalidTable" [.type "KeyError", .type "IndexError"] false,
  QH.exc "InvalidValue" "ValueError.__new__" veL,
  QH.ini "InvalidValue" ["value"],
  QH.kin "InvalidValue" [(.type "ValueError", true), (.type "LookupError", false), (.type "RuntimeError", false), (.type "ArithmeticError", false)] [("CastError", true), ("InvalidName", false), ("InvalidValue", true), ("InvalidShape", false), ("InvalidTable", false), ("InvalidTables", false), ("InvalidScheme", false), ("InvalidSchemes", false)],
  QH.kint "InvalidValue" [.type "KeyError", .type "IndexError"] false,
  QH.exc "InvalidOperation" "ValueError.__new__" veL,
  QH.ini "InvalidOperation" ["position"],
  QH.kin "InvalidOperation" [(.type "ValueError", true), (.type "LookupError", false), (.type "RuntimeError", false), (.type "ArithmeticError", false)] [("CastError", true), ("InvalidName", false), ("InvalidValue", false), ("InvalidShape", false), ("InvalidTable", false), ("InvalidTables", false), ("InvalidScheme", false), ("InvalidSchemes", false)],
  QH.kint "InvalidOperation" [.type "KeyError", .type "IndexError"] false,
  QH.exc "InvalidExpression" "ValueError.__new__" veL,
  QH.ini "InvalidExpression" ["value"],
  QH.kin "InvalidExpression" [(.type "ValueError", true), (.type "LookupError", false), (.type "RuntimeError", false), (.type "ArithmeticError", false)] [("CastError", true), ("InvalidName", false), ("InvalidValue", false), ("InvalidShape", false), ("InvalidTable", false), ("InvalidTables", false), ("InvalidScheme", false), ("InvalidSchemes", false)],
  QH.kint "InvalidExpression" [.type "KeyError", .type "IndexError"] false,
  QH.exc "InvalidCount" "ValueError.__new__" veL,
  QH.ini "InvalidCount" ["value"],
  QH.kin "InvalidCount" [(.type "ValueError", true), (.type "LookupError", false), (.type "RuntimeError", false), (.type "ArithmeticError", false)] [("CastError", true), ("InvalidName", false), ("InvalidValue", false), ("InvalidShape", false), ("InvalidTable", false), ("InvalidTables", false), ("InvalidScheme", false), ("InvalidSchemes", false)],
  QH.kint "InvalidCount" [.type "KeyError", .type "IndexError"] false,
  QH.exc "InvalidText" "ValueError.__new__" veL,
  QH.ini "InvalidText" ["line"],
  QH.kin "InvalidText" [(.type "ValueError", true), (.type "LookupError", false), (.type "RuntimeError", false), (.type "ArithmeticError", false)] [("CastError", true), ("InvalidName", false), ("InvalidValue", false), ("InvalidShape", false), ("InvalidTable", false), ("InvalidTables", false), ("InvalidScheme", false), ("InvalidSchemes", false)],
  QH.kint "InvalidText" [.type "KeyError", .type "IndexError"] false,
  QH.exc "InvalidCommand" "ValueError.__new__" veL,
  QH.ini "InvalidCommand" ["value"],
  QH.kin "InvalidCommand" [(.type "ValueError", true), (.type "LookupError", false), (.type "RuntimeError", false), (.type "ArithmeticError", false)] [("CastError", true), ("InvalidName", false), ("InvalidValue", false), ("InvalidShape", false), ("InvalidTable", false), ("InvalidTables", false), ("InvalidScheme", false), ("InvalidSchemes", false)],
  QH.kint "InvalidCommand" [.type "KeyError", .type "IndexError"] false,
  QH.exc "UnknownType" "LookupError.__new__" leL,
  QH.ini "UnknownType" ["value"],
  QH.kin "UnknownType" [(.type "ValueError", false), (.type "LookupError", true), (.type "RuntimeError", false), (.type "ArithmeticError", false)] [("CastError", false)],
  QH.kint "UnknownType" [.type "KeyError", .type "IndexError"] false,
  QH.exc "UnknownCast" "LookupError.__new__" leL,
  QH.ini "UnknownCast" ["value"],
  QH.kin "UnknownCast" [(.type "ValueError", false), (.type "LookupError", true), (.type "RuntimeError", false), (.type "ArithmeticError", false)] [("CastError", false)],
  QH.kint "UnknownCast" [.type "KeyError", .type "IndexError"] false,
  QH.exc "UnknownVersion" "LookupError.__new__" leL,
  QH.ini "UnknownVersion" ["value"],
  QH.kin "UnknownVersion" [(.type "ValueError", false), (.type "LookupError", true), (.type "RuntimeError", false), (.type "ArithmeticError", false)] [("CastError", false)],
  QH.kint "UnknownVersion" [.type "KeyError", .type "IndexError"] false,
  QH.exc "UnknownOperator" "LookupError.__new__" leL,
  QH.ini "UnknownOperator" ["value"],
  QH.kin "UnknownOperator" [(.type "ValueError", false), (.type "LookupError", true), (.type "RuntimeError", false), (.type "ArithmeticError", false)] [("CastError", false)],
  QH.kint "UnknownOperator" [.type "KeyError", .type "IndexError"] false,
  QH.exc "NoVersion" "LookupError.__new__" leL,
  QH.ini "NoVersion" ["operator", "arguments"],
  QH.kin "NoVersion" [(.type "ValueError", false), (.type "LookupError", true), (.type "RuntimeError", false), (.type "ArithmeticError", false)] [("CastError", false)],
  QH.kint "NoVersion" [.type "KeyError", .type "IndexError"] false,
  QH.exc "NoPath" "LookupError.__new__" leL,
  QH.ini "NoPath" ["source", "target"],
  QH.kin "NoPath" [(.type "ValueError", false), (.type "LookupError", true), (.type "RuntimeError", false), (.type "ArithmeticError", false)] [("CastError", false)],
  QH.kint "NoPath" [.type "KeyError", .type "IndexError"] false,
  QH.exc "NameTaken" "RuntimeError.__new__" reL,
  QH.ini "NameTaken" ["name"],
  QH.kin "NameTaken" [(.type "ValueError", false), (.type "LookupError", false), (.type "RuntimeError", true), (.type "ArithmeticError", false)] [("CastError", false)],
  QH.kint "NameTaken" [.type "KeyError", .type "IndexError"] false,
  QH.exc "Cyclic" "RuntimeError.__new__" reL,
  QH.ini "Cyclic" ["name"],
  QH.kin "Cyclic" [(.type "ValueError", false), (.type "LookupError", false), (.type "RuntimeError", true), (.type "ArithmeticError", false)] [("CastError", false)],
  QH.kint "Cyclic" [.type "KeyError", .type "IndexError"] false,
  QH.exc "WrongArity" "RuntimeError.__new__" reL,
  QH.ini "WrongArity" ["operator", "count"],
  QH.kin "WrongArity" [(.type "ValueError", false), (.type "LookupError", false), (.type "RuntimeError", true), (.type "ArithmeticError", false)] [("CastError", false)],
  QH.kint "WrongArity" [.type "KeyError", .type "IndexError"] false,
  QH.exc "InUse" "RuntimeError.__new__" reL,
  QH.ini "InUse" ["kind", "name"],
  QH.kin "InUse" [(.type "ValueError", false), (.type "LookupError", false), (.type "RuntimeError", true), (.type "ArithmeticError", false)] [("CastError", false)],
  QH.kint "InUse" [.type "KeyError", .type "IndexError"] false,
  QH.exc "Conflicting" "RuntimeError.__new__" reL,
  QH.ini "Conflicting" ["kind", "name"],
  QH.kin "Conflicting" [(.type "ValueError", false), (.type "LookupError", false), (.type "RuntimeError", true), (.type "ArithmeticError", false)] [("CastError", false)],
  QH.kint "Conflicting" [.type "KeyError", .type "IndexError"] false,
  QH.exc "Incoherent" "RuntimeError.__new__" reL,
  QH.ini "Incoherent" ["shape", "one", "other", "arguments"],
  QH.kin "Incoherent" [(.type "ValueError", false), (.type "LookupError", false), (.type "RuntimeError", true), (.type "ArithmeticError", false)] [("CastError", false)],
  QH.kint "Incoherent" [.type "KeyError", .type "IndexError"] false,
  QH.exc "NotRegular" "RuntimeError.__new__" reL,
  QH.ini "NotRegular" ["operator", "arguments"],
  QH.kin "NotRegular" [(.type "ValueError", false), (.type "LookupError", false), (.type "RuntimeError", true), (.type "ArithmeticError", false)] [("CastError", false)],
  QH.kint "NotRegular" [.type "KeyError", .type "IndexError"] false,
  QH.exc "NothingToUndo" "RuntimeError.__new__" reL,
  QH.kin "NothingToUndo" [(.type "ValueError", false), (.type "LookupError", false), (.type "RuntimeError", true), (.type "ArithmeticError", false)] [("CastError", false)],
  QH.kint "NothingToUndo" [.type "KeyError", .type "IndexError"] false,
  (fun K => PySem.W.excIn K (He.ga K "NothingToUndo") reL "RuntimeError.__new__"),
  QH.exc "CommandFailed" "RuntimeError.__new__" reL,
  QH.ini "CommandFailed" ["position", "answers"],
  QH.kin "CommandFailed" [(.type "ValueError", false), (.type "LookupError", false), (.type "RuntimeError", true), (.type "ArithmeticError", false)] [("CastError", false)],
  QH.kint "CommandFailed" [.type "KeyError", .type "IndexError"] false,
  QH.exc "TooMany" "ArithmeticError.__new__" aeL,
  QH.ini "TooMany" ["kind", "limit"],
  QH.kin "TooMany" [(.type "ValueError", false), (.type "LookupError", false), (.type "RuntimeError", false), (.type "ArithmeticError", true)] [("CastError", false)],
  QH.kint "TooMany" [.type "KeyError", .type "IndexError"] false]
abbrev R : PySem.W.OpenRow := PySem.W.OpenLaw.row PySem.Challenge.rw_agreeingcasts_k18_exceptions
abbrev hk : PySem.W.Hook := QH.hookQ 5 fs fn
def ob (s : PySem.W.SharedT) : QH.AlQ := QH.obsQG 5 fs fn (HandSHeadRun.getT s)
theorem ob_eq (s : PySem.W.SharedT) : ob s = hk.obs s.abs := QH.obsQG_eq (HandSHeadRun.getT_eq s)
def loose : List PySem.Str := (["CastError", "InvalidName", "InvalidScheme", "InvalidTypes", "InvalidKind", "InvalidPath", "InvalidShape", "InvalidWay", "InvalidComparisons", "InvalidSchemes", "InvalidGroup", "InvalidTables", "InvalidSize", "InvalidTable", "InvalidValue", "InvalidOperation", "InvalidExpression", "InvalidCount", "InvalidText", "InvalidCommand", "UnknownType", "UnknownCast", "UnknownVersion", "UnknownOperator", "NoVersion", "NoPath", "NameTaken", "Cyclic", "WrongArity", "InUse"] : List PySem.Str) ++ (["Conflicting", "Incoherent", "NotRegular", "NothingToUndo", "CommandFailed", "TooMany", "_law_pot", "_law_draw", "_law_choice", "_law_things", "_law_kin", "_law_late_kin", "_law_values", "_law_unknown", "_law_told", "_law_due", "_law_bases_right", "_law_unlike_right"] : List PySem.Str)
theorem run (w : World) : HandSHeadRun.RunEq R (PySem.W.view R.prog [50]) hk ob 12000 loose w := by
  intro os
  kernel_rfl
end K18

set_option Elab.async false
set_option linter.all false
set_option maxRecDepth 100000
set_option maxHeartbeats 4000000
namespace K18
open PySem PySem.Spec PyProof.Rows L2

/-- what is known of the module -/
structure T (K : PySem.W.Frag) (mg : Str → Option Value) (base : Heap) : Prop where
  c : QH.Says fs fn K
  X : K.In base
  G : base.Ns mainGlobals mg
section
variable {P : Program} {w : World} {K : PySem.W.Frag} {mg : Str → Option Value} {base : Heap}

theorem n_max (t : T K mg base) : mg "max" = none := QH.frees_ok t.X t.G (t.c.fact 2 rfl) (by decide)
theorem n_min (t : T K mg base) : mg "min" = none := QH.frees_ok t.X t.G (t.c.fact 2 rfl) (by decide)
theorem n_abs (t : T K mg base) : mg "abs" = none := QH.frees_ok t.X t.G (t.c.fact 2 rfl) (by decide)
theorem n_len (t : T K mg base) : mg "len" = none := QH.frees_ok t.X t.G (t.c.fact 2 rfl) (by decide)
theorem n_range (t : T K mg base) : mg "range" = none := QH.frees_ok t.X t.G (t.c.fact 2 rfl) (by decide)
theorem n_divmod (t : T K mg base) : mg "divmod" = none := QH.frees_ok t.X t.G (t.c.fact 2 rfl) (by decide)
theorem n_isinstance (t : T K mg base) : mg "isinstance" = none := QH.frees_ok t.X t.G (t.c.fact 2 rfl) (by decide)
theorem n_all (t : T K mg base) : mg "all" = none := QH.frees_ok t.X t.G (t.c.fact 2 rfl) (by decide)
theorem n_sum (t : T K mg base) : mg "sum" = none := QH.frees_ok t.X t.G (t.c.fact 2 rfl) (by decide)
theorem n_int (t : T K mg base) : mg "int" = none := QH.frees_ok t.X t.G (t.c.fact 2 rfl) (by decide)
theorem n_repr (t : T K mg base) : mg "repr" = none := QH.frees_ok t.X t.G (t.c.fact 2 rfl) (by decide)
theorem n_ValueError (t : T K mg base) : mg "ValueError" = none := QH.frees_ok t.X t.G (t.c.fact 2 rfl) (by decide)
theorem n_LookupError (t : T K mg base) : mg "LookupError" = none := QH.frees_ok t.X t.G (t.c.fact 2 rfl) (by decide)
theorem n_RuntimeError (t : T K mg base) : mg "RuntimeError" = none := QH.frees_ok t.X t.G (t.c.fact 2 rfl) (by decide)
theorem n_ArithmeticError (t : T K mg base) : mg "ArithmeticError" = none := QH.frees_ok t.X t.G (t.c.fact 2 rfl) (by decide)
theorem n_KeyError (t : T K mg base) : mg "KeyError" = none := QH.frees_ok t.X t.G (t.c.fact 2 rfl) (by decide)
theorem n_IndexError (t : T K mg base) : mg "IndexError" = none := QH.frees_ok t.X t.G (t.c.fact 2 rfl) (by decide)
theorem exm (t : T K mg base) : QE.ExM K := QH.exM_ok (t.c.fact 1 rfl)
theorem sysk (t : T K mg base) : QR.SysK K := QH.sysB_ok (t.c.fact 0 rfl)
theorem g_CastError (t : T K mg base) : mg "CastError" = some (.ref (He.ga K "CastError")) := QH.glo_ok t.X t.G (t.c.fact 3 (f := QH.glo "CastError") rfl)
theorem g_InvalidName (t : T K mg base) : mg "InvalidName" = some (.ref (He.ga K "InvalidName")) := QH.glo_ok t.X t.G (t.c.fact 4 (f := QH.glo "InvalidName") rfl)
theorem g_InvalidScheme (t : T K mg base) : mg "InvalidScheme" = some (.ref (He.ga K "InvalidScheme")) := QH.glo_ok t.X t.G (t.c.fact 5 (f := QH.glo "InvalidScheme") rfl)
theorem g_InvalidTypes (t : T K mg base) : mg "InvalidTypes" = some (.ref (He.ga K "InvalidTypes")) := QH.glo_ok t.X t.G (t.c.fact 6 (f := QH.glo "InvalidTypes") rfl)
theorem g_InvalidKind (t : T K mg base) : mg "InvalidKind" = some (.ref (He.ga K "InvalidKind")) := QH.glo_ok t.X t.G (t.c.fact 7 (f := QH.glo "InvalidKind") rfl)
theorem g_InvalidPath (t : T K mg base) : mg "InvalidPath" = some (.ref (He.ga K "InvalidPath")) := QH.glo_ok t.X t.G (t.c.fact 8 (f := QH.glo "InvalidPath") rfl)
theorem g_InvalidShape (t : T K mg base) : mg "InvalidShape" = some (.ref (He.ga K "InvalidShape")) := QH.glo_ok t.X t.G (t.c.fact 9 (f := QH.glo "InvalidShape") rfl)
theorem g_InvalidWay (t : T K mg base) : mg "InvalidWay" = some (.ref (He.ga K "InvalidWay")) := QH.glo_ok t.X t.G (t.c.fact 10 (f := QH.glo "InvalidWay") rfl)
theorem g_InvalidComparisons (t : T K mg base) : mg "InvalidComparisons" = some (.ref (He.ga K "InvalidComparisons")) := QH.glo_ok t.X t.G (t.c.fact 11 (f := QH.glo "InvalidComparisons") rfl)
theorem g_InvalidSchemes (t : T K mg base) : mg "InvalidSchemes" = some (.ref (He.ga K "InvalidSchemes")) := QH.glo_ok t.X t.G (t.c.fact 12 (f := QH.glo "InvalidSchemes") rfl)
theorem g_InvalidGroup (t : T K mg base) : mg "InvalidGroup" = some (.ref (He.ga K "InvalidGroup")) := QH.glo_ok t.X t.G (t.c.fact 13 (f := QH.glo "InvalidGroup") rfl)
theorem g_InvalidTables (t : T K mg base) : mg "InvalidTables" = some (.ref (He.ga K "InvalidTables")) := QH.glo_ok t.X t.G (t.c.fact 14 (f := QH.glo "InvalidTables") rfl)
theorem g_InvalidSize (t : T K mg base) : mg "InvalidSize" = some (.ref (He.ga K "InvalidSize")) := QH.glo_ok t.X t.G (t.c.fact 15 (f := QH.glo "InvalidSize") rfl)
theorem g_InvalidTable (t : T K mg base) : mg "InvalidTable" = some (.ref (He.ga K "InvalidTable")) := QH.glo_ok t.X t.G (t.c.fact 16 (f := QH.glo "InvalidTable") rfl)
theorem g_InvalidValue (t : T K mg base) : mg "InvalidValue" = some (.ref (He.ga K "InvalidValue")) := QH.glo_ok t.X t.G (t.c.fact 17 (f := QH.glo "InvalidValue") rfl)
theorem g_InvalidOperation (t : T K mg base) : mg "InvalidOperation" = some (.ref (He.ga K "InvalidOperation")) := QH.glo_ok t.X t.G (t.c.fact 18 (f := QH.glo "InvalidOperation") rfl)
theorem g_InvalidExpression (t : T K mg base) : mg "InvalidExpression" = some (.ref (He.ga K "InvalidExpression")) := QH.glo_ok t.X t.G (t.c.fact 19 (f := QH.glo "InvalidExpression") rfl)
theorem g_InvalidCount (t : T K mg base) : mg "InvalidCount" = some (.ref (He.ga K "InvalidCount")) := QH.glo_ok t.X t.G (t.c.fact 20 (f := QH.glo "InvalidCount") rfl)
theorem g_InvalidText (t : T K mg base) : mg "InvalidText" = some (.ref (He.ga K "InvalidText")) := QH.glo_ok t.X t.G (t.c.fact 21 (f := QH.glo "InvalidText") rfl)
theorem g_InvalidCommand (t : T K mg base) : mg "InvalidCommand" = some (.ref (He.ga K "InvalidCommand")) := QH.glo_ok t.X t.G (t.c.fact 22 (f := QH.glo "InvalidCommand") rfl)
theorem g_UnknownType (t : T K mg base) : mg "UnknownType" = some (.ref (He.ga K "UnknownType")) := QH.glo_ok t.X t.G (t.c.fact 23 (f := QH.glo "UnknownType") rfl)
theorem g_UnknownCast (t : T K mg base) : mg "UnknownCast" = some (.ref (He.ga K "UnknownCast")) := QH.glo_ok t.X t.G (t.c.fact 24 (f := QH.glo "UnknownCast") rfl)
theorem g_UnknownVersion (t : T K mg base) : mg "UnknownVersion" = some (.ref (He.ga K "UnknownVersion")) := QH.glo_ok t.X t.G (t.c.fact 25 (f := QH.glo "UnknownVersion") rfl)
theorem g_UnknownOperator (t : T K mg base) : mg "UnknownOperator" = some (.ref (He.ga K "UnknownOperator")) := QH.glo_ok t.X t.G (t.c.fact 26 (f := QH.glo "UnknownOperator") rfl)
theorem g_NoVersion (t : T K mg base) : mg "NoVersion" = some (.ref (He.ga K "NoVersion")) := QH.glo_ok t.X t.G (t.c.fact 27 (f := QH.glo "NoVersion") rfl)
theorem g_NoPath (t : T K mg base) : mg "NoPath" = some (.ref (He.ga K "NoPath")) := QH.glo_ok t.X t.G (t.c.fact 28 (f := QH.glo "NoPath") rfl)
theorem g_NameTaken (t : T K mg base) : mg "NameTaken" = some (.ref (He.ga K "NameTaken")) := QH.glo_ok t.X t.G (t.c.fact 29 (f := QH.glo "NameTaken") rfl)
theorem g_Cyclic (t : T K mg base) : mg "Cyclic" = some (.ref (He.ga K "Cyclic")) := QH.glo_ok t.X t.G (t.c.fact 30 (f := QH.glo "Cyclic") rfl)
theorem g_WrongArity (t : T K mg base) : mg "WrongArity" = some (.ref (He.ga K "WrongArity")) := QH.glo_ok t.X t.G (t.c.fact 31 (f := QH.glo "WrongArity") rfl)
theorem g_InUse (t : T K mg base) : mg "InUse" = some (.ref (He.ga K "InUse")) := QH.glo_ok t.X t.G (t.c.fact 32 (f := QH.glo "InUse") rfl)
theorem g_Conflicting (t : T K mg base) : mg "Conflicting" = some (.ref (He.ga K "Conflicting")) := QH.glo_ok t.X t.G (t.c.fact 33 (f := QH.glo "Conflicting") rfl)
theorem g_Incoherent (t : T K mg base) : mg "Incoherent" = some (.ref (He.ga K "Incoherent")) := QH.glo_ok t.X t.G (t.c.fact 34 (f := QH.glo "Incoherent") rfl)
theorem g_NotRegular (t : T K mg base) : mg "NotRegular" = some (.ref (He.ga K "NotRegular")) := QH.glo_ok t.X t.G (t.c.fact 35 (f := QH.glo "NotRegular") rfl)
theorem g_NothingToUndo (t : T K mg base) : mg "NothingToUndo" = some (.ref (He.ga K "NothingToUndo")) := QH.glo_ok t.X t.G (t.c.fact 36 (f := QH.glo "NothingToUndo") rfl)
theorem g_CommandFailed (t : T K mg base) : mg "CommandFailed" = some (.ref (He.ga K "CommandFailed")) := QH.glo_ok t.X t.G (t.c.fact 37 (f := QH.glo "CommandFailed") rfl)
theorem g_TooMany (t : T K mg base) : mg "TooMany" = some (.ref (He.ga K "TooMany")) := QH.glo_ok t.X t.G (t.c.fact 38 (f := QH.glo "TooMany") rfl)
theorem g__law_pot (t : T K mg base) : mg "_law_pot" = some (.ref (He.ga K "_law_pot")) := QH.glo_ok t.X t.G (t.c.fact 39 (f := QH.glo "_law_pot") rfl)
theorem g__law_draw (t : T K mg base) : mg "_law_draw" = some (.ref (He.ga K "_law_draw")) := QH.glo_ok t.X t.G (t.c.fact 40 (f := QH.glo "_law_draw") rfl)
theorem g__law_choice (t : T K mg base) : mg "_law_choice" = some (.ref (He.ga K "_law_choice")) := QH.glo_ok t.X t.G (t.c.fact 41 (f := QH.glo "_law_choice") rfl)
theorem g__law_things (t : T K mg base) : mg "_law_things" = some (.ref (He.ga K "_law_things")) := QH.glo_ok t.X t.G (t.c.fact 42 (f := QH.glo "_law_things") rfl)
theorem g__law_kin (t : T K mg base) : mg "_law_kin" = some (.ref (He.ga K "_law_kin")) := QH.glo_ok t.X t.G (t.c.fact 43 (f := QH.glo "_law_kin") rfl)
theorem g__law_late_kin (t : T K mg base) : mg "_law_late_kin" = some (.ref (He.ga K "_law_late_kin")) := QH.glo_ok t.X t.G (t.c.fact 44 (f := QH.glo "_law_late_kin") rfl)
theorem g__law_values (t : T K mg base) : mg "_law_values" = some (.ref (He.ga K "_law_values")) := QH.glo_ok t.X t.G (t.c.fact 45 (f := QH.glo "_law_values") rfl)
theorem g__law_unknown (t : T K mg base) : mg "_law_unknown" = some (.ref (He.ga K "_law_unknown")) := QH.glo_ok t.X t.G (t.c.fact 46 (f := QH.glo "_law_unknown") rfl)
theorem g__law_told (t : T K mg base) : mg "_law_told" = some (.ref (He.ga K "_law_told")) := QH.glo_ok t.X t.G (t.c.fact 47 (f := QH.glo "_law_told") rfl)
theorem g__law_due (t : T K mg base) : mg "_law_due" = some (.ref (He.ga K "_law_due")) := QH.glo_ok t.X t.G (t.c.fact 48 (f := QH.glo "_law_due") rfl)
theorem g__law_bases_right (t : T K mg base) : mg "_law_bases_right" = some (.ref (He.ga K "_law_bases_right")) := QH.glo_ok t.X t.G (t.c.fact 49 (f := QH.glo "_law_bases_right") rfl)
theorem g__law_unlike_right (t : T K mg base) : mg "_law_unlike_right" = some (.ref (He.ga K "_law_unlike_right")) := QH.glo_ok t.X t.G (t.c.fact 50 (f := QH.glo "_law_unlike_right") rfl)
theorem g_law (t : T K mg base) : mg "law" = some (.ref (He.ga K "law")) := QH.glo_ok t.X t.G (t.c.fact 51 (f := QH.glo "law") rfl)
theorem x_InvalidName (t : T K mg base) : QE.ExB K (He.ga K "InvalidName") "ValueError" "ValueError.__new__" "ValueError.__init__" veL := QH.exc_ok PySem.F.excBase_ValueError PySem.F.store_ValueError (t.c.fact 56 (f := QH.exc "InvalidName" "ValueError.__new__" veL) rfl)
theorem k_InvalidName (t : T K mg base) : QW.KinOk K (He.ga K "InvalidName") (He.ga K "CastError") true true false false false := by
  have h := QH.kin_ok (t.c.fact 58 (f := QH.kin "InvalidName" [(.type "ValueError", true), (.type "LookupError", false), (.type "RuntimeError", false), (.type "ArithmeticError", false)] [("CastError", true), ("InvalidName", true), ("InvalidValue", false), ("InvalidShape", false), ("InvalidTable", false), ("InvalidTables", false), ("InvalidScheme", false), ("InvalidSchemes", false)]) rfl)
  exact ⟨(x_InvalidName t).x, h.2 _ List.mem_cons_self, h.1 (.type "ValueError", _) (by simp), h.1 (.type "LookupError", _) (by simp), h.1 (.type "RuntimeError", _) (by simp), h.1 (.type "ArithmeticError", _) (by simp), of_decide_eq_true (t.c.fact 59 (f := QH.kint "InvalidName" [.type "KeyError", .type "IndexError"] false) rfl)⟩
theorem k_InvalidName_InvalidName (t : T K mg base) : PySem.W.kitOne K (.ref (He.ga K "InvalidName")) (.ref (He.ga K "InvalidName")) = some true := (QH.kin_ok (t.c.fact 58 (f := QH.kin "InvalidName" [(.type "ValueError", true), (.type "LookupError", false), (.type "RuntimeError", false), (.type "ArithmeticError", false)] [("CastError", true), ("InvalidName", true), ("InvalidValue", false), ("InvalidShape", false), ("InvalidTable", false), ("InvalidTables", false), ("InvalidScheme", false), ("InvalidSchemes", false)]) rfl)).2 ("InvalidName", _) (by simp)
theorem k_InvalidName_InvalidValue (t : T K mg base) : PySem.W.kitOne K (.ref (He.ga K "InvalidName")) (.ref (He.ga K "InvalidValue")) = some false := (QH.kin_ok (t.c.fact 58 (f := QH.kin "InvalidName" [(.type "ValueError", true), (.type "LookupError", false), (.type "RuntimeError", false), (.type "ArithmeticError", false)] [("CastError", true), ("InvalidName", true), ("InvalidValue", false), ("InvalidShape", false), ("InvalidTable", false), ("InvalidTables", false), ("InvalidScheme", false), ("InvalidSchemes", false)]) rfl)).2 ("InvalidValue", _) (by simp)
theorem k_InvalidName_InvalidShape (t : T K mg base) : PySem.W.kitOne K (.ref (He.ga K "InvalidName")) (.ref (He.ga K "InvalidShape")) = some false := (QH.kin_ok (t.c.fact 58 (f := QH.kin "InvalidName" [(.type "ValueError", true), (.type "LookupError", false), (.type "RuntimeError", false), (.type "ArithmeticError", false)] [("CastError", true), ("InvalidName", true), ("InvalidValue", false), ("InvalidShape", false), ("InvalidTable", false), ("InvalidTables", false), ("InvalidScheme", false), ("InvalidSchemes", false)]) rfl)).2 ("InvalidShape", _) (by simp)
theorem k_InvalidName_InvalidTable (t : T K mg base) : PySem.W.kitOne K (.ref (He.ga K "InvalidName")) (.ref (He.ga K "InvalidTable")) = some false := (QH.kin_ok (t.c.fact 58 (f := QH.kin "InvalidName" [(.type "ValueError", true), (.type "LookupError", false), (.type "RuntimeError", false), (.type "ArithmeticError", false)] [("CastError", true), ("InvalidName", true), ("InvalidValue", false), ("InvalidShape", false), ("InvalidTable", false), ("InvalidTables", false), ("InvalidScheme", false), ("InvalidSchemes", false)]) rfl)).2 ("InvalidTable", _) (by simp)
theorem k_InvalidName_InvalidTables (t : T K mg base) : PySem.W.kitOne K (.ref (He.ga K "InvalidName")) (.ref (He.ga K "InvalidTables")) = some false := (QH.kin_ok (t.c.fact 58 (f := QH.kin "InvalidName" [(.type "ValueError", true), (.type "LookupError", false), (.type "RuntimeError", false), (.type "ArithmeticError", false)] [("CastError", true), ("InvalidName", true), ("InvalidValue", false), ("InvalidShape", false), ("InvalidTable", false), ("InvalidTables", false), ("InvalidScheme", false), ("InvalidSchemes", false)]) rfl)).2 ("InvalidTables", _) (by simp)
theorem k_InvalidName_InvalidScheme (t : T K mg base) : PySem.W.kitOne K (.ref (He.ga K "InvalidName")) (.ref (He.ga K "InvalidScheme")) = some false := (QH.kin_ok (t.c.fact 58 (f := QH.kin "InvalidName" [(.type "ValueError", true), (.type "LookupError", false), (.type "RuntimeError", false), (.type "ArithmeticError", false)] [("CastError", true), ("InvalidName", true), ("InvalidValue", false), ("InvalidShape", false), ("InvalidTable", false), ("InvalidTables", false), ("InvalidScheme", false), ("InvalidSchemes", false)]) rfl)).2 ("InvalidScheme", _) (by simp)
theorem k_InvalidName_InvalidSchemes (t : T K mg base) : PySem.W.kitOne K (.ref (He.ga K "InvalidName")) (.ref (He.ga K "InvalidSchemes")) = some false := (QH.kin_ok (t.c.fact 58 (f := QH.kin "InvalidName" [(.type "ValueError", true), (.type "LookupError", false), (.type "RuntimeError", false), (.type "ArithmeticError", false)] [("CastError", true), ("InvalidName", true), ("InvalidValue", false), ("InvalidShape", false), ("InvalidTable", false), ("InvalidTables", false), ("InvalidScheme", false), ("InvalidSchemes", false)]) rfl)).2 ("InvalidSchemes", _) (by simp)
theorem i_InvalidName (t : T K mg base) : PySem.W.findIn K (.ref (He.ga K "InvalidName")) "__init__" = some (some (.ref (He.ma K (He.ga K "InvalidName") "__init__"))) ∧ PySem.W.typeIn K (.ref (He.ma K (He.ga K "InvalidName") "__init__")) = some (.type "function") ∧ ∀ f ∈ (["value"] : List Str), PySem.W.findIn K (.ref (He.ga K "InvalidName")) f = some none := QH.ini_ok (t.c.fact 57 (f := QH.ini "InvalidName" ["value"]) rfl)
theorem si_InvalidName : FnScope ["self", "value"] ["self", "value"] (defScope (inClass (top 2) 0)) := ⟨rfl, rfl, rfl, by decide +kernel, rfl, by decide +kernel, by decide +kernel⟩
theorem cre (t : T K mg base) : ClX.CRead K (He.ga K "CastError") (.type "type") ∧ PySem.W.findCls K (.ref (He.ga K "CastError")) (.type "type") "__init__" = some (.val (.builtin "ValueError.__init__")) := QH.cre_ok (t.c.fact 52 (f := QH.cre "CastError" "__init__" "ValueError.__init__") rfl)
theorem v_LookupError (t : T K mg base) : PySem.W.findCls K (.type "LookupError") (.type "type") "__init__" = some (.val (.builtin "LookupError.__init__")) := QH.clsV_ok (t.c.fact 53 (f := (fun K => QH.clsV (.type "LookupError") (.type "type") "__init__" "LookupError.__init__" K)) rfl)
theorem v_RuntimeError (t : T K mg base) : PySem.W.findCls K (.type "RuntimeError") (.type "type") "__init__" = some (.val (.builtin "RuntimeError.__init__")) := QH.clsV_ok (t.c.fact 54 (f := (fun K => QH.clsV (.type "RuntimeError") (.type "type") "__init__" "RuntimeError.__init__" K)) rfl)
theorem v_ArithmeticError (t : T K mg base) : PySem.W.findCls K (.type "ArithmeticError") (.type "type") "__init__" = some (.val (.builtin "ArithmeticError.__init__")) := QH.clsV_ok (t.c.fact 55 (f := (fun K => QH.clsV (.type "ArithmeticError") (.type "type") "__init__" "ArithmeticError.__init__" K)) rfl)
theorem m_InvalidName (t : T K mg base) : QE.MkE P w K mg base "InvalidName" (He.ga K "InvalidName") ["value"] := by
  obtain ⟨fd, F⟩ := t.c.def_ 13
  exact ⟨_, fd, ["self", "value"], (x_InvalidName t).x, (i_InvalidName t).1, (i_InvalidName t).2.1, F.ok si_InvalidName (QW.spI.len rfl) (fun cdv A outer s H vs Q E hr h => ⟨_, PSs.nox (pss_cons (ps_expr (QE.pe_binit rfl (g_CastError t) (cre t).1 (cre t).2 (pa_cons (pv 0) (pa_cons pe_str pa_nil)))) (pss_one (QE.ps_st (pv 0) (pv 1)))), QW.pure_init1 (x_InvalidName t) ((i_InvalidName t).2.2 _ (by simp)) h rfl⟩), F.bindsN (fun _ _ _ _ _ _ us hl => match us, hl with | [_, _], _ => rfl), g_InvalidName t⟩
theorem x_InvalidScheme (t : T K mg base) : QE.ExB K (He.ga K "InvalidScheme") "ValueError" "ValueError.__new__" "ValueError.__init__" veL := QH.exc_ok PySem.F.excBase_ValueError PySem.F.store_ValueError (t.c.fact 60 (f := QH.exc "InvalidScheme" "ValueError.__new__" veL) rfl)
theorem k_InvalidScheme (t : T K mg base) : QW.KinOk K (He.ga K "InvalidScheme") (He.ga K "CastError") true true false false false := by
  have h := QH.kin_ok (t.c.fact 62 (f := QH.kin "InvalidScheme" [(.type "ValueError", true), (.type "LookupError", false), (.type "RuntimeError", false), (.type "ArithmeticError", false)] [("CastError", true), ("InvalidName", false), ("InvalidValue", false), ("InvalidShape", false), ("InvalidTable", false), ("InvalidTables", false), ("InvalidScheme", true), ("InvalidSchemes", false)]) rfl)
  exact ⟨(x_InvalidScheme t).x, h.2 _ List.mem_cons_self, h.1 (.type "ValueError", _) (by simp), h.1 (.type "LookupError", _) (by simp), h.1 (.type "RuntimeError", _) (by simp), h.1 (.type "ArithmeticError", _) (by simp), of_decide_eq_true (t.c.fact 63 (f := QH.kint "InvalidScheme" [.type "KeyError", .type "IndexError"] false) rfl)⟩
theorem k_InvalidScheme_InvalidName (t : T K mg base) : PySem.W.kitOne K (.ref (He.ga K "InvalidScheme")) (.ref (He.ga K "InvalidName")) = some false := (QH.kin_ok (t.c.fact 62 (f := QH.kin "InvalidScheme" [(.type "ValueError", true), (.type "LookupError", false), (.type "RuntimeError", false), (.type "ArithmeticError", false)] [("CastError", true), ("InvalidName", false), ("InvalidValue", false), ("InvalidShape", false), ("InvalidTable", false), ("InvalidTables", false), ("InvalidScheme", true), ("InvalidSchemes", false)]) rfl)).2 ("InvalidName", _) (by simp)
theorem k_InvalidScheme_InvalidValue (t : T K mg base) : PySem.W.kitOne K (.ref (He.ga K "InvalidScheme")) (.ref (He.ga K "InvalidValue")) = some false := (QH.kin_ok (t.c.fact 62 (f := QH.kin "InvalidScheme" [(.type "ValueError", true), (.type "LookupError", false), (.type "RuntimeError", false), (.type "ArithmeticError", false)] [("CastError", true), ("InvalidName", false), ("InvalidValue", false), ("InvalidShape", false), ("InvalidTable", false), ("InvalidTables", false), ("InvalidScheme", true), ("InvalidSchemes", false)]) rfl)).2 ("InvalidValue", _) (by simp)
theorem k_InvalidScheme_InvalidShape (t : T K mg base) : PySem.W.kitOne K (.ref (He.ga K "InvalidScheme")) (.ref (He.ga K "InvalidShape")) = some false := (QH.kin_ok (t.c.fact 62 (f := QH.kin "InvalidScheme" [(.type "ValueError", true), (.type "LookupError", false), (.type "RuntimeError", false), (.type "ArithmeticError", false)] [("CastError", true), ("InvalidName", false), ("InvalidValue", false), ("InvalidShape", false), ("InvalidTable", false), ("InvalidTables", false), ("InvalidScheme", true), ("InvalidSchemes", false)]) rfl)).2 ("InvalidShape", _) (by simp)
theorem k_InvalidScheme_InvalidTable (t : T K mg base) : PySem.W.kitOne K (.ref (He.ga K "InvalidScheme")) (.ref (He.ga K "InvalidTable")) = some false := (QH.kin_ok (t.c.fact 62 (f := QH.kin "InvalidScheme" [(.type "ValueError", true), (.type "LookupError", false), (.type "RuntimeError", false), (.type "ArithmeticError", false)] [("CastError", true), ("InvalidName", false), ("InvalidValue", false), ("InvalidShape", false), ("InvalidTable", false), ("InvalidTables", false), ("InvalidScheme", true), ("InvalidSchemes", false)]) rfl)).2 ("InvalidTable", _) (by simp)
theorem k_InvalidScheme_InvalidTables (t : T K mg base) : PySem.W.kitOne K (.ref (He.ga K "InvalidScheme")) (.ref (He.ga K "InvalidTables")) = some false := (QH.kin_ok (t.c.fact 62 (f := QH.kin "InvalidScheme" [(.type "ValueError", true), (.type "LookupError", false), (.type "RuntimeError", false), (.type "ArithmeticError", false)] [("CastError", true), ("InvalidName", false), ("InvalidValue", false), ("InvalidShape", false), ("InvalidTable", false), ("InvalidTables", false), ("InvalidScheme", true), ("InvalidSchemes", false)]) rfl)).2 ("InvalidTables", _) (by simp)
theorem k_InvalidScheme_InvalidScheme (t : T K mg base) : PySem.W.kitOne K (.ref (He.ga K "InvalidScheme")) (.ref (He.ga K "InvalidScheme")) = some true := (QH.kin_ok (t.c.fact 62 (f := QH.kin "InvalidScheme" [(.type "ValueError", true), (.type "LookupError", false), (.type "RuntimeError", false), (.type "ArithmeticError", false)] [("CastError", true), ("InvalidName", false), ("InvalidValue", false), ("InvalidShape", false), ("InvalidTable", false), ("InvalidTables", false), ("InvalidScheme", true), ("InvalidSchemes", false)]) rfl)).2 ("InvalidScheme", _) (by simp)
theorem k_InvalidScheme_InvalidSchemes (t : T K mg base) : PySem.W.kitOne K (.ref (He.ga K "InvalidScheme")) (.ref (He.ga K "InvalidSchemes")) = some false := (QH.kin_ok (t.c.fact 62 (f := QH.kin "InvalidScheme" [(.type "ValueError", true), (.type "LookupError", false), (.type "RuntimeError", false), (.type "ArithmeticError", false)] [("CastError", true), ("InvalidName", false), ("InvalidValue", false), ("InvalidShape", false), ("InvalidTable", false), ("InvalidTables", false), ("InvalidScheme", true), ("InvalidSchemes", false)]) rfl)).2 ("InvalidSchemes", _) (by simp)
theorem i_InvalidScheme (t : T K mg base) : PySem.W.findIn K (.ref (He.ga K "InvalidScheme")) "__init__" = some (some (.ref (He.ma K (He.ga K "InvalidScheme") "__init__"))) ∧ PySem.W.typeIn K (.ref (He.ma K (He.ga K "InvalidScheme") "__init__")) = some (.type "function") ∧ ∀ f ∈ (["problem", "position"] : List Str), PySem.W.findIn K (.ref (He.ga K "InvalidScheme")) f = some none := QH.ini_ok (t.c.fact 61 (f := QH.ini "InvalidScheme" ["problem", "position"]) rfl)
theorem si_InvalidScheme : FnScope ["self", "problem", "position"] ["self", "problem", "position"] (defScope (inClass (top 3) 0)) := ⟨rfl, rfl, rfl, by decide +kernel, rfl, by decide +kernel, by decide +kernel⟩
theorem m_InvalidScheme (t : T K mg base) : QE.MkE P w K mg base "InvalidScheme" (He.ga K "InvalidScheme") ["problem", "position"] := by
  obtain ⟨fd, F⟩ := t.c.def_ 14
  exact ⟨_, fd, ["self", "problem", "position"], (x_InvalidScheme t).x, (i_InvalidScheme t).1, (i_InvalidScheme t).2.1, F.ok si_InvalidScheme (QW.spI.len rfl) (fun cdv A outer s H vs Q E hr h => ⟨_, PSs.nox (pss_cons (ps_expr (QE.pe_binit rfl (g_CastError t) (cre t).1 (cre t).2 (pa_cons (pv 0) (pa_cons pe_str pa_nil)))) (pss_cons (QE.ps_st (pv 0) (pv 1)) (pss_one (QE.ps_st (pv 0) (pv 2))))), QW.pure_init2 (x_InvalidScheme t) ((i_InvalidScheme t).2.2 _ (by simp)) ((i_InvalidScheme t).2.2 _ (by simp)) h rfl⟩), F.bindsN (fun _ _ _ _ _ _ us hl => match us, hl with | [_, _, _], _ => rfl), g_InvalidScheme t⟩
theorem x_InvalidTypes (t : T K mg base) : QE.ExB K (He.ga K "InvalidTypes") "ValueError" "ValueError.__new__" "ValueError.__init__" veL := QH.exc_ok PySem.F.excBase_ValueError PySem.F.store_ValueError (t.c.fact 64 (f := QH.exc "InvalidTypes" "ValueError.__new__" veL) rfl)
theorem k_InvalidTypes (t : T K mg base) : QW.KinOk K (He.ga K "InvalidTypes") (He.ga K "CastError") true true false false false := by
  have h := QH.kin_ok (t.c.fact 66 (f := QH.kin "InvalidTypes" [(.type "ValueError", true), (.type "LookupError", false), (.type "RuntimeError", false), (.type "ArithmeticError", false)] [("CastError", true), ("InvalidName", false), ("InvalidValue", false), ("InvalidShape", false), ("InvalidTable", false), ("InvalidTables", false), ("InvalidScheme", false), ("InvalidSchemes", false)]) rfl)
  exact ⟨(x_InvalidTypes t).x, h.2 _ List.mem_cons_self, h.1 (.type "ValueError", _) (by simp), h.1 (.type "LookupError", _) (by simp), h.1 (.type "RuntimeError", _) (by simp), h.1 (.type "ArithmeticError", _) (by simp), of_decide_eq_true (t.c.fact 67 (f := QH.kint "InvalidTypes" [.type "KeyError", .type "IndexError"] false) rfl)⟩
theorem k_InvalidTypes_InvalidName (t : T K mg base) : PySem.W.kitOne K (.ref (He.ga K "InvalidTypes")) (.ref (He.ga K "InvalidName")) = some false := (QH.kin_ok (t.c.fact 66 (f := QH.kin "InvalidTypes" [(.type "ValueError", true), (.type "LookupError", false), (.type "RuntimeError", false), (.type "ArithmeticError", false)] [("CastError", true), ("InvalidName", false), ("InvalidValue", false), ("InvalidShape", false), ("InvalidTable", false), ("InvalidTables", false), ("InvalidScheme", false), ("InvalidSchemes", false)]) rfl)).2 ("InvalidName", _) (by simp)
theorem k_InvalidTypes_InvalidValue (t : T K mg base) : PySem.W.kitOne K (.ref (He.ga K "InvalidTypes")) (.ref (He.ga K "InvalidValue")) = some false := (QH.kin_ok (t.c.fact 66 (f := QH.kin "InvalidTypes" [(.type "ValueError", true), (.type "LookupError", false), (.type "RuntimeError", false), (.type "ArithmeticError", false)] [("CastError", true), ("InvalidName", false), ("InvalidValue", false), ("InvalidShape", false), ("InvalidTable", false), ("InvalidTables", false), ("InvalidScheme", false), ("InvalidSchemes", false)]) rfl)).2 ("InvalidValue", _) (by simp)
theorem k_InvalidTypes_InvalidShape (t : T K mg base) : PySem.W.kitOne K (.ref (He.ga K "InvalidTypes")) (.ref (He.ga K "InvalidShape")) = some false := (QH.kin_ok (t.c.fact 66 (f := QH.kin "InvalidTypes" [(.type "ValueError", true), (.type "LookupError", false), (.type "RuntimeError", false), (.type "ArithmeticError", false)] [("CastError", true), ("InvalidName", false), ("InvalidValue", false), ("InvalidShape", false), ("InvalidTable", false), ("InvalidTables", false), ("InvalidScheme", false), ("InvalidSchemes", false)]) rfl)).2 ("InvalidShape", _) (by simp)
theorem k_InvalidTypes_InvalidTable (t : T K mg base) : PySem.W.kitOne K (.ref (He.ga K "InvalidTypes")) (.ref (He.ga K "InvalidTable")) = some false := (QH.kin_ok (t.c.fact 66 (f := QH.kin "InvalidTypes" [(.type "ValueError", true), (.type "LookupError", false), (.type "RuntimeError", false), (.type "ArithmeticError", false)] [("CastError", true), ("InvalidName", false), ("InvalidValue", false), ("InvalidShape", false), ("InvalidTable", false), ("InvalidTables", false), ("InvalidScheme", false), ("InvalidSchemes", false)]) rfl)).2 ("InvalidTable", _) (by simp)
theorem k_InvalidTypes_InvalidTables (t : T K mg base) : PySem.W.kitOne K (.ref (He.ga K "InvalidTypes")) (.ref (He.ga K "InvalidTables")) = some false := (QH.kin_ok (t.c.fact 66 (f := QH.kin "InvalidTypes" [(.type "ValueError", true), (.type "LookupError", false), (.type "RuntimeError", false), (.type "ArithmeticError", false)] [("CastError", true), ("InvalidName", false), ("InvalidValue", false), ("InvalidShape", false), ("InvalidTable", false), ("InvalidTables", false), ("InvalidScheme", false), ("InvalidSchemes", false)]) rfl)).2 ("InvalidTables", _) (by simp)
theorem k_InvalidTypes_InvalidScheme (t : T K mg base) : PySem.W.kitOne K (.ref (He.ga K "InvalidTypes")) (.ref (He.ga K "InvalidScheme")) = some false := (QH.kin_ok (t.c.fact 66 (f := QH.kin "InvalidTypes" [(.type "ValueError", true), (.type "LookupError", false), (.type "RuntimeError", false), (.type "ArithmeticError", false)] [("CastError", true), ("InvalidName", false), ("InvalidValue", false), ("InvalidShape", false), ("InvalidTable", false), ("InvalidTables", false), ("InvalidScheme", false), ("InvalidSchemes", false)]) rfl)).2 ("InvalidScheme", _) (by simp)
theorem k_InvalidTypes_InvalidSchemes (t : T K mg base) : PySem.W.kitOne K (.ref (He.ga K "InvalidTypes")) (.ref (He.ga K "InvalidSchemes")) = some false := (QH.kin_ok (t.c.fact 66 (f := QH.kin "InvalidTypes" [(.type "ValueError", true), (.type "LookupError", false), (.type "RuntimeError", false), (.type "ArithmeticError", false)] [("CastError", true), ("InvalidName", false), ("InvalidValue", false), ("InvalidShape", false), ("InvalidTable", false), ("InvalidTables", false), ("InvalidScheme", false), ("InvalidSchemes", false)]) rfl)).2 ("InvalidSchemes", _) (by simp)
theorem i_InvalidTypes (t : T K mg base) : PySem.W.findIn K (.ref (He.ga K "InvalidTypes")) "__init__" = some (some (.ref (He.ma K (He.ga K "InvalidTypes") "__init__"))) ∧ PySem.W.typeIn K (.ref (He.ma K (He.ga K "InvalidTypes") "__init__")) = some (.type "function") ∧ ∀ f ∈ (["value"] : List Str), PySem.W.findIn K (.ref (He.ga K "InvalidTypes")) f = some none := QH.ini_ok (t.c.fact 65 (f := QH.ini "InvalidTypes" ["value"]) rfl)
theorem si_InvalidTypes : FnScope ["self", "value"] ["self", "value"] (defScope (inClass (top 4) 0)) := ⟨rfl, rfl, rfl, by decide +kernel, rfl, by decide +kernel, by decide +kernel⟩
theorem m_InvalidTypes (t : T K mg base) : QE.MkE P w K mg base "InvalidTypes" (He.ga K "InvalidTypes") ["value"] := by
  obtain ⟨fd, F⟩ := t.c.def_ 15
  exact ⟨_, fd, ["self", "value"], (x_InvalidTypes t).x, (i_InvalidTypes t).1, (i_InvalidTypes t).2.1, F.ok si_InvalidTypes (QW.spI.len rfl) (fun cdv A outer s H vs Q E hr h => ⟨_, PSs.nox (pss_cons (ps_expr (QE.pe_binit rfl (g_CastError t) (cre t).1 (cre t).2 (pa_cons (pv 0) (pa_cons pe_str pa_nil)))) (pss_one (QE.ps_st (pv 0) (pv 1)))), QW.pure_init1 (x_InvalidTypes t) ((i_InvalidTypes t).2.2 _ (by simp)) h rfl⟩), F.bindsN (fun _ _ _ _ _ _ us hl => match us, hl with | [_, _], _ => rfl), g_InvalidTypes t⟩
theorem x_InvalidKind (t : T K mg base) : QE.ExB K (He.ga K "InvalidKind") "ValueError" "ValueError.__new__" "ValueError.__init__" veL := QH.exc_ok PySem.F.excBase_ValueError PySem.F.store_ValueError (t.c.fact 68 (f := QH.exc "InvalidKind" "ValueError.__new__" veL) rfl)
theorem k_InvalidKind (t : T K mg base) : QW.KinOk K (He.ga K "InvalidKind") (He.ga K "CastError") true true false false false := by
  have h := QH.kin_ok (t.c.fact 70 (f := QH.kin "InvalidKind" [(.type "ValueError", true), (.type "LookupError", false), (.type "RuntimeError", false), (.type "ArithmeticError", false)] [("CastError", true), ("InvalidName", false), ("InvalidValue", false), ("InvalidShape", false), ("InvalidTable", false), ("InvalidTables", false), ("InvalidScheme", false), ("InvalidSchemes", false)]) rfl)
  exact ⟨(x_InvalidKind t).x, h.2 _ List.mem_cons_self, h.1 (.type "ValueError", _) (by simp), h.1 (.type "LookupError", _) (by simp), h.1 (.type "RuntimeError", _) (by simp), h.1 (.type "ArithmeticError", _) (by simp), of_decide_eq_true (t.c.fact 71 (f := QH.kint "InvalidKind" [.type "KeyError", .type "IndexError"] false) rfl)⟩
theorem k_InvalidKind_InvalidName (t : T K mg base) : PySem.W.kitOne K (.ref (He.ga K "InvalidKind")) (.ref (He.ga K "InvalidName")) = some false := (QH.kin_ok (t.c.fact 70 (f := QH.kin "InvalidKind" [(.type "ValueError", true), (.type "LookupError", false), (.type "RuntimeError", false), (.type "ArithmeticError", false)] [("CastError", true), ("InvalidName", false), ("InvalidValue", false), ("InvalidShape", false), ("InvalidTable", false), ("InvalidTables", false), ("InvalidScheme", false), ("InvalidSchemes", false)]) rfl)).2 ("InvalidName", _) (by simp)
theorem k_InvalidKind_InvalidValue (t : T K mg base) : PySem.W.kitOne K (.ref (He.ga K "InvalidKind")) (.ref (He.ga K "InvalidValue")) = some false := (QH.kin_ok (t.c.fact 70 (f := QH.kin "InvalidKind" [(.type "ValueError", true), (.type "LookupError", false), (.type "RuntimeError", false), (.type "ArithmeticError", false)] [("CastError", true), ("InvalidName", false), ("InvalidValue", false), ("InvalidShape", false), ("InvalidTable", false), ("InvalidTables", false), ("InvalidScheme", false), ("InvalidSchemes", false)]) rfl)).2 ("InvalidValue", _) (by simp)
theorem k_InvalidKind_InvalidShape (t : T K mg base) : PySem.W.kitOne K (.ref (He.ga K "InvalidKind")) (.ref (He.ga K "InvalidShape")) = some false := (QH.kin_ok (t.c.fact 70 (f := QH.kin "InvalidKind" [(.type "ValueError", true), (.type "LookupError", false), (.type "RuntimeError", false), (.type "ArithmeticError", false)] [("CastError", true), ("InvalidName", false), ("InvalidValue", false), ("InvalidShape", false), ("InvalidTable", false), ("InvalidTables", false), ("InvalidScheme", false), ("InvalidSchemes", false)]) rfl)).2 ("InvalidShape", _) (by simp)
theorem k_InvalidKind_InvalidTable (t : T K mg base) : PySem.W.kitOne K (.ref (He.ga K "InvalidKind")) (.ref (He.ga K "InvalidTable")) = some false := (QH.kin_ok (t.c.fact 70 (f := QH.kin "InvalidKind" [(.type "ValueError", true), (.type "LookupError", false), (.type "RuntimeError", false), (.type "ArithmeticError", false)] [("CastError", true), ("InvalidName", false), ("InvalidValue", false), ("InvalidShape", false), ("InvalidTable", false), ("InvalidTables", false), ("InvalidScheme", false), ("InvalidSchemes", false)]) rfl)).2 ("InvalidTable", _) (by simp)
theorem k_InvalidKind_InvalidTables (t : T K mg base) : PySem.W.kitOne K (.ref (He.ga K "InvalidKind")) (.ref (He.ga K "InvalidTables")) = some false := (QH.kin_ok (t.c.fact 70 (f := QH.kin "InvalidKind" [(.type "ValueError", true), (.type "LookupError", false), (.type "RuntimeError", false), (.type "ArithmeticError", false)] [("CastError", true), ("InvalidName", false), ("InvalidValue", false), ("InvalidShape", false), ("InvalidTable", false), ("InvalidTables", false), ("InvalidScheme", false), ("InvalidSchemes", false)]) rfl)).2 ("InvalidTables", _) (by simp)
theorem k_InvalidKind_InvalidScheme (t : T K mg base) : PySem.W.kitOne K (.ref (He.ga K "InvalidKind")) (.ref (He.ga K "InvalidScheme")) = some false := (QH.kin_ok (t.c.fact 70 (f := QH.kin "InvalidKind" [(.type "ValueError", true), (.type "LookupError", false), (.type "RuntimeError", false), (.type "ArithmeticError", false)] [("CastError", true), ("InvalidName", false), ("InvalidValue", false), ("InvalidShape", false), ("InvalidTable", false), ("InvalidTables", false), ("InvalidScheme", false), ("InvalidSchemes", false)]) rfl)).2 ("InvalidScheme", _) (by simp)
theorem k_InvalidKind_InvalidSchemes (t : T K mg base) : PySem.W.kitOne K (.ref (He.ga K "InvalidKind")) (.ref (He.ga K "InvalidSchemes")) = some false := (QH.kin_ok (t.c.fact 70 (f := QH.kin "InvalidKind" [(.type "ValueError", true), (.type "LookupError", false), (.type "RuntimeError", false), (.type "ArithmeticError", false)] [("CastError", true), ("InvalidName", false), ("InvalidValue", false), ("InvalidShape", false), ("InvalidTable", false), ("InvalidTables", false), ("InvalidScheme", false), ("InvalidSchemes", false)]) rfl)).2 ("InvalidSchemes", _) (by simp)
theorem i_InvalidKind (t : T K mg base) : PySem.W.findIn K (.ref (He.ga K "InvalidKind")) "__init__" = some (some (.ref (He.ma K (He.ga K "InvalidKind") "__init__"))) ∧ PySem.W.typeIn K (.ref (He.ma K (He.ga K "InvalidKind") "__init__")) = some (.type "function") ∧ ∀ f ∈ (["value"] : List Str), PySem.W.findIn K (.ref (He.ga K "InvalidKind")) f = some none := QH.ini_ok (t.c.fact 69 (f := QH.ini "InvalidKind" ["value"]) rfl)
theorem si_InvalidKind : FnScope ["self", "value"] ["self", "value"] (defScope (inClass (top 5) 0)) := ⟨rfl, rfl, rfl, by decide +kernel, rfl, by decide +kernel, by decide +kernel⟩
theorem m_InvalidKind (t : T K mg base) : QE.MkE P w K mg base "InvalidKind" (He.ga K "InvalidKind") ["value"] := by
  obtain ⟨fd, F⟩ := t.c.def_ 16
  exact ⟨_, fd, ["self", "value"], (x_InvalidKind t).x, (i_InvalidKind t).1, (i_InvalidKind t).2.1, F.ok si_InvalidKind (QW.spI.len rfl) (fun cdv A outer s H vs Q E hr h => ⟨_, PSs.nox (pss_cons (ps_expr (QE.pe_binit rfl (g_CastError t) (cre t).1 (cre t).2 (pa_cons (pv 0) (pa_cons pe_str pa_nil)))) (pss_one (QE.ps_st (pv 0) (pv 1)))), QW.pure_init1 (x_InvalidKind t) ((i_InvalidKind t).2.2 _ (by simp)) h rfl⟩), F.bindsN (fun _ _ _ _ _ _ us hl => match us, hl with | [_, _], _ => rfl), g_InvalidKind t⟩
theorem x_InvalidPath (t : T K mg base) : QE.ExB K (He.ga K "InvalidPath") "ValueError" "ValueError.__new__" "ValueError.__init__" veL := QH.exc_ok PySem.F.excBase_ValueError PySem.F.store_ValueError (t.c.fact 72 (f := QH.exc "InvalidPath" "ValueError.__new__" veL) rfl)
theorem k_InvalidPath (t : T K mg base) : QW.KinOk K (He.ga K "InvalidPath") (He.ga K "CastError") true true false false false := by
  have h := QH.kin_ok (t.c.fact 74 (f := QH.kin "InvalidPath" [(.type "ValueError", true), (.type "LookupError", false), (.type "RuntimeError", false), (.type "ArithmeticError", false)] [("CastError", true), ("InvalidName", false), ("InvalidValue", false), ("InvalidShape", false), ("InvalidTable", false), ("InvalidTables", false), ("InvalidScheme", false), ("InvalidSchemes", false)]) rfl)
  exact ⟨(x_InvalidPath t).x, h.2 _ List.mem_cons_self, h.1 (.type "ValueError", _) (by simp), h.1 (.type "LookupError", _) (by simp), h.1 (.type "RuntimeError", _) (by simp), h.1 (.type "ArithmeticError", _) (by simp), of_decide_eq_true (t.c.fact 75 (f := QH.kint "InvalidPath" [.type "KeyError", .type "IndexError"] false) rfl)⟩
theorem k_InvalidPath_InvalidName (t : T K mg base) : PySem.W.kitOne K (.ref (He.ga K "InvalidPath")) (.ref (He.ga K "InvalidName")) = some false := (QH.kin_ok (t.c.fact 74 (f := QH.kin "InvalidPath" [(.type "ValueError", true), (.type "LookupError", false), (.type "RuntimeError", false), (.type "ArithmeticError", false)] [("CastError", true), ("InvalidName", false), ("InvalidValue", false), ("InvalidShape", false), ("InvalidTable", false), ("InvalidTables", false), ("InvalidScheme", false), ("InvalidSchemes", false)]) rfl)).2 ("InvalidName", _) (by simp)
theorem k_InvalidPath_InvalidValue (t : T K mg base) : PySem.W.kitOne K (.ref (He.ga K "InvalidPath")) (.ref (He.ga K "InvalidValue")) = some false := (QH.kin_ok (t.c.fact 74 (f := QH.kin "InvalidPath" [(.type "ValueError", true), (.type "LookupError", false), (.type "RuntimeError", false), (.type "ArithmeticError", false)] [("CastError", true), ("InvalidName", false), ("InvalidValue", false), ("InvalidShape", false), ("InvalidTable", false), ("InvalidTables", false), ("InvalidScheme", false), ("InvalidSchemes", false)]) rfl)).2 ("InvalidValue", _) (by simp)
theorem k_InvalidPath_InvalidShape (t : T K mg base) : PySem.W.kitOne K (.ref (He.ga K "InvalidPath")) (.ref (He.ga K "InvalidShape")) = some false := (QH.kin_ok (t.c.fact 74 (f := QH.kin "InvalidPath" [(.type "ValueError", true), (.type "LookupError", false), (.type "RuntimeError", false), (.type "ArithmeticError", false)] [("CastError", true), ("InvalidName", false), ("InvalidValue", false), ("InvalidShape", false), ("InvalidTable", false), ("InvalidTables", false), ("InvalidScheme", false), ("InvalidSchemes", false)]) rfl)).2 ("InvalidShape", _) (by simp)
theorem k_InvalidPath_InvalidTable (t : T K mg base) : PySem.W.kitOne K (.ref (He.ga K "InvalidPath")) (.ref (He.ga K "InvalidTable")) = some false := (QH.kin_ok (t.c.fact 74 (f := QH.kin "InvalidPath" [(.type "ValueError", true), (.type "LookupError", false), (.type "RuntimeError", false), (.type "ArithmeticError", false)] [("CastError", true), ("InvalidName", false), ("InvalidValue", false), ("InvalidShape", false), ("InvalidTable", false), ("InvalidTables", false), ("InvalidScheme", false), ("InvalidSchemes", false)]) rfl)).2 ("InvalidTable", _) (by simp)
theorem k_InvalidPath_InvalidTables (t : T K mg base) : PySem.W.kitOne K (.ref (He.ga K "InvalidPath")) (.ref (He.ga K "InvalidTables")) = some false := (QH.kin_ok (t.c.fact 74 (f := QH.kin "InvalidPath" [(.type "ValueError", true), (.type "LookupError", false), (.type "RuntimeError", false), (.type "ArithmeticError", false)] [("CastError", true), ("InvalidName", false), ("InvalidValue", false), ("InvalidShape", false), ("InvalidTable", false), ("InvalidTables", false), ("InvalidScheme", false), ("InvalidSchemes", false)]) rfl)).2 ("InvalidTables", _) (by simp)
theorem k_InvalidPath_InvalidScheme (t : T K mg base) : PySem.W.kitOne K (.ref (He.ga K "InvalidPath")) (.ref (He.ga K "InvalidScheme")) = some false := (QH.kin_ok (t.c.fact 74 (f := QH.kin "InvalidPath" [(.type "ValueError", true), (.type "LookupError", false), (.type "RuntimeError", false), (.type "ArithmeticError", false)] [("CastError", true), ("InvalidName", false), ("InvalidValue", false), ("InvalidShape", false), ("InvalidTable", false), ("InvalidTables", false), ("InvalidScheme", false), ("InvalidSchemes", false)]) rfl)).2 ("InvalidScheme", _) (by simp)
theorem k_InvalidPath_InvalidSchemes (t : T K mg base) : PySem.W.kitOne K (.ref (He.ga K "InvalidPath")) (.ref (He.ga K "InvalidSchemes")) = some false := (QH.kin_ok (t.c.fact 74 (f := QH.kin "InvalidPath" [(.type "ValueError", true), (.type "LookupError", false), (.type "RuntimeError", false), (.type "ArithmeticError", false)] [("CastError", true), ("InvalidName", false), ("InvalidValue", false), ("InvalidShape", false), ("InvalidTable", false), ("InvalidTables", false), ("InvalidScheme", false), ("InvalidSchemes", false)]) rfl)).2 ("InvalidSchemes", _) (by simp)
theorem i_InvalidPath (t : T K mg base) : PySem.W.findIn K (.ref (He.ga K "InvalidPath")) "__init__" = some (some (.ref (He.ma K (He.ga K "InvalidPath") "__init__"))) ∧ PySem.W.typeIn K (.ref (He.ma K (He.ga K "InvalidPath") "__init__")) = some (.type "function") ∧ ∀ f ∈ (["value"] : List Str), PySem.W.findIn K (.ref (He.ga K "InvalidPath")) f = some none := QH.ini_ok (t.c.fact 73 (f := QH.ini "InvalidPath" ["value"]) rfl)
theorem si_InvalidPath : FnScope ["self", "value"] ["self", "value"] (defScope (inClass (top 6) 0)) := ⟨rfl, rfl, rfl, by decide +kernel, rfl, by decide +kernel, by decide +kernel⟩
theorem m_InvalidPath (t : T K mg base) : QE.MkE P w K mg base "InvalidPath" (He.ga K "InvalidPath") ["value"] := by
  obtain ⟨fd, F⟩ := t.c.def_ 17
  exact ⟨_, fd, ["self", "value"], (x_InvalidPath t).x, (i_InvalidPath t).1, (i_InvalidPath t).2.1, F.ok si_InvalidPath (QW.spI.len rfl) (fun cdv A outer s H vs Q E hr h => ⟨_, PSs.nox (pss_cons (ps_expr (QE.pe_binit rfl (g_CastError t) (cre t).1 (cre t).2 (pa_cons (pv 0) (pa_cons pe_str pa_nil)))) (pss_one (QE.ps_st (pv 0) (pv 1)))), QW.pure_init1 (x_InvalidPath t) ((i_InvalidPath t).2.2 _ (by simp)) h rfl⟩), F.bindsN (fun _ _ _ _ _ _ us hl => match us, hl with | [_, _], _ => rfl), g_InvalidPath t⟩
theorem x_InvalidShape (t : T K mg base) : QE.ExB K (He.ga K "InvalidShape") "ValueError" "ValueError.__new__" "ValueError.__init__" veL := QH.exc_ok PySem.F.excBase_ValueError PySem.F.store_ValueError (t.c.fact 76 (f := QH.exc "InvalidShape" "ValueError.__new__" veL) rfl)
theorem k_InvalidShape (t : T K mg base) : QW.KinOk K (He.ga K "InvalidShape") (He.ga K "CastError") true true false false false := by
  have h := QH.kin_ok (t.c.fact 78 (f := QH.kin "InvalidShape" [(.type "ValueError", true), (.type "LookupError", false), (.type "RuntimeError", false), (.type "ArithmeticError", false)] [("CastError", true), ("InvalidName", false), ("InvalidValue", false), ("InvalidShape", true), ("InvalidTable", false), ("InvalidTables", false), ("InvalidScheme", false), ("InvalidSchemes", false)]) rfl)
  exact ⟨(x_InvalidShape t).x, h.2 _ List.mem_cons_self, h.1 (.type "ValueError", _) (by simp), h.1 (.type "LookupError", _) (by simp), h.1 (.type "RuntimeError", _) (by simp), h.1 (.type "ArithmeticError", _) (by simp), of_decide_eq_true (t.c.fact 79 (f := QH.kint "InvalidShape" [.type "KeyError", .type "IndexError"] false) rfl)⟩
theorem k_InvalidShape_InvalidName (t : T K mg base) : PySem.W.kitOne K (.ref (He.ga K "InvalidShape")) (.ref (He.ga K "InvalidName")) = some false := (QH.kin_ok (t.c.fact 78 (f := QH.kin "InvalidShape" [(.type "ValueError", true), (.type "LookupError", false), (.type "RuntimeError", false), (.type "ArithmeticError", false)] [("CastError", true), ("InvalidName", false), ("InvalidValue", false), ("InvalidShape", true), ("InvalidTable", false), ("InvalidTables", false), ("InvalidScheme", false), ("InvalidSchemes", false)]) rfl)).2 ("InvalidName", _) (by simp)
theorem k_InvalidShape_InvalidValue (t : T K mg base) : PySem.W.kitOne K (.ref (He.ga K "InvalidShape")) (.ref (He.ga K "InvalidValue")) = some false := (QH.kin_ok (t.c.fact 78 (f := QH.kin "InvalidShape" [(.type "ValueError", true), (.type "LookupError", false), (.type "RuntimeError", false), (.type "ArithmeticError", false)] [("CastError", true), ("InvalidName", false), ("InvalidValue", false), ("InvalidShape", true), ("InvalidTable", false), ("InvalidTables", false), ("InvalidScheme", false), ("InvalidSchemes", false)]) rfl)).2 ("InvalidValue", _) (by simp)
theorem k_InvalidShape_InvalidShape (t : T K mg base) : PySem.W.kitOne K (.ref (He.ga K "InvalidShape")) (.ref (He.ga K "InvalidShape")) = some true := (QH.kin_ok (t.c.fact 78 (f := QH.kin "InvalidShape" [(.type "ValueError", true), (.type "LookupError", false), (.type "RuntimeError", false), (.type "ArithmeticError", false)] [("CastError", true), ("InvalidName", false), ("InvalidValue", false), ("InvalidShape", true), ("InvalidTable", false), ("InvalidTables", false), ("InvalidScheme", false), ("InvalidSchemes", false)]) rfl)).2 ("InvalidShape", _) (by simp)
theorem k_InvalidShape_InvalidTable (t : T K mg base) : PySem.W.kitOne K (.ref (He.ga K "InvalidShape")) (.ref (He.ga K "InvalidTable")) = some false := (QH.kin_ok (t.c.fact 78 (f := QH.kin "InvalidShape" [(.type "ValueError", true), (.type "LookupError", false), (.type "RuntimeError", false), (.type "ArithmeticError", false)] [("CastError", true), ("InvalidName", false), ("InvalidValue", false), ("InvalidShape", true), ("InvalidTable", false), ("InvalidTables", false), ("InvalidScheme", false), ("InvalidSchemes", false)]) rfl)).2 ("InvalidTable", _) (by simp)
theorem k_InvalidShape_InvalidTables (t : T K mg base) : PySem.W.kitOne K (.ref (He.ga K "InvalidShape")) (.ref (He.ga K "InvalidTables")) = some false := (QH.kin_ok (t.c.fact 78 (f := QH.kin "InvalidShape" [(.type "ValueError", true), (.type "LookupError", false), (.type "RuntimeError", false), (.type "ArithmeticError", false)] [("CastError", true), ("InvalidName", false), ("InvalidValue", false), ("InvalidShape", true), ("InvalidTable", false), ("InvalidTables", false), ("InvalidScheme", false), ("InvalidSchemes", false)]) rfl)).2 ("InvalidTables", _) (by simp)
theorem k_InvalidShape_InvalidScheme (t : T K mg base) : PySem.W.kitOne K (.ref (He.ga K "InvalidShape")) (.ref (He.ga K "InvalidScheme")) = some false := (QH.kin_ok (t.c.fact 78 (f := QH.kin "InvalidShape" [(.type "ValueError", true), (.type "LookupError", false), (.type "RuntimeError", false), (.type "ArithmeticError", false)] [("CastError", true), ("InvalidName", false), ("InvalidValue", false), ("InvalidShape", true), ("InvalidTable", false), ("InvalidTables", false), ("InvalidScheme", false), ("InvalidSchemes", false)]) rfl)).2 ("InvalidScheme", _) (by simp)
theorem k_InvalidShape_InvalidSchemes (t : T K mg base) : PySem.W.kitOne K (.ref (He.ga K "InvalidShape")) (.ref (He.ga K "InvalidSchemes")) = some false := (QH.kin_ok (t.c.fact 78 (f := QH.kin "InvalidShape" [(.type "ValueError", true), (.type "LookupError", false), (.type "RuntimeError", false), (.type "ArithmeticError", false)] [("CastError", true), ("InvalidName", false), ("InvalidValue", false), ("InvalidShape", true), ("InvalidTable", false), ("InvalidTables", false), ("InvalidScheme", false), ("InvalidSchemes", false)]) rfl)).2 ("InvalidSchemes", _) (by simp)
theorem i_InvalidShape (t : T K mg base) : PySem.W.findIn K (.ref (He.ga K "InvalidShape")) "__init__" = some (some (.ref (He.ma K (He.ga K "InvalidShape") "__init__"))) ∧ PySem.W.typeIn K (.ref (He.ma K (He.ga K "InvalidShape") "__init__")) = some (.type "function") ∧ ∀ f ∈ (["value"] : List Str), PySem.W.findIn K (.ref (He.ga K "InvalidShape")) f = some none := QH.ini_ok (t.c.fact 77 (f := QH.ini "InvalidShape" ["value"]) rfl)
theorem si_InvalidShape : FnScope ["self", "value"] ["self", "value"] (defScope (inClass (top 7) 0)) := ⟨rfl, rfl, rfl, by decide +kernel, rfl, by decide +kernel, by decide +kernel⟩
theorem m_InvalidShape (t : T K mg base) : QE.MkE P w K mg base "InvalidShape" (He.ga K "InvalidShape") ["value"] := by
  obtain ⟨fd, F⟩ := t.c.def_ 18
  exact ⟨_, fd, ["self", "value"], (x_InvalidShape t).x, (i_InvalidShape t).1, (i_InvalidShape t).2.1, F.ok si_InvalidShape (QW.spI.len rfl) (fun cdv A outer s H vs Q E hr h => ⟨_, PSs.nox (pss_cons (ps_expr (QE.pe_binit rfl (g_CastError t) (cre t).1 (cre t).2 (pa_cons (pv 0) (pa_cons pe_str pa_nil)))) (pss_one (QE.ps_st (pv 0) (pv 1)))), QW.pure_init1 (x_InvalidShape t) ((i_InvalidShape t).2.2 _ (by simp)) h rfl⟩), F.bindsN (fun _ _ _ _ _ _ us hl => match us, hl with | [_, _], _ => rfl), g_InvalidShape t⟩
theorem x_InvalidWay (t : T K mg base) : QE.ExB K (He.ga K "InvalidWay") "ValueError" "ValueError.__new__" "ValueError.__init__" veL := QH.exc_ok PySem.F.excBase_ValueError PySem.F.store_ValueError (t.c.fact 80 (f := QH.exc "InvalidWay" "ValueError.__new__" veL) rfl)
theorem k_InvalidWay (t : T K mg base) : QW.KinOk K (He.ga K "InvalidWay") (He.ga K "CastError") true true false false false := by
  have h := QH.kin_ok (t.c.fact 82 (f := QH.kin "InvalidWay" [(.type "ValueError", true), (.type "LookupError", false), (.type "RuntimeError", false), (.type "ArithmeticError", false)] [("CastError", true), ("InvalidName", false), ("InvalidValue", false), ("InvalidShape", false), ("InvalidTable", false), ("InvalidTables", false), ("InvalidScheme", false), ("InvalidSchemes", false)]) rfl)
  exact ⟨(x_InvalidWay t).x, h.2 _ List.mem_cons_self, h.1 (.type "ValueError", _) (by simp), h.1 (.type "LookupError", _) (by simp), h.1 (.type "RuntimeError", _) (by simp), h.1 (.type "ArithmeticError", _) (by simp), of_decide_eq_true (t.c.fact 83 (f := QH.kint "InvalidWay" [.type "KeyError", .type "IndexError"] false) rfl)⟩
theorem k_InvalidWay_InvalidName (t : T K mg base) : PySem.W.kitOne K (.ref (He.ga K "InvalidWay")) (.ref (He.ga K "InvalidName")) = some false := (QH.kin_ok (t.c.fact 82 (f := QH.kin "InvalidWay" [(.type "ValueError", true), (.type "LookupError", false), (.type "RuntimeError", false), (.type "ArithmeticError", false)] [("CastError", true), ("InvalidName", false), ("InvalidValue", false), ("InvalidShape", false), ("InvalidTable", false), ("InvalidTables", false), ("InvalidScheme", false), ("InvalidSchemes", false)]) rfl)).2 ("InvalidName", _) (by simp)
theorem k_InvalidWay_InvalidValue (t : T K mg base) : PySem.W.kitOne K (.ref (He.ga K "InvalidWay")) (.ref (He.ga K "InvalidValue")) = some false := (QH.kin_ok (t.c.fact 82 (f := QH.kin "InvalidWay" [(.type "ValueError", true), (.type "LookupError", false), (.type "RuntimeError", false), (.type "ArithmeticError", false)] [("CastError", true), ("InvalidName", false), ("InvalidValue", false), ("InvalidShape", false), ("InvalidTable", false), ("InvalidTables", false), ("InvalidScheme", false), ("InvalidSchemes", false)]) rfl)).2 ("InvalidValue", _) (by simp)
theorem k_InvalidWay_InvalidShape (t : T K mg base) : PySem.W.kitOne K (.ref (He.ga K "InvalidWay")) (.ref (He.ga K "InvalidShape")) = some false := (QH.kin_ok (t.c.fact 82 (f := QH.kin "InvalidWay" [(.type "ValueError", true), (.type "LookupError", false), (.type "RuntimeError", false), (.type "ArithmeticError", false)] [("CastError", true), ("InvalidName", false), ("InvalidValue", false), ("InvalidShape", false), ("InvalidTable", false), ("InvalidTables", false), ("InvalidScheme", false), ("InvalidSchemes", false)]) rfl)).2 ("InvalidShape", _) (by simp)
theorem k_InvalidWay_InvalidTable (t : T K mg base) : PySem.W.kitOne K (.ref (He.ga K "InvalidWay")) (.ref (He.ga K "InvalidTable")) = some false := (QH.kin_ok (t.c.fact 82 (f := QH.kin "InvalidWay" [(.type "ValueError", true), (.type "LookupError", false), (.type "RuntimeError", false), (.type "ArithmeticError", false)] [("CastError", true), ("InvalidName", false), ("InvalidValue", false), ("InvalidShape", false), ("InvalidTable", false), ("InvalidTables", false), ("InvalidScheme", false), ("InvalidSchemes", false)]) rfl)).2 ("InvalidTable", _) (by simp)
theorem k_InvalidWay_InvalidTables (t : T K mg base) : PySem.W.kitOne K (.ref (He.ga K "InvalidWay")) (.ref (He.ga K "InvalidTables")) = some false := (QH.kin_ok (t.c.fact 82 (f := QH.kin "InvalidWay" [(.type "ValueError", true), (.type "LookupError", false), (.type "RuntimeError", false), (.type "ArithmeticError", false)] [("CastError", true), ("InvalidName", false), ("InvalidValue", false), ("InvalidShape", false), ("InvalidTable", false), ("InvalidTables", false), ("InvalidScheme", false), ("InvalidSchemes", false)]) rfl)).2 ("InvalidTables", _) (by simp)
theorem k_InvalidWay_InvalidScheme (t : T K mg base) : PySem.W.kitOne K (.ref (He.ga K "InvalidWay")) (.ref (He.ga K "InvalidScheme")) = some false := (QH.kin_ok (t.c.fact 82 (f := QH.kin "InvalidWay" [(.type "ValueError", true), (.type "LookupError", false), (.type "RuntimeError", false), (.type "ArithmeticError", false)] [("CastError", true), ("InvalidName", false), ("InvalidValue", false), ("InvalidShape", false), ("InvalidTable", false), ("InvalidTables", false), ("InvalidScheme", false), ("InvalidSchemes", false)]) rfl)).2 ("InvalidScheme", _) (by simp)
theorem k_InvalidWay_InvalidSchemes (t : T K mg base) : PySem.W.kitOne K (.ref (He.ga K "InvalidWay")) (.ref (He.ga K "InvalidSchemes")) = some false := (QH.kin_ok (t.c.fact 82 (f := QH.kin "InvalidWay" [(.type "ValueError", true), (.type "LookupError", false), (.type "RuntimeError", false), (.type "ArithmeticError", false)] [("CastError", true), ("InvalidName", false), ("InvalidValue", false), ("InvalidShape", false), ("InvalidTable", false), ("InvalidTables", false), ("InvalidScheme", false), ("InvalidSchemes", false)]) rfl)).2 ("InvalidSchemes", _) (by simp)
theorem i_InvalidWay (t : T K mg base) : PySem.W.findIn K (.ref (He.ga K "InvalidWay")) "__init__" = some (some (.ref (He.ma K (He.ga K "InvalidWay") "__init__"))) ∧ PySem.W.typeIn K (.ref (He.ma K (He.ga K "InvalidWay") "__init__")) = some (.type "function") ∧ ∀ f ∈ (["value"] : List Str), PySem.W.findIn K (.ref (He.ga K "InvalidWay")) f = some none := QH.ini_ok (t.c.fact 81 (f := QH.ini "InvalidWay" ["value"]) rfl)
theorem si_InvalidWay : FnScope ["self", "value"] ["self", "value"] (defScope (inClass (top 8) 0)) := ⟨rfl, rfl, rfl, by decide +kernel, rfl, by decide +kernel, by decide +kernel⟩
theorem m_InvalidWay (t : T K mg base) : QE.MkE P w K mg base "InvalidWay" (He.ga K "InvalidWay") ["value"] := by
  obtain ⟨fd, F⟩ := t.c.def_ 19
  exact ⟨_, fd, ["self", "value"], (x_InvalidWay t).x, (i_InvalidWay t).1, (i_InvalidWay t).2.1, F.ok si_InvalidWay (QW.spI.len rfl) (fun cdv A outer s H vs Q E hr h => ⟨_, PSs.nox (pss_cons (ps_expr (QE.pe_binit rfl (g_CastError t) (cre t).1 (cre t).2 (pa_cons (pv 0) (pa_cons pe_str pa_nil)))) (pss_one (QE.ps_st (pv 0) (pv 1)))), QW.pure_init1 (x_InvalidWay t) ((i_InvalidWay t).2.2 _ (by simp)) h rfl⟩), F.bindsN (fun _ _ _ _ _ _ us hl => match us, hl with | [_, _], _ => rfl), g_InvalidWay t⟩
theorem x_InvalidComparisons (t : T K mg base) : QE.ExB K (He.ga K "InvalidComparisons") "ValueError" "ValueError.__new__" "ValueError.__init__" veL := QH.exc_ok PySem.F.excBase_ValueError PySem.F.store_ValueError (t.c.fact 84 (f := QH.exc "InvalidComparisons" "ValueError.__new__" veL) rfl)
theorem k_InvalidComparisons (t : T K mg base) : QW.KinOk K (He.ga K "InvalidComparisons") (He.ga K "CastError") true true false false false := by
  have h := QH.kin_ok (t.c.fact 86 (f := QH.kin "InvalidComparisons" [(.type "ValueError", true), (.type "LookupError", false), (.type "RuntimeError", false), (.type "ArithmeticError", false)] [("CastError", true), ("InvalidName", false), ("InvalidValue", false), ("InvalidShape", false), ("InvalidTable", false), ("InvalidTables", false), ("InvalidScheme", false), ("InvalidSchemes", false)]) rfl)
  exact ⟨(x_InvalidComparisons t).x, h.2 _ List.mem_cons_self, h.1 (.type "ValueError", _) (by simp), h.1 (.type "LookupError", _) (by simp), h.1 (.type "RuntimeError", _) (by simp), h.1 (.type "ArithmeticError", _) (by simp), of_decide_eq_true (t.c.fact 87 (f := QH.kint "InvalidComparisons" [.type "KeyError", .type "IndexError"] false) rfl)⟩
theorem k_InvalidComparisons_InvalidName (t : T K mg base) : PySem.W.kitOne K (.ref (He.ga K "InvalidComparisons")) (.ref (He.ga K "InvalidName")) = some false := (QH.kin_ok (t.c.fact 86 (f := QH.kin "InvalidComparisons" [(.type "ValueError", true), (.type "LookupError", false), (.type "RuntimeError", false), (.type "ArithmeticError", false)] [("CastError", true), ("InvalidName", false), ("InvalidValue", false), ("InvalidShape", false), ("InvalidTable", false), ("InvalidTables", false), ("InvalidScheme", false), ("InvalidSchemes", false)]) rfl)).2 ("InvalidName", _) (by simp)
theorem k_InvalidComparisons_InvalidValue (t : T K mg base) : PySem.W.kitOne K (.ref (He.ga K "InvalidComparisons")) (.ref (He.ga K "InvalidValue")) = some false := (QH.kin_ok (t.c.fact 86 (f := QH.kin "InvalidComparisons" [(.type "ValueError", true), (.type "LookupError", false), (.type "RuntimeError", false), (.type "ArithmeticError", false)] [("CastError", true), ("InvalidName", false), ("InvalidValue", false), ("InvalidShape", false), ("InvalidTable", false), ("InvalidTables", false), ("InvalidScheme", false), ("InvalidSchemes", false)]) rfl)).2 ("InvalidValue", _) (by simp)
theorem k_InvalidComparisons_InvalidShape (t : T K mg base) : PySem.W.kitOne K (.ref (He.ga K "InvalidComparisons")) (.ref (He.ga K "InvalidShape")) = some false := (QH.kin_ok (t.c.fact 86 (f := QH.kin "InvalidComparisons" [(.type "ValueError", true), (.type "LookupError", false), (.type "RuntimeError", false), (.type "ArithmeticError", false)] [("CastError", true), ("InvalidName", false), ("InvalidValue", false), ("InvalidShape", false), ("InvalidTable", false), ("InvalidTables", false), ("InvalidScheme", false), ("InvalidSchemes", false)]) rfl)).2 ("InvalidShape", _) (by simp)
theorem k_InvalidComparisons_InvalidTable (t : T K mg base) : PySem.W.kitOne K (.ref (He.ga K "InvalidComparisons")) (.ref (He.ga K "InvalidTable")) = some false := (QH.kin_ok (t.c.fact 86 (f := QH.kin "InvalidComparisons" [(.type "ValueError", true), (.type "LookupError", false), (.type "RuntimeError", false), (.type "ArithmeticError", false)] [("CastError", true), ("InvalidName", false), ("InvalidValue", false), ("InvalidShape", false), ("InvalidTable", false), ("InvalidTables", false), ("InvalidScheme", false), ("InvalidSchemes", false)]) rfl)).2 ("InvalidTable", _) (by simp)
theorem k_InvalidComparisons_InvalidTables (t : T K mg base) : PySem.W.kitOne K (.ref (He.ga K "InvalidComparisons")) (.ref (He.ga K "InvalidTables")) = some false := (QH.kin_ok (t.c.fact 86 (f := QH.kin "InvalidComparisons" [(.type "ValueError", true), (.type "LookupError", false), (.type "RuntimeError", false), (.type "ArithmeticError", false)] [("CastError", true), ("InvalidName", false), ("InvalidValue", false), ("InvalidShape", false), ("InvalidTable", false), ("InvalidTables", false), ("InvalidScheme", false), ("InvalidSchemes", false)]) rfl)).2 ("InvalidTables", _) (by simp)
theorem k_InvalidComparisons_InvalidScheme (t : T K mg base) : PySem.W.kitOne K (.ref (He.ga K "InvalidComparisons")) (.ref (He.ga K "InvalidScheme")) = some false := (QH.kin_ok (t.c.fact 86 (f := QH.kin "InvalidComparisons" [(.type "ValueError", true), (.type "LookupError", false), (.type "RuntimeError", false), (.type "ArithmeticError", false)] [("CastError", true), ("InvalidName", false), ("InvalidValue", false), ("InvalidShape", false), ("InvalidTable", false), ("InvalidTables", false), ("InvalidScheme", false), ("InvalidSchemes", false)]) rfl)).2 ("InvalidScheme", _) (by simp)
theorem k_InvalidComparisons_InvalidSchemes (t : T K mg base) : PySem.W.kitOne K (.ref (He.ga K "InvalidComparisons")) (.ref (He.ga K "InvalidSchemes")) = some false := (QH.kin_ok (t.c.fact 86 (f := QH.kin "InvalidComparisons" [(.type "ValueError", true), (.type "LookupError", false), (.type "RuntimeError", false), (.type "ArithmeticError", false)] [("CastError", true), ("InvalidName", false), ("InvalidValue", false), ("InvalidShape", false), ("InvalidTable", false), ("InvalidTables", false), ("InvalidScheme", false), ("InvalidSchemes", false)]) rfl)).2 ("InvalidSchemes", _) (by simp)
theorem i_InvalidComparisons (t : T K mg base) : PySem.W.findIn K (.ref (He.ga K "InvalidComparisons")) "__init__" = some (some (.ref (He.ma K (He.ga K "InvalidComparisons") "__init__"))) ∧ PySem.W.typeIn K (.ref (He.ma K (He.ga K "InvalidComparisons") "__init__")) = some (.type "function") ∧ ∀ f ∈ (["position"] : List Str), PySem.W.findIn K (.ref (He.ga K "InvalidComparisons")) f = some none := QH.ini_ok (t.c.fact 85 (f := QH.ini "InvalidComparisons" ["position"]) rfl)
theorem si_InvalidComparisons : FnScope ["self", "position"] ["self", "position"] (defScope (inClass (top 9) 0)) := ⟨rfl, rfl, rfl, by decide +kernel, rfl, by decide +kernel, by decide +kernel⟩
theorem m_InvalidComparisons (t : T K mg base) : QE.MkE P w K mg base "InvalidComparisons" (He.ga K "InvalidComparisons") ["position"] := by
  obtain ⟨fd, F⟩ := t.c.def_ 20
  exact ⟨_, fd, ["self", "position"], (x_InvalidComparisons t).x, (i_InvalidComparisons t).1, (i_InvalidComparisons t).2.1, F.ok si_InvalidComparisons (QW.spI.len rfl) (fun cdv A outer s H vs Q E hr h => ⟨_, PSs.nox (pss_cons (ps_expr (QE.pe_binit rfl (g_CastError t) (cre t).1 (cre t).2 (pa_cons (pv 0) (pa_cons pe_str pa_nil)))) (pss_one (QE.ps_st (pv 0) (pv 1)))), QW.pure_init1 (x_InvalidComparisons t) ((i_InvalidComparisons t).2.2 _ (by simp)) h rfl⟩), F.bindsN (fun _ _ _ _ _ _ us hl => match us, hl with | [_, _], _ => rfl), g_InvalidComparisons t⟩
theorem x_InvalidSchemes (t : T K mg base) : QE.ExB K (He.ga K "InvalidSchemes") "ValueError" "ValueError.__new__" "ValueError.__init__" veL := QH.exc_ok PySem.F.excBase_ValueError PySem.F.store_ValueError (t.c.fact 88 (f := QH.exc "InvalidSchemes" "ValueError.__new__" veL) rfl)
theorem k_InvalidSchemes (t : T K mg base) : QW.KinOk K (He.ga K "InvalidSchemes") (He.ga K "CastError") true true false false false := by
  have h := QH.kin_ok (t.c.fact 90 (f := QH.kin "InvalidSchemes" [(.type "ValueError", true), (.type "LookupError", false), (.type "RuntimeError", false), (.type "ArithmeticError", false)] [("CastError", true), ("InvalidName", false), ("InvalidValue", false), ("InvalidShape", false), ("InvalidTable", false), ("InvalidTables", false), ("InvalidScheme", false), ("InvalidSchemes", true)]) rfl)
  exact ⟨(x_InvalidSchemes t).x, h.2 _ List.mem_cons_self, h.1 (.type "ValueError", _) (by simp), h.1 (.type "LookupError", _) (by simp), h.1 (.type "RuntimeError", _) (by simp), h.1 (.type "ArithmeticError", _) (by simp), of_decide_eq_true (t.c.fact 91 (f := QH.kint "InvalidSchemes" [.type "KeyError", .type "IndexError"] false) rfl)⟩
theorem k_InvalidSchemes_InvalidName (t : T K mg base) : PySem.W.kitOne K (.ref (He.ga K "InvalidSchemes")) (.ref (He.ga K "InvalidName")) = some false := (QH.kin_ok (t.c.fact 90 (f := QH.kin "InvalidSchemes" [(.type "ValueError", true), (.type "LookupError", false), (.type "RuntimeError", false), (.type "ArithmeticError", false)] [("CastError", true), ("InvalidName", false), ("InvalidValue", false), ("InvalidShape", false), ("InvalidTable", false), ("InvalidTables", false), ("InvalidScheme", false), ("InvalidSchemes", true)]) rfl)).2 ("InvalidName", _) (by simp)
theorem k_InvalidSchemes_InvalidValue (t : T K mg base) : PySem.W.kitOne K (.ref (He.ga K "InvalidSchemes")) (.ref (He.ga K "InvalidValue")) = some false := (QH.kin_ok (t.c.fact 90 (f := QH.kin "InvalidSchemes" [(.type "ValueError", true), (.type "LookupError", false), (.type "RuntimeError", false), (.type "ArithmeticError", false)] [("CastError", true), ("InvalidName", false), ("InvalidValue", false), ("InvalidShape", false), ("InvalidTable", false), ("InvalidTables", false), ("InvalidScheme", false), ("InvalidSchemes", true)]) rfl)).2 ("InvalidValue", _) (by simp)
theorem k_InvalidSchemes_InvalidShape (t : T K mg base) : PySem.W.kitOne K (.ref (He.ga K "InvalidSchemes")) (.ref (He.ga K "InvalidShape")) = some false := (QH.kin_ok (t.c.fact 90 (f := QH.kin "InvalidSchemes" [(.type "ValueError", true), (.type "LookupError", false), (.type "RuntimeError", false), (.type "ArithmeticError", false)] [("CastError", true), ("InvalidName", false), ("InvalidValue", false), ("InvalidShape", false), ("InvalidTable", false), ("InvalidTables", false), ("InvalidScheme", false), ("InvalidSchemes", true)]) rfl)).2 ("InvalidShape", _) (by simp)
theorem k_InvalidSchemes_InvalidTable (t : T K mg base) : PySem.W.kitOne K (.ref (He.ga K "InvalidSchemes")) (.ref (He.ga K "InvalidTable")) = some false := (QH.kin_ok (t.c.fact 90 (f := QH.kin "InvalidSchemes" [(.type "ValueError", true), (.type "LookupError", false), (.type "RuntimeError", false), (.type "ArithmeticError", false)] [("CastError", true), ("InvalidName", false), ("InvalidValue", false), ("InvalidShape", false), ("InvalidTable", false), ("InvalidTables", false), ("InvalidScheme", false), ("InvalidSchemes", true)]) rfl)).2 ("InvalidTable", _) (by simp)
theorem k_InvalidSchemes_InvalidTables (t : T K mg base) : PySem.W.kitOne K (.ref (He.ga K "InvalidSchemes")) (.ref (He.ga K "InvalidTables")) = some false := (QH.kin_ok (t.c.fact 90 (f := QH.kin "InvalidSchemes" [(.type "ValueError", true), (.type "LookupError", false), (.type "RuntimeError", false), (.type "ArithmeticError", false)] [("CastError", true), ("InvalidName", false), ("InvalidValue", false), ("InvalidShape", false), ("InvalidTable", false), ("InvalidTables", false), ("InvalidScheme", false), ("InvalidSchemes", true)]) rfl)).2 ("InvalidTables", _) (by simp)
theorem k_InvalidSchemes_InvalidScheme (t : T K mg base) : PySem.W.kitOne K (.ref (He.ga K "InvalidSchemes")) (.ref (He.ga K "InvalidScheme")) = some false := (QH.kin_ok (t.c.fact 90 (f := QH.kin "InvalidSchemes" [(.type "ValueError", true), (.type "LookupError", false), (.type "RuntimeError", false), (.type "ArithmeticError", false)] [("CastError", true), ("InvalidName", false), ("InvalidValue", false), ("InvalidShape", false), ("InvalidTable", false), ("InvalidTables", false), ("InvalidScheme", false), ("InvalidSchemes", true)]) rfl)).2 ("InvalidScheme", _) (by simp)
theorem k_InvalidSchemes_InvalidSchemes (t : T K mg base) : PySem.W.kitOne K (.ref (He.ga K "InvalidSchemes")) (.ref (He.ga K "InvalidSchemes")) = some true := (QH.kin_ok (t.c.fact 90 (f := QH.kin "InvalidSchemes" [(.type "ValueError", true), (.type "LookupError", false), (.type "RuntimeError", false), (.type "ArithmeticError", false)] [("CastError", true), ("InvalidName", false), ("InvalidValue", false), ("InvalidShape", false), ("InvalidTable", false), ("InvalidTables", false), ("InvalidScheme", false), ("InvalidSchemes", true)]) rfl)).2 ("InvalidSchemes", _) (by simp)
theorem i_InvalidSchemes (t : T K mg base) : PySem.W.findIn K (.ref (He.ga K "InvalidSchemes")) "__init__" = some (some (.ref (He.ma K (He.ga K "InvalidSchemes") "__init__"))) ∧ PySem.W.typeIn K (.ref (He.ma K (He.ga K "InvalidSchemes") "__init__")) = some (.type "function") ∧ ∀ f ∈ (["position"] : List Str), PySem.W.findIn K (.ref (He.ga K "InvalidSchemes")) f = some none := QH.ini_ok (t.c.fact 89 (f := QH.ini "InvalidSchemes" ["position"]) rfl)
theorem si_InvalidSchemes : FnScope ["self", "position"] ["self", "position"] (defScope (inClass (top 10) 0)) := ⟨rfl, rfl, rfl, by decide +kernel, rfl, by decide +kernel, by decide +kernel⟩
theorem m_InvalidSchemes (t : T K mg base) : QE.MkE P w K mg base "InvalidSchemes" (He.ga K "InvalidSchemes") ["position"] := by
  obtain ⟨fd, F⟩ := t.c.def_ 21
  exact ⟨_, fd, ["self", "position"], (x_InvalidSchemes t).x, (i_InvalidSchemes t).1, (i_InvalidSchemes t).2.1, F.ok si_InvalidSchemes (QW.spI.len rfl) (fun cdv A outer s H vs Q E hr h => ⟨_, PSs.nox (pss_cons (ps_expr (QE.pe_binit rfl (g_CastError t) (cre t).1 (cre t).2 (pa_cons (pv 0) (pa_cons pe_str pa_nil)))) (pss_one (QE.ps_st (pv 0) (pv 1)))), QW.pure_init1 (x_InvalidSchemes t) ((i_InvalidSchemes t).2.2 _ (by simp)) h rfl⟩), F.bindsN (fun _ _ _ _ _ _ us hl => match us, hl with | [_, _], _ => rfl), g_InvalidSchemes t⟩
theorem x_InvalidGroup (t : T K mg base) : QE.ExB K (He.ga K "InvalidGroup") "ValueError" "ValueError.__new__" "ValueError.__init__" veL := QH.exc_ok PySem.F.excBase_ValueError PySem.F.store_ValueError (t.c.fact 92 (f := QH.exc "InvalidGroup" "ValueError.__new__" veL) rfl)
theorem k_InvalidGroup (t : T K mg base) : QW.KinOk K (He.ga K "InvalidGroup") (He.ga K "CastError") true true false false false := by
  have h := QH.kin_ok (t.c.fact 94 (f := QH.kin "InvalidGroup" [(.type "ValueError", true), (.type "LookupError", false), (.type "RuntimeError", false), (.type "ArithmeticError", false)] [("CastError", true), ("InvalidName", false), ("InvalidValue", false), ("InvalidShape", false), ("InvalidTable", false), ("InvalidTables", false), ("InvalidScheme", false), ("InvalidSchemes", false)]) rfl)
  exact ⟨(x_InvalidGroup t).x, h.2 _ List.mem_cons_self, h.1 (.type "ValueError", _) (by simp), h.1 (.type "LookupError", _) (by simp), h.1 (.type "RuntimeError", _) (by simp), h.1 (.type "ArithmeticError", _) (by simp), of_decide_eq_true (t.c.fact 95 (f := QH.kint "InvalidGroup" [.type "KeyError", .type "IndexError"] false) rfl)⟩
theorem k_InvalidGroup_InvalidName (t : T K mg base) : PySem.W.kitOne K (.ref (He.ga K "InvalidGroup")) (.ref (He.ga K "InvalidName")) = some false := (QH.kin_ok (t.c.fact 94 (f := QH.kin "InvalidGroup" [(.type "ValueError", true), (.type "LookupError", false), (.type "RuntimeError", false), (.type "ArithmeticError", false)] [("CastError", true), ("InvalidName", false), ("InvalidValue", false), ("InvalidShape", false), ("InvalidTable", false), ("InvalidTables", false), ("InvalidScheme", false), ("InvalidSchemes", false)]) rfl)).2 ("InvalidName", _) (by simp)
theorem k_InvalidGroup_InvalidValue (t : T K mg base) : PySem.W.kitOne K (.ref (He.ga K "InvalidGroup")) (.ref (He.ga K "InvalidValue")) = some false := (QH.kin_ok (t.c.fact 94 (f := QH.kin "InvalidGroup" [(.type "ValueError", true), (.type "LookupError", false), (.type "RuntimeError", false), (.type "ArithmeticError", false)] [("CastError", true), ("InvalidName", false), ("InvalidValue", false), ("InvalidShape", false), ("InvalidTable", false), ("InvalidTables", false), ("InvalidScheme", false), ("InvalidSchemes", false)]) rfl)).2 ("InvalidValue", _) (by simp)
theorem k_InvalidGroup_InvalidShape (t : T K mg base) : PySem.W.kitOne K (.ref (He.ga K "InvalidGroup")) (.ref (He.ga K "InvalidShape")) = some false := (QH.kin_ok (t.c.fact 94 (f := QH.kin "InvalidGroup" [(.type "ValueError", true), (.type "LookupError", false), (.type "RuntimeError", false), (.type "ArithmeticError", false)] [("CastError", true), ("InvalidName", false), ("InvalidValue", false), ("InvalidShape", false), ("InvalidTable", false), ("InvalidTables", false), ("InvalidScheme", false), ("InvalidSchemes", false)]) rfl)).2 ("InvalidShape", _) (by simp)
theorem k_InvalidGroup_InvalidTable (t : T K mg base) : PySem.W.kitOne K (.ref (He.ga K "InvalidGroup")) (.ref (He.ga K "InvalidTable")) = some false := (QH.kin_ok (t.c.fact 94 (f := QH.kin "InvalidGroup" [(.type "ValueError", true), (.type "LookupError", false), (.type "RuntimeError", false), (.type "ArithmeticError", false)] [("CastError", true), ("InvalidName", false), ("InvalidValue", false), ("InvalidShape", false), ("InvalidTable", false), ("InvalidTables", false), ("InvalidScheme", false), ("InvalidSchemes", false)]) rfl)).2 ("InvalidTable", _) (by simp)
theorem k_InvalidGroup_InvalidTables (t : T K mg base) : PySem.W.kitOne K (.ref (He.ga K "InvalidGroup")) (.ref (He.ga K "InvalidTables")) = some false := (QH.kin_ok (t.c.fact 94 (f := QH.kin "InvalidGroup" [(.type "ValueError", true), (.type "LookupError", false), (.type "RuntimeError", false), (.type "ArithmeticError", false)] [("CastError", true), ("InvalidName", false), ("InvalidValue", false), ("InvalidShape", false), ("InvalidTable", false), ("InvalidTables", false), ("InvalidScheme", false), ("InvalidSchemes", false)]) rfl)).2 ("InvalidTables", _) (by simp)
theorem k_InvalidGroup_InvalidScheme (t : T K mg base) : PySem.W.kitOne K (.ref (He.ga K "InvalidGroup")) (.ref (He.ga K "InvalidScheme")) = some false := (QH.kin_ok (t.c.fact 94 (f := QH.kin "InvalidGroup" [(.type "ValueError", true), (.type "LookupError", false), (.type "RuntimeError", false), (.type "ArithmeticError", false)] [("CastError", true), ("InvalidName", false), ("InvalidValue", false), ("InvalidShape", false), ("InvalidTable", false), ("InvalidTables", false), ("InvalidScheme", false), ("InvalidSchemes", false)]) rfl)).2 ("InvalidScheme", _) (by simp)
theorem k_InvalidGroup_InvalidSchemes (t : T K mg base) : PySem.W.kitOne K (.ref (He.ga K "InvalidGroup")) (.ref (He.ga K "InvalidSchemes")) = some false := (QH.kin_ok (t.c.fact 94 (f := QH.kin "InvalidGroup" [(.type "ValueError", true), (.type "LookupError", false), (.type "RuntimeError", false), (.type "ArithmeticError", false)] [("CastError", true), ("InvalidName", false), ("InvalidValue", false), ("InvalidShape", false), ("InvalidTable", false), ("InvalidTables", false), ("InvalidScheme", false), ("InvalidSchemes", false)]) rfl)).2 ("InvalidSchemes", _) (by simp)
theorem i_InvalidGroup (t : T K mg base) : PySem.W.findIn K (.ref (He.ga K "InvalidGroup")) "__init__" = some (some (.ref (He.ma K (He.ga K "InvalidGroup") "__init__"))) ∧ PySem.W.typeIn K (.ref (He.ma K (He.ga K "InvalidGroup") "__init__")) = some (.type "function") ∧ ∀ f ∈ (["value"] : List Str), PySem.W.findIn K (.ref (He.ga K "InvalidGroup")) f = some none := QH.ini_ok (t.c.fact 93 (f := QH.ini "InvalidGroup" ["value"]) rfl)
theorem si_InvalidGroup : FnScope ["self", "value"] ["self", "value"] (defScope (inClass (top 11) 0)) := ⟨rfl, rfl, rfl, by decide +kernel, rfl, by decide +kernel, by decide +kernel⟩
theorem m_InvalidGroup (t : T K mg base) : QE.MkE P w K mg base "InvalidGroup" (He.ga K "InvalidGroup") ["value"] := by
  obtain ⟨fd, F⟩ := t.c.def_ 22
  exact ⟨_, fd, ["self", "value"], (x_InvalidGroup t).x, (i_InvalidGroup t).1, (i_InvalidGroup t).2.1, F.ok si_InvalidGroup (QW.spI.len rfl) (fun cdv A outer s H vs Q E hr h => ⟨_, PSs.nox (pss_cons (ps_expr (QE.pe_binit rfl (g_CastError t) (cre t).1 (cre t).2 (pa_cons (pv 0) (pa_cons pe_str pa_nil)))) (pss_one (QE.ps_st (pv 0) (pv 1)))), QW.pure_init1 (x_InvalidGroup t) ((i_InvalidGroup t).2.2 _ (by simp)) h rfl⟩), F.bindsN (fun _ _ _ _ _ _ us hl => match us, hl with | [_, _], _ => rfl), g_InvalidGroup t⟩
theorem x_InvalidTables (t : T K mg base) : QE.ExB K (He.ga K "InvalidTables") "ValueError" "ValueError.__new__" "ValueError.__init__" veL := QH.exc_ok PySem.F.excBase_ValueError PySem.F.store_ValueError (t.c.fact 96 (f := QH.exc "InvalidTables" "ValueError.__new__" veL) rfl)
theorem k_InvalidTables (t : T K mg base) : QW.KinOk K (He.ga K "InvalidTables") (He.ga K "CastError") true true false false false := by
  have h := QH.kin_ok (t.c.fact 98 (f := QH.kin "InvalidTables" [(.type "ValueError", true), (.type "LookupError", false), (.type "RuntimeError", false), (.type "ArithmeticError", false)] [("CastError", true), ("InvalidName", false), ("InvalidValue", false), ("InvalidShape", false), ("InvalidTable", false), ("InvalidTables", true), ("InvalidScheme", false), ("InvalidSchemes", false)]) rfl)
  exact ⟨(x_InvalidTables t).x, h.2 _ List.mem_cons_self, h.1 (.type "ValueError", _) (by simp), h.1 (.type "LookupError", _) (by simp), h.1 (.type "RuntimeError", _) (by simp), h.1 (.type "ArithmeticError", _) (by simp), of_decide_eq_true (t.c.fact 99 (f := QH.kint "InvalidTables" [.type "KeyError", .type "IndexError"] false) rfl)⟩
theorem k_InvalidTables_InvalidName (t : T K mg base) : PySem.W.kitOne K (.ref (He.ga K "InvalidTables")) (.ref (He.ga K "InvalidName")) = some false := (QH.kin_ok (t.c.fact 98 (f := QH.kin "InvalidTables" [(.type "ValueError", true), (.type "LookupError", false), (.type "RuntimeError", false), (.type "ArithmeticError", false)] [("CastError", true), ("InvalidName", false), ("InvalidValue", false), ("InvalidShape", false), ("InvalidTable", false), ("InvalidTables", true), ("InvalidScheme", false), ("InvalidSchemes", false)]) rfl)).2 ("InvalidName", _) (by simp)
theorem k_InvalidTables_InvalidValue (t : T K mg base) : PySem.W.kitOne K (.ref (He.ga K "InvalidTables")) (.ref (He.ga K "InvalidValue")) = some false := (QH.kin_ok (t.c.fact 98 (f := QH.kin "InvalidTables" [(.type "ValueError", true), (.type "LookupError", false), (.type "RuntimeError", false), (.type "ArithmeticError", false)] [("CastError", true), ("InvalidName", false), ("InvalidValue", false), ("InvalidShape", false), ("InvalidTable", false), ("InvalidTables", true), ("InvalidScheme", false), ("InvalidSchemes", false)]) rfl)).2 ("InvalidValue", _) (by simp)
theorem k_InvalidTables_InvalidShape (t : T K mg base) : PySem.W.kitOne K (.ref (He.ga K "InvalidTables")) (.ref (He.ga K "InvalidShape")) = some false := (QH.kin_ok (t.c.fact 98 (f := QH.kin "InvalidTables" [(.type "ValueError", true), (.type "LookupError", false), (.type "RuntimeError", false), (.type "ArithmeticError", false)] [("CastError", true), ("InvalidName", false), ("InvalidValue", false), ("InvalidShape", false), ("InvalidTable", false), ("InvalidTables", true), ("InvalidScheme", false), ("InvalidSchemes", false)]) rfl)).2 ("InvalidShape", _) (by simp)
theorem k_InvalidTables_InvalidTable (t : T K mg base) : PySem.W.kitOne K (.ref (He.ga K "InvalidTables")) (.ref (He.ga K "InvalidTable")) = some false := (QH.kin_ok (t.c.fact 98 (f := QH.kin "InvalidTables" [(.type "ValueError", true), (.type "LookupError", false), (.type "RuntimeError", false), (.type "ArithmeticError", false)] [("CastError", true), ("InvalidName", false), ("InvalidValue", false), ("InvalidShape", false), ("InvalidTable", false), ("InvalidTables", true), ("InvalidScheme", false), ("InvalidSchemes", false)]) rfl)).2 ("InvalidTable", _) (by simp)
theorem k_InvalidTables_InvalidTables (t : T K mg base) : PySem.W.kitOne K (.ref (He.ga K "InvalidTables")) (.ref (He.ga K "InvalidTables")) = some true := (QH.kin_ok (t.c.fact 98 (f := QH.kin "InvalidTables" [(.type "ValueError", true), (.type "LookupError", false), (.type "RuntimeError", false), (.type "ArithmeticError", false)] [("CastError", true), ("InvalidName", false), ("InvalidValue", false), ("InvalidShape", false), ("InvalidTable", false), ("InvalidTables", true), ("InvalidScheme", false), ("InvalidSchemes", false)]) rfl)).2 ("InvalidTables", _) (by simp)
theorem k_InvalidTables_InvalidScheme (t : T K mg base) : PySem.W.kitOne K (.ref (He.ga K "InvalidTables")) (.ref (He.ga K "InvalidScheme")) = some false := (QH.kin_ok (t.c.fact 98 (f := QH.kin "InvalidTables" [(.type "ValueError", true), (.type "LookupError", false), (.type "RuntimeError", false), (.type "ArithmeticError", false)] [("CastError", true), ("InvalidName", false), ("InvalidValue", false), ("InvalidShape", false), ("InvalidTable", false), ("InvalidTables", true), ("InvalidScheme", false), ("InvalidSchemes", false)]) rfl)).2 ("InvalidScheme", _) (by simp)
theorem k_InvalidTables_InvalidSchemes (t : T K mg base) : PySem.W.kitOne K (.ref (He.ga K "InvalidTables")) (.ref (He.ga K "InvalidSchemes")) = some false := (QH.kin_ok (t.c.fact 98 (f := QH.kin "InvalidTables" [(.type "ValueError", true), (.type "LookupError", false), (.type "RuntimeError", false), (.type "ArithmeticError", false)] [("CastError", true), ("InvalidName", false), ("InvalidValue", false), ("InvalidShape", false), ("InvalidTable", false), ("InvalidTables", true), ("InvalidScheme", false), ("InvalidSchemes", false)]) rfl)).2 ("InvalidSchemes", _) (by simp)
theorem i_InvalidTables (t : T K mg base) : PySem.W.findIn K (.ref (He.ga K "InvalidTables")) "__init__" = some (some (.ref (He.ma K (He.ga K "InvalidTables") "__init__"))) ∧ PySem.W.typeIn K (.ref (He.ma K (He.ga K "InvalidTables") "__init__")) = some (.type "function") ∧ ∀ f ∈ (["kind", "name"] : List Str), PySem.W.findIn K (.ref (He.ga K "InvalidTables")) f = some none := QH.ini_ok (t.c.fact 97 (f := QH.ini "InvalidTables" ["kind", "name"]) rfl)
theorem si_InvalidTables : FnScope ["self", "kind", "name"] ["self", "kind", "name"] (defScope (inClass (top 12) 0)) := ⟨rfl, rfl, rfl, by decide +kernel, rfl, by decide +kernel, by decide +kernel⟩
theorem m_InvalidTables (t : T K mg base) : QE.MkE P w K mg base "InvalidTables" (He.ga K "InvalidTables") ["kind", "name"] := by
  obtain ⟨fd, F⟩ := t.c.def_ 23
  exact ⟨_, fd, ["self", "kind", "name"], (x_InvalidTables t).x, (i_InvalidTables t).1, (i_InvalidTables t).2.1, F.ok si_InvalidTables (QW.spI.len rfl) (fun cdv A outer s H vs Q E hr h => ⟨_, PSs.nox (pss_cons (ps_expr (QE.pe_binit rfl (g_CastError t) (cre t).1 (cre t).2 (pa_cons (pv 0) (pa_cons pe_str pa_nil)))) (pss_cons (QE.ps_st (pv 0) (pv 1)) (pss_one (QE.ps_st (pv 0) (pv 2))))), QW.pure_init2 (x_InvalidTables t) ((i_InvalidTables t).2.2 _ (by simp)) ((i_InvalidTables t).2.2 _ (by simp)) h rfl⟩), F.bindsN (fun _ _ _ _ _ _ us hl => match us, hl with | [_, _, _], _ => rfl), g_InvalidTables t⟩
theorem x_InvalidSize (t : T K mg base) : QE.ExB K (He.ga K "InvalidSize") "ValueError" "ValueError.__new__" "ValueError.__init__" veL := QH.exc_ok PySem.F.excBase_ValueError PySem.F.store_ValueError (t.c.fact 100 (f := QH.exc "InvalidSize" "ValueError.__new__" veL) rfl)
theorem k_InvalidSize (t : T K mg base) : QW.KinOk K (He.ga K "InvalidSize") (He.ga K "CastError") true true false false false := by
  have h := QH.kin_ok (t.c.fact 102 (f := QH.kin "InvalidSize" [(.type "ValueError", true), (.type "LookupError", false), (.type "RuntimeError", false), (.type "ArithmeticError", false)] [("CastError", true), ("InvalidName", false), ("InvalidValue", false), ("InvalidShape", false), ("InvalidTable", false), ("InvalidTables", false), ("InvalidScheme", false), ("InvalidSchemes", false)]) rfl)
  exact ⟨(x_InvalidSize t).x, h.2 _ List.mem_cons_self, h.1 (.type "ValueError", _) (by simp), h.1 (.type "LookupError", _) (by simp), h.1 (.type "RuntimeError", _) (by simp), h.1 (.type "ArithmeticError", _) (by simp), of_decide_eq_true (t.c.fact 103 (f := QH.kint "InvalidSize" [.type "KeyError", .type "IndexError"] false) rfl)⟩
theorem k_InvalidSize_InvalidName (t : T K mg base) : PySem.W.kitOne K (.ref (He.ga K "InvalidSize")) (.ref (He.ga K "InvalidName")) = some false := (QH.kin_ok (t.c.fact 102 (f := QH.kin "InvalidSize" [(.type "ValueError", true), (.type "LookupError", false), (.type "RuntimeError", false), (.type "ArithmeticError", false)] [("CastError", true), ("InvalidName", false), ("InvalidValue", false), ("InvalidShape", false), ("InvalidTable", false), ("InvalidTables", false), ("InvalidScheme", false), ("InvalidSchemes", false)]) rfl)).2 ("InvalidName", _) (by simp)
theorem k_InvalidSize_InvalidValue (t : T K mg base) : PySem.W.kitOne K (.ref (He.ga K "InvalidSize")) (.ref (He.ga K "InvalidValue")) = some false := (QH.kin_ok (t.c.fact 102 (f := QH.kin "InvalidSize" [(.type "ValueError", true), (.type "LookupError", false), (.type "RuntimeError", false), (.type "ArithmeticError", false)] [("CastError", true), ("InvalidName", false), ("InvalidValue", false), ("InvalidShape", false), ("InvalidTable", false), ("InvalidTables", false), ("InvalidScheme", false), ("InvalidSchemes", false)]) rfl)).2 ("InvalidValue", _) (by simp)
theorem k_InvalidSize_InvalidShape (t : T K mg base) : PySem.W.kitOne K (.ref (He.ga K "InvalidSize")) (.ref (He.ga K "InvalidShape")) = some false := (QH.kin_ok (t.c.fact 102 (f := QH.kin "InvalidSize" [(.type "ValueError", true), (.type "LookupError", false), (.type "RuntimeError", false), (.type "ArithmeticError", false)] [("CastError", true), ("InvalidName", false), ("InvalidValue", false), ("InvalidShape", false), ("InvalidTable", false), ("InvalidTables", false), ("InvalidScheme", false), ("InvalidSchemes", false)]) rfl)).2 ("InvalidShape", _) (by simp)
theorem k_InvalidSize_InvalidTable (t : T K mg base) : PySem.W.kitOne K (.ref (He.ga K "InvalidSize")) (.ref (He.ga K "InvalidTable")) = some false := (QH.kin_ok (t.c.fact 102 (f := QH.kin "InvalidSize" [(.type "ValueError", true), (.type "LookupError", false), (.type "RuntimeError", false), (.type "ArithmeticError", false)] [("CastError", true), ("InvalidName", false), ("InvalidValue", false), ("InvalidShape", false), ("InvalidTable", false), ("InvalidTables", false), ("InvalidScheme", false), ("InvalidSchemes", false)]) rfl)).2 ("InvalidTable", _) (by simp)
theorem k_InvalidSize_InvalidTables (t : T K mg base) : PySem.W.kitOne K (.ref (He.ga K "InvalidSize")) (.ref (He.ga K "InvalidTables")) = some false := (QH.kin_ok (t.c.fact 102 (f := QH.kin "InvalidSize" [(.type "ValueError", true), (.type "LookupError", false), (.type "RuntimeError", false), (.type "ArithmeticError", false)] [("CastError", true), ("InvalidName", false), ("InvalidValue", false), ("InvalidShape", false), ("InvalidTable", false), ("InvalidTables", false), ("InvalidScheme", false), ("InvalidSchemes", false)]) rfl)).2 ("InvalidTables", _) (by simp)
theorem k_InvalidSize_InvalidScheme (t : T K mg base) : PySem.W.kitOne K (.ref (He.ga K "InvalidSize")) (.ref (He.ga K "InvalidScheme")) = some false := (QH.kin_ok (t.c.fact 102 (f := QH.kin "InvalidSize" [(.type "ValueError", true), (.type "LookupError", false), (.type "RuntimeError", false), (.type "ArithmeticError", false)] [("CastError", true), ("InvalidName", false), ("InvalidValue", false), ("InvalidShape", false), ("InvalidTable", false), ("InvalidTables", false), ("InvalidScheme", false), ("InvalidSchemes", false)]) rfl)).2 ("InvalidScheme", _) (by simp)
theorem k_InvalidSize_InvalidSchemes (t : T K mg base) : PySem.W.kitOne K (.ref (He.ga K "InvalidSize")) (.ref (He.ga K "InvalidSchemes")) = some false := (QH.kin_ok (t.c.fact 102 (f := QH.kin "InvalidSize" [(.type "ValueError", true), (.type "LookupError", false), (.type "RuntimeError", false), (.type "ArithmeticError", false)] [("CastError", true), ("InvalidName", false), ("InvalidValue", false), ("InvalidShape", false), ("InvalidTable", false), ("InvalidTables", false), ("InvalidScheme", false), ("InvalidSchemes", false)]) rfl)).2 ("InvalidSchemes", _) (by simp)
theorem i_InvalidSize (t : T K mg base) : PySem.W.findIn K (.ref (He.ga K "InvalidSize")) "__init__" = some (some (.ref (He.ma K (He.ga K "InvalidSize") "__init__"))) ∧ PySem.W.typeIn K (.ref (He.ma K (He.ga K "InvalidSize") "__init__")) = some (.type "function") ∧ ∀ f ∈ (["value"] : List Str), PySem.W.findIn K (.ref (He.ga K "InvalidSize")) f = some none := QH.ini_ok (t.c.fact 101 (f := QH.ini "InvalidSize" ["value"]) rfl)
theorem si_InvalidSize : FnScope ["self", "value"] ["self", "value"] (defScope (inClass (top 13) 0)) := ⟨rfl, rfl, rfl, by decide +kernel, rfl, by decide +kernel, by decide +kernel⟩
theorem m_InvalidSize (t : T K mg base) : QE.MkE P w K mg base "InvalidSize" (He.ga K "InvalidSize") ["value"] := by
  obtain ⟨fd, F⟩ := t.c.def_ 24
  exact ⟨_, fd, ["self", "value"], (x_InvalidSize t).x, (i_InvalidSize t).1, (i_InvalidSize t).2.1, F.ok si_InvalidSize (QW.spI.len rfl) (fun cdv A outer s H vs Q E hr h => ⟨_, PSs.nox (pss_cons (ps_expr (QE.pe_binit rfl (g_CastError t) (cre t).1 (cre t).2 (pa_cons (pv 0) (pa_cons pe_str pa_nil)))) (pss_one (QE.ps_st (pv 0) (pv 1)))), QW.pure_init1 (x_InvalidSize t) ((i_InvalidSize t).2.2 _ (by simp)) h rfl⟩), F.bindsN (fun _ _ _ _ _ _ us hl => match us, hl with | [_, _], _ => rfl), g_InvalidSize t⟩
theorem x_InvalidTable (t : T K mg base) : QE.ExB K (He.ga K "InvalidTable") "ValueError" "ValueError.__new__" "ValueError.__init__" veL := QH.exc_ok PySem.F.excBase_ValueError PySem.F.store_ValueError (t.c.fact 104 (f := QH.exc "InvalidTable" "ValueError.__new__" veL) rfl)
theorem k_InvalidTable (t : T K mg base) : QW.KinOk K (He.ga K "InvalidTable") (He.ga K "CastError") true true false false false := by
  have h := QH.kin_ok (t.c.fact 106 (f := QH.kin "InvalidTable" [(.type "ValueError", true), (.type "LookupError", false), (.type "RuntimeError", false), (.type "ArithmeticError", false)] [("CastError", true), ("InvalidName", false), ("InvalidValue", false), ("InvalidShape", false), ("InvalidTable", true), ("InvalidTables", false), ("InvalidScheme", false), ("InvalidSchemes", false)]) rfl)
  exact ⟨(x_InvalidTable t).x, h.2 _ List.mem_cons_self, h.1 (.type "ValueError", _) (by simp), h.1 (.type "LookupError", _) (by simp), h.1 (.type "RuntimeError", _) (by simp), h.1 (.type "ArithmeticError", _) (by simp), of_decide_eq_true (t.c.fact 107 (f := QH.kint "InvalidTable" [.type "KeyError", .type "IndexError"] false) rfl)⟩
theorem k_InvalidTable_InvalidName (t : T K mg base) : PySem.W.kitOne K (.ref (He.ga K "InvalidTable")) (.ref (He.ga K "InvalidName")) = some false := (QH.kin_ok (t.c.fact 106 (f := QH.kin "InvalidTable" [(.type "ValueError", true), (.type "LookupError", false), (.type "RuntimeError", false), (.type "ArithmeticError", false)] [("CastError", true), ("InvalidName", false), ("InvalidValue", false), ("InvalidShape", false), ("InvalidTable", true), ("InvalidTables", false), ("InvalidScheme", false), ("InvalidSchemes", false)]) rfl)).2 ("InvalidName", _) (by simp)
theorem k_InvalidTable_InvalidValue (t : T K mg base) : PySem.W.kitOne K (.ref (He.ga K "InvalidTable")) (.ref (He.ga K "InvalidValue")) = some false := (QH.kin_ok (t.c.fact 106 (f := QH.kin "InvalidTable" [(.type "ValueError", true), (.type "LookupError", false), (.type "RuntimeError", false), (.type "ArithmeticError", false)] [("CastError", true), ("InvalidName", false), ("InvalidValue", false), ("InvalidShape", false), ("InvalidTable", true), ("InvalidTables", false), ("InvalidScheme", false), ("InvalidSchemes", false)]) rfl)).2 ("InvalidValue", _) (by simp)
theorem k_InvalidTable_InvalidShape (t : T K mg base) : PySem.W.kitOne K (.ref (He.ga K "InvalidTable")) (.ref (He.ga K "InvalidShape")) = some false := (QH.kin_ok (t.c.fact 106 (f := QH.kin "InvalidTable" [(.type "ValueError", true), (.type "LookupError", false), (.type "RuntimeError", false), (.type "ArithmeticError", false)] [("CastError", true), ("InvalidName", false), ("InvalidValue", false), ("InvalidShape", false), ("InvalidTable", true), ("InvalidTables", false), ("InvalidScheme", false), ("InvalidSchemes", false)]) rfl)).2 ("InvalidShape", _) (by simp)
theorem k_InvalidTable_InvalidTable (t : T K mg base) : PySem.W.kitOne K (.ref (He.ga K "InvalidTable")) (.ref (He.ga K "InvalidTable")) = some true := (QH.kin_ok (t.c.fact 106 (f := QH.kin "InvalidTable" [(.type "ValueError", true), (.type "LookupError", false), (.type "RuntimeError", false), (.type "ArithmeticError", false)] [("CastError", true), ("InvalidName", false), ("InvalidValue", false), ("InvalidShape", false), ("InvalidTable", true), ("InvalidTables", false), ("InvalidScheme", false), ("InvalidSchemes", false)]) rfl)).2 ("InvalidTable", _) (by simp)
theorem k_InvalidTable_InvalidTables (t : T K mg base) : PySem.W.kitOne K (.ref (He.ga K "InvalidTable")) (.ref (He.ga K "InvalidTables")) = some false := (QH.kin_ok (t.c.fact 106 (f := QH.kin "InvalidTable" [(.type "ValueError", true), (.type "LookupError", false), (.type "RuntimeError", false), (.type "ArithmeticError", false)] [("CastError", true), ("InvalidName", false), ("InvalidValue", false), ("InvalidShape", false), ("InvalidTable", true), ("InvalidTables", false), ("InvalidScheme", false), ("InvalidSchemes", false)]) rfl)).2 ("InvalidTables", _) (by simp)
theorem k_InvalidTable_InvalidScheme (t : T K mg base) : PySem.W.kitOne K (.ref (He.ga K "InvalidTable")) (.ref (He.ga K "InvalidScheme")) = some false := (QH.kin_ok (t.c.fact 106 (f := QH.kin "InvalidTable" [(.type "ValueError", true), (.type "LookupError", false), (.type "RuntimeError", false), (.type "ArithmeticError", false)] [("CastError", true), ("InvalidName", false), ("InvalidValue", false), ("InvalidShape", false), ("InvalidTable", true), ("InvalidTables", false), ("InvalidScheme", false), ("InvalidSchemes", false)]) rfl)).2 ("InvalidScheme", _) (by simp)
theorem k_InvalidTable_InvalidSchemes (t : T K mg base) : PySem.W.kitOne K (.ref (He.ga K "InvalidTable")) (.ref (He.ga K "InvalidSchemes")) = some false := (QH.kin_ok (t.c.fact 106 (f := QH.kin "InvalidTable" [(.type "ValueError", true), (.type "LookupError", false), (.type "RuntimeError", false), (.type "ArithmeticError", false)] [("CastError", true), ("InvalidName", false), ("InvalidValue", false), ("InvalidShape", false), ("InvalidTable", true), ("InvalidTables", false), ("InvalidScheme", false), ("InvalidSchemes", false)]) rfl)).2 ("InvalidSchemes", _) (by simp)
theorem i_InvalidTable (t : T K mg base) : PySem.W.findIn K (.ref (He.ga K "InvalidTable")) "__init__" = some (some (.ref (He.ma K (He.ga K "InvalidTable") "__init__"))) ∧ PySem.W.typeIn K (.ref (He.ma K (He.ga K "InvalidTable") "__init__")) = some (.type "function") ∧ ∀ f ∈ (["value"] : List Str), PySem.W.findIn K (.ref (He.ga K "InvalidTable")) f = some none := QH.ini_ok (t.c.fact 105 (f := QH.ini "InvalidTable" ["value"]) rfl)
theorem si_InvalidTable : FnScope ["self", "value"] ["self", "value"] (defScope (inClass (top 14) 0)) := ⟨rfl, rfl, rfl, by decide +kernel, rfl, by decide +kernel, by decide +kernel⟩
theorem m_InvalidTable (t : T K mg base) : QE.MkE P w K mg base "InvalidTable" (He.ga K "InvalidTable") ["value"] := by
  obtain ⟨fd, F⟩ := t.c.def_ 25
  exact ⟨_, fd, ["self", "value"], (x_InvalidTable t).x, (i_InvalidTable t).1, (i_InvalidTable t).2.1, F.ok si_InvalidTable (QW.spI.len rfl) (fun cdv A outer s H vs Q E hr h => ⟨_, PSs.nox (pss_cons (ps_expr (QE.pe_binit rfl (g_CastError t) (cre t).1 (cre t).2 (pa_cons (pv 0) (pa_cons pe_str pa_nil)))) (pss_one (QE.ps_st (pv 0) (pv 1)))), QW.pure_init1 (x_InvalidTable t) ((i_InvalidTable t).2.2 _ (by simp)) h rfl⟩), F.bindsN (fun _ _ _ _ _ _ us hl => match us, hl with | [_, _], _ => rfl), g_InvalidTable t⟩
theorem x_InvalidValue (t : T K mg base) : QE.ExB K (He.ga K "InvalidValue") "ValueError" "ValueError.__new__" "ValueError.__init__" veL := QH.exc_ok PySem.F.excBase_ValueError PySem.F.store_ValueError (t.c.fact 108 (f := QH.exc "InvalidValue" "ValueError.__new__" veL) rfl)
theorem k_InvalidValue (t : T K mg base) : QW.KinOk K (He.ga K "InvalidValue") (He.ga K "CastError") true true false false false := by
  have h := QH.kin_ok (t.c.fact 110 (f := QH.kin "InvalidValue" [(.type "ValueError", true), (.type "LookupError", false), (.type "RuntimeError", false), (.type "ArithmeticError", false)] [("CastError", true), ("InvalidName", false), ("InvalidValue", true), ("InvalidShape", false), ("InvalidTable", false), ("InvalidTables", false), ("InvalidScheme", false), ("InvalidSchemes", false)]) rfl)
  exact ⟨(x_InvalidValue t).x, h.2 _ List.mem_cons_self, h.1 (.type "ValueError", _) (by simp), h.1 (.type "LookupError", _) (by simp), h.1 (.type "RuntimeError", _) (by simp), h.1 (.type "ArithmeticError", _) (by simp), of_decide_eq_true (t.c.fact 111 (f := QH.kint "InvalidValue" [.type "KeyError", .type "IndexError"] false) rfl)⟩
theorem k_InvalidValue_InvalidName (t : T K mg base) : PySem.W.kitOne K (.ref (He.ga K "InvalidValue")) (.ref (He.ga K "InvalidName")) = some false := (QH.kin_ok (t.c.fact 110 (f := QH.kin "InvalidValue" [(.type "ValueError", true), (.type "LookupError", false), (.type "RuntimeError", false), (.type "ArithmeticError", false)] [("CastError", true), ("InvalidName", false), ("InvalidValue", true), ("InvalidShape", false), ("InvalidTable", false), ("InvalidTables", false), ("InvalidScheme", false), ("InvalidSchemes", false)]) rfl)).2 ("InvalidName", _) (by simp)
theorem k_InvalidValue_InvalidValue (t : T K mg base) : PySem.W.kitOne K (.ref (He.ga K "InvalidValue")) (.ref (He.ga K "InvalidValue")) = some true := (QH.kin_ok (t.c.fact 110 (f := QH.kin "InvalidValue" [(.type "ValueError", true), (.type "LookupError", false), (.type "RuntimeError", false), (.type "ArithmeticError", false)] [("CastError", true), ("InvalidName", false), ("InvalidValue", true), ("InvalidShape", false), ("InvalidTable", false), ("InvalidTables", false), ("InvalidScheme", false), ("InvalidSchemes", false)]) rfl)).2 ("InvalidValue", _) (by simp)
theorem k_InvalidValue_InvalidShape (t : T K mg base) : PySem.W.kitOne K (.ref (He.ga K "InvalidValue")) (.ref (He.ga K "InvalidShape")) = some false := (QH.kin_ok (t.c.fact 110 (f := QH.kin "InvalidValue" [(.type "ValueError", true), (.type "LookupError", false), (.type "RuntimeError", false), (.type "ArithmeticError", false)] [("CastError", true), ("InvalidName", false), ("InvalidValue", true), ("InvalidShape", false), ("InvalidTable", false), ("InvalidTables", false), ("InvalidScheme", false), ("InvalidSchemes", false)]) rfl)).2 ("InvalidShape", _) (by simp)
theorem k_InvalidValue_InvalidTable (t : T K mg base) : PySem.W.kitOne K (.ref (He.ga K "InvalidValue")) (.ref (He.ga K "InvalidTable")) = some false := (QH.kin_ok (t.c.fact 110 (f := QH.kin "InvalidValue" [(.type "ValueError", true), (.type "LookupError", false), (.type "RuntimeError", false), (.type "ArithmeticError", false)] [("CastError", true), ("InvalidName", false), ("InvalidValue", true), ("InvalidShape", false), ("InvalidTable", false), ("InvalidTables", false), ("InvalidScheme", false), ("InvalidSchemes", false)]) rfl)).2 ("InvalidTable", _) (by simp)
theorem k_InvalidValue_InvalidTables (t : T K mg base) : PySem.W.kitOne K (.ref (He.ga K "InvalidValue")) (.ref (He.ga K "InvalidTables")) = some false := (QH.kin_ok (t.c.fact 110 (f := QH.kin "InvalidValue" [(.type "ValueError", true), (.type "LookupError", false), (.type "RuntimeError", false), (.type "ArithmeticError", false)] [("CastError", true), ("InvalidName", false), ("InvalidValue", true), ("InvalidShape", false), ("InvalidTable", false), ("InvalidTables", false), ("InvalidScheme", false), ("InvalidSchemes", false)]) rfl)).2 ("InvalidTables", _) (by simp)
theorem k_InvalidValue_InvalidScheme (t : T K mg base) : PySem.W.kitOne K (.ref (He.ga K "InvalidValue")) (.ref (He.ga K "InvalidScheme")) = some false := (QH.kin_ok (t.c.fact 110 (f := QH.kin "InvalidValue" [(.type "ValueError", true), (.type "LookupError", false), (.type "RuntimeError", false), (.type "ArithmeticError", false)] [("CastError", true), ("InvalidName", false), ("InvalidValue", true), ("InvalidShape", false), ("InvalidTable", false), ("InvalidTables", false), ("InvalidScheme", false), ("InvalidSchemes", false)]) rfl)).2 ("InvalidScheme", _) (by simp)
theorem k_InvalidValue_InvalidSchemes (t : T K mg base) : PySem.W.kitOne K (.ref (He.ga K "InvalidValue")) (.ref (He.ga K "InvalidSchemes")) = some false := (QH.kin_ok (t.c.fact 110 (f := QH.kin "InvalidValue" [(.type "ValueError", true), (.type "LookupError", false), (.type "RuntimeError", false), (.type "ArithmeticError", false)] [("CastError", true), ("InvalidName", false), ("InvalidValue", true), ("InvalidShape", false), ("InvalidTable", false), ("InvalidTables", false), ("InvalidScheme", false), ("InvalidSchemes", false)]) rfl)).2 ("InvalidSchemes", _) (by simp)
theorem i_InvalidValue (t : T K mg base) : PySem.W.findIn K (.ref (He.ga K "InvalidValue")) "__init__" = some (some (.ref (He.ma K (He.ga K "InvalidValue") "__init__"))) ∧ PySem.W.typeIn K (.ref (He.ma K (He.ga K "InvalidValue") "__init__")) = some (.type "function") ∧ ∀ f ∈ (["value"] : List Str), PySem.W.findIn K (.ref (He.ga K "InvalidValue")) f = some none := QH.ini_ok (t.c.fact 109 (f := QH.ini "InvalidValue" ["value"]) rfl)
theorem si_InvalidValue : FnScope ["self", "value"] ["self", "value"] (defScope (inClass (top 15) 0)) := ⟨rfl, rfl, rfl, by decide +kernel, rfl, by decide +kernel, by decide +kernel⟩
theorem m_InvalidValue (t : T K mg base) : QE.MkE P w K mg base "InvalidValue" (He.ga K "InvalidValue") ["value"] := by
  obtain ⟨fd, F⟩ := t.c.def_ 26
  exact ⟨_, fd, ["self", "value"], (x_InvalidValue t).x, (i_InvalidValue t).1, (i_InvalidValue t).2.1, F.ok si_InvalidValue (QW.spI.len rfl) (fun cdv A outer s H vs Q E hr h => ⟨_, PSs.nox (pss_cons (ps_expr (QE.pe_binit rfl (g_CastError t) (cre t).1 (cre t).2 (pa_cons (pv 0) (pa_cons pe_str pa_nil)))) (pss_one (QE.ps_st (pv 0) (pv 1)))), QW.pure_init1 (x_InvalidValue t) ((i_InvalidValue t).2.2 _ (by simp)) h rfl⟩), F.bindsN (fun _ _ _ _ _ _ us hl => match us, hl with | [_, _], _ => rfl), g_InvalidValue t⟩
theorem x_InvalidOperation (t : T K mg base) : QE.ExB K (He.ga K "InvalidOperation") "ValueError" "ValueError.__new__" "ValueError.__init__" veL := QH.exc_ok PySem.F.excBase_ValueError PySem.F.store_ValueError (t.c.fact 112 (f := QH.exc "InvalidOperation" "ValueError.__new__" veL) rfl)
theorem k_InvalidOperation (t : T K mg base) : QW.KinOk K (He.ga K "InvalidOperation") (He.ga K "CastError") true true false false false := by
  have h := QH.kin_ok (t.c.fact 114 (f := QH.kin "InvalidOperation" [(.type "ValueError", true), (.type "LookupError", false), (.type "RuntimeError", false), (.type "ArithmeticError", false)] [("CastError", true), ("InvalidName", false), ("InvalidValue", false), ("InvalidShape", false), ("InvalidTable", false), ("InvalidTables", false), ("InvalidScheme", false), ("InvalidSchemes", false)]) rfl)
  exact ⟨(x_InvalidOperation t).x, h.2 _ List.mem_cons_self, h.1 (.type "ValueError", _) (by simp), h.1 (.type "LookupError", _) (by simp), h.1 (.type "RuntimeError", _) (by simp), h.1 (.type "ArithmeticError", _) (by simp), of_decide_eq_true (t.c.fact 115 (f := QH.kint "InvalidOperation" [.type "KeyError", .type "IndexError"] false) rfl)⟩
theorem k_InvalidOperation_InvalidName (t : T K mg base) : PySem.W.kitOne K (.ref (He.ga K "InvalidOperation")) (.ref (He.ga K "InvalidName")) = some false := (QH.kin_ok (t.c.fact 114 (f := QH.kin "InvalidOperation" [(.type "ValueError", true), (.type "LookupError", false), (.type "RuntimeError", false), (.type "ArithmeticError", false)] [("CastError", true), ("InvalidName", false), ("InvalidValue", false), ("InvalidShape", false), ("InvalidTable", false), ("InvalidTables", false), ("InvalidScheme", false), ("InvalidSchemes", false)]) rfl)).2 ("InvalidName", _) (by simp)
theorem k_InvalidOperation_InvalidValue (t : T K mg base) : PySem.W.kitOne K (.ref (He.ga K "InvalidOperation")) (.ref (He.ga K "InvalidValue")) = some false := (QH.kin_ok (t.c.fact 114 (f := QH.kin "InvalidOperation" [(.type "ValueError", true), (.type "LookupError", false), (.type "RuntimeError", false), (.type "ArithmeticError", false)] [("CastError", true), ("InvalidName", false), ("InvalidValue", false), ("InvalidShape", false), ("InvalidTable", false), ("InvalidTables", false), ("InvalidScheme", false), ("InvalidSchemes", false)]) rfl)).2 ("InvalidValue", _) (by simp)
theorem k_InvalidOperation_InvalidShape (t : T K mg base) : PySem.W.kitOne K (.ref (He.ga K "InvalidOperation")) (.ref (He.ga K "InvalidShape")) = some false := (QH.kin_ok (t.c.fact 114 (f := QH.kin "InvalidOperation" [(.type "ValueError", true), (.type "LookupError", false), (.type "RuntimeError", false), (.type "ArithmeticError", false)] [("CastError", true), ("InvalidName", false), ("InvalidValue", false), ("InvalidShape", false), ("InvalidTable", false), ("InvalidTables", false), ("InvalidScheme", false), ("InvalidSchemes", false)]) rfl)).2 ("InvalidShape", _) (by simp)
theorem k_InvalidOperation_InvalidTable (t : T K mg base) : PySem.W.kitOne K (.ref (He.ga K "InvalidOperation")) (.ref (He.ga K "InvalidTable")) = some false := (QH.kin_ok (t.c.fact 114 (f := QH.kin "InvalidOperation" [(.type "ValueError", true), (.type "LookupError", false), (.type "RuntimeError", false), (.type "ArithmeticError", false)] [("CastError", true), ("InvalidName", false), ("InvalidValue", false), ("InvalidShape", false), ("InvalidTable", false), ("InvalidTables", false), ("InvalidScheme", false), ("InvalidSchemes", false)]) rfl)).2 ("InvalidTable", _) (by simp)
theorem k_InvalidOperation_InvalidTables (t : T K mg base) : PySem.W.kitOne K (.ref (He.ga K "InvalidOperation")) (.ref (He.ga K "InvalidTables")) = some false := (QH.kin_ok (t.c.fact 114 (f := QH.kin "InvalidOperation" [(.type "ValueError", true), (.type "LookupError", false), (.type "RuntimeError", false), (.type "ArithmeticError", false)] [("CastError", true), ("InvalidName", false), ("InvalidValue", false), ("InvalidShape", false), ("InvalidTable", false), ("InvalidTables", false), ("InvalidScheme", false), ("InvalidSchemes", false)]) rfl)).2 ("InvalidTables", _) (by simp)
theorem k_InvalidOperation_InvalidScheme (t : T K mg base) : PySem.W.kitOne K (.ref (He.ga K "InvalidOperation")) (.ref (He.ga K "InvalidScheme")) = some false := (QH.kin_ok (t.c.fact 114 (f := QH.kin "InvalidOperation" [(.type "ValueError", true), (.type "LookupError", false), (.type "RuntimeError", false), (.type "ArithmeticError", false)] [("CastError", true), ("InvalidName", false), ("InvalidValue", false), ("InvalidShape", false), ("InvalidTable", false), ("InvalidTables", false), ("InvalidScheme", false), ("InvalidSchemes", false)]) rfl)).2 ("InvalidScheme", _) (by simp)
theorem k_InvalidOperation_InvalidSchemes (t : T K mg base) : PySem.W.kitOne K (.ref (He.ga K "InvalidOperation")) (.ref (He.ga K "InvalidSchemes")) = some false := (QH.kin_ok (t.c.fact 114 (f := QH.kin "InvalidOperation" [(.type "ValueError", true), (.type "LookupError", false), (.type "RuntimeError", false), (.type "ArithmeticError", false)] [("CastError", true), ("InvalidName", false), ("InvalidValue", false), ("InvalidShape", false), ("InvalidTable", false), ("InvalidTables", false), ("InvalidScheme", false), ("InvalidSchemes", false)]) rfl)).2 ("InvalidSchemes", _) (by simp)
theorem i_InvalidOperation (t : T K mg base) : PySem.W.findIn K (.ref (He.ga K "InvalidOperation")) "__init__" = some (some (.ref (He.ma K (He.ga K "InvalidOperation") "__init__"))) ∧ PySem.W.typeIn K (.ref (He.ma K (He.ga K "InvalidOperation") "__init__")) = some (.type "function") ∧ ∀ f ∈ (["position"] : List Str), PySem.W.findIn K (.ref (He.ga K "InvalidOperation")) f = some none := QH.ini_ok (t.c.fact 113 (f := QH.ini "InvalidOperation" ["position"]) rfl)
theorem si_InvalidOperation : FnScope ["self", "position"] ["self", "position"] (defScope (inClass (top 16) 0)) := ⟨rfl, rfl, rfl, by decide +kernel, rfl, by decide +kernel, by decide +kernel⟩
theorem m_InvalidOperation (t : T K mg base) : QE.MkE P w K mg base "InvalidOperation" (He.ga K "InvalidOperation") ["position"] := by
  obtain ⟨fd, F⟩ := t.c.def_ 27
  exact ⟨_, fd, ["self", "position"], (x_InvalidOperation t).x, (i_InvalidOperation t).1, (i_InvalidOperation t).2.1, F.ok si_InvalidOperation (QW.spI.len rfl) (fun cdv A outer s H vs Q E hr h => ⟨_, PSs.nox (pss_cons (ps_expr (QE.pe_binit rfl (g_CastError t) (cre t).1 (cre t).2 (pa_cons (pv 0) (pa_cons pe_str pa_nil)))) (pss_one (QE.ps_st (pv 0) (pv 1)))), QW.pure_init1 (x_InvalidOperation t) ((i_InvalidOperation t).2.2 _ (by simp)) h rfl⟩), F.bindsN (fun _ _ _ _ _ _ us hl => match us, hl with | [_, _], _ => rfl), g_InvalidOperation t⟩
theorem x_InvalidExpression (t : T K mg base) : QE.ExB K (He.ga K "InvalidExpression") "ValueError" "ValueError.__new__" "ValueError.__init__" veL := QH.exc_ok PySem.F.excBase_ValueError PySem.F.store_ValueError (t.c.fact 116 (f := QH.exc "InvalidExpression" "ValueError.__new__" veL) rfl)
theorem k_InvalidExpression (t : T K mg base) : QW.KinOk K (He.ga K "InvalidExpression") (He.ga K "CastError") true true false false false := by
  have h := QH.kin_ok (t.c.fact 118 (f := QH.kin "InvalidExpression" [(.type "ValueError", true), (.type "LookupError", false), (.type "RuntimeError", false), (.type "ArithmeticError", false)] [("CastError", true), ("InvalidName", false), ("InvalidValue", false), ("InvalidShape", false), ("InvalidTable", false), ("InvalidTables", false), ("InvalidScheme", false), ("InvalidSchemes", false)]) rfl)
  exact ⟨(x_InvalidExpression t).x, h.2 _ List.mem_cons_self, h.1 (.type "ValueError", _) (by simp), h.1 (.type "LookupError", _) (by simp), h.1 (.type "RuntimeError", _) (by simp), h.1 (.type "ArithmeticError", _) (by simp), of_decide_eq_true (t.c.fact 119 (f := QH.kint "InvalidExpression" [.type "KeyError", .type "IndexError"] false) rfl)⟩
theorem k_InvalidExpression_InvalidName (t : T K mg base) : PySem.W.kitOne K (.ref (He.ga K "InvalidExpression")) (.ref (He.ga K "InvalidName")) = some false := (QH.kin_ok (t.c.fact 118 (f := QH.kin "InvalidExpression" [(.type "ValueError", true), (.type "LookupError", false), (.type "RuntimeError", false), (.type "ArithmeticError", false)] [("CastError", true), ("InvalidName", false), ("InvalidValue", false), ("InvalidShape", false), ("InvalidTable", false), ("InvalidTables", false), ("InvalidScheme", false), ("InvalidSchemes", false)]) rfl)).2 ("InvalidName", _) (by simp)
theorem k_InvalidExpression_InvalidValue (t : T K mg base) : PySem.W.kitOne K (.ref (He.ga K "InvalidExpression")) (.ref (He.ga K "InvalidValue")) = some false := (QH.kin_ok (t.c.fact 118 (f := QH.kin "InvalidExpression" [(.type "ValueError", true), (.type "LookupError", false), (.type "RuntimeError", false), (.type "ArithmeticError", false)] [("CastError", true), ("InvalidName", false), ("InvalidValue", false), ("InvalidShape", false), ("InvalidTable", false), ("InvalidTables", false), ("InvalidScheme", false), ("InvalidSchemes", false)]) rfl)).2 ("InvalidValue", _) (by simp)
theorem k_InvalidExpression_InvalidShape (t : T K mg base) : PySem.W.kitOne K (.ref (He.ga K "InvalidExpression")) (.ref (He.ga K "InvalidShape")) = some false := (QH.kin_ok (t.c.fact 118 (f := QH.kin "InvalidExpression" [(.type "ValueError", true), (.type "LookupError", false), (.type "RuntimeError", false), (.type "ArithmeticError", false)] [("CastError", true), ("InvalidName", false), ("InvalidValue", false), ("InvalidShape", false), ("InvalidTable", false), ("InvalidTables", false), ("InvalidScheme", false), ("InvalidSchemes", false)]) rfl)).2 ("InvalidShape", _) (by simp)
theorem k_InvalidExpression_InvalidTable (t : T K mg base) : PySem.W.kitOne K (.ref (He.ga K "InvalidExpression")) (.ref (He.ga K "InvalidTable")) = some false := (QH.kin_ok (t.c.fact 118 (f := QH.kin "InvalidExpression" [(.type "ValueError", true), (.type "LookupError", false), (.type "RuntimeError", false), (.type "ArithmeticError", false)] [("CastError", true), ("InvalidName", false), ("InvalidValue", false), ("InvalidShape", false), ("InvalidTable", false), ("InvalidTables", false), ("InvalidScheme", false), ("InvalidSchemes", false)]) rfl)).2 ("InvalidTable", _) (by simp)
theorem k_InvalidExpression_InvalidTables (t : T K mg base) : PySem.W.kitOne K (.ref (He.ga K "InvalidExpression")) (.ref (He.ga K "InvalidTables")) = some false := (QH.kin_ok (t.c.fact 118 (f := QH.kin "InvalidExpression" [(.type "ValueError", true), (.type "LookupError", false), (.type "RuntimeError", false), (.type "ArithmeticError", false)] [("CastError", true), ("InvalidName", false), ("InvalidValue", false), ("InvalidShape", false), ("InvalidTable", false), ("InvalidTables", false), ("InvalidScheme", false), ("InvalidSchemes", false)]) rfl)).2 ("InvalidTables", _) (by simp)
theorem k_InvalidExpression_InvalidScheme (t : T K mg base) : PySem.W.kitOne K (.ref (He.ga K "InvalidExpression")) (.ref (He.ga K "InvalidScheme")) = some false := (QH.kin_ok (t.c.fact 118 (f := QH.kin "InvalidExpression" [(.type "ValueError", true), (.type "LookupError", false), (.type "RuntimeError", false), (.type "ArithmeticError", false)] [("CastError", true), ("InvalidName", false), ("InvalidValue", false), ("InvalidShape", false), ("InvalidTable", false), ("InvalidTables", false), ("InvalidScheme", false), ("InvalidSchemes", false)]) rfl)).2 ("InvalidScheme", _) (by simp)
theorem k_InvalidExpression_InvalidSchemes (t : T K mg base) : PySem.W.kitOne K (.ref (He.ga K "InvalidExpression")) (.ref (He.ga K "InvalidSchemes")) = some false := (QH.kin_ok (t.c.fact 118 (f := QH.kin "InvalidExpression" [(.type "ValueError", true), (.type "LookupError", false), (.type "RuntimeError", false), (.type "ArithmeticError", false)] [("CastError", true), ("InvalidName", false), ("InvalidValue", false), ("InvalidShape", false), ("InvalidTable", false), ("InvalidTables", false), ("InvalidScheme", false), ("InvalidSchemes", false)]) rfl)).2 ("InvalidSchemes", _) (by simp)
theorem i_InvalidExpression (t : T K mg base) : PySem.W.findIn K (.ref (He.ga K "InvalidExpression")) "__init__" = some (some (.ref (He.ma K (He.ga K "InvalidExpression") "__init__"))) ∧ PySem.W.typeIn K (.ref (He.ma K (He.ga K "InvalidExpression") "__init__")) = some (.type "function") ∧ ∀ f ∈ (["value"] : List Str), PySem.W.findIn K (.ref (He.ga K "InvalidExpression")) f = some none := QH.ini_ok (t.c.fact 117 (f := QH.ini "InvalidExpression" ["value"]) rfl)
theorem si_InvalidExpression : FnScope ["self", "value"] ["self", "value"] (defScope (inClass (top 17) 0)) := ⟨rfl, rfl, rfl, by decide +kernel, rfl, by decide +kernel, by decide +kernel⟩
theorem m_InvalidExpression (t : T K mg base) : QE.MkE P w K mg base "InvalidExpression" (He.ga K "InvalidExpression") ["value"] := by
  obtain ⟨fd, F⟩ := t.c.def_ 28
  exact ⟨_, fd, ["self", "value"], (x_InvalidExpression t).x, (i_InvalidExpression t).1, (i_InvalidExpression t).2.1, F.ok si_InvalidExpression (QW.spI.len rfl) (fun cdv A outer s H vs Q E hr h => ⟨_, PSs.nox (pss_cons (ps_expr (QE.pe_binit rfl (g_CastError t) (cre t).1 (cre t).2 (pa_cons (pv 0) (pa_cons pe_str pa_nil)))) (pss_one (QE.ps_st (pv 0) (pv 1)))), QW.pure_init1 (x_InvalidExpression t) ((i_InvalidExpression t).2.2 _ (by simp)) h rfl⟩), F.bindsN (fun _ _ _ _ _ _ us hl => match us, hl with | [_, _], _ => rfl), g_InvalidExpression t⟩
theorem x_InvalidCount (t : T K mg base) : QE.ExB K (He.ga K "InvalidCount") "ValueError" "ValueError.__new__" "ValueError.__init__" veL := QH.exc_ok PySem.F.excBase_ValueError PySem.F.store_ValueError (t.c.fact 120 (f := QH.exc "InvalidCount" "ValueError.__new__" veL) rfl)
theorem k_InvalidCount (t : T K mg base) : QW.KinOk K (He.ga K "InvalidCount") (He.ga K "CastError") true true false false false := by
  have h := QH.kin_ok (t.c.fact 122 (f := QH.kin "InvalidCount" [(.type "ValueError", true), (.type "LookupError", false), (.type "RuntimeError", false), (.type "ArithmeticError", false)] [("CastError", true), ("InvalidName", false), ("InvalidValue", false), ("InvalidShape", false), ("InvalidTable", false), ("InvalidTables", false), ("InvalidScheme", false), ("InvalidSchemes", false)]) rfl)
  exact ⟨(x_InvalidCount t).x, h.2 _ List.mem_cons_self, h.1 (.type "ValueError", _) (by simp), h.1 (.type "LookupError", _) (by simp), h.1 (.type "RuntimeError", _) (by simp), h.1 (.type "ArithmeticError", _) (by simp), of_decide_eq_true (t.c.fact 123 (f := QH.kint "InvalidCount" [.type "KeyError", .type "IndexError"] false) rfl)⟩
theorem k_InvalidCount_InvalidName (t : T K mg base) : PySem.W.kitOne K (.ref (He.ga K "InvalidCount")) (.ref (He.ga K "InvalidName")) = some false := (QH.kin_ok (t.c.fact 122 (f := QH.kin "InvalidCount" [(.type "ValueError", true), (.type "LookupError", false), (.type "RuntimeError", false), (.type "ArithmeticError", false)] [("CastError", true), ("InvalidName", false), ("InvalidValue", false), ("InvalidShape", false), ("InvalidTable", false), ("InvalidTables", false), ("InvalidScheme", false), ("InvalidSchemes", false)]) rfl)).2 ("InvalidName", _) (by simp)
theorem k_InvalidCount_InvalidValue (t : T K mg base) : PySem.W.kitOne K (.ref (He.ga K "InvalidCount")) (.ref (He.ga K "InvalidValue")) = some false := (QH.kin_ok (t.c.fact 122 (f := QH.kin "InvalidCount" [(.type "ValueError", true), (.type "LookupError", false), (.type "RuntimeError", false), (.type "ArithmeticError", false)] [("CastError", true), ("InvalidName", false), ("InvalidValue", false), ("InvalidShape", false), ("InvalidTable", false), ("InvalidTables", false), ("InvalidScheme", false), ("InvalidSchemes", false)]) rfl)).2 ("InvalidValue", _) (by simp)
theorem k_InvalidCount_InvalidShape (t : T K mg base) : PySem.W.kitOne K (.ref (He.ga K "InvalidCount")) (.ref (He.ga K "InvalidShape")) = some false := (QH.kin_ok (t.c.fact 122 (f := QH.kin "InvalidCount" [(.type "ValueError", true), (.type "LookupError", false), (.type "RuntimeError", false), (.type "ArithmeticError", false)] [("CastError", true), ("InvalidName", false), ("InvalidValue", false), ("InvalidShape", false), ("InvalidTable", false), ("InvalidTables", false), ("InvalidScheme", false), ("InvalidSchemes", false)]) rfl)).2 ("InvalidShape", _) (by simp)
theorem k_InvalidCount_InvalidTable (t : T K mg base) : PySem.W.kitOne K (.ref (He.ga K "InvalidCount")) (.ref (He.ga K "InvalidTable")) = some false := (QH.kin_ok (t.c.fact 122 (f := QH.kin "InvalidCount" [(.type "ValueError", true), (.type "LookupError", false), (.type "RuntimeError", false), (.type "ArithmeticError", false)] [("CastError", true), ("InvalidName", false), ("InvalidValue", false), ("InvalidShape", false), ("InvalidTable", false), ("InvalidTables", false), ("InvalidScheme", false), ("InvalidSchemes", false)]) rfl)).2 ("InvalidTable", _) (by simp)
theorem k_InvalidCount_InvalidTables (t : T K mg base) : PySem.W.kitOne K (.ref (He.ga K "InvalidCount")) (.ref (He.ga K "InvalidTables")) = some false := (QH.kin_ok (t.c.fact 122 (f := QH.kin "InvalidCount" [(.type "ValueError", true), (.type "LookupError", false), (.type "RuntimeError", false), (.type "ArithmeticError", false)] [("CastError", true), ("InvalidName", false), ("InvalidValue", false), ("InvalidShape", false), ("InvalidTable", false), ("InvalidTables", false), ("InvalidScheme", false), ("InvalidSchemes", false)]) rfl)).2 ("InvalidTables", _) (by simp)
theorem k_InvalidCount_InvalidScheme (t : T K mg base) : PySem.W.kitOne K (.ref (He.ga K "InvalidCount")) (.ref (He.ga K "InvalidScheme")) = some false := (QH.kin_ok (t.c.fact 122 (f := QH.kin "InvalidCount" [(.type "ValueError", true), (.type "LookupError", false), (.type "RuntimeError", false), (.type "ArithmeticError", false)] [("CastError", true), ("InvalidName", false), ("InvalidValue", false), ("InvalidShape", false), ("InvalidTable", false), ("InvalidTables", false), ("InvalidScheme", false), ("InvalidSchemes", false)]) rfl)).2 ("InvalidScheme", _) (by simp)
theorem k_InvalidCount_InvalidSchemes (t : T K mg base) : PySem.W.kitOne K (.ref (He.ga K "InvalidCount")) (.ref (He.ga K "InvalidSchemes")) = some false := (QH.kin_ok (t.c.fact 122 (f := QH.kin "InvalidCount" [(.type "ValueError", true), (.type "LookupError", false), (.type "RuntimeError", false), (.type "ArithmeticError", false)] [("CastError", true), ("InvalidName", false), ("InvalidValue", false), ("InvalidShape", false), ("InvalidTable", false), ("InvalidTables", false), ("InvalidScheme", false), ("InvalidSchemes", false)]) rfl)).2 ("InvalidSchemes", _) (by simp)
theorem i_InvalidCount (t : T K mg base) : PySem.W.findIn K (.ref (He.ga K "InvalidCount")) "__init__" = some (some (.ref (He.ma K (He.ga K "InvalidCount") "__init__"))) ∧ PySem.W.typeIn K (.ref (He.ma K (He.ga K "InvalidCount") "__init__")) = some (.type "function") ∧ ∀ f ∈ (["value"] : List Str), PySem.W.findIn K (.ref (He.ga K "InvalidCount")) f = some none := QH.ini_ok (t.c.fact 121 (f := QH.ini "InvalidCount" ["value"]) rfl)
theorem si_InvalidCount : FnScope ["self", "value"] ["self", "value"] (defScope (inClass (top 18) 0)) := ⟨rfl, rfl, rfl, by decide +kernel, rfl, by decide +kernel, by decide +kernel⟩
theorem m_InvalidCount (t : T K mg base) : QE.MkE P w K mg base "InvalidCount" (He.ga K "InvalidCount") ["value"] := by
  obtain ⟨fd, F⟩ := t.c.def_ 29
  exact ⟨_, fd, ["self", "value"], (x_InvalidCount t).x, (i_InvalidCount t).1, (i_InvalidCount t).2.1, F.ok si_InvalidCount (QW.spI.len rfl) (fun cdv A outer s H vs Q E hr h => ⟨_, PSs.nox (pss_cons (ps_expr (QE.pe_binit rfl (g_CastError t) (cre t).1 (cre t).2 (pa_cons (pv 0) (pa_cons pe_str pa_nil)))) (pss_one (QE.ps_st (pv 0) (pv 1)))), QW.pure_init1 (x_InvalidCount t) ((i_InvalidCount t).2.2 _ (by simp)) h rfl⟩), F.bindsN (fun _ _ _ _ _ _ us hl => match us, hl with | [_, _], _ => rfl), g_InvalidCount t⟩
theorem x_InvalidText (t : T K mg base) : QE.ExB K (He.ga K "InvalidText") "ValueError" "ValueError.__new__" "ValueError.__init__" veL := QH.exc_ok PySem.F.excBase_ValueError PySem.F.store_ValueError (t.c.fact 124 (f := QH.exc "InvalidText" "ValueError.__new__" veL) rfl)
theorem k_InvalidText (t : T K mg base) : QW.KinOk K (He.ga K "InvalidText") (He.ga K "CastError") true true false false false := by
  have h := QH.kin_ok (t.c.fact 126 (f := QH.kin "InvalidText" [(.type "ValueError", true), (.type "LookupError", false), (.type "RuntimeError", false), (.type "ArithmeticError", false)] [("CastError", true), ("InvalidName", false), ("InvalidValue", false), ("InvalidShape", false), ("InvalidTable", false), ("InvalidTables", false), ("InvalidScheme", false), ("InvalidSchemes", false)]) rfl)
  exact ⟨(x_InvalidText t).x, h.2 _ List.mem_cons_self, h.1 (.type "ValueError", _) (by simp), h.1 (.type "LookupError", _) (by simp), h.1 (.type "RuntimeError", _) (by simp), h.1 (.type "ArithmeticError", _) (by simp), of_decide_eq_true (t.c.fact 127 (f := QH.kint "InvalidText" [.type "KeyError", .type "IndexError"] false) rfl)⟩
theorem k_InvalidText_InvalidName (t : T K mg base) : PySem.W.kitOne K (.ref (He.ga K "InvalidText")) (.ref (He.ga K "InvalidName")) = some false := (QH.kin_ok (t.c.fact 126 (f := QH.kin "InvalidText" [(.type "ValueError", true), (.type "LookupError", false), (.type "RuntimeError", false), (.type "ArithmeticError", false)] [("CastError", true), ("InvalidName", false), ("InvalidValue", false), ("InvalidShape", false), ("InvalidTable", false), ("InvalidTables", false), ("InvalidScheme", false), ("InvalidSchemes", false)]) rfl)).2 ("InvalidName", _) (by simp)
theorem k_InvalidText_InvalidValue (t : T K mg base) : PySem.W.kitOne K (.ref (He.ga K "InvalidText")) (.ref (He.ga K "InvalidValue")) = some false := (QH.kin_ok (t.c.fact 126 (f := QH.kin "InvalidText" [(.type "ValueError", true), (.type "LookupError", false), (.type "RuntimeError", false), (.type "ArithmeticError", false)] [("CastError", true), ("InvalidName", false), ("InvalidValue", false), ("InvalidShape", false), ("InvalidTable", false), ("InvalidTables", false), ("InvalidScheme", false), ("InvalidSchemes", false)]) rfl)).2 ("InvalidValue", _) (by simp)
theorem k_InvalidText_InvalidShape (t : T K mg base) : PySem.W.kitOne K (.ref (He.ga K "InvalidText")) (.ref (He.ga K "InvalidShape")) = some false := (QH.kin_ok (t.c.fact 126 (f := QH.kin "InvalidText" [(.type "ValueError", true), (.type "LookupError", false), (.type "RuntimeError", false), (.type "ArithmeticError", false)] [("CastError", true), ("InvalidName", false), ("InvalidValue", false), ("InvalidShape", false), ("InvalidTable", false), ("InvalidTables", false), ("InvalidScheme", false), ("InvalidSchemes", false)]) rfl)).2 ("InvalidShape", _) (by simp)
theorem k_InvalidText_InvalidTable (t : T K mg base) : PySem.W.kitOne K (.ref (He.ga K "InvalidText")) (.ref (He.ga K "InvalidTable")) = some false := (QH.kin_ok (t.c.fact 126 (f := QH.kin "InvalidText" [(.type "ValueError", true), (.type "LookupError", false), (.type "RuntimeError", false), (.type "ArithmeticError", false)] [("CastError", true), ("InvalidName", false), ("InvalidValue", false), ("InvalidShape", false), ("InvalidTable", false), ("InvalidTables", false), ("InvalidScheme", false), ("InvalidSchemes", false)]) rfl)).2 ("InvalidTable", _) (by simp)
theorem k_InvalidText_InvalidTables (t : T K mg base) : PySem.W.kitOne K (.ref (He.ga K "InvalidText")) (.ref (He.ga K "InvalidTables")) = some false := (QH.kin_ok (t.c.fact 126 (f := QH.kin "InvalidText" [(.type "ValueError", true), (.type "LookupError", false), (.type "RuntimeError", false), (.type "ArithmeticError", false)] [("CastError", true), ("InvalidName", false), ("InvalidValue", false), ("InvalidShape", false), ("InvalidTable", false), ("InvalidTables", false), ("InvalidScheme", false), ("InvalidSchemes", false)]) rfl)).2 ("InvalidTables", _) (by simp)
theorem k_InvalidText_InvalidScheme (t : T K mg base) : PySem.W.kitOne K (.ref (He.ga K "InvalidText")) (.ref (He.ga K "InvalidScheme")) = some false := (QH.kin_ok (t.c.fact 126 (f := QH.kin "InvalidText" [(.type "ValueError", true), (.type "LookupError", false), (.type "RuntimeError", false), (.type "ArithmeticError", false)] [("CastError", true), ("InvalidName", false), ("InvalidValue", false), ("InvalidShape", false), ("InvalidTable", false), ("InvalidTables", false), ("InvalidScheme", false), ("InvalidSchemes", false)]) rfl)).2 ("InvalidScheme", _) (by simp)
theorem k_InvalidText_InvalidSchemes (t : T K mg base) : PySem.W.kitOne K (.ref (He.ga K "InvalidText")) (.ref (He.ga K "InvalidSchemes")) = some false := (QH.kin_ok (t.c.fact 126 (f := QH.kin "InvalidText" [(.type "ValueError", true), (.type "LookupError", false), (.type "RuntimeError", false), (.type "ArithmeticError", false)] [("CastError", true), ("InvalidName", false), ("InvalidValue", false), ("InvalidShape", false), ("InvalidTable", false), ("InvalidTables", false), ("InvalidScheme", false), ("InvalidSchemes", false)]) rfl)).2 ("InvalidSchemes", _) (by simp)
theorem i_InvalidText (t : T K mg base) : PySem.W.findIn K (.ref (He.ga K "InvalidText")) "__init__" = some (some (.ref (He.ma K (He.ga K "InvalidText") "__init__"))) ∧ PySem.W.typeIn K (.ref (He.ma K (He.ga K "InvalidText") "__init__")) = some (.type "function") ∧ ∀ f ∈ (["line"] : List Str), PySem.W.findIn K (.ref (He.ga K "InvalidText")) f = some none := QH.ini_ok (t.c.fact 125 (f := QH.ini "InvalidText" ["line"]) rfl)
theorem si_InvalidText : FnScope ["self", "line"] ["self", "line"] (defScope (inClass (top 19) 0)) := ⟨rfl, rfl, rfl, by decide +kernel, rfl, by decide +kernel, by decide +kernel⟩
theorem m_InvalidText (t : T K mg base) : QE.MkE P w K mg base "InvalidText" (He.ga K "InvalidText") ["line"] := by
  obtain ⟨fd, F⟩ := t.c.def_ 30
  exact ⟨_, fd, ["self", "line"], (x_InvalidText t).x, (i_InvalidText t).1, (i_InvalidText t).2.1, F.ok si_InvalidText (QW.spI.len rfl) (fun cdv A outer s H vs Q E hr h => ⟨_, PSs.nox (pss_cons (ps_expr (QE.pe_binit rfl (g_CastError t) (cre t).1 (cre t).2 (pa_cons (pv 0) (pa_cons pe_str pa_nil)))) (pss_one (QE.ps_st (pv 0) (pv 1)))), QW.pure_init1 (x_InvalidText t) ((i_InvalidText t).2.2 _ (by simp)) h rfl⟩), F.bindsN (fun _ _ _ _ _ _ us hl => match us, hl with | [_, _], _ => rfl), g_InvalidText t⟩
theorem x_InvalidCommand (t : T K mg base) : QE.ExB K (He.ga K "InvalidCommand") "ValueError" "ValueError.__new__" "ValueError.__init__" veL := QH.exc_ok PySem.F.excBase_ValueError PySem.F.store_ValueError (t.c.fact 128 (f := QH.exc "InvalidCommand" "ValueError.__new__" veL) rfl)
theorem k_InvalidCommand (t : T K mg base) : QW.KinOk K (He.ga K "InvalidCommand") (He.ga K "CastError") true true false false false := by
  have h := QH.kin_ok (t.c.fact 130 (f := QH.kin "InvalidCommand" [(.type "ValueError", true), (.type "LookupError", false), (.type "RuntimeError", false), (.type "ArithmeticError", false)] [("CastError", true), ("InvalidName", false), ("InvalidValue", false), ("InvalidShape", false), ("InvalidTable", false), ("InvalidTables", false), ("InvalidScheme", false), ("InvalidSchemes", false)]) rfl)
  exact ⟨(x_InvalidCommand t).x, h.2 _ List.mem_cons_self, h.1 (.type "ValueError", _) (by simp), h.1 (.type "LookupError", _) (by simp), h.1 (.type "RuntimeError", _) (by simp), h.1 (.type "ArithmeticError", _) (by simp), of_decide_eq_true (t.c.fact 131 (f := QH.kint "InvalidCommand" [.type "KeyError", .type "IndexError"] false) rfl)⟩
theorem k_InvalidCommand_InvalidName (t : T K mg base) : PySem.W.kitOne K (.ref (He.ga K "InvalidCommand")) (.ref (He.ga K "InvalidName")) = some false := (QH.kin_ok (t.c.fact 130 (f := QH.kin "InvalidCommand" [(.type "ValueError", true), (.type "LookupError", false), (.type "RuntimeError", false), (.type "ArithmeticError", false)] [("CastError", true), ("InvalidName", false), ("InvalidValue", false), ("InvalidShape", false), ("InvalidTable", false), ("InvalidTables", false), ("InvalidScheme", false), ("InvalidSchemes", false)]) rfl)).2 ("InvalidName", _) (by simp)
theorem k_InvalidCommand_InvalidValue (t : T K mg base) : PySem.W.kitOne K (.ref (He.ga K "InvalidCommand")) (.ref (He.ga K "InvalidValue")) = some false := (QH.kin_ok (t.c.fact 130 (f := QH.kin "InvalidCommand" [(.type "ValueError", true), (.type "LookupError", false), (.type "RuntimeError", false), (.type "ArithmeticError", false)] [("CastError", true), ("InvalidName", false), ("InvalidValue", false), ("InvalidShape", false), ("InvalidTable", false), ("InvalidTables", false), ("InvalidScheme", false), ("InvalidSchemes", false)]) rfl)).2 ("InvalidValue", _) (by simp)
theorem k_InvalidCommand_InvalidShape (t : T K mg base) : PySem.W.kitOne K (.ref (He.ga K "InvalidCommand")) (.ref (He.ga K "InvalidShape")) = some false := (QH.kin_ok (t.c.fact 130 (f := QH.kin "InvalidCommand" [(.type "ValueError", true), (.type "LookupError", false), (.type "RuntimeError", false), (.type "ArithmeticError", false)] [("CastError", true), ("InvalidName", false), ("InvalidValue", false), ("InvalidShape", false), ("InvalidTable", false), ("InvalidTables", false), ("InvalidScheme", false), ("InvalidSchemes", false)]) rfl)).2 ("InvalidShape", _) (by simp)
theorem k_InvalidCommand_InvalidTable (t : T K mg base) : PySem.W.kitOne K (.ref (He.ga K "InvalidCommand")) (.ref (He.ga K "InvalidTable")) = some false := (QH.kin_ok (t.c.fact 130 (f := QH.kin "InvalidCommand" [(.type "ValueError", true), (.type "LookupError", false), (.type "RuntimeError", false), (.type "ArithmeticError", false)] [("CastError", true), ("InvalidName", false), ("InvalidValue", false), ("InvalidShape", false), ("InvalidTable", false), ("InvalidTables", false), ("InvalidScheme", false), ("InvalidSchemes", false)]) rfl)).2 ("InvalidTable", _) (by simp)
theorem k_InvalidCommand_InvalidTables (t : T K mg base) : PySem.W.kitOne K (.ref (He.ga K "InvalidCommand")) (.ref (He.ga K "InvalidTables")) = some false := (QH.kin_ok (t.c.fact 130 (f := QH.kin "InvalidCommand" [(.type "ValueError", true), (.type "LookupError", false), (.type "RuntimeError", false), (.type "ArithmeticError", false)] [("CastError", true), ("InvalidName", false), ("InvalidValue", false), ("InvalidShape", false), ("InvalidTable", false), ("InvalidTables", false), ("InvalidScheme", false), ("InvalidSchemes", false)]) rfl)).2 ("InvalidTables", _) (by simp)
theorem k_InvalidCommand_InvalidScheme (t : T K mg base) : PySem.W.kitOne K (.ref (He.ga K "InvalidCommand")) (.ref (He.ga K "InvalidScheme")) = some false := (QH.kin_ok (t.c.fact 130 (f := QH.kin "InvalidCommand" [(.type "ValueError", true), (.type "LookupError", false), (.type "RuntimeError", false), (.type "ArithmeticError", false)] [("CastError", true), ("InvalidName", false), ("InvalidValue", false), ("InvalidShape", false), ("InvalidTable", false), ("InvalidTables", false), ("InvalidScheme", false), ("InvalidSchemes", false)]) rfl)).2 ("InvalidScheme", _) (by simp)
theorem k_InvalidCommand_InvalidSchemes (t : T K mg base) : PySem.W.kitOne K (.ref (He.ga K "InvalidCommand")) (.ref (He.ga K "InvalidSchemes")) = some false := (QH.kin_ok (t.c.fact 130 (f := QH.kin "InvalidCommand" [(.type "ValueError", true), (.type "LookupError", false), (.type "RuntimeError", false), (.type "ArithmeticError", false)] [("CastError", true), ("InvalidName", false), ("InvalidValue", false), ("InvalidShape", false), ("InvalidTable", false), ("InvalidTables", false), ("InvalidScheme", false), ("InvalidSchemes", false)]) rfl)).2 ("InvalidSchemes", _) (by simp)
theorem i_InvalidCommand (t : T K mg base) : PySem.W.findIn K (.ref (He.ga K "InvalidCommand")) "__init__" = some (some (.ref (He.ma K (He.ga K "InvalidCommand") "__init__"))) ∧ PySem.W.typeIn K (.ref (He.ma K (He.ga K "InvalidCommand") "__init__")) = some (.type "function") ∧ ∀ f ∈ (["value"] : List Str), PySem.W.findIn K (.ref (He.ga K "InvalidCommand")) f = some none := QH.ini_ok (t.c.fact 129 (f := QH.ini "InvalidCommand" ["value"]) rfl)
theorem si_InvalidCommand : FnScope ["self", "value"] ["self", "value"] (defScope (inClass (top 20) 0)) := ⟨rfl, rfl, rfl, by decide +kernel, rfl, by decide +kernel, by decide +kernel⟩
theorem m_InvalidCommand (t : T K mg base) : QE.MkE P w K mg base "InvalidCommand" (He.ga K "InvalidCommand") ["value"] := by
  obtain ⟨fd, F⟩ := t.c.def_ 31
  exact ⟨_, fd, ["self", "value"], (x_InvalidCommand t).x, (i_InvalidCommand t).1, (i_InvalidCommand t).2.1, F.ok si_InvalidCommand (QW.spI.len rfl) (fun cdv A outer s H vs Q E hr h => ⟨_, PSs.nox (pss_cons (ps_expr (QE.pe_binit rfl (g_CastError t) (cre t).1 (cre t).2 (pa_cons (pv 0) (pa_cons pe_str pa_nil)))) (pss_one (QE.ps_st (pv 0) (pv 1)))), QW.pure_init1 (x_InvalidCommand t) ((i_InvalidCommand t).2.2 _ (by simp)) h rfl⟩), F.bindsN (fun _ _ _ _ _ _ us hl => match us, hl with | [_, _], _ => rfl), g_InvalidCommand t⟩
theorem x_UnknownType (t : T K mg base) : QE.ExB K (He.ga K "UnknownType") "LookupError" "LookupError.__new__" "LookupError.__init__" leL := QH.exc_ok PySem.F.excBase_LookupError PySem.F.store_LookupError (t.c.fact 132 (f := QH.exc "UnknownType" "LookupError.__new__" leL) rfl)
theorem k_UnknownType (t : T K mg base) : QW.KinOk K (He.ga K "UnknownType") (He.ga K "CastError") false false true false false := by
  have h := QH.kin_ok (t.c.fact 134 (f := QH.kin "UnknownType" [(.type "ValueError", false), (.type "LookupError", true), (.type "RuntimeError", false), (.type "ArithmeticError", false)] [("CastError", false)]) rfl)
  exact ⟨(x_UnknownType t).x, h.2 _ List.mem_cons_self, h.1 (.type "ValueError", _) (by simp), h.1 (.type "LookupError", _) (by simp), h.1 (.type "RuntimeError", _) (by simp), h.1 (.type "ArithmeticError", _) (by simp), of_decide_eq_true (t.c.fact 135 (f := QH.kint "UnknownType" [.type "KeyError", .type "IndexError"] false) rfl)⟩
theorem i_UnknownType (t : T K mg base) : PySem.W.findIn K (.ref (He.ga K "UnknownType")) "__init__" = some (some (.ref (He.ma K (He.ga K "UnknownType") "__init__"))) ∧ PySem.W.typeIn K (.ref (He.ma K (He.ga K "UnknownType") "__init__")) = some (.type "function") ∧ ∀ f ∈ (["value"] : List Str), PySem.W.findIn K (.ref (He.ga K "UnknownType")) f = some none := QH.ini_ok (t.c.fact 133 (f := QH.ini "UnknownType" ["value"]) rfl)
theorem si_UnknownType : FnScope ["self", "value"] ["self", "value"] (defScope (inClass (top 21) 0)) := ⟨rfl, rfl, rfl, by decide +kernel, rfl, by decide +kernel, by decide +kernel⟩
theorem m_UnknownType (t : T K mg base) : QE.MkE P w K mg base "UnknownType" (He.ga K "UnknownType") ["value"] := by
  obtain ⟨fd, F⟩ := t.c.def_ 32
  exact ⟨_, fd, ["self", "value"], (x_UnknownType t).x, (i_UnknownType t).1, (i_UnknownType t).2.1, F.ok si_UnknownType (QW.spI.len rfl) (fun cdv A outer s H vs Q E hr h => ⟨_, PSs.nox (pss_cons (ps_expr (QE.pe_tinit (T := "LookupError") rfl (n_LookupError t) (by decide +kernel) QE.ty_LE (by decide +kernel) (v_LookupError t) (pa_cons (pv 0) (pa_cons pe_str pa_nil)))) (pss_one (QE.ps_st (pv 0) (pv 1)))), QW.pure_init1 (x_UnknownType t) ((i_UnknownType t).2.2 _ (by simp)) h rfl⟩), F.bindsN (fun _ _ _ _ _ _ us hl => match us, hl with | [_, _], _ => rfl), g_UnknownType t⟩
theorem x_UnknownCast (t : T K mg base) : QE.ExB K (He.ga K "UnknownCast") "LookupError" "LookupError.__new__" "LookupError.__init__" leL := QH.exc_ok PySem.F.excBase_LookupError PySem.F.store_LookupError (t.c.fact 136 (f := QH.exc "UnknownCast" "LookupError.__new__" leL) rfl)
theorem k_UnknownCast (t : T K mg base) : QW.KinOk K (He.ga K "UnknownCast") (He.ga K "CastError") false false true false false := by
  have h := QH.kin_ok (t.c.fact 138 (f := QH.kin "UnknownCast" [(.type "ValueError", false), (.type "LookupError", true), (.type "RuntimeError", false), (.type "ArithmeticError", false)] [("CastError", false)]) rfl)
  exact ⟨(x_UnknownCast t).x, h.2 _ List.mem_cons_self, h.1 (.type "ValueError", _) (by simp), h.1 (.type "LookupError", _) (by simp), h.1 (.type "RuntimeError", _) (by simp), h.1 (.type "ArithmeticError", _) (by simp), of_decide_eq_true (t.c.fact 139 (f := QH.kint "UnknownCast" [.type "KeyError", .type "IndexError"] false) rfl)⟩
theorem i_UnknownCast (t : T K mg base) : PySem.W.findIn K (.ref (He.ga K "UnknownCast")) "__init__" = some (some (.ref (He.ma K (He.ga K "UnknownCast") "__init__"))) ∧ PySem.W.typeIn K (.ref (He.ma K (He.ga K "UnknownCast") "__init__")) = some (.type "function") ∧ ∀ f ∈ (["value"] : List Str), PySem.W.findIn K (.ref (He.ga K "UnknownCast")) f = some none := QH.ini_ok (t.c.fact 137 (f := QH.ini "UnknownCast" ["value"]) rfl)
theorem si_UnknownCast : FnScope ["self", "value"] ["self", "value"] (defScope (inClass (top 22) 0)) := ⟨rfl, rfl, rfl, by decide +kernel, rfl, by decide +kernel, by decide +kernel⟩
theorem m_UnknownCast (t : T K mg base) : QE.MkE P w K mg base "UnknownCast" (He.ga K "UnknownCast") ["value"] := by
  obtain ⟨fd, F⟩ := t.c.def_ 33
  exact ⟨_, fd, ["self", "value"], (x_UnknownCast t).x, (i_UnknownCast t).1, (i_UnknownCast t).2.1, F.ok si_UnknownCast (QW.spI.len rfl) (fun cdv A outer s H vs Q E hr h => ⟨_, PSs.nox (pss_cons (ps_expr (QE.pe_tinit (T := "LookupError") rfl (n_LookupError t) (by decide +kernel) QE.ty_LE (by decide +kernel) (v_LookupError t) (pa_cons (pv 0) (pa_cons pe_str pa_nil)))) (pss_one (QE.ps_st (pv 0) (pv 1)))), QW.pure_init1 (x_UnknownCast t) ((i_UnknownCast t).2.2 _ (by simp)) h rfl⟩), F.bindsN (fun _ _ _ _ _ _ us hl => match us, hl with | [_, _], _ => rfl), g_UnknownCast t⟩
theorem x_UnknownVersion (t : T K mg base) : QE.ExB K (He.ga K "UnknownVersion") "LookupError" "LookupError.__new__" "LookupError.__init__" leL := QH.exc_ok PySem.F.excBase_LookupError PySem.F.store_LookupError (t.c.fact 140 (f := QH.exc "UnknownVersion" "LookupError.__new__" leL) rfl)
theorem k_UnknownVersion (t : T K mg base) : QW.KinOk K (He.ga K "UnknownVersion") (He.ga K "CastError") false false true false false := by
  have h := QH.kin_ok (t.c.fact 142 (f := QH.kin "UnknownVersion" [(.type "ValueError", false), (.type "LookupError", true), (.type "RuntimeError", false), (.type "ArithmeticError", false)] [("CastError", false)]) rfl)
  exact ⟨(x_UnknownVersion t).x, h.2 _ List.mem_cons_self, h.1 (.type "ValueError", _) (by simp), h.1 (.type "LookupError", _) (by simp), h.1 (.type "RuntimeError", _) (by simp), h.1 (.type "ArithmeticError", _) (by simp), of_decide_eq_true (t.c.fact 143 (f := QH.kint "UnknownVersion" [.type "KeyError", .type "IndexError"] false) rfl)⟩
theorem i_UnknownVersion (t : T K mg base) : PySem.W.findIn K (.ref (He.ga K "UnknownVersion")) "__init__" = some (some (.ref (He.ma K (He.ga K "UnknownVersion") "__init__"))) ∧ PySem.W.typeIn K (.ref (He.ma K (He.ga K "UnknownVersion") "__init__")) = some (.type "function") ∧ ∀ f ∈ (["value"] : List Str), PySem.W.findIn K (.ref (He.ga K "UnknownVersion")) f = some none := QH.ini_ok (t.c.fact 141 (f := QH.ini "UnknownVersion" ["value"]) rfl)
theorem si_UnknownVersion : FnScope ["self", "value"] ["self", "value"] (defScope (inClass (top 23) 0)) := ⟨rfl, rfl, rfl, by decide +kernel, rfl, by decide +kernel, by decide +kernel⟩
theorem m_UnknownVersion (t : T K mg base) : QE.MkE P w K mg base "UnknownVersion" (He.ga K "UnknownVersion") ["value"] := by
  obtain ⟨fd, F⟩ := t.c.def_ 34
  exact ⟨_, fd, ["self", "value"], (x_UnknownVersion t).x, (i_UnknownVersion t).1, (i_UnknownVersion t).2.1, F.ok si_UnknownVersion (QW.spI.len rfl) (fun cdv A outer s H vs Q E hr h => ⟨_, PSs.nox (pss_cons (ps_expr (QE.pe_tinit (T := "LookupError") rfl (n_LookupError t) (by decide +kernel) QE.ty_LE (by decide +kernel) (v_LookupError t) (pa_cons (pv 0) (pa_cons pe_str pa_nil)))) (pss_one (QE.ps_st (pv 0) (pv 1)))), QW.pure_init1 (x_UnknownVersion t) ((i_UnknownVersion t).2.2 _ (by simp)) h rfl⟩), F.bindsN (fun _ _ _ _ _ _ us hl => match us, hl with | [_, _], _ => rfl), g_UnknownVersion t⟩
theorem x_UnknownOperator (t : T K mg base) : QE.ExB K (He.ga K "UnknownOperator") "LookupError" "LookupError.__new__" "LookupError.__init__" leL := QH.exc_ok PySem.F.excBase_LookupError PySem.F.store_LookupError (t.c.fact 144 (f := QH.exc "UnknownOperator" "LookupError.__new__" leL) rfl)
theorem k_UnknownOperator (t : T K mg base) : QW.KinOk K (He.ga K "UnknownOperator") (He.ga K "CastError") false false true false false := by
  have h := QH.kin_ok (t.c.fact 146 (f := QH.kin "UnknownOperator" [(.type "ValueError", false), (.type "LookupError", true), (.type "RuntimeError", false), (.type "ArithmeticError", false)] [("CastError", false)]) rfl)
  exact ⟨(x_UnknownOperator t).x, h.2 _ List.mem_cons_self, h.1 (.type "ValueError", _) (by simp), h.1 (.type "LookupError", _) (by simp), h.1 (.type "RuntimeError", _) (by simp), h.1 (.type "ArithmeticError", _) (by simp), of_decide_eq_true (t.c.fact 147 (f := QH.kint "UnknownOperator" [.type "KeyError", .type "IndexError"] false) rfl)⟩
theorem i_UnknownOperator (t : T K mg base) : PySem.W.findIn K (.ref (He.ga K "UnknownOperator")) "__init__" = some (some (.ref (He.ma K (He.ga K "UnknownOperator") "__init__"))) ∧ PySem.W.typeIn K (.ref (He.ma K (He.ga K "UnknownOperator") "__init__")) = some (.type "function") ∧ ∀ f ∈ (["value"] : List Str), PySem.W.findIn K (.ref (He.ga K "UnknownOperator")) f = some none := QH.ini_ok (t.c.fact 145 (f := QH.ini "UnknownOperator" ["value"]) rfl)
theorem si_UnknownOperator : FnScope ["self", "value"] ["self", "value"] (defScope (inClass (top 24) 0)) := ⟨rfl, rfl, rfl, by decide +kernel, rfl, by decide +kernel, by decide +kernel⟩
theorem m_UnknownOperator (t : T K mg base) : QE.MkE P w K mg base "UnknownOperator" (He.ga K "UnknownOperator") ["value"] := by
  obtain ⟨fd, F⟩ := t.c.def_ 35
  exact ⟨_, fd, ["self", "value"], (x_UnknownOperator t).x, (i_UnknownOperator t).1, (i_UnknownOperator t).2.1, F.ok si_UnknownOperator (QW.spI.len rfl) (fun cdv A outer s H vs Q E hr h => ⟨_, PSs.nox (pss_cons (ps_expr (QE.pe_tinit (T := "LookupError") rfl (n_LookupError t) (by decide +kernel) QE.ty_LE (by decide +kernel) (v_LookupError t) (pa_cons (pv 0) (pa_cons pe_str pa_nil)))) (pss_one (QE.ps_st (pv 0) (pv 1)))), QW.pure_init1 (x_UnknownOperator t) ((i_UnknownOperator t).2.2 _ (by simp)) h rfl⟩), F.bindsN (fun _ _ _ _ _ _ us hl => match us, hl with | [_, _], _ => rfl), g_UnknownOperator t⟩
theorem x_NoVersion (t : T K mg base) : QE.ExB K (He.ga K "NoVersion") "LookupError" "LookupError.__new__" "LookupError.__init__" leL := QH.exc_ok PySem.F.excBase_LookupError PySem.F.store_LookupError (t.c.fact 148 (f := QH.exc "NoVersion" "LookupError.__new__" leL) rfl)
theorem k_NoVersion (t : T K mg base) : QW.KinOk K (He.ga K "NoVersion") (He.ga K "CastError") false false true false false := by
  have h := QH.kin_ok (t.c.fact 150 (f := QH.kin "NoVersion" [(.type "ValueError", false), (.type "LookupError", true), (.type "RuntimeError", false), (.type "ArithmeticError", false)] [("CastError", false)]) rfl)
  exact ⟨(x_NoVersion t).x, h.2 _ List.mem_cons_self, h.1 (.type "ValueError", _) (by simp), h.1 (.type "LookupError", _) (by simp), h.1 (.type "RuntimeError", _) (by simp), h.1 (.type "ArithmeticError", _) (by simp), of_decide_eq_true (t.c.fact 151 (f := QH.kint "NoVersion" [.type "KeyError", .type "IndexError"] false) rfl)⟩
theorem i_NoVersion (t : T K mg base) : PySem.W.findIn K (.ref (He.ga K "NoVersion")) "__init__" = some (some (.ref (He.ma K (He.ga K "NoVersion") "__init__"))) ∧ PySem.W.typeIn K (.ref (He.ma K (He.ga K "NoVersion") "__init__")) = some (.type "function") ∧ ∀ f ∈ (["operator", "arguments"] : List Str), PySem.W.findIn K (.ref (He.ga K "NoVersion")) f = some none := QH.ini_ok (t.c.fact 149 (f := QH.ini "NoVersion" ["operator", "arguments"]) rfl)
theorem si_NoVersion : FnScope ["self", "operator", "arguments"] ["self", "operator", "arguments"] (defScope (inClass (top 25) 0)) := ⟨rfl, rfl, rfl, by decide +kernel, rfl, by decide +kernel, by decide +kernel⟩
theorem m_NoVersion (t : T K mg base) : QE.MkE P w K mg base "NoVersion" (He.ga K "NoVersion") ["operator", "arguments"] := by
  obtain ⟨fd, F⟩ := t.c.def_ 36
  exact ⟨_, fd, ["self", "operator", "arguments"], (x_NoVersion t).x, (i_NoVersion t).1, (i_NoVersion t).2.1, F.ok si_NoVersion (QW.spI.len rfl) (fun cdv A outer s H vs Q E hr h => ⟨_, PSs.nox (pss_cons (ps_expr (QE.pe_tinit (T := "LookupError") rfl (n_LookupError t) (by decide +kernel) QE.ty_LE (by decide +kernel) (v_LookupError t) (pa_cons (pv 0) (pa_cons pe_str pa_nil)))) (pss_cons (QE.ps_st (pv 0) (pv 1)) (pss_one (QE.ps_st (pv 0) (pv 2))))), QW.pure_init2 (x_NoVersion t) ((i_NoVersion t).2.2 _ (by simp)) ((i_NoVersion t).2.2 _ (by simp)) h rfl⟩), F.bindsN (fun _ _ _ _ _ _ us hl => match us, hl with | [_, _, _], _ => rfl), g_NoVersion t⟩
theorem x_NoPath (t : T K mg base) : QE.ExB K (He.ga K "NoPath") "LookupError" "LookupError.__new__" "LookupError.__init__" leL := QH.exc_ok PySem.F.excBase_LookupError PySem.F.store_LookupError (t.c.fact 152 (f := QH.exc "NoPath" "LookupError.__new__" leL) rfl)
theorem k_NoPath (t : T K mg base) : QW.KinOk K (He.ga K "NoPath") (He.ga K "CastError") false false true false false := by
  have h := QH.kin_ok (t.c.fact 154 (f := QH.kin "NoPath" [(.type "ValueError", false), (.type "LookupError", true), (.type "RuntimeError", false), (.type "ArithmeticError", false)] [("CastError", false)]) rfl)
  exact ⟨(x_NoPath t).x, h.2 _ List.mem_cons_self, h.1 (.type "ValueError", _) (by simp), h.1 (.type "LookupError", _) (by simp), h.1 (.type "RuntimeError", _) (by simp), h.1 (.type "ArithmeticError", _) (by simp), of_decide_eq_true (t.c.fact 155 (f := QH.kint "NoPath" [.type "KeyError", .type "IndexError"] false) rfl)⟩
theorem i_NoPath (t : T K mg base) : PySem.W.findIn K (.ref (He.ga K "NoPath")) "__init__" = some (some (.ref (He.ma K (He.ga K "NoPath") "__init__"))) ∧ PySem.W.typeIn K (.ref (He.ma K (He.ga K "NoPath") "__init__")) = some (.type "function") ∧ ∀ f ∈ (["source", "target"] : List Str), PySem.W.findIn K (.ref (He.ga K "NoPath")) f = some none := QH.ini_ok (t.c.fact 153 (f := QH.ini "NoPath" ["source", "target"]) rfl)
theorem si_NoPath : FnScope ["self", "source", "target"] ["self", "source", "target"] (defScope (inClass (top 26) 0)) := ⟨rfl, rfl, rfl, by decide +kernel, rfl, by decide +kernel, by decide +kernel⟩
theorem m_NoPath (t : T K mg base) : QE.MkE P w K mg base "NoPath" (He.ga K "NoPath") ["source", "target"] := by
  obtain ⟨fd, F⟩ := t.c.def_ 37
  exact ⟨_, fd, ["self", "source", "target"], (x_NoPath t).x, (i_NoPath t).1, (i_NoPath t).2.1, F.ok si_NoPath (QW.spI.len rfl) (fun cdv A outer s H vs Q E hr h => ⟨_, PSs.nox (pss_cons (ps_expr (QE.pe_tinit (T := "LookupError") rfl (n_LookupError t) (by decide +kernel) QE.ty_LE (by decide +kernel) (v_LookupError t) (pa_cons (pv 0) (pa_cons pe_str pa_nil)))) (pss_cons (QE.ps_st (pv 0) (pv 1)) (pss_one (QE.ps_st (pv 0) (pv 2))))), QW.pure_init2 (x_NoPath t) ((i_NoPath t).2.2 _ (by simp)) ((i_NoPath t).2.2 _ (by simp)) h rfl⟩), F.bindsN (fun _ _ _ _ _ _ us hl => match us, hl with | [_, _, _], _ => rfl), g_NoPath t⟩
theorem x_NameTaken (t : T K mg base) : QE.ExB K (He.ga K "NameTaken") "RuntimeError" "RuntimeError.__new__" "RuntimeError.__init__" reL := QH.exc_ok PySem.F.excBase_RuntimeError PySem.F.store_RuntimeError (t.c.fact 156 (f := QH.exc "NameTaken" "RuntimeError.__new__" reL) rfl)
theorem k_NameTaken (t : T K mg base) : QW.KinOk K (He.ga K "NameTaken") (He.ga K "CastError") false false false true false := by
  have h := QH.kin_ok (t.c.fact 158 (f := QH.kin "NameTaken" [(.type "ValueError", false), (.type "LookupError", false), (.type "RuntimeError", true), (.type "ArithmeticError", false)] [("CastError", false)]) rfl)
  exact ⟨(x_NameTaken t).x, h.2 _ List.mem_cons_self, h.1 (.type "ValueError", _) (by simp), h.1 (.type "LookupError", _) (by simp), h.1 (.type "RuntimeError", _) (by simp), h.1 (.type "ArithmeticError", _) (by simp), of_decide_eq_true (t.c.fact 159 (f := QH.kint "NameTaken" [.type "KeyError", .type "IndexError"] false) rfl)⟩
theorem i_NameTaken (t : T K mg base) : PySem.W.findIn K (.ref (He.ga K "NameTaken")) "__init__" = some (some (.ref (He.ma K (He.ga K "NameTaken") "__init__"))) ∧ PySem.W.typeIn K (.ref (He.ma K (He.ga K "NameTaken") "__init__")) = some (.type "function") ∧ ∀ f ∈ (["name"] : List Str), PySem.W.findIn K (.ref (He.ga K "NameTaken")) f = some none := QH.ini_ok (t.c.fact 157 (f := QH.ini "NameTaken" ["name"]) rfl)
theorem si_NameTaken : FnScope ["self", "name"] ["self", "name"] (defScope (inClass (top 27) 0)) := ⟨rfl, rfl, rfl, by decide +kernel, rfl, by decide +kernel, by decide +kernel⟩
theorem m_NameTaken (t : T K mg base) : QE.MkE P w K mg base "NameTaken" (He.ga K "NameTaken") ["name"] := by
  obtain ⟨fd, F⟩ := t.c.def_ 38
  exact ⟨_, fd, ["self", "name"], (x_NameTaken t).x, (i_NameTaken t).1, (i_NameTaken t).2.1, F.ok si_NameTaken (QW.spI.len rfl) (fun cdv A outer s H vs Q E hr h => ⟨_, PSs.nox (pss_cons (ps_expr (QE.pe_tinit (T := "RuntimeError") rfl (n_RuntimeError t) (by decide +kernel) QE.ty_RE (by decide +kernel) (v_RuntimeError t) (pa_cons (pv 0) (pa_cons pe_str pa_nil)))) (pss_one (QE.ps_st (pv 0) (pv 1)))), QW.pure_init1 (x_NameTaken t) ((i_NameTaken t).2.2 _ (by simp)) h rfl⟩), F.bindsN (fun _ _ _ _ _ _ us hl => match us, hl with | [_, _], _ => rfl), g_NameTaken t⟩
theorem x_Cyclic (t : T K mg base) : QE.ExB K (He.ga K "Cyclic") "RuntimeError" "RuntimeError.__new__" "RuntimeError.__init__" reL := QH.exc_ok PySem.F.excBase_RuntimeError PySem.F.store_RuntimeError (t.c.fact 160 (f := QH.exc "Cyclic" "RuntimeError.__new__" reL) rfl)
theorem k_Cyclic (t : T K mg base) : QW.KinOk K (He.ga K "Cyclic") (He.ga K "CastError") false false false true false := by
  have h := QH.kin_ok (t.c.fact 162 (f := QH.kin "Cyclic" [(.type "ValueError", false), (.type "LookupError", false), (.type "RuntimeError", true), (.type "ArithmeticError", false)] [("CastError", false)]) rfl)
  exact ⟨(x_Cyclic t).x, h.2 _ List.mem_cons_self, h.1 (.type "ValueError", _) (by simp), h.1 (.type "LookupError", _) (by simp), h.1 (.type "RuntimeError", _) (by simp), h.1 (.type "ArithmeticError", _) (by simp), of_decide_eq_true (t.c.fact 163 (f := QH.kint "Cyclic" [.type "KeyError", .type "IndexError"] false) rfl)⟩
theorem i_Cyclic (t : T K mg base) : PySem.W.findIn K (.ref (He.ga K "Cyclic")) "__init__" = some (some (.ref (He.ma K (He.ga K "Cyclic") "__init__"))) ∧ PySem.W.typeIn K (.ref (He.ma K (He.ga K "Cyclic") "__init__")) = some (.type "function") ∧ ∀ f ∈ (["name"] : List Str), PySem.W.findIn K (.ref (He.ga K "Cyclic")) f = some none := QH.ini_ok (t.c.fact 161 (f := QH.ini "Cyclic" ["name"]) rfl)
theorem si_Cyclic : FnScope ["self", "name"] ["self", "name"] (defScope (inClass (top 28) 0)) := ⟨rfl, rfl, rfl, by decide +kernel, rfl, by decide +kernel, by decide +kernel⟩
theorem m_Cyclic (t : T K mg base) : QE.MkE P w K mg base "Cyclic" (He.ga K "Cyclic") ["name"] := by
  obtain ⟨fd, F⟩ := t.c.def_ 39
  exact ⟨_, fd, ["self", "name"], (x_Cyclic t).x, (i_Cyclic t).1, (i_Cyclic t).2.1, F.ok si_Cyclic (QW.spI.len rfl) (fun cdv A outer s H vs Q E hr h => ⟨_, PSs.nox (pss_cons (ps_expr (QE.pe_tinit (T := "RuntimeError") rfl (n_RuntimeError t) (by decide +kernel) QE.ty_RE (by decide +kernel) (v_RuntimeError t) (pa_cons (pv 0) (pa_cons pe_str pa_nil)))) (pss_one (QE.ps_st (pv 0) (pv 1)))), QW.pure_init1 (x_Cyclic t) ((i_Cyclic t).2.2 _ (by simp)) h rfl⟩), F.bindsN (fun _ _ _ _ _ _ us hl => match us, hl with | [_, _], _ => rfl), g_Cyclic t⟩
theorem x_WrongArity (t : T K mg base) : QE.ExB K (He.ga K "WrongArity") "RuntimeError" "RuntimeError.__new__" "RuntimeError.__init__" reL := QH.exc_ok PySem.F.excBase_RuntimeError PySem.F.store_RuntimeError (t.c.fact 164 (f := QH.exc "WrongArity" "RuntimeError.__new__" reL) rfl)
theorem k_WrongArity (t : T K mg base) : QW.KinOk K (He.ga K "WrongArity") (He.ga K "CastError") false false false true false := by
  have h := QH.kin_ok (t.c.fact 166 (f := QH.kin "WrongArity" [(.type "ValueError", false), (.type "LookupError", false), (.type "RuntimeError", true), (.type "ArithmeticError", false)] [("CastError", false)]) rfl)
  exact ⟨(x_WrongArity t).x, h.2 _ List.mem_cons_self, h.1 (.type "ValueError", _) (by simp), h.1 (.type "LookupError", _) (by simp), h.1 (.type "RuntimeError", _) (by simp), h.1 (.type "ArithmeticError", _) (by simp), of_decide_eq_true (t.c.fact 167 (f := QH.kint "WrongArity" [.type "KeyError", .type "IndexError"] false) rfl)⟩
theorem i_WrongArity (t : T K mg base) : PySem.W.findIn K (.ref (He.ga K "WrongArity")) "__init__" = some (some (.ref (He.ma K (He.ga K "WrongArity") "__init__"))) ∧ PySem.W.typeIn K (.ref (He.ma K (He.ga K "WrongArity") "__init__")) = some (.type "function") ∧ ∀ f ∈ (["operator", "count"] : List Str), PySem.W.findIn K (.ref (He.ga K "WrongArity")) f = some none := QH.ini_ok (t.c.fact 165 (f := QH.ini "WrongArity" ["operator", "count"]) rfl)
theorem si_WrongArity : FnScope ["self", "operator", "count"] ["self", "operator", "count"] (defScope (inClass (top 29) 0)) := ⟨rfl, rfl, rfl, by decide +kernel, rfl, by decide +kernel, by decide +kernel⟩
theorem m_WrongArity (t : T K mg base) : QE.MkE P w K mg base "WrongArity" (He.ga K "WrongArity") ["operator", "count"] := by
  obtain ⟨fd, F⟩ := t.c.def_ 40
  exact ⟨_, fd, ["self", "operator", "count"], (x_WrongArity t).x, (i_WrongArity t).1, (i_WrongArity t).2.1, F.ok si_WrongArity (QW.spI.len rfl) (fun cdv A outer s H vs Q E hr h => ⟨_, PSs.nox (pss_cons (ps_expr (QE.pe_tinit (T := "RuntimeError") rfl (n_RuntimeError t) (by decide +kernel) QE.ty_RE (by decide +kernel) (v_RuntimeError t) (pa_cons (pv 0) (pa_cons pe_str pa_nil)))) (pss_cons (QE.ps_st (pv 0) (pv 1)) (pss_one (QE.ps_st (pv 0) (pv 2))))), QW.pure_init2 (x_WrongArity t) ((i_WrongArity t).2.2 _ (by simp)) ((i_WrongArity t).2.2 _ (by simp)) h rfl⟩), F.bindsN (fun _ _ _ _ _ _ us hl => match us, hl with | [_, _, _], _ => rfl), g_WrongArity t⟩
theorem x_InUse (t : T K mg base) : QE.ExB K (He.ga K "InUse") "RuntimeError" "RuntimeError.__new__" "RuntimeError.__init__" reL := QH.exc_ok PySem.F.excBase_RuntimeError PySem.F.store_RuntimeError (t.c.fact 168 (f := QH.exc "InUse" "RuntimeError.__new__" reL) rfl)
theorem k_InUse (t : T K mg base) : QW.KinOk K (He.ga K "InUse") (He.ga K "CastError") false false false true false := by
  have h := QH.kin_ok (t.c.fact 170 (f := QH.kin "InUse" [(.type "ValueError", false), (.type "LookupError", false), (.type "RuntimeError", true), (.type "ArithmeticError", false)] [("CastError", false)]) rfl)
  exact ⟨(x_InUse t).x, h.2 _ List.mem_cons_self, h.1 (.type "ValueError", _) (by simp), h.1 (.type "LookupError", _) (by simp), h.1 (.type "RuntimeError", _) (by simp), h.1 (.type "ArithmeticError", _) (by simp), of_decide_eq_true (t.c.fact 171 (f := QH.kint "InUse" [.type "KeyError", .type "IndexError"] false) rfl)⟩
theorem i_InUse (t : T K mg base) : PySem.W.findIn K (.ref (He.ga K "InUse")) "__init__" = some (some (.ref (He.ma K (He.ga K "InUse") "__init__"))) ∧ PySem.W.typeIn K (.ref (He.ma K (He.ga K "InUse") "__init__")) = some (.type "function") ∧ ∀ f ∈ (["kind", "name"] : List Str), PySem.W.findIn K (.ref (He.ga K "InUse")) f = some none := QH.ini_ok (t.c.fact 169 (f := QH.ini "InUse" ["kind", "name"]) rfl)
theorem si_InUse : FnScope ["self", "kind", "name"] ["self", "kind", "name"] (defScope (inClass (top 30) 0)) := ⟨rfl, rfl, rfl, by decide +kernel, rfl, by decide +kernel, by decide +kernel⟩
theorem m_InUse (t : T K mg base) : QE.MkE P w K mg base "InUse" (He.ga K "InUse") ["kind", "name"] := by
  obtain ⟨fd, F⟩ := t.c.def_ 41
  exact ⟨_, fd, ["self", "kind", "name"], (x_InUse t).x, (i_InUse t).1, (i_InUse t).2.1, F.ok si_InUse (QW.spI.len rfl) (fun cdv A outer s H vs Q E hr h => ⟨_, PSs.nox (pss_cons (ps_expr (QE.pe_tinit (T := "RuntimeError") rfl (n_RuntimeError t) (by decide +kernel) QE.ty_RE (by decide +kernel) (v_RuntimeError t) (pa_cons (pv 0) (pa_cons pe_str pa_nil)))) (pss_cons (QE.ps_st (pv 0) (pv 1)) (pss_one (QE.ps_st (pv 0) (pv 2))))), QW.pure_init2 (x_InUse t) ((i_InUse t).2.2 _ (by simp)) ((i_InUse t).2.2 _ (by simp)) h rfl⟩), F.bindsN (fun _ _ _ _ _ _ us hl => match us, hl with | [_, _, _], _ => rfl), g_InUse t⟩
theorem x_Conflicting (t : T K mg base) : QE.ExB K (He.ga K "Conflicting") "RuntimeError" "RuntimeError.__new__" "RuntimeError.__init__" reL := QH.exc_ok PySem.F.excBase_RuntimeError PySem.F.store_RuntimeError (t.c.fact 172 (f := QH.exc "Conflicting" "RuntimeError.__new__" reL) rfl)
theorem k_Conflicting (t : T K mg base) : QW.KinOk K (He.ga K "Conflicting") (He.ga K "CastError") false false false true false := by
  have h := QH.kin_ok (t.c.fact 174 (f := QH.kin "Conflicting" [(.type "ValueError", false), (.type "LookupError", false), (.type "RuntimeError", true), (.type "ArithmeticError", false)] [("CastError", false)]) rfl)
  exact ⟨(x_Conflicting t).x, h.2 _ List.mem_cons_self, h.1 (.type "ValueError", _) (by simp), h.1 (.type "LookupError", _) (by simp), h.1 (.type "RuntimeError", _) (by simp), h.1 (.type "ArithmeticError", _) (by simp), of_decide_eq_true (t.c.fact 175 (f := QH.kint "Conflicting" [.type "KeyError", .type "IndexError"] false) rfl)⟩
theorem i_Conflicting (t : T K mg base) : PySem.W.findIn K (.ref (He.ga K "Conflicting")) "__init__" = some (some (.ref (He.ma K (He.ga K "Conflicting") "__init__"))) ∧ PySem.W.typeIn K (.ref (He.ma K (He.ga K "Conflicting") "__init__")) = some (.type "function") ∧ ∀ f ∈ (["kind", "name"] : List Str), PySem.W.findIn K (.ref (He.ga K "Conflicting")) f = some none := QH.ini_ok (t.c.fact 173 (f := QH.ini "Conflicting" ["kind", "name"]) rfl)
theorem si_Conflicting : FnScope ["self", "kind", "name"] ["self", "kind", "name"] (defScope (inClass (top 31) 0)) := ⟨rfl, rfl, rfl, by decide +kernel, rfl, by decide +kernel, by decide +kernel⟩
theorem m_Conflicting (t : T K mg base) : QE.MkE P w K mg base "Conflicting" (He.ga K "Conflicting") ["kind", "name"] := by
  obtain ⟨fd, F⟩ := t.c.def_ 42
  exact ⟨_, fd, ["self", "kind", "name"], (x_Conflicting t).x, (i_Conflicting t).1, (i_Conflicting t).2.1, F.ok si_Conflicting (QW.spI.len rfl) (fun cdv A outer s H vs Q E hr h => ⟨_, PSs.nox (pss_cons (ps_expr (QE.pe_tinit (T := "RuntimeError") rfl (n_RuntimeError t) (by decide +kernel) QE.ty_RE (by decide +kernel) (v_RuntimeError t) (pa_cons (pv 0) (pa_cons pe_str pa_nil)))) (pss_cons (QE.ps_st (pv 0) (pv 1)) (pss_one (QE.ps_st (pv 0) (pv 2))))), QW.pure_init2 (x_Conflicting t) ((i_Conflicting t).2.2 _ (by simp)) ((i_Conflicting t).2.2 _ (by simp)) h rfl⟩), F.bindsN (fun _ _ _ _ _ _ us hl => match us, hl with | [_, _, _], _ => rfl), g_Conflicting t⟩
theorem x_Incoherent (t : T K mg base) : QE.ExB K (He.ga K "Incoherent") "RuntimeError" "RuntimeError.__new__" "RuntimeError.__init__" reL := QH.exc_ok PySem.F.excBase_RuntimeError PySem.F.store_RuntimeError (t.c.fact 176 (f := QH.exc "Incoherent" "RuntimeError.__new__" reL) rfl)
theorem k_Incoherent (t : T K mg base) : QW.KinOk K (He.ga K "Incoherent") (He.ga K "CastError") false false false true false := by
  have h := QH.kin_ok (t.c.fact 178 (f := QH.kin "Incoherent" [(.type "ValueError", false), (.type "LookupError", false), (.type "RuntimeError", true), (.type "ArithmeticError", false)] [("CastError", false)]) rfl)
  exact ⟨(x_Incoherent t).x, h.2 _ List.mem_cons_self, h.1 (.type "ValueError", _) (by simp), h.1 (.type "LookupError", _) (by simp), h.1 (.type "RuntimeError", _) (by simp), h.1 (.type "ArithmeticError", _) (by simp), of_decide_eq_true (t.c.fact 179 (f := QH.kint "Incoherent" [.type "KeyError", .type "IndexError"] false) rfl)⟩
theorem i_Incoherent (t : T K mg base) : PySem.W.findIn K (.ref (He.ga K "Incoherent")) "__init__" = some (some (.ref (He.ma K (He.ga K "Incoherent") "__init__"))) ∧ PySem.W.typeIn K (.ref (He.ma K (He.ga K "Incoherent") "__init__")) = some (.type "function") ∧ ∀ f ∈ (["shape", "one", "other", "arguments"] : List Str), PySem.W.findIn K (.ref (He.ga K "Incoherent")) f = some none := QH.ini_ok (t.c.fact 177 (f := QH.ini "Incoherent" ["shape", "one", "other", "arguments"]) rfl)
theorem si_Incoherent : FnScope ["self", "shape", "one", "other", "arguments"] ["self", "shape", "one", "other", "arguments"] (defScope (inClass (top 32) 0)) := ⟨rfl, rfl, rfl, by decide +kernel, rfl, by decide +kernel, by decide +kernel⟩
theorem m_Incoherent (t : T K mg base) : QE.MkE P w K mg base "Incoherent" (He.ga K "Incoherent") ["shape", "one", "other", "arguments"] := by
  obtain ⟨fd, F⟩ := t.c.def_ 43
  exact ⟨_, fd, ["self", "shape", "one", "other", "arguments"], (x_Incoherent t).x, (i_Incoherent t).1, (i_Incoherent t).2.1, F.ok si_Incoherent (QW.spI.len rfl) (fun cdv A outer s H vs Q E hr h => ⟨_, PSs.nox (pss_cons (ps_expr (QE.pe_tinit (T := "RuntimeError") rfl (n_RuntimeError t) (by decide +kernel) QE.ty_RE (by decide +kernel) (v_RuntimeError t) (pa_cons (pv 0) (pa_cons pe_str pa_nil)))) (pss_cons (QE.ps_st (pv 0) (pv 1)) (pss_cons (QE.ps_st (pv 0) (pv 2)) (pss_cons (QE.ps_st (pv 0) (pv 3)) (pss_one (QE.ps_st (pv 0) (pv 4))))))), QW.pure_init4 (x_Incoherent t) ((i_Incoherent t).2.2 _ (by simp)) ((i_Incoherent t).2.2 _ (by simp)) ((i_Incoherent t).2.2 _ (by simp)) ((i_Incoherent t).2.2 _ (by simp)) h rfl⟩), F.bindsN (fun _ _ _ _ _ _ us hl => match us, hl with | [_, _, _, _, _], _ => rfl), g_Incoherent t⟩
theorem x_NotRegular (t : T K mg base) : QE.ExB K (He.ga K "NotRegular") "RuntimeError" "RuntimeError.__new__" "RuntimeError.__init__" reL := QH.exc_ok PySem.F.excBase_RuntimeError PySem.F.store_RuntimeError (t.c.fact 180 (f := QH.exc "NotRegular" "RuntimeError.__new__" reL) rfl)
theorem k_NotRegular (t : T K mg base) : QW.KinOk K (He.ga K "NotRegular") (He.ga K "CastError") false false false true false := by
  have h := QH.kin_ok (t.c.fact 182 (f := QH.kin "NotRegular" [(.type "ValueError", false), (.type "LookupError", false), (.type "RuntimeError", true), (.type "ArithmeticError", false)] [("CastError", false)]) rfl)
  exact ⟨(x_NotRegular t).x, h.2 _ List.mem_cons_self, h.1 (.type "ValueError", _) (by simp), h.1 (.type "LookupError", _) (by simp), h.1 (.type "RuntimeError", _) (by simp), h.1 (.type "ArithmeticError", _) (by simp), of_decide_eq_true (t.c.fact 183 (f := QH.kint "NotRegular" [.type "KeyError", .type "IndexError"] false) rfl)⟩
theorem i_NotRegular (t : T K mg base) : PySem.W.findIn K (.ref (He.ga K "NotRegular")) "__init__" = some (some (.ref (He.ma K (He.ga K "NotRegular") "__init__"))) ∧ PySem.W.typeIn K (.ref (He.ma K (He.ga K "NotRegular") "__init__")) = some (.type "function") ∧ ∀ f ∈ (["operator", "arguments"] : List Str), PySem.W.findIn K (.ref (He.ga K "NotRegular")) f = some none := QH.ini_ok (t.c.fact 181 (f := QH.ini "NotRegular" ["operator", "arguments"]) rfl)
theorem si_NotRegular : FnScope ["self", "operator", "arguments"] ["self", "operator", "arguments"] (defScope (inClass (top 33) 0)) := ⟨rfl, rfl, rfl, by decide +kernel, rfl, by decide +kernel, by decide +kernel⟩
theorem m_NotRegular (t : T K mg base) : QE.MkE P w K mg base "NotRegular" (He.ga K "NotRegular") ["operator", "arguments"] := by
  obtain ⟨fd, F⟩ := t.c.def_ 44
  exact ⟨_, fd, ["self", "operator", "arguments"], (x_NotRegular t).x, (i_NotRegular t).1, (i_NotRegular t).2.1, F.ok si_NotRegular (QW.spI.len rfl) (fun cdv A outer s H vs Q E hr h => ⟨_, PSs.nox (pss_cons (ps_expr (QE.pe_tinit (T := "RuntimeError") rfl (n_RuntimeError t) (by decide +kernel) QE.ty_RE (by decide +kernel) (v_RuntimeError t) (pa_cons (pv 0) (pa_cons pe_str pa_nil)))) (pss_cons (QE.ps_st (pv 0) (pv 1)) (pss_one (QE.ps_st (pv 0) (pv 2))))), QW.pure_init2 (x_NotRegular t) ((i_NotRegular t).2.2 _ (by simp)) ((i_NotRegular t).2.2 _ (by simp)) h rfl⟩), F.bindsN (fun _ _ _ _ _ _ us hl => match us, hl with | [_, _, _], _ => rfl), g_NotRegular t⟩
theorem x_NothingToUndo (t : T K mg base) : QE.ExB K (He.ga K "NothingToUndo") "RuntimeError" "RuntimeError.__new__" "RuntimeError.__init__" reL := QH.exc_ok PySem.F.excBase_RuntimeError PySem.F.store_RuntimeError (t.c.fact 184 (f := QH.exc "NothingToUndo" "RuntimeError.__new__" reL) rfl)
theorem k_NothingToUndo (t : T K mg base) : QW.KinOk K (He.ga K "NothingToUndo") (He.ga K "CastError") false false false true false := by
  have h := QH.kin_ok (t.c.fact 185 (f := QH.kin "NothingToUndo" [(.type "ValueError", false), (.type "LookupError", false), (.type "RuntimeError", true), (.type "ArithmeticError", false)] [("CastError", false)]) rfl)
  exact ⟨(x_NothingToUndo t).x, h.2 _ List.mem_cons_self, h.1 (.type "ValueError", _) (by simp), h.1 (.type "LookupError", _) (by simp), h.1 (.type "RuntimeError", _) (by simp), h.1 (.type "ArithmeticError", _) (by simp), of_decide_eq_true (t.c.fact 186 (f := QH.kint "NothingToUndo" [.type "KeyError", .type "IndexError"] false) rfl)⟩
theorem x_CommandFailed (t : T K mg base) : QE.ExB K (He.ga K "CommandFailed") "RuntimeError" "RuntimeError.__new__" "RuntimeError.__init__" reL := QH.exc_ok PySem.F.excBase_RuntimeError PySem.F.store_RuntimeError (t.c.fact 188 (f := QH.exc "CommandFailed" "RuntimeError.__new__" reL) rfl)
theorem k_CommandFailed (t : T K mg base) : QW.KinOk K (He.ga K "CommandFailed") (He.ga K "CastError") false false false true false := by
  have h := QH.kin_ok (t.c.fact 190 (f := QH.kin "CommandFailed" [(.type "ValueError", false), (.type "LookupError", false), (.type "RuntimeError", true), (.type "ArithmeticError", false)] [("CastError", false)]) rfl)
  exact ⟨(x_CommandFailed t).x, h.2 _ List.mem_cons_self, h.1 (.type "ValueError", _) (by simp), h.1 (.type "LookupError", _) (by simp), h.1 (.type "RuntimeError", _) (by simp), h.1 (.type "ArithmeticError", _) (by simp), of_decide_eq_true (t.c.fact 191 (f := QH.kint "CommandFailed" [.type "KeyError", .type "IndexError"] false) rfl)⟩
theorem i_CommandFailed (t : T K mg base) : PySem.W.findIn K (.ref (He.ga K "CommandFailed")) "__init__" = some (some (.ref (He.ma K (He.ga K "CommandFailed") "__init__"))) ∧ PySem.W.typeIn K (.ref (He.ma K (He.ga K "CommandFailed") "__init__")) = some (.type "function") ∧ ∀ f ∈ (["position", "answers"] : List Str), PySem.W.findIn K (.ref (He.ga K "CommandFailed")) f = some none := QH.ini_ok (t.c.fact 189 (f := QH.ini "CommandFailed" ["position", "answers"]) rfl)
theorem si_CommandFailed : FnScope ["self", "position", "answers"] ["self", "position", "answers"] (defScope (inClass (top 35) 0)) := ⟨rfl, rfl, rfl, by decide +kernel, rfl, by decide +kernel, by decide +kernel⟩
theorem m_CommandFailed (t : T K mg base) : QE.MkE P w K mg base "CommandFailed" (He.ga K "CommandFailed") ["position", "answers"] := by
  obtain ⟨fd, F⟩ := t.c.def_ 45
  exact ⟨_, fd, ["self", "position", "answers"], (x_CommandFailed t).x, (i_CommandFailed t).1, (i_CommandFailed t).2.1, F.ok si_CommandFailed (QW.spI.len rfl) (fun cdv A outer s H vs Q E hr h => ⟨_, PSs.nox (pss_cons (ps_expr (QE.pe_tinit (T := "RuntimeError") rfl (n_RuntimeError t) (by decide +kernel) QE.ty_RE (by decide +kernel) (v_RuntimeError t) (pa_cons (pv 0) (pa_cons pe_str pa_nil)))) (pss_cons (QE.ps_st (pv 0) (pv 1)) (pss_one (QE.ps_st (pv 0) (pv 2))))), QW.pure_init2 (x_CommandFailed t) ((i_CommandFailed t).2.2 _ (by simp)) ((i_CommandFailed t).2.2 _ (by simp)) h rfl⟩), F.bindsN (fun _ _ _ _ _ _ us hl => match us, hl with | [_, _, _], _ => rfl), g_CommandFailed t⟩
theorem x_TooMany (t : T K mg base) : QE.ExB K (He.ga K "TooMany") "ArithmeticError" "ArithmeticError.__new__" "ArithmeticError.__init__" aeL := QH.exc_ok PySem.F.excBase_ArithmeticError PySem.F.store_ArithmeticError (t.c.fact 192 (f := QH.exc "TooMany" "ArithmeticError.__new__" aeL) rfl)
theorem k_TooMany (t : T K mg base) : QW.KinOk K (He.ga K "TooMany") (He.ga K "CastError") false false false false true := by
  have h := QH.kin_ok (t.c.fact 194 (f := QH.kin "TooMany" [(.type "ValueError", false), (.type "LookupError", false), (.type "RuntimeError", false), (.type "ArithmeticError", true)] [("CastError", false)]) rfl)
  exact ⟨(x_TooMany t).x, h.2 _ List.mem_cons_self, h.1 (.type "ValueError", _) (by simp), h.1 (.type "LookupError", _) (by simp), h.1 (.type "RuntimeError", _) (by simp), h.1 (.type "ArithmeticError", _) (by simp), of_decide_eq_true (t.c.fact 195 (f := QH.kint "TooMany" [.type "KeyError", .type "IndexError"] false) rfl)⟩
theorem i_TooMany (t : T K mg base) : PySem.W.findIn K (.ref (He.ga K "TooMany")) "__init__" = some (some (.ref (He.ma K (He.ga K "TooMany") "__init__"))) ∧ PySem.W.typeIn K (.ref (He.ma K (He.ga K "TooMany") "__init__")) = some (.type "function") ∧ ∀ f ∈ (["kind", "limit"] : List Str), PySem.W.findIn K (.ref (He.ga K "TooMany")) f = some none := QH.ini_ok (t.c.fact 193 (f := QH.ini "TooMany" ["kind", "limit"]) rfl)
theorem si_TooMany : FnScope ["self", "kind", "limit"] ["self", "kind", "limit"] (defScope (inClass (top 36) 0)) := ⟨rfl, rfl, rfl, by decide +kernel, rfl, by decide +kernel, by decide +kernel⟩
theorem m_TooMany (t : T K mg base) : QE.MkE P w K mg base "TooMany" (He.ga K "TooMany") ["kind", "limit"] := by
  obtain ⟨fd, F⟩ := t.c.def_ 46
  exact ⟨_, fd, ["self", "kind", "limit"], (x_TooMany t).x, (i_TooMany t).1, (i_TooMany t).2.1, F.ok si_TooMany (QW.spI.len rfl) (fun cdv A outer s H vs Q E hr h => ⟨_, PSs.nox (pss_cons (ps_expr (QE.pe_tinit (T := "ArithmeticError") rfl (n_ArithmeticError t) (by decide +kernel) QE.ty_AE (by decide +kernel) (v_ArithmeticError t) (pa_cons (pv 0) (pa_cons pe_str pa_nil)))) (pss_cons (QE.ps_st (pv 0) (pv 1)) (pss_one (QE.ps_st (pv 0) (pv 2))))), QW.pure_init2 (x_TooMany t) ((i_TooMany t).2.2 _ (by simp)) ((i_TooMany t).2.2 _ (by simp)) h rfl⟩), F.bindsN (fun _ _ _ _ _ _ us hl => match us, hl with | [_, _, _], _ => rfl), g_TooMany t⟩
theorem e_NothingToUndo (t : T K mg base) : PySem.W.excIn K (He.ga K "NothingToUndo") reL "RuntimeError.__new__" = true := t.c.fact 187 (f := (fun K => PySem.W.excIn K (He.ga K "NothingToUndo") reL "RuntimeError.__new__")) rfl
end
end K18

set_option Elab.async false
set_option linter.all false
set_option maxRecDepth 100000
set_option maxHeartbeats 4000000
namespace K18
open PySem PySem.Spec PyProof.Rows L2

section
variable {P : Program} {w : World} {K : PySem.W.Frag} {mg : Str → Option Value} {base : Heap}

theorem s__law_pot : FnScope ["script", "index", "cell"] ["script", "index"] (defScope (top 38)) := ⟨rfl, rfl, rfl, by decide +kernel, rfl, by decide +kernel, by decide +kernel⟩
theorem c__law_pot (t : T K mg base) : QC.Cal P w K mg base L2.CX0 1 "_law_pot" (QW.spPot K) [] := by
  obtain ⟨fd, F⟩ := t.c.def_ 0
  have sc := s__law_pot
  refine QC.cal (k := 0) F (g__law_pot t) (fun _ _ _ _ _ _ us hl => match us, hl with | [_, _], _ => rfl) sc QW.spPot.len (fun cdv A outer s H vs Q E gd hr h => ?_)
  have hu := QC.hu64 hr
  refine ⟨_, PSs.nox (pss_cons (ps_set (i := 2) sc.nd rfl (by first | exact .inl rfl | exact .inr rfl) pe_int)
      (pss_cons (ps_if (pt_cmpR op_lt (pv 1) (pe_callB (QK.call_len_seq (K := K) rfl) rfl (n_len t) (by decide +kernel) (pa_cons (pv 0) pa_nil)) (nomark _)) (pss_one (ps_set (i := 2) sc.nd rfl (by first | exact .inl rfl | exact .inr rfl) (pe_callB call_abs rfl (n_abs t) (by decide +kernel) (pa_cons (pe_ix (QK.ix_list (K := K) rfl) (pv 0) (pv 1) (fun _ _ => rfl)) pa_nil)))) pss_nil)
      (pss_one (ps_ret (pe_lst (pa_cons (pe_callB (call_max2 rfl) rfl (n_max t) (by decide +kernel) (pa_cons pe_int (pa_cons (pe_op op_sub (pv 2) (pe_op op_pow pe_int pe_int)) pa_nil))) (pa_cons (pe_op op_add (pe_op op_mod (pe_op op_pow (pe_op op_add (pe_op op_add (pe_op op_mod (pv 2) pe_int) (pe_op op_mul pe_int (pv 1))) pe_int) pe_int) pe_int) pe_int) pa_nil))))))), ?_⟩
  exact QW.pure_pot h

theorem s__law_draw : FnScope ["pot", "bound", "digit"] ["pot", "bound"] (defScope (top 39)) := ⟨rfl, rfl, rfl, by decide +kernel, rfl, by decide +kernel, by decide +kernel⟩
theorem c__law_draw (t : T K mg base) : QC.Cal P w K mg base L2.CX0 1 "_law_draw" QW.spDraw [] := by
  obtain ⟨fd, F⟩ := t.c.def_ 1
  have sc := s__law_draw
  refine QC.cal (k := 0) F (g__law_draw t) (fun _ _ _ _ _ _ us hl => match us, hl with | [_, _], _ => rfl) sc QW.spDraw.len (fun cdv A outer s H vs Q E gd hr h => ?_)
  have hu := QC.hu64 hr
  refine ⟨_, PSs.nox (pss_cons (ps_if (pt_cmpR op_gt (pe_ix (QK.ix_list (K := K) rfl) (pv 0) pe_int (fun _ _ => rfl)) pe_int (nomark _)) (pss_cons (ps_asg (pe_callB call_divmod rfl (n_divmod t) (by decide +kernel) (pa_cons (pe_ix (QK.ix_list (K := K) rfl) (pv 0) pe_int (fun _ _ => rfl)) (pa_cons (pv 1) pa_nil))) (pg_tup rfl (pgs_cons (pg_sub (pv 0) pe_int set_list) (pgs_cons (pg_name (i := 2) sc.nd rfl (by first | exact .inl rfl | exact .inr rfl)) pgs_nil))))
      (pss_one (ps_ret (pv 2)))) pss_nil)
      (pss_cons (ps_asg (pe_op op_mod (pe_op op_add (pe_op op_mul (pe_ix (QK.ix_list (K := K) rfl) (pv 0) pe_int (fun _ _ => rfl)) pe_int) pe_int) pe_int) (pg_sub (pv 0) pe_int set_list))
      (pss_one (ps_ret (pe_op op_mod (pe_op op_fdiv (pe_op op_mod (pe_op op_mul (pe_ix (QK.ix_list (K := K) rfl) (pv 0) pe_int (fun _ _ => rfl)) (pe_ix (QK.ix_list (K := K) rfl) (pv 0) pe_int (fun _ _ => rfl))) pe_int) pe_int) (pv 1)))))), ?_⟩
  exact QW.pure_draw h

theorem s__law_choice : FnScope ["pot", "options"] ["pot", "options"] (defScope (top 40)) := ⟨rfl, rfl, rfl, by decide +kernel, rfl, by decide +kernel, by decide +kernel⟩
theorem c__law_choice (t : T K mg base) : QC.Cal P w K mg base L2.CX0 2 "_law_choice" QW.spChoice [] := by
  obtain ⟨fd, F⟩ := t.c.def_ 2
  have sc := s__law_choice
  refine QC.cal (k := 1) F (g__law_choice t) (fun _ _ _ _ _ _ us hl => match us, hl with | [_, _], _ => rfl) sc QW.spChoice.len (fun cdv A outer s H vs Q E gd hr h => ?_)
  have hu := QC.hu64 hr
  refine ⟨_, PSs.nox (pss_one (ps_ret (pe_ix (QK.ix_list (K := K) rfl) (pv 1) (QC.pe_q (c__law_draw t) gd hr (by decide) pass0 rfl (pa_cons (pv 0) (pa_cons (pe_callB (QK.call_len_seq (K := K) rfl) rfl (n_len t) (by decide +kernel) (pa_cons (pv 1) pa_nil)) pa_nil))) (fun _ _ => rfl)))), ?_⟩
  exact QW.pure_choice h

/-- what things are drawn of -/
def optD : List PyData := [.none, .int 0, .int 1, .bool true, .str "", .str "a", .tuple [.str "a"], .list [.str "a"], .dict [], .tuple [.str "cast", .str "a", .str "b"], .int ((10 : Int) ^ Int.toNat 25), .int (-1)]
def RTh (K : PySem.W.Frag) : QW.Pr := fun v F => ∃ ds : List PyData, ds.length = 4 ∧ (∀ d ∈ ds, d ∈ optD) ∧ QW.Li (ds.map (QW.Da K)) v F
def spThings (K : PySem.W.Frag) : Sp := QW.spW (fun p : Addr => QW.Wp p) (fun p => [QW.Is (.ref p)]) fun _ => RTh K

theorem s__law_things : FnScope ["pot", "options", "turn"] ["pot"] (defScope (top 41)) := ⟨rfl, rfl, rfl, by decide +kernel, rfl, by decide +kernel, by decide +kernel⟩
theorem c__law_things (t : T K mg base) : QC.Cal P w K mg base L2.CX0 3 "_law_things" (spThings K) [] := by
  obtain ⟨fd, F⟩ := t.c.def_ 3
  have sc := s__law_things
  refine QC.cal (k := 2) F (g__law_things t) (fun _ _ _ _ _ _ us hl => match us, hl with | [_], _ => rfl) sc (QW.spW.len fun _ => rfl) (fun cdv A outer s H vs Q E gd hr h => ?_)
  have hu := QC.hu64 hr
  refine ⟨_, PSs.nox (pss_cons (ps_set (i := 1) sc.nd rfl (by first | exact .inl rfl | exact .inr rfl) (pe_lst (pa_cons pe_non (pa_cons pe_int (pa_cons pe_int (pa_cons pe_bl (pa_cons pe_str (pa_cons pe_str (pa_cons (pe_tup (pa_cons pe_str pa_nil)) (pa_cons (pe_lst (pa_cons pe_str pa_nil)) (pa_cons pe_dnewK (pa_cons (pe_tup (pa_cons pe_str (pa_cons pe_str (pa_cons pe_str pa_nil)))) (pa_cons (pe_op op_pow pe_int pe_int) (pa_cons (pe_un un_neg pe_int) pa_nil))))))))))))))
      (pss_one (ps_ret (pe_lc rfl sc.nd (pi_range1 rfl (n_range t) (pa_cons pe_int pa_nil)) (blkOk_by (own := [("turn", 2)]) (by show blkC ["pot", "options", "turn"] (defScope (top 41)) _ _ = true; decide +kernel)) (fun _ _ _ _ _ => (pg_name (i := 2) sc.nd rfl (by first | exact .inl rfl | exact .inr rfl))) (fun _ _ _ _ _ => pts_nil) (fun _ _ _ _ _ => (QC.pe_q (c__law_choice t) gd hr (by decide) pass0 rfl (pa_cons (pv 0) (pa_cons (pv 1) pa_nil)))))))), ?_⟩
  obtain ⟨p, F, o, al, q⟩ := h
  obtain rfl := QW.Al.is (f := fun v : V => v) (xs := [.ref p]) al
  refine QW.q_asg (R := QW.Li (optD.map (QW.Da K))) o (QW.ev_lst o (QW.mos_cons (QW.Da.mo K _) (QW.mos_cons (QW.Da.mo K _) (QW.mos_cons (QW.Da.mo K _) (QW.mos_cons (QW.Da.mo K _) (QW.mos_cons (QW.Da.mo K _) (QW.mos_cons (QW.Da.mo K _) (QW.mos_cons (QW.Da.mo K _) (QW.mos_cons (QW.Da.mo K _) (QW.mos_cons (QW.Da.mo K _) (QW.mos_cons (QW.Da.mo K _) (QW.mos_cons (QW.Da.mo K _) (QW.mos_cons (QW.Da.mo K _) QW.mos_nil)))))))))))) (QW.ea_cons o (QW.Da.mo K _) (QW.ev_c o fun F => QR.Dv.non) (QW.ea_cons o (QW.Da.mo K _) (QW.ev_c o fun F => QR.Dv.int _) (QW.ea_cons o (QW.Da.mo K _) (QW.ev_c o fun F => QR.Dv.int _) (QW.ea_cons o (QW.Da.mo K _) (QW.ev_c o fun F => QR.Dv.bl _) (QW.ea_cons o (QW.Da.mo K _) (QW.ev_c o fun F => QR.Dv.str _) (QW.ea_cons o (QW.Da.mo K _) (QW.ev_c o fun F => QR.Dv.str _) (QW.ea_cons o (QW.Da.mo K _) (QW.EvW.imp (QW.ev_tup o (QW.mos_cons (QW.Da.mo K _) QW.mos_nil) (QW.ea_cons o (QW.Da.mo K _) (QW.ev_c o fun F => QR.Dv.str _) (QW.ea_nil o)) (show 1 ≤ 100000 by decide)) fun v F' _ r => QW.Tu.da (ds := [.str "a"]) r) (QW.ea_cons o (QW.Da.mo K _) (QW.EvW.imp (QW.ev_lst o (QW.mos_cons (QW.Da.mo K _) QW.mos_nil) (QW.ea_cons o (QW.Da.mo K _) (QW.ev_c o fun F => QR.Dv.str _) (QW.ea_nil o)) (show 1 ≤ 100000 by decide)) fun v F' _ r => QW.Li.da (ds := [.str "a"]) r) (QW.ea_cons o (QW.Da.mo K _) (QW.ev_dnew o) (QW.ea_cons o (QW.Da.mo K _) (QW.EvW.imp (QW.ev_tup o (QW.mos_cons (QW.Da.mo K _) (QW.mos_cons (QW.Da.mo K _) (QW.mos_cons (QW.Da.mo K _) QW.mos_nil))) (QW.ea_cons o (QW.Da.mo K _) (QW.ev_c o fun F => QR.Dv.str _) (QW.ea_cons o (QW.Da.mo K _) (QW.ev_c o fun F => QR.Dv.str _) (QW.ea_cons o (QW.Da.mo K _) (QW.ev_c o fun F => QR.Dv.str _) (QW.ea_nil o)))) (show 3 ≤ 100000 by decide)) fun v F' _ r => QW.Tu.da (ds := [.str "cast", .str "a", .str "b"]) r) (QW.ea_cons o (QW.Da.mo K _) (QW.EvW.imp (QW.ev_op o (QW.Is.mo _) (QW.ev_c o fun _ => rfl) (QW.ev_c o fun _ => rfl) (QW.ow_intC ⟨by decide, by decide, by decide⟩)) fun v F' _ r => by obtain rfl := r; exact QR.Dv.int _) (QW.ea_cons o (QW.Da.mo K _) (QW.EvW.imp (QW.ev_neg (QW.ev_c o fun _ => rfl)) fun v F' _ r => by obtain rfl := r; exact QR.Dv.int _) (QW.ea_nil o))))))))))))) (show 12 ≤ 100000 by decide)) fun v1 F1 H1 g1 r1 => ?_
  have o1 := g1.ok o
  have mo1 : ∀ R ∈ optD.map (QW.Da K), QW.Mo R := QW.mos_map (QW.Da.mo K) _
  refine QW.q_ret (R := RTh K) o1 (QW.ev_lcR (n := 4) o1 (fun x => rfl) (by decide) (QW.ea_cons o1 (QW.Is.mo _) (QW.ev_c o1 fun _ => rfl) (QW.ea_nil o1))
    (fun i ys F => ∃ ds : List PyData, ds.length = i ∧ (∀ d ∈ ds, d ∈ optD) ∧ QW.Al (ds.map (QW.Da K)) ys F)
    (fun i ys F F' e ⟨ds, h1, h2, h3⟩ => ⟨ds, h1, h2, h3.mono e (QW.mos_map (QW.Da.mo K) _)⟩) (fun F' _ => ⟨[], rfl, nofun, .nil⟩) (fun i ys G H' hi g iv Qy Qn hy hn => ?_)
    (fun ys G ⟨ds, h1, h2, h3⟩ D e => ⟨ds, h1, h2, D, ys, rfl, e, h3⟩)) fun v F2 H2 g2 r2 => q v F2 H2 (g1.trans o g2) r2
  refine QW.lc_yes ?_
  have o2 := g.ok o1
  refine QW.ev_call (wf := fun a : QW.ChA => QW.Wp a.p) (A := fun a => [QW.Is (.ref a.p), QW.Li a.Rs]) (Rf := fun a => QW.Some_ a.Rs) ⟨p, optD.map (QW.Da K), mo1, (show 0 < 12 by decide), (show 12 < 1000000 by decide)⟩ o2
    (QW.ea_cons o2 (QW.Is.mo _) (QW.ev_var o2 (QW.Is.mo _) rfl rfl) (QW.ea_cons o2 (QW.Li.mo mo1) (QW.ev_var o2 (QW.Li.mo mo1) rfl (QW.Li.mo mo1 _ _ _ g.g.ff r1)) (QW.ea_nil o2))) G H' o2.refl Qy fun v F3 H3 g3 r3 => ?_
  obtain ⟨R, hR, r3⟩ := r3
  obtain ⟨d, hd, rfl⟩ := List.mem_map.mp hR
  obtain ⟨ds, h1, h2, h3⟩ := iv
  refine hy v F3 H3 g3 ⟨ds ++ [d], by rw [List.length_append, h1]; rfl, fun x hx => ?_, by rw [List.map_append]; exact (h3.mono g3.g.ff (QW.mos_map (QW.Da.mo K) _)).append (.cons r3 .nil)⟩
  rcases List.mem_append.mp hx with hx | hx
  · exact h2 x hx
  · rw [List.mem_singleton.mp hx]
    exact hd

structure KA (K : PySem.W.Frag) where
  C : Addr
  b0 : Bool
  b1 : Bool
  b2 : Bool
  b3 : Bool
  b4 : Bool
  h : QW.KinOk K C (He.ga K "CastError") b0 b1 b2 b3 b4
def spKin (K : PySem.W.Frag) (g : KA K → List Bool) : Sp := QW.spW (fun _ : KA K => QW.W0) (fun a => [QW.Exc a.C]) fun a => QW.Li ((g a).map fun b => QW.Is (.bl b))
theorem spKin.len {g : KA K → List Bool} : ∀ vs H Q E, spKin K g vs H Q E → vs.length = 1 := QW.spW.len fun _ => rfl
abbrev lateB (a : KA K) : List Bool := [a.b3, a.b4, false]
abbrev kinB (a : KA K) : List Bool := [a.b0, a.b1, a.b2, a.b3, a.b4, false]

theorem s__law_late_kin : FnScope ["e"] ["e"] (defScope (top 43)) := ⟨rfl, rfl, rfl, by decide +kernel, rfl, by decide +kernel, by decide +kernel⟩
theorem c__law_late_kin (t : T K mg base) : QC.Cal P w K mg base L2.CX0 1 "_law_late_kin" (spKin K lateB) [] := by
  obtain ⟨fd, F⟩ := t.c.def_ 5
  have sc := s__law_late_kin
  refine QC.cal (k := 0) F (g__law_late_kin t) (fun _ _ _ _ _ _ us hl => match us, hl with | [_], _ => rfl) sc spKin.len (fun cdv A outer s H vs Q E gd hr h => ?_)
  have hu := QC.hu64 hr
  refine ⟨_, PSs.nox (pss_one (ps_ret (pe_lst (pa_cons (pe_callB (QK.call_isX (K := K) rfl (exm t)) rfl (n_isinstance t) (by decide +kernel) (pa_cons (pv 0) (pa_cons (pe_bltn (v := .ty "RuntimeError") (u := .type "RuntimeError") rfl (n_RuntimeError t) (by decide +kernel) rfl) pa_nil))) (pa_cons (pe_callB (QK.call_isX (K := K) rfl (exm t)) rfl (n_isinstance t) (by decide +kernel) (pa_cons (pv 0) (pa_cons (pe_bltn (v := .ty "ArithmeticError") (u := .type "ArithmeticError") rfl (n_ArithmeticError t) (by decide +kernel) rfl) pa_nil))) (pa_cons (pe_callB (QK.call_isX (K := K) rfl (exm t)) rfl (n_isinstance t) (by decide +kernel) (pa_cons (pv 0) (pa_cons (pe_tup (pa_cons (pe_bltn (v := .ty "KeyError") (u := .type "KeyError") rfl (n_KeyError t) (by decide +kernel) rfl) (pa_cons (pe_bltn (v := .ty "IndexError") (u := .type "IndexError") rfl (n_IndexError t) (by decide +kernel) rfl) pa_nil))) pa_nil))) pa_nil)))))), ?_⟩
  obtain ⟨a, F, o, al, q⟩ := h
  obtain ⟨u, rfl, hu1⟩ : ∃ u, vs = [u] ∧ QW.Exc a.C u F := by
    cases al with
    | cons h r => cases r; exact ⟨_, rfl, h⟩
  exact QW.q_ret (R := QW.Li ((lateB a).map fun b => QW.Is (.bl b))) o (QW.ev_lst o (QW.mos_cons (QW.Is.mo _) (QW.mos_cons (QW.Is.mo _) (QW.mos_cons (QW.Is.mo _) QW.mos_nil))) (QW.ea_cons o (QW.Is.mo _) (QW.ev_is1 o a.h.x (fun u h => h) a.h.re (QW.ev_var o QW.Exc.mo rfl hu1)) (QW.ea_cons o (QW.Is.mo _) (QW.ev_is1 o a.h.x (fun u h => h) a.h.ae (QW.ev_var o QW.Exc.mo rfl hu1)) (QW.ea_cons o (QW.Is.mo _) (QW.ev_is2 o a.h.x (fun us h => QW.vals_ke h) a.h.tt (QW.ev_var o QW.Exc.mo rfl hu1)) (QW.ea_nil o)))) (show 3 ≤ 100000 by decide)) q

theorem s__law_kin : FnScope ["e"] ["e"] (defScope (top 42)) := ⟨rfl, rfl, rfl, by decide +kernel, rfl, by decide +kernel, by decide +kernel⟩
theorem c__law_kin (t : T K mg base) : QC.Cal P w K mg base L2.CX0 2 "_law_kin" (spKin K kinB) [] := by
  obtain ⟨fd, F⟩ := t.c.def_ 4
  have sc := s__law_kin
  refine QC.cal (k := 1) F (g__law_kin t) (fun _ _ _ _ _ _ us hl => match us, hl with | [_], _ => rfl) sc spKin.len (fun cdv A outer s H vs Q E gd hr h => ?_)
  have hu := QC.hu64 hr
  refine ⟨_, PSs.nox (pss_one (ps_ret (pe_op op_cat (pe_lst (pa_cons (pe_callB (QK.call_isX (K := K) rfl (exm t)) rfl (n_isinstance t) (by decide +kernel) (pa_cons (pv 0) (pa_cons (pe_glob (v := .ref (He.ga K "CastError")) rfl (g_CastError t) rfl) pa_nil))) (pa_cons (pe_callB (QK.call_isX (K := K) rfl (exm t)) rfl (n_isinstance t) (by decide +kernel) (pa_cons (pv 0) (pa_cons (pe_bltn (v := .ty "ValueError") (u := .type "ValueError") rfl (n_ValueError t) (by decide +kernel) rfl) pa_nil))) (pa_cons (pe_callB (QK.call_isX (K := K) rfl (exm t)) rfl (n_isinstance t) (by decide +kernel) (pa_cons (pv 0) (pa_cons (pe_bltn (v := .ty "LookupError") (u := .type "LookupError") rfl (n_LookupError t) (by decide +kernel) rfl) pa_nil))) pa_nil)))) (QC.pe_q (c__law_late_kin t) gd hr (by decide) pass0 rfl (pa_cons (pv 0) pa_nil))))), ?_⟩
  obtain ⟨a, F, o, al, q⟩ := h
  obtain ⟨u, rfl, hu1⟩ : ∃ u, vs = [u] ∧ QW.Exc a.C u F := by
    cases al with
    | cons h r => cases r; exact ⟨_, rfl, h⟩
  have m3 : ∀ bs : List Bool, ∀ R ∈ bs.map (fun b => QW.Is (.bl b)), QW.Mo R := fun bs => QW.mos_map (f := fun b => QW.Is (.bl b)) (fun b => QW.Is.mo _) bs
  exact QW.q_ret (R := QW.Li ((kinB a).map fun b => QW.Is (.bl b))) o (QW.ev_op o (QW.Li.mo (m3 [a.b0, a.b1, a.b2])) (QW.ev_lst o (QW.mos_cons (QW.Is.mo _) (QW.mos_cons (QW.Is.mo _) (QW.mos_cons (QW.Is.mo _) QW.mos_nil))) (QW.ea_cons o (QW.Is.mo _) (QW.ev_is1 o a.h.x (fun u h => h) a.h.ce (QW.ev_var o QW.Exc.mo rfl hu1)) (QW.ea_cons o (QW.Is.mo _) (QW.ev_is1 o a.h.x (fun u h => h) a.h.ve (QW.ev_var o QW.Exc.mo rfl hu1)) (QW.ea_cons o (QW.Is.mo _) (QW.ev_is1 o a.h.x (fun u h => h) a.h.le (QW.ev_var o QW.Exc.mo rfl hu1)) (QW.ea_nil o)))) (show 3 ≤ 100000 by decide)) (QW.ev_call0 (A := fun a : KA K => [QW.Exc a.C]) (Rf := fun a => QW.Li ((lateB a).map fun b => QW.Is (.bl b))) a o (QW.ea_cons o QW.Exc.mo (QW.ev_var o QW.Exc.mo rfl hu1) (QW.ea_nil o))) (QW.ow_cat (m3 [a.b0, a.b1, a.b2]) (m3 (lateB a)) (show 6 ≤ 100000 by decide))) q

abbrev C13 (K : PySem.W.Frag) : List Addr := [He.ga K "InvalidName", He.ga K "InvalidTypes", He.ga K "InvalidKind", He.ga K "InvalidPath", He.ga K "InvalidShape", He.ga K "InvalidWay", He.ga K "InvalidGroup", He.ga K "InvalidSize", He.ga K "InvalidTable", He.ga K "InvalidValue", He.ga K "InvalidExpression", He.ga K "InvalidCount", He.ga K "InvalidCommand"]
abbrev C4 (K : PySem.W.Frag) : List Addr := [He.ga K "UnknownType", He.ga K "UnknownCast", He.ga K "UnknownVersion", He.ga K "UnknownOperator"]
abbrev ExV (v : V) (C : Addr) : QW.Pr := QW.Exv C [("value", v)]
def spVals (K : PySem.W.Frag) (Cs : PySem.W.Frag → List Addr) : Sp := QW.spW (fun _ : V => QW.W0) (fun v => [QW.Is v]) fun v => QW.Li ((Cs K).map (ExV v))
theorem spVals.len {Cs : PySem.W.Frag → List Addr} : ∀ vs H Q E, spVals K Cs vs H Q E → vs.length = 1 := QW.spW.len fun _ => rfl
theorem mex (v : V) (Cs : List Addr) : ∀ R ∈ Cs.map (ExV v), QW.Mo R := QW.mos_map (f := ExV v) (fun _ => QW.Exv.mo) Cs

theorem s__law_unknown : FnScope ["one"] ["one"] (defScope (top 45)) := ⟨rfl, rfl, rfl, by decide +kernel, rfl, by decide +kernel, by decide +kernel⟩
theorem c__law_unknown (t : T K mg base) : QC.Cal P w K mg base L2.CX0 3 "_law_unknown" (spVals K C4) [] := by
  obtain ⟨fd, F⟩ := t.c.def_ 7
  have sc := s__law_unknown
  refine QC.cal (k := 2) F (g__law_unknown t) (fun _ _ _ _ _ _ us hl => match us, hl with | [_], _ => rfl) sc spVals.len (fun cdv A outer s H vs Q E gd hr h => ?_)
  have hu := QC.hu64 hr
  refine ⟨_, PSs.nox (pss_one (ps_ret (pe_lst (pa_cons (QE.pe_mkE (m_UnknownType t) hr (by decide) rfl (pa_cons (pv 0) pa_nil)) (pa_cons (QE.pe_mkE (m_UnknownCast t) hr (by decide) rfl (pa_cons (pv 0) pa_nil)) (pa_cons (QE.pe_mkE (m_UnknownVersion t) hr (by decide) rfl (pa_cons (pv 0) pa_nil)) (pa_cons (QE.pe_mkE (m_UnknownOperator t) hr (by decide) rfl (pa_cons (pv 0) pa_nil)) pa_nil))))))), ?_⟩
  obtain ⟨v, F, o, al, q⟩ := h
  obtain rfl := QW.Al.is (f := fun v : V => v) (xs := [v]) al
  exact QW.q_ret (R := QW.Li ((C4 K).map (ExV v))) o (QW.ev_lst o (QW.mos_cons QW.Exv.mo (QW.mos_cons QW.Exv.mo (QW.mos_cons QW.Exv.mo (QW.mos_cons QW.Exv.mo QW.mos_nil)))) (QW.ea_cons o QW.Exv.mo (QW.ev_mk (C := He.ga K "UnknownType") (names := ["value"]) (ws := [v]) o (QW.ea_cons o (QW.Is.mo _) (QW.ev_var o (QW.Is.mo _) rfl rfl) (QW.ea_nil o)) (by rfl) (show 1 ≤ 1000 by decide)) (QW.ea_cons o QW.Exv.mo (QW.ev_mk (C := He.ga K "UnknownCast") (names := ["value"]) (ws := [v]) o (QW.ea_cons o (QW.Is.mo _) (QW.ev_var o (QW.Is.mo _) rfl rfl) (QW.ea_nil o)) (by rfl) (show 1 ≤ 1000 by decide)) (QW.ea_cons o QW.Exv.mo (QW.ev_mk (C := He.ga K "UnknownVersion") (names := ["value"]) (ws := [v]) o (QW.ea_cons o (QW.Is.mo _) (QW.ev_var o (QW.Is.mo _) rfl rfl) (QW.ea_nil o)) (by rfl) (show 1 ≤ 1000 by decide)) (QW.ea_cons o QW.Exv.mo (QW.ev_mk (C := He.ga K "UnknownOperator") (names := ["value"]) (ws := [v]) o (QW.ea_cons o (QW.Is.mo _) (QW.ev_var o (QW.Is.mo _) rfl rfl) (QW.ea_nil o)) (by rfl) (show 1 ≤ 1000 by decide)) (QW.ea_nil o))))) (show 4 ≤ 100000 by decide)) q

theorem s__law_values : FnScope ["one", "rows"] ["one"] (defScope (top 44)) := ⟨rfl, rfl, rfl, by decide +kernel, rfl, by decide +kernel, by decide +kernel⟩
theorem c__law_values (t : T K mg base) : QC.Cal P w K mg base L2.CX0 3 "_law_values" (spVals K C13) [] := by
  obtain ⟨fd, F⟩ := t.c.def_ 6
  have sc := s__law_values
  refine QC.cal (k := 2) F (g__law_values t) (fun _ _ _ _ _ _ us hl => match us, hl with | [_], _ => rfl) sc spVals.len (fun cdv A outer s H vs Q E gd hr h => ?_)
  have hu := QC.hu64 hr
  refine ⟨_, PSs.nox (pss_cons (ps_set (i := 1) sc.nd rfl (by first | exact .inl rfl | exact .inr rfl) (pe_lst (pa_cons (QE.pe_mkE (m_InvalidName t) hr (by decide) rfl (pa_cons (pv 0) pa_nil)) (pa_cons (QE.pe_mkE (m_InvalidTypes t) hr (by decide) rfl (pa_cons (pv 0) pa_nil)) (pa_cons (QE.pe_mkE (m_InvalidKind t) hr (by decide) rfl (pa_cons (pv 0) pa_nil)) (pa_cons (QE.pe_mkE (m_InvalidPath t) hr (by decide) rfl (pa_cons (pv 0) pa_nil)) (pa_cons (QE.pe_mkE (m_InvalidShape t) hr (by decide) rfl (pa_cons (pv 0) pa_nil)) (pa_cons (QE.pe_mkE (m_InvalidWay t) hr (by decide) rfl (pa_cons (pv 0) pa_nil)) pa_nil))))))))
      (pss_cons (ps_set (i := 1) sc.nd rfl (by first | exact .inl rfl | exact .inr rfl) (pe_op op_cat (pv 1) (pe_lst (pa_cons (QE.pe_mkE (m_InvalidGroup t) hr (by decide) rfl (pa_cons (pv 0) pa_nil)) (pa_cons (QE.pe_mkE (m_InvalidSize t) hr (by decide) rfl (pa_cons (pv 0) pa_nil)) (pa_cons (QE.pe_mkE (m_InvalidTable t) hr (by decide) rfl (pa_cons (pv 0) pa_nil)) (pa_cons (QE.pe_mkE (m_InvalidValue t) hr (by decide) rfl (pa_cons (pv 0) pa_nil)) (pa_cons (QE.pe_mkE (m_InvalidExpression t) hr (by decide) rfl (pa_cons (pv 0) pa_nil)) pa_nil))))))))
      (pss_one (ps_ret (pe_op op_cat (pv 1) (pe_lst (pa_cons (QE.pe_mkE (m_InvalidCount t) hr (by decide) rfl (pa_cons (pv 0) pa_nil)) (pa_cons (QE.pe_mkE (m_InvalidCommand t) hr (by decide) rfl (pa_cons (pv 0) pa_nil)) pa_nil)))))))), ?_⟩
  obtain ⟨v, F, o, al, q⟩ := h
  obtain rfl := QW.Al.is (f := fun v : V => v) (xs := [v]) al
  refine QW.q_asg (R := QW.Li ([He.ga K "InvalidName", He.ga K "InvalidTypes", He.ga K "InvalidKind", He.ga K "InvalidPath", He.ga K "InvalidShape", He.ga K "InvalidWay"].map (ExV v))) o (QW.ev_lst o (QW.mos_cons QW.Exv.mo (QW.mos_cons QW.Exv.mo (QW.mos_cons QW.Exv.mo (QW.mos_cons QW.Exv.mo (QW.mos_cons QW.Exv.mo (QW.mos_cons QW.Exv.mo QW.mos_nil)))))) (QW.ea_cons o QW.Exv.mo (QW.ev_mk (C := He.ga K "InvalidName") (names := ["value"]) (ws := [v]) o (QW.ea_cons o (QW.Is.mo _) (QW.ev_var o (QW.Is.mo _) rfl rfl) (QW.ea_nil o)) (by rfl) (show 1 ≤ 1000 by decide)) (QW.ea_cons o QW.Exv.mo (QW.ev_mk (C := He.ga K "InvalidTypes") (names := ["value"]) (ws := [v]) o (QW.ea_cons o (QW.Is.mo _) (QW.ev_var o (QW.Is.mo _) rfl rfl) (QW.ea_nil o)) (by rfl) (show 1 ≤ 1000 by decide)) (QW.ea_cons o QW.Exv.mo (QW.ev_mk (C := He.ga K "InvalidKind") (names := ["value"]) (ws := [v]) o (QW.ea_cons o (QW.Is.mo _) (QW.ev_var o (QW.Is.mo _) rfl rfl) (QW.ea_nil o)) (by rfl) (show 1 ≤ 1000 by decide)) (QW.ea_cons o QW.Exv.mo (QW.ev_mk (C := He.ga K "InvalidPath") (names := ["value"]) (ws := [v]) o (QW.ea_cons o (QW.Is.mo _) (QW.ev_var o (QW.Is.mo _) rfl rfl) (QW.ea_nil o)) (by rfl) (show 1 ≤ 1000 by decide)) (QW.ea_cons o QW.Exv.mo (QW.ev_mk (C := He.ga K "InvalidShape") (names := ["value"]) (ws := [v]) o (QW.ea_cons o (QW.Is.mo _) (QW.ev_var o (QW.Is.mo _) rfl rfl) (QW.ea_nil o)) (by rfl) (show 1 ≤ 1000 by decide)) (QW.ea_cons o QW.Exv.mo (QW.ev_mk (C := He.ga K "InvalidWay") (names := ["value"]) (ws := [v]) o (QW.ea_cons o (QW.Is.mo _) (QW.ev_var o (QW.Is.mo _) rfl rfl) (QW.ea_nil o)) (by rfl) (show 1 ≤ 1000 by decide)) (QW.ea_nil o))))))) (show 6 ≤ 100000 by decide)) fun v1 F1 H1 g1 r1 => ?_
  have o1 := g1.ok o
  refine QW.q_asg (R := QW.Li (([He.ga K "InvalidName", He.ga K "InvalidTypes", He.ga K "InvalidKind", He.ga K "InvalidPath", He.ga K "InvalidShape", He.ga K "InvalidWay"] ++ [He.ga K "InvalidGroup", He.ga K "InvalidSize", He.ga K "InvalidTable", He.ga K "InvalidValue", He.ga K "InvalidExpression"]).map (ExV v))) o1 (QW.ev_op o1 (QW.Li.mo (mex v _)) (QW.ev_var o1 (QW.Li.mo (mex v [He.ga K "InvalidName", He.ga K "InvalidTypes", He.ga K "InvalidKind", He.ga K "InvalidPath", He.ga K "InvalidShape", He.ga K "InvalidWay"])) rfl r1) (QW.ev_lst o1 (QW.mos_cons QW.Exv.mo (QW.mos_cons QW.Exv.mo (QW.mos_cons QW.Exv.mo (QW.mos_cons QW.Exv.mo (QW.mos_cons QW.Exv.mo QW.mos_nil))))) (QW.ea_cons o1 QW.Exv.mo (QW.ev_mk (C := He.ga K "InvalidGroup") (names := ["value"]) (ws := [v]) o1 (QW.ea_cons o1 (QW.Is.mo _) (QW.ev_var o1 (QW.Is.mo _) rfl rfl) (QW.ea_nil o1)) (by rfl) (show 1 ≤ 1000 by decide)) (QW.ea_cons o1 QW.Exv.mo (QW.ev_mk (C := He.ga K "InvalidSize") (names := ["value"]) (ws := [v]) o1 (QW.ea_cons o1 (QW.Is.mo _) (QW.ev_var o1 (QW.Is.mo _) rfl rfl) (QW.ea_nil o1)) (by rfl) (show 1 ≤ 1000 by decide)) (QW.ea_cons o1 QW.Exv.mo (QW.ev_mk (C := He.ga K "InvalidTable") (names := ["value"]) (ws := [v]) o1 (QW.ea_cons o1 (QW.Is.mo _) (QW.ev_var o1 (QW.Is.mo _) rfl rfl) (QW.ea_nil o1)) (by rfl) (show 1 ≤ 1000 by decide)) (QW.ea_cons o1 QW.Exv.mo (QW.ev_mk (C := He.ga K "InvalidValue") (names := ["value"]) (ws := [v]) o1 (QW.ea_cons o1 (QW.Is.mo _) (QW.ev_var o1 (QW.Is.mo _) rfl rfl) (QW.ea_nil o1)) (by rfl) (show 1 ≤ 1000 by decide)) (QW.ea_cons o1 QW.Exv.mo (QW.ev_mk (C := He.ga K "InvalidExpression") (names := ["value"]) (ws := [v]) o1 (QW.ea_cons o1 (QW.Is.mo _) (QW.ev_var o1 (QW.Is.mo _) rfl rfl) (QW.ea_nil o1)) (by rfl) (show 1 ≤ 1000 by decide)) (QW.ea_nil o1)))))) (show 5 ≤ 100000 by decide)) (QW.ow_cat (mex v [He.ga K "InvalidName", He.ga K "InvalidTypes", He.ga K "InvalidKind", He.ga K "InvalidPath", He.ga K "InvalidShape", He.ga K "InvalidWay"]) (mex v [He.ga K "InvalidGroup", He.ga K "InvalidSize", He.ga K "InvalidTable", He.ga K "InvalidValue", He.ga K "InvalidExpression"]) (show 11 ≤ 100000 by decide))) fun v2 F2 H2 g2 r2 => ?_
  have o2 := g2.ok o1
  exact QW.q_ret (R := QW.Li ((C13 K).map (ExV v))) o2 (QW.ev_op o2 (QW.Li.mo (mex v _)) (QW.ev_var o2 (QW.Li.mo (mex v [He.ga K "InvalidName", He.ga K "InvalidTypes", He.ga K "InvalidKind", He.ga K "InvalidPath", He.ga K "InvalidShape", He.ga K "InvalidWay", He.ga K "InvalidGroup", He.ga K "InvalidSize", He.ga K "InvalidTable", He.ga K "InvalidValue", He.ga K "InvalidExpression"])) rfl r2) (QW.ev_lst o2 (QW.mos_cons QW.Exv.mo (QW.mos_cons QW.Exv.mo QW.mos_nil)) (QW.ea_cons o2 QW.Exv.mo (QW.ev_mk (C := He.ga K "InvalidCount") (names := ["value"]) (ws := [v]) o2 (QW.ea_cons o2 (QW.Is.mo _) (QW.ev_var o2 (QW.Is.mo _) rfl rfl) (QW.ea_nil o2)) (by rfl) (show 1 ≤ 1000 by decide)) (QW.ea_cons o2 QW.Exv.mo (QW.ev_mk (C := He.ga K "InvalidCommand") (names := ["value"]) (ws := [v]) o2 (QW.ea_cons o2 (QW.Is.mo _) (QW.ev_var o2 (QW.Is.mo _) rfl rfl) (QW.ea_nil o2)) (by rfl) (show 1 ≤ 1000 by decide)) (QW.ea_nil o2))) (show 2 ≤ 100000 by decide)) (QW.ow_cat (mex v [He.ga K "InvalidName", He.ga K "InvalidTypes", He.ga K "InvalidKind", He.ga K "InvalidPath", He.ga K "InvalidShape", He.ga K "InvalidWay", He.ga K "InvalidGroup", He.ga K "InvalidSize", He.ga K "InvalidTable", He.ga K "InvalidValue", He.ga K "InvalidExpression"]) (mex v [He.ga K "InvalidCount", He.ga K "InvalidCommand"]) (show 13 ≤ 100000 by decide))) fun v3 F3 H3 g3 r3 => q v3 F3 H3 ((g1.trans o g2).trans o g3) r3

end
end K18

set_option Elab.async false
set_option linter.all false
set_option maxRecDepth 100000
set_option maxHeartbeats 4000000
namespace K18
open PySem PySem.Spec PyProof.Rows L2

section
variable {P : Program} {w : World} {K : PySem.W.Frag} {mg : Str → Option Value} {base : Heap}

/-- exactly those values, in a list -/
abbrev RL (r : List V) : QW.Pr := QW.Li (r.map QW.Is)
theorem mi (r : List V) : ∀ R ∈ r.map QW.Is, QW.Mo R := QW.mos_map (f := QW.Is) QW.Is.mo r
theorem mrl (rs : List (List V)) : ∀ R ∈ rs.map RL, QW.Mo R := QW.mos_map (f := RL) (fun r => QW.Li.mo (mi r)) rs
def told (a b c d : V) : List (List V) := [[a], [a], [a], [a], [a], [a], [a], [a], [a], [a], [a], [a], [a], [a], [a], [a], [a], [a, b], [a], [a], [a, b], [a], [a], [a, b], [a, b], [a], [a], [a, b], [a, b], [a, b], [a, b, c, d], [a, b], [a, b], [a, b]]
abbrev spRows (K : PySem.W.Frag) : Sp := QW.spW (fun _ : V × V × V × V => QW.W0) (fun a => [QW.Is a.1, QW.Is a.2.1, QW.Is a.2.2.1, QW.Is a.2.2.2]) fun a => QW.Li ((told a.1 a.2.1 a.2.2.1 a.2.2.2).map RL)
theorem spRows.len : ∀ vs H Q E, spRows K vs H Q E → vs.length = 4 := QW.spW.len fun _ => rfl
abbrev C17 (K : PySem.W.Frag) : List Addr := [He.ga K "InvalidName", He.ga K "InvalidTypes", He.ga K "InvalidKind", He.ga K "InvalidPath", He.ga K "InvalidShape", He.ga K "InvalidWay", He.ga K "InvalidGroup", He.ga K "InvalidSize", He.ga K "InvalidTable", He.ga K "InvalidValue", He.ga K "InvalidExpression", He.ga K "InvalidCount", He.ga K "InvalidCommand", He.ga K "UnknownType", He.ga K "UnknownCast", He.ga K "UnknownVersion", He.ga K "UnknownOperator"]
theorem has17 (t : T K mg base) : ∀ C ∈ C17 K, QE.ExX K C ∧ PySem.W.findIn K (.ref C) "value" = some none := QW.fa_cons ⟨(x_InvalidName t).x, (i_InvalidName t).2.2 "value" (by simp)⟩ (QW.fa_cons ⟨(x_InvalidTypes t).x, (i_InvalidTypes t).2.2 "value" (by simp)⟩ (QW.fa_cons ⟨(x_InvalidKind t).x, (i_InvalidKind t).2.2 "value" (by simp)⟩ (QW.fa_cons ⟨(x_InvalidPath t).x, (i_InvalidPath t).2.2 "value" (by simp)⟩ (QW.fa_cons ⟨(x_InvalidShape t).x, (i_InvalidShape t).2.2 "value" (by simp)⟩ (QW.fa_cons ⟨(x_InvalidWay t).x, (i_InvalidWay t).2.2 "value" (by simp)⟩ (QW.fa_cons ⟨(x_InvalidGroup t).x, (i_InvalidGroup t).2.2 "value" (by simp)⟩ (QW.fa_cons ⟨(x_InvalidSize t).x, (i_InvalidSize t).2.2 "value" (by simp)⟩ (QW.fa_cons ⟨(x_InvalidTable t).x, (i_InvalidTable t).2.2 "value" (by simp)⟩ (QW.fa_cons ⟨(x_InvalidValue t).x, (i_InvalidValue t).2.2 "value" (by simp)⟩ (QW.fa_cons ⟨(x_InvalidExpression t).x, (i_InvalidExpression t).2.2 "value" (by simp)⟩ (QW.fa_cons ⟨(x_InvalidCount t).x, (i_InvalidCount t).2.2 "value" (by simp)⟩ (QW.fa_cons ⟨(x_InvalidCommand t).x, (i_InvalidCommand t).2.2 "value" (by simp)⟩ (QW.fa_cons ⟨(x_UnknownType t).x, (i_UnknownType t).2.2 "value" (by simp)⟩ (QW.fa_cons ⟨(x_UnknownCast t).x, (i_UnknownCast t).2.2 "value" (by simp)⟩ (QW.fa_cons ⟨(x_UnknownVersion t).x, (i_UnknownVersion t).2.2 "value" (by simp)⟩ (QW.fa_cons ⟨(x_UnknownOperator t).x, (i_UnknownOperator t).2.2 "value" (by simp)⟩ (QW.fa_nil)))))))))))))))))

theorem s__law_told : FnScope ["one", "other", "third", "fourth", "found", "e", "scheme", "rows", "schemes", "tables", "deed", "text", "none", "way", "taken", "ring", "size", "use", "clash", "torn", "rough", "lost", "many"] ["one", "other", "third", "fourth"] (defScope (top 46)) := ⟨rfl, rfl, rfl, by decide +kernel, rfl, by decide +kernel, by decide +kernel⟩
theorem c__law_told (t : T K mg base) : QC.Cal P w K mg base L2.CX0 4 "_law_told" (spRows K) [] := by
  obtain ⟨fd, F⟩ := t.c.def_ 8
  have sc := s__law_told
  refine QC.cal (k := 3) F (g__law_told t) (fun _ _ _ _ _ _ us hl => match us, hl with | [_, _, _, _], _ => rfl) sc spRows.len (fun cdv A outer s H vs Q E gd hr h => ?_)
  have hu := QC.hu64 hr
  refine ⟨_, PSs.nox (pss_cons (ps_setLc (i := 4) rfl sc.nd rfl rfl rfl (QK.pi_list (K := K) rfl (pe_op op_cat (QC.pe_q (c__law_values t) gd hr (by decide) pass0 rfl (pa_cons (pv 0) pa_nil)) (QC.pe_q (c__law_unknown t) gd hr (by decide) pass0 rfl (pa_cons (pv 0) pa_nil)))) (blkOk_by (own := [("e", 5)]) (by show blkC ["one", "other", "third", "fourth", "found", "e", "scheme", "rows", "schemes", "tables", "deed", "text", "none", "way", "taken", "ring", "size", "use", "clash", "torn", "rough", "lost", "many"] (defScope (top 46)) _ _ = true; decide +kernel)) (fun _ _ _ _ _ => (pg_name (i := 5) sc.nd rfl (by first | exact .inl rfl | exact .inr rfl))) (fun _ _ _ _ _ => pts_nil) (fun _ _ _ _ _ => (pe_lst (pa_cons (QK.pe_ef (K := K) rfl (pv 5)) pa_nil))))
      (pss_cons (ps_par3 (i := 6) (j := 7) (l := 8) rfl sc.nd rfl rfl rfl (by decide) (by decide) (by decide) rfl rfl rfl (pa_cons (QE.pe_mkE (m_InvalidScheme t) hr (by decide) rfl (pa_cons (pv 0) (pa_cons (pv 1) pa_nil))) (pa_cons (QE.pe_mkE (m_InvalidComparisons t) hr (by decide) rfl (pa_cons (pv 0) pa_nil)) (pa_cons (QE.pe_mkE (m_InvalidSchemes t) hr (by decide) rfl (pa_cons (pv 0) pa_nil)) pa_nil))) rfl)
      (pss_cons (ps_set (i := 4) sc.nd rfl (by first | exact .inl rfl | exact .inr rfl) (pe_op op_cat (pv 4) (pe_lst (pa_cons (pe_lst (pa_cons (QK.pe_ef (K := K) rfl (pv 6)) (pa_cons (QK.pe_ef (K := K) rfl (pv 6)) pa_nil))) (pa_cons (pe_lst (pa_cons (QK.pe_ef (K := K) rfl (pv 7)) pa_nil)) (pa_cons (pe_lst (pa_cons (QK.pe_ef (K := K) rfl (pv 8)) pa_nil)) pa_nil))))))
      (pss_cons (ps_par3 (i := 9) (j := 10) (l := 11) rfl sc.nd rfl rfl rfl (by decide) (by decide) (by decide) rfl rfl rfl (pa_cons (QE.pe_mkE (m_InvalidTables t) hr (by decide) rfl (pa_cons (pv 0) (pa_cons (pv 1) pa_nil))) (pa_cons (QE.pe_mkE (m_InvalidOperation t) hr (by decide) rfl (pa_cons (pv 0) pa_nil)) (pa_cons (QE.pe_mkE (m_InvalidText t) hr (by decide) rfl (pa_cons (pv 0) pa_nil)) pa_nil))) rfl)
      (pss_cons (ps_set (i := 4) sc.nd rfl (by first | exact .inl rfl | exact .inr rfl) (pe_op op_cat (pv 4) (pe_lst (pa_cons (pe_lst (pa_cons (QK.pe_ef (K := K) rfl (pv 9)) (pa_cons (QK.pe_ef (K := K) rfl (pv 9)) pa_nil))) (pa_cons (pe_lst (pa_cons (QK.pe_ef (K := K) rfl (pv 10)) pa_nil)) (pa_cons (pe_lst (pa_cons (QK.pe_ef (K := K) rfl (pv 11)) pa_nil)) pa_nil))))))
      (pss_cons (ps_asg (pe_tup (pa_cons (QE.pe_mkE (m_NoVersion t) hr (by decide) rfl (pa_cons (pv 0) (pa_cons (pv 1) pa_nil))) (pa_cons (QE.pe_mkE (m_NoPath t) hr (by decide) rfl (pa_cons (pv 0) (pa_cons (pv 1) pa_nil))) (pa_cons (QE.pe_mkE (m_NameTaken t) hr (by decide) rfl (pa_cons (pv 0) pa_nil)) (pa_cons (QE.pe_mkE (m_Cyclic t) hr (by decide) rfl (pa_cons (pv 0) pa_nil)) pa_nil))))) (pg_tup rfl (pgs_cons (pg_name (i := 12) sc.nd rfl (by first | exact .inl rfl | exact .inr rfl)) (pgs_cons (pg_name (i := 13) sc.nd rfl (by first | exact .inl rfl | exact .inr rfl)) (pgs_cons (pg_name (i := 14) sc.nd rfl (by first | exact .inl rfl | exact .inr rfl)) (pgs_cons (pg_name (i := 15) sc.nd rfl (by first | exact .inl rfl | exact .inr rfl)) pgs_nil))))))
      (pss_cons (ps_set (i := 4) sc.nd rfl (by first | exact .inl rfl | exact .inr rfl) (pe_op op_cat (pv 4) (pe_lst (pa_cons (pe_lst (pa_cons (QK.pe_ef (K := K) rfl (pv 12)) (pa_cons (QK.pe_ef (K := K) rfl (pv 12)) pa_nil))) (pa_cons (pe_lst (pa_cons (QK.pe_ef (K := K) rfl (pv 13)) (pa_cons (QK.pe_ef (K := K) rfl (pv 13)) pa_nil))) (pa_cons (pe_lst (pa_cons (QK.pe_ef (K := K) rfl (pv 14)) pa_nil)) (pa_cons (pe_lst (pa_cons (QK.pe_ef (K := K) rfl (pv 15)) pa_nil)) pa_nil)))))))
      (pss_cons (ps_par3 (i := 16) (j := 17) (l := 18) rfl sc.nd rfl rfl rfl (by decide) (by decide) (by decide) rfl rfl rfl (pa_cons (QE.pe_mkE (m_WrongArity t) hr (by decide) rfl (pa_cons (pv 0) (pa_cons (pv 1) pa_nil))) (pa_cons (QE.pe_mkE (m_InUse t) hr (by decide) rfl (pa_cons (pv 0) (pa_cons (pv 1) pa_nil))) (pa_cons (QE.pe_mkE (m_Conflicting t) hr (by decide) rfl (pa_cons (pv 0) (pa_cons (pv 1) pa_nil))) pa_nil))) rfl)
      (pss_cons (ps_set (i := 4) sc.nd rfl (by first | exact .inl rfl | exact .inr rfl) (pe_op op_cat (pv 4) (pe_lst (pa_cons (pe_lst (pa_cons (QK.pe_ef (K := K) rfl (pv 16)) (pa_cons (QK.pe_ef (K := K) rfl (pv 16)) pa_nil))) (pa_cons (pe_lst (pa_cons (QK.pe_ef (K := K) rfl (pv 17)) (pa_cons (QK.pe_ef (K := K) rfl (pv 17)) pa_nil))) (pa_cons (pe_lst (pa_cons (QK.pe_ef (K := K) rfl (pv 18)) (pa_cons (QK.pe_ef (K := K) rfl (pv 18)) pa_nil))) pa_nil))))))
      (pss_cons (ps_par (i := 19) (j := 20) rfl sc.nd rfl rfl (by decide) rfl rfl (pa_cons (QE.pe_mkE (m_Incoherent t) hr (by decide) rfl (pa_cons (pv 0) (pa_cons (pv 1) (pa_cons (pv 2) (pa_cons (pv 3) pa_nil))))) (pa_cons (QE.pe_mkE (m_NotRegular t) hr (by decide) rfl (pa_cons (pv 0) (pa_cons (pv 1) pa_nil))) pa_nil)) rfl)
      (pss_cons (ps_set (i := 4) sc.nd rfl (by first | exact .inl rfl | exact .inr rfl) (pe_op op_cat (pv 4) (pe_lst (pa_cons (pe_lst (pa_cons (QK.pe_ef (K := K) rfl (pv 19)) (pa_cons (QK.pe_ef (K := K) rfl (pv 19)) (pa_cons (QK.pe_ef (K := K) rfl (pv 19)) (pa_cons (QK.pe_ef (K := K) rfl (pv 19)) pa_nil))))) (pa_cons (pe_lst (pa_cons (QK.pe_ef (K := K) rfl (pv 20)) (pa_cons (QK.pe_ef (K := K) rfl (pv 20)) pa_nil))) pa_nil)))))
      (pss_cons (ps_par (i := 21) (j := 22) rfl sc.nd rfl rfl (by decide) rfl rfl (pa_cons (QE.pe_mkE (m_CommandFailed t) hr (by decide) rfl (pa_cons (pv 0) (pa_cons (pv 1) pa_nil))) (pa_cons (QE.pe_mkE (m_TooMany t) hr (by decide) rfl (pa_cons (pv 0) (pa_cons (pv 1) pa_nil))) pa_nil)) rfl)
      (pss_one (ps_ret (pe_op op_cat (pv 4) (pe_lst (pa_cons (pe_lst (pa_cons (QK.pe_ef (K := K) rfl (pv 21)) (pa_cons (QK.pe_ef (K := K) rfl (pv 21)) pa_nil))) (pa_cons (pe_lst (pa_cons (QK.pe_ef (K := K) rfl (pv 22)) (pa_cons (QK.pe_ef (K := K) rfl (pv 22)) pa_nil))) pa_nil)))))))))))))))))), ?_⟩
  obtain ⟨⟨v0, v1, v2, v3⟩, F, o, al, q⟩ := h
  obtain rfl := QW.Al.is (f := fun v : V => v) (xs := [v0, v1, v2, v3]) al
  refine QW.q_asgS (R := (QW.Li (([[v0], [v0], [v0], [v0], [v0], [v0], [v0], [v0], [v0], [v0], [v0], [v0], [v0], [v0], [v0], [v0], [v0]] : List (List V)).map RL))) (fun x => [some v0, some v1, some v2, some v3, some x, none, none, none, none, none, none, none, none, none, none, none, none, none, none, none, none, none, none]) o (QW.ev_mapC (Cs := C17 K) (f := ExV v0) (g := fun _ => RL [v0]) o (fun x => rfl) (QW.ev_op o (QW.Li.mo (mex v0 _)) (QW.ev_call0 (A := fun v : V => [QW.Is v]) (Rf := fun v => QW.Li ((C13 K).map (ExV v))) v0 o (QW.ea_cons o (QW.Is.mo _) (QW.ev_var o (QW.Is.mo _) rfl rfl) (QW.ea_nil o))) (QW.ev_call0 (A := fun v : V => [QW.Is v]) (Rf := fun v => QW.Li ((C4 K).map (ExV v))) v0 o (QW.ea_cons o (QW.Is.mo _) (QW.ev_var o (QW.Is.mo _) rfl rfl) (QW.ea_nil o))) (QW.ow_cat (mex v0 (C13 K)) (mex v0 (C4 K)) (show 17 ≤ 100000 by decide))) (fun C => QW.Exv.mo) (fun C => QW.Li.mo (mi _)) (show 17 ≤ 100000 by decide) (fun C x G H1 hC hx g => QW.ev_lst (g.ok o) (mi [v0]) (QW.ea_cons (g.ok o) (QW.Is.mo _) (QW.ev_ef (g.ok o) (has17 t C hC).1 (has17 t C hC).2 (QW.ev_var (g.ok o) QW.Exv.mo rfl hx) rfl) (QW.ea_nil (g.ok o))) (show 1 ≤ 100000 by decide))) fun v1_0 F1 H1 g1 r1_0 => ?_
  have o1 := g1.ok o
  have G1 := g1
  refine QW.q_par3S (fun x0 x1 x2 => [some v0, some v1, some v2, some v3, some v1_0, none, some x0, some x1, some x2, none, none, none, none, none, none, none, none, none, none, none, none, none, none]) o1 (QW.ea_cons o1 QW.Exv.mo (QW.ev_mk (C := He.ga K "InvalidScheme") (names := ["problem", "position"]) (ws := [v0, v1]) o1 (QW.ea_cons o1 (QW.Is.mo _) (QW.ev_var o1 (QW.Is.mo _) rfl rfl) (QW.ea_cons o1 (QW.Is.mo _) (QW.ev_var o1 (QW.Is.mo _) rfl rfl) (QW.ea_nil o1))) (by rfl) (show 2 ≤ 1000 by decide)) (QW.ea_cons o1 QW.Exv.mo (QW.ev_mk (C := He.ga K "InvalidComparisons") (names := ["position"]) (ws := [v0]) o1 (QW.ea_cons o1 (QW.Is.mo _) (QW.ev_var o1 (QW.Is.mo _) rfl rfl) (QW.ea_nil o1)) (by rfl) (show 1 ≤ 1000 by decide)) (QW.ea_cons o1 QW.Exv.mo (QW.ev_mk (C := He.ga K "InvalidSchemes") (names := ["position"]) (ws := [v0]) o1 (QW.ea_cons o1 (QW.Is.mo _) (QW.ev_var o1 (QW.Is.mo _) rfl rfl) (QW.ea_nil o1)) (by rfl) (show 1 ≤ 1000 by decide)) (QW.ea_nil o1)))) fun v2_0 v2_1 v2_2 F2 H2 g2 r2_0 r2_1 r2_2 => ?_
  have o2 := g2.ok o1
  have G2 := G1.trans o g2
  have e2_4 := (QW.Li.mo (mrl _)) _ _ _ g2.g.ff r1_0
  refine QW.q_asgS (R := (QW.Li (([[v0], [v0], [v0], [v0], [v0], [v0], [v0], [v0], [v0], [v0], [v0], [v0], [v0], [v0], [v0], [v0], [v0], [v0, v1], [v0], [v0]] : List (List V)).map RL))) (fun x => [some v0, some v1, some v2, some v3, some x, none, some v2_0, some v2_1, some v2_2, none, none, none, none, none, none, none, none, none, none, none, none, none, none]) o2 (QW.ev_op o2 (QW.Li.mo (mrl _)) (QW.ev_var o2 (QW.Li.mo (mrl _)) rfl e2_4) (QW.ev_lst o2 (mrl ([[v0, v1], [v0], [v0]] : List (List V))) (QW.ea_cons o2 (QW.Li.mo (mi [v0, v1])) (QW.ev_lst o2 (mi [v0, v1]) (QW.ea_cons o2 (QW.Is.mo _) (QW.ev_ef o2 (x_InvalidScheme t).x ((i_InvalidScheme t).2.2 "problem" (by simp)) (QW.ev_var o2 QW.Exv.mo rfl r2_0) rfl) (QW.ea_cons o2 (QW.Is.mo _) (QW.ev_ef o2 (x_InvalidScheme t).x ((i_InvalidScheme t).2.2 "position" (by simp)) (QW.ev_var o2 QW.Exv.mo rfl r2_0) rfl) (QW.ea_nil o2))) (show 2 ≤ 100000 by decide)) (QW.ea_cons o2 (QW.Li.mo (mi [v0])) (QW.ev_lst o2 (mi [v0]) (QW.ea_cons o2 (QW.Is.mo _) (QW.ev_ef o2 (x_InvalidComparisons t).x ((i_InvalidComparisons t).2.2 "position" (by simp)) (QW.ev_var o2 QW.Exv.mo rfl r2_1) rfl) (QW.ea_nil o2)) (show 1 ≤ 100000 by decide)) (QW.ea_cons o2 (QW.Li.mo (mi [v0])) (QW.ev_lst o2 (mi [v0]) (QW.ea_cons o2 (QW.Is.mo _) (QW.ev_ef o2 (x_InvalidSchemes t).x ((i_InvalidSchemes t).2.2 "position" (by simp)) (QW.ev_var o2 QW.Exv.mo rfl r2_2) rfl) (QW.ea_nil o2)) (show 1 ≤ 100000 by decide)) (QW.ea_nil o2)))) (show 3 ≤ 100000 by decide)) (QW.ow_cat (mrl ([[v0], [v0], [v0], [v0], [v0], [v0], [v0], [v0], [v0], [v0], [v0], [v0], [v0], [v0], [v0], [v0], [v0]] : List (List V))) (mrl ([[v0, v1], [v0], [v0]] : List (List V))) (show 20 ≤ 100000 by decide))) fun v3_0 F3 H3 g3 r3_0 => ?_
  have o3 := g3.ok o2
  have G3 := G2.trans o g3
  have e3_6 := QW.Exv.mo _ _ _ g3.g.ff r2_0
  have e3_7 := QW.Exv.mo _ _ _ g3.g.ff r2_1
  have e3_8 := QW.Exv.mo _ _ _ g3.g.ff r2_2
  refine QW.q_par3S (fun x0 x1 x2 => [some v0, some v1, some v2, some v3, some v3_0, none, some v2_0, some v2_1, some v2_2, some x0, some x1, some x2, none, none, none, none, none, none, none, none, none, none, none]) o3 (QW.ea_cons o3 QW.Exv.mo (QW.ev_mk (C := He.ga K "InvalidTables") (names := ["kind", "name"]) (ws := [v0, v1]) o3 (QW.ea_cons o3 (QW.Is.mo _) (QW.ev_var o3 (QW.Is.mo _) rfl rfl) (QW.ea_cons o3 (QW.Is.mo _) (QW.ev_var o3 (QW.Is.mo _) rfl rfl) (QW.ea_nil o3))) (by rfl) (show 2 ≤ 1000 by decide)) (QW.ea_cons o3 QW.Exv.mo (QW.ev_mk (C := He.ga K "InvalidOperation") (names := ["position"]) (ws := [v0]) o3 (QW.ea_cons o3 (QW.Is.mo _) (QW.ev_var o3 (QW.Is.mo _) rfl rfl) (QW.ea_nil o3)) (by rfl) (show 1 ≤ 1000 by decide)) (QW.ea_cons o3 QW.Exv.mo (QW.ev_mk (C := He.ga K "InvalidText") (names := ["line"]) (ws := [v0]) o3 (QW.ea_cons o3 (QW.Is.mo _) (QW.ev_var o3 (QW.Is.mo _) rfl rfl) (QW.ea_nil o3)) (by rfl) (show 1 ≤ 1000 by decide)) (QW.ea_nil o3)))) fun v4_0 v4_1 v4_2 F4 H4 g4 r4_0 r4_1 r4_2 => ?_
  have o4 := g4.ok o3
  have G4 := G3.trans o g4
  have e4_4 := (QW.Li.mo (mrl _)) _ _ _ g4.g.ff r3_0
  have e4_6 := QW.Exv.mo _ _ _ g4.g.ff e3_6
  have e4_7 := QW.Exv.mo _ _ _ g4.g.ff e3_7
  have e4_8 := QW.Exv.mo _ _ _ g4.g.ff e3_8
  refine QW.q_asgS (R := (QW.Li (([[v0], [v0], [v0], [v0], [v0], [v0], [v0], [v0], [v0], [v0], [v0], [v0], [v0], [v0], [v0], [v0], [v0], [v0, v1], [v0], [v0], [v0, v1], [v0], [v0]] : List (List V)).map RL))) (fun x => [some v0, some v1, some v2, some v3, some x, none, some v2_0, some v2_1, some v2_2, some v4_0, some v4_1, some v4_2, none, none, none, none, none, none, none, none, none, none, none]) o4 (QW.ev_op o4 (QW.Li.mo (mrl _)) (QW.ev_var o4 (QW.Li.mo (mrl _)) rfl e4_4) (QW.ev_lst o4 (mrl ([[v0, v1], [v0], [v0]] : List (List V))) (QW.ea_cons o4 (QW.Li.mo (mi [v0, v1])) (QW.ev_lst o4 (mi [v0, v1]) (QW.ea_cons o4 (QW.Is.mo _) (QW.ev_ef o4 (x_InvalidTables t).x ((i_InvalidTables t).2.2 "kind" (by simp)) (QW.ev_var o4 QW.Exv.mo rfl r4_0) rfl) (QW.ea_cons o4 (QW.Is.mo _) (QW.ev_ef o4 (x_InvalidTables t).x ((i_InvalidTables t).2.2 "name" (by simp)) (QW.ev_var o4 QW.Exv.mo rfl r4_0) rfl) (QW.ea_nil o4))) (show 2 ≤ 100000 by decide)) (QW.ea_cons o4 (QW.Li.mo (mi [v0])) (QW.ev_lst o4 (mi [v0]) (QW.ea_cons o4 (QW.Is.mo _) (QW.ev_ef o4 (x_InvalidOperation t).x ((i_InvalidOperation t).2.2 "position" (by simp)) (QW.ev_var o4 QW.Exv.mo rfl r4_1) rfl) (QW.ea_nil o4)) (show 1 ≤ 100000 by decide)) (QW.ea_cons o4 (QW.Li.mo (mi [v0])) (QW.ev_lst o4 (mi [v0]) (QW.ea_cons o4 (QW.Is.mo _) (QW.ev_ef o4 (x_InvalidText t).x ((i_InvalidText t).2.2 "line" (by simp)) (QW.ev_var o4 QW.Exv.mo rfl r4_2) rfl) (QW.ea_nil o4)) (show 1 ≤ 100000 by decide)) (QW.ea_nil o4)))) (show 3 ≤ 100000 by decide)) (QW.ow_cat (mrl ([[v0], [v0], [v0], [v0], [v0], [v0], [v0], [v0], [v0], [v0], [v0], [v0], [v0], [v0], [v0], [v0], [v0], [v0, v1], [v0], [v0]] : List (List V))) (mrl ([[v0, v1], [v0], [v0]] : List (List V))) (show 23 ≤ 100000 by decide))) fun v5_0 F5 H5 g5 r5_0 => ?_
  have o5 := g5.ok o4
  have G5 := G4.trans o g5
  have e5_6 := QW.Exv.mo _ _ _ g5.g.ff e4_6
  have e5_7 := QW.Exv.mo _ _ _ g5.g.ff e4_7
  have e5_8 := QW.Exv.mo _ _ _ g5.g.ff e4_8
  have e5_9 := QW.Exv.mo _ _ _ g5.g.ff r4_0
  have e5_10 := QW.Exv.mo _ _ _ g5.g.ff r4_1
  have e5_11 := QW.Exv.mo _ _ _ g5.g.ff r4_2
  refine QW.q_par4S (fun x0 x1 x2 x3 => [some v0, some v1, some v2, some v3, some v5_0, none, some v2_0, some v2_1, some v2_2, some v4_0, some v4_1, some v4_2, some x0, some x1, some x2, some x3, none, none, none, none, none, none, none]) o5 (QW.ea_cons o5 QW.Exv.mo (QW.ev_mk (C := He.ga K "NoVersion") (names := ["operator", "arguments"]) (ws := [v0, v1]) o5 (QW.ea_cons o5 (QW.Is.mo _) (QW.ev_var o5 (QW.Is.mo _) rfl rfl) (QW.ea_cons o5 (QW.Is.mo _) (QW.ev_var o5 (QW.Is.mo _) rfl rfl) (QW.ea_nil o5))) (by rfl) (show 2 ≤ 1000 by decide)) (QW.ea_cons o5 QW.Exv.mo (QW.ev_mk (C := He.ga K "NoPath") (names := ["source", "target"]) (ws := [v0, v1]) o5 (QW.ea_cons o5 (QW.Is.mo _) (QW.ev_var o5 (QW.Is.mo _) rfl rfl) (QW.ea_cons o5 (QW.Is.mo _) (QW.ev_var o5 (QW.Is.mo _) rfl rfl) (QW.ea_nil o5))) (by rfl) (show 2 ≤ 1000 by decide)) (QW.ea_cons o5 QW.Exv.mo (QW.ev_mk (C := He.ga K "NameTaken") (names := ["name"]) (ws := [v0]) o5 (QW.ea_cons o5 (QW.Is.mo _) (QW.ev_var o5 (QW.Is.mo _) rfl rfl) (QW.ea_nil o5)) (by rfl) (show 1 ≤ 1000 by decide)) (QW.ea_cons o5 QW.Exv.mo (QW.ev_mk (C := He.ga K "Cyclic") (names := ["name"]) (ws := [v0]) o5 (QW.ea_cons o5 (QW.Is.mo _) (QW.ev_var o5 (QW.Is.mo _) rfl rfl) (QW.ea_nil o5)) (by rfl) (show 1 ≤ 1000 by decide)) (QW.ea_nil o5))))) fun v6_0 v6_1 v6_2 v6_3 F6 H6 g6 r6_0 r6_1 r6_2 r6_3 => ?_
  have o6 := g6.ok o5
  have G6 := G5.trans o g6
  have e6_4 := (QW.Li.mo (mrl _)) _ _ _ g6.g.ff r5_0
  have e6_6 := QW.Exv.mo _ _ _ g6.g.ff e5_6
  have e6_7 := QW.Exv.mo _ _ _ g6.g.ff e5_7
  have e6_8 := QW.Exv.mo _ _ _ g6.g.ff e5_8
  have e6_9 := QW.Exv.mo _ _ _ g6.g.ff e5_9
  have e6_10 := QW.Exv.mo _ _ _ g6.g.ff e5_10
  have e6_11 := QW.Exv.mo _ _ _ g6.g.ff e5_11
  refine QW.q_asgS (R := (QW.Li (([[v0], [v0], [v0], [v0], [v0], [v0], [v0], [v0], [v0], [v0], [v0], [v0], [v0], [v0], [v0], [v0], [v0], [v0, v1], [v0], [v0], [v0, v1], [v0], [v0], [v0, v1], [v0, v1], [v0], [v0]] : List (List V)).map RL))) (fun x => [some v0, some v1, some v2, some v3, some x, none, some v2_0, some v2_1, some v2_2, some v4_0, some v4_1, some v4_2, some v6_0, some v6_1, some v6_2, some v6_3, none, none, none, none, none, none, none]) o6 (QW.ev_op o6 (QW.Li.mo (mrl _)) (QW.ev_var o6 (QW.Li.mo (mrl _)) rfl e6_4) (QW.ev_lst o6 (mrl ([[v0, v1], [v0, v1], [v0], [v0]] : List (List V))) (QW.ea_cons o6 (QW.Li.mo (mi [v0, v1])) (QW.ev_lst o6 (mi [v0, v1]) (QW.ea_cons o6 (QW.Is.mo _) (QW.ev_ef o6 (x_NoVersion t).x ((i_NoVersion t).2.2 "operator" (by simp)) (QW.ev_var o6 QW.Exv.mo rfl r6_0) rfl) (QW.ea_cons o6 (QW.Is.mo _) (QW.ev_ef o6 (x_NoVersion t).x ((i_NoVersion t).2.2 "arguments" (by simp)) (QW.ev_var o6 QW.Exv.mo rfl r6_0) rfl) (QW.ea_nil o6))) (show 2 ≤ 100000 by decide)) (QW.ea_cons o6 (QW.Li.mo (mi [v0, v1])) (QW.ev_lst o6 (mi [v0, v1]) (QW.ea_cons o6 (QW.Is.mo _) (QW.ev_ef o6 (x_NoPath t).x ((i_NoPath t).2.2 "source" (by simp)) (QW.ev_var o6 QW.Exv.mo rfl r6_1) rfl) (QW.ea_cons o6 (QW.Is.mo _) (QW.ev_ef o6 (x_NoPath t).x ((i_NoPath t).2.2 "target" (by simp)) (QW.ev_var o6 QW.Exv.mo rfl r6_1) rfl) (QW.ea_nil o6))) (show 2 ≤ 100000 by decide)) (QW.ea_cons o6 (QW.Li.mo (mi [v0])) (QW.ev_lst o6 (mi [v0]) (QW.ea_cons o6 (QW.Is.mo _) (QW.ev_ef o6 (x_NameTaken t).x ((i_NameTaken t).2.2 "name" (by simp)) (QW.ev_var o6 QW.Exv.mo rfl r6_2) rfl) (QW.ea_nil o6)) (show 1 ≤ 100000 by decide)) (QW.ea_cons o6 (QW.Li.mo (mi [v0])) (QW.ev_lst o6 (mi [v0]) (QW.ea_cons o6 (QW.Is.mo _) (QW.ev_ef o6 (x_Cyclic t).x ((i_Cyclic t).2.2 "name" (by simp)) (QW.ev_var o6 QW.Exv.mo rfl r6_3) rfl) (QW.ea_nil o6)) (show 1 ≤ 100000 by decide)) (QW.ea_nil o6))))) (show 4 ≤ 100000 by decide)) (QW.ow_cat (mrl ([[v0], [v0], [v0], [v0], [v0], [v0], [v0], [v0], [v0], [v0], [v0], [v0], [v0], [v0], [v0], [v0], [v0], [v0, v1], [v0], [v0], [v0, v1], [v0], [v0]] : List (List V))) (mrl ([[v0, v1], [v0, v1], [v0], [v0]] : List (List V))) (show 27 ≤ 100000 by decide))) fun v7_0 F7 H7 g7 r7_0 => ?_
  have o7 := g7.ok o6
  have G7 := G6.trans o g7
  have e7_6 := QW.Exv.mo _ _ _ g7.g.ff e6_6
  have e7_7 := QW.Exv.mo _ _ _ g7.g.ff e6_7
  have e7_8 := QW.Exv.mo _ _ _ g7.g.ff e6_8
  have e7_9 := QW.Exv.mo _ _ _ g7.g.ff e6_9
  have e7_10 := QW.Exv.mo _ _ _ g7.g.ff e6_10
  have e7_11 := QW.Exv.mo _ _ _ g7.g.ff e6_11
  have e7_12 := QW.Exv.mo _ _ _ g7.g.ff r6_0
  have e7_13 := QW.Exv.mo _ _ _ g7.g.ff r6_1
  have e7_14 := QW.Exv.mo _ _ _ g7.g.ff r6_2
  have e7_15 := QW.Exv.mo _ _ _ g7.g.ff r6_3
  refine QW.q_par3S (fun x0 x1 x2 => [some v0, some v1, some v2, some v3, some v7_0, none, some v2_0, some v2_1, some v2_2, some v4_0, some v4_1, some v4_2, some v6_0, some v6_1, some v6_2, some v6_3, some x0, some x1, some x2, none, none, none, none]) o7 (QW.ea_cons o7 QW.Exv.mo (QW.ev_mk (C := He.ga K "WrongArity") (names := ["operator", "count"]) (ws := [v0, v1]) o7 (QW.ea_cons o7 (QW.Is.mo _) (QW.ev_var o7 (QW.Is.mo _) rfl rfl) (QW.ea_cons o7 (QW.Is.mo _) (QW.ev_var o7 (QW.Is.mo _) rfl rfl) (QW.ea_nil o7))) (by rfl) (show 2 ≤ 1000 by decide)) (QW.ea_cons o7 QW.Exv.mo (QW.ev_mk (C := He.ga K "InUse") (names := ["kind", "name"]) (ws := [v0, v1]) o7 (QW.ea_cons o7 (QW.Is.mo _) (QW.ev_var o7 (QW.Is.mo _) rfl rfl) (QW.ea_cons o7 (QW.Is.mo _) (QW.ev_var o7 (QW.Is.mo _) rfl rfl) (QW.ea_nil o7))) (by rfl) (show 2 ≤ 1000 by decide)) (QW.ea_cons o7 QW.Exv.mo (QW.ev_mk (C := He.ga K "Conflicting") (names := ["kind", "name"]) (ws := [v0, v1]) o7 (QW.ea_cons o7 (QW.Is.mo _) (QW.ev_var o7 (QW.Is.mo _) rfl rfl) (QW.ea_cons o7 (QW.Is.mo _) (QW.ev_var o7 (QW.Is.mo _) rfl rfl) (QW.ea_nil o7))) (by rfl) (show 2 ≤ 1000 by decide)) (QW.ea_nil o7)))) fun v8_0 v8_1 v8_2 F8 H8 g8 r8_0 r8_1 r8_2 => ?_
  have o8 := g8.ok o7
  have G8 := G7.trans o g8
  have e8_4 := (QW.Li.mo (mrl _)) _ _ _ g8.g.ff r7_0
  have e8_6 := QW.Exv.mo _ _ _ g8.g.ff e7_6
  have e8_7 := QW.Exv.mo _ _ _ g8.g.ff e7_7
  have e8_8 := QW.Exv.mo _ _ _ g8.g.ff e7_8
  have e8_9 := QW.Exv.mo _ _ _ g8.g.ff e7_9
  have e8_10 := QW.Exv.mo _ _ _ g8.g.ff e7_10
  have e8_11 := QW.Exv.mo _ _ _ g8.g.ff e7_11
  have e8_12 := QW.Exv.mo _ _ _ g8.g.ff e7_12
  have e8_13 := QW.Exv.mo _ _ _ g8.g.ff e7_13
  have e8_14 := QW.Exv.mo _ _ _ g8.g.ff e7_14
  have e8_15 := QW.Exv.mo _ _ _ g8.g.ff e7_15
  refine QW.q_asgS (R := (QW.Li (([[v0], [v0], [v0], [v0], [v0], [v0], [v0], [v0], [v0], [v0], [v0], [v0], [v0], [v0], [v0], [v0], [v0], [v0, v1], [v0], [v0], [v0, v1], [v0], [v0], [v0, v1], [v0, v1], [v0], [v0], [v0, v1], [v0, v1], [v0, v1]] : List (List V)).map RL))) (fun x => [some v0, some v1, some v2, some v3, some x, none, some v2_0, some v2_1, some v2_2, some v4_0, some v4_1, some v4_2, some v6_0, some v6_1, some v6_2, some v6_3, some v8_0, some v8_1, some v8_2, none, none, none, none]) o8 (QW.ev_op o8 (QW.Li.mo (mrl _)) (QW.ev_var o8 (QW.Li.mo (mrl _)) rfl e8_4) (QW.ev_lst o8 (mrl ([[v0, v1], [v0, v1], [v0, v1]] : List (List V))) (QW.ea_cons o8 (QW.Li.mo (mi [v0, v1])) (QW.ev_lst o8 (mi [v0, v1]) (QW.ea_cons o8 (QW.Is.mo _) (QW.ev_ef o8 (x_WrongArity t).x ((i_WrongArity t).2.2 "operator" (by simp)) (QW.ev_var o8 QW.Exv.mo rfl r8_0) rfl) (QW.ea_cons o8 (QW.Is.mo _) (QW.ev_ef o8 (x_WrongArity t).x ((i_WrongArity t).2.2 "count" (by simp)) (QW.ev_var o8 QW.Exv.mo rfl r8_0) rfl) (QW.ea_nil o8))) (show 2 ≤ 100000 by decide)) (QW.ea_cons o8 (QW.Li.mo (mi [v0, v1])) (QW.ev_lst o8 (mi [v0, v1]) (QW.ea_cons o8 (QW.Is.mo _) (QW.ev_ef o8 (x_InUse t).x ((i_InUse t).2.2 "kind" (by simp)) (QW.ev_var o8 QW.Exv.mo rfl r8_1) rfl) (QW.ea_cons o8 (QW.Is.mo _) (QW.ev_ef o8 (x_InUse t).x ((i_InUse t).2.2 "name" (by simp)) (QW.ev_var o8 QW.Exv.mo rfl r8_1) rfl) (QW.ea_nil o8))) (show 2 ≤ 100000 by decide)) (QW.ea_cons o8 (QW.Li.mo (mi [v0, v1])) (QW.ev_lst o8 (mi [v0, v1]) (QW.ea_cons o8 (QW.Is.mo _) (QW.ev_ef o8 (x_Conflicting t).x ((i_Conflicting t).2.2 "kind" (by simp)) (QW.ev_var o8 QW.Exv.mo rfl r8_2) rfl) (QW.ea_cons o8 (QW.Is.mo _) (QW.ev_ef o8 (x_Conflicting t).x ((i_Conflicting t).2.2 "name" (by simp)) (QW.ev_var o8 QW.Exv.mo rfl r8_2) rfl) (QW.ea_nil o8))) (show 2 ≤ 100000 by decide)) (QW.ea_nil o8)))) (show 3 ≤ 100000 by decide)) (QW.ow_cat (mrl ([[v0], [v0], [v0], [v0], [v0], [v0], [v0], [v0], [v0], [v0], [v0], [v0], [v0], [v0], [v0], [v0], [v0], [v0, v1], [v0], [v0], [v0, v1], [v0], [v0], [v0, v1], [v0, v1], [v0], [v0]] : List (List V))) (mrl ([[v0, v1], [v0, v1], [v0, v1]] : List (List V))) (show 30 ≤ 100000 by decide))) fun v9_0 F9 H9 g9 r9_0 => ?_
  have o9 := g9.ok o8
  have G9 := G8.trans o g9
  have e9_6 := QW.Exv.mo _ _ _ g9.g.ff e8_6
  have e9_7 := QW.Exv.mo _ _ _ g9.g.ff e8_7
  have e9_8 := QW.Exv.mo _ _ _ g9.g.ff e8_8
  have e9_9 := QW.Exv.mo _ _ _ g9.g.ff e8_9
  have e9_10 := QW.Exv.mo _ _ _ g9.g.ff e8_10
  have e9_11 := QW.Exv.mo _ _ _ g9.g.ff e8_11
  have e9_12 := QW.Exv.mo _ _ _ g9.g.ff e8_12
  have e9_13 := QW.Exv.mo _ _ _ g9.g.ff e8_13
  have e9_14 := QW.Exv.mo _ _ _ g9.g.ff e8_14
  have e9_15 := QW.Exv.mo _ _ _ g9.g.ff e8_15
  have e9_16 := QW.Exv.mo _ _ _ g9.g.ff r8_0
  have e9_17 := QW.Exv.mo _ _ _ g9.g.ff r8_1
  have e9_18 := QW.Exv.mo _ _ _ g9.g.ff r8_2
  refine QW.q_par2S (fun x0 x1 => [some v0, some v1, some v2, some v3, some v9_0, none, some v2_0, some v2_1, some v2_2, some v4_0, some v4_1, some v4_2, some v6_0, some v6_1, some v6_2, some v6_3, some v8_0, some v8_1, some v8_2, some x0, some x1, none, none]) o9 (QW.ea_cons o9 QW.Exv.mo (QW.ev_mk (C := He.ga K "Incoherent") (names := ["shape", "one", "other", "arguments"]) (ws := [v0, v1, v2, v3]) o9 (QW.ea_cons o9 (QW.Is.mo _) (QW.ev_var o9 (QW.Is.mo _) rfl rfl) (QW.ea_cons o9 (QW.Is.mo _) (QW.ev_var o9 (QW.Is.mo _) rfl rfl) (QW.ea_cons o9 (QW.Is.mo _) (QW.ev_var o9 (QW.Is.mo _) rfl rfl) (QW.ea_cons o9 (QW.Is.mo _) (QW.ev_var o9 (QW.Is.mo _) rfl rfl) (QW.ea_nil o9))))) (by rfl) (show 4 ≤ 1000 by decide)) (QW.ea_cons o9 QW.Exv.mo (QW.ev_mk (C := He.ga K "NotRegular") (names := ["operator", "arguments"]) (ws := [v0, v1]) o9 (QW.ea_cons o9 (QW.Is.mo _) (QW.ev_var o9 (QW.Is.mo _) rfl rfl) (QW.ea_cons o9 (QW.Is.mo _) (QW.ev_var o9 (QW.Is.mo _) rfl rfl) (QW.ea_nil o9))) (by rfl) (show 2 ≤ 1000 by decide)) (QW.ea_nil o9))) fun v10_0 v10_1 F10 H10 g10 r10_0 r10_1 => ?_
  have o10 := g10.ok o9
  have G10 := G9.trans o g10
  have e10_4 := (QW.Li.mo (mrl _)) _ _ _ g10.g.ff r9_0
  have e10_6 := QW.Exv.mo _ _ _ g10.g.ff e9_6
  have e10_7 := QW.Exv.mo _ _ _ g10.g.ff e9_7
  have e10_8 := QW.Exv.mo _ _ _ g10.g.ff e9_8
  have e10_9 := QW.Exv.mo _ _ _ g10.g.ff e9_9
  have e10_10 := QW.Exv.mo _ _ _ g10.g.ff e9_10
  have e10_11 := QW.Exv.mo _ _ _ g10.g.ff e9_11
  have e10_12 := QW.Exv.mo _ _ _ g10.g.ff e9_12
  have e10_13 := QW.Exv.mo _ _ _ g10.g.ff e9_13
  have e10_14 := QW.Exv.mo _ _ _ g10.g.ff e9_14
  have e10_15 := QW.Exv.mo _ _ _ g10.g.ff e9_15
  have e10_16 := QW.Exv.mo _ _ _ g10.g.ff e9_16
  have e10_17 := QW.Exv.mo _ _ _ g10.g.ff e9_17
  have e10_18 := QW.Exv.mo _ _ _ g10.g.ff e9_18
  refine QW.q_asgS (R := (QW.Li (([[v0], [v0], [v0], [v0], [v0], [v0], [v0], [v0], [v0], [v0], [v0], [v0], [v0], [v0], [v0], [v0], [v0], [v0, v1], [v0], [v0], [v0, v1], [v0], [v0], [v0, v1], [v0, v1], [v0], [v0], [v0, v1], [v0, v1], [v0, v1], [v0, v1, v2, v3], [v0, v1]] : List (List V)).map RL))) (fun x => [some v0, some v1, some v2, some v3, some x, none, some v2_0, some v2_1, some v2_2, some v4_0, some v4_1, some v4_2, some v6_0, some v6_1, some v6_2, some v6_3, some v8_0, some v8_1, some v8_2, some v10_0, some v10_1, none, none]) o10 (QW.ev_op o10 (QW.Li.mo (mrl _)) (QW.ev_var o10 (QW.Li.mo (mrl _)) rfl e10_4) (QW.ev_lst o10 (mrl ([[v0, v1, v2, v3], [v0, v1]] : List (List V))) (QW.ea_cons o10 (QW.Li.mo (mi [v0, v1, v2, v3])) (QW.ev_lst o10 (mi [v0, v1, v2, v3]) (QW.ea_cons o10 (QW.Is.mo _) (QW.ev_ef o10 (x_Incoherent t).x ((i_Incoherent t).2.2 "shape" (by simp)) (QW.ev_var o10 QW.Exv.mo rfl r10_0) rfl) (QW.ea_cons o10 (QW.Is.mo _) (QW.ev_ef o10 (x_Incoherent t).x ((i_Incoherent t).2.2 "one" (by simp)) (QW.ev_var o10 QW.Exv.mo rfl r10_0) rfl) (QW.ea_cons o10 (QW.Is.mo _) (QW.ev_ef o10 (x_Incoherent t).x ((i_Incoherent t).2.2 "other" (by simp)) (QW.ev_var o10 QW.Exv.mo rfl r10_0) rfl) (QW.ea_cons o10 (QW.Is.mo _) (QW.ev_ef o10 (x_Incoherent t).x ((i_Incoherent t).2.2 "arguments" (by simp)) (QW.ev_var o10 QW.Exv.mo rfl r10_0) rfl) (QW.ea_nil o10))))) (show 4 ≤ 100000 by decide)) (QW.ea_cons o10 (QW.Li.mo (mi [v0, v1])) (QW.ev_lst o10 (mi [v0, v1]) (QW.ea_cons o10 (QW.Is.mo _) (QW.ev_ef o10 (x_NotRegular t).x ((i_NotRegular t).2.2 "operator" (by simp)) (QW.ev_var o10 QW.Exv.mo rfl r10_1) rfl) (QW.ea_cons o10 (QW.Is.mo _) (QW.ev_ef o10 (x_NotRegular t).x ((i_NotRegular t).2.2 "arguments" (by simp)) (QW.ev_var o10 QW.Exv.mo rfl r10_1) rfl) (QW.ea_nil o10))) (show 2 ≤ 100000 by decide)) (QW.ea_nil o10))) (show 2 ≤ 100000 by decide)) (QW.ow_cat (mrl ([[v0], [v0], [v0], [v0], [v0], [v0], [v0], [v0], [v0], [v0], [v0], [v0], [v0], [v0], [v0], [v0], [v0], [v0, v1], [v0], [v0], [v0, v1], [v0], [v0], [v0, v1], [v0, v1], [v0], [v0], [v0, v1], [v0, v1], [v0, v1]] : List (List V))) (mrl ([[v0, v1, v2, v3], [v0, v1]] : List (List V))) (show 32 ≤ 100000 by decide))) fun v11_0 F11 H11 g11 r11_0 => ?_
  have o11 := g11.ok o10
  have G11 := G10.trans o g11
  have e11_6 := QW.Exv.mo _ _ _ g11.g.ff e10_6
  have e11_7 := QW.Exv.mo _ _ _ g11.g.ff e10_7
  have e11_8 := QW.Exv.mo _ _ _ g11.g.ff e10_8
  have e11_9 := QW.Exv.mo _ _ _ g11.g.ff e10_9
  have e11_10 := QW.Exv.mo _ _ _ g11.g.ff e10_10
  have e11_11 := QW.Exv.mo _ _ _ g11.g.ff e10_11
  have e11_12 := QW.Exv.mo _ _ _ g11.g.ff e10_12
  have e11_13 := QW.Exv.mo _ _ _ g11.g.ff e10_13
  have e11_14 := QW.Exv.mo _ _ _ g11.g.ff e10_14
  have e11_15 := QW.Exv.mo _ _ _ g11.g.ff e10_15
  have e11_16 := QW.Exv.mo _ _ _ g11.g.ff e10_16
  have e11_17 := QW.Exv.mo _ _ _ g11.g.ff e10_17
  have e11_18 := QW.Exv.mo _ _ _ g11.g.ff e10_18
  have e11_19 := QW.Exv.mo _ _ _ g11.g.ff r10_0
  have e11_20 := QW.Exv.mo _ _ _ g11.g.ff r10_1
  refine QW.q_par2S (fun x0 x1 => [some v0, some v1, some v2, some v3, some v11_0, none, some v2_0, some v2_1, some v2_2, some v4_0, some v4_1, some v4_2, some v6_0, some v6_1, some v6_2, some v6_3, some v8_0, some v8_1, some v8_2, some v10_0, some v10_1, some x0, some x1]) o11 (QW.ea_cons o11 QW.Exv.mo (QW.ev_mk (C := He.ga K "CommandFailed") (names := ["position", "answers"]) (ws := [v0, v1]) o11 (QW.ea_cons o11 (QW.Is.mo _) (QW.ev_var o11 (QW.Is.mo _) rfl rfl) (QW.ea_cons o11 (QW.Is.mo _) (QW.ev_var o11 (QW.Is.mo _) rfl rfl) (QW.ea_nil o11))) (by rfl) (show 2 ≤ 1000 by decide)) (QW.ea_cons o11 QW.Exv.mo (QW.ev_mk (C := He.ga K "TooMany") (names := ["kind", "limit"]) (ws := [v0, v1]) o11 (QW.ea_cons o11 (QW.Is.mo _) (QW.ev_var o11 (QW.Is.mo _) rfl rfl) (QW.ea_cons o11 (QW.Is.mo _) (QW.ev_var o11 (QW.Is.mo _) rfl rfl) (QW.ea_nil o11))) (by rfl) (show 2 ≤ 1000 by decide)) (QW.ea_nil o11))) fun v12_0 v12_1 F12 H12 g12 r12_0 r12_1 => ?_
  have o12 := g12.ok o11
  have G12 := G11.trans o g12
  have e12_4 := (QW.Li.mo (mrl _)) _ _ _ g12.g.ff r11_0
  have e12_6 := QW.Exv.mo _ _ _ g12.g.ff e11_6
  have e12_7 := QW.Exv.mo _ _ _ g12.g.ff e11_7
  have e12_8 := QW.Exv.mo _ _ _ g12.g.ff e11_8
  have e12_9 := QW.Exv.mo _ _ _ g12.g.ff e11_9
  have e12_10 := QW.Exv.mo _ _ _ g12.g.ff e11_10
  have e12_11 := QW.Exv.mo _ _ _ g12.g.ff e11_11
  have e12_12 := QW.Exv.mo _ _ _ g12.g.ff e11_12
  have e12_13 := QW.Exv.mo _ _ _ g12.g.ff e11_13
  have e12_14 := QW.Exv.mo _ _ _ g12.g.ff e11_14
  have e12_15 := QW.Exv.mo _ _ _ g12.g.ff e11_15
  have e12_16 := QW.Exv.mo _ _ _ g12.g.ff e11_16
  have e12_17 := QW.Exv.mo _ _ _ g12.g.ff e11_17
  have e12_18 := QW.Exv.mo _ _ _ g12.g.ff e11_18
  have e12_19 := QW.Exv.mo _ _ _ g12.g.ff e11_19
  have e12_20 := QW.Exv.mo _ _ _ g12.g.ff e11_20
  exact QW.q_ret (R := (QW.Li (([[v0], [v0], [v0], [v0], [v0], [v0], [v0], [v0], [v0], [v0], [v0], [v0], [v0], [v0], [v0], [v0], [v0], [v0, v1], [v0], [v0], [v0, v1], [v0], [v0], [v0, v1], [v0, v1], [v0], [v0], [v0, v1], [v0, v1], [v0, v1], [v0, v1, v2, v3], [v0, v1], [v0, v1], [v0, v1]] : List (List V)).map RL))) o12 (QW.ev_op o12 (QW.Li.mo (mrl _)) (QW.ev_var o12 (QW.Li.mo (mrl _)) rfl e12_4) (QW.ev_lst o12 (mrl ([[v0, v1], [v0, v1]] : List (List V))) (QW.ea_cons o12 (QW.Li.mo (mi [v0, v1])) (QW.ev_lst o12 (mi [v0, v1]) (QW.ea_cons o12 (QW.Is.mo _) (QW.ev_ef o12 (x_CommandFailed t).x ((i_CommandFailed t).2.2 "position" (by simp)) (QW.ev_var o12 QW.Exv.mo rfl r12_0) rfl) (QW.ea_cons o12 (QW.Is.mo _) (QW.ev_ef o12 (x_CommandFailed t).x ((i_CommandFailed t).2.2 "answers" (by simp)) (QW.ev_var o12 QW.Exv.mo rfl r12_0) rfl) (QW.ea_nil o12))) (show 2 ≤ 100000 by decide)) (QW.ea_cons o12 (QW.Li.mo (mi [v0, v1])) (QW.ev_lst o12 (mi [v0, v1]) (QW.ea_cons o12 (QW.Is.mo _) (QW.ev_ef o12 (x_TooMany t).x ((i_TooMany t).2.2 "kind" (by simp)) (QW.ev_var o12 QW.Exv.mo rfl r12_1) rfl) (QW.ea_cons o12 (QW.Is.mo _) (QW.ev_ef o12 (x_TooMany t).x ((i_TooMany t).2.2 "limit" (by simp)) (QW.ev_var o12 QW.Exv.mo rfl r12_1) rfl) (QW.ea_nil o12))) (show 2 ≤ 100000 by decide)) (QW.ea_nil o12))) (show 2 ≤ 100000 by decide)) (QW.ow_cat (mrl ([[v0], [v0], [v0], [v0], [v0], [v0], [v0], [v0], [v0], [v0], [v0], [v0], [v0], [v0], [v0], [v0], [v0], [v0, v1], [v0], [v0], [v0, v1], [v0], [v0], [v0, v1], [v0, v1], [v0], [v0], [v0, v1], [v0, v1], [v0, v1], [v0, v1, v2, v3], [v0, v1]] : List (List V))) (mrl ([[v0, v1], [v0, v1]] : List (List V))) (show 34 ≤ 100000 by decide))) fun v F' H' g r => q v F' H' (G12.trans o g) r

theorem s__law_due : FnScope ["one", "other", "third", "fourth", "pair", "found"] ["one", "other", "third", "fourth"] (defScope (top 47)) := ⟨rfl, rfl, rfl, by decide +kernel, rfl, by decide +kernel, by decide +kernel⟩
theorem c__law_due (t : T K mg base) : QC.Cal P w K mg base L2.CX0 1 "_law_due" (spRows K) [] := by
  obtain ⟨fd, F⟩ := t.c.def_ 9
  have sc := s__law_due
  refine QC.cal (k := 0) F (g__law_due t) (fun _ _ _ _ _ _ us hl => match us, hl with | [_, _, _, _], _ => rfl) sc spRows.len (fun cdv A outer s H vs Q E gd hr h => ?_)
  have hu := QC.hu64 hr
  refine ⟨_, PSs.nox (pss_cons (ps_set (i := 4) sc.nd rfl (by first | exact .inl rfl | exact .inr rfl) (pe_lst (pa_cons (pv 0) (pa_cons (pv 1) pa_nil))))
      (pss_cons (ps_set (i := 5) sc.nd rfl (by first | exact .inl rfl | exact .inr rfl) (pe_op op_cat (pe_op op_rep (pe_lst (pa_cons (pe_lst (pa_cons (pv 0) pa_nil)) pa_nil)) pe_int) (pe_lst (pa_cons (pv 4) (pa_cons (pe_lst (pa_cons (pv 0) pa_nil)) (pa_cons (pe_lst (pa_cons (pv 0) pa_nil)) (pa_cons (pv 4) (pa_cons (pe_lst (pa_cons (pv 0) pa_nil)) (pa_cons (pe_lst (pa_cons (pv 0) pa_nil)) (pa_cons (pv 4) (pa_cons (pv 4) (pa_cons (pe_lst (pa_cons (pv 0) pa_nil)) (pa_cons (pe_lst (pa_cons (pv 0) pa_nil)) (pa_cons (pv 4) (pa_cons (pv 4) (pa_cons (pv 4) pa_nil))))))))))))))))
      (pss_one (ps_ret (pe_op op_cat (pv 5) (pe_lst (pa_cons (pe_lst (pa_cons (pv 0) (pa_cons (pv 1) (pa_cons (pv 2) (pa_cons (pv 3) pa_nil))))) (pa_cons (pv 4) (pa_cons (pv 4) (pa_cons (pv 4) pa_nil)))))))))), ?_⟩
  obtain ⟨⟨v0, v1, v2, v3⟩, F, o, al, q⟩ := h
  obtain rfl := QW.Al.is (f := fun v : V => v) (xs := [v0, v1, v2, v3]) al
  refine QW.q_asgS (R := (RL [v0, v1])) (fun x => [some v0, some v1, some v2, some v3, some x, none]) o (QW.ev_lst o (mi [v0, v1]) (QW.ea_cons o (QW.Is.mo _) (QW.ev_var o (QW.Is.mo _) rfl rfl) (QW.ea_cons o (QW.Is.mo _) (QW.ev_var o (QW.Is.mo _) rfl rfl) (QW.ea_nil o))) (show 2 ≤ 100000 by decide)) fun v1_0 F1 H1 g1 r1_0 => ?_
  have o1 := g1.ok o
  have G1 := g1
  refine QW.q_asgS (R := (QW.Li (([[v0], [v0], [v0], [v0], [v0], [v0], [v0], [v0], [v0], [v0], [v0], [v0], [v0], [v0], [v0], [v0], [v0], [v0, v1], [v0], [v0], [v0, v1], [v0], [v0], [v0, v1], [v0, v1], [v0], [v0], [v0, v1], [v0, v1], [v0, v1]] : List (List V)).map RL))) (fun x => [some v0, some v1, some v2, some v3, some v1_0, some x]) o1 (QW.ev_op o1 (QW.Li.mo (mrl ([[v0], [v0], [v0], [v0], [v0], [v0], [v0], [v0], [v0], [v0], [v0], [v0], [v0], [v0], [v0], [v0], [v0]] : List (List V)))) (QW.ev_op o1 (QW.Li.mo (mrl [[v0]])) (QW.ev_lst o1 (mrl [[v0]]) (QW.ea_cons o1 (QW.Li.mo (mi [v0])) (QW.ev_lst o1 (mi [v0]) (QW.ea_cons o1 (QW.Is.mo _) (QW.ev_var o1 (QW.Is.mo _) rfl rfl) (QW.ea_nil o1)) (show 1 ≤ 100000 by decide)) (QW.ea_nil o1)) (show 1 ≤ 100000 by decide)) (QW.ev_c o1 fun _ => rfl) (QW.ow_rep (QW.Li.mo (mi [v0])) 17 (show 17 ≤ 100000 by decide))) (QW.ev_lst o1 (mrl ([[v0, v1], [v0], [v0], [v0, v1], [v0], [v0], [v0, v1], [v0, v1], [v0], [v0], [v0, v1], [v0, v1], [v0, v1]] : List (List V))) (QW.ea_cons o1 (QW.Li.mo (mi [v0, v1])) (QW.ev_var o1 (QW.Li.mo (mi _)) rfl r1_0) (QW.ea_cons o1 (QW.Li.mo (mi [v0])) (QW.ev_lst o1 (mi [v0]) (QW.ea_cons o1 (QW.Is.mo _) (QW.ev_var o1 (QW.Is.mo _) rfl rfl) (QW.ea_nil o1)) (show 1 ≤ 100000 by decide)) (QW.ea_cons o1 (QW.Li.mo (mi [v0])) (QW.ev_lst o1 (mi [v0]) (QW.ea_cons o1 (QW.Is.mo _) (QW.ev_var o1 (QW.Is.mo _) rfl rfl) (QW.ea_nil o1)) (show 1 ≤ 100000 by decide)) (QW.ea_cons o1 (QW.Li.mo (mi [v0, v1])) (QW.ev_var o1 (QW.Li.mo (mi _)) rfl r1_0) (QW.ea_cons o1 (QW.Li.mo (mi [v0])) (QW.ev_lst o1 (mi [v0]) (QW.ea_cons o1 (QW.Is.mo _) (QW.ev_var o1 (QW.Is.mo _) rfl rfl) (QW.ea_nil o1)) (show 1 ≤ 100000 by decide)) (QW.ea_cons o1 (QW.Li.mo (mi [v0])) (QW.ev_lst o1 (mi [v0]) (QW.ea_cons o1 (QW.Is.mo _) (QW.ev_var o1 (QW.Is.mo _) rfl rfl) (QW.ea_nil o1)) (show 1 ≤ 100000 by decide)) (QW.ea_cons o1 (QW.Li.mo (mi [v0, v1])) (QW.ev_var o1 (QW.Li.mo (mi _)) rfl r1_0) (QW.ea_cons o1 (QW.Li.mo (mi [v0, v1])) (QW.ev_var o1 (QW.Li.mo (mi _)) rfl r1_0) (QW.ea_cons o1 (QW.Li.mo (mi [v0])) (QW.ev_lst o1 (mi [v0]) (QW.ea_cons o1 (QW.Is.mo _) (QW.ev_var o1 (QW.Is.mo _) rfl rfl) (QW.ea_nil o1)) (show 1 ≤ 100000 by decide)) (QW.ea_cons o1 (QW.Li.mo (mi [v0])) (QW.ev_lst o1 (mi [v0]) (QW.ea_cons o1 (QW.Is.mo _) (QW.ev_var o1 (QW.Is.mo _) rfl rfl) (QW.ea_nil o1)) (show 1 ≤ 100000 by decide)) (QW.ea_cons o1 (QW.Li.mo (mi [v0, v1])) (QW.ev_var o1 (QW.Li.mo (mi _)) rfl r1_0) (QW.ea_cons o1 (QW.Li.mo (mi [v0, v1])) (QW.ev_var o1 (QW.Li.mo (mi _)) rfl r1_0) (QW.ea_cons o1 (QW.Li.mo (mi [v0, v1])) (QW.ev_var o1 (QW.Li.mo (mi _)) rfl r1_0) (QW.ea_nil o1)))))))))))))) (show 13 ≤ 100000 by decide)) (QW.ow_cat (mrl ([[v0], [v0], [v0], [v0], [v0], [v0], [v0], [v0], [v0], [v0], [v0], [v0], [v0], [v0], [v0], [v0], [v0]] : List (List V))) (mrl ([[v0, v1], [v0], [v0], [v0, v1], [v0], [v0], [v0, v1], [v0, v1], [v0], [v0], [v0, v1], [v0, v1], [v0, v1]] : List (List V))) (show 30 ≤ 100000 by decide))) fun v2_0 F2 H2 g2 r2_0 => ?_
  have o2 := g2.ok o1
  have G2 := G1.trans o g2
  have e2_4 := (QW.Li.mo (mi _)) _ _ _ g2.g.ff r1_0
  exact QW.q_ret (R := (QW.Li (([[v0], [v0], [v0], [v0], [v0], [v0], [v0], [v0], [v0], [v0], [v0], [v0], [v0], [v0], [v0], [v0], [v0], [v0, v1], [v0], [v0], [v0, v1], [v0], [v0], [v0, v1], [v0, v1], [v0], [v0], [v0, v1], [v0, v1], [v0, v1], [v0, v1, v2, v3], [v0, v1], [v0, v1], [v0, v1]] : List (List V)).map RL))) o2 (QW.ev_op o2 (QW.Li.mo (mrl _)) (QW.ev_var o2 (QW.Li.mo (mrl _)) rfl r2_0) (QW.ev_lst o2 (mrl ([[v0, v1, v2, v3], [v0, v1], [v0, v1], [v0, v1]] : List (List V))) (QW.ea_cons o2 (QW.Li.mo (mi [v0, v1, v2, v3])) (QW.ev_lst o2 (mi [v0, v1, v2, v3]) (QW.ea_cons o2 (QW.Is.mo _) (QW.ev_var o2 (QW.Is.mo _) rfl rfl) (QW.ea_cons o2 (QW.Is.mo _) (QW.ev_var o2 (QW.Is.mo _) rfl rfl) (QW.ea_cons o2 (QW.Is.mo _) (QW.ev_var o2 (QW.Is.mo _) rfl rfl) (QW.ea_cons o2 (QW.Is.mo _) (QW.ev_var o2 (QW.Is.mo _) rfl rfl) (QW.ea_nil o2))))) (show 4 ≤ 100000 by decide)) (QW.ea_cons o2 (QW.Li.mo (mi [v0, v1])) (QW.ev_var o2 (QW.Li.mo (mi _)) rfl e2_4) (QW.ea_cons o2 (QW.Li.mo (mi [v0, v1])) (QW.ev_var o2 (QW.Li.mo (mi _)) rfl e2_4) (QW.ea_cons o2 (QW.Li.mo (mi [v0, v1])) (QW.ev_var o2 (QW.Li.mo (mi _)) rfl e2_4) (QW.ea_nil o2))))) (show 4 ≤ 100000 by decide)) (QW.ow_cat (mrl ([[v0], [v0], [v0], [v0], [v0], [v0], [v0], [v0], [v0], [v0], [v0], [v0], [v0], [v0], [v0], [v0], [v0], [v0, v1], [v0], [v0], [v0, v1], [v0], [v0], [v0, v1], [v0, v1], [v0], [v0], [v0, v1], [v0, v1], [v0, v1]] : List (List V))) (mrl ([[v0, v1, v2, v3], [v0, v1], [v0, v1], [v0, v1]] : List (List V))) (show 34 ≤ 100000 by decide))) fun v F' H' g r => q v F' H' (G2.trans o g) r

end
end K18

set_option Elab.async false
set_option linter.all false
set_option maxRecDepth 100000
set_option maxHeartbeats 4000000
namespace K18
open PySem PySem.Spec PyProof.Rows L2

section
variable {P : Program} {w : World} {K : PySem.W.Frag} {mg : Str → Option Value} {base : Heap}

abbrev CA (K : PySem.W.Frag) : List Addr := [He.ga K "InvalidName", He.ga K "InvalidTypes", He.ga K "InvalidKind", He.ga K "InvalidPath", He.ga K "InvalidShape", He.ga K "InvalidWay", He.ga K "InvalidGroup", He.ga K "InvalidSize", He.ga K "InvalidTable", He.ga K "InvalidValue", He.ga K "InvalidExpression", He.ga K "InvalidCount", He.ga K "InvalidCommand", He.ga K "InvalidScheme", He.ga K "InvalidComparisons", He.ga K "InvalidSchemes", He.ga K "InvalidTables", He.ga K "InvalidOperation", He.ga K "InvalidText"]
theorem CA_k (t : T K mg base) : ∀ C ∈ CA K, QW.KinOk K C (He.ga K "CastError") true true false false false := QW.fa_cons (k_InvalidName t) (QW.fa_cons (k_InvalidTypes t) (QW.fa_cons (k_InvalidKind t) (QW.fa_cons (k_InvalidPath t) (QW.fa_cons (k_InvalidShape t) (QW.fa_cons (k_InvalidWay t) (QW.fa_cons (k_InvalidGroup t) (QW.fa_cons (k_InvalidSize t) (QW.fa_cons (k_InvalidTable t) (QW.fa_cons (k_InvalidValue t) (QW.fa_cons (k_InvalidExpression t) (QW.fa_cons (k_InvalidCount t) (QW.fa_cons (k_InvalidCommand t) (QW.fa_cons (k_InvalidScheme t) (QW.fa_cons (k_InvalidComparisons t) (QW.fa_cons (k_InvalidSchemes t) (QW.fa_cons (k_InvalidTables t) (QW.fa_cons (k_InvalidOperation t) (QW.fa_cons (k_InvalidText t) (QW.fa_nil)))))))))))))))))))
abbrev CB (K : PySem.W.Frag) : List Addr := [He.ga K "UnknownType", He.ga K "UnknownCast", He.ga K "UnknownVersion", He.ga K "UnknownOperator", He.ga K "NoVersion", He.ga K "NoPath"]
theorem CB_k (t : T K mg base) : ∀ C ∈ CB K, QW.KinOk K C (He.ga K "CastError") false false true false false := QW.fa_cons (k_UnknownType t) (QW.fa_cons (k_UnknownCast t) (QW.fa_cons (k_UnknownVersion t) (QW.fa_cons (k_UnknownOperator t) (QW.fa_cons (k_NoVersion t) (QW.fa_cons (k_NoPath t) (QW.fa_nil))))))
abbrev CC (K : PySem.W.Frag) : List Addr := [He.ga K "NameTaken", He.ga K "Cyclic", He.ga K "WrongArity", He.ga K "InUse", He.ga K "Conflicting", He.ga K "Incoherent", He.ga K "NotRegular", He.ga K "NothingToUndo", He.ga K "CommandFailed"]
theorem CC_k (t : T K mg base) : ∀ C ∈ CC K, QW.KinOk K C (He.ga K "CastError") false false false true false := QW.fa_cons (k_NameTaken t) (QW.fa_cons (k_Cyclic t) (QW.fa_cons (k_WrongArity t) (QW.fa_cons (k_InUse t) (QW.fa_cons (k_Conflicting t) (QW.fa_cons (k_Incoherent t) (QW.fa_cons (k_NotRegular t) (QW.fa_cons (k_NothingToUndo t) (QW.fa_cons (k_CommandFailed t) (QW.fa_nil)))))))))
abbrev bD (bs : List Bool) : PyData := .list (bs.map .bool)
theorem bd_a : (bD [true, true, false, false, false, false]).hasDict = false ∧ SeqAt.shaped (bD [true, true, false, false, false, false]) = true ∧ PyData.eqv (bD [true, true, false, false, false, false]) (bD [true, true, false, false, false, false]) = true := by decide +kernel
theorem bd_b : (bD [false, false, true, false, false, false]).hasDict = false ∧ SeqAt.shaped (bD [false, false, true, false, false, false]) = true ∧ PyData.eqv (bD [false, false, true, false, false, false]) (bD [false, false, true, false, false, false]) = true := by decide +kernel
theorem bd_c : (bD [false, false, false, true, false, false]).hasDict = false ∧ SeqAt.shaped (bD [false, false, false, true, false, false]) = true ∧ PyData.eqv (bD [false, false, false, true, false, false]) (bD [false, false, false, true, false, false]) = true := by decide +kernel
theorem bd_d : (bD [false, false, false, false, true, false]).hasDict = false ∧ SeqAt.shaped (bD [false, false, false, false, true, false]) = true ∧ PyData.eqv (bD [false, false, false, false, true, false]) (bD [false, false, false, false, true, false]) = true := by decide +kernel
def spTwo : Sp := QW.spW (fun _ : V × V => QW.W0) (fun a => [QW.Is a.1, QW.Is a.2]) fun _ => QW.Is (.bl true)
theorem spTwo.len : ∀ vs H Q E, spTwo vs H Q E → vs.length = 2 := QW.spW.len fun _ => rfl

theorem s__law_bases_right : FnScope ["one", "other", "rows", "e"] ["one", "other"] (defScope (top 48)) := ⟨rfl, rfl, rfl, by decide +kernel, rfl, by decide +kernel, by decide +kernel⟩
theorem c__law_bases_right (t : T K mg base) : QC.Cal P w K mg base L2.CX0 4 "_law_bases_right" spTwo [] := by
  obtain ⟨fd, F⟩ := t.c.def_ 10
  have sc := s__law_bases_right
  refine QC.cal (k := 3) F (g__law_bases_right t) (fun _ _ _ _ _ _ us hl => match us, hl with | [_, _], _ => rfl) sc spTwo.len (fun cdv A outer s H vs Q E gd hr h => ?_)
  have hu := QC.hu64 hr
  refine ⟨_, PSs.nox (pss_cons (ps_set (i := 2) sc.nd rfl (by first | exact .inl rfl | exact .inr rfl) (pe_op op_cat (QC.pe_q (c__law_values t) gd hr (by decide) pass0 rfl (pa_cons (pv 0) pa_nil)) (pe_lst (pa_cons (QE.pe_mkE (m_InvalidScheme t) hr (by decide) rfl (pa_cons (pv 0) (pa_cons (pv 1) pa_nil))) (pa_cons (QE.pe_mkE (m_InvalidComparisons t) hr (by decide) rfl (pa_cons (pv 0) pa_nil)) (pa_cons (QE.pe_mkE (m_InvalidSchemes t) hr (by decide) rfl (pa_cons (pv 0) pa_nil)) pa_nil))))))
      (pss_cons (ps_set (i := 2) sc.nd rfl (by first | exact .inl rfl | exact .inr rfl) (pe_op op_cat (pv 2) (pe_lst (pa_cons (QE.pe_mkE (m_InvalidTables t) hr (by decide) rfl (pa_cons (pv 0) (pa_cons (pv 1) pa_nil))) (pa_cons (QE.pe_mkE (m_InvalidOperation t) hr (by decide) rfl (pa_cons (pv 0) pa_nil)) (pa_cons (QE.pe_mkE (m_InvalidText t) hr (by decide) rfl (pa_cons (pv 0) pa_nil)) pa_nil))))))
      (pss_cons (ps_if (pt_not (pt_val (pe_callB (QK.cr_all (K := K) rfl rfl) rfl (n_all t) (by decide +kernel) (pa_cons (pe_lc rfl sc.nd (QK.pi_list (K := K) rfl (pv 2)) (blkOk_by (own := [("e", 3)]) (by show blkC ["one", "other", "rows", "e"] (defScope (top 48)) _ _ = true; decide +kernel)) (fun _ _ _ _ _ => (pg_name (i := 3) sc.nd rfl (by first | exact .inl rfl | exact .inr rfl))) (fun _ _ _ _ _ => pts_nil) (fun _ _ _ _ _ => (pe_cmpR (QK.op_eqD (K := K) rfl hu) (QC.pe_q (c__law_kin t) gd hr (by decide) pass0 rfl (pa_cons (pv 3) pa_nil)) (pe_lst (pa_cons pe_bl (pa_cons pe_bl (pa_cons pe_bl (pa_cons pe_bl (pa_cons pe_bl (pa_cons pe_bl pa_nil))))))) (nomark _)))) pa_nil)))) (pss_one (ps_ret pe_bl)) pss_nil)
      (pss_cons (ps_set (i := 2) sc.nd rfl (by first | exact .inl rfl | exact .inr rfl) (pe_op op_cat (QC.pe_q (c__law_unknown t) gd hr (by decide) pass0 rfl (pa_cons (pv 0) pa_nil)) (pe_lst (pa_cons (QE.pe_mkE (m_NoVersion t) hr (by decide) rfl (pa_cons (pv 0) (pa_cons (pv 1) pa_nil))) (pa_cons (QE.pe_mkE (m_NoPath t) hr (by decide) rfl (pa_cons (pv 0) (pa_cons (pv 1) pa_nil))) pa_nil)))))
      (pss_cons (ps_if (pt_not (pt_val (pe_callB (QK.cr_all (K := K) rfl rfl) rfl (n_all t) (by decide +kernel) (pa_cons (pe_lc rfl sc.nd (QK.pi_list (K := K) rfl (pv 2)) (blkOk_by (own := [("e", 3)]) (by show blkC ["one", "other", "rows", "e"] (defScope (top 48)) _ _ = true; decide +kernel)) (fun _ _ _ _ _ => (pg_name (i := 3) sc.nd rfl (by first | exact .inl rfl | exact .inr rfl))) (fun _ _ _ _ _ => pts_nil) (fun _ _ _ _ _ => (pe_cmpR (QK.op_eqD (K := K) rfl hu) (QC.pe_q (c__law_kin t) gd hr (by decide) pass0 rfl (pa_cons (pv 3) pa_nil)) (pe_lst (pa_cons pe_bl (pa_cons pe_bl (pa_cons pe_bl (pa_cons pe_bl (pa_cons pe_bl (pa_cons pe_bl pa_nil))))))) (nomark _)))) pa_nil)))) (pss_one (ps_ret pe_bl)) pss_nil)
      (pss_cons (ps_set (i := 2) sc.nd rfl (by first | exact .inl rfl | exact .inr rfl) (pe_lst (pa_cons (QE.pe_mkE (m_NameTaken t) hr (by decide) rfl (pa_cons (pv 0) pa_nil)) (pa_cons (QE.pe_mkE (m_Cyclic t) hr (by decide) rfl (pa_cons (pv 0) pa_nil)) (pa_cons (QE.pe_mkE (m_WrongArity t) hr (by decide) rfl (pa_cons (pv 0) (pa_cons (pv 1) pa_nil))) (pa_cons (QE.pe_mkE (m_InUse t) hr (by decide) rfl (pa_cons (pv 0) (pa_cons (pv 1) pa_nil))) (pa_cons (QE.pe_mkE (m_Conflicting t) hr (by decide) rfl (pa_cons (pv 0) (pa_cons (pv 1) pa_nil))) pa_nil)))))))
      (pss_cons (ps_set (i := 2) sc.nd rfl (by first | exact .inl rfl | exact .inr rfl) (pe_op op_cat (pv 2) (pe_lst (pa_cons (QE.pe_mkE (m_Incoherent t) hr (by decide) rfl (pa_cons (pv 0) (pa_cons (pv 0) (pa_cons (pv 1) (pa_cons (pv 1) pa_nil))))) (pa_cons (QE.pe_mkE (m_NotRegular t) hr (by decide) rfl (pa_cons (pv 0) (pa_cons (pv 1) pa_nil))) (pa_cons (QW.pe_exc0 PySem.F.excBase_RuntimeError (e_NothingToUndo t) (g_NothingToUndo t) (x_NothingToUndo t).kC rfl) pa_nil))))))
      (pss_cons (ps_expr (pe_bm PySem.F.plainAttrs_list PySem.F.slot_list_append PySem.F.type_list_append mt_append (pv 2) (pa_cons (QE.pe_mkE (m_CommandFailed t) hr (by decide) rfl (pa_cons (pv 0) (pa_cons (pv 1) pa_nil))) pa_nil)))
      (pss_cons (ps_if (pt_not (pt_val (pe_callB (QK.cr_all (K := K) rfl rfl) rfl (n_all t) (by decide +kernel) (pa_cons (pe_lc rfl sc.nd (QK.pi_list (K := K) rfl (pv 2)) (blkOk_by (own := [("e", 3)]) (by show blkC ["one", "other", "rows", "e"] (defScope (top 48)) _ _ = true; decide +kernel)) (fun _ _ _ _ _ => (pg_name (i := 3) sc.nd rfl (by first | exact .inl rfl | exact .inr rfl))) (fun _ _ _ _ _ => pts_nil) (fun _ _ _ _ _ => (pe_cmpR (QK.op_eqD (K := K) rfl hu) (QC.pe_q (c__law_kin t) gd hr (by decide) pass0 rfl (pa_cons (pv 3) pa_nil)) (pe_lst (pa_cons pe_bl (pa_cons pe_bl (pa_cons pe_bl (pa_cons pe_bl (pa_cons pe_bl (pa_cons pe_bl pa_nil))))))) (nomark _)))) pa_nil)))) (pss_one (ps_ret pe_bl)) pss_nil)
      (pss_one (ps_ret (pe_cmpR (QK.op_eqD (K := K) rfl hu) (QC.pe_q (c__law_kin t) gd hr (by decide) pass0 rfl (pa_cons (QE.pe_mkE (m_TooMany t) hr (by decide) rfl (pa_cons (pv 0) (pa_cons (pv 1) pa_nil))) pa_nil)) (pe_lst (pa_cons pe_bl (pa_cons pe_bl (pa_cons pe_bl (pa_cons pe_bl (pa_cons pe_bl (pa_cons pe_bl pa_nil))))))) (nomark _))))))))))))), ?_⟩
  obtain ⟨⟨v0, v1⟩, F, o, al, q⟩ := h
  obtain rfl := QW.Al.is (f := fun v : V => v) (xs := [v0, v1]) al
  refine QW.q_asgS (R := (QW.Li ([He.ga K "InvalidName", He.ga K "InvalidTypes", He.ga K "InvalidKind", He.ga K "InvalidPath", He.ga K "InvalidShape", He.ga K "InvalidWay", He.ga K "InvalidGroup", He.ga K "InvalidSize", He.ga K "InvalidTable", He.ga K "InvalidValue", He.ga K "InvalidExpression", He.ga K "InvalidCount", He.ga K "InvalidCommand", He.ga K "InvalidScheme", He.ga K "InvalidComparisons", He.ga K "InvalidSchemes"].map QW.Exc))) (fun x => [some v0, some v1, some x, none]) o (QW.ev_op o (QW.Li.mo (QW.mos_map (f := QW.Exc) (fun _ => QW.Exc.mo) [He.ga K "InvalidName", He.ga K "InvalidTypes", He.ga K "InvalidKind", He.ga K "InvalidPath", He.ga K "InvalidShape", He.ga K "InvalidWay", He.ga K "InvalidGroup", He.ga K "InvalidSize", He.ga K "InvalidTable", He.ga K "InvalidValue", He.ga K "InvalidExpression", He.ga K "InvalidCount", He.ga K "InvalidCommand"])) (QW.EvW.imp (QW.ev_call0 (A := fun v : V => [QW.Is v]) (Rf := fun v => QW.Li ((C13 K).map (ExV v))) v0 o (QW.ea_cons o (QW.Is.mo _) (QW.ev_var o (QW.Is.mo _) rfl rfl) (QW.ea_nil o))) fun v F' _ r => QW.Li.imp (f := ExV _) (g := QW.Exc) (xs := C13 K) (fun C _ v h => h.exc) r) (QW.ev_lst o (QW.mos_map (f := QW.Exc) (fun _ => QW.Exc.mo) [He.ga K "InvalidScheme", He.ga K "InvalidComparisons", He.ga K "InvalidSchemes"]) (QW.ea_cons o QW.Exc.mo (QW.EvW.imp (QW.ev_mk (C := He.ga K "InvalidScheme") (names := ["problem", "position"]) (ws := [v0, v1]) o (QW.ea_cons o (QW.Is.mo _) (QW.ev_var o (QW.Is.mo _) rfl rfl) (QW.ea_cons o (QW.Is.mo _) (QW.ev_var o (QW.Is.mo _) rfl rfl) (QW.ea_nil o))) (by rfl) (show 2 ≤ 1000 by decide)) fun v F' _ r => r.exc) (QW.ea_cons o QW.Exc.mo (QW.EvW.imp (QW.ev_mk (C := He.ga K "InvalidComparisons") (names := ["position"]) (ws := [v0]) o (QW.ea_cons o (QW.Is.mo _) (QW.ev_var o (QW.Is.mo _) rfl rfl) (QW.ea_nil o)) (by rfl) (show 1 ≤ 1000 by decide)) fun v F' _ r => r.exc) (QW.ea_cons o QW.Exc.mo (QW.EvW.imp (QW.ev_mk (C := He.ga K "InvalidSchemes") (names := ["position"]) (ws := [v0]) o (QW.ea_cons o (QW.Is.mo _) (QW.ev_var o (QW.Is.mo _) rfl rfl) (QW.ea_nil o)) (by rfl) (show 1 ≤ 1000 by decide)) fun v F' _ r => r.exc) (QW.ea_nil o)))) (show 3 ≤ 100000 by decide)) (QW.ow_cat (QW.mos_map (f := QW.Exc) (fun _ => QW.Exc.mo) [He.ga K "InvalidName", He.ga K "InvalidTypes", He.ga K "InvalidKind", He.ga K "InvalidPath", He.ga K "InvalidShape", He.ga K "InvalidWay", He.ga K "InvalidGroup", He.ga K "InvalidSize", He.ga K "InvalidTable", He.ga K "InvalidValue", He.ga K "InvalidExpression", He.ga K "InvalidCount", He.ga K "InvalidCommand"]) (QW.mos_map (f := QW.Exc) (fun _ => QW.Exc.mo) [He.ga K "InvalidScheme", He.ga K "InvalidComparisons", He.ga K "InvalidSchemes"]) (show 16 ≤ 100000 by decide))) fun v1_0 F1 H1 g1 r1_0 => ?_
  have o1 := g1.ok o
  have G1 := g1
  refine QW.q_asgS (R := (QW.Li ([He.ga K "InvalidName", He.ga K "InvalidTypes", He.ga K "InvalidKind", He.ga K "InvalidPath", He.ga K "InvalidShape", He.ga K "InvalidWay", He.ga K "InvalidGroup", He.ga K "InvalidSize", He.ga K "InvalidTable", He.ga K "InvalidValue", He.ga K "InvalidExpression", He.ga K "InvalidCount", He.ga K "InvalidCommand", He.ga K "InvalidScheme", He.ga K "InvalidComparisons", He.ga K "InvalidSchemes", He.ga K "InvalidTables", He.ga K "InvalidOperation", He.ga K "InvalidText"].map QW.Exc))) (fun x => [some v0, some v1, some x, none]) o1 (QW.ev_op o1 (QW.Li.mo (QW.mos_map (f := QW.Exc) (fun _ => QW.Exc.mo) [He.ga K "InvalidName", He.ga K "InvalidTypes", He.ga K "InvalidKind", He.ga K "InvalidPath", He.ga K "InvalidShape", He.ga K "InvalidWay", He.ga K "InvalidGroup", He.ga K "InvalidSize", He.ga K "InvalidTable", He.ga K "InvalidValue", He.ga K "InvalidExpression", He.ga K "InvalidCount", He.ga K "InvalidCommand", He.ga K "InvalidScheme", He.ga K "InvalidComparisons", He.ga K "InvalidSchemes"])) (QW.ev_var o1 (QW.Li.mo (QW.mos_map (f := QW.Exc) (fun _ => QW.Exc.mo) [He.ga K "InvalidName", He.ga K "InvalidTypes", He.ga K "InvalidKind", He.ga K "InvalidPath", He.ga K "InvalidShape", He.ga K "InvalidWay", He.ga K "InvalidGroup", He.ga K "InvalidSize", He.ga K "InvalidTable", He.ga K "InvalidValue", He.ga K "InvalidExpression", He.ga K "InvalidCount", He.ga K "InvalidCommand", He.ga K "InvalidScheme", He.ga K "InvalidComparisons", He.ga K "InvalidSchemes"])) rfl r1_0) (QW.ev_lst o1 (QW.mos_map (f := QW.Exc) (fun _ => QW.Exc.mo) [He.ga K "InvalidTables", He.ga K "InvalidOperation", He.ga K "InvalidText"]) (QW.ea_cons o1 QW.Exc.mo (QW.EvW.imp (QW.ev_mk (C := He.ga K "InvalidTables") (names := ["kind", "name"]) (ws := [v0, v1]) o1 (QW.ea_cons o1 (QW.Is.mo _) (QW.ev_var o1 (QW.Is.mo _) rfl rfl) (QW.ea_cons o1 (QW.Is.mo _) (QW.ev_var o1 (QW.Is.mo _) rfl rfl) (QW.ea_nil o1))) (by rfl) (show 2 ≤ 1000 by decide)) fun v F' _ r => r.exc) (QW.ea_cons o1 QW.Exc.mo (QW.EvW.imp (QW.ev_mk (C := He.ga K "InvalidOperation") (names := ["position"]) (ws := [v0]) o1 (QW.ea_cons o1 (QW.Is.mo _) (QW.ev_var o1 (QW.Is.mo _) rfl rfl) (QW.ea_nil o1)) (by rfl) (show 1 ≤ 1000 by decide)) fun v F' _ r => r.exc) (QW.ea_cons o1 QW.Exc.mo (QW.EvW.imp (QW.ev_mk (C := He.ga K "InvalidText") (names := ["line"]) (ws := [v0]) o1 (QW.ea_cons o1 (QW.Is.mo _) (QW.ev_var o1 (QW.Is.mo _) rfl rfl) (QW.ea_nil o1)) (by rfl) (show 1 ≤ 1000 by decide)) fun v F' _ r => r.exc) (QW.ea_nil o1)))) (show 3 ≤ 100000 by decide)) (QW.ow_cat (QW.mos_map (f := QW.Exc) (fun _ => QW.Exc.mo) [He.ga K "InvalidName", He.ga K "InvalidTypes", He.ga K "InvalidKind", He.ga K "InvalidPath", He.ga K "InvalidShape", He.ga K "InvalidWay", He.ga K "InvalidGroup", He.ga K "InvalidSize", He.ga K "InvalidTable", He.ga K "InvalidValue", He.ga K "InvalidExpression", He.ga K "InvalidCount", He.ga K "InvalidCommand", He.ga K "InvalidScheme", He.ga K "InvalidComparisons", He.ga K "InvalidSchemes"]) (QW.mos_map (f := QW.Exc) (fun _ => QW.Exc.mo) [He.ga K "InvalidTables", He.ga K "InvalidOperation", He.ga K "InvalidText"]) (show 19 ≤ 100000 by decide))) fun v2_0 F2 H2 g2 r2_0 => ?_
  have o2 := g2.ok o1
  have G2 := G1.trans o g2
  refine QW.q_no o2 (QW.et_not (QW.et_B (QW.ev_allT o2 (QW.ev_mapC (Cs := CA K) (f := QW.Exc) (g := fun _ => QW.Is (.bl true)) o2 (fun x => rfl) (QW.ev_var o2 (QW.Li.mo (QW.mos_map (f := QW.Exc) (fun _ => QW.Exc.mo) [He.ga K "InvalidName", He.ga K "InvalidTypes", He.ga K "InvalidKind", He.ga K "InvalidPath", He.ga K "InvalidShape", He.ga K "InvalidWay", He.ga K "InvalidGroup", He.ga K "InvalidSize", He.ga K "InvalidTable", He.ga K "InvalidValue", He.ga K "InvalidExpression", He.ga K "InvalidCount", He.ga K "InvalidCommand", He.ga K "InvalidScheme", He.ga K "InvalidComparisons", He.ga K "InvalidSchemes", He.ga K "InvalidTables", He.ga K "InvalidOperation", He.ga K "InvalidText"])) rfl r2_0) (fun C => QW.Exc.mo) (fun C => QW.Is.mo _) (show _ ≤ 100000 by simp) (fun C x G H' hC hx g => (QW.ev_eqD (d := bD [true, true, false, false, false, false]) (e := bD [true, true, false, false, false, false]) (g.ok o2) (QW.EvW.boolsD (bs := [true, true, false, false, false, false]) (QW.ev_call0 (A := fun a : KA K => [QW.Exc a.C]) (Rf := fun a => QW.Li ((kinB a).map fun b => QW.Is (.bl b))) ⟨C, true, true, false, false, false, (CA_k t C hC)⟩ (g.ok o2) (QW.ea_cons (g.ok o2) QW.Exc.mo (QW.ev_var (g.ok o2) QW.Exc.mo rfl hx) (QW.ea_nil (g.ok o2))))) (QW.EvW.boolsD (bs := [true, true, false, false, false, false]) (QW.ev_lst (g.ok o2) (QW.mos_map (f := fun b => QW.Is (.bl b)) (fun b => QW.Is.mo _) [true, true, false, false, false, false]) (QW.ea_cons (g.ok o2) (QW.Is.mo _) (QW.ev_c (g.ok o2) fun _ => rfl) (QW.ea_cons (g.ok o2) (QW.Is.mo _) (QW.ev_c (g.ok o2) fun _ => rfl) (QW.ea_cons (g.ok o2) (QW.Is.mo _) (QW.ev_c (g.ok o2) fun _ => rfl) (QW.ea_cons (g.ok o2) (QW.Is.mo _) (QW.ev_c (g.ok o2) fun _ => rfl) (QW.ea_cons (g.ok o2) (QW.Is.mo _) (QW.ev_c (g.ok o2) fun _ => rfl) (QW.ea_cons (g.ok o2) (QW.Is.mo _) (QW.ev_c (g.ok o2) fun _ => rfl) (QW.ea_nil (g.ok o2)))))))) (show 6 ≤ 100000 by decide))) bd_a.1 bd_a.1 bd_a.2.1 bd_a.2.1 bd_a.2.2)))))) fun F3 H3 g3 => ?_
  have o3 := g3.ok o2
  have G3 := G2.trans o g3
  have e3_2 := (QW.Li.mo (QW.mos_map (f := QW.Exc) (fun _ => QW.Exc.mo) [He.ga K "InvalidName", He.ga K "InvalidTypes", He.ga K "InvalidKind", He.ga K "InvalidPath", He.ga K "InvalidShape", He.ga K "InvalidWay", He.ga K "InvalidGroup", He.ga K "InvalidSize", He.ga K "InvalidTable", He.ga K "InvalidValue", He.ga K "InvalidExpression", He.ga K "InvalidCount", He.ga K "InvalidCommand", He.ga K "InvalidScheme", He.ga K "InvalidComparisons", He.ga K "InvalidSchemes", He.ga K "InvalidTables", He.ga K "InvalidOperation", He.ga K "InvalidText"])) _ _ _ g3.g.ff r2_0
  refine QW.q_asgS (R := (QW.Li ([He.ga K "UnknownType", He.ga K "UnknownCast", He.ga K "UnknownVersion", He.ga K "UnknownOperator", He.ga K "NoVersion", He.ga K "NoPath"].map QW.Exc))) (fun x => [some v0, some v1, some x, none]) o3 (QW.ev_op o3 (QW.Li.mo (QW.mos_map (f := QW.Exc) (fun _ => QW.Exc.mo) [He.ga K "UnknownType", He.ga K "UnknownCast", He.ga K "UnknownVersion", He.ga K "UnknownOperator"])) (QW.EvW.imp (QW.ev_call0 (A := fun v : V => [QW.Is v]) (Rf := fun v => QW.Li ((C4 K).map (ExV v))) v0 o3 (QW.ea_cons o3 (QW.Is.mo _) (QW.ev_var o3 (QW.Is.mo _) rfl rfl) (QW.ea_nil o3))) fun v F' _ r => QW.Li.imp (f := ExV _) (g := QW.Exc) (xs := C4 K) (fun C _ v h => h.exc) r) (QW.ev_lst o3 (QW.mos_map (f := QW.Exc) (fun _ => QW.Exc.mo) [He.ga K "NoVersion", He.ga K "NoPath"]) (QW.ea_cons o3 QW.Exc.mo (QW.EvW.imp (QW.ev_mk (C := He.ga K "NoVersion") (names := ["operator", "arguments"]) (ws := [v0, v1]) o3 (QW.ea_cons o3 (QW.Is.mo _) (QW.ev_var o3 (QW.Is.mo _) rfl rfl) (QW.ea_cons o3 (QW.Is.mo _) (QW.ev_var o3 (QW.Is.mo _) rfl rfl) (QW.ea_nil o3))) (by rfl) (show 2 ≤ 1000 by decide)) fun v F' _ r => r.exc) (QW.ea_cons o3 QW.Exc.mo (QW.EvW.imp (QW.ev_mk (C := He.ga K "NoPath") (names := ["source", "target"]) (ws := [v0, v1]) o3 (QW.ea_cons o3 (QW.Is.mo _) (QW.ev_var o3 (QW.Is.mo _) rfl rfl) (QW.ea_cons o3 (QW.Is.mo _) (QW.ev_var o3 (QW.Is.mo _) rfl rfl) (QW.ea_nil o3))) (by rfl) (show 2 ≤ 1000 by decide)) fun v F' _ r => r.exc) (QW.ea_nil o3))) (show 2 ≤ 100000 by decide)) (QW.ow_cat (QW.mos_map (f := QW.Exc) (fun _ => QW.Exc.mo) [He.ga K "UnknownType", He.ga K "UnknownCast", He.ga K "UnknownVersion", He.ga K "UnknownOperator"]) (QW.mos_map (f := QW.Exc) (fun _ => QW.Exc.mo) [He.ga K "NoVersion", He.ga K "NoPath"]) (show 6 ≤ 100000 by decide))) fun v4_0 F4 H4 g4 r4_0 => ?_
  have o4 := g4.ok o3
  have G4 := G3.trans o g4
  refine QW.q_no o4 (QW.et_not (QW.et_B (QW.ev_allT o4 (QW.ev_mapC (Cs := CB K) (f := QW.Exc) (g := fun _ => QW.Is (.bl true)) o4 (fun x => rfl) (QW.ev_var o4 (QW.Li.mo (QW.mos_map (f := QW.Exc) (fun _ => QW.Exc.mo) [He.ga K "UnknownType", He.ga K "UnknownCast", He.ga K "UnknownVersion", He.ga K "UnknownOperator", He.ga K "NoVersion", He.ga K "NoPath"])) rfl r4_0) (fun C => QW.Exc.mo) (fun C => QW.Is.mo _) (show _ ≤ 100000 by simp) (fun C x G H' hC hx g => (QW.ev_eqD (d := bD [false, false, true, false, false, false]) (e := bD [false, false, true, false, false, false]) (g.ok o4) (QW.EvW.boolsD (bs := [false, false, true, false, false, false]) (QW.ev_call0 (A := fun a : KA K => [QW.Exc a.C]) (Rf := fun a => QW.Li ((kinB a).map fun b => QW.Is (.bl b))) ⟨C, false, false, true, false, false, (CB_k t C hC)⟩ (g.ok o4) (QW.ea_cons (g.ok o4) QW.Exc.mo (QW.ev_var (g.ok o4) QW.Exc.mo rfl hx) (QW.ea_nil (g.ok o4))))) (QW.EvW.boolsD (bs := [false, false, true, false, false, false]) (QW.ev_lst (g.ok o4) (QW.mos_map (f := fun b => QW.Is (.bl b)) (fun b => QW.Is.mo _) [false, false, true, false, false, false]) (QW.ea_cons (g.ok o4) (QW.Is.mo _) (QW.ev_c (g.ok o4) fun _ => rfl) (QW.ea_cons (g.ok o4) (QW.Is.mo _) (QW.ev_c (g.ok o4) fun _ => rfl) (QW.ea_cons (g.ok o4) (QW.Is.mo _) (QW.ev_c (g.ok o4) fun _ => rfl) (QW.ea_cons (g.ok o4) (QW.Is.mo _) (QW.ev_c (g.ok o4) fun _ => rfl) (QW.ea_cons (g.ok o4) (QW.Is.mo _) (QW.ev_c (g.ok o4) fun _ => rfl) (QW.ea_cons (g.ok o4) (QW.Is.mo _) (QW.ev_c (g.ok o4) fun _ => rfl) (QW.ea_nil (g.ok o4)))))))) (show 6 ≤ 100000 by decide))) bd_b.1 bd_b.1 bd_b.2.1 bd_b.2.1 bd_b.2.2)))))) fun F5 H5 g5 => ?_
  have o5 := g5.ok o4
  have G5 := G4.trans o g5
  have e5_2 := (QW.Li.mo (QW.mos_map (f := QW.Exc) (fun _ => QW.Exc.mo) [He.ga K "UnknownType", He.ga K "UnknownCast", He.ga K "UnknownVersion", He.ga K "UnknownOperator", He.ga K "NoVersion", He.ga K "NoPath"])) _ _ _ g5.g.ff r4_0
  refine QW.q_asgS (R := (QW.Li ([He.ga K "NameTaken", He.ga K "Cyclic", He.ga K "WrongArity", He.ga K "InUse", He.ga K "Conflicting"].map QW.Exc))) (fun x => [some v0, some v1, some x, none]) o5 (QW.ev_lst o5 (QW.mos_map (f := QW.Exc) (fun _ => QW.Exc.mo) [He.ga K "NameTaken", He.ga K "Cyclic", He.ga K "WrongArity", He.ga K "InUse", He.ga K "Conflicting"]) (QW.ea_cons o5 QW.Exc.mo (QW.EvW.imp (QW.ev_mk (C := He.ga K "NameTaken") (names := ["name"]) (ws := [v0]) o5 (QW.ea_cons o5 (QW.Is.mo _) (QW.ev_var o5 (QW.Is.mo _) rfl rfl) (QW.ea_nil o5)) (by rfl) (show 1 ≤ 1000 by decide)) fun v F' _ r => r.exc) (QW.ea_cons o5 QW.Exc.mo (QW.EvW.imp (QW.ev_mk (C := He.ga K "Cyclic") (names := ["name"]) (ws := [v0]) o5 (QW.ea_cons o5 (QW.Is.mo _) (QW.ev_var o5 (QW.Is.mo _) rfl rfl) (QW.ea_nil o5)) (by rfl) (show 1 ≤ 1000 by decide)) fun v F' _ r => r.exc) (QW.ea_cons o5 QW.Exc.mo (QW.EvW.imp (QW.ev_mk (C := He.ga K "WrongArity") (names := ["operator", "count"]) (ws := [v0, v1]) o5 (QW.ea_cons o5 (QW.Is.mo _) (QW.ev_var o5 (QW.Is.mo _) rfl rfl) (QW.ea_cons o5 (QW.Is.mo _) (QW.ev_var o5 (QW.Is.mo _) rfl rfl) (QW.ea_nil o5))) (by rfl) (show 2 ≤ 1000 by decide)) fun v F' _ r => r.exc) (QW.ea_cons o5 QW.Exc.mo (QW.EvW.imp (QW.ev_mk (C := He.ga K "InUse") (names := ["kind", "name"]) (ws := [v0, v1]) o5 (QW.ea_cons o5 (QW.Is.mo _) (QW.ev_var o5 (QW.Is.mo _) rfl rfl) (QW.ea_cons o5 (QW.Is.mo _) (QW.ev_var o5 (QW.Is.mo _) rfl rfl) (QW.ea_nil o5))) (by rfl) (show 2 ≤ 1000 by decide)) fun v F' _ r => r.exc) (QW.ea_cons o5 QW.Exc.mo (QW.EvW.imp (QW.ev_mk (C := He.ga K "Conflicting") (names := ["kind", "name"]) (ws := [v0, v1]) o5 (QW.ea_cons o5 (QW.Is.mo _) (QW.ev_var o5 (QW.Is.mo _) rfl rfl) (QW.ea_cons o5 (QW.Is.mo _) (QW.ev_var o5 (QW.Is.mo _) rfl rfl) (QW.ea_nil o5))) (by rfl) (show 2 ≤ 1000 by decide)) fun v F' _ r => r.exc) (QW.ea_nil o5)))))) (show 5 ≤ 100000 by decide)) fun v6_0 F6 H6 g6 r6_0 => ?_
  have o6 := g6.ok o5
  have G6 := G5.trans o g6
  refine QW.q_asgOS (fun x => [some v0, some v1, some x, none]) o6 (QW.eo_cat o6 (QW.mos_map (f := QW.Exc) (fun _ => QW.Exc.mo) [He.ga K "NameTaken", He.ga K "Cyclic", He.ga K "WrongArity", He.ga K "InUse", He.ga K "Conflicting"]) (QW.mos_map (f := QW.Exc) (fun _ => QW.Exc.mo) [He.ga K "Incoherent", He.ga K "NotRegular", He.ga K "NothingToUndo"]) (show 8 ≤ 100000 by decide) (QW.ev_var o6 (QW.Li.mo (QW.mos_map (f := QW.Exc) (fun _ => QW.Exc.mo) [He.ga K "NameTaken", He.ga K "Cyclic", He.ga K "WrongArity", He.ga K "InUse", He.ga K "Conflicting"])) rfl r6_0) (QW.ev_lst o6 (QW.mos_map (f := QW.Exc) (fun _ => QW.Exc.mo) [He.ga K "Incoherent", He.ga K "NotRegular", He.ga K "NothingToUndo"]) (QW.ea_cons o6 QW.Exc.mo (QW.EvW.imp (QW.ev_mk (C := He.ga K "Incoherent") (names := ["shape", "one", "other", "arguments"]) (ws := [v0, v0, v1, v1]) o6 (QW.ea_cons o6 (QW.Is.mo _) (QW.ev_var o6 (QW.Is.mo _) rfl rfl) (QW.ea_cons o6 (QW.Is.mo _) (QW.ev_var o6 (QW.Is.mo _) rfl rfl) (QW.ea_cons o6 (QW.Is.mo _) (QW.ev_var o6 (QW.Is.mo _) rfl rfl) (QW.ea_cons o6 (QW.Is.mo _) (QW.ev_var o6 (QW.Is.mo _) rfl rfl) (QW.ea_nil o6))))) (by rfl) (show 4 ≤ 1000 by decide)) fun v F' _ r => r.exc) (QW.ea_cons o6 QW.Exc.mo (QW.EvW.imp (QW.ev_mk (C := He.ga K "NotRegular") (names := ["operator", "arguments"]) (ws := [v0, v1]) o6 (QW.ea_cons o6 (QW.Is.mo _) (QW.ev_var o6 (QW.Is.mo _) rfl rfl) (QW.ea_cons o6 (QW.Is.mo _) (QW.ev_var o6 (QW.Is.mo _) rfl rfl) (QW.ea_nil o6))) (by rfl) (show 2 ≤ 1000 by decide)) fun v F' _ r => r.exc) (QW.ea_cons o6 QW.Exc.mo (QW.ev_mk0 o6) (QW.ea_nil o6)))) (show 3 ≤ 100000 by decide))) fun p us F7 H7 g7 n0 nF hp al2 => ?_
  have o7 := g7.ok o6
  have G7 := G6.trans o g7
  have e7_2 := (QW.Li.mo (QW.mos_map (f := QW.Exc) (fun _ => QW.Exc.mo) [He.ga K "NameTaken", He.ga K "Cyclic", He.ga K "WrongArity", He.ga K "InUse", He.ga K "Conflicting"])) _ _ _ g7.g.ff r6_0
  have m8 := (QW.mos_map (f := QW.Exc) (fun _ => QW.Exc.mo) [He.ga K "NameTaken", He.ga K "Cyclic", He.ga K "WrongArity", He.ga K "InUse", He.ga K "Conflicting", He.ga K "Incoherent", He.ga K "NotRegular", He.ga K "NothingToUndo"])
  refine QW.q_appK (Rs := [He.ga K "NameTaken", He.ga K "Cyclic", He.ga K "WrongArity", He.ga K "InUse", He.ga K "Conflicting", He.ga K "Incoherent", He.ga K "NotRegular", He.ga K "NothingToUndo"].map QW.Exc) (R := QW.Exc (He.ga K "CommandFailed")) o7 nF hp (fun z => nomatch z) al2 m8 QW.Exc.mo (by rw [al2.length]; exact (show 8 < 100000 by decide)) (fun H1 Q q => ⟨_, rfl, q⟩) (QW.EvW.imp (QW.ev_mk (C := He.ga K "CommandFailed") (names := ["position", "answers"]) (ws := [v0, v1]) o7 (QW.ea_cons o7 (QW.Is.mo _) (QW.ev_var o7 (QW.Is.mo _) rfl rfl) (QW.ea_cons o7 (QW.Is.mo _) (QW.ev_var o7 (QW.Is.mo _) rfl rfl) (QW.ea_nil o7))) (by rfl) (show 2 ≤ 1000 by decide)) fun v F' _ r => r.exc) fun F8 H8 o8 gk r8_0 => ?_
  have G8 := gk _ _ o G7 (G6.same.free n0)
  refine QW.q_no o8 (QW.et_not (QW.et_B (QW.ev_allT o8 (QW.ev_mapC (Cs := CC K) (f := QW.Exc) (g := fun _ => QW.Is (.bl true)) o8 (fun x => rfl) (QW.ev_var o8 (QW.Li.mo (QW.mos_map (f := QW.Exc) (fun _ => QW.Exc.mo) [He.ga K "NameTaken", He.ga K "Cyclic", He.ga K "WrongArity", He.ga K "InUse", He.ga K "Conflicting", He.ga K "Incoherent", He.ga K "NotRegular", He.ga K "NothingToUndo", He.ga K "CommandFailed"])) rfl r8_0) (fun C => QW.Exc.mo) (fun C => QW.Is.mo _) (show _ ≤ 100000 by simp) (fun C x G H' hC hx g => (QW.ev_eqD (d := bD [false, false, false, true, false, false]) (e := bD [false, false, false, true, false, false]) (g.ok o8) (QW.EvW.boolsD (bs := [false, false, false, true, false, false]) (QW.ev_call0 (A := fun a : KA K => [QW.Exc a.C]) (Rf := fun a => QW.Li ((kinB a).map fun b => QW.Is (.bl b))) ⟨C, false, false, false, true, false, (CC_k t C hC)⟩ (g.ok o8) (QW.ea_cons (g.ok o8) QW.Exc.mo (QW.ev_var (g.ok o8) QW.Exc.mo rfl hx) (QW.ea_nil (g.ok o8))))) (QW.EvW.boolsD (bs := [false, false, false, true, false, false]) (QW.ev_lst (g.ok o8) (QW.mos_map (f := fun b => QW.Is (.bl b)) (fun b => QW.Is.mo _) [false, false, false, true, false, false]) (QW.ea_cons (g.ok o8) (QW.Is.mo _) (QW.ev_c (g.ok o8) fun _ => rfl) (QW.ea_cons (g.ok o8) (QW.Is.mo _) (QW.ev_c (g.ok o8) fun _ => rfl) (QW.ea_cons (g.ok o8) (QW.Is.mo _) (QW.ev_c (g.ok o8) fun _ => rfl) (QW.ea_cons (g.ok o8) (QW.Is.mo _) (QW.ev_c (g.ok o8) fun _ => rfl) (QW.ea_cons (g.ok o8) (QW.Is.mo _) (QW.ev_c (g.ok o8) fun _ => rfl) (QW.ea_cons (g.ok o8) (QW.Is.mo _) (QW.ev_c (g.ok o8) fun _ => rfl) (QW.ea_nil (g.ok o8)))))))) (show 6 ≤ 100000 by decide))) bd_c.1 bd_c.1 bd_c.2.1 bd_c.2.1 bd_c.2.2)))))) fun F9 H9 g9 => ?_
  have o9 := g9.ok o8
  have G9 := G8.trans o g9
  have e9_2 := (QW.Li.mo (QW.mos_map (f := QW.Exc) (fun _ => QW.Exc.mo) [He.ga K "NameTaken", He.ga K "Cyclic", He.ga K "WrongArity", He.ga K "InUse", He.ga K "Conflicting", He.ga K "Incoherent", He.ga K "NotRegular", He.ga K "NothingToUndo", He.ga K "CommandFailed"])) _ _ _ g9.g.ff r8_0
  exact QW.q_ret (R := QW.Is (.bl true)) o9 (QW.ev_eqD (d := bD [false, false, false, false, true, false]) (e := bD [false, false, false, false, true, false]) o9 (QW.EvW.boolsD (bs := [false, false, false, false, true, false]) (QW.ev_call0 (A := fun a : KA K => [QW.Exc a.C]) (Rf := fun a => QW.Li ((kinB a).map fun b => QW.Is (.bl b))) ⟨He.ga K "TooMany", false, false, false, false, true, (k_TooMany t)⟩ o9 (QW.ea_cons o9 QW.Exc.mo (QW.EvW.imp (QW.ev_mk (C := He.ga K "TooMany") (names := ["kind", "limit"]) (ws := [v0, v1]) o9 (QW.ea_cons o9 (QW.Is.mo _) (QW.ev_var o9 (QW.Is.mo _) rfl rfl) (QW.ea_cons o9 (QW.Is.mo _) (QW.ev_var o9 (QW.Is.mo _) rfl rfl) (QW.ea_nil o9))) (by rfl) (show 2 ≤ 1000 by decide)) fun v F' _ r => r.exc) (QW.ea_nil o9)))) (QW.EvW.boolsD (bs := [false, false, false, false, true, false]) (QW.ev_lst o9 (QW.mos_map (f := fun b => QW.Is (.bl b)) (fun b => QW.Is.mo _) [false, false, false, false, true, false]) (QW.ea_cons o9 (QW.Is.mo _) (QW.ev_c o9 fun _ => rfl) (QW.ea_cons o9 (QW.Is.mo _) (QW.ev_c o9 fun _ => rfl) (QW.ea_cons o9 (QW.Is.mo _) (QW.ev_c o9 fun _ => rfl) (QW.ea_cons o9 (QW.Is.mo _) (QW.ev_c o9 fun _ => rfl) (QW.ea_cons o9 (QW.Is.mo _) (QW.ev_c o9 fun _ => rfl) (QW.ea_cons o9 (QW.Is.mo _) (QW.ev_c o9 fun _ => rfl) (QW.ea_nil o9))))))) (show 6 ≤ 100000 by decide))) bd_d.1 bd_d.1 bd_d.2.1 bd_d.2.1 bd_d.2.2) fun v F' H' g r => q v F' H' (G9.trans o g) r

end
end K18

set_option Elab.async false
set_option linter.all false
set_option maxRecDepth 100000
set_option maxHeartbeats 4000000
namespace K18
open PySem PySem.Spec PyProof.Rows L2

section
variable {P : Program} {w : World} {K : PySem.W.Frag} {mg : Str → Option Value} {base : Heap}

def P13 (K : PySem.W.Frag) : List (Addr × List Bool) := [(He.ga K "InvalidName", [true, false, false]), (He.ga K "InvalidTypes", [false, false, false]), (He.ga K "InvalidKind", [false, false, false]), (He.ga K "InvalidPath", [false, false, false]), (He.ga K "InvalidShape", [false, false, true]), (He.ga K "InvalidWay", [false, false, false]), (He.ga K "InvalidGroup", [false, false, false]), (He.ga K "InvalidSize", [false, false, false]), (He.ga K "InvalidTable", [false, false, false]), (He.ga K "InvalidValue", [false, true, false]), (He.ga K "InvalidExpression", [false, false, false]), (He.ga K "InvalidCount", [false, false, false]), (He.ga K "InvalidCommand", [false, false, false])]
theorem P13_h (t : T K mg base) : ∀ p ∈ P13 K, QE.ExX K p.1 ∧ ∃ b0 b1 b2 : Bool, p.2 = [b0, b1, b2] ∧ PySem.W.kitOne K (.ref p.1) (.ref (He.ga K "InvalidName")) = some b0 ∧ PySem.W.kitOne K (.ref p.1) (.ref (He.ga K "InvalidValue")) = some b1 ∧ PySem.W.kitOne K (.ref p.1) (.ref (He.ga K "InvalidShape")) = some b2 := QW.fa_cons ⟨(x_InvalidName t).x, _, _, _, rfl, k_InvalidName_InvalidName t, k_InvalidName_InvalidValue t, k_InvalidName_InvalidShape t⟩ (QW.fa_cons ⟨(x_InvalidTypes t).x, _, _, _, rfl, k_InvalidTypes_InvalidName t, k_InvalidTypes_InvalidValue t, k_InvalidTypes_InvalidShape t⟩ (QW.fa_cons ⟨(x_InvalidKind t).x, _, _, _, rfl, k_InvalidKind_InvalidName t, k_InvalidKind_InvalidValue t, k_InvalidKind_InvalidShape t⟩ (QW.fa_cons ⟨(x_InvalidPath t).x, _, _, _, rfl, k_InvalidPath_InvalidName t, k_InvalidPath_InvalidValue t, k_InvalidPath_InvalidShape t⟩ (QW.fa_cons ⟨(x_InvalidShape t).x, _, _, _, rfl, k_InvalidShape_InvalidName t, k_InvalidShape_InvalidValue t, k_InvalidShape_InvalidShape t⟩ (QW.fa_cons ⟨(x_InvalidWay t).x, _, _, _, rfl, k_InvalidWay_InvalidName t, k_InvalidWay_InvalidValue t, k_InvalidWay_InvalidShape t⟩ (QW.fa_cons ⟨(x_InvalidGroup t).x, _, _, _, rfl, k_InvalidGroup_InvalidName t, k_InvalidGroup_InvalidValue t, k_InvalidGroup_InvalidShape t⟩ (QW.fa_cons ⟨(x_InvalidSize t).x, _, _, _, rfl, k_InvalidSize_InvalidName t, k_InvalidSize_InvalidValue t, k_InvalidSize_InvalidShape t⟩ (QW.fa_cons ⟨(x_InvalidTable t).x, _, _, _, rfl, k_InvalidTable_InvalidName t, k_InvalidTable_InvalidValue t, k_InvalidTable_InvalidShape t⟩ (QW.fa_cons ⟨(x_InvalidValue t).x, _, _, _, rfl, k_InvalidValue_InvalidName t, k_InvalidValue_InvalidValue t, k_InvalidValue_InvalidShape t⟩ (QW.fa_cons ⟨(x_InvalidExpression t).x, _, _, _, rfl, k_InvalidExpression_InvalidName t, k_InvalidExpression_InvalidValue t, k_InvalidExpression_InvalidShape t⟩ (QW.fa_cons ⟨(x_InvalidCount t).x, _, _, _, rfl, k_InvalidCount_InvalidName t, k_InvalidCount_InvalidValue t, k_InvalidCount_InvalidShape t⟩ (QW.fa_cons ⟨(x_InvalidCommand t).x, _, _, _, rfl, k_InvalidCommand_InvalidName t, k_InvalidCommand_InvalidValue t, k_InvalidCommand_InvalidShape t⟩ (QW.fa_nil)))))))))))))
theorem P13_e : [He.ga K "InvalidName", He.ga K "InvalidTypes", He.ga K "InvalidKind", He.ga K "InvalidPath", He.ga K "InvalidShape", He.ga K "InvalidWay", He.ga K "InvalidGroup", He.ga K "InvalidSize", He.ga K "InvalidTable", He.ga K "InvalidValue", He.ga K "InvalidExpression", He.ga K "InvalidCount", He.ga K "InvalidCommand"].map QW.Exc = (P13 K).map fun p => QW.Exc p.1 := by simp only [P13, List.map_cons, List.map_nil]
def P4a (K : PySem.W.Frag) : List (Addr × List Bool) := [(He.ga K "InvalidTable", [true, false]), (He.ga K "InvalidTables", [false, true]), (He.ga K "InvalidScheme", [false, false]), (He.ga K "InvalidSchemes", [false, false])]
theorem P4a_h (t : T K mg base) : ∀ p ∈ P4a K, QE.ExX K p.1 ∧ ∃ b0 b1 : Bool, p.2 = [b0, b1] ∧ PySem.W.kitOne K (.ref p.1) (.ref (He.ga K "InvalidTable")) = some b0 ∧ PySem.W.kitOne K (.ref p.1) (.ref (He.ga K "InvalidTables")) = some b1 := QW.fa_cons ⟨(x_InvalidTable t).x, _, _, rfl, k_InvalidTable_InvalidTable t, k_InvalidTable_InvalidTables t⟩ (QW.fa_cons ⟨(x_InvalidTables t).x, _, _, rfl, k_InvalidTables_InvalidTable t, k_InvalidTables_InvalidTables t⟩ (QW.fa_cons ⟨(x_InvalidScheme t).x, _, _, rfl, k_InvalidScheme_InvalidTable t, k_InvalidScheme_InvalidTables t⟩ (QW.fa_cons ⟨(x_InvalidSchemes t).x, _, _, rfl, k_InvalidSchemes_InvalidTable t, k_InvalidSchemes_InvalidTables t⟩ (QW.fa_nil))))
theorem P4a_e : [He.ga K "InvalidTable", He.ga K "InvalidTables", He.ga K "InvalidScheme", He.ga K "InvalidSchemes"].map QW.Exc = (P4a K).map fun p => QW.Exc p.1 := by simp only [P4a, List.map_cons, List.map_nil]
def P4b (K : PySem.W.Frag) : List (Addr × List Bool) := [(He.ga K "InvalidTable", [false, false]), (He.ga K "InvalidTables", [false, false]), (He.ga K "InvalidScheme", [true, false]), (He.ga K "InvalidSchemes", [false, true])]
theorem P4b_h (t : T K mg base) : ∀ p ∈ P4b K, QE.ExX K p.1 ∧ ∃ b0 b1 : Bool, p.2 = [b0, b1] ∧ PySem.W.kitOne K (.ref p.1) (.ref (He.ga K "InvalidScheme")) = some b0 ∧ PySem.W.kitOne K (.ref p.1) (.ref (He.ga K "InvalidSchemes")) = some b1 := QW.fa_cons ⟨(x_InvalidTable t).x, _, _, rfl, k_InvalidTable_InvalidScheme t, k_InvalidTable_InvalidSchemes t⟩ (QW.fa_cons ⟨(x_InvalidTables t).x, _, _, rfl, k_InvalidTables_InvalidScheme t, k_InvalidTables_InvalidSchemes t⟩ (QW.fa_cons ⟨(x_InvalidScheme t).x, _, _, rfl, k_InvalidScheme_InvalidScheme t, k_InvalidScheme_InvalidSchemes t⟩ (QW.fa_cons ⟨(x_InvalidSchemes t).x, _, _, rfl, k_InvalidSchemes_InvalidScheme t, k_InvalidSchemes_InvalidSchemes t⟩ (QW.fa_nil))))
theorem P4b_e : [He.ga K "InvalidTable", He.ga K "InvalidTables", He.ga K "InvalidScheme", He.ga K "InvalidSchemes"].map QW.Exc = (P4b K).map fun p => QW.Exc p.1 := by simp only [P4b, List.map_cons, List.map_nil]
def sumB (bs : List Bool) : Int := (bs.map fun b => if b then (1 : Int) else 0).sum
theorem ev_sumB {w : QW.Wd} {σ : L2.St} {F H : Hp} {te : TE} {bs : List Bool} (o : QW.Ok w F H) (h : QW.EvW w (QW.Li (bs.map fun b => QW.Is (.int (if b then 1 else 0)))) te σ F H) : QW.EvW w (QW.Is (.int (sumB bs))) (tCB (rSum K) (tCons te tNil)) σ F H := by
  have e : (bs.map fun b => QW.Is (.int (if b then 1 else 0))) = (bs.map fun b => if b then (1 : Int) else 0).map (fun n => QW.Is (.int n)) := by rw [List.map_map]; rfl
  rw [e] at h
  exact QW.ev_cb o (QW.ea_cons o (QW.Li.mo (QW.mos_map (f := fun n : Int => QW.Is (.int n)) (fun n => QW.Is.mo _) _)) h (QW.ea_nil o)) QW.ca_sum
theorem evLi {w : QW.Wd} {σ : L2.St} {F H : Hp} {te : TE} {Rs Ss : List QW.Pr} (e : Rs = Ss) (h : QW.EvW w (QW.Li Rs) te σ F H) : QW.EvW w (QW.Li Ss) te σ F H := e ▸ h
abbrev BL (b : Bool) : QW.Pr := QW.Is (.bl b)
abbrev BLs (bs : List Bool) : QW.Pr := QW.Li (bs.map BL)
theorem mbl (bs : List Bool) : ∀ R ∈ bs.map BL, QW.Mo R := QW.mos_map (f := BL) (fun b => QW.Is.mo _) bs
def sums13 : List Int := [1, 0, 0, 0, 1, 0, 0, 0, 0, 1, 0, 0, 0]
theorem P13_s : ((P13 K).map fun p => QW.Is (.int (sumB p.2))) = sums13.map fun n => QW.Is (.int n) := by
  simp only [P13, sums13, List.map_cons, List.map_nil]
  rfl
theorem P4a_s : ((P4a K).map fun p => BLs p.2) = [[true, false], [false, true], [false, false], [false, false]].map BLs := by simp only [P4a, List.map_cons, List.map_nil]
theorem P4b_s : ((P4b K).map fun p => BLs p.2) = [[false, false], [false, false], [true, false], [false, true]].map BLs := by simp only [P4b, List.map_cons, List.map_nil]
abbrev sD : PyData := .list (sums13.map .int)
abbrev rD (rows : List (List Bool)) : PyData := .list (rows.map fun bs => .list (bs.map .bool))
abbrev rA : List (List Bool) := [[true, false], [false, true], [false, false], [false, false]]
abbrev rB : List (List Bool) := [[false, false], [false, false], [true, false], [false, true]]
theorem sD_k : sD.hasDict = false ∧ SeqAt.shaped sD = true ∧ (!PyData.eqv sD sD) = false := by decide +kernel
theorem rA_k : (rD rA).hasDict = false ∧ SeqAt.shaped (rD rA) = true ∧ (!PyData.eqv (rD rA) (rD rA)) = false := by decide +kernel
theorem rB_k : (rD rB).hasDict = false ∧ SeqAt.shaped (rD rB) = true ∧ PyData.eqv (rD rB) (rD rB) = true := by decide +kernel

theorem s__law_unlike_right : FnScope ["one", "other", "rows", "flags", "e", "row", "flag", "more"] ["one", "other"] (defScope (top 49)) := ⟨rfl, rfl, rfl, by decide +kernel, rfl, by decide +kernel, by decide +kernel⟩
theorem c__law_unlike_right (t : T K mg base) : QC.Cal P w K mg base L2.CX0 4 "_law_unlike_right" spTwo [] := by
  obtain ⟨fd, F⟩ := t.c.def_ 11
  have sc := s__law_unlike_right
  refine QC.cal (k := 3) F (g__law_unlike_right t) (fun _ _ _ _ _ _ us hl => match us, hl with | [_, _], _ => rfl) sc spTwo.len (fun cdv A outer s H vs Q E gd hr h => ?_)
  have hu := QC.hu64 hr
  refine ⟨_, PSs.nox (pss_cons (ps_set (i := 2) sc.nd rfl (by first | exact .inl rfl | exact .inr rfl) (QC.pe_q (c__law_values t) gd hr (by decide) pass0 rfl (pa_cons (pv 0) pa_nil)))
      (pss_cons (ps_setLc (i := 3) rfl sc.nd rfl rfl rfl (QK.pi_list (K := K) rfl (pv 2)) (blkOk_by (own := [("e", 4)]) (by show blkC ["one", "other", "rows", "flags", "e", "row", "flag", "more"] (defScope (top 49)) _ _ = true; decide +kernel)) (fun _ _ _ _ _ => (pg_name (i := 4) sc.nd rfl (by first | exact .inl rfl | exact .inr rfl))) (fun _ _ _ _ _ => pts_nil) (fun _ _ _ _ _ => (pe_lst (pa_cons (pe_callB (QK.call_isX (K := K) rfl (exm t)) rfl (n_isinstance t) (by decide +kernel) (pa_cons (pv 4) (pa_cons (pe_glob (v := .ref (He.ga K "InvalidName")) rfl (g_InvalidName t) rfl) pa_nil))) (pa_cons (pe_callB (QK.call_isX (K := K) rfl (exm t)) rfl (n_isinstance t) (by decide +kernel) (pa_cons (pv 4) (pa_cons (pe_glob (v := .ref (He.ga K "InvalidValue")) rfl (g_InvalidValue t) rfl) pa_nil))) (pa_cons (pe_callB (QK.call_isX (K := K) rfl (exm t)) rfl (n_isinstance t) (by decide +kernel) (pa_cons (pv 4) (pa_cons (pe_glob (v := .ref (He.ga K "InvalidShape")) rfl (g_InvalidShape t) rfl) pa_nil))) pa_nil))))))
      (pss_cons (ps_if (pt_cmpR (QK.op_neD (K := K) rfl hu) (pe_lc rfl sc.nd (QK.pi_list (K := K) rfl (pv 3)) (blkOk_by (own := [("row", 5)]) (by show blkC ["one", "other", "rows", "flags", "e", "row", "flag", "more"] (defScope (top 49)) _ _ = true; decide +kernel)) (fun _ _ _ _ _ => (pg_name (i := 5) sc.nd rfl (by first | exact .inl rfl | exact .inr rfl))) (fun _ _ _ _ _ => pts_nil) (fun _ _ _ _ _ => (pe_callB (QK.cr_sum (K := K) rfl rfl) rfl (n_sum t) (by decide +kernel) (pa_cons (pe_lc rfl sc.nd (QK.pi_list (K := K) rfl (pv 5)) (blkOk_by (own := [("flag", 6)]) (by show blkC ["one", "other", "rows", "flags", "e", "row", "flag", "more"] (relS _ (defScope (top 49))) _ _ = true; decide +kernel)) (fun _ _ _ _ _ => (pg_name (i := 6) sc.nd rfl (by first | exact .inl rfl | exact .inr rfl))) (fun _ _ _ _ _ => pts_nil) (fun _ _ _ _ _ => (pe_callTy call_int1 rfl (n_int t) (by decide +kernel) (pa_cons (pv 6) pa_nil)))) pa_nil)))) (pe_lst (pa_cons pe_int (pa_cons pe_int (pa_cons pe_int (pa_cons pe_int (pa_cons pe_int (pa_cons pe_int (pa_cons pe_int (pa_cons pe_int (pa_cons pe_int (pa_cons pe_int (pa_cons pe_int (pa_cons pe_int (pa_cons pe_int pa_nil)))))))))))))) (nomark _)) (pss_one (ps_ret pe_bl)) pss_nil)
      (pss_cons (ps_set (i := 2) sc.nd rfl (by first | exact .inl rfl | exact .inr rfl) (pe_lst (pa_cons (QE.pe_mkE (m_InvalidTable t) hr (by decide) rfl (pa_cons (pv 0) pa_nil)) (pa_cons (QE.pe_mkE (m_InvalidTables t) hr (by decide) rfl (pa_cons (pv 0) (pa_cons (pv 1) pa_nil))) (pa_cons (QE.pe_mkE (m_InvalidScheme t) hr (by decide) rfl (pa_cons (pv 0) (pa_cons (pv 1) pa_nil))) (pa_cons (QE.pe_mkE (m_InvalidSchemes t) hr (by decide) rfl (pa_cons (pv 0) pa_nil)) pa_nil))))))
      (pss_cons (ps_setLc (i := 3) rfl sc.nd rfl rfl rfl (QK.pi_list (K := K) rfl (pv 2)) (blkOk_by (own := [("e", 4)]) (by show blkC ["one", "other", "rows", "flags", "e", "row", "flag", "more"] (defScope (top 49)) _ _ = true; decide +kernel)) (fun _ _ _ _ _ => (pg_name (i := 4) sc.nd rfl (by first | exact .inl rfl | exact .inr rfl))) (fun _ _ _ _ _ => pts_nil) (fun _ _ _ _ _ => (pe_lst (pa_cons (pe_callB (QK.call_isX (K := K) rfl (exm t)) rfl (n_isinstance t) (by decide +kernel) (pa_cons (pv 4) (pa_cons (pe_glob (v := .ref (He.ga K "InvalidTable")) rfl (g_InvalidTable t) rfl) pa_nil))) (pa_cons (pe_callB (QK.call_isX (K := K) rfl (exm t)) rfl (n_isinstance t) (by decide +kernel) (pa_cons (pv 4) (pa_cons (pe_glob (v := .ref (He.ga K "InvalidTables")) rfl (g_InvalidTables t) rfl) pa_nil))) pa_nil)))))
      (pss_cons (ps_setLc (i := 7) rfl sc.nd rfl rfl rfl (QK.pi_list (K := K) rfl (pv 2)) (blkOk_by (own := [("e", 4)]) (by show blkC ["one", "other", "rows", "flags", "e", "row", "flag", "more"] (defScope (top 49)) _ _ = true; decide +kernel)) (fun _ _ _ _ _ => (pg_name (i := 4) sc.nd rfl (by first | exact .inl rfl | exact .inr rfl))) (fun _ _ _ _ _ => pts_nil) (fun _ _ _ _ _ => (pe_lst (pa_cons (pe_callB (QK.call_isX (K := K) rfl (exm t)) rfl (n_isinstance t) (by decide +kernel) (pa_cons (pv 4) (pa_cons (pe_glob (v := .ref (He.ga K "InvalidScheme")) rfl (g_InvalidScheme t) rfl) pa_nil))) (pa_cons (pe_callB (QK.call_isX (K := K) rfl (exm t)) rfl (n_isinstance t) (by decide +kernel) (pa_cons (pv 4) (pa_cons (pe_glob (v := .ref (He.ga K "InvalidSchemes")) rfl (g_InvalidSchemes t) rfl) pa_nil))) pa_nil)))))
      (pss_cons (ps_if (pt_cmpR (QK.op_neD (K := K) rfl hu) (pv 3) (pe_lst (pa_cons (pe_lst (pa_cons pe_bl (pa_cons pe_bl pa_nil))) (pa_cons (pe_lst (pa_cons pe_bl (pa_cons pe_bl pa_nil))) (pa_cons (pe_lst (pa_cons pe_bl (pa_cons pe_bl pa_nil))) (pa_cons (pe_lst (pa_cons pe_bl (pa_cons pe_bl pa_nil))) pa_nil))))) (nomark _)) (pss_one (ps_ret pe_bl)) pss_nil)
      (pss_one (ps_ret (pe_cmpR (QK.op_eqD (K := K) rfl hu) (pv 7) (pe_lst (pa_cons (pe_lst (pa_cons pe_bl (pa_cons pe_bl pa_nil))) (pa_cons (pe_lst (pa_cons pe_bl (pa_cons pe_bl pa_nil))) (pa_cons (pe_lst (pa_cons pe_bl (pa_cons pe_bl pa_nil))) (pa_cons (pe_lst (pa_cons pe_bl (pa_cons pe_bl pa_nil))) pa_nil))))) (nomark _))))))))))), ?_⟩
  obtain ⟨⟨v0, v1⟩, F, o, al, q⟩ := h
  obtain rfl := QW.Al.is (f := fun v : V => v) (xs := [v0, v1]) al
  refine QW.q_asgS (R := (QW.Li ((P13 K).map fun p => QW.Exc p.1))) (fun x => [some v0, some v1, some x, none, none, none, none, none]) o (evLi P13_e (QW.EvW.imp (QW.ev_call0 (A := fun v : V => [QW.Is v]) (Rf := fun v => QW.Li ((C13 K).map (ExV v))) v0 o (QW.ea_cons o (QW.Is.mo _) (QW.ev_var o (QW.Is.mo _) rfl rfl) (QW.ea_nil o))) fun v F' _ r => QW.Li.imp (f := ExV _) (g := QW.Exc) (xs := C13 K) (fun C _ v h => h.exc) r)) fun v1_0 F1 H1 g1 r1_0 => ?_
  have o1 := g1.ok o
  have G1 := g1
  refine QW.q_asgS (R := (QW.Li ((P13 K).map fun p => BLs p.2))) (fun x => [some v0, some v1, some v1_0, some x, none, none, none, none]) o1 (QW.ev_mapC (Cs := P13 K) (f := fun p => QW.Exc p.1) (g := fun p => BLs p.2) o1 (fun x => rfl) (QW.ev_var o1 (QW.Li.mo (QW.mos_map (f := fun p : Addr × List Bool => QW.Exc p.1) (fun p => QW.Exc.mo) (P13 K))) rfl r1_0) (fun C => QW.Exc.mo) (fun C => QW.Li.mo (mbl _)) (show 13 ≤ 100000 by decide) (fun p x G H' hp hx g => by
      obtain ⟨hX, b0, b1, b2, e, h0, h1, h2⟩ := P13_h t p hp
      show QW.EvW _ (BLs p.2) _ _ _ _
      rw [e]
      exact QW.ev_lst (g.ok o1) (mbl [b0, b1, b2]) (QW.ea_cons (g.ok o1) (QW.Is.mo _) (QW.ev_is1 (g.ok o1) hX (fun u h => h) h0 (QW.ev_var (g.ok o1) QW.Exc.mo rfl hx)) (QW.ea_cons (g.ok o1) (QW.Is.mo _) (QW.ev_is1 (g.ok o1) hX (fun u h => h) h1 (QW.ev_var (g.ok o1) QW.Exc.mo rfl hx)) (QW.ea_cons (g.ok o1) (QW.Is.mo _) (QW.ev_is1 (g.ok o1) hX (fun u h => h) h2 (QW.ev_var (g.ok o1) QW.Exc.mo rfl hx)) (QW.ea_nil (g.ok o1))))) (show 3 ≤ 100000 by decide))) fun v2_0 F2 H2 g2 r2_0 => ?_
  have o2 := g2.ok o1
  have G2 := G1.trans o g2
  have e2_2 := (QW.Li.mo (QW.mos_map (f := fun p : Addr × List Bool => QW.Exc p.1) (fun p => QW.Exc.mo) (P13 K))) _ _ _ g2.g.ff r1_0
  refine QW.q_no o2 (QW.et_val (QW.ev_neD (d := sD) (e := sD) o2 (QW.EvW.intsD (bs := sums13) (evLi P13_s (QW.ev_mapC (Cs := P13 K) (f := fun p => BLs p.2) (g := fun p => QW.Is (.int (sumB p.2))) o2 (fun x => rfl) (QW.ev_var o2 (QW.Li.mo (QW.mos_map (f := fun p : Addr × List Bool => BLs p.2) (fun p => QW.Li.mo (mbl _)) (P13 K))) rfl r2_0) (fun C => QW.Li.mo (mbl _)) (fun C => QW.Is.mo _) (show 13 ≤ 100000 by decide) (fun p x G H' hp hx g => by
      obtain ⟨hX, b0, b1, b2, e, _⟩ := P13_h t p hp
      refine ev_sumB (g.ok o2) (QW.ev_mapC (Cs := p.2) (f := BL) (g := fun b => QW.Is (.int (if b then 1 else 0))) (g.ok o2) (fun x => rfl) (QW.ev_var (g.ok o2) (QW.Li.mo (mbl p.2)) rfl hx) (fun b => QW.Is.mo _) (fun b => QW.Is.mo _) (by rw [e]; exact (show 3 ≤ 100000 by decide)) (fun b y G2 H2 hb hy g2 => ?_))
      exact QW.ev_cb (g2.ok (g.ok o2)) (QW.ea_cons (g2.ok (g.ok o2)) (QW.Is.mo _) (QW.ev_var (g2.ok (g.ok o2)) (QW.Is.mo _) rfl hy) (QW.ea_nil (g2.ok (g.ok o2)))) QW.ca_intB)))) (QW.EvW.intsD (bs := sums13) (QW.ev_lst o2 (QW.mos_map (f := fun n : Int => QW.Is (.int n)) (fun n => QW.Is.mo _) sums13) (QW.ea_cons o2 (QW.Is.mo _) (QW.ev_c o2 fun _ => rfl) (QW.ea_cons o2 (QW.Is.mo _) (QW.ev_c o2 fun _ => rfl) (QW.ea_cons o2 (QW.Is.mo _) (QW.ev_c o2 fun _ => rfl) (QW.ea_cons o2 (QW.Is.mo _) (QW.ev_c o2 fun _ => rfl) (QW.ea_cons o2 (QW.Is.mo _) (QW.ev_c o2 fun _ => rfl) (QW.ea_cons o2 (QW.Is.mo _) (QW.ev_c o2 fun _ => rfl) (QW.ea_cons o2 (QW.Is.mo _) (QW.ev_c o2 fun _ => rfl) (QW.ea_cons o2 (QW.Is.mo _) (QW.ev_c o2 fun _ => rfl) (QW.ea_cons o2 (QW.Is.mo _) (QW.ev_c o2 fun _ => rfl) (QW.ea_cons o2 (QW.Is.mo _) (QW.ev_c o2 fun _ => rfl) (QW.ea_cons o2 (QW.Is.mo _) (QW.ev_c o2 fun _ => rfl) (QW.ea_cons o2 (QW.Is.mo _) (QW.ev_c o2 fun _ => rfl) (QW.ea_cons o2 (QW.Is.mo _) (QW.ev_c o2 fun _ => rfl) (QW.ea_nil o2)))))))))))))) (show 13 ≤ 100000 by decide))) sD_k.1 sD_k.1 sD_k.2.1 sD_k.2.1 sD_k.2.2)) fun F3 H3 g3 => ?_
  have o3 := g3.ok o2
  have G3 := G2.trans o g3
  have e3_2 := (QW.Li.mo (QW.mos_map (f := fun p : Addr × List Bool => QW.Exc p.1) (fun p => QW.Exc.mo) (P13 K))) _ _ _ g3.g.ff e2_2
  have e3_3 := (QW.Li.mo (QW.mos_map (f := fun p : Addr × List Bool => BLs p.2) (fun p => QW.Li.mo (mbl _)) (P13 K))) _ _ _ g3.g.ff r2_0
  refine QW.q_asgS (R := (QW.Li ((P4a K).map fun p => QW.Exc p.1))) (fun x => [some v0, some v1, some x, some v2_0, none, none, none, none]) o3 (evLi P4a_e (QW.ev_lst o3 (QW.mos_map (f := QW.Exc) (fun _ => QW.Exc.mo) [He.ga K "InvalidTable", He.ga K "InvalidTables", He.ga K "InvalidScheme", He.ga K "InvalidSchemes"]) (QW.ea_cons o3 QW.Exc.mo (QW.EvW.imp (QW.ev_mk (C := He.ga K "InvalidTable") (names := ["value"]) (ws := [v0]) o3 (QW.ea_cons o3 (QW.Is.mo _) (QW.ev_var o3 (QW.Is.mo _) rfl rfl) (QW.ea_nil o3)) (by rfl) (show 1 ≤ 1000 by decide)) fun v F' _ r => r.exc) (QW.ea_cons o3 QW.Exc.mo (QW.EvW.imp (QW.ev_mk (C := He.ga K "InvalidTables") (names := ["kind", "name"]) (ws := [v0, v1]) o3 (QW.ea_cons o3 (QW.Is.mo _) (QW.ev_var o3 (QW.Is.mo _) rfl rfl) (QW.ea_cons o3 (QW.Is.mo _) (QW.ev_var o3 (QW.Is.mo _) rfl rfl) (QW.ea_nil o3))) (by rfl) (show 2 ≤ 1000 by decide)) fun v F' _ r => r.exc) (QW.ea_cons o3 QW.Exc.mo (QW.EvW.imp (QW.ev_mk (C := He.ga K "InvalidScheme") (names := ["problem", "position"]) (ws := [v0, v1]) o3 (QW.ea_cons o3 (QW.Is.mo _) (QW.ev_var o3 (QW.Is.mo _) rfl rfl) (QW.ea_cons o3 (QW.Is.mo _) (QW.ev_var o3 (QW.Is.mo _) rfl rfl) (QW.ea_nil o3))) (by rfl) (show 2 ≤ 1000 by decide)) fun v F' _ r => r.exc) (QW.ea_cons o3 QW.Exc.mo (QW.EvW.imp (QW.ev_mk (C := He.ga K "InvalidSchemes") (names := ["position"]) (ws := [v0]) o3 (QW.ea_cons o3 (QW.Is.mo _) (QW.ev_var o3 (QW.Is.mo _) rfl rfl) (QW.ea_nil o3)) (by rfl) (show 1 ≤ 1000 by decide)) fun v F' _ r => r.exc) (QW.ea_nil o3))))) (show 4 ≤ 100000 by decide))) fun v4_0 F4 H4 g4 r4_0 => ?_
  have o4 := g4.ok o3
  have G4 := G3.trans o g4
  have e4_3 := (QW.Li.mo (QW.mos_map (f := fun p : Addr × List Bool => BLs p.2) (fun p => QW.Li.mo (mbl _)) (P13 K))) _ _ _ g4.g.ff e3_3
  refine QW.q_asgS (R := (QW.Li ((P4a K).map fun p => BLs p.2))) (fun x => [some v0, some v1, some v4_0, some x, none, none, none, none]) o4 (QW.ev_mapC (Cs := P4a K) (f := fun p => QW.Exc p.1) (g := fun p => BLs p.2) o4 (fun x => rfl) (QW.ev_var o4 (QW.Li.mo (QW.mos_map (f := fun p : Addr × List Bool => QW.Exc p.1) (fun p => QW.Exc.mo) (P4a K))) rfl r4_0) (fun C => QW.Exc.mo) (fun C => QW.Li.mo (mbl _)) (show 4 ≤ 100000 by decide) (fun p x G H' hp hx g => by
      obtain ⟨hX, b0, b1, e, h0, h1⟩ := P4a_h t p hp
      show QW.EvW _ (BLs p.2) _ _ _ _
      rw [e]
      exact QW.ev_lst (g.ok o4) (mbl [b0, b1]) (QW.ea_cons (g.ok o4) (QW.Is.mo _) (QW.ev_is1 (g.ok o4) hX (fun u h => h) h0 (QW.ev_var (g.ok o4) QW.Exc.mo rfl hx)) (QW.ea_cons (g.ok o4) (QW.Is.mo _) (QW.ev_is1 (g.ok o4) hX (fun u h => h) h1 (QW.ev_var (g.ok o4) QW.Exc.mo rfl hx)) (QW.ea_nil (g.ok o4)))) (show 2 ≤ 100000 by decide))) fun v5_0 F5 H5 g5 r5_0 => ?_
  have o5 := g5.ok o4
  have G5 := G4.trans o g5
  have e5_2 := (QW.Li.mo (QW.mos_map (f := fun p : Addr × List Bool => QW.Exc p.1) (fun p => QW.Exc.mo) (P4a K))) _ _ _ g5.g.ff r4_0
  refine QW.q_asgS (R := (QW.Li ((P4b K).map fun p => BLs p.2))) (fun x => [some v0, some v1, some v4_0, some v5_0, none, none, none, some x]) o5 (QW.ev_mapC (Cs := P4b K) (f := fun p => QW.Exc p.1) (g := fun p => BLs p.2) o5 (fun x => rfl) (evLi (P4a_e.symm.trans P4b_e) (QW.ev_var o5 (QW.Li.mo (QW.mos_map (f := fun p : Addr × List Bool => QW.Exc p.1) (fun p => QW.Exc.mo) (P4a K))) rfl e5_2)) (fun C => QW.Exc.mo) (fun C => QW.Li.mo (mbl _)) (show 4 ≤ 100000 by decide) (fun p x G H' hp hx g => by
      obtain ⟨hX, b0, b1, e, h0, h1⟩ := P4b_h t p hp
      show QW.EvW _ (BLs p.2) _ _ _ _
      rw [e]
      exact QW.ev_lst (g.ok o5) (mbl [b0, b1]) (QW.ea_cons (g.ok o5) (QW.Is.mo _) (QW.ev_is1 (g.ok o5) hX (fun u h => h) h0 (QW.ev_var (g.ok o5) QW.Exc.mo rfl hx)) (QW.ea_cons (g.ok o5) (QW.Is.mo _) (QW.ev_is1 (g.ok o5) hX (fun u h => h) h1 (QW.ev_var (g.ok o5) QW.Exc.mo rfl hx)) (QW.ea_nil (g.ok o5)))) (show 2 ≤ 100000 by decide))) fun v6_0 F6 H6 g6 r6_0 => ?_
  have o6 := g6.ok o5
  have G6 := G5.trans o g6
  have e6_2 := (QW.Li.mo (QW.mos_map (f := fun p : Addr × List Bool => QW.Exc p.1) (fun p => QW.Exc.mo) (P4a K))) _ _ _ g6.g.ff e5_2
  have e6_3 := (QW.Li.mo (QW.mos_map (f := fun p : Addr × List Bool => BLs p.2) (fun p => QW.Li.mo (mbl _)) (P4a K))) _ _ _ g6.g.ff r5_0
  refine QW.q_no o6 (QW.et_val (QW.ev_neD (d := rD rA) (e := rD rA) o6 (QW.EvW.rowsB (rows := rA) (evLi P4a_s (QW.ev_var o6 (QW.Li.mo (QW.mos_map (f := fun p : Addr × List Bool => BLs p.2) (fun p => QW.Li.mo (mbl _)) (P4a K))) rfl e6_3))) (QW.EvW.rowsB (rows := rA) (QW.ev_lst o6 (QW.mos_map (f := BLs) (fun bs => QW.Li.mo (mbl bs)) [[true, false], [false, true], [false, false], [false, false]]) (QW.ea_cons o6 (QW.Li.mo (mbl [true, false])) (QW.ev_lst o6 (mbl [true, false]) (QW.ea_cons o6 (QW.Is.mo _) (QW.ev_c o6 fun _ => rfl) (QW.ea_cons o6 (QW.Is.mo _) (QW.ev_c o6 fun _ => rfl) (QW.ea_nil o6))) (show 2 ≤ 100000 by decide)) (QW.ea_cons o6 (QW.Li.mo (mbl [false, true])) (QW.ev_lst o6 (mbl [false, true]) (QW.ea_cons o6 (QW.Is.mo _) (QW.ev_c o6 fun _ => rfl) (QW.ea_cons o6 (QW.Is.mo _) (QW.ev_c o6 fun _ => rfl) (QW.ea_nil o6))) (show 2 ≤ 100000 by decide)) (QW.ea_cons o6 (QW.Li.mo (mbl [false, false])) (QW.ev_lst o6 (mbl [false, false]) (QW.ea_cons o6 (QW.Is.mo _) (QW.ev_c o6 fun _ => rfl) (QW.ea_cons o6 (QW.Is.mo _) (QW.ev_c o6 fun _ => rfl) (QW.ea_nil o6))) (show 2 ≤ 100000 by decide)) (QW.ea_cons o6 (QW.Li.mo (mbl [false, false])) (QW.ev_lst o6 (mbl [false, false]) (QW.ea_cons o6 (QW.Is.mo _) (QW.ev_c o6 fun _ => rfl) (QW.ea_cons o6 (QW.Is.mo _) (QW.ev_c o6 fun _ => rfl) (QW.ea_nil o6))) (show 2 ≤ 100000 by decide)) (QW.ea_nil o6))))) (show 4 ≤ 100000 by decide))) rA_k.1 rA_k.1 rA_k.2.1 rA_k.2.1 rA_k.2.2)) fun F7 H7 g7 => ?_
  have o7 := g7.ok o6
  have G7 := G6.trans o g7
  have e7_2 := (QW.Li.mo (QW.mos_map (f := fun p : Addr × List Bool => QW.Exc p.1) (fun p => QW.Exc.mo) (P4a K))) _ _ _ g7.g.ff e6_2
  have e7_3 := (QW.Li.mo (QW.mos_map (f := fun p : Addr × List Bool => BLs p.2) (fun p => QW.Li.mo (mbl _)) (P4a K))) _ _ _ g7.g.ff e6_3
  have e7_7 := (QW.Li.mo (QW.mos_map (f := fun p : Addr × List Bool => BLs p.2) (fun p => QW.Li.mo (mbl _)) (P4b K))) _ _ _ g7.g.ff r6_0
  exact QW.q_ret (R := QW.Is (.bl true)) o7 (QW.ev_eqD (d := rD rB) (e := rD rB) o7 (QW.EvW.rowsB (rows := rB) (evLi P4b_s (QW.ev_var o7 (QW.Li.mo (QW.mos_map (f := fun p : Addr × List Bool => BLs p.2) (fun p => QW.Li.mo (mbl _)) (P4b K))) rfl e7_7))) (QW.EvW.rowsB (rows := rB) (QW.ev_lst o7 (QW.mos_map (f := BLs) (fun bs => QW.Li.mo (mbl bs)) [[false, false], [false, false], [true, false], [false, true]]) (QW.ea_cons o7 (QW.Li.mo (mbl [false, false])) (QW.ev_lst o7 (mbl [false, false]) (QW.ea_cons o7 (QW.Is.mo _) (QW.ev_c o7 fun _ => rfl) (QW.ea_cons o7 (QW.Is.mo _) (QW.ev_c o7 fun _ => rfl) (QW.ea_nil o7))) (show 2 ≤ 100000 by decide)) (QW.ea_cons o7 (QW.Li.mo (mbl [false, false])) (QW.ev_lst o7 (mbl [false, false]) (QW.ea_cons o7 (QW.Is.mo _) (QW.ev_c o7 fun _ => rfl) (QW.ea_cons o7 (QW.Is.mo _) (QW.ev_c o7 fun _ => rfl) (QW.ea_nil o7))) (show 2 ≤ 100000 by decide)) (QW.ea_cons o7 (QW.Li.mo (mbl [true, false])) (QW.ev_lst o7 (mbl [true, false]) (QW.ea_cons o7 (QW.Is.mo _) (QW.ev_c o7 fun _ => rfl) (QW.ea_cons o7 (QW.Is.mo _) (QW.ev_c o7 fun _ => rfl) (QW.ea_nil o7))) (show 2 ≤ 100000 by decide)) (QW.ea_cons o7 (QW.Li.mo (mbl [false, true])) (QW.ev_lst o7 (mbl [false, true]) (QW.ea_cons o7 (QW.Is.mo _) (QW.ev_c o7 fun _ => rfl) (QW.ea_cons o7 (QW.Is.mo _) (QW.ev_c o7 fun _ => rfl) (QW.ea_nil o7))) (show 2 ≤ 100000 by decide)) (QW.ea_nil o7))))) (show 4 ≤ 100000 by decide))) rB_k.1 rB_k.1 rB_k.2.1 rB_k.2.1 rB_k.2.2) fun v F' H' g r => q v F' H' (G7.trans o g) r

end
end K18

set_option Elab.async false
set_option linter.all false
set_option maxRecDepth 100000
set_option maxHeartbeats 1000000
namespace K18
open PySem PySem.Spec PyProof.Rows L2

def sel {α : Type} (a b c d : α) : Nat → α
  | 0 => a
  | 1 => b
  | 2 => c
  | _ => d
def idx : List (List Nat) := [[0], [0], [0], [0], [0], [0], [0], [0], [0], [0], [0], [0], [0], [0], [0], [0], [0], [0, 1], [0], [0], [0, 1], [0], [0], [0, 1], [0, 1], [0], [0], [0, 1], [0, 1], [0, 1], [0, 1, 2, 3], [0, 1], [0, 1], [0, 1]]
theorem told_idx (a b c d : V) : told a b c d = idx.map fun r => r.map (sel a b c d) := rfl
def toldD (a b c d : PyData) : List (List PyData) := idx.map fun r => r.map (sel a b c d)
theorem small_opt : ∀ d ∈ optD, QR.Small 20 d := by
  intro d hd
  simp only [optD, List.mem_cons, List.not_mem_nil, or_false] at hd
  rcases hd with rfl | rfl | rfl | rfl | rfl | rfl | rfl | rfl | rfl | rfl | rfl | rfl
  all_goals exact ⟨by decide +kernel, by decide +kernel, by decide +kernel, by decide +kernel⟩
theorem sel_in {α : Type} {p : α → Prop} {a b c d : α} (ha : p a) (hb : p b) (hc : p c) (hd : p d) : ∀ k, p (sel a b c d k)
  | 0 => ha
  | 1 => hb
  | 2 => hc
  | _ + 3 => hd
theorem sel_two {K : PySem.W.Frag} {F : Hp} {u0 u1 u2 u3 : V} {d0 d1 d2 d3 : PyData} (h0 : QR.Dv K F u0 d0) (h1 : QR.Dv K F u1 d1) (h2 : QR.Dv K F u2 d2) (h3 : QR.Dv K F u3 d3) : ∀ k, QR.Dv K F (sel u0 u1 u2 u3 k) (sel d0 d1 d2 d3 k)
  | 0 => h0
  | 1 => h1
  | 2 => h2
  | _ + 3 => h3
theorem row_da {K : PySem.W.Frag} {F : Hp} {f : Nat → V} {g : Nat → PyData} (h : ∀ k, QR.Dv K F (f k) (g k)) : ∀ r : List Nat, QR.DvAll K F (r.map f) (r.map g)
  | [] => .nil
  | k :: r => .cons (h k) (row_da h r)
theorem told_da {K : PySem.W.Frag} {F : Hp} {v u0 u1 u2 u3 : V} {d0 d1 d2 d3 : PyData} (h0 : QR.Dv K F u0 d0) (h1 : QR.Dv K F u1 d1) (h2 : QR.Dv K F u2 d2) (h3 : QR.Dv K F u3 d3) (h : QW.Li ((told u0 u1 u2 u3).map RL) v F) : QW.Da K (.list ((toldD d0 d1 d2 d3).map .list)) v F := by
  rw [told_idx, List.map_map] at h
  rw [toldD, List.map_map]
  refine QW.Li.rows_by (K := K) (f := fun r : List Nat => RL (r.map (sel u0 u1 u2 u3))) (d := fun r : List Nat => PyData.list (r.map (sel d0 d1 d2 d3))) ?_ h
  intro r v hv
  obtain ⟨l, vs, rfl, e1, e2⟩ := hv
  exact .list e1 (QW.Al.isda (row_da (sel_two h0 h1 h2 h3) r) e2)
theorem idx_small : ∀ r ∈ idx, r.length ≤ 4 := by decide
theorem told_shows {d0 d1 d2 d3 : PyData} (h0 : d0 ∈ optD) (h1 : d1 ∈ optD) (h2 : d2 ∈ optD) (h3 : d3 ∈ optD) : QR.Shows (.list ((toldD d0 d1 d2 d3).map .list)) := by
  refine QR.shows_rows (n := 20) (m := 4) (k := 40) (fun r hr => ?_) (by rw [toldD, List.length_map]; decide) (by decide)
  obtain ⟨i, hi, rfl⟩ := List.mem_map.mp hr
  refine ⟨by rw [List.length_map]; exact idx_small i hi, fun d hd => ?_⟩
  obtain ⟨k, _, rfl⟩ := List.mem_map.mp hd
  exact sel_in (p := QR.Small 20) (small_opt _ h0) (small_opt _ h1) (small_opt _ h2) (small_opt _ h3) k

section
variable {P : Program} {w : World} {K : PySem.W.Frag} {mg : Str → Option Value} {base : Heap}

def spLaw (K : PySem.W.Frag) : Sp := fun vs H Q _ => ∃ (a : Addr) (ns : List Int), vs = [.ref a] ∧ ns.length ≤ 63 ∧ SqL K H a (ns.map V.int) ∧ ∀ H', Q (.bl true) H'
theorem s_law : FnScope ["script", "index", "one", "other", "third", "fourth"] ["script"] (defScope (top 50)) := ⟨rfl, rfl, rfl, by decide +kernel, rfl, by decide +kernel, by decide +kernel⟩
theorem law_reads {K : PySem.W.Frag} {σ : L2.St} {F H : Hp} {l : Addr} {D : Ends} : True := trivial
theorem ok_law (t : T K mg base) {fd : FuncData} (F : FunD K "law" "law" (defArgs (top 50)) (defBody (top 50)) (defScope (top 50)) [] [] (He.ga K "law") fd) : QG.FnG P w K mg base L2.CX0 5 (He.ga K "law") fd ["script"] (spLaw K) := by
  have sc := s_law
  refine QC.okG (k := 4) F sc (fun vs H Q E h => by obtain ⟨a, ns, rfl, _⟩ := h; rfl) (fun cdv A outer s H vs Q E gd hr h => ?_)
  refine ⟨_, PSs.nox (pss_cons (ps_for PassesOwn.never rfl (pi_range1 rfl (n_range t) (pa_cons (pe_callB (call_max2 rfl) rfl (n_max t) (by decide +kernel) (pa_cons pe_int (pa_cons (pe_callB (call_min2 rfl) rfl (n_min t) (by decide +kernel) (pa_cons (pe_callB (QK.call_len_seq (K := K) rfl) rfl (n_len t) (by decide +kernel) (pa_cons (pv 0) pa_nil)) (pa_cons pe_int pa_nil))) pa_nil))) pa_nil)) (pg_name (i := 1) sc.nd rfl (by first | exact .inl rfl | exact .inr rfl)) (pss_cons (ps_asg (QC.pe_q (c__law_things t) gd hr (by decide) pass0 rfl (pa_cons (QC.pe_q (c__law_pot t) gd hr (by decide) pass0 rfl (pa_cons (pv 0) (pa_cons (pv 1) pa_nil))) pa_nil)) (pg_unl rfl (pgs_cons (pg_name (i := 2) sc.nd rfl (by first | exact .inl rfl | exact .inr rfl)) (pgs_cons (pg_name (i := 3) sc.nd rfl (by first | exact .inl rfl | exact .inr rfl)) (pgs_cons (pg_name (i := 4) sc.nd rfl (by first | exact .inl rfl | exact .inr rfl)) (pgs_cons (pg_name (i := 5) sc.nd rfl (by first | exact .inl rfl | exact .inr rfl)) pgs_nil))))))
      (pss_cons (ps_if (pt_cmpR op_ne (pe_callB (QK.call_repr (K := K) rfl gd hr (sysk t)) rfl (n_repr t) (by decide +kernel) (pa_cons (QC.pe_q (c__law_told t) gd hr (by decide) pass0 rfl (pa_cons (pv 2) (pa_cons (pv 3) (pa_cons (pv 4) (pa_cons (pv 5) pa_nil))))) pa_nil)) (pe_callB (QK.call_repr (K := K) rfl gd hr (sysk t)) rfl (n_repr t) (by decide +kernel) (pa_cons (QC.pe_q (c__law_due t) gd hr (by decide) pass0 rfl (pa_cons (pv 2) (pa_cons (pv 3) (pa_cons (pv 4) (pa_cons (pv 5) pa_nil))))) pa_nil)) (nomark _)) (pss_one (ps_ret pe_bl)) pss_nil)
      (pss_one (ps_if (PW.pt (pw_or (pt_not (pt_val (QC.pe_q (c__law_bases_right t) gd hr (by decide) pass0 rfl (pa_cons (pv 2) (pa_cons (pv 3) pa_nil))))) (pw_or1 (pt_not (pt_val (QC.pe_q (c__law_unlike_right t) gd hr (by decide) pass0 rfl (pa_cons (pv 2) (pa_cons (pv 3) pa_nil)))))))) (pss_one (ps_ret pe_bl)) pss_nil)))))
      (pss_one (ps_ret pe_bl))), ?_⟩
  obtain ⟨a, ns, rfl, hl, hS, q⟩ := h
  have o : QW.Ok QW.W0 H H := ⟨Same.refl H, True.intro, fun _ z => nomatch z⟩
  have e1 := QW.ca_min2 (w := QW.W0) (i := ((ns.map V.int).length : Int)) (j := 4)
  refine QW.q_forR (n := if (if (4 : Int) < ((ns.map V.int).length : Int) then 4 else ((ns.map V.int).length : Int)) > 1 then (if (4 : Int) < ((ns.map V.int).length : Int) then 4 else ((ns.map V.int).length : Int)) else 1) o (by split <;> omega) (by split <;> (try split) <;> omega)
    (QW.ea_cons o (QW.Is.mo _) (QW.ev_cb o (QW.ea_cons o (QW.Is.mo _) (QW.ev_c o fun _ => rfl) (QW.ea_cons o (QW.Is.mo _) (QW.ev_cb o (QW.ea_cons o (QW.Is.mo _) (QW.ev_cb o (QW.ea_cons o QW.Sc.mo (QW.ev_var (R := QW.Sc K a (ns.map V.int)) o QW.Sc.mo rfl ⟨rfl, hS⟩) (QW.ea_nil o)) QW.ca_lenSc) (QW.ea_cons o (QW.Is.mo _) (QW.ev_c o fun _ => rfl) (QW.ea_nil o))) QW.ca_min2) (QW.ea_nil o))) QW.ca_max2) (QW.ea_nil o))
    (fun σ => ∃ x0 x1 x2 x3 x4, σ = [some (.ref a), x0, x1, x2, x3, x4]) ⟨_, _, _, _, _, rfl⟩ (fun i σ' G H' hi hin hσ g => ?_) (fun σ' G H' hσ g => ?_)
  · obtain ⟨x0, x1, x2, x3, x4, rfl⟩ := hσ
    have o1 := g.ok o
    have hi2 : i ≤ 1000 := by split at hin <;> (try split at hin) <;> omega
    refine QW.q_asgG (R := RTh K) o1 (QW.ev_potted (ns := ns) (i := i) (a := a) o1 hi hi2 (QW.ea_cons o1 QW.Sc.mo (QW.ev_var (v := .ref a) o1 QW.Sc.mo rfl ⟨rfl, g.g.ff.seq hS⟩) (QW.ea_cons o1 (QW.Is.mo _) (QW.ev_var o1 (QW.Is.mo _) rfl rfl) (QW.ea_nil o1)))) fun v F1 H1 g1 r1 => ?_
    obtain ⟨ds, hl4, hd, l, us, rfl, hu, al⟩ := r1
    obtain ⟨d0, d1, d2, d3, rfl⟩ : ∃ d0 d1 d2 d3, ds = [d0, d1, d2, d3] := by
      match ds, hl4 with
      | [d0, d1, d2, d3], _ => exact ⟨d0, d1, d2, d3, rfl⟩
    obtain ⟨u0, u1, u2, u3, rfl, f0, f1, f2, f3⟩ : ∃ u0 u1 u2 u3, us = [u0, u1, u2, u3] ∧ QW.Da K d0 u0 F1 ∧ QW.Da K d1 u1 F1 ∧ QW.Da K d2 u2 F1 ∧ QW.Da K d3 u3 F1 := by
      cases al with
      | cons h0 r =>
        cases r with
        | cons h1 r =>
          cases r with
          | cons h2 r =>
            cases r with
            | cons h3 r =>
              cases r
              exact ⟨_, _, _, _, rfl, h0, h1, h2, h3⟩
    have o2 := g1.ok o1
    have m0 := hd d0 (by simp)
    have m1 := hd d1 (by simp)
    have m2 := hd d2 (by simp)
    have m3 := hd d3 (by simp)
    have sh := told_shows m0 m1 m2 m3
    refine ⟨l, _, rfl, .of (o2.s _ _ hu), rfl, _, _, rfl, _, _, rfl, _, _, rfl, _, _, rfl, rfl, ?_⟩
    have four : QW.EvA QW.W0 [QW.Is u0, QW.Is u1, QW.Is u2, QW.Is u3] (tCons (tVar 2) (tCons (tVar 3) (tCons (tVar 4) (tCons (tVar 5) tNil)))) [some (.ref a), some (.int i), some u0, some u1, some u2, some u3] F1 H1 :=
      (QW.ea_cons o2 (QW.Is.mo _) (QW.ev_var o2 (QW.Is.mo _) rfl rfl) (QW.ea_cons o2 (QW.Is.mo _) (QW.ev_var o2 (QW.Is.mo _) rfl rfl) (QW.ea_cons o2 (QW.Is.mo _) (QW.ev_var o2 (QW.Is.mo _) rfl rfl) (QW.ea_cons o2 (QW.Is.mo _) (QW.ev_var o2 (QW.Is.mo _) rfl rfl) (QW.ea_nil o2)))))
    have two : QW.EvA QW.W0 [QW.Is u0, QW.Is u1] (tCons (tVar 2) (tCons (tVar 3) tNil)) [some (.ref a), some (.int i), some u0, some u1, some u2, some u3] F1 H1 :=
      (QW.ea_cons o2 (QW.Is.mo _) (QW.ev_var o2 (QW.Is.mo _) rfl rfl) (QW.ea_cons o2 (QW.Is.mo _) (QW.ev_var o2 (QW.Is.mo _) rfl rfl) (QW.ea_nil o2)))
    have call : QW.EvW QW.W0 (QW.Is (.str (PyData.shown (.list ((toldD d0 d1 d2 d3).map .list))))) (tCB (QR.rRepr K) (tCons (tCall (spRows K) [] E0 (tCons (tVar 2) (tCons (tVar 3) (tCons (tVar 4) (tCons (tVar 5) tNil))))) tNil)) [some (.ref a), some (.int i), some u0, some u1, some u2, some u3] F1 H1 :=
      QW.ev_cb o2 (QW.ea_cons o2 (QW.Da.mo K _) (QW.EvW.imp (QW.ev_call0 (A := fun a : V × V × V × V => [QW.Is a.1, QW.Is a.2.1, QW.Is a.2.2.1, QW.Is a.2.2.2]) (Rf := fun a => QW.Li ((told a.1 a.2.1 a.2.2.1 a.2.2.2).map RL)) (u0, u1, u2, u3) o2 four) fun v F' e r => told_da (QR.Dv.mono e f0) (QR.Dv.mono e f1) (QR.Dv.mono e f2) (QR.Dv.mono e f3) r) (QW.ea_nil o2)) (QW.ca_repr (.inl ⟨_, rfl⟩) sh)
    refine QW.q_no o2 (QW.et_val (QW.EvW.imp (QW.ev_op o2 (QW.Is.mo _) call call (QW.ow_neS' rfl)) fun v F' _ r => by rw [decide_eq_true rfl] at r; exact r)) fun F2 H2 g2 => ?_
    have o3 := g2.ok o2
    have t2 : ∀ {E : XK}, QW.EvW QW.W0 (QW.Is (.bl true)) (tCall spTwo [] E (tCons (tVar 2) (tCons (tVar 3) tNil))) [some (.ref a), some (.int i), some u0, some u1, some u2, some u3] F2 H2 := fun {E} =>
      QW.ev_call0 (A := fun a : V × V => [QW.Is a.1, QW.Is a.2]) (Rf := fun _ => QW.Is (.bl true)) (u0, u1) o3 (two.mono o2 g2)
    exact QW.s_no o3 (QW.et_or o3 (QW.et_not (QW.et_B t2)) fun _ => QW.et_not (QW.et_B t2)) fun F3 H3 g3 => ⟨⟨_, _, _, _, _, rfl⟩, F3, ((g.trans o g1).trans o g2).trans o g3⟩
  · obtain ⟨x0, x1, x2, x3, x4, rfl⟩ := hσ
    exact QW.q_ret (R := QW.Is (.bl true)) (g.ok o) (QW.ev_c (g.ok o) fun _ => rfl) fun v F1 H1 g1 r => by
      obtain rfl := r
      exact q H1

end
end K18

open PySem PySem.W PySem.Calls PyProof.Rows
set_option Elab.async false
set_option maxRecDepth 100000
set_option maxHeartbeats 0
theorem PySem.Challenge.cw_agreeingcasts_k18_exceptions_holds : PySem.Challenge.rw_agreeingcasts_k18_exceptions.Holds := by
  w_on; o_law
  refine HandSHeadRun.head_any (r := OpenLaw.row PySem.Challenge.rw_agreeingcasts_k18_exceptions) (q := view (OpenLaw.row PySem.Challenge.rw_agreeingcasts_k18_exceptions).prog [50]) (H := K18.hk) (ob := K18.ob) (M := 12000) (loose := K18.loose) (d := HandSHeadRun.topDef (OpenLaw.row PySem.Challenge.rw_agreeingcasts_k18_exceptions).prog 50) (kwd := []) K18.ob_eq
    (by kernel_rfl) (fun s => by kernel_rfl) K18.run (by kernel_rfl) (by kernel_rfl) (by kernel_rfl) (by rfl) (by first | assumption | decide +kernel) (by decide +kernel) ⟨rfl, rfl, rfl, rfl, rfl, by decide +kernel⟩ ?hw ?hc
  case hw => w_witness2
  case hc =>
    refine QH.walk_GE (l := PySem.Challenge.rw_agreeingcasts_k18_exceptions) (n := 63) (k := 5) (x := "script") (CX := fun _ => L2.CX0) rfl (by decide) (by kernel_rfl) ⟨rfl, by decide, by decide⟩ ?F (fun _ _ _ _ _ z => z)
    intro w mg fa h Y G hmg0
    obtain ⟨K, KX, c⟩ := Y
    have hmg : mg ("law" : PySem.Str) = some (.ref fa) := by
      have e : (HandSHeadRun.topDef (OpenLaw.row PySem.Challenge.rw_agreeingcasts_k18_exceptions).prog 50).name = ("law" : PySem.Str) := by kernel_rfl
      rw [← e]
      exact hmg0
    obtain ⟨fd, F⟩ := QH.Says.def_ (fs := K18.fs) (fn := K18.fn) c 12 (d := K18.dF "law" (K18.top 50)) rfl
    have e := hmg.symm.trans (K18.g_law ⟨c, KX, G⟩)
    cases e
    have b := L2.FunD.bindsA (ps := ["script"]) F fun _ _ _ _ _ _ us hl => match us, hl with | [_], _ => rfl
    exact ⟨K, fd, K18.spLaw K, KX, fun s v => b s [v] rfl, fun H a ns hl _ _ hS => ⟨a, ns, rfl, hl, hS, fun _ => rfl⟩, fun base KB GB => K18.ok_law (P := (PySem.Challenge.rw_agreeingcasts_k18_exceptions).prog) (w := w) ⟨c, KB, GB⟩ F⟩
