import PyProof.Rows.All
import Wide.All
import OpenK.AllK
import Wide.FinOn
import HandS.ForMost
import HandS.EndBits
import HandS.Exc
import KE.KExcIs
import HandS.ExcInit
import HandS.ExcField
import HandS.ExcIs
import HandS.ExcValue
import HandS.ClsMeth
import PyProof.ReprReads
import PyProof.ReprRoads
import HandS.RaiseMore
import HandS.Evl
import HandS.Defaults
import HandS.Head0
import HandS.Head1
import HandS.Head2
import HandS.HeadEnd
import HandS.HeadHook1
import HandS.HeadHook2
import HandS.HeadHook3
import HandS.NoneIn
import HandS.Style
import KE.KExcInit
import PyProof.ExcBaseAll.ValueError
import PyProof.ExcBaseAll.LookupError
import PyProof.ExcBaseAll.RuntimeError
import PyProof.ExcBaseAll.ArithmeticError
import PyProof.ReprBulk
import HandS.ExcOwn
import HandS.DictTup
import HandS.Keys
import KE.KSortTup
import PyProof.Rows.SortKeyStr
import HandS.Walk
import HandS.IsInst
import HandS.Steps
import HandS.Codes
import HandS.Text
import HandS.Dict
import HandS.DictComp
import PyProof.Rows.StrMeet
import HandS.Star
import HandS.SetKeys
import PyProof.P3Eq
import HandS.SortOrd
import HandS.SortRule
import HandS.More
import PyProof.Rows.TupAdd
import HandS.TupAny
import KE.KRevSl
import PySem.Challenge.RW_agreeingcasts_k22_paths_judged
set_option Elab.async false
set_option linter.all false
set_option maxRecDepth 100000
set_option maxHeartbeats 4000000
/-! QG: promises of defs that are called where no repr is under way (so that repr of data may be asked in them). -/
namespace QG
open PySem PySem.Spec PyProof.Rows L2

/-- a def's promise, kept where no object is being shown -/
structure FnG (P : Program) (w : World) (K : PySem.W.Frag) (mg : Str → Option Value) (base : Heap) (CX : CXT) (k : Nat) (f : Addr) (fd : FuncData) (ps : List Str) (sp : Sp) : Prop where
  len : ∀ vs H Q E, sp vs H Q E → vs.length = ps.length
  run : ∀ (A : Around) (outer : List Env) (s : Shared) (H : Hp) (args : Args) (us : List Value) (vs : List V) (Q : VK) (E : XK), A.guards = some [] → Room k A →
    Env0 P w K mg base A outer s H → BindsTo s fd args (ps.zip us) → Vals vs us → sp vs H Q E → codeAny (model P w) A (.call (.ref f) args) (CR CX outer P w H s Q E) s

section
variable {P : Program} {w : World} {K : PySem.W.Frag} {mg : Str → Option Value} {base : Heap} {CX : CXT} {k : Nat} {f : Addr} {fd : FuncData} {ps : List Str} {sp : Sp}
theorem FnG.of (F : FnOk P w K mg base CX k f fd ps sp) : FnG P w K mg base CX k f fd ps sp := ⟨F.len, fun A outer s H args us vs Q E _ => F.run A outer s H args us vs Q E⟩
theorem FnG.mono {j : Nat} (F : FnG P w K mg base CX j f fd ps sp) (h : j ≤ k) : FnG P w K mg base CX k f fd ps sp :=
  ⟨F.len, fun A outer s H args us vs Q E hg hr => F.run A outer s H args us vs Q E hg (hr.mono h)⟩

theorem guards_deeper {A : Around} {env : Env} (h : A.guards = some []) : (A.deeper env).guards = some [] := h

/-- the body's rule -/
theorem fn_ofG {name qual : Str} {params : Arguments} {body : List Stmt} {scope : Scope} {dV kV doc pm cdv ct oc : Value} {an od : Option Addr} {osl : Array (Option Value)} {N : List Str}
    (lk : K.lookup f = some ⟨oc, od, .func (PySem.W.fnOf name qual params body scope dV kV doc pm an cdv ct), osl⟩) (hcd : PySem.W.codeIn K cdv qual = true) (S : FnScope N ps scope)
    (len : ∀ vs H Q E, sp vs H Q E → vs.length = ps.length)
    (hb : ∀ (A : Around) (outer : List Env) (s : Shared) (H : Hp) (vs : List V) (Q : VK) (E : XK), (A.deeper (envOfC qual scope s.heap.objs.size f cdv)).guards = some [] →
      Room k (A.deeper (envOfC qual scope s.heap.objs.size f cdv)) → sp vs H Q E →
      ∃ t, PSs (cxOf CX P w K mg base N qual scope f cdv A outer s H E) body t ∧ t { nx := fun _ H' => Q .non H', rt := Q } (start N vs) H) :
    FnG P w K mg base CX (k + 1) f (PySem.W.fnOf name qual params body scope dV kV doc pm an cdv ct) ps sp := by
  refine ⟨len, fun A outer s H args us vs Q E gd rm e0 bt rv q => ?_⟩
  have hl : vs.length = ps.length := len _ _ _ _ q
  have stays : ∀ b o, base.get? b = some o → s.heap.get? b = some o := fun b o e => (e0.bs b o e).1
  have KX : K.In s.heap := e0.mod.kin.keeps stays
  have lim : s.heap.NoLimit := e0.mod.nolimit.keeps stays
  have kinds : ∀ y ∈ ps.zip us, scope.names.lookup y.1 = some .local ∨ (scope.names.lookup y.1 = some .cell ∧ ((cellsFrom (s.heap.objs.size + 1) scope.names []).lookup y.1).isSome = true) := by
    rintro ⟨n, v⟩ hy
    have hn : n ∈ ps := (List.of_mem_zip hy).1
    exact (S.par n hn).imp id fun z => ⟨z, PySem.W.cellsFrom_some _ _ _ (.inl z)⟩
  refine codeAny_call_function rm.depth (KX _ _ lk) rfl S.co S.gen rfl (PySem.W.codeRec_of KX hcd) (bt _ _ _ _ ?_)
  refine wpAny_newFunctionEnv_cells S.kind kinds fun env he s1 x => ?_
  subst he
  refine ⟨lim.keeps x.toInCall.keep, codeAny_func ?_⟩
  obtain ⟨t, ht, hq⟩ := hb A outer s H vs Q E (guards_deeper gd) (rm.deeper _) q
  have I := inv_start (CX := CX) (P := P) (E := E) S rm.hd e0 hl rv x
  refine wpAny_mono (ht.run [] s1 (start N vs) H _ I hq) (fun fl s' hs => ?_) fun _ _ z => z
  cases fl with
  | ret u =>
    obtain ⟨v, σ', H', J, rv', q'⟩ := hs
    exact ⟨v, H', J.os, J.bare, J.base, J.hok, rv', q'⟩
  | next =>
    obtain ⟨σ', H', J, q'⟩ := hs
    exact ⟨.non, H', J.os, J.bare, J.base, J.hok, rfl, q'⟩
  | brk =>
    obtain ⟨_, _, _, z⟩ := hs
    exact z.elim
  | cont =>
    obtain ⟨_, _, _, z⟩ := hs
    exact z.elim
/-- .. for a def of the text; its exceptions, if any, lie as CX says -/
theorem okG {x qual : Str} {st : Stmt} {N : List Str} (F : Fun K x qual st f fd) (S : FnScope N ps (defScope st)) (len : ∀ vs H Q E, sp vs H Q E → vs.length = ps.length)
    (hb : ∀ (cdv : Value) (A : Around) (outer : List Env) (s : Shared) (H : Hp) (vs : List V) (Q : VK) (E : XK), (A.deeper (envOfC qual (defScope st) s.heap.objs.size f cdv)).guards = some [] →
      Room k (A.deeper (envOfC qual (defScope st) s.heap.objs.size f cdv)) → sp vs H Q E →
      ∃ t, PSs (cxOf CX P w K mg base N qual (defScope st) f cdv A outer s H E) (defBody st) t ∧ t { nx := fun _ H' => Q .non H', rt := Q } (start N vs) H) : FnG P w K mg base CX (k + 1) f fd ps sp := by
  obtain ⟨oc, od, kV, doc, pm, an, cdv, ct, osl, rfl, lk, hcd⟩ := F.ex
  exact fn_ofG lk hcd S len fun A outer s H vs Q E gd rm q => hb cdv A outer s H vs Q E gd rm q
end

section
variable {X : Cx} {CX : CXT} {k : Nat} {f : Addr} {fd : FuncData} {ps : List Str} {sp : Sp} {dvs : List V} {ds : List Value} {E : XK} {x : Str} {p pos : Pos} {e : Expr} {es : List Expr} {t : TA}
theorem run_fnG {pins : List (Addr × Obj)} {σ : L2.St} {H : Hp} {s : Shared} {Q : VK} {us : List Value} {vs : List V} (F : FnG X.prog X.w X.K X.mg X.base CX k f fd ps sp) (gd : X.A.guards = some []) (rm : Room k X.A)
    (bd : Binds X.K fd ps ds) (hd : Vals dvs ds) (hx : Passes CX X E) (I : Inv X pins σ H s) (rv : Vals vs us) (q : sp (vs ++ dvs) H Q E) : wpAny (model X.prog X.w) X.A (call (.ref f) us) (EP X pins σ Q) X.xe s := by
  have r2 : Vals (vs ++ dvs) (us ++ ds) := rv.append hd
  have hl : (us ++ ds).length = ps.length := r2.length.symm.trans (F.len _ _ _ _ q)
  refine wpAny_call (codeAny_mono (F.run X.A X.stack s H ⟨us, []⟩ (us ++ ds) (vs ++ dvs) Q E gd rm I.env0 (bd s us I.kIn hl) r2 q) fun r s' z => ?_)
  rcases r with er | fl
  · exact hx pins σ H s er s' I z
  · cases fl <;> first | exact I.after z | exact False.elim z
theorem pe_callG (F : FnG X.prog X.w X.K X.mg X.base CX k f fd ps sp) (gd : X.A.guards = some []) (rm : Room k X.A) (hg : Gl X x) (hm : X.mg x = some (.ref f)) (hk : PySem.W.keepIn X.K (.ref f) = true)
    (bd : Binds X.K fd ps ds) (hd : Vals dvs ds) (hx : Passes CX X E) (ha : PA X (e :: es) t) (hdb : (x == ("__debug__" : Str)) = false := by decide)
    (he : starEach (e :: es) X.env = (false, eval e X.env) :: starEach es X.env := by rfl) (hpl : (backTo pos (starEach es X.env)).any (·.1) = false := by rfl) : PE X (.Call (.Name x p) (e :: es) [] pos) (tCall sp dvs E t) :=
  ⟨fun pins s σ H Q I h => wpAny_Call_Name_kw (ld_glob I hg hm (PySem.W.callWith_K (h₀ := X.base) I.ok.mod.kin hk
    (thn (ha.run pos pins s σ H _ I h) fun _ _ ⟨_, _, I1, r, q⟩ => ⟨I1.kIn, run_fnG F gd rm bd hd hx I1 r q⟩) he hpl) hdb)⟩
end

/-! ### the end of a law row -/
section
variable {P : Program} {w : World} {K : PySem.W.Frag} {mg mb : Str → Option Value} {CX : CXT} {k : Nat} {fa a : Addr} {fd : FuncData} {x : Str} {sp : Sp} {s₁ : Shared} {vs : List Value} {ns : List Int}
/-- the script alone is tracked, or nothing -/
def H1 (K : PySem.W.Frag) (a : Addr) (o : Obj) (ns : List Int) : Hp := fun b => if b = a ∧ K.lookup a = none then some (.frz o (.lst (ns.map V.int))) else none
theorem law_callG (KX : K.In s₁.heap) (hns : s₁.heap.Ns mainGlobals mg) (hb : s₁.heap.Ns builtinsNs mb) (hbb : ∀ x : Str, x ≠ "__name__" → mb x = bootBuiltins x) (hlim : s₁.heap.NoLimit) (hg : s₁.gens = #[])
    (ha : s₁.heap.get? a = some { cls := .type "list", data := .seq vs.toArray }) (hi : IntsAre vs ns) (hl : ns.length ≤ sizeLine) (hr : Room k callerA)
    (F : ∀ base : Heap, K.In base → base.Ns mainGlobals mg → FnG P w K mg base CX k fa fd [x] sp) (hbind : ∀ (s : Shared) (u : Value), BindsTo s fd ⟨[u], []⟩ [(x, u)])
    (hsp : ∀ H : Hp, Only H → SqL K H a (ns.map V.int) → sp [.ref a] H (fun v _ => v = .bl true) fun _ _ _ => False)
    (hCX : ∀ H e s', CX [] H s₁ (fun _ _ _ => False) e s' → False) :
    codeAny (model P w) callerA (.call (.ref fa) ⟨[.ref a], []⟩) (fun r s' => r = .ok (.ret (.bool true)) ∧ OldK s₁.heap s'.heap ∧ s'.os = s₁.os ∧ AllBare s'.gens) s₁ := by
  have rv := vals_ints hi
  have lenV := hi.length
  obtain ⟨ob, eob⟩ : ∃ ob : Obj, ob = { cls := .type "list", data := .seq vs.toArray } := ⟨_, rfl⟩
  rw [← eob] at ha
  obtain ⟨H, eH⟩ : ∃ H : Hp, H = H1 K a ob ns := ⟨_, rfl⟩
  have Hother : ∀ b, b ≠ a → H b = none := fun b n => by rw [eH]; exact if_neg fun z => n z.1
  have Hat : K.lookup a = none → H a = some (.frz ob (.lst (ns.map V.int))) := fun z => by rw [eH]; exact if_pos ⟨rfl, z⟩
  have Hno : ∀ o, K.lookup a = some o → H a = none := fun o z => by rw [eH]; exact if_neg fun y => by rw [z] at y; cases y.2
  have Hval : ∀ b u, H b = some u → b = a ∧ K.lookup a = none ∧ u = .frz ob (.lst (ns.map V.int)) := fun b u z => by
    rw [eH] at z
    unfold H1 at z
    by_cases c : b = a ∧ K.lookup a = none
    · rw [if_pos c] at z
      exact ⟨c.1, c.2, (Option.some.inj z).symm⟩
    · rw [if_neg c] at z
      cases z
  have only : Only H := fun b => by
    cases e : H b with
    | none => exact .inl rfl
    | some u =>
      obtain ⟨_, _, rfl⟩ := Hval b u e
      exact .inr ⟨_, _, rfl⟩
  have hS : SqL K H a (ns.map V.int) := by
    cases hk : K.lookup a with
    | none => exact .inl (.inr ⟨ob, Hat hk⟩)
    | some o =>
      have e := KX a o hk
      rw [ha] at e
      cases e
      rw [eob] at hk
      exact .inr ⟨_, vs.toArray, _, hk, rfl, rfl, rfl, by rw [List.size_toArray, lenV]; exact hl, by simpa using rv⟩
  have hok : HOk P w H s₁.heap := fun b u z => by
    obtain ⟨rfl, _, rfl⟩ := Hval b u z
    exact ⟨ha, by rw [List.length_map]; exact hl, vs, _, rv, by rw [ha, eob]⟩
  have inB : ∀ {b : Addr} {o : Obj}, s₁.heap.get? b = some o → H b = none → (hidT s₁.heap H).get? b = some o := fun e n => hidT_get e n
  have noA : ∀ {b : Addr} {o : Obj} {es : Array DictEntry} {ep : Nat}, s₁.heap.get? b = some o → o.data = .dict es ep → H b = none := fun {b o es ep} e d => by
    by_cases c : b = a
    · rw [c, ha] at e
      cases e
      rw [eob] at d
      cases (show Data.seq vs.toArray _ = Data.dict es ep from d)
    · exact Hother b c
  have nsK : ∀ {b : Addr} {m : Str → Option Value}, s₁.heap.Ns b m → (hidT s₁.heap H).Ns b m := fun {b m} ⟨o, es, ep, e, d, r⟩ => ⟨o, es, ep, inB e (noA e d), d, r⟩
  have hKb : K.In (hidT s₁.heap H) := fun b o e => inB (KX b o e) (by
    by_cases c : b = a
    · rw [c] at e ⊢
      exact Hno o e
    · exact Hother b c)
  have hM : Mod K mg (hidT s₁.heap H) := ⟨hKb, nsK hns, ⟨mb, nsK hb, hbb⟩, let ⟨mc, h1, h2⟩ := hlim; ⟨mc, nsK h1, h2⟩⟩
  have nomem : ∀ b : Addr, b ∉ ([] : List Addr) := fun b z => by cases z
  have e0 : Env0 P w K mg (hidT s₁.heap H) callerA [] s₁ H := ⟨rfl, hM, fun b o e => of_hidT e, Nat.le_of_eq (hidT_size _ _), trivial, fun b z => absurd z (nomem b), hok, .of_eq hg⟩
  refine codeAny_mono ((F _ hKb (nsK hns)).run callerA [] s₁ H ⟨[.ref a], []⟩ [.ref a] [.ref a] _ _ rfl hr e0 (hbind s₁ (.ref a)) (.cons rfl .nil) (hsp H only hS)) fun r s' h => ?_
  rcases r with e | fl
  · exact (hCX H e s' h).elim
  cases fl with
  | next => exact False.elim h
  | brk => exact False.elim h
  | cont => exact False.elim h
  | ret u =>
    obtain ⟨v, H', os, bare, un, hok', r', q⟩ := h
    obtain rfl : v = .bl true := q
    obtain rfl : u = Value.bool true := r'
    refine ⟨rfl, OldK.of_keep fun b o e => ?_, os, bare⟩
    cases q : H b with
    | none => exact un.keep b o e q (nomem b) (nomem b)
    | some u =>
      obtain ⟨rfl, _, rfl⟩ := Hval b u q
      have z2 := un.frzs _ ob _ q
      have e2 := (hok' _ _ z2).1
      rw [ha] at e
      cases e
      exact e2
end
theorem walk_G {l : PySem.W.OpenLaw} {n k : Nat} {q : Program} {loose : List Str} {XP : (Str → Option Value) → Heap → Prop} {YP : World → Heap → Prop} {d : DefRec} {K : Params → PySem.W.Frag} {CX : World → CXT} {sp : World → Sp} {x : Str}
    (hn : l.most = some n) (hn2 : n ≤ sizeLine) (hdf : d.params.defaults = []) (hr : Room k callerA)
    (hY : ∀ (w : World) (h : Heap), YP w h → (K w.params).In h)
    (F : ∀ (w : World) (mg : Str → Option Value) (fa : Addr) (h : Heap), (K w.params).In h → h.Ns mainGlobals mg → mg d.name = some (.ref fa) →
      ∃ fd : FuncData, (∀ (s : Shared) (u : Value), BindsTo s fd ⟨[u], []⟩ [(x, u)]) ∧
        ∀ base : Heap, (K w.params).In base → base.Ns mainGlobals mg → FnG l.prog w (K w.params) mg base (CX w) k fa fd [x] (sp w))
    (hsp : ∀ (w : World) (H : Hp) (a : Addr) (ns : List Int), ns.length ≤ n → (∀ z ∈ ns, Builtin.Int.intBits z ≤ 1048576) → Only H → SqL (K w.params) H a (ns.map V.int) → sp w [.ref a] H (fun v _ => v = .bl true) fun _ _ _ => False)
    (hCX : ∀ (w : World) (H : Hp) (s : Shared) (e : Value) (s' : Shared), CX w [] H s (fun _ _ _ => False) e s' → False) :
    PySem.W.WalkO q loose XP YP l.row.toRowW d [] (fun f vs => PySem.call f vs) := by
  refine Att.attach_callB hn hdf fun w s₀ s₁ mg mb fa o pm cd doc a vs ns G Y ho hd hcd hmg hobj hints hlen hbits hg => ?_
  have KX := hY w _ Y
  obtain ⟨fd, hb, hF⟩ := F w mg fa _ KX G.T.g hmg
  exact law_callG KX G.T.g G.T.b G.T.builtins G.T.nolimit hg hobj hints (Nat.le_trans hlen hn2) hr hF hb (fun H hO hS => hsp w H a ns hlen hbits hO hS) fun H e s' => hCX w H s₁ e s'
end QG

set_option Elab.async false
set_option linter.all false
set_option maxRecDepth 100000
set_option maxHeartbeats 4000000
/-! QExc: exceptions of own classes, over any built-in base, with an own __init__ that calls the base's one: made as values, their fields read, isinstance. -/
namespace QE
open PySem PySem.Spec PySem.Calls PyProof.Rows L2

/-- own classes, then the line of a built-in class -/
def Line (tl bm : List Value) : Prop := ∃ cs : List Addr, bm = cs.map Value.ref ++ tl
theorem Line.has {tl bm : List Value} (h : Line tl bm) (X : String) : bm.contains (.type X) = tl.contains (.type X) := by
  obtain ⟨cs, rfl⟩ := h
  induction cs with
  | nil => rfl
  | cons c cs ih =>
    show (Value.ref c :: (cs.map Value.ref ++ tl)).contains (.type X) = _
    rw [List.contains_cons, ih]
    rfl
theorem Line.pass {B : String} {tl bm : List Value} (S : StoreFacts B tl "object.__setattr__" "object") (h : Line tl bm) (self : Value) : refuseLoop self "__setattr__" bm = pure () := by
  obtain ⟨cs, rfl⟩ := h
  induction cs with
  | nil => exact S.passes self
  | cons c cs ih => exact (refuseLoop_ref self _ c _).trans ih

section
open PySem.W Builtin Builtin.ObjectAttr
variable {prog : Program} {w : World} {A : Around} {R : Result → Shared → Prop} {hp : Heap} {g : Array GenState} {d : Drawn} {t : Nat} {os : OsState} {K : Frag} {name : Str} {tk : Tok} {v : Value} {x C : Addr} {cd : ClassData} {bm tl : List Value} {B : String}
theorem osa_pre {ox : Obj} {od : Option Obj} (X : K.In hp) (I : InstAt hp x ox C od) (hcd : clsIn K C = some cd) (hm : cd.mro = .ref C :: bm) (S : StoreFacts B tl "object.__setattr__" "object") (L : Line tl bm) (ha : findIn K (.ref C) name = some none)
    (hq : wpAny (model prog w) A.in1 (storeInOwnDict (.ref x) (.ref C) (.str name tk) name v false)
      (fun fin s' => match fin with | .done f => R (.ok f) s' | .again c' => c'.quiet = true ∧ codeAny (model prog w) A c' R s') (fun e s' => R (.error e) s') ⟨hp, g, d, t, os⟩) :
    codeAny (model prog w) A (.call (.builtin "object.__setattr__") ⟨[.ref x, .str name tk, v], []⟩) R ⟨hp, g, d, t, os⟩ := by
  have SF := F.store_object
  have hob : mroIn K C (.type "object") = some true := by
    have e : (Value.ref C :: bm).contains (.type "object") = true := by rw [List.contains_cons, L.has, S.hasOwner, Bool.or_true]
    unfold mroIn
    rw [hcd, Option.bind_some, hm, if_neg (show ¬ (List.isEmpty (Value.ref C :: bm) = true) from Bool.false_ne_true), e]
  have sub : Looks (model prog w) hp (isInstance (.ref x) (.type "object")) true := I.type.andThen (looks_mroIn X hob)
  have hmr : Looks (model prog w) hp (mroOf (.ref C)) cd.mro := (looks_clsIn X hcd).andThen .now
  have hno : Looks (model prog w) hp (storeTaker? none) none := .now
  have hpass : refuseLoop (.ref x) "__setattr__" cd.mro = pure () := by rw [hm]; exact (refuseLoop_ref _ _ C _).trans (L.pass S _)
  refine codeAny_call_builtin SF.slot.plain SF.entry (@check_slot (model prog w) _ _ ⟨hp, g, d, t, os⟩ "object.__setattr__" "object" "__setattr__" (.ref x) [.str name tk, v] [] _ SF.kind SF.split sub (SF.args (.ref x) (.str name tk) v) ?_)
  rw [osa_eq, refuse_eq]
  refine wpAny_bind (wpAny_bind (I.type.at (wpAny_bind (hmr.at ?_))))
  rw [hpass]
  exact wpAny_pure (wpAny_bind (I.type.at (wpAny_bind ((looks_findIn X ha).at (wpAny_bind (hno.at hq))))))
/-- the first field -/
theorem osa_first {fv : Array Value} (X : K.In hp) (hx : hp.get? x = some { cls := .ref C, data := .fields fv }) (hcd : clsIn K C = some cd) (hm : cd.mro = .ref C :: bm) (S : StoreFacts B tl "object.__setattr__" "object") (L : Line tl bm) (hh : cd.hasDict = true)
    (ha : findIn K (.ref C) name = some none)
    (hq : ∀ h' tk' dx, (∀ b o, b ≠ x → hp.get? b = some o → h'.get? b = some o) → hp.objs.size ≤ dx → dx ≠ x → h'.get? x = some { cls := .ref C, dict := some dx, data := .fields fv } →
      h'.Ns1 dx (fun y => if y = name then some v else none) → R (.ok (.ret .none)) ⟨h', g, d, tk', os⟩) :
    codeAny (model prog w) A (.call (.builtin "object.__setattr__") ⟨[.ref x, .str name tk, v], []⟩) R ⟨hp, g, d, t, os⟩ := by
  have hxs : x ≠ hp.objs.size := Nat.ne_of_lt (Heap.lt_size hx)
  have hcls : Looks (model prog w) hp (classData C) cd := looks_clsIn X hcd
  refine osa_pre X (od := none) ⟨hx, rfl, rfl, trivial⟩ hcd hm S L ha ?_
  obtain ⟨_, _, _, _, _, hd, _, _, _, _, _⟩ := cd
  obtain rfl : hd = true := hh
  unfold storeInOwnDict ownDictForStores
  repeat (first | with_reducible refine HandSPX.store_in_new ?_ ?_ | with_reducible refine wpAny_loadPart_at hx ?_ | with_reducible refine hcls.at ?_ | wp_step)
  · exact ⟨_, #[], _, (Heap.get?_update_ne _ _ _ _ hxs.symm).trans (Heap.get?_push_at rfl rfl), rfl, fun e he => absurd he (by simp), fun _ => rfl⟩
  · intro h' tk' hn' hs
    have hx1 := Heap.get?_push_of_some ({ cls := .type "dict", data := .dict #[] } : Obj) hx
    exact hq h' tk' hp.objs.size (fun b o hb ho => (hs.2 b (Nat.ne_of_lt (Heap.lt_size ho))).trans ((Heap.get?_update_ne _ _ _ _ hb).trans (Heap.get?_push_of_some _ ho))) (Nat.le_refl _) hxs.symm
      ((hs.2 x hxs).trans (Heap.get?_update_self _ hx1 rfl)) hn'
/-- a further field -/
theorem osa_more {dx : Addr} {fv : Array Value} {m0 : Str → Option Value} {nl : List Str} (X : K.In hp) (hx : hp.get? x = some { cls := .ref C, dict := some dx, data := .fields fv }) (hns : hp.Ns1 dx m0) (hw : Within m0 nl) (hz : nl.length ≤ 1000)
    (hcd : clsIn K C = some cd) (hm : cd.mro = .ref C :: bm) (S : StoreFacts B tl "object.__setattr__" "object") (L : Line tl bm) (hh : cd.hasDict = true) (ha : findIn K (.ref C) name = some none)
    (hq : ∀ h' tk', (∀ b o, b ≠ dx → hp.get? b = some o → h'.get? b = some o) → h'.Ns1 dx (fun y => if y = name then some v else m0 y) → R (.ok (.ret .none)) ⟨h', g, d, tk', os⟩) :
    codeAny (model prog w) A (.call (.builtin "object.__setattr__") ⟨[.ref x, .str name tk, v], []⟩) R ⟨hp, g, d, t, os⟩ := by
  obtain ⟨oD, _, _, hoD, _, _⟩ := hns.count hw
  have hcls : Looks (model prog w) hp (classData C) cd := looks_clsIn X hcd
  refine osa_pre X (od := some oD) ⟨hx, rfl, rfl, hoD⟩ hcd hm S L ha ?_
  obtain ⟨_, _, _, _, _, hd, _, _, _, _, _⟩ := cd
  obtain rfl : hd = true := hh
  unfold storeInOwnDict ownDictForStores
  repeat (first | with_reducible refine OEX.store_in_old hns hw hz ?_ | with_reducible refine wpAny_loadPart_at hx ?_ | with_reducible refine hcls.at ?_ | wp_step)
  exact fun h' tk' hn' hs => hq h' tk' (fun b o hb ho => (hs.2 b hb).trans ho) hn'
end

/-- what the written part says of an own exception class over the built-in class B -/
structure ExB (K : PySem.W.Frag) (C : Addr) (B newId initId : String) (tl : List Value) : Prop where
  F : ExcBaseFacts B newId initId tl
  S : StoreFacts B tl "object.__setattr__" "object"
  cls : ∃ nm q N bs bm sn sub ab col dd k0 k1 k2 k3 k5, K.lookup C = some (excClassObj nm q C N bs bm true sn sub ab col dd k0 k1 k2 k3 k5 newId) ∧ Line tl bm
  sa : PySem.W.findIn K (.ref C) "__setattr__" = some (some (.builtin "object.__setattr__"))
  ga : PySem.W.findIn K (.ref C) "__getattribute__" = some (some (.builtin "BaseException.__getattribute__"))
  gg : PySem.W.findIn K (.ref C) "__getattr__" = some none
  exC : PySem.W.subIn K (.ref C) (.type "BaseException") = some true
  tyC : PySem.W.typeIn K (.ref C) = some (.type "type")
  kC : PySem.W.keepIn K (.ref C) = true
  ca : PySem.W.findIn K (.ref C) "__class__" = some (some (.builtin "object.__class__"))
def ExX (K : PySem.W.Frag) (C : Addr) : Prop := ∃ B newId initId tl, ExB K C B newId initId tl
theorem ExB.cd {K : PySem.W.Frag} {C : Addr} {B newId initId : String} {tl : List Value} (T : ExB K C B newId initId tl) :
    ∃ cd bm, PySem.W.clsIn K C = some cd ∧ cd.mro = .ref C :: bm ∧ Line tl bm ∧ cd.hasDict = true := by
  obtain ⟨nm, q, N, bs, bm, sn, sub, ab, col, dd, k0, k1, k2, k3, k5, hC, hbm⟩ := T.cls
  exact ⟨{ name := nm, bases := bs, mro := .ref C :: bm, ns := N, qualname := q, hasDict := true, slotNames := sn, subclasses := sub, abstract := ab, collection := col, hasDel := false }, bm, by unfold PySem.W.clsIn; rw [hC] <;> rfl, rfl, hbm, rfl⟩
theorem ExB.own {K : PySem.W.Frag} {C : Addr} {B newId initId : String} {tl : List Value} (T : ExB K C B newId initId tl) : PySem.W.mroIn K C (.type "object") = some true := by
  obtain ⟨cd, bm, hcd, hm, L, _⟩ := T.cd
  have e : (Value.ref C :: bm).contains (.type "object") = true := by rw [List.contains_cons, L.has, T.S.hasOwner, Bool.or_true]
  unfold PySem.W.mroIn
  rw [hcd, Option.bind_some, hm, if_neg (show ¬ (List.isEmpty (Value.ref C :: bm) = true) from Bool.false_ne_true), e]
/-- facts of the metaclass side, the same for all classes -/
structure ExM (K : PySem.W.Frag) : Prop where
  hn : PySem.W.specialIn K (.builtin "object.__class__") "__get__" = some (some (.builtin "getset_descriptor.__get__"))
  ht : PySem.W.takesIn K (.builtin "object.__class__") = some true

section
variable {X : Cx} {pins : List (Addr × Obj)} {σ : L2.St} {H : Hp} {s : Shared} {a C dx : Addr} {f : Str} {y : V} {u : Value} {fs : List (Str × V)} {E : Value → Shared → Prop} {A : Around}
/-- self.f = y, the first one -/
theorem st_first {Q : Unit → Shared → Prop} (T : ExX X.K C) (I : Inv X pins σ H s) (e : H a = some (exo a C none)) (hno : PySem.W.findIn X.K (.ref C) f = some none) (ry : RelV y u)
    (h : ∀ dx s', H dx = none → dx ≠ a → Inv X pins σ (upd (upd H dx (exd dx [(f, y)])) a (exo a C (some dx))) s' → Q () s') : wpAny (model X.prog X.w) A (setAttr (.ref a) f u) Q E s := by
  obtain ⟨B, newId, initId, tl, T⟩ := T
  obtain ⟨cd, bm, hcd, hm, L, hh⟩ := T.cd
  obtain ⟨t1, ho⟩ := exo_at I.hok e
  obtain ⟨hp, g, d, t, os⟩ := s
  refine PySem.W.set_plain I.kIn (od := none) ⟨ho, rfl, rfl, trivial⟩ T.sa ?_
  refine osa_first I.kIn ho hcd hm T.S L hh hno (fun h' tk' dx k dn dne hx hn => ?_)
  have hnd : H dx = none := I.hok.fresh dn
  have nd : ∀ {b : Addr} {o : Obj}, hp.get? b = some o → b ≠ dx := fun {b o} q => Nat.ne_of_lt (Nat.lt_of_lt_of_le (Heap.lt_size q) dn)
  have na : ∀ {b : Addr}, H b = none → b ≠ a := fun {b} n z => by rw [z, e] at n; cases n
  have U : Un X.fs [] H (upd (upd H dx (exd dx [(f, y)])) a (exo a C (some dx))) hp h' := {
    keep := fun b o q n _ _ => k b o (na n) q
    slot := fun b o q n _ _ => ⟨o.slots, k b o (na n) q⟩
    free := fun b o q n _ => by rw [upd_ne (na n), upd_ne (nd q)]; exact n
    there := fun b o q _ => by
      by_cases hb : b = a
      · exact ⟨_, by rw [hb]; exact hx⟩
      · exact ⟨o, k b o hb q⟩
    tups := fun b xs q => by rw [upd_ne (at_ne e q exo_tup), upd_ne (ne_of_none q hnd)]; exact q
    frzs := fun b o v q => by rw [upd_ne (at_ne e q exo_frz), upd_ne (ne_of_none q hnd)]; exact q
    tbls := fun b ps q => ⟨#[], by rw [upd_ne (at_ne e q exo_tbl), upd_ne (ne_of_none q hnd), q]; simp⟩ }
  refine h dx _ hnd dne (I.un (t' := tk') U fun b o q => ?_)
  by_cases hb : b = a
  · subst hb
    rw [upd_same] at q
    cases q
    exact exo_ok hx
  rw [upd_ne hb] at q
  by_cases hd : b = dx
  · subst hd
    rw [upd_same] at q
    cases q
    exact exd_ok hn (relO_put (fs := []) ry fun g => True.intro)
  rw [upd_ne hd] at q
  refine (I.hok b o q).stay (fun c v hc z => k c v ?_ z) (fun c hc => by rw [upd_ne (at_ne e hc exo_own), upd_ne (ne_of_none hc hnd)]; exact hc) (fun c xs hc => by rw [upd_ne (at_ne e hc exo_tup), upd_ne (ne_of_none hc hnd)]; exact hc)
  rcases hc with hc | hc
  · rw [hc]; exact hb
  · exact at_ne e hc exo_own
/-- self.f = y, a further one -/
theorem st_more {Q : Unit → Shared → Prop} (T : ExX X.K C) (I : Inv X pins σ H s) (e : H a = some (exo a C (some dx))) (ed : H dx = some (exd dx fs)) (hl : fs.length ≤ 900) (hno : PySem.W.findIn X.K (.ref C) f = some none) (ry : RelV y u)
    (h : ∀ s', Inv X pins σ (upd H dx (exd dx ((f, y) :: fs))) s' → Q () s') : wpAny (model X.prog X.w) A (setAttr (.ref a) f u) Q E s := by
  obtain ⟨B, newId, initId, tl, T⟩ := T
  obtain ⟨cd, bm, hcd, hm, L, hh⟩ := T.cd
  obtain ⟨t1, ho⟩ := exo_at I.hok e
  obtain ⟨mA, hns, rel⟩ := exd_at I.hok ed
  have hw := within_of rel
  obtain ⟨hp, g, d, t, os⟩ := s
  obtain ⟨oD, _, _, hoD, _, _⟩ := hns.count hw
  refine PySem.W.set_plain I.kIn (od := some oD) ⟨ho, rfl, rfl, hoD⟩ T.sa ?_
  refine osa_more I.kIn ho hns hw (by rw [List.length_map]; omega) hcd hm T.S L hh hno (fun h' tk' k hn => ?_)
  have hd : ∃ o, h'.get? dx = some o := let ⟨o, _, _, e', _⟩ := hn; ⟨o, e'⟩
  exact h _ (I.write (t' := tk') (x := dx) (e := dx) (o := exd dx ((f, y) :: fs)) (by rw [ed]; exact True.intro) (.inl rfl) k hd (exd_ok hn (relO_put ry rel)))
/-- Base.__init__(self, ..): nothing of it is told -/
theorem base_init {B newId initId : String} {tl : List Value} {us : List Value} {Q : Value → Shared → Prop} (T : ExB X.K C B newId initId tl) (I : Inv X pins σ H s) (e : H a = some (exo a C none)) (hl : us.length ≤ sizeLine) (h : ∀ s', Inv X pins σ H s' → Q .none s') :
    wpAny (model X.prog X.w) A (call (.builtin initId) (.ref a :: us)) Q E s := by
  obtain ⟨nm, q, N, bs, bm, sn, sub, ab, col, dd, k0, k1, k2, k3, k5, hC, hbm⟩ := T.cls
  obtain ⟨t1, ho⟩ := exo_at I.hok e
  obtain ⟨hp, g, d, t, os⟩ := s
  refine wpAny_call (PySem.HandSPX.init_base T.F hbm.has (I.kIn _ _ hC) ho hl fun h' t2 k hx => h _ ?_)
  have J := I.write (t' := t) (x := a) (e := a) (o := exo a C none) (by rw [e]; exact True.intro) (.inl rfl) k ⟨_, hx⟩ (exo_ok hx)
  have eu : upd H a (exo a C none) = H := funext fun b => by
    by_cases hb : b = a
    · rw [hb, upd_same, e]
    · rw [upd_ne hb]
  rw [eu] at J
  exact J
end

/-! ### readings and rules -/
/-- Base.__init__(self, ..), the builtin's name told -/
def tBi (K : PySem.W.Frag) (initId : String) (ta : TA) : TE := fun σ H Q => ta σ H fun vs H1 => ∃ (a C : Addr) (B newId : String) (tl : List Value) (ws : List V), vs = .ref a :: ws ∧ ws.length ≤ 1000 ∧ ExB K C B newId initId tl ∧ H1 a = some (exo a C none) ∧ Q .non H1
/-- self.f = e -/
def tSt (K : PySem.W.Frag) (f : Str) (to te : TE) : TS := fun D σ H => te σ H fun y H1 => to σ H1 fun x H2 => ∃ a C : Addr, x = .ref a ∧ ExX K C ∧ PySem.W.findIn K (.ref C) f = some none ∧
  ((H2 a = some (exo a C none) ∧ ∀ dx, H2 dx = none → dx ≠ a → D.nx σ (upd (upd H2 dx (exd dx [(f, y)])) a (exo a C (some dx)))) ∨
    ∃ (dx : Addr) (fs : List (Str × V)), H2 a = some (exo a C (some dx)) ∧ H2 dx = some (exd dx fs) ∧ fs.length ≤ 900 ∧ D.nx σ (upd H2 dx (exd dx ((f, y) :: fs))))
/-- C(e, ..) as a value, C's own __init__ keeping sp -/
def tMkV (C : Addr) (sp : Sp) (dvs : List V) (E : XK) (ta : TA) : TE := fun σ H Q => ta σ H fun vs H1 => vs.length ≤ 1000 ∧ ∀ a, H1 a = none → sp (.ref a :: (vs ++ dvs)) (upd H1 a (exo a C none)) (fun v H2 => v = .non ∧ Q (.ref a) H2) E
/-- e.f -/
def tEf (K : PySem.W.Frag) (f : Str) (te : TE) : TE := fun σ H Q => te σ H fun x H1 => ∃ (a C d : Addr) (fs : List (Str × V)) (v : V), x = .ref a ∧ ExX K C ∧ PySem.W.findIn K (.ref C) f = some none ∧ H1 a = some (exo a C (some d)) ∧ H1 d = some (exd d fs) ∧ fs.lookup f = some v ∧ Q v H1
section
variable {X : Cx} {o e : Expr} {es : List Expr} {to te : TE} {ta : TA} {f : Str} {p p' p1 p2 pos : Pos}
/-- D.__init__(self, ..), D an own class that has the builtin's -/
theorem pe_binit {D : Addr} {mc : Value} {dn : Str} {initId : String} {pl : Sem Bool} (hg : Gl X dn) (hm : X.mg dn = some (.ref D)) (rd : ClX.CRead X.K D mc) (vV : PySem.W.findCls X.K (.ref D) mc "__init__" = some (.val (.builtin initId))) (ha : PA X (e :: es) ta)
    (hdb : (dn == ("__debug__" : Str)) = false := by decide) (hin : PySem.W.handedIn (.builtin initId) = true := by decide +kernel)
    (hc : eval (.Call (.Attribute (.Name dn p1) "__init__" p2) (e :: es) [] pos) X.env = (do
      let ov ← eval (.Name dn p1) X.env
      standAt p2.atName
      let (f, first) ← holding [ov] (getMethod ov "__init__" pl)
      callWith pos f first (backTo pos (starEach (e :: es) X.env)) (backToKw pos (keywordEach [] X.env))) := by rfl)
    (he : starEach (e :: es) X.env = (false, eval e X.env) :: starEach es X.env := by rfl) (hpl : (backTo pos (starEach es X.env)).any (·.1) = false := by rfl) :
    PE X (.Call (.Attribute (.Name dn p1) "__init__" p2) (e :: es) [] pos) (tBi X.K initId ta) := by
  refine ⟨fun pins s σ H Q I h => PySem.W.methodCall_KW (ld_glob I hg hm ?_ hdb) hc⟩
  refine PySem.W.method_cls I.kIn rd.ga (PySem.W.cls_value I.kIn rd.rd vV hin ?_)
  show wpAny _ _ (callWith pos (Value.builtin initId) [] (backTo pos (starEach (e :: es) X.env)) []) _ _ _
  refine PyProof.Rows.callWith_method1 (thn (ha.run pos pins _ σ H _ (I.tok _) h) fun us s1 ⟨vs, H1, I1, r1, a, C, B, newId, tl, ws, ev, hl, T, ea, q⟩ => ?_) he hpl
  subst ev
  cases r1 with
  | @cons _ u0 _ ur ra rw' =>
    obtain rfl : u0 = Value.ref a := ra
    exact base_init T I1 ea (by rw [← Paired.length rw', sizeLine_eq]; omega) fun s' J => ⟨.non, H1, J, rfl, q⟩
/-- T.__init__(self, ..), T a built-in class -/
theorem pe_tinit {dn : Str} {T initId : String} {pl : Sem Bool} (hg : Gl X dn) (hm : X.mg dn = none) (hv : bootBuiltins dn = some (.type T)) (ty : typeOf (.type T) = pure (.type "type")) (st : Manifest.isStub T = false)
    (vV : PySem.W.findCls X.K (.type T) (.type "type") "__init__" = some (.val (.builtin initId))) (ha : PA X (e :: es) ta) (hn : dn ≠ "__name__" := by decide) (hdb : (dn == ("__debug__" : Str)) = false := by decide) (hin : PySem.W.handedIn (.builtin initId) = true := by decide +kernel)
    (hc : eval (.Call (.Attribute (.Name dn p1) "__init__" p2) (e :: es) [] pos) X.env = (do
      let ov ← eval (.Name dn p1) X.env
      standAt p2.atName
      let (f, first) ← holding [ov] (getMethod ov "__init__" pl)
      callWith pos f first (backTo pos (starEach (e :: es) X.env)) (backToKw pos (keywordEach [] X.env))) := by rfl)
    (he : starEach (e :: es) X.env = (false, eval e X.env) :: starEach es X.env := by rfl) (hpl : (backTo pos (starEach es X.env)).any (·.1) = false := by rfl) :
    PE X (.Call (.Attribute (.Name dn p1) "__init__" p2) (e :: es) [] pos) (tBi X.K initId ta) := by
  refine ⟨fun pins s σ H Q I h => PySem.W.methodCall_KW (ld_blt I hg hm hv ?_ hn hdb) hc⟩
  obtain ⟨m, fr⟩ := I.fr
  refine PySem.W.method_type fr I.ok.mod.kin ty st vV hin ?_
  show wpAny _ _ (callWith pos (Value.builtin initId) [] (backTo pos (starEach (e :: es) X.env)) []) _ _ _
  refine PyProof.Rows.callWith_method1 (thn (ha.run pos pins _ σ H _ (I.tok _) h) fun us s1 ⟨vs, H1, I1, r1, a, C, B, newId, tl, ws, ev, hl, T, ea, q⟩ => ?_) he hpl
  subst ev
  cases r1 with
  | @cons _ u0 _ ur ra rw' =>
    obtain rfl : u0 = Value.ref a := ra
    exact base_init T I1 ea (by rw [← Paired.length rw', sizeLine_eq]; omega) fun s' J => ⟨.non, H1, J, rfl, q⟩
theorem ps_st (ho : PE X o to) (he : PE X e te) (hs : swapsWith e (some (.Attribute o f p')) pos.line X.env = pure false := by rfl) : PS X (.Assign [.Attribute o f p'] e pos) (tSt X.K f to te) := by
  refine ⟨fun pins s σ H D I h => ?_⟩
  refine plainObj_wpAny_Assign_Attribute (thn (he.run pins s σ H _ I h) fun v s1 ⟨y, H1, I1, r1, q1⟩ => thn (ho.run pins s1 σ H1 _ I1 q1) fun u s2 ⟨x, H2, I2, r2, a, C, ex, T, hno, q⟩ => ?_) hs
  subst ex
  obtain rfl : u = Value.ref a := r2
  rcases q with ⟨ea, q⟩ | ⟨dx, fs, ea, ed, hl, q⟩
  · exact st_first T I2 ea hno r1 fun dx s' n ne J => ⟨σ, _, J, q dx n ne⟩
  · exact st_more T I2 ea ed hl hno r1 fun s' J => ⟨σ, _, J, q⟩
theorem pe_ef (he : PE X e te) (hb : attributeBase e f X.env (eval e X.env) = eval e X.env := by rfl) : PE X (.Attribute e f pos) (tEf X.K f te) := by
  refine ⟨fun pins s σ H Q I h => attr_of hb (thn (he.run pins s σ H _ I h) fun u s1 hh => ?_)⟩
  obtain ⟨x, H1, I1, rx, a, C, d, fs, v, ex, ⟨B, newId, initId, tl, T⟩, hno, ea, ed, l, q⟩ := hh
  subst ex
  obtain rfl : u = Value.ref a := rx
  obtain ⟨t1, ho⟩ := exo_at I1.hok ea
  obtain ⟨mA, hns, hr⟩ := exd_at I1.hok ed
  obtain ⟨od, hod, hl⟩ := lookIn_ns hns
  obtain ⟨u, hu, ru⟩ := RelO.some_of (v := v) (o := mA f) (by rw [← l]; exact hr f)
  obtain ⟨cd, bm, hcd, hm, L, hh⟩ := T.cd
  have hd : PySem.W.hasDictIn X.K C = true := by unfold PySem.W.hasDictIn; rw [hcd]; exact hh
  exact HandSPX.exc_get I1.kIn (od := some od) ⟨ho, rfl, rfl, hod⟩ T.ga T.gg T.exC (PySem.W.findObj_own hd hno rfl (by rw [hl, hu])) (handed_of ru) ⟨v, H1, I1.tok _, ru, q⟩
/-- C(e, ..), an own exception class, as a value -/
theorem pe_mkV {CX : CXT} {x : Str} {C fI : Addr} {k : Nat} {fd : FuncData} {ps : List Str} {sp : Sp} {ds : List Value} {dvs : List V} {E : XK} (T : ExX X.K C) (iC : PySem.W.findIn X.K (.ref C) "__init__" = some (some (.ref fI))) (tI : PySem.W.typeIn X.K (.ref fI) = some (.type "function"))
    (F1 : FnOk X.prog X.w X.K X.mg X.base CX k fI fd ps sp) (hr : Room (k + 1) X.A) (hb : Binds X.K fd ps ds) (hd : Vals dvs ds) (hx : Passes CX X E) (hg : Gl X x) (hm : X.mg x = some (.ref C)) (ha : PA X (e :: es) ta)
    (hdb : (x == ("__debug__" : Str)) = false := by decide) (he : starEach (e :: es) X.env = (false, eval e X.env) :: starEach es X.env := by rfl) (hpl : (backTo pos (starEach es X.env)).any (·.1) = false := by rfl) :
    PE X (.Call (.Name x p) (e :: es) [] pos) (tMkV C sp dvs E ta) := by
  refine ⟨fun pins s σ H Q I h => ?_⟩
  obtain ⟨B, newId, initId, tl, T⟩ := T
  obtain ⟨nm, q, N, bs, bm, sn, sub, ab, col, dd, k0, k1, k2, k3, k5, hC, hbm⟩ := T.cls
  refine wpAny_Call_Name_kw (ld_glob I hg hm ?_ hdb)
  refine PySem.W.callWith_K (h₀ := X.base) I.ok.mod.kin T.kC (thn (ha.run pos pins s σ H _ I h) fun us s1 ⟨vs, H1, I1, r1, hz, q1⟩ => ⟨I1.kIn, ?_⟩) he hpl
  show wpAny _ _ (call (.ref C) us) _ _ _
  obtain ⟨hp, g, dr, tk, os⟩ := s1
  have hsz : hp.objs.size ≤ hp.objs.size + 1 := Nat.le_succ _
  have hq := q1 (hp.objs.size + 1) (I1.hok.fresh hsz)
  have kk : ∀ b o, hp.get? b = some o → ((hp.push (PySem.W.kdv_tup us)).push (PySem.HandSPX.excO C hp.objs.size)).get? b = some o := fun b o e => Heap.get?_push_of_some _ (Heap.get?_push_of_some _ e)
  have hget : ((hp.push (PySem.W.kdv_tup us)).push (PySem.HandSPX.excO C hp.objs.size)).get? (hp.objs.size + 1) = some (PySem.HandSPX.excO C hp.objs.size) := by heap_get
  have I2 : Inv X pins σ (upd H1 (hp.objs.size + 1) (exo (hp.objs.size + 1) C none)) ⟨(hp.push (PySem.W.kdv_tup us)).push (PySem.HandSPX.excO C hp.objs.size), g, dr, tk, os⟩ :=
    I1.laid (t' := tk) (a := hp.objs.size + 1) (o := exo (hp.objs.size + 1) C none) (h' := (hp.push (PySem.W.kdv_tup us)).push (PySem.HandSPX.excO C hp.objs.size)) kk hsz (exo_ok hget)
  have r2 : Vals (V.ref (hp.objs.size + 1) :: (vs ++ dvs)) (Value.ref (hp.objs.size + 1) :: (us ++ ds)) := .cons rfl (r1.append hd)
  have hl : (Value.ref (hp.objs.size + 1) :: us ++ ds).length = ps.length := r2.length.symm.trans (F1.len _ _ _ _ hq)
  have hus : us.length ≤ sizeLine := by rw [← Paired.length r1, sizeLine_eq]; omega
  refine wpAny_call (PySem.HandSPX.call_own T.F hbm.has (I1.kIn _ _ hC) (PySem.W.looks_findIn I1.kIn iC) (fun self => PySem.W.bind_fn I1.kIn self tI) hus
    (codeAny_mono (F1.run _ X.stack _ _ ⟨Value.ref (hp.objs.size + 1) :: us, []⟩ (Value.ref (hp.objs.size + 1) :: (us ++ ds)) _ _ E (hr.make C us []) (I2.env0.make C us []) (hb _ (Value.ref (hp.objs.size + 1) :: us) I2.kIn hl) r2 hq) fun r s' hq' => ?_))
  cases r with
  | error er => exact hx pins σ _ _ er s' I2 hq'
  | ok fl =>
    cases fl with
    | ret u =>
      obtain ⟨v, H', I3, rv, ev, q3⟩ := I2.after hq'
      subst ev
      exact ⟨rv, ⟨.ref (hp.objs.size + 1), H', I3, rfl, q3⟩⟩
    | next => exact False.elim hq'
    | brk => exact False.elim hq'
    | cont => exact False.elim hq'
end

/-! ### isinstance -/
section
variable {X : Cx} {pins : List (Addr × Obj)} {σ : L2.St} {H : Hp} {s : Shared} {a C : Addr} {d : Option Addr}
theorem kit_of {B newId initId : String} {tl : List Value} (M : ExM X.K) (T : ExB X.K C B newId initId tl) {x : Addr} {ox : Obj} {od : Option Obj} : PySem.W.KitX X.K (.ref x) (.ref C) (fun h => PySem.W.InstAt h x ox C od) := by
  obtain ⟨cd, _, hcd, _⟩ := T.cd
  exact PySem.W.kitx_exc (by rw [hcd]; rfl) T.ga T.gg T.exC T.ca M.hn M.ht T.own
/-- what the object a is, as an instance -/
theorem exo_inst (I : Inv X pins σ H s) (ea : H a = some (exo a C d)) (ed : ∀ dd, d = some dd → ∃ fs, H dd = some (exd dd fs)) : ∃ ox od, PySem.W.InstAt s.heap a ox C od := by
  obtain ⟨t1, ho⟩ := exo_at I.hok ea
  cases d with
  | none => exact ⟨_, none, ho, rfl, rfl, trivial⟩
  | some dd =>
    obtain ⟨fs, ed⟩ := ed dd rfl
    obtain ⟨mA, ⟨o, es, ep, e1, _⟩, _⟩ := exd_at I.hok ed
    exact ⟨_, some o, ho, rfl, rfl, e1⟩
/-- a value that is an exception of the class C -/
def IsEx (H : Hp) (a C : Addr) : Prop := (∃ d, H a = some (exo a C d) ∧ ∀ dd, d = some dd → ∃ fs, H dd = some (exd dd fs)) ∨ H a = some (ExO (.ref C) a)
theorem isEx_inst (I : Inv X pins σ H s) (h : IsEx H a C) : ∃ ox od, PySem.W.InstAt s.heap a ox C od := by
  rcases h with ⟨d, ea, ed⟩ | ea
  · exact exo_inst I ea ed
  · obtain ⟨⟨oe, vs, he, ⟨h1, h2⟩, hd, _⟩, _⟩ := I.hok a _ ea
    refine ⟨oe, none, he, h1, ?_, ?_⟩
    · unfold PySem.W.notCls
      rw [hd]
    · rw [h2]
      trivial
/-- isinstance(e, T): one class, or a tuple of such -/
def rIsX (K : PySem.W.Frag) : List V → Hp → VK → Prop := fun xs H Q => ∃ (a C : Addr) (c : V) (b : Bool), xs = [.ref a, c] ∧ ExX K C ∧ IsEx H a C ∧ ((∃ cv, (∀ u, RelV c u → u = cv) ∧ PySem.W.kitOne K (.ref C) cv = some b) ∨
  ∃ (p : Addr) (ts : List V) (cvs : List Value), c = .ref p ∧ H p = some (.tup ts) ∧ (∀ us, Vals ts us → us = cvs) ∧ PySem.W.kitAny K (.ref C) cvs = some b) ∧ Q (.bl b) H
theorem call_isX (M : ExM X.K) : CallR X (.builtin "isinstance") (rIsX X.K) := by
  intro pins s σ H xs us Q I r h
  obtain ⟨a, C, c, b, rfl, ⟨B, newId, initId, tl, T⟩, ia, hc, q⟩ := h
  obtain ⟨ox, od, J⟩ := isEx_inst I ia
  cases r with
  | @cons _ u0 _ _ rx rr =>
    cases rr with
    | @cons _ u1 _ _ rt rr =>
      cases rr
      obtain rfl : u0 = Value.ref a := rx
      rcases hc with ⟨cv, hcv, e⟩ | ⟨p, ts, cvs, rfl, hp, hcv, e⟩
      · have ec := hcv _ rt
        subst ec
        exact PySem.W.kia_one (kit_of M T) I.kIn J e (fun z => nomatch z) fun tk => ⟨.bl b, H, I.kept (t' := tk) fun _ _ z => z, rfl, q⟩
      · obtain rfl : u1 = Value.ref p := rt
        obtain ⟨_, its, rv, ob, ho, hcls, n, hd⟩ := I.hok p _ hp
        have ei := hcv _ rv
        subst ei
        obtain ⟨oc, odd, oda, osl⟩ := ob
        obtain rfl : oc = .type "tuple" := hcls
        obtain rfl : oda = .seq its.toArray n := hd
        exact PySem.W.kia_tup (kit_of M T) I.kIn J ho e (fun z => nomatch z) fun tk => ⟨.bl b, H, I.kept (t' := tk) fun _ _ z => z, rfl, q⟩
end
end QE

set_option Elab.async false
set_option linter.all false
set_option maxRecDepth 100000
set_option maxHeartbeats 4000000
/-! QR: values that are data at any depth, dicts among them; repr of data; == of data. -/
namespace QR
open PySem PySem.Spec PyProof.Rows L2

def keyD : Key → PyData
  | .inl i => .int i
  | .inr x => .str x
mutual
/-- in the heap H the value is that data -/
inductive Dv (K : PySem.W.Frag) (H : Hp) : V → PyData → Prop
  | non : Dv K H .non .none
  | bl (b : Bool) : Dv K H (.bl b) (.bool b)
  | int (i : Int) : Dv K H (.int i) (.int i)
  | str (x : Str) : Dv K H (.str x) (.str x)
  | lst {a : Addr} {xs : List V} {ds : List PyData} : SqL K H a xs → DvAll K H xs ds → Dv K H (.ref a) (.list ds)
  | tup {a : Addr} {xs : List V} {ds : List PyData} : SqT K H a xs → DvAll K H xs ds → Dv K H (.ref a) (.tuple ds)
  | dic {a : Addr} {kvs : List (Key × V)} {ds : List (PyData × PyData)} : H a = some (.dK kvs) → DvKv K H kvs ds → Dv K H (.ref a) (.dict ds)
inductive DvAll (K : PySem.W.Frag) (H : Hp) : List V → List PyData → Prop
  | nil : DvAll K H [] []
  | cons {v : V} {vs : List V} {d : PyData} {ds : List PyData} : Dv K H v d → DvAll K H vs ds → DvAll K H (v :: vs) (d :: ds)
inductive DvKv (K : PySem.W.Frag) (H : Hp) : List (Key × V) → List (PyData × PyData) → Prop
  | nil : DvKv K H [] []
  | cons {k : Key} {v : V} {kvs : List (Key × V)} {d : PyData} {ds : List (PyData × PyData)} : Dv K H v d → DvKv K H kvs ds → DvKv K H ((k, v) :: kvs) ((keyD k, d) :: ds)
end
section
variable {K : PySem.W.Frag} {H H' : Hp}
mutual
theorem Dv.mono (e : Same H H') : ∀ {v : V} {d : PyData}, Dv K H v d → Dv K H' v d
  | _, _, .non => .non
  | _, _, .bl b => .bl b
  | _, _, .int i => .int i
  | _, _, .str x => .str x
  | _, _, .lst h r => .lst (e.seq h) (DvAll.mono e r)
  | _, _, .tup h r => .tup (by
      rcases h with (h | ⟨o, h⟩) | h
      · exact .inl (.inl (e _ _ h))
      · exact .inl (.inr ⟨o, e _ _ h⟩)
      · exact .inr h) (DvAll.mono e r)
  | _, _, .dic h r => .dic (e _ _ h) (DvKv.mono e r)
theorem DvAll.mono (e : Same H H') : ∀ {vs : List V} {ds : List PyData}, DvAll K H vs ds → DvAll K H' vs ds
  | _, _, .nil => .nil
  | _, _, .cons h r => .cons (Dv.mono e h) (DvAll.mono e r)
theorem DvKv.mono (e : Same H H') : ∀ {kvs : List (Key × V)} {ds : List (PyData × PyData)}, DvKv K H kvs ds → DvKv K H' kvs ds
  | _, _, .nil => .nil
  | _, _, .cons h r => .cons (Dv.mono e h) (DvKv.mono e r)
end
theorem DvAll.length : ∀ {vs : List V} {ds : List PyData}, DvAll K H vs ds → vs.length = ds.length
  | _, _, .nil => rfl
  | _, _, .cons _ r => congrArg (· + 1) (DvAll.length r)
theorem DvAll.append : ∀ {vs : List V} {ds : List PyData} {ws : List V} {es : List PyData}, DvAll K H vs ds → DvAll K H ws es → DvAll K H (vs ++ ws) (ds ++ es)
  | _, _, _, _, .nil, s => s
  | _, _, _, _, .cons h r, s => .cons h (DvAll.append r s)
theorem DvAll.one {v : V} {d : PyData} (h : Dv K H v d) : DvAll K H [v] [d] := .cons h .nil
theorem DvAll.get : ∀ {vs : List V} {ds : List PyData} {i : Nat} {v : V}, DvAll K H vs ds → vs[i]? = some v → ∃ d, ds[i]? = some d ∧ Dv K H v d
  | _, _, i, _, .nil, e => by simp at e
  | _, _, 0, _, .cons h _, e => by
    simp at e
    subst e
    exact ⟨_, rfl, h⟩
  | _, _, i + 1, _, .cons _ r, e => by
    obtain ⟨d, h1, h2⟩ := DvAll.get (i := i) r (by simpa using e)
    exact ⟨d, by simpa using h1, h2⟩
theorem DvAll.get' : ∀ {vs : List V} {ds : List PyData} {i : Nat} {d : PyData}, DvAll K H vs ds → ds[i]? = some d → ∃ v, vs[i]? = some v ∧ Dv K H v d
  | _, _, i, _, .nil, e => by simp at e
  | _, _, 0, _, .cons h _, e => by
    simp at e
    subst e
    exact ⟨_, rfl, h⟩
  | _, _, i + 1, _, .cons _ r, e => by
    obtain ⟨v, h1, h2⟩ := DvAll.get' (i := i) r (by simpa using e)
    exact ⟨v, by simpa using h1, h2⟩
theorem DvAll.of_same {d : PyData} {v : V} (h : Dv K H v d) : ∀ n : Nat, DvAll K H (List.replicate n v) (List.replicate n d)
  | 0 => .nil
  | n + 1 => .cons h (DvAll.of_same h n)
theorem DvAll.strs : ∀ xs : List Str, DvAll K H (xs.map V.str) (xs.map PyData.str)
  | [] => .nil
  | x :: xs => .cons (.str x) (DvAll.strs xs)
theorem DvAll.ints : ∀ xs : List Int, DvAll K H (xs.map V.int) (xs.map PyData.int)
  | [] => .nil
  | x :: xs => .cons (.int x) (DvAll.ints xs)
theorem DvAll.bools : ∀ xs : List Bool, DvAll K H (xs.map V.bl) (xs.map PyData.bool)
  | [] => .nil
  | x :: xs => .cons (.bl x) (DvAll.bools xs)
theorem Dv.list {a : Addr} {xs : List V} {ds : List PyData} (h : H a = some (.lst xs)) (r : DvAll K H xs ds) : Dv K H (.ref a) (.list ds) := .lst (.of h) r
theorem Dv.tuple {a : Addr} {xs : List V} {ds : List PyData} (h : H a = some (.tup xs)) (r : DvAll K H xs ds) : Dv K H (.ref a) (.tuple ds) := .tup (.of h) r
end

/-! ### what is read of it -/
section
variable {X : Cx} {pins : List (Addr × Obj)} {σ : L2.St} {H : Hp} {s : Shared}
/-- sys.modules stands in the written part, a dict -/
def SysK (K : PySem.W.Frag) : Prop := ∃ oc od es ep sl, K.lookup sysModules = some ⟨oc, od, .dict es ep, sl⟩
theorem sys_free (I : Inv X pins σ H s) (hs : SysK X.K) : H sysModules = none := by
  obtain ⟨oc, od, es, ep, sl, e⟩ := hs
  exact (I.bs _ _ (I.ok.mod.kin _ _ e)).2
theorem list_nosys (I : Inv X pins σ H s) (hs : SysK X.K) {a : Addr} {xs : List V} (h : SqL X.K H a xs) : a ≠ sysModules := fun z => by
  subst z
  have n := sys_free I hs
  rcases h with (h | ⟨o, h⟩) | ⟨o, its, m, hk, _, _, hd, _⟩
  · rw [n] at h; cases h
  · rw [n] at h; cases h
  · obtain ⟨oc, od, es, ep, sl, e⟩ := hs
    rw [hk] at e
    cases e
    cases hd
mutual
theorem Dv.reads (I : Inv X pins σ H s) (hs : SysK X.K) : ∀ {v : V} {d : PyData} {u : Value}, Dv X.K H v d → RelV v u → ∃ as, Reads s.heap u d as ∧ sysModules ∉ as
  | _, _, _, .non, r => by
    cases r
    exact ⟨_, Reads.none, nofun⟩
  | _, _, _, .bl b, r => by
    cases r
    exact ⟨_, Reads.bool b, nofun⟩
  | _, _, _, .int i, r => by
    obtain ⟨t, rfl⟩ := r
    exact ⟨_, Reads.int i t, nofun⟩
  | _, _, _, .str x, r => by
    obtain ⟨t, rfl⟩ := r
    exact ⟨_, Reads.str x t, nofun⟩
  | _, _, _, .lst h ha, r => by
    cases r
    obtain ⟨its, rv, ⟨o, n, ho, hc, _, hd⟩, _⟩ := I.list h
    obtain ⟨as, hr, nn⟩ := DvAll.reads I hs ha rv
    exact ⟨_, Reads.list ho hc hd hr, fun z => (List.mem_cons.mp z).elim (fun e => list_nosys I hs h e.symm) nn⟩
  | _, _, _, .tup h ha, r => by
    cases r
    obtain ⟨its, rv, ⟨o, ho, hc, n, hd⟩, _⟩ := I.tuple h
    obtain ⟨as, hr, nn⟩ := DvAll.reads I hs ha rv
    exact ⟨_, Reads.tuple ho hc hd hr, nn⟩
  | _, _, _, .dic (a := a) (kvs := kvs) h ha, r => by
    cases r
    obtain ⟨_, ne, vs, rv, o, es, ep, ho, hx, hd, _, hp, _⟩ := (show ObjOk X.prog X.w H s.heap a (.dK kvs) from I.hok a _ h)
    obtain ⟨as, bs, h1, h2, n1, n2⟩ := DvKv.reads I hs ha rv hp
    refine ⟨_, Reads.dict ho hx.1 hd h1 h2, fun z => ?_⟩
    rcases List.mem_append.mp z with z | z
    · rcases List.mem_cons.mp z with e | z
      · rw [e] at ne
        simp at ne
      · exact n1 z
    · exact n2 z
theorem DvAll.reads (I : Inv X pins σ H s) (hs : SysK X.K) : ∀ {vs : List V} {ds : List PyData} {us : List Value}, DvAll X.K H vs ds → Vals vs us → ∃ as, ReadsAll s.heap us ds as ∧ sysModules ∉ as
  | _, _, _, .nil, r => by
    cases r
    exact ⟨_, ReadsAll.nil, nofun⟩
  | _, _, _, .cons h1 h2, r => by
    cases r with
    | cons r1 r2 =>
      obtain ⟨as, q1, n1⟩ := Dv.reads I hs h1 r1
      obtain ⟨bs, q2, n2⟩ := DvAll.reads I hs h2 r2
      exact ⟨_, ReadsAll.cons q1 q2, fun z => (List.mem_append.mp z).elim n1 n2⟩
theorem DvKv.reads (I : Inv X pins σ H s) (hs : SysK X.K) : ∀ {kvs : List (Key × V)} {ds : List (PyData × PyData)} {vs : List (Key × Value)} {es : List DictEntry}, DvKv X.K H kvs ds → KV kvs vs → Pairs (mixKind X.prog X.w) es vs →
    ∃ as bs, ReadsAll s.heap (es.map (·.key)) (ds.map (·.1)) as ∧ ReadsAll s.heap (es.map (·.val)) (ds.map (·.2)) bs ∧ sysModules ∉ as ∧ sysModules ∉ bs
  | _, _, _, _, .nil, r, p => by
    cases r
    cases p
    exact ⟨_, _, ReadsAll.nil, ReadsAll.nil, nofun, nofun⟩
  | _, _, _, _, .cons (k := k) h1 h2, r, p => by
    cases r with
    | cons r1 r2 =>
      cases p with
      | @cons en _ _ _ p1 p2 p3 =>
        obtain ⟨e1, rv⟩ := r1
        obtain ⟨as, bs, q1, q2, n1, n2⟩ := DvKv.reads I hs h2 r2 p3
        obtain ⟨cs, q3, n3⟩ := Dv.reads I hs h1 rv
        rw [← p2] at q3
        rw [← e1] at p1
        have kr : ∃ zs, Reads s.heap en.key (keyD k) zs ∧ sysModules ∉ zs := by
          rcases keyIs_shape p1 with ⟨i, t, ek, ev⟩ | ⟨x, t, ek, ev⟩
          · rw [show k = Sum.inl i from ek, ev]
            exact ⟨_, Reads.int i t, nofun⟩
          · rw [show k = Sum.inr x from ek, ev]
            exact ⟨_, Reads.str x t, nofun⟩
        obtain ⟨zs, q4, n4⟩ := kr
        exact ⟨_, _, ReadsAll.cons q4 q1, ReadsAll.cons q3 q2, fun z => (List.mem_append.mp z).elim n4 n1, fun z => (List.mem_append.mp z).elim n3 n2⟩
end
end

/-! ### repr, == -/
section
variable {X : Cx}
/-- what can be shown -/
structure Shows (d : PyData) : Prop where
  ok : d.showable = true
  deep : d.depth ≤ 40
  len : d.shown.length ≤ sizeLine
def rRepr (K : PySem.W.Frag) : List V → Hp → VK → Prop := fun xs H Q => ∃ v d, xs = [v] ∧ Dv K H v d ∧ ((∃ ds, d = .list ds) ∨ (∃ ds, d = .tuple ds) ∨ (∃ x, d = .str x)) ∧ Shows d ∧ Q (.str d.shown) H
theorem call_repr {k : Nat} (gd : X.A.guards = some []) (hr : Room k X.A) (hs : SysK X.K) : CallR X (.builtin "repr") (rRepr X.K) := by
  intro pins s σ H xs us Q I r h
  obtain ⟨v, d, rfl, dv, hk, S, q⟩ := h
  obtain ⟨u, rfl, ru⟩ : ∃ u, us = [u] ∧ RelV v u := by
    cases r with
    | cons r1 r2 =>
      cases r2
      exact ⟨_, rfl, r1⟩
  obtain ⟨as, rd, ns⟩ := Dv.reads I hs dv ru
  have hu : X.A.units + (d.depth + 1) < cLine := by have := hr.un; have := S.deep; omega
  have fin : ∀ (h' : Heap) (u : Tok) (tk : Nat), (∀ b o, s.heap.get? b = some o → h'.get? b = some o) → EP X pins σ Q (.str d.shown u) { s with heap := h', toks := tk } :=
    fun h' u tk k => ⟨.str d.shown, H, I.kept (t' := tk) k, ⟨u, rfl⟩, q⟩
  rcases hk with ⟨ds, rfl⟩ | ⟨ds, rfl⟩ | ⟨x, rfl⟩
  · cases dv with
    | lst h1 h2 =>
      cases ru
      exact repr_of_reads' rd S.ok (fun _ => ns) gd hu (fun _ _ e => e) fin S.len
  · cases dv with
    | tup h1 h2 =>
      cases ru
      exact repr_of_reads' rd S.ok (fun _ => ns) gd hu (fun _ _ e => e) fin S.len
  · cases dv
    obtain ⟨t, rfl⟩ := ru
    have e := S.len
    simp only [PyData.shown] at e q
    exact PySem.P.repr_of_str ⟨.str _, H, I.tok _, ⟨_, rfl⟩, q⟩ e
end
end QR

set_option Elab.async false
set_option linter.all false
set_option maxRecDepth 100000
set_option maxHeartbeats 4000000
/-! QH: the head's facts, told by Bools of the part of the heap that the module's names reach, and the end over them. -/
namespace QH
open PySem PySem.Spec PyProof.Rows L2

abbrev Fb : Type := PySem.W.Frag → Bool
abbrev AlQ : Type := Bool × List He.FnW
def obsQ (fs : List Fb) (fn : List He.DefD) (K : PySem.W.Frag) : AlQ := ((fs.all fun f => f K) && fn.all fun d => d.ok K, fn.map fun d => He.fnW K d.at_)
def valQ (fn : List He.DefD) : AlQ := (true, fn.map He.DefD.val)
def asQ (n : Nat) (g : Addr → Option Obj) : List Addr := sysModules :: cStatics :: He.asD g n
def obsQG (n : Nat) (fs : List Fb) (fn : List He.DefD) (g : Addr → Option Obj) : AlQ := obsQ fs fn (He.frG g (asQ n g))
def Says (fs : List Fb) (fn : List He.DefD) (K : PySem.W.Frag) : Prop := obsQ fs fn K = valQ fn
def hookQ (n : Nat) (fs : List Fb) (fn : List He.DefD) : PySem.W.Hook where
  α := AlQ
  obs := fun s => obsQG n fs fn s.heap.get?
  val := fun _ => valQ fn
  says := fun _ h => ∃ K : PySem.W.Frag, K.In h ∧ Says fs fn K
  of := fun _ _ e => ⟨_, He.frG_in, e⟩
  keeps := fun _ _ _ ⟨K, hK, c⟩ k => ⟨K, PySem.W.Frag.In.keeps hK k, c⟩
theorem obsQG_eq {n : Nat} {fs : List Fb} {fn : List He.DefD} {g : Addr → Option Obj} {s : Shared} (h : ∀ a, g a = s.heap.get? a) : obsQG n fs fn g = (hookQ n fs fn).obs s := by
  obtain rfl : g = s.heap.get? := funext h
  rfl
section
variable {fs : List Fb} {fn : List He.DefD} {K : PySem.W.Frag}
theorem Says.fact (c : Says fs fn K) (i : Nat) {f : Fb} (h : fs[i]? = some f := by rfl) : f K = true := by
  have c1 := (He.ba (show ((fs.all fun f => f K) && fn.all fun d => d.ok K) = true from congrArg (fun z : AlQ => z.1) c)).1
  exact List.all_eq_true.mp c1 f (List.mem_of_getElem? h)
theorem Says.def_ (c : Says fs fn K) (i : Nat) {d : He.DefD} (h : fn[i]? = some d := by rfl) : ∃ fd, FunD K d.name d.qual d.params d.body d.scope (d.dvs K) (d.kws K) (He.fAd K d.at_) fd := by
  have c2 := (He.ba (show ((fs.all fun f => f K) && fn.all fun d => d.ok K) = true from congrArg (fun z : AlQ => z.1) c)).2
  have e : fn.map (fun d => He.fnW K d.at_) = fn.map He.DefD.val := congrArg (fun z : AlQ => z.2) c
  have e2 : (fn.map fun d => He.fnW K d.at_)[i]? = (fn.map He.DefD.val)[i]? := by rw [e]
  rw [List.getElem?_map, List.getElem?_map, h] at e2
  exact He.DefD.funD (Option.some.inj e2) (List.all_eq_true.mp c2 d (List.mem_of_getElem? h))
end

/-! ### facts -/
def eqV (a b : Option (Option Value)) : Bool := decide (a = b)
theorem eqV_ok {a b : Option (Option Value)} (h : eqV a b = true) : a = b := of_decide_eq_true h
def glo (x : Str) : Fb := fun K => eqV (PySem.W.nsIn K mainGlobals x) (some (some (.ref (He.ga K x))))
def free (x : Str) : Fb := fun K => eqV (PySem.W.nsIn K mainGlobals x) (some none)
theorem glo_ok {K : PySem.W.Frag} {h : Heap} {mg : Str → Option Value} (X : K.In h) (G : h.Ns mainGlobals mg) {x : Str} (c : glo x K = true) : mg x = some (.ref (He.ga K x)) := PySem.W.mg_of X G (eqV_ok c)
theorem free_ok {K : PySem.W.Frag} {h : Heap} {mg : Str → Option Value} (X : K.In h) (G : h.Ns mainGlobals mg) {x : Str} (c : free x K = true) : mg x = none := PySem.W.mg_none_of X G (eqV_ok c)
/-- several names at once -/
def frees (xs : List Str) : Fb := fun K => xs.all fun x => free x K
theorem frees_ok {K : PySem.W.Frag} {h : Heap} {mg : Str → Option Value} (X : K.In h) (G : h.Ns mainGlobals mg) {xs : List Str} (c : frees xs K = true) {x : Str} (hx : x ∈ xs) : mg x = none := free_ok X G (List.all_eq_true.mp c x hx)
/-- sys.modules stands -/
def isDict : Data → Bool
  | .dict _ _ => true
  | _ => false
def sysB : Fb := fun K => match K.lookup sysModules with
  | some o => isDict o.data
  | none => false
theorem sysB_ok {K : PySem.W.Frag} (c : sysB K = true) : QR.SysK K := by
  unfold sysB at c
  split at c
  · rename_i o e
    obtain ⟨oc, od, dt, sl⟩ := o
    cases dt with
    | dict es ep => exact ⟨oc, od, es, ep, sl, e⟩
    | _ => cases c
  · cases c

/-! exceptions -/
def lineB (tl : List Value) : List Value → Bool
  | .ref c :: r => (Value.ref c :: r) == tl || lineB tl r
  | l => l == tl
theorem lineB_ok {tl : List Value} : ∀ {l : List Value}, lineB tl l = true → QE.Line tl l
  | .ref c :: r, h => by
    rcases Bool.or_eq_true_iff.mp (show ((Value.ref c :: r) == tl || lineB tl r) = true from h) with e | e
    · exact ⟨[], by rw [beq_iff_eq.mp e]; rfl⟩
    · obtain ⟨cs, e⟩ := lineB_ok e
      exact ⟨c :: cs, by rw [e]; rfl⟩
  | [], h => ⟨[], beq_iff_eq.mp h⟩
  | .none :: _, h => ⟨[], beq_iff_eq.mp h⟩
  | .ellipsis :: _, h => ⟨[], beq_iff_eq.mp h⟩
  | .notImplemented :: _, h => ⟨[], beq_iff_eq.mp h⟩
  | .bool _ :: _, h => ⟨[], beq_iff_eq.mp h⟩
  | .int _ _ :: _, h => ⟨[], beq_iff_eq.mp h⟩
  | .float _ _ :: _, h => ⟨[], beq_iff_eq.mp h⟩
  | .str _ _ :: _, h => ⟨[], beq_iff_eq.mp h⟩
  | .bytes _ _ :: _, h => ⟨[], beq_iff_eq.mp h⟩
  | .type _ :: _, h => ⟨[], beq_iff_eq.mp h⟩
  | .builtin _ :: _, h => ⟨[], beq_iff_eq.mp h⟩
def excO (K : PySem.W.Frag) (C : Addr) (newId : String) (tl : List Value) : Bool := match K.lookup C with
  | some ⟨.type "type", _, .cls cd, sl⟩ => (match cd.mro, sl.toList with
    | .ref C' :: bm, [_, _, _, _, some (.builtin n), _] => decide (C' = C) && (decide (n = newId) && (!cd.hasDel && (cd.hasDict && lineB tl bm)))
    | _, _ => false)
  | _ => false
theorem excO_ok {K : PySem.W.Frag} {C : Addr} {newId : String} {tl : List Value} (h : excO K C newId tl = true) :
    ∃ nm q N bs bm sn sub ab col dd k0 k1 k2 k3 k5, K.lookup C = some (excClassObj nm q C N bs bm true sn sub ab col dd k0 k1 k2 k3 k5 newId) ∧ QE.Line tl bm := by
  unfold excO at h
  split at h
  · rename_i dd cd sl ho
    split at h
    · rename_i C' bm k0 k1 k2 k3 n k5 hm hs
      obtain ⟨h2, h⟩ := He.ba h
      obtain ⟨h3, h⟩ := He.ba h
      obtain ⟨h4, h⟩ := He.ba h
      obtain ⟨h5, h6⟩ := He.ba h
      obtain rfl := of_decide_eq_true h2
      obtain rfl := of_decide_eq_true h3
      obtain ⟨nm, bs, mro, ns, qn, hd, sn, sub, ab, col, del⟩ := cd
      have hm' : mro = Value.ref C' :: bm := hm
      have h4' : (!del) = true := h4
      have h5' : hd = true := h5
      subst hm' h5'
      obtain rfl : del = false := by cases del <;> first | rfl | cases h4'
      have hsl : sl = #[k0, k1, k2, k3, some (.builtin n), k5] := by
        obtain ⟨l⟩ := sl
        have hs' : l = [k0, k1, k2, k3, some (.builtin n), k5] := hs
        rw [hs']
      subst hsl
      exact ⟨nm, qn, ns, bs, bm, sn, sub, ab, col, dd, k0, k1, k2, k3, k5, ho, lineB_ok h6⟩
    · cases h
  · cases h
/-- the class x over the built-in class that is told by newId and its line -/
def exc (x : Str) (newId : String) (tl : List Value) : Fb := fun K => excO K (He.ga K x) newId tl && (eqV (PySem.W.findIn K (.ref (He.ga K x)) "__setattr__") (some (some (.builtin "object.__setattr__"))) &&
  (eqV (PySem.W.findIn K (.ref (He.ga K x)) "__getattribute__") (some (some (.builtin "BaseException.__getattribute__"))) && (eqV (PySem.W.findIn K (.ref (He.ga K x)) "__getattr__") (some none) &&
  (decide (PySem.W.subIn K (.ref (He.ga K x)) (.type "BaseException") = some true) && (decide (PySem.W.typeIn K (.ref (He.ga K x)) = some (.type "type")) && (PySem.W.keepIn K (.ref (He.ga K x)) &&
  eqV (PySem.W.findIn K (.ref (He.ga K x)) "__class__") (some (some (.builtin "object.__class__")))))))))
theorem exc_ok {K : PySem.W.Frag} {x : Str} {B newId initId : String} {tl : List Value} (F : ExcBaseFacts B newId initId tl) (S : StoreFacts B tl "object.__setattr__" "object") (h : exc x newId tl K = true) : QE.ExB K (He.ga K x) B newId initId tl := by
  obtain ⟨h1, h⟩ := He.ba h
  obtain ⟨h2, h⟩ := He.ba h
  obtain ⟨h3, h⟩ := He.ba h
  obtain ⟨h4, h⟩ := He.ba h
  obtain ⟨h5, h⟩ := He.ba h
  obtain ⟨h6, h⟩ := He.ba h
  obtain ⟨h7, h8⟩ := He.ba h
  exact ⟨F, S, excO_ok h1, eqV_ok h2, eqV_ok h3, eqV_ok h4, of_decide_eq_true h5, of_decide_eq_true h6, h7, eqV_ok h8⟩
/-- its own __init__, a def; names that are no attributes of it -/
def ini (x : Str) (fs : List Str) : Fb := fun K => eqV (PySem.W.findIn K (.ref (He.ga K x)) "__init__") (some (some (.ref (He.ma K (He.ga K x) "__init__")))) &&
  (decide (PySem.W.typeIn K (.ref (He.ma K (He.ga K x) "__init__")) = some (.type "function")) && fs.all fun f => eqV (PySem.W.findIn K (.ref (He.ga K x)) f) (some none))
theorem ini_ok {K : PySem.W.Frag} {x : Str} {fs : List Str} (h : ini x fs K = true) : PySem.W.findIn K (.ref (He.ga K x)) "__init__" = some (some (.ref (He.ma K (He.ga K x) "__init__"))) ∧
    PySem.W.typeIn K (.ref (He.ma K (He.ga K x) "__init__")) = some (.type "function") ∧ ∀ f ∈ fs, PySem.W.findIn K (.ref (He.ga K x)) f = some none := by
  obtain ⟨h1, h⟩ := He.ba h
  obtain ⟨h2, h3⟩ := He.ba h
  exact ⟨eqV_ok h1, of_decide_eq_true h2, fun f hf => eqV_ok (List.all_eq_true.mp h3 f hf)⟩
def exM : Fb := fun K => eqV (PySem.W.specialIn K (.builtin "object.__class__") "__get__") (some (some (.builtin "getset_descriptor.__get__"))) && decide (PySem.W.takesIn K (.builtin "object.__class__") = some true)
theorem exM_ok {K : PySem.W.Frag} (h : exM K = true) : QE.ExM K := by
  obtain ⟨h1, h2⟩ := He.ba h
  exact ⟨eqV_ok h1, of_decide_eq_true h2⟩
/-- an attribute of a class that is a built-in -/
def clsV (c mc : Value) (f : Str) (id : String) (K : PySem.W.Frag) : Bool := match PySem.W.findCls K c mc f with
  | some (.val (.builtin n)) => decide (n = id)
  | _ => false
theorem clsV_ok {K : PySem.W.Frag} {c mc : Value} {f : Str} {id : String} (h : clsV c mc f id K = true) : PySem.W.findCls K c mc f = some (.val (.builtin id)) := by
  unfold clsV at h
  split at h
  · rename_i n e
    rw [e, of_decide_eq_true h]
  · cases h
/-- x.f, x an own class, is the built-in id -/
def cre (x : Str) (f : Str) (id : String) : Fb := fun K => PySem.W.readsIn K (He.ga K x) (.type "type") && (eqV (PySem.W.specialIn K (.ref (He.ga K x)) "__getattribute__") (some (some (.builtin "type.__getattribute__"))) && clsV (.ref (He.ga K x)) (.type "type") f id K)
theorem cre_ok {K : PySem.W.Frag} {x f : Str} {id : String} (h : cre x f id K = true) : ClX.CRead K (He.ga K x) (.type "type") ∧ PySem.W.findCls K (.ref (He.ga K x)) (.type "type") f = some (.val (.builtin id)) := by
  obtain ⟨h1, h⟩ := He.ba h
  obtain ⟨h2, h3⟩ := He.ba h
  exact ⟨⟨h1, eqV_ok h2⟩, clsV_ok h3⟩
/-- isinstance of an instance of x: for each class (a name of the module, a built-in one) its answer -/
def kin (x : Str) (cs : List (Value × Bool)) (os : List (Str × Bool)) : Fb := fun K => (cs.all fun c => decide (PySem.W.kitOne K (.ref (He.ga K x)) c.1 = some c.2)) && os.all fun c => decide (PySem.W.kitOne K (.ref (He.ga K x)) (.ref (He.ga K c.1)) = some c.2)
theorem kin_ok {K : PySem.W.Frag} {x : Str} {cs : List (Value × Bool)} {os : List (Str × Bool)} (h : kin x cs os K = true) : (∀ c ∈ cs, PySem.W.kitOne K (.ref (He.ga K x)) c.1 = some c.2) ∧ ∀ c ∈ os, PySem.W.kitOne K (.ref (He.ga K x)) (.ref (He.ga K c.1)) = some c.2 := by
  obtain ⟨h1, h2⟩ := He.ba h
  exact ⟨fun c hc => of_decide_eq_true (List.all_eq_true.mp h1 c hc), fun c hc => of_decide_eq_true (List.all_eq_true.mp h2 c hc)⟩
/-- .. of a tuple of classes -/
def kint (x : Str) (cs : List Value) (b : Bool) : Fb := fun K => decide (PySem.W.kitAny K (.ref (He.ga K x)) cs = some b)

/-! ### the end -/
theorem walk_GE {l : PySem.W.OpenLaw} {n k : Nat} {q : Program} {loose : List Str} {XP : (Str → Option Value) → Heap → Prop} {YP : World → Heap → Prop} {d : DefRec} {CX : World → CXT} {x : Str}
    (hn : l.most = some n) (hn2 : n ≤ sizeLine) (hdf : d.params.defaults = []) (hr : Room k callerA)
    (F : ∀ (w : World) (mg : Str → Option Value) (fa : Addr) (h : Heap), YP w h → h.Ns mainGlobals mg → mg d.name = some (.ref fa) →
      ∃ (K : PySem.W.Frag) (fd : FuncData) (sp : Sp), K.In h ∧ (∀ (s : Shared) (u : Value), BindsTo s fd ⟨[u], []⟩ [(x, u)]) ∧
        (∀ (H : Hp) (a : Addr) (ns : List Int), ns.length ≤ n → (∀ z ∈ ns, Builtin.Int.intBits z ≤ 1048576) → Only H → SqL K H a (ns.map V.int) → sp [.ref a] H (fun v _ => v = .bl true) fun _ _ _ => False) ∧
        ∀ base : Heap, K.In base → base.Ns mainGlobals mg → QG.FnG l.prog w K mg base (CX w) k fa fd [x] sp)
    (hCX : ∀ (w : World) (H : Hp) (s : Shared) (e : Value) (s' : Shared), CX w [] H s (fun _ _ _ => False) e s' → False) :
    PySem.W.WalkO q loose XP YP l.row.toRowW d [] (fun f vs => PySem.call f vs) := by
  refine Att.attach_callB hn hdf fun w s₀ s₁ mg mb fa o pm cd doc a vs ns G Y ho hd hcd hmg hobj hints hlen hbits hg => ?_
  obtain ⟨K, fd, sp, KX, hb, hsp, hF⟩ := F w mg fa _ Y G.T.g hmg
  exact QG.law_callG KX G.T.g G.T.b G.T.builtins G.T.nolimit hg hobj hints (Nat.le_trans hlen hn2) hr hF hb (fun H hO hS => hsp H a ns hlen hbits hO hS) fun H e s' => hCX w H s₁ e s'
end QH
namespace QH
open PySem PySem.Spec PyProof.Rows L2
/-- a fact of the library's own kind -/
def fa (f : He.Fa) : Fb := fun K => f.ok K
theorem fa_ok {K : PySem.W.Frag} {f : He.Fa} (h : fa f K = true) : f.ok K = true := h
/-- an int as a class's attribute -/
def cint (x f : Str) (i : Int) : Fb := fun K => match PySem.W.findIn K (.ref (He.ga K x)) f with
  | some (some (.int j _)) => decide (j = i)
  | _ => false
theorem cint_ok {K : PySem.W.Frag} {x f : Str} {i : Int} (h : cint x f i K = true) : ∃ t, PySem.W.findIn K (.ref (He.ga K x)) f = some (some (.int i t)) := by
  unfold cint at h
  split at h
  · rename_i j t e
    rw [of_decide_eq_true h] at e
    exact ⟨t, e⟩
  · cases h
end QH

set_option Elab.async false
set_option linter.all false
set_option maxRecDepth 100000
set_option maxHeartbeats 4000000
/-! QW: readings by worlds. F: what is known and stands for ever; H: the heap; a world: what may change besides, and what holds of it. -/
namespace QW
open PySem PySem.Spec PyProof.Rows L2

/-- from (F, H) to (F', H'): what was known is known, what is newly known is new, what stood stands but at M -/
structure Gr (M : List Addr) (F H F' H' : Hp) : Prop where
  ff : Same F F'
  fh : Same F' H'
  hh : ∀ b o, b ∉ M → H b = some o → H' b = some o
  nw : ∀ b, F b = none → H b ≠ none → F' b = none
theorem same_none {H H' : Hp} (e : Same H H') {b : Addr} (h : H' b = none) : H b = none := e.free h
theorem Gr.refl {M : List Addr} {F H : Hp} (h : Same F H) : Gr M F H F H := ⟨Same.refl F, h, fun _ _ _ e => e, fun _ e _ => e⟩
theorem Gr.trans {M : List Addr} {F H F1 H1 F2 H2 : Hp} (hM : ∀ m ∈ M, F m = none → F1 m = none → F2 m = none) (a : Gr M F H F1 H1) (b : Gr M F1 H1 F2 H2) : Gr M F H F2 H2 :=
  ⟨a.ff.trans b.ff, b.fh, fun x o n e => b.hh x o n (a.hh x o n e), fun x e n => by
    have e1 := a.nw x e n
    by_cases hm : x ∈ M
    · exact hM x hm e e1
    · refine b.nw x e1 fun z => ?_
      cases q : H x with
      | none => exact n q
      | some o => rw [a.hh x o hm q] at z; cases z⟩
/-- a new object that is not kept in mind, or will change -/
theorem Gr.temp {M : List Addr} {F H F' H' : Hp} {p : Addr} {o : HO} (g : Gr M F H F' H') (n : H' p = none) : Gr M F H F' (upd H' p o) :=
  ⟨g.ff, fun b u e => by rw [upd_ne (ne_of_none (g.fh b u e) n)]; exact g.fh b u e, fun b u m e => by rw [upd_ne (ne_of_none (g.hh b u m e) n)]; exact g.hh b u m e, g.nw⟩
/-- an object of ours changes: it is not known, and it was not there or is one of M -/
theorem Gr.mut {M : List Addr} {F H F' H' : Hp} {p : Addr} {o : HO} (g : Gr M F H F' H') (n : H p = none ∨ p ∈ M) (k : F' p = none) : Gr M F H F' (upd H' p o) :=
  ⟨g.ff, fun b u e => by rw [upd_ne (ne_of_none e k)]; exact g.fh b u e, fun b u m e => by
    rw [upd_ne]
    · exact g.hh b u m e
    · rintro rfl
      rcases n with n | n
      · rw [n] at e; cases e
      · exact m n, g.nw⟩
/-- an object of ours is from now on known -/
theorem Gr.keep {M : List Addr} {F H F' H' : Hp} {p : Addr} {o : HO} (g : Gr M F H F' H') (n : H p = none) (k : F' p = none) (e : H' p = some o) : Gr M F H (upd F' p o) H' :=
  ⟨fun b u q => by rw [upd_ne (ne_of_none (g.ff b u q) k)]; exact g.ff b u q, fun b u q => by
    by_cases hb : b = p
    · subst hb
      rw [upd_same] at q
      rw [e]
      exact q
    · rw [upd_ne hb] at q
      exact g.fh b u q, g.hh, fun b q z => by
    rw [upd_ne (fun y => z (by rw [y]; exact n))]
    exact g.nw b q z⟩
theorem same_upd {F : Hp} {p : Addr} {o : HO} (k : F p = none) : Same F (upd F p o) := fun b u q => by rw [upd_ne (ne_of_none q k)]; exact q
/-- a new object, known at once -/
theorem Gr.new {M : List Addr} {F H F' H' : Hp} {p : Addr} {o : HO} (g : Gr M F H F' H') (n : H' p = none) (nm : p ∉ M) : Gr M F H (upd F' p o) (upd H' p o) := by
  have k : F' p = none := same_none g.fh n
  have n0 : H p = none := by
    cases q : H p with
    | none => rfl
    | some u => rw [g.hh p u nm q] at n; cases n
  exact (g.temp n).keep n0 k upd_same

/-- a world: addresses that may change, what holds of them -/
structure Wd where
  M : List Addr
  J : Hp → Prop
  st : ∀ H H', J H → (∀ m o, m ∈ M → H m = some o → H' m = some o) → J H'
  tr : ∀ H, J H → ∀ m ∈ M, H m ≠ none
def W0 : Wd := ⟨[], fun _ => True, fun _ _ _ _ => True.intro, fun _ _ _ h => nomatch h⟩
theorem Wd.same (w : Wd) {H H' : Hp} (j : w.J H) (e : Same H H') : w.J H' := w.st H H' j fun m o _ q => e m o q
structure Gw (w : Wd) (F H F' H' : Hp) : Prop where
  g : Gr w.M F H F' H'
  j : w.J H'
structure Ok (w : Wd) (F H : Hp) : Prop where
  s : Same F H
  j : w.J H
  m : ∀ m ∈ w.M, F m = none
section
variable {w : Wd} {F H F1 H1 F2 H2 F3 H3 : Hp}
theorem Ok.refl (o : Ok w F H) : Gw w F H F H := ⟨.refl o.s, o.j⟩
theorem Gw.ok (o : Ok w F H) (a : Gw w F H F1 H1) : Ok w F1 H1 := ⟨a.g.fh, a.j, fun m hm => a.g.nw m (o.m m hm) (w.tr H o.j m hm)⟩
theorem Gw.trans (o : Ok w F H) (a : Gw w F H F1 H1) (b : Gw w F1 H1 F2 H2) : Gw w F H F2 H2 := by
  refine ⟨Gr.trans (fun m hm _ _ => ?_) a.g b.g, b.j⟩
  exact (b.ok (a.ok o)).m m hm
theorem Gw.new (o : Ok w F H) (a : Gw w F H F1 H1) {p : Addr} {u : HO} (n : H1 p = none) : Gw w F H (upd F1 p u) (upd H1 p u) :=
  ⟨a.g.new n fun z => w.tr H1 a.j p z n, w.same a.j (same_upd n)⟩
theorem Gw.temp (a : Gw w F H F1 H1) {p : Addr} {u : HO} (n : H1 p = none) : Gw w F H F1 (upd H1 p u) := ⟨a.g.temp n, w.same a.j (same_upd n)⟩
/-- what a pure step does is done in any world -/
theorem Gw.of0 (o : Ok w F H) (a : Gw W0 F H F1 H1) : Gw w F H F1 H1 := ⟨⟨a.g.ff, a.g.fh, fun b u _ e => a.g.hh b u (fun z => nomatch z) e, a.g.nw⟩, w.same o.j fun b u e => a.g.hh b u (fun z => nomatch z) e⟩
theorem Gw.same (a : Gw W0 F H F1 H1) : Same H H1 := fun b u e => a.g.hh b u (fun z => nomatch z) e
end

/-- what holds of a value over what is known -/
abbrev Pr : Type := V → Hp → Prop
def Mo (R : Pr) : Prop := ∀ v F F', Same F F' → R v F → R v F'
inductive Al : List Pr → List V → Hp → Prop
  | nil {F : Hp} : Al [] [] F
  | cons {R : Pr} {Rs : List Pr} {v : V} {vs : List V} {F : Hp} : R v F → Al Rs vs F → Al (R :: Rs) (v :: vs) F
theorem Al.mono {F F' : Hp} (e : Same F F') : ∀ {Rs : List Pr} {vs : List V}, (∀ R ∈ Rs, Mo R) → Al Rs vs F → Al Rs vs F'
  | _, _, _, .nil => .nil
  | _, _, m, .cons h r => .cons (m _ List.mem_cons_self _ _ _ e h) (Al.mono e (fun R hR => m R (List.mem_cons_of_mem _ hR)) r)
theorem Al.length {F : Hp} : ∀ {Rs : List Pr} {vs : List V}, Al Rs vs F → vs.length = Rs.length
  | _, _, .nil => rfl
  | _, _, .cons _ r => congrArg (· + 1) r.length
theorem Al.append {F : Hp} : ∀ {Rs Ss : List Pr} {vs us : List V}, Al Rs vs F → Al Ss us F → Al (Rs ++ Ss) (vs ++ us) F
  | _, _, _, _, .nil, s => s
  | _, _, _, _, .cons h r, s => .cons h (r.append s)
theorem Al.get {F : Hp} : ∀ {Rs : List Pr} {vs : List V} {i : Nat} {v : V}, Al Rs vs F → vs[i]? = some v → ∃ R, Rs[i]? = some R ∧ R v F
  | _, _, i, _, .nil, e => by simp at e
  | _, _, 0, _, .cons h _, e => by
    simp at e
    subst e
    exact ⟨_, rfl, h⟩
  | _, _, i + 1, _, .cons _ r, e => by
    obtain ⟨d, h1, h2⟩ := Al.get (i := i) r (by simpa using e)
    exact ⟨d, by simpa using h1, h2⟩
/-- exactly that value -/
def Is (v : V) : Pr := fun u _ => u = v
/-- data -/
def Da (K : PySem.W.Frag) (d : PyData) : Pr := fun v F => QR.Dv K F v d
theorem Al.is {α : Type} {F : Hp} {f : α → V} : ∀ {xs : List α} {vs : List V}, Al (xs.map fun x => Is (f x)) vs F → vs = xs.map f
  | [], _, h => by cases h; rfl
  | x :: xs, _, h => by
    cases h with
    | @cons _ _ u _ _ h r =>
      obtain rfl : u = f x := h
      rw [Al.is r]
      rfl
/-- a list of such | a tuple of such -/
def Li (Rs : List Pr) : Pr := fun v F => ∃ l vs, v = .ref l ∧ F l = some (.lst vs) ∧ Al Rs vs F
def Tu (Rs : List Pr) : Pr := fun v F => ∃ l vs, v = .ref l ∧ F l = some (.tup vs) ∧ Al Rs vs F
theorem Is.mo (v : V) : Mo (Is v) := fun _ _ _ _ h => h
theorem Da.mo (K : PySem.W.Frag) (d : PyData) : Mo (Da K d) := fun _ _ _ e h => h.mono e
theorem Li.mo {Rs : List Pr} (m : ∀ R ∈ Rs, Mo R) : Mo (Li Rs) := fun _ _ _ e ⟨l, vs, h1, h2, h3⟩ => ⟨l, vs, h1, e _ _ h2, h3.mono e m⟩
theorem Tu.mo {Rs : List Pr} (m : ∀ R ∈ Rs, Mo R) : Mo (Tu Rs) := fun _ _ _ e ⟨l, vs, h1, h2, h3⟩ => ⟨l, vs, h1, e _ _ h2, h3.mono e m⟩
theorem Al.das {K : PySem.W.Frag} {F : Hp} : ∀ {ds : List PyData} {vs : List V}, Al (ds.map (Da K)) vs F → QR.DvAll K F vs ds
  | [], _, h => by cases h; exact .nil
  | d :: ds, _, h => by
    cases h with
    | cons h r => exact .cons h (Al.das r)
theorem Al.of_das {K : PySem.W.Frag} {F : Hp} : ∀ {ds : List PyData} {vs : List V}, QR.DvAll K F vs ds → Al (ds.map (Da K)) vs F
  | _, _, .nil => .nil
  | _, _, .cons h r => .cons h (Al.of_das r)
theorem Li.da {K : PySem.W.Frag} {v : V} {F : Hp} {ds : List PyData} (h : Li (ds.map (Da K)) v F) : Da K (.list ds) v F := by
  obtain ⟨l, vs, rfl, h2, h3⟩ := h
  exact .list h2 h3.das
theorem Tu.da {K : PySem.W.Frag} {v : V} {F : Hp} {ds : List PyData} (h : Tu (ds.map (Da K)) v F) : Da K (.tuple ds) v F := by
  obtain ⟨l, vs, rfl, h2, h3⟩ := h
  exact .tuple h2 h3.das

/-! ### judgements -/
def EvW (w : Wd) (R : Pr) (te : TE) (σ : L2.St) (F H : Hp) : Prop := ∀ F1 H1, Gw w F H F1 H1 → ∀ Q : VK, (∀ v F2 H2, Gw w F1 H1 F2 H2 → R v F2 → Q v H2) → te σ H1 Q
def EvA (w : Wd) (Rs : List Pr) (ta : TA) (σ : L2.St) (F H : Hp) : Prop := ∀ F1 H1, Gw w F H F1 H1 → ∀ Q : List V → Hp → Prop, (∀ vs F2 H2, Gw w F1 H1 F2 H2 → Al Rs vs F2 → Q vs H2) → ta σ H1 Q
def EvT (w : Wd) (b : Bool) (tt : TT) (σ : L2.St) (F H : Hp) : Prop := ∀ F1 H1, Gw w F H F1 H1 → ∀ Q : Bool → Hp → Prop, (∀ F2 H2, Gw w F1 H1 F2 H2 → Q b H2) → tt σ H1 Q
section
variable {K : PySem.W.Frag} {w : Wd} {σ : L2.St} {F H F1 H1 F2 H2 : Hp} {ta tb te tx : TE} {t u : TT} {x y z v : V} {r : R2} {R S T : Pr} {Rs : List Pr} {tas : TA}
theorem EvW.mono (o : Ok w F H) (e : Gw w F H F1 H1) (h : EvW w R te σ F H) : EvW w R te σ F1 H1 := fun F2 H2 a Q q => h F2 H2 (e.trans o a) Q q
theorem EvA.mono (o : Ok w F H) (e : Gw w F H F1 H1) (h : EvA w Rs tas σ F H) : EvA w Rs tas σ F1 H1 := fun F2 H2 a Q q => h F2 H2 (e.trans o a) Q q
theorem EvT.mono {b : Bool} (o : Ok w F H) (e : Gw w F H F1 H1) (h : EvT w b t σ F H) : EvT w b t σ F1 H1 := fun F2 H2 a Q q => h F2 H2 (e.trans o a) Q q
theorem EvW.imp (h : EvW w R te σ F H) (i : ∀ v F', Same F F' → R v F' → S v F') : EvW w S te σ F H := fun F1 H1 a Q q => h F1 H1 a Q fun v F2 H2 b r => q v F2 H2 b (i v F2 (a.g.ff.trans b.g.ff) r)
theorem ev_var {i : Nat} (o : Ok w F H) (m : Mo R) (h : σ[i]? = some (some v)) (hr : R v F) : EvW w R (tVar i) σ F H := fun F1 H1 a _ q => ⟨v, h, q v F1 H1 (a.ok o).refl (m _ _ _ a.g.ff hr)⟩
theorem ev_c (o : Ok w F H) (hr : ∀ F, R v F) : EvW w R (tC v) σ F H := fun F1 H1 a _ q => q v F1 H1 (a.ok o).refl (hr F1)
theorem ea_nil (o : Ok w F H) : EvA w [] tNil σ F H := fun F1 H1 a _ q => q [] F1 H1 (a.ok o).refl .nil
theorem ea_cons {tr : TA} (o : Ok w F H) (m : Mo R) (h : EvW w R te σ F H) (hr : EvA w Rs tr σ F H) : EvA w (R :: Rs) (tCons te tr) σ F H := fun F1 H1 a _ q =>
  h F1 H1 a _ fun v F2 H2 b rv => hr F2 H2 (a.trans o b) _ fun vs F3 H3 c rs => q _ F3 H3 (b.trans (a.ok o) c) (.cons (m _ _ _ c.g.ff rv) rs)
theorem ev_lst (o : Ok w F H) (m : ∀ R ∈ Rs, Mo R) (h : EvA w Rs tas σ F H) (hl : Rs.length ≤ 100000) : EvW w (Li Rs) (tLst tas) σ F H := fun F1 H1 a _ q =>
  h F1 H1 a _ fun vs F2 H2 b rs => ⟨Evl.sz_of (by rw [rs.length]; exact hl), fun p n => q _ (upd F2 p (.lst vs)) _ (b.new (a.ok o) n) ⟨p, vs, rfl, upd_same, rs.mono (same_upd (same_none b.g.fh n)) m⟩⟩
theorem ev_tup (o : Ok w F H) (m : ∀ R ∈ Rs, Mo R) (h : EvA w Rs tas σ F H) (hl : Rs.length ≤ 100000) : EvW w (Tu Rs) (tTup tas) σ F H := fun F1 H1 a _ q =>
  h F1 H1 a _ fun vs F2 H2 b rs => ⟨Evl.sz_of (by rw [rs.length]; exact hl), fun p n => q _ (upd F2 p (.tup vs)) _ (b.new (a.ok o) n) ⟨p, vs, rfl, upd_same, rs.mono (same_upd (same_none b.g.fh n)) m⟩⟩
/-- an operation on two values -/
def OpW (w : Wd) (r : R2) (R S T : Pr) : Prop := ∀ x y F H, Ok w F H → R x F → S y F → ∀ Q : VK, (∀ v F2 H2, Gw w F H F2 H2 → T v F2 → Q v H2) → r x y H Q
theorem ev_op (o : Ok w F H) (m : Mo R) (ha : EvW w R ta σ F H) (hb : EvW w S tb σ F H) (ho : OpW w r R S T) : EvW w T (tOp r ta tb) σ F H := fun F1 H1 a _ q =>
  ha F1 H1 a _ fun x F2 H2 b rx => hb F2 H2 (a.trans o b) _ fun y F3 H3 c ry => ho x y F3 H3 (c.ok (b.ok (a.ok o))) (m _ _ _ c.g.ff rx) ry _ fun v F4 H4 d rv => q v F4 H4 ((b.trans (a.ok o) c).trans (a.ok o) d) rv
theorem ow_val {f : V → V → V} (h : ∀ x y F H, R x F → S y F → Same F H → ∀ Q : VK, Q (f x y) H → r x y H Q) (ht : ∀ x y F, R x F → S y F → T (f x y) F) : OpW w r R S T := fun x y F H o rx ry Q q => h x y F H rx ry o.s Q (q _ F H o.refl (ht x y F rx ry))
theorem ow_cat {Ss : List Pr} (m1 : ∀ R ∈ Rs, Mo R) (m2 : ∀ R ∈ Ss, Mo R) (hl : Rs.length + Ss.length ≤ 100000) : OpW w rCat (Li Rs) (Li Ss) (Li (Rs ++ Ss)) := by
  intro x y F H o rx ry Q q
  obtain ⟨l, vs, rfl, h1, a1⟩ := rx
  obtain ⟨k, us, rfl, h2, a2⟩ := ry
  refine ⟨l, k, vs, us, rfl, rfl, o.s _ _ h1, o.s _ _ h2, Evl.sz_of (by rw [a1.length, a2.length]; exact hl), fun p n => q _ (upd F p (.lst (vs ++ us))) _ (o.refl.new o n) ⟨p, vs ++ us, rfl, upd_same, ?_⟩⟩
  have e := same_upd (o := .lst (vs ++ us)) (same_none o.s n)
  exact (a1.mono e m1).append (a2.mono e m2)
theorem ow_rep (m : Mo R) (n : Nat) (hl : n ≤ 100000) : OpW w rRep (Li [R]) (Is (.int n)) (Li (List.replicate n R)) := by
  intro x y F H o rx ry Q q
  obtain ⟨l, vs, rfl, h1, a1⟩ := rx
  obtain rfl : y = .int n := ry
  obtain ⟨v, rfl, rv⟩ : ∃ v, vs = [v] ∧ R v F := by
    cases a1 with
    | cons h r => cases r; exact ⟨_, rfl, h⟩
  refine ⟨l, n, [v], rfl, rfl, o.s _ _ h1, by omega, by omega, by simpa using Evl.sz_of hl, fun p hp => q _ (upd F p _) _ (o.refl.new o hp) ⟨p, _, rfl, upd_same, ?_⟩⟩
  have e := same_upd (o := .lst (List.replicate ((n : Int).toNat) [v]).flatten) (same_none o.s hp)
  have key : ∀ k : Nat, Al (List.replicate k R) (List.replicate k [v]).flatten (upd F p (.lst (List.replicate ((n : Int).toNat) [v]).flatten)) := by
    intro k
    induction k with
    | zero => exact .nil
    | succ k ih =>
      rw [List.replicate_succ, List.replicate_succ, List.flatten_cons]
      exact .cons (m _ _ _ e rv) ih
  rw [Int.toNat_natCast]
  have := key n
  rw [Int.toNat_natCast] at this
  exact this
/-- == , != of data -/
theorem ow_eq {d e : PyData} (hd : ∀ v F, R v F → L2.Dp K F v d) (he : ∀ v F, S v F → L2.Dp K F v e) (sd : SeqAt.shaped d = true) (se : SeqAt.shaped e = true) (mo : ∀ {H H'}, Same H H' → ∀ {v d}, L2.Dp K H v d → L2.Dp K H' v d) : OpW w (rEqD K) R S (Is (.bl (PyData.eqv d e))) :=
  fun x y F H o rx ry Q q => ⟨d, e, mo o.s (hd x F rx), mo o.s (he y F ry), sd, se, q _ F H o.refl rfl⟩
/-- a call of a built-in by values -/
def CaW (w : Wd) (r : List V → Hp → VK → Prop) (Rs : List Pr) (T : Pr) : Prop := ∀ vs F H, Ok w F H → Al Rs vs F → ∀ Q : VK, (∀ v F2 H2, Gw w F H F2 H2 → T v F2 → Q v H2) → r vs H Q
theorem ev_cb {rc : List V → Hp → VK → Prop} (o : Ok w F H) (h : EvA w Rs tas σ F H) (hc : CaW w rc Rs T) : EvW w T (tCB rc tas) σ F H := fun F1 H1 a _ q =>
  h F1 H1 a _ fun vs F2 H2 b rs => hc vs F2 H2 (b.ok (a.ok o)) rs _ fun v F3 H3 c rv => q v F3 H3 (b.trans (a.ok o) c) rv
/-- a def's promise -/
def spW {α : Type} (w : α → Wd) (A : α → List Pr) (R : α → Pr) : Sp := fun vs H Q _ => ∃ (a : α) (F : Hp), Ok (w a) F H ∧ Al (A a) vs F ∧ ∀ v F' H', Gw (w a) F H F' H' → R a v F' → Q v H'
theorem spW.len {α : Type} {w : α → Wd} {A : α → List Pr} {R : α → Pr} {n : Nat} (h : ∀ a, (A a).length = n) : ∀ vs H Q E, spW w A R vs H Q E → vs.length = n := fun vs H Q E ⟨a, F, _, al, _⟩ => al.length.trans (h a)
theorem ev_call {α : Type} {wf : α → Wd} {A : α → List Pr} {Rf : α → Pr} {E : XK} (a : α) (o : Ok (wf a) F H) (h : EvA (wf a) (A a) tas σ F H) : EvW (wf a) (Rf a) (tCall (spW wf A Rf) [] E tas) σ F H := fun F1 H1 g _ q =>
  h F1 H1 g _ fun vs F2 H2 b rs => ⟨a, F2, b.ok (g.ok o), by rw [List.append_nil]; exact rs, fun v F3 H3 c rv => q v F3 H3 (b.trans (g.ok o) c) rv⟩
/-- a pure def called in any world -/
theorem ev_call0 {α : Type} {A : α → List Pr} {Rf : α → Pr} {E : XK} (a : α) (o : Ok w F H) (h : EvA w (A a) tas σ F H) : EvW w (Rf a) (tCall (spW (fun _ => W0) A Rf) [] E tas) σ F H := fun F1 H1 g _ q =>
  h F1 H1 g _ fun vs F2 H2 b rs => ⟨a, F2, ⟨(b.ok (g.ok o)).s, True.intro, fun _ z => nomatch z⟩, by rw [List.append_nil]; exact rs, fun v F3 H3 c rv => q v F3 H3 (b.trans (g.ok o) (c.of0 (b.ok (g.ok o)))) rv⟩
theorem et_val {b : Bool} (h : EvW w (Is (.bl b)) te σ F H) : EvT w b (tTest te) σ F H := fun F1 H1 a _ q => h F1 H1 a _ fun v F2 H2 c rv => ⟨b, rv, q F2 H2 c⟩
theorem et_B {b : Bool} (h : EvW w (Is (.bl b)) te σ F H) : EvT w b (tB te) σ F H := fun F1 H1 a _ q => h F1 H1 a _ fun v F2 H2 c rv => ⟨b, rv, q F2 H2 c⟩
theorem et_not {b : Bool} (h : EvT w b t σ F H) : EvT w (!b) (tNot t) σ F H := fun F1 H1 a _ q => h F1 H1 a _ fun F2 H2 c => q F2 H2 c
theorem et_or {a b : Bool} (o : Ok w F H) (h1 : EvT w a t σ F H) (h2 : a = false → EvT w b u σ F H) : EvT w (a || b) (tOr t u) σ F H := fun F1 H1 g _ q => h1 F1 H1 g _ fun F2 H2 c => by
  cases a with
  | true => exact q F2 H2 c
  | false => exact h2 rfl F2 H2 (g.trans o c) _ fun F3 H3 d => q F3 H3 (c.trans (g.ok o) d)
theorem et_and {a b : Bool} (o : Ok w F H) (h1 : EvT w a t σ F H) (h2 : a = true → EvT w b u σ F H) : EvT w (a && b) (tAnd t u) σ F H := fun F1 H1 g _ q => h1 F1 H1 g _ fun F2 H2 c => by
  cases a with
  | false => exact q F2 H2 c
  | true => exact h2 rfl F2 H2 (g.trans o c) _ fun F3 H3 d => q F3 H3 (c.trans (g.ok o) d)

/-! ### statements -/
variable {D : Ends} {tu tw : TS}
theorem s_asg {i : Nat} (o : Ok w F H) (h : EvW w R te σ F H) (k : ∀ v F1 H1, Gw w F H F1 H1 → R v F1 → D.nx (σ.set i (some v)) H1) : tAsg te (gName i) D σ H := h F H o.refl _ k
theorem s_ret (o : Ok w F H) (h : EvW w R te σ F H) (k : ∀ v F1 H1, Gw w F H F1 H1 → R v F1 → D.rt v H1) : tRet te D σ H := h F H o.refl _ k
theorem s_drop (o : Ok w F H) (h : EvW w R te σ F H) (k : ∀ v F1 H1, Gw w F H F1 H1 → R v F1 → D.nx σ H1) : tDrop te D σ H := h F H o.refl _ k
theorem s_yes (o : Ok w F H) (h : EvT w true t σ F H) (k : ∀ F1 H1, Gw w F H F1 H1 → tu D σ H1) : tIfS t tu tw D σ H := h F H o.refl _ fun F1 H1 a => (if_pos rfl).mpr (k F1 H1 a)
theorem s_no (o : Ok w F H) (h : EvT w false t σ F H) (k : ∀ F1 H1, Gw w F H F1 H1 → tw D σ H1) : tIfS t tu tw D σ H := h F H o.refl _ fun F1 H1 a => (if_neg Bool.false_ne_true).mpr (k F1 H1 a)

/-! ### comprehensions -/
/-- the block's slots -/
def Wip (σ : L2.St) (vs : List Nat) (j : Nat) : Prop := ∀ x, wipe ((wipe σ vs).set j (some x)) vs = wipe σ vs
theorem lc_run {tt : TT} {vs : List Nat} {j n : Nat} {Q : VK} (o : Ok w F H) (Iv : Nat → List V → Hp → Prop) (mono : ∀ i ys F F', Same F F' → Iv i ys F → Iv i ys F') (h0 : Iv 0 [] F) (hn : n ≤ 100000)
    (it : Nat → V → Prop)
    (hs : ∀ i x ys G H', it i x → i < n → Gw w F H G H' → Iv i ys G → ∀ (Qy : VK) (Qn : Hp → Prop), (∀ y G' H'', Gw w G H' G' H'' → Iv (i + 1) (ys ++ [y]) G' → Qy y H'') → (∀ G' H'', Gw w G H' G' H'' → Iv (i + 1) ys G' → Qn H'') →
      tt ((wipe σ vs).set j (some x)) H' fun b H3 => if b = true then te ((wipe σ vs).set j (some x)) H3 Qy else Qn H3)
    (q : ∀ D ys G H', H D = none → Gw w F H G H' → G D = some (.lst ys) → Iv n ys G → Q (.ref D) H') (D : Addr) (hD : H D = none) :
    ∃ Pv : Nat → Hp → Prop, Pv 0 (upd H D (.lst [])) ∧ (∀ i H', Pv i H' → ∃ G, Gw w F H G H') ∧
      (∀ i x H', i < n → it i x → Pv i H' → tt ((wipe σ vs).set j (some x)) H' fun b H3 => if b = true then te ((wipe σ vs).set j (some x)) H3 fun y H4 => ∃ acc, H4 D = some (.lst acc) ∧ acc.length < sizeLine ∧ Pv (i + 1) (upd H4 D (.lst (acc ++ [y]))) else Pv (i + 1) H3) ∧
      ∀ H', Pv n H' → Q (.ref D) H' := by
  have nm : D ∉ w.M := fun z => w.tr H o.j D z hD
  refine ⟨fun i H' => ∃ G ys, Gw w F H G H' ∧ G D = none ∧ H' D = some (.lst ys) ∧ Iv i ys G ∧ ys.length ≤ i, ⟨F, [], o.refl.temp hD, same_none o.s hD, upd_same, h0, Nat.le_refl _⟩, fun i H' ⟨G, _, g, _⟩ => ⟨G, g⟩, ?_, ?_⟩
  · rintro i x H' hi hx ⟨G, ys, g, gD, hD', iv, hl⟩
    have o' := g.ok o
    have key : ∀ {G' H''}, Gw w G H' G' H'' → G' D = none ∧ H'' D = some (.lst ys) := fun {G' H''} g' => ⟨g'.g.nw D gD (by rw [hD']; exact nofun), g'.g.hh D _ nm hD'⟩
    refine hs i x ys G H' hx hi g iv _ _ (fun y G' H'' g' iv' => ?_) fun G' H'' g' iv' => ?_
    · obtain ⟨e1, e2⟩ := key g'
      have g2 := g.trans o g'
      refine ⟨ys, e2, Evl.sz_lt (by omega), G', ys ++ [y], ⟨g2.g.mut (.inl hD) e1, ?_⟩, e1, upd_same, iv', by rw [List.length_append]; simp; omega⟩
      exact w.st _ _ g2.j fun m u hm e => by
        have ne : m ≠ D := fun z => by
          subst z
          exact nm hm
        rw [upd_ne ne]
        exact e
    · obtain ⟨e1, e2⟩ := key g'
      exact ⟨G', ys, g.trans o g', e1, e2, iv', by omega⟩
  · rintro H' ⟨G, ys, g, gD, hD', iv, hl⟩
    exact q D ys _ H' hD ⟨g.g.keep hD gD hD', g.j⟩ upd_same (mono _ _ _ _ (same_upd gD) iv)

/-- over a list -/
theorem ev_lcL {xs : List V} {a : Addr} {tl : TE} {tt : TT} {vs : List Nat} {j : Nat} (o : Ok w F H) (hw : Wip σ vs j) (hz : xs.length ≤ 100000) (hl : EvW w (fun v F' => v = .ref a ∧ SqL K F' a xs) tl σ F H)
    (Iv : Nat → List V → Hp → Prop) (mono : ∀ i ys F F', Same F F' → Iv i ys F → Iv i ys F') (h0 : ∀ F', Same F F' → Iv 0 [] F')
    (hs : ∀ i x ys G H', xs[i]? = some x → Gw w F H G H' → Iv i ys G → ∀ (Qy : VK) (Qn : Hp → Prop), (∀ y G' H'', Gw w G H' G' H'' → Iv (i + 1) (ys ++ [y]) G' → Qy y H'') → (∀ G' H'', Gw w G H' G' H'' → Iv (i + 1) ys G' → Qn H'') →
      tt ((wipe σ vs).set j (some x)) H' fun b H3 => if b = true then te ((wipe σ vs).set j (some x)) H3 Qy else Qn H3)
    (hr : ∀ ys G, Iv xs.length ys G → ∀ D, G D = some (.lst ys) → R (.ref D) G) : EvW w R (tLc (iList K tl) (gName j) tt te vs) σ F H := by
  intro F1 H1 a1 Q q
  refine hl F1 H1 a1 _ fun v F2 H2 b hv => ?_
  obtain ⟨rfl, hx⟩ := hv
  have o2 := b.ok (a1.ok o)
  have a2 := a1.trans o b
  refine ⟨a, rfl, ⟨xs, Evl.ex_l o2.s hx⟩, fun D hD => ?_⟩
  obtain ⟨Pv, p0, pg, pt, pe⟩ := lc_run (te := te) (Q := Q) (σ := σ) (tt := tt) (vs := vs) (j := j) (n := xs.length) o2 Iv mono (h0 F2 a2.g.ff) hz (fun i x => xs[i]? = some x)
    (fun i x ys G H' hx' _ g iv Qy Qn hy hn => hs i x ys G H' hx' (a2.trans o g) iv Qy Qn hy hn)
    (fun D ys G H' hD' g e iv => q _ G H' (b.trans (a1.ok o) g) (hr ys G iv D e)) D hD
  refine lc_list Pv p0 (fun i H' _ p => ?_) (fun i x H' hi p => ⟨hw x, pt i x H' (List.getElem?_eq_some_iff.mp hi).1 hi p⟩) pe
  obtain ⟨G, g⟩ := pg i H' p
  exact Evl.ex_l g.g.fh (Evl.ex_l g.g.ff hx)
/-- over range(n) -/
theorem ev_lcR {n : Nat} {ta : TA} {tt : TT} {vs : List Nat} {j : Nat} (o : Ok w F H) (hw : Wip σ vs j) (hz : n ≤ 100000) (hl : EvA w [Is (.int n)] ta σ F H)
    (Iv : Nat → List V → Hp → Prop) (mono : ∀ i ys F F', Same F F' → Iv i ys F → Iv i ys F') (h0 : ∀ F', Same F F' → Iv 0 [] F')
    (hs : ∀ i ys G H', i < n → Gw w F H G H' → Iv i ys G → ∀ (Qy : VK) (Qn : Hp → Prop), (∀ y G' H'', Gw w G H' G' H'' → Iv (i + 1) (ys ++ [y]) G' → Qy y H'') → (∀ G' H'', Gw w G H' G' H'' → Iv (i + 1) ys G' → Qn H'') →
      tt ((wipe σ vs).set j (some (.int i))) H' fun b H3 => if b = true then te ((wipe σ vs).set j (some (.int i))) H3 Qy else Qn H3)
    (hr : ∀ ys G, Iv n ys G → ∀ D, G D = some (.lst ys) → R (.ref D) G) : EvW w R (tLc (iRng1 ta) (gName j) tt te vs) σ F H := by
  intro F1 H1 a1 Q q
  refine hl F1 H1 a1 _ fun v F2 H2 b hv => ?_
  obtain rfl : v = [.int n] := by
    cases hv with
    | @cons _ _ u _ _ h r =>
      cases r
      obtain rfl : u = .int n := h
      rfl
  have o2 := b.ok (a1.ok o)
  have a2 := a1.trans o b
  refine ⟨n, rfl, by omega, by omega, fun D hD => ?_⟩
  obtain ⟨Pv, p0, pg, pt, pe⟩ := lc_run (te := te) (Q := Q) (σ := σ) (tt := tt) (vs := vs) (j := j) (n := n) o2 Iv mono (h0 F2 a2.g.ff) hz (fun i x => x = .int i)
    (fun i x ys G H' hx' hi g iv Qy Qn hy hn => by subst hx'; exact hs i ys G H' hi (a2.trans o g) iv Qy Qn hy hn)
    (fun D ys G H' hD' g e iv => q _ G H' (b.trans (a1.ok o) g) (hr ys G iv D e)) D hD
  rw [Int.toNat_natCast]
  refine lc_range (lo := 0) Pv p0 (fun i H' hi p => ?_) pe
  have e0 : (0 : Int) + (i : Int) = (i : Int) := Int.zero_add _
  show wipe ((wipe σ vs).set j (some (.int ((0 : Int) + (i : Int))))) vs = wipe σ vs ∧ _
  rw [e0]
  exact ⟨hw _, pt i _ H' hi rfl p⟩
/-- a comprehension without tests, an element that is pure in the world -/
theorem ev_mapL {xs : List V} {a : Addr} {tl : TE} {vs : List Nat} {j : Nat} (o : Ok w F H) (hw : Wip σ vs j) (hz : xs.length ≤ 100000) (hl : EvW w (fun v F' => v = .ref a ∧ SqL K F' a xs) tl σ F H) (Rs : List Pr) (m : ∀ R ∈ Rs, Mo R) (hlen : Rs.length = xs.length)
    (he : ∀ (i : Nat) (x : V) (S : Pr) (G H' : Hp), xs[i]? = some x → Rs[i]? = some S → Gw w F H G H' → EvW w S te ((wipe σ vs).set j (some x)) G H') : EvW w (Li Rs) (tLc (iList K tl) (gName j) tYes te vs) σ F H := by
  refine ev_lcL o hw hz hl (fun i ys G => Al (Rs.take i) ys G) (fun i ys F F' e h => h.mono e fun R hR => m R (List.mem_of_mem_take hR)) (fun F' _ => .nil) (fun i x ys G H' hx g iv Qy Qn hy hn => ?_) (fun ys G iv D e => ⟨D, ys, rfl, e, by rw [List.take_of_length_le (Nat.le_of_eq hlen)] at iv; exact iv⟩)
  have hi : i < Rs.length := by rw [hlen]; exact (List.getElem?_eq_some_iff.mp hx).1
  show (if true = true then te ((wipe σ vs).set j (some x)) H' Qy else Qn H')
  rw [if_pos rfl]
  refine he i x Rs[i] G H' hx (List.getElem?_eq_getElem hi) g G H' (g.ok o).refl Qy fun v G' H'' g' r => hy v G' H'' g' ?_
  rw [List.take_succ_eq_append_getElem hi]
  exact (iv.mono g'.g.ff fun R hR => m R (List.mem_of_mem_take hR)).append (.cons r .nil)
end

/-! ### built-ins by values -/
section
variable {K : PySem.W.Frag} {w : Wd}
theorem ca_all {bs : List Bool} : CaW w (rAll K) [Li (bs.map fun b => Is (.bl b))] (Is (.bl (bs.all id))) := by
  intro vs F H o al Q q
  cases al with
  | cons h r =>
    cases r
    obtain ⟨l, us, rfl, h1, h2⟩ := h
    have e : us = bs.map V.bl := h2.is
    subst e
    exact ⟨l, bs, rfl, .of (o.s _ _ h1), q _ F H o.refl rfl⟩
theorem ca_sum {ns : List Int} : CaW w (rSum K) [Li (ns.map fun b => Is (.int b))] (Is (.int ns.sum)) := by
  intro vs F H o al Q q
  cases al with
  | cons h r =>
    cases r
    obtain ⟨l, us, rfl, h1, h2⟩ := h
    have e : us = ns.map V.int := h2.is
    subst e
    exact ⟨l, ns, rfl, .of (o.s _ _ h1), q _ F H o.refl rfl⟩
end

/-! ### a pot: a list of two numbers that draws change -/
def PotAt (p : Addr) (H : Hp) : Prop := ∃ A B : Int, 0 ≤ A ∧ 0 ≤ B ∧ B ≤ 2147483587 ∧ H p = some (.lst [.int A, .int B])
def Wp (p : Addr) : Wd := ⟨[p], PotAt p, fun H H' ⟨A, B, h1, h2, h3, h4⟩ e => ⟨A, B, h1, h2, h3, e p _ List.mem_cons_self h4⟩, fun H ⟨A, B, _, _, _, h⟩ m hm => by
  obtain rfl : m = p := by simpa using hm
  rw [h]
  exact nofun⟩
end QW

set_option Elab.async false
set_option linter.all false
set_option maxRecDepth 100000
set_option maxHeartbeats 4000000
/-! QX: more readings by worlds: == of data, maps over lists of anything, lists that grow, exceptions as values. -/
namespace QW
open PySem PySem.Spec PyProof.Rows L2 QR

/-! ### data without dicts -/
mutual
theorem Dv.dp {K : PySem.W.Frag} {F : Hp} : ∀ {v : V} {d : PyData}, Dv K F v d → d.hasDict = false → L2.Dp K F v d
  | _, _, .non, _ => .non
  | _, _, .bl b, _ => .bl b
  | _, _, .int i, _ => .int i
  | _, _, .str x, _ => .str x
  | _, _, .lst h r, e => .lst h (DvAll.dp r (by simpa only [PyData.hasDict] using e))
  | _, _, .tup h r, e => .tup h (DvAll.dp r (by simpa only [PyData.hasDict] using e))
  | _, _, .dic _ _, e => by simp only [PyData.hasDict] at e; cases e
theorem DvAll.dp {K : PySem.W.Frag} {F : Hp} : ∀ {vs : List V} {ds : List PyData}, DvAll K F vs ds → PyData.hasDictAll ds = false → L2.DpAll K F vs ds
  | _, _, .nil, _ => .nil
  | _, _, .cons h r, e => by
    simp only [PyData.hasDictAll, Bool.or_eq_false_iff] at e
    exact .cons (Dv.dp h e.1) (DvAll.dp r e.2)
end
section
variable {K : PySem.W.Frag} {w : Wd} {σ : L2.St} {F H F1 H1 F2 H2 : Hp} {ta tb te tx : TE} {t u : TT} {v : V} {R S T : Pr} {Rs Ss : List Pr} {tas : TA} {D : Ends}
theorem ow_eqD {d e : PyData} (h1 : d.hasDict = false) (h2 : e.hasDict = false) (sd : SeqAt.shaped d = true) (se : SeqAt.shaped e = true) : OpW w (rEqD K) (Da K d) (Da K e) (Is (.bl (PyData.eqv d e))) :=
  fun x y F H o rx ry Q q => ⟨d, e, Dv.dp (Dv.mono o.s rx) h1, Dv.dp (Dv.mono o.s ry) h2, sd, se, q _ F H o.refl rfl⟩
theorem ow_neD {d e : PyData} (h1 : d.hasDict = false) (h2 : e.hasDict = false) (sd : SeqAt.shaped d = true) (se : SeqAt.shaped e = true) : OpW w (rNeD K) (Da K d) (Da K e) (Is (.bl (!PyData.eqv d e))) :=
  fun x y F H o rx ry Q q => ⟨d, e, Dv.dp (Dv.mono o.s rx) h1, Dv.dp (Dv.mono o.s ry) h2, sd, se, q _ F H o.refl rfl⟩
/-- texts -/
theorem ow_neS {a b : Str} : OpW w rNe (Is (.str a)) (Is (.str b)) (Is (.bl (!decide (V.str a = V.str b)))) := fun x y F H o rx ry Q q => by
  obtain rfl : x = .str a := rx
  obtain rfl : y = .str b := ry
  exact ⟨rfl, q _ F H o.refl rfl⟩
/-- a value that is data, by itself -/
theorem Is.da {d : PyData} {u : V} (h : ∀ F, Dv K F u d) {F : Hp} (hv : Is u v F) : Da K d v F := by
  obtain rfl : v = u := hv
  exact h F
theorem Al.da_of {α : Type} {f : α → Pr} {d : α → PyData} (h : ∀ x v F, f x v F → Da K (d x) v F) : ∀ {xs : List α} {vs : List V}, Al (xs.map f) vs F → DvAll K F vs (xs.map d)
  | [], _, al => by cases al; exact .nil
  | x :: xs, _, al => by
    cases al with
    | cons a r => exact .cons (h x _ _ a) (Al.da_of h r)
theorem Li.da_of {α : Type} {f : α → Pr} {d : α → PyData} (h : ∀ x v F, f x v F → Da K (d x) v F) {xs : List α} (hv : Li (xs.map f) v F) : Da K (.list (xs.map d)) v F := by
  obtain ⟨l, vs, rfl, h1, h2⟩ := hv
  exact .list h1 (Al.da_of h h2)
theorem Li.bools {bs : List Bool} (hv : Li (bs.map fun b => Is (.bl b)) v F) : Da K (.list (bs.map .bool)) v F := Li.da_of (d := .bool) (fun b v F e => by
  obtain rfl : v = .bl b := e
  exact .bl b) hv
theorem Li.intsD {ns : List Int} (hv : Li (ns.map fun b => Is (.int b)) v F) : Da K (.list (ns.map .int)) v F := Li.da_of (d := .int) (fun b v F e => by
  obtain rfl : v = .int b := e
  exact .int b) hv
/-- rows of data -/
theorem Li.rows {rows : List (List PyData)} (hv : Li (rows.map fun ds => Li (ds.map (Da K))) v F) : Da K (.list (rows.map .list)) v F := Li.da_of (d := .list) (fun ds v F e => Li.da e) hv

/-! ### maps over lists of anything -/
theorem ev_mapLi {tl : TE} {vs : List Nat} {j : Nat} (o : Ok w F H) (hw : Wip σ vs j) (hl : EvW w (Li Ss) tl σ F H) (m1 : ∀ R ∈ Ss, Mo R) (m : ∀ R ∈ Rs, Mo R) (hz : Ss.length ≤ 100000) (hlen : Rs.length = Ss.length)
    (he : ∀ (i : Nat) (x : V) (S T : Pr) (G H' : Hp), Ss[i]? = some S → Rs[i]? = some T → S x G → Gw w F H G H' → EvW w T te ((wipe σ vs).set j (some x)) G H') : EvW w (Li Rs) (tLc (iList K tl) (gName j) tYes te vs) σ F H := by
  intro F1 H1 a1 Q q
  refine hl F1 H1 a1 _ fun v F2 H2 b hv => ?_
  obtain ⟨a, xs, rfl, hx, al⟩ := hv
  have o2 := b.ok (a1.ok o)
  have a2 := a1.trans o b
  have hxl : xs.length = Ss.length := al.length
  refine ⟨a, rfl, ⟨xs, .of (o2.s _ _ hx)⟩, fun D hD => ?_⟩
  obtain ⟨Pv, p0, pg, pt, pe⟩ := lc_run (te := te) (tt := tYes) (Q := Q) (σ := σ) (vs := vs) (j := j) (n := xs.length) o2 (fun i ys G => Al (Rs.take i) ys G) (fun i ys F F' e h => h.mono e fun R hR => m R (List.mem_of_mem_take hR)) .nil
    (by omega) (fun i x => xs[i]? = some x) (fun i x ys G H' hx' hi g iv Qy Qn hy hn => by
      have hi' : i < Rs.length := by omega
      show (if true = true then te ((wipe σ vs).set j (some x)) H' Qy else Qn H')
      rw [if_pos rfl]
      obtain ⟨S, hS, hs⟩ := al.get hx'
      refine he i x S Rs[i] G H' hS (List.getElem?_eq_getElem hi') (m1 S (List.mem_of_getElem? hS) _ _ _ g.g.ff hs) (a2.trans o g) G H' (g.ok o2).refl Qy fun v G' H'' g' r => hy v G' H'' g' ?_
      rw [List.take_succ_eq_append_getElem hi']
      exact (iv.mono g'.g.ff fun R hR => m R (List.mem_of_mem_take hR)).append (.cons r .nil))
    (fun D ys G H' hD' g e iv => q _ G H' (b.trans (a1.ok o) g) ⟨D, ys, rfl, e, by rw [List.take_of_length_le (by omega)] at iv; exact iv⟩) D hD
  refine lc_list (K := K) (a := a) (xs := xs) (g := gName j) (tt := tYes) (te := te) (vs := vs) (σ := σ) Pv p0 (fun i H' _ p => ?_) (fun i x H' hi p => ⟨hw x, pt i x H' (List.getElem?_eq_some_iff.mp hi).1 hi p⟩) pe
  obtain ⟨G, g⟩ := pg i H' p
  exact .of (g.g.fh _ _ (g.g.ff _ _ hx))

/-! ### a list of one's own, not yet known -/
def EvO (w : Wd) (Rs : List Pr) (te : TE) (σ : L2.St) (F H : Hp) : Prop := ∀ F1 H1, Gw w F H F1 H1 → ∀ Q : VK, (∀ p vs F2 H2, Gw w F1 H1 F2 H2 → H1 p = none → F2 p = none → H2 p = some (.lst vs) → Al Rs vs F2 → Q (.ref p) H2) → te σ H1 Q
theorem eo_cat (o : Ok w F H) (m1 : ∀ R ∈ Rs, Mo R) (m2 : ∀ R ∈ Ss, Mo R) (hl : Rs.length + Ss.length ≤ 100000) (ha : EvW w (Li Rs) ta σ F H) (hb : EvW w (Li Ss) tb σ F H) : EvO w (Rs ++ Ss) (tOp rCat ta tb) σ F H := fun F1 H1 a Q q =>
  ha F1 H1 a _ fun x F2 H2 b rx => hb F2 H2 (a.trans o b) _ fun y F3 H3 c ry => by
    obtain ⟨l, vs, rfl, h1, a1⟩ := rx
    obtain ⟨k, us, rfl, h2, a2⟩ := ry
    have o1 := a.ok o
    have o3 := c.ok (b.ok o1)
    refine ⟨l, k, vs, us, rfl, rfl, o3.s _ _ (c.g.ff _ _ h1), o3.s _ _ h2, Evl.sz_of (by rw [a1.length, a2.length]; exact hl), fun p n => ?_⟩
    have n1 : H1 p = none := by
      cases e : H1 p with
      | none => rfl
      | some u =>
        have nm : p ∉ w.M := fun z => w.tr H3 o3.j p z n
        rw [c.g.hh _ _ nm (b.g.hh _ _ nm e)] at n
        cases n
    exact q p (vs ++ us) F3 _ ((b.trans o1 c).temp n) n1 (same_none o3.s n) upd_same ((a1.mono c.g.ff m1).append a2)
theorem eo_lst (o : Ok w F H) (h : EvA w Rs tas σ F H) (hl : Rs.length ≤ 100000) : EvO w Rs (tLst tas) σ F H := fun F1 H1 a Q q =>
  h F1 H1 a _ fun vs F2 H2 b rs => ⟨Evl.sz_of (by rw [rs.length]; exact hl), fun p n => by
    have o2 := b.ok (a.ok o)
    have n1 : H1 p = none := by
      cases e : H1 p with
      | none => rfl
      | some u =>
        rw [b.g.hh _ _ (fun z => w.tr H2 o2.j p z n) e] at n
        cases n
    exact q p vs F2 _ (b.temp n) n1 (same_none o2.s n) upd_same rs⟩
theorem s_asgO {i : Nat} (o : Ok w F H) (h : EvO w Rs te σ F H) (k : ∀ p vs F1 H1, Gw w F H F1 H1 → H p = none → F1 p = none → H1 p = some (.lst vs) → Al Rs vs F1 → D.nx (σ.set i (some (.ref p))) H1) : tAsg te (gName i) D σ H := h F H o.refl _ k
/-- p.append(e): p known from now on -/
theorem s_appK {p : Addr} {vs : List V} (o : Ok w F H) (n : F p = none) (hp : H p = some (.lst vs)) (nm : p ∉ w.M) (al : Al Rs vs F) (m : ∀ R ∈ Rs, Mo R) (mR : Mo R) (hz : vs.length < 100000) (ho : ∀ H1 (Q : VK), Q (.ref p) H1 → ta σ H1 Q) (h : EvW w R te σ F H)
    (k : ∀ F1 H1, Ok w F1 H1 → (∀ F0 H0, Ok w F0 H0 → Gw w F0 H0 F H → H0 p = none → Gw w F0 H0 F1 H1) → Li (Rs ++ [R]) (.ref p) F1 → D.nx σ H1) : tDrop (tBM K "list" rAppend ta (tCons te tNil)) D σ H := by
  refine ho H _ ⟨.inl ⟨rfl, vs, .of hp⟩, h F H o.refl _ fun v F1 H1 g rv => ?_⟩
  have e1 : H1 p = some (.lst vs) := g.g.hh _ _ nm hp
  have n1 : F1 p = none := g.g.nw p n (by rw [hp]; exact nofun)
  refine ⟨p, vs, v, rfl, rfl, e1, Evl.sz_lt hz, ?_⟩
  have o1 := g.ok o
  have J : w.J (upd H1 p (.lst (vs ++ [v]))) := w.st _ _ o1.j fun b u hb q => by
    have hne : b ≠ p := fun z => by subst z; exact nm hb
    rw [upd_ne hne]
    exact q
  refine k (upd F1 p (.lst (vs ++ [v]))) _ ⟨fun b u q => ?_, J, fun b hb => ?_⟩ (fun F0 H0 o0 G n0 => ?_) ⟨p, vs ++ [v], rfl, upd_same, ?_⟩
  · by_cases hb : b = p
    · subst hb
      rw [upd_same] at q ⊢
      exact q
    · rw [upd_ne hb] at q ⊢
      exact o1.s b u q
  · have hne : b ≠ p := fun z => by subst z; exact nm hb
    rw [upd_ne hne]
    exact o1.m b hb
  · exact ⟨((G.trans o0 g).g.mut (.inl n0) n1).keep n0 n1 upd_same, J⟩
  · exact ((al.mono g.g.ff m).mono (same_upd n1) m).append (.cons (mR _ _ _ (same_upd n1) rv) .nil)

/-! ### parallel stores -/
theorem s_par2 {i j : Nat} (o : Ok w F H) (h : EvA w [R, S] tas σ F H) (k : ∀ u v F1 H1, Gw w F H F1 H1 → R u F1 → S v F1 → D.nx ((σ.set i (some u)).set j (some v)) H1) : (tas σ H fun vs H1 => ∃ u v, vs = [u, v] ∧ D.nx ((σ.set i (some u)).set j (some v)) H1) := h F H o.refl _ fun vs F1 H1 g al => by
  cases al with
  | cons a r =>
    cases r with
    | cons b r =>
      cases r
      exact ⟨_, _, rfl, k _ _ F1 H1 g a b⟩
theorem s_par3 {i j l : Nat} (o : Ok w F H) (h : EvA w [R, S, T] tas σ F H) (k : ∀ u v z F1 H1, Gw w F H F1 H1 → R u F1 → S v F1 → T z F1 → D.nx (((σ.set i (some u)).set j (some v)).set l (some z)) H1) : (tas σ H fun vs H1 => ∃ u v z, vs = [u, v, z] ∧ D.nx (((σ.set i (some u)).set j (some v)).set l (some z)) H1) := h F H o.refl _ fun vs F1 H1 g al => by
  cases al with
  | cons a r =>
    cases r with
    | cons b r =>
      cases r with
      | cons c r =>
        cases r
        exact ⟨_, _, _, rfl, k _ _ _ F1 H1 g a b c⟩

/-! ### exceptions as values -/
/-- an exception of the class C with these fields -/
def Exv (C : Addr) (fs : List (Str × V)) : Pr := fun v F => ∃ a d, v = .ref a ∧ F a = some (exo a C (some d)) ∧ F d = some (exd d fs)
/-- an exception of the class C -/
def Exc (C : Addr) : Pr := fun v F => ∃ a, v = .ref a ∧ QE.IsEx F a C
theorem Exv.mo {C : Addr} {fs : List (Str × V)} : Mo (Exv C fs) := fun _ _ _ e ⟨a, d, h1, h2, h3⟩ => ⟨a, d, h1, e _ _ h2, e _ _ h3⟩
theorem isEx_mono {F F' : Hp} {a C : Addr} (e : Same F F') (h : QE.IsEx F a C) : QE.IsEx F' a C := by
  rcases h with ⟨d, h1, h2⟩ | h
  · exact .inl ⟨d, e _ _ h1, fun dd hd => let ⟨fs, h⟩ := h2 dd hd; ⟨fs, e _ _ h⟩⟩
  · exact .inr (e _ _ h)
theorem Exc.mo {C : Addr} : Mo (Exc C) := fun _ _ _ e ⟨a, h1, h2⟩ => ⟨a, h1, isEx_mono e h2⟩
theorem Exv.exc {C : Addr} {fs : List (Str × V)} (h : Exv C fs v F) : Exc C v F := by
  obtain ⟨a, d, rfl, h2, h3⟩ := h
  exact ⟨a, rfl, .inl ⟨some d, h2, fun dd hd => by cases hd; exact ⟨fs, h3⟩⟩⟩
/-- what an __init__ that keeps its arguments as fields promises -/
def spI (C : Addr) (names : List Str) : Sp := fun vs H Q _ => ∃ (a : Addr) (ws : List V), vs = .ref a :: ws ∧ ws.length = names.length ∧ H a = some (exo a C none) ∧
  ∀ d H', H d = none → d ≠ a → H' d = some (exd d (names.zip ws).reverse) → H' a = some (exo a C (some d)) → (∀ b o, b ≠ a → H b = some o → H' b = some o) → Q .non H'
theorem spI.len {C : Addr} {names : List Str} {n : Nat} (hn : names.length + 1 = n) : ∀ vs H Q E, spI C names vs H Q E → vs.length = n := fun vs H Q E ⟨a, ws, e, hl, _⟩ => by
  rw [e, List.length_cons, hl, hn]
theorem ev_mk {C : Addr} {names : List Str} {ws : List V} {E : XK} (o : Ok w F H) (h : EvA w (ws.map Is) tas σ F H) (hl : ws.length = names.length) (hz : ws.length ≤ 1000) : EvW w (Exv C (names.zip ws).reverse) (QE.tMkV C (spI C names) [] E tas) σ F H := fun F1 H1 a1 Q q =>
  h F1 H1 a1 _ fun vs F2 H2 b al => by
    have e : vs = ws := (Al.is (f := fun v => v) al).trans (List.map_id' ws)
    subst e
    refine ⟨hz, fun a na => ⟨a, vs, by rw [List.append_nil], hl, upd_same, fun d H' nd da hd ha hh => ⟨rfl, ?_⟩⟩⟩
    have nd2 : H2 d = none := by rw [upd_ne da] at nd; exact nd
    have o2 := b.ok (a1.ok o)
    have sH : Same H2 H' := fun c u e => hh c u (ne_of_none e na) (by rw [upd_ne (ne_of_none e na)]; exact e)
    refine q _ (upd (upd F2 d (exd d (names.zip vs).reverse)) a (exo a C (some d))) H' (b.trans (a1.ok o) ⟨⟨fun c u e => ?_, fun c u e => ?_, fun c u _ e => sH c u e, fun c e1 e2 => ?_⟩, w.same o2.j sH⟩) ⟨a, d, rfl, upd_same, ?_⟩
    · rw [upd_ne (ne_of_none e (same_none o2.s na)), upd_ne (ne_of_none e (same_none o2.s nd2))]
      exact e
    · by_cases hc : c = a
      · subst hc
        rw [upd_same] at e
        rw [ha]
        exact e
      · rw [upd_ne hc] at e
        by_cases hcd : c = d
        · subst hcd
          rw [upd_same] at e
          rw [hd]
          exact e
        · rw [upd_ne hcd] at e
          exact sH c u (o2.s c u e)
    · rw [upd_ne (fun z => e2 (by rw [z]; exact na)), upd_ne (fun z => e2 (by rw [z]; exact nd2))]
      exact e1
    · rw [upd_ne da, upd_same]
/-- e.f -/
theorem ev_ef {C : Addr} {fs : List (Str × V)} {f : Str} {y : V} (o : Ok w F H) (T : QE.ExX K C) (hno : PySem.W.findIn K (.ref C) f = some none) (h : EvW w (Exv C fs) te σ F H) (hf : fs.lookup f = some y) : EvW w (Is y) (QE.tEf K f te) σ F H := fun F1 H1 a1 Q q =>
  h F1 H1 a1 _ fun v F2 H2 b ⟨a, d, e, h1, h2⟩ => ⟨a, C, d, fs, y, e, T, hno, b.g.fh _ _ h1, b.g.fh _ _ h2, hf, q y F2 H2 b rfl⟩
/-- isinstance(e, T) -/
theorem ca_isX {C : Addr} {cv : Value} {cc : V} {b : Bool} (T : QE.ExX K C) (hc : ∀ u, RelV cc u → u = cv) (e : PySem.W.kitOne K (.ref C) cv = some b) : CaW w (QE.rIsX K) [Exc C, Is cc] (Is (.bl b)) := by
  intro vs F H o al Q q
  cases al with
  | cons h r =>
    cases r with
    | @cons _ _ y _ _ h2 r =>
      cases r
      obtain ⟨a, rfl, ia⟩ := h
      obtain rfl : y = cc := h2
      exact ⟨a, C, _, b, rfl, T, isEx_mono o.s ia, .inl ⟨cv, hc, e⟩, q _ F H o.refl rfl⟩
theorem ca_isXt {C : Addr} {cvs : List Value} {ts : List V} {b : Bool} (T : QE.ExX K C) (hc : ∀ us, Vals ts us → us = cvs) (e : PySem.W.kitAny K (.ref C) cvs = some b) : CaW w (QE.rIsX K) [Exc C, Tu (ts.map Is)] (Is (.bl b)) := by
  intro vs F H o al Q q
  cases al with
  | cons h r =>
    cases r with
    | @cons _ _ y _ _ h2 r =>
      cases r
      obtain ⟨a, rfl, ia⟩ := h
      obtain ⟨p, xs, rfl, h3, h4⟩ := h2
      have e1 : xs = ts := (Al.is (f := fun v => v) h4).trans (List.map_id' ts)
      subst e1
      exact ⟨a, C, _, b, rfl, T, isEx_mono o.s ia, .inr ⟨p, _, cvs, rfl, o.s _ _ h3, hc, e⟩, q _ F H o.refl rfl⟩
/-- C(), an own exception class without an own __init__ -/
theorem ev_mk0 {C : Addr} (o : Ok w F H) : EvW w (Exc C) (fun _ H Q => ∀ a, H a = none → Q (.ref a) (upd H a (ExO (.ref C) a))) σ F H := fun F1 H1 a1 Q q a na =>
  q _ (upd F1 a (ExO (.ref C) a)) _ ((a1.ok o).refl.new (a1.ok o) na) ⟨a, rfl, .inr upd_same⟩
end
section
variable {X : Cx} {x : Str} {p pos : Pos}
theorem pe_exc0 {C : Addr} {bmB : List Value} {B newId initId : String} (F : ExcBaseFacts B newId initId bmB) (q : PySem.W.excIn X.K C bmB newId = true) (gC : X.mg x = some (.ref C)) (kC : PySem.W.keepIn X.K (.ref C) = true) (hg : Gl X x) (hdb : (x == ("__debug__" : Str)) = false := by decide) :
    PE X (.Call (.Name x p) [] [] pos) (fun _ H Q => ∀ a, H a = none → Q (.ref a) (upd H a (ExO (.ref C) a))) := by
  refine ⟨fun pins s σ H Q I h => wpAny_Call_Name_kw (ld_glob I hg gC (PySem.W.callWith_K0 I.kIn kC ?_) hdb)⟩
  obtain ⟨bm, N, nm, qn, bs, hdct, sn, sub, ab, col, dd, k0, k1, k2, k3, k5, mN, hC, hN, hni, T⟩ := exc_obj I.kIn q
  refine wpAny_call_exc_subT F T hC hN hni (fun h' a hm => ?_) (Nat.zero_le _)
  have hn : H a = none := I.hok.gone hm.new
  obtain ⟨t, ht, _, _⟩ := hm.there
  exact ⟨.ref a, upd H a (ExO (.ref C) a), I.laidN hm.keeps hm.new hn (exO_ok ht ⟨rfl, rfl⟩ rfl rfl rfl (show 4 < 6 by decide)), rfl, h a hn⟩
end
end QW

set_option Elab.async false
set_option linter.all false
set_option maxRecDepth 100000
set_option maxHeartbeats 4000000
/-! QC: defs that may be called, in one bundle; the pot of draws. -/
namespace QC
open PySem PySem.Spec PyProof.Rows L2 QG

/-- a def that may be called by its name -/
structure Cal (P : Program) (w : World) (K : PySem.W.Frag) (mg : Str → Option Value) (base : Heap) (CX : CXT) (k : Nat) (x : Str) (sp : Sp) (dvs : List V) : Prop where
  ex : ∃ (f : Addr) (fd : FuncData) (ps : List Str) (ds : List Value), FnG P w K mg base CX k f fd ps sp ∧ mg x = some (.ref f) ∧ PySem.W.keepIn K (.ref f) = true ∧ Binds K fd ps ds ∧ Vals dvs ds
section
variable {P : Program} {w : World} {K : PySem.W.Frag} {mg : Str → Option Value} {base : Heap} {CX : CXT} {x qual : Str} {params : Arguments} {body : List Stmt} {scope : Scope} {f : Addr} {fd : FuncData} {N ps : List Str} {k : Nat} {sp : Sp}
theorem okG (F : FunD K x qual params body scope [] [] f fd) (S : FnScope N ps scope) (len : ∀ vs H Q E, sp vs H Q E → vs.length = ps.length)
    (hb : ∀ (cdv : Value) (A : Around) (outer : List Env) (s : Shared) (H : Hp) (vs : List V) (Q : VK) (E : XK), (A.deeper (envOfC qual scope s.heap.objs.size f cdv)).guards = some [] →
      Room k (A.deeper (envOfC qual scope s.heap.objs.size f cdv)) → sp vs H Q E →
      ∃ t, PSs (cxOf CX P w K mg base N qual scope f cdv A outer s H E) body t ∧ t { nx := fun _ H' => Q .non H', rt := Q } (start N vs) H) : FnG P w K mg base CX (k + 1) f fd ps sp := by
  obtain ⟨oc, od, dV, kV, doc, pm, an, cdv, ct, osl, rfl, lk, hcd, _, _⟩ := F.ex
  exact fn_ofG lk hcd S len fun A outer s H vs Q E gd rm q => hb cdv A outer s H vs Q E gd rm q
theorem cal (F : FunD K x x params body scope [] [] f fd) (hm : mg x = some (.ref f))
    (bd : ∀ (kV doc pm : Value) (an : Option Addr) (cdv ct : Value) (us : List Value), us.length = ps.length → bindArgs (PySem.W.fnOf x x params body scope .none kV doc pm an cdv ct) ⟨us, []⟩ = pure (ps.zip us))
    (S : FnScope N ps scope) (len : ∀ vs H Q E, sp vs H Q E → vs.length = ps.length)
    (hb : ∀ (cdv : Value) (A : Around) (outer : List Env) (s : Shared) (H : Hp) (vs : List V) (Q : VK) (E : XK), (A.deeper (envOfC x scope s.heap.objs.size f cdv)).guards = some [] →
      Room k (A.deeper (envOfC x scope s.heap.objs.size f cdv)) → sp vs H Q E →
      ∃ t, PSs (cxOf CX P w K mg base N x scope f cdv A outer s H E) body t ∧ t { nx := fun _ H' => Q .non H', rt := Q } (start N vs) H) : Cal P w K mg base CX (k + 1) x sp [] :=
  ⟨f, fd, ps, [], okG F S len hb, hm, F.kp, F.bindsN bd, .nil⟩
end
section
variable {X : Cx} {CX : CXT} {k j : Nat} {x : Str} {sp : Sp} {dvs : List V} {E : XK} {p pos : Pos} {e : Expr} {es : List Expr} {t : TA}
theorem pe_q (c : Cal X.prog X.w X.K X.mg X.base CX k x sp dvs) (gd : X.A.guards = some []) (hr : Room j X.A) (hk : k ≤ j) (hx : Passes CX X E) (hg : Gl X x) (ha : PA X (e :: es) t)
    (hdb : (x == ("__debug__" : Str)) = false := by decide) (he : starEach (e :: es) X.env = (false, eval e X.env) :: starEach es X.env := by rfl) (hpl : (backTo pos (starEach es X.env)).any (·.1) = false := by rfl) :
    PE X (.Call (.Name x p) (e :: es) [] pos) (tCall sp dvs E t) := by
  obtain ⟨f, fd, ps, ds, F, hm, kp, b, d⟩ := c.ex
  exact pe_callG F gd (hr.mono hk) hg hm kp b d hx ha hdb he hpl
end
end QC

namespace QW
open PySem PySem.Spec PyProof.Rows L2 QR

/-! ### plain values -/
section
variable {K : PySem.W.Frag} {w : Wd} {σ : L2.St} {F H F1 H1 F2 H2 : Hp} {ta tb te tx : TE} {t u : TT} {v : V} {R S T : Pr} {Rs Ss : List Pr} {tas : TA} {D : Ends}
theorem ow_int {g : Int → Int → V} {i j : Int} : OpW w (rI0 g) (Is (.int i)) (Is (.int j)) (Is (g i j)) := fun x y F H o rx ry Q q => by
  obtain rfl : x = .int i := rx
  obtain rfl : y = .int j := ry
  exact ⟨i, j, rfl, rfl, q _ F H o.refl rfl⟩
theorem ow_intC {C : Int → Int → Prop} {g : Int → Int → V} {i j : Int} (h : C i j) : OpW w (rI C g) (Is (.int i)) (Is (.int j)) (Is (g i j)) := fun x y F H o rx ry Q q => by
  obtain rfl : x = .int i := rx
  obtain rfl : y = .int j := ry
  exact ⟨i, j, rfl, rfl, h, q _ F H o.refl rfl⟩
theorem ow_eqS {a b : V} (h : scal a b = true) : OpW w rEq (Is a) (Is b) (Is (.bl (decide (a = b)))) := fun x y F H o rx ry Q q => by
  obtain rfl : x = a := rx
  obtain rfl : y = b := ry
  exact ⟨h, q _ F H o.refl rfl⟩
theorem ow_neS' {a b : V} (h : scal a b = true) : OpW w rNe (Is a) (Is b) (Is (.bl (!decide (a = b)))) := fun x y F H o rx ry Q q => by
  obtain rfl : x = a := rx
  obtain rfl : y = b := ry
  exact ⟨h, q _ F H o.refl rfl⟩
theorem ev_neg {i : Int} (h : EvW w (Is (.int i)) te σ F H) : EvW w (Is (.int (-i))) (tUn (rU fun i => .int (-i)) te) σ F H := fun F1 H1 a Q q => h F1 H1 a _ fun v F2 H2 b r => ⟨i, r, q _ F2 H2 b rfl⟩
/-- a place in a list -/
theorem ow_ix {i : Int} {T : Pr} (h : ∀ xs : List V, xs.length = Rs.length → ∃ j : Nat, atI xs i = xs[j]? ∧ Rs[j]? = some T) : OpW w (rIxL K) (Li Rs) (Is (.int i)) T := fun x y F H o rx ry Q q => by
  obtain ⟨l, xs, rfl, h1, al⟩ := rx
  obtain rfl : y = .int i := ry
  obtain ⟨j, e1, e2⟩ := h xs al.length
  have hj : j < xs.length := by rw [al.length]; exact (List.getElem?_eq_some_iff.mp e2).1
  obtain ⟨S, e3, s⟩ := al.get (List.getElem?_eq_getElem hj)
  rw [e2] at e3
  cases e3
  exact ⟨l, xs, i, xs[j], rfl, rfl, .of (o.s _ _ h1), e1.trans (List.getElem?_eq_getElem hj), q _ F H o.refl s⟩
/-- an empty dict -/
theorem ev_dnew (o : Ok w F H) : EvW w (Da K (.dict [])) tDNewK σ F H := fun F1 H1 a Q q p n => q (.ref p) (upd F1 p (.dK [])) _ ((a.ok o).refl.new (a.ok o) n) (.dic upd_same .nil)
/-- a value and what is known of it, one way or another -/
theorem EvW.ex {α : Type} {P : α → Pr} {x : α} (h : EvW w (P x) te σ F H) : EvW w (fun v F => ∃ x, P x v F) te σ F H := h.imp fun v F' _ r => ⟨x, r⟩
end

/-! ### the script -/
def Sc (K : PySem.W.Frag) (a : Addr) (xs : List V) : Pr := fun v F => v = .ref a ∧ SqL K F a xs
theorem Sc.mo {K : PySem.W.Frag} {a : Addr} {xs : List V} : Mo (Sc K a xs) := fun _ _ _ e h => ⟨h.1, e.seq h.2⟩
/-- the script's length -/
theorem ca_lenSc {K : PySem.W.Frag} {w : Wd} {a : Addr} {xs : List V} : CaW w (fun xs H Q => ∃ p ys, xs = [.ref p] ∧ (SqL K H p ys ∨ SqT K H p ys) ∧ Q (.int ys.length) H) [Sc K a xs] (Is (.int xs.length)) := by
  intro vs F H o al Q q
  cases al with
  | cons h r =>
    cases r
    obtain ⟨rfl, h⟩ := h
    exact ⟨a, xs, rfl, .inl (o.s.seq h), q _ F H o.refl rfl⟩
theorem ca_lenLi {K : PySem.W.Frag} {w : Wd} {Rs : List Pr} : CaW w (fun xs H Q => ∃ p ys, xs = [.ref p] ∧ (SqL K H p ys ∨ SqT K H p ys) ∧ Q (.int ys.length) H) [Li Rs] (Is (.int Rs.length)) := by
  intro vs F H o al Q q
  cases al with
  | cons h r =>
    cases r
    obtain ⟨l, ys, rfl, h1, h2⟩ := h
    refine ⟨l, ys, rfl, .inl (.of (o.s _ _ h1)), ?_⟩
    rw [h2.length]
    exact q _ F H o.refl rfl
theorem ca_max2 {w : Wd} {i j : Int} : CaW w (fun xs H Q => ∃ i j, xs = [.int i, .int j] ∧ Q (.int (if j > i then j else i)) H) [Is (.int i), Is (.int j)] (Is (.int (if j > i then j else i))) := by
  intro vs F H o al Q q
  obtain rfl := Al.is (f := fun v : V => v) (xs := [.int i, .int j]) al
  exact ⟨i, j, rfl, q _ F H o.refl rfl⟩
theorem ca_min2 {w : Wd} {i j : Int} : CaW w (fun xs H Q => ∃ i j, xs = [.int i, .int j] ∧ Q (.int (if j < i then j else i)) H) [Is (.int i), Is (.int j)] (Is (.int (if j < i then j else i))) := by
  intro vs F H o al Q q
  obtain rfl := Al.is (f := fun v : V => v) (xs := [.int i, .int j]) al
  exact ⟨i, j, rfl, q _ F H o.refl rfl⟩
/-- repr of data -/
theorem ca_repr {K : PySem.W.Frag} {w : Wd} {d : PyData} (hk : (∃ ds, d = .list ds) ∨ (∃ ds, d = .tuple ds) ∨ ∃ x, d = .str x) (S : Shows d) : CaW w (rRepr K) [Da K d] (Is (.str d.shown)) := by
  intro vs F H o al Q q
  cases al with
  | cons h r =>
    cases r
    exact ⟨_, d, rfl, Dv.mono o.s h, hk, S, q _ F H o.refl rfl⟩

/-! ### the pot -/
def spPot (K : PySem.W.Frag) : Sp := fun vs H Q _ => ∃ (a : Addr) (ns : List Int) (i : Int), vs = [.ref a, .int i] ∧ SqL K H a (ns.map V.int) ∧ 0 ≤ i ∧ i ≤ 1000 ∧ ∀ p H', H p = none → Same H H' → PotAt p H' → Q (.ref p) H'
theorem spPot.len {K : PySem.W.Frag} : ∀ vs H Q E, spPot K vs H Q E → vs.length = 2 := fun vs H Q E ⟨_, _, _, e, _⟩ => by rw [e]; rfl
theorem pot_at {p : Addr} {H : Hp} {x y : Int} (hx : 0 ≤ x) (hy : 0 ≤ y) (hy2 : y ≤ 2147483587) (h : H p = some (.lst [.int x, .int y])) : PotAt p H := ⟨x, y, hx, hy, hy2, h⟩
/-- the pot's world is left -/
theorem Gw.drop {F H H1 F2 H2 : Hp} {p : Addr} (n : H p = none) (s : Same H H1) (g : Gw (Wp p) F H1 F2 H2) : Gw W0 F H F2 H2 := ⟨⟨g.g.ff, g.g.fh, fun b u _ e => g.g.hh b u (fun z => by
  obtain rfl : b = p := by simpa [Wp] using z
  rw [n] at e
  cases e) (s _ _ e), fun b e1 e2 => g.g.nw b e1 fun z => e2 (s.free z)⟩, True.intro⟩
theorem Ok.pot {F H H1 : Hp} {p : Addr} (o : Ok W0 F H) (n : H p = none) (s : Same H H1) (h : PotAt p H1) : Ok (Wp p) F H1 := ⟨o.s.trans s, h, fun m hm => by
  obtain rfl : m = p := by simpa [Wp] using hm
  exact o.s.free n⟩
/-- f(pot(script, i)) -/
theorem ev_potted {K : PySem.W.Frag} {σ : L2.St} {F H : Hp} {a : Addr} {ns : List Int} {i : Int} {R : Pr} {E E' : XK} {tas : TA} (o : Ok W0 F H) (hi : 0 ≤ i) (hi2 : i ≤ 1000) (h : EvA W0 [Sc K a (ns.map V.int), Is (.int i)] tas σ F H) :
    EvW W0 R (tCall (spW (fun p => Wp p) (fun p => [Is (.ref p)]) fun _ => R) [] E (tCons (tCall (spPot K) [] E' tas) tNil)) σ F H := fun F1 H1 g Q q =>
  h F1 H1 g _ fun vs F2 H2 b al => by
    cases al with
    | cons h1 r =>
      cases r with
      | cons h2 r =>
        cases r
        obtain ⟨rfl, h1⟩ := h1
        obtain rfl : _ = V.int i := h2
        have o2 := b.ok (g.ok o)
        exact ⟨a, ns, i, rfl, o2.s.seq h1, hi, hi2, fun p H' n s hp => ⟨p, F2, o2.pot n s hp, .cons rfl .nil, fun v F3 H3 c r => q v F3 H3 (b.trans (g.ok o) (Gw.drop n s c)) r⟩⟩
structure DrA where
  p : Addr
  n : Int
  h : 0 < n
  h2 : n < 1073741824
def Dr (n : Int) : Pr := fun v _ => ∃ d : Int, v = .int d ∧ 0 ≤ d ∧ d < n
theorem Dr.mo {n : Int} : Mo (Dr n) := fun _ _ _ _ h => h
def spDraw : Sp := spW (fun a : DrA => Wp a.p) (fun a => [Is (.ref a.p), Is (.int a.n)]) fun a => Dr a.n
theorem spDraw.len : ∀ vs H Q E, spDraw vs H Q E → vs.length = 2 := spW.len fun _ => rfl
/-- what a draw needs, and leaves -/
theorem spDraw.raw {vs : List V} {H : Hp} {Q : VK} {E : XK} (h : spDraw vs H Q E) : ∃ (p : Addr) (n A B : Int), vs = [.ref p, .int n] ∧ 0 < n ∧ n < 1073741824 ∧ 0 ≤ A ∧ 0 ≤ B ∧ B ≤ 2147483587 ∧ H p = some (.lst [.int A, .int B]) ∧
    ∀ (d : Int) (H' : Hp), 0 ≤ d → d < n → (∀ b o, b ≠ p → H b = some o → H' b = some o) → PotAt p H' → Q (.int d) H' := by
  obtain ⟨⟨p, n, h1, h2⟩, F, o, al, q⟩ := h
  obtain rfl := Al.is (f := fun v : V => v) (xs := [.ref p, .int n]) al
  obtain ⟨A, B, a1, a2, a3, a4⟩ := o.j
  have k : F p = none := o.m p List.mem_cons_self
  refine ⟨p, n, A, B, rfl, h1, h2, a1, a2, a3, a4, fun d H' d1 d2 hh hp => q (.int d) F H' ⟨⟨Same.refl F, fun b u e => hh b u (ne_of_none e k) (o.s b u e), fun b u m e => hh b u (fun z => m (by rw [z]; exact List.mem_cons_self)) e, fun b e _ => e⟩, hp⟩ ⟨d, rfl, d1, d2⟩⟩
structure ChA where
  p : Addr
  Rs : List Pr
  m : ∀ R ∈ Rs, Mo R
  h : 0 < Rs.length
  h2 : Rs.length < 1000000
def Some_ (Rs : List Pr) : Pr := fun v F => ∃ R ∈ Rs, R v F
theorem Some_.mo {Rs : List Pr} (m : ∀ R ∈ Rs, Mo R) : Mo (Some_ Rs) := fun _ _ _ e ⟨R, h, r⟩ => ⟨R, h, m R h _ _ _ e r⟩
def spChoice : Sp := spW (fun a : ChA => Wp a.p) (fun a => [Is (.ref a.p), Li a.Rs]) fun a => Some_ a.Rs
theorem spChoice.len : ∀ vs H Q E, spChoice vs H Q E → vs.length = 2 := spW.len fun _ => rfl
/-- options[draw(pot, len(options))] -/
theorem ow_ixDr {K : PySem.W.Frag} {w : Wd} {Rs : List Pr} : OpW w (rIxL K) (Li Rs) (Dr Rs.length) (Some_ Rs) := fun x y F H o rx ry Q q => by
  obtain ⟨l, xs, rfl, h1, al⟩ := rx
  obtain ⟨d, rfl, d1, d2⟩ := ry
  have hl := al.length
  have hd : d.toNat < xs.length := by omega
  obtain ⟨R, e, r⟩ := al.get (List.getElem?_eq_getElem hd)
  refine ⟨l, xs, d, xs[d.toNat], rfl, rfl, .of (o.s _ _ h1), ?_, q _ F H o.refl ⟨R, List.mem_of_getElem? e, r⟩⟩
  unfold atI ixN
  rw [if_pos d1, if_pos (by omega)]
  exact List.getElem?_eq_getElem hd
end QW

set_option Elab.async false
set_option linter.all false
set_option maxRecDepth 100000
set_option maxHeartbeats 4000000
/-! QP: what the pot, the draw and the choice compute. -/
namespace QW
open PySem PySem.Spec PyProof.Rows L2 QR
section
variable {K : PySem.W.Frag} {vs : List V} {H : Hp} {Q : VK} {E : XK}
abbrev iLen (K : PySem.W.Frag) : List V → Hp → VK → Prop := fun xs H Q => ∃ p ys, xs = [.ref p] ∧ (SqL K H p ys ∨ SqT K H p ys) ∧ Q (.int ys.length) H
abbrev iAbs : List V → Hp → VK → Prop := fun xs H Q => ∃ i, xs = [.int i] ∧ Q (.int (if i < 0 then -i else i)) H
abbrev iMax : List V → Hp → VK → Prop := fun xs H Q => ∃ i j, xs = [.int i, .int j] ∧ Q (.int (if j > i then j else i)) H
abbrev iDm : List V → Hp → VK → Prop := fun xs H Q => ∃ i j, xs = [.int i, .int j] ∧ CDiv i j ∧ ∀ p, H p = none → Q (.ref p) (upd H p (.tup [.int (i / j), .int (i % j)]))
abbrev oAdd : R2 := rI0 fun i j => .int (i + j)
abbrev oSub : R2 := rI0 fun i j => .int (i - j)
abbrev oMul : R2 := rI CMul fun i j => .int (i * j)
abbrev oMod : R2 := rI (fun _ j => 0 < j) fun i j => .int (i % j)
abbrev oPow : R2 := rI CPow fun i j => .int (i ^ j.toNat)
abbrev oDiv : R2 := rI CDiv fun i j => .int (i / j)
abbrev oLt : R2 := rI0 fun i j => .bl (decide (i < j))
abbrev oGt : R2 := rI0 fun i j => .bl (decide (j < i))
def t_potEnd : TS := tRet (tLst (tCons (tCB iMax (tCons (tC (.int 0)) (tCons (tOp oSub (tVar 2) (tOp oPow (tC (.int 10)) (tC (.int 18)))) tNil)))
  (tCons (tOp oAdd (tOp oMod (tOp oPow (tOp oAdd (tOp oAdd (tOp oMod (tVar 2) (tC (.int 2147483629))) (tOp oMul (tC (.int 1013)) (tVar 1))) (tC (.int 7))) (tC (.int 3))) (tC (.int 2147483587))) (tC (.int 1))) tNil)))
def t_pot (K : PySem.W.Frag) : TS := tSeq (tAsg (tC (.int 0)) (gName 2)) (tSeq (tIfS (tTest (tOp oLt (tVar 1) (tCB (iLen K) (tCons (tVar 0) tNil)))) (tAsg (tCB iAbs (tCons (tOp (rIxL K) (tVar 0) (tVar 1)) tNil)) (gName 2)) tNext) t_potEnd)
theorem pot_end {a : Addr} {i c : Int} {D : Ends} (hi : 0 ≤ i) (hi2 : i ≤ 1000) (q : ∀ p H', H p = none → Same H H' → PotAt p H' → D.rt (.ref p) H') : t_potEnd D [some (.ref a), some (.int i), some (.int c)] H := by
  have hm0 : 0 ≤ c % 2147483629 := Int.emod_nonneg _ (by decide)
  have hm1 : c % 2147483629 < 2147483629 := Int.emod_lt_of_pos _ (by decide)
  have hp : CPow (c % 2147483629 + 1013 * i + 7) 3 := ⟨by decide, by decide, by omega⟩
  refine ⟨_, rfl, 10, 18, rfl, rfl, ⟨by decide, by decide, by decide⟩, c, _, rfl, rfl, 0, _, rfl, _, rfl, c, 2147483629, rfl, rfl, (by decide : (0 : Int) < 2147483629), _, rfl, 1013, i, rfl, rfl, .inl (by decide), _, _, rfl, rfl, _, 7, rfl, rfl, _, 3, rfl, rfl, hp, _, 2147483587, rfl, rfl, (by decide : (0 : Int) < 2147483587), _, 1, rfl, rfl, ?_⟩
  refine ⟨(by decide : 2 ≤ sizeLine), fun p n => q p _ n (same_upd n) ⟨_, _, ?_, ?_, ?_, upd_same⟩⟩
  · split <;> omega
  · have := Int.emod_nonneg ((c % 2147483629 + 1013 * i + 7) ^ (3 : Int).toNat) (show (2147483587 : Int) ≠ 0 by decide)
    omega
  · have := Int.emod_lt_of_pos ((c % 2147483629 + 1013 * i + 7) ^ (3 : Int).toNat) (show (0 : Int) < 2147483587 by decide)
    omega
theorem pure_pot (h : spPot K vs H Q E) : t_pot K { nx := fun _ H' => Q .non H', rt := Q } (L2.start ["script", "index", "cell"] vs) H := by
  obtain ⟨a, ns, i, rfl, hS, hi, hi2, q⟩ := h
  refine ⟨_, rfl, _, rfl, a, ns.map V.int, rfl, .inl hS, i, _, rfl, rfl, _, rfl, ?_⟩
  by_cases hc : i < ((ns.map V.int).length : Int)
  · refine (if_pos (decide_eq_true hc)).mpr ?_
    have hl : i.toNat < (ns.map V.int).length := by omega
    have hl2 : i.toNat < ns.length := by rw [List.length_map] at hl; exact hl
    have e : atI (ns.map V.int) i = some (V.int ns[i.toNat]) := by
      unfold atI ixN
      rw [if_pos hi, if_pos hc]
      show (ns.map V.int)[i.toNat]? = _
      rw [List.getElem?_map, List.getElem?_eq_getElem hl2]
      rfl
    exact ⟨_, rfl, _, rfl, a, _, i, _, rfl, rfl, hS, e, _, rfl, pot_end (D := { nx := fun _ H' => Q .non H', rt := Q }) hi hi2 q⟩
  · refine (if_neg (by rw [decide_eq_false hc]; decide)).mpr ?_
    exact pot_end (D := { nx := fun _ H' => Q .non H', rt := Q }) hi hi2 q
def t_draw (K : PySem.W.Frag) : TS := tSeq (tIfS (tTest (tOp oGt (tOp (rIxL K) (tVar 0) (tC (.int 0))) (tC (.int 0))))
    (tSeq (tAsg (tCB iDm (tCons (tOp (rIxL K) (tVar 0) (tC (.int 0))) (tCons (tVar 1) tNil))) (gTup K 2 (gCons (gSub (tVar 0) (tC (.int 0)) rSetL) (gCons (gName 2) gNil)))) (tRet (tVar 2))) tNext)
  (tSeq (tAsg (tOp oMod (tOp oAdd (tOp oMul (tOp (rIxL K) (tVar 0) (tC (.int 1))) (tC (.int 48271))) (tC (.int 10037))) (tC (.int 2147483587))) (gSub (tVar 0) (tC (.int 1)) rSetL))
    (tRet (tOp oMod (tOp oDiv (tOp oMod (tOp oMul (tOp (rIxL K) (tVar 0) (tC (.int 1))) (tOp (rIxL K) (tVar 0) (tC (.int 1)))) (tC (.int 2147483563))) (tC (.int 7))) (tVar 1))))
theorem pure_draw (h : spDraw vs H Q E) : t_draw K { nx := fun _ H' => Q .non H', rt := Q } (L2.start ["pot", "bound", "digit"] vs) H := by
  obtain ⟨p, n, A, B, rfl, hn, hn2, hA, hB, hB2, hp, q⟩ := h.raw
  have i0 : ∀ x y : Int, atI [V.int x, V.int y] 0 = some (.int x) := fun _ _ => rfl
  have i1 : ∀ x y : Int, atI [V.int x, V.int y] 1 = some (.int y) := fun _ _ => rfl
  have hC : CDiv A n := ⟨hn, hn2⟩
  refine ⟨_, rfl, p, _, 0, _, rfl, rfl, .of hp, i0 A B, A, 0, rfl, rfl, _, rfl, ?_⟩
  by_cases hc : 0 < A
  · refine (if_pos (decide_eq_true hc)).mpr ?_
    refine ⟨_, rfl, p, _, 0, _, rfl, rfl, .of hp, i0 A B, _, rfl, A, n, rfl, hC, fun t ht => ?_⟩
    have ne : t ≠ p := fun z => by rw [z, hp] at ht; cases ht
    have e1 : upd H t (.tup [.int (A / n), .int (A % n)]) p = some (.lst [.int A, .int B]) := by rw [upd_ne (Ne.symm ne)]; exact hp
    refine ⟨t, _, rfl, .inl (.inl upd_same), rfl, _, _, rfl, _, rfl, p, _, 0, 0, rfl, rfl, e1, rfl, _, _, rfl, rfl, _, rfl, ?_⟩
    refine q _ _ (Int.emod_nonneg _ (by omega)) (Int.emod_lt_of_pos _ hn) (fun b o hb e => by rw [upd_ne hb, upd_ne (ne_of_none e ht)]; exact e) ⟨A / n, B, Int.ediv_nonneg hA (by omega), hB, hB2, upd_same⟩
  · refine (if_neg (by rw [decide_eq_false hc]; decide)).mpr ?_
    have b0 : 0 ≤ (B * 48271 + 10037) % 2147483587 := Int.emod_nonneg _ (by decide)
    have b1 : (B * 48271 + 10037) % 2147483587 < 2147483587 := Int.emod_lt_of_pos _ (by decide)
    refine ⟨_, rfl, p, _, 1, _, rfl, rfl, .of hp, i1 A B, B, 48271, rfl, rfl, .inr (by decide), _, 10037, rfl, rfl, _, 2147483587, rfl, rfl, (by decide : (0 : Int) < 2147483587), ?_⟩
    refine ⟨_, rfl, p, _, 1, 1, rfl, rfl, hp, rfl, ?_⟩
    have e2 : upd H p (.lst ([V.int A, V.int B].set 1 (.int ((B * 48271 + 10037) % 2147483587)))) p = some (.lst [.int A, .int ((B * 48271 + 10037) % 2147483587)]) := upd_same
    refine ⟨_, rfl, p, _, 1, _, rfl, rfl, .of e2, i1 _ _, _, rfl, p, _, 1, _, rfl, rfl, .of e2, i1 _ _, _, _, rfl, rfl, .inl (by omega), _, 2147483563, rfl, rfl, (by decide : (0 : Int) < 2147483563), _, 7, rfl, rfl, ⟨by decide, by decide⟩, _, rfl, _, n, rfl, rfl, hn, ?_⟩
    exact q _ _ (Int.emod_nonneg _ (by omega)) (Int.emod_lt_of_pos _ hn) (fun b o hb e => by rw [upd_ne hb]; exact e) ⟨A, _, hA, b0, by omega, e2⟩
def t_choice (K : PySem.W.Frag) : TS := tRet (tOp (rIxL K) (tVar 1) (tCall spDraw [] E0 (tCons (tVar 0) (tCons (tCB (iLen K) (tCons (tVar 1) tNil)) tNil))))
theorem pure_choice (h : spChoice vs H Q E) : t_choice K { nx := fun _ H' => Q .non H', rt := Q } (L2.start ["pot", "options"] vs) H := by
  obtain ⟨⟨p, Rs, m, h1, h2⟩, F, o, al, q⟩ := h
  cases al with
  | cons a1 r =>
    cases r with
    | cons a2 r =>
      cases r
      obtain rfl : _ = V.ref p := a1
      rename_i u
      show t_choice K { nx := fun _ H' => Q .non H', rt := Q } [some (.ref p), some u] H
      refine s_ret (R := Some_ Rs) o (ev_op o (Li.mo m) (ev_var o (Li.mo m) rfl a2) (ev_call (wf := fun a : DrA => Wp a.p) (A := fun a => [Is (.ref a.p), Is (.int a.n)]) (Rf := fun a => Dr a.n) ⟨p, Rs.length, by omega, by omega⟩ o (ea_cons o (Is.mo _) (ev_var o (Is.mo _) rfl rfl) (ea_cons o (Is.mo _) (ev_cb o (ea_cons o (Li.mo m) (ev_var o (Li.mo m) rfl a2) (ea_nil o)) ca_lenLi) (ea_nil o)))) ow_ixDr) fun v F1 H1 g r => q v F1 H1 g r
end
end QW

set_option Elab.async false
set_option linter.all false
set_option maxRecDepth 100000
set_option maxHeartbeats 4000000
/-! QI: an exception's __init__ that keeps its arguments as fields; lists of exceptions. -/
namespace QW
open PySem PySem.Spec PyProof.Rows L2 QR QE
section
variable {K : PySem.W.Frag} {C : Addr} {B newId initId : String} {tl : List Value} {vs : List V} {H : Hp} {Q : VK} {E : XK} {f1 f2 f3 f4 m : Str} {N : List Str}
theorem init_pre {names : List Str} (h : spI C names vs H Q E) : ∃ (a : Addr) (ws : List V), vs = .ref a :: ws ∧ ws.length = names.length ∧ H a = some (exo a C none) ∧
    ∀ (d : Addr) (Hd : HO), H d = none → d ≠ a → Hd = exd d (names.zip ws).reverse → Q .non (upd (upd H d Hd) a (exo a C (some d))) := by
  obtain ⟨a, ws, e, hl, ha, q⟩ := h
  refine ⟨a, ws, e, hl, ha, fun d Hd n ne e2 => q d _ n ne ?_ upd_same fun b o hb hh => ?_⟩
  · rw [upd_ne ne, upd_same, e2]
  · rw [upd_ne hb, upd_ne (ne_of_none hh n)]
    exact hh
/-- the last heap, told by what it has -/
theorem init_end {names : List Str} {a : Addr} {ws : List V} (ha : H a = some (exo a C none)) (q : ∀ d H', H d = none → d ≠ a → H' d = some (exd d (names.zip ws).reverse) → H' a = some (exo a C (some d)) → (∀ b o, b ≠ a → H b = some o → H' b = some o) → Q .non H')
    {d : Addr} {u0 : HO} (n : H d = none) (ne : d ≠ a) {u : HO} (e : u = exd d (names.zip ws).reverse) : Q .non (upd (upd (upd H d u0) a (exo a C (some d))) d u) := by
  refine q d _ n ne (by rw [upd_same, e]) ?_ fun b o hb hh => ?_
  · rw [upd_ne (Ne.symm ne), upd_same]
  · rw [upd_ne (ne_of_none hh n), upd_ne hb, upd_ne (ne_of_none hh n)]
    exact hh
theorem init_end2 {names : List Str} {a : Addr} {ws : List V} (ha : H a = some (exo a C none)) (q : ∀ d H', H d = none → d ≠ a → H' d = some (exd d (names.zip ws).reverse) → H' a = some (exo a C (some d)) → (∀ b o, b ≠ a → H b = some o → H' b = some o) → Q .non H')
    {d : Addr} {u0 u1 u2 : HO} (n : H d = none) (ne : d ≠ a) {u : HO} (e : u = exd d (names.zip ws).reverse) : Q .non (upd (upd (upd (upd (upd H d u0) a (exo a C (some d))) d u1) d u2) d u) := by
  refine q d _ n ne (by rw [upd_same, e]) ?_ fun b o hb hh => ?_
  · rw [upd_ne (Ne.symm ne), upd_ne (Ne.symm ne), upd_ne (Ne.symm ne), upd_same]
  · rw [upd_ne (ne_of_none hh n), upd_ne (ne_of_none hh n), upd_ne (ne_of_none hh n), upd_ne hb, upd_ne (ne_of_none hh n)]
    exact hh
theorem pure_init1 (T : ExB K C B newId initId tl) (n1 : PySem.W.findIn K (.ref C) f1 = some none) (h : spI C [f1] vs H Q E) (hN : N.length = 2) :
    tSeq (tDrop (tBi K initId (tCons (tVar 0) (tCons (tC (.str m)) tNil)))) (tSt K f1 (tVar 0) (tVar 1)) { nx := fun _ H' => Q .non H', rt := Q } (L2.start N vs) H := by
  obtain ⟨a, ws, rfl, hl, ha, q⟩ := init_pre h
  obtain ⟨w1, rfl⟩ : ∃ w1, ws = [w1] := by
    match ws, hl with
    | [w1], _ => exact ⟨w1, rfl⟩
  have e : L2.start N [.ref a, w1] = [some (.ref a), some w1] := by unfold L2.start; rw [hN]; rfl
  rw [e]
  exact ⟨.ref a, rfl, a, C, B, newId, tl, [.str m], rfl, by simp, T, ha, w1, rfl, .ref a, rfl, a, C, rfl, ⟨_, _, _, _, T⟩, n1, .inl ⟨ha, fun d n ne => q d _ n ne rfl⟩⟩
theorem pure_init2 (T : ExB K C B newId initId tl) (n1 : PySem.W.findIn K (.ref C) f1 = some none) (n2 : PySem.W.findIn K (.ref C) f2 = some none) (h : spI C [f1, f2] vs H Q E) (hN : N.length = 3) :
    tSeq (tDrop (tBi K initId (tCons (tVar 0) (tCons (tC (.str m)) tNil)))) (tSeq (tSt K f1 (tVar 0) (tVar 1)) (tSt K f2 (tVar 0) (tVar 2))) { nx := fun _ H' => Q .non H', rt := Q } (L2.start N vs) H := by
  obtain ⟨a, ws, rfl, hl, ha, q⟩ := h
  obtain ⟨w1, w2, rfl⟩ : ∃ w1 w2, ws = [w1, w2] := by
    match ws, hl with
    | [w1, w2], _ => exact ⟨w1, w2, rfl⟩
  have e : L2.start N [.ref a, w1, w2] = [some (.ref a), some w1, some w2] := by unfold L2.start; rw [hN]; rfl
  rw [e]
  refine ⟨.ref a, rfl, a, C, B, newId, tl, [.str m], rfl, by simp, T, ha, w1, rfl, .ref a, rfl, a, C, rfl, ⟨_, _, _, _, T⟩, n1, .inl ⟨ha, fun d n ne => ?_⟩⟩
  exact ⟨w2, rfl, .ref a, rfl, a, C, rfl, ⟨_, _, _, _, T⟩, n2, .inr ⟨d, [(f1, w1)], upd_same, by rw [upd_ne ne, upd_same], by simp, init_end (names := [f1, f2]) (ws := [w1, w2]) ha q n ne rfl⟩⟩
theorem pure_init4 (T : ExB K C B newId initId tl) (n1 : PySem.W.findIn K (.ref C) f1 = some none) (n2 : PySem.W.findIn K (.ref C) f2 = some none) (n3 : PySem.W.findIn K (.ref C) f3 = some none) (n4 : PySem.W.findIn K (.ref C) f4 = some none) (h : spI C [f1, f2, f3, f4] vs H Q E) (hN : N.length = 5) :
    tSeq (tDrop (tBi K initId (tCons (tVar 0) (tCons (tC (.str m)) tNil)))) (tSeq (tSt K f1 (tVar 0) (tVar 1)) (tSeq (tSt K f2 (tVar 0) (tVar 2)) (tSeq (tSt K f3 (tVar 0) (tVar 3)) (tSt K f4 (tVar 0) (tVar 4))))) { nx := fun _ H' => Q .non H', rt := Q } (L2.start N vs) H := by
  obtain ⟨a, ws, rfl, hl, ha, q⟩ := h
  obtain ⟨w1, w2, w3, w4, rfl⟩ : ∃ w1 w2 w3 w4, ws = [w1, w2, w3, w4] := by
    match ws, hl with
    | [w1, w2, w3, w4], _ => exact ⟨w1, w2, w3, w4, rfl⟩
  have e : L2.start N [.ref a, w1, w2, w3, w4] = [some (.ref a), some w1, some w2, some w3, some w4] := by unfold L2.start; rw [hN]; rfl
  rw [e]
  refine ⟨.ref a, rfl, a, C, B, newId, tl, [.str m], rfl, by simp, T, ha, w1, rfl, .ref a, rfl, a, C, rfl, ⟨_, _, _, _, T⟩, n1, .inl ⟨ha, fun d n ne => ?_⟩⟩
  have en : a ≠ d := Ne.symm ne
  refine ⟨w2, rfl, .ref a, rfl, a, C, rfl, ⟨_, _, _, _, T⟩, n2, .inr ⟨d, [(f1, w1)], upd_same, by rw [upd_ne ne, upd_same], by simp, ?_⟩⟩
  refine ⟨w3, rfl, .ref a, rfl, a, C, rfl, ⟨_, _, _, _, T⟩, n3, .inr ⟨d, [(f2, w2), (f1, w1)], by rw [upd_ne en, upd_same], by rw [upd_same], by simp, ?_⟩⟩
  exact ⟨w4, rfl, .ref a, rfl, a, C, rfl, ⟨_, _, _, _, T⟩, n4, .inr ⟨d, [(f3, w3), (f2, w2), (f1, w1)], by rw [upd_ne en, upd_ne en, upd_same], by rw [upd_same], by simp, init_end2 (names := [f1, f2, f3, f4]) (ws := [w1, w2, w3, w4]) ha q n ne rfl⟩⟩
end
section
variable {K : PySem.W.Frag} {v : V} {F : Hp}
theorem Al.imp {α : Type} {f g : α → Pr} : ∀ {xs : List α} {vs : List V}, (∀ x ∈ xs, ∀ v, f x v F → g x v F) → Al (xs.map f) vs F → Al (xs.map g) vs F
  | [], _, _, h => by cases h; exact .nil
  | x :: xs, _, i, h => by
    cases h with
    | cons a r => exact .cons (i x List.mem_cons_self _ a) (Al.imp (fun y hy => i y (List.mem_cons_of_mem _ hy)) r)
theorem Li.imp {α : Type} {f g : α → Pr} {xs : List α} (i : ∀ x ∈ xs, ∀ v, f x v F → g x v F) (h : Li (xs.map f) v F) : Li (xs.map g) v F := by
  obtain ⟨l, vs, e, h1, h2⟩ := h
  exact ⟨l, vs, e, h1, Al.imp i h2⟩
/-- values that are data, by themselves -/
theorem Al.isda {vs : List V} {ds : List PyData} (h : DvAll K F vs ds) : ∀ {us : List V}, Al (vs.map Is) us F → DvAll K F us ds := fun {us} a => by
  obtain rfl : us = vs := (Al.is (f := fun v => v) a).trans (List.map_id' vs)
  exact h
end
end QW

set_option Elab.async false
set_option linter.all false
set_option maxRecDepth 100000
set_option maxHeartbeats 4000000
/-! QV: joints: statements one behind another, calls in lists, classes of exceptions that may be made. -/
namespace QE
open PySem PySem.Spec PyProof.Rows L2
theorem ExB.x {K : PySem.W.Frag} {C : Addr} {B newId initId : String} {tl : List Value} (h : ExB K C B newId initId tl) : ExX K C := ⟨B, newId, initId, tl, h⟩
theorem ty_VE : typeOf (.type "ValueError") = pure (.type "type") := by kernel_rfl
theorem ty_LE : typeOf (.type "LookupError") = pure (.type "type") := by kernel_rfl
theorem ty_RE : typeOf (.type "RuntimeError") = pure (.type "type") := by kernel_rfl
theorem ty_AE : typeOf (.type "ArithmeticError") = pure (.type "type") := by kernel_rfl
/-- an exception class with an own __init__ that keeps its arguments -/
structure MkE (P : Program) (w : World) (K : PySem.W.Frag) (mg : Str → Option Value) (base : Heap) (x : Str) (C : Addr) (names : List Str) : Prop where
  ex : ∃ (fI : Addr) (fd : FuncData) (ps : List Str), ExX K C ∧ PySem.W.findIn K (.ref C) "__init__" = some (some (.ref fI)) ∧ PySem.W.typeIn K (.ref fI) = some (.type "function") ∧
    FnOk P w K mg base L2.CX0 1 fI fd ps (QW.spI C names) ∧ Binds K fd ps [] ∧ mg x = some (.ref C)
theorem pe_mkE {X : Cx} {x : Str} {C : Addr} {names : List Str} {j : Nat} {e : Expr} {es : List Expr} {t : TA} {p pos : Pos} (m : MkE X.prog X.w X.K X.mg X.base x C names) (hr : Room j X.A) (hj : 2 ≤ j) (hg : Gl X x) (ha : PA X (e :: es) t)
    (hdb : (x == ("__debug__" : Str)) = false := by decide) (he : starEach (e :: es) X.env = (false, eval e X.env) :: starEach es X.env := by rfl) (hpl : (backTo pos (starEach es X.env)).any (·.1) = false := by rfl) :
    PE X (.Call (.Name x p) (e :: es) [] pos) (tMkV C (QW.spI C names) [] L2.E0 t) := by
  obtain ⟨fI, fd, ps, hx, i1, i2, F, b, g⟩ := m.ex
  exact pe_mkV hx i1 i2 F (hr.mono hj) b .nil L2.pass0 hg g ha hdb he hpl
end QE
namespace QW
open PySem PySem.Spec PyProof.Rows L2 QR
theorem mos_nil : ∀ R ∈ ([] : List Pr), Mo R := fun _ h => nomatch h
theorem mos_cons {R : Pr} {Rs : List Pr} (h : Mo R) (r : ∀ R ∈ Rs, Mo R) : ∀ S ∈ R :: Rs, Mo S := fun S hS => (List.mem_cons.mp hS).elim (fun e => e ▸ h) (r S)
theorem mos_map {α : Type} {f : α → Pr} (h : ∀ x, Mo (f x)) (xs : List α) : ∀ R ∈ xs.map f, Mo R := fun R hR => by
  obtain ⟨x, _, rfl⟩ := List.mem_map.mp hR
  exact h x
section
variable {K : PySem.W.Frag} {w : Wd} {σ : L2.St} {F H F1 H1 F2 H2 : Hp} {ta tb te tx : TE} {t : TT} {v : V} {R S T : Pr} {Rs Ss : List Pr} {tas : TA} {D : Ends} {u a : TS}
theorem q_asg {i : Nat} (o : Ok w F H) (h : EvW w R te σ F H) (k : ∀ v F1 H1, Gw w F H F1 H1 → R v F1 → u D (σ.set i (some v)) H1) : tSeq (tAsg te (gName i)) u D σ H := s_asg (D := { D with nx := u D }) o h k
theorem q_par2 {i j : Nat} (o : Ok w F H) (h : EvA w [R, S] tas σ F H) (k : ∀ u1 v F1 H1, Gw w F H F1 H1 → R u1 F1 → S v F1 → u D ((σ.set i (some u1)).set j (some v)) H1) : tSeq (tPar i j tas) u D σ H := s_par2 (D := { D with nx := u D }) o h k
theorem q_par3 {i j l : Nat} (o : Ok w F H) (h : EvA w [R, S, T] tas σ F H) (k : ∀ u1 v z F1 H1, Gw w F H F1 H1 → R u1 F1 → S v F1 → T z F1 → u D (((σ.set i (some u1)).set j (some v)).set l (some z)) H1) : tSeq (tPar3 i j l tas) u D σ H := s_par3 (D := { D with nx := u D }) o h k
/-- a test that fails: on -/
theorem q_no (o : Ok w F H) (h : EvT w false t σ F H) (k : ∀ F1 H1, Gw w F H F1 H1 → u D σ H1) : tSeq (tIfS t a tNext) u D σ H := s_no (D := { D with nx := u D }) o h k
theorem q_ret (o : Ok w F H) (h : EvW w R te σ F H) (k : ∀ v F1 H1, Gw w F H F1 H1 → R v F1 → D.rt v H1) : tRet te D σ H := s_ret o h k
theorem q_appK {p : Addr} {vs : List V} (o : Ok w F H) (n : F p = none) (hp : H p = some (.lst vs)) (nm : p ∉ w.M) (al : Al Rs vs F) (m : ∀ R ∈ Rs, Mo R) (mR : Mo R) (hz : vs.length < 100000) (ho : ∀ H1 (Q : VK), Q (.ref p) H1 → ta σ H1 Q) (h : EvW w R te σ F H)
    (k : ∀ F1 H1, Ok w F1 H1 → (∀ F0 H0, Ok w F0 H0 → Gw w F0 H0 F H → H0 p = none → Gw w F0 H0 F1 H1) → Li (Rs ++ [R]) (.ref p) F1 → u D σ H1) : tSeq (tDrop (tBM K "list" rAppend ta (tCons te tNil))) u D σ H := s_appK (D := { D with nx := u D }) o n hp nm al m mR hz ho h k
theorem q_asgO {i : Nat} (o : Ok w F H) (h : EvO w Rs te σ F H) (k : ∀ p vs F1 H1, Gw w F H F1 H1 → H p = none → F1 p = none → H1 p = some (.lst vs) → Al Rs vs F1 → u D (σ.set i (some (.ref p))) H1) : tSeq (tAsg te (gName i)) u D σ H := s_asgO (D := { D with nx := u D }) o h k
theorem fa_nil {α : Type} {p : α → Prop} : ∀ x ∈ ([] : List α), p x := fun _ h => nomatch h
theorem fa_cons {α : Type} {p : α → Prop} {a : α} {l : List α} (h : p a) (r : ∀ x ∈ l, p x) : ∀ x ∈ a :: l, p x := fun x hx => (List.mem_cons.mp hx).elim (fun e => e ▸ h) (r x)
/-- int(b) -/
theorem ca_intB {w : Wd} {b : Bool} : CaW w (fun xs H Q => (∃ i, xs = [.int i] ∧ Q (.int i) H) ∨ ∃ k, xs = [.bl k] ∧ Q (.int (if k then 1 else 0)) H) [Is (.bl b)] (Is (.int (if b then 1 else 0))) := by
  intro vs F H o al Q q
  obtain rfl := Al.is (f := fun v : V => v) (xs := [.bl b]) al
  exact .inr ⟨b, rfl, q _ F H o.refl rfl⟩
/-- a list display by the properties of its elements -/
theorem ev_mapC {α : Type} {Cs : List α} {f g : α → Pr} {tl : TE} {vs : List Nat} {j : Nat} (o : Ok w F H) (hw : Wip σ vs j) (hl : EvW w (Li (Cs.map f)) tl σ F H) (m1 : ∀ C, Mo (f C)) (mT : ∀ C, Mo (g C)) (hz : Cs.length ≤ 100000)
    (he : ∀ C x G H', C ∈ Cs → f C x G → Gw w F H G H' → EvW w (g C) te ((wipe σ vs).set j (some x)) G H') : EvW w (Li (Cs.map g)) (tLc (iList K tl) (gName j) tYes te vs) σ F H :=
  ev_mapLi o hw hl (mos_map m1 _) (mos_map mT _) (by rw [List.length_map]; exact hz) (by rw [List.length_map, List.length_map]) fun i x S T G H' e1 e2 s g => by
    rw [List.getElem?_map] at e1 e2
    cases hc : Cs[i]? with
    | none => rw [hc] at e1; cases e1
    | some C =>
      rw [hc] at e1 e2
      cases e1
      cases e2
      exact he C x G H' (List.mem_of_getElem? hc) s g
/-- the class of an exception, by what isinstance says of it -/
structure KinOk (K : PySem.W.Frag) (C : Addr) (kE : Addr) (b0 b1 b2 b3 b4 : Bool) : Prop where
  x : QE.ExX K C
  ce : PySem.W.kitOne K (.ref C) (.ref kE) = some b0
  ve : PySem.W.kitOne K (.ref C) (.type "ValueError") = some b1
  le : PySem.W.kitOne K (.ref C) (.type "LookupError") = some b2
  re : PySem.W.kitOne K (.ref C) (.type "RuntimeError") = some b3
  ae : PySem.W.kitOne K (.ref C) (.type "ArithmeticError") = some b4
  tt : PySem.W.kitAny K (.ref C) [.type "KeyError", .type "IndexError"] = some false
theorem vals_ke {us : List Value} (h : Vals [.ty "KeyError", .ty "IndexError"] us) : us = [.type "KeyError", .type "IndexError"] := by
  cases h with
  | cons a r =>
    cases r with
    | cons b r =>
      cases r
      obtain rfl := a
      obtain rfl := b
      rfl
theorem ev_is1 {C : Addr} {c : V} {cv : Value} {b : Bool} (o : Ok w F H) (X : QE.ExX K C) (hc : ∀ u, RelV c u → u = cv) (e : PySem.W.kitOne K (.ref C) cv = some b) (ha : EvW w (Exc C) ta σ F H) : EvW w (Is (.bl b)) (tCB (QE.rIsX K) (tCons ta (tCons (tC c) tNil))) σ F H :=
  ev_cb o (ea_cons o Exc.mo ha (ea_cons o (Is.mo _) (ev_c o fun _ => rfl) (ea_nil o))) (ca_isX X hc e)
theorem ev_is2 {C : Addr} {c d : V} {cvs : List Value} {b : Bool} (o : Ok w F H) (X : QE.ExX K C) (hc : ∀ us, Vals [c, d] us → us = cvs) (e : PySem.W.kitAny K (.ref C) cvs = some b) (ha : EvW w (Exc C) ta σ F H) : EvW w (Is (.bl b)) (tCB (QE.rIsX K) (tCons ta (tCons (tTup (tCons (tC c) (tCons (tC d) tNil))) tNil))) σ F H :=
  ev_cb o (ea_cons o Exc.mo ha (ea_cons o (Tu.mo (mos_map Is.mo [c, d])) (ev_tup o (mos_map Is.mo [c, d]) (ea_cons o (Is.mo _) (ev_c o fun _ => rfl) (ea_cons o (Is.mo _) (ev_c o fun _ => rfl) (ea_nil o))) (by simp)) (ea_nil o))) (ca_isXt X hc e)
/-- == of data that is told -/
theorem ev_eqD {d e : PyData} {b : Bool} (o : Ok w F H) (ha : EvW w (Da K d) ta σ F H) (hb : EvW w (Da K e) tb σ F H) (h1 : d.hasDict = false) (h2 : e.hasDict = false) (h3 : SeqAt.shaped d = true) (h4 : SeqAt.shaped e = true) (h5 : PyData.eqv d e = b) : EvW w (Is (.bl b)) (tOp (rEqD K) ta tb) σ F H := by
  subst h5
  exact ev_op o (Da.mo _ _) ha hb (ow_eqD h1 h2 h3 h4)
theorem ev_neD {d e : PyData} {b : Bool} (o : Ok w F H) (ha : EvW w (Da K d) ta σ F H) (hb : EvW w (Da K e) tb σ F H) (h1 : d.hasDict = false) (h2 : e.hasDict = false) (h3 : SeqAt.shaped d = true) (h4 : SeqAt.shaped e = true) (h5 : (!PyData.eqv d e) = b) : EvW w (Is (.bl b)) (tOp (rNeD K) ta tb) σ F H := by
  subst h5
  exact ev_op o (Da.mo _ _) ha hb (ow_neD h1 h2 h3 h4)
theorem EvW.boolsD {bs : List Bool} (h : EvW w (Li (bs.map fun b => Is (.bl b))) te σ F H) : EvW w (Da K (.list (bs.map .bool))) te σ F H := h.imp fun v F' _ r => r.bools
theorem EvW.intsD {bs : List Int} (h : EvW w (Li (bs.map fun b => Is (.int b))) te σ F H) : EvW w (Da K (.list (bs.map .int))) te σ F H := h.imp fun v F' _ r => r.intsD
theorem EvW.rowsB {rows : List (List Bool)} (h : EvW w (Li (rows.map fun bs => Li (bs.map fun b => Is (.bl b)))) te σ F H) : EvW w (Da K (.list (rows.map fun bs => .list (bs.map .bool)))) te σ F H :=
  h.imp fun v F' _ r => Li.da_of (d := fun bs : List Bool => PyData.list (bs.map .bool)) (fun bs v F e => Li.bools e) r
end
end QW

set_option Elab.async false
set_option linter.all false
set_option maxRecDepth 100000
set_option maxHeartbeats 4000000
/-! QS: small data can be shown; loops over range. -/
namespace QR
open PySem PySem.Spec PyProof.Rows L2
/-- small data -/
structure Small (n : Nat) (d : PyData) : Prop where
  s : d.showable = true
  dp : d.depth ≤ 5
  l : d.leavesShort 40 = true
  b : d.bulk ≤ n
theorem small_all {n : Nat} : ∀ {ds : List PyData}, (∀ d ∈ ds, Small n d) → PyData.showableAll ds = true ∧ PyData.depthAll ds ≤ 5 ∧ PyData.leavesShortAll 40 ds = true ∧ PyData.bulkAll ds ≤ (n + 1) * ds.length
  | [], _ => ⟨by simp only [PyData.showableAll], by simp only [PyData.depthAll]; omega, by simp only [PyData.leavesShortAll], by simp only [PyData.bulkAll]; omega⟩
  | d :: ds, h => by
    obtain ⟨h1, h2, h3, h4⟩ := small_all fun x hx => h x (List.mem_cons_of_mem _ hx)
    have q := h d List.mem_cons_self
    have b := q.b
    have e := q.dp
    refine ⟨by simp only [PyData.showableAll, q.s, h1, Bool.and_self], by simp only [PyData.depthAll]; omega, by simp only [PyData.leavesShortAll, q.l, h3, Bool.and_self], ?_⟩
    simp only [PyData.bulkAll, List.length_cons]
    rw [Nat.mul_add]
    omega
/-- rows of small data can be shown -/
theorem shows_rows {n m k : Nat} {rows : List (List PyData)} (h : ∀ r ∈ rows, r.length ≤ m ∧ ∀ d ∈ r, Small n d) (hk : rows.length ≤ k) (hz : 42 * (((n + 1) * m + 1) * k) + 40 ≤ 10000000) : Shows (.list (rows.map .list)) := by
  have key : ∀ rs : List (List PyData), (∀ r ∈ rs, r.length ≤ m ∧ ∀ d ∈ r, Small n d) → PyData.showableAll (rs.map .list) = true ∧ PyData.depthAll (rs.map .list) ≤ 6 ∧ PyData.leavesShortAll 40 (rs.map .list) = true ∧ PyData.bulkAll (rs.map .list) ≤ ((n + 1) * m + 1) * rs.length := by
    intro rs
    induction rs with
    | nil => exact fun _ => ⟨by simp only [List.map_nil, PyData.showableAll], by simp only [List.map_nil, PyData.depthAll]; omega, by simp only [List.map_nil, PyData.leavesShortAll], by simp only [List.map_nil, PyData.bulkAll]; omega⟩
    | cons r rs ih =>
      intro h
      obtain ⟨h1, h2, h3, h4⟩ := ih fun x hx => h x (List.mem_cons_of_mem _ hx)
      obtain ⟨hm, hr⟩ := h r List.mem_cons_self
      obtain ⟨q1, q2, q3, q4⟩ := small_all hr
      have hb : (n + 1) * r.length ≤ (n + 1) * m := Nat.mul_le_mul_left _ hm
      refine ⟨by simp only [List.map_cons, PyData.showableAll, PyData.showable, q1, h1, Bool.and_self], by simp only [List.map_cons, PyData.depthAll, PyData.depth]; omega, by simp only [List.map_cons, PyData.leavesShortAll, PyData.leavesShort, q3, h3, Bool.and_self], ?_⟩
      simp only [List.map_cons, PyData.bulkAll, PyData.bulk, List.length_cons]
      rw [Nat.mul_add]
      omega
  obtain ⟨h1, h2, h3, h4⟩ := key rows h
  refine ⟨by simp only [PyData.showable, h1], by simp only [PyData.depth]; omega, ?_⟩
  have e := PyData.shown_le_bulk 40 (by decide) (.list (rows.map .list)) (by simp only [PyData.leavesShort, h3])
  have hb : ((n + 1) * m + 1) * rows.length ≤ ((n + 1) * m + 1) * k := Nat.mul_le_mul_left _ hk
  simp only [PyData.bulk] at e
  have hs : sizeLine = 16777216 := by decide
  have h5 := Nat.mul_le_mul_left 42 (Nat.le_trans h4 hb)
  omega
end QR
namespace QC
open PySem PySem.Spec PyProof.Rows L2
theorem hu64 {A : Around} {k : Nat} (hr : Room k A) : A.units + 64 < cLine := by have := hr.un; omega
end QC
namespace QW
open PySem PySem.Spec PyProof.Rows L2 QR
section
variable {K : PySem.W.Frag} {w : Wd} {σ : L2.St} {F H F1 H1 F2 H2 : Hp} {te tx : TE} {t : TT} {v : V} {R S T : Pr} {Rs Ss : List Pr} {ta : TA} {D : Ends} {u a tb : TS} {g : TG}
theorem lc_yes {Qy : VK} {Qn : Hp → Prop} (h : te σ H Qy) : tYes σ H (fun b H3 => if b = true then te σ H3 Qy else Qn H3) := by
  show (if true = true then te σ H Qy else Qn H)
  rw [if_pos rfl]
  exact h
theorem q_asgG (o : Ok w F H) (h : EvW w R te σ F H) (k : ∀ v F1 H1, Gw w F H F1 H1 → R v F1 → g v σ H1 (u D)) : tSeq (tAsg te g) u D σ H := h F H o.refl _ k
theorem q_par4 {K : PySem.W.Frag} {U : Pr} {tas : TA} {i j l m : Nat} (o : Ok w F H) (h : EvA w [R, S, T, U] tas σ F H)
    (k : ∀ u1 v z y F1 H1, Gw w F H F1 H1 → R u1 F1 → S v F1 → T z F1 → U y F1 → u D ((((σ.set i (some u1)).set j (some v)).set l (some z)).set m (some y)) H1) :
    tSeq (tAsg (tTup tas) (gTup K 4 (gCons (gName i) (gCons (gName j) (gCons (gName l) (gCons (gName m) gNil)))))) u D σ H := h F H o.refl _ fun vs F1 H1 g al => by
  cases al with
  | cons a r =>
    cases r with
    | cons b r =>
      cases r with
      | cons c r =>
        cases r with
        | cons d r =>
          cases r
          exact ⟨(by decide : 4 ≤ sizeLine), fun p n => ⟨p, _, rfl, .inl (.inl upd_same), rfl, _, _, rfl, _, _, rfl, _, _, rfl, _, _, rfl, rfl, k _ _ _ _ F1 _ (g.temp n) a b c d⟩⟩
theorem q_asgS {i : Nat} (σ' : V → L2.St) (o : Ok w F H) (h : EvW w R te σ F H) (k : ∀ v F1 H1, Gw w F H F1 H1 → R v F1 → u D (σ' v) H1) (hs : ∀ v, σ.set i (some v) = σ' v := by intro _; rfl) : tSeq (tAsg te (gName i)) u D σ H :=
  q_asg o h fun v F1 H1 g r => by rw [hs]; exact k v F1 H1 g r
theorem q_asgOS {i : Nat} (σ' : V → L2.St) (o : Ok w F H) (h : EvO w Rs te σ F H) (k : ∀ p vs F1 H1, Gw w F H F1 H1 → H p = none → F1 p = none → H1 p = some (.lst vs) → Al Rs vs F1 → u D (σ' (.ref p)) H1) (hs : ∀ v, σ.set i (some v) = σ' v := by intro _; rfl) : tSeq (tAsg te (gName i)) u D σ H :=
  q_asgO o h fun p vs F1 H1 g n1 n2 e al => by rw [hs]; exact k p vs F1 H1 g n1 n2 e al
theorem q_par2S {tas : TA} {i j : Nat} (σ' : V → V → L2.St) (o : Ok w F H) (h : EvA w [R, S] tas σ F H) (k : ∀ u1 v F1 H1, Gw w F H F1 H1 → R u1 F1 → S v F1 → u D (σ' u1 v) H1) (hs : ∀ u1 v, (σ.set i (some u1)).set j (some v) = σ' u1 v := by intro _ _; rfl) : tSeq (tPar i j tas) u D σ H :=
  q_par2 o h fun u1 v F1 H1 g r1 r2 => by rw [hs]; exact k u1 v F1 H1 g r1 r2
theorem q_par3S {tas : TA} {i j l : Nat} (σ' : V → V → V → L2.St) (o : Ok w F H) (h : EvA w [R, S, T] tas σ F H) (k : ∀ u1 v z F1 H1, Gw w F H F1 H1 → R u1 F1 → S v F1 → T z F1 → u D (σ' u1 v z) H1) (hs : ∀ u1 v z, ((σ.set i (some u1)).set j (some v)).set l (some z) = σ' u1 v z := by intro _ _ _; rfl) : tSeq (tPar3 i j l tas) u D σ H :=
  q_par3 o h fun u1 v z F1 H1 g r1 r2 r3 => by rw [hs]; exact k u1 v z F1 H1 g r1 r2 r3
theorem q_par4S {K : PySem.W.Frag} {U : Pr} {tas : TA} {i j l m : Nat} (σ' : V → V → V → V → L2.St) (o : Ok w F H) (h : EvA w [R, S, T, U] tas σ F H)
    (k : ∀ u1 v z y F1 H1, Gw w F H F1 H1 → R u1 F1 → S v F1 → T z F1 → U y F1 → u D (σ' u1 v z y) H1) (hs : ∀ u1 v z y, (((σ.set i (some u1)).set j (some v)).set l (some z)).set m (some y) = σ' u1 v z y := by intro _ _ _ _; rfl) :
    tSeq (tAsg (tTup tas) (gTup K 4 (gCons (gName i) (gCons (gName j) (gCons (gName l) (gCons (gName m) gNil)))))) u D σ H :=
  q_par4 o h fun u1 v z y F1 H1 g r1 r2 r3 r4 => by rw [hs]; exact k u1 v z y F1 H1 g r1 r2 r3 r4
/-- for j in range(n): the body goes on -/
theorem q_forR {n : Int} {j : Nat} (o : Ok w F H) (h0n : 0 ≤ n) (hz : n < 2 ^ 62) (hl : EvA w [Is (.int n)] ta σ F H) (S : L2.St → Prop) (h0 : S σ)
    (hs : ∀ (i : Int) σ' G H', 0 ≤ i → i < n → S σ' → Gw w F H G H' → tb { D with nx := fun σ'' H'' => S σ'' ∧ ∃ G', Gw w F H G' H'', ct := fun σ'' H'' => S σ'' ∧ ∃ G', Gw w F H G' H'', bk := u D } (σ'.set j (some (.int i))) H')
    (k : ∀ σ' G H', S σ' → Gw w F H G H' → u D σ' H') : tSeq (tFor (iRng1 ta) (gName j) tb) u D σ H := by
  refine hl F H o.refl _ fun v F2 H2 b hv => ?_
  obtain rfl : v = [.int n] := by
    cases hv with
    | @cons _ _ u _ _ h r =>
      cases r
      obtain rfl : u = .int n := h
      rfl
  refine ⟨n, rfl, by omega, hz, ?_⟩
  refine for_range (lo := 0) (n := n.toNat) (D := { D with nx := u D }) (fun i σ' H' => S σ' ∧ ∃ G, Gw w F H G H') ⟨h0, F2, b⟩ (fun i σ' H' hi ⟨p, G, q⟩ => ?_) fun σ' H' ⟨p, G, q⟩ => k σ' G H' p q
  have e0 : (0 : Int) + (i : Int) = (i : Int) := Int.zero_add _
  rw [e0]
  exact hs i σ' G H' (by omega) (by omega) p q
end
end QW

set_option Elab.async false
set_option linter.all false
set_option maxRecDepth 100000
set_option maxHeartbeats 4000000
/-! QK: rules whose readings name K itself (so that a comprehension's reading does not name its context). -/
namespace QK
open PySem PySem.Spec PyProof.Rows L2
section
variable {X : Cx} {K : PySem.W.Frag} {e tg l : Expr} {f : Str} {pos : Pos} {te tl : TE} {j : Nat}
theorem pe_ef (hK : X.K = K) (he : PE X e te) (hb : attributeBase e f X.env (eval e X.env) = eval e X.env := by rfl) : PE X (.Attribute e f pos) (QE.tEf K f te) := by
  subst hK
  exact QE.pe_ef he hb
theorem ix_list (hK : X.K = K) : IxR X (rIxL K) := by subst hK; exact L2.ix_list
theorem call_len_seq (hK : X.K = K) : CallR X (.builtin "len") (QW.iLen K) := by subst hK; exact L2.call_len_seq
theorem call_isX (hK : X.K = K) (M : QE.ExM K) : CallR X (.builtin "isinstance") (QE.rIsX K) := by subst hK; exact QE.call_isX M
theorem cr_all (hK : X.K = K) (hc : X.calm = true) : CallR X (.builtin "all") (rAll K) := by subst hK; exact L2.cr_all hc
theorem cr_sum (hK : X.K = K) (hc : X.calm = true) : CallR X (.builtin "sum") (rSum K) := by subst hK; exact L2.cr_sum hc
theorem op_eqD (hK : X.K = K) (hu : X.A.units + 64 < cLine) : OpR X (compareOp .Eq) (rEqD K) := by subst hK; exact L2.op_eqD hu
theorem op_neD (hK : X.K = K) (hu : X.A.units + 64 < cLine) : OpR X (compareOp .NotEq) (rNeD K) := by subst hK; exact L2.op_neD hu
theorem pi_list (hK : X.K = K) (hl : PE X l tl) : PI X tg l (iList K tl) := by subst hK; exact L2.pi_list hl
theorem call_repr (hK : X.K = K) (gd : X.A.guards = some []) (hr : Room j X.A) (hs : QR.SysK K) : CallR X (.builtin "repr") (QR.rRepr K) := by subst hK; exact QR.call_repr gd hr hs
theorem call_list_of (hK : X.K = K) : CallR X (.type "list") (fun xs H Q => ∃ p ys, xs = [.ref p] ∧ (SqL K H p ys ∨ SqT K H p ys) ∧ ∀ l, H l = none → Q (.ref l) (upd H l (.lst ys))) := by subst hK; exact L2.call_list_of
theorem call_tuple_of (hK : X.K = K) : CallR X (.type "tuple") (fun xs H Q => ∃ p ys, xs = [.ref p] ∧ ((SqL K H p ys ∧ ∀ l, H l = none → Q (.ref l) (upd H l (.tup ys))) ∨ (SqT K H p ys ∧ Q (.ref p) H))) := by subst hK; exact L2.call_tuple_of
theorem op_in_seq (hK : X.K = K) : OpR X (compareOp .In) (rIn K false) := by subst hK; exact L2.op_in_seq
theorem op_notIn_seq (hK : X.K = K) : OpR X (compareOp .NotIn) (rIn K true) := by subst hK; exact L2.op_notIn_seq
theorem pe_bm {T id : String} {name : Str} {r : V → List V → Hp → VK → Prop} {o : Expr} {es : List Expr} {to : TE} {t : TA} {apos cpos : Pos} (hK : X.K = K) (pa : PlainAttrs T) (slot : Slot T name id) (hty : typeOf (.builtin id) = pure (.type "method_descriptor")) (hm : MtR X id r) (ho : PE X o to) (ha : PA X (e :: es) t)
    (hbase : attributeBase o name X.env (eval o X.env) = eval o X.env := by rfl)
    (hfew : ((backTo cpos (starEach (e :: es) X.env)).all (fun x => !x.1) && (backToKw cpos (keywordEach [] X.env)).all (fun x => x.1.isSome)
      && decide ((e :: es).length + ([] : List Keyword).length + (if ([] : List Keyword).isEmpty then 0 else 1) < 30)) = true := by rfl)
    (hline : (apos.endLine == cpos.line) = true := by rfl)
    (hs : starEach (e :: es) X.env = (false, eval e X.env) :: starEach es X.env := by rfl) (hpl : (backTo cpos (starEach es X.env)).any (·.1) = false := by rfl) : PE X (.Call (.Attribute o name apos) (e :: es) [] cpos) (tBM K T r to t) := by
  subst hK
  exact L2.pe_bm pa slot hty hm ho ha hbase hfew hline hs hpl
end
end QK
namespace QW
open PySem PySem.Spec PyProof.Rows L2
theorem Al.da_by {K : PySem.W.Frag} {F : Hp} {α : Type} {f : α → Pr} {d : α → PyData} (h : ∀ x v, f x v F → Da K (d x) v F) : ∀ {xs : List α} {vs : List V}, Al (xs.map f) vs F → QR.DvAll K F vs (xs.map d)
  | [], _, al => by cases al; exact .nil
  | x :: xs, _, al => by
    cases al with
    | cons a r => exact .cons (h x _ a) (Al.da_by h r)
theorem Li.rows_by {K : PySem.W.Frag} {F : Hp} {v : V} {α : Type} {f : α → Pr} {d : α → PyData} {xs : List α} (h : ∀ x v, f x v F → Da K (d x) v F) (hv : Li (xs.map f) v F) : Da K (.list (xs.map d)) v F := by
  obtain ⟨l, vs, rfl, h1, h2⟩ := hv
  exact .list h1 (Al.da_by h h2)
theorem ev_allT {K : PySem.W.Frag} {w : Wd} {σ : L2.St} {F H : Hp} {te : TE} {α : Type} {Cs : List α} (o : Ok w F H) (h : EvW w (Li (Cs.map fun _ => Is (.bl true))) te σ F H) : EvW w (Is (.bl true)) (tCB (rAll K) (tCons te tNil)) σ F H := by
  have e : (Cs.map fun _ => Is (.bl true)) = (Cs.map (fun _ => true)).map (fun b => Is (.bl b)) := by rw [List.map_map]; rfl
  have e2 : (Cs.map (fun _ => true)).all id = true := by rw [List.all_eq_true]; intro x hx; obtain ⟨c, _, rfl⟩ := List.mem_map.mp hx; rfl
  rw [e] at h
  have q := ev_cb o (ea_cons o (Li.mo (mos_map (f := fun b => Is (.bl b)) (fun b => Is.mo _) _)) h (ea_nil o)) (ca_all (K := K) (bs := Cs.map fun _ => true))
  rw [e2] at q
  exact q
end QW

set_option Elab.async false
set_option linter.all false
set_option maxRecDepth 100000
set_option maxHeartbeats 4000000
/-! QRaise: exceptions of own classes with an own __init__, over any built-in base, raised. -/
namespace QE
open PySem PySem.Spec PySem.Calls PyProof.Rows L2
section
variable {X : Cx} {e : Expr} {es : List Expr} {ta : TA} {p pos : Pos}
theorem pmk_oexB {CX : CXT} {x : Str} {C fI : Addr} {k : Nat} {fd : FuncData} {ps : List Str} {sp : Sp} {ds : List Value} {dvs : List V} (T : ExX X.K C) (iC : PySem.W.findIn X.K (.ref C) "__init__" = some (some (.ref fI))) (tI : PySem.W.typeIn X.K (.ref fI) = some (.type "function"))
    (F1 : FnOk X.prog X.w X.K X.mg X.base CX k fI fd ps sp) (hr : Room (k + 1) X.A) (hb : Binds X.K fd ps ds) (hd : Vals dvs ds) (hx : Passes CX X (fun _ _ _ => False)) (hg : Gl X x) (hm : X.mg x = some (.ref C)) (ha : PA X (e :: es) ta)
    (hdb : (x == ("__debug__" : Str)) = false := by decide) (he : starEach (e :: es) X.env = (false, eval e X.env) :: starEach es X.env := by rfl) (hpl : (backTo pos (starEach es X.env)).any (·.1) = false := by rfl) :
    PMk X (.Call (.Name x p) (e :: es) [] pos) (tMkO C sp dvs ta) := by
  intro pins s σ H Q I h
  obtain ⟨B, newId, initId, tl, T⟩ := T
  obtain ⟨nm, q, N, bs, bm, sn, sub, ab, col, dd, k0, k1, k2, k3, k5, hC, hbm⟩ := T.cls
  refine wpAny_Call_Name_kw (ld_glob I hg hm ?_ hdb)
  refine PySem.W.callWith_K (h₀ := X.base) I.ok.mod.kin T.kC (thn (ha.run pos pins s σ H _ I h) fun us s1 ⟨vs, H1, I1, r1, hz, q1⟩ => ⟨I1.kIn, ?_⟩) he hpl
  show wpAny _ _ (call (.ref C) us) _ _ _
  obtain ⟨hp, g, dr, tk, os⟩ := s1
  have hsz : hp.objs.size ≤ hp.objs.size + 1 := Nat.le_succ _
  have hn : H1 (hp.objs.size + 1) = none := I1.hok.fresh hsz
  have hq := q1 (hp.objs.size + 1) hn
  have kk : ∀ b o, hp.get? b = some o → ((hp.push (PySem.W.kdv_tup us)).push (PySem.HandSPX.excO C hp.objs.size)).get? b = some o := fun b o e => Heap.get?_push_of_some _ (Heap.get?_push_of_some _ e)
  have hget : ((hp.push (PySem.W.kdv_tup us)).push (PySem.HandSPX.excO C hp.objs.size)).get? (hp.objs.size + 1) = some (PySem.HandSPX.excO C hp.objs.size) := by heap_get
  have I2 : Inv X pins σ (upd H1 (hp.objs.size + 1) (exo (hp.objs.size + 1) C none)) ⟨(hp.push (PySem.W.kdv_tup us)).push (PySem.HandSPX.excO C hp.objs.size), g, dr, tk, os⟩ :=
    I1.laid (t' := tk) (a := hp.objs.size + 1) (o := exo (hp.objs.size + 1) C none) (h' := (hp.push (PySem.W.kdv_tup us)).push (PySem.HandSPX.excO C hp.objs.size)) kk hsz (exo_ok hget)
  have r2 : Vals (V.ref (hp.objs.size + 1) :: (vs ++ dvs)) (Value.ref (hp.objs.size + 1) :: (us ++ ds)) := .cons rfl (r1.append hd)
  have hl : (Value.ref (hp.objs.size + 1) :: us ++ ds).length = ps.length := by
    have e := r2.length
    rw [F1.len _ _ _ _ hq] at e
    exact e.symm
  have hus : us.length ≤ sizeLine := by
    rw [← Paired.length r1, sizeLine_eq]
    omega
  refine wpAny_call (PySem.HandSPX.call_own T.F hbm.has (I1.kIn _ _ hC) (PySem.W.looks_findIn I1.kIn iC) (fun self => PySem.W.bind_fn I1.kIn self tI) hus
    (codeAny_mono (F1.run _ X.stack _ _ ⟨Value.ref (hp.objs.size + 1) :: us, []⟩ (Value.ref (hp.objs.size + 1) :: (us ++ ds)) _ _ (fun _ _ _ => False) (hr.make C us []) (I2.env0.make C us []) (hb _ (Value.ref (hp.objs.size + 1) :: us) I2.kIn hl) r2 hq) fun r s' hq' => ?_))
  cases r with
  | error er => exact hx pins σ _ _ er s' I2 hq'
  | ok fl =>
    cases fl with
    | ret u =>
      obtain ⟨v, H2, os2, bare2, un2, hok2, rv, ev, d, fs, ea, ed, hd1, q2⟩ := hq'
      subst ev
      obtain ⟨h2, g2, d2, t2, os'⟩ := s'
      exact ⟨rv, mk_end (raises_own T.exC T.tyC) I1 hsz kk un2 hok2 os2 bare2 ea ed hd1 q2⟩
    | next => exact False.elim hq'
    | brk => exact False.elim hq'
    | cont => exact False.elim hq'
end
/-- the raise of such an exception: its class, its fields, told -/
theorem mkO_of {C : Addr} {names : List Str} {ws : List V} {vs : List V} {σ : L2.St} {H H1 : Hp} {Q : XK} {ta : TA} (hl : ws.length = names.length) (hz : ws.length ≤ 1000)
    (h : ta σ H fun vs H1 => vs = ws ∧ ∀ d H', H1 d = none → H' d = some (.xd (names.zip ws).reverse) → (∀ b o, H1 b = some o → H' b = some o) → Q (.ref C) (some d) H') (mono : ∀ Q1 Q2 : List V → Hp → Prop, (∀ vs H, Q1 vs H → Q2 vs H) → ta σ H Q1 → ta σ H Q2) :
    tMkO C (QW.spI C names) [] ta σ H Q := by
  refine mono _ _ (fun vs H1 h => ?_) h
  obtain ⟨rfl, q⟩ := h
  refine ⟨hz, fun a na => ⟨a, vs, by rw [List.append_nil], hl, upd_same, fun d H' nd da hd ha hh => ⟨rfl, d, _, ha, hd, ?_, q d _ ?_ upd_same fun b o e => ?_⟩⟩⟩
  · rw [upd_ne da] at nd; exact nd
  · rw [upd_ne da] at nd; exact nd
  · have nd' : H1 d = none := by rw [upd_ne da] at nd; exact nd
    rw [upd_ne (ne_of_none e nd'), del_ne (ne_of_none e na)]
    exact hh b o (ne_of_none e na) (by rw [upd_ne (ne_of_none e na)]; exact e)
end QE

set_option Elab.async false
set_option linter.all false
set_option maxRecDepth 100000
set_option maxHeartbeats 4000000
/-! QMeth: methods, classes that are made, functions, all where no object is being shown; exceptions let out as CX says. -/
namespace QC
open PySem PySem.Spec PyProof.Rows L2 QG
theorem under_guards {A : Around} {C : Addr} {us : List Value} {kw : List (Str × Value)} : (A.under (.builtin "type.__call__" ⟨.ref C :: us, kw⟩)).guards = A.guards := by
  first | rfl | simp [Around.under, Code.weight, Code.isCreation, Code.isGuard, Code.isCaller, Code.frames, Code.isFrame, guardIds]
/-- nothing is let out -/
theorem passE0 {P : Program} {w : World} {X : Cx} {σ : L2.St} : PassesAt (L2.CX P w) X σ (fun _ _ _ => False) := fun _ _ _ _ _ _ c => by
  obtain ⟨_, _, _, _, _, _, _, _, _, _, _, _, z⟩ := c
  exact z.elim
def tCallE (sp : Sp) (dvs : List V) (E : L2.St → XK) (t : TA) : TE := fun σ H Q => t σ H fun vs H1 => sp (vs ++ dvs) H1 Q (E σ)
def tMethE (C : Addr) (m : Str) (sp : Sp) (dvs : List V) (E : L2.St → XK) (ta : TE) (t : TA) : TE := fun σ H Q => ta σ H fun x H1 => ∃ a dx fs, x = .ref a ∧ H1 a = some (.ins C dx fs) ∧ fs.lookup m = none ∧
  t σ H1 fun vs H2 => sp (x :: (vs ++ dvs)) H2 Q (E σ)
def tMakeE (C : Addr) (sp : Sp) (dvs : List V) (E : L2.St → XK) (t : TA) : TE := fun σ H Q => t σ H fun vs H1 => ∀ x dx, H1 x = none → H1 dx = none → dx ≠ x →
  sp (.ref x :: (vs ++ dvs)) (upd (upd H1 dx (.own x)) x (.ins C dx [])) (fun v H2 => v = .non ∧ Q (.ref x) H2) (E σ)
section
variable {X : Cx} {CX : CXT} {k j : Nat} {f C : Addr} {fd : FuncData} {ps : List Str} {sp : Sp} {dvs : List V} {ds : List Value} {E : L2.St → XK} {x m : Str} {p pos apos : Pos} {e o : Expr} {es : List Expr} {ta : TE} {t : TA}
theorem run_g {pins : List (Addr × Obj)} {σ : L2.St} {H : Hp} {s : Shared} {Q : VK} {us : List Value} {vs : List V} (F : FnG X.prog X.w X.K X.mg X.base CX k f fd ps sp) (gd : X.A.guards = some []) (hr : Room k X.A) (hb : Binds X.K fd ps ds) (hd : Vals dvs ds) (hx : PassesAt CX X σ (E σ))
    (I : Inv X pins σ H s) (r : Vals vs us) (h : sp (vs ++ dvs) H Q (E σ)) : wpAny (model X.prog X.w) X.A (call (.ref f) us) (EP X pins σ Q) X.xe s := by
  have r2 : Vals (vs ++ dvs) (us ++ ds) := r.append hd
  have hl : (us ++ ds).length = ps.length := by rw [← r2.length]; exact F.len _ _ _ _ h
  refine wpAny_call (codeAny_mono (F.run X.A X.stack s H ⟨us, []⟩ (us ++ ds) (vs ++ dvs) Q (E σ) gd hr I.env0 (hb s us I.kIn hl) r2 h) fun r s' hq => ?_)
  cases r with
  | error e => exact hx pins H s e s' I hq
  | ok fl =>
    cases fl with
    | ret u => exact I.after hq
    | next => exact False.elim hq
    | brk => exact False.elim hq
    | cont => exact False.elim hq
/-- f(e, ..) -/
theorem pe_f (c : Cal X.prog X.w X.K X.mg X.base CX k x sp dvs) (gd : X.A.guards = some []) (hr : Room j X.A) (hk : k ≤ j) (hx : ∀ σ, PassesAt CX X σ (E σ)) (hg : Gl X x) (ha : PA X (e :: es) t)
    (hdb : (x == ("__debug__" : Str)) = false := by decide) (he : starEach (e :: es) X.env = (false, eval e X.env) :: starEach es X.env := by rfl) (hpl : (backTo pos (starEach es X.env)).any (·.1) = false := by rfl) :
    PE X (.Call (.Name x p) (e :: es) [] pos) (tCallE sp dvs E t) := by
  obtain ⟨f, fd, ps, ds, F, hm, kp, b, d⟩ := c.ex
  refine ⟨fun pins s σ H Q I h => ?_⟩
  refine wpAny_Call_Name_kw (ld_glob I hg hm ?_ hdb)
  refine PySem.W.callWith_K (h₀ := X.base) I.ok.mod.kin kp (thn (ha.run pos pins s σ H _ I h) fun us s1 ⟨vs, H1, I1, r, q⟩ => ⟨I1.kIn, ?_⟩) he hpl
  exact run_g F gd (hr.mono hk) b d (hx σ) I1 r q
/-- f() -/
theorem pe_f0 (c : Cal X.prog X.w X.K X.mg X.base CX k x sp dvs) (gd : X.A.guards = some []) (hr : Room j X.A) (hk : k ≤ j) (hx : ∀ σ, PassesAt CX X σ (E σ)) (hg : Gl X x)
    (hdb : (x == ("__debug__" : Str)) = false := by decide) : PE X (.Call (.Name x p) [] [] pos) (tCallE sp dvs E tNil) := by
  obtain ⟨f, fd, ps, ds, F, hm, kp, b, d⟩ := c.ex
  refine ⟨fun pins s σ H Q I h => ?_⟩
  refine wpAny_Call_Name_kw (ld_glob I hg hm ?_ hdb)
  exact PySem.W.callWith_K0 I.kIn kp (run_g (us := []) F gd (hr.mono hk) b d (hx σ) I .nil h)
/-- a method of the class at C -/
structure Met (P : Program) (w : World) (K : PySem.W.Frag) (mg : Str → Option Value) (base : Heap) (CX : CXT) (k : Nat) (C : Addr) (m : Str) (sp : Sp) (dvs : List V) : Prop where
  ex : ∃ (f : Addr) (fd : FuncData) (ps : List Str) (ds : List Value), Cls K C ∧ Meth K C m f ∧ FnG P w K mg base CX k f fd ps sp ∧ Binds K fd ps ds ∧ Vals dvs ds
/-- o.m(e, ..) -/
theorem pe_m {pl : Sem Bool} (c : Met X.prog X.w X.K X.mg X.base CX k C m sp dvs) (gd : X.A.guards = some []) (hr : Room j X.A) (hk : k ≤ j) (hx : ∀ σ, PassesAt CX X σ (E σ)) (he : PE X o ta) (ha : PA X (e :: es) t)
    (hst : starEach (e :: es) X.env = (false, eval e X.env) :: starEach es X.env := by rfl) (hpl : (backTo pos (starEach es X.env)).any (·.1) = false := by rfl)
    (ht : eval (.Call (.Attribute o m apos) (e :: es) [] pos) X.env = (do
      let ov ← eval o X.env
      standAt apos.atName
      let (f, first) ← holding [ov] (getMethod ov m pl)
      callWith pos f first (backTo pos (starEach (e :: es) X.env)) (backToKw pos (keywordEach [] X.env))) := by rfl) :
    PE X (.Call (.Attribute o m apos) (e :: es) [] pos) (tMethE C m sp dvs E ta t) := by
  obtain ⟨f, fd, ps, ds, cl, hm, F, b, d⟩ := c.ex
  refine ⟨fun pins s σ H Q I h => ?_⟩
  refine PySem.W.methodCall_KW (pl := pl) (thn (he.run pins s σ H _ I h) fun u s1 ⟨x, H1, I1, rx, a, dx, fs, ex, ea, l, q⟩ => ?_) ht
  subst ex
  obtain rfl : u = Value.ref a := rx
  refine getmeth_ok I1 ea cl hm l ?_
  refine PySem.W.callWith_K (first := [.ref a]) (h₀ := X.base) I.ok.mod.kin hm.kp (thn (ha.run pos pins s1 σ H1 _ I1 q) fun us s2 ⟨vs, H2, I2, r, q2⟩ => ⟨I2.kIn, ?_⟩) hst hpl
  exact run_g (us := .ref a :: us) (vs := .ref a :: vs) F gd (hr.mono hk) b d (hx σ) I2 (.cons rfl r) q2
/-- o.m() -/
theorem pe_m0 {pl : Sem Bool} (c : Met X.prog X.w X.K X.mg X.base CX k C m sp dvs) (gd : X.A.guards = some []) (hr : Room j X.A) (hk : k ≤ j) (hx : ∀ σ, PassesAt CX X σ (E σ)) (he : PE X o ta)
    (ht : eval (.Call (.Attribute o m apos) [] [] pos) X.env = (do
      let ov ← eval o X.env
      standAt apos.atName
      let (f, first) ← holding [ov] (getMethod ov m pl)
      callWith pos f first (backTo pos (starEach [] X.env)) (backToKw pos (keywordEach [] X.env))) := by rfl) :
    PE X (.Call (.Attribute o m apos) [] [] pos) (tMethE C m sp dvs E ta tNil) := by
  obtain ⟨f, fd, ps, ds, cl, hm, F, b, d⟩ := c.ex
  refine ⟨fun pins s σ H Q I h => ?_⟩
  refine PySem.W.methodCall_KW (pl := pl) (thn (he.run pins s σ H _ I h) fun u s1 ⟨x, H1, I1, rx, a, dx, fs, ex, ea, l, q⟩ => ?_) ht
  subst ex
  obtain rfl : u = Value.ref a := rx
  refine getmeth_ok I1 ea cl hm l ?_
  exact PySem.W.callWith_K0 (first := [.ref a]) I1.kIn hm.kp (run_g (us := [.ref a]) (vs := [.ref a]) F gd (hr.mono hk) b d (hx σ) I1 (.cons rfl .nil) q)
theorem run_mk {pins : List (Addr × Obj)} {σ : L2.St} {H : Hp} {s : Shared} {Q : VK} {us : List Value} {vs : List V} (M : Mk X.K C f) (F : FnG X.prog X.w X.K X.mg X.base CX k f fd ps sp) (gd : X.A.guards = some []) (hr : Room (k + 1) X.A) (hb : Binds X.K fd ps ds) (hd : Vals dvs ds)
    (hx : PassesAt CX X σ (E σ)) (pb : ∀ H' s', Inv X pins σ H' s' → ∀ e s'', CX X.stack H' s' (E σ) e s'' → X.xe e s'') (I : Inv X pins σ H s) (r : Vals vs us)
    (h : ∀ x dx, H x = none → H dx = none → dx ≠ x → sp (.ref x :: (vs ++ dvs)) (upd (upd H dx (.own x)) x (.ins C dx [])) (fun v H2 => v = .non ∧ Q (.ref x) H2) (E σ)) :
    wpAny (model X.prog X.w) X.A (call (.ref C) us) (EP X pins σ Q) X.xe s := by
  have hq := h (s.heap.objs.size + 1) s.heap.objs.size (I.hok.fresh (Nat.le_succ _)) (I.hok.fresh (Nat.le_refl _)) (Nat.ne_of_lt (Nat.lt_succ_self _))
  have I2 := Inv.made (C := C) I
  have r2 : Vals (V.ref (s.heap.objs.size + 1) :: (vs ++ dvs)) (Value.ref (s.heap.objs.size + 1) :: (us ++ ds)) := .cons rfl (r.append hd)
  have hl : (Value.ref (s.heap.objs.size + 1) :: us ++ ds).length = ps.length := by
    have e := r2.length
    rw [F.len _ _ _ _ hq] at e
    exact e.symm
  refine wpAny_call (make_map (f := f) I.kIn M.makes M.init (beq_iff_eq.mp M.fn) (codeAny_mono (F.run _ X.stack _ _ ⟨Value.ref (s.heap.objs.size + 1) :: us, []⟩ (Value.ref (s.heap.objs.size + 1) :: (us ++ ds)) _ _ (E σ) (under_guards.trans gd) (hr.make C us [])
    (I2.env0.make C us []) (hb _ (Value.ref (s.heap.objs.size + 1) :: us) I2.kIn hl) r2 hq) fun r s' hq' => ?_))
  cases r with
  | error e => exact pb _ _ I2 e s' hq'
  | ok fl =>
    cases fl with
    | ret u =>
      obtain ⟨v, H', I3, rv, ev, q3⟩ := I2.after hq'
      subst ev
      exact ⟨rv, ⟨V.ref (s.heap.objs.size + 1), H', I3, rfl, q3⟩⟩
    | next => exact False.elim hq'
    | brk => exact False.elim hq'
    | cont => exact False.elim hq'
/-- a class that may be made by its name; sp: its __init__ -/
structure Mak (P : Program) (w : World) (K : PySem.W.Frag) (mg : Str → Option Value) (base : Heap) (CX : CXT) (k : Nat) (x : Str) (C : Addr) (sp : Sp) (dvs : List V) : Prop where
  ex : ∃ (f : Addr) (fd : FuncData) (ps : List Str) (ds : List Value), Mk K C f ∧ FnG P w K mg base CX k f fd ps sp ∧ mg x = some (.ref C) ∧ Binds K fd ps ds ∧ Vals dvs ds
theorem pe_k (c : Mak X.prog X.w X.K X.mg X.base CX k x C sp dvs) (gd : X.A.guards = some []) (hr : Room j X.A) (hk : k + 1 ≤ j) (hx : ∀ σ, PassesAt CX X σ (E σ)) (hg : Gl X x) (ha : PA X (e :: es) t)
    (hdb : (x == ("__debug__" : Str)) = false := by decide) (he : starEach (e :: es) X.env = (false, eval e X.env) :: starEach es X.env := by rfl) (hpl : (backTo pos (starEach es X.env)).any (·.1) = false := by rfl) :
    PE X (.Call (.Name x p) (e :: es) [] pos) (tMakeE C sp dvs E t) := by
  obtain ⟨f, fd, ps, ds, M, F, hm, b, d⟩ := c.ex
  refine ⟨fun pins s σ H Q I h => ?_⟩
  refine wpAny_Call_Name_kw (ld_glob I hg hm ?_ hdb)
  refine PySem.W.callWith_K (h₀ := X.base) I.ok.mod.kin M.kp (thn (ha.run pos pins s σ H _ I h) fun us s1 ⟨vs, H1, I1, r, q⟩ => ⟨I1.kIn, ?_⟩) he hpl
  exact run_mk M F gd (hr.mono hk) b d (hx σ) (fun H' s' I' e s'' => hx σ pins H' s' e s'' I') I1 r q
theorem pe_k0 (c : Mak X.prog X.w X.K X.mg X.base CX k x C sp dvs) (gd : X.A.guards = some []) (hr : Room j X.A) (hk : k + 1 ≤ j) (hx : ∀ σ, PassesAt CX X σ (E σ)) (hg : Gl X x)
    (hdb : (x == ("__debug__" : Str)) = false := by decide) : PE X (.Call (.Name x p) [] [] pos) (tMakeE C sp dvs E tNil) := by
  obtain ⟨f, fd, ps, ds, M, F, hm, b, d⟩ := c.ex
  refine ⟨fun pins s σ H Q I h => ?_⟩
  refine wpAny_Call_Name_kw (ld_glob I hg hm ?_ hdb)
  exact PySem.W.callWith_K0 I.kIn M.kp (run_mk (us := []) M F gd (hr.mono hk) b d (hx σ) (fun H' s' I' e s'' => hx σ pins H' s' e s'' I') I .nil h)
end
end QC
namespace QC
open PySem PySem.Spec PyProof.Rows L2 QG
theorem passE {P : Program} {w : World} {X : Cx} : Passes (L2.CX P w) X (fun _ _ _ => False) := fun _ _ _ _ _ _ _ c => by
  obtain ⟨_, _, _, _, _, _, _, _, _, _, _, _, z⟩ := c
  exact z.elim
end QC

set_option Elab.async false
set_option linter.all false
set_option maxRecDepth 100000
set_option maxHeartbeats 1000000
/-! QSort: sorting tuples that begin with texts, all different: lists of such; the items of a dict whose keys are texts. -/
namespace QSo
open PySem PySem.Spec PyProof.Rows L2 PySem.W

/-! ### the rank of a text among others -/
abbrev lt (x y : Str) : Bool := decide (x.cps.toList < y.cps.toList)
def rk (L : List Str) (y : Str) : Int := ((L.filter fun x => lt x y).length : Int)
theorem lt_irr (x : Str) : lt x x = false := decide_eq_false (List.lt_irrefl _)
theorem lt_tr {x y z : Str} (h1 : lt x y = true) (h2 : lt y z = true) : lt x z = true := decide_eq_true (List.lt_trans (of_decide_eq_true h1) (of_decide_eq_true h2))
theorem filter_le {p q : Str → Bool} : ∀ {L : List Str}, (∀ x ∈ L, p x = true → q x = true) → (L.filter p).length ≤ (L.filter q).length
  | [], _ => Nat.le_refl _
  | x :: L, h => by
    have ih := filter_le (L := L) fun y hy => h y (List.mem_cons_of_mem _ hy)
    rw [List.filter_cons, List.filter_cons]
    by_cases hp : p x = true
    · rw [if_pos hp, if_pos (h x List.mem_cons_self hp), List.length_cons, List.length_cons]; omega
    · rw [if_neg hp]
      split
      · rw [List.length_cons]; omega
      · exact ih
theorem filter_lt {p q : Str → Bool} {a : Str} : ∀ {L : List Str}, (∀ x ∈ L, p x = true → q x = true) → a ∈ L → p a = false → q a = true → (L.filter p).length < (L.filter q).length
  | x :: L, h, ha, h1, h2 => by
    rw [List.filter_cons, List.filter_cons]
    rcases List.mem_cons.mp ha with rfl | ha
    · rw [if_neg (by rw [h1]; decide), if_pos h2, List.length_cons]
      have := filter_le (L := L) fun y hy => h y (List.mem_cons_of_mem _ hy)
      omega
    · have ih := filter_lt (L := L) (fun y hy => h y (List.mem_cons_of_mem _ hy)) ha h1 h2
      by_cases hp : p x = true
      · rw [if_pos hp, if_pos (h x List.mem_cons_self hp), List.length_cons, List.length_cons]; omega
      · rw [if_neg hp]
        split
        · rw [List.length_cons]; omega
        · exact ih
theorem rk_lt {L : List Str} {y z : Str} (hy : y ∈ L) : lt y z = decide (rk L y < rk L z) := by
  by_cases h : lt y z = true
  · rw [h]
    refine (decide_eq_true ?_).symm
    have := filter_lt (L := L) (p := fun x => lt x y) (q := fun x => lt x z) (fun x _ hx => lt_tr hx h) hy (lt_irr y) h
    unfold rk
    omega
  · have h' : lt y z = false := by cases e : lt y z with
      | true => exact (h e).elim
      | false => rfl
    rw [h']
    refine (decide_eq_false ?_).symm
    have hle : z.cps.toList ≤ y.cps.toList := fun q => of_decide_eq_false h' q
    have := filter_le (L := L) (p := fun x => lt x z) (q := fun x => lt x y) (fun x _ hx => decide_eq_true (Std.lt_of_lt_of_le (of_decide_eq_true hx) hle))
    unfold rk
    omega

/-! ### the sort's questions -/
section
variable {prog : Program} {w : World} {A : Around} {E : Value → Shared → Prop} {s : Shared}
theorem eq_self {v : Value} {Q : Bool → Shared → Prop} {E : Value → Shared → Prop} (h : Q true s) : wpAny (model prog w) A (eqBool v v) Q E s := by
  unfold eqBool
  refine wpAny_holding ?_
  rw [if_pos (by exact beq_self_eq_true v)]
  exact wpAny_bind (wpAny_rule (wpAny_pure h))
theorem lex_self {b fin : Bool} {Q : Bool → Shared → Prop} (h : Q fin s) : ∀ (vs : List Value) (i : Nat), KatLex prog w A b fin Q (vs.zip vs) i s
  | [], _ => kat_nil h
  | v :: vs, i => kat_cons (eq_self (kat_yes (lex_self h vs (i + 1))))
/-- v is a tuple that begins with the text y -/
def TxIn (h : Heap) (v : Value) (y : Str) : Prop := ∃ (a : Addr) (t : Tok) (r : List Value) (o : Obj) (n : Nat), v = .ref a ∧ h.get? a = some o ∧ o.cls = .type "tuple" ∧ o.data = .seq (Value.str y t :: r).toArray n
theorem TxIn.keeps {h h' : Heap} {v : Value} {y : Str} (x : TxIn h v y) (k : ∀ b o, h.get? b = some o → o.cls = .type "tuple" → h'.get? b = some o) : TxIn h' v y := by
  obtain ⟨a, t, r, o, n, e, h1, h2, h3⟩ := x
  exact ⟨a, t, r, o, n, e, k _ _ h1 h2, h2, h3⟩
/-- its text, read off the heap -/
def keyTx (h : Heap) (v : Value) : Str := DT.txOf (DT.seqAt0 h (DT.refOf (some v)))
theorem TxIn.tx {h : Heap} {v : Value} {y : Str} (x : TxIn h v y) : keyTx h v = y := by
  obtain ⟨a, t, r, o, n, rfl, h1, h2, h3⟩ := x
  show DT.txOf (DT.seqAt0 h a) = y
  unfold DT.seqAt0
  simp only [h1, h3]
  rfl
theorem firsts_of {h : Heap} : ∀ vs : List Value, (∀ v ∈ vs, ∃ y, TxIn h v y) → ∃ fs : List Value, KatTups h vs fs ∧ fs.length = vs.length ∧ ∀ f ∈ fs, ∃ y t, f = Value.str y t
  | [], _ => ⟨[], KatTups.nil, rfl, fun f hf => nomatch hf⟩
  | v :: vs, x => by
    obtain ⟨fs, k, hl, hi⟩ := firsts_of vs fun u hu => x u (List.mem_cons_of_mem _ hu)
    obtain ⟨y, a, t, r, o, n, rfl, ho, hc, hd⟩ := x v List.mem_cons_self
    refine ⟨.str y t :: fs, KatTups.cons ho hc hd rfl k, by rw [List.length_cons, List.length_cons, hl], fun f hf => ?_⟩
    rcases List.mem_cons.mp hf with rfl | hf
    · exact ⟨y, t, rfl⟩
    · exact hi f hf
theorem kind_tx {vs : List Value} {ρ : Str → Int} (h2 : 2 ≤ vs.length) (x : ∀ v ∈ vs, ∃ y, TxIn s.heap v y) (inj : ∀ v ∈ vs, ∀ u ∈ vs, keyTx s.heap v = keyTx s.heap u → v = u)
    (hρ : ∀ v ∈ vs, ∀ u ∈ vs, lt (keyTx s.heap v) (keyTx s.heap u) = decide (ρ (keyTx s.heap v) < ρ (keyTx s.heap u))) (Q : SortKind → Shared → Prop)
    (h : ∀ κ, TS.Cmp prog w A s κ (pairsOf vs) (fun v => ρ (keyTx s.heap v)) → Q κ s) : wpAny (model prog w) A (keyKind' vs.toArray) Q E s := by
  obtain ⟨fs, k, hl, hi⟩ := firsts_of vs x
  refine kat_kind (T := Value.type "str") k (by omega) (fun f hf => ?_) rfl (h _ ?_)
  · obtain ⟨y, t, rfl⟩ := hi f hf
    exact PySem.W.Looks.of_pure rfl
  · have hb : (Value.type "str" != Value.type "tuple") = true := by first | rfl | decide | simp
    rw [hb]
    intro p q hp hq Q' E' hQ
    rw [pairsOf_toList] at hp hq
    have mp := (PyProof.Rows.mem_zip_self hp).2
    have mq := (PyProof.Rows.mem_zip_self hq).2
    have hr := hρ _ mp _ mq
    have hin := inj _ mp _ mq
    obtain ⟨y, py⟩ := x _ mp
    obtain ⟨z, pz⟩ := x _ mq
    have hQ2 : Q' (lt (keyTx s.heap p.1) (keyTx s.heap q.1)) s := by rw [hr]; exact hQ
    rw [py.tx, pz.tx] at hQ2 hin
    obtain ⟨a, t, r, o, n, e1, ho, hc, hd⟩ := id py
    obtain ⟨a', t', r', o', n', e2, ho', hc', hd'⟩ := id pz
    by_cases e : y = z
    · have e3 := hin e
      rw [e3, e2]
      refine kat_lt ho' hd' ho' hd' ?_
      rw [e, lt_irr] at hQ2
      rw [decide_eq_false (Nat.lt_irrefl _)]
      exact lex_self hQ2 _ 0
    · rw [e1, e2]
      refine kat_lt ho hd ho' hd' ?_
      refine kat_cons (wpAny_eqBool_str ?_)
      rw [decide_eq_false e]
      exact kat_no (oneLt_str hQ2)
end

section
variable {prog : Program} {w : World} {A : Around} {E : Value → Shared → Prop} {s : Shared}
/-- xs.sort() of such tuples -/
theorem sort_tx {a : Addr} {vs : List Value} {n : Nat} {ρ : Str → Int} {P : PySem.Fin → Shared → Prop} (ho : s.heap.get? a = some (seqObj "list" vs.toArray n)) (h64 : vs.length < 64) (x : ∀ v ∈ vs, ∃ y, TxIn s.heap v y)
    (inj : ∀ v ∈ vs, ∀ u ∈ vs, keyTx s.heap v = keyTx s.heap u → v = u) (hρ : ∀ v ∈ vs, ∀ u ∈ vs, lt (keyTx s.heap v) (keyTx s.heap u) = decide (ρ (keyTx s.heap v) < ρ (keyTx s.heap u)))
    (h : ∀ (ps : List (Value × Value)) (out : Array Value), out.toList = ps.map Prod.snd → ps.Perm (vs.zip vs) → ps.Pairwise (fun p q => ρ (keyTx s.heap p.1) ≤ ρ (keyTx s.heap q.1)) → P (.done (.ret .none)) { s with heap := sortedHeap s.heap a vs out }) :
    wpAny (model prog w) A (Builtin.«list.sort» ⟨[.ref a], []⟩) P E s := by
  have keep : ∀ b o, s.heap.get? b = some o → o.cls = .type "tuple" → (TS.midHeap s.heap a vs).get? b = some o := fun b o e hc => by
    refine TS.midHeap_old ?_ e
    rintro rfl
    rw [ho] at e
    have e' : seqObj "list" vs.toArray n = o := Option.some.inj e
    rw [← e'] at hc
    have c' : Value.type "list" = Value.type "tuple" := hc
    injection c' with c''
    exact absurd c'' (by decide)
  have same : ∀ v ∈ vs, keyTx (TS.midHeap s.heap a vs) v = keyTx s.heap v := fun v hv => by
    obtain ⟨y, hy⟩ := x v hv
    rw [(hy.keeps keep).tx, hy.tx]
  refine SK.plain_sort (r := fun v => ρ (keyTx (TS.midHeap s.heap a vs) v)) ho h64 (fun h2 Q hQ => ?_) fun ps out h1 h2 h3 => ?_
  · refine kind_tx (s := { s with heap := TS.midHeap s.heap a vs }) (ρ := ρ) h2 (fun v hv => (x v hv).imp fun y hy => hy.keeps keep) (fun v hv u hu e => ?_) (fun v hv u hu => ?_) Q hQ
    · have e' : keyTx (TS.midHeap s.heap a vs) v = keyTx (TS.midHeap s.heap a vs) u := e
      rw [same v hv, same u hu] at e'
      exact inj v hv u hu e'
    · show lt (keyTx (TS.midHeap s.heap a vs) v) (keyTx (TS.midHeap s.heap a vs) u) = _
      rw [same v hv, same u hu]
      exact hρ v hv u hu
  · refine h ps out h1 h2 (List.Pairwise.imp_of_mem (fun {p q} hp hq z => ?_) h3)
    have mp := (PyProof.Rows.mem_zip_self (h2.mem_iff.mp hp)).2
    have mq := (PyProof.Rows.mem_zip_self (h2.mem_iff.mp hq)).2
    rw [same _ mp, same _ mq] at z
    exact z
/-- sorted(xs), xs a list of such tuples -/
theorem sorted_tx {l : Addr} {vs : List Value} {ρ : Str → Int} {Q : Value → Shared → Prop} (hl : s.heap.IsList l vs.toArray) (h64 : vs.length < 64) (x : ∀ v ∈ vs, ∃ y, TxIn s.heap v y)
    (inj : ∀ v ∈ vs, ∀ u ∈ vs, keyTx s.heap v = keyTx s.heap u → v = u) (hρ : ∀ v ∈ vs, ∀ u ∈ vs, lt (keyTx s.heap v) (keyTx s.heap u) = decide (ρ (keyTx s.heap v) < ρ (keyTx s.heap u)))
    (h : ∀ (ps : List (Value × Value)) (out : Array Value), out.toList = ps.map Prod.snd → ps.Perm (vs.zip vs) → ps.Pairwise (fun p q => ρ (keyTx s.heap p.1) ≤ ρ (keyTx s.heap q.1)) → Q (.ref (s.heap.objs.size + 1)) { s with heap := sortedAll s.heap vs out }) :
    wpAny (model prog w) A (call (.builtin "sorted") [.ref l]) Q E s := by
  refine Calls.call_function_entry kind_sorted plain_sorted entry_sorted (args_sorted1 _) ?_
  unfold Builtin.«sorted»
  refine wpAny_bind (m := checkCount "sorted" 1 1 _) (wpAny_pure ?_)
  refine wpAny_bind (collect_list hl ?_ (by rw [sizeLine_eq]; omega))
  refine wpAny_bind (wpAny_newList ?_ (by rw [sizeLine_eq]; omega))
  have hsz : ((s.heap.push (seqObj "list" #[] 0)).update s.heap.objs.size (Obj.mapSeq (· ++ vs.toArray))).objs.size = s.heap.objs.size + 1 := by
    rw [Heap.size_update, size_push']
  have hoL : (((s.heap.push (seqObj "list" #[] 0)).update s.heap.objs.size (Obj.mapSeq (· ++ vs.toArray))).push (seqObj "list" vs.toArray 0)).get? (s.heap.objs.size + 1) = some (seqObj "list" vs.toArray 0) := by
    rw [← hsz]; exact Heap.get?_push_size _ rfl
  have keep : ∀ b o, s.heap.get? b = some o → o.cls = .type "tuple" → (((s.heap.push (seqObj "list" #[] 0)).update s.heap.objs.size (Obj.mapSeq (· ++ vs.toArray))).push (seqObj "list" vs.toArray 0)).get? b = some o := fun b o q _ => by
    have hlt : b < s.heap.objs.size := Heap.lt_size q
    rw [Heap.get?_push_ne _ _ _ (by rw [hsz]; exact Nat.ne_of_lt (Nat.lt_succ_of_lt hlt)), Heap.get?_update_ne _ _ _ _ (Nat.ne_of_lt hlt), Heap.get?_push_ne _ _ _ (Nat.ne_of_lt hlt)]
    exact q
  have same : ∀ v ∈ vs, keyTx (((s.heap.push (seqObj "list" #[] 0)).update s.heap.objs.size (Obj.mapSeq (· ++ vs.toArray))).push (seqObj "list" vs.toArray 0)) v = keyTx s.heap v := fun v hv => by
    obtain ⟨y, hy⟩ := x v hv
    rw [(hy.keeps keep).tx, hy.tx]
  show wpAny _ _ _ _ _ { s with heap := ((s.heap.push (seqObj "list" #[] 0)).update s.heap.objs.size (Obj.mapSeq (· ++ vs.toArray))).push (seqObj "list" vs.toArray 0) }
  rw [hsz]
  refine wpAny_bind (wpAny_holding (wpAny_call_entry slot_list_sort ⟨_, hoL, rfl⟩ entry_list_sort (sort_tx (ρ := ρ) hoL h64 (fun v hv => (x v hv).imp fun y hy => hy.keeps keep) (fun v hv u hu e => ?_) (fun v hv u hu => ?_) fun ps out a1 a2 a3 => ⟨_, rfl, ?_⟩) (args_list_sort _)))
  · have e' := e
    rw [same v hv, same u hu] at e'
    exact inj v hv u hu e'
  · rw [same v hv, same u hu]
    exact hρ v hv u hu
  · refine wpAny_pure ⟨_, rfl, h ps out a1 a2 (List.Pairwise.imp_of_mem (fun {p q} hp hq z => ?_) a3)⟩
    have mp := (PyProof.Rows.mem_zip_self (a2.mem_iff.mp hp)).2
    have mq := (PyProof.Rows.mem_zip_self (a2.mem_iff.mp hq)).2
    rw [same _ mp, same _ mq] at z
    exact z
end

/-! ### the rule by values: a list -/
/-- an entry: the tuple's address, its text, the rest -/
abbrev Ent : Type := Addr × Str × List V
def rSortTx (K : PySem.W.Frag) : List V → Hp → VK → Prop := fun vs H Q => ∃ (a : Addr) (ts : List Ent), vs = [.ref a] ∧ SqL K H a (ts.map fun z => V.ref z.1) ∧ ts.length < 64 ∧ (∀ z ∈ ts, SqT K H z.1 (.str z.2.1 :: z.2.2)) ∧ (ts.map (·.2.1)).Nodup ∧
  ∀ (zs : List Ent) (p : Addr), zs.Perm ts → zs.Pairwise (fun x y => lt y.2.1 x.2.1 = false) → H p = none → Q (.ref p) (upd H p (.lst (zs.map fun z => V.ref z.1)))
section
variable {X : Cx} {pins : List (Addr × Obj)} {σ : L2.St} {H : Hp} {s : Shared}
theorem txIn_of (I : Inv X pins σ H s) {a : Addr} {y : Str} {r : List V} (h : SqT X.K H a (.str y :: r)) : TxIn s.heap (.ref a) y := by
  obtain ⟨its, rv, ht, hz⟩ := I.tuple h
  obtain ⟨o, ho, hc, n, hd⟩ := ht
  cases rv with
  | cons r1 r2 =>
    obtain ⟨t, rfl⟩ := r1
    exact ⟨a, t, _, o, n, rfl, ho, hc, hd⟩
theorem nodup_inj {α β : Type} {f : α → β} : ∀ {l : List α}, (l.map f).Nodup → ∀ x ∈ l, ∀ y ∈ l, f x = f y → x = y
  | [], _, _, h, _, _, _ => nomatch h
  | a :: l, hn, x, hx, y, hy, e => by
    rw [List.map_cons, List.nodup_cons] at hn
    rcases List.mem_cons.mp hx with ex | hx
    · rcases List.mem_cons.mp hy with ey | hy
      · rw [ex, ey]
      · exact (hn.1 (by rw [← ex, e]; exact List.mem_map.mpr ⟨y, hy, rfl⟩)).elim
    · rcases List.mem_cons.mp hy with ey | hy
      · exact (hn.1 (by rw [← ey, ← e]; exact List.mem_map.mpr ⟨x, hx, rfl⟩)).elim
      · exact nodup_inj hn.2 x hx y hy e
theorem refs_vals {ts : List Ent} {its : List Value} (rv : Vals (ts.map fun z => V.ref z.1) its) : its = ts.map fun z => Value.ref z.1 := by
  induction ts generalizing its with
  | nil => cases rv; rfl
  | cons z ts ih =>
    cases rv with
    | cons r1 r2 =>
      obtain rfl := r1
      rw [ih r2]
      rfl
theorem zip_dup {α β : Type} (f : α → β) : ∀ l : List α, l.map (fun z => (f z, f z)) = (l.map f).zip (l.map f)
  | [] => rfl
  | a :: l => by
    show (f a, f a) :: l.map _ = (f a, f a) :: (l.map f).zip (l.map f)
    rw [zip_dup f l]
/-- what the sort of the entries gives -/
theorem ent_out {h : Heap} {ts : List Ent} {ps : List (Value × Value)} {out : Array Value} (tx : ∀ z ∈ ts, TxIn h (.ref z.1) z.2.1) (h1 : out.toList = ps.map Prod.snd) (h2 : ps.Perm ((ts.map fun z => Value.ref z.1).zip (ts.map fun z => Value.ref z.1)))
    (h3 : ps.Pairwise (fun p q => rk (ts.map (·.2.1)) (keyTx h p.1) ≤ rk (ts.map (·.2.1)) (keyTx h q.1))) :
    ∃ zs : List Ent, zs.Perm ts ∧ zs.Pairwise (fun x y => lt y.2.1 x.2.1 = false) ∧ out.toList = zs.map fun z => Value.ref z.1 := by
  obtain ⟨zs, pz, ez⟩ := perm_lift (fun z : Ent => (Value.ref z.1, Value.ref z.1)) h2 ts (zip_dup _ ts)
  refine ⟨zs, pz, ?_, ?_⟩
  · rw [← ez, List.pairwise_map] at h3
    refine List.Pairwise.imp_of_mem (fun {x y} hx hy z => ?_) h3
    have hx' := pz.mem_iff.mp hx
    have hy' := pz.mem_iff.mp hy
    have z' : rk (ts.map (·.2.1)) (keyTx h (.ref x.1)) ≤ rk (ts.map (·.2.1)) (keyTx h (.ref y.1)) := z
    rw [(tx x hx').tx, (tx y hy').tx] at z'
    rw [rk_lt (L := ts.map (·.2.1)) (List.mem_map.mpr ⟨y, hy', rfl⟩)]
    exact decide_eq_false (by omega)
  · rw [h1, ← ez, List.map_map]
    rfl
theorem cr_sortTx : CallR X (.builtin "sorted") (rSortTx X.K) := by
  intro pins s σ H vs us Q I r h
  obtain ⟨a, ts, rfl, hs, h64, ht, hn, q⟩ := h
  obtain ⟨its, rv, hl, _⟩ := I.list hs
  rw [Vals.ref1 r]
  have eI := refs_vals rv
  subst eI
  have tx : ∀ z ∈ ts, TxIn s.heap (.ref z.1) z.2.1 := fun z hz => txIn_of I (ht z hz)
  refine sorted_tx (ρ := rk (ts.map (·.2.1))) hl.isList (by rw [List.length_map]; exact h64) (fun v hv => ?_) (fun v hv u hu e => ?_) (fun v hv u hu => ?_) fun ps out h1 h2 h3 => ?_
  · obtain ⟨z, hz, rfl⟩ := List.mem_map.mp hv
    exact ⟨_, tx z hz⟩
  · obtain ⟨z, hz, rfl⟩ := List.mem_map.mp hv
    obtain ⟨y, hy, rfl⟩ := List.mem_map.mp hu
    rw [(tx z hz).tx, (tx y hy).tx] at e
    rw [nodup_inj (f := fun z : Ent => z.2.1) hn z hz y hy e]
  · obtain ⟨z, hz, rfl⟩ := List.mem_map.mp hv
    obtain ⟨y, hy, rfl⟩ := List.mem_map.mp hu
    rw [(tx z hz).tx, (tx y hy).tx]
    exact rk_lt (List.mem_map.mpr ⟨z, hz, rfl⟩)
  · obtain ⟨zs, pz, pw, ez⟩ := ent_out tx h1 h2 h3
    obtain ⟨ep, he'⟩ := PyProof.Rows.sortedAll_at s.heap (ts.map fun z => Value.ref z.1) out
    have hlen : (zs.map fun z => V.ref z.1).length ≤ sizeLine := by rw [List.length_map, pz.length_eq]; exact small64 h64
    have rv' : Vals (zs.map fun z => V.ref z.1) out.toList := by
      rw [ez]
      exact vals_maps (fun z : Ent => V.ref z.1) (fun z => Value.ref z.1) zs fun _ _ => rfl
    exact ⟨.ref _, upd H (s.heap.objs.size + 1) (.lst (zs.map fun z => V.ref z.1)), I.laid (t' := s.toks) (fun _ _ => PyProof.Rows.sortedAll_old) (Nat.le_succ _) ⟨hlen, out.toList, ep, rv', he'⟩, rfl, q zs _ pz pw (I.hok.fresh (Nat.le_succ _))⟩

/-! ### d.items(), sorted: the keys are texts -/
def rItemsK : V → List V → Hp → VK → Prop := fun x xs H Q => ∃ (a : Addr) (kvs : List (Key × V)), x = .ref a ∧ xs = [] ∧ H a = some (.dK kvs) ∧ ∀ p, H p = none → Q (.ref p) (upd H p (DX.itemsO p a))
theorem mt_itemsK : MtR X "dict.items" rItemsK := by
  intro pins s σ H x xs v us Q I rx rxs h
  obtain ⟨a, kvs, rfl, rfl, ha, q⟩ := h
  cases rx
  cases rxs
  obtain ⟨z, hd, vs, rel, o, es, ep, ho, hx, hdat, _⟩ := (show ObjOk X.prog X.w H s.heap a (.dK kvs) from I.hok a _ ha)
  refine DT.callItems (es := es) (ep := ep) hd ⟨o, ho, hx, hdat⟩ ?_
  have hf : H s.heap.objs.size = none := I.hok.fresh (Nat.le_refl _)
  exact ⟨.ref s.heap.objs.size, upd H s.heap.objs.size (DX.itemsO s.heap.objs.size a), I.laid (t' := s.toks) (fun b u e => Heap.get?_push_of_some _ e) (Nat.le_refl _) (DX.itemsO_ok (Heap.get?_push_size _ rfl)), rfl, q _ hf⟩
abbrev entK (e : Str × V) : Key × V := (Sum.inr e.1, e.2)
theorem pairs_at {P : Program} {w : World} : ∀ {es : List DictEntry} {vs : List (Key × Value)} {ks : List (Str × V)}, Pairs (mixKind P w) es vs → KV (ks.map entK) vs → es.length = ks.length ∧ ∀ (j : Nat) (en : DictEntry), es[j]? = some en → ∃ (e : Str × V) (t : Tok), ks[j]? = some e ∧ en.key = .str e.1 t ∧ RelV e.2 en.val
  | _, _, [], .nil, r => ⟨rfl, fun j en h => by simp at h⟩
  | _, _, [], .cons _ _ _, r => by cases r
  | _, _, e :: ks, .nil, r => by cases r
  | _, _, e :: ks, .cons (e := en0) h1 h2 h3, r => by
    cases r with
    | cons r1 r2 =>
      obtain ⟨hl, ih⟩ := pairs_at (ks := ks) h3 r2
      refine ⟨by rw [List.length_cons, List.length_cons, hl], fun j en h => ?_⟩
      cases j with
      | zero =>
        simp only [List.getElem?_cons_zero] at h ⊢
        cases h
        obtain ⟨e1, e2⟩ := r1
        have hs : keyIs _ _ = true := h1
        rcases keyIs_shape hs with ⟨i, t, ek, ev⟩ | ⟨x, t, ek, ev⟩
        · rw [ek] at e1
          cases e1
        · rw [ek] at e1
          have : e.1 = x := Sum.inr.inj e1
          exact ⟨e, t, rfl, by rw [ev, this], by rw [h2]; exact e2⟩
      | succ j =>
        rw [List.getElem?_cons_succ] at h
        obtain ⟨e', t, q1, q2⟩ := ih j en h
        exact ⟨e', t, by rw [List.getElem?_cons_succ]; exact q1, q2⟩
def rSortItK : List V → Hp → VK → Prop := fun vs H Q => ∃ (p a : Addr) (ks : List (Str × V)), vs = [.ref p] ∧ H p = some (DX.itemsO p a) ∧ H a = some (.dK (ks.map entK)) ∧ ks.length < 64 ∧ (ks.map (·.1)).Nodup ∧
  ∀ (H' : Hp) (l : Addr) (zs : List (Addr × Str × V)), (∀ b o, H b = some o → H' b = some o) → (zs.map (·.2)).Perm ks → zs.Pairwise (fun x y => lt y.2.1 x.2.1 = false) → H' l = some (.lst (zs.map fun z => V.ref z.1)) →
    (∀ z ∈ zs, H' z.1 = some (.tup [.str z.2.1, z.2.2])) → Q (.ref l) H'
theorem cr_sortItK (hc : X.calm = true) : CallR X (.builtin "sorted") rSortItK := by
  intro pins s σ H xs us Q I r h
  obtain ⟨p, a, ks, rfl, hp, ha, h64, hnd, q⟩ := h
  obtain rfl := Vals.ref1 r
  have view : s.heap.IsItemsView p a := (show ObjOk X.prog X.w H s.heap p (DX.itemsO p a) from I.hok p _ hp).1
  obtain ⟨z, hd, vs, rel, o, es, ep, ho, hx, hdat, _, hpairs, _⟩ := (show ObjOk X.prog X.w H s.heap a (.dK (ks.map entK)) from I.hok a _ ha)
  obtain ⟨l1, pr0⟩ := pairs_at hpairs rel
  have l2 : es.size = ks.length := by rw [← l1]; simp
  have hh : X.A.handled = none := I.ok.hd hc
  refine DT.sortedI (es := es) (ep := ep) hh view ⟨o, ho, hx, hdat⟩ (by rw [sizeLine_eq]; omega) fun h' tk as hk hlt hl hG => ?_
  have lak : as.length = ks.length := by omega
  have nd : as.Nodup := List.Pairwise.imp (fun h => Nat.ne_of_lt h) hG.rise
  have pr : ∀ (j : Nat) (b : Addr), as[j]? = some b → ∃ (e : Str × V) (t : Tok) (u : Value), ks[j]? = some e ∧ RelV e.2 u ∧ h'.get? b = some { cls := .type "tuple", data := .seq #[Value.str e.1 t, u] } := by
    intro j b hj
    obtain ⟨en, he, hg⟩ := hG.pairs j b hj
    obtain ⟨e, t, q1, q2, q3⟩ := pr0 j en (by simpa using he)
    exact ⟨e, t, en.val, q1, q3, by rw [hg, q2]⟩
  have hob : (h'.push { cls := .type "list", data := .seq (as.map Value.ref).toArray }).get? h'.objs.size = some (seqObj "list" (as.map Value.ref).toArray 0) := Heap.get?_push_size _ rfl
  have kb : ∀ b o, s.heap.get? b = some o → (h'.push { cls := .type "list", data := .seq (as.map Value.ref).toArray }).get? b = some o := fun b o e => Heap.get?_push_of_some _ (hk b o e)
  have ne0 : ∀ b o, h'.get? b = some o → b ≠ h'.objs.size := fun b o e => Nat.ne_of_lt (Heap.lt_size e)
  generalize hh2 : h'.push { cls := .type "list", data := .seq (as.map Value.ref).toArray } = h2 at hob kb ⊢
  have ka : ∀ b o, h'.get? b = some o → h2.get? b = some o := fun b o e => by rw [← hh2]; exact Heap.get?_push_of_some _ e
  -- the entries
  have tx : ∀ (j : Nat) (b : Addr) (e : Str × V), as[j]? = some b → ks[j]? = some e → TxIn h2 (.ref b) e.1 := by
    intro j b e hj he
    obtain ⟨e', t, u, he', hr, hg⟩ := pr j b hj
    rw [he] at he'
    cases he'
    exact ⟨b, t, [u], _, 0, rfl, ka _ _ hg, rfl, rfl⟩
  have zat : ∀ y ∈ as.zip ks, ∃ j : Nat, as[j]? = some y.1 ∧ ks[j]? = some y.2 := fun y hy => by
    obtain ⟨j, hj⟩ := List.mem_iff_getElem?.mp hy
    exact ⟨j, List.getElem?_zip_eq_some.mp hj⟩
  have etx : ∀ y ∈ (as.zip ks).map (fun y : Addr × Str × V => ((y.1, y.2.1, [y.2.2]) : Ent)), TxIn h2 (.ref y.1) y.2.1 := fun y hy => by
    obtain ⟨y0, hy0, rfl⟩ := List.mem_map.mp hy
    obtain ⟨j, j1, j2⟩ := zat y0 hy0
    exact tx j _ _ j1 j2
  have efst : ((as.zip ks).map (fun y : Addr × Str × V => ((y.1, y.2.1, [y.2.2]) : Ent))).map (fun y => Value.ref y.1) = as.map Value.ref := by
    rw [List.map_map]
    have : (as.zip ks).map (fun y => Value.ref y.1) = ((as.zip ks).map (·.1)).map Value.ref := by rw [List.map_map]; rfl
    rw [show (as.zip ks).map ((fun y : Ent => Value.ref y.1) ∘ fun y : Addr × Str × V => ((y.1, y.2.1, [y.2.2]) : Ent)) = (as.zip ks).map (fun y => Value.ref y.1) from rfl, this, List.map_fst_zip (by rw [lak]; exact Nat.le_refl _)]
  have enm : ((as.zip ks).map (fun y : Addr × Str × V => ((y.1, y.2.1, [y.2.2]) : Ent))).map (·.2.1) = ks.map (·.1) := by
    rw [List.map_map]
    have : (as.zip ks).map (fun y => y.2.1) = ((as.zip ks).map (·.2)).map (·.1) := by rw [List.map_map]; rfl
    rw [show (as.zip ks).map ((fun y : Ent => y.2.1) ∘ fun y : Addr × Str × V => ((y.1, y.2.1, [y.2.2]) : Ent)) = (as.zip ks).map (fun y => y.2.1) from rfl, this, List.map_snd_zip (by rw [lak]; exact Nat.le_refl _)]
  generalize hts : (as.zip ks).map (fun y : Addr × Str × V => ((y.1, y.2.1, [y.2.2]) : Ent)) = ts at etx efst enm
  have lts : ts.length = ks.length := by rw [← List.length_map (f := fun y : Ent => y.2.1), enm, List.length_map]
  rw [← efst] at hob hh2
  have nds : (ts.map (·.2.1)).Nodup := by rw [enm]; exact hnd
  refine wpAny_call_entry PyProof.Rows.slot_list_sort ⟨_, hob, rfl⟩ PyProof.Rows.entry_list_sort (sort_tx (s := { s with heap := h2, toks := tk }) (ρ := rk (ts.map (·.2.1))) hob (by rw [List.length_map]; omega) (fun v hv => ?_) (fun v hv u hu e => ?_) (fun v hv u hu => ?_) fun ps out h1 h3 h4 => ⟨.none, rfl, ?_⟩) (PyProof.Rows.args_list_sort _)
  · obtain ⟨y, hy, rfl⟩ := List.mem_map.mp hv
    exact ⟨_, etx y hy⟩
  · obtain ⟨y, hy, rfl⟩ := List.mem_map.mp hv
    obtain ⟨x, hx, rfl⟩ := List.mem_map.mp hu
    have e' : keyTx h2 (.ref y.1) = keyTx h2 (.ref x.1) := e
    rw [(etx y hy).tx, (etx x hx).tx] at e'
    rw [nodup_inj (f := fun z : Ent => z.2.1) nds y hy x hx e']
  · obtain ⟨y, hy, rfl⟩ := List.mem_map.mp hv
    obtain ⟨x, hx, rfl⟩ := List.mem_map.mp hu
    show lt (keyTx h2 (.ref y.1)) (keyTx h2 (.ref x.1)) = _
    rw [show keyTx ({ s with heap := h2, toks := tk } : Shared).heap (.ref y.1) = y.2.1 from (etx y hy).tx, show keyTx ({ s with heap := h2, toks := tk } : Shared).heap (.ref x.1) = x.2.1 from (etx x hx).tx]
    exact rk_lt (List.mem_map.mpr ⟨y, hy, rfl⟩)
  · obtain ⟨zs, pz, pw, ez⟩ := ent_out (h := h2) etx h1 h3 h4
    show EP X pins σ Q (.ref h'.objs.size) { s with heap := sortedHeap h2 h'.objs.size (ts.map fun y => Value.ref y.1) out, toks := tk }
    have kF : ∀ b o, b ≠ h'.objs.size → h2.get? b = some o → (sortedHeap h2 h'.objs.size (ts.map fun y => Value.ref y.1) out).get? b = some o := fun b o hb e => (PyProof.Rows.sortedHeap_old hb (Heap.lt_size e)).trans e
    have kS : ∀ b o, s.heap.get? b = some o → (sortedHeap h2 h'.objs.size (ts.map fun y => Value.ref y.1) out).get? b = some o := fun b o e => kF b o (ne0 _ _ (hk b o e)) (kb b o e)
    obtain ⟨eF, heF⟩ := PyProof.Rows.sortedHeap_at (vs := ts.map fun y => Value.ref y.1) (out := out) hob
    have I1 : Inv X pins σ H { s with heap := sortedHeap h2 h'.objs.size (ts.map fun y => Value.ref y.1) out, toks := tk } := I.kept (t' := tk) kS
    have hn0 : H h'.objs.size = none := I.hok.fresh (Nat.le_of_lt hlt)
    have hlen : (zs.map fun z => V.ref z.1).length ≤ sizeLine := by rw [List.length_map, pz.length_eq, lts, sizeLine_eq]; omega
    have rv : Vals (zs.map fun z => V.ref z.1) out.toList := by
      rw [ez]
      exact vals_maps (fun z : Ent => V.ref z.1) (fun z => Value.ref z.1) zs fun _ _ => rfl
    have okL : ObjOk X.prog X.w (upd H h'.objs.size (.lst (zs.map fun z => V.ref z.1))) (sortedHeap h2 h'.objs.size (ts.map fun y => Value.ref y.1) out) h'.objs.size (.lst (zs.map fun z => V.ref z.1)) := ⟨hlen, out.toList, eF, rv, heF⟩
    have fpk := I.fpOk (Nat.le_of_lt hlt) hn0
    generalize hFF : sortedHeap h2 h'.objs.size (ts.map fun y => Value.ref y.1) out = hF at I1 okL kF kS ⊢
    have I2 : Inv X pins σ (upd H h'.objs.size (.lst (zs.map fun z => V.ref z.1))) { s with heap := hF, toks := tk } := I1.take (h' := hF) (t' := tk) (fun b ob _ e => e) fpk okL
    obtain ⟨H2, I3, g, qt⟩ := DX.takeT (P := fun b vs => ∃ (j : Nat) (e : Str × V), as[j]? = some b ∧ ks[j]? = some e ∧ vs = [.str e.1, e.2]) I as _ I2 nd fun b hb => by
      obtain ⟨j, hj⟩ := List.mem_iff_getElem?.mp hb
      obtain ⟨e, t, u, he, hr, hg⟩ := pr j b hj
      have hbl : s.heap.objs.size ≤ b := Nat.le_of_lt (hG.above b hb)
      refine ⟨hbl, ?_, [.str e.1, e.2], ⟨j, e, hj, he, rfl⟩, fun H3 => ⟨(by rw [sizeLine_eq]; show 2 ≤ 16777216; omega), [Value.str e.1 t, u], .cons ⟨t, rfl⟩ (.cons hr .nil), ⟨_, kF _ _ (ne0 _ _ hg) (ka _ _ hg), rfl, 0, rfl⟩⟩⟩
      rw [upd_ne (ne0 _ _ hg)]
      exact I.hok.fresh hbl
    have gr : ∀ b o, H b = some o → H2 b = some o := fun b o e => g b o (by rw [upd_ne (ne_of_none e hn0)]; exact e)
    have back : ∀ z ∈ zs, ∃ j : Nat, ∃ v : V, as[j]? = some z.1 ∧ ks[j]? = some (z.2.1, v) ∧ z.2.2 = [v] := fun z hz => by
      have hz' := pz.mem_iff.mp hz
      rw [← hts] at hz'
      obtain ⟨y, hy, rfl⟩ := List.mem_map.mp hz'
      obtain ⟨j, j1, j2⟩ := zat y hy
      exact ⟨j, y.2.2, j1, j2, rfl⟩
    refine ⟨.ref h'.objs.size, H2, I3, rfl, q H2 h'.objs.size (zs.map fun z => (z.1, z.2.1, z.2.2.headD .non)) gr ?_ ?_ ?_ fun z hz => ?_⟩
    · have e1 := (pz.map (fun z : Ent => (z.2.1, z.2.2.headD .non)))
      rw [List.map_map]
      refine e1.trans ?_
      rw [← hts, List.map_map, show (as.zip ks).map ((fun z : Ent => (z.2.1, z.2.2.headD V.non)) ∘ fun y : Addr × Str × V => ((y.1, y.2.1, [y.2.2]) : Ent)) = (as.zip ks).map (·.2) from rfl, List.map_snd_zip (by rw [lak]; exact Nat.le_refl _)]
    · rw [List.pairwise_map]
      exact pw
    · rw [List.map_map]
      exact g _ _ upd_same
    · obtain ⟨z0, hz0, rfl⟩ := List.mem_map.mp hz
      obtain ⟨i, v, i1, i2, i3⟩ := back z0 hz0
      obtain ⟨vs, ⟨j, e, j1, j2, ev⟩, hH⟩ := qt z0.1 (List.mem_of_getElem? i1)
      have eij : i = j := (List.getElem?_inj (List.getElem?_eq_some_iff.mp i1).1 nd).mp (i1.trans j1.symm)
      subst eij
      rw [i2] at j2
      cases j2
      rw [ev] at hH
      show H2 z0.1 = some (.tup [.str z0.2.1, z0.2.2.headD .non])
      rw [i3]
      exact hH
end
end QSo

set_option Elab.async false
set_option linter.all false
set_option maxRecDepth 100000
set_option maxHeartbeats 1000000
/-! QIt: iterables by worlds; comprehensions and loops over any of them; dicts held while they are walked. -/
namespace QW
open PySem PySem.Spec PyProof.Rows L2 QR

/-- n turns; at turn i a value with Y i, from any later heap -/
structure Its (w0 w : Wd) (n : Nat) (Y : Nat → Pr) (J : It) (F H : Hp) : Prop where
  goes : ∀ i G H', i < n → Gw w F H G H' → J.go i H'
  stops : ∀ G H', Gw w F H G H' → J.stop n H'
  yields : ∀ i G H' x H'', i < n → Gw w F H G H' → J.yld i H' x H'' → ∃ G'', Gw w0 G H' G'' H'' ∧ Y i x G''
def EvI (w : Wd) (n : Nat) (Y : Nat → Pr) (wi : TI) (σ : L2.St) (F H : Hp) : Prop := ∀ F1 H1, Gw w F H F1 H1 → ∀ R : It → Hp → Prop, (∀ J F2 H2, Gw w F1 H1 F2 H2 → Its w w n Y J F2 H2 → R J H2) → wi σ H1 R
section
variable {K : PySem.W.Frag} {w : Wd} {σ : L2.St} {F H F1 H1 F2 H2 : Hp} {ta tb te tl : TE} {tt : TT} {v : V} {R S T : Pr} {Rs Ss : List Pr} {tas : TA} {D : Ends} {u : TS} {n : Nat} {Y : Nat → Pr} {wi : TI} {g : TG} {vs : List Nat} {j : Nat} {tb : TS}
/-- a list -/
theorem ei_list (o : Ok w F H) (m : ∀ R ∈ Rs, Mo R) (h : EvW w (Li Rs) tl σ F H) : EvI w Rs.length (fun i x F => ∃ R, Rs[i]? = some R ∧ R x F) (iList K tl) σ F H := fun F1 H1 a Q q =>
  h F1 H1 a _ fun v F2 H2 b hv => by
    obtain ⟨l, xs, rfl, hx, al⟩ := hv
    have o2 := b.ok (a.ok o)
    refine ⟨l, rfl, ⟨xs, .of (o2.s _ _ hx)⟩, q _ F2 H2 b ?_⟩
    have hS : ∀ G H', Gw w F2 H2 G H' → SqL K H' l xs := fun G H' g => .of (g.g.fh _ _ (g.g.ff _ _ hx))
    have wk := walk_list (K := K) (a := l) (xs := xs)
    have hl := al.length
    refine ⟨fun i G H' hi g => wk.goes i H' (by omega) (hS G H' g), fun G H' g => by rw [← hl]; exact wk.stops H' (hS G H' g), fun i G H' x H'' hi g y => ?_⟩
    obtain ⟨rfl, hx'⟩ := wk.yields i H' x H'' (by omega) (hS G H' g) y
    obtain ⟨R, e, r⟩ := al.get hx'
    exact ⟨G, (g.ok o2).refl, R, e, m R (List.mem_of_getElem? e) _ _ _ g.g.ff r⟩
/-- a tuple -/
theorem ei_tup (o : Ok w F H) (m : ∀ R ∈ Rs, Mo R) (h : EvW w (Tu Rs) tl σ F H) : EvI w Rs.length (fun i x F => ∃ R, Rs[i]? = some R ∧ R x F) (iTup K tl) σ F H := fun F1 H1 a Q q =>
  h F1 H1 a _ fun v F2 H2 b hv => by
    obtain ⟨l, xs, rfl, hx, al⟩ := hv
    have o2 := b.ok (a.ok o)
    refine ⟨l, rfl, ⟨xs, .of (o2.s _ _ hx)⟩, q _ F2 H2 b ?_⟩
    have hS : ∀ G H', Gw w F2 H2 G H' → SqT K H' l xs := fun G H' g => .of (g.g.fh _ _ (g.g.ff _ _ hx))
    have wk := walk_tup (K := K) (a := l) (xs := xs)
    have hl := al.length
    refine ⟨fun i G H' hi g => wk.goes i H' (by omega) (hS G H' g), fun G H' g => by rw [← hl]; exact wk.stops H' (hS G H' g), fun i G H' x H'' hi g y => ?_⟩
    obtain ⟨rfl, hx'⟩ := wk.yields i H' x H'' (by omega) (hS G H' g) y
    obtain ⟨R, e, r⟩ := al.get hx'
    exact ⟨G, (g.ok o2).refl, R, e, m R (List.mem_of_getElem? e) _ _ _ g.g.ff r⟩
/-- a text -/
theorem ei_str {z : Str} (o : Ok w F H) (h : EvW w (Is (.str z)) te σ F H) : EvI w z.cps.size (fun i x F => ∃ c, z.cps[i]? = some c ∧ x = .str ⟨#[c]⟩) (iStr te) σ F H := fun F1 H1 a Q q =>
  h F1 H1 a _ fun v F2 H2 b hv => by
    obtain rfl : v = .str z := hv
    have o2 := b.ok (a.ok o)
    have wk := walk_str (z := z)
    refine ⟨z, rfl, q _ F2 H2 b ⟨fun i G H' hi g => wk.goes i H' hi trivial, fun G H' g => wk.stops H' trivial, fun i G H' x H'' hi g y => ?_⟩⟩
    obtain ⟨rfl, hx'⟩ := wk.yields i H' x H'' hi trivial y
    exact ⟨G, (g.ok o2).refl, hx'⟩
/-- range(n) -/
theorem ei_range {n : Int} (o : Ok w F H) (h0 : 0 ≤ n) (hz : n < 2 ^ 62) (h : EvA w [Is (.int n)] tas σ F H) : EvI w n.toNat (fun i x F => x = .int (i : Nat)) (iRng1 tas) σ F H := fun F1 H1 a Q q =>
  h F1 H1 a _ fun vs F2 H2 b al => by
    obtain rfl := Al.is (f := fun v : V => v) (xs := [.int n]) al
    have o2 := b.ok (a.ok o)
    have wk := walk_range (lo := 0) (n := n.toNat)
    refine ⟨n, rfl, by omega, hz, q _ F2 H2 b ⟨fun i G H' hi g => wk.goes i H' hi trivial, fun G H' g => wk.stops H' trivial, fun i G H' x H'' hi g y => ?_⟩⟩
    obtain ⟨rfl, hx'⟩ := wk.yields i H' x H'' hi trivial y
    exact ⟨G, (g.ok o2).refl, hx'.trans (congrArg V.int (Int.zero_add _))⟩
/-! ### comprehensions -/
theorem lc_any {Q : VK} {J : It} (o : Ok w F H) (hJ : Its w w n Y J F H) (Iv : Nat → List V → Hp → Prop) (mono : ∀ i ys F F', Same F F' → Iv i ys F → Iv i ys F') (h0 : Iv 0 [] F) (hn : n ≤ 100000)
    (hs : ∀ i x ys G H', i < n → Y i x G → Gw w F H G H' → Iv i ys G → ∀ (Qy : VK) (Qn : Hp → Prop), (∀ y G' H'', Gw w G H' G' H'' → Iv (i + 1) (ys ++ [y]) G' → Qy y H'') → (∀ G' H'', Gw w G H' G' H'' → Iv (i + 1) ys G' → Qn H'') →
      g x (wipe σ vs) H' fun σ2 H2 => wipe σ2 vs = wipe σ vs ∧ tt σ2 H2 fun b H3 => if b = true then te σ2 H3 Qy else Qn H3)
    (q : ∀ D ys G H', H D = none → Gw w F H G H' → G D = some (.lst ys) → Iv n ys G → Q (.ref D) H') (D : Addr) (hD : H D = none) :
    ∃ W : Nat → Nat → Hp → Prop, (∃ m, W 0 m (upd H D (.lst []))) ∧ ∀ i m H, W i m H →
      (J.stop i H ∧ Q (.ref D) H) ∨ (J.go i H ∧ ∃ Nx : Hp → Prop, (∀ H', Nx H' → ∃ m', m' < m ∧ W (i + 1) m' H') ∧ ∀ x H', J.yld i H x H' → g x (wipe σ vs) H' fun σ2 H2 => wipe σ2 vs = wipe σ vs ∧ tt σ2 H2 fun b H3 =>
        if b = true then te σ2 H3 fun y H4 => ∃ acc, H4 D = some (.lst acc) ∧ acc.length < sizeLine ∧ Nx (upd H4 D (.lst (acc ++ [y]))) else Nx H3) := by
  have nm : D ∉ w.M := fun z => w.tr H o.j D z hD
  let Pv : Nat → Hp → Prop := fun i H' => ∃ G ys, Gw w F H G H' ∧ G D = none ∧ H' D = some (.lst ys) ∧ Iv i ys G ∧ ys.length ≤ i
  have wk : Walk J n (fun H' => ∃ G, Gw w F H G H') (fun i H' x H'' => i < n ∧ J.yld i H' x H'') := ⟨fun i H' hi ⟨G, g⟩ => hJ.goes i G H' hi g, fun H' ⟨G, g⟩ => hJ.stops G H' g, fun i H' x H'' hi ⟨G, g⟩ y => ⟨hi, y⟩⟩
  refine lc_it (D := D) (Qd := fun H' => Q (.ref D) H') wk Pv ⟨F, [], o.refl.temp hD, same_none o.s hD, upd_same, h0, Nat.le_refl _⟩ (fun i H' _ ⟨G, _, g, _⟩ => ⟨G, g⟩) (fun i x H' H'' hi p y => ?_) fun H' p => ?_
  · obtain ⟨G0, ys, g0, gD0, hD0, iv0, hl⟩ := p
    obtain ⟨G, g1, hy⟩ := hJ.yields i G0 H' x H'' hi g0 y.2
    have o0 := g0.ok o
    have g := g0.trans o g1
    have gD : G D = none := g1.g.nw D gD0 (by rw [hD0]; exact nofun)
    have hD' : H'' D = some (.lst ys) := g1.g.hh D _ nm hD0
    have iv := mono _ _ _ _ g1.g.ff iv0
    have o' := g.ok o
    have key : ∀ {G' H3}, Gw w G H'' G' H3 → G' D = none ∧ H3 D = some (.lst ys) := fun {G' H3} g' => ⟨g'.g.nw D gD (by rw [hD']; exact nofun), g'.g.hh D _ nm hD'⟩
    refine hs i x ys G H'' hi hy g iv _ _ (fun y G' H3 g' iv' => ?_) fun G' H3 g' iv' => ?_
    · obtain ⟨e1, e2⟩ := key g'
      have g2 := g.trans o g'
      refine ⟨ys, e2, Evl.sz_lt (by omega), G', ys ++ [y], ⟨g2.g.mut (.inl hD) e1, ?_⟩, e1, upd_same, iv', by rw [List.length_append]; simp; omega⟩
      exact w.st _ _ g2.j fun m u hm e => by
        have ne : m ≠ D := fun z => by
          subst z
          exact nm hm
        rw [upd_ne ne]
        exact e
    · obtain ⟨e1, e2⟩ := key g'
      exact ⟨G', ys, g.trans o g', e1, e2, iv', by omega⟩
  · obtain ⟨G, ys, g, gD, hD', iv, hl⟩ := p
    exact q D ys _ H' hD ⟨g.g.keep hD gD hD', g.j⟩ upd_same (mono _ _ _ _ (same_upd gD) iv)
/-- a comprehension over anything -/
theorem ev_lcI (o : Ok w F H) (hi : EvI w n Y wi σ F H) (hn : n ≤ 100000) (Iv : Nat → List V → Hp → Prop) (mono : ∀ i ys F F', Same F F' → Iv i ys F → Iv i ys F') (h0 : ∀ F', Same F F' → Iv 0 [] F')
    (hs : ∀ i x ys G H', i < n → Y i x G → Gw w F H G H' → Iv i ys G → ∀ (Qy : VK) (Qn : Hp → Prop), (∀ y G' H'', Gw w G H' G' H'' → Iv (i + 1) (ys ++ [y]) G' → Qy y H'') → (∀ G' H'', Gw w G H' G' H'' → Iv (i + 1) ys G' → Qn H'') →
      g x (wipe σ vs) H' fun σ2 H2 => wipe σ2 vs = wipe σ vs ∧ tt σ2 H2 fun b H3 => if b = true then te σ2 H3 Qy else Qn H3)
    (hr : ∀ ys G, Iv n ys G → ∀ D, G D = some (.lst ys) → R (.ref D) G) : EvW w R (tLc wi g tt te vs) σ F H := fun F1 H1 a Q q =>
  hi F1 H1 a _ fun J F2 H2 b hJ D hD => by
    have o2 := b.ok (a.ok o)
    have a2 := a.trans o b
    exact lc_any (te := te) (tt := tt) (g := g) (vs := vs) (σ := σ) (Q := Q) o2 hJ Iv mono (h0 F2 a2.g.ff) hn (fun i x ys G H' hi hy g iv Qy Qn k1 k2 => hs i x ys G H' hi hy (a2.trans o g) iv Qy Qn k1 k2)
      (fun D ys G H' hD' g e iv => q _ G H' (b.trans (a.ok o) g) (hr ys G iv D e)) D hD
/-- a loop over anything -/
theorem q_forI (o : Ok w F H) (hi : EvI w n Y wi σ F H) (Iv : Nat → L2.St → Hp → Hp → Prop) (h0 : ∀ F' H', Gw w F H F' H' → Iv 0 σ F' H')
    (hs : ∀ i x σ' G0 H0 G H' (N : L2.St → Hp → Prop), i < n → Gw w F H G0 H0 → Iv i σ' G0 H0 → Gw w G0 H0 G H' → Y i x G → (∀ σ'' G' H'', Gw w G H' G' H'' → Iv (i + 1) σ'' G' H'' → N σ'' H'') →
      g x σ' H' fun σ2 H2 => tb { D with nx := N, ct := N, bk := u D } σ2 H2)
    (k : ∀ σ' G H', Gw w F H G H' → Iv n σ' G H' → u D σ' H') : tSeq (tFor wi g tb) u D σ H :=
  hi F H o.refl _ fun J F2 H2 b hJ => by
    have o2 := b.ok o
    have wk : Walk J n (fun H' => ∃ G, Gw w F2 H2 G H') (fun i H' x H'' => J.yld i H' x H'') := ⟨fun i H' hi ⟨G, g⟩ => hJ.goes i G H' hi g, fun H' ⟨G, g⟩ => hJ.stops G H' g, fun i H' x H'' hi ⟨G, g⟩ y => y⟩
    refine for_it (D := { D with nx := u D }) wk (fun i σ' H' => ∃ G, Gw w F2 H2 G H' ∧ Iv i σ' G H') ⟨F2, o2.refl, h0 F2 H2 b⟩ (fun i σ' H' _ ⟨G, g, _⟩ => ⟨G, g⟩) (fun i x σ' H' H'' hi p y => ?_) fun σ' H' p => ?_
    · obtain ⟨G0, g0, iv⟩ := p
      obtain ⟨G, g1, hy⟩ := hJ.yields i G0 H' x H'' hi g0 y
      exact hs i x σ' G0 H' G H'' _ hi (b.trans o g0) iv g1 hy fun σ'' G' H3 g' iv' => ⟨G', (g0.trans o2 g1).trans o2 g', iv'⟩
    · obtain ⟨G, g, iv⟩ := p
      exact k σ' G H' (b.trans o g) iv
end

/-! ### worlds within worlds -/
def Wd.add (w : Wd) (a : Addr) (P : HO → Prop) : Wd := ⟨a :: w.M, fun H => w.J H ∧ ∃ o, H a = some o ∧ P o, fun H H' ⟨j, o, e, p⟩ k => ⟨w.st H H' j fun m u hm q => k m u (List.mem_cons_of_mem _ hm) q, o, k a o List.mem_cons_self e, p⟩,
  fun H ⟨j, o, e, p⟩ m hm => by
    rcases List.mem_cons.mp hm with rfl | hm
    · rw [e]; exact nofun
    · exact w.tr H j m hm⟩
structure Sub (w w' : Wd) : Prop where
  ok : ∀ F H, Ok w' F H → Ok w F H
  gw : ∀ F H F' H', Ok w' F H → Gw w F H F' H' → Gw w' F H F' H'
theorem Sub.refl (w : Wd) : Sub w w := ⟨fun _ _ o => o, fun _ _ _ _ _ g => g⟩
theorem Sub.trans {w w1 w2 : Wd} (a : Sub w w1) (b : Sub w1 w2) : Sub w w2 := ⟨fun F H o => a.ok F H (b.ok F H o), fun F H F' H' o g => b.gw F H F' H' o (a.gw F H F' H' (b.ok F H o) g)⟩
theorem Sub.zero (w : Wd) : Sub W0 w := ⟨fun F H o => ⟨o.s, True.intro, fun _ z => nomatch z⟩, fun F H F' H' o g => g.of0 o⟩
theorem Sub.add {w : Wd} {a : Addr} {P : HO → Prop} (n : a ∉ w.M) : Sub w (w.add a P) :=
  ⟨fun F H o => ⟨o.s, o.j.1, fun m hm => o.m m (List.mem_cons_of_mem _ hm)⟩, fun F H F' H' o g => ⟨⟨g.g.ff, g.g.fh, fun b u hb e => g.g.hh b u (fun z => hb (List.mem_cons_of_mem _ z)) e, g.g.nw⟩, g.j, by
    obtain ⟨u, e, p⟩ := o.j.2
    exact ⟨u, g.g.hh a u n e, p⟩⟩⟩
section
variable {w w' : Wd} {F H F1 H1 F2 H2 : Hp} {a : Addr} {P : HO → Prop} {u : HO} {R : Pr} {σ : L2.St} {te : TE} {tas : TA}
/-- a local thing that may change -/
theorem Ok.add (o : Ok w F H) (n : F a = none) (e : H a = some u) (p : P u) : Ok (w.add a P) F H := ⟨o.s, ⟨o.j, u, e, p⟩, fun m hm => (List.mem_cons.mp hm).elim (fun z => by rw [z]; exact n) (o.m m)⟩
theorem Gw.sub (s : Sub w w') (o : Ok w' F H) (g : Gw w F H F1 H1) : Gw w' F H F1 H1 := s.gw _ _ _ _ o g
/-- it changes -/
theorem Gw.mutA (g : Gw (w.add a P) F H F1 H1) (n : a ∉ w.M) (k : F1 a = none) (p : P u) : Gw (w.add a P) F H F1 (upd H1 a u) := ⟨g.g.mut (.inr List.mem_cons_self) k, w.st _ _ g.j.1 (fun m x hm e => by
  rw [upd_ne (fun z => n (by rw [← z]; exact hm))]
  exact e), u, upd_same, p⟩
/-- it is left behind: it was not there at first -/
theorem Gw.dropA (o : Ok w F H) (g : Gw w F H F1 H1) (n : H a = none) (g2 : Gw (w.add a P) F1 H1 F2 H2) : Gw w F H F2 H2 :=
  ⟨⟨g.g.ff.trans g2.g.ff, g2.g.fh, fun b x hb e => g2.g.hh b x (fun z => by
    rcases List.mem_cons.mp z with rfl | z
    · rw [n] at e; cases e
    · exact hb z) (g.g.hh b x hb e), fun b e1 e2 => by
    by_cases hb : b ∈ w.M
    · have m1 := (g.ok o).m b hb
      exact g2.g.nw b m1 (w.tr H1 g.j b hb)
    · refine g2.g.nw b (g.g.nw b e1 e2) fun z => ?_
      cases q : H b with
      | none => exact e2 q
      | some x => rw [g.g.hh b x hb q] at z; cases z⟩, g2.j.1⟩
/-- what was known for a while only -/
theorem Gw.forget {F' : Hp} (o : Ok w F H) (s : Same F F') (g : Gw w F' H F1 H1) : Gw w F H F H1 := ⟨⟨Same.refl F, fun b u e => g.g.fh b u (g.g.ff b u (s b u e)), g.g.hh, fun b e _ => e⟩, g.j⟩
/-- a call in a smaller world -/
theorem ev_callS {α : Type} {wf : α → Wd} {A : α → List Pr} {Rf : α → Pr} {E : XK} (a : α) (s : Sub (wf a) w) (o : Ok w F H) (h : EvA w (A a) tas σ F H) : EvW w (Rf a) (tCall (spW wf A Rf) [] E tas) σ F H := fun F1 H1 g Q q =>
  h F1 H1 g _ fun vs F2 H2 b rs => by
    have o2 := b.ok (g.ok o)
    exact ⟨a, F2, s.ok _ _ o2, by rw [List.append_nil]; exact rs, fun v F3 H3 c rv => q v F3 H3 (b.trans (g.ok o) (s.gw _ _ _ _ o2 c)) rv⟩
/-- an expression in a smaller world -/
theorem ev_sub (s : Sub w w') (o : Ok w' F H) (h : ∀ F1 H1, Gw w' F H F1 H1 → EvW w R te σ F1 H1) : EvW w' R te σ F H := fun F1 H1 g Q q => by
  have o1 := g.ok o
  exact h F1 H1 g F1 H1 (s.ok _ _ o1).refl Q fun v F2 H2 c r => q v F2 H2 (s.gw _ _ _ _ o1 c) r

/-! ### a dict held while it is walked -/
theorem ev_lock {d : Addr} {t : TE} (o : Ok w F H) (hF : F d = some u) (mu : Mut (some u)) (mR : Mo R)
    (h : ∀ F1 H1 od, Gw w F H F1 H1 → Ok w (del F1 d) (upd H1 d (.frz od u)) → EvW w R t σ (del F1 d) (upd H1 d (.frz od u))) : EvW w R (tLockE t) σ F H := fun F1 H1 g Q q => by
  have o1 := g.ok o
  have f1 : F1 d = some u := g.g.ff d u hF
  have h1 : H1 d = some u := o1.s d u f1
  have nm : d ∉ w.M := fun z => by rw [o1.m d z] at f1; cases f1
  refine ⟨d, u, h1, mu, fun od => ?_⟩
  have ok2 : Ok w (del F1 d) (upd H1 d (.frz od u)) := by
    refine ⟨fun b x e => ?_, w.st _ _ o1.j fun m x hm e => ?_, fun m hm => ?_⟩
    · by_cases hb : b = d
      · rw [hb, del_same] at e; cases e
      · rw [del_ne hb] at e
        rw [upd_ne hb]
        exact o1.s b x e
    · rw [upd_ne (fun z => nm (by rw [← z]; exact hm))]
      exact e
    · have hb : m ≠ d := fun z => nm (by rw [← z]; exact hm)
      rw [del_ne hb]
      exact o1.m m hm
  refine h F1 H1 od g ok2 _ _ ok2.refl _ fun v F2 H2 c r => ?_
  have e2 : H2 d = some (.frz od u) := c.g.hh d _ nm upd_same
  have n2 : F2 d = none := c.g.nw d del_same (by rw [upd_same]; exact nofun)
  refine ⟨e2, q v (upd F2 d u) (upd H2 d u) ⟨⟨fun b x e => ?_, fun b x e => ?_, fun b x hb e => ?_, fun b e1 ne => ?_⟩, w.st _ _ c.j fun m x hm e => ?_⟩ (mR _ _ _ (same_upd n2) r)⟩
  · by_cases hb : b = d
    · rw [hb] at e ⊢
      rw [f1] at e
      rw [upd_same]
      exact e
    · rw [upd_ne hb]
      exact c.g.ff b x (by rw [del_ne hb]; exact e)
  · by_cases hb : b = d
    · rw [hb] at e ⊢
      rw [upd_same] at e ⊢
      exact e
    · rw [upd_ne hb] at e ⊢
      exact c.g.fh b x e
  · by_cases hbd : b = d
    · rw [hbd] at e ⊢
      rw [h1] at e
      rw [upd_same]
      exact e
    · rw [upd_ne hbd]
      exact c.g.hh b x hb (by rw [upd_ne hbd]; exact e)
  · have hbd : b ≠ d := fun z => by rw [z, f1] at e1; cases e1
    rw [upd_ne hbd]
    exact c.g.nw b (by rw [del_ne hbd]; exact e1) (by rw [upd_ne hbd]; exact ne)
  · rw [upd_ne (fun z => nm (by rw [← z]; exact hm))]
    exact e
end

/-! ### comprehensions whose elements change local things -/
section
variable {K : PySem.W.Frag} {w : Wd} {σ : L2.St} {F H F1 H1 F2 H2 : Hp} {ta te tl : TE} {tt : TT} {v : V} {R S T : Pr} {Rs Ss : List Pr} {tas : TA} {D : Ends} {u : TS} {n : Nat} {Y : Nat → Pr} {wi : TI} {g : TG} {vs : List Nat} {j : Nat} {tb : TS}
theorem lc_anyH {w0 : Wd} {Q : VK} {J : It} (s : Sub w0 w) (o : Ok w F H) (hJ : Its w0 w n Y J F H) (Iv : Nat → List V → Hp → Hp → Prop) (mono : ∀ i ys F F' H', Same F F' → Iv i ys F H' → (∀ m, F m = none → H m ≠ none → F' m = none) → Iv i ys F' H') (hup : ∀ i ys G H' D u, H D = none → Iv i ys G H' → Iv i ys G (upd H' D u)) (h0 : Iv 0 [] F H) (hn : n ≤ 100000)
    (hs : ∀ i x ys G0 H0 G H', i < n → Gw w F H G0 H0 → Iv i ys G0 H0 → Gw w0 G0 H0 G H' → Y i x G → ∀ (Qy : VK) (Qn : Hp → Prop), (∀ y G' H'', Gw w G H' G' H'' → Iv (i + 1) (ys ++ [y]) G' H'' → Qy y H'') → (∀ G' H'', Gw w G H' G' H'' → Iv (i + 1) ys G' H'' → Qn H'') →
      g x (wipe σ vs) H' fun σ2 H2 => wipe σ2 vs = wipe σ vs ∧ tt σ2 H2 fun b H3 => if b = true then te σ2 H3 Qy else Qn H3)
    (q : ∀ D ys G H', H D = none → Gw w F H G H' → G D = some (.lst ys) → Iv n ys G H' → Q (.ref D) H') (D : Addr) (hD : H D = none) :
    ∃ W : Nat → Nat → Hp → Prop, (∃ m, W 0 m (upd H D (.lst []))) ∧ ∀ i m H, W i m H →
      (J.stop i H ∧ Q (.ref D) H) ∨ (J.go i H ∧ ∃ Nx : Hp → Prop, (∀ H', Nx H' → ∃ m', m' < m ∧ W (i + 1) m' H') ∧ ∀ x H', J.yld i H x H' → g x (wipe σ vs) H' fun σ2 H2 => wipe σ2 vs = wipe σ vs ∧ tt σ2 H2 fun b H3 =>
        if b = true then te σ2 H3 fun y H4 => ∃ acc, H4 D = some (.lst acc) ∧ acc.length < sizeLine ∧ Nx (upd H4 D (.lst (acc ++ [y]))) else Nx H3) := by
  have nm : D ∉ w.M := fun z => w.tr H o.j D z hD
  let Pv : Nat → Hp → Prop := fun i H' => ∃ G ys, Gw w F H G H' ∧ G D = none ∧ H' D = some (.lst ys) ∧ Iv i ys G H' ∧ ys.length ≤ i
  have wk : Walk J n (fun H' => ∃ G, Gw w F H G H') (fun i H' x H'' => i < n ∧ J.yld i H' x H'') := ⟨fun i H' hi ⟨G, g⟩ => hJ.goes i G H' hi g, fun H' ⟨G, g⟩ => hJ.stops G H' g, fun i H' x H'' hi ⟨G, g⟩ y => ⟨hi, y⟩⟩
  refine lc_it (D := D) (Qd := fun H' => Q (.ref D) H') wk Pv ⟨F, [], o.refl.temp hD, same_none o.s hD, upd_same, hup _ _ _ _ _ _ hD h0, Nat.le_refl _⟩ (fun i H' _ ⟨G, _, g, _⟩ => ⟨G, g⟩) (fun i x H' H'' hi p y => ?_) fun H' p => ?_
  · obtain ⟨G0, ys, g0, gD0, hD0, iv0, hl⟩ := p
    obtain ⟨G, g10, hy⟩ := hJ.yields i G0 H' x H'' hi g0 y.2
    have o0 := g0.ok o
    have g1 := s.gw _ _ _ _ o0 g10
    have g := g0.trans o g1
    have gD : G D = none := g1.g.nw D gD0 (by rw [hD0]; exact nofun)
    have hD' : H'' D = some (.lst ys) := g1.g.hh D _ nm hD0
    have o' := g.ok o
    have key : ∀ {G' H3}, Gw w G H'' G' H3 → G' D = none ∧ H3 D = some (.lst ys) := fun {G' H3} g' => ⟨g'.g.nw D gD (by rw [hD']; exact nofun), g'.g.hh D _ nm hD'⟩
    refine hs i x ys G0 H' G H'' hi g0 iv0 g10 hy _ _ (fun y G' H3 g' iv' => ?_) fun G' H3 g' iv' => ?_
    · obtain ⟨e1, e2⟩ := key g'
      have g2 := g.trans o g'
      refine ⟨ys, e2, Evl.sz_lt (by omega), G', ys ++ [y], ⟨g2.g.mut (.inl hD) e1, ?_⟩, e1, upd_same, hup _ _ _ _ _ _ hD iv', by rw [List.length_append]; simp; omega⟩
      exact w.st _ _ g2.j fun m u hm e => by
        have ne : m ≠ D := fun z => by
          subst z
          exact nm hm
        rw [upd_ne ne]
        exact e
    · obtain ⟨e1, e2⟩ := key g'
      exact ⟨G', ys, g.trans o g', e1, e2, iv', by omega⟩
  · obtain ⟨G, ys, g, gD, hD', iv, hl⟩ := p
    exact q D ys _ H' hD ⟨g.g.keep hD gD hD', g.j⟩ upd_same (mono _ _ _ _ _ (same_upd gD) iv fun m e ne => by rw [upd_ne (fun z => ne (by rw [z]; exact hD))]; exact e)
/-- an iterable that is made in the world w0, walked in the wider world w -/
def EvJ (w0 w : Wd) (n : Nat) (Y : Nat → Pr) (wi : TI) (σ : L2.St) (F H : Hp) : Prop := ∀ R : It → Hp → Prop, (∀ J F2 H2, Gw w0 F H F2 H2 → Its w0 w n Y J F2 H2 → R J H2) → wi σ H R
theorem ej_range {w0 : Wd} {n : Int} (s : Sub w0 w) (o : Ok w F H) (h0 : 0 ≤ n) (hz : n < 2 ^ 62) (h : EvA w0 [Is (.int n)] tas σ F H) : EvJ w0 w n.toNat (fun i x F => x = .int (i : Nat)) (iRng1 tas) σ F H := fun Q q =>
  h F H (s.ok _ _ o).refl _ fun vs F2 H2 b al => by
    obtain rfl := Al.is (f := fun v : V => v) (xs := [.int n]) al
    have o2 := (s.gw _ _ _ _ o b).ok o
    have wk := walk_range (lo := 0) (n := n.toNat)
    refine ⟨n, rfl, by omega, hz, q _ F2 H2 b ⟨fun i G H' hi g => wk.goes i H' hi trivial, fun G H' g => wk.stops H' trivial, fun i G H' x H'' hi g y => ?_⟩⟩
    obtain ⟨rfl, hx'⟩ := wk.yields i H' x H'' hi trivial y
    exact ⟨G, (s.ok _ _ (g.ok o2)).refl, hx'.trans (congrArg V.int (Int.zero_add _))⟩
theorem ej_list {w0 : Wd} (s : Sub w0 w) (o : Ok w F H) (m : ∀ R ∈ Rs, Mo R) (h : EvW w0 (Li Rs) tl σ F H) : EvJ w0 w Rs.length (fun i x F => ∃ R, Rs[i]? = some R ∧ R x F) (iList K tl) σ F H := fun Q q =>
  h F H (s.ok _ _ o).refl _ fun v F2 H2 b hv => by
    obtain ⟨l, xs, rfl, hx, al⟩ := hv
    have o2 := (s.gw _ _ _ _ o b).ok o
    refine ⟨l, rfl, ⟨xs, .of (o2.s _ _ hx)⟩, q _ F2 H2 b ?_⟩
    have hS : ∀ G H', Gw w F2 H2 G H' → SqL K H' l xs := fun G H' g => .of (g.g.fh _ _ (g.g.ff _ _ hx))
    have wk := walk_list (K := K) (a := l) (xs := xs)
    have hl := al.length
    refine ⟨fun i G H' hi g => wk.goes i H' (by omega) (hS G H' g), fun G H' g => by rw [← hl]; exact wk.stops H' (hS G H' g), fun i G H' x H'' hi g y => ?_⟩
    obtain ⟨rfl, hx'⟩ := wk.yields i H' x H'' (by omega) (hS G H' g) y
    obtain ⟨R, e, r⟩ := al.get hx'
    exact ⟨G, (s.ok _ _ (g.ok o2)).refl, R, e, m R (List.mem_of_getElem? e) _ _ _ g.g.ff r⟩
/-- a comprehension over anything, its elements change what is local -/
theorem ev_lcJ {w0 : Wd} (s : Sub w0 w) (o : Ok w F H) (hi : EvJ w0 w n Y wi σ F H) (hn : n ≤ 100000) (Iv : Nat → List V → Hp → Hp → Prop) (mono : ∀ i ys F1 F' H', Same F1 F' → Iv i ys F1 H' → (∀ m, F1 m = none → H m ≠ none → F' m = none) → Iv i ys F' H') (hup : ∀ i ys G H' D u, H D = none → Iv i ys G H' → Iv i ys G (upd H' D u))
    (h0 : ∀ F2 H2, Gw w0 F H F2 H2 → Iv 0 [] F2 H2)
    (hs : ∀ i x ys G0 H0 G H', i < n → Gw w F H G0 H0 → Iv i ys G0 H0 → Gw w0 G0 H0 G H' → Y i x G → ∀ (Qy : VK) (Qn : Hp → Prop), (∀ y G' H'', Gw w G H' G' H'' → Iv (i + 1) (ys ++ [y]) G' H'' → Qy y H'') → (∀ G' H'', Gw w G H' G' H'' → Iv (i + 1) ys G' H'' → Qn H'') →
      g x (wipe σ vs) H' fun σ2 H2 => wipe σ2 vs = wipe σ vs ∧ tt σ2 H2 fun b H3 => if b = true then te σ2 H3 Qy else Qn H3)
    (Q : VK) (q : ∀ D ys G H', Gw w F H G H' → Iv n ys G H' → G D = some (.lst ys) → Q (.ref D) H') : tLc wi g tt te vs σ H Q :=
  hi _ fun J F2 H2 b0 hJ D hD => by
    have b := s.gw _ _ _ _ o b0
    have o2 := b.ok o
    have hne : ∀ m, H m ≠ none → H2 m ≠ none := fun m e z => by
      cases q : H m with
      | none => exact e q
      | some x =>
        by_cases hm : m ∈ w.M
        · exact w.tr H2 b.j m hm z
        · rw [b.g.hh m x hm q] at z; cases z
    exact lc_anyH s (te := te) (tt := tt) (g := g) (vs := vs) (σ := σ) (Q := Q) o2 hJ Iv (fun i ys F F' H' e iv m => mono i ys F F' H' e iv fun x e1 e2 => m x e1 (hne x e2)) (fun i ys G H' D u e iv => hup i ys G H' D u (by
        cases q : H D with
        | none => rfl
        | some x => exact (hne D (by rw [q]; exact nofun) e).elim) iv) (h0 F2 H2 b0) hn
      (fun i x ys G0 H0 G H' hi g0 iv g1 hy Qy Qn k1 k2 => hs i x ys G0 H0 G H' hi (b.trans o g0) iv g1 hy Qy Qn k1 k2) (fun D ys G H' hD' g e iv => q D ys G H' (b.trans o g) iv e) D hD
/-- a loop over anything, its body changes what is local -/
theorem q_forJ {w0 : Wd} (s : Sub w0 w) (o : Ok w F H) (hi : EvJ w0 w n Y wi σ F H) (Iv : Nat → L2.St → Hp → Hp → Prop) (h0 : ∀ F' H', Gw w0 F H F' H' → Iv 0 σ F' H')
    (hs : ∀ i x σ' G0 H0 G H' (N : L2.St → Hp → Prop), i < n → Gw w F H G0 H0 → Iv i σ' G0 H0 → Gw w0 G0 H0 G H' → Y i x G → (∀ σ'' G' H'', Gw w G H' G' H'' → Iv (i + 1) σ'' G' H'' → N σ'' H'') →
      g x σ' H' fun σ2 H2 => tb { D with nx := N, ct := N, bk := u D } σ2 H2)
    (k : ∀ σ' G H', Gw w F H G H' → Iv n σ' G H' → u D σ' H') : tSeq (tFor wi g tb) u D σ H :=
  hi _ fun J F2 H2 b0 hJ => by
    have b := s.gw _ _ _ _ o b0
    have o2 := b.ok o
    have wk : Walk J n (fun H' => ∃ G, Gw w F2 H2 G H') (fun i H' x H'' => J.yld i H' x H'') := ⟨fun i H' hi ⟨G, g⟩ => hJ.goes i G H' hi g, fun H' ⟨G, g⟩ => hJ.stops G H' g, fun i H' x H'' hi ⟨G, g⟩ y => y⟩
    refine for_it (D := { D with nx := u D }) wk (fun i σ' H' => ∃ G, Gw w F2 H2 G H' ∧ Iv i σ' G H') ⟨F2, o2.refl, h0 F2 H2 b0⟩ (fun i σ' H' _ ⟨G, g, _⟩ => ⟨G, g⟩) (fun i x σ' H' H'' hi p y => ?_) fun σ' H' p => ?_
    · obtain ⟨G0, g0, iv⟩ := p
      obtain ⟨G, g1, hy⟩ := hJ.yields i G0 H' x H'' hi g0 y
      exact hs i x σ' G0 H' G H'' _ hi (b.trans o g0) iv g1 hy fun σ'' G' H3 g' iv' => ⟨G', (g0.trans o2 (s.gw _ _ _ _ (g0.ok o2) g1)).trans o2 g', iv'⟩
    · obtain ⟨G, g, iv⟩ := p
      exact k σ' G H' (b.trans o g) iv
end
end QW

set_option Elab.async false
set_option linter.all false
set_option maxRecDepth 100000
set_option maxHeartbeats 1000000
/-! QN: names: what is_name answers of any datum. -/
namespace QK
open PySem PySem.Spec PyProof.Rows L2
section
variable {X : Cx} {K : PySem.W.Frag} {x : Str} {pos : Pos} {i : Int} {z : Str}
theorem pe_gint (h : ∃ u, X.mg x = some (.int i u)) (hg : Gl X x) (hd : (x == ("__debug__" : Str)) = false := by decide) : PE X (.Name x pos) (tC (.int i)) := by
  obtain ⟨u, e⟩ := h
  exact pe_glob (v := .int i) hg e ⟨u, rfl⟩ hd
theorem pe_gstr (h : ∃ u, X.mg x = some (.str z u)) (hg : Gl X x) (hd : (x == ("__debug__" : Str)) = false := by decide) : PE X (.Name x pos) (tC (.str z)) := by
  obtain ⟨u, e⟩ := h
  exact pe_glob (v := .str z) hg e ⟨u, rfl⟩ hd
theorem call_isi (hK : X.K = K) : CallR X (.builtin "isinstance") (rIsi K) := by subst hK; exact L2.call_isi
theorem call_isiT (hK : X.K = K) : CallR X (.builtin "isinstance") (rIsiT K) := by subst hK; exact L2.call_isiT
end
end QK
namespace QW
open PySem PySem.Spec PyProof.Rows L2 QR
abbrev iLenS : List V → Hp → VK → Prop := fun xs H Q => ∃ z : Str, xs = [.str z] ∧ z.length ≤ sizeLine ∧ Q (.int z.length) H
abbrev oLe : R2 := rI0 fun i j => .bl (decide (i ≤ j))
def tyD : PyData → String
  | .none => "NoneType"
  | .bool _ => "bool"
  | .int _ => "int"
  | .str _ => "str"
  | .list _ => "list"
  | .tuple _ => "tuple"
  | .dict _ => "dict"
section
variable {K : PySem.W.Frag} {w : Wd} {σ : L2.St} {F H : Hp} {ta tb tc : TE} {v : V} {d : PyData}
theorem Dv.ty {H : Hp} (h : Dv K H v d) : TyX K H v (.type (tyD d)) := by
  cases h with
  | non => exact .base .non
  | bl b => exact .base (.bl b)
  | int i => exact .base (.int i)
  | str x => exact .base (.str x)
  | lst h _ =>
    rcases h with (h | ⟨o, h⟩) | ⟨o, its, n, hk, hc, _⟩
    · exact .base (.lst h)
    · exact .base (.frz h)
    · exact .kList hk hc
  | tup h _ =>
    rcases h with (h | ⟨o, h⟩) | ⟨o, its, n, hk, hc, _⟩
    · exact .base (.tup h)
    · exact .fTuple h
    · exact .kTuple hk hc
  | dic h _ => exact .base (.dK h)
theorem ca_isiD {T : String} {b : Bool} (e : PySem.W.kitOne K (.type (tyD d)) (.type T) = some b) : CaW w (rIsi K) [Da K d, Is (.ty T)] (Is (.bl b)) := by
  intro vs F H o al Q q
  cases al with
  | cons h r =>
    cases r with
    | @cons _ _ y _ _ h2 r =>
      cases r
      obtain rfl : y = .ty T := h2
      exact ⟨_, _, _, _, b, rfl, .ty T, QW.Dv.ty (QR.Dv.mono o.s h), e, q _ F H o.refl rfl⟩
def isStr : PyData → Bool
  | .str _ => true
  | _ => false
theorem kit_str : ∀ d : PyData, PySem.W.kitOne K (.type (tyD d)) (.type "str") = some (isStr d)
  | .none => rfl
  | .bool _ => rfl
  | .int _ => rfl
  | .str _ => rfl
  | .list _ => rfl
  | .tuple _ => rfl
  | .dict _ => rfl
/-- a chain of two comparisons of ints -/
theorem et_chain {r r' : R2} {f f' : Int → Int → Bool} {i j l : Int} (hr : ∀ i j, OpW w r (Is (.int i)) (Is (.int j)) (Is (.bl (f i j)))) (hr' : ∀ i j, OpW w r' (Is (.int i)) (Is (.int j)) (Is (.bl (f' i j)))) (o : Ok w F H)
    (ha : EvW w (Is (.int i)) ta σ F H) (hb : EvW w (Is (.int j)) tb σ F H) (hc : EvW w (Is (.int l)) tc σ F H) : EvT w (f i j && f' j l) (tTest (tChain r r' ta tb tc)) σ F H := fun F1 H1 g Q q =>
  ha F1 H1 g _ fun x F2 H2 g2 rx => hb F2 H2 (g.trans o g2) _ fun y F3 H3 g3 ry => by
    have o1 := g.ok o
    have o2 := g2.ok o1
    have o3 := g3.ok o2
    refine hr i j x y F3 H3 o3 rx ry _ fun z F4 H4 g4 rz => ⟨f i j, rz, ?_⟩
    have o4 := g4.ok o3
    have g14 := (g2.trans o1 g3).trans o1 g4
    cases e : f i j with
    | false =>
      rw [if_neg (by decide)]
      refine ⟨false, rfl, ?_⟩
      have q' := q F4 H4 g14
      rw [e] at q'
      exact q'
    | true =>
      rw [if_pos rfl]
      refine hc F4 H4 (g.trans o g14) _ fun z2 F5 H5 g5 rz2 => hr' j l y z2 F5 H5 (g5.ok o4) ry rz2 _ fun u F6 H6 g6 ru => ⟨f' j l, ru, ?_⟩
      have q' := q F6 H6 ((g14.trans o1 g5).trans o1 g6)
      rw [e, Bool.true_and] at q'
      exact q'
theorem ca_lenS {z : Str} (hz : z.length ≤ sizeLine) : CaW w iLenS [Is (.str z)] (Is (.int z.length)) := by
  intro vs F H o al Q q
  obtain rfl := Al.is (f := fun v : V => v) (xs := [.str z]) al
  exact ⟨z, rfl, hz, q _ F H o.refl rfl⟩
theorem ow_inS {c : Nat} {z : Str} : OpW w rInS (Is (.str ⟨#[c]⟩)) (Is (.str z)) (Is (.bl (decide (c ∈ z.cps.toList)))) := fun x y F H o rx ry Q q => by
  obtain rfl : x = .str ⟨#[c]⟩ := rx
  obtain rfl : y = .str z := ry
  exact ⟨c, z, rfl, rfl, q _ F H o.refl rfl⟩
end
/-! ### is_name -/
def letters : Str := "abcdefghijklmnopqrstuvwxyz"
def isNmS (z : Str) : Bool := (decide ((1 : Int) ≤ z.length) && decide ((z.length : Int) ≤ 8)) && z.cps.toList.all (fun c => decide (c ∈ letters.cps.toList))
def isNm : PyData → Bool
  | .str z => isNmS z
  | _ => false
/-- a datum whose text, if it is one, is not too long to be measured -/
def lenOk : PyData → Prop
  | .str z => z.length ≤ sizeLine
  | _ => True
def spNm (K : PySem.W.Frag) : Sp := spW (fun _ : {d : PyData // lenOk d} => W0) (fun d => [Da K d.1]) fun d => Is (.bl (isNm d.1))
theorem spNm.len {K : PySem.W.Frag} : ∀ vs H Q E, spNm K vs H Q E → vs.length = 1 := spW.len fun _ => rfl
def t_isname (K : PySem.W.Frag) : TS := tSeq (tIfS (tOr (tNot (tB (tCB (rIsi K) (tCons (tVar 0) (tCons (tC (.ty "str")) tNil))))) (tNot (tTest (tChain oLe oLe (tC (.int 1)) (tCB iLenS (tCons (tVar 0) tNil)) (tC (.int 8)))))) (tRet (tC (.bl false))) tNext)
  (tRet (tCB (rAll K) (tCons (tLc (iStr (tVar 0)) (gName 1) tYes (tOp rInS (tVar 1) (tC (.str letters))) [1]) tNil)))
theorem pure_isname {K : PySem.W.Frag} {vs : List V} {H : Hp} {Q : VK} {E : XK} (h : spNm K vs H Q E) : t_isname K { nx := fun _ H' => Q .non H', rt := Q } (L2.start ["value", "letter"] vs) H := by
  obtain ⟨⟨d, hd⟩, F, o, al, q⟩ := h
  obtain ⟨v, rfl, hv⟩ : ∃ v, vs = [v] ∧ Da K d v F := by
    cases al with
    | cons h r => cases r; exact ⟨_, rfl, h⟩
  have hi : EvW W0 (Is (.bl (isStr d))) (tCB (rIsi K) (tCons (tVar 0) (tCons (tC (.ty "str")) tNil))) [some v, none] F H := ev_cb o (ea_cons o (Da.mo K d) (ev_var o (Da.mo K d) rfl hv) (ea_cons o (Is.mo _) (ev_c o fun _ => rfl) (ea_nil o))) (ca_isiD (kit_str d))
  by_cases hs : isStr d = true
  · obtain ⟨z, rfl⟩ : ∃ z, d = .str z := by cases d <;> first | exact ⟨_, rfl⟩ | cases hs
    obtain rfl : v = .str z := by cases hv; rfl
    have hz : z.length ≤ sizeLine := hd
    have hch : EvT W0 (decide ((1 : Int) ≤ z.length) && decide ((z.length : Int) ≤ 8)) (tTest (tChain oLe oLe (tC (.int 1)) (tCB iLenS (tCons (tVar 0) tNil)) (tC (.int 8)))) [some (.str z), none] F H :=
      et_chain (f := fun i j => decide (i ≤ j)) (f' := fun i j => decide (i ≤ j)) (fun i j => ow_int) (fun i j => ow_int) o (ev_c o fun _ => rfl) (ev_cb o (ea_cons o (Is.mo _) (ev_var o (Is.mo _) rfl rfl) (ea_nil o)) (ca_lenS hz)) (ev_c o fun _ => rfl)
    have ht := et_or o (et_not (et_B hi)) fun _ => et_not hch
    cases hb : (decide ((1 : Int) ≤ z.length) && decide ((z.length : Int) ≤ 8)) with
    | false =>
      rw [hb] at ht
      have ht' : EvT W0 true _ _ F H := ht
      refine s_yes (D := { nx := _, rt := Q }) o ht' fun F1 H1 g => ?_
      refine q_ret (R := Is (.bl false)) (g.ok o) (ev_c (g.ok o) fun _ => rfl) fun v F2 H2 g2 r => q v F2 H2 (g.trans o g2) ?_
      show v = .bl (isNmS z)
      unfold isNmS
      rw [hb]
      exact r
    | true =>
      rw [hb] at ht
      have ht' : EvT W0 false _ _ F H := ht
      refine q_no o ht' fun F1 H1 g => ?_
      have o1 := g.ok o
      refine q_ret (R := Is (.bl (isNmS z))) o1 ?_ fun v F2 H2 g2 r => q v F2 H2 (g.trans o g2) r
      have e : isNmS z = (z.cps.toList.map fun c => decide (c ∈ letters.cps.toList)).all id := by
        unfold isNmS
        rw [hb, Bool.true_and, List.all_map]
        rfl
      rw [e]
      refine ev_cb o1 (ea_cons o1 (Li.mo (mos_map (f := fun b => Is (.bl b)) (fun b => Is.mo _) _)) ?_ (ea_nil o1)) ca_all
      have hn : z.cps.size ≤ 100000 := by
        rw [Bool.and_eq_true, decide_eq_true_eq, decide_eq_true_eq] at hb
        have : z.length = z.cps.size := rfl
        omega
      refine ev_lcI o1 (ei_str o1 (ev_var o1 (Is.mo _) rfl rfl)) hn (fun i ys F => ys = (z.cps.toList.take i).map fun c => V.bl (decide (c ∈ letters.cps.toList))) (fun _ _ _ _ _ h => h) (fun _ _ => rfl) (fun i x ys G H' hi hx g iv Qy Qn hy hn => ?_) fun ys G iv D e => ?_
      · obtain ⟨c, hc, rfl⟩ := hx
        refine ⟨rfl, lc_yes ?_⟩
        have o2 := g.ok o1
        refine ev_op o2 (Is.mo _) (ev_var o2 (Is.mo _) rfl rfl) (ev_c o2 fun _ => rfl) ow_inS G H' o2.refl Qy fun v G' H'' g' r => hy v G' H'' g' ?_
        obtain rfl := r
        rw [iv]
        have hl : i < z.cps.toList.length := by simpa using hi
        have hc' : z.cps.toList[i] = c := by
          have := Array.getElem?_eq_some_iff.mp hc
          obtain ⟨_, e⟩ := this
          simpa using e
        rw [List.take_succ_eq_append_getElem hl, List.map_append, hc']
        rfl
      · refine ⟨D, ys, rfl, e, ?_⟩
        rw [iv, List.take_of_length_le (by simp)]
        have key : ∀ l : List Nat, Al ((l.map fun c => decide (c ∈ letters.cps.toList)).map fun b => Is (.bl b)) (l.map fun c => V.bl (decide (c ∈ letters.cps.toList))) G := by
          intro l
          induction l with
          | nil => exact .nil
          | cons a l ih => exact .cons rfl ih
        exact key _
  · have hs' : isStr d = false := by cases e : isStr d with
      | true => exact (hs e).elim
      | false => rfl
    rw [hs'] at hi
    have ht : EvT W0 true (tOr (tNot (tB (tCB (rIsi K) (tCons (tVar 0) (tCons (tC (.ty "str")) tNil))))) (tNot (tTest (tChain oLe oLe (tC (.int 1)) (tCB iLenS (tCons (tVar 0) tNil)) (tC (.int 8)))))) [some v, none] F H :=
      et_or (b := true) o (et_not (et_B hi)) fun e => by cases e
    refine s_yes (D := { nx := _, rt := Q }) o ht fun F1 H1 g => ?_
    refine q_ret (R := Is (.bl false)) (g.ok o) (ev_c (g.ok o) fun _ => rfl) fun u F2 H2 g2 r => q u F2 H2 (g.trans o g2) ?_
    have e : isNm d = false := by cases d <;> first | rfl | (cases hs')
    show u = .bl (isNm d)
    rw [e]
    exact r
end QW

set_option Elab.async false
set_option linter.all false
set_option maxRecDepth 100000
set_option maxHeartbeats 1000000
/-! QMix: a list in a drawn order. -/
namespace QW
open PySem PySem.Spec PyProof.Rows L2 QR
theorem Al.erase {F : Hp} : ∀ {Rs : List Pr} {vs : List V} (i : Nat), Al Rs vs F → Al (Rs.eraseIdx i) (vs.eraseIdx i) F
  | _, _, _, .nil => .nil
  | _, _, 0, .cons _ r => r
  | _, _, i + 1, .cons h r => .cons h (Al.erase i r)
theorem Al.at {F : Hp} {Rs : List Pr} {vs : List V} (h : Al Rs vs F) {i : Nat} (hi : i < Rs.length) : ∃ v, vs[i]? = some v ∧ Rs[i] v F := by
  have hv : i < vs.length := by rw [h.length]; exact hi
  obtain ⟨R, e, r⟩ := h.get (List.getElem?_eq_getElem hv)
  rw [List.getElem?_eq_getElem hi] at e
  cases e
  exact ⟨_, List.getElem?_eq_getElem hv, r⟩
theorem perm_erase {α : Type} : ∀ (l : List α) (i : Nat) (h : i < l.length), (l[i] :: l.eraseIdx i).Perm l
  | a :: l, 0, _ => List.Perm.refl _
  | a :: l, i + 1, h => (List.Perm.swap a (l[i]'(Nat.lt_of_succ_lt_succ h)) (l.eraseIdx i)).trans ((perm_erase l i (Nat.lt_of_succ_lt_succ h)).cons a)
structure MxA where
  p : Addr
  Rs : List Pr
  m : ∀ R ∈ Rs, Mo R
  h : Rs.length < 100000
def Mixed (Rs : List Pr) : Pr := fun v F => ∃ Ss : List Pr, Ss.Perm Rs ∧ Li Ss v F
theorem Mixed.mo {Rs : List Pr} (m : ∀ R ∈ Rs, Mo R) : Mo (Mixed Rs) := fun v F F' e ⟨Ss, h, r⟩ => ⟨Ss, h, Li.mo (fun R hR => m R (h.mem_iff.mp hR)) _ _ _ e r⟩
def spMixed : Sp := spW (fun a : MxA => Wp a.p) (fun a => [Is (.ref a.p), Li a.Rs]) fun a => Mixed a.Rs
theorem spMixed.len : ∀ vs H Q E, spMixed vs H Q E → vs.length = 2 := spW.len fun _ => rfl
abbrev iList1 (K : PySem.W.Frag) : List V → Hp → VK → Prop := fun xs H Q => ∃ p ys, xs = [.ref p] ∧ (SqL K H p ys ∨ SqT K H p ys) ∧ ∀ l, H l = none → Q (.ref l) (upd H l (.lst ys))
def t_mixedE (K : PySem.W.Frag) : TS := (tRet (tLc (iRng1 (tCons (tCB (iLen K) (tCons (tVar 1) tNil)) tNil)) (gName 3) tYes
  (tBM K "list" rPopAt (tVar 2) (tCons (tCall spDraw [] E0 (tCons (tVar 0) (tCons (tCB (iLen K) (tCons (tVar 2) tNil)) tNil))) tNil)) [3]))
def t_mixed (K : PySem.W.Frag) : TS := tSeq (tAsg (tCB (iList1 K) (tCons (tVar 1) tNil)) (gName 2)) (t_mixedE K)
theorem seqIx {i : Int} {n : Nat} (h : 0 ≤ i) (h2 : i < n) : seqIndex? i n = some i.toNat := by
  unfold seqIndex?
  have e : ¬ i < 0 := by omega
  simp [e, h, h2]
theorem pure_mixed {K : PySem.W.Frag} {vs : List V} {H : Hp} {Q : VK} {E : XK} (h : spMixed vs H Q E) : t_mixed K { nx := fun _ H' => Q .non H', rt := Q } (L2.start ["pot", "options", "rest", "turn"] vs) H := by
  obtain ⟨⟨p, Rs, m, hz⟩, F, o, al, q⟩ := h
  obtain ⟨u, rfl, hu⟩ : ∃ u, vs = [.ref p, u] ∧ Li Rs u F := by
    cases al with
    | cons h r =>
      cases r with
      | cons h2 r =>
        cases r
        obtain rfl := h
        exact ⟨_, rfl, h2⟩
  have hz : Rs.length < 100000 := hz
  obtain ⟨a, xs, rfl, hx, hal⟩ := id hu
  have hxH := o.s _ _ hx
  refine ⟨_, rfl, a, xs, rfl, .inl (.of hxH), fun l hl => ?_⟩
  show t_mixedE K { nx := fun _ H' => Q .non H', rt := Q } [some (.ref p), some (.ref a), some (.ref l), none] (upd H l (.lst xs))
  have nl : F l = none := same_none o.s hl
  have lp : l ≠ p := fun z => (Wp p).tr H o.j p List.mem_cons_self (by rw [← z]; exact hl)
  have o1 : Ok (Wp p) F (upd H l (.lst xs)) := ((o.refl).temp hl).ok o
  have nlM : l ∉ (Wp p).M := fun z => lp (by simpa [Wp] using z)
  have o2 : Ok ((Wp p).add l fun o => ∃ ys, o = .lst ys) F (upd H l (.lst xs)) := o1.add nl upd_same ⟨xs, rfl⟩
  have sub : Sub (Wp p) ((Wp p).add l fun o => ∃ ys, o = .lst ys) := Sub.add nlM
  let ww : Wd := (Wp p).add l fun o => ∃ ys, o = .lst ys
  have hlen : EvA (Wp p) [Is (.int Rs.length)] (tCons (tCB (iLen K) (tCons (tVar 1) tNil)) tNil) [some (.ref p), some (.ref a), some (.ref l), none] F (upd H l (.lst xs)) :=
    ea_cons o1 (Is.mo _) (ev_cb o1 (ea_cons o1 (Li.mo m) (ev_var o1 (Li.mo m) rfl hu) (ea_nil o1)) ca_lenLi) (ea_nil o1)
  have hj := ej_range (w := ww) (n := (Rs.length : Int)) sub o2 (by omega) (by omega) hlen
  rw [Int.toNat_natCast] at hj
  have l0 : (upd H l (.lst xs)) l ≠ none := by rw [upd_same]; exact nofun
  refine ev_lcJ sub o2 hj (by omega)
    (fun i ys G H' => G l = none ∧ ∃ (rem : List V) (Ss Ts : List Pr), H' l = some (.lst rem) ∧ Al Ss ys G ∧ Al Ts rem G ∧ (Ss ++ Ts).Perm Rs ∧ Ts.length + i = Rs.length)
    (fun i ys F1 F' H' e ⟨h1, rem, Ss, Ts, h2, h3, h4, h5, h6⟩ k => ⟨k l h1 l0, rem, Ss, Ts, h2, h3.mono e (fun R hR => m R (h5.mem_iff.mp (List.mem_append_left _ hR))), h4.mono e (fun R hR => m R (h5.mem_iff.mp (List.mem_append_right _ hR))), h5, h6⟩)
    (fun i ys G H' D u e ⟨h1, rem, Ss, Ts, h2, h3⟩ => ⟨h1, rem, Ss, Ts, by rw [upd_ne (fun z : l = D => l0 (z ▸ e))]; exact h2, h3⟩)
    (fun F2 H2 g => ⟨g.g.nw l nl l0, xs, [], Rs, g.g.hh l _ nlM upd_same, .nil, hal.mono g.g.ff m, List.Perm.refl _, rfl⟩) ?_ _ ?_
  · intro i x ys G0 H0 G H' hi g0 iv g1 hx Qy Qn hy hn
    subst hx
    obtain ⟨h1, rem, Ss, Ts, h2, h3, h4, h5, h6⟩ := iv
    have oo := (sub.gw _ _ _ _ (g0.ok o2) g1).ok (g0.ok o2)
    have oP := sub.ok _ _ oo
    have e1 : H' l = some (.lst rem) := g1.g.hh l _ nlM h2
    have k1 : G l = none := g1.g.nw l h1 (by rw [h2]; exact nofun)
    have a3 := h3.mono g1.g.ff fun R hR => m R (h5.mem_iff.mp (List.mem_append_left _ hR))
    have a4 := h4.mono g1.g.ff fun R hR => m R (h5.mem_iff.mp (List.mem_append_right _ hR))
    have hr := h4.length
    refine ⟨rfl, lc_yes ?_⟩
    refine ⟨_, rfl, .inl ⟨rfl, rem, .of e1⟩, _, rfl, _, rfl, l, rem, rfl, .inl (.of e1), ⟨p, rem.length, by omega, by omega⟩, G, oP, ?_, fun v G1 H1 g2 r2 => ?_⟩
    · exact .cons rfl (.cons rfl .nil)
    · obtain ⟨d, rfl, d1, d2⟩ := r2
      have d2' : d < (rem.length : Int) := d2
      have hd : d.toNat < Ts.length := by omega
      have e2 : H1 l = some (.lst rem) := g2.g.hh l _ nlM e1
      have k2 : G1 l = none := g2.g.nw l k1 (by rw [e1]; exact nofun)
      have b4 := a4.mono g2.g.ff fun R hR => m R (h5.mem_iff.mp (List.mem_append_right _ hR))
      have b3 := a3.mono g2.g.ff fun R hR => m R (h5.mem_iff.mp (List.mem_append_left _ hR))
      obtain ⟨y, hy1, hy2⟩ := b4.at hd
      refine ⟨l, rem, d, d.toNat, y, rfl, rfl, e2, by omega, by omega, seqIx d1 d2', hy1, ?_⟩
      refine hy y G1 _ ((sub.gw _ _ _ _ oo g2).mutA nlM k2 ⟨_, rfl⟩) ⟨k2, rem.eraseIdx d.toNat, Ss ++ [Ts[d.toNat]], Ts.eraseIdx d.toNat, upd_same, b3.append (.cons hy2 .nil), b4.erase d.toNat, ?_, ?_⟩
      · refine List.Perm.trans ?_ h5
        rw [List.append_assoc]
        exact List.Perm.append_left Ss (perm_erase Ts d.toNat hd)
      · rw [List.length_eraseIdx_of_lt hd]
        omega
  · intro D ys G H' g iv e
    obtain ⟨h1, rem, Ss, Ts, h2, h3, h4, h5, h6⟩ := iv
    have hT : Ts = [] := List.length_eq_zero_iff.mp (by omega)
    subst hT
    rw [List.append_nil] at h5
    refine q (.ref D) G H' ?_ ⟨Ss, h5, D, ys, rfl, e, h3⟩
    exact Gw.dropA o ((o.refl).temp hl) hl g
end QW

set_option Elab.async false
set_option linter.all false
set_option maxRecDepth 100000
set_option maxHeartbeats 1000000
/-! QWord: a drawn word. -/
namespace QK
open PySem PySem.Spec PyProof.Rows L2
section
variable {X : Cx} {K : PySem.W.Frag} {o e : Expr} {to te : TE}
abbrev rJoin (K : PySem.W.Frag) : V → List V → Hp → VK → Prop := fun x xs H Q => ∃ a p, ∃ ys : List Str, x = .str a ∧ xs = [.ref p] ∧ (SqL K H p (ys.map V.str) ∨ SqT K H p (ys.map V.str)) ∧ (ys.map (·.length)).sum + ys.length * a.length ≤ 16777216 ∧ Q (.str (Txt.join a ys)) H
theorem pe_join {apos pos : Pos} (hK : X.K = K) (ho : PE X o to) (he : PE X e te) (hs : starEach [e] X.env = [(false, eval e X.env)] := by rfl) (hbase : attributeBase o "join" X.env (eval o X.env) = eval o X.env := by rfl) (hline : (apos.endLine == pos.line) = true := by rfl) :
    PE X (.Call (.Attribute o "join" apos) [e] [] pos) (tM1 (rJoin K) to te) := by
  subst hK
  exact L2.pe_join ho he hs hbase hline
end
end QK
namespace QW
open PySem PySem.Spec PyProof.Rows L2 QR
section
variable {K : PySem.W.Frag} {w : Wd} {σ : L2.St} {F H : Hp} {ta tb te : TE} {tt : TT} {tas : TA} {v : V} {R : Pr} {g : TG} {vs : List Nat}
/-- a comprehension over range(n), n one of several -/
theorem ev_lcRn {P : Nat → Prop} (o : Ok w F H) (h : EvA w [fun v _ => ∃ n : Nat, v = .int n ∧ P n] tas σ F H) (hP : ∀ n, P n → n ≤ 100000) (Iv : Nat → List V → Hp → Prop) (mono : ∀ i ys F F', Same F F' → Iv i ys F → Iv i ys F') (h0 : ∀ F', Same F F' → Iv 0 [] F')
    (hs : ∀ n, P n → ∀ (i : Nat) ys G H', i < n → Gw w F H G H' → Iv i ys G → ∀ (Qy : VK) (Qn : Hp → Prop), (∀ y G' H'', Gw w G H' G' H'' → Iv (i + 1) (ys ++ [y]) G' → Qy y H'') → (∀ G' H'', Gw w G H' G' H'' → Iv (i + 1) ys G' → Qn H'') →
      g (.int i) (wipe σ vs) H' fun σ2 H2 => wipe σ2 vs = wipe σ vs ∧ tt σ2 H2 fun b H3 => if b = true then te σ2 H3 Qy else Qn H3)
    (hr : ∀ n ys G, P n → Iv n ys G → ∀ D, G D = some (.lst ys) → R (.ref D) G) : EvW w R (tLc (iRng1 tas) g tt te vs) σ F H := fun F1 H1 a Q q =>
  h F1 H1 a _ fun us F2 H2 b al => by
    obtain ⟨n, rfl, hn⟩ : ∃ n : Nat, us = [.int n] ∧ P n := by
      cases al with
      | cons h r =>
        cases r
        obtain ⟨n, rfl, hn⟩ := h
        exact ⟨n, rfl, hn⟩
    have o2 := b.ok (a.ok o)
    have a2 := a.trans o b
    have z := hP n hn
    have wk := walk_range (lo := 0) (n := n)
    refine ⟨n, rfl, by omega, by omega, fun D hD => ?_⟩
    rw [Int.toNat_natCast]
    exact lc_any (te := te) (tt := tt) (g := g) (vs := vs) (σ := σ) (Q := Q) (Y := fun i x F => x = .int (i : Nat)) o2
      ⟨fun i G H' hi g => wk.goes i H' hi trivial, fun G H' g => wk.stops H' trivial, fun i G H' x H'' hi g y => by
        obtain ⟨rfl, hx'⟩ := wk.yields i H' x H'' hi trivial y
        exact ⟨G, (g.ok o2).refl, hx'.trans (congrArg V.int (Int.zero_add _))⟩⟩ Iv mono (h0 F2 a2.g.ff) z
      (fun i x ys G H' hi hy g iv Qy Qn k1 k2 => by
        subst hy
        exact hs n hn i ys G H' hi (a2.trans o g) iv Qy Qn k1 k2)
      (fun D ys G H' hD' g e iv => q _ G H' (b.trans (a.ok o) g) (hr n ys G hn iv D e)) D hD
/-- a.join(texts) -/
theorem ev_join {a : Str} {P : List Str → Prop} (o : Ok w F H) (h : EvW w (fun v F => ∃ ys : List Str, P ys ∧ Li (ys.map fun y => Is (.str y)) v F) te σ F H) (hP : ∀ ys, P ys → (ys.map (·.length)).sum + ys.length * a.length ≤ 16777216) :
    EvW w (fun v _ => ∃ ys, P ys ∧ v = .str (Txt.join a ys)) (tM1 (QK.rJoin K) (tC (.str a)) te) σ F H := fun F1 H1 g Q q =>
  ⟨⟨a, rfl⟩, h F1 H1 g _ fun v F2 H2 g2 ⟨ys, hy, l, us, e, e1, al⟩ => by
    obtain rfl := e
    have o2 := g2.ok (g.ok o)
    obtain rfl : us = ys.map V.str := al.is
    exact ⟨a, l, ys, rfl, rfl, .inl (.of (o2.s _ _ e1)), hP ys hy, q _ F2 H2 g2 ⟨ys, hy, rfl⟩⟩⟩
/-- a sign of a text -/
abbrev rItS : R2 := fun x y H Q => ∃ z i c, x = .str z ∧ y = .int i ∧ 0 ≤ i ∧ i < 2 ^ 63 ∧ i < z.length ∧ z.cps[i.toNat]? = some c ∧ Q (.str ⟨#[c]⟩) H
def Sign (z : Str) : Pr := fun v _ => ∃ c, v = .str ⟨#[c]⟩ ∧ c ∈ z.cps.toList
theorem ow_itS {z : Str} {n : Int} (hn : n ≤ z.length) (hz : (z.length : Int) < 2 ^ 63) : OpW w rItS (Is (.str z)) (Dr n) (Sign z) := fun x y F H o rx ry Q q => by
  obtain rfl : x = .str z := rx
  obtain ⟨d, rfl, d1, d2⟩ := ry
  have hl : d.toNat < z.cps.size := by
    have : z.length = z.cps.size := rfl
    omega
  refine ⟨z, d, z.cps[d.toNat], rfl, rfl, d1, by omega, by omega, Array.getElem?_eq_getElem hl, q _ F H o.refl ⟨_, rfl, ?_⟩⟩
  exact Array.getElem_mem_toList hl
end
/-- the signs, put together -/
theorem joinL_nil : ∀ cs : List Nat, TL.joinL [] (cs.map fun c => [c]) = cs
  | [] => rfl
  | [c] => rfl
  | c :: d :: r => by
    have := joinL_nil (d :: r)
    simp only [List.map_cons, TL.joinL] at this ⊢
    simp [this]
theorem join_signs (cs : List Nat) : Txt.join "" (cs.map fun c => (⟨#[c]⟩ : Str)) = ⟨cs.toArray⟩ := by
  have h := SX.join_S [] (cs.map fun c => [c])
  rw [joinL_nil, List.map_map] at h
  exact h
def somes : List Str := ["sort", "cast", "version", "use", "drop", "step", "regular", "add", "plus", "a"]
/-- a name as the laws draw them -/
def wordS (z : Str) : Bool := isNmS z && (decide (z.length ∈ [1, 2, 3, 8]) || decide (z ∈ somes))
theorem wordS.nm {z : Str} (h : wordS z = true) : isNmS z = true := by
  unfold wordS at h
  rw [Bool.and_eq_true] at h
  exact h.1
theorem nm_signs {cs : List Nat} (h0 : cs.length ∈ [1, 2, 3, 8]) (h : ∀ c ∈ cs, c ∈ letters.cps.toList) : wordS ⟨cs.toArray⟩ = true := by
  have e : (⟨cs.toArray⟩ : Str).length = cs.length := by simp [Str.length]
  unfold wordS isNmS
  rw [Bool.and_eq_true, Bool.and_eq_true, Bool.and_eq_true, decide_eq_true_eq, decide_eq_true_eq, List.all_eq_true, e]
  have h1 : 1 ≤ cs.length ∧ cs.length ≤ 8 := by
    simp only [List.mem_cons, List.not_mem_nil, or_false] at h0
    omega
  exact ⟨⟨⟨by omega, by omega⟩, fun c hc => decide_eq_true (h c (by simpa using hc))⟩, by rw [decide_eq_true h0]; rfl⟩

/-! ### the word -/
abbrev rIn' (K : PySem.W.Frag) : R2 := rIn K true
theorem inV_str {s : Str} : ∀ ts : List Str, inV (.str s) (ts.map V.str) = decide (s ∈ ts)
  | [] => rfl
  | t :: ts => by
    have ih := inV_str (s := s) ts
    show (eqV (.str t) (.str s) || inV (.str s) (ts.map V.str)) = _
    rw [ih]
    show (t == s || decide (s ∈ ts)) = _
    by_cases e : t = s
    · subst e; simp
    · have e' : ¬ s = t := fun z => e z.symm
      simp [e, e']
theorem flat_strs : ∀ ts : List Str, (ts.map V.str).all flatV = true
  | [] => rfl
  | t :: ts => by
    show (true && (ts.map V.str).all flatV) = true
    rw [flat_strs ts]
    rfl
theorem ow_notInS {K : PySem.W.Frag} {w : Wd} {s : Str} {ts : List Str} : OpW w (rIn K true) (Is (.str s)) (Li (ts.map fun y => Is (.str y))) (Is (.bl (!decide (s ∈ ts)))) := fun x y F H o rx ry Q q => by
  obtain rfl : x = .str s := rx
  obtain ⟨l, us, rfl, e1, al⟩ := ry
  obtain rfl : us = ts.map V.str := al.is
  refine ⟨l, _, rfl, .inl (.of (o.s _ _ e1)), rfl, flat_strs ts, ?_⟩
  rw [if_pos rfl, inV_str]
  exact q _ F H o.refl rfl
theorem nodup_le {α : Type} [DecidableEq α] : ∀ (l D : List α), l.Nodup → (∀ x ∈ l, x ∈ D) → l.length ≤ D.length
  | [], _, _, _ => Nat.zero_le _
  | a :: l, D, hn, h => by
    rw [List.nodup_cons] at hn
    have ha := h a List.mem_cons_self
    have ih := nodup_le l (D.erase a) hn.2 fun x hx => (List.mem_erase_of_ne (fun e => hn.1 (by rw [← e]; exact hx))).mpr (h x (List.mem_cons_of_mem _ hx))
    rw [List.length_erase_of_mem ha] at ih
    have := List.length_pos_of_mem ha
    rw [List.length_cons]
    omega
def spareAt (k : Nat) : Str := ⟨#[letters.cps[k % 26]!]⟩ ++ ⟨#[(("xyz" : Str)).cps[k / 26]!]⟩
def spareL : List Str := (List.range 78).map spareAt
theorem spare_nd : spareL.Nodup := by decide +kernel
theorem spare_nm : ∀ s ∈ spareL, wordS s = true := by decide +kernel
theorem somes_nm : ∀ s ∈ somes, wordS s = true := by decide +kernel
def Nm : Pr := fun v _ => ∃ s : Str, v = .str s ∧ wordS s = true
theorem Nm.mo : Mo Nm := fun _ _ _ _ h => h
structure WoA where
  p : Addr
  ts : List Str
  h : ts.length < 78
def Word (ts : List Str) : Pr := fun v _ => ∃ s : Str, v = .str s ∧ wordS s = true ∧ s ∉ ts
def spWord : Sp := spW (fun a : WoA => Wp a.p) (fun a => [Is (.ref a.p), Li (a.ts.map fun y => Is (.str y))]) fun a => Word a.ts
theorem spWord.len : ∀ vs H Q E, spWord vs H Q E → vs.length = 2 := spW.len fun _ => rfl
section
variable {K : PySem.W.Frag} {w : Wd} {σ : L2.St} {F H : Hp} {te : TE} {a u : TS} {D : Ends}
theorem q_ifN (o : Ok w F H) (h : EvW w (fun v _ => ∃ b : Bool, v = .bl b) te σ F H) (k1 : ∀ F1 H1, Gw w F H F1 H1 → a { D with nx := u D } σ H1) (k2 : ∀ F1 H1, Gw w F H F1 H1 → u D σ H1) : tSeq (tIfS (tTest te) a tNext) u D σ H :=
  h F H o.refl _ fun v F1 H1 g ⟨b, e⟩ => ⟨b, e, by
    cases b with
    | true => exact (if_pos rfl).mpr (k1 F1 H1 g)
    | false => exact (if_neg (by decide)).mpr (k2 F1 H1 g)⟩
theorem ow_gtDr {n i : Int} : OpW w oGt (Dr n) (Is (.int i)) (fun v _ => ∃ b : Bool, v = .bl b) := fun x y F H o rx ry Q q => by
  obtain ⟨d, rfl, _⟩ := rx
  obtain rfl : y = .int i := ry
  exact ⟨d, i, rfl, rfl, q _ F H o.refl ⟨_, rfl⟩⟩
theorem ow_itX {z : Str} {i : Nat} (h : i < z.cps.size) (hz : z.cps.size < 2 ^ 63) : OpW w rItS (Is (.str z)) (Is (.int i)) (Is (.str ⟨#[z.cps[i]!]⟩)) := fun x y F H o rx ry Q q => by
  obtain rfl : x = .str z := rx
  obtain rfl : y = .int i := ry
  have : z.length = z.cps.size := rfl
  refine ⟨z, i, z.cps[i]!, rfl, rfl, by omega, by omega, by omega, ?_, q _ F H o.refl rfl⟩
  rw [Int.toNat_natCast, Array.getElem?_eq_getElem h, getElem!_pos z.cps i h]
/-- a draw -/
theorem ev_draw {p : Addr} {n : Int} {E : XK} {tn : TE} {i : Nat} (o : Ok (Wp p) F H) (hp : σ[i]? = some (some (.ref p))) (h1 : 0 < n) (h2 : n < 1073741824) (hn : EvW (Wp p) (Is (.int n)) tn σ F H) : EvW (Wp p) (Dr n) (tCall spDraw [] E (tCons (tVar i) (tCons tn tNil))) σ F H :=
  ev_call (wf := fun a : DrA => Wp a.p) (A := fun a => [Is (.ref a.p), Is (.int a.n)]) (Rf := fun a => Dr a.n) ⟨p, n, h1, h2⟩ o (ea_cons o (Is.mo _) (ev_var o (Is.mo _) hp rfl) (ea_cons o (Is.mo _) hn (ea_nil o)))
end

abbrev oCatS : R2 := fun x y H Q => ∃ i j, x = .str i ∧ y = .str j ∧ i.length + j.length ≤ sizeLine ∧ Q (.str (i ++ j)) H
def t_wSpare : TE := tLc (iRng1 (tCons (tC (.int 78)) tNil)) (gName 7) tYes (tOp oCatS (tOp rItS (tVar 2) (tOp oMod (tVar 7) (tC (.int 26)))) (tOp rItS (tC (.str "xyz")) (tOp oDiv (tVar 7) (tC (.int 26))))) [7]
def t_wFree (K : PySem.W.Frag) : TE := tLc (iList K (tVar 6)) (gName 9) (tTest (tOp (rIn K true) (tVar 9) (tVar 1))) (tVar 9) [9]
def t_wJoin (K : PySem.W.Frag) : TE := tM1 (QK.rJoin K) (tC (.str "")) (tLc (iRng1 (tCons (tOp (rIxL K) (tLst (tCons (tC (.int 1)) (tCons (tC (.int 2)) (tCons (tC (.int 3)) (tCons (tC (.int 8)) tNil))))) (tCall spDraw [] E0 (tCons (tVar 0) (tCons (tC (.int 4)) tNil)))) tNil)) (gName 5) tYes
  (tOp rItS (tVar 2) (tCall spDraw [] E0 (tCons (tVar 0) (tCons (tC (.int 26)) tNil)))) [5])
def t_wEnd (K : PySem.W.Frag) : TS := tSeq (tAsg t_wSpare (gName 6)) (tSeq (tAsg (t_wFree K) (gName 8)) (tRet (tIf (tTest (tOp (rIn K true) (tVar 4) (tVar 1))) (tVar 4) (tOp (rIxL K) (tVar 8) (tC (.int 0))))))
def t_word (K : PySem.W.Frag) : TS := tSeq (tAsg (tC (.str letters)) (gName 2)) (tSeq (tAsg (tLst (tCons (tC (.str "sort")) (tCons (tC (.str "cast")) (tCons (tC (.str "version")) (tCons (tC (.str "use")) (tCons (tC (.str "drop")) (tCons (tC (.str "step")) (tCons (tC (.str "regular")) (tCons (tC (.str "add")) (tCons (tC (.str "plus")) (tCons (tC (.str "a")) tNil))))))))))) (gName 3)) (tSeq (tAsg (tCall spChoice [] E0 (tCons (tVar 0) (tCons (tVar 3) tNil))) (gName 4))
  (tSeq (tIfS (tTest (tOp oGt (tCall spDraw [] E0 (tCons (tVar 0) (tCons (tC (.int 3)) tNil))) (tC (.int 0)))) (tAsg (t_wJoin K) (gName 4)) tNext) (t_wEnd K))))
section
variable {K : PySem.W.Frag} {F H : Hp} {p : Addr} {u s3 wv x6 : V} {ts : List Str} {Q : VK}
abbrev wS (p : Addr) (u a b c d : Option V) : L2.St := [some (.ref p), u, some (.str letters), a, b, none, c, none, d, none]
theorem word_spare (o : Ok (Wp p) F H) : EvW (Wp p) (Li (spareL.map fun y => Is (.str y))) t_wSpare (wS p (some u) (some s3) (some wv) none none) F H := by
  refine ev_lcI o (ei_range (n := 78) o (by decide) (by decide) (ea_cons o (Is.mo _) (ev_c o fun _ => rfl) (ea_nil o))) (by decide) (fun i ys F => ys = ((List.range i).map spareAt).map V.str) (fun _ _ _ _ _ h => h) (fun _ _ => rfl) (fun i x ys G H' hi hx g iv Qy Qn hy hn => ?_) fun ys G iv D e => ?_
  · subst hx
    have hi' : i < 78 := hi
    have o2 := g.ok o
    refine ⟨rfl, lc_yes ?_⟩
    have e1 : EvW (Wp p) (Is (.int ((i % 26 : Nat) : Int))) (tOp oMod (tVar 7) (tC (.int 26))) ((wipe (wS p (some u) (some s3) (some wv) none none) [7]).set 7 (some (.int (i : Nat)))) G H' :=
      (ev_op o2 (Is.mo _) (ev_var (v := .int (i : Nat)) o2 (Is.mo _) rfl rfl) (ev_c (v := .int 26) o2 fun _ => rfl) (ow_intC (i := (i : Nat)) (j := 26) (by decide : (0 : Int) < 26))).imp fun v F' _ r => by
        obtain rfl := r
        rfl
    have e2 : EvW (Wp p) (Is (.int ((i / 26 : Nat) : Int))) (tOp oDiv (tVar 7) (tC (.int 26))) ((wipe (wS p (some u) (some s3) (some wv) none none) [7]).set 7 (some (.int (i : Nat)))) G H' :=
      (ev_op o2 (Is.mo _) (ev_var (v := .int (i : Nat)) o2 (Is.mo _) rfl rfl) (ev_c (v := .int 26) o2 fun _ => rfl) (ow_intC (i := (i : Nat)) (j := 26) ⟨by decide, by decide⟩)).imp fun v F' _ r => by
        obtain rfl := r
        rfl
    have hA : i % 26 < letters.cps.size := Nat.lt_of_lt_of_le (Nat.mod_lt _ (by decide)) (by decide +kernel)
    have hB : i / 26 < (("xyz" : Str)).cps.size := Nat.lt_of_lt_of_le (show i / 26 < 3 by omega) (by decide +kernel)
    have e3 := ev_op o2 (Is.mo _) (ev_op o2 (Is.mo _) (ev_var (i := 2) (v := .str letters) o2 (Is.mo _) rfl rfl) e1 (ow_itX hA (by decide +kernel))) (ev_op o2 (Is.mo _) (ev_c (v := .str "xyz") o2 fun _ => rfl) e2 (ow_itX hB (by decide +kernel)))
      (r := oCatS) (T := Is (.str (spareAt i))) fun x y F H o rx ry Q q => by
        obtain rfl := rx
        obtain rfl := ry
        exact ⟨_, _, rfl, rfl, (by decide : 2 ≤ sizeLine), q _ F H o.refl rfl⟩
    refine e3 G H' o2.refl Qy fun v G' H'' g' r => hy v G' H'' g' ?_
    obtain rfl := r
    rw [iv, List.range_succ, List.map_append, List.map_append]
    rfl
  · refine ⟨D, ys, rfl, e, ?_⟩
    rw [iv]
    show Al (spareL.map fun y => Is (.str y)) (spareL.map V.str) G
    generalize spareL = l
    induction l with
    | nil => exact .nil
    | cons a l ih => exact .cons rfl ih
theorem word_free (o : Ok (Wp p) F H) (hu : Li (ts.map fun y => Is (.str y)) u F) (h6 : Li (spareL.map fun y => Is (.str y)) x6 F) : EvW (Wp p) (Li ((spareL.filter fun y => !decide (y ∈ ts)).map fun y => Is (.str y))) (t_wFree K) (wS p (some u) (some s3) (some wv) (some x6) none) F H := by
  have mo : ∀ l : List Str, ∀ R ∈ l.map (fun y => Is (.str y)), Mo R := fun l => mos_map (f := fun y : Str => Is (.str y)) (fun y => Is.mo _) l
  refine ev_lcI o (ei_list o (mo _) (ev_var o (Li.mo (mo _)) rfl h6)) (by rw [List.length_map]; decide) (fun i ys F => ys = ((spareL.take i).filter fun y => !decide (y ∈ ts)).map V.str) (fun _ _ _ _ _ h => h) (fun _ _ => rfl) (fun i x ys G H' hi hx g iv Qy Qn hy hn => ?_) fun ys G iv D e => ?_
  · obtain ⟨R, hR, r⟩ := hx
    have hi' : i < spareL.length := by rw [List.length_map] at hi; exact hi
    rw [List.getElem?_map, List.getElem?_eq_getElem hi'] at hR
    cases hR
    obtain rfl := r
    have o2 := g.ok o
    have hu' := Li.mo (mo ts) _ _ _ g.g.ff hu
    refine ⟨rfl, ?_⟩
    refine et_val (ev_op o2 (Is.mo _) (ev_var o2 (Is.mo _) rfl rfl) (ev_var o2 (Li.mo (mo ts)) rfl hu') ow_notInS) G H' o2.refl _ fun G2 H2 g2 => ?_
    have ht : spareL.take (i + 1) = spareL.take i ++ [spareL[i]] := List.take_succ_eq_append_getElem hi'
    cases hb : (!decide (spareL[i] ∈ ts)) with
    | true =>
      rw [if_pos rfl]
      refine ⟨_, rfl, hy _ G2 H2 g2 ?_⟩
      rw [iv, ht, List.filter_append, List.map_append]
      simp [hb]
    | false =>
      rw [if_neg (by decide)]
      refine hn G2 H2 g2 ?_
      rw [iv, ht, List.filter_append, List.map_append]
      simp [hb]
  · refine ⟨D, ys, rfl, e, ?_⟩
    rw [iv, List.take_of_length_le (by rw [List.length_map]; exact Nat.le_refl _)]
    generalize (spareL.filter fun y => !decide (y ∈ ts)) = l
    induction l with
    | nil => exact .nil
    | cons a l ih => exact .cons rfl ih

theorem word_join (o : Ok (Wp p) F H) : EvW (Wp p) Nm (t_wJoin K) (wS p (some u) (some s3) (some wv) none none) F H := by
  have l4 : ∀ ns : List Int, ∀ R ∈ ns.map (fun n => Is (.int n)), Mo R := fun ns => mos_map (f := fun n : Int => Is (.int n)) (fun n => Is.mo _) ns
  have hr : EvW (Wp p) (Some_ (([1, 2, 3, 8] : List Int).map fun n => Is (.int n))) (tOp (rIxL K) (tLst (tCons (tC (.int 1)) (tCons (tC (.int 2)) (tCons (tC (.int 3)) (tCons (tC (.int 8)) tNil))))) (tCall spDraw [] E0 (tCons (tVar 0) (tCons (tC (.int 4)) tNil)))) (wS p (some u) (some s3) (some wv) none none) F H :=
    ev_op o (Li.mo (l4 _)) (ev_lst (Rs := ([1, 2, 3, 8] : List Int).map fun n => Is (.int n)) o (l4 _) (ea_cons o (Is.mo _) (ev_c o fun _ => rfl) (ea_cons o (Is.mo _) (ev_c o fun _ => rfl) (ea_cons o (Is.mo _) (ev_c o fun _ => rfl) (ea_cons o (Is.mo _) (ev_c o fun _ => rfl) (ea_nil o))))) (show 4 ≤ 100000 by decide))
      (ev_draw (n := (((([1, 2, 3, 8] : List Int).map fun n => Is (.int n)).length : Nat) : Int)) o rfl (by decide) (by decide) (ev_c o fun _ => rfl)) ow_ixDr
  have hn : EvW (Wp p) (fun v _ => ∃ n : Nat, v = .int n ∧ n ∈ [1, 2, 3, 8]) (tOp (rIxL K) (tLst (tCons (tC (.int 1)) (tCons (tC (.int 2)) (tCons (tC (.int 3)) (tCons (tC (.int 8)) tNil))))) (tCall spDraw [] E0 (tCons (tVar 0) (tCons (tC (.int 4)) tNil)))) (wS p (some u) (some s3) (some wv) none none) F H :=
    hr.imp fun v F' _ ⟨R, hR, r⟩ => by
      simp only [List.map_cons, List.map_nil, List.mem_cons, List.not_mem_nil, or_false] at hR
      rcases hR with rfl | rfl | rfl | rfl
      · exact ⟨1, r, by decide⟩
      · exact ⟨2, r, by decide⟩
      · exact ⟨3, r, by decide⟩
      · exact ⟨8, r, by decide⟩
  refine EvW.imp (ev_join (K := K) (a := "") (P := fun ys => ∃ cs : List Nat, ys = cs.map (fun c => (⟨#[c]⟩ : Str)) ∧ cs.length ∈ [1, 2, 3, 8] ∧ ∀ c ∈ cs, c ∈ letters.cps.toList) o
    (ev_lcRn (P := fun n => n ∈ [1, 2, 3, 8]) o (ea_cons o (fun _ _ _ _ h => h) hn (ea_nil o)) (fun n h => by simp only [List.mem_cons, List.not_mem_nil, or_false] at h; omega) (fun i ys F => ∃ cs : List Nat, cs.length = i ∧ (∀ c ∈ cs, c ∈ letters.cps.toList) ∧ ys = cs.map fun c => V.str ⟨#[c]⟩) (fun _ _ _ _ _ h => h) (fun _ _ => ⟨[], rfl, nofun, rfl⟩)
      (fun n hn i ys G H' hi g iv Qy Qn hy hn => ?_) (fun n ys G hn iv D e => ?_)) (fun ys hy => ?_)) (fun v F' _ r => ?_)
  · have o2 := g.ok o
    refine ⟨rfl, lc_yes ?_⟩
    refine ev_op o2 (Is.mo _) (ev_var (i := 2) (v := .str letters) o2 (Is.mo _) rfl rfl) (ev_draw (n := 26) o2 rfl (by decide) (by decide) (ev_c o2 fun _ => rfl)) (ow_itS (by decide +kernel) (by decide +kernel)) G H' o2.refl Qy fun v G' H'' g' r => hy v G' H'' g' ?_
    obtain ⟨c, rfl, hc⟩ := r
    obtain ⟨cs, h1, h2, h3⟩ := iv
    refine ⟨cs ++ [c], by rw [List.length_append, h1]; rfl, fun x hx => ?_, by rw [h3, List.map_append]; rfl⟩
    rcases List.mem_append.mp hx with hx | hx
    · exact h2 x hx
    · rw [List.mem_singleton.mp hx]; exact hc
  · obtain ⟨cs, h1, h2, h3⟩ := iv
    refine ⟨cs.map (fun c => (⟨#[c]⟩ : Str)), ⟨cs, rfl, by rw [h1]; exact hn, h2⟩, D, ys, rfl, e, ?_⟩
    rw [h3]
    clear h1 h2 h3
    induction cs with
    | nil => exact .nil
    | cons a l ih => exact .cons rfl ih
  · obtain ⟨cs, rfl, h1, h3⟩ := hy
    have e : ((cs.map (fun c => (⟨#[c]⟩ : Str))).map (·.length)).sum = cs.length := by
      clear h1 h3
      induction cs with
      | nil => rfl
      | cons a l ih =>
        rw [List.map_cons, List.map_cons, List.sum_cons, ih, List.length_cons]
        show 1 + l.length = l.length + 1
        omega
    rw [e, List.length_map]
    show cs.length + cs.length * 0 ≤ _
    simp only [List.mem_cons, List.not_mem_nil, or_false] at h1
    omega
  · obtain ⟨ys, ⟨cs, rfl, h1, h3⟩, rfl⟩ := r
    rw [join_signs]
    exact ⟨_, rfl, nm_signs h1 h3⟩
theorem word_end (o : Ok (Wp p) F H) (hts : ts.length < 78) (hu : Li (ts.map fun y => Is (.str y)) u F) (hw : Nm wv F) (q : ∀ v F' H', Gw (Wp p) F H F' H' → Word ts v F' → Q v H') : t_wEnd K { nx := fun _ H' => Q .non H', rt := Q } (wS p (some u) (some s3) (some wv) none none) H := by
  have mo : ∀ l : List Str, ∀ R ∈ l.map (fun y => Is (.str y)), Mo R := fun l => mos_map (f := fun y : Str => Is (.str y)) (fun y => Is.mo _) l
  obtain ⟨s, rfl, hs⟩ := hw
  refine q_asgS (fun x => wS p (some u) (some s3) (some (.str s)) (some x) none) o (word_spare o) fun x6 F1 H1 g1 r1 => ?_
  have o1 := g1.ok o
  have hu1 := Li.mo (mo ts) _ _ _ g1.g.ff hu
  refine q_asgS (fun x => wS p (some u) (some s3) (some (.str s)) (some x6) (some x)) o1 (word_free o1 hu1 r1) fun x8 F2 H2 g2 r2 => ?_
  have o2 := g2.ok o1
  have hu2 := Li.mo (mo ts) _ _ _ g2.g.ff hu1
  have g12 := g1.trans o g2
  have ht : EvT (Wp p) (!decide (s ∈ ts)) (tTest (tOp (rIn K true) (tVar 4) (tVar 1))) (wS p (some u) (some s3) (some (.str s)) (some x6) (some x8)) F2 H2 := et_val (ev_op o2 (Is.mo _) (ev_var o2 (Is.mo _) rfl rfl) (ev_var o2 (Li.mo (mo ts)) rfl hu2) ow_notInS)
  refine ht F2 H2 o2.refl _ fun F3 H3 g3 => ?_
  have o3 := g3.ok o2
  have g13 := g12.trans o g3
  cases hb : (!decide (s ∈ ts)) with
  | true =>
    refine (if_pos rfl).mpr ⟨_, rfl, q _ F3 H3 g13 ⟨s, rfl, hs, fun z => ?_⟩⟩
    rw [decide_eq_true z] at hb
    cases hb
  | false =>
    refine (if_neg (by decide)).mpr ?_
    cases hf : (spareL.filter fun y => !decide (y ∈ ts)) with
    | nil =>
      exfalso
      have h78 := nodup_le spareL ts spare_nd fun x hx => by
        have := List.filter_eq_nil_iff.mp hf x hx
        simpa using this
      have : spareL.length = 78 := by rw [spareL, List.length_map, List.length_range]
      omega
    | cons y l =>
      rw [hf] at r2
      have hy : y ∈ spareL ∧ (!decide (y ∈ ts)) = true := List.mem_filter.mp (by rw [hf]; exact List.mem_cons_self)
      have r3 := Li.mo (mo (y :: l)) _ _ _ g3.g.ff r2
      refine ev_op (T := Is (.str y)) o3 (Li.mo (mo (y :: l))) (ev_var (i := 8) o3 (Li.mo (mo (y :: l))) rfl r3) (ev_c (v := .int 0) o3 fun _ => rfl) (ow_ix (K := K) (Rs := (y :: l).map fun y => Is (.str y)) fun xs hx => ⟨0, ?_, rfl⟩) F3 H3 o3.refl _ fun v F4 H4 g4 r => q v F4 H4 (g13.trans o g4) ⟨y, r, spare_nm y hy.1, fun z => ?_⟩
      · cases xs with
        | nil => cases hx
        | cons a b =>
          unfold atI ixN
          rw [if_pos (by decide), if_pos (by simp only [List.length_cons]; omega)]
          rfl
      · have := hy.2
        rw [decide_eq_true z] at this
        cases this
theorem pure_word {vs : List V} {E : XK} (h : spWord vs H Q E) : t_word K { nx := fun _ H' => Q .non H', rt := Q } (L2.start ["pot", "taken", "letters", "some", "word", "turn", "spare", "k", "free", "one"] vs) H := by
  obtain ⟨⟨p, ts, hts⟩, F, o, al, q⟩ := h
  have hts : ts.length < 78 := hts
  have mo : ∀ l : List Str, ∀ R ∈ l.map (fun y => Is (.str y)), Mo R := fun l => mos_map (f := fun y : Str => Is (.str y)) (fun y => Is.mo _) l
  obtain ⟨u, rfl, hu⟩ : ∃ u, vs = [.ref p, u] ∧ Li (ts.map fun y => Is (.str y)) u F := by
    cases al with
    | cons h r =>
      cases r with
      | cons h2 r =>
        cases r
        obtain rfl := h
        exact ⟨_, rfl, h2⟩
  refine q_asgS (R := Is (.str letters)) (fun x => [some (.ref p), some u, some x, none, none, none, none, none, none, none]) o (ev_c o fun _ => rfl) fun v1 F1 H1 g1 r1 => ?_
  obtain rfl := r1
  have o1 := g1.ok o
  have hu1 := Li.mo (mo ts) _ _ _ g1.g.ff hu
  refine q_asgS (R := Li (somes.map fun y => Is (.str y))) (fun x => wS p (some u) (some x) none none none) o1 (ev_lst o1 (mo somes) (ea_cons o1 (Is.mo _) (ev_c o1 fun _ => rfl) (ea_cons o1 (Is.mo _) (ev_c o1 fun _ => rfl) (ea_cons o1 (Is.mo _) (ev_c o1 fun _ => rfl) (ea_cons o1 (Is.mo _) (ev_c o1 fun _ => rfl) (ea_cons o1 (Is.mo _) (ev_c o1 fun _ => rfl) (ea_cons o1 (Is.mo _) (ev_c o1 fun _ => rfl) (ea_cons o1 (Is.mo _) (ev_c o1 fun _ => rfl) (ea_cons o1 (Is.mo _) (ev_c o1 fun _ => rfl) (ea_cons o1 (Is.mo _) (ev_c o1 fun _ => rfl) (ea_cons o1 (Is.mo _) (ev_c o1 fun _ => rfl) (ea_nil o1))))))))))) (show 10 ≤ 100000 by decide)) fun s3 F2 H2 g2 r2 => ?_
  have o2 := g2.ok o1
  have hu2 := Li.mo (mo ts) _ _ _ g2.g.ff hu1
  have G2 := g1.trans o g2
  refine q_asgS (R := Nm) (fun x => wS p (some u) (some s3) (some x) none none) o2 (EvW.imp (ev_call (wf := fun a : ChA => Wp a.p) (A := fun a => [Is (.ref a.p), Li a.Rs]) (Rf := fun a => Some_ a.Rs) ⟨p, somes.map fun y => Is (.str y), mo somes, (show 0 < 10 by decide), (show 10 < 1000000 by decide)⟩ o2
    (ea_cons o2 (Is.mo _) (ev_var o2 (Is.mo _) rfl rfl) (ea_cons o2 (Li.mo (mo somes)) (ev_var o2 (Li.mo (mo somes)) rfl r2) (ea_nil o2)))) fun v F' _ ⟨R, hR, r⟩ => by
      obtain ⟨y, hy, rfl⟩ := List.mem_map.mp hR
      exact ⟨y, r, somes_nm y hy⟩) fun wv F3 H3 g3 r3 => ?_
  have o3 := g3.ok o2
  have hu3 := Li.mo (mo ts) _ _ _ g3.g.ff hu2
  have G3 := G2.trans o g3
  refine q_ifN o3 (ev_op o3 Dr.mo (ev_draw (n := 3) o3 rfl (by decide) (by decide) (ev_c o3 fun _ => rfl)) (ev_c o3 fun _ => rfl) ow_gtDr) (fun F4 H4 g4 => ?_) (fun F4 H4 g4 => ?_)
  · have o4 := g4.ok o3
    have hu4 := Li.mo (mo ts) _ _ _ g4.g.ff hu3
    have G4 := G3.trans o g4
    refine s_asg (i := 4) o4 (word_join o4) fun w2 F5 H5 g5 r5 => ?_
    have o5 := g5.ok o4
    exact word_end (s3 := s3) (wv := w2) o5 hts (Li.mo (mo ts) _ _ _ g5.g.ff hu4) r5 fun v F' H' g r => q v F' H' ((G4.trans o g5).trans o g) r
  · have o4 := g4.ok o3
    exact word_end (s3 := s3) (wv := wv) o4 hts (Li.mo (mo ts) _ _ _ g4.g.ff hu3) (Nm.mo _ _ _ g4.g.ff r3) fun v F' H' g r => q v F' H' ((G3.trans o g4).trans o g) r
end
end QW

set_option Elab.async false
set_option linter.all false
set_option maxRecDepth 100000
set_option maxHeartbeats 1000000
/-! QWords: several drawn words, all different. -/
namespace QW
open PySem PySem.Spec PyProof.Rows L2 QR
structure WsA where
  p : Addr
  n : Nat
  h : n < 78
abbrev Txts (ts : List Str) : Pr := Li (ts.map fun y => Is (.str y))
theorem Txts.mo (ts : List Str) : Mo (Txts ts) := Li.mo (mos_map (f := fun y : Str => Is (.str y)) (fun y => Is.mo _) ts)
/-- different names -/
structure Names (ts : List Str) : Prop where
  nd : ts.Nodup
  nm : ∀ s ∈ ts, wordS s = true
def Words (n : Nat) : Pr := fun v F => ∃ ts : List Str, ts.length = n ∧ Names ts ∧ Txts ts v F
theorem Words.mo (n : Nat) : Mo (Words n) := fun _ _ _ e ⟨ts, h1, h2, h3⟩ => ⟨ts, h1, h2, Txts.mo ts _ _ _ e h3⟩
def spWords : Sp := spW (fun a : WsA => Wp a.p) (fun a => [Is (.ref a.p), Is (.int a.n)]) fun a => Words a.n
theorem spWords.len : ∀ vs H Q E, spWords vs H Q E → vs.length = 2 := spW.len fun _ => rfl
def t_wsBody (K : PySem.W.Frag) : TS := tDrop (tBM K "list" rAppend (tVar 2) (tCons (tCall spWord [] E0 (tCons (tVar 0) (tCons (tVar 2) tNil))) tNil))
def t_wsEnd (K : PySem.W.Frag) : TS := tSeq (tFor (iRng1 (tCons (tVar 1) tNil)) (gName 3) (t_wsBody K)) (tRet (tVar 2))
def t_words (K : PySem.W.Frag) : TS := tSeq (tAsg (tLst tNil) (gName 2)) (t_wsEnd K)
theorem al_strs {F : Hp} : ∀ ts : List Str, Al (ts.map fun y => Is (.str y)) (ts.map V.str) F
  | [] => .nil
  | t :: ts => .cons rfl (al_strs ts)
theorem pure_words {K : PySem.W.Frag} {vs : List V} {H : Hp} {Q : VK} {E : XK} (h : spWords vs H Q E) : t_words K { nx := fun _ H' => Q .non H', rt := Q } (L2.start ["pot", "many", "found", "turn"] vs) H := by
  obtain ⟨⟨p, n, hn⟩, F, o, al, q⟩ := h
  have hn : n < 78 := hn
  obtain rfl := Al.is (f := fun v : V => v) (xs := [.ref p, .int n]) al
  refine ⟨(by decide : 0 ≤ sizeLine), fun l hl => ?_⟩
  show t_wsEnd K { nx := fun _ H' => Q .non H', rt := Q } [some (.ref p), some (.int n), some (.ref l), none] (upd H l (.lst []))
  have nl : F l = none := same_none o.s hl
  have lp : l ≠ p := fun z => (Wp p).tr H o.j p List.mem_cons_self (by rw [← z]; exact hl)
  have o1 : Ok (Wp p) F (upd H l (.lst [])) := ((o.refl).temp hl).ok o
  have nlM : l ∉ (Wp p).M := fun z => lp (by simpa [Wp] using z)
  have o2 : Ok ((Wp p).add l fun o => ∃ ys, o = .lst ys) F (upd H l (.lst [])) := o1.add nl upd_same ⟨[], rfl⟩
  have sub : Sub (Wp p) ((Wp p).add l fun o => ∃ ys, o = .lst ys) := Sub.add nlM
  have hj := ej_range (w := (Wp p).add l fun o => ∃ ys, o = .lst ys) (n := (n : Int)) sub o2 (by omega) (by omega) (σ := [some (.ref p), some (.int n), some (.ref l), none]) (tas := tCons (tVar 1) tNil) (ea_cons o1 (Is.mo _) (ev_var o1 (Is.mo _) rfl rfl) (ea_nil o1))
  rw [Int.toNat_natCast] at hj
  refine q_forJ sub o2 hj (fun i σ' G H' => (∃ x3, σ' = [some (.ref p), some (.int n), some (.ref l), x3]) ∧ G l = none ∧ ∃ ts : List Str, ts.length = i ∧ Names ts ∧ H' l = some (.lst (ts.map V.str)))
    (fun F' H' g => ⟨⟨_, rfl⟩, g.g.nw l nl (by rw [upd_same]; exact nofun), [], rfl, ⟨List.nodup_nil, nofun⟩, g.g.hh l _ nlM upd_same⟩) (fun i x σ' G0 H0 G H' N hi g0 iv g1 hx k => ?_) fun σ' G H' g iv => ?_
  · obtain ⟨⟨x3, rfl⟩, k0, ts, h1, h2, h3⟩ := iv
    have oo := (sub.gw _ _ _ _ (g0.ok o2) g1).ok (g0.ok o2)
    have oP := sub.ok _ _ oo
    have e1 : H' l = some (.lst (ts.map V.str)) := g1.g.hh l _ nlM h3
    have k1 : G l = none := g1.g.nw l k0 (by rw [h3]; exact nofun)
    have sF : Same G (upd G l (.lst (ts.map V.str))) := same_upd k1
    have oF : Ok (Wp p) (upd G l (.lst (ts.map V.str))) H' := ⟨fun b u e => by
      by_cases hb : b = l
      · rw [hb, upd_same] at e; rw [hb, e1]; exact e
      · rw [upd_ne hb] at e; exact oP.s b u e, oP.j, fun m hm => by
      rw [upd_ne (fun z => nlM (by rw [← z]; exact hm))]
      exact oP.m m hm⟩
    refine ⟨_, rfl, .inl ⟨rfl, _, .of e1⟩, _, rfl, _, rfl, ⟨p, ts, by omega⟩, _, oF, .cons rfl (.cons ⟨l, _, rfl, upd_same, al_strs ts⟩ .nil), fun v F2 H2 g2 r2 => ?_⟩
    obtain ⟨s, rfl, hs, hns⟩ := r2
    have e2 : H2 l = some (.lst (ts.map V.str)) := g2.g.hh l _ nlM e1
    refine ⟨l, _, _, rfl, rfl, e2, Evl.sz_lt (by rw [List.length_map]; omega), ?_⟩
    refine k _ G _ ((sub.gw _ _ _ _ oo (Gw.forget oP sF g2)).mutA nlM k1 ⟨_, rfl⟩) ⟨⟨_, rfl⟩, k1, ts ++ [s], by rw [List.length_append, h1]; rfl, ⟨?_, fun y hy => ?_⟩, by rw [upd_same, List.map_append]; rfl⟩
    · rw [List.nodup_append]
      refine ⟨h2.nd, by simp, fun a ha b hb => ?_⟩
      rw [List.mem_singleton.mp hb]
      exact fun z => hns (by rw [← z]; exact ha)
    · rcases List.mem_append.mp hy with hy | hy
      · exact h2.nm y hy
      · rw [List.mem_singleton.mp hy]; exact hs
  · obtain ⟨⟨x3, rfl⟩, k0, ts, h1, h2, h3⟩ := iv
    have gd := Gw.dropA o ((o.refl).temp hl) hl g
    exact ⟨_, rfl, q (.ref l) (upd G l (.lst (ts.map V.str))) H' ⟨gd.g.keep hl k0 h3, gd.j⟩ ⟨ts, h1, h2, l, _, rfl, upd_same, al_strs ts⟩⟩
end QW

set_option Elab.async false
set_option linter.all false
set_option maxRecDepth 100000
set_option maxHeartbeats 1000000
/-! QDict: dicts whose keys are texts, by what holds of their values. -/
namespace QW
open PySem PySem.Spec PyProof.Rows L2 QR
/-- a dict with these keys in this order, its values with these properties -/
def Dk (ks : List Str) (Rs : List Pr) : Pr := fun v F => ∃ (a : Addr) (vs : List V), v = .ref a ∧ F a = some (.dK ((ks.zip vs).map QSo.entK)) ∧ Al Rs vs F ∧ Rs.length = ks.length
theorem Dk.mo {ks : List Str} {Rs : List Pr} (m : ∀ R ∈ Rs, Mo R) : Mo (Dk ks Rs) := fun _ _ _ e ⟨a, vs, h1, h2, h3, h4⟩ => ⟨a, vs, h1, e _ _ h2, h3.mono e m, h4⟩
theorem valV_zip {k : Str} {v : V} : ∀ {ks : List Str} {vs : List V} {i : Nat}, ks.Nodup → ks[i]? = some k → vs[i]? = some v → valV ((ks.zip vs).map QSo.entK) (Sum.inr k : Key) = some v
  | [], _, i, _, h, _ => by simp at h
  | a :: ks, [], i, _, _, h => by simp at h
  | a :: ks, b :: vs, 0, _, h1, h2 => by
    simp only [List.getElem?_cons_zero] at h1 h2
    cases h1
    cases h2
    unfold valV
    rw [List.zip_cons_cons, List.map_cons, List.find?_cons_of_pos (by exact decide_eq_true rfl)]
    rfl
  | a :: ks, b :: vs, i + 1, hn, h1, h2 => by
    rw [List.nodup_cons] at hn
    rw [List.getElem?_cons_succ] at h1 h2
    have ne : a ≠ k := fun z => hn.1 (by rw [z]; exact List.mem_of_getElem? h1)
    have ih := valV_zip (ks := ks) (vs := vs) (i := i) hn.2 h1 h2
    unfold valV at ih ⊢
    rw [List.zip_cons_cons, List.map_cons, List.find?_cons_of_neg (by
      have : ¬ ((Sum.inr a : Key) = Sum.inr k) := fun z => ne (Sum.inr.inj z)
      simpa using ne)]
    exact ih
section
variable {w : Wd} {σ : L2.St} {F H : Hp} {td ty : TE} {ks : List Str} {Rs : List Pr} {R : Pr} {k : Str}
/-- d[k] -/
theorem ev_dget {i : Nat} (o : Ok w F H) (m : ∀ R ∈ Rs, Mo R) (hd : EvW w (Dk ks Rs) td σ F H) (hk : EvW w (Is (.str k)) ty σ F H) (hn : ks.Nodup) (h1 : ks[i]? = some k) (h2 : Rs[i]? = some R) : EvW w R (tDGet td ty) σ F H := fun F1 H1 g Q q =>
  hd F1 H1 g _ fun x F2 H2 g2 rx => hk F2 H2 (g.trans o g2) _ fun y F3 H3 g3 ry => by
    obtain ⟨a, vs, rfl, e1, al, hl⟩ := rx
    obtain rfl : y = .str k := ry
    have o1 := g.ok o
    have o3 := g3.ok (g2.ok o1)
    have e3 : H3 a = some (.dK ((ks.zip vs).map QSo.entK)) := o3.s _ _ (g3.g.ff _ _ e1)
    have hi : i < Rs.length := (List.getElem?_eq_some_iff.mp h2).1
    obtain ⟨v, hv, r⟩ := Al.at al hi
    have eR : Rs[i] = R := by
      rw [List.getElem?_eq_getElem hi] at h2
      exact Option.some.inj h2
    rw [eR] at r
    refine ⟨a, v, rfl, ?_, q v F3 H3 (g2.trans o1 g3) (m R (List.mem_of_getElem? h2) _ _ _ g3.g.ff r)⟩
    have := DGet.k (k := (Sum.inr k : Key)) e3
    rw [valV_zip hn h1 hv] at this
    exact this
end
end QW

set_option Elab.async false
set_option linter.all false
set_option maxRecDepth 100000
set_option maxHeartbeats 1000000
/-! QOne: is a datum one of some names (a list of texts, a dict with such keys)? -/
namespace QK
open PySem PySem.Spec PyProof.Rows L2
abbrev rInDk : R2 := fun x y H Q => ∃ a o, y = .ref a ∧ DGet H a x o ∧ Q (.bl o.isSome) H
theorem op_in_dict {X : Cx} (hu : X.A.units + 1 < cLine) : OpR X (compareOp .In) rInDk := by
  intro pins s σ H x y v u Q I rx ry h
  obtain ⟨a, ov, rfl, g, q⟩ := h
  obtain rfl : u = Value.ref a := ry
  exact d_in hu I g rx fun s3 I3 => ⟨.bl ov.isSome, H, I3, rfl, q⟩
abbrev rInOne (K : PySem.W.Frag) : R2 := fun x y H Q => rIn K false x y H Q ∨ rInDk x y H Q
theorem op_in_one {X : Cx} {K : PySem.W.Frag} (hK : X.K = K) (hu : X.A.units + 1 < cLine) : OpR X (compareOp .In) (rInOne K) := (op_in_seq hK).or (op_in_dict hu)
end QK
namespace QW
open PySem PySem.Spec PyProof.Rows L2 QR
section
variable {w : Wd} {σ : L2.St} {F H : Hp} {ta tb : TE} {a b : Bool}
theorem ev_andV (o : Ok w F H) (h1 : EvW w (Is (.bl a)) ta σ F H) (h2 : a = true → EvW w (Is (.bl b)) tb σ F H) : EvW w (Is (.bl (a && b))) (tAndV ta tb) σ F H := fun F1 H1 g Q q =>
  h1 F1 H1 g _ fun x F2 H2 g2 r => ⟨a, r, by
    cases a with
    | true => exact (if_pos rfl).mpr (h2 rfl F2 H2 (g.trans o g2) _ fun v F3 H3 g3 r => q v F3 H3 (g2.trans (g.ok o) g3) r)
    | false => exact (if_neg (by decide)).mpr (q _ F2 H2 g2 rfl)⟩
theorem ev_orV (o : Ok w F H) (h1 : EvW w (Is (.bl a)) ta σ F H) (h2 : a = false → EvW w (Is (.bl b)) tb σ F H) : EvW w (Is (.bl (a || b))) (tOrV ta tb) σ F H := fun F1 H1 g Q q =>
  h1 F1 H1 g _ fun x F2 H2 g2 r => ⟨a, r, by
    cases a with
    | true => exact (if_pos rfl).mpr (q _ F2 H2 g2 rfl)
    | false => exact (if_neg (by decide)).mpr (h2 rfl F2 H2 (g.trans o g2) _ fun v F3 H3 g3 r => q v F3 H3 (g2.trans (g.ok o) g3) r)⟩
theorem ev_notV (h1 : EvW w (Is (.bl a)) ta σ F H) : EvW w (Is (.bl (!a))) (tNotV ta) σ F H := fun F1 H1 g Q q => h1 F1 H1 g _ fun x F2 H2 g2 r => ⟨a, r, q _ F2 H2 g2 rfl⟩
end
/-- names, in a list or as the keys of a dict -/
def NmsOf (ks : List Str) (R : Pr) : Prop := (∀ v F, R v F → Txts ks v F) ∨ ∃ Rs, ∀ v F, R v F → Dk ks Rs v F
theorem valV_none {k : Str} : ∀ {ks : List Str} {vs : List V}, k ∉ ks → valV ((ks.zip vs).map QSo.entK) (Sum.inr k : Key) = none
  | [], _, _ => rfl
  | a :: ks, [], _ => rfl
  | a :: ks, b :: vs, h => by
    have ne : a ≠ k := fun z => h (by rw [z]; exact List.mem_cons_self)
    have ih := valV_none (ks := ks) (vs := vs) fun z => h (List.mem_cons_of_mem _ z)
    unfold valV at ih ⊢
    rw [List.zip_cons_cons, List.map_cons, List.find?_cons_of_neg (by simpa using ne)]
    exact ih
theorem valV_some {k : Str} : ∀ {ks : List Str} {vs : List V}, k ∈ ks → vs.length = ks.length → ∃ v, valV ((ks.zip vs).map QSo.entK) (Sum.inr k : Key) = some v
  | a :: ks, b :: vs, h, hl => by
    by_cases ne : a = k
    · subst ne
      exact ⟨b, by unfold valV; rw [List.zip_cons_cons, List.map_cons, List.find?_cons_of_pos (by exact decide_eq_true rfl)]; rfl⟩
    · have h' : k ∈ ks := (List.mem_cons.mp h).resolve_left fun z => ne z.symm
      obtain ⟨v, ih⟩ := valV_some (ks := ks) (vs := vs) h' (by simpa using hl)
      refine ⟨v, ?_⟩
      unfold valV at ih ⊢
      rw [List.zip_cons_cons, List.map_cons, List.find?_cons_of_neg (by simpa using ne)]
      exact ih
theorem ow_inOne {K : PySem.W.Frag} {w : Wd} {s : Str} {ks : List Str} {R : Pr} (hR : NmsOf ks R) : OpW w (QK.rInOne K) (Is (.str s)) R (Is (.bl (decide (s ∈ ks)))) := fun x y F H o rx ry Q q => by
  obtain rfl : x = .str s := rx
  rcases hR with hR | ⟨Rs, hR⟩
  · obtain ⟨l, us, rfl, e1, al⟩ := hR _ _ ry
    obtain rfl : us = ks.map V.str := al.is
    refine .inl ⟨l, _, rfl, .inl (.of (o.s _ _ e1)), rfl, flat_strs ks, ?_⟩
    rw [if_neg (by decide), inV_str]
    exact q _ F H o.refl rfl
  · obtain ⟨a, vs, rfl, e1, al, hl⟩ := hR _ _ ry
    have e3 := o.s _ _ e1
    refine .inr ⟨a, _, rfl, DGet.k (k := (Sum.inr s : Key)) e3, ?_⟩
    by_cases h : s ∈ ks
    · obtain ⟨v, e⟩ := valV_some h (al.length.trans hl)
      rw [e]
      exact q _ F H o.refl (by rw [decide_eq_true h]; rfl)
    · rw [valV_none h]
      exact q _ F H o.refl (by rw [decide_eq_false h]; rfl)
def isOne (ks : List Str) : PyData → Bool
  | .str z => decide (z ∈ ks)
  | _ => false
structure OnA where
  d : PyData
  ks : List Str
  R : Pr
  m : Mo R
  h : NmsOf ks R
def spOne (K : PySem.W.Frag) : Sp := spW (fun _ : OnA => W0) (fun a => [Da K a.d, a.R]) fun a => Is (.bl (isOne a.ks a.d))
theorem spOne.len {K : PySem.W.Frag} : ∀ vs H Q E, spOne K vs H Q E → vs.length = 2 := spW.len fun _ => rfl
def t_isone (K : PySem.W.Frag) : TS := tRet (tAndV (tCB (rIsi K) (tCons (tVar 0) (tCons (tC (.ty "str")) tNil))) (tOp (QK.rInOne K) (tVar 0) (tVar 1)))
theorem pure_isone {K : PySem.W.Frag} {vs : List V} {H : Hp} {Q : VK} {E : XK} (h : spOne K vs H Q E) : t_isone K { nx := fun _ H' => Q .non H', rt := Q } (L2.start ["value", "names"] vs) H := by
  obtain ⟨⟨d, ks, R, m, hR⟩, F, o, al, q⟩ := h
  obtain ⟨v, u, rfl, hv, hu⟩ : ∃ v u, vs = [v, u] ∧ Da K d v F ∧ R u F := by
    cases al with
    | cons h r =>
      cases r with
      | cons h2 r => cases r; exact ⟨_, _, rfl, h, h2⟩
  have hi : EvW W0 (Is (.bl (isStr d))) (tCB (rIsi K) (tCons (tVar 0) (tCons (tC (.ty "str")) tNil))) [some v, some u] F H := ev_cb o (ea_cons o (Da.mo K d) (ev_var o (Da.mo K d) rfl hv) (ea_cons o (Is.mo _) (ev_c o fun _ => rfl) (ea_nil o))) (ca_isiD (kit_str d))
  refine q_ret (R := Is (.bl (isOne ks d))) o ?_ q
  by_cases hs : isStr d = true
  · obtain ⟨z, rfl⟩ : ∃ z, d = .str z := by cases d <;> first | exact ⟨_, rfl⟩ | cases hs
    obtain rfl : v = .str z := by cases hv; rfl
    exact ev_andV o hi fun _ => ev_op o (Is.mo _) (ev_var o (Is.mo _) rfl rfl) (ev_var o m rfl hu) (ow_inOne hR)
  · have hs' : isStr d = false := by cases e : isStr d with
      | true => exact (hs e).elim
      | false => rfl
    rw [hs'] at hi
    have e : isOne ks d = (false && false) := by cases d <;> first | rfl | (cases hs')
    rw [e]
    exact ev_andV o hi fun z => by cases z
end QW

set_option Elab.async false
set_option linter.all false
set_option maxRecDepth 100000
set_option maxHeartbeats 1000000
/-! QIns: instances of own classes, by what holds of their fields. -/
namespace QK
open PySem PySem.Spec PyProof.Rows L2
theorem pe_fld {X : Cx} {K : PySem.W.Frag} {e : Expr} {ta : TE} {f : Str} {pos : Pos} (hK : X.K = K) (he : PE X e ta) (hb : attributeBase e f X.env (eval e X.env) = eval e X.env := by rfl) : PE X (.Attribute e f pos) (tFld K ta f) := by
  subst hK
  exact L2.pe_fld he hb
end QK
namespace QW
open PySem PySem.Spec PyProof.Rows L2 QR
/-- an instance of the class at C with these fields -/
def Ins (C : Addr) (ns : List Str) (Rs : List Pr) : Pr := fun v F => ∃ (a dx : Addr) (vs : List V), v = .ref a ∧ F a = some (.ins C dx (ns.zip vs)) ∧ Al Rs vs F ∧ Rs.length = ns.length
theorem Ins.mo {C : Addr} {ns : List Str} {Rs : List Pr} (m : ∀ R ∈ Rs, Mo R) : Mo (Ins C ns Rs) := fun _ _ _ e ⟨a, dx, vs, h1, h2, h3, h4⟩ => ⟨a, dx, vs, h1, e _ _ h2, h3.mono e m, h4⟩
theorem lookup_zip {f : Str} {v : V} : ∀ {ns : List Str} {vs : List V} {i : Nat}, ns.Nodup → ns[i]? = some f → vs[i]? = some v → (ns.zip vs).lookup f = some v
  | [], _, i, _, h, _ => by simp at h
  | a :: ks, [], i, _, _, h => by simp at h
  | a :: ks, b :: vs, 0, _, h1, h2 => by
    simp only [List.getElem?_cons_zero] at h1 h2
    cases h1
    cases h2
    rw [List.zip_cons_cons, List.lookup_cons, beq_self_eq_true]
  | a :: ks, b :: vs, i + 1, hn, h1, h2 => by
    rw [List.nodup_cons] at hn
    rw [List.getElem?_cons_succ] at h1 h2
    have ne : a ≠ f := fun z => hn.1 (by rw [z]; exact List.mem_of_getElem? h1)
    rw [List.zip_cons_cons, List.lookup_cons, show (f == a) = false from beq_eq_false_iff_ne.mpr (Ne.symm ne)]
    exact lookup_zip hn.2 h1 h2
section
variable {K : PySem.W.Frag} {w : Wd} {σ : L2.St} {F H : Hp} {te : TE} {C : Addr} {ns : List Str} {Rs : List Pr} {R : Pr} {f : Str}
/-- o.f -/
theorem ev_fld {i : Nat} (o : Ok w F H) (m : ∀ R ∈ Rs, Mo R) (c : Cls K C) (n : NoAttr K C f) (h : EvW w (Ins C ns Rs) te σ F H) (hn : ns.Nodup) (h1 : ns[i]? = some f) (h2 : Rs[i]? = some R) : EvW w R (tFld K te f) σ F H := fun F1 H1 g Q q =>
  h F1 H1 g _ fun x F2 H2 g2 rx => by
    obtain ⟨a, dx, vs, rfl, e1, al, hl⟩ := rx
    have o2 := g2.ok (g.ok o)
    obtain ⟨R', e, r⟩ : ∃ v, vs[i]? = some v ∧ R v F2 := by
      have hi : i < Rs.length := (List.getElem?_eq_some_iff.mp h2).1
      obtain ⟨v, hv, r⟩ := Al.at al hi
      have eR : Rs[i] = R := by
        rw [List.getElem?_eq_getElem hi] at h2
        exact Option.some.inj h2
      rw [eR] at r
      exact ⟨v, hv, r⟩
    exact ⟨a, C, dx, _, R', rfl, o2.s _ _ e1, c, n, lookup_zip hn h1 e, q R' F2 H2 g2 r⟩
end
end QW

set_option Elab.async false
set_option linter.all false
set_option maxRecDepth 100000
set_option maxHeartbeats 1000000
/-! QTo: the order of types: a dict from each name to the list of names at or above it. -/
namespace QW
open PySem PySem.Spec PyProof.Rows L2 QR
theorem ow_inTx {K : PySem.W.Frag} {w : Wd} {s : Str} {ts : List Str} : OpW w (rIn K false) (Is (.str s)) (Txts ts) (Is (.bl (decide (s ∈ ts)))) := fun x y F H o rx ry Q q => by
  obtain rfl : x = .str s := rx
  obtain ⟨l, us, rfl, e1, al⟩ := ry
  obtain rfl : us = ts.map V.str := al.is
  refine ⟨l, _, rfl, .inl (.of (o.s _ _ e1)), rfl, flat_strs ts, ?_⟩
  rw [if_neg (by decide), inV_str]
  exact q _ F H o.refl rfl
/-- the names at or above each -/
abbrev Ups : Type := List (Str × List Str)
abbrev upD (u : Ups) : Pr := Dk (u.map (·.1)) (u.map fun p => Txts p.2)
def Ord (C : Addr) (u : Ups) : Pr := Ins C ["own_ups"] [upD u]
theorem upD.mo (u : Ups) : Mo (upD u) := Dk.mo (mos_map (f := fun p : Str × List Str => Txts p.2) (fun p => Txts.mo p.2) u)
theorem Ord.mo (C : Addr) (u : Ups) : Mo (Ord C u) := Ins.mo (mos_cons (upD.mo u) mos_nil)
structure BeA where
  u : Ups
  nd : (u.map (·.1)).Nodup
  i : Nat
  one : Str
  ts : List Str
  h : u[i]? = some (one, ts)
  other : Str
def spBelow (C : Addr) : Sp := spW (fun _ : BeA => W0) (fun a => [Ord C a.u, Is (.str a.one), Is (.str a.other)]) fun a => Is (.bl (decide (a.other ∈ a.ts)))
theorem spBelow.len {C : Addr} : ∀ vs H Q E, spBelow C vs H Q E → vs.length = 3 := spW.len fun _ => rfl
def t_below (K : PySem.W.Frag) : TS := tRet (tOp (rIn K false) (tVar 2) (tDGet (tFld K (tVar 0) "own_ups") (tVar 1)))
theorem pure_below {K : PySem.W.Frag} {C : Addr} (c : Cls K C) (n : NoAttr K C "own_ups") {vs : List V} {H : Hp} {Q : VK} {E : XK} (h : spBelow C vs H Q E) : t_below K { nx := fun _ H' => Q .non H', rt := Q } (L2.start ["self", "one", "other"] vs) H := by
  obtain ⟨⟨u, nd, i, one, ts, hi, other⟩, F, o, al, q⟩ := h
  obtain ⟨v, rfl, hv⟩ : ∃ v, vs = [v, .str one, .str other] ∧ Ord C u v F := by
    cases al with
    | cons h r =>
      cases r with
      | cons h2 r =>
        cases r with
        | cons h3 r =>
          cases r
          obtain rfl := h2
          obtain rfl := h3
          exact ⟨_, rfl, h⟩
  have hi' : u[i]? = some (one, ts) := hi
  have mu := mos_map (f := fun p : Str × List Str => Txts p.2) (fun p => Txts.mo p.2) u
  exact q_ret (R := Is (.bl (decide (other ∈ ts)))) o (ev_op o (Is.mo _) (ev_var o (Is.mo _) rfl rfl)
    (ev_dget (ks := u.map (·.1)) (Rs := u.map fun p => Txts p.2) (R := Txts ts) (k := one) (i := i) o mu (ev_fld (i := 0) (ns := ["own_ups"]) (Rs := [upD u]) o (mos_cons (upD.mo u) mos_nil) c n (ev_var o (Ord.mo C u) rfl hv) (by decide) rfl rfl)
      (ev_var o (Is.mo _) rfl rfl) nd (by rw [List.getElem?_map, hi']; rfl) (by rw [List.getElem?_map, hi']; rfl)) ow_inTx) q
end QW
namespace QW
open PySem PySem.Spec PyProof.Rows L2 QR
section
variable {K : PySem.W.Frag} {w : Wd} {σ : L2.St} {F H : Hp} {ta te : TE} {tas : TA} {C : Addr} {ns : List Str} {m : Str}
/-- o.m(..): a method that keeps what it is given -/
theorem ev_meth {α : Type} {A : α → List Pr} {Rf : α → Pr} {R0 : Pr} {Rs : List Pr} {E : L2.St → XK} (a : α) (hA : A a = R0 :: Rs) (m0 : Mo R0) (hI : ∀ v F, R0 v F → ∃ b dx fs, v = .ref b ∧ F b = some (.ins C dx fs) ∧ fs.lookup m = none) (o : Ok w F H) (ho : EvW w R0 ta σ F H) (h : EvA w Rs tas σ F H) :
    EvW w (Rf a) (QC.tMethE C m (spW (fun _ => W0) A Rf) [] E ta tas) σ F H := fun F1 H1 g Q q =>
  ho F1 H1 g _ fun x F2 H2 g2 rx => by
    have o1 := g.ok o
    have o2 := g2.ok o1
    obtain ⟨b, dx, fs, rfl, e1, e2⟩ := hI _ _ rx
    refine ⟨b, dx, fs, rfl, o2.s _ _ e1, e2, h F2 H2 (g.trans o g2) _ fun vs F3 H3 g3 al => ?_⟩
    have o3 := g3.ok o2
    refine ⟨a, F3, ⟨o3.s, True.intro, fun _ z => nomatch z⟩, ?_, fun v F4 H4 c rv => q v F4 H4 ((g2.trans o1 g3).trans o1 (c.of0 o3)) rv⟩
    rw [hA, List.append_nil]
    exact .cons (m0 _ _ _ g3.g.ff rx) al
theorem Ord.ins {u : Ups} (hm : m ≠ "own_ups") : ∀ v F, Ord C u v F → ∃ b dx fs, v = .ref b ∧ F b = some (.ins C dx fs) ∧ fs.lookup m = none := fun v F ⟨b, dx, vs, h1, h2, h3, h4⟩ => by
  refine ⟨b, dx, _, h1, h2, ?_⟩
  cases vs with
  | nil => rfl
  | cons x vs =>
    show List.lookup m (("own_ups", x) :: List.zip [] vs) = none
    rw [List.lookup_cons, show (m == ("own_ups" : Str)) = false from beq_eq_false_iff_ne.mpr hm]
    rfl
end
/-- would_cycle(source, target): is source at or above target? -/
def spCyc (C : Addr) : Sp := spW (fun _ : BeA => W0) (fun a => [Ord C a.u, Is (.str a.other), Is (.str a.one)]) fun a => Is (.bl (decide (a.other ∈ a.ts)))
theorem spCyc.len {C : Addr} : ∀ vs H Q E, spCyc C vs H Q E → vs.length = 3 := spW.len fun _ => rfl
def t_cyc (C : Addr) : TS := tRet (QC.tMethE C "is_at_or_below" (spBelow C) [] (fun _ => E0) (tVar 0) (tCons (tVar 2) (tCons (tVar 1) tNil)))
theorem pure_cyc {C : Addr} {vs : List V} {H : Hp} {Q : VK} {E : XK} (h : spCyc C vs H Q E) : t_cyc C { nx := fun _ H' => Q .non H', rt := Q } (L2.start ["self", "source", "target"] vs) H := by
  obtain ⟨a, F, o, al, q⟩ := h
  obtain ⟨v, rfl, hv⟩ : ∃ v, vs = [v, .str a.other, .str a.one] ∧ Ord C a.u v F := by
    cases al with
    | cons h r =>
      cases r with
      | cons h2 r =>
        cases r with
        | cons h3 r =>
          cases r
          obtain rfl := h2
          obtain rfl := h3
          exact ⟨_, rfl, h⟩
  exact q_ret (R := Is (.bl (decide (a.other ∈ a.ts)))) o (ev_meth (A := fun a : BeA => [Ord C a.u, Is (.str a.one), Is (.str a.other)]) (Rf := fun a => Is (.bl (decide (a.other ∈ a.ts)))) a rfl (Ord.mo C a.u) (Ord.ins (by decide)) o (ev_var o (Ord.mo C a.u) rfl hv) (ea_cons o (Is.mo _) (ev_var o (Is.mo _) rfl rfl) (ea_cons o (Is.mo _) (ev_var o (Is.mo _) rfl rfl) (ea_nil o)))) q
end QW

set_option Elab.async false
set_option linter.all false
set_option maxRecDepth 100000
set_option maxHeartbeats 1000000
/-! QOwn: things of one's own that change: worlds by their addresses alone, promises that tell what changed. -/
namespace QW
open PySem PySem.Spec PyProof.Rows L2 QR
/-- what stands at M may change, but not go -/
def Wl (M : List Addr) : Wd := ⟨M, fun H => ∀ m ∈ M, H m ≠ none, fun H H' j k m hm => by
    cases q : H m with
    | none => exact (j m hm q).elim
    | some o => rw [k m o hm q]; exact nofun, fun H j => j⟩
section
variable {w : Wd} {M M' : List Addr} {F0 H0 F H F1 H1 F2 H2 : Hp} {m p d : Addr} {u : HO} {od : Obj}
theorem Gw.live (o : Ok w F0 H0) (g : Gw w F0 H0 F H) {b : Addr} (e : H0 b ≠ none) : H b ≠ none := by
  by_cases hb : b ∈ w.M
  · exact w.tr H g.j b hb
  · cases q : H0 b with
    | none => exact (e q).elim
    | some o => rw [g.g.hh b o hb q]; exact nofun
/-- what changes only things of one's own and new things -/
theorem Gw.nest (o : Ok (Wl M) F0 H0) (g : Gw (Wl M) F0 H0 F H) (g2 : Gw (Wl M') F H F1 H1) (h : ∀ m ∈ M', m ∈ M ∨ H0 m = none) : Gw (Wl M) F0 H0 F1 H1 := by
  have al : ∀ b, H b ≠ none → H1 b ≠ none := fun b e => by
    by_cases hb : b ∈ M'
    · exact g2.j b hb
    · cases q : H b with
      | none => exact (e q).elim
      | some o => rw [g2.g.hh b o hb q]; exact nofun
  refine ⟨⟨g.g.ff.trans g2.g.ff, g2.g.fh, fun b u hb e => ?_, fun b e1 e2 => g2.g.nw b (g.g.nw b e1 e2) (g.live o e2)⟩, fun m hm => al m (g.j m hm)⟩
  refine g2.g.hh b u (fun z => ?_) (g.g.hh b u hb e)
  rcases h b z with z | z
  · exact hb z
  · rw [z] at e; cases e
/-- what changes only new things -/
theorem Gw.nestW (o : Ok w F0 H0) (g : Gw w F0 H0 F H) (g2 : Gw (Wl M') F H F1 H1) (h : ∀ m ∈ M', H0 m = none) : Gw w F0 H0 F1 H1 := by
  refine ⟨⟨g.g.ff.trans g2.g.ff, g2.g.fh, fun b u hb e => ?_, fun b e1 e2 => g2.g.nw b (g.g.nw b e1 e2) (g.live o e2)⟩, w.st _ _ g.j fun m u hm e => g2.g.hh m u (fun z => w.tr H0 o.j m hm (h m z)) e⟩
  refine g2.g.hh b u (fun z => ?_) (g.g.hh b u hb e)
  rw [h b z] at e
  cases e
theorem Gw.mutL (g : Gw (Wl M) F0 H0 F H) (h : m ∈ M ∨ H0 m = none) (k : F m = none) : Gw (Wl M) F0 H0 F (upd H m u) := ⟨g.g.mut h.symm k, fun x hx => by
  by_cases e : x = m
  · rw [e, upd_same]; exact nofun
  · rw [upd_ne e]; exact g.j x hx⟩
theorem Gw.keepL (g : Gw w F0 H0 F H) (n : H0 p = none) (k : F p = none) (e : H p = some u) : Gw w F0 H0 (upd F p u) H := ⟨g.g.keep n k e, g.j⟩
/-- known for a while -/
theorem Ok.know (o : Ok w F H) (k : F p = none) (n : p ∉ w.M) (e : H p = some u) : Ok w (upd F p u) H := ⟨fun b x q => by
    by_cases hb : b = p
    · rw [hb, upd_same] at q; rw [hb, e]; exact q
    · rw [upd_ne hb] at q; exact o.s b x q, o.j, fun m hm => by
    rw [upd_ne (fun z => n (by rw [← z]; exact hm))]
    exact o.m m hm⟩
theorem Ok.zero (o : Ok w F H) : Ok W0 F H := ⟨o.s, True.intro, fun _ z => nomatch z⟩
theorem Ok.wl (s : Same F H) (h : ∀ m ∈ M, F m = none ∧ H m ≠ none) : Ok (Wl M) F H := ⟨s, fun m hm => (h m hm).2, fun m hm => (h m hm).1⟩
theorem Wl.sub0 : Sub W0 (Wl M) := Sub.zero _
/-- locked, unlocked -/
theorem Ok.lock (o : Ok w F H) (f : F d = some u) : Ok w (del F d) (upd H d (.frz od u)) := by
  have nm : d ∉ w.M := fun z => by rw [o.m d z] at f; cases f
  refine ⟨fun b x e => ?_, w.st _ _ o.j fun m x hm e => ?_, fun m hm => ?_⟩
  · by_cases hb : b = d
    · rw [hb, del_same] at e; cases e
    · rw [del_ne hb] at e
      rw [upd_ne hb]
      exact o.s b x e
  · rw [upd_ne (fun z => nm (by rw [← z]; exact hm))]
    exact e
  · have hb : m ≠ d := fun z => nm (by rw [← z]; exact hm)
    rw [del_ne hb]
    exact o.m m hm
theorem Gw.unlock (o : Ok w F H) (f : F d = some u) (c : Gw w (del F d) (upd H d (.frz od u)) F2 H2) : H2 d = some (.frz od u) ∧ F2 d = none ∧ Gw w F H (upd F2 d u) (upd H2 d u) := by
  have nm : d ∉ w.M := fun z => by rw [o.m d z] at f; cases f
  have h1 : H d = some u := o.s d u f
  have e2 : H2 d = some (.frz od u) := c.g.hh d _ nm upd_same
  have n2 : F2 d = none := c.g.nw d del_same (by rw [upd_same]; exact nofun)
  refine ⟨e2, n2, ⟨fun b x e => ?_, fun b x e => ?_, fun b x hb e => ?_, fun b e1 ne => ?_⟩, w.st _ _ c.j fun m x hm e => ?_⟩
  · by_cases hb : b = d
    · rw [hb] at e ⊢
      rw [f] at e
      rw [upd_same]
      exact e
    · rw [upd_ne hb]
      exact c.g.ff b x (by rw [del_ne hb]; exact e)
  · by_cases hb : b = d
    · rw [hb] at e ⊢
      rw [upd_same] at e ⊢
      exact e
    · rw [upd_ne hb] at e ⊢
      exact c.g.fh b x e
  · by_cases hbd : b = d
    · rw [hbd] at e ⊢
      rw [h1] at e
      rw [upd_same]
      exact e
    · rw [upd_ne hbd]
      exact c.g.hh b x hb (by rw [upd_ne hbd]; exact e)
  · have hbd : b ≠ d := fun z => by rw [z, f] at e1; cases e1
    rw [upd_ne hbd]
    exact c.g.nw b (by rw [del_ne hbd]; exact e1) (by rw [upd_ne hbd]; exact ne)
  · rw [upd_ne (fun z => nm (by rw [← z]; exact hm))]
    exact e
end
/-- the promise of a def that changes what stands at M -/
def spP {α : Type} (M : α → List Addr) (A : α → List Pr) (Pre : α → Hp → Hp → Prop) (P : α → Hp → V → Hp → Hp → Prop) : Sp := fun vs H Q _ => ∃ (a : α) (F : Hp), Ok (Wl (M a)) F H ∧ Al (A a) vs F ∧ Pre a F H ∧ ∀ v F' H', Gw (Wl (M a)) F H F' H' → P a H v F' H' → Q v H'
theorem spP.len {α : Type} {M : α → List Addr} {A : α → List Pr} {Pre : α → Hp → Hp → Prop} {P : α → Hp → V → Hp → Hp → Prop} {n : Nat} (h : ∀ a, (A a).length = n) : ∀ vs H Q E, spP M A Pre P vs H Q E → vs.length = n := fun vs H Q E ⟨a, F, _, al, _⟩ => al.length.trans (h a)
/-- lists of texts of one's own, as they stand -/
abbrev sv (ts : List Str) : List V := ts.map V.str
def Own (ms : List (Addr × List Str)) : Hp → Hp → Prop := fun F H => ∀ p ∈ ms, F p.1 = none ∧ H p.1 = some (.lst (sv p.2))
section
variable {K : PySem.W.Frag} {w : Wd} {σ : L2.St} {F H F1 H1 : Hp} {te td tl tb : TE} {C a d dx : Addr} {fs : List (Str × V)} {f : Str} {v : V} {ms : List (Addr × List Str)} {od : Obj} {kvs : List (Key × V)}
theorem Own.on (h : Own ms F H) (g : Gw W0 F H F1 H1) : Own ms F1 H1 := fun p hp => ⟨g.g.nw _ (h p hp).1 (by rw [(h p hp).2]; exact nofun), g.same _ _ (h p hp).2⟩
/-- o.f, o as it stands -/
theorem ev_fldX (e : ∀ F1 H1, Gw w F H F1 H1 → H1 a = some (.ins C dx fs)) (o : Ok w F H) (c : Cls K C) (n : NoAttr K C f) (l : fs.lookup f = some v) (h : EvW w (Is (.ref a)) te σ F H) : EvW w (Is v) (tFld K te f) σ F H := fun F1 H1 g Q q =>
  h F1 H1 g _ fun x F2 H2 g2 rx => ⟨a, C, dx, fs, v, rx, e F2 H2 (g.trans o g2), c, n, l, q v F2 H2 g2 rfl⟩
/-- d[k], d as it stands -/
theorem ev_dgetX {k : Str} (e : ∀ F1 H1, Gw w F H F1 H1 → H1 d = some (.dK kvs) ∨ ∃ od, H1 d = some (.frz od (.dK kvs))) (o : Ok w F H) (l : valV kvs (Sum.inr k : Key) = some v) (h : EvW w (Is (.ref d)) td σ F H) (hk : EvW w (Is (.str k)) te σ F H) : EvW w (Is v) (tDGet td te) σ F H := fun F1 H1 g Q q =>
  h F1 H1 g _ fun x F2 H2 g2 rx => hk F2 H2 (g.trans o g2) _ fun y F3 H3 g3 ry => by
    obtain rfl : x = .ref d := rx
    obtain rfl : y = .str k := ry
    have g23 := g2.trans (g.ok o) g3
    refine ⟨d, v, rfl, ?_, q v F3 H3 g23 rfl⟩
    rw [← l]
    rcases e F3 H3 (g.trans o g23) with e | ⟨od, e⟩
    · have := DGet.k (k := (Sum.inr k : Key)) e
      exact this
    · exact .inl ⟨kvs, Sum.inr k, .inr ⟨od, e⟩, rfl, rfl⟩
/-- the values of a dict that is held -/
theorem ej_vals (o : Ok w F H) (h : EvW W0 (Is (.ref d)) td σ F H) (e : H d = some (.frz od (.dK kvs))) (nm : d ∉ w.M) : EvJ W0 w kvs.length (fun i x F => ∃ k, kvs[i]? = some (k, x)) (iVals td) σ F H := fun Q q =>
  h F H (o.zero).refl _ fun v F2 H2 b hv => by
    have o2 := (b.of0 o).ok o
    have e2 := b.same _ _ e
    refine ⟨d, od, kvs, hv, e2, q _ F2 H2 b ?_⟩
    have hS : ∀ G H', Gw w F2 H2 G H' → H' d = some (.frz od (.dK kvs)) := fun G H' g => g.g.hh d _ nm e2
    have wk := walk_values (d := d) (o := od) (kvs := kvs)
    refine ⟨fun i G H' hi g => wk.goes i H' hi (hS G H' g), fun G H' g => wk.stops H' (hS G H' g), fun i G H' x H'' hi g y => ?_⟩
    obtain ⟨rfl, hx'⟩ := wk.yields i H' x H'' hi (hS G H' g) y
    exact ⟨G, ((g.ok o2).zero).refl, hx'⟩
/-- [y for y in ts if y not in us] -/
theorem ev_filtN {j ju : Nat} {ts us : List Str} {U : V} {vs : List Nat} (o : Ok w F H) (hl : EvW w (Txts ts) tl σ F H) (hz : ts.length ≤ 100000) (hw : ∀ x, wipe ((wipe σ vs).set j (some x)) vs = wipe σ vs) (hj : ∀ x, ((wipe σ vs).set j (some x))[j]? = some (some x)) (hu : ∀ x, ((wipe σ vs).set j (some x))[ju]? = some (some U)) (rU : Txts us U F) :
    EvW w (Txts (ts.filter fun y => !decide (y ∈ us))) (tLc (iList K tl) (gName j) (tTest (tOp (rIn K true) (tVar j) (tVar ju))) (tVar j) vs) σ F H := by
  have mo : ∀ l : List Str, ∀ R ∈ l.map (fun y => Is (.str y)), Mo R := fun l => mos_map (f := fun y : Str => Is (.str y)) (fun y => Is.mo _) l
  refine ev_lcI o (ei_list o (mo _) hl) (by rw [List.length_map]; exact hz) (fun i ys F => ys = ((ts.take i).filter fun y => !decide (y ∈ us)).map V.str) (fun _ _ _ _ _ h => h) (fun _ _ => rfl) (fun i x ys G H' hi hx g iv Qy Qn hy hn => ?_) fun ys G iv D e => ?_
  · obtain ⟨R, hR, r⟩ := hx
    have hi' : i < ts.length := by rw [List.length_map] at hi; exact hi
    rw [List.getElem?_map, List.getElem?_eq_getElem hi'] at hR
    cases hR
    obtain rfl := r
    have o2 := g.ok o
    have hu' := Txts.mo us _ _ _ g.g.ff rU
    refine ⟨hw _, ?_⟩
    refine et_val (ev_op o2 (Is.mo _) (ev_var o2 (Is.mo _) (hj _) rfl) (ev_var o2 (Txts.mo us) (hu _) hu') ow_notInS) G H' o2.refl _ fun G2 H2 g2 => ?_
    have ht : ts.take (i + 1) = ts.take i ++ [ts[i]] := List.take_succ_eq_append_getElem hi'
    cases hb : (!decide (ts[i] ∈ us)) with
    | true =>
      rw [if_pos rfl]
      refine ⟨_, hj _, hy _ G2 H2 g2 ?_⟩
      rw [iv, ht, List.filter_append, List.map_append]
      simp [hb]
    | false =>
      rw [if_neg (by decide)]
      refine hn G2 H2 g2 ?_
      rw [iv, ht, List.filter_append, List.map_append]
      simp [hb]
  · refine ⟨D, ys, rfl, e, ?_⟩
    rw [iv, List.take_of_length_le (by rw [List.length_map]; exact Nat.le_refl _)]
    exact al_strs _
end
end QW

set_option Elab.async false
set_option linter.all false
set_option maxRecDepth 100000
set_option maxHeartbeats 1000000
/-! QConn: an order of types that is being made: its dict and lists; a further cast noted. -/
namespace QW
open PySem PySem.Spec PyProof.Rows L2 QR
theorem walk_dc {J : It} {n : Nat} {G : Hp → Prop} {Y : Nat → Hp → V → Hp → Prop} (w : Walk J n G Y) {g : TG} {tt : TT} {tk tv : TE} {vs : List Nat} {σ : L2.St} {H1 : Hp} {D : Addr} {Qd : Hp → Prop} (Pv : Nat → Hp → Prop) (h0 : Pv 0 (upd H1 D (.dK []))) (hG : ∀ i H, i ≤ n → Pv i H → G H)
    (hs : ∀ i x H H', i < n → Pv i H → Y i H x H' → g x (wipe σ vs) H' fun σ2 H2 => wipe σ2 vs = wipe σ vs ∧ tt σ2 H2 fun b H3 =>
      if b = true then tk σ2 H3 fun y H4 => tv σ2 H4 fun z H5 => ∃ kvs k, y = kV k ∧ H5 D = some (.dK kvs) ∧ kvs.length < sizeLine ∧ Pv (i + 1) (upd H5 D (.dK (putK kvs k z))) else Pv (i + 1) H3) (hd : ∀ H, Pv n H → Qd H) :
    ∃ W : Nat → Nat → Hp → Prop, (∃ m, W 0 m (upd H1 D (.dK []))) ∧ ∀ i m H, W i m H →
      (J.stop i H ∧ Qd H) ∨ (J.go i H ∧ ∃ Nx : Hp → Prop, (∀ H', Nx H' → ∃ m', m' < m ∧ W (i + 1) m' H') ∧ ∀ x H', J.yld i H x H' → g x (wipe σ vs) H' fun σ2 H2 => wipe σ2 vs = wipe σ vs ∧ tt σ2 H2 fun b H3 =>
        if b = true then tk σ2 H3 fun y H4 => tv σ2 H4 fun z H5 => ∃ kvs k, y = kV k ∧ H5 D = some (.dK kvs) ∧ kvs.length < sizeLine ∧ Nx (upd H5 D (.dK (putK kvs k z))) else Nx H3) := by
  refine ⟨fun i m H => m = n - i ∧ i ≤ n ∧ Pv i H, ⟨n, by simp, Nat.zero_le _, h0⟩, ?_⟩
  rintro i m H ⟨rfl, hi, p⟩
  have q := hG i H hi p
  by_cases hlt : i < n
  · refine .inr ⟨w.goes i H hlt q, Pv (i + 1), fun H' p' => ⟨n - (i + 1), by omega, rfl, hlt, p'⟩, fun x H' y => hs i x H H' hlt p (w.yields i H x H' hlt q y)⟩
  · have e : i = n := by omega
    subst e
    exact .inl ⟨w.stops H q, hd H p⟩
/-- an entry: the name, its list's place, the names at or above -/
abbrev Ent : Type := Str × Addr × List Str
abbrev kvE (es : List Ent) : List (Key × V) := es.map fun e => ((Sum.inr e.1 : Key), V.ref e.2.1)
def stepU (s : Str) (ut us : List Str) : List Str := if s ∈ us then us ++ ut.filter (fun y => !decide (y ∈ us)) else us
abbrev stepE (s : Str) (ut : List Str) (es : List Ent) : List Ent := es.map fun e => (e.1, e.2.1, stepU s ut e.2.2)
theorem valV_kvE {k : Str} {e : Addr × List Str} : ∀ {es : List Ent} {i : Nat}, (es.map (·.1)).Nodup → es[i]? = some (k, e) → valV (kvE es) (Sum.inr k : Key) = some (.ref e.1)
  | [], i, _, h => by simp at h
  | a :: es, 0, _, h => by
    simp only [List.getElem?_cons_zero] at h
    cases h
    exact valV_pos rfl
  | a :: es, i + 1, hn, h => by
    rw [List.getElem?_cons_succ] at h
    rw [List.map_cons, List.nodup_cons] at hn
    have ne : ¬ (Sum.inr a.1 : Key) = Sum.inr k := fun z => hn.1 (by
      rw [Sum.inr.inj z]
      exact List.mem_map.mpr ⟨(k, e), List.mem_of_getElem? h, rfl⟩)
    rw [show kvE (a :: es) = ((Sum.inr a.1 : Key), V.ref a.2.1) :: kvE es from rfl, valV_neg ne]
    exact valV_kvE hn.2 h
theorem Own.set {F H : Hp} {A B : List (Addr × List Str)} {l : Addr} {us us' : List Str} (h : Own (A ++ (l, us) :: B) F H) (nd : ((A ++ (l, us) :: B).map (·.1)).Nodup) : Own (A ++ (l, us') :: B) F (upd H l (.lst (sv us'))) := by
  rw [List.map_append, List.map_cons] at nd
  have h1 := List.nodup_append.mp nd
  have h2 := List.nodup_cons.mp h1.2.1
  intro p hp
  rcases List.mem_append.mp hp with hp | hp
  · have ne : p.1 ≠ l := fun z => h1.2.2 p.1 (List.mem_map.mpr ⟨p, hp, rfl⟩) l List.mem_cons_self z
    rw [upd_ne ne]
    exact h p (List.mem_append_left _ hp)
  · rcases List.mem_cons.mp hp with rfl | hp
    · exact ⟨(h (l, us) (List.mem_append_right _ List.mem_cons_self)).1, upd_same⟩
    · have ne : p.1 ≠ l := fun z => h2.1 (by rw [← z]; exact List.mem_map.mpr ⟨p, hp, rfl⟩)
      rw [upd_ne ne]
      exact h p (List.mem_append_right _ (List.mem_cons_of_mem _ hp))
structure CoA where
  C : Addr
  dx : Addr
  self : Addr
  d : Addr
  es : List Ent
  src : Str
  tgt : Str
  it : Nat
  lt : Addr
  ut : List Str
  ht : es[it]? = some (tgt, lt, ut)
  ns : src ∉ ut
  nd : (es.map (·.1)).Nodup
  na : (es.map (·.2.1)).Nodup
  hz : ∀ e ∈ es, e.2.2.length + ut.length ≤ 100000
def spConn (C : Addr) : Sp := spP (fun a : {a : CoA // a.C = C} => a.1.es.map (·.2.1)) (fun a => [Is (.ref a.1.self), Is (.str a.1.src), Is (.str a.1.tgt)])
  (fun a F H => F a.1.self = some (.ins a.1.C a.1.dx [("own_ups", .ref a.1.d)]) ∧ F a.1.d = some (.dK (kvE a.1.es)) ∧ Own (a.1.es.map (·.2)) F H) (fun a _ v F' H' => v = .non ∧ Own ((stepE a.1.src a.1.ut a.1.es).map (·.2)) F' H')
theorem spConn.len {C : Addr} : ∀ vs H Q E, spConn C vs H Q E → vs.length = 3 := spP.len fun _ => rfl
def t_conn (K : PySem.W.Frag) : TS := tLock (tFor (iVals (tFld K (tVar 0) "own_ups")) (gName 3) (tIfS (tTest (tOp (rIn K false) (tVar 1) (tVar 3))) (tDrop (tBM K "list" rExtend (tVar 3) (tCons (tLc (iList K (tDGet (tFld K (tVar 0) "own_ups") (tVar 2))) (gName 4) (tTest (tOp (rIn K true) (tVar 4) (tVar 3))) (tVar 4) [4]) tNil))) tNext))
theorem stepU_self {s : Str} {ut : List Str} (h : s ∉ ut) : stepU s ut ut = ut := if_neg h
theorem pure_conn {K : PySem.W.Frag} {C : Addr} (c : Cls K C) (n : NoAttr K C "own_ups") {vs : List V} {H : Hp} {Q : VK} {E : XK} (h : spConn C vs H Q E) : t_conn K { nx := fun _ H' => Q .non H', rt := Q } (L2.start ["self", "source", "target", "ups", "name"] vs) H := by
  obtain ⟨⟨a, hCa⟩, F, o, al, ⟨f1, f2, ow⟩, q⟩ := h
  obtain ⟨C', dx, self, d, es, src, tgt, it, lt, ut, ht, ns, nd, na, hz⟩ := a
  obtain rfl : C' = C := hCa
  dsimp only at o al f1 f2 ow q
  obtain rfl := Al.is (f := fun v : V => v) (xs := [.ref self, .str src, .str tgt]) al
  have ds : self ≠ d := fun z => by rw [z, f2] at f1; cases f1
  have nm : d ∉ (Wl (es.map (·.2.1))).M := fun z => by rw [o.m d z] at f2; cases f2
  refine ⟨d, _, o.s _ _ f2, True.intro, fun od => ?_⟩
  have oL := o.lock (od := od) f2
  have hd0 : upd H d (.frz od (.dK (kvE es))) d = some (.frz od (.dK (kvE es))) := upd_same
  have hs0 : upd H d (.frz od (.dK (kvE es))) self = some (.ins C' dx [("own_ups", .ref d)]) := by rw [upd_ne ds]; exact o.s _ _ f1
  have ld : ∀ e ∈ es, e.2.1 ≠ d := fun e he z => nm (by rw [← z]; exact List.mem_map.mpr ⟨e, he, rfl⟩)
  have owL : Own (es.map (·.2)) (del F d) (upd H d (.frz od (.dK (kvE es)))) := fun p hp => by
    obtain ⟨e, he, rfl⟩ := List.mem_map.mp hp
    have ne := ld e he
    rw [del_ne ne, upd_ne ne]
    exact ow _ hp
  have fld : ∀ (G H' : Hp) (σ : L2.St), Ok W0 G H' → H' self = some (.ins C' dx [("own_ups", .ref d)]) → σ[0]? = some (some (.ref self)) → EvW W0 (Is (.ref d)) (tFld K (tVar 0) "own_ups") σ G H' := fun G H' σ oo e hσ =>
    ev_fldX (fun F1 H1 g => g.same _ _ e) oo c n rfl (ev_var oo (Is.mo _) hσ rfl)
  have hj := ej_vals (w := Wl (es.map (·.2.1))) oL (fld _ _ [some (.ref self), some (.str src), some (.str tgt), none, none] oL.zero hs0 rfl) hd0 nm
  have hk : (kvE es).length = es.length := List.length_map ..
  refine q_forJ (u := fun D => D.nx) (D := ⟨_, _, _, _⟩) Wl.sub0 oL hj (fun i σ' G H' => (∃ x3, σ' = [some (.ref self), some (.str src), some (.str tgt), x3, none]) ∧ Own ((stepE src ut (es.take i) ++ es.drop i).map (·.2)) G H')
    (fun F' H' g => ⟨⟨_, rfl⟩, owL.on g⟩) (fun i x σ' G0 H0 G H' N hi g0 iv g1 hx k => ?_) fun σ' G H' g iv => ?_
  · obtain ⟨⟨x3, rfl⟩, ow0⟩ := iv
    obtain ⟨kx, hx⟩ := hx
    have hi' : i < es.length := by rw [← hk]; exact hi
    rw [List.getElem?_map, List.getElem?_eq_getElem hi'] at hx
    have ow1 := ow0.on g1
    have oo := (g1.of0 (g0.ok oL)).ok (g0.ok oL)
    have g01 := g0.trans oL (g1.of0 (g0.ok oL))
    generalize he : es[i] = e at hx
    obtain ⟨nme, l, us⟩ := e
    cases hx
    have hmem : (nme, l, us) ∈ es := by rw [← he]; exact List.getElem_mem hi'
    have hsp : es.drop i = (nme, l, us) :: es.drop (i + 1) := by rw [List.drop_eq_getElem_cons hi', he]
    have htk : es.take (i + 1) = es.take i ++ [(nme, l, us)] := by rw [List.take_succ_eq_append_getElem hi', he]
    have hcur : ∀ us', ((stepE src ut (es.take i)).map (·.2)) ++ (l, us') :: (es.drop (i + 1)).map (·.2) = (stepE src ut (es.take i) ++ (nme, l, us') :: es.drop (i + 1)).map (·.2) := fun us' => by rw [List.map_append, List.map_cons]
    rw [hsp, ← hcur] at ow1
    have hl := ow1 (l, us) (List.mem_append_right _ List.mem_cons_self)
    have hadr : (((stepE src ut (es.take i)).map (·.2)) ++ (l, us) :: (es.drop (i + 1)).map (·.2)).map (·.1) = es.map (·.2.1) := by
      conv => rhs; rw [← List.take_append_drop i es, hsp]
      simp [List.map_append, List.map_map, Function.comp_def]
    have hlt : G lt = none ∧ H' lt = some (.lst (sv ut)) := by
      have hit := List.mem_of_getElem? ht
      rw [← List.take_append_drop i es, hsp] at hit
      rcases List.mem_append.mp hit with z | z
      · refine ow1 (lt, ut) (List.mem_append_left _ (List.mem_map.mpr ⟨(tgt, lt, stepU src ut ut), List.mem_map.mpr ⟨_, z, rfl⟩, ?_⟩))
        rw [stepU_self ns]
      · refine ow1 (lt, ut) (List.mem_append_right _ ?_)
        rcases List.mem_cons.mp z with z | z
        · cases z; exact List.mem_cons_self
        · exact List.mem_cons_of_mem _ (List.mem_map.mpr ⟨_, z, rfl⟩)
    have hnext : stepE src ut (es.take (i + 1)) ++ es.drop (i + 1) = stepE src ut (es.take i) ++ (nme, l, stepU src ut us) :: es.drop (i + 1) := by
      rw [htk, stepE, List.map_append, List.append_assoc]; rfl
    have oZ := oo.zero
    have ok1 := oZ.know hl.1 (fun z => nomatch z) hl.2
    have rU : Txts us (.ref l) (upd G l (.lst (sv us))) := ⟨l, _, rfl, upd_same, al_strs us⟩
    have ht1 : EvT W0 (decide (src ∈ us)) (tTest (tOp (rIn K false) (tVar 1) (tVar 3))) [some (.ref self), some (.str src), some (.str tgt), some (.ref l), none] (upd G l (.lst (sv us))) H' :=
      et_val (ev_op ok1 (Is.mo _) (ev_var ok1 (Is.mo _) rfl rfl) (ev_var ok1 (Txts.mo us) rfl rU) ow_inTx)
    refine ht1 _ _ ok1.refl _ fun F2 H2 g2 => ?_
    have gf := Gw.forget oZ (same_upd hl.1) g2
    have ow2 := ow1.on gf
    have hl2 := ow2 (l, us) (List.mem_append_right _ List.mem_cons_self)
    by_cases hs : src ∈ us
    · rw [if_pos (decide_eq_true hs)]
      have nlt : lt ≠ l := fun z => by
        rw [z, hl.2] at hlt
        have e1 := hlt.2
        have e2 : us = ut := by
          have := HO.lst.inj (Option.some.inj e1)
          exact (List.map_inj_right fun a b e => V.str.inj e).mp this
        exact ns (e2 ▸ hs)
      have o2 := gf.ok oZ
      have hlt2 := gf.same _ _ hlt.2
      have ok2 := o2.know hl2.1 (fun z => nomatch z) hl2.2
      have klt : upd G l (.lst (sv us)) lt = none := by rw [upd_ne nlt]; exact hlt.1
      have ok3 := ok2.know klt (fun z => nomatch z) hlt2
      have rU3 : Txts us (.ref l) (upd (upd G l (.lst (sv us))) lt (.lst (sv ut))) := ⟨l, _, rfl, by rw [upd_ne (Ne.symm nlt)]; exact upd_same, al_strs us⟩
      have rT : EvW W0 (Txts ut) (tDGet (tFld K (tVar 0) "own_ups") (tVar 2)) [some (.ref self), some (.str src), some (.str tgt), some (.ref l), none] (upd (upd G l (.lst (sv us))) lt (.lst (sv ut))) H2 := by
        have hself : H2 self = some (.ins C' dx [("own_ups", .ref d)]) := by
          refine gf.same _ _ ?_
          refine g01.g.hh _ _ (fun z => ?_) hs0
          rw [o.m self z] at f1; cases f1
        have hdd : H2 d = some (.frz od (.dK (kvE es))) := gf.same _ _ (g01.g.hh _ _ nm hd0)
        have hv : valV (kvE es) (Sum.inr tgt : Key) = some (.ref lt) := valV_kvE nd ht
        refine (ev_dgetX (fun F1 H1 g => .inr ⟨od, g.same _ _ hdd⟩) ok3 hv (fld _ _ _ ok3 hself rfl) (ev_var ok3 (Is.mo _) rfl rfl)).imp fun v F' s r => ?_
        obtain rfl : v = .ref lt := r
        exact ⟨lt, _, rfl, s _ _ upd_same, al_strs ut⟩
      have hz' := hz _ hmem
      have hf := ev_filtN (K := K) (j := 4) (ju := 3) (vs := [4]) (σ := [some (.ref self), some (.str src), some (.str tgt), some (.ref l), none]) ok3 rT (by have := hz'; dsimp only at this; omega) (fun _ => rfl) (fun _ => rfl) (fun _ => rfl) rU3
      refine ⟨_, rfl, .inl ⟨rfl, _, .of hl2.2⟩, hf _ _ ok3.refl _ fun v F3 H3 g3 r => ?_⟩
      obtain ⟨b, zs, rfl, hb, alz⟩ := r
      obtain rfl : zs = sv _ := alz.is
      have hb3 := (g3.ok ok3).s _ _ hb
      have hl3 := g3.same _ _ hl2.2
      have sG : Same G (upd (upd G l (.lst (sv us))) lt (.lst (sv ut))) := (same_upd hl.1).trans (same_upd klt)
      have gf2 := gf.trans oZ (Gw.forget o2 sG g3)
      have hfl : (ut.filter fun y => !decide (y ∈ us)).length ≤ ut.length := List.length_filter_le _ _
      refine ⟨l, b, _, _, rfl, rfl, hl3, hb3, Evl.sz_of (by have := hz'; simp only [List.length_map] at this ⊢; omega), ?_⟩
      have hm : l ∈ es.map (·.2.1) := List.mem_map.mpr ⟨_, hmem, rfl⟩
      refine k _ G _ ((gf2.of0 oo).mutL (.inl hm) hl.1) ⟨⟨_, rfl⟩, ?_⟩
      rw [hnext, ← hcur]
      have := (ow1.on gf2).set (us' := stepU src ut us) (by rw [hadr]; exact na)
      unfold stepU at this ⊢
      rw [if_pos hs] at this ⊢
      rw [sv, List.map_append] at this
      exact this
    · rw [if_neg (by rw [decide_eq_false hs]; exact Bool.false_ne_true)]
      refine k _ G _ (gf.of0 oo) ⟨⟨_, rfl⟩, ?_⟩
      rw [hnext, ← hcur]
      unfold stepU
      rw [if_neg hs]
      exact ow2
  · obtain ⟨_, ow1⟩ := iv
    obtain ⟨e2, n2, g3⟩ := Gw.unlock o f2 g
    refine ⟨e2, q .non _ _ g3 ⟨rfl, fun p hp => ?_⟩⟩
    obtain ⟨e, he, rfl⟩ := List.mem_map.mp hp
    obtain ⟨e', he', rfl⟩ := List.mem_map.mp he
    have ne := ld e' he'
    have := ow1 _ (by rw [hk, List.take_length, List.drop_length, List.append_nil]; exact hp)
    rw [upd_ne ne, upd_ne ne]
    exact this

/-! ### TypeOrder(names) -/
structure ToA where
  C : Addr
  dx : Addr
  self : Addr
  ns : List Str
  nd : ns.Nodup
  hz : ns.length ≤ 100000
/-- a new order: its dict, its lists -/
structure OrdN (C dx sf d : Addr) (ns : List Str) (es : List Ent) (H F' H' : Hp) : Prop where
  k : es.map (·.1) = ns
  u : ∀ e ∈ es, e.2.2 = [e.1]
  na : (es.map (·.2.1)).Nodup
  nw : ∀ e ∈ es, H e.2.1 = none
  nd : H d = none
  hi : H' sf = some (.ins C dx [("own_ups", .ref d)])
  fd : F' d = some (.dK (kvE es))
  ow : Own (es.map (·.2)) F' H'
def spToI (C : Addr) : Sp := spP (fun a : {a : ToA // a.C = C} => [a.1.self]) (fun a => [Is (.ref a.1.self), Txts a.1.ns]) (fun a F H => H a.1.self = some (.ins a.1.C a.1.dx [])) (fun a H v F' H' => v = .non ∧ ∃ d es, OrdN a.1.C a.1.dx a.1.self d a.1.ns es H F' H')
theorem spToI.len {C : Addr} : ∀ vs H Q E, spToI C vs H Q E → vs.length = 2 := spP.len fun _ => rfl
def t_toI (K : PySem.W.Frag) : TS := sFld K (tVar 0) (tDc (iList K (tVar 1)) (gName 2) tYes (tVar 2) (tLst (tCons (tVar 2) tNil)) [2]) "own_ups"
theorem kvE_none {k : Str} : ∀ {es : List Ent}, k ∉ es.map (·.1) → valV (kvE es) (Sum.inr k : Key) = none
  | [], _ => rfl
  | a :: es, h => by
    rw [List.map_cons, List.mem_cons, not_or] at h
    rw [show kvE (a :: es) = ((Sum.inr a.1 : Key), V.ref a.2.1) :: kvE es from rfl, valV_neg fun z => h.1 (Sum.inr.inj z).symm]
    exact kvE_none h.2
theorem pure_toI {K : PySem.W.Frag} {C : Addr} (c : Cls K C) (n : NoAttr K C "own_ups") {vs : List V} {H : Hp} {Q : VK} {E : XK} (h : spToI C vs H Q E) : t_toI K { nx := fun _ H' => Q .non H', rt := Q } (L2.start ["self", "names", "name"] vs) H := by
  obtain ⟨⟨⟨C', dx, self, ns, nd, hz⟩, hC⟩, F, o, al, pre, q⟩ := h
  obtain rfl : C' = C := hC
  dsimp only at o al pre q
  obtain ⟨u, rfl, hu⟩ : ∃ u, vs = [.ref self, u] ∧ Txts ns u F := by
    cases al with
    | cons h r =>
      cases r with
      | cons h2 r =>
        cases r
        obtain rfl := h
        exact ⟨_, rfl, h2⟩
  obtain ⟨l, xs, rfl, hx, alx⟩ := hu
  obtain rfl : xs = sv ns := alx.is
  have hxH := o.s _ _ hx
  have fs : F self = none := o.m self List.mem_cons_self
  refine ⟨_, rfl, l, rfl, ⟨_, .of hxH⟩, fun D hD => ?_⟩
  have nD : F D = none := same_none o.s hD
  have sD : self ≠ D := fun z => by rw [z, hD] at pre; cases pre
  have lD : l ≠ D := fun z => by rw [z, hD] at hxH; cases hxH
  have hln : (sv ns).length = ns.length := List.length_map ..
  refine walk_dc (D := D) (Qd := _) (walk_list (K := K) (a := l) (xs := sv ns)) (fun i H' => ∃ es : List Ent, es.map (·.1) = ns.take i ∧ (∀ e ∈ es, e.2.2 = [e.1]) ∧ (es.map (·.2.1)).Nodup ∧ (∀ e ∈ es, H e.2.1 = none ∧ e.2.1 ≠ D) ∧ Gw (Wl [self]) F H F H' ∧ H' D = some (.dK (kvE es)) ∧ (∀ e ∈ es, H' e.2.1 = some (.lst (sv e.2.2))) ∧ H' self = some (.ins C' dx []))
    ⟨[], rfl, (fun _ z => nomatch z), List.nodup_nil, (fun _ z => nomatch z), (o.refl).temp hD, upd_same, (fun _ z => nomatch z), (by rw [upd_ne sD]; exact pre)⟩ (fun i H' _ ⟨es, _, _, _, _, g, _⟩ => .of (g.g.fh _ _ hx)) (fun i x H0 H' hi p y => ?_) fun H' p => ?_
  · obtain ⟨rfl, hx'⟩ := y
    obtain ⟨es, e1, e2, e3, e4, g, e5, e6, e7⟩ := p
    have hi' : i < ns.length := by rw [← hln]; exact hi
    rw [List.getElem?_map, List.getElem?_eq_getElem hi'] at hx'
    cases hx'
    refine ⟨rfl, lc_yes ?_⟩
    refine ⟨_, rfl, _, rfl, Evl.sz_of (show 1 ≤ 100000 by decide), fun p hp => ?_⟩
    have hne : D ≠ p := fun z => by rw [← z, e5] at hp; cases hp
    have nin : ns[i] ∉ es.map (·.1) := fun z => by
      rw [e1] at z
      obtain ⟨j, hj, e⟩ := List.mem_take_iff_getElem.mp z
      have := (List.nodup_iff_pairwise_ne.mp nd)
      have h1 : j < i := by omega
      exact (List.pairwise_iff_getElem.mp this j i (by omega) hi' h1) e
    have esl : es.length = i := by
      have := congrArg List.length e1
      rw [List.length_map, List.length_take] at this
      omega
    refine ⟨kvE es, Sum.inr ns[i], rfl, by rw [upd_ne hne]; exact e5, Evl.sz_lt (by rw [List.length_map, esl]; omega), es ++ [(ns[i], p, [ns[i]])], ?_, ?_, ?_, ?_, ?_, ?_, ?_, ?_⟩
    · rw [List.map_append, e1, List.take_succ_eq_append_getElem hi']; rfl
    · intro e he
      rcases List.mem_append.mp he with he | he
      · exact e2 e he
      · rw [List.mem_singleton.mp he]
    · rw [List.map_append, List.nodup_append]
      refine ⟨e3, by simp, fun a ha b hb => ?_⟩
      obtain ⟨e, he, rfl⟩ := List.mem_map.mp ha
      have : b = p := by simpa using hb
      rw [this]
      exact fun z => by
        have := e6 e he
        rw [z, hp] at this; cases this
    · intro e he
      rcases List.mem_append.mp he with he | he
      · exact e4 e he
      · rw [List.mem_singleton.mp he]
        refine ⟨?_, Ne.symm hne⟩
        cases qq : H p with
        | none => rfl
        | some u => exact (g.live o (by rw [qq]; exact nofun) hp).elim
    · exact (g.temp hp).mutL (.inr hD) nD
    · rw [upd_same, putK_new _ (kvE_none nin)]
      show some (HO.dK (kvE es ++ [_])) = some (HO.dK (kvE (es ++ [_])))
      rw [kvE, kvE, List.map_append]; rfl
    · intro e he
      rcases List.mem_append.mp he with he | he
      · have := e6 e he
        rw [upd_ne (e4 e he).2, upd_ne (fun z => by rw [z, hp] at this; cases this)]
        exact this
      · rw [List.mem_singleton.mp he, upd_ne (Ne.symm hne), upd_same]
        rfl
    · rw [upd_ne sD, upd_ne (fun z => by rw [← z, e7] at hp; cases hp)]
      exact e7
  · obtain ⟨es, e1, e2, e3, e4, g, e5, e6, e7⟩ := p
    rw [hln, List.take_length] at e1
    refine ⟨_, rfl, self, C', dx, [], rfl, e7, c, n, by decide, ?_⟩
    have g2 := (g.keepL hD nD e5).mutL (m := self) (u := .ins C' dx (putF "own_ups" (.ref D) [])) (.inl List.mem_cons_self) (by rw [upd_ne sD]; exact fs)
    refine q .non _ _ g2 ⟨rfl, D, es, e1, e2, e3, fun e he => (e4 e he).1, hD, upd_same, upd_same, fun p hp => ?_⟩
    obtain ⟨e, he, rfl⟩ := List.mem_map.mp hp
    have se : e.2.1 ≠ self := fun z => by
      have := (e4 e he).1
      rw [z, pre] at this; cases this
    rw [upd_ne (e4 e he).2, upd_ne se]
    exact ⟨same_none o.s (e4 e he).1, e6 e he⟩
end QW

set_option Elab.async false
set_option linter.all false
set_option maxRecDepth 100000
set_option maxHeartbeats 1000000
/-! QSrt: the sorted list of some texts. -/
namespace QW
open PySem PySem.Spec PyProof.Rows L2 QR
abbrev tlt (x y : Str) : Bool := decide (x.cps.toList < y.cps.toList)
theorem tlt_tri {x y : Str} (h1 : tlt x y = false) (h2 : tlt y x = false) : x = y := by
  have a : ¬ x.cps.toList < y.cps.toList := of_decide_eq_false h1
  have b : ¬ y.cps.toList < x.cps.toList := of_decide_eq_false h2
  have e : x.cps.toList = y.cps.toList := List.le_antisymm (List.not_lt.mp b) (List.not_lt.mp a)
  cases x; cases y
  simp only at e
  congr 1
  exact Array.toList_inj.mp e
theorem tlt_trans {x y z : Str} (h1 : tlt y x = false) (h2 : tlt z y = false) : tlt z x = false := by
  have a : ¬ y.cps.toList < x.cps.toList := of_decide_eq_false h1
  have b : ¬ z.cps.toList < y.cps.toList := of_decide_eq_false h2
  exact decide_eq_false (List.not_lt.mpr (List.le_trans (List.not_lt.mp a) (List.not_lt.mp b)))
/-- in order -/
abbrev InOrd (l : List Str) : Prop := l.Pairwise fun x y => tlt y x = false
theorem rising_pw : ∀ (l : List Str) (p : Str), risingS p l = true → (p :: l).Pairwise fun x y => tlt y x = false
  | [], p, _ => List.pairwise_singleton _ _
  | x :: r, p, h => by
    have h' : (!ltCps x.cps.toList p.cps.toList && risingS x r) = true := h
    rw [Bool.and_eq_true, Bool.not_eq_true', ltCps_eq] at h'
    have ih := rising_pw r x h'.2
    refine List.pairwise_cons.mpr ⟨fun y hy => ?_, ih⟩
    rcases List.mem_cons.mp hy with rfl | hy
    · exact h'.1
    · exact tlt_trans h'.1 (List.rel_of_pairwise_cons ih hy)
theorem sorted_pw : ∀ {l : List Str}, sortedS l = true → InOrd l
  | [], _ => List.Pairwise.nil
  | x :: r, h => rising_pw r x h
/-- one order alone -/
theorem ord_uniq : ∀ {l m : List Str}, l.Perm m → InOrd l → InOrd m → l = m := by
  intro l
  induction l with
  | nil => intro m p _ _; exact (List.nil_perm.mp p).symm
  | cons a l ih =>
    intro m p h1 h2
    cases m with
    | nil => exact (List.perm_nil.mp p)
    | cons b m =>
      have e : a = b := by
        have ha : a ∈ b :: m := p.mem_iff.mp List.mem_cons_self
        have hb : b ∈ a :: l := p.mem_iff.mpr List.mem_cons_self
        rcases List.mem_cons.mp ha with e | ha
        · exact e
        · rcases List.mem_cons.mp hb with e | hb
          · exact e.symm
          · exact tlt_tri (List.rel_of_pairwise_cons h2 ha) (List.rel_of_pairwise_cons h1 hb)
      subst e
      rw [ih ((List.perm_cons a).mp p) (List.pairwise_cons.mp h1).2 (List.pairwise_cons.mp h2).2]
/-- insertion -/
def ins (x : Str) : List Str → List Str
  | [] => [x]
  | y :: r => if tlt y x = true then y :: ins x r else x :: y :: r
def srt : List Str → List Str
  | [] => []
  | x :: r => ins x (srt r)
theorem ins_perm (x : Str) : ∀ l : List Str, (ins x l).Perm (x :: l)
  | [] => List.Perm.refl _
  | y :: r => by
    unfold ins
    split
    · exact ((ins_perm x r).cons y).trans (List.Perm.swap x y r)
    · exact List.Perm.refl _
theorem srt_perm : ∀ l : List Str, (srt l).Perm l
  | [] => List.Perm.refl _
  | x :: r => (ins_perm x (srt r)).trans ((srt_perm r).cons x)
theorem ins_ord (x : Str) : ∀ l : List Str, InOrd l → InOrd (ins x l)
  | [], _ => List.pairwise_singleton _ _
  | y :: r, h => by
    unfold ins
    split
    · rename_i hl
      have hl' : tlt x y = false := by
        have h1 : y.cps.toList < x.cps.toList := of_decide_eq_true hl
        exact decide_eq_false (List.not_lt.mpr (List.le_of_lt h1))
      refine List.pairwise_cons.mpr ⟨fun z hz => ?_, ins_ord x r (List.pairwise_cons.mp h).2⟩
      rcases List.mem_cons.mp ((ins_perm x r).mem_iff.mp hz) with rfl | hz
      · exact hl'
      · exact List.rel_of_pairwise_cons h hz
    · rename_i hl
      have hl' : tlt y x = false := by cases e : tlt y x with
        | true => exact (hl e).elim
        | false => rfl
      refine List.pairwise_cons.mpr ⟨fun z hz => ?_, h⟩
      rcases List.mem_cons.mp hz with rfl | hz
      · exact hl'
      · exact tlt_trans hl' (List.rel_of_pairwise_cons h hz)
theorem srt_ord : ∀ l : List Str, InOrd (srt l)
  | [] => List.Pairwise.nil
  | x :: r => ins_ord x _ (srt_ord r)
theorem srt_eq {l m : List Str} (p : m.Perm l) (h : InOrd m) : m = srt l := ord_uniq (p.trans (srt_perm l).symm) h (srt_ord l)
theorem srt_of_perm {l m : List Str} (p : m.Perm l) : srt m = srt l := srt_eq ((srt_perm m).trans p) (srt_ord m)
theorem srt_filter (l : List Str) (q : Str → Bool) : (srt l).filter q = srt (l.filter q) := srt_eq ((srt_perm l).filter q) ((srt_ord l).filter q)
theorem mem_srt {x : Str} {l : List Str} : x ∈ srt l ↔ x ∈ l := (srt_perm l).mem_iff
theorem srt_nodup {l : List Str} (h : l.Nodup) : (srt l).Nodup := (srt_perm l).nodup_iff.mpr h
theorem srt_length (l : List Str) : (srt l).length = l.length := (srt_perm l).length_eq
/-- the same members, each once -/
theorem perm_of_mem {l m : List Str} (h1 : l.Nodup) (h2 : m.Nodup) (h : ∀ x, x ∈ l ↔ x ∈ m) : l.Perm m := (List.perm_ext_iff_of_nodup h1 h2).mpr h
section
variable {K : PySem.W.Frag} {w : Wd} {σ : L2.St} {F H : Hp} {te : TE}
/-- sorted(l) -/
theorem ev_sorted {ts : List Str} (o : Ok w F H) (h : EvW w (Txts ts) te σ F H) (hz : ts.length < 64) : EvW w (Txts (srt ts)) (tCB (rSortedS K) (tCons te tNil)) σ F H := fun F1 H1 g Q q =>
  h F1 H1 g _ fun v F2 H2 g2 ⟨l, us, e, e1, al⟩ => by
    obtain rfl : us = sv ts := al.is
    have o2 := g2.ok (g.ok o)
    refine ⟨l, ts, by rw [e], .of (o2.s _ _ e1), hz, fun ys p hp hs hn => ?_⟩
    obtain rfl := srt_eq hp (sorted_pw hs)
    exact q _ (upd F2 p _) _ (g2.new (g.ok o) hn) ⟨p, _, rfl, upd_same, al_strs _⟩
end
end QW

set_option Elab.async false
set_option linter.all false
set_option maxRecDepth 100000
set_option maxHeartbeats 1000000
/-! QObj: instances by some of their fields; class constants; lists or tuples of at most so many elements; slices; enumerate. -/
namespace QK
open PySem PySem.Spec PyProof.Rows L2
theorem pe_con {X : Cx} {K : PySem.W.Frag} {e : Expr} {ta : TE} {f : Str} {pos : Pos} (hK : X.K = K) (he : PE X e ta) (hb : attributeBase e f X.env (eval e X.env) = eval e X.env := by rfl) : PE X (.Attribute e f pos) (tCon K ta f) := by
  subst hK
  exact L2.pe_con he hb
theorem sl_list {X : Cx} {K : PySem.W.Frag} (hK : X.K = K) : SlR X (rSlL K) := by subst hK; exact L2.sl_list
theorem con_int {K : PySem.W.Frag} {C : Addr} {f : Str} {n : Int} (h : ∃ u, PySem.W.findIn K (.ref C) f = some (some (.int n u))) (hc : PySem.W.copiedNames.contains f = false := by decide) : ∃ u, Con K C f (.int n) u := by
  obtain ⟨u, h⟩ := h
  exact ⟨_, h, ⟨u, rfl⟩, rfl, hc⟩
end QK
namespace QW
open PySem PySem.Spec PyProof.Rows L2 QR
/-- an instance of the class at C: all its fields are among ns; what holds of some of them -/
def Obj (C : Addr) (ns : List Str) (L : List (Str × Pr)) : Pr := fun v F => ∃ (a dx : Addr) (fs : List (Str × V)), v = .ref a ∧ F a = some (.ins C dx fs) ∧ (∀ m, m ∉ ns → fs.lookup m = none) ∧ ∀ p ∈ L, ∃ u, fs.lookup p.1 = some u ∧ p.2 u F
theorem Obj.mo {C : Addr} {ns : List Str} {L : List (Str × Pr)} (m : ∀ p ∈ L, Mo p.2) : Mo (Obj C ns L) := fun _ _ _ e ⟨a, dx, fs, h1, h2, h3, h4⟩ => ⟨a, dx, fs, h1, e _ _ h2, h3, fun p hp => let ⟨u, q1, q2⟩ := h4 p hp; ⟨u, q1, m p hp _ _ _ e q2⟩⟩
theorem Obj.less {C : Addr} {ns : List Str} {L L' : List (Str × Pr)} {v : V} {F : Hp} (h : Obj C ns L v F) (s : ∀ p ∈ L', p ∈ L) : Obj C ns L' v F := by
  obtain ⟨a, dx, fs, h1, h2, h3, h4⟩ := h
  exact ⟨a, dx, fs, h1, h2, h3, fun p hp => h4 p (s p hp)⟩
theorem Obj.ins {C : Addr} {ns : List Str} {L : List (Str × Pr)} {m : Str} (hm : m ∉ ns) : ∀ v F, Obj C ns L v F → ∃ b dx fs, v = .ref b ∧ F b = some (.ins C dx fs) ∧ fs.lookup m = none := fun v F ⟨a, dx, fs, h1, h2, h3, _⟩ => ⟨a, dx, fs, h1, h2, h3 m hm⟩
section
variable {K : PySem.W.Frag} {w : Wd} {σ : L2.St} {F H : Hp} {te tl ti : TE} {C : Addr} {ns : List Str} {L : List (Str × Pr)} {R : Pr} {f : Str}
/-- o.f -/
theorem ev_fldO (o : Ok w F H) (c : Cls K C) (n : NoAttr K C f) (h : EvW w (Obj C ns L) te σ F H) (h1 : (f, R) ∈ L) : EvW w R (tFld K te f) σ F H := fun F1 H1 g Q q =>
  h F1 H1 g _ fun x F2 H2 g2 rx => by
    obtain ⟨a, dx, fs, rfl, e1, h3, h4⟩ := rx
    obtain ⟨u, q1, q2⟩ := h4 _ h1
    exact ⟨a, C, dx, fs, u, rfl, (g2.ok (g.ok o)).s _ _ e1, c, n, q1, q u F2 H2 g2 q2⟩
/-- o.N, a number of the class -/
theorem ev_conI {n : Int} (o : Ok w F H) (c : Cls K C) (k : ∃ u, Con K C f (.int n) u) (hf : f ∉ ns) (h : EvW w (Obj C ns L) te σ F H) : EvW w (Is (.int n)) (tCon K te f) σ F H := fun F1 H1 g Q q =>
  h F1 H1 g _ fun x F2 H2 g2 rx => by
    obtain ⟨a, dx, fs, rfl, e1, h3, h4⟩ := rx
    obtain ⟨u, k⟩ := k
    exact ⟨a, C, dx, fs, _, u, rfl, (g2.ok (g.ok o)).s _ _ e1, c, k, h3 f hf, q _ F2 H2 g2 rfl⟩
/-- l[:i] -/
theorem cutV_take {xs : List V} {i : Nat} : cutV xs none (some (i : Int)) = xs.take i := by
  unfold cutV
  rw [HT.sIx_none, HT.sIx_nat, List.drop_zero, Nat.sub_zero]
  by_cases h : i ≤ xs.length
  · rw [Nat.min_eq_left h]
  · rw [Nat.min_eq_right (by omega), List.take_of_length_le (by omega), List.take_of_length_le (by omega)]
theorem ev_sliceTo {Rs : List Pr} {i : Nat} (o : Ok w F H) (m : ∀ R ∈ Rs, Mo R) (h : EvW w (Li Rs) tl σ F H) (hi : EvW w (Is (.int i)) ti σ F H) : EvW w (Li (Rs.take i)) (tSl (rSlL K) tl tNoPart (tPart ti)) σ F H := fun F1 H1 g Q q =>
  h F1 H1 g _ fun x F2 H2 g2 rx => hi F2 H2 (g.trans o g2) _ fun y F3 H3 g3 ry => by
    have o1 := g.ok o
    have o3 := g3.ok (g2.ok o1)
    obtain ⟨l, vs, rfl, e1, al⟩ := rx
    obtain rfl : y = .int i := ry
    refine ⟨_, rfl, l, vs, rfl, .of (o3.s _ _ (g3.g.ff _ _ e1)), fun p hp => ?_⟩
    rw [cutV_take]
    refine q _ (upd F3 p _) _ ((g2.trans o1 g3).new o1 hp) ⟨p, _, rfl, upd_same, ?_⟩
    have al2 := (al.mono g3.g.ff m).mono (same_upd (o := .lst (vs.take i)) (same_none o3.s hp)) m
    have key : ∀ (n : Nat) {Rs : List Pr} {vs : List V} {G : Hp}, Al Rs vs G → Al (Rs.take n) (vs.take n) G := by
      intro n
      induction n with
      | zero => intro Rs vs G _; exact .nil
      | succ n ih =>
        intro Rs vs G a
        cases a with
        | nil => exact .nil
        | cons a b => exact .cons a (ih b)
    exact key i al2
/-- enumerate(l): pairs, new each -/
theorem ej_enum {w0 : Wd} {Rs : List Pr} {tas : TA} (s : Sub w0 w) (o : Ok w F H) (m : ∀ R ∈ Rs, Mo R) (h : EvA w0 [Li Rs] tas σ F H) :
    EvJ w0 w Rs.length (fun i x F => ∃ T y R, x = .ref T ∧ F T = some (.tup [.int (i : Nat), y]) ∧ Rs[i]? = some R ∧ R y F) (iEnum K tas) σ F H := fun Q q =>
  h F H (s.ok _ _ o).refl _ fun vs F2 H2 b al => by
    cases al with
    | cons hv r =>
      cases r
      obtain ⟨l, xs, rfl, hx, al⟩ := hv
      have o2 := (s.gw _ _ _ _ o b).ok o
      refine ⟨l, xs, rfl, .of (o2.s _ _ hx), q _ F2 H2 b ?_⟩
      have hS : ∀ G H', Gw w F2 H2 G H' → SqL K H' l xs := fun G H' g => .of (g.g.fh _ _ (g.g.ff _ _ hx))
      have wk := walk_enum (K := K) (a := l) (xs := xs)
      have hl := al.length
      refine ⟨fun i G H' hi g => wk.goes i H' (by omega) (hS G H' g), fun G H' g => by rw [← hl]; exact wk.stops H' (hS G H' g), fun i G H' x H'' hi g y => ?_⟩
      obtain ⟨T, x1, y1, rfl, hT, rfl, hx1, hy1⟩ := wk.yields i H' x H'' (by omega) (hS G H' g) y
      cases hx1
      obtain ⟨R, e, r⟩ := al.get hy1
      have oG := g.ok o2
      have og := s.ok _ _ oG
      have nT := same_none og.s hT
      refine ⟨upd G T (.tup [.int (i : Nat), y1]), og.refl.new og hT, T, y1, R, rfl, upd_same, e, m R (List.mem_of_getElem? e) _ _ _ ((g.g.ff).trans (same_upd nT)) r⟩
end
/-! ### is_list_of -/
abbrev rIs2 (K : PySem.W.Frag) : TE := tCB (rIsiT K) (tCons (tVar 0) (tCons (tTup (tCons (tC (.ty "list")) (tCons (tC (.ty "tuple")) tNil))) tNil))
theorem kit_lt {K : PySem.W.Frag} {t : Value} (h : t = .type "list" ∨ t = .type "tuple") : PySem.W.kitAny K t [.type "list", .type "tuple"] = some true := by
  rcases h with rfl | rfl <;> rfl
/-- a list or a tuple of such -/
def Sq (Rs : List Pr) : Pr := fun v F => Li Rs v F ∨ Tu Rs v F
theorem Sq.mo {Rs : List Pr} (m : ∀ R ∈ Rs, Mo R) : Mo (Sq Rs) := fun v F F' e h => h.imp (Li.mo m v F F' e) (Tu.mo m v F F' e)
structure LoA where
  Rs : List Pr
  m : ∀ R ∈ Rs, Mo R
  n : Int
def spListOf : Sp := spW (fun _ : LoA => W0) (fun a => [Sq a.Rs, Is (.int a.n)]) fun a => Is (.bl (decide ((a.Rs.length : Int) ≤ a.n)))
theorem spListOf.len : ∀ vs H Q E, spListOf vs H Q E → vs.length = 2 := spW.len fun _ => rfl
def t_listof (K : PySem.W.Frag) : TS := tRet (tAndV (rIs2 K) (tOp oLe (tCB (iLen K) (tCons (tVar 0) tNil)) (tVar 1)))
theorem pure_listof {K : PySem.W.Frag} {vs : List V} {H : Hp} {Q : VK} {E : XK} (h : spListOf vs H Q E) : t_listof K { nx := fun _ H' => Q .non H', rt := Q } (L2.start ["value", "limit"] vs) H := by
  obtain ⟨⟨Rs, m, n⟩, F, o, al, q⟩ := h
  obtain ⟨v, rfl, hv⟩ : ∃ v, vs = [v, .int n] ∧ Sq Rs v F := by
    cases al with
    | cons h r =>
      cases r with
      | cons h2 r =>
        cases r
        obtain rfl := h2
        exact ⟨_, rfl, h⟩
  have m : ∀ R ∈ Rs, Mo R := m
  have hi : EvW W0 (Is (.bl true)) (rIs2 K) [some v, some (.int n)] F H := by
    refine ev_cb (Rs := [Sq Rs, Tu [Is (.ty "list"), Is (.ty "tuple")]]) o (ea_cons o (Sq.mo m) (ev_var o (Sq.mo m) rfl hv) (ea_cons o (Tu.mo (mos_cons (Is.mo _) (mos_cons (Is.mo _) mos_nil))) (ev_tup o (mos_cons (Is.mo _) (mos_cons (Is.mo _) mos_nil)) (ea_cons o (Is.mo _) (ev_c o fun _ => rfl) (ea_cons o (Is.mo _) (ev_c o fun _ => rfl) (ea_nil o))) (show 2 ≤ 100000 by decide)) (ea_nil o))) ?_
    intro vs F2 H2 o2 al Q q
    cases al with
    | @cons _ _ xv _ _ h1 r =>
      cases r with
      | cons h2 r =>
        cases r
        obtain ⟨tp, us, rfl, e1, al2⟩ := h2
        obtain rfl := Al.is (f := fun v : V => v) (xs := [.ty "list", .ty "tuple"]) al2
        obtain ⟨x, t, rfl, ht, hty⟩ : ∃ x t, xv = V.ref x ∧ (t = .type "list" ∨ t = .type "tuple") ∧ TyX K H2 (.ref x) t := by
          rcases h1 with ⟨x, ys, rfl, e, _⟩ | ⟨x, ys, rfl, e, _⟩
          · exact ⟨x, _, rfl, .inl rfl, .base (.lst (o2.s _ _ e))⟩
          · exact ⟨x, _, rfl, .inr rfl, .base (.tup (o2.s _ _ e))⟩
        exact ⟨.ref x, tp, _, t, [.type "list", .type "tuple"], true, rfl, o2.s _ _ e1, .cons (.ty _) (.cons (.ty _) .nil), hty, kit_lt ht, q _ F2 H2 o2.refl rfl⟩
  refine q_ret (R := Is (.bl (decide ((Rs.length : Int) ≤ n)))) o ?_ q
  have hop : OpW W0 oLe (Is (.int Rs.length)) (Is (.int n)) (Is (.bl (decide ((Rs.length : Int) ≤ n)))) := ow_int
  have hlen : EvW W0 (Is (.int Rs.length)) (tCB (iLen K) (tCons (tVar 0) tNil)) [some v, some (.int n)] F H := by
    refine ev_cb (Rs := [Sq Rs]) o (ea_cons o (Sq.mo m) (ev_var o (Sq.mo m) rfl hv) (ea_nil o)) ?_
    intro vs F2 H2 o2 al Q q
    cases al with
    | cons h1 r =>
      cases r
      rcases h1 with ⟨x, ys, rfl, e, al⟩ | ⟨x, ys, rfl, e, al⟩
      · refine ⟨x, ys, rfl, .inl (.of (o2.s _ _ e)), ?_⟩
        rw [al.length]
        exact q _ F2 H2 o2.refl rfl
      · refine ⟨x, ys, rfl, .inr (.of (o2.s _ _ e)), ?_⟩
        rw [al.length]
        exact q _ F2 H2 o2.refl rfl
  have := ev_andV (b := decide ((Rs.length : Int) ≤ n)) o hi fun _ => ev_op (tb := tVar 1) o (Is.mo _) hlen (ev_var o (Is.mo _) rfl rfl) hop
  rw [Bool.true_and] at this
  exact this
/-! ### has_type -/
def schF : List Str := ["own_types", "own_casts", "own_versions", "own_arities", "own_order", "own_text"]
structure HtA where
  ts : List Str
  d : PyData
def spHas (K : PySem.W.Frag) (C : Addr) : Sp := spW (fun _ : HtA => W0) (fun a => [Obj C schF [("own_types", Txts a.ts)], Da K a.d]) fun a => Is (.bl (isOne a.ts a.d))
theorem spHas.len {K : PySem.W.Frag} {C : Addr} : ∀ vs H Q E, spHas K C vs H Q E → vs.length = 2 := spW.len fun _ => rfl
def t_has (K : PySem.W.Frag) : TS := tRet (tCall (spOne K) [] E0 (tCons (tVar 1) (tCons (tFld K (tVar 0) "own_types") tNil)))
theorem mo1 {f : Str} {R : Pr} (m : Mo R) : ∀ p ∈ [(f, R)], Mo p.2 := fun p hp => by
  rw [List.mem_singleton.mp hp]; exact m
theorem pure_has {K : PySem.W.Frag} {C : Addr} (c : Cls K C) (n : NoAttr K C "own_types") {vs : List V} {H : Hp} {Q : VK} {E : XK} (h : spHas K C vs H Q E) : t_has K { nx := fun _ H' => Q .non H', rt := Q } (L2.start ["self", "value"] vs) H := by
  obtain ⟨⟨ts, d⟩, F, o, al, q⟩ := h
  obtain ⟨v, u, rfl, hv, hu⟩ : ∃ v u, vs = [v, u] ∧ Obj C schF [("own_types", Txts ts)] v F ∧ Da K d u F := by
    cases al with
    | cons h r =>
      cases r with
      | cons h2 r => cases r; exact ⟨_, _, rfl, h, h2⟩
  have mT := Txts.mo ts
  exact q_ret (R := Is (.bl (isOne ts d))) o (ev_call0 (A := fun a : OnA => [Da K a.d, a.R]) (Rf := fun a => Is (.bl (isOne a.ks a.d))) ⟨d, ts, Txts ts, mT, .inl fun _ _ h => h⟩ o (ea_cons o (Da.mo K d) (ev_var o (Da.mo K d) rfl hu)
    (ea_cons o mT (ev_fldO o c n (ev_var o (Obj.mo (mo1 mT)) rfl hv) List.mem_cons_self) (ea_nil o)))) q
end QW

set_option Elab.async false
set_option linter.all false
set_option maxRecDepth 100000
set_option maxHeartbeats 1000000
/-! QMk: rules whose readings name K, more of them; defs with defaults that are all given. -/
namespace QC
open PySem PySem.Spec PyProof.Rows L2 QG
theorem okGD {P : Program} {w : World} {K : PySem.W.Frag} {mg : Str → Option Value} {base : Heap} {CX : CXT} {x qual : Str} {params : Arguments} {body : List Stmt} {scope : Scope} {dvs : List V} {kws : List (Str × V)} {f : Addr} {fd : FuncData} {N ps : List Str} {k : Nat} {sp : Sp}
    (F : FunD K x qual params body scope dvs kws f fd) (S : FnScope N ps scope) (len : ∀ vs H Q E, sp vs H Q E → vs.length = ps.length)
    (hb : ∀ (cdv : Value) (A : Around) (outer : List Env) (s : Shared) (H : Hp) (vs : List V) (Q : VK) (E : XK), (A.deeper (envOfC qual scope s.heap.objs.size f cdv)).guards = some [] →
      Room k (A.deeper (envOfC qual scope s.heap.objs.size f cdv)) → sp vs H Q E →
      ∃ t, PSs (cxOf CX P w K mg base N qual scope f cdv A outer s H E) body t ∧ t { nx := fun _ H' => Q .non H', rt := Q } (start N vs) H) : FnG P w K mg base CX (k + 1) f fd ps sp := by
  obtain ⟨oc, od, dV, kV, doc, pm, an, cdv, ct, osl, rfl, lk, hcd, _, _⟩ := F.ex
  exact fn_ofG lk hcd S len fun A outer s H vs Q E gd rm q => hb cdv A outer s H vs Q E gd rm q
end QC
namespace QK
open PySem PySem.Spec PyProof.Rows L2
section
variable {X : Cx} {K : PySem.W.Frag} {e : Expr} {te : TE} {es : List Expr} {t : TA} {p pos tpos : Pos} {tg : Expr}
theorem ix_tup (hK : X.K = K) : IxR X (rIxT K) := by subst hK; exact L2.ix_tup
theorem op_catT (hK : X.K = K) : OpR X (binaryOp .Add) (rCatT K) := by subst hK; exact L2.op_catT
theorem pi_tup {tl : TE} (hK : X.K = K) (hl : PE X e tl) : PI X tg e (iTup K tl) := by subst hK; exact L2.pi_tup hl
theorem pi_enum {elts : List Expr} {kk : Nat} {ta : TA} (hK : X.K = K) (hg : Gl X "enumerate") (hm : X.mg "enumerate" = none) (ha : PA X [e] ta) (hs : starEach [e] X.env = [(false, eval e X.env)] := by rfl) : PI X (.Tuple elts kk tpos) (.Call (.Name "enumerate" p) [e] [] pos) (iEnum K ta) := by
  subst hK
  exact L2.pi_enum hg hm ha hs
theorem cr_sortedS (hK : X.K = K) : CallR X (.builtin "sorted") (rSortedS K) := by subst hK; exact L2.cr_sortedS
abbrev rDictP (K : PySem.W.Frag) : List V → Hp → VK → Prop := fun xs H Q => ∃ (a : Addr) (ps : List Addr) (kvs : List (Key × V)), xs = [.ref a] ∧ SqL K H a (ps.map V.ref) ∧ Paired (fun p kv => SqT K H p [kV kv.1, kv.2]) ps kvs ∧ ∀ p, H p = none → Q (.ref p) (upd H p (.dK (mergeK [] kvs)))
theorem call_dictP (hK : X.K = K) (hc : X.calm = true) : CallR X (.type "dict") (rDictP K) := by subst hK; exact L2.call_dictP hc
theorem pa_star (hK : X.K = K) (he : PE X e te) (hr : PA X es t) (hs : starEach (.Starred e p :: es) X.env = (true, eval e X.env) :: starEach es X.env := by rfl) : PA X (.Starred e p :: es) (StX.tStar K te t) := by
  subst hK
  exact StX.pa_star he hr hs
end
end QK
namespace QK
open PySem PySem.Spec PyProof.Rows L2
theorem pg_tup {X : Cx} {K : PySem.W.Frag} {es : List Expr} {k : Nat} {pos : Pos} {t : TGs} {n : Nat} (hK : X.K = K) (hc : X.calm = true) (h : PGs X es t) (hn : (assignEach es X.env).length = n := by rfl) (hst : (assignEach es X.env).findIdx? (·.1) = none := by rfl) : PG X (.Tuple es k pos) (gTup K n t) := by
  subst hK
  exact L2.pg_tup hc h hn hst
end QK
namespace QK
open PySem PySem.Spec PyProof.Rows L2
theorem pe_bm0 {X : Cx} {K : PySem.W.Frag} {o : Expr} {to : TE} {name : Str} {apos cpos : Pos} {T id : String} {r : V → List V → Hp → VK → Prop} (hK : X.K = K) (pa : PlainAttrs T) (slot : Slot T name id) (hty : typeOf (.builtin id) = pure (.type "method_descriptor")) (hm : MtR X id r) (ho : PE X o to)
    (hbase : attributeBase o name X.env (eval o X.env) = eval o X.env := by rfl) (hline : (apos.endLine == cpos.line) = true := by rfl) : PE X (.Call (.Attribute o name apos) [] [] cpos) (tBM0 K T r to) := by
  subst hK
  exact L2.pe_bm0 pa slot hty hm ho hbase hline
end QK

set_option Elab.async false
set_option linter.all false
set_option maxRecDepth 100000
set_option maxHeartbeats 1000000
/-! QTake: a scheme takes its types, its casts, its versions. -/
namespace QW
open PySem PySem.Spec PyProof.Rows L2 QR
structure TtA where
  C : Addr
  dx : Addr
  self : Addr
  fs : List (Str × V)
  ts : List Str
  nd : ts.Nodup
  nm : ∀ s ∈ ts, isNmS s = true
  hl : ts.length ≤ 10
  hf : fs.length < 999
  hm : fs.lookup ("MAX_TYPES" : Str) = none
def spTT (C : Addr) : Sp := spP (fun a : {a : TtA // a.C = C} => [a.1.self]) (fun a => [Is (.ref a.1.self), Txts a.1.ts]) (fun a F H => H a.1.self = some (.ins a.1.C a.1.dx a.1.fs))
  (fun a H v F' H' => v = .non ∧ ∃ l, Txts (srt a.1.ts) (.ref l) F' ∧ H' a.1.self = some (.ins a.1.C a.1.dx (putF "own_types" (.ref l) a.1.fs)))
theorem spTT.len {C : Addr} : ∀ vs H Q E, spTT C vs H Q E → vs.length = 2 := spP.len fun _ => rfl
end QW
namespace QW
open PySem PySem.Spec PyProof.Rows L2 QR
section
variable {K : PySem.W.Frag} {w : Wd} {σ : L2.St} {F H F1 H1 : Hp} {te : TE} {C a dx : Addr} {fs : List (Str × V)} {f : Str} {v : V} {D : Ends} {t : TT} {b : TS}
theorem ev_conX (e : ∀ F1 H1, Gw w F H F1 H1 → H1 a = some (.ins C dx fs)) (o : Ok w F H) (c : Cls K C) (k : ∃ u, Con K C f v u) (l : fs.lookup f = none) (h : EvW w (Is (.ref a)) te σ F H) : EvW w (Is v) (tCon K te f) σ F H := fun F1 H1 g Q q =>
  h F1 H1 g _ fun x F2 H2 g2 rx => by
    obtain ⟨u, k⟩ := k
    exact ⟨a, C, dx, fs, v, u, rx, e F2 H2 (g.trans o g2), c, k, l, q v F2 H2 g2 rfl⟩
theorem isNm_str {s : Str} (h : isNmS s = true) : lenOk (.str s) := by
  unfold isNmS at h
  rw [Bool.and_eq_true, Bool.and_eq_true, decide_eq_true_eq, decide_eq_true_eq] at h
  show s.length ≤ sizeLine
  rw [sizeLine_eq]
  omega
theorem EvW.daS {s : Str} (h : EvW w (Is (.str s)) te σ F H) : EvW w (Da K (.str s)) te σ F H := h.imp fun v F' _ r => by
  obtain rfl : v = .str s := r
  exact .str s
/-- is_name(s) of a name -/
theorem ev_isnm {s : Str} (o : Ok w F H) (hs : isNmS s = true) (h : EvW w (Is (.str s)) te σ F H) {E : XK} : EvW w (Is (.bl true)) (tCall (spNm K) [] E (tCons te tNil)) σ F H := by
  have := ev_call0 (E := E) (A := fun d : {d : PyData // lenOk d} => [Da K d.1]) (Rf := fun d => Is (.bl (isNm d.1))) ⟨.str s, isNm_str hs⟩ o (ea_cons o (Da.mo K _) h.daS (ea_nil o))
  rw [show isNm (.str s) = true from hs] at this
  exact this
theorem ev_listof {Rs : List Pr} {n : Int} {ti : TE} {E : XK} (o : Ok w F H) (m : ∀ R ∈ Rs, Mo R) (h : EvW w (Sq Rs) te σ F H) (hn : EvW w (Is (.int n)) ti σ F H) (hl : (Rs.length : Int) ≤ n) : EvW w (Is (.bl true)) (tCall spListOf [] E (tCons te (tCons ti tNil))) σ F H := by
  have := ev_call0 (E := E) (A := fun a : LoA => [Sq a.Rs, Is (.int a.n)]) (Rf := fun a => Is (.bl (decide ((a.Rs.length : Int) ≤ a.n)))) ⟨Rs, m, n⟩ o (ea_cons o (Sq.mo m) h (ea_cons o (Is.mo _) hn (ea_nil o)))
  rw [show decide ((Rs.length : Int) ≤ n) = true from decide_eq_true hl] at this
  exact this
end
theorem nodup_take {α : Type} {l : List α} {i : Nat} (hi : i < l.length) (h : l.Nodup) : l[i] ∉ l.take i := fun z => by
  obtain ⟨j, hj, e⟩ := List.mem_take_iff_getElem.mp z
  have h1 : j < i := by omega
  exact (List.pairwise_iff_getElem.mp (List.nodup_iff_pairwise_ne.mp h) j i (by omega) hi h1) e
def t_tt (K : PySem.W.Frag) : TS := tSeq (tIfS (tNot (tB (tCall spListOf [] E0 (tCons (tVar 1) (tCons (tCon K (tVar 0) "MAX_TYPES") tNil))))) tNever tNext)
  (tSeq (tFor (iEnum K (tCons (tVar 1) tNil)) (gTup K 2 (gCons (gName 2) (gCons (gName 3) gNil))) (tIfS (tOr (tNot (tB (tCall (spNm K) [] E0 (tCons (tVar 3) tNil)))) (tTest (tOp (rIn K false) (tVar 3) (tSl (rSlL K) (tVar 1) tNoPart (tPart (tVar 2)))))) tNever tNext))
  (sFld K (tVar 0) (tCB (rSortedS K) (tCons (tVar 1) tNil)) "own_types"))
theorem pure_tt {K : PySem.W.Frag} {C : Addr} (c : Cls K C) (n : NoAttr K C "own_types") (k : ∃ u, Con K C "MAX_TYPES" (.int 10) u) {vs : List V} {H : Hp} {Q : VK} {E : XK} (h : spTT C vs H Q E) : t_tt K { nx := fun _ H' => Q .non H', rt := Q } (L2.start ["self", "types", "position", "name"] vs) H := by
  obtain ⟨⟨⟨C', dx, self, fs, ts, nd, nm, hl, hf, hm⟩, hC⟩, F, o, al, pre, q⟩ := h
  obtain rfl : C' = C := hC
  dsimp only at o al pre q
  obtain ⟨u, rfl, hu⟩ : ∃ u, vs = [.ref self, u] ∧ Txts ts u F := by
    cases al with
    | cons h r =>
      cases r with
      | cons h2 r =>
        cases r
        obtain rfl := h
        exact ⟨_, rfl, h2⟩
  have oZ := o.zero
  have mt := mos_map (f := fun y : Str => Is (.str y)) (fun y => Is.mo _)
  have hT : EvT W0 false (tNot (tB (tCall spListOf [] E0 (tCons (tVar 1) (tCons (tCon K (tVar 0) "MAX_TYPES") tNil))))) [some (.ref self), some u, none, none] F H :=
    et_not (b := true) (et_B (ev_listof (Rs := ts.map fun y => Is (.str y)) (n := 10) oZ (mt ts) (ev_var oZ (Sq.mo (mt ts)) rfl (.inl hu)) (ev_conX (fun F1 H1 g => g.same _ _ pre) oZ c k hm (ev_var oZ (Is.mo _) rfl rfl)) (by rw [List.length_map]; omega)))
  refine q_no oZ hT fun F1 H1 g1 => ?_
  have o1 := g1.ok oZ
  have hu1 := Txts.mo ts _ _ _ g1.g.ff hu
  have hj := ej_enum (K := K) (w0 := W0) (w := W0) (σ := [some (.ref self), some u, none, none]) (tas := tCons (tVar 1) tNil) (Sub.refl _) o1 (mt ts) (ea_cons o1 (Txts.mo ts) (ev_var o1 (Txts.mo ts) rfl hu1) (ea_nil o1))
  refine q_forJ (Sub.refl _) o1 hj (fun i σ' G H' => ∃ x2 x3, σ' = [some (.ref self), some u, x2, x3]) (fun F' H' g => ⟨_, _, rfl⟩) (fun i x σ' G0 H0 G H' N hi g0 iv g2 hx k2 => ?_) fun σ' G H' g iv => ?_
  · obtain ⟨x2, x3, rfl⟩ := iv
    obtain ⟨T, y, R, rfl, hT, hR, r⟩ := hx
    have hi' : i < ts.length := by rw [List.length_map] at hi; exact hi
    rw [List.getElem?_map, List.getElem?_eq_getElem hi'] at hR
    cases hR
    obtain rfl := r
    have oo := g2.ok (g0.ok o1)
    have hu2 := Txts.mo ts _ _ _ ((g0.trans o1 g2).g.ff) hu1
    refine ⟨T, _, rfl, .of (oo.s _ _ hT), rfl, _, _, rfl, _, _, rfl, rfl, ?_⟩
    show tIfS _ tNever tNext _ [some (.ref self), some u, some (.int (i : Nat)), some (.str ts[i])] H'
    have hc : EvT W0 false (tOr (tNot (tB (tCall (spNm K) [] E0 (tCons (tVar 3) tNil)))) (tTest (tOp (rIn K false) (tVar 3) (tSl (rSlL K) (tVar 1) tNoPart (tPart (tVar 2)))))) [some (.ref self), some u, some (.int (i : Nat)), some (.str ts[i])] G H' := by
      refine et_or (a := false) (b := false) oo (et_not (b := true) (et_B (ev_isnm oo (nm _ (List.getElem_mem hi')) (ev_var oo (Is.mo _) rfl rfl)))) fun _ => ?_
      have hs := ev_sliceTo (K := K) (tl := tVar 1) (ti := tVar 2) (i := i) (σ := [some (.ref self), some u, some (.int (i : Nat)), some (.str ts[i])]) oo (mt ts) (ev_var oo (Txts.mo ts) rfl hu2) (ev_var oo (Is.mo _) rfl rfl)
      rw [← List.map_take] at hs
      have := et_val (ev_op (ta := tVar 3) oo (Is.mo (.str ts[i])) (ev_var oo (Is.mo _) rfl rfl) hs (ow_inTx (K := K)))
      rw [decide_eq_false (nodup_take hi' nd)] at this
      exact this
    exact s_no oo hc fun F2 H2 g3 => k2 _ F2 H2 g3 ⟨_, _, rfl⟩
  · obtain ⟨x2, x3, rfl⟩ := iv
    have g12 := g1.trans oZ g
    have o2 := g12.ok oZ
    refine ev_sorted (K := K) (ts := ts) (te := tVar 1) (σ := [some (.ref self), some u, x2, x3]) o2 (ev_var o2 (Txts.mo ts) rfl (Txts.mo ts _ _ _ g.g.ff hu1)) (by omega) _ _ o2.refl _ fun v F2 H2 g3 r => ?_
    have gg := g12.trans oZ g3
    have r2 := r
    obtain ⟨l, ys, rfl, _, _⟩ := r2
    have nf : F self = none := o.m self List.mem_cons_self
    refine ⟨_, rfl, self, C', dx, fs, rfl, gg.same _ _ pre, c, n, by omega, ?_⟩
    exact q .non F2 _ ((Gw.of0 o gg).mutL (.inl List.mem_cons_self) (gg.g.nw _ nf (by rw [pre]; exact nofun))) ⟨rfl, l, r, upd_same⟩
end QW

set_option Elab.async false
set_option linter.all false
set_option maxRecDepth 100000
set_option maxHeartbeats 1000000
/-! QCast: casts, what they reach; a scheme takes its casts. -/
namespace QW
open PySem PySem.Spec PyProof.Rows L2 QR
/-! ### casts -/
abbrev Cst : Type := Str × Str × Str
def cTu (c : Cst) : Pr := Tu [Is (.str c.1), Is (.str c.2.1), Is (.str c.2.2)]
def cEnd (c : Cst) : Pr := Tu [Is (.str c.2.1), Is (.str c.2.2)]
theorem tu_mo (vs : List V) : Mo (Tu (vs.map Is)) := Tu.mo (mos_map Is.mo vs)
theorem cTu.mo (c : Cst) : Mo (cTu c) := tu_mo [.str c.1, .str c.2.1, .str c.2.2]
theorem cEnd.mo (c : Cst) : Mo (cEnd c) := tu_mo [.str c.2.1, .str c.2.2]
inductive Reach (cs : List Cst) : Str → Str → Prop
  | refl (a : Str) : Reach cs a a
  | step {n a c b : Str} : (n, a, c) ∈ cs → Reach cs c b → Reach cs a b
theorem Reach.trans {cs : List Cst} {a b c : Str} (h : Reach cs a b) (h2 : Reach cs b c) : Reach cs a c := by
  induction h with
  | refl _ => exact h2
  | step m _ ih => exact .step m (ih h2)
theorem Reach.mono {cs ds : List Cst} (s : ∀ c ∈ cs, c ∈ ds) {a b : Str} (h : Reach cs a b) : Reach ds a b := by
  induction h with
  | refl _ => exact .refl _
  | step m _ ih => exact .step (s _ m) ih
theorem reach_perm {cs ds : List Cst} (p : cs.Perm ds) {a b : Str} : Reach cs a b ↔ Reach ds a b := ⟨.mono fun c h => p.mem_iff.mp h, .mono fun c h => p.mem_iff.mpr h⟩
theorem reach_nil {a b : Str} : Reach [] a b ↔ b = a := by
  constructor
  · intro h
    cases h with
    | refl _ => rfl
    | step m _ => cases m
  · rintro rfl
    exact .refl _
theorem reach_snoc {cs : List Cst} {c : Cst} {k x : Str} : Reach (cs ++ [c]) k x ↔ Reach cs k x ∨ (Reach cs k c.2.1 ∧ Reach cs c.2.2 x) := by
  constructor
  · intro h
    induction h with
    | refl a => exact .inl (.refl a)
    | @step n a c' b m _ ih =>
      rcases List.mem_append.mp m with m | m
      · rcases ih with ih | ih
        · exact .inl (.step m ih)
        · exact .inr ⟨.step m ih.1, ih.2⟩
      · have e := List.mem_singleton.mp m
        subst e
        rcases ih with ih | ih
        · exact .inr ⟨.refl _, ih⟩
        · exact .inr ⟨.refl _, ih.2⟩
  · rintro (h | ⟨h1, h2⟩)
    · exact h.mono fun c m => List.mem_append_left _ m
    · exact (h1.mono fun c m => List.mem_append_left _ m).trans (.step (n := c.1) (List.mem_append_right _ List.mem_cons_self) (h2.mono fun c m => List.mem_append_left _ m))
theorem Reach.rank {cs : List Cst} {rk : Str → Nat} (h : ∀ c ∈ cs, rk c.2.1 < rk c.2.2) {a b : Str} (r : Reach cs a b) : rk a ≤ rk b := by
  induction r with
  | refl _ => exact Nat.le_refl _
  | step m _ ih => exact Nat.le_trans (Nat.le_of_lt (h _ m)) ih
theorem Reach.in_ {cs : List Cst} {ts : List Str} (h : ∀ c ∈ cs, c.2.2 ∈ ts) {a b : Str} (r : Reach cs a b) (ha : a ∈ ts) : b ∈ ts := by
  induction r with
  | refl _ => exact ha
  | step m _ ih => exact ih (h _ m)
/-- what is at or above each, so far -/
structure UpOk (ts : List Str) (cs : List Cst) (es : List Ent) : Prop where
  k : es.map (·.1) = ts
  nd : ∀ e ∈ es, e.2.2.Nodup
  r : ∀ e ∈ es, ∀ x, x ∈ e.2.2 ↔ Reach cs e.1 x
theorem UpOk.nil {ts : List Str} {es : List Ent} (k : es.map (·.1) = ts) (h : ∀ e ∈ es, e.2.2 = [e.1]) : UpOk ts [] es := ⟨k, fun e he => by rw [h e he]; simp, fun e he x => by rw [h e he, reach_nil, List.mem_singleton]⟩
theorem UpOk.add {ts : List Str} {cs : List Cst} {es : List Ent} (u : UpOk ts cs es) (c : Cst) {l : Addr} {ut : List Str} (ht : (c.2.2, l, ut) ∈ es) : UpOk ts (cs ++ [c]) (stepE c.2.1 ut es) := by
  have hu := u.r _ ht
  have hn := u.nd _ ht
  refine ⟨by rw [← u.k]; simp [stepE, List.map_map, Function.comp_def], fun e he => ?_, fun e he x => ?_⟩
  · obtain ⟨e, he', rfl⟩ := List.mem_map.mp he
    show (stepU c.2.1 ut e.2.2).Nodup
    unfold stepU
    split
    · refine List.nodup_append.mpr ⟨u.nd e he', List.Nodup.sublist List.filter_sublist hn, fun a ha b hb z => ?_⟩
      have := (List.mem_filter.mp hb).2
      rw [z] at ha
      simp [ha] at this
    · exact u.nd e he'
  · obtain ⟨e, he', rfl⟩ := List.mem_map.mp he
    show x ∈ stepU c.2.1 ut e.2.2 ↔ _
    rw [reach_snoc, ← u.r e he', ← u.r e he', ← hu]
    unfold stepU
    split
    · rename_i hs
      rw [List.mem_append, List.mem_filter]
      constructor
      · rintro (h | h)
        · exact .inl h
        · exact .inr ⟨hs, h.1⟩
      · rintro (h | h)
        · exact .inl h
        · by_cases hx : x ∈ e.2.2
          · exact .inl hx
          · exact .inr ⟨h.2, by simp [hx]⟩
    · rename_i hs
      constructor
      · exact .inl
      · rintro (h | h)
        · exact h
        · exact (hs h.1).elim
/-! ### known for a while -/
def kn (A : List Addr) (F H : Hp) : Hp := fun b => if b ∈ A then H b else F b
theorem kn_in {A : List Addr} {F H : Hp} {b : Addr} (h : b ∈ A) : kn A F H b = H b := if_pos h
theorem kn_same {A : List Addr} {F H : Hp} (s : Same F H) : Same F (kn A F H) := fun b u e => by
  unfold kn
  split
  · exact s b u e
  · exact e
theorem Ok.kn {A : List Addr} {F H : Hp} (o : Ok W0 F H) : Ok W0 (kn A F H) H := ⟨fun b u e => by
  unfold QW.kn at e
  split at e
  · exact e
  · exact o.s b u e, True.intro, fun _ z => nomatch z⟩
section
variable {K : PySem.W.Frag} {w : Wd} {σ : L2.St} {F H : Hp} {te : TE} {α β : Type}
theorem perm_map_inv {f : α → β} {l l' : List β} (p : l.Perm l') : ∀ m : List α, l' = m.map f → ∃ m' : List α, m'.Perm m ∧ l = m'.map f := by
  induction p with
  | nil => exact fun m e => ⟨m, List.Perm.refl _, e⟩
  | cons x p ih =>
    intro m e
    cases m with
    | nil => cases e
    | cons a m =>
      rw [List.map_cons, List.cons.injEq] at e
      obtain ⟨m', p', e'⟩ := ih m e.2
      exact ⟨a :: m', p'.cons a, by rw [List.map_cons, ← e.1, ← e']⟩
  | swap x y l =>
    intro m e
    match m, e with
    | a :: b :: m, e =>
      simp only [List.map_cons, List.cons.injEq] at e
      exact ⟨b :: a :: m, List.Perm.swap a b m, by simp only [List.map_cons, ← e.1, ← e.2.1, ← e.2.2]⟩
  | trans p1 p2 i1 i2 =>
    intro m e
    obtain ⟨m2, q2, e2⟩ := i2 m e
    obtain ⟨m1, q1, e1⟩ := i1 m2 e2
    exact ⟨m1, q1.trans q2, e1⟩
theorem mergeK_new : ∀ (more kvs : List (Key × V)), ((kvs ++ more).map (·.1)).Nodup → mergeK kvs more = kvs ++ more
  | [], kvs, _ => (List.append_nil _).symm
  | p :: r, kvs, h => by
    have hn : valV kvs p.1 = none := by
      rw [List.map_append, List.nodup_append] at h
      have : ∀ l : List (Key × V), (∀ q ∈ l, q.1 ≠ p.1) → valV l p.1 = none := by
        intro l
        induction l with
        | nil => exact fun _ => rfl
        | cons a l ih => intro q; rw [valV_neg (q a List.mem_cons_self)]; exact ih fun x hx => q x (List.mem_cons_of_mem _ hx)
      exact this kvs fun q hq => h.2.2 q.1 (List.mem_map.mpr ⟨q, hq, rfl⟩) p.1 (by simp)
    show mergeK (putK kvs p.1 p.2) r = _
    rw [putK_new _ hn, mergeK_new r (kvs ++ [(p.1, p.2)]) (by rw [List.append_assoc]; exact h), List.append_assoc]
    rfl
theorem al_map {f : α → Pr} : ∀ {L : List α} {vs : List V}, Al (L.map f) vs F → vs.length = L.length ∧ ∀ q ∈ L.zip vs, f q.1 q.2 F
  | [], _, h => by cases h; exact ⟨rfl, fun _ z => nomatch z⟩
  | a :: L, _, h => by
    cases h with
    | cons h r =>
      obtain ⟨h1, h2⟩ := al_map r
      refine ⟨by rw [List.length_cons, List.length_cons, h1], fun q hq => ?_⟩
      rcases List.mem_cons.mp hq with rfl | hq
      · exact h
      · exact h2 q hq
theorem al_zip {f : α → Pr} : ∀ {M : List (α × V)}, (∀ q ∈ M, f q.1 q.2 F) → Al ((M.map (·.1)).map f) (M.map (·.2)) F
  | [], _ => .nil
  | a :: M, h => .cons (h a List.mem_cons_self) (al_zip fun q hq => h q (List.mem_cons_of_mem _ hq))
theorem zip_fst {L : List α} {vs : List V} (h : vs.length = L.length) : (L.zip vs).map (·.1) = L := by
  rw [List.map_fst_zip]
  omega
/-- dict(sorted(d.items())) -/
theorem ev_sdict {key : α → Str} {val : α → Pr} {L : List α} {vs : List V} {d : Addr} (o : Ok w F H) (e : ∀ F1 H1, Gw w F H F1 H1 → H1 d = some (.dK (((L.map key).zip vs).map QSo.entK))) (al : Al (L.map val) vs F) (m : ∀ a, Mo (val a)) (nd : (L.map key).Nodup) (hz : L.length < 64)
    (h : EvW w (Is (.ref d)) te σ F H) : EvW w (fun v F => ∃ L' : List α, L'.Perm L ∧ InOrd (L'.map key) ∧ Dk (L'.map key) (L'.map val) v F) (tCB (QK.rDictP K) (tCons (tCB QSo.rSortItK (tCons (tBM0 K "dict" QSo.rItemsK te) tNil)) tNil)) σ F H := fun F1 H1 g Q q =>
  h F1 H1 g _ fun x F2 H2 g2 rx => by
    obtain rfl : x = .ref d := rx
    have o1 := g.ok o
    have o2 := g2.ok o1
    have e2 := e F2 H2 (g.trans o g2)
    obtain ⟨hl, hal⟩ := al_map (al.mono ((g.trans o g2).g.ff) (mos_map m L))
    refine ⟨.inr (.inr (.inl ⟨rfl, .inl ⟨_, e2⟩⟩)), d, _, rfl, rfl, e2, fun p hp => ?_⟩
    have hdp : d ≠ p := fun z => by rw [z, hp] at e2; cases e2
    have hkz : ((L.map key).zip vs).map (·.1) = L.map key := by rw [List.map_fst_zip]; rw [List.length_map]; omega
    refine ⟨p, d, (L.map key).zip vs, rfl, upd_same, by rw [upd_ne hdp]; exact e2, by rw [List.length_zip, List.length_map]; omega, by rw [hkz]; exact nd, fun H' l zs mono hp1 hp2 hl' hzs => ?_⟩
    have hM : (L.map key).zip vs = (L.zip vs).map fun q => (key q.1, q.2) := by
      rw [List.zip_map_left]
      rfl
    rw [hM] at hp1
    obtain ⟨M', pM, eM⟩ := perm_map_inv (f := fun q : α × V => (key q.1, q.2)) hp1 _ rfl
    have hkeys : (zs.map (·.2)).map (·.1) = (M'.map (·.1)).map key := by rw [eM, List.map_map, List.map_map]; rfl
    have pL : (M'.map (·.1)).Perm L := by
      have := pM.map (·.1)
      rw [zip_fst hl] at this
      exact this
    have ndk : ((M'.map (·.1)).map key).Nodup := (pL.map key).nodup_iff.mpr nd
    refine ⟨l, zs.map (·.1), zs.map fun z => QSo.entK z.2, rfl, .of (by rw [List.map_map]; exact hl'), ?_, fun p2 hp2' => ?_⟩
    · clear hp1 hp2 hl' eM hkeys
      induction zs with
      | nil => exact .nil
      | cons z zs ih => exact .cons (.of (hzs z List.mem_cons_self)) (ih fun y hy => hzs y (List.mem_cons_of_mem _ hy))
    · have hmk : mergeK [] (zs.map fun z => QSo.entK z.2) = ((((M'.map (·.1)).map key)).zip (M'.map (·.2))).map QSo.entK := by
        rw [mergeK_new, List.nil_append]
        · have : zs.map (fun z => QSo.entK z.2) = (zs.map (·.2)).map QSo.entK := by rw [List.map_map]; rfl
          have hzz : ∀ M : List (α × V), M.map (QSo.entK ∘ fun q => (key q.1, q.2)) = (((M.map (·.1)).map key).zip (M.map (·.2))).map QSo.entK := by
            intro M
            induction M with
            | nil => rfl
            | cons a M ih => rw [List.map_cons, ih]; rfl
          rw [this, eM, List.map_map, hzz]
        · rw [List.nil_append]
          have : (zs.map fun z => QSo.entK z.2).map (·.1) = ((zs.map (·.2)).map (·.1)).map (Sum.inr : Str → Key) := by rw [List.map_map, List.map_map, List.map_map]; rfl
          rw [this, hkeys]
          exact List.Pairwise.map _ (fun a b hab z => hab (Sum.inr.inj z)) ndk
      rw [hmk]
      have sH : Same H2 H' := fun b u hb => mono b u (by rw [upd_ne (ne_of_none hb hp)]; exact hb)
      have gH : Gw w F2 H2 F2 H' := ⟨⟨Same.refl _, o2.s.trans sH, fun b u _ e => sH b u e, fun b e _ => e⟩, w.same o2.j sH⟩
      have o3 := gH.ok o2
      refine q _ (upd F2 p2 _) _ (((g2.trans o1 gH).new o1 hp2')) ⟨M'.map (·.1), pL, ?_, p2, M'.map (·.2), rfl, upd_same, ?_, by simp only [List.length_map]⟩
      · rw [← hkeys]
        have := hp2
        refine List.pairwise_map.mpr (List.pairwise_map.mpr ?_)
        exact this.imp fun {a b} h => h
      · refine (al_zip fun q hq => ?_).mono (same_upd (same_none o3.s hp2')) (mos_map m _)
        exact hal q (pM.mem_iff.mp hq)
end
end QW

set_option Elab.async false
set_option linter.all false
set_option maxRecDepth 100000
set_option maxHeartbeats 1000000
/-! QCast2: a scheme takes its casts. -/
namespace QW
open PySem PySem.Spec PyProof.Rows L2 QR
def Any : Pr := fun _ _ => True
theorem Any.mo : Mo Any := fun _ _ _ _ _ => True.intro
abbrev DkA (ks : List Str) : Pr := Dk ks (ks.map fun _ => Any)
theorem DkA.mo (ks : List Str) : Mo (DkA ks) := Dk.mo (mos_map (f := fun _ : Str => Any) (fun _ => Any.mo) ks)
structure IcA where
  ts : List Str
  ks : List Str
  c : Cst
  nm : isNmS c.1 = true
  nin : c.1 ∉ ks
  h1 : c.2.1 ∈ ts
  h2 : c.2.2 ∈ ts
def spIsC (K : PySem.W.Frag) (C : Addr) : Sp := spW (fun _ : IcA => W0) (fun a => [Obj C schF [("own_types", Txts a.ts), ("own_casts", DkA a.ks)], cTu a.c]) fun _ => Is (.bl true)
theorem spIsC.len {K : PySem.W.Frag} {C : Addr} : ∀ vs H Q E, spIsC K C vs H Q E → vs.length = 2 := spW.len fun _ => rfl
/-- a scheme's fields while it is made -/
abbrev fsS (T Cv Vv Av Ov : V) : List (Str × V) := [("own_types", T), ("own_casts", Cv), ("own_versions", Vv), ("own_arities", Av), ("own_order", Ov)]
structure TcA where
  C : Addr
  CT : Addr
  dx : Addr
  self : Addr
  T : V
  d1 : Addr
  Vv : V
  Av : V
  od : Addr
  dxo : Addr
  d : Addr
  ts : List Str
  es : List Ent
  cs : List Cst
  nt : ts.Nodup
  tl : ts.length ≤ 10
  nd : (cs.map (·.1)).Nodup
  nm : ∀ c ∈ cs, isNmS c.1 = true
  cl : cs.length ≤ 20
  ce : ∀ c ∈ cs, c.2.1 ∈ ts ∧ c.2.2 ∈ ts
  ac : ∃ rk : Str → Nat, ∀ c ∈ cs, rk c.2.1 < rk c.2.2
  uk : UpOk ts [] es
  na : (es.map (·.2.1)).Nodup
def castD (cs : List Cst) : Pr := Dk (cs.map (·.1)) (cs.map cEnd)
theorem castD.mo (cs : List Cst) : Mo (castD cs) := Dk.mo (mos_map cEnd.mo cs)
def spTC (C CT : Addr) : Sp := spP (fun a : {a : TcA // a.C = C ∧ a.CT = CT} => a.1.self :: a.1.d1 :: a.1.es.map (·.2.1)) (fun a => [Is (.ref a.1.self), Li (a.1.cs.map cTu)])
  (fun a F H => H a.1.self = some (.ins a.1.C a.1.dx (fsS a.1.T (.ref a.1.d1) a.1.Vv a.1.Av (.ref a.1.od))) ∧ Txts a.1.ts a.1.T F ∧ H a.1.d1 = some (.dK []) ∧ F a.1.od = some (.ins a.1.CT a.1.dxo [("own_ups", .ref a.1.d)]) ∧ F a.1.d = some (.dK (kvE a.1.es)) ∧ Own (a.1.es.map (·.2)) F H)
  (fun a H v F' H' => v = .non ∧ ∃ (dn : V) (es : List Ent) (cs : List Cst), H' a.1.self = some (.ins a.1.C a.1.dx (fsS a.1.T dn a.1.Vv a.1.Av (.ref a.1.od))) ∧ cs.Perm a.1.cs ∧ InOrd (cs.map (·.1)) ∧ castD cs dn F' ∧ UpOk a.1.ts a.1.cs es ∧ es.map (·.2.1) = a.1.es.map (·.2.1) ∧ Own (es.map (·.2)) F' H')
theorem spTC.len {C CT : Addr} : ∀ vs H Q E, spTC C CT vs H Q E → vs.length = 2 := spP.len fun _ => rfl
end QW
namespace QW
open PySem PySem.Spec PyProof.Rows L2 QR
section
variable {K : PySem.W.Frag} {w : Wd} {σ : L2.St} {F H : Hp} {te to : TE} {Rs : List Pr} {R : Pr}
theorem ca_isTu : CaW w (rIsi K) [Tu Rs, Is (.ty "tuple")] (Is (.bl true)) := by
  intro vs F H o al Q q
  cases al with
  | cons h r =>
    cases r with
    | @cons _ _ y _ _ h2 r =>
      cases r
      obtain rfl : y = .ty "tuple" := h2
      obtain ⟨a, xs, rfl, e, _⟩ := h
      exact ⟨_, _, _, .type "tuple", true, rfl, .ty "tuple", .base (.tup (o.s _ _ e)), rfl, q _ F H o.refl rfl⟩
theorem ca_lenTu : CaW w (iLen K) [Tu Rs] (Is (.int Rs.length)) := by
  intro vs F H o al Q q
  cases al with
  | cons h r =>
    cases r
    obtain ⟨l, ys, rfl, h1, h2⟩ := h
    refine ⟨l, ys, rfl, .inr (.of (o.s _ _ h1)), ?_⟩
    rw [h2.length]
    exact q _ F H o.refl rfl
theorem ow_ixT {i : Nat} (hi : Rs[i]? = some R) : OpW w (rIxT K) (Tu Rs) (Is (.int i)) R := fun x y F H o rx ry Q q => by
  obtain ⟨l, xs, rfl, h1, al⟩ := rx
  obtain rfl : y = .int i := ry
  have hl := al.length
  have hlt : i < Rs.length := (List.getElem?_eq_some_iff.mp hi).1
  have hj : i < xs.length := by omega
  obtain ⟨S, e3, s⟩ := al.get (List.getElem?_eq_getElem hj)
  rw [hi] at e3
  cases e3
  refine ⟨l, xs, i, xs[i], rfl, rfl, .of (o.s _ _ h1), ?_, q _ F H o.refl s⟩
  unfold atI ixN
  rw [if_pos (by omega), if_pos (by omega), Int.toNat_natCast]
  exact List.getElem?_eq_getElem hj
theorem ow_inDk {s : Str} {ks : List Str} : OpW w QK.rInDk (Is (.str s)) (Dk ks Rs) (Is (.bl (decide (s ∈ ks)))) := fun x y F H o rx ry Q q => by
  obtain rfl : x = .str s := rx
  obtain ⟨a, vs, rfl, e1, al, hl⟩ := ry
  have e3 := o.s _ _ e1
  refine ⟨a, _, rfl, DGet.k (k := (Sum.inr s : Key)) e3, ?_⟩
  by_cases h : s ∈ ks
  · obtain ⟨v, e⟩ := valV_some h (al.length.trans hl)
    rw [e]
    exact q _ F H o.refl (by rw [decide_eq_true h]; rfl)
  · rw [valV_none h]
    exact q _ F H o.refl (by rw [decide_eq_false h]; rfl)
/-- self.has_type(v) -/
theorem ev_has {C : Addr} {L : List (Str × Pr)} {ts : List Str} {d : PyData} {E : L2.St → XK} (m : ∀ p ∈ L, Mo p.2) (h1 : (("own_types" : Str), Txts ts) ∈ L) (o : Ok w F H) (ho : EvW w (Obj C schF L) to σ F H) (h : EvW w (Da K d) te σ F H) :
    EvW w (Is (.bl (isOne ts d))) (QC.tMethE C "has_type" (spHas K C) [] E to (tCons te tNil)) σ F H :=
  ev_meth (A := fun a : HtA => [Obj C schF [("own_types", Txts a.ts)], Da K a.d]) (Rf := fun a => Is (.bl (isOne a.ts a.d))) ⟨ts, d⟩ rfl (Obj.mo (mo1 (Txts.mo ts))) (Obj.ins (by decide)) o
    (ho.imp fun v F' _ r => r.less fun p hp => by rw [List.mem_singleton.mp hp]; exact h1) (ea_cons o (Da.mo K d) h (ea_nil o))
end
def t_isC (K : PySem.W.Frag) (C : Addr) : TS := tSeq (tIfS (tOr (tNot (tB (tCB (rIsi K) (tCons (tVar 1) (tCons (tC (.ty "tuple")) tNil))))) (tOr (tTest (tOp rNe (tCB (iLen K) (tCons (tVar 1) tNil)) (tC (.int 3))))
  (tOr (tNot (tB (tCall (spNm K) [] E0 (tCons (tOp (rIxT K) (tVar 1) (tC (.int 0))) tNil)))) (tTest (tOp QK.rInDk (tOp (rIxT K) (tVar 1) (tC (.int 0))) (tFld K (tVar 0) "own_casts")))))) (tRet (tC (.bl false))) tNext)
  (tRet (tAndV (QC.tMethE C "has_type" (spHas K C) [] (fun _ => E0) (tVar 0) (tCons (tOp (rIxT K) (tVar 1) (tC (.int 1))) tNil)) (QC.tMethE C "has_type" (spHas K C) [] (fun _ => E0) (tVar 0) (tCons (tOp (rIxT K) (tVar 1) (tC (.int 2))) tNil))))
theorem mo2 {f g : Str} {R S : Pr} (m : Mo R) (m2 : Mo S) : ∀ p ∈ [(f, R), (g, S)], Mo p.2 := fun p hp => by
  rcases List.mem_cons.mp hp with rfl | hp
  · exact m
  · rw [List.mem_singleton.mp hp]; exact m2
theorem pure_isC {K : PySem.W.Frag} {C : Addr} (c : Cls K C) (n : NoAttr K C "own_casts") {vs : List V} {H : Hp} {Q : VK} {E : XK} (h : spIsC K C vs H Q E) : t_isC K C { nx := fun _ H' => Q .non H', rt := Q } (L2.start ["self", "row"] vs) H := by
  obtain ⟨⟨ts, ks, r, nm, nin, h1, h2⟩, F, o, al, q⟩ := h
  obtain ⟨v, u, rfl, hv, hu⟩ : ∃ v u, vs = [v, u] ∧ Obj C schF [("own_types", Txts ts), ("own_casts", DkA ks)] v F ∧ cTu r u F := by
    cases al with
    | cons h r =>
      cases r with
      | cons h2 r => cases r; exact ⟨_, _, rfl, h, h2⟩
  have mO := mo2 (f := "own_types") (g := "own_casts") (Txts.mo ts) (DkA.mo ks)
  have ix : ∀ (i : Nat) (s : Str) (F H : Hp), Ok W0 F H → cTu r u F → [Is (.str r.1), Is (.str r.2.1), Is (.str r.2.2)][i]? = some (Is (.str s)) → EvW W0 (Is (.str s)) (tOp (rIxT K) (tVar 1) (tC (.int (i : Nat)))) [some v, some u] F H := fun i s F H o hu hi =>
    ev_op o (cTu.mo r) (ev_var o (cTu.mo r) rfl hu) (ev_c o fun _ => rfl) (ow_ixT hi)
  have hc : EvT W0 false (tOr (tNot (tB (tCB (rIsi K) (tCons (tVar 1) (tCons (tC (.ty "tuple")) tNil))))) (tOr (tTest (tOp rNe (tCB (iLen K) (tCons (tVar 1) tNil)) (tC (.int 3))))
      (tOr (tNot (tB (tCall (spNm K) [] E0 (tCons (tOp (rIxT K) (tVar 1) (tC (.int 0))) tNil)))) (tTest (tOp QK.rInDk (tOp (rIxT K) (tVar 1) (tC (.int 0))) (tFld K (tVar 0) "own_casts")))))) [some v, some u] F H := by
    refine et_or (a := false) (b := false) o (et_not (b := true) (et_B (ev_cb o (ea_cons o (cTu.mo r) (ev_var o (cTu.mo r) rfl hu) (ea_cons o (Is.mo _) (ev_c o fun _ => rfl) (ea_nil o))) ca_isTu))) fun _ => ?_
    refine et_or (a := false) (b := false) o (et_val (ev_op o (Is.mo (.int 3)) (ev_cb o (ea_cons o (cTu.mo r) (ev_var o (cTu.mo r) rfl hu) (ea_nil o)) ca_lenTu) (ev_c o fun _ => rfl) (ow_neS' (a := .int 3) (b := .int 3) rfl))) fun _ => ?_
    refine et_or (a := false) (b := false) o (et_not (b := true) (et_B (ev_isnm o nm (ix 0 _ F H o hu rfl)))) fun _ => ?_
    have := et_val (ev_op o (Is.mo _) (ix 0 _ F H o hu rfl) (ev_fldO o c n (ev_var (i := 0) o (Obj.mo mO) rfl hv) (List.mem_cons_of_mem _ List.mem_cons_self)) (ow_inDk (s := r.1) (ks := ks)))
    rw [decide_eq_false nin] at this
    exact this
  refine q_no o hc fun F1 H1 g => ?_
  have o1 := g.ok o
  have hu1 := cTu.mo r _ _ _ g.g.ff hu
  have hv1 := Obj.mo mO _ _ _ g.g.ff hv
  refine q_ret (R := Is (.bl true)) o1 ?_ fun v F2 H2 g2 r => q v F2 H2 (g.trans o g2) r
  have e1 : isOne ts (.str r.2.1) = true := decide_eq_true h1
  have e2 : isOne ts (.str r.2.2) = true := decide_eq_true h2
  have a1 := ev_has (K := K) (E := fun _ => E0) mO List.mem_cons_self o1 (ev_var (i := 0) o1 (Obj.mo mO) rfl hv1) (ix 1 _ F1 H1 o1 hu1 rfl).daS
  have a2 := ev_has (K := K) (E := fun _ => E0) mO List.mem_cons_self o1 (ev_var (i := 0) o1 (Obj.mo mO) rfl hv1) (ix 2 _ F1 H1 o1 hu1 rfl).daS
  rw [e1] at a1
  rw [e2] at a2
  exact ev_andV (a := true) (b := true) o1 a1 fun _ => a2
end QW

set_option Elab.async false
set_option linter.all false
set_option maxRecDepth 100000
set_option maxHeartbeats 1000000
/-! QCast3: a scheme takes its casts: the loop. -/
namespace QW
open PySem PySem.Spec PyProof.Rows L2 QR
section
variable {σ : L2.St} {H : Hp} {D : Ends} {te ta td ty tv : TE} {t : TA} {u : TS} {C : Addr} {m f : Str} {sp : Sp} {dvs : List V} {E : L2.St → XK} {Q : VK} {K : PySem.W.Frag}
theorem q_dropO (h : te σ H fun _ H1 => u D σ H1) : tSeq (tDrop te) u D σ H := h
theorem s_dropO (h : te σ H fun _ H1 => D.nx σ H1) : tDrop te D σ H := h
theorem methO (h : ta σ H fun x H1 => ∃ a dx fs, x = .ref a ∧ H1 a = some (.ins C dx fs) ∧ fs.lookup m = none ∧ t σ H1 fun vs H2 => sp (x :: (vs ++ dvs)) H2 Q (E σ)) : QC.tMethE C m sp dvs E ta t σ H Q := h
theorem dputO (h : tv σ H fun v H1 => td σ H1 fun x H2 => ty σ H2 fun y H3 => ∃ a H4, x = .ref a ∧ DPut H3 a y v H4 ∧ D.nx σ H4) : sDPut td ty tv D σ H := h
theorem q_dputO (h : tv σ H fun v H1 => td σ H1 fun x H2 => ty σ H2 fun y H3 => ∃ a H4, x = .ref a ∧ DPut H3 a y v H4 ∧ u D σ H4) : tSeq (sDPut td ty tv) u D σ H := h
theorem fldO (h : tv σ H fun y H1 => ta σ H1 fun x H2 => ∃ a C dx fs, x = .ref a ∧ H2 a = some (.ins C dx fs) ∧ Cls K C ∧ NoAttr K C f ∧ fs.length < 1000 ∧ D.nx σ (upd H2 a (.ins C dx (putF f y fs)))) : sFld K ta tv f D σ H := h
theorem q_fldO (h : tv σ H fun y H1 => ta σ H1 fun x H2 => ∃ a C dx fs, x = .ref a ∧ H2 a = some (.ins C dx fs) ∧ Cls K C ∧ NoAttr K C f ∧ fs.length < 1000 ∧ u D σ (upd H2 a (.ins C dx (putF f y fs)))) : tSeq (sFld K ta tv f) u D σ H := h
end
theorem al_any {F : Hp} : ∀ {ks : List Str} {vs : List V}, vs.length = ks.length → Al (ks.map fun _ => Any) vs F
  | [], [], _ => .nil
  | [], _ :: _, h => by cases h
  | _ :: _, [], h => by cases h
  | _ :: ks, _ :: vs, h => .cons True.intro (al_any (by simpa using h))
theorem fsS_none {T Cv Vv Av Ov : V} : ∀ m, m ∉ schF → (fsS T Cv Vv Av Ov).lookup m = none := fun m hm => by
  simp only [schF, List.mem_cons, List.not_mem_nil, or_false, not_or] at hm
  obtain ⟨h1, h2, h3, h4, h5, _⟩ := hm
  simp only [fsS, List.lookup_cons, beq_eq_false_iff_ne.mpr h1, beq_eq_false_iff_ne.mpr h2, beq_eq_false_iff_ne.mpr h3, beq_eq_false_iff_ne.mpr h4, beq_eq_false_iff_ne.mpr h5, List.lookup_nil]
abbrev upsE (es : List Ent) : Ups := es.map fun e => (e.1, e.2.2)
/-- an order as it stands, all its lists known for a while -/
theorem ordE {CT dxo od d : Addr} {es : List Ent} {G : Hp} (h1 : G od = some (.ins CT dxo [("own_ups", .ref d)])) (h2 : G d = some (.dK (kvE es))) (h3 : ∀ e ∈ es, G e.2.1 = some (.lst (sv e.2.2))) : Ord CT (upsE es) (.ref od) G := by
  refine ⟨od, dxo, [.ref d], rfl, h1, .cons ?_ .nil, rfl⟩
  refine ⟨d, es.map fun e => V.ref e.2.1, rfl, ?_, ?_, by simp only [List.length_map]⟩
  · rw [h2]
    congr 2
    clear h1 h2 h3
    induction es with
    | nil => rfl
    | cons e es ih => simp only [List.map_cons, List.zip_cons_cons, kvE] at ih ⊢; rw [ih]
  · clear h2
    induction es with
    | nil => exact .nil
    | cons e es ih => exact .cons ⟨e.2.1, _, rfl, h3 e List.mem_cons_self, al_strs _⟩ (ih fun x hx => h3 x (List.mem_cons_of_mem _ hx))
def t_tcB (K : PySem.W.Frag) (C CT : Addr) : TS := tSeq (tIfS (tNot (tB (QC.tMethE C "is_cast_row" (spIsC K C) [] (fun _ => E0) (tVar 0) (tCons (tVar 3) tNil)))) tNever tNext)
  (tSeq (tAsg (tVar 3) (gTup K 3 (gCons (gName 4) (gCons (gName 5) (gCons (gName 6) gNil)))))
  (tSeq (tIfS (tTest (QC.tMethE CT "would_cycle" (spCyc CT) [] (fun _ => E0) (tFld K (tVar 0) "own_order") (tCons (tVar 5) (tCons (tVar 6) tNil)))) tNever tNext)
  (tSeq (tDrop (QC.tMethE CT "connect" (spConn CT) [] (fun _ => E0) (tFld K (tVar 0) "own_order") (tCons (tVar 5) (tCons (tVar 6) tNil))))
  (sDPut (tFld K (tVar 0) "own_casts") (tVar 4) (tTup (tCons (tVar 5) (tCons (tVar 6) tNil)))))))
def t_tc (K : PySem.W.Frag) (C CT : Addr) : TS := tSeq (tIfS (tNot (tB (tCall spListOf [] E0 (tCons (tVar 1) (tCons (tCon K (tVar 0) "MAX_CASTS") tNil))))) tNever tNext)
  (tSeq (tFor (iEnum K (tCons (tVar 1) tNil)) (gTup K 2 (gCons (gName 2) (gCons (gName 3) gNil))) (t_tcB K C CT))
  (sFld K (tVar 0) (tCB (QK.rDictP K) (tCons (tCB QSo.rSortItK (tCons (tBM0 K "dict" QSo.rItemsK (tFld K (tVar 0) "own_casts")) tNil)) tNil)) "own_casts"))
/-- how far it has come -/
structure TcI (a : TcA) (i : Nat) (G H' : Hp) (es : List Ent) (vs : List V) : Prop where
  hs : H' a.self = some (.ins a.C a.dx (fsS a.T (.ref a.d1) a.Vv a.Av (.ref a.od)))
  hd : H' a.d1 = some (.dK ((((a.cs.take i).map (·.1)).zip vs).map QSo.entK))
  al : Al ((a.cs.take i).map cEnd) vs G
  uk : UpOk a.ts (a.cs.take i) es
  na : es.map (·.2.1) = a.es.map (·.2.1)
  ow : Own (es.map (·.2)) G H'
theorem TcI.on {a : TcA} {i : Nat} {G H' G1 H1 : Hp} {es : List Ent} {vs : List V} (h : TcI a i G H' es vs) (g : Gw W0 G H' G1 H1) : TcI a i G1 H1 es vs := ⟨g.same _ _ h.hs, g.same _ _ h.hd, h.al.mono g.g.ff (mos_map cEnd.mo _), h.uk, h.na, h.ow.on g⟩
theorem kvE_eq {es fs : List Ent} (h1 : es.map (·.1) = fs.map (·.1)) (h2 : es.map (·.2.1) = fs.map (·.2.1)) : kvE es = kvE fs := by
  have key : ∀ l : List Ent, kvE l = ((l.map (·.1)).zip (l.map (·.2.1))).map fun p => ((Sum.inr p.1 : Key), V.ref p.2) := by
    intro l
    induction l with
    | nil => rfl
    | cons e l ih => rw [kvE] at ih ⊢; simp only [List.map_cons, List.zip_cons_cons]; rw [ih]
  rw [key, key, h1, h2]
theorem pure_tcB {K : PySem.W.Frag} {C CT : Addr} (c : Cls K C) (nC : NoAttr K C "own_casts") (nO : NoAttr K C "own_order") {a : TcA} (e1 : a.C = C) (e2 : a.CT = CT) {M : List Addr} (hM : M = a.self :: a.d1 :: a.es.map (·.2.1)) {D : Ends} {i : Nat} {G H' : Hp} {es : List Ent} {vs : List V} {y : V} {u2 u4 u5 u6 : Option V} {u : V}
    (hi : i < a.cs.length) (hy : cTu a.cs[i] y G) (o : Ok (Wl M) G H') (I : TcI a i G H' es vs) (hT : Txts a.ts a.T G) (f1 : G a.od = some (.ins a.CT a.dxo [("own_ups", .ref a.d)])) (f2 : G a.d = some (.dK (kvE a.es)))
    (k : ∀ σ' G1 H1 es1 vs1, (∃ x2 x3 x4 x5 x6, σ' = [some (.ref a.self), some u, x2, x3, x4, x5, x6]) → Gw (Wl M) G H' G1 H1 → TcI a (i + 1) G1 H1 es1 vs1 → D.nx σ' H1) :
    t_tcB K C CT D [some (.ref a.self), some u, u2, some y, u4, u5, u6] H' := by
  subst e1
  subst e2
  have hc := List.getElem_mem hi
  have htk : a.cs.take (i + 1) = a.cs.take i ++ [a.cs[i]] := List.take_succ_eq_append_getElem hi
  have hnt := nodup_take (l := a.cs.map (·.1)) (i := i) (by rw [List.length_map]; exact hi) a.nd
  rw [List.getElem_map, ← List.map_take] at hnt
  obtain ⟨hce1, hce2⟩ := a.ce _ hc
  have hsub : ∀ c ∈ a.cs.take i, c ∈ a.cs := fun c h => List.mem_of_mem_take h
  have oZ := o.zero
  let A : List Addr := a.self :: a.d1 :: es.map (·.2.1)
  have kself : ∀ (F1 H1 : Hp), H1 a.self = some (.ins a.C a.dx (fsS a.T (.ref a.d1) a.Vv a.Av (.ref a.od))) → kn A F1 H1 a.self = some (.ins a.C a.dx (fsS a.T (.ref a.d1) a.Vv a.Av (.ref a.od))) := fun F1 H1 h => by rw [kn_in List.mem_cons_self, h]
  have sK := kn_same (A := A) oZ.s
  -- is_cast_row
  have hself : Obj a.C schF [("own_types", Txts a.ts), ("own_casts", DkA ((a.cs.take i).map (·.1)))] (.ref a.self) (kn A G H') := by
    refine ⟨a.self, a.dx, _, rfl, kself _ _ I.hs, fsS_none, fun p hp => ?_⟩
    rcases List.mem_cons.mp hp with rfl | hp
    · exact ⟨a.T, rfl, Txts.mo _ _ _ _ sK hT⟩
    · rw [List.mem_singleton.mp hp]
      refine ⟨.ref a.d1, rfl, a.d1, vs, rfl, by rw [kn_in (List.mem_cons_of_mem _ List.mem_cons_self), I.hd], ?_, by rw [List.length_map]⟩
      exact al_any (by rw [List.length_map]; exact (al_map I.al).1)
  have oK := oZ.kn (A := A)
  have hrow : EvW W0 (Is (.bl true)) (QC.tMethE a.C "is_cast_row" (spIsC K a.C) [] (fun _ => E0) (tVar 0) (tCons (tVar 3) tNil)) [some (.ref a.self), some u, u2, some y, u4, u5, u6] (kn A G H') H' :=
    ev_meth (A := fun b : IcA => [Obj a.C schF [("own_types", Txts b.ts), ("own_casts", DkA b.ks)], cTu b.c]) (Rf := fun _ => Is (.bl true)) ⟨a.ts, _, a.cs[i], a.nm _ hc, hnt, hce1, hce2⟩ rfl (Obj.mo (mo2 (Txts.mo _) (DkA.mo _))) (Obj.ins (by decide)) oK
      (ev_var oK (Obj.mo (mo2 (Txts.mo _) (DkA.mo _))) rfl hself) (ea_cons oK (cTu.mo _) (ev_var oK (cTu.mo _) rfl (cTu.mo _ _ _ _ sK hy)) (ea_nil oK))
  refine q_no oK (et_not (b := true) (et_B hrow)) fun F1 H1 g1 => ?_
  have gf := Gw.forget oZ sK g1
  have I1 := I.on gf
  have o1 := gf.ok oZ
  -- name, source, target = row
  obtain ⟨ya, ys, rfl, hya, aly⟩ := id hy
  obtain rfl := Al.is (f := fun v : V => v) (xs := [.str a.cs[i].1, .str a.cs[i].2.1, .str a.cs[i].2.2]) aly
  refine ⟨_, rfl, ya, _, rfl, .of (o1.s _ _ hya), rfl, _, _, rfl, _, _, rfl, _, _, rfl, rfl, ?_⟩
  show tSeq _ _ D [some (.ref a.self), some u, u2, some (.ref ya), some (.str a.cs[i].1), some (.str a.cs[i].2.1), some (.str a.cs[i].2.2)] H1
  -- would_cycle
  have hk1 := I1.uk.k
  obtain ⟨e, he, hte⟩ : ∃ e ∈ es, e.1 = a.cs[i].2.2 := by
    have : a.cs[i].2.2 ∈ es.map (·.1) := by rw [hk1]; exact hce2
    obtain ⟨e, he, h⟩ := List.mem_map.mp this
    exact ⟨e, he, h⟩
  obtain ⟨j, hj⟩ := List.getElem?_of_mem he
  obtain ⟨tn, lt, ut⟩ := e
  obtain rfl : tn = a.cs[i].2.2 := hte
  have hns : a.cs[i].2.1 ∉ ut := fun z => by
    have r := (I1.uk.r _ he _).mp z
    obtain ⟨rk, hrk⟩ := a.ac
    have h1 := Reach.rank (fun c h => hrk c (hsub c h)) r
    have h2 := hrk _ hc
    dsimp only at h1
    omega
  have ndu : (es.map (·.1)).Nodup := by rw [hk1]; exact a.nt
  have oK1 := o1.kn (A := A)
  have sK1 := kn_same (A := A) o1.s
  have hkv : kvE es = kvE a.es := kvE_eq (by rw [hk1, a.uk.k]) I1.na
  have hord : Ord a.CT (upsE es) (.ref a.od) (kn A G H1) := ordE (sK1 _ _ f1) (by rw [sK1 _ _ f2, hkv]) fun e he => by
    rw [kn_in (List.mem_cons_of_mem _ (List.mem_cons_of_mem _ (List.mem_map.mpr ⟨e, he, rfl⟩)))]
    exact (I1.ow _ (List.mem_map.mpr ⟨e, he, rfl⟩)).2
  have fO : ∀ (F2 H2 : Hp) (σ : L2.St), Ok W0 F2 H2 → H2 a.self = some (.ins a.C a.dx (fsS a.T (.ref a.d1) a.Vv a.Av (.ref a.od))) → σ[0]? = some (some (.ref a.self)) → EvW W0 (Is (.ref a.od)) (tFld K (tVar 0) "own_order") σ F2 H2 := fun F2 H2 σ oo e hσ =>
    ev_fldX (fun F1 H1 g => g.same _ _ e) oo c nO rfl (ev_var oo (Is.mo _) hσ rfl)
  have hcy : EvW W0 (Is (.bl (decide (a.cs[i].2.1 ∈ ut)))) (QC.tMethE a.CT "would_cycle" (spCyc a.CT) [] (fun _ => E0) (tFld K (tVar 0) "own_order") (tCons (tVar 5) (tCons (tVar 6) tNil))) [some (.ref a.self), some u, u2, some (.ref ya), some (.str a.cs[i].1), some (.str a.cs[i].2.1), some (.str a.cs[i].2.2)] (kn A G H1) H1 :=
    ev_meth (A := fun b : BeA => [Ord a.CT b.u, Is (.str b.other), Is (.str b.one)]) (Rf := fun b => Is (.bl (decide (b.other ∈ b.ts)))) ⟨upsE es, by rw [List.map_map]; exact ndu, j, a.cs[i].2.2, ut, by rw [List.getElem?_map, hj]; rfl, a.cs[i].2.1⟩ rfl (Ord.mo _ _) (Ord.ins (by decide)) oK1
      ((fO _ _ _ oK1 I1.hs rfl).imp fun v F' s r => by
        obtain rfl : v = .ref a.od := r
        exact Ord.mo _ _ _ _ _ s hord) (ea_cons oK1 (Is.mo _) (ev_var oK1 (Is.mo _) rfl rfl) (ea_cons oK1 (Is.mo _) (ev_var oK1 (Is.mo _) rfl rfl) (ea_nil oK1)))
  rw [decide_eq_false hns] at hcy
  refine q_no oK1 (et_val hcy) fun F2 H2 g2 => ?_
  have gf2 := Gw.forget o1 sK1 g2
  have I2 := I1.on gf2
  have o2 := gf2.ok o1
  have g02 := gf.trans oZ gf2
  -- connect
  have memb : ∀ e ∈ es, e.2.2.length ≤ 10 := fun e he => by
    refine Nat.le_trans (nodup_le _ a.ts (I2.uk.nd e he) fun x hx => ?_) a.tl
    have r := (I2.uk.r e he x).mp hx
    refine Reach.in_ (fun c h => (a.ce c (hsub c h)).2) r ?_
    rw [← hk1]
    exact List.mem_map.mpr ⟨e, he, rfl⟩
  refine q_dropO (methO (fO _ _ _ o2 I2.hs rfl _ _ o2.refl _ fun v F3 H3 g3 r => ?_))
  obtain rfl : v = .ref a.od := r
  have I3 := I2.on g3
  have o3 := g3.ok o2
  have g03 := g02.trans oZ g3
  have f13 := g03.g.ff _ _ f1
  have f23 := g03.g.ff _ _ f2
  refine ⟨a.od, a.dxo, _, rfl, o3.s _ _ f13, rfl, _, rfl, _, rfl, ?_⟩
  have hMm : ∀ m ∈ es.map (·.2.1), m ∈ M := fun m hm => by rw [hM]; exact List.mem_cons_of_mem _ (List.mem_cons_of_mem _ (by rw [← I.na]; exact hm))
  have nae : (es.map (·.2.1)).Nodup := by rw [I.na]; exact a.na
  refine ⟨⟨⟨a.CT, a.dxo, a.od, a.d, es, a.cs[i].2.1, a.cs[i].2.2, j, lt, ut, hj, hns, ndu, nae, fun e he' => by have := memb e he'; have := memb _ he; dsimp only at this; omega⟩, rfl⟩, F3, Ok.wl o3.s (fun m hm => ?_), .cons rfl (.cons rfl (.cons rfl .nil)), ⟨f13, by rw [f23, hkv], I3.ow⟩, fun v F4 H4 g4 hp => ?_⟩
  · obtain ⟨e, he, rfl⟩ := List.mem_map.mp hm
    obtain ⟨q1, q2⟩ := I3.ow _ (List.mem_map.mpr ⟨e, he, rfl⟩)
    exact ⟨q1, by rw [q2]; exact nofun⟩
  obtain ⟨rfl, ow4⟩ := hp
  dsimp only at g4 ow4
  -- own_casts[name] = (source, target)
  have nself : a.self ∉ es.map (·.2.1) := fun z => by
    obtain ⟨e, he, h⟩ := List.mem_map.mp z
    have q2 := (I3.ow _ (List.mem_map.mpr ⟨e, he, rfl⟩)).2
    rw [h, I3.hs] at q2
    cases q2
  have nd1 : a.d1 ∉ es.map (·.2.1) := fun z => by
    obtain ⟨e, he, h⟩ := List.mem_map.mp z
    have q2 := (I3.ow _ (List.mem_map.mpr ⟨e, he, rfl⟩)).2
    rw [h, I3.hd] at q2
    cases q2
  have hs4 : H4 a.self = _ := g4.g.hh _ _ nself I3.hs
  have hd4 : H4 a.d1 = _ := g4.g.hh _ _ nd1 I3.hd
  have o4 := (g4.ok (Ok.wl o3.s (fun m hm => by
    obtain ⟨e, he, rfl⟩ := List.mem_map.mp hm
    obtain ⟨q1, q2⟩ := I3.ow _ (List.mem_map.mpr ⟨e, he, rfl⟩)
    exact ⟨q1, by rw [q2]; exact nofun⟩))).zero
  have G04 : Gw (Wl M) G H' F4 H4 := Gw.nest o (g03.of0 o) g4 fun m hm => .inl (hMm m hm)
  refine dputO (ev_tup (Rs := [Is (.str a.cs[i].2.1), Is (.str a.cs[i].2.2)]) o4 (mos_cons (Is.mo _) (mos_cons (Is.mo _) mos_nil)) (tas := tCons (tVar 5) (tCons (tVar 6) tNil)) (σ := [some (.ref a.self), some u, u2, some (.ref ya), some (.str a.cs[i].1), some (.str a.cs[i].2.1), some (.str a.cs[i].2.2)])
    (ea_cons o4 (Is.mo _) (ev_var o4 (Is.mo _) rfl rfl) (ea_cons o4 (Is.mo _) (ev_var o4 (Is.mo _) rfl rfl) (ea_nil o4))) (show 2 ≤ 100000 by decide) _ _ o4.refl _ fun v F5 H5 g5 r5 => ?_)
  have hs5 := g5.same _ _ hs4
  have hd5 := g5.same _ _ hd4
  have hlv : vs.length = ((a.cs.take i).map (·.1)).length := by rw [List.length_map]; exact (al_map I.al).1
  refine ⟨_, rfl, a.self, a.C, a.dx, _, .ref a.d1, rfl, hs5, c, nC, rfl, _, rfl, a.d1, _, rfl, DPut.k (k := (Sum.inr a.cs[i].1 : Key)) hd5 (Evl.sz_lt ?_), ?_⟩
  · rw [List.length_map, List.length_zip, hlv, Nat.min_self, List.length_map, List.length_take]
    have := a.cl
    omega
  have hput : putK ((((a.cs.take i).map (·.1)).zip vs).map QSo.entK) (Sum.inr a.cs[i].1 : Key) v = (((a.cs.take (i + 1)).map (·.1)).zip (vs ++ [v])).map QSo.entK := by
    rw [putK_new _ (valV_none hnt), htk, List.map_append, List.zip_append hlv.symm, List.map_append]
    rfl
  rw [hput]
  have nd5 : F5 a.d1 = none := (Gw.trans o G04 (g5.of0 (G04.ok o))).g.nw _ (o.m _ (by rw [hM]; exact List.mem_cons_of_mem _ List.mem_cons_self)) (by rw [I.hd]; exact nofun)
  have sd : a.self ≠ a.d1 := fun z => by rw [z, hd5] at hs5; cases hs5
  have ow5 := ow4.on g5
  refine k _ F5 _ (stepE a.cs[i].2.1 ut es) (vs ++ [v]) ⟨_, _, _, _, _, rfl⟩ ((Gw.trans o G04 (g5.of0 (G04.ok o))).mutL (.inl (by rw [hM]; exact List.mem_cons_of_mem _ List.mem_cons_self)) nd5) ⟨by rw [upd_ne sd]; exact hs5, upd_same, ?_, ?_, ?_, fun p hp => ?_⟩
  · rw [htk, List.map_append]
    exact ((I3.al.mono (g4.g.ff.trans g5.g.ff) (mos_map cEnd.mo _))).append (.cons r5 .nil)
  · rw [htk]
    exact I.uk.add _ he
  · rw [← I.na, stepE, List.map_map]
    rfl
  · have q := ow5 p hp
    have ne : p.1 ≠ a.d1 := fun z => by
      rw [z, hd5] at q
      cases q.2
    rw [upd_ne ne]
    exact q
theorem pure_tc {K : PySem.W.Frag} {C CT : Addr} (c : Cls K C) (nC : NoAttr K C "own_casts") (nO : NoAttr K C "own_order") (kM : ∃ u, Con K C "MAX_CASTS" (.int 20) u) {vs : List V} {H : Hp} {Q : VK} {E : XK} (h : spTC C CT vs H Q E) :
    t_tc K C CT { nx := fun _ H' => Q .non H', rt := Q } (L2.start ["self", "casts", "position", "row", "name", "source", "target"] vs) H := by
  obtain ⟨⟨a, e1, e2⟩, F, o, al, ⟨p1, p2, p3, p4, p5, p6⟩, q⟩ := h
  obtain ⟨u, rfl, hu⟩ : ∃ u, vs = [.ref a.self, u] ∧ Li (a.cs.map cTu) u F := by
    cases al with
    | cons h r =>
      cases r with
      | cons h2 r =>
        cases r
        obtain rfl := h
        exact ⟨_, rfl, h2⟩
  dsimp only at o q
  have oZ := o.zero
  have mt := mos_map cTu.mo a.cs
  have hT : EvT W0 false (tNot (tB (tCall spListOf [] E0 (tCons (tVar 1) (tCons (tCon K (tVar 0) "MAX_CASTS") tNil))))) [some (.ref a.self), some u, none, none, none, none, none] F H :=
    et_not (b := true) (et_B (ev_listof (Rs := a.cs.map cTu) (n := 20) oZ mt (ev_var oZ (Sq.mo mt) rfl (.inl hu)) (ev_conX (fun F1 H1 g => g.same _ _ p1) oZ (e1 ▸ c) (e1 ▸ kM) (fsS_none _ (by decide)) (ev_var oZ (Is.mo _) rfl rfl)) (by rw [List.length_map]; have := a.cl; omega)))
  refine q_no oZ hT fun F1 H1 g1 => ?_
  have o1 := g1.of0 o |>.ok o
  have hu1 := Li.mo mt _ _ _ g1.g.ff hu
  have I0 : TcI a 0 F H a.es [] := ⟨p1, p3, .nil, a.uk, rfl, p6⟩
  have I1 := I0.on g1
  have hj := ej_enum (K := K) (w0 := W0) (w := Wl (a.self :: a.d1 :: a.es.map (·.2.1))) (σ := [some (.ref a.self), some u, none, none, none, none, none]) (tas := tCons (tVar 1) tNil) Wl.sub0 o1 mt (ea_cons o1.zero (Li.mo mt) (ev_var o1.zero (Li.mo mt) rfl hu1) (ea_nil o1.zero))
  have hlen : (a.cs.map cTu).length = a.cs.length := List.length_map ..
  refine q_forJ Wl.sub0 o1 hj (fun i σ' G H' => (∃ x2 x3 x4 x5 x6, σ' = [some (.ref a.self), some u, x2, x3, x4, x5, x6]) ∧ ∃ es vs, TcI a i G H' es vs)
    (fun F' H' g => ⟨⟨_, _, _, _, _, rfl⟩, _, _, I1.on g⟩) (fun i x σ' G0 H0 G H' N hi g0 iv g2 hx k2 => ?_) fun σ' G H' g iv => ?_
  · obtain ⟨⟨x2, x3, x4, x5, x6, rfl⟩, es, vs, I⟩ := iv
    obtain ⟨T, y, R, rfl, hT, hR, r⟩ := hx
    have hi' : i < a.cs.length := by rw [← hlen]; exact hi
    rw [List.getElem?_map, List.getElem?_eq_getElem hi'] at hR
    cases hR
    have o0 := g0.ok o1
    have oo := (g2.of0 o0).ok o0
    have ff := (g1.g.ff.trans g0.g.ff).trans g2.g.ff
    refine ⟨T, _, rfl, .of (oo.s _ _ hT), rfl, _, _, rfl, _, _, rfl, rfl, ?_⟩
    refine pure_tcB c nC nO e1 e2 rfl hi' r oo (I.on g2) (Txts.mo _ _ _ _ ff p2) (ff _ _ p4) (ff _ _ p5) fun σ' G1 H1 es1 vs1 hσ g3 I3 => ?_
    exact k2 σ' G1 H1 g3 ⟨hσ, es1, vs1, I3⟩
  · obtain ⟨⟨x2, x3, x4, x5, x6, rfl⟩, es, vs, I⟩ := iv
    rw [hlen] at I
    have gg := Gw.trans o (g1.of0 o) g
    have o2 := gg.ok o
    have o2Z := o2.zero
    have hal := I.al
    have hd := I.hd
    have huk := I.uk
    rw [List.take_length] at hal hd huk
    have fC : EvW W0 (Is (.ref a.d1)) (tFld K (tVar 0) "own_casts") [some (.ref a.self), some u, x2, x3, x4, x5, x6] G H' := ev_fldX (fun F1 H1 g => g.same _ _ I.hs) o2Z (e1 ▸ c) (e1 ▸ nC) rfl (ev_var o2Z (Is.mo _) rfl rfl)
    refine fldO (ev_sdict (key := fun c : Cst => c.1) (val := cEnd) (L := a.cs) o2Z (fun F1 H1 g => g.same _ _ hd) hal cEnd.mo a.nd (by have := a.cl; omega) fC _ _ o2Z.refl _ fun v F3 H3 g3 r => ?_)
    obtain ⟨cs', hp, ho, hD⟩ := r
    have hs3 := g3.same _ _ I.hs
    refine ⟨_, rfl, a.self, a.C, a.dx, _, rfl, hs3, e1 ▸ c, e1 ▸ nC, show 5 < 1000 by decide, ?_⟩
    have nf : F3 a.self = none := (gg.trans o (g3.of0 o2)).g.nw _ (o.m _ List.mem_cons_self) (by rw [p1]; exact nofun)
    have ow3 := I.ow.on g3
    refine q .non F3 _ ((gg.trans o (g3.of0 o2)).mutL (.inl List.mem_cons_self) nf) ⟨rfl, v, es, cs', ?_, hp, ho, hD, huk, I.na, fun p hp => ?_⟩
    · rw [upd_same]
      rfl
    · have q2 := ow3 p hp
      have ne : p.1 ≠ a.self := fun z => by
        rw [z, hs3] at q2
        cases q2.2
      rw [upd_ne ne]
      exact q2
end QW

set_option Elab.async false
set_option linter.all false
set_option maxRecDepth 100000
set_option maxHeartbeats 1000000
/-! QComp: comprehensions over anything, by the properties of what is walked; their targets; dicts that are walked. -/
namespace QW
open PySem PySem.Spec PyProof.Rows L2 QR
section
variable {K : PySem.W.Frag} {w : Wd} {σ : L2.St} {F H : Hp} {ta tb tc te tl : TE} {α : Type} {wi : TI} {g : TG} {tt : TT} {vs : List Nat} {r r' : R2}
/-- a chain of two comparisons of ints, its value -/
theorem ev_chainV {f f' : Int → Int → Bool} {i j l : Int} (hr : ∀ i j, OpW w r (Is (.int i)) (Is (.int j)) (Is (.bl (f i j)))) (hr' : ∀ i j, OpW w r' (Is (.int i)) (Is (.int j)) (Is (.bl (f' i j)))) (o : Ok w F H)
    (ha : EvW w (Is (.int i)) ta σ F H) (hb : EvW w (Is (.int j)) tb σ F H) (hc : EvW w (Is (.int l)) tc σ F H) : EvW w (Is (.bl (f i j && f' j l))) (tChain r r' ta tb tc) σ F H := fun F1 H1 g Q q =>
  ha F1 H1 g _ fun x F2 H2 g2 rx => hb F2 H2 (g.trans o g2) _ fun y F3 H3 g3 ry => by
    have o1 := g.ok o
    have o2 := g2.ok o1
    have o3 := g3.ok o2
    refine hr i j x y F3 H3 o3 rx ry _ fun z F4 H4 g4 rz => ⟨f i j, rz, ?_⟩
    have o4 := g4.ok o3
    have g14 := (g2.trans o1 g3).trans o1 g4
    cases e : f i j with
    | false =>
      rw [if_neg (by decide)]
      refine q _ F4 H4 g14 ?_
      rw [e]
      rfl
    | true =>
      rw [if_pos rfl]
      refine hc F4 H4 (g.trans o g14) _ fun z2 F5 H5 g5 rz2 => hr' j l y z2 F5 H5 (g5.ok o4) ry rz2 _ fun u F6 H6 g6 ru => ?_
      refine q u F6 H6 ((g14.trans o1 g5).trans o1 g6) ?_
      rw [e, Bool.true_and]
      exact ru
theorem et_yes (o : Ok w F H) : EvT w true tYes σ F H := fun F1 H1 g _ q => q F1 H1 (g.ok o).refl
/-- a comprehension: what is walked by its properties, the target's slots told, a test -/
theorem ev_compG {Cs : List α} {Y : Nat → Pr} {n : Nat} {gg : α → Pr} {p : α → Bool} (S : α → L2.St → Hp → Prop) (o : Ok w F H) (hi : EvI w n Y wi σ F H) (hn : n = Cs.length) (mT : ∀ C, Mo (gg C)) (hz : Cs.length ≤ 100000)
    (hg : ∀ i C x G H', Cs[i]? = some C → Y i x G → Gw w F H G H' → ∃ σ', wipe σ' vs = wipe σ vs ∧ (∀ Kk : L2.St → Hp → Prop, Kk σ' H' → g x (wipe σ vs) H' Kk) ∧ S C σ' G)
    (ht : ∀ C σ' G H', C ∈ Cs → S C σ' G → Gw w F H G H' → EvT w (p C) tt σ' G H')
    (hS : ∀ C σ' G G', Same G G' → S C σ' G → S C σ' G')
    (he : ∀ C σ' G H', C ∈ Cs → p C = true → S C σ' G → Gw w F H G H' → EvW w (gg C) te σ' G H') : EvW w (Li ((Cs.filter p).map gg)) (tLc wi g tt te vs) σ F H := by
  subst hn
  refine ev_lcI o hi hz (fun i ys F => Al (((Cs.take i).filter p).map gg) ys F) (fun i ys F F' e h => h.mono e (mos_map mT _)) (fun _ _ => .nil) (fun i x ys G H' hi' hx g1 iv Qy Qn hy hnn => ?_) fun ys G iv D e => ?_
  · obtain ⟨σ', hw, hk, hs⟩ := hg i Cs[i] x G H' (List.getElem?_eq_getElem hi') hx g1
    have hc := List.getElem_mem hi'
    have htk : Cs.take (i + 1) = Cs.take i ++ [Cs[i]] := List.take_succ_eq_append_getElem hi'
    have o1 := g1.ok o
    refine hk _ ⟨hw, ht _ _ G H' hc hs g1 G H' o1.refl _ fun G2 H2 g2 => ?_⟩
    cases hb : p Cs[i] with
    | true =>
      rw [if_pos rfl]
      refine he _ _ G H' hc hb hs g1 G2 H2 g2 Qy fun v G3 H3 g3 r => hy v G3 H3 (g2.trans o1 g3) ?_
      rw [htk, List.filter_append, List.map_append]
      have : [Cs[i]].filter p = [Cs[i]] := by simp [hb]
      rw [this]
      exact (iv.mono (g2.trans o1 g3).g.ff (mos_map mT _)).append (.cons r .nil)
    | false =>
      rw [if_neg (by decide)]
      refine hnn G2 H2 g2 ?_
      rw [htk, List.filter_append, List.map_append]
      have : [Cs[i]].filter p = [] := by simp [hb]
      rw [this, List.map_nil, List.append_nil]
      exact iv.mono g2.g.ff (mos_map mT _)
  · refine ⟨D, ys, rfl, e, ?_⟩
    rw [List.take_of_length_le (Nat.le_refl _)] at iv
    exact iv
/-- a plain name as target -/
theorem ev_compN {Cs : List α} {f gg : α → Pr} {p : α → Bool} {j n : Nat} (o : Ok w F H) (hi : EvI w n (fun i x F => ∃ R, (Cs.map f)[i]? = some R ∧ R x F) wi σ F H) (hn : n = Cs.length) (hw : ∀ x, wipe ((wipe σ vs).set j (some x)) vs = wipe σ vs) (mf : ∀ C, Mo (f C)) (mT : ∀ C, Mo (gg C)) (hz : Cs.length ≤ 100000)
    (ht : ∀ C x G H', C ∈ Cs → f C x G → Gw w F H G H' → EvT w (p C) tt ((wipe σ vs).set j (some x)) G H')
    (he : ∀ C x G H', C ∈ Cs → p C = true → f C x G → Gw w F H G H' → EvW w (gg C) te ((wipe σ vs).set j (some x)) G H') : EvW w (Li ((Cs.filter p).map gg)) (tLc wi (gName j) tt te vs) σ F H :=
  ev_compG (S := fun C σ' G => ∃ x, σ' = (wipe σ vs).set j (some x) ∧ f C x G) o hi hn mT hz (fun i C x G H' hC hY g => by
    obtain ⟨R, hR, r⟩ := hY
    rw [List.getElem?_map, hC] at hR
    cases hR
    exact ⟨_, hw x, fun Kk h => h, x, rfl, r⟩) (fun C σ' G H' hC hS g => by
    obtain ⟨x, rfl, r⟩ := hS
    exact ht C x G H' hC r g) (fun C σ' G G' e hS => by
    obtain ⟨x, rfl, r⟩ := hS
    exact ⟨x, rfl, mf C _ _ _ e r⟩) (fun C σ' G H' hC hp hS g => by
    obtain ⟨x, rfl, r⟩ := hS
    exact he C x G H' hC hp r g)
theorem filter_tt {Cs : List α} : Cs.filter (fun _ => true) = Cs := List.filter_eq_self.mpr fun _ _ => rfl
/-- without a test -/
theorem ev_mapN {Cs : List α} {f gg : α → Pr} {j n : Nat} (o : Ok w F H) (hi : EvI w n (fun i x F => ∃ R, (Cs.map f)[i]? = some R ∧ R x F) wi σ F H) (hn : n = Cs.length) (hw : ∀ x, wipe ((wipe σ vs).set j (some x)) vs = wipe σ vs) (mf : ∀ C, Mo (f C)) (mT : ∀ C, Mo (gg C)) (hz : Cs.length ≤ 100000)
    (he : ∀ C x G H', C ∈ Cs → f C x G → Gw w F H G H' → EvW w (gg C) te ((wipe σ vs).set j (some x)) G H') : EvW w (Li (Cs.map gg)) (tLc wi (gName j) tYes te vs) σ F H := by
  have := ev_compN (p := fun _ => true) (te := te) (tt := tYes) (gg := gg) o hi hn hw mf mT hz (fun C x G H' _ _ g => et_yes (g.ok o)) fun C x G H' hC _ r g => he C x G H' hC r g
  rw [filter_tt] at this
  exact this
theorem mapN_list {Cs : List α} {f gg : α → Pr} {j : Nat} (o : Ok w F H) (hl : EvW w (Li (Cs.map f)) tl σ F H) (hw : ∀ x, wipe ((wipe σ vs).set j (some x)) vs = wipe σ vs) (mf : ∀ C, Mo (f C)) (mT : ∀ C, Mo (gg C)) (hz : Cs.length ≤ 100000)
    (he : ∀ C x G H', C ∈ Cs → f C x G → Gw w F H G H' → EvW w (gg C) te ((wipe σ vs).set j (some x)) G H') : EvW w (Li (Cs.map gg)) (tLc (iList K tl) (gName j) tYes te vs) σ F H :=
  ev_mapN o (ei_list o (mos_map mf _) hl) (List.length_map ..) hw mf mT hz he
theorem mapN_tup {Cs : List α} {f gg : α → Pr} {j : Nat} (o : Ok w F H) (hl : EvW w (Tu (Cs.map f)) tl σ F H) (hw : ∀ x, wipe ((wipe σ vs).set j (some x)) vs = wipe σ vs) (mf : ∀ C, Mo (f C)) (mT : ∀ C, Mo (gg C)) (hz : Cs.length ≤ 100000)
    (he : ∀ C x G H', C ∈ Cs → f C x G → Gw w F H G H' → EvW w (gg C) te ((wipe σ vs).set j (some x)) G H') : EvW w (Li (Cs.map gg)) (tLc (iTup K tl) (gName j) tYes te vs) σ F H :=
  ev_mapN o (ei_tup o (mos_map mf _) hl) (List.length_map ..) hw mf mT hz he
theorem compN_list {Cs : List α} {f gg : α → Pr} {p : α → Bool} {j : Nat} (o : Ok w F H) (hl : EvW w (Li (Cs.map f)) tl σ F H) (hw : ∀ x, wipe ((wipe σ vs).set j (some x)) vs = wipe σ vs) (mf : ∀ C, Mo (f C)) (mT : ∀ C, Mo (gg C)) (hz : Cs.length ≤ 100000)
    (ht : ∀ C x G H', C ∈ Cs → f C x G → Gw w F H G H' → EvT w (p C) tt ((wipe σ vs).set j (some x)) G H')
    (he : ∀ C x G H', C ∈ Cs → p C = true → f C x G → Gw w F H G H' → EvW w (gg C) te ((wipe σ vs).set j (some x)) G H') : EvW w (Li ((Cs.filter p).map gg)) (tLc (iList K tl) (gName j) tt te vs) σ F H :=
  ev_compN o (ei_list o (mos_map mf _) hl) (List.length_map ..) hw mf mT hz ht he
/-- t + (x,): tuples one behind another -/
theorem ow_catT {Rs Ss : List Pr} (m1 : ∀ R ∈ Rs, Mo R) (m2 : ∀ R ∈ Ss, Mo R) (h0 : Rs ≠ []) (hl : Rs.length + Ss.length ≤ 100000) : OpW w (rCatT K) (Tu Rs) (Tu Ss) (Tu (Rs ++ Ss)) := by
  intro x y F H o rx ry Q q
  obtain ⟨l, vs, rfl, h1, a1⟩ := rx
  obtain ⟨k, us, rfl, h2, a2⟩ := ry
  have l1 := a1.length
  have l2 := a2.length
  refine ⟨l, k, vs, us, rfl, rfl, .of (o.s _ _ h1), .of (o.s _ _ h2), fun z => h0 (List.length_eq_zero_iff.mp (by rw [← l1, z]; rfl)), Evl.sz_of (by omega), fun e => ?_, fun _ p n => ?_⟩
  · subst e
    obtain rfl : Ss = [] := List.length_eq_zero_iff.mp (by rw [← l2]; rfl)
    refine q _ F H o.refl ⟨l, vs, rfl, h1, by rw [List.append_nil]; exact a1⟩
  · have e := same_upd (o := .tup (vs ++ us)) (same_none o.s n)
    exact q _ (upd F p (.tup (vs ++ us))) _ (o.refl.new o n) ⟨p, vs ++ us, rfl, upd_same, (a1.mono e m1).append (a2.mono e m2)⟩
/-- d.items(), held: each turn a new pair -/
theorem ei_items {ks : List Str} {xs : List V} {Rs : List Pr} {d : Addr} {od : PySem.Obj} {td : TE} (m : ∀ R ∈ Rs, Mo R) (o : Ok w F H) (al : Al Rs xs F) (hl : xs.length = ks.length) (nm : d ∉ w.M) (e : H d = some (.frz od (.dK ((ks.zip xs).map QSo.entK)))) (h : EvW w (Is (.ref d)) td σ F H) :
    EvI w ks.length (fun i x F => ∃ T y R k, x = .ref T ∧ F T = some (.tup [.str k, y]) ∧ ks[i]? = some k ∧ Rs[i]? = some R ∧ R y F) (iItems td) σ F H := fun F1 H1 g Q q =>
  h F1 H1 g _ fun v F2 H2 b hv => by
    obtain rfl : v = .ref d := hv
    have o2 := b.ok (g.ok o)
    have g12 := g.trans o b
    have e2 : H2 d = some (.frz od (.dK ((ks.zip xs).map QSo.entK))) := g12.g.hh d _ nm e
    refine ⟨d, od, _, rfl, e2, q _ F2 H2 b ?_⟩
    have hS : ∀ G H', Gw w F2 H2 G H' → H' d = some (.frz od (.dK ((ks.zip xs).map QSo.entK))) := fun G H' g => g.g.hh d _ nm e2
    have wk := walk_items (d := d) (o := od) (kvs := (ks.zip xs).map QSo.entK)
    have hlz : ((ks.zip xs).map QSo.entK).length = ks.length := by rw [List.length_map, List.length_zip, hl, Nat.min_self]
    refine ⟨fun i G H' hi g => wk.goes i H' (by omega) (hS G H' g), fun G H' g => by rw [← hlz]; exact wk.stops H' (hS G H' g), fun i G H' x H'' hi g3 y => ?_⟩
    obtain ⟨T, x1, y1, rfl, hT, rfl, hx1, hy1⟩ := wk.yields i H' x H'' (by omega) (hS G H' g3) y
    have hi2 : i < xs.length := by omega
    have hz : ((ks.zip xs).map QSo.entK)[i]? = some (QSo.entK (ks[i], xs[i])) := by
      rw [List.getElem?_map, (List.getElem?_zip_eq_some (z := (ks[i], xs[i]))).mpr ⟨List.getElem?_eq_getElem hi, List.getElem?_eq_getElem hi2⟩]
      rfl
    simp only [hz, Option.map_some] at hx1 hy1
    cases hx1
    cases hy1
    obtain ⟨R, hR, rr⟩ := al.get (List.getElem?_eq_getElem hi2)
    have oG := g3.ok o2
    have nT := same_none oG.s hT
    exact ⟨upd G T (.tup [.str ks[i], xs[i]]), oG.refl.new oG hT, T, xs[i], R, ks[i], rfl, upd_same, List.getElem?_eq_getElem hi, hR, m R (List.mem_of_getElem? hR) _ _ _ ((g12.g.ff.trans g3.g.ff).trans (same_upd nT)) rr⟩
end
end QW

set_option Elab.async false
set_option linter.all false
set_option maxRecDepth 100000
set_option maxHeartbeats 1000000
/-! QVer: a scheme takes its versions. -/
namespace QW
open PySem PySem.Spec PyProof.Rows L2 QR
abbrev Ver : Type := Str × Str × List Str × Str
abbrev TuS (ts : List Str) : Pr := Tu (ts.map fun y => Is (.str y))
theorem TuS.mo (ts : List Str) : Mo (TuS ts) := Tu.mo (mos_map (f := fun y : Str => Is (.str y)) (fun y => Is.mo _) ts)
def vTu (v : Ver) : Pr := Tu [Is (.str v.1), Is (.str v.2.1), TuS v.2.2.1, Is (.str v.2.2.2)]
def vEnd (v : Ver) : Pr := Tu [Is (.str v.2.1), TuS v.2.2.1, Is (.str v.2.2.2)]
theorem vTu.mo (v : Ver) : Mo (vTu v) := Tu.mo (mos_cons (Is.mo _) (mos_cons (Is.mo _) (mos_cons (TuS.mo _) (mos_cons (Is.mo _) mos_nil))))
theorem vEnd.mo (v : Ver) : Mo (vEnd v) := Tu.mo (mos_cons (Is.mo _) (mos_cons (TuS.mo _) (mos_cons (Is.mo _) mos_nil)))
structure AtA where
  Rs : List Pr
  m : ∀ R ∈ Rs, Mo R
def spAT (K : PySem.W.Frag) : Sp := spW (fun _ : AtA => W0) (fun a => [Tu a.Rs]) fun a => Is (.bl (decide ((1 : Int) ≤ a.Rs.length) && decide ((a.Rs.length : Int) ≤ 2)))
theorem spAT.len {K : PySem.W.Frag} : ∀ vs H Q E, spAT K vs H Q E → vs.length = 1 := spW.len fun _ => rfl
structure IvA where
  ts : List Str
  ks : List Str
  v : Ver
  nm : isNmS v.1 = true
  nin : v.1 ∉ ks
  no : isNmS v.2.1 = true
  h0 : v.2.2.1 ≠ []
  h2 : v.2.2.1.length ≤ 2
  ha : ∀ y ∈ v.2.2.1, y ∈ ts
  hr : v.2.2.2 ∈ ts
def spIsV (K : PySem.W.Frag) (C : Addr) : Sp := spW (fun _ : IvA => W0) (fun a => [Obj C schF [("own_types", Txts a.ts), ("own_versions", DkA a.ks)], vTu a.v]) fun _ => Is (.bl true)
theorem spIsV.len {K : PySem.W.Frag} {C : Addr} : ∀ vs H Q E, spIsV K C vs H Q E → vs.length = 2 := spW.len fun _ => rfl
structure TvA where
  C : Addr
  dx : Addr
  self : Addr
  T : V
  Cv : V
  d2 : Addr
  d3 : Addr
  Ov : V
  ts : List Str
  vs : List Ver
  ar : Str → Nat
  nd : (vs.map (·.1)).Nodup
  nm : ∀ v ∈ vs, isNmS v.1 = true
  vl : vs.length ≤ 16
  ve : ∀ v ∈ vs, isNmS v.2.1 = true ∧ v.2.2.1 ≠ [] ∧ v.2.2.1.length ≤ 2 ∧ (∀ y ∈ v.2.2.1, y ∈ ts) ∧ v.2.2.2 ∈ ts
  va : ∀ v ∈ vs, v.2.2.1.length = ar v.2.1
  d23 : d2 ≠ d3
def verD (vs : List Ver) : Pr := Dk (vs.map (·.1)) (vs.map vEnd)
theorem verD.mo (vs : List Ver) : Mo (verD vs) := Dk.mo (mos_map vEnd.mo vs)
/-- the arities as they stand -/
abbrev arK (ar : Str → Nat) (os : List Str) : List (Key × V) := os.map fun o => ((Sum.inr o : Key), V.int (ar o))
structure ArOk (vs : List Ver) (os : List Str) : Prop where
  nd : os.Nodup
  m : ∀ o, o ∈ os ↔ ∃ v ∈ vs, v.2.1 = o
def spTV (C : Addr) : Sp := spP (fun a : {a : TvA // a.C = C} => [a.1.self, a.1.d2, a.1.d3]) (fun a => [Is (.ref a.1.self), Li (a.1.vs.map vTu)])
  (fun a F H => H a.1.self = some (.ins a.1.C a.1.dx (fsS a.1.T a.1.Cv (.ref a.1.d2) (.ref a.1.d3) a.1.Ov)) ∧ Txts a.1.ts a.1.T F ∧ H a.1.d2 = some (.dK []) ∧ H a.1.d3 = some (.dK []))
  (fun a H v F' H' => v = .non ∧ ∃ (dn : V) (vs : List Ver) (os : List Str), H' a.1.self = some (.ins a.1.C a.1.dx (fsS a.1.T a.1.Cv dn (.ref a.1.d3) a.1.Ov)) ∧ vs.Perm a.1.vs ∧ InOrd (vs.map (·.1)) ∧ verD vs dn F' ∧ ArOk a.1.vs os ∧ H' a.1.d3 = some (.dK (arK a.1.ar os)))
theorem spTV.len {C : Addr} : ∀ vs H Q E, spTV C vs H Q E → vs.length = 2 := spP.len fun _ => rfl

def t_at (K : PySem.W.Frag) : TS := tRet (tAndV (tCB (rIsi K) (tCons (tVar 0) (tCons (tC (.ty "tuple")) tNil))) (tChain oLe oLe (tC (.int 1)) (tCB (iLen K) (tCons (tVar 0) tNil)) (tC (.int 2))))
theorem pure_at {K : PySem.W.Frag} {vs : List V} {H : Hp} {Q : VK} {E : XK} (h : spAT K vs H Q E) : t_at K { nx := fun _ H' => Q .non H', rt := Q } (L2.start ["value"] vs) H := by
  obtain ⟨⟨Rs, m⟩, F, o, al, q⟩ := h
  obtain ⟨v, rfl, hv⟩ : ∃ v, vs = [v] ∧ Tu Rs v F := by
    cases al with
    | cons h r => cases r; exact ⟨_, rfl, h⟩
  have m : ∀ R ∈ Rs, Mo R := m
  have hc := ev_chainV (f := fun i j => decide (i ≤ j)) (f' := fun i j => decide (i ≤ j)) (fun i j => ow_int) (fun i j => ow_int) o (ev_c (v := .int 1) (σ := [some v]) o fun _ => rfl) (ev_cb (tas := tCons (tVar 0) tNil) o (ea_cons o (Tu.mo m) (ev_var o (Tu.mo m) rfl hv) (ea_nil o)) (ca_lenTu (K := K))) (ev_c (v := .int 2) o fun _ => rfl)
  have hi := ev_cb (tas := tCons (tVar 0) (tCons (tC (.ty "tuple")) tNil)) (σ := [some v]) o (ea_cons o (Tu.mo m) (ev_var o (Tu.mo m) rfl hv) (ea_cons o (Is.mo _) (ev_c o fun _ => rfl) (ea_nil o))) (ca_isTu (K := K))
  refine q_ret (R := Is (.bl (decide ((1 : Int) ≤ Rs.length) && decide ((Rs.length : Int) ≤ 2)))) o ?_ q
  have := ev_andV (a := true) o hi fun _ => hc
  rw [Bool.true_and] at this
  exact this
def t_isV (K : PySem.W.Frag) (C : Addr) : TS := tSeq (tIfS (tOr (tNot (tB (tCB (rIsi K) (tCons (tVar 1) (tCons (tC (.ty "tuple")) tNil))))) (tOr (tTest (tOp rNe (tCB (iLen K) (tCons (tVar 1) tNil)) (tC (.int 4))))
  (tOr (tNot (tB (tCall (spNm K) [] E0 (tCons (tOp (rIxT K) (tVar 1) (tC (.int 0))) tNil)))) (tTest (tOp QK.rInDk (tOp (rIxT K) (tVar 1) (tC (.int 0))) (tFld K (tVar 0) "own_versions")))))) (tRet (tC (.bl false))) tNext)
  (tSeq (tIfS (tOr (tNot (tB (tCall (spNm K) [] E0 (tCons (tOp (rIxT K) (tVar 1) (tC (.int 1))) tNil)))) (tNot (tB (tCall (spAT K) [] E0 (tCons (tOp (rIxT K) (tVar 1) (tC (.int 2))) tNil))))) (tRet (tC (.bl false))) tNext)
  (tRet (tCB (rAll K) (tCons (tLc (iTup K (tOp (rCatT K) (tOp (rIxT K) (tVar 1) (tC (.int 2))) (tTup (tCons (tOp (rIxT K) (tVar 1) (tC (.int 3))) tNil)))) (gName 2) tYes
    (QC.tMethE C "has_type" (spHas K C) [] (fun _ => E0) (tVar 0) (tCons (tVar 2) tNil)) [2]) tNil))))
theorem pure_isV {K : PySem.W.Frag} {C : Addr} (c : Cls K C) (n : NoAttr K C "own_versions") {vs : List V} {H : Hp} {Q : VK} {E : XK} (h : spIsV K C vs H Q E) : t_isV K C { nx := fun _ H' => Q .non H', rt := Q } (L2.start ["self", "row", "name"] vs) H := by
  obtain ⟨⟨ts, ks, r, nm, nin, no, h0, h2, ha, hr⟩, F, o, al, q⟩ := h
  obtain ⟨v, u, rfl, hv, hu⟩ : ∃ v u, vs = [v, u] ∧ Obj C schF [("own_types", Txts ts), ("own_versions", DkA ks)] v F ∧ vTu r u F := by
    cases al with
    | cons h r =>
      cases r with
      | cons h2 r => cases r; exact ⟨_, _, rfl, h, h2⟩
  have mO := mo2 (f := "own_types") (g := "own_versions") (Txts.mo ts) (DkA.mo ks)
  have ix : ∀ (i : Nat) (R : Pr) (F H : Hp), Ok W0 F H → vTu r u F → [Is (.str r.1), Is (.str r.2.1), TuS r.2.2.1, Is (.str r.2.2.2)][i]? = some R → EvW W0 R (tOp (rIxT K) (tVar 1) (tC (.int (i : Nat)))) [some v, some u, none] F H := fun i R F H o hu hi =>
    ev_op o (vTu.mo r) (ev_var o (vTu.mo r) rfl hu) (ev_c o fun _ => rfl) (ow_ixT hi)
  have hc : EvT W0 false (tOr (tNot (tB (tCB (rIsi K) (tCons (tVar 1) (tCons (tC (.ty "tuple")) tNil))))) (tOr (tTest (tOp rNe (tCB (iLen K) (tCons (tVar 1) tNil)) (tC (.int 4))))
      (tOr (tNot (tB (tCall (spNm K) [] E0 (tCons (tOp (rIxT K) (tVar 1) (tC (.int 0))) tNil)))) (tTest (tOp QK.rInDk (tOp (rIxT K) (tVar 1) (tC (.int 0))) (tFld K (tVar 0) "own_versions")))))) [some v, some u, none] F H := by
    refine et_or (a := false) (b := false) o (et_not (b := true) (et_B (ev_cb o (ea_cons o (vTu.mo r) (ev_var o (vTu.mo r) rfl hu) (ea_cons o (Is.mo _) (ev_c o fun _ => rfl) (ea_nil o))) ca_isTu))) fun _ => ?_
    refine et_or (a := false) (b := false) o (et_val (ev_op o (Is.mo (.int 4)) (ev_cb o (ea_cons o (vTu.mo r) (ev_var o (vTu.mo r) rfl hu) (ea_nil o)) ca_lenTu) (ev_c o fun _ => rfl) (ow_neS' (a := .int 4) (b := .int 4) rfl))) fun _ => ?_
    refine et_or (a := false) (b := false) o (et_not (b := true) (et_B (ev_isnm o nm (ix 0 _ F H o hu rfl)))) fun _ => ?_
    have := et_val (ev_op o (Is.mo _) (ix 0 _ F H o hu rfl) (ev_fldO o c n (ev_var (i := 0) o (Obj.mo mO) rfl hv) (List.mem_cons_of_mem _ List.mem_cons_self)) (ow_inDk (s := r.1) (ks := ks)))
    rw [decide_eq_false nin] at this
    exact this
  refine q_no o hc fun F1 H1 g => ?_
  have o1 := g.ok o
  have hu1 := vTu.mo r _ _ _ g.g.ff hu
  have hv1 := Obj.mo mO _ _ _ g.g.ff hv
  have mS := mos_map (f := fun y : Str => Is (.str y)) (fun y => Is.mo _)
  have hc2 : EvT W0 false (tOr (tNot (tB (tCall (spNm K) [] E0 (tCons (tOp (rIxT K) (tVar 1) (tC (.int 1))) tNil)))) (tNot (tB (tCall (spAT K) [] E0 (tCons (tOp (rIxT K) (tVar 1) (tC (.int 2))) tNil))))) [some v, some u, none] F1 H1 := by
    refine et_or (a := false) (b := false) o1 (et_not (b := true) (et_B (ev_isnm o1 no (ix 1 _ F1 H1 o1 hu1 rfl)))) fun _ => ?_
    have := ev_call0 (E := E0) (A := fun a : AtA => [Tu a.Rs]) (Rf := fun a => Is (.bl (decide ((1 : Int) ≤ a.Rs.length) && decide ((a.Rs.length : Int) ≤ 2)))) ⟨r.2.2.1.map fun y => Is (.str y), mS _⟩ o1 (ea_cons o1 (TuS.mo _) (ix 2 (TuS r.2.2.1) F1 H1 o1 hu1 rfl) (ea_nil o1))
    dsimp only at this
    have hl : 0 < r.2.2.1.length := List.length_pos_iff.mpr h0
    rw [List.length_map, decide_eq_true (by omega), decide_eq_true (by omega)] at this
    exact et_not (b := true) (et_B this)
  refine q_no o1 hc2 fun F2 H2 g2 => ?_
  have o2 := g2.ok o1
  have hu2 := vTu.mo r _ _ _ g2.g.ff hu1
  have hv2 := Obj.mo mO _ _ _ g2.g.ff hv1
  refine q_ret (R := Is (.bl true)) o2 ?_ fun v F3 H3 g3 r => q v F3 H3 ((g.trans o g2).trans o g3) r
  have hcat : EvW W0 (Tu ((r.2.2.1 ++ [r.2.2.2]).map fun y => Is (.str y))) (tOp (rCatT K) (tOp (rIxT K) (tVar 1) (tC (.int 2))) (tTup (tCons (tOp (rIxT K) (tVar 1) (tC (.int 3))) tNil))) [some v, some u, none] F2 H2 := by
    rw [List.map_append]
    exact ev_op o2 (TuS.mo _) (ix 2 (TuS r.2.2.1) F2 H2 o2 hu2 rfl) (ev_tup o2 (mS [r.2.2.2]) (ea_cons o2 (Is.mo _) (ix 3 _ F2 H2 o2 hu2 rfl) (ea_nil o2)) (show 1 ≤ 100000 by decide)) (ow_catT (mS _) (mS _) (fun z => h0 (List.map_eq_nil_iff.mp z)) (by rw [List.length_map, List.length_map]; show _ + 1 ≤ _; omega))
  have hin : ∀ y ∈ r.2.2.1 ++ [r.2.2.2], isOne ts (.str y) = true := fun y hy => by
    refine decide_eq_true ?_
    rcases List.mem_append.mp hy with hy | hy
    · exact ha y hy
    · rw [List.mem_singleton.mp hy]; exact hr
  refine ev_allT (Cs := r.2.2.1 ++ [r.2.2.2]) o2 (mapN_tup (f := fun y => Is (.str y)) (gg := fun _ => Is (.bl true)) o2 hcat (fun _ => rfl) (fun y => Is.mo _) (fun _ => Is.mo _) (by rw [List.length_append]; show _ + 1 ≤ _; omega) fun y x G H' hy hx g3 => ?_)
  obtain rfl : x = .str y := hx
  have o3 := g3.ok o2
  have := ev_has (K := K) (E := fun _ => E0) (te := tVar 2) (d := .str y) mO List.mem_cons_self o3 (ev_var (i := 0) (σ := (wipe [some v, some u, none] [2]).set 2 (some (.str y))) o3 (Obj.mo mO) rfl (Obj.mo mO _ _ _ g3.g.ff hv2)) (EvW.daS (ev_var o3 (Is.mo _) rfl rfl))
  rw [hin y hy] at this
  exact this
end QW

set_option Elab.async false
set_option linter.all false
set_option maxRecDepth 100000
set_option maxHeartbeats 1000000
/-! QVer2: a scheme takes its versions: the loop. -/
namespace QW
open PySem PySem.Spec PyProof.Rows L2 QR
def t_tvB (K : PySem.W.Frag) (C : Addr) : TS := tSeq (tIfS (tNot (tB (QC.tMethE C "is_version_row" (spIsV K C) [] (fun _ => E0) (tVar 0) (tCons (tVar 3) tNil)))) tNever tNext)
  (tSeq (tAsg (tVar 3) (gTup K 4 (gCons (gName 4) (gCons (gName 5) (gCons (gName 6) (gCons (gName 7) gNil))))))
  (tSeq (tIfS (tTest (tOp rNe (tDSetd (tFld K (tVar 0) "own_arities") (tVar 5) (tCB (iLen K) (tCons (tVar 6) tNil))) (tCB (iLen K) (tCons (tVar 6) tNil)))) tNever tNext)
  (sDPut (tFld K (tVar 0) "own_versions") (tVar 4) (tTup (tCons (tVar 5) (tCons (tVar 6) (tCons (tVar 7) tNil)))))))
def t_tv (K : PySem.W.Frag) (C : Addr) : TS := tSeq (tIfS (tNot (tB (tCall spListOf [] E0 (tCons (tVar 1) (tCons (tCon K (tVar 0) "MAX_VERSIONS") tNil))))) tNever tNext)
  (tSeq (tFor (iEnum K (tCons (tVar 1) tNil)) (gTup K 2 (gCons (gName 2) (gCons (gName 3) gNil))) (t_tvB K C))
  (sFld K (tVar 0) (tCB (QK.rDictP K) (tCons (tCB QSo.rSortItK (tCons (tBM0 K "dict" QSo.rItemsK (tFld K (tVar 0) "own_versions")) tNil)) tNil)) "own_versions"))
/-- how far it has come -/
structure TvI (a : TvA) (i : Nat) (G H' : Hp) (os : List Str) (vs : List V) : Prop where
  hs : H' a.self = some (.ins a.C a.dx (fsS a.T a.Cv (.ref a.d2) (.ref a.d3) a.Ov))
  hd : H' a.d2 = some (.dK ((((a.vs.take i).map (·.1)).zip vs).map QSo.entK))
  al : Al ((a.vs.take i).map vEnd) vs G
  ao : ArOk (a.vs.take i) os
  ha : H' a.d3 = some (.dK (arK a.ar os))
theorem TvI.on {a : TvA} {i : Nat} {G H' G1 H1 : Hp} {os : List Str} {vs : List V} (h : TvI a i G H' os vs) (g : Gw W0 G H' G1 H1) : TvI a i G1 H1 os vs := ⟨g.same _ _ h.hs, g.same _ _ h.hd, h.al.mono g.g.ff (mos_map vEnd.mo _), h.ao, g.same _ _ h.ha⟩
theorem arK_some {ar : Str → Nat} {o : Str} : ∀ {os : List Str}, o ∈ os → valV (arK ar os) (Sum.inr o : Key) = some (.int (ar o))
  | a :: os, h => by
    by_cases e : a = o
    · subst e; exact valV_pos rfl
    · have h' : o ∈ os := (List.mem_cons.mp h).resolve_left fun z => e z.symm
      rw [show arK ar (a :: os) = ((Sum.inr a : Key), V.int (ar a)) :: arK ar os from rfl, valV_neg fun z => e (Sum.inr.inj z)]
      exact arK_some h'
theorem arK_none {ar : Str → Nat} {o : Str} : ∀ {os : List Str}, o ∉ os → valV (arK ar os) (Sum.inr o : Key) = none
  | [], _ => rfl
  | a :: os, h => by
    rw [List.mem_cons, not_or] at h
    rw [show arK ar (a :: os) = ((Sum.inr a : Key), V.int (ar a)) :: arK ar os from rfl, valV_neg fun z => h.1 (Sum.inr.inj z).symm]
    exact arK_none h.2
section
variable {K : PySem.W.Frag} {w : Wd} {σ : L2.St} {F H : Hp} {D : Ends} {c : TT} {a u : TS} {td ty tx tb : TE} {r : R2}
theorem q_testO (h : c σ H fun b H1 => if b = true then tNever { D with nx := u D } σ H1 else u D σ H1) : tSeq (tIfS c tNever tNext) u D σ H := h
theorem testO {Q : Bool → Hp → Prop} (h : td σ H fun x H1 => tb σ H1 fun y H2 => r x y H2 fun z H' => ∃ k, z = .bl k ∧ Q k H') : tTest (tOp r td tb) σ H Q := h
theorem setdO {Q : VK} (h : td σ H fun x H1 => ∃ a, x = .ref a ∧ IsD H1 a ∧ ty σ H1 fun y H2 => tx σ H2 fun z H3 => ∃ (kvs : List (Key × V)) (k : Key), H3 a = some (.dK kvs) ∧ y = kV k ∧ kvs.length < sizeLine ∧
  (∀ v, valV kvs k = some v → Q v H3) ∧ (valV kvs k = none → Q z (upd H3 a (.dK (putK kvs k z))))) : tDSetd td ty tx σ H Q := h
end
theorem pure_tvB {K : PySem.W.Frag} {C : Addr} (c : Cls K C) (nV : NoAttr K C "own_versions") (nA : NoAttr K C "own_arities") {a : TvA} (e1 : a.C = C) {M : List Addr} (hM : M = [a.self, a.d2, a.d3]) {D : Ends} {i : Nat} {G H' : Hp} {os : List Str} {vs : List V} {y : V} {u2 u4 u5 u6 u7 : Option V} {u : V}
    (hi : i < a.vs.length) (hy : vTu a.vs[i] y G) (o : Ok (Wl M) G H') (I : TvI a i G H' os vs) (hT : Txts a.ts a.T G)
    (k : ∀ σ' G1 H1 os1 vs1, (∃ x2 x3 x4 x5 x6 x7, σ' = [some (.ref a.self), some u, x2, x3, x4, x5, x6, x7]) → Gw (Wl M) G H' G1 H1 → TvI a (i + 1) G1 H1 os1 vs1 → D.nx σ' H1) :
    t_tvB K C D [some (.ref a.self), some u, u2, some y, u4, u5, u6, u7] H' := by
  subst e1
  have hc := List.getElem_mem hi
  have htk : a.vs.take (i + 1) = a.vs.take i ++ [a.vs[i]] := List.take_succ_eq_append_getElem hi
  have hnt := nodup_take (l := a.vs.map (·.1)) (i := i) (by rw [List.length_map]; exact hi) a.nd
  rw [List.getElem_map, ← List.map_take] at hnt
  obtain ⟨hv1, hv2, hv3, hv4, hv5⟩ := a.ve _ hc
  have har := a.va _ hc
  have hosl : ∀ os : List Str, ArOk (a.vs.take i) os → os.length ≤ 16 := fun os h => by
    refine Nat.le_trans (nodup_le os ((a.vs.take i).map (·.2.1)) h.nd fun x hx => ?_) (by rw [List.length_map, List.length_take]; have := a.vl; omega)
    obtain ⟨v, hv, e⟩ := (h.m x).mp hx
    exact List.mem_map.mpr ⟨v, hv, e⟩
  generalize a.vs[i] = r at *
  have oZ := o.zero
  let A : List Addr := [a.self, a.d2]
  have sK := kn_same (A := A) oZ.s
  have hself : Obj a.C schF [("own_types", Txts a.ts), ("own_versions", DkA ((a.vs.take i).map (·.1)))] (.ref a.self) (kn A G H') := by
    refine ⟨a.self, a.dx, _, rfl, by rw [kn_in List.mem_cons_self, I.hs], fsS_none, fun p hp => ?_⟩
    rcases List.mem_cons.mp hp with rfl | hp
    · exact ⟨a.T, rfl, Txts.mo _ _ _ _ sK hT⟩
    · rw [List.mem_singleton.mp hp]
      refine ⟨.ref a.d2, rfl, a.d2, vs, rfl, by rw [kn_in (List.mem_cons_of_mem _ List.mem_cons_self), I.hd], ?_, by rw [List.length_map]⟩
      exact al_any (by rw [List.length_map]; exact (al_map I.al).1)
  have oK := oZ.kn (A := A)
  have hrow : EvW W0 (Is (.bl true)) (QC.tMethE a.C "is_version_row" (spIsV K a.C) [] (fun _ => E0) (tVar 0) (tCons (tVar 3) tNil)) [some (.ref a.self), some u, u2, some y, u4, u5, u6, u7] (kn A G H') H' :=
    ev_meth (A := fun b : IvA => [Obj a.C schF [("own_types", Txts b.ts), ("own_versions", DkA b.ks)], vTu b.v]) (Rf := fun _ => Is (.bl true)) ⟨a.ts, _, r, a.nm _ hc, hnt, hv1, hv2, hv3, hv4, hv5⟩ rfl (Obj.mo (mo2 (Txts.mo _) (DkA.mo _))) (Obj.ins (by decide)) oK
      (ev_var oK (Obj.mo (mo2 (Txts.mo _) (DkA.mo _))) rfl hself) (ea_cons oK (vTu.mo _) (ev_var oK (vTu.mo _) rfl (vTu.mo _ _ _ _ sK hy)) (ea_nil oK))
  refine q_no oK (et_not (b := true) (et_B hrow)) fun F1 H1 g1 => ?_
  have gf := Gw.forget oZ sK g1
  have I1 := I.on gf
  have o1 := gf.ok oZ
  have hself1 := Obj.mo (mo2 (f := "own_types") (g := "own_versions") (Txts.mo _) (DkA.mo _)) _ _ _ g1.g.ff hself
  -- name, operator, types, result = row
  obtain ⟨ya, ys, rfl, hya, aly⟩ := id hy
  obtain ⟨ta, rfl, hta⟩ : ∃ ta, ys = [.str r.1, .str r.2.1, ta, .str r.2.2.2] ∧ TuS r.2.2.1 ta G := by
    cases aly with
    | cons h1 q1 =>
      cases q1 with
      | cons h2 q2 =>
        cases q2 with
        | cons h3 q3 =>
          cases q3 with
          | cons h4 q4 =>
            cases q4
            obtain rfl := h1
            obtain rfl := h2
            obtain rfl := h4
            exact ⟨_, rfl, h3⟩
  refine ⟨_, rfl, ya, _, rfl, .of (o1.s _ _ hya), rfl, _, _, rfl, _, _, rfl, _, _, rfl, _, _, rfl, rfl, ?_⟩
  show tSeq _ _ D [some (.ref a.self), some u, u2, some (.ref ya), some (.str r.1), some (.str r.2.1), some ta, some (.str r.2.2.2)] H1
  -- arities
  have hs1 := I1.hs
  have ha1 := I1.ha
  have fA : ∀ (F2 H2 : Hp) (σ : L2.St) (f : Str) (z : V), NoAttr K a.C f → (fsS a.T a.Cv (.ref a.d2) (.ref a.d3) a.Ov).lookup f = some z → Ok W0 F2 H2 → H2 a.self = some (.ins a.C a.dx (fsS a.T a.Cv (.ref a.d2) (.ref a.d3) a.Ov)) → σ[0]? = some (some (.ref a.self)) → EvW W0 (Is z) (tFld K (tVar 0) f) σ F2 H2 := fun F2 H2 σ f z nf lz oo e hσ =>
    ev_fldX (fun F1 H1 g => g.same _ _ e) oo c nf lz (ev_var oo (Is.mo _) hσ rfl)
  have hlen : ∀ (F2 H2 : Hp) (σ : L2.St), Ok W0 F2 H2 → TuS r.2.2.1 ta F2 → σ[6]? = some (some ta) → EvW W0 (Is (.int (a.ar r.2.1 : Nat))) (tCB (iLen K) (tCons (tVar 6) tNil)) σ F2 H2 := fun F2 H2 σ oo ht hσ => by
    have := ev_cb oo (ea_cons oo (TuS.mo _) (ev_var oo (TuS.mo _) hσ ht) (ea_nil oo)) (ca_lenTu (K := K))
    rw [List.length_map, har] at this
    exact this
  have hmain : ∀ (os1 : List Str) (H2 : Hp), Gw (Wl M) G H' G H2 → H2 a.self = some (.ins a.C a.dx (fsS a.T a.Cv (.ref a.d2) (.ref a.d3) a.Ov)) → H2 a.d2 = some (.dK ((((a.vs.take i).map (·.1)).zip vs).map QSo.entK)) → ArOk (a.vs.take (i + 1)) os1 → H2 a.d3 = some (.dK (arK a.ar os1)) →
      sDPut (tFld K (tVar 0) "own_versions") (tVar 4) (tTup (tCons (tVar 5) (tCons (tVar 6) (tCons (tVar 7) tNil)))) D [some (.ref a.self), some u, u2, some (.ref ya), some (.str r.1), some (.str r.2.1), some ta, some (.str r.2.2.2)] H2 := fun os1 H2 g2 hs2 hd2 hao ha2 => by
    have o2 := (g2.ok o).zero
    refine dputO (ev_tup (Rs := [Is (.str r.2.1), TuS r.2.2.1, Is (.str r.2.2.2)]) o2 (mos_cons (Is.mo _) (mos_cons (TuS.mo _) (mos_cons (Is.mo _) mos_nil)))
      (ea_cons o2 (Is.mo _) (ev_var o2 (Is.mo _) rfl rfl) (ea_cons o2 (TuS.mo _) (ev_var o2 (TuS.mo _) rfl hta) (ea_cons o2 (Is.mo _) (ev_var o2 (Is.mo _) rfl rfl) (ea_nil o2)))) (show 3 ≤ 100000 by decide) _ _ o2.refl _ fun v F5 H5 g5 r5 => ?_)
    have hs5 := g5.same _ _ hs2
    have hd5 := g5.same _ _ hd2
    have ha5 := g5.same _ _ ha2
    have hlv : vs.length = ((a.vs.take i).map (·.1)).length := by rw [List.length_map]; exact (al_map I.al).1
    refine ⟨_, rfl, a.self, a.C, a.dx, _, .ref a.d2, rfl, hs5, c, nV, rfl, _, rfl, a.d2, _, rfl, DPut.k (k := (Sum.inr r.1 : Key)) hd5 (Evl.sz_lt ?_), ?_⟩
    · rw [List.length_map, List.length_zip, hlv, Nat.min_self, List.length_map, List.length_take]
      have := a.vl
      omega
    have hput : putK ((((a.vs.take i).map (·.1)).zip vs).map QSo.entK) (Sum.inr r.1 : Key) v = (((a.vs.take (i + 1)).map (·.1)).zip (vs ++ [v])).map QSo.entK := by
      rw [putK_new _ (valV_none hnt), htk, List.map_append, List.zip_append hlv.symm, List.map_append]
      rfl
    rw [hput]
    have hM2 : a.d2 ∈ M := by rw [hM]; exact List.mem_cons_of_mem _ List.mem_cons_self
    have nd5 : F5 a.d2 = none := (Gw.trans o g2 (g5.of0 (g2.ok o))).g.nw _ (o.m _ hM2) (by rw [I.hd]; exact nofun)
    have sd : a.self ≠ a.d2 := fun z => by rw [z, hd5] at hs5; cases hs5
    refine k _ F5 _ os1 (vs ++ [v]) ⟨_, _, _, _, _, _, rfl⟩ ((Gw.trans o g2 (g5.of0 (g2.ok o))).mutL (.inl hM2) nd5) ⟨by rw [upd_ne sd]; exact hs5, upd_same, ?_, hao, by rw [upd_ne (Ne.symm a.d23)]; exact ha5⟩
    rw [htk, List.map_append]
    exact (I.al.mono g5.g.ff (mos_map vEnd.mo _)).append (.cons r5 .nil)
  have hM3 : a.d3 ∈ M := by rw [hM]; exact List.mem_cons_of_mem _ (List.mem_cons_of_mem _ List.mem_cons_self)
  refine q_testO (testO (setdO (fA _ _ _ "own_arities" _ nA rfl o1 hs1 rfl _ _ o1.refl _ fun v F2 H2 g2 rv => ?_)))
  obtain rfl : v = .ref a.d3 := rv
  refine ⟨a.d3, rfl, .inl ⟨_, .inl (g2.same _ _ ha1)⟩, _, rfl, ?_⟩
  have o2 := g2.ok o1
  refine hlen F2 H2 _ o2 (TuS.mo _ _ _ _ g2.g.ff hta) rfl _ _ o2.refl _ fun z F3 H3 g3 rz => ?_
  obtain rfl : z = .int (a.ar r.2.1 : Nat) := rz
  have g13 := g2.trans o1 g3
  have gG3 : Gw W0 G H' G H3 := gf.trans oZ (Gw.forget o1 (Same.refl _) (by exact ⟨⟨Same.refl _, fun b x e => g13.g.fh _ _ (g13.g.ff _ _ e), g13.g.hh, fun b e _ => e⟩, True.intro⟩))
  have ha3 := g13.same _ _ ha1
  have hs3 := g13.same _ _ hs1
  have hd3 := g13.same _ _ I1.hd
  have hol := hosl os I.ao
  refine ⟨arK a.ar os, Sum.inr r.2.1, ha3, rfl, Evl.sz_lt (by rw [List.length_map]; omega), fun v hv => ?_, fun hn => ?_⟩
  · have hmem : r.2.1 ∈ os := by
      by_cases h : r.2.1 ∈ os
      · exact h
      · rw [arK_none h] at hv; cases hv
    rw [arK_some hmem] at hv
    cases hv
    have oG := gG3.ok oZ
    refine hlen G H3 _ oG hta rfl _ _ oG.refl _ fun z F4 H4 g4 rz => ?_
    obtain rfl : z = .int (a.ar r.2.1 : Nat) := rz
    refine ⟨show scal (V.int _) (V.int _) = true from rfl, false, by rw [decide_eq_true rfl]; rfl, ?_⟩
    rw [if_neg (by decide)]
    have g04 : Gw W0 G H' G H4 := gG3.trans oZ ⟨⟨Same.refl _, fun b x e => g4.g.fh _ _ (g4.g.ff _ _ e), g4.g.hh, fun b e _ => e⟩, True.intro⟩
    refine hmain os H4 (g04.of0 o) (g4.same _ _ hs3) (g4.same _ _ hd3) ⟨I.ao.nd, fun x => ?_⟩ (g4.same _ _ ha3)
    rw [I.ao.m, htk]
    constructor
    · rintro ⟨v, hv, e⟩
      exact ⟨v, List.mem_append_left _ hv, e⟩
    · rintro ⟨v, hv, e⟩
      rcases List.mem_append.mp hv with hv | hv
      · exact ⟨v, hv, e⟩
      · rw [List.mem_singleton.mp hv] at e
        rw [e] at hmem
        exact (I.ao.m x).mp hmem
  · have hmem : r.2.1 ∉ os := fun h => by rw [arK_some h] at hn; cases hn
    have nG3 : G a.d3 = none := o.m _ hM3
    have gm : Gw (Wl M) G H' G (upd H3 a.d3 (.dK (putK (arK a.ar os) (Sum.inr r.2.1) (.int (a.ar r.2.1 : Nat))))) := (gG3.of0 o).mutL (.inl hM3) nG3
    have oG := (gm.ok o).zero
    refine hlen G _ _ oG hta rfl _ _ oG.refl _ fun z F4 H4 g4 rz => ?_
    obtain rfl : z = .int (a.ar r.2.1 : Nat) := rz
    refine ⟨show scal (V.int _) (V.int _) = true from rfl, false, by rw [decide_eq_true rfl]; rfl, ?_⟩
    rw [if_neg (by decide)]
    have g04 : Gw (Wl M) G H' G H4 := gm.trans o (Gw.of0 (gm.ok o) ⟨⟨Same.refl _, fun b x e => g4.g.fh _ _ (g4.g.ff _ _ e), g4.g.hh, fun b e _ => e⟩, True.intro⟩)
    have s3 : a.self ≠ a.d3 := fun z => by rw [z, ha3] at hs3; cases hs3
    refine hmain (os ++ [r.2.1]) H4 g04 (g4.same _ _ (by rw [upd_ne s3]; exact hs3)) (g4.same _ _ (by rw [upd_ne a.d23]; exact hd3)) ⟨?_, fun x => ?_⟩ (g4.same _ _ ?_)
    · rw [List.nodup_append]
      refine ⟨I.ao.nd, by simp, fun x hx y hy => ?_⟩
      rw [List.mem_singleton.mp hy]
      exact fun z => hmem (z ▸ hx)
    · rw [List.mem_append, I.ao.m, htk, List.mem_singleton]
      constructor
      · rintro (⟨v, hv, e⟩ | rfl)
        · exact ⟨v, List.mem_append_left _ hv, e⟩
        · exact ⟨r, List.mem_append_right _ List.mem_cons_self, rfl⟩
      · rintro ⟨v, hv, e⟩
        rcases List.mem_append.mp hv with hv | hv
        · exact .inl ⟨v, hv, e⟩
        · rw [List.mem_singleton.mp hv] at e
          exact .inr e.symm
    · rw [upd_same, putK_new _ hn, arK, arK, List.map_append]
      rfl
theorem pure_tv {K : PySem.W.Frag} {C : Addr} (c : Cls K C) (nV : NoAttr K C "own_versions") (nA : NoAttr K C "own_arities") (kM : ∃ u, Con K C "MAX_VERSIONS" (.int 16) u) {vs : List V} {H : Hp} {Q : VK} {E : XK} (h : spTV C vs H Q E) :
    t_tv K C { nx := fun _ H' => Q .non H', rt := Q } (L2.start ["self", "versions", "position", "row", "name", "operator", "types", "result"] vs) H := by
  obtain ⟨⟨a, e1⟩, F, o, al, ⟨p1, p2, p3, p4⟩, q⟩ := h
  obtain ⟨u, rfl, hu⟩ : ∃ u, vs = [.ref a.self, u] ∧ Li (a.vs.map vTu) u F := by
    cases al with
    | cons h r =>
      cases r with
      | cons h2 r =>
        cases r
        obtain rfl := h
        exact ⟨_, rfl, h2⟩
  dsimp only at o q
  have oZ := o.zero
  have mt := mos_map vTu.mo a.vs
  have hT : EvT W0 false (tNot (tB (tCall spListOf [] E0 (tCons (tVar 1) (tCons (tCon K (tVar 0) "MAX_VERSIONS") tNil))))) [some (.ref a.self), some u, none, none, none, none, none, none] F H :=
    et_not (b := true) (et_B (ev_listof (Rs := a.vs.map vTu) (n := 16) oZ mt (ev_var oZ (Sq.mo mt) rfl (.inl hu)) (ev_conX (fun F1 H1 g => g.same _ _ p1) oZ (e1 ▸ c) (e1 ▸ kM) (fsS_none _ (by decide)) (ev_var oZ (Is.mo _) rfl rfl)) (by rw [List.length_map]; have := a.vl; omega)))
  refine q_no oZ hT fun F1 H1 g1 => ?_
  have o1 := g1.of0 o |>.ok o
  have hu1 := Li.mo mt _ _ _ g1.g.ff hu
  have I0 : TvI a 0 F H [] [] := ⟨p1, p3, .nil, ⟨List.nodup_nil, fun x => by simp⟩, p4⟩
  have I1 := I0.on g1
  have hj := ej_enum (K := K) (w0 := W0) (w := Wl [a.self, a.d2, a.d3]) (σ := [some (.ref a.self), some u, none, none, none, none, none, none]) (tas := tCons (tVar 1) tNil) Wl.sub0 o1 mt (ea_cons o1.zero (Li.mo mt) (ev_var o1.zero (Li.mo mt) rfl hu1) (ea_nil o1.zero))
  have hlen : (a.vs.map vTu).length = a.vs.length := List.length_map ..
  refine q_forJ Wl.sub0 o1 hj (fun i σ' G H' => (∃ x2 x3 x4 x5 x6 x7, σ' = [some (.ref a.self), some u, x2, x3, x4, x5, x6, x7]) ∧ ∃ os vs, TvI a i G H' os vs)
    (fun F' H' g => ⟨⟨_, _, _, _, _, _, rfl⟩, _, _, I1.on g⟩) (fun i x σ' G0 H0 G H' N hi g0 iv g2 hx k2 => ?_) fun σ' G H' g iv => ?_
  · obtain ⟨⟨x2, x3, x4, x5, x6, x7, rfl⟩, os, vs, I⟩ := iv
    obtain ⟨T, y, R, rfl, hT, hR, r⟩ := hx
    have hi' : i < a.vs.length := by rw [← hlen]; exact hi
    rw [List.getElem?_map, List.getElem?_eq_getElem hi'] at hR
    cases hR
    have o0 := g0.ok o1
    have oo := (g2.of0 o0).ok o0
    have ff := (g1.g.ff.trans g0.g.ff).trans g2.g.ff
    refine ⟨T, _, rfl, .of (oo.s _ _ hT), rfl, _, _, rfl, _, _, rfl, rfl, ?_⟩
    refine pure_tvB c nV nA e1 rfl hi' r oo (I.on g2) (Txts.mo _ _ _ _ ff p2) fun σ' G1 H1 os1 vs1 hσ g3 I3 => ?_
    exact k2 σ' G1 H1 g3 ⟨hσ, os1, vs1, I3⟩
  · obtain ⟨⟨x2, x3, x4, x5, x6, x7, rfl⟩, os, vs, I⟩ := iv
    rw [hlen] at I
    have gg := Gw.trans o (g1.of0 o) g
    have o2 := gg.ok o
    have o2Z := o2.zero
    have hal := I.al
    have hd := I.hd
    have hao := I.ao
    rw [List.take_length] at hal hd hao
    have fC : EvW W0 (Is (.ref a.d2)) (tFld K (tVar 0) "own_versions") [some (.ref a.self), some u, x2, x3, x4, x5, x6, x7] G H' := ev_fldX (fun F1 H1 g => g.same _ _ I.hs) o2Z (e1 ▸ c) (e1 ▸ nV) rfl (ev_var o2Z (Is.mo _) rfl rfl)
    refine fldO (ev_sdict (key := fun c : Ver => c.1) (val := vEnd) (L := a.vs) o2Z (fun F1 H1 g => g.same _ _ hd) hal vEnd.mo a.nd (by have := a.vl; omega) fC _ _ o2Z.refl _ fun v F3 H3 g3 r => ?_)
    obtain ⟨vs', hp, ho, hD⟩ := r
    have hs3 := g3.same _ _ I.hs
    have ha3 := g3.same _ _ I.ha
    refine ⟨_, rfl, a.self, a.C, a.dx, _, rfl, hs3, e1 ▸ c, e1 ▸ nV, show 5 < 1000 by decide, ?_⟩
    have nf : F3 a.self = none := (gg.trans o (g3.of0 o2)).g.nw _ (o.m _ List.mem_cons_self) (by rw [p1]; exact nofun)
    have s3 : a.d3 ≠ a.self := fun z => by rw [z, hs3] at ha3; cases ha3
    refine q .non F3 _ ((gg.trans o (g3.of0 o2)).mutL (.inl List.mem_cons_self) nf) ⟨rfl, v, vs', os, ?_, hp, ho, hD, hao, by rw [upd_ne s3]; exact ha3⟩
    rw [upd_same]
    rfl
end QW

set_option Elab.async false
set_option linter.all false
set_option maxRecDepth 100000
set_option maxHeartbeats 1000000
/-! QWds: a scheme's elements as lists, as words, as text. -/
namespace QW
open PySem PySem.Spec PyProof.Rows L2 QR
section
variable {K : PySem.W.Frag} {w : Wd} {σ : L2.St} {F H F1 H1 : Hp} {ta tb tc te tl : TE} {α : Type} {wi : TI} {g : TG} {tt : TT} {vs : List Nat} {r r' : R2} {tas : TA} {n : Nat} {Y : Nat → Pr}
/-- a comprehension, its list one's own -/
theorem lc_anyO {Q : VK} {J : It} (o : Ok w F H) (hJ : Its w w n Y J F H) (Iv : Nat → List V → Hp → Prop) (mono : ∀ i ys F F', Same F F' → Iv i ys F → Iv i ys F') (h0 : Iv 0 [] F) (hn : n ≤ 100000)
    (hs : ∀ i x ys G H', i < n → Y i x G → Gw w F H G H' → Iv i ys G → ∀ (Qy : VK) (Qn : Hp → Prop), (∀ y G' H'', Gw w G H' G' H'' → Iv (i + 1) (ys ++ [y]) G' → Qy y H'') → (∀ G' H'', Gw w G H' G' H'' → Iv (i + 1) ys G' → Qn H'') →
      g x (wipe σ vs) H' fun σ2 H2 => wipe σ2 vs = wipe σ vs ∧ tt σ2 H2 fun b H3 => if b = true then te σ2 H3 Qy else Qn H3)
    (q : ∀ D ys G H', H D = none → Gw w F H G H' → G D = none → H' D = some (.lst ys) → Iv n ys G → Q (.ref D) H') (D : Addr) (hD : H D = none) :
    ∃ W : Nat → Nat → Hp → Prop, (∃ m, W 0 m (upd H D (.lst []))) ∧ ∀ i m H, W i m H →
      (J.stop i H ∧ Q (.ref D) H) ∨ (J.go i H ∧ ∃ Nx : Hp → Prop, (∀ H', Nx H' → ∃ m', m' < m ∧ W (i + 1) m' H') ∧ ∀ x H', J.yld i H x H' → g x (wipe σ vs) H' fun σ2 H2 => wipe σ2 vs = wipe σ vs ∧ tt σ2 H2 fun b H3 =>
        if b = true then te σ2 H3 fun y H4 => ∃ acc, H4 D = some (.lst acc) ∧ acc.length < sizeLine ∧ Nx (upd H4 D (.lst (acc ++ [y]))) else Nx H3) := by
  have nm : D ∉ w.M := fun z => w.tr H o.j D z hD
  let Pv : Nat → Hp → Prop := fun i H' => ∃ G ys, Gw w F H G H' ∧ G D = none ∧ H' D = some (.lst ys) ∧ Iv i ys G ∧ ys.length ≤ i
  have wk : Walk J n (fun H' => ∃ G, Gw w F H G H') (fun i H' x H'' => i < n ∧ J.yld i H' x H'') := ⟨fun i H' hi ⟨G, g⟩ => hJ.goes i G H' hi g, fun H' ⟨G, g⟩ => hJ.stops G H' g, fun i H' x H'' hi ⟨G, g⟩ y => ⟨hi, y⟩⟩
  refine lc_it (D := D) (Qd := fun H' => Q (.ref D) H') wk Pv ⟨F, [], o.refl.temp hD, same_none o.s hD, upd_same, h0, Nat.le_refl _⟩ (fun i H' _ ⟨G, _, g, _⟩ => ⟨G, g⟩) (fun i x H' H'' hi p y => ?_) fun H' p => ?_
  · obtain ⟨G0, ys, g0, gD0, hD0, iv0, hl⟩ := p
    obtain ⟨G, g1, hy⟩ := hJ.yields i G0 H' x H'' hi g0 y.2
    have o0 := g0.ok o
    have g := g0.trans o g1
    have gD : G D = none := g1.g.nw D gD0 (by rw [hD0]; exact nofun)
    have hD' : H'' D = some (.lst ys) := g1.g.hh D _ nm hD0
    have iv := mono _ _ _ _ g1.g.ff iv0
    have key : ∀ {G' H3}, Gw w G H'' G' H3 → G' D = none ∧ H3 D = some (.lst ys) := fun {G' H3} g' => ⟨g'.g.nw D gD (by rw [hD']; exact nofun), g'.g.hh D _ nm hD'⟩
    refine hs i x ys G H'' hi hy g iv _ _ (fun y G' H3 g' iv' => ?_) fun G' H3 g' iv' => ?_
    · obtain ⟨e1, e2⟩ := key g'
      have g2 := g.trans o g'
      refine ⟨ys, e2, Evl.sz_lt (by omega), G', ys ++ [y], ⟨g2.g.mut (.inl hD) e1, ?_⟩, e1, upd_same, iv', by rw [List.length_append]; simp; omega⟩
      exact w.st _ _ g2.j fun m u hm e => by
        have ne : m ≠ D := fun z => by
          subst z
          exact nm hm
        rw [upd_ne ne]
        exact e
    · obtain ⟨e1, e2⟩ := key g'
      exact ⟨G', ys, g.trans o g', e1, e2, iv', by omega⟩
  · obtain ⟨G, ys, g, gD, hD', iv, hl⟩ := p
    exact q D ys G H' hD g gD hD' iv
theorem eo_mapN {Cs : List α} {f gg : α → Pr} {j n : Nat} (o : Ok w F H) (hi : EvI w n (fun i x F => ∃ R, (Cs.map f)[i]? = some R ∧ R x F) wi σ F H) (hn : n = Cs.length) (hw : ∀ x, wipe ((wipe σ vs).set j (some x)) vs = wipe σ vs) (mT : ∀ C, Mo (gg C)) (hz : Cs.length ≤ 100000)
    (he : ∀ C x G H', C ∈ Cs → f C x G → Gw w F H G H' → EvW w (gg C) te ((wipe σ vs).set j (some x)) G H') : EvO w (Cs.map gg) (tLc wi (gName j) tYes te vs) σ F H := fun F1 H1 a Q q => by
  subst hn
  refine hi F1 H1 a _ fun J F2 H2 b hJ D hD => ?_
  have o1 := a.ok o
  have o2 := b.ok o1
  have a2 := a.trans o b
  refine lc_anyO (te := te) (tt := tYes) (g := gName j) (vs := vs) (σ := σ) (Q := Q) o2 hJ (fun i ys F => Al ((Cs.take i).map gg) ys F) (fun i ys F F' e h => h.mono e (mos_map mT _)) .nil hz (fun i x ys G H' hi' hx g iv Qy Qn hy hnn => ?_) (fun D ys G H' hD' g gD hD2 iv => ?_) D hD
  · obtain ⟨R, hR, r⟩ := hx
    rw [List.getElem?_map, List.getElem?_eq_getElem hi'] at hR
    cases hR
    refine ⟨hw x, lc_yes ?_⟩
    refine he _ _ G H' (List.getElem_mem hi') r (a2.trans o g) G H' (g.ok o2).refl Qy fun v G3 H3 g3 r => hy v G3 H3 g3 ?_
    rw [List.take_succ_eq_append_getElem hi', List.map_append]
    exact (iv.mono g3.g.ff (mos_map mT _)).append (.cons r .nil)
  · rw [List.take_length] at iv
    refine q D ys G H' (b.trans o1 g) ?_ gD hD2 iv
    cases z : H1 D with
    | none => rfl
    | some u => exact (b.live o1 (by rw [z]; exact nofun) hD').elim
/-- *t in a display or a call -/
theorem ea_star {Rs Ss : List Pr} (o : Ok w F H) (m : ∀ R ∈ Rs, Mo R) (h : EvW w (Tu Rs) te σ F H) (hr : EvA w Ss tas σ F H) : EvA w (Rs ++ Ss) (StX.tStar K te tas) σ F H := fun F1 H1 g Q q =>
  h F1 H1 g _ fun v F2 H2 g2 ⟨p, xs, e, e1, al⟩ => ⟨p, xs, e, .inl (.of ((g2.ok (g.ok o)).s _ _ e1)), hr F2 H2 (g.trans o g2) _ fun ys F3 H3 g3 al3 => q _ F3 H3 (g2.trans (g.ok o) g3) ((al.mono g3.g.ff m).append al3)⟩
/-- list(l) of a list | of a tuple -/
theorem ca_listL {Rs : List Pr} (m : ∀ R ∈ Rs, Mo R) : CaW w (iList1 K) [Sq Rs] (Li Rs) := by
  intro vs F H o al Q q
  cases al with
  | cons h r =>
    cases r
    rcases h with ⟨p, ys, rfl, e, al⟩ | ⟨p, ys, rfl, e, al⟩
    · exact ⟨p, ys, rfl, .inl (.of (o.s _ _ e)), fun l n => q _ (upd F l (.lst ys)) _ (o.refl.new o n) ⟨l, ys, rfl, upd_same, al.mono (same_upd (same_none o.s n)) m⟩⟩
    · exact ⟨p, ys, rfl, .inr (.of (o.s _ _ e)), fun l n => q _ (upd F l (.lst ys)) _ (o.refl.new o n) ⟨l, ys, rfl, upd_same, al.mono (same_upd (same_none o.s n)) m⟩⟩
theorem EvW.sqL {Rs : List Pr} (h : EvW w (Li Rs) te σ F H) : EvW w (Sq Rs) te σ F H := h.imp fun _ _ _ r => .inl r
theorem EvW.sqT {Rs : List Pr} (h : EvW w (Tu Rs) te σ F H) : EvW w (Sq Rs) te σ F H := h.imp fun _ _ _ r => .inr r
theorem ev_list {Rs : List Pr} (o : Ok w F H) (m : ∀ R ∈ Rs, Mo R) (h : EvW w (Sq Rs) te σ F H) : EvW w (Li Rs) (tCB (iList1 K) (tCons te tNil)) σ F H := ev_cb o (ea_cons o (Sq.mo m) h (ea_nil o)) (ca_listL m)
end
/-! ### types(), casts(), versions() -/
def spTypes (C : Addr) : Sp := spW (fun _ : List Str => W0) (fun ts => [Obj C schF [("own_types", Txts ts)]]) Txts
theorem spTypes.len {C : Addr} : ∀ vs H Q E, spTypes C vs H Q E → vs.length = 1 := spW.len fun _ => rfl
def t_types (K : PySem.W.Frag) : TS := tRet (tCB (iList1 K) (tCons (tFld K (tVar 0) "own_types") tNil))
theorem one_arg {R : Pr} {vs : List V} {F : Hp} (al : Al [R] vs F) : ∃ v, vs = [v] ∧ R v F := by
  cases al with
  | cons h r => cases r; exact ⟨_, rfl, h⟩
theorem two_args {R S : Pr} {vs : List V} {F : Hp} (al : Al [R, S] vs F) : ∃ v u, vs = [v, u] ∧ R v F ∧ S u F := by
  cases al with
  | cons h r =>
    cases r with
    | cons h2 r => cases r; exact ⟨_, _, rfl, h, h2⟩
theorem three_args {R S T : Pr} {vs : List V} {F : Hp} (al : Al [R, S, T] vs F) : ∃ v u z, vs = [v, u, z] ∧ R v F ∧ S u F ∧ T z F := by
  cases al with
  | cons h r =>
    cases r with
    | cons h2 r =>
      cases r with
      | cons h3 r => cases r; exact ⟨_, _, _, rfl, h, h2, h3⟩
theorem four_args {R S T U : Pr} {vs : List V} {F : Hp} (al : Al [R, S, T, U] vs F) : ∃ v u z y, vs = [v, u, z, y] ∧ R v F ∧ S u F ∧ T z F ∧ U y F := by
  cases al with
  | cons h r =>
    obtain ⟨u, z, y, rfl, h2, h3, h4⟩ := three_args r
    exact ⟨_, _, _, _, rfl, h, h2, h3, h4⟩
theorem mosS (ts : List Str) : ∀ R ∈ ts.map (fun y => Is (.str y)), Mo R := mos_map (f := fun y : Str => Is (.str y)) (fun y => Is.mo _) ts
theorem pure_types {K : PySem.W.Frag} {C : Addr} (c : Cls K C) (n : NoAttr K C "own_types") {vs : List V} {H : Hp} {Q : VK} {E : XK} (h : spTypes C vs H Q E) : t_types K { nx := fun _ H' => Q .non H', rt := Q } (L2.start ["self"] vs) H := by
  obtain ⟨ts, F, o, al, q⟩ := h
  obtain ⟨v, rfl, hv⟩ := one_arg al
  exact q_ret o (ev_list o (mosS ts) (ev_fldO o c n (ev_var (i := 0) (σ := [some v]) o (Obj.mo (mo1 (Txts.mo ts))) rfl hv) List.mem_cons_self).sqL) q
/-- a tuple of plain values stands when a dict is taken away -/
theorem tu_del {vs : List V} {v : V} {F : Hp} {d : Addr} {kvs : List (Key × V)} (h : Tu (vs.map Is) v F) (e : F d = some (.dK kvs)) : Tu (vs.map Is) v (del F d) := by
  obtain ⟨a, us, rfl, h1, h2⟩ := h
  refine ⟨a, us, rfl, ?_, ?_⟩
  · rw [del_ne (fun z => by rw [z, e] at h1; cases h1)]
    exact h1
  · obtain rfl := (Al.is (f := fun v : V => v) h2).trans (List.map_id' vs)
    clear h1 h2 e
    induction us with
    | nil => exact .nil
    | cons u us ih => exact .cons rfl ih
theorem obj_del {C : Addr} {ns : List Str} {f : Str} {u v : V} {F : Hp} {d : Addr} {kvs : List (Key × V)} (h : Obj C ns [(f, Is u)] v F) (e : F d = some (.dK kvs)) : Obj C ns [(f, Is u)] v (del F d) := by
  obtain ⟨a, dx, fs, rfl, h1, h2, h3⟩ := h
  refine ⟨a, dx, fs, rfl, ?_, h2, fun p hp => ?_⟩
  · rw [del_ne (fun z => by rw [z, e] at h1; cases h1)]
    exact h1
  · obtain ⟨u', e1, e2⟩ := h3 p hp
    rw [List.mem_singleton.mp hp] at e1 e2 ⊢
    exact ⟨u', e1, e2⟩
def spCasts (C : Addr) : Sp := spW (fun _ : {cs : List Cst // cs.length ≤ 100000} => W0) (fun cs => [Obj C schF [("own_casts", castD cs.1)]]) fun cs => Li (cs.1.map cTu)
theorem spCasts.len {C : Addr} : ∀ vs H Q E, spCasts C vs H Q E → vs.length = 1 := spW.len fun _ => rfl
def t_casts (K : PySem.W.Frag) : TS := tRet (tLockE (tLc (iItems (tFld K (tVar 0) "own_casts")) (gTup K 2 (gCons (gName 1) (gCons (gTup K 2 (gCons (gName 2) (gCons (gName 3) gNil))) gNil))) tYes (tTup (tCons (tVar 1) (tCons (tVar 2) (tCons (tVar 3) tNil)))) [1, 2, 3]))
theorem al_del {α : Type} {f : α → Pr} {F : Hp} {d : Addr} (h : ∀ a v, f a v F → f a v (del F d)) : ∀ {L : List α} {vs : List V}, Al (L.map f) vs F → Al (L.map f) vs (del F d)
  | [], _, al => by cases al; exact .nil
  | a :: L, _, al => by
    cases al with
    | cons h1 r => exact .cons (h a _ h1) (al_del h r)
theorem pure_casts {K : PySem.W.Frag} {C : Addr} (c : Cls K C) (n : NoAttr K C "own_casts") {vs : List V} {H : Hp} {Q : VK} {E : XK} (h : spCasts C vs H Q E) : t_casts K { nx := fun _ H' => Q .non H', rt := Q } (L2.start ["self", "name", "source", "target"] vs) H := by
  obtain ⟨⟨cs, hz⟩, F, o, al, q⟩ := h
  obtain ⟨v, rfl, hv⟩ := one_arg al
  obtain ⟨a, dx, fs, rfl, e1, e2, e3⟩ := hv
  obtain ⟨u, l1, d, xs, rfl, hd, alx, hl⟩ := e3 _ List.mem_cons_self
  have hv' : Obj C schF [("own_casts", Is (.ref d))] (.ref a) F := ⟨a, dx, fs, rfl, e1, e2, fun p hp => by rw [List.mem_singleton.mp hp]; exact ⟨_, l1, rfl⟩⟩
  have mC := mos_map cEnd.mo cs
  refine q_ret o (ev_lock (R := Li (cs.map cTu)) o hd True.intro (Li.mo (mos_map cTu.mo cs)) fun F1 H1 od g o1 => ?_) q
  have hd1 := g.g.ff _ _ hd
  have hv1 := obj_del (Obj.mo (mo1 (Is.mo _)) _ _ _ g.g.ff hv') hd1
  have al1 : Al (cs.map cEnd) xs (del F1 d) := al_del (fun c v h => tu_del (vs := [.str c.2.1, .str c.2.2]) h hd1) (alx.mono g.g.ff mC)
  have hi := ei_items (ks := cs.map (·.1)) (td := tFld K (tVar 0) "own_casts") (σ := [some (.ref a), none, none, none]) mC o1 al1 (by rw [(al_map alx).1, List.length_map]) (fun z => nomatch z) upd_same
    (ev_fldO o1 c n (ev_var (i := 0) o1 (Obj.mo (mo1 (Is.mo _))) rfl hv1) List.mem_cons_self)
  have := ev_compG (Cs := cs) (gg := cTu) (p := fun _ => true) (tt := tYes) (te := tTup (tCons (tVar 1) (tCons (tVar 2) (tCons (tVar 3) tNil)))) (vs := [1, 2, 3]) (g := gTup K 2 (gCons (gName 1) (gCons (gTup K 2 (gCons (gName 2) (gCons (gName 3) gNil))) gNil)))
    (S := fun c σ' G => σ' = [some (.ref a), some (.str c.1), some (.str c.2.1), some (.str c.2.2)]) o1 hi (by rw [List.length_map]) cTu.mo hz (fun i c x G H' hc hY g2 => ?_) (fun c σ' G H' _ _ g2 => et_yes (g2.ok o1)) (fun _ _ _ _ _ h => h) (fun c σ' G H' hc _ hS g2 => ?_)
  · rw [filter_tt] at this
    exact this
  · obtain ⟨T, y, R, k, rfl, hT, hk, hR, r⟩ := hY
    rw [List.getElem?_map, hc] at hk hR
    cases hk
    cases hR
    have oG := g2.ok o1
    obtain ⟨t2, us, rfl, ht2, al2⟩ := r
    obtain rfl := Al.is (f := fun v : V => v) (xs := [.str c.2.1, .str c.2.2]) al2
    exact ⟨[some (.ref a), some (.str c.1), some (.str c.2.1), some (.str c.2.2)], rfl, fun Kk hk => ⟨T, _, rfl, .of (oG.s _ _ hT), rfl, _, _, rfl, _, _, rfl, t2, _, rfl, .of (oG.s _ _ ht2), rfl, _, _, rfl, _, _, rfl, rfl, rfl, hk⟩, rfl⟩
  · subst hS
    have oG := g2.ok o1
    exact ev_tup (Rs := [Is (.str c.1), Is (.str c.2.1), Is (.str c.2.2)]) oG (mos_cons (Is.mo _) (mos_cons (Is.mo _) (mos_cons (Is.mo _) mos_nil))) (ea_cons oG (Is.mo _) (ev_var oG (Is.mo _) rfl rfl) (ea_cons oG (Is.mo _) (ev_var oG (Is.mo _) rfl rfl) (ea_cons oG (Is.mo _) (ev_var oG (Is.mo _) rfl rfl) (ea_nil oG)))) (show 3 ≤ 100000 by decide)
def spVers (C : Addr) : Sp := spW (fun _ : {vs : List Ver // vs.length ≤ 100000 ∧ ∀ v ∈ vs, v.2.2.1.length ≤ 1000} => W0) (fun vs => [Obj C schF [("own_versions", verD vs.1)]]) fun vs => Li (vs.1.map vTu)
theorem spVers.len {C : Addr} : ∀ vs H Q E, spVers C vs H Q E → vs.length = 1 := spW.len fun _ => rfl
def t_vers (K : PySem.W.Frag) : TS := tRet (tLockE (tLc (iItems (tFld K (tVar 0) "own_versions")) (gTup K 2 (gCons (gName 1) (gCons (gName 2) gNil))) tYes (tTup (tCons (tVar 1) (StX.tStar K (tVar 2) tNil))) [1, 2]))
theorem vEnd_del {r : Ver} {v : V} {F : Hp} {d : Addr} {kvs : List (Key × V)} (h : vEnd r v F) (e : F d = some (.dK kvs)) : vEnd r v (del F d) := by
  obtain ⟨a, us, rfl, h1, h2⟩ := h
  refine ⟨a, us, rfl, ?_, ?_⟩
  · rw [del_ne (fun z => by rw [z, e] at h1; cases h1)]
    exact h1
  · obtain ⟨x, y, z, rfl, hx, hy, hz⟩ := three_args h2
    refine .cons hx (.cons ?_ (.cons hz .nil))
    have hy' : Tu ((r.2.2.1.map V.str).map Is) y F := by rw [List.map_map]; exact hy
    have := tu_del hy' e
    rw [List.map_map] at this
    exact this
theorem pure_vers {K : PySem.W.Frag} {C : Addr} (c : Cls K C) (n : NoAttr K C "own_versions") {vs : List V} {H : Hp} {Q : VK} {E : XK} (h : spVers C vs H Q E) : t_vers K { nx := fun _ H' => Q .non H', rt := Q } (L2.start ["self", "name", "row"] vs) H := by
  obtain ⟨⟨cs, hz, hz2⟩, F, o, al, q⟩ := h
  obtain ⟨v, rfl, hv⟩ := one_arg al
  obtain ⟨a, dx, fs, rfl, e1, e2, e3⟩ := hv
  obtain ⟨u, l1, d, xs, rfl, hd, alx, hl⟩ := e3 _ List.mem_cons_self
  have hv' : Obj C schF [("own_versions", Is (.ref d))] (.ref a) F := ⟨a, dx, fs, rfl, e1, e2, fun p hp => by rw [List.mem_singleton.mp hp]; exact ⟨_, l1, rfl⟩⟩
  have mC := mos_map vEnd.mo cs
  refine q_ret o (ev_lock (R := Li (cs.map vTu)) o hd True.intro (Li.mo (mos_map vTu.mo cs)) fun F1 H1 od g o1 => ?_) q
  have hd1 := g.g.ff _ _ hd
  have hv1 := obj_del (Obj.mo (mo1 (Is.mo _)) _ _ _ g.g.ff hv') hd1
  have al1 : Al (cs.map vEnd) xs (del F1 d) := al_del (fun c v h => vEnd_del h hd1) (alx.mono g.g.ff mC)
  have hi := ei_items (ks := cs.map (·.1)) (td := tFld K (tVar 0) "own_versions") (σ := [some (.ref a), none, none]) mC o1 al1 (by rw [(al_map alx).1, List.length_map]) (fun z => nomatch z) upd_same
    (ev_fldO o1 c n (ev_var (i := 0) o1 (Obj.mo (mo1 (Is.mo _))) rfl hv1) List.mem_cons_self)
  have := ev_compG (Cs := cs) (gg := vTu) (p := fun _ => true) (tt := tYes) (te := tTup (tCons (tVar 1) (StX.tStar K (tVar 2) tNil))) (vs := [1, 2]) (g := gTup K 2 (gCons (gName 1) (gCons (gName 2) gNil)))
    (S := fun c σ' G => ∃ y, σ' = [some (.ref a), some (.str c.1), some y] ∧ vEnd c y G) o1 hi (by rw [List.length_map]) vTu.mo hz (fun i c x G H' hc hY g2 => ?_) (fun c σ' G H' _ _ g2 => et_yes (g2.ok o1)) (fun c σ' G G' s ⟨y, h1, h2⟩ => ⟨y, h1, vEnd.mo c _ _ _ s h2⟩) (fun c σ' G H' hc _ hS g2 => ?_)
  · rw [filter_tt] at this
    exact this
  · obtain ⟨T, y, R, k, rfl, hT, hk, hR, r⟩ := hY
    rw [List.getElem?_map, hc] at hk hR
    cases hk
    cases hR
    have oG := g2.ok o1
    exact ⟨[some (.ref a), some (.str c.1), some y], rfl, fun Kk hk => ⟨T, _, rfl, .of (oG.s _ _ hT), rfl, _, _, rfl, _, _, rfl, rfl, hk⟩, y, rfl, r⟩
  · obtain ⟨y, rfl, r⟩ := hS
    have oG := g2.ok o1
    have m3 : ∀ R ∈ [Is (.str c.2.1), TuS c.2.2.1, Is (.str c.2.2.2)], Mo R := mos_cons (Is.mo _) (mos_cons (TuS.mo _) (mos_cons (Is.mo _) mos_nil))
    exact ev_tup (Rs := Is (.str c.1) :: ([Is (.str c.2.1), TuS c.2.2.1, Is (.str c.2.2.2)] ++ [])) oG (mos_cons (Is.mo _) m3) (ea_cons oG (Is.mo _) (ev_var oG (Is.mo _) rfl rfl) (ea_star oG m3 (ev_var oG (vEnd.mo c) rfl r) (ea_nil oG))) (show 4 ≤ 100000 by decide)
end QW

set_option Elab.async false
set_option linter.all false
set_option maxRecDepth 100000
set_option maxHeartbeats 1000000
/-! QWds2: the words of a scheme. -/
namespace QW
open PySem PySem.Spec PyProof.Rows L2 QR
def tyWs (s : Str) : List Str := ["sort", s]
def caWs (c : Cst) : List Str := ["cast", c.1, c.2.1, c.2.2]
def veWs (v : Ver) : List Str := (["version", v.1, v.2.1] : List Str) ++ (v.2.2.1 ++ [v.2.2.2])
def scWs (ts : List Str) (cs : List Cst) (vs : List Ver) : List (List Str) := ts.map tyWs ++ cs.map caWs ++ vs.map veWs
def lnOf (ws : List Str) : Str := Txt.join " " ws ++ "\n"
def txOf (rows : List (List Str)) : Str := Txt.join "" (rows.map lnOf)
def spTyW : Sp := spW (fun _ : Str => W0) (fun s => [Is (.str s)]) fun s => Txts (tyWs s)
theorem spTyW.len : ∀ vs H Q E, spTyW vs H Q E → vs.length = 1 := spW.len fun _ => rfl
def spCaW : Sp := spW (fun _ : Cst => W0) (fun c => [cTu c]) fun c => Txts (caWs c)
theorem spCaW.len : ∀ vs H Q E, spCaW vs H Q E → vs.length = 1 := spW.len fun _ => rfl
def spVeW : Sp := spW (fun _ : {v : Ver // v.2.2.1.length ≤ 1000} => W0) (fun v => [vTu v.1]) fun v => Txts (veWs v.1)
theorem spVeW.len : ∀ vs H Q E, spVeW vs H Q E → vs.length = 1 := spW.len fun _ => rfl
structure SwA where
  ts : List Str
  cs : List Cst
  vs : List Ver
  h1 : ts.length ≤ 100
  h2 : cs.length ≤ 100
  h3 : vs.length ≤ 100
  h4 : ∀ v ∈ vs, v.2.2.1.length ≤ 1000
def spScW : Sp := spW (fun _ : SwA => W0) (fun a => [Txts a.ts, Li (a.cs.map cTu), Li (a.vs.map vTu)]) fun a => Li ((scWs a.ts a.cs a.vs).map Txts)
theorem spScW.len : ∀ vs H Q E, spScW vs H Q E → vs.length = 3 := spW.len fun _ => rfl
structure WtA where
  rows : List (List Str)
  hr : rows.length ≤ 1000
  hw : ∀ ws ∈ rows, ws.length ≤ 10 ∧ ∀ s ∈ ws, s.length ≤ 100
def spWT : Sp := spW (fun _ : WtA => W0) (fun a => [Li (a.rows.map Txts)]) fun a => Is (.str (txOf a.rows))
theorem spWT.len : ∀ vs H Q E, spWT vs H Q E → vs.length = 1 := spW.len fun _ => rfl

def t_tyW : TS := tRet (tLst (tCons (tC (.str "sort")) (tCons (tVar 0) tNil)))
theorem pure_tyW {vs : List V} {H : Hp} {Q : VK} {E : XK} (h : spTyW vs H Q E) : t_tyW { nx := fun _ H' => Q .non H', rt := Q } (L2.start ["name"] vs) H := by
  obtain ⟨s, F, o, al, q⟩ := h
  obtain ⟨v, rfl, hv⟩ := one_arg al
  exact q_ret (R := Txts (tyWs s)) o (ev_lst (Rs := [Is (.str "sort"), Is (.str s)]) (σ := [some v]) o (mos_cons (Is.mo _) (mos_cons (Is.mo _) mos_nil)) (ea_cons o (Is.mo _) (ev_c o fun _ => rfl) (ea_cons o (Is.mo _) (ev_var o (Is.mo _) rfl hv) (ea_nil o))) (show 2 ≤ 100000 by decide)) q
def t_caW (K : PySem.W.Frag) : TS := tRet (tOp rCat (tLst (tCons (tC (.str "cast")) tNil)) (tCB (iList1 K) (tCons (tVar 0) tNil)))
theorem pure_caW {K : PySem.W.Frag} {vs : List V} {H : Hp} {Q : VK} {E : XK} (h : spCaW vs H Q E) : t_caW K { nx := fun _ H' => Q .non H', rt := Q } (L2.start ["row"] vs) H := by
  obtain ⟨c, F, o, al, q⟩ := h
  obtain ⟨v, rfl, hv⟩ := one_arg al
  have m3 : ∀ R ∈ [Is (.str c.1), Is (.str c.2.1), Is (.str c.2.2)], Mo R := mos_cons (Is.mo _) (mos_cons (Is.mo _) (mos_cons (Is.mo _) mos_nil))
  exact q_ret (R := Txts (caWs c)) o (ev_op (ta := tLst (tCons (tC (.str "cast")) tNil)) (σ := [some v]) o (Li.mo (mos_cons (Is.mo _) mos_nil)) (ev_lst (Rs := [Is (.str "cast")]) o (mos_cons (Is.mo _) mos_nil) (ea_cons o (Is.mo _) (ev_c o fun _ => rfl) (ea_nil o)) (show 1 ≤ 100000 by decide))
    (ev_list (K := K) (te := tVar 0) o m3 (ev_var o (cTu.mo c) rfl hv).sqT) (ow_cat (mos_cons (Is.mo _) mos_nil) m3 (show 1 + 3 ≤ 100000 by decide))) q
def t_veW (K : PySem.W.Frag) : TS := tSeq (tAsg (tVar 0) (gTup K 4 (gCons (gName 1) (gCons (gName 2) (gCons (gName 3) (gCons (gName 4) gNil)))))) (tRet (tLst (tCons (tC (.str "version")) (tCons (tVar 1) (tCons (tVar 2) (StX.tStar K (tVar 3) (tCons (tVar 4) tNil)))))))
theorem pure_veW {K : PySem.W.Frag} {vs : List V} {H : Hp} {Q : VK} {E : XK} (h : spVeW vs H Q E) : t_veW K { nx := fun _ H' => Q .non H', rt := Q } (L2.start ["row", "name", "operator", "types", "result"] vs) H := by
  obtain ⟨⟨r, hz⟩, F, o, al, q⟩ := h
  obtain ⟨v, rfl, hv⟩ := one_arg al
  obtain ⟨a, us, rfl, e1, al2⟩ := hv
  obtain ⟨x, y, ta, z, rfl, hx, hy, hta, hz4⟩ := four_args al2
  obtain rfl := hx
  obtain rfl := hy
  obtain rfl := hz4
  refine ⟨_, rfl, a, _, rfl, .of (o.s _ _ e1), rfl, _, _, rfl, _, _, rfl, _, _, rfl, _, _, rfl, rfl, ?_⟩
  change tRet (tLst (tCons (tC (.str "version")) (tCons (tVar 1) (tCons (tVar 2) (StX.tStar K (tVar 3) (tCons (tVar 4) tNil)))))) { nx := fun _ H' => Q .non H', rt := Q } [some (.ref a), some (.str r.1), some (.str r.2.1), some ta, some (.str r.2.2.2)] H
  have hz' : r.2.2.1.length ≤ 1000 := hz
  refine q_ret (R := Txts (veWs r)) o ?_ q
  have := ev_lst (Rs := Is (.str "version") :: Is (.str r.1) :: Is (.str r.2.1) :: ((r.2.2.1.map fun y => Is (.str y)) ++ [Is (.str r.2.2.2)])) o ?_ (ea_cons o (Is.mo _) (ev_c (σ := [some (.ref a), some (.str r.1), some (.str r.2.1), some ta, some (.str r.2.2.2)]) o fun _ => rfl) (ea_cons o (Is.mo _) (ev_var (i := 1) o (Is.mo _) rfl rfl) (ea_cons o (Is.mo _) (ev_var (i := 2) o (Is.mo _) rfl rfl) (ea_star (K := K) o (mosS _) (ev_var (i := 3) o (TuS.mo _) rfl hta) (ea_cons o (Is.mo _) (ev_var (i := 4) o (Is.mo _) rfl rfl) (ea_nil o)))))) ?_
  · have e : Txts (veWs r) = Li (Is (.str "version") :: Is (.str r.1) :: Is (.str r.2.1) :: ((r.2.2.1.map fun y => Is (.str y)) ++ [Is (.str r.2.2.2)])) := by
      unfold Txts veWs
      rw [List.map_append, List.map_append]
      rfl
    rw [e]
    exact this
  · refine mos_cons (Is.mo _) (mos_cons (Is.mo _) (mos_cons (Is.mo _) fun R hR => ?_))
    rcases List.mem_append.mp hR with hR | hR
    · exact mosS _ R hR
    · rw [List.mem_singleton.mp hR]; exact Is.mo _
  · simp only [List.length_cons, List.length_append, List.length_map, List.length_nil]
    omega
def t_scW (K : PySem.W.Frag) : TS := tSeq (tAsg (tLc (iList K (tVar 0)) (gName 4) tYes (tCall spTyW [] E0 (tCons (tVar 4) tNil)) [4]) (gName 3))
  (tSeq (tDrop (tBM K "list" rExtend (tVar 3) (tCons (tLc (iList K (tVar 1)) (gName 5) tYes (tCall spCaW [] E0 (tCons (tVar 5) tNil)) [5]) tNil)))
  (tRet (tOp rCat (tVar 3) (tLc (iList K (tVar 2)) (gName 5) tYes (tCall spVeW [] E0 (tCons (tVar 5) tNil)) [5]))))
theorem pure_scW {K : PySem.W.Frag} {vs : List V} {H : Hp} {Q : VK} {E : XK} (h : spScW vs H Q E) : t_scW K { nx := fun _ H' => Q .non H', rt := Q } (L2.start ["types", "casts", "versions", "found", "name", "row"] vs) H := by
  obtain ⟨⟨ts, cs, rs, h1, h2, h3, h4⟩, F, o, al, q⟩ := h
  obtain ⟨v0, v1, v2, rfl, hv0, hv1, hv2⟩ := three_args al
  have mT : ∀ ws : List Str, Mo (Txts ws) := Txts.mo
  have hf : EvO W0 (ts.map fun s => Txts (tyWs s)) (tLc (iList K (tVar 0)) (gName 4) tYes (tCall spTyW [] E0 (tCons (tVar 4) tNil)) [4]) [some v0, some v1, some v2, none, none, none] F H := by
    refine eo_mapN (f := fun s : Str => Is (.str s)) (gg := fun s => Txts (tyWs s)) o (ei_list o (mosS ts) (ev_var o (Txts.mo ts) rfl hv0)) (List.length_map ..) (fun _ => rfl) (fun s => mT _) (by omega) fun s x G H' hs hx g => ?_
    exact ev_call0 (A := fun s : Str => [Is (.str s)]) (Rf := fun s => Txts (tyWs s)) s (g.ok o) (ea_cons (g.ok o) (Is.mo _) (ev_var (g.ok o) (Is.mo _) rfl hx) (ea_nil (g.ok o)))
  refine q_asgOS (fun p => [some v0, some v1, some v2, some p, none, none]) o hf fun p us F1 H1 g1 n0 n1 hp al1 => ?_
  have o1 := g1.ok o
  have hv1' := Li.mo (mos_map cTu.mo cs) _ _ _ g1.g.ff hv1
  have hc : EvW W0 (Li (cs.map fun c => Txts (caWs c))) (tLc (iList K (tVar 1)) (gName 5) tYes (tCall spCaW [] E0 (tCons (tVar 5) tNil)) [5]) [some v0, some v1, some v2, some (.ref p), none, none] F1 H1 := by
    refine mapN_list (f := cTu) (gg := fun c => Txts (caWs c)) o1 (ev_var o1 (Li.mo (mos_map cTu.mo cs)) rfl hv1') (fun _ => rfl) cTu.mo (fun c => mT _) (by omega) fun c x G H' hc hx g => ?_
    exact ev_call0 (A := fun c : Cst => [cTu c]) (Rf := fun c => Txts (caWs c)) c (g.ok o1) (ea_cons (g.ok o1) (cTu.mo c) (ev_var (g.ok o1) (cTu.mo c) rfl hx) (ea_nil (g.ok o1)))
  refine q_dropO ⟨_, rfl, .inl ⟨rfl, _, .of hp⟩, hc _ _ o1.refl _ fun v F2 H2 g2 r => ?_⟩
  obtain ⟨b, zs, rfl, hb, alz⟩ := r
  have o2 := g2.ok o1
  have hp2 := g2.same _ _ hp
  have nF2 : F2 p = none := g2.g.nw p n1 (by rw [hp]; exact nofun)
  have hl1 := al1.length
  have hl2 := alz.length
  rw [List.length_map] at hl1 hl2
  refine ⟨p, b, us, zs, rfl, rfl, hp2, o2.s _ _ hb, Evl.sz_of (by omega), ?_⟩
  have G2 := g1.trans o g2
  have gk : Gw W0 F H (upd F2 p (.lst (us ++ zs))) (upd H2 p (.lst (us ++ zs))) := Gw.keepL (w := W0) ⟨G2.g.mut (.inl n0) nF2, True.intro⟩ n0 nF2 upd_same
  have o3 := gk.ok o
  have mt : ∀ R ∈ ts.map fun s => Txts (tyWs s), Mo R := mos_map (fun s => mT _) _
  have mc : ∀ R ∈ cs.map fun c => Txts (caWs c), Mo R := mos_map (fun s => mT _) _
  have mr : ∀ R ∈ rs.map fun c => Txts (veWs c), Mo R := mos_map (fun s => mT _) _
  have mtc : ∀ R ∈ (ts.map fun s => Txts (tyWs s)) ++ (cs.map fun c => Txts (caWs c)), Mo R := fun R hR => (List.mem_append.mp hR).elim (mt R) (mc R)
  have rp : Li ((ts.map fun s => Txts (tyWs s)) ++ (cs.map fun c => Txts (caWs c))) (.ref p) (upd F2 p (.lst (us ++ zs))) := ⟨p, _, rfl, upd_same, ((al1.mono g2.g.ff mt).append alz).mono (same_upd nF2) mtc⟩
  have hv2' := Li.mo (mos_map vTu.mo rs) _ _ _ gk.g.ff hv2
  have hr : EvW W0 (Li (rs.map fun c => Txts (veWs c))) (tLc (iList K (tVar 2)) (gName 5) tYes (tCall spVeW [] E0 (tCons (tVar 5) tNil)) [5]) [some v0, some v1, some v2, some (.ref p), none, none] (upd F2 p (.lst (us ++ zs))) (upd H2 p (.lst (us ++ zs))) := by
    refine mapN_list (f := vTu) (gg := fun c => Txts (veWs c)) o3 (ev_var o3 (Li.mo (mos_map vTu.mo rs)) rfl hv2') (fun _ => rfl) vTu.mo (fun c => mT _) (by omega) fun c x G H' hc hx g => ?_
    exact ev_call0 (A := fun v : {v : Ver // v.2.2.1.length ≤ 1000} => [vTu v.1]) (Rf := fun v => Txts (veWs v.1)) ⟨c, h4 c hc⟩ (g.ok o3) (ea_cons (g.ok o3) (vTu.mo c) (ev_var (g.ok o3) (vTu.mo c) rfl hx) (ea_nil (g.ok o3)))
  have he : Li ((scWs ts cs rs).map Txts) = Li (((ts.map fun s => Txts (tyWs s)) ++ (cs.map fun c => Txts (caWs c))) ++ rs.map fun c => Txts (veWs c)) := by
    unfold scWs
    rw [List.map_append, List.map_append, List.map_map, List.map_map, List.map_map]
    rfl
  refine q_ret (R := Li ((scWs ts cs rs).map Txts)) o3 ?_ fun v F4 H4 g4 r => q v F4 H4 (gk.trans o g4) r
  rw [he]
  exact ev_op (ta := tVar 3) o3 (Li.mo mtc) (ev_var o3 (Li.mo mtc) rfl rp) hr (ow_cat mtc mr (by simp only [List.length_append, List.length_map]; omega))
/-! ### the text -/
theorem join_len (sep : Str) : ∀ l : List Str, (Txt.join sep l).length ≤ (l.map (·.length)).sum + l.length * sep.length := by
  intro l
  rw [TL.join_eq]
  induction l with
  | nil => exact Nat.zero_le _
  | cons x l ih =>
    cases l with
    | nil =>
      show x.length ≤ _
      simp only [List.map_cons, List.map_nil, List.sum_cons, List.sum_nil, List.length_cons]
      omega
    | cons y l =>
      show (x ++ sep ++ Str.join sep (y :: l)).length ≤ _
      rw [Str.length_append, Str.length_append]
      simp only [List.map_cons, List.sum_cons, List.length_cons] at ih ⊢
      rw [Nat.add_mul (l.length + 1)]
      omega
theorem sum_le {l : List Str} {B : Nat} (h : ∀ s ∈ l, s.length ≤ B) : (l.map (·.length)).sum ≤ l.length * B := by
  induction l with
  | nil => exact Nat.zero_le _
  | cons a l ih =>
    rw [List.map_cons, List.sum_cons, List.length_cons, Nat.add_mul]
    have := ih fun s hs => h s (List.mem_cons_of_mem _ hs)
    have := h a List.mem_cons_self
    omega
theorem ln_len {ws : List Str} (h1 : ws.length ≤ 10) (h2 : ∀ s ∈ ws, s.length ≤ 100) : (ws.map (·.length)).sum + ws.length * 1 ≤ 1010 ∧ (Txt.join " " ws).length ≤ 1010 ∧ (lnOf ws).length ≤ 1011 := by
  have a := sum_le h2
  have b := join_len " " ws
  have c : (" " : Str).length = 1 := rfl
  have d : ws.length * 100 ≤ 1000 := by omega
  rw [c] at b
  refine ⟨by omega, by omega, ?_⟩
  unfold lnOf
  rw [Str.length_append]
  have e : ("\n" : Str).length = 1 := rfl
  omega
section
variable {K : PySem.W.Frag} {w : Wd} {σ : L2.St} {F H : Hp} {te : TE}
theorem ev_joinX {a : Str} {ys : List Str} (o : Ok w F H) (h : EvW w (Txts ys) te σ F H) (hP : (ys.map (·.length)).sum + ys.length * a.length ≤ 16777216) : EvW w (Is (.str (Txt.join a ys))) (tM1 (QK.rJoin K) (tC (.str a)) te) σ F H :=
  (ev_join (P := fun zs => zs = ys) o (h.imp fun v F' _ r => ⟨ys, rfl, r⟩) (fun zs e => by rw [e]; exact hP)).imp fun v F' _ ⟨zs, e, r⟩ => by rw [e] at r; exact r
theorem ow_catS {a b : Str} (h : a.length + b.length ≤ sizeLine) : OpW w oCatS (Is (.str a)) (Is (.str b)) (Is (.str (a ++ b))) := fun x y F H o rx ry Q q => by
  obtain rfl : x = .str a := rx
  obtain rfl : y = .str b := ry
  exact ⟨a, b, rfl, rfl, h, q _ F H o.refl rfl⟩
end
def t_wT (K : PySem.W.Frag) : TS := tRet (tM1 (QK.rJoin K) (tC (.str "")) (tLc (iList K (tVar 0)) (gName 1) tYes (tOp oCatS (tM1 (QK.rJoin K) (tC (.str " ")) (tVar 1)) (tC (.str "\n"))) [1]))
theorem pure_wT {K : PySem.W.Frag} {vs : List V} {H : Hp} {Q : VK} {E : XK} (h : spWT vs H Q E) : t_wT K { nx := fun _ H' => Q .non H', rt := Q } (L2.start ["rows", "words"] vs) H := by
  obtain ⟨⟨rows, hr, hw⟩, F, o, al, q⟩ := h
  obtain ⟨v, rfl, hv⟩ := one_arg al
  have hr : rows.length ≤ 1000 := hr
  refine q_ret (R := Is (.str (txOf rows))) o (ev_joinX (K := K) (ys := rows.map lnOf) o ?_ ?_) q
  · have := mapN_list (K := K) (tl := tVar 0) (σ := [some v, none]) (vs := [1]) (j := 1) (te := tOp oCatS (tM1 (QK.rJoin K) (tC (.str " ")) (tVar 1)) (tC (.str "\n"))) (f := Txts) (gg := fun ws => Is (.str (lnOf ws))) o (ev_var o (Li.mo (mos_map Txts.mo _)) rfl hv) (fun _ => rfl) Txts.mo (fun _ => Is.mo _) (show rows.length ≤ 100000 by omega) fun ws x G H' hws hx g => ?_
    · unfold Txts
      rw [List.map_map]
      exact this
    · have oG := g.ok o
      obtain ⟨a1, a2, a3⟩ := ln_len (hw ws hws).1 (hw ws hws).2
      exact ev_op oG (Is.mo _) (ev_joinX oG (ev_var oG (Txts.mo ws) rfl hx) (by show _ + _ * 1 ≤ _; omega)) (ev_c oG fun _ => rfl) (ow_catS (by rw [sizeLine_eq]; show _ + 1 ≤ _; omega))
  · have a : ((rows.map lnOf).map (·.length)).sum ≤ (rows.map lnOf).length * 1011 := sum_le fun s hs => by
      obtain ⟨ws, hws, rfl⟩ := List.mem_map.mp hs
      exact (ln_len (hw ws hws).1 (hw ws hws).2).2.2
    rw [List.length_map] at a
    show _ + _ * 0 ≤ _
    have : rows.length * 1011 ≤ 1011000 := by omega
    omega
end QW

set_option Elab.async false
set_option linter.all false
set_option maxRecDepth 100000
set_option maxHeartbeats 2000000
/-! QSch: schemes: what is known of a made one; how it is made. -/
namespace QW
open PySem PySem.Spec PyProof.Rows L2 QR
/-- elements that make a scheme -/
structure WfS (ts : List Str) (cs : List Cst) (vs : List Ver) : Prop where
  tn : ts.Nodup
  tm : ∀ s ∈ ts, isNmS s = true
  tl : ts.length ≤ 10
  cn : (cs.map (·.1)).Nodup
  cm : ∀ c ∈ cs, isNmS c.1 = true
  cl : cs.length ≤ 20
  ce : ∀ c ∈ cs, c.2.1 ∈ ts ∧ c.2.2 ∈ ts
  ac : ∃ rk : Str → Nat, ∀ c ∈ cs, rk c.2.1 < rk c.2.2
  vn : (vs.map (·.1)).Nodup
  vm : ∀ v ∈ vs, isNmS v.1 = true
  vl : vs.length ≤ 16
  ve : ∀ v ∈ vs, isNmS v.2.1 = true ∧ v.2.2.1 ≠ [] ∧ v.2.2.1.length ≤ 2 ∧ (∀ y ∈ v.2.2.1, y ∈ ts) ∧ v.2.2.2 ∈ ts
  va : ∃ ar : Str → Nat, ∀ v ∈ vs, v.2.2.1.length = ar v.2.1
theorem WfS.perm {ts ts' : List Str} {cs cs' : List Cst} {vs vs' : List Ver} (w : WfS ts cs vs) (p1 : ts'.Perm ts) (p2 : cs'.Perm cs) (p3 : vs'.Perm vs) : WfS ts' cs' vs' where
  tn := p1.nodup_iff.mpr w.tn
  tm := fun s h => w.tm s (p1.mem_iff.mp h)
  tl := by rw [p1.length_eq]; exact w.tl
  cn := (p2.map _).nodup_iff.mpr w.cn
  cm := fun s h => w.cm s (p2.mem_iff.mp h)
  cl := by rw [p2.length_eq]; exact w.cl
  ce := fun c h => ⟨p1.mem_iff.mpr (w.ce c (p2.mem_iff.mp h)).1, p1.mem_iff.mpr (w.ce c (p2.mem_iff.mp h)).2⟩
  ac := let ⟨rk, h⟩ := w.ac; ⟨rk, fun c m => h c (p2.mem_iff.mp m)⟩
  vn := (p3.map _).nodup_iff.mpr w.vn
  vm := fun s h => w.vm s (p3.mem_iff.mp h)
  vl := by rw [p3.length_eq]; exact w.vl
  ve := fun v h => let ⟨a, b, c, d, e⟩ := w.ve v (p3.mem_iff.mp h); ⟨a, b, c, fun y m => p1.mem_iff.mpr (d y m), p1.mem_iff.mpr e⟩
  va := let ⟨ar, h⟩ := w.va; ⟨ar, fun v m => h v (p3.mem_iff.mp m)⟩
/-- a made scheme -/
structure SchD where
  ts : List Str
  cs : List Cst
  vs : List Ver
  os : List Str
  ar : Str → Nat
  u : Ups
  text : Str
structure SchOk (ts : List Str) (cs : List Cst) (vs : List Ver) (s : SchD) : Prop where
  t : s.ts = srt ts
  c : s.cs.Perm cs
  co : InOrd (s.cs.map (·.1))
  v : s.vs.Perm vs
  vo : InOrd (s.vs.map (·.1))
  uk : s.u.map (·.1) = s.ts
  ur : ∀ e ∈ s.u, e.2.Nodup ∧ ∀ x, x ∈ e.2 ↔ Reach cs e.1 x
  ao : ArOk vs s.os
  av : ∀ v ∈ vs, v.2.2.1.length = s.ar v.2.1
  tx : s.text = txOf (scWs s.ts s.cs s.vs)
def arD (ar : Str → Nat) (os : List Str) : Pr := fun v F => ∃ a, v = .ref a ∧ F a = some (.dK (arK ar os))
theorem arD.mo (ar : Str → Nat) (os : List Str) : Mo (arD ar os) := fun _ _ _ e ⟨a, h1, h2⟩ => ⟨a, h1, e _ _ h2⟩
abbrev schL (CT : Addr) (s : SchD) : List (Str × Pr) := [("own_types", Txts s.ts), ("own_casts", castD s.cs), ("own_versions", verD s.vs), ("own_arities", arD s.ar s.os), ("own_order", Ord CT s.u), ("own_text", Is (.str s.text))]
theorem schL.mo (CT : Addr) (s : SchD) : ∀ p ∈ schL CT s, Mo p.2 := by
  intro p hp
  simp only [schL, List.mem_cons, List.not_mem_nil, or_false] at hp
  rcases hp with rfl | rfl | rfl | rfl | rfl | rfl
  · exact Txts.mo _
  · exact castD.mo _
  · exact verD.mo _
  · exact arD.mo _ _
  · exact Ord.mo _ _
  · exact Is.mo _
def Sch (C CT : Addr) (s : SchD) : Pr := Obj C schF (schL CT s)
theorem Sch.mo (C CT : Addr) (s : SchD) : Mo (Sch C CT s) := Obj.mo (schL.mo CT s)
/-- a scheme of these elements -/
def SchOf (C CT : Addr) (ts : List Str) (cs : List Cst) (vs : List Ver) : Pr := fun v F => ∃ s, SchOk ts cs vs s ∧ Sch C CT s v F
theorem SchOf.mo (C CT : Addr) (ts : List Str) (cs : List Cst) (vs : List Ver) : Mo (SchOf C CT ts cs vs) := fun v F F' e ⟨s, h, r⟩ => ⟨s, h, Sch.mo C CT s v F F' e r⟩
structure SiA where
  C : Addr
  CT : Addr
  dx : Addr
  self : Addr
  ts : List Str
  cs : List Cst
  vs : List Ver
  wf : WfS ts cs vs
def spSch (C CT : Addr) : Sp := spP (fun a : {a : SiA // a.C = C ∧ a.CT = CT} => [a.1.self]) (fun a => [Is (.ref a.1.self), Txts a.1.ts, Li (a.1.cs.map cTu), Li (a.1.vs.map vTu)]) (fun a F H => H a.1.self = some (.ins a.1.C a.1.dx []))
  (fun a H v F' H' => v = .non ∧ ∃ s fs, SchOk a.1.ts a.1.cs a.1.vs s ∧ H' a.1.self = some (.ins a.1.C a.1.dx fs) ∧ (∀ m, m ∉ schF → fs.lookup m = none) ∧ ∀ p ∈ schL a.1.CT s, ∃ u, fs.lookup p.1 = some u ∧ p.2 u F')
theorem spSch.len {C CT : Addr} : ∀ vs H Q E, spSch C CT vs H Q E → vs.length = 4 := spP.len fun _ => rfl
section
variable {w : Wd} {F0 H0 F H : Hp} {A : List Addr} {σ : L2.St} {C : Addr} {sp : Sp} {dvs : List V} {E : L2.St → XK} {t : TA} {Q : VK}
theorem Gw.keepA (g : Gw w F0 H0 F H) (h : ∀ a ∈ A, H0 a = none ∧ F a = none) : Gw w F0 H0 (kn A F H) H := ⟨⟨fun b u e => by
    have e1 := g.g.ff b u e
    unfold kn
    rw [if_neg fun z => by rw [(h b z).2] at e1; cases e1]
    exact e1, fun b u e => by
    unfold kn at e
    split at e
    · exact e
    · exact g.g.fh b u e, g.g.hh, fun b e1 e2 => by
    unfold kn
    rw [if_neg fun z => e2 (h b z).1]
    exact g.g.nw b e1 e2⟩, g.j⟩
theorem makeO (h : t σ H fun vs H1 => ∀ x dx, H1 x = none → H1 dx = none → dx ≠ x → sp (.ref x :: (vs ++ dvs)) (upd (upd H1 dx (.own x)) x (.ins C dx [])) (fun v H2 => v = .non ∧ Q (.ref x) H2) (E σ)) : QC.tMakeE C sp dvs E t σ H Q := h
end
def t_si9 (K : PySem.W.Frag) (C : Addr) : TS := sFld K (tVar 0) (tCall spWT [] E0 (tCons (tCall spScW [] E0 (tCons (QC.tMethE C "types" (spTypes C) [] (fun _ => E0) (tVar 0) tNil) (tCons (QC.tMethE C "casts" (spCasts C) [] (fun _ => E0) (tVar 0) tNil) (tCons (QC.tMethE C "versions" (spVers C) [] (fun _ => E0) (tVar 0) tNil) tNil)))) tNil)) "own_text"
def t_si7 (K : PySem.W.Frag) (C CT : Addr) : TS := tSeq (tDrop (QC.tMethE C "take_casts" (spTC C CT) [] (fun _ => E0) (tVar 0) (tCons (tVar 2) tNil))) (tSeq (tDrop (QC.tMethE C "take_versions" (spTV C) [] (fun _ => E0) (tVar 0) (tCons (tVar 3) tNil))) (t_si9 K C))
def t_si5 (K : PySem.W.Frag) (C CT : Addr) : TS := tSeq (tDrop (QC.tMethE C "take_types" (spTT C) [] (fun _ => E0) (tVar 0) (tCons (tVar 1) tNil)))
  (tSeq (sFld K (tVar 0) (QC.tMakeE CT (spToI CT) [] (fun _ => E0) (tCons (tFld K (tVar 0) "own_types") tNil)) "own_order") (t_si7 K C CT))
def t_si (K : PySem.W.Frag) (C CT : Addr) : TS := tSeq (sFld K (tVar 0) (tLst tNil) "own_types") (tSeq (sFld K (tVar 0) tDNewK "own_casts") (tSeq (sFld K (tVar 0) tDNewK "own_versions") (tSeq (sFld K (tVar 0) tDNewK "own_arities") (t_si5 K C CT))))
section
variable {K : PySem.W.Frag} {C CT : Addr}
/-- the text at last -/
theorem si9 (c : Cls K C) (nX : NoAttr K C "own_text") {D : Ends} {F H : Hp} {self dx : Addr} {T Cv Vv Av Ov : V} {a1 a2 a3 : Option V} {ts : List Str} {cs : List Cst} {vs : List Ver} (o : Ok W0 F H) (hs : H self = some (.ins C dx (fsS T Cv Vv Av Ov)))
    (h1 : Txts ts T F) (h2 : castD cs Cv F) (h3 : verD vs Vv F) (l1 : ts.length ≤ 10) (l2 : cs.length ≤ 20) (l3 : vs.length ≤ 16) (l4 : ∀ v ∈ vs, v.2.2.1.length ≤ 2) (m1 : ∀ s ∈ ts, s.length ≤ 100) (m2 : ∀ c ∈ cs, c.1.length ≤ 100 ∧ c.2.1.length ≤ 100 ∧ c.2.2.length ≤ 100) (m3 : ∀ v ∈ vs, v.1.length ≤ 100 ∧ v.2.1.length ≤ 100 ∧ (∀ s ∈ v.2.2.1, s.length ≤ 100) ∧ v.2.2.2.length ≤ 100)
    (k : ∀ H1, Gw W0 F H F H1 → D.nx [some (.ref self), a1, a2, a3] (upd H1 self (.ins C dx (fsS T Cv Vv Av Ov ++ ([("own_text", V.str (txOf (scWs ts cs vs)))] : List (Str × V)))))) : t_si9 K C D [some (.ref self), a1, a2, a3] H := by
  have oK := o.kn (A := [self])
  have sK := kn_same (A := [self]) o.s
  have hself : Obj C schF [("own_types", Txts ts), ("own_casts", castD cs), ("own_versions", verD vs)] (.ref self) (kn [self] F H) := by
    refine ⟨self, dx, _, rfl, by rw [kn_in List.mem_cons_self, hs], fsS_none, fun p hp => ?_⟩
    simp only [List.mem_cons, List.not_mem_nil, or_false] at hp
    rcases hp with rfl | rfl | rfl
    · exact ⟨T, rfl, Txts.mo _ _ _ _ sK h1⟩
    · exact ⟨Cv, rfl, castD.mo _ _ _ _ sK h2⟩
    · exact ⟨Vv, rfl, verD.mo _ _ _ _ sK h3⟩
  have mO : ∀ p ∈ [(("own_types" : Str), Txts ts), ("own_casts", castD cs), ("own_versions", verD vs)], Mo p.2 := by
    intro p hp
    simp only [List.mem_cons, List.not_mem_nil, or_false] at hp
    rcases hp with rfl | rfl | rfl
    · exact Txts.mo _
    · exact castD.mo _
    · exact verD.mo _
  have ev0 := ev_var (i := 0) (σ := [some (.ref self), a1, a2, a3]) oK (Obj.mo mO) rfl hself
  have e1 := ev_meth (m := "types") (E := fun _ => E0) (A := fun ts : List Str => [Obj C schF [("own_types", Txts ts)]]) (Rf := Txts) ts rfl (Obj.mo (mo1 (Txts.mo ts))) (Obj.ins (by decide)) oK (ev0.imp fun v F' _ r => r.less fun p hp => by rw [List.mem_singleton.mp hp]; exact List.mem_cons_self) (ea_nil oK)
  have e2 := ev_meth (m := "casts") (E := fun _ => E0) (A := fun cs : {cs : List Cst // cs.length ≤ 100000} => [Obj C schF [("own_casts", castD cs.1)]]) (Rf := fun cs => Li (cs.1.map cTu)) ⟨cs, by omega⟩ rfl (Obj.mo (mo1 (castD.mo cs))) (Obj.ins (by decide)) oK (ev0.imp fun v F' _ r => r.less fun p hp => by rw [List.mem_singleton.mp hp]; exact List.mem_cons_of_mem _ List.mem_cons_self) (ea_nil oK)
  have e3 := ev_meth (m := "versions") (E := fun _ => E0) (A := fun vs : {vs : List Ver // vs.length ≤ 100000 ∧ ∀ v ∈ vs, v.2.2.1.length ≤ 1000} => [Obj C schF [("own_versions", verD vs.1)]]) (Rf := fun vs => Li (vs.1.map vTu)) ⟨vs, by omega, fun v hv => by have := l4 v hv; omega⟩ rfl (Obj.mo (mo1 (verD.mo vs))) (Obj.ins (by decide)) oK (ev0.imp fun v F' _ r => r.less fun p hp => by rw [List.mem_singleton.mp hp]; exact List.mem_cons_of_mem _ (List.mem_cons_of_mem _ List.mem_cons_self)) (ea_nil oK)
  have e4 := ev_call0 (E := E0) (A := fun a : SwA => [Txts a.ts, Li (a.cs.map cTu), Li (a.vs.map vTu)]) (Rf := fun a => Li ((scWs a.ts a.cs a.vs).map Txts)) ⟨ts, cs, vs, by omega, by omega, by omega, fun v hv => by have := l4 v hv; omega⟩ oK
    (ea_cons oK (Txts.mo _) e1 (ea_cons oK (Li.mo (mos_map cTu.mo _)) e2 (ea_cons oK (Li.mo (mos_map vTu.mo _)) e3 (ea_nil oK))))
  have e5 := ev_call0 (E := E0) (A := fun a : WtA => [Li (a.rows.map Txts)]) (Rf := fun a => Is (.str (txOf a.rows))) ⟨scWs ts cs vs, ?_, ?_⟩ oK (ea_cons oK (Li.mo (mos_map Txts.mo _)) e4 (ea_nil oK))
  · refine fldO (e5 _ _ oK.refl _ fun v F1 H1 g1 r => ?_)
    obtain rfl : v = .str _ := r
    have gf := Gw.forget o sK g1
    refine ⟨_, rfl, self, C, dx, _, rfl, gf.same _ _ hs, c, nX, show 5 < 1000 by decide, ?_⟩
    exact k H1 gf
  · unfold scWs
    rw [List.length_append, List.length_append, List.length_map, List.length_map, List.length_map]
    omega
  · intro ws hws
    unfold scWs at hws
    have k4 : ("sort" : Str).length ≤ 100 := by decide
    have k5 : ("cast" : Str).length ≤ 100 := by decide
    have k6 : ("version" : Str).length ≤ 100 := by decide
    rcases List.mem_append.mp hws with hws | hws
    · rcases List.mem_append.mp hws with hws | hws
      · obtain ⟨s, h, rfl⟩ := List.mem_map.mp hws
        refine ⟨show 2 ≤ 10 by decide, fun x hx => ?_⟩
        simp only [tyWs, List.mem_cons, List.not_mem_nil, or_false] at hx
        rcases hx with rfl | rfl
        · exact k4
        · exact m1 _ h
      · obtain ⟨s, h, rfl⟩ := List.mem_map.mp hws
        refine ⟨show 4 ≤ 10 by decide, fun x hx => ?_⟩
        simp only [caWs, List.mem_cons, List.not_mem_nil, or_false] at hx
        rcases hx with rfl | rfl | rfl | rfl
        · exact k5
        · exact (m2 _ h).1
        · exact (m2 _ h).2.1
        · exact (m2 _ h).2.2
    · obtain ⟨s, h, rfl⟩ := List.mem_map.mp hws
      have h4 := l4 s h
      refine ⟨by simp only [veWs, List.length_append, List.length_cons, List.length_nil]; omega, fun x hx => ?_⟩
      simp only [veWs, List.mem_append, List.mem_cons, List.not_mem_nil, or_false] at hx
      rcases hx with (rfl | rfl | rfl) | (hx | rfl)
      · exact k6
      · exact (m3 _ h).1
      · exact (m3 _ h).2.1
      · exact (m3 _ h).2.2.1 x hx
      · exact (m3 _ h).2.2.2
theorem isNmS_len {s : Str} (h : isNmS s = true) : s.length ≤ 8 := by
  unfold isNmS at h
  rw [Bool.and_eq_true, Bool.and_eq_true, decide_eq_true_eq, decide_eq_true_eq] at h
  omega
theorem fsT_none {T Cv Vv Av Ov Xv : V} : ∀ m, m ∉ schF → (fsS T Cv Vv Av Ov ++ ([("own_text", Xv)] : List (Str × V))).lookup m = none := fun m hm => by
  simp only [schF, List.mem_cons, List.not_mem_nil, or_false, not_or] at hm
  obtain ⟨h1, h2, h3, h4, h5, h6⟩ := hm
  simp only [fsS, List.cons_append, List.nil_append, List.lookup_cons, beq_eq_false_iff_ne.mpr h1, beq_eq_false_iff_ne.mpr h2, beq_eq_false_iff_ne.mpr h3, beq_eq_false_iff_ne.mpr h4, beq_eq_false_iff_ne.mpr h5, beq_eq_false_iff_ne.mpr h6, List.lookup_nil]
theorem pure_si (c : Cls K C) (nT : NoAttr K C "own_types") (nC : NoAttr K C "own_casts") (nV : NoAttr K C "own_versions") (nA : NoAttr K C "own_arities") (nO : NoAttr K C "own_order") (nX : NoAttr K C "own_text") {vs : List V} {H : Hp} {Q : VK} {E : XK} (h : spSch C CT vs H Q E) :
    t_si K C CT { nx := fun _ H' => Q .non H', rt := Q } (L2.start ["self", "types", "casts", "versions"] vs) H := by
  obtain ⟨⟨⟨C', CT', dx, self, ts, cs, rs, wf⟩, hC, hCT⟩, F, o, al, pre, q⟩ := h
  obtain rfl : C' = C := hC
  obtain rfl : CT' = CT := hCT
  dsimp only at o al pre q
  obtain ⟨x0, v1, v2, v3, rfl, hx0, hv1, hv2, hv3⟩ := four_args al
  obtain rfl : x0 = .ref self := hx0
  have mself : self ∈ [self] := List.mem_cons_self
  have nf : F self = none := o.m self mself
  have live : ∀ {F1 H1 : Hp} {b : Addr}, Gw (Wl [self]) F H F1 H1 → H1 b = none → H b = none := fun {F1 H1 b} g e => by
    cases z : H b with
    | none => rfl
    | some u => exact (g.live o (by rw [z]; exact nofun) e).elim
  -- own_types = []
  refine q_fldO ⟨show 0 ≤ sizeLine by decide, fun p hp => ⟨_, rfl, self, C', dx, [], rfl, by rw [upd_ne (ne_of_none pre hp)]; exact pre, c, nT, by decide, ?_⟩⟩
  have g1 : Gw (Wl [self]) F H F (upd (upd H p (.lst [])) self (.ins C' dx [("own_types", .ref p)])) := ((o.refl).temp hp).mutL (.inl mself) nf
  generalize hH1 : upd (upd H p (.lst [])) self (.ins C' dx [("own_types", .ref p)]) = H1 at g1
  have hs1 : H1 self = some (.ins C' dx [("own_types", .ref p)]) := by rw [← hH1]; exact upd_same
  change tSeq _ _ _ [some (.ref self), some v1, some v2, some v3] (upd (upd H p (.lst [])) self (.ins C' dx [("own_types", .ref p)]))
  rw [hH1]
  -- own_casts = {}
  refine q_fldO (fun d1 hd1 => ⟨_, rfl, self, C', dx, [("own_types", .ref p)], rfl, by rw [upd_ne (ne_of_none hs1 hd1)]; exact hs1, c, nC, show 1 < 1000 by decide, ?_⟩)
  have g2 : Gw (Wl [self]) F H F (upd (upd H1 d1 (.dK [])) self (.ins C' dx [("own_types", .ref p), ("own_casts", .ref d1)])) := (g1.temp hd1).mutL (.inl mself) nf
  have e12 : self ≠ d1 := ne_of_none hs1 hd1
  generalize hH2 : upd (upd H1 d1 (.dK [])) self (.ins C' dx [("own_types", .ref p), ("own_casts", .ref d1)]) = H2 at g2
  have hs2 : H2 self = some (.ins C' dx [("own_types", .ref p), ("own_casts", .ref d1)]) := by rw [← hH2]; exact upd_same
  have ha2 : H2 d1 = some (.dK []) := by rw [← hH2, upd_ne (Ne.symm e12)]; exact upd_same
  change tSeq _ _ _ [some (.ref self), some v1, some v2, some v3] (upd (upd H1 d1 (.dK [])) self (.ins C' dx [("own_types", .ref p), ("own_casts", .ref d1)]))
  rw [hH2]
  -- own_versions = {}
  refine q_fldO (fun d2 hd2 => ⟨_, rfl, self, C', dx, [("own_types", .ref p), ("own_casts", .ref d1)], rfl, by rw [upd_ne (ne_of_none hs2 hd2)]; exact hs2, c, nV, show 2 < 1000 by decide, ?_⟩)
  have g3 : Gw (Wl [self]) F H F (upd (upd H2 d2 (.dK [])) self (.ins C' dx [("own_types", .ref p), ("own_casts", .ref d1), ("own_versions", .ref d2)])) := (g2.temp hd2).mutL (.inl mself) nf
  have e22 : self ≠ d2 := ne_of_none hs2 hd2
  have e21 : d1 ≠ d2 := ne_of_none ha2 hd2
  generalize hH3 : upd (upd H2 d2 (.dK [])) self (.ins C' dx [("own_types", .ref p), ("own_casts", .ref d1), ("own_versions", .ref d2)]) = H3 at g3
  have hs3 : H3 self = some (.ins C' dx [("own_types", .ref p), ("own_casts", .ref d1), ("own_versions", .ref d2)]) := by rw [← hH3]; exact upd_same
  have ha3 : H3 d1 = some (.dK []) := by rw [← hH3, upd_ne (Ne.symm e12), upd_ne e21]; exact ha2
  have hb3 : H3 d2 = some (.dK []) := by rw [← hH3, upd_ne (Ne.symm e22)]; exact upd_same
  change tSeq _ _ _ [some (.ref self), some v1, some v2, some v3] (upd (upd H2 d2 (.dK [])) self (.ins C' dx [("own_types", .ref p), ("own_casts", .ref d1), ("own_versions", .ref d2)]))
  rw [hH3]
  -- own_arities = {}
  refine q_fldO (fun d3 hd3 => ⟨_, rfl, self, C', dx, [("own_types", .ref p), ("own_casts", .ref d1), ("own_versions", .ref d2)], rfl, by rw [upd_ne (ne_of_none hs3 hd3)]; exact hs3, c, nA, show 3 < 1000 by decide, ?_⟩)
  have g4 : Gw (Wl [self]) F H F (upd (upd H3 d3 (.dK [])) self (.ins C' dx [("own_types", .ref p), ("own_casts", .ref d1), ("own_versions", .ref d2), ("own_arities", .ref d3)])) := (g3.temp hd3).mutL (.inl mself) nf
  have e32 : self ≠ d3 := ne_of_none hs3 hd3
  have e31 : d1 ≠ d3 := ne_of_none ha3 hd3
  have e23 : d2 ≠ d3 := ne_of_none hb3 hd3
  generalize hH4 : upd (upd H3 d3 (.dK [])) self (.ins C' dx [("own_types", .ref p), ("own_casts", .ref d1), ("own_versions", .ref d2), ("own_arities", .ref d3)]) = H4 at g4
  have hs4 : H4 self = some (.ins C' dx [("own_types", .ref p), ("own_casts", .ref d1), ("own_versions", .ref d2), ("own_arities", .ref d3)]) := by rw [← hH4]; exact upd_same
  have ha4 : H4 d1 = some (.dK []) := by rw [← hH4, upd_ne (Ne.symm e12), upd_ne e31]; exact ha3
  have hb4 : H4 d2 = some (.dK []) := by rw [← hH4, upd_ne (Ne.symm e22), upd_ne e23]; exact hb3
  have hc4 : H4 d3 = some (.dK []) := by rw [← hH4, upd_ne (Ne.symm e32)]; exact upd_same
  have n1 : H d1 = none := live g1 hd1
  have n2 : H d2 = none := live g2 hd2
  have n3 : H d3 = none := live g3 hd3
  have f1 : F d1 = none := same_none o.s n1
  have f2 : F d2 = none := same_none o.s n2
  have f3 : F d3 = none := same_none o.s n3
  change t_si5 K C' CT' _ [some (.ref self), some v1, some v2, some v3] (upd (upd H3 d3 (.dK [])) self (.ins C' dx [("own_types", .ref p), ("own_casts", .ref d1), ("own_versions", .ref d2), ("own_arities", .ref d3)]))
  rw [hH4]
  clear hH1 hH2 hH3 hH4
  -- take_types
  have o4 := g4.ok o
  refine q_dropO (methO ⟨_, rfl, self, dx, _, rfl, hs4, rfl, _, rfl, ⟨⟨⟨C', dx, self, [("own_types", .ref p), ("own_casts", .ref d1), ("own_versions", .ref d2), ("own_arities", .ref d3)], ts, wf.tn, wf.tm, wf.tl, show 4 < 999 by decide, rfl⟩, rfl⟩, F, o4, .cons rfl (.cons hv1 .nil), hs4, fun v F5 H5 g5 hp5 => ?_⟩⟩)
  obtain ⟨rfl, l, hT5, hs5⟩ := hp5
  dsimp only at hT5 hs5 g5
  have hs5 : H5 self = some (.ins C' dx [("own_types", .ref l), ("own_casts", .ref d1), ("own_versions", .ref d2), ("own_arities", .ref d3)]) := hs5
  have nd1 : d1 ∉ [self] := fun z => e12 (List.mem_singleton.mp z).symm
  have nd2 : d2 ∉ [self] := fun z => e22 (List.mem_singleton.mp z).symm
  have nd3 : d3 ∉ [self] := fun z => e32 (List.mem_singleton.mp z).symm
  have ha5 := g5.g.hh d1 _ nd1 ha4
  have hb5 := g5.g.hh d2 _ nd2 hb4
  have hc5 := g5.g.hh d3 _ nd3 hc4
  have G5 := g4.trans o g5
  have o5 := G5.ok o
  have k1 : F5 d1 = none := g5.g.nw d1 f1 (by rw [ha4]; exact nofun)
  have k2 : F5 d2 = none := g5.g.nw d2 f2 (by rw [hb4]; exact nofun)
  have k3 : F5 d3 = none := g5.g.nw d3 f3 (by rw [hc4]; exact nofun)
  -- own_order
  refine q_fldO (makeO ⟨_, rfl, self, C', dx, _, .ref l, rfl, hs5, c, nT, rfl, fun x dxo hx hdxo hne => ?_⟩)
  have sx : self ≠ x := ne_of_none hs5 hx
  have sdx : self ≠ dxo := ne_of_none hs5 hdxo
  have hx' : (upd H5 dxo (.own x)) x = none := by rw [upd_ne (Ne.symm hne)]; exact hx
  have gt : Gw (Wl [self]) F H F5 (upd (upd H5 dxo (.own x)) x (.ins CT' dxo [])) := (G5.temp hdxo).temp hx'
  have nx : H x = none := live G5 hx
  have fx : F5 x = none := same_none o5.s hx
  generalize hH5 : upd (upd H5 dxo (.own x)) x (.ins CT' dxo []) = H5' at gt
  have hxx : H5' x = some (.ins CT' dxo []) := by rw [← hH5]; exact upd_same
  have keep5 : ∀ b u, H5 b = some u → H5' b = some u := fun b u e => by rw [← hH5, upd_ne (ne_of_none e hx), upd_ne (ne_of_none e hdxo)]; exact e
  have o5' := gt.ok o
  refine ⟨⟨⟨CT', dxo, x, srt ts, srt_nodup wf.tn, by rw [srt_length]; have := wf.tl; omega⟩, rfl⟩, F5, Ok.wl o5'.s (fun m hm => by rw [List.mem_singleton.mp hm]; exact ⟨fx, by rw [hxx]; exact nofun⟩), .cons rfl (.cons hT5 .nil), hxx, fun v F6 H6 g6 hp6 => ?_⟩
  obtain ⟨rfl, d, es, N⟩ := hp6
  dsimp only at N g6
  refine ⟨rfl, ?_⟩
  have keep6 : ∀ b u, b ≠ x → H5' b = some u → H6 b = some u := fun b u ne e => g6.g.hh b u (fun z => ne (List.mem_singleton.mp z)) e
  have hs6 : H6 self = some (.ins C' dx [("own_types", .ref l), ("own_casts", .ref d1), ("own_versions", .ref d2), ("own_arities", .ref d3)]) := keep6 _ _ sx (keep5 _ _ hs5)
  have ha6 := keep6 d1 _ (ne_of_none ha5 hx) (keep5 _ _ ha5)
  have hb6 := keep6 d2 _ (ne_of_none hb5 hx) (keep5 _ _ hb5)
  have hc6 := keep6 d3 _ (ne_of_none hc5 hx) (keep5 _ _ hc5)
  refine ⟨_, rfl, self, C', dx, [("own_types", .ref l), ("own_casts", .ref d1), ("own_versions", .ref d2), ("own_arities", .ref d3)], rfl, hs6, c, nO, show 4 < 1000 by decide, ?_⟩
  have G6 : Gw (Wl [self]) F H F6 H6 := Gw.nest o gt g6 fun m hm => .inr (by rw [List.mem_singleton.mp hm]; exact nx)
  have fx6 : F6 x = none := g6.g.nw x fx (by rw [hxx]; exact nofun)
  have G6k := G6.keepL nx fx6 N.hi
  have nf6 : upd F6 x (.ins CT' dxo [("own_ups", .ref d)]) self = none := by rw [upd_ne sx]; exact G6.g.nw self nf (by rw [pre]; exact nofun)
  have G7 := G6k.mutL (m := self) (u := .ins C' dx (fsS (.ref l) (.ref d1) (.ref d2) (.ref d3) (.ref x))) (.inl mself) nf6
  change t_si7 K C' CT' _ [some (.ref self), some v1, some v2, some v3] (upd H6 self (.ins C' dx (fsS (.ref l) (.ref d1) (.ref d2) (.ref d3) (.ref x))))
  generalize hF7 : upd F6 x (.ins CT' dxo [("own_ups", .ref d)]) = F7 at G7 G6k nf6
  generalize hH7 : upd H6 self (.ins C' dx (fsS (.ref l) (.ref d1) (.ref d2) (.ref d3) (.ref x))) = H7 at G7
  have o7 := G7.ok o
  have hs7 : H7 self = some (.ins C' dx (fsS (.ref l) (.ref d1) (.ref d2) (.ref d3) (.ref x))) := by rw [← hH7]; exact upd_same
  have ff67 : Same F6 F7 := by rw [← hF7]; exact same_upd fx6
  have ff57 : Same F5 F7 := g6.g.ff.trans ff67
  have ff7 : Same F F7 := G7.g.ff
  have fx7 : F7 x = some (.ins CT' dxo [("own_ups", .ref d)]) := by rw [← hF7]; exact upd_same
  have fd7 : F7 d = some (.dK (kvE es)) := ff67 _ _ N.fd
  have nk : ∀ {b : Addr} {u : HO}, F5 b = none → H5' b = some u → b ≠ x → F7 b = none := fun {b u} e1 e2 ne => by rw [← hF7, upd_ne ne]; exact g6.g.nw b e1 (by rw [e2]; exact nofun)
  have k1' : F7 d1 = none := nk k1 (keep5 _ _ ha5) (ne_of_none ha5 hx)
  have k2' : F7 d2 = none := nk k2 (keep5 _ _ hb5) (ne_of_none hb5 hx)
  have k3' : F7 d3 = none := nk k3 (keep5 _ _ hc5) (ne_of_none hc5 hx)
  have ha7 : H7 d1 = some (.dK []) := by rw [← hH7, upd_ne (Ne.symm e12)]; exact ha6
  have hb7 : H7 d2 = some (.dK []) := by rw [← hH7, upd_ne (Ne.symm e22)]; exact hb6
  have hc7 : H7 d3 = some (.dK []) := by rw [← hH7, upd_ne (Ne.symm e32)]; exact hc6
  have esx : ∀ e ∈ es, e.2.1 ≠ x := fun e he z => by
    have := N.nw e he
    rw [z, hxx] at this
    cases this
  have ess : ∀ e ∈ es, e.2.1 ≠ self := fun e he z => by
    have := N.nw e he
    rw [z, keep5 _ _ hs5] at this
    cases this
  have esn : ∀ e ∈ es, H e.2.1 = none := fun e he => live gt (N.nw e he)
  have ow7 : Own (es.map (·.2)) F7 H7 := fun p hp => by
    obtain ⟨e, he, rfl⟩ := List.mem_map.mp hp
    have := N.ow _ hp
    rw [← hF7, ← hH7, upd_ne (esx e he), upd_ne (ess e he)]
    exact this
  have hT7 := Txts.mo _ _ _ _ ff57 hT5
  clear hF7 hH7 hH5
  -- take_casts
  obtain ⟨ar, hva⟩ := wf.va
  have hM7 : ∀ m ∈ self :: d1 :: es.map (·.2.1), F7 m = none ∧ H7 m ≠ none := fun m hm => by
    rcases List.mem_cons.mp hm with rfl | hm
    · exact ⟨nf6, by rw [hs7]; exact nofun⟩
    · rcases List.mem_cons.mp hm with rfl | hm
      · exact ⟨k1', by rw [ha7]; exact nofun⟩
      · obtain ⟨e, he, rfl⟩ := List.mem_map.mp hm
        have := ow7 _ (List.mem_map.mpr ⟨e, he, rfl⟩)
        exact ⟨this.1, by rw [this.2]; exact nofun⟩
  have hN7 : ∀ m ∈ self :: d1 :: es.map (·.2.1), m ∈ [self] ∨ H m = none := fun m hm => by
    rcases List.mem_cons.mp hm with rfl | hm
    · exact .inl mself
    · rcases List.mem_cons.mp hm with rfl | hm
      · exact .inr n1
      · obtain ⟨e, he, rfl⟩ := List.mem_map.mp hm
        exact .inr (esn e he)
  refine q_dropO (methO ⟨_, rfl, self, dx, _, rfl, hs7, rfl, _, rfl, ⟨⟨⟨C', CT', dx, self, .ref l, d1, .ref d2, .ref d3, x, dxo, d, srt ts, es, cs, srt_nodup wf.tn, by rw [srt_length]; exact wf.tl, wf.cn, wf.cm, wf.cl, fun c hc => ⟨mem_srt.mpr (wf.ce c hc).1, mem_srt.mpr (wf.ce c hc).2⟩, wf.ac, UpOk.nil N.k N.u, N.na⟩, rfl, rfl⟩, F7, Ok.wl o7.s hM7, .cons rfl (.cons (Li.mo (mos_map cTu.mo _) _ _ _ ff7 hv2) .nil), ⟨hs7, hT7, ha7, fx7, fd7, ow7⟩, fun v F8 H8 g8 hp8 => ?_⟩⟩)
  obtain ⟨rfl, dn, es8, cs8, hs8, pc8, oc8, hD8, uk8, na8, ow8⟩ := hp8
  dsimp only at hs8 pc8 oc8 hD8 uk8 na8 ow8 g8
  have G8 := Gw.nest o G7 g8 hN7
  have o8 := G8.ok o
  have ed2 : d2 ∉ self :: d1 :: es.map (·.2.1) := fun z => by
    rcases List.mem_cons.mp z with z | z
    · exact e22 z.symm
    · rcases List.mem_cons.mp z with z | z
      · exact e21 z.symm
      · obtain ⟨e, he, h⟩ := List.mem_map.mp z
        have := (ow7 _ (List.mem_map.mpr ⟨e, he, rfl⟩)).2
        rw [h, hb7] at this
        cases this
  have ed3 : d3 ∉ self :: d1 :: es.map (·.2.1) := fun z => by
    rcases List.mem_cons.mp z with z | z
    · exact e32 z.symm
    · rcases List.mem_cons.mp z with z | z
      · exact e31 z.symm
      · obtain ⟨e, he, h⟩ := List.mem_map.mp z
        have := (ow7 _ (List.mem_map.mpr ⟨e, he, rfl⟩)).2
        rw [h, hc7] at this
        cases this
  have hb8 := g8.g.hh d2 _ ed2 hb7
  have hc8 := g8.g.hh d3 _ ed3 hc7
  have k28 : F8 d2 = none := g8.g.nw d2 k2' (by rw [hb7]; exact nofun)
  have k38 : F8 d3 = none := g8.g.nw d3 k3' (by rw [hc7]; exact nofun)
  have nf8 : F8 self = none := g8.g.nw self nf6 (by rw [hs7]; exact nofun)
  -- take_versions
  have hM8 : ∀ m ∈ [self, d2, d3], F8 m = none ∧ H8 m ≠ none := fun m hm => by
    simp only [List.mem_cons, List.not_mem_nil, or_false] at hm
    rcases hm with rfl | rfl | rfl
    · exact ⟨nf8, by rw [hs8]; exact nofun⟩
    · exact ⟨k28, by rw [hb8]; exact nofun⟩
    · exact ⟨k38, by rw [hc8]; exact nofun⟩
  refine q_dropO (methO ⟨_, rfl, self, dx, _, rfl, hs8, rfl, _, rfl, ⟨⟨⟨C', dx, self, .ref l, dn, d2, d3, .ref x, srt ts, rs, ar, wf.vn, wf.vm, wf.vl, fun v hv => let ⟨a, b, c, d, e⟩ := wf.ve v hv; ⟨a, b, c, fun y hy => mem_srt.mpr (d y hy), mem_srt.mpr e⟩, hva, e23⟩, rfl⟩, F8, Ok.wl o8.s hM8, .cons rfl (.cons (Li.mo (mos_map vTu.mo _) _ _ _ (ff7.trans g8.g.ff) hv3) .nil), ⟨hs8, Txts.mo _ _ _ _ g8.g.ff hT7, hb8, hc8⟩, fun v F9 H9 g9 hp9 => ?_⟩⟩)
  obtain ⟨rfl, en, rs9, os9, hs9, pv9, ov9, hD9, ao9, hc9⟩ := hp9
  dsimp only at hs9 pv9 ov9 hD9 ao9 hc9 g9
  have G9 := Gw.nest o G8 g9 fun m hm => by
    simp only [List.mem_cons, List.not_mem_nil, or_false] at hm
    rcases hm with rfl | rfl | rfl
    · exact .inl mself
    · exact .inr n2
    · exact .inr n3
  have o9 := G9.ok o
  have nf9 : F9 self = none := g9.g.nw self nf8 (by rw [hs8]; exact nofun)
  have k39 : F9 d3 = none := g9.g.nw d3 k38 (by rw [hc8]; exact nofun)
  have ff79 := g8.g.ff.trans g9.g.ff
  have adr8 : ∀ e ∈ es8, e.2.1 ∈ es.map (·.2.1) := fun e he => by rw [← na8]; exact List.mem_map.mpr ⟨e, he, rfl⟩
  have nM : ∀ e ∈ es8, e.2.1 ∉ [self, d2, d3] := fun e he z => by
    have h1 := ow8 _ (List.mem_map.mpr ⟨e, he, rfl⟩)
    simp only [List.mem_cons, List.not_mem_nil, or_false] at z
    rcases z with z | z | z
    · rw [z, hs8] at h1; cases h1.2
    · rw [z, hb8] at h1; cases h1.2
    · rw [z, hc8] at h1; cases h1.2
  have ow9 : Own (es8.map (·.2)) F9 H9 := fun p hp => by
    obtain ⟨e, he, rfl⟩ := List.mem_map.mp hp
    have h1 := ow8 _ hp
    exact ⟨g9.g.nw _ h1.1 (by rw [h1.2]; exact nofun), g9.g.hh _ _ (nM e he) h1.2⟩
  -- own_text
  have hnm : ∀ s ∈ ts, s.length ≤ 100 := fun s hs => Nat.le_trans (isNmS_len (wf.tm s hs)) (by decide)
  refine si9 c nX (ts := srt ts) (cs := cs8) (vs := rs9) o9.zero hs9 (Txts.mo _ _ _ _ (ff79) hT7) (castD.mo _ _ _ _ g9.g.ff hD8) hD9 (by rw [srt_length]; exact wf.tl) (by rw [pc8.length_eq]; exact wf.cl) (by rw [pv9.length_eq]; exact wf.vl) (fun v hv => (wf.ve v (pv9.mem_iff.mp hv)).2.2.1) (fun s hs => hnm s (mem_srt.mp hs))
    (fun c hc => have h := pc8.mem_iff.mp hc; ⟨Nat.le_trans (isNmS_len (wf.cm c h)) (by decide), hnm _ (wf.ce c h).1, hnm _ (wf.ce c h).2⟩)
    (fun v hv => have h := pv9.mem_iff.mp hv; have e := wf.ve v h; ⟨Nat.le_trans (isNmS_len (wf.vm v h)) (by decide), Nat.le_trans (isNmS_len e.1) (by decide), fun s hs => hnm s (e.2.2.2.1 s hs), hnm _ e.2.2.2.2⟩) fun H10 g10 => ?_
  have hs10 := g10.same _ _ hs9
  have hc10 := g10.same _ _ hc9
  have ow10 := ow9.on g10
  have G10 := (G9.trans o (g10.of0 o9)).mutL (m := self) (u := .ins C' dx (fsS (.ref l) dn en (.ref d3) (.ref x) ++ ([("own_text", V.str (txOf (scWs (srt ts) cs8 rs9)))] : List (Str × V)))) (.inl mself) nf9
  generalize hH11 : upd H10 self (.ins C' dx (fsS (.ref l) dn en (.ref d3) (.ref x) ++ ([("own_text", V.str (txOf (scWs (srt ts) cs8 rs9)))] : List (Str × V)))) = H11 at G10 ⊢
  have hs11 : H11 self = some (.ins C' dx (fsS (.ref l) dn en (.ref d3) (.ref x) ++ ([("own_text", V.str (txOf (scWs (srt ts) cs8 rs9)))] : List (Str × V)))) := by rw [← hH11]; exact upd_same
  have hc11 : H11 d3 = some (.dK (arK ar os9)) := by rw [← hH11, upd_ne (Ne.symm e32)]; exact hc10
  have ow11 : Own (es8.map (·.2)) F9 H11 := fun p hp => by
    obtain ⟨e, he, rfl⟩ := List.mem_map.mp hp
    have h1 := ow10 _ hp
    have ne : e.2.1 ≠ self := fun z => nM e he (by rw [z]; exact List.mem_cons_self)
    rw [← hH11, upd_ne ne]
    exact h1
  have G11 := G10.keepA (A := d3 :: es8.map (·.2.1)) fun a ha => by
    rcases List.mem_cons.mp ha with rfl | ha
    · exact ⟨n3, k39⟩
    · obtain ⟨e, he, rfl⟩ := List.mem_map.mp ha
      obtain ⟨e', he', h'⟩ := List.mem_map.mp (adr8 e he)
      refine ⟨?_, (ow11 _ (List.mem_map.mpr ⟨e, he, rfl⟩)).1⟩
      rw [← h']
      exact esn e' he'
  have o10 := G10.ok o
  have sK : Same F9 (kn (d3 :: es8.map (·.2.1)) F9 H11) := kn_same o10.s
  refine q .non _ _ G11 ⟨rfl, ⟨srt ts, cs8, rs9, os9, ar, upsE es8, txOf (scWs (srt ts) cs8 rs9)⟩, _, ⟨rfl, pc8, oc8, pv9, ov9, ?_, ?_, ao9, hva, rfl⟩, hs11, fsT_none, ?_⟩
  · rw [List.map_map]
    exact uk8.k
  · intro e he
    obtain ⟨e', he', rfl⟩ := List.mem_map.mp he
    exact ⟨uk8.nd e' he', uk8.r e' he'⟩
  · intro p hp
    simp only [schL, List.mem_cons, List.not_mem_nil, or_false] at hp
    rcases hp with rfl | rfl | rfl | rfl | rfl | rfl
    · exact ⟨.ref l, rfl, Txts.mo _ _ _ _ (ff79.trans sK) hT7⟩
    · exact ⟨dn, rfl, castD.mo _ _ _ _ (g9.g.ff.trans sK) hD8⟩
    · exact ⟨en, rfl, verD.mo _ _ _ _ sK hD9⟩
    · exact ⟨.ref d3, rfl, d3, rfl, by rw [kn_in List.mem_cons_self]; exact hc11⟩
    · refine ⟨.ref x, rfl, ordE (d := d) (dxo := dxo) (sK _ _ (ff79 _ _ fx7)) ?_ fun e he => ?_⟩
      · rw [sK _ _ (ff79 _ _ fd7), kvE_eq (fs := es8) (by rw [uk8.k]; exact N.k) na8.symm]
      · rw [kn_in (List.mem_cons_of_mem _ (List.mem_map.mpr ⟨e, he, rfl⟩))]
        exact (ow11 _ (List.mem_map.mpr ⟨e, he, rfl⟩)).2
    · exact ⟨_, rfl, rfl⟩
/-- a scheme is made -/
theorem ev_mkS {w : Wd} {σ : L2.St} {F H : Hp} {t1 t2 t3 : TE} {E : L2.St → XK} {ts : List Str} {cs : List Cst} {vs : List Ver} (wf : WfS ts cs vs) (o : Ok w F H) (h1 : EvW w (Txts ts) t1 σ F H) (h2 : EvW w (Li (cs.map cTu)) t2 σ F H) (h3 : EvW w (Li (vs.map vTu)) t3 σ F H) :
    EvW w (SchOf C CT ts cs vs) (QC.tMakeE C (spSch C CT) [] E (tCons t1 (tCons t2 (tCons t3 tNil)))) σ F H := fun F1 H1 g Q q =>
  makeO (ea_cons o (Txts.mo ts) h1 (ea_cons o (Li.mo (mos_map cTu.mo cs)) h2 (ea_cons o (Li.mo (mos_map vTu.mo vs)) h3 (ea_nil o))) F1 H1 g _ fun us F2 H2 g2 al x dx hx hdx hne => by
    have o1 := g.ok o
    have o2 := g2.ok o1
    have hx' : (upd H2 dx (.own x)) x = none := by rw [upd_ne (Ne.symm hne)]; exact hx
    have gt := (g2.temp hdx).temp (p := x) (u := .ins C dx []) hx'
    have ot := gt.ok o1
    have fx : F2 x = none := same_none o2.s hx
    refine ⟨⟨⟨C, CT, dx, x, ts, cs, vs, wf⟩, rfl, rfl⟩, F2, Ok.wl ot.s (fun m hm => by rw [List.mem_singleton.mp hm]; exact ⟨fx, by rw [upd_same]; exact nofun⟩), .cons rfl (by rw [List.append_nil]; exact al), upd_same, fun v F3 H3 g3 hp => ?_⟩
    obtain ⟨rfl, s, fs, ok, hs, hn, hf⟩ := hp
    dsimp only at ok hs hf g3
    have nx : H1 x = none := by
      cases z : H1 x with
      | none => rfl
      | some u => exact (g2.live o1 (by rw [z]; exact nofun) hx).elim
    have G3 := Gw.nestW o1 gt g3 fun m hm => by rw [List.mem_singleton.mp hm]; exact nx
    have fx3 : F3 x = none := g3.g.nw x fx (by rw [upd_same]; exact nofun)
    have G4 := G3.keepL nx fx3 hs
    refine ⟨rfl, q (.ref x) _ _ G4 ⟨s, ok, x, dx, fs, rfl, upd_same, hn, fun p hp => ?_⟩⟩
    obtain ⟨u, e1, e2⟩ := hf p hp
    exact ⟨u, e1, schL.mo CT s p hp _ _ _ (same_upd fx3) e2⟩)
end
end QW

set_option Elab.async false
set_option linter.all false
set_option maxRecDepth 100000
set_option maxHeartbeats 1000000
/-! QErr: exceptions with one value: raised, let out by methods, caught and read. -/
namespace QE
open PySem PySem.Spec PyProof.Rows L2
section
variable {X : Cx} {e : Expr} {es : List Expr} {ta : TA} {p pos : Pos}
theorem pmk_E {x : Str} {C : Addr} {names : List Str} {j : Nat} (m : MkE X.prog X.w X.K X.mg X.base x C names) (hr : Room j X.A) (hj : 2 ≤ j) (hg : Gl X x) (ha : PA X (e :: es) ta)
    (hdb : (x == ("__debug__" : Str)) = false := by decide) (he : starEach (e :: es) X.env = (false, eval e X.env) :: starEach es X.env := by rfl) (hpl : (backTo pos (starEach es X.env)).any (·.1) = false := by rfl) :
    PMk X (.Call (.Name x p) (e :: es) [] pos) (tMkO C (QW.spI C names) [] ta) := by
  obtain ⟨fI, fd, ps, hx, i1, i2, F, b, g⟩ := m.ex
  exact pmk_oexB hx i1 i2 F (hr.mono hj) b .nil L2.pass0 hg g ha hdb he hpl
/-- isinstance(e, c), e the exception with a dict that the suite holds -/
def rIsS (K : PySem.W.Frag) (a : Addr) (cls : Value) (d : Option Addr) : List V → Hp → VK → Prop := fun xs H Q => ∃ (D dd : Addr) (fs : List (Str × V)) (c : V) (cv : Value) (b : Bool), xs = [.ref a, c] ∧ cls = .ref D ∧ d = some dd ∧ ExX K D ∧ H dd = some (.xd fs) ∧ (∀ u, RelV c u → u = cv) ∧ PySem.W.kitOne K (.ref D) cv = some b ∧ Q (.bl b) H
theorem call_isS {X : Cx} {K : PySem.W.Frag} {a : Addr} {oe : PySem.Obj} {pn : List (Addr × PySem.Obj)} {cls : Value} {d : Option Addr} (hK : X.K = K) (M : ExM K) (hz : Zc cls d oe) (hf : ∃ vs, oe.data = .fields vs) : CallR (X.suite a ((a, oe) :: pn)) (.builtin "isinstance") (rIsS K a cls d) := by
  subst hK
  intro pins s σ H xs us Q I r h
  obtain ⟨D, dd, fs, c, cv, b, rfl, rfl, rfl, ⟨B, newId, initId, tl, T⟩, ea, hcv, e, q⟩ := h
  cases r with
  | cons rx rr =>
    cases rr with
    | cons rt rr =>
      cases rr
      cases rx
      have ec := hcv _ rt
      subst ec
      obtain ⟨hget, _⟩ := I.pin (a, oe) (List.mem_append.mpr (.inl List.mem_cons_self))
      obtain ⟨vs, hv⟩ := hf
      have hx : ObjOk X.prog X.w H s.heap dd (.xd fs) := I.hok dd _ ea
      obtain ⟨mA, hns, hr⟩ := hx
      obtain ⟨od, ho, hl⟩ := lookIn_ns hns
      have J : PySem.W.InstAt s.heap a oe D (some od) := ⟨hget, hz.1, by unfold PySem.W.notCls; rw [hv] <;> rfl, by rw [hz.2]; exact ho⟩
      exact PySem.W.kia_one (kit_of M T) I.kIn J e (fun z => nomatch z) fun tk => ⟨.bl b, H, I.kept (t' := tk) fun _ _ z => z, rfl, q⟩
theorem ExX.xf {K : PySem.W.Frag} {C : Addr} (T : ExX K C) : XfC K C := by
  obtain ⟨B, newId, initId, tl, T⟩ := T
  obtain ⟨cd, bm, h1, h2, h3, h4⟩ := T.cd
  refine ⟨T.ga, T.gg, T.exC, ?_⟩
  unfold PySem.W.hasDictIn
  rw [h1] <;> first | exact h4 | simp [h4]
end
end QE
namespace QW
open PySem PySem.Spec PyProof.Rows L2 QR
section
variable {K : PySem.W.Frag} {w : Wd} {σ : L2.St} {F H : Hp} {ta : TA} {C : Addr} {names : List Str} {Rs : List Pr} {Q : XK}
/-- an exception is made and let go -/
theorem ev_raise (o : Ok w F H) (m : ∀ R ∈ Rs, Mo R) (h : EvA w Rs ta σ F H) (hl : Rs.length = names.length) (hz : Rs.length ≤ 1000) (k : ∀ d vs F1 H1, Gw w F H F1 H1 → F1 d = some (.xd (names.zip vs).reverse) → Al Rs vs F1 → Q (.ref C) (some d) H1) : tMkO C (spI C names) [] ta σ H Q :=
  h F H o.refl _ fun vs F1 H1 g al => by
    have o1 := g.ok o
    have hvl := al.length
    refine ⟨by omega, fun a na => ⟨a, vs, by rw [List.append_nil], by omega, upd_same, fun d H' nd da hd ha hh => ⟨rfl, d, _, ha, hd, ?_, ?_⟩⟩⟩
    · rw [upd_ne da] at nd; exact nd
    · have nd' : H1 d = none := by rw [upd_ne da] at nd; exact nd
      have fd : F1 d = none := same_none o1.s nd'
      have keep : ∀ b u, H1 b = some u → upd (del H' a) d (.xd (names.zip vs).reverse) b = some u := fun b u e => by
        rw [upd_ne (ne_of_none e nd'), del_ne (ne_of_none e na)]
        exact hh b u (ne_of_none e na) (by rw [upd_ne (ne_of_none e na)]; exact e)
      have g2 : Gw w F1 H1 F1 (upd (del H' a) d (.xd (names.zip vs).reverse)) := ⟨⟨Same.refl _, fun b u e => keep b u (o1.s b u e), fun b u _ e => keep b u e, fun b e _ => e⟩, w.same o1.j keep⟩
      have g3 := g2.keepL nd' fd upd_same
      exact k d vs _ _ (g.trans o g3) upd_same (al.mono (same_upd fd) m)
/-- what a def does that may let an exception out -/
def spX {α : Type} (A : α → List Pr) (R : α → Pr) (X : α → Value → Option Addr → Hp → Prop) : Sp := fun vs H Q E => ∃ (a : α) (F : Hp), Ok W0 F H ∧ Al (A a) vs F ∧ (∀ v F' H', Gw W0 F H F' H' → R a v F' → Q v H') ∧ ∀ cls d F' H', Gw W0 F H F' H' → X a cls d F' → E cls d H'
theorem spX.len {α : Type} {A : α → List Pr} {R : α → Pr} {X : α → Value → Option Addr → Hp → Prop} {n : Nat} (h : ∀ a, (A a).length = n) : ∀ vs H Q E, spX A R X vs H Q E → vs.length = n := fun vs H Q E ⟨a, F, _, al, _⟩ => al.length.trans (h a)
/-- o.m(..), which may let an exception out -/
theorem methX {α : Type} {A : α → List Pr} {R : α → Pr} {X : α → Value → Option Addr → Hp → Prop} {R0 : Pr} {E : L2.St → XK} {m : Str} {to : TE} {Qv : VK} (a : α) (hA : A a = R0 :: Rs) (m0 : Mo R0) (hI : ∀ v F, R0 v F → ∃ b dx fs, v = .ref b ∧ F b = some (.ins C dx fs) ∧ fs.lookup m = none) (o : Ok w F H) (ho : EvW w R0 to σ F H) (h : EvA w Rs ta σ F H)
    (k : ∀ v F1 H1, Gw w F H F1 H1 → R a v F1 → Qv v H1) (kx : ∀ cls d F1 H1, Gw w F H F1 H1 → X a cls d F1 → E σ cls d H1) : QC.tMethE C m (spX A R X) [] E to ta σ H Qv :=
  ho F H o.refl _ fun x F2 H2 g2 rx => by
    have o2 := g2.ok o
    obtain ⟨b, dx, fs, rfl, e1, e2⟩ := hI _ _ rx
    refine ⟨b, dx, fs, rfl, o2.s _ _ e1, e2, h F2 H2 g2 _ fun vs F3 H3 g3 al => ?_⟩
    have o3 := g3.ok o2
    have g23 := g2.trans o g3
    refine ⟨a, F3, o3.zero, ?_, fun v F4 H4 c r => k v F4 H4 (g23.trans o (c.of0 o3)) r, fun cls d F4 H4 c r => kx cls d F4 H4 (g23.trans o (c.of0 o3)) r⟩
    rw [hA, List.append_nil]
    exact .cons (m0 _ _ _ g3.g.ff rx) al
/-- an exception of the class CU with one field -/
def Xv (K : PySem.W.Frag) (CU : Addr) (f : Str) (dat : PyData) : Value → Option Addr → Hp → Prop := fun cls d F => cls = .ref CU ∧ ∃ dd v, d = some dd ∧ F dd = some (.xd [(f, v)]) ∧ Da K dat v F
end
/-! ### require_type -/
def spReq (K : PySem.W.Frag) (C CU : Addr) : Sp := spX (fun a : HtA => [Obj C schF [("own_types", Txts a.ts)], Da K a.d]) (fun a v _ => v = .non ∧ isOne a.ts a.d = true) fun a cls d F => isOne a.ts a.d = false ∧ Xv K CU "value" a.d cls d F
theorem spReq.len {K : PySem.W.Frag} {C CU : Addr} : ∀ vs H Q E, spReq K C CU vs H Q E → vs.length = 2 := spX.len fun _ => rfl
def t_req (K : PySem.W.Frag) (C CU : Addr) (E : XK) : TS := tIfS (tNot (tB (QC.tMethE C "has_type" (spHas K C) [] (fun _ => E0) (tVar 0) (tCons (tVar 1) tNil)))) (fun _ σ H => tMkO CU (spI CU ["value"]) [] (tCons (tVar 1) tNil) σ H fun cls d H' => E cls d H') tNext
theorem s_ifO {c : TT} {t u : TS} {D : Ends} {σ : L2.St} {H : Hp} (h : c σ H fun b H1 => if b = true then t D σ H1 else u D σ H1) : tIfS c t u D σ H := h
theorem pure_req {K : PySem.W.Frag} {C CU : Addr} {vs : List V} {H : Hp} {Q : VK} {E : XK} (h : spReq K C CU vs H Q E) : t_req K C CU E { nx := fun _ H' => Q .non H', rt := Q } (L2.start ["self", "value"] vs) H := by
  obtain ⟨⟨ts, d⟩, F, o, al, q, qx⟩ := h
  obtain ⟨v, u, rfl, hv, hu⟩ := two_args al
  have mO := mo1 (f := "own_types") (Txts.mo ts)
  have hh := ev_has (K := K) (E := fun _ => E0) (te := tVar 1) (σ := [some v, some u]) mO List.mem_cons_self o (ev_var (i := 0) o (Obj.mo mO) rfl hv) (ev_var o (Da.mo K d) rfl hu)
  refine s_ifO (et_not (et_B hh) F H o.refl _ fun F1 H1 g => ?_)
  have o1 := g.ok o
  cases hb : isOne ts d with
  | true => exact q .non F1 H1 g ⟨rfl, hb⟩
  | false =>
    show tMkO CU (spI CU ["value"]) [] (tCons (tVar 1) tNil) [some v, some u] H1 _
    refine ev_raise (Rs := [Da K d]) o1 (mos_cons (Da.mo K d) mos_nil) (ea_cons o1 (Da.mo K d) (ev_var o1 (Da.mo K d) rfl (Da.mo K d _ _ _ g.g.ff hu)) (ea_nil o1)) rfl (show 1 ≤ 1000 by decide) fun dd us F2 H2 g2 hd al2 => ?_
    obtain ⟨x, rfl, hx⟩ := one_arg al2
    exact qx _ _ F2 H2 (g.trans o g2) ⟨hb, rfl, dd, x, rfl, hd, hx⟩
/-! ### the order asked -/
def upOf (u : Ups) (k : Str) : List Str := ((u.find? fun e => decide (e.1 = k)).map (·.2)).getD []
theorem upOf_at : ∀ {u : Ups} {i : Nat} {k : Str} {ts : List Str}, (u.map (·.1)).Nodup → u[i]? = some (k, ts) → upOf u k = ts
  | [], i, _, _, _, h => by simp at h
  | a :: u, 0, k, ts, _, h => by
    simp only [List.getElem?_cons_zero] at h
    cases h
    unfold upOf
    rw [List.find?_cons_of_pos (by simp)]
    rfl
  | a :: u, i + 1, k, ts, hn, h => by
    rw [List.getElem?_cons_succ] at h
    rw [List.map_cons, List.nodup_cons] at hn
    have ne : ¬ a.1 = k := fun z => hn.1 (by rw [z]; exact List.mem_map.mpr ⟨(k, ts), List.mem_of_getElem? h, rfl⟩)
    have ih := upOf_at hn.2 h
    unfold upOf at ih ⊢
    rw [List.find?_cons_of_neg (by simpa using ne)]
    exact ih
theorem upOf_ex {u : Ups} {k : Str} (nd : (u.map (·.1)).Nodup) (h : k ∈ u.map (·.1)) : ∃ i : Nat, u[i]? = some (k, upOf u k) := by
  obtain ⟨e, he, rfl⟩ := List.mem_map.mp h
  obtain ⟨i, hi⟩ := List.getElem?_of_mem he
  exact ⟨i, by rw [upOf_at nd (ts := e.2) hi]; exact hi⟩
section
variable {K : PySem.W.Frag} {w : Wd} {σ : L2.St} {F H : Hp} {to t1 t2 : TE} {CT : Addr} {E : L2.St → XK}
theorem ev_below {u : Ups} {s1 s2 : Str} (nd : (u.map (·.1)).Nodup) (h1 : s1 ∈ u.map (·.1)) (o : Ok w F H) (ho : EvW w (Ord CT u) to σ F H) (e1 : EvW w (Is (.str s1)) t1 σ F H) (e2 : EvW w (Is (.str s2)) t2 σ F H) :
    EvW w (Is (.bl (decide (s2 ∈ upOf u s1)))) (QC.tMethE CT "is_at_or_below" (spBelow CT) [] E to (tCons t1 (tCons t2 tNil))) σ F H := by
  obtain ⟨i, hi⟩ := upOf_ex nd h1
  exact ev_meth (A := fun a : BeA => [Ord CT a.u, Is (.str a.one), Is (.str a.other)]) (Rf := fun a => Is (.bl (decide (a.other ∈ a.ts)))) ⟨u, nd, i, s1, upOf u s1, hi, s2⟩ rfl (Ord.mo CT u) (Ord.ins (by decide)) o ho (ea_cons o (Is.mo _) e1 (ea_cons o (Is.mo _) e2 (ea_nil o)))
theorem da_str {s : Str} {v : V} (h : Da K (.str s) v F) : v = .str s := by cases h; rfl
theorem isOne_str {ts : List Str} {d : PyData} (h : isOne ts d = true) : ∃ s, d = .str s ∧ s ∈ ts := by
  cases d <;> first | exact ⟨_, rfl, of_decide_eq_true h⟩ | cases h
end
structure BoA where
  ts : List Str
  u : Ups
  uk : u.map (·.1) = ts
  nd : ts.Nodup
  tl : ts.length ≤ 100000
  d1 : PyData
  d2 : PyData
abbrev ordL (CT : Addr) (ts : List Str) (u : Ups) : List (Str × Pr) := [("own_types", Txts ts), ("own_order", Ord CT u)]
theorem ordL.mo (CT : Addr) (ts : List Str) (u : Ups) : ∀ p ∈ ordL CT ts u, Mo p.2 := mo2 (Txts.mo _) (Ord.mo _ _)
/-- the first that is no type -/
def badOf (ts : List Str) (ds : List PyData) : Option PyData := ds.find? fun d => !isOne ts d
def spBo (K : PySem.W.Frag) (C CT CU : Addr) : Sp := spX (fun a : BoA => [Obj C schF (ordL CT a.ts a.u), Da K a.d1, Da K a.d2]) (fun a v _ => ∃ s1 s2, a.d1 = .str s1 ∧ a.d2 = .str s2 ∧ s1 ∈ a.ts ∧ s2 ∈ a.ts ∧ v = .bl (decide (s2 ∈ upOf a.u s1)))
  fun a cls d F => ∃ b, badOf a.ts [a.d1, a.d2] = some b ∧ Xv K CU "value" b cls d F
theorem spBo.len {K : PySem.W.Frag} {C CT CU : Addr} : ∀ vs H Q E, spBo K C CT CU vs H Q E → vs.length = 3 := spX.len fun _ => rfl
section
variable {K : PySem.W.Frag} {σ : L2.St} {F H : Hp} {C CT CU : Addr} {ts : List Str} {u : Ups} {d : PyData} {v x : V} {i : Nat} {D : Ends} {tu : TS} {E : L2.St → XK}
/-- self.require_type(x) -/
theorem q_req (o : Ok W0 F H) (h0 : σ[0]? = some (some v)) (hv : Obj C schF (ordL CT ts u) v F) (hi : σ[i]? = some (some x)) (hx : Da K d x F)
    (k : ∀ F1 H1, Gw W0 F H F1 H1 → isOne ts d = true → tu D σ H1) (kx : ∀ cls dd F1 H1, Gw W0 F H F1 H1 → isOne ts d = false → Xv K CU "value" d cls dd F1 → E σ cls dd H1) :
    tSeq (tDrop (QC.tMethE C "require_type" (spReq K C CU) [] E (tVar 0) (tCons (tVar i) tNil))) tu D σ H :=
  q_dropO (methX (A := fun a : HtA => [Obj C schF [("own_types", Txts a.ts)], Da K a.d]) (R := fun a v _ => v = .non ∧ isOne a.ts a.d = true) (X := fun a cls d F => isOne a.ts a.d = false ∧ Xv K CU "value" a.d cls d F) ⟨ts, d⟩ rfl (Obj.mo (mo1 (Txts.mo ts))) (Obj.ins (by decide)) o
    ((ev_var o (Obj.mo (ordL.mo CT ts u)) h0 hv).imp fun v F' _ r => r.less fun p hp => by rw [List.mem_singleton.mp hp]; exact List.mem_cons_self) (ea_cons o (Da.mo K d) (ev_var o (Da.mo K d) hi hx) (ea_nil o))
    (fun v F1 H1 g r => k F1 H1 g r.2) fun cls dd F1 H1 g r => kx cls dd F1 H1 g r.1 r.2)
end
def t_bo (K : PySem.W.Frag) (C CT CU : Addr) (E : XK) : TS := tSeq (tDrop (QC.tMethE C "require_type" (spReq K C CU) [] (fun _ => E) (tVar 0) (tCons (tVar 1) tNil))) (tSeq (tDrop (QC.tMethE C "require_type" (spReq K C CU) [] (fun _ => E) (tVar 0) (tCons (tVar 2) tNil)))
  (tRet (QC.tMethE CT "is_at_or_below" (spBelow CT) [] (fun _ => E0) (tFld K (tVar 0) "own_order") (tCons (tVar 1) (tCons (tVar 2) tNil)))))
theorem pure_bo {K : PySem.W.Frag} {C CT CU : Addr} (c : Cls K C) (n : NoAttr K C "own_order") {vs : List V} {H : Hp} {Q : VK} {E : XK} (h : spBo K C CT CU vs H Q E) : t_bo K C CT CU E { nx := fun _ H' => Q .non H', rt := Q } (L2.start ["self", "one", "other"] vs) H := by
  obtain ⟨⟨ts, u, uk, nd, tl, d1, d2⟩, F, o, al, q, qx⟩ := h
  obtain ⟨v, x, y, rfl, hv, hx, hy⟩ := three_args al
  dsimp only at q qx hv hx hy
  have nd : ts.Nodup := nd
  have uk : u.map (·.1) = ts := uk
  have mO := Obj.mo (C := C) (ns := schF) (ordL.mo CT ts u)
  refine q_req o rfl hv rfl hx (fun F1 H1 g h1 => ?_) fun cls dd F1 H1 g h1 r => qx cls dd F1 H1 g ⟨d1, by unfold badOf; rw [List.find?_cons_of_pos (by simp [h1])], r⟩
  have o1 := g.ok o
  refine q_req o1 rfl (mO _ _ _ g.g.ff hv) rfl (Da.mo K d2 _ _ _ g.g.ff hy) (fun F2 H2 g2 h2 => ?_) fun cls dd F2 H2 g2 h2 r => qx cls dd F2 H2 (g.trans o g2) ⟨d2, by unfold badOf; rw [List.find?_cons_of_neg (by simp [h1]), List.find?_cons_of_pos (by simp [h2])], r⟩
  have o2 := g2.ok o1
  have ff := g.g.ff.trans g2.g.ff
  obtain ⟨s1, rfl, m1⟩ := isOne_str h1
  obtain ⟨s2, rfl, m2⟩ := isOne_str h2
  obtain rfl := da_str hx
  obtain rfl := da_str hy
  refine q_ret o2 (ev_below (u := u) (s1 := s1) (s2 := s2) (by rw [uk]; exact nd) (by rw [uk]; exact m1) o2 (ev_fldO (L := ordL CT ts u) (σ := [some v, some (.str s1), some (.str s2)]) o2 c n (ev_var (i := 0) o2 mO rfl (mO _ _ _ ff hv)) (List.mem_cons_of_mem _ List.mem_cons_self)) (ev_var o2 (Is.mo _) rfl rfl) (ev_var o2 (Is.mo _) rfl rfl)) fun v F3 H3 g3 r => ?_
  exact q v F3 H3 ((g.trans o g2).trans o g3) ⟨s1, s2, rfl, rfl, m1, m2, r⟩
/-! ### comprehensions whose list is one's own -/
section
variable {w : Wd} {F0 H0 F H : Hp} {m : Addr}
theorem Gw.old (o : Ok w F0 H0) (g : Gw w F0 H0 F H) (n : H m = none) : H0 m = none := by
  cases q : H0 m with
  | none => rfl
  | some x => exact (g.live o (by rw [q]; exact nofun) n).elim
end
section
variable {K : PySem.W.Frag} {w : Wd} {σ : L2.St} {F H : Hp} {te tl : TE} {α : Type} {wi : TI} {g : TG} {tt : TT} {vs : List Nat} {n : Nat} {Y : Nat → Pr}
theorem eo_compG {Cs : List α} {gg : α → Pr} {p : α → Bool} (S : α → L2.St → Hp → Prop) (o : Ok w F H) (hi : EvI w n Y wi σ F H) (hn : n = Cs.length) (mT : ∀ C, Mo (gg C)) (hz : Cs.length ≤ 100000)
    (hg : ∀ i C x G H', Cs[i]? = some C → Y i x G → Gw w F H G H' → ∃ σ', wipe σ' vs = wipe σ vs ∧ (∀ Kk : L2.St → Hp → Prop, Kk σ' H' → g x (wipe σ vs) H' Kk) ∧ S C σ' G)
    (ht : ∀ C σ' G H', C ∈ Cs → S C σ' G → Gw w F H G H' → EvT w (p C) tt σ' G H')
    (hS : ∀ C σ' G G', Same G G' → S C σ' G → S C σ' G')
    (he : ∀ C σ' G H', C ∈ Cs → p C = true → S C σ' G → Gw w F H G H' → EvW w (gg C) te σ' G H') : EvO w ((Cs.filter p).map gg) (tLc wi g tt te vs) σ F H := fun F1 H1 a Q q => by
  subst hn
  refine hi F1 H1 a _ fun J F2 H2 b hJ D hD => ?_
  have oa := a.ok o
  have o2 := b.ok oa
  have a2 := a.trans o b
  refine lc_anyO (te := te) (tt := tt) (g := g) (vs := vs) (σ := σ) (Q := Q) o2 hJ (fun i ys F => Al (((Cs.take i).filter p).map gg) ys F) (fun i ys F F' e h => h.mono e (mos_map mT _)) .nil hz (fun i x ys G H' hi' hx g1 iv Qy Qn hy hnn => ?_) (fun D ys G H' hD' g gD hD2 iv => ?_) D hD
  · have g2 := a2.trans o g1
    obtain ⟨σ', hw, hk, hs⟩ := hg i Cs[i] x G H' (List.getElem?_eq_getElem hi') hx g2
    have hc := List.getElem_mem hi'
    have htk : Cs.take (i + 1) = Cs.take i ++ [Cs[i]] := List.take_succ_eq_append_getElem hi'
    have o1 := g2.ok o
    refine hk _ ⟨hw, ht _ _ G H' hc hs g2 G H' o1.refl _ fun G2 H2 g3 => ?_⟩
    cases hb : p Cs[i] with
    | true =>
      rw [if_pos rfl]
      refine he _ _ G H' hc hb hs g2 G2 H2 g3 Qy fun v G3 H3 g4 r => hy v G3 H3 (g3.trans o1 g4) ?_
      rw [htk, List.filter_append, List.map_append]
      have : [Cs[i]].filter p = [Cs[i]] := by simp [hb]
      rw [this]
      exact (iv.mono (g3.trans o1 g4).g.ff (mos_map mT _)).append (.cons r .nil)
    | false =>
      rw [if_neg (by decide)]
      refine hnn G2 H2 g3 ?_
      rw [htk, List.filter_append, List.map_append]
      have : [Cs[i]].filter p = [] := by simp [hb]
      rw [this, List.map_nil, List.append_nil]
      exact iv.mono g3.g.ff (mos_map mT _)
  · rw [List.take_of_length_le (Nat.le_refl _)] at iv
    refine q D ys G H' (b.trans oa g) ?_ gD hD2 iv
    cases z : H1 D with
    | none => rfl
    | some u => exact (b.live oa (by rw [z]; exact nofun) hD').elim
theorem eo_compN {Cs : List α} {f gg : α → Pr} {p : α → Bool} {j : Nat} (o : Ok w F H) (hl : EvW w (Li (Cs.map f)) tl σ F H) (hw : ∀ x, wipe ((wipe σ vs).set j (some x)) vs = wipe σ vs) (mf : ∀ C, Mo (f C)) (mT : ∀ C, Mo (gg C)) (hz : Cs.length ≤ 100000)
    (ht : ∀ C x G H', C ∈ Cs → f C x G → Gw w F H G H' → EvT w (p C) tt ((wipe σ vs).set j (some x)) G H')
    (he : ∀ C x G H', C ∈ Cs → p C = true → f C x G → Gw w F H G H' → EvW w (gg C) te ((wipe σ vs).set j (some x)) G H') : EvO w ((Cs.filter p).map gg) (tLc (iList K tl) (gName j) tt te vs) σ F H :=
  eo_compG (S := fun C σ' G => ∃ x, σ' = (wipe σ vs).set j (some x) ∧ f C x G) o (ei_list o (mos_map mf _) hl) (List.length_map ..) mT hz (fun i C x G H' hC hY g => by
    obtain ⟨R, hR, r⟩ := hY
    rw [List.getElem?_map, hC] at hR
    cases hR
    exact ⟨_, hw x, fun Kk h => h, x, rfl, r⟩) (fun C σ' G H' hC hS g => by
    obtain ⟨x, rfl, r⟩ := hS
    exact ht C x G H' hC r g) (fun C σ' G G' e hS => by
    obtain ⟨x, rfl, r⟩ := hS
    exact ⟨x, rfl, mf C _ _ _ e r⟩) (fun C σ' G H' hC hp hS g => by
    obtain ⟨x, rfl, r⟩ := hS
    exact he C x G H' hC hp r g)
end
/-- what a def does that returns a new list, not yet known, or lets an exception out -/
def spXO {α : Type} (A : α → List Pr) (L : α → List V → Prop) (X : α → Value → Option Addr → Hp → Prop) : Sp := fun vs H Q E => ∃ (a : α) (F : Hp), Ok W0 F H ∧ Al (A a) vs F ∧ (∀ p us F' H', Gw W0 F H F' H' → H p = none → F' p = none → H' p = some (.lst us) → L a us → Q (.ref p) H') ∧ ∀ cls d F' H', Gw W0 F H F' H' → X a cls d F' → E cls d H'
theorem spXO.len {α : Type} {A : α → List Pr} {L : α → List V → Prop} {X : α → Value → Option Addr → Hp → Prop} {n : Nat} (h : ∀ a, (A a).length = n) : ∀ vs H Q E, spXO A L X vs H Q E → vs.length = n := fun vs H Q E ⟨a, F, _, al, _⟩ => al.length.trans (h a)
theorem methXO {w : Wd} {σ : L2.St} {F H : Hp} {ta : TA} {C : Addr} {Rs : List Pr} {α : Type} {A : α → List Pr} {L : α → List V → Prop} {X : α → Value → Option Addr → Hp → Prop} {R0 : Pr} {E : L2.St → XK} {m : Str} {to : TE} {Qv : VK} (a : α) (hA : A a = R0 :: Rs) (m0 : Mo R0) (hI : ∀ v F, R0 v F → ∃ b dx fs, v = .ref b ∧ F b = some (.ins C dx fs) ∧ fs.lookup m = none) (o : Ok w F H) (ho : EvW w R0 to σ F H) (h : EvA w Rs ta σ F H)
    (k : ∀ p us F1 H1, Gw w F H F1 H1 → H p = none → F1 p = none → H1 p = some (.lst us) → L a us → Qv (.ref p) H1) (kx : ∀ cls d F1 H1, Gw w F H F1 H1 → X a cls d F1 → E σ cls d H1) : QC.tMethE C m (spXO A L X) [] E to ta σ H Qv :=
  ho F H o.refl _ fun x F2 H2 g2 rx => by
    have o2 := g2.ok o
    obtain ⟨b, dx, fs, rfl, e1, e2⟩ := hI _ _ rx
    refine ⟨b, dx, fs, rfl, o2.s _ _ e1, e2, h F2 H2 g2 _ fun vs F3 H3 g3 al => ?_⟩
    have o3 := g3.ok o2
    have g23 := g2.trans o g3
    refine ⟨a, F3, o3.zero, ?_, fun p us F4 H4 c np nF hp hL => k p us F4 H4 (g23.trans o (c.of0 o3)) ?_ nF hp hL, fun cls d F4 H4 c r => kx cls d F4 H4 (g23.trans o (c.of0 o3)) r⟩
    · rw [hA, List.append_nil]
      exact .cons (m0 _ _ _ g3.g.ff rx) al
    · cases z : H p with
      | none => rfl
      | some u => exact (g23.live o (by rw [z]; exact nofun) np).elim
structure AbA where
  ts : List Str
  u : Ups
  uk : u.map (·.1) = ts
  nd : ts.Nodup
  tl : ts.length ≤ 100000
  d : PyData
def aboveL (ts : List Str) (u : Ups) (s : Str) : List Str := ts.filter fun y => !decide (y = s) && decide (y ∈ upOf u s)
def belowL (ts : List Str) (u : Ups) (s : Str) : List Str := ts.filter fun y => !decide (y = s) && decide (s ∈ upOf u y)
def spAb (f : List Str → Ups → Str → List Str) (K : PySem.W.Frag) (C CT CU : Addr) : Sp := spXO (fun a : AbA => [Obj C schF (ordL CT a.ts a.u), Da K a.d]) (fun a us => ∃ s, a.d = .str s ∧ s ∈ a.ts ∧ us = sv (f a.ts a.u s)) fun a cls d F => isOne a.ts a.d = false ∧ Xv K CU "value" a.d cls d F
theorem spAb.len {f : List Str → Ups → Str → List Str} {K : PySem.W.Frag} {C CT CU : Addr} : ∀ vs H Q E, spAb f K C CT CU vs H Q E → vs.length = 2 := spXO.len fun _ => rfl
def t_ab (a b : Nat) (K : PySem.W.Frag) (C CT CU : Addr) (E : XK) : TS := tSeq (tDrop (QC.tMethE C "require_type" (spReq K C CU) [] (fun _ => E) (tVar 0) (tCons (tVar 1) tNil)))
  (tRet (tLc (iList K (tFld K (tVar 0) "own_types")) (gName 2) (tAnd (tTest (tOp rNe (tVar 2) (tVar 1))) (tB (QC.tMethE CT "is_at_or_below" (spBelow CT) [] (fun _ => E0) (tFld K (tVar 0) "own_order") (tCons (tVar a) (tCons (tVar b) tNil))))) (tVar 2) [2]))
theorem dec_str {a b : Str} : decide (V.str a = V.str b) = decide (a = b) := by
  by_cases h : a = b
  · rw [h, decide_eq_true rfl, decide_eq_true rfl]
  · rw [decide_eq_false h, decide_eq_false fun z => h (V.str.inj z)]
theorem pure_ab {K : PySem.W.Frag} {C CT CU : Addr} (c : Cls K C) (n : NoAttr K C "own_order") (nT : NoAttr K C "own_types") {a b : Nat} {f : List Str → Ups → Str → List Str} (hab : (a = 1 ∧ b = 2 ∧ f = aboveL) ∨ (a = 2 ∧ b = 1 ∧ f = belowL)) {vs : List V} {H : Hp} {Q : VK} {E : XK} (h : spAb f K C CT CU vs H Q E) :
    t_ab a b K C CT CU E { nx := fun _ H' => Q .non H', rt := Q } (L2.start ["self", "name", "other"] vs) H := by
  obtain ⟨⟨ts, u, uk, nd, tl, d⟩, F, o, al, q, qx⟩ := h
  obtain ⟨v, x, rfl, hv, hx⟩ := two_args al
  dsimp only at q qx hv hx
  have nd : ts.Nodup := nd
  have tl : ts.length ≤ 100000 := tl
  have uk : u.map (·.1) = ts := uk
  have mO := Obj.mo (C := C) (ns := schF) (ordL.mo CT ts u)
  refine q_req o rfl hv rfl hx (fun F1 H1 g h1 => ?_) fun cls dd F1 H1 g h1 r => qx cls dd F1 H1 g ⟨h1, r⟩
  have o1 := g.ok o
  obtain ⟨s, rfl, m1⟩ := isOne_str h1
  obtain rfl := da_str hx
  have hv1 := mO _ _ _ g.g.ff hv
  have hc : EvO W0 ((f ts u s).map fun y => Is (.str y)) (tLc (iList K (tFld K (tVar 0) "own_types")) (gName 2) (tAnd (tTest (tOp rNe (tVar 2) (tVar 1))) (tB (QC.tMethE CT "is_at_or_below" (spBelow CT) [] (fun _ => E0) (tFld K (tVar 0) "own_order") (tCons (tVar a) (tCons (tVar b) tNil))))) (tVar 2) [2]) [some v, some (.str s), none] F1 H1 := by
    have key : ∀ p : Str → Bool, (∀ y ∈ ts, ∀ G H', Gw W0 F1 H1 G H' → EvT W0 (p y) (tAnd (tTest (tOp rNe (tVar 2) (tVar 1))) (tB (QC.tMethE CT "is_at_or_below" (spBelow CT) [] (fun _ => E0) (tFld K (tVar 0) "own_order") (tCons (tVar a) (tCons (tVar b) tNil))))) [some v, some (.str s), some (.str y)] G H') →
        EvO W0 ((ts.filter p).map fun y => Is (.str y)) (tLc (iList K (tFld K (tVar 0) "own_types")) (gName 2) (tAnd (tTest (tOp rNe (tVar 2) (tVar 1))) (tB (QC.tMethE CT "is_at_or_below" (spBelow CT) [] (fun _ => E0) (tFld K (tVar 0) "own_order") (tCons (tVar a) (tCons (tVar b) tNil))))) (tVar 2) [2]) [some v, some (.str s), none] F1 H1 := fun p hp =>
      eo_compN (f := fun y : Str => Is (.str y)) (gg := fun y : Str => Is (.str y)) (p := p) o1 (ev_fldO (L := ordL CT ts u) o1 c nT (ev_var (i := 0) o1 mO rfl hv1) List.mem_cons_self) (fun _ => rfl) (fun _ => Is.mo _) (fun _ => Is.mo _) tl
        (fun y z G H' hy hz g2 => by
          obtain rfl : z = .str y := hz
          exact hp y hy G H' g2) fun y z G H' hy _ hz g2 => ev_var (g2.ok o1) (Is.mo _) rfl hz
    rcases hab with ⟨rfl, rfl, rfl⟩ | ⟨rfl, rfl, rfl⟩
    · refine key _ fun y hy G H' g2 => ?_
      have oG := g2.ok o1
      have h1 := ev_op (ta := tVar 2) (tb := tVar 1) (σ := [some v, some (.str s), some (.str y)]) oG (Is.mo _) (ev_var oG (Is.mo _) rfl rfl) (ev_var oG (Is.mo _) rfl rfl) (ow_neS (a := y) (b := s))
      rw [dec_str] at h1
      exact et_and oG (et_val h1) fun _ => et_B (ev_below (by rw [uk]; exact nd) (by rw [uk]; exact m1) oG (ev_fldO (L := ordL CT ts u) oG c n (ev_var (i := 0) oG mO rfl (mO _ _ _ g2.g.ff hv1)) (List.mem_cons_of_mem _ List.mem_cons_self)) (ev_var oG (Is.mo _) rfl rfl) (ev_var oG (Is.mo _) rfl rfl))
    · refine key _ fun y hy G H' g2 => ?_
      have oG := g2.ok o1
      have h1 := ev_op (ta := tVar 2) (tb := tVar 1) (σ := [some v, some (.str s), some (.str y)]) oG (Is.mo _) (ev_var oG (Is.mo _) rfl rfl) (ev_var oG (Is.mo _) rfl rfl) (ow_neS (a := y) (b := s))
      rw [dec_str] at h1
      exact et_and oG (et_val h1) fun _ => et_B (ev_below (by rw [uk]; exact nd) (by rw [uk]; exact hy) oG (ev_fldO (L := ordL CT ts u) oG c n (ev_var (i := 0) oG mO rfl (mO _ _ _ g2.g.ff hv1)) (List.mem_cons_of_mem _ List.mem_cons_self)) (ev_var oG (Is.mo _) rfl rfl) (ev_var oG (Is.mo _) rfl rfl))
  refine hc F1 H1 o1.refl _ fun p us F2 H2 g2 np nF hp al2 => ?_
  obtain rfl : us = sv (f ts u s) := al2.is
  exact q p _ F2 H2 (g.trans o g2) (g.old o np) nF hp ⟨s, rfl, m1, rfl⟩
section
variable {K : PySem.W.Frag} {w : Wd} {σ : L2.St} {F H : Hp} {to t1 : TE} {C CT CU : Addr} {E : L2.St → XK} {m : Str} {ts : List Str} {u : Ups} {s : Str} {f : List Str → Ups → Str → List Str} {Qv : VK}
/-- made.above(s), made.below(s), s a type: a new list -/
theorem abO (hm : m ∉ schF) (uk : u.map (·.1) = ts) (nd : ts.Nodup) (tl : ts.length ≤ 100000) (hs : s ∈ ts) (o : Ok w F H) (ho : EvW w (Obj C schF (ordL CT ts u)) to σ F H) (h1 : EvW w (Is (.str s)) t1 σ F H)
    (k : ∀ p F1 H1, Gw w F H F1 H1 → H p = none → F1 p = none → H1 p = some (.lst (sv (f ts u s))) → Qv (.ref p) H1) : QC.tMethE C m (spAb f K C CT CU) [] E to (tCons t1 tNil) σ H Qv :=
  methXO (A := fun a : AbA => [Obj C schF (ordL CT a.ts a.u), Da K a.d]) (L := fun a us => ∃ s, a.d = .str s ∧ s ∈ a.ts ∧ us = sv (f a.ts a.u s)) (X := fun a cls d F => isOne a.ts a.d = false ∧ Xv K CU "value" a.d cls d F) ⟨ts, u, uk, nd, tl, .str s⟩ rfl (Obj.mo (ordL.mo CT ts u)) (Obj.ins hm) o ho (ea_cons o (Da.mo K _) h1.daS (ea_nil o))
    (fun p us F1 H1 g np nF hp ⟨s', e, _, e2⟩ => by
      cases e
      exact k p F1 H1 g np nF (by rw [hp, e2])) fun cls d F1 H1 g ⟨e, _⟩ => by rw [show isOne ts (.str s) = true from decide_eq_true hs] at e; cases e
theorem ev_ab (hm : m ∉ schF) (uk : u.map (·.1) = ts) (nd : ts.Nodup) (tl : ts.length ≤ 100000) (hs : s ∈ ts) (o : Ok w F H) (ho : EvW w (Obj C schF (ordL CT ts u)) to σ F H) (h1 : EvW w (Is (.str s)) t1 σ F H) :
    EvW w (Txts (f ts u s)) (QC.tMethE C m (spAb f K C CT CU) [] E to (tCons t1 tNil)) σ F H := fun F1 H1 g Q q =>
  abO hm uk nd tl hs (g.ok o) (EvW.mono o g ho) (EvW.mono o g h1) fun p F2 H2 g2 np nF hp => q _ (upd F2 p (.lst (sv (f ts u s)))) _ (g2.keepL np nF hp) ⟨p, _, rfl, upd_same, al_strs _⟩
/-- made.is_at_or_below(s, s2) of two types -/
theorem ev_bo {s2 : Str} {t2 : TE} (uk : u.map (·.1) = ts) (nd : ts.Nodup) (tl : ts.length ≤ 100000) (hs : s ∈ ts) (hs2 : s2 ∈ ts) (o : Ok w F H) (ho : EvW w (Obj C schF (ordL CT ts u)) to σ F H) (h1 : EvW w (Is (.str s)) t1 σ F H) (h2 : EvW w (Is (.str s2)) t2 σ F H) :
    EvW w (Is (.bl (decide (s2 ∈ upOf u s)))) (QC.tMethE C "is_at_or_below" (spBo K C CT CU) [] E to (tCons t1 (tCons t2 tNil))) σ F H := fun F1 H1 g Q q =>
  methX (A := fun a : BoA => [Obj C schF (ordL CT a.ts a.u), Da K a.d1, Da K a.d2]) (R := fun a v _ => ∃ s1 s2, a.d1 = .str s1 ∧ a.d2 = .str s2 ∧ s1 ∈ a.ts ∧ s2 ∈ a.ts ∧ v = .bl (decide (s2 ∈ upOf a.u s1))) (X := fun a cls d F => ∃ b, badOf a.ts [a.d1, a.d2] = some b ∧ Xv K CU "value" b cls d F) ⟨ts, u, uk, nd, tl, .str s, .str s2⟩ rfl (Obj.mo (ordL.mo CT ts u)) (Obj.ins (by decide)) (g.ok o) (EvW.mono o g ho)
    (ea_cons (g.ok o) (Da.mo K _) (EvW.mono o g h1).daS (ea_cons (g.ok o) (Da.mo K _) (EvW.mono o g h2).daS (ea_nil (g.ok o))))
    (fun v F2 H2 g2 ⟨a, b, e1, e2, _, _, e3⟩ => by
      cases e1
      cases e2
      exact q v F2 H2 g2 e3) fun cls d F2 H2 g2 ⟨b, e, _⟩ => by
      unfold badOf at e
      rw [List.find?_cons_of_neg (by rw [show isOne ts (.str s) = true from decide_eq_true hs]; decide), List.find?_cons_of_neg (by rw [show isOne ts (.str s2) = true from decide_eq_true hs2]; decide)] at e
      cases e
end
end QW

set_option Elab.async false
set_option linter.all false
set_option maxRecDepth 100000
set_option maxHeartbeats 1000000
/-! QWo: a world with more things of one's own; draws and words with what is known of them. -/
namespace QW
open PySem PySem.Spec PyProof.Rows L2 QR
def Wd.addL (w : Wd) (M : List Addr) : Wd := ⟨M ++ w.M, fun H => w.J H ∧ ∀ m ∈ M, H m ≠ none, fun H H' ⟨j, a⟩ k => ⟨w.st H H' j fun m u hm q => k m u (List.mem_append_right _ hm) q, fun m hm => by
    cases q : H m with
    | none => exact (a m hm q).elim
    | some o => rw [k m o (List.mem_append_left _ hm) q]; exact nofun⟩, fun H ⟨j, a⟩ m hm => (List.mem_append.mp hm).elim (a m) (w.tr H j m)⟩
section
variable {w : Wd} {M : List Addr} {F0 H0 F H F1 H1 : Hp} {m p : Addr} {u : HO} {σ : L2.St} {te tl ta tb : TE} {K : PySem.W.Frag} {D : Ends} {us : TS} {R : Pr} {v : V} {i : Nat} {tt : TT} {t : TS}
theorem Sub.addL (n : ∀ m ∈ M, m ∉ w.M) : Sub w (w.addL M) := ⟨fun F H o => ⟨o.s, o.j.1, fun m hm => o.m m (List.mem_append_right _ hm)⟩, fun F H F' H' o g => ⟨⟨g.g.ff, g.g.fh, fun b u hb e => g.g.hh b u (fun z => hb (List.mem_append_right _ z)) e, g.g.nw⟩, g.j, fun m hm => by
    cases q : H m with
    | none => exact (o.j.2 m hm q).elim
    | some x => rw [g.g.hh m x (n m hm) q]; exact nofun⟩⟩
theorem Ok.addL (o : Ok w F H) (h : ∀ m ∈ M, F m = none ∧ H m ≠ none) : Ok (w.addL M) F H := ⟨o.s, ⟨o.j, fun m hm => (h m hm).2⟩, fun m hm => (List.mem_append.mp hm).elim (fun z => (h m z).1) (o.m m)⟩
theorem Gw.addDrop (o : Ok w F0 H0) (g : Gw w F0 H0 F H) (g2 : Gw (w.addL M) F H F1 H1) (h : ∀ m ∈ M, H0 m = none) : Gw w F0 H0 F1 H1 := by
  refine ⟨⟨g.g.ff.trans g2.g.ff, g2.g.fh, fun b u hb e => ?_, fun b e1 e2 => g2.g.nw b (g.g.nw b e1 e2) (g.live o e2)⟩, g2.j.1⟩
  refine g2.g.hh b u (fun z => ?_) (g.g.hh b u hb e)
  rcases List.mem_append.mp z with z | z
  · rw [h b z] at e; cases e
  · exact hb z
theorem Gw.mutM (g : Gw (w.addL M) F0 H0 F H) (hm : m ∈ M) (n : m ∉ w.M) (k : F m = none) : Gw (w.addL M) F0 H0 F (upd H m u) := ⟨g.g.mut (.inr (List.mem_append_left _ hm)) k, w.st _ _ g.j.1 (fun b x hb e => by rw [upd_ne (fun z => n (by rw [← z]; exact hb))]; exact e), fun b hb => by
  by_cases e : b = m
  · rw [e, upd_same]; exact nofun
  · rw [upd_ne e]; exact g.j.2 b hb⟩
theorem notM (o : Ok w F0 H0) (n : H0 m = none) : m ∉ w.M := fun z => w.tr H0 o.j m z n
theorem Gw.mutN (o : Ok w F0 H0) (g : Gw w F0 H0 F H) (n : H0 m = none) (k : F m = none) : Gw w F0 H0 F (upd H m u) := ⟨g.g.mut (.inl n) k, w.st _ _ g.j fun b x hb e => by rw [upd_ne (fun z => notM o n (by rw [← z]; exact hb))]; exact e⟩
/-- a value that is told -/
theorem ev_cR (m : Mo R) (o : Ok w F H) (hr : R v F) : EvW w R (tC v) σ F H := fun F1 H1 a _ q => q v F1 H1 (a.ok o).refl (m _ _ _ a.g.ff hr)
theorem asgO (h : te σ H fun x H1 => us D (σ.set i (some x)) H1) : tSeq (tAsg te (gName i)) us D σ H := h
/-- for x in e: e first -/
theorem q_forX {g : TG} (o : Ok w F H) (h : EvW w R tl σ F H) (k : ∀ v F1 H1, Gw w F H F1 H1 → R v F1 → tSeq (tFor (iList K (tC v)) g t) us D σ H1) : tSeq (tFor (iList K tl) g t) us D σ H :=
  h F H o.refl _ fun v F1 H1 g1 r => k v F1 H1 g1 r
end
def AtMost (P : Nat → Prop) : Pr := fun v _ => ∃ n : Nat, v = .int n ∧ P n
theorem AtMost.mo (P : Nat → Prop) : Mo (AtMost P) := fun _ _ _ _ h => h
def WordsP (P : Nat → Prop) : Pr := fun v F => ∃ ts : List Str, P ts.length ∧ Names ts ∧ Txts ts v F
theorem WordsP.mo (P : Nat → Prop) : Mo (WordsP P) := fun _ _ _ e ⟨ts, h1, h2, h3⟩ => ⟨ts, h1, h2, Txts.mo ts _ _ _ e h3⟩
section
variable {p : Addr} {σ : L2.St} {F H : Hp} {te : TE} {P : Nat → Prop} {E : XK} {i : Nat} {n : Nat}
theorem ev_words (o : Ok (Wp p) F H) (hp : σ[i]? = some (some (.ref p))) (hP : ∀ n, P n → n < 78) (h : EvW (Wp p) (AtMost P) te σ F H) : EvW (Wp p) (WordsP P) (tCall spWords [] E (tCons (tVar i) (tCons te tNil))) σ F H := fun F1 H1 g Q q =>
  ea_cons o (Is.mo (.ref p)) (ev_var o (Is.mo _) hp rfl) (ea_cons o (AtMost.mo P) h (ea_nil o)) F1 H1 g _ fun vs F2 H2 g2 al => by
    obtain ⟨x, y, rfl, hx, n, rfl, hn⟩ := two_args al
    obtain rfl : x = .ref p := hx
    have o2 := g2.ok (g.ok o)
    exact ⟨⟨p, n, hP n hn⟩, F2, o2, .cons rfl (.cons rfl .nil), fun v F3 H3 g3 ⟨ts, hl, hN, hT⟩ => q v F3 H3 (g2.trans (g.ok o) g3) ⟨ts, by rw [hl]; exact hn, hN, hT⟩⟩
theorem dr_most (h : EvW (Wp p) (Dr (n : Nat)) te σ F H) : EvW (Wp p) (AtMost fun k => k < n) te σ F H := h.imp fun v F' _ ⟨d, e, h1, h2⟩ => ⟨d.toNat, by rw [e, Int.toNat_of_nonneg h1], by omega⟩
theorem ow_addMost {P : Nat → Prop} {c : Nat} : OpW w (rI0 fun i j => V.int (i + j)) (Is (.int (c : Nat))) (AtMost P) (AtMost fun k => ∃ j, P j ∧ k = c + j) := fun x y F H o rx ⟨j, e, hj⟩ Q q => by
  obtain rfl : x = .int (c : Nat) := rx
  subst e
  exact ⟨c, j, rfl, rfl, q _ F H o.refl ⟨c + j, by rw [Int.natCast_add], j, hj, rfl⟩⟩
end
end QW

set_option Elab.async false
set_option linter.all false
set_option maxRecDepth 100000
set_option maxHeartbeats 1000000
/-! QDraw: schemes that are drawn. -/
namespace QW
open PySem PySem.Spec PyProof.Rows L2 QR
/-- elements as the laws draw them -/
structure WfW (most edges uses : Nat) (ts : List Str) (cs : List Cst) (vs : List Ver) : Prop where
  tn : ts.Nodup
  tm : ∀ s ∈ ts, wordS s = true
  t0 : 1 ≤ ts.length
  tl : ts.length ≤ most
  cn : (cs.map (·.1)).Nodup
  cm : ∀ c ∈ cs, wordS c.1 = true
  cl : cs.length ≤ edges
  ce : ∀ c ∈ cs, ∃ i j : Nat, i < j ∧ ts[i]? = some c.2.1 ∧ ts[j]? = some c.2.2
  vn : (vs.map (·.1)).Nodup
  vm : ∀ v ∈ vs, wordS v.1 = true
  vl : vs.length ≤ uses
  ve : ∀ v ∈ vs, wordS v.2.1 = true ∧ v.2.2.1 ≠ [] ∧ v.2.2.1.length ≤ 2 ∧ (∀ y ∈ v.2.2.1, y ∈ ts) ∧ v.2.2.2 ∈ ts
  va : ∃ ar : Str → Nat, ∀ v ∈ vs, v.2.2.1.length = ar v.2.1
/-- such elements in the law's own dict -/
def DatS (ts : List Str) (cs : List Cst) (vs : List Ver) : Pr := Dk ["types", "casts", "versions"] [Txts ts, Li (cs.map cTu), Li (vs.map vTu)]
theorem DatS.mo (ts : List Str) (cs : List Cst) (vs : List Ver) : Mo (DatS ts cs vs) := Dk.mo (mos_cons (Txts.mo _) (mos_cons (Li.mo (mos_map cTu.mo _)) (mos_cons (Li.mo (mos_map vTu.mo _)) mos_nil)))
structure ScA where
  p : Addr
  most : Nat
  edges : Nat
  uses : Nat
  m0 : 1 ≤ most
  m1 : most ≤ 10
  e1 : edges ≤ 20
  u1 : uses ≤ 16
def Drawn (most edges uses : Nat) : Pr := fun v F => ∃ ts cs vs, WfW most edges uses ts cs vs ∧ DatS ts cs vs v F
def spScheme : Sp := spW (fun a : ScA => Wp a.p) (fun a => [Is (.ref a.p), Is (.int a.most), Is (.int a.edges), Is (.int a.uses)]) fun a => Drawn a.most a.edges a.uses
theorem spScheme.len : ∀ vs H Q E, spScheme vs H Q E → vs.length = 4 := spW.len fun _ => rfl
structure HdA where
  p : Addr
  ts : List Str
  cs : List Cst
  vs : List Ver
  t1 : ts.length ≤ 1000
  c1 : cs.length ≤ 1000
  v1 : vs.length ≤ 1000
/-- some order of each -/
def Handed (ts : List Str) (cs : List Cst) (vs : List Ver) : Pr := fun v F => ∃ (ts' : List Str) (cs' : List Cst) (vs' : List Ver), ts'.Perm ts ∧ cs'.Perm cs ∧ vs'.Perm vs ∧ Tu [Txts ts', Li (cs'.map cTu), Li (vs'.map vTu)] v F
def spHanded : Sp := spW (fun a : HdA => Wp a.p) (fun a => [Is (.ref a.p), DatS a.ts a.cs a.vs]) fun a => Handed a.ts a.cs a.vs
theorem spHanded.len : ∀ vs H Q E, spHanded vs H Q E → vs.length = 2 := spW.len fun _ => rfl
structure MdA where
  p : Addr
  ts : List Str
  cs : List Cst
  vs : List Ver
  wf : WfS ts cs vs
def spMade (C CT : Addr) : Sp := spW (fun a : MdA => Wp a.p) (fun a => [Is (.ref a.p), DatS a.ts a.cs a.vs]) fun a => SchOf C CT a.ts a.cs a.vs
theorem spMade.len {C CT : Addr} : ∀ vs H Q E, spMade C CT vs H Q E → vs.length = 2 := spW.len fun _ => rfl
structure UpA where
  ts : List Str
  cs : List Cst
  vs : List Ver
  nd : ts.Nodup
  tl : ts.length ≤ 1000
  ce : ∀ c ∈ cs, ∃ i j : Nat, i < j ∧ ts[i]? = some c.2.1 ∧ ts[j]? = some c.2.2
/-- what is at or above each -/
def UpsOf (ts : List Str) (cs : List Cst) : Pr := fun v F => ∃ u : Ups, u.map (·.1) = ts ∧ (∀ e ∈ u, e.2.Nodup ∧ ∀ x, x ∈ e.2 ↔ Reach cs e.1 x) ∧ upD u v F
def spUps : Sp := spW (fun _ : UpA => W0) (fun a => [DatS a.ts a.cs a.vs]) fun a => UpsOf a.ts a.cs
theorem spUps.len : ∀ vs H Q E, spUps vs H Q E → vs.length = 1 := spW.len fun _ => rfl

/-! ### handed over, made -/
section
variable {K : PySem.W.Frag} {w : Wd} {σ : L2.St} {F H : Hp} {te : TE} {ts : List Str} {cs : List Cst} {vs : List Ver} {R : Pr} {k : Str} {i : Nat}
theorem ev_dat (o : Ok w F H) (h : EvW w (DatS ts cs vs) te σ F H) (h1 : (["types", "casts", "versions"] : List Str)[i]? = some k) (h2 : [Txts ts, Li (cs.map cTu), Li (vs.map vTu)][i]? = some R) : EvW w R (tDGet te (tC (.str k))) σ F H :=
  ev_dget (ks := ["types", "casts", "versions"]) (Rs := [Txts ts, Li (cs.map cTu), Li (vs.map vTu)]) o (mos_cons (Txts.mo _) (mos_cons (Li.mo (mos_map cTu.mo _)) (mos_cons (Li.mo (mos_map vTu.mo _)) mos_nil))) h (ev_c o fun _ => rfl) (by decide) h1 h2
theorem perm_pr {α : Type} {f : α → Pr} {l : List α} {Ss : List Pr} (p : Ss.Perm (l.map f)) : ∃ l' : List α, l'.Perm l ∧ Ss = l'.map f := perm_map_inv p l rfl
theorem ev_mixed {α : Type} {f : α → Pr} {l : List α} {p : Addr} {E : XK} (m : ∀ a, Mo (f a)) (hz : l.length < 100000) (o : Ok (Wp p) F H) (hp : σ[0]? = some (some (.ref p))) (h : EvW (Wp p) (Li (l.map f)) te σ F H) : EvW (Wp p) (fun v F => ∃ l' : List α, l'.Perm l ∧ Li (l'.map f) v F) (tCall spMixed [] E (tCons (tVar 0) (tCons te tNil))) σ F H :=
  (ev_call (wf := fun a : MxA => Wp a.p) (A := fun a => [Is (.ref a.p), Li a.Rs]) (Rf := fun a => Mixed a.Rs) ⟨p, l.map f, mos_map m l, by rw [List.length_map]; exact hz⟩ o (ea_cons o (Is.mo _) (ev_var o (Is.mo _) hp rfl) (ea_cons o (Li.mo (mos_map m l)) h (ea_nil o)))).imp
    fun v F' _ ⟨Ss, hp, r⟩ => by
      obtain ⟨l', h1, rfl⟩ := perm_pr hp
      exact ⟨l', h1, r⟩
end
def t_handed : TS := tSeq (tPar 2 3 (tCons (tCall spMixed [] E0 (tCons (tVar 0) (tCons (tDGet (tVar 1) (tC (.str "types"))) tNil))) (tCons (tCall spMixed [] E0 (tCons (tVar 0) (tCons (tDGet (tVar 1) (tC (.str "casts"))) tNil))) tNil)))
  (tRet (tTup (tCons (tVar 2) (tCons (tVar 3) (tCons (tCall spMixed [] E0 (tCons (tVar 0) (tCons (tDGet (tVar 1) (tC (.str "versions"))) tNil))) tNil)))))
def MxT (ts : List Str) : Pr := fun v F => ∃ l' : List Str, l'.Perm ts ∧ Txts l' v F
def MxC (cs : List Cst) : Pr := fun v F => ∃ l' : List Cst, l'.Perm cs ∧ Li (l'.map cTu) v F
def MxV (vs : List Ver) : Pr := fun v F => ∃ l' : List Ver, l'.Perm vs ∧ Li (l'.map vTu) v F
theorem MxT.mo (ts : List Str) : Mo (MxT ts) := fun _ _ _ e ⟨l, h, r⟩ => ⟨l, h, Txts.mo l _ _ _ e r⟩
theorem MxC.mo (ts : List Cst) : Mo (MxC ts) := fun _ _ _ e ⟨l, h, r⟩ => ⟨l, h, Li.mo (mos_map cTu.mo l) _ _ _ e r⟩
theorem MxV.mo (ts : List Ver) : Mo (MxV ts) := fun _ _ _ e ⟨l, h, r⟩ => ⟨l, h, Li.mo (mos_map vTu.mo l) _ _ _ e r⟩
theorem pure_handed {vs : List V} {H : Hp} {Q : VK} {E : XK} (h : spHanded vs H Q E) : t_handed { nx := fun _ H' => Q .non H', rt := Q } (L2.start ["pot", "s", "labels", "edges"] vs) H := by
  obtain ⟨⟨p, ts, cs, rs, h1, h2, h3⟩, F, o, al, q⟩ := h
  obtain ⟨v0, v, rfl, hv0, hv⟩ := two_args al
  obtain rfl : v0 = .ref p := hv0
  have o : Ok (Wp p) F H := o
  have mD := DatS.mo ts cs rs
  have e1 := ev_mixed (σ := [some (.ref p), some v, none, none]) (te := tDGet (tVar 1) (tC (.str "types"))) (E := E0) (f := fun y : Str => Is (.str y)) (fun _ => Is.mo _) (show ts.length < 100000 by omega) o rfl (ev_dat (i := 0) (R := Txts ts) o (ev_var o mD rfl hv) rfl rfl)
  have e2 := ev_mixed (σ := [some (.ref p), some v, none, none]) (te := tDGet (tVar 1) (tC (.str "casts"))) (E := E0) (f := cTu) cTu.mo (show cs.length < 100000 by omega) o rfl (ev_dat (i := 1) (R := Li (cs.map cTu)) o (ev_var o mD rfl hv) rfl rfl)
  refine q_par2S (fun a b => [some (.ref p), some v, some a, some b]) o (ea_cons o (MxT.mo ts) e1 (ea_cons o (MxC.mo cs) e2 (ea_nil o))) fun a b F1 H1 g ra rb => ?_
  have o1 := g.ok o
  have e3 := ev_mixed (σ := [some (.ref p), some v, some a, some b]) (te := tDGet (tVar 1) (tC (.str "versions"))) (E := E0) (f := vTu) vTu.mo (show rs.length < 100000 by omega) o1 rfl (ev_dat (i := 2) (R := Li (rs.map vTu)) o1 (ev_var o1 mD rfl (mD _ _ _ g.g.ff hv)) rfl rfl)
  have m3 : ∀ R ∈ [MxT ts, MxC cs, MxV rs], Mo R := mos_cons (MxT.mo _) (mos_cons (MxC.mo _) (mos_cons (MxV.mo _) mos_nil))
  refine q_ret (R := Tu [MxT ts, MxC cs, MxV rs]) o1 (ev_tup o1 m3 (ea_cons o1 (MxT.mo ts) (ev_var o1 (MxT.mo ts) rfl ra) (ea_cons o1 (MxC.mo cs) (ev_var o1 (MxC.mo cs) rfl rb) (ea_cons o1 (MxV.mo rs) e3 (ea_nil o1)))) (show 3 ≤ 100000 by decide)) fun x F2 H2 g2 r => q x F2 H2 (g.trans o g2) ?_
  obtain ⟨t, us, rfl, ht, al2⟩ := r
  obtain ⟨a', b', c', rfl, ⟨l1, p1, r1⟩, ⟨l2, p2, r2⟩, ⟨l3, p3, r3⟩⟩ := three_args al2
  exact ⟨l1, l2, l3, p1, p2, p3, t, _, rfl, ht, .cons r1 (.cons r2 (.cons r3 .nil))⟩
theorem Handed.mo (ts : List Str) (cs : List Cst) (vs : List Ver) : Mo (Handed ts cs vs) := fun v F F' e ⟨a, b, c, h1, h2, h3, r⟩ => ⟨a, b, c, h1, h2, h3, Tu.mo (mos_cons (Txts.mo _) (mos_cons (Li.mo (mos_map cTu.mo _)) (mos_cons (Li.mo (mos_map vTu.mo _)) mos_nil))) _ _ _ e r⟩
def t_made (K : PySem.W.Frag) (C CT : Addr) : TS := tSeq (tAsg (tCall spHanded [] E0 (tCons (tVar 0) (tCons (tVar 1) tNil))) (gTup K 3 (gCons (gName 2) (gCons (gName 3) (gCons (gName 4) gNil)))))
  (tRet (QC.tMakeE C (spSch C CT) [] (fun _ => E0) (tCons (tVar 2) (tCons (tVar 3) (tCons (tVar 4) tNil)))))
theorem SchOk.perm {ts ts' : List Str} {cs cs' : List Cst} {vs vs' : List Ver} (p1 : ts'.Perm ts) (p2 : cs'.Perm cs) (p3 : vs'.Perm vs) {s : SchD} (h : SchOk ts' cs' vs' s) : SchOk ts cs vs s := ⟨by rw [h.t]; exact srt_of_perm p1, h.c.trans p2, h.co, h.v.trans p3, h.vo, h.uk, fun e he => ⟨(h.ur e he).1, fun x => ((h.ur e he).2 x).trans (reach_perm p2)⟩,
  ⟨h.ao.nd, fun o => (h.ao.m o).trans ⟨fun ⟨v, hv, e⟩ => ⟨v, p3.mem_iff.mp hv, e⟩, fun ⟨v, hv, e⟩ => ⟨v, p3.mem_iff.mpr hv, e⟩⟩⟩, fun v hv => h.av v (p3.mem_iff.mpr hv), h.tx⟩
theorem pure_made {K : PySem.W.Frag} {C CT : Addr} {vs : List V} {H : Hp} {Q : VK} {E : XK} (h : spMade C CT vs H Q E) : t_made K C CT { nx := fun _ H' => Q .non H', rt := Q } (L2.start ["pot", "s", "labels", "edges", "rows"] vs) H := by
  obtain ⟨⟨p, ts, cs, rs, wf⟩, F, o, al, q⟩ := h
  obtain ⟨v0, v, rfl, hv0, hv⟩ := two_args al
  obtain rfl : v0 = .ref p := hv0
  have o : Ok (Wp p) F H := o
  have mD := DatS.mo ts cs rs
  have l1 := wf.tl
  have l2 := wf.cl
  have l3 := wf.vl
  have e1 := ev_call (E := E0) (σ := [some (.ref p), some v, none, none, none]) (tas := tCons (tVar 0) (tCons (tVar 1) tNil)) (wf := fun a : HdA => Wp a.p) (A := fun a => [Is (.ref a.p), DatS a.ts a.cs a.vs]) (Rf := fun a => Handed a.ts a.cs a.vs) ⟨p, ts, cs, rs, by omega, by omega, by omega⟩ o (ea_cons o (Is.mo _) (ev_var o (Is.mo _) rfl rfl) (ea_cons o mD (ev_var o mD rfl hv) (ea_nil o)))
  refine q_asgG o e1 fun x F1 H1 g r => ?_
  have o1 := g.ok o
  obtain ⟨ts', cs', rs', p1, p2, p3, t, us, rfl, ht, al2⟩ := r
  obtain ⟨a, b, c, rfl, ra, rb, rc⟩ := three_args al2
  refine ⟨t, _, rfl, .of (o1.s _ _ ht), rfl, _, _, rfl, _, _, rfl, _, _, rfl, rfl, ?_⟩
  have hm := ev_mkS (C := C) (CT := CT) (σ := [some (.ref p), some v, some a, some b, some c]) (t1 := tVar 2) (t2 := tVar 3) (t3 := tVar 4) (E := fun _ => E0) (wf.perm p1 p2 p3) o1 (ev_var o1 (Txts.mo _) rfl ra) (ev_var o1 (Li.mo (mos_map cTu.mo _)) rfl rb) (ev_var o1 (Li.mo (mos_map vTu.mo _)) rfl rc)
  refine hm F1 H1 o1.refl _ fun x F2 H2 g2 r => q x F2 H2 (g.trans o g2) ?_
  obtain ⟨s, hs, rs⟩ := r
  exact ⟨s, hs.perm p1 p2 p3, rs⟩
end QW

set_option Elab.async false
set_option linter.all false
set_option maxRecDepth 100000
set_option maxHeartbeats 1000000
/-! QScheme: _law_scheme. -/
namespace QW
open PySem PySem.Spec PyProof.Rows L2 QR
abbrev oMin : List V → Hp → VK → Prop := fun xs H Q => ∃ i j, xs = [.int i, .int j] ∧ Q (.int (if j < i then j else i)) H
abbrev oMax : List V → Hp → VK → Prop := fun xs H Q => ∃ i j, xs = [.int i, .int j] ∧ Q (.int (if j > i then j else i)) H
abbrev iTup1 (K : PySem.W.Frag) : List V → Hp → VK → Prop := fun xs H Q => ∃ p ys, xs = [.ref p] ∧ ((SqL K H p ys ∧ ∀ l, H l = none → Q (.ref l) (upd H l (.tup ys))) ∨ (SqT K H p ys ∧ Q (.ref p) H))
def t_l1B (K : PySem.W.Frag) : TS := tSeq (tPar 7 8 (tCons (tCall spDraw [] E0 (tCons (tVar 0) (tCons (tCB (iLen K) (tCons (tVar 4) tNil)) tNil))) (tCons (tCall spDraw [] E0 (tCons (tVar 0) (tCons (tCB (iLen K) (tCons (tVar 4) tNil)) tNil))) tNil)))
  (tIfS (tTest (tOp rNe (tVar 7) (tVar 8))) (tDrop (tBM K "list" rAppend (tDGet (tVar 5) (tC (.str "casts"))) (tCons (tTup (tCons (tVar 6) (tCons (tOp (rIxL K) (tVar 4) (tCB oMin (tCons (tVar 7) (tCons (tVar 8) tNil)))) (tCons (tOp (rIxL K) (tVar 4) (tCB oMax (tCons (tVar 7) (tCons (tVar 8) tNil)))) tNil)))) tNil))) tNext)
def t_l2B (K : PySem.W.Frag) : TS := tSeq (tAsg (tOp (rI CDiv fun i j => .int (i / j)) (tCall spDraw [] E0 (tCons (tVar 0) (tCons (tC (.int 3)) tNil))) (tC (.int 2))) (gName 11))
  (tSeq (tAsg (tCB (iTup1 K) (tCons (tLc (iRng1 (tCons (tOp (rIxL K) (tVar 10) (tVar 11)) tNil)) (gName 13) tYes (tCall spChoice [] E0 (tCons (tVar 0) (tCons (tVar 4) tNil))) [13]) tNil)) (gName 12))
  (tDrop (tBM K "list" rAppend (tDGet (tVar 5) (tC (.str "versions"))) (tCons (tTup (tCons (tVar 6) (tCons (tOp (rIxL K) (tVar 9) (tVar 11)) (tCons (tVar 12) (tCons (tCall spChoice [] E0 (tCons (tVar 0) (tCons (tVar 4) tNil))) tNil))))) tNil))))
def t_scD (K : PySem.W.Frag) : TS := tSeq (tAsg (tCall spWords [] E0 (tCons (tVar 0) (tCons (tC (.int 2)) tNil))) (gName 9))
  (tSeq (tAsg (tLst (tCons (tOp oAdd (tC (.int 1)) (tCall spDraw [] E0 (tCons (tVar 0) (tCons (tC (.int 2)) tNil)))) (tCons (tOp oAdd (tC (.int 1)) (tCall spDraw [] E0 (tCons (tVar 0) (tCons (tC (.int 2)) tNil)))) tNil))) (gName 10))
  (tSeq (tFor (iList K (tCall spWords [] E0 (tCons (tVar 0) (tCons (tCall spDraw [] E0 (tCons (tVar 0) (tCons (tOp oAdd (tVar 3) (tC (.int 1))) tNil))) tNil)))) (gName 6) (t_l2B K))
  (tRet (tVar 5))))
def t_scC (K : PySem.W.Frag) : TS := tSeq (tFor (iList K (tCall spWords [] E0 (tCons (tVar 0) (tCons (tCall spDraw [] E0 (tCons (tVar 0) (tCons (tOp oAdd (tVar 2) (tC (.int 1))) tNil))) tNil)))) (gName 6) (t_l1B K)) (t_scD K)
def t_sch (K : PySem.W.Frag) : TS := tSeq (tAsg (tCall spWords [] E0 (tCons (tVar 0) (tCons (tOp oAdd (tC (.int 1)) (tCall spDraw [] E0 (tCons (tVar 0) (tCons (tVar 1) tNil)))) tNil))) (gName 4))
  (tSeq (tAsg (tDisp [(tC (.str "types"), tVar 4), (tC (.str "casts"), tLst tNil), (tC (.str "versions"), tLst tNil)]) (gName 5)) (t_scC K))
/-- the dict's values, as they stand -/
abbrev DkX (v4 : V) (lC lV : Addr) : Pr := Dk ["types", "casts", "versions"] [Is v4, Is (.ref lC), Is (.ref lV)]
theorem DkX.mo (v4 : V) (lC lV : Addr) : Mo (DkX v4 lC lV) := Dk.mo (mos_cons (Is.mo _) (mos_cons (Is.mo _) (mos_cons (Is.mo _) mos_nil)))
section
variable {K : PySem.W.Frag} {p lC lV : Addr} {D : Ends} {G H' : Hp} {ts ws : List Str} {v4 v5 : V} {x1 x2 x3 : Option V}
theorem at_nat {xs : List V} {i : Int} {n : Nat} (h0 : 0 ≤ i) (h1 : i.toNat < n) (hl : xs.length = n) : atI xs i = xs[i.toNat]? := by
  unfold atI ixN
  rw [if_pos h0, if_pos (by omega)]
  rfl
/-- casts so far -/
structure L1 (lC : Addr) (ts ws : List Str) (i : Nat) (G H' : Hp) (cs : List Cst) (vs : List V) : Prop where
  g : G lC = none
  h : H' lC = some (.lst vs)
  al : Al (cs.map cTu) vs G
  sl : (cs.map (·.1)).Sublist (ws.take i)
  e : ∀ c ∈ cs, ∃ i j : Nat, i < j ∧ ts[i]? = some c.2.1 ∧ ts[j]? = some c.2.2
theorem L1.on {i : Nat} {cs : List Cst} {vs : List V} {w : Wd} {G1 H1 : Hp} (h : L1 lC ts ws i G H' cs vs) (n : lC ∉ w.M) (g : Gw w G H' G1 H1) : L1 lC ts ws i G1 H1 cs vs := ⟨g.g.nw _ h.g (by rw [h.h]; exact nofun), g.g.hh _ _ n h.h, h.al.mono g.g.ff (mos_map cTu.mo _), h.sl, h.e⟩
theorem L1.next {i : Nat} {cs : List Cst} {vs : List V} (h : L1 lC ts ws i G H' cs vs) : L1 lC ts ws (i + 1) G H' cs vs := ⟨h.g, h.h, h.al, h.sl.trans (List.take_sublist_take_left (Nat.le_succ i)), h.e⟩
theorem pure_l1B {w : Wd} {M : List Addr} (hw : w = (Wp p).addL M) (hM : lC ∈ M) (hMp : ∀ m ∈ M, m ∉ (Wp p).M) {i : Nat} {cs : List Cst} {vs : List V} {u7 u8 u9 u10 u11 u12 u13 : Option V} (hi : i < ws.length) (ht : ts.length ≤ 1000) (t0 : 1 ≤ ts.length) (hz : ws.length ≤ 1000) (o : Ok w G H') (I : L1 lC ts ws i G H' cs vs) (hT : Txts ts v4 G) (hD : DkX v4 lC lV v5 G)
    (k : ∀ σ' G1 H1 cs1 vs1, (∃ x6 x7 x8, σ' = [some (.ref p), x1, x2, x3, some v4, some v5, x6, x7, x8, u9, u10, u11, u12, u13]) → Gw w G H' G1 H1 → L1 lC ts ws (i + 1) G1 H1 cs1 vs1 → D.nx σ' H1) :
    t_l1B K D [some (.ref p), x1, x2, x3, some v4, some v5, some (.str ws[i]), u7, u8, u9, u10, u11, u12, u13] H' := by
  subst hw
  have sub : Sub (Wp p) ((Wp p).addL M) := Sub.addL hMp
  have oP := sub.ok _ _ o
  have nC : lC ∉ (Wp p).M := hMp _ hM
  have hlen : EvW (Wp p) (Is (.int (ts.length : Nat))) (tCB (iLen K) (tCons (tVar 4) tNil)) [some (.ref p), x1, x2, x3, some v4, some v5, some (.str ws[i]), u7, u8, u9, u10, u11, u12, u13] G H' := by
    have := ev_cb oP (ea_cons oP (Txts.mo ts) (ev_var (i := 4) (σ := [some (.ref p), x1, x2, x3, some v4, some v5, some (.str ws[i]), u7, u8, u9, u10, u11, u12, u13]) oP (Txts.mo ts) rfl hT) (ea_nil oP)) (ca_lenLi (K := K))
    rw [List.length_map] at this
    exact this
  have hdr := ev_draw (n := ((ts.length : Nat) : Int)) (E := E0) (i := 0) oP rfl (by omega) (by omega) hlen
  refine q_par2S (fun a b => [some (.ref p), x1, x2, x3, some v4, some v5, some (.str ws[i]), some a, some b, u9, u10, u11, u12, u13]) oP (ea_cons oP Dr.mo hdr (ea_cons oP Dr.mo hdr (ea_nil oP))) fun a b F1 H1 g1 ra rb => ?_
  obtain ⟨a, rfl, a1, a2⟩ := ra
  obtain ⟨b, rfl, b1, b2⟩ := rb
  have o1 := g1.ok oP
  have I1 := I.on nC g1
  have gw1 := sub.gw _ _ _ _ o g1
  refine s_ifO (testO ⟨_, rfl, _, rfl, rfl, _, rfl, ?_⟩)
  by_cases hab : a = b
  · rw [if_neg (by simp [hab])]
    exact k _ F1 H1 cs vs ⟨_, _, _, rfl⟩ gw1 I1.next
  · rw [if_pos (by simp [hab])]
    have hT1 := Txts.mo ts _ _ _ g1.g.ff hT
    have hD1 := DkX.mo v4 lC lV _ _ _ g1.g.ff hD
    have hd : EvW (Wp p) (Is (.ref lC)) (tDGet (tVar 5) (tC (.str "casts"))) [some (.ref p), x1, x2, x3, some v4, some v5, some (.str ws[i]), some (.int a), some (.int b), u9, u10, u11, u12, u13] F1 H1 :=
      ev_dget (i := 1) (ks := ["types", "casts", "versions"]) (Rs := [Is v4, Is (.ref lC), Is (.ref lV)]) o1 (mos_cons (Is.mo _) (mos_cons (Is.mo _) (mos_cons (Is.mo _) mos_nil))) (ev_var o1 (DkX.mo _ _ _) rfl hD1) (ev_c o1 fun _ => rfl) (by decide) rfl rfl
    obtain ⟨i1, i2, hlt, h2, e1, e2⟩ : ∃ i1 i2 : Nat, i1 < i2 ∧ i2 < ts.length ∧ (if b < a then b else a) = (i1 : Nat) ∧ (if b > a then b else a) = (i2 : Nat) := by
      by_cases h : b < a
      · exact ⟨b.toNat, a.toNat, by omega, by omega, by rw [if_pos h]; omega, by rw [if_neg (by omega)]; omega⟩
      · exact ⟨a.toNat, b.toNat, by omega, by omega, by rw [if_neg h]; omega, by rw [if_pos (by omega)]; omega⟩
    have ix : ∀ (oo : List V → Hp → VK → Prop) (n : Nat) (hn : n < ts.length), CaW (Wp p) oo [Is (.int a), Is (.int b)] (Is (.int (n : Nat))) → EvW (Wp p) (Is (.str ts[n])) (tOp (rIxL K) (tVar 4) (tCB oo (tCons (tVar 7) (tCons (tVar 8) tNil)))) [some (.ref p), x1, x2, x3, some v4, some v5, some (.str ws[i]), some (.int a), some (.int b), u9, u10, u11, u12, u13] F1 H1 := fun oo n hn hc =>
      ev_op o1 (Txts.mo ts) (ev_var o1 (Txts.mo ts) rfl hT1) (ev_cb o1 (ea_cons o1 (Is.mo _) (ev_var o1 (Is.mo _) rfl rfl) (ea_cons o1 (Is.mo _) (ev_var o1 (Is.mo _) rfl rfl) (ea_nil o1))) hc)
        (ow_ix fun xs hl => ⟨n, by rw [at_nat (n := ts.length) (by omega) (by omega) (by rw [hl, List.length_map]), Int.toNat_natCast], by rw [List.getElem?_map, List.getElem?_eq_getElem hn]; rfl⟩)
    have ht : EvW (Wp p) (cTu (ws[i], ts[i1], ts[i2])) (tTup (tCons (tVar 6) (tCons (tOp (rIxL K) (tVar 4) (tCB oMin (tCons (tVar 7) (tCons (tVar 8) tNil)))) (tCons (tOp (rIxL K) (tVar 4) (tCB oMax (tCons (tVar 7) (tCons (tVar 8) tNil)))) tNil)))) [some (.ref p), x1, x2, x3, some v4, some v5, some (.str ws[i]), some (.int a), some (.int b), u9, u10, u11, u12, u13] F1 H1 :=
      ev_tup (Rs := [Is (.str ws[i]), Is (.str ts[i1]), Is (.str ts[i2])]) o1 (mos_cons (Is.mo _) (mos_cons (Is.mo _) (mos_cons (Is.mo _) mos_nil))) (ea_cons o1 (Is.mo _) (ev_var o1 (Is.mo _) rfl rfl) (ea_cons o1 (Is.mo _) (ix oMin i1 (by omega) (by have := ca_min2 (w := Wp p) (i := a) (j := b); rw [e1] at this; exact this)) (ea_cons o1 (Is.mo _) (ix oMax i2 (by omega) (by have := ca_max2 (w := Wp p) (i := a) (j := b); rw [e2] at this; exact this)) (ea_nil o1)))) (show 3 ≤ 100000 by decide)
    refine s_dropO (hd F1 H1 o1.refl _ fun x F2 H2 g2 rx => ?_)
    obtain rfl : x = .ref lC := rx
    have I2 := I1.on nC g2
    refine ⟨.inl ⟨rfl, _, .of I2.h⟩, ?_⟩
    have o2 := g2.ok o1
    refine EvW.mono o1 g2 ht F2 H2 o2.refl _ fun v F3 H3 g3 rv => ?_
    have I3 := I2.on nC g3
    have g123 := (g1.trans oP g2).trans oP g3
    have hvl := (al_map I3.al).1
    have hcl : cs.length ≤ ws.length := by
      have := I3.sl.length_le
      rw [List.length_map, List.length_take] at this
      omega
    refine ⟨lC, vs, v, rfl, rfl, I3.h, Evl.sz_lt (by omega), ?_⟩
    refine k _ F3 _ (cs ++ [(ws[i], ts[i1], ts[i2])]) (vs ++ [v]) ⟨_, _, _, rfl⟩ ((sub.gw _ _ _ _ o g123).mutM hM nC I3.g) ⟨I3.g, upd_same, ?_, ?_, ?_⟩
    · rw [List.map_append]
      exact I3.al.append (.cons rv .nil)
    · rw [List.map_append, List.take_succ_eq_append_getElem hi]
      exact I3.sl.append (List.Sublist.refl _)
    · intro c hc
      rcases List.mem_append.mp hc with hc | hc
      · exact I3.e c hc
      · rw [List.mem_singleton.mp hc]
        exact ⟨i1, i2, hlt, List.getElem?_eq_getElem (by omega), List.getElem?_eq_getElem h2⟩
/-- versions so far -/
structure L2' (lV : Addr) (ts ws : List Str) (o0 o1 : Str) (a0 a1 : Nat) (i : Nat) (G H' : Hp) (cs : List Ver) (vs : List V) : Prop where
  g : G lV = none
  h : H' lV = some (.lst vs)
  al : Al (cs.map vTu) vs G
  sl : (cs.map (·.1)).Sublist (ws.take i)
  e : ∀ v ∈ cs, ((v.2.1 = o0 ∧ v.2.2.1.length = a0) ∨ (v.2.1 = o1 ∧ v.2.2.1.length = a1)) ∧ (∀ y ∈ v.2.2.1, y ∈ ts) ∧ v.2.2.2 ∈ ts
theorem L2'.on {o0 o1 : Str} {a0 a1 : Nat} {i : Nat} {cs : List Ver} {vs : List V} {w : Wd} {G1 H1 : Hp} (h : L2' lV ts ws o0 o1 a0 a1 i G H' cs vs) (n : lV ∉ w.M) (g : Gw w G H' G1 H1) : L2' lV ts ws o0 o1 a0 a1 i G1 H1 cs vs := ⟨g.g.nw _ h.g (by rw [h.h]; exact nofun), g.g.hh _ _ n h.h, h.al.mono g.g.ff (mos_map vTu.mo _), h.sl, h.e⟩
def SomeOf (ts : List Str) : Pr := fun v _ => ∃ s, v = .str s ∧ s ∈ ts
theorem SomeOf.mo (ts : List Str) : Mo (SomeOf ts) := fun _ _ _ _ h => h
theorem ev_choiceT {w : Wd} {σ : L2.St} {F H : Hp} {te : TE} {E : XK} (t0 : 1 ≤ ts.length) (ht : ts.length ≤ 1000) (o : Ok (Wp p) F H) (hp : σ[0]? = some (some (.ref p))) (h : EvW (Wp p) (Txts ts) te σ F H) : EvW (Wp p) (SomeOf ts) (tCall spChoice [] E (tCons (tVar 0) (tCons te tNil))) σ F H :=
  (ev_call (wf := fun a : ChA => Wp a.p) (A := fun a => [Is (.ref a.p), Li a.Rs]) (Rf := fun a => Some_ a.Rs) ⟨p, _, mosS ts, by rw [List.length_map]; omega, by rw [List.length_map]; omega⟩ o (ea_cons o (Is.mo _) (ev_var o (Is.mo _) hp rfl) (ea_cons o (Txts.mo ts) h (ea_nil o)))).imp fun v F' _ ⟨R, hR, r⟩ => by
    obtain ⟨s, hs, rfl⟩ := List.mem_map.mp hR
    exact ⟨s, r, hs⟩
/-- a tuple of so many drawn ones -/
def TupOf (ts : List Str) (n : Nat) : Pr := fun v F => ∃ ss : List Str, ss.length = n ∧ (∀ s ∈ ss, s ∈ ts) ∧ TuS ss v F
theorem TupOf.mo (ts : List Str) (n : Nat) : Mo (TupOf ts n) := fun _ _ _ e ⟨ss, h1, h2, h3⟩ => ⟨ss, h1, h2, TuS.mo ss _ _ _ e h3⟩
theorem pure_l2B {w : Wd} {M : List Addr} (hw : w = (Wp p).addL M) (hM : lV ∈ M) (hMp : ∀ m ∈ M, m ∉ (Wp p).M) {o0 o1 : Str} {a0 a1 : Nat} (ha0 : a0 ≤ 2) (ha1 : a1 ≤ 2) {i : Nat} {cs : List Ver} {vs : List V} {v9 v10 : V} {u7 u8 u11 u12 u13 : Option V} (hi : i < ws.length) (ht : ts.length ≤ 1000) (t0 : 1 ≤ ts.length) (hz : ws.length ≤ 1000)
    (o : Ok w G H') (I : L2' lV ts ws o0 o1 a0 a1 i G H' cs vs) (hT : Txts ts v4 G) (hD : DkX v4 lC lV v5 G) (h9 : Txts [o0, o1] v9 G) (h10 : Li [Is (.int (a0 : Nat)), Is (.int (a1 : Nat))] v10 G)
    (k : ∀ σ' G1 H1 cs1 vs1, (∃ x6 x11 x12 x13, σ' = [some (.ref p), x1, x2, x3, some v4, some v5, x6, u7, u8, some v9, some v10, x11, x12, x13]) → Gw w G H' G1 H1 → L2' lV ts ws o0 o1 a0 a1 (i + 1) G1 H1 cs1 vs1 → D.nx σ' H1) :
    t_l2B K D [some (.ref p), x1, x2, x3, some v4, some v5, some (.str ws[i]), u7, u8, some v9, some v10, u11, u12, u13] H' := by
  subst hw
  have sub : Sub (Wp p) ((Wp p).addL M) := Sub.addL hMp
  have oP := sub.ok _ _ o
  have nV : lV ∉ (Wp p).M := hMp _ hM
  have hk : EvW (Wp p) (fun v _ => ∃ k : Nat, v = .int k ∧ k < 2) (tOp (rI CDiv fun i j => .int (i / j)) (tCall spDraw [] E0 (tCons (tVar 0) (tCons (tC (.int 3)) tNil))) (tC (.int 2))) [some (.ref p), x1, x2, x3, some v4, some v5, some (.str ws[i]), u7, u8, some v9, some v10, u11, u12, u13] G H' := by
    refine ev_op (S := Is (.int 2)) oP Dr.mo (ev_draw (n := 3) (i := 0) oP rfl (by decide) (by decide) (ev_c oP fun _ => rfl)) (ev_c oP fun _ => rfl) ?_
    intro x y F H o rx ry Q q
    obtain ⟨d, rfl, d1, d2⟩ := rx
    obtain rfl : y = .int 2 := ry
    exact ⟨d, 2, rfl, rfl, ⟨by decide, by decide⟩, q _ F H o.refl ⟨(d / 2).toNat, by rw [Int.toNat_of_nonneg (by omega)], by omega⟩⟩
  refine q_asgS (fun v => [some (.ref p), x1, x2, x3, some v4, some v5, some (.str ws[i]), u7, u8, some v9, some v10, some v, u12, u13]) oP hk fun v F1 H1 g1 rv => ?_
  obtain ⟨kk, rfl, hkk⟩ := rv
  have o1' := g1.ok oP
  have h91 := Txts.mo _ _ _ _ g1.g.ff h9
  have m10 : ∀ R ∈ [Is (.int (a0 : Nat)), Is (.int (a1 : Nat))], Mo R := mos_cons (Is.mo _) (mos_cons (Is.mo _) mos_nil)
  have h101 := Li.mo m10 _ _ _ g1.g.ff h10
  have hT1 := Txts.mo ts _ _ _ g1.g.ff hT
  have hD1 := DkX.mo v4 lC lV _ _ _ g1.g.ff hD
  have I1 := I.on nV g1
  obtain ⟨op, an, hop, han, hoa⟩ : ∃ (op : Str) (an : Nat), ([o0, o1] : List Str)[kk]? = some op ∧ ([a0, a1] : List Nat)[kk]? = some an ∧ ((op = o0 ∧ an = a0) ∨ (op = o1 ∧ an = a1)) := by
    match kk, hkk with
    | 0, _ => exact ⟨o0, a0, rfl, rfl, .inl ⟨rfl, rfl⟩⟩
    | 1, _ => exact ⟨o1, a1, rfl, rfl, .inr ⟨rfl, rfl⟩⟩
  have han2 : an ≤ 2 := by rcases hoa with ⟨_, rfl⟩ | ⟨_, rfl⟩ <;> assumption
  have hcnt : EvW (Wp p) (Is (.int (an : Nat))) (tOp (rIxL K) (tVar 10) (tVar 11)) [some (.ref p), x1, x2, x3, some v4, some v5, some (.str ws[i]), u7, u8, some v9, some v10, some (.int (kk : Nat)), u12, u13] F1 H1 :=
    ev_op o1' (Li.mo m10) (ev_var o1' (Li.mo m10) rfl h101) (ev_var o1' (Is.mo (.int (kk : Nat))) rfl rfl) (ow_ix fun xs hl => ⟨kk, by rw [at_nat (n := 2) (by omega) (by omega) hl, Int.toNat_natCast], by
      have : [Is (.int (a0 : Nat)), Is (.int (a1 : Nat))] = ([a0, a1] : List Nat).map fun n => Is (.int (n : Nat)) := rfl
      rw [this, List.getElem?_map, han]; rfl⟩)
  have hlst : EvW (Wp p) (fun v F => ∃ ss : List Str, ss.length = an ∧ (∀ s ∈ ss, s ∈ ts) ∧ Txts ss v F) (tLc (iRng1 (tCons (tOp (rIxL K) (tVar 10) (tVar 11)) tNil)) (gName 13) tYes (tCall spChoice [] E0 (tCons (tVar 0) (tCons (tVar 4) tNil))) [13]) [some (.ref p), x1, x2, x3, some v4, some v5, some (.str ws[i]), u7, u8, some v9, some v10, some (.int (kk : Nat)), u12, u13] F1 H1 := by
    refine ev_lcI o1' (ei_range o1' (by omega) (by omega) (ea_cons o1' (Is.mo _) hcnt (ea_nil o1'))) (by omega) (fun i ys F => ∃ ss : List Str, ss.length = i ∧ (∀ s ∈ ss, s ∈ ts) ∧ ys = ss.map V.str) (fun _ _ _ _ _ h => h) (fun _ _ => ⟨[], rfl, nofun, rfl⟩) (fun i x ys G H' hi hx g iv Qy Qn hy hn => ?_) fun ys G iv D e => ?_
    · have o2 := g.ok o1'
      obtain ⟨ss, h1, h2, h3⟩ := iv
      refine ⟨rfl, lc_yes ?_⟩
      refine ev_choiceT (w := Wp p) t0 ht o2 rfl (ev_var (i := 4) o2 (Txts.mo ts) rfl (Txts.mo ts _ _ _ g.g.ff hT1)) G H' o2.refl Qy fun v G' H'' g' r => hy v G' H'' g' ?_
      obtain ⟨s, rfl, hs⟩ := r
      refine ⟨ss ++ [s], by rw [List.length_append, h1]; rfl, fun x hx => ?_, by rw [h3, List.map_append]; rfl⟩
      rcases List.mem_append.mp hx with hx | hx
      · exact h2 x hx
      · rw [List.mem_singleton.mp hx]; exact hs
    · obtain ⟨ss, h1, h2, rfl⟩ := iv
      exact ⟨ss, by rw [h1]; omega, h2, D, _, rfl, e, al_strs ss⟩
  have htup : EvW (Wp p) (TupOf ts an) (tCB (iTup1 K) (tCons (tLc (iRng1 (tCons (tOp (rIxL K) (tVar 10) (tVar 11)) tNil)) (gName 13) tYes (tCall spChoice [] E0 (tCons (tVar 0) (tCons (tVar 4) tNil))) [13]) tNil)) [some (.ref p), x1, x2, x3, some v4, some v5, some (.str ws[i]), u7, u8, some v9, some v10, some (.int (kk : Nat)), u12, u13] F1 H1 := by
    refine ev_cb o1' (ea_cons o1' (fun _ _ _ e ⟨ss, h1, h2, h3⟩ => ⟨ss, h1, h2, Txts.mo ss _ _ _ e h3⟩) hlst (ea_nil o1')) ?_
    intro vs F H o al Q q
    obtain ⟨v, rfl, ss, h1, h2, l, us, rfl, e, al2⟩ := one_arg al
    exact ⟨l, us, rfl, .inl ⟨.of (o.s _ _ e), fun t n => q _ (upd F t (.tup us)) _ (o.refl.new o n) ⟨ss, h1, h2, t, us, rfl, upd_same, al2.mono (same_upd (same_none o.s n)) (mosS ss)⟩⟩⟩
  refine q_asgS (fun v => [some (.ref p), x1, x2, x3, some v4, some v5, some (.str ws[i]), u7, u8, some v9, some v10, some (.int (kk : Nat)), some v, u13]) o1' htup fun tv F2 H2 g2 rt => ?_
  obtain ⟨ss, hs1, hs2, hs3⟩ := rt
  have o2 := g2.ok o1'
  have I2 := I1.on nV g2
  have hT2 := Txts.mo ts _ _ _ g2.g.ff hT1
  have hD2 := DkX.mo v4 lC lV _ _ _ g2.g.ff hD1
  have h92 := Txts.mo _ _ _ _ g2.g.ff h91
  have hd : EvW (Wp p) (Is (.ref lV)) (tDGet (tVar 5) (tC (.str "versions"))) [some (.ref p), x1, x2, x3, some v4, some v5, some (.str ws[i]), u7, u8, some v9, some v10, some (.int (kk : Nat)), some tv, u13] F2 H2 :=
    ev_dget (i := 2) (ks := ["types", "casts", "versions"]) (Rs := [Is v4, Is (.ref lC), Is (.ref lV)]) o2 (mos_cons (Is.mo _) (mos_cons (Is.mo _) (mos_cons (Is.mo _) mos_nil))) (ev_var o2 (DkX.mo _ _ _) rfl hD2) (ev_c o2 fun _ => rfl) (by decide) rfl rfl
  have hrow : EvW (Wp p) (fun v F => ∃ res, res ∈ ts ∧ vTu (ws[i], op, ss, res) v F) (tTup (tCons (tVar 6) (tCons (tOp (rIxL K) (tVar 9) (tVar 11)) (tCons (tVar 12) (tCons (tCall spChoice [] E0 (tCons (tVar 0) (tCons (tVar 4) tNil))) tNil))))) [some (.ref p), x1, x2, x3, some v4, some v5, some (.str ws[i]), u7, u8, some v9, some v10, some (.int (kk : Nat)), some tv, u13] F2 H2 := by
    have := ev_tup (Rs := [Is (.str ws[i]), Is (.str op), TuS ss, SomeOf ts]) o2 (mos_cons (Is.mo _) (mos_cons (Is.mo _) (mos_cons (TuS.mo _) (mos_cons (SomeOf.mo _) mos_nil)))) (tas := tCons (tVar 6) (tCons (tOp (rIxL K) (tVar 9) (tVar 11)) (tCons (tVar 12) (tCons (tCall spChoice [] E0 (tCons (tVar 0) (tCons (tVar 4) tNil))) tNil)))) (σ := [some (.ref p), x1, x2, x3, some v4, some v5, some (.str ws[i]), u7, u8, some v9, some v10, some (.int (kk : Nat)), some tv, u13])
      (ea_cons o2 (Is.mo _) (ev_var o2 (Is.mo _) rfl rfl) (ea_cons o2 (Is.mo _) (ev_op o2 (Txts.mo _) (ev_var o2 (Txts.mo _) rfl h92) (ev_var o2 (Is.mo (.int (kk : Nat))) rfl rfl) (ow_ix fun xs hl => ⟨kk, by rw [at_nat (n := 2) (by omega) (by omega) hl, Int.toNat_natCast], by rw [List.getElem?_map, hop]; rfl⟩))
        (ea_cons o2 (TuS.mo _) (ev_var o2 (TuS.mo _) rfl hs3) (ea_cons o2 (SomeOf.mo _) (ev_choiceT (w := Wp p) t0 ht o2 rfl (ev_var (i := 4) o2 (Txts.mo ts) rfl hT2)) (ea_nil o2))))) (show 4 ≤ 100000 by decide)
    refine this.imp fun v F' _ ⟨a, us, e, h1, h2⟩ => ?_
    obtain ⟨y1, y2, y3, y4, rfl, q1, q2, q3, res, rfl, hr⟩ := four_args h2
    exact ⟨res, hr, a, _, e, h1, .cons q1 (.cons q2 (.cons q3 (.cons rfl .nil)))⟩
  refine s_dropO (hd F2 H2 o2.refl _ fun x F3 H3 g3 rx => ?_)
  obtain rfl : x = .ref lV := rx
  have I3 := I2.on nV g3
  refine ⟨.inl ⟨rfl, _, .of I3.h⟩, ?_⟩
  have o3 := g3.ok o2
  refine EvW.mono o2 g3 hrow F3 H3 o3.refl _ fun v F4 H4 g4 rv => ?_
  obtain ⟨res, hres, rv⟩ := rv
  have I4 := I3.on nV g4
  have G4 := ((g1.trans oP g2).trans oP g3).trans oP g4
  have hvl := (al_map I4.al).1
  have hcl : cs.length ≤ ws.length := by
    have := I4.sl.length_le
    rw [List.length_map, List.length_take] at this
    omega
  refine ⟨lV, vs, v, rfl, rfl, I4.h, Evl.sz_lt (by omega), ?_⟩
  refine k _ F4 _ (cs ++ [(ws[i], op, ss, res)]) (vs ++ [v]) ⟨_, _, _, _, rfl⟩ ((sub.gw _ _ _ _ o G4).mutM hM nV I4.g) ⟨I4.g, upd_same, ?_, ?_, ?_⟩
  · rw [List.map_append]
    exact I4.al.append (.cons rv .nil)
  · rw [List.map_append, List.take_succ_eq_append_getElem hi]
    exact I4.sl.append (List.Sublist.refl _)
  · intro c hc
    rcases List.mem_append.mp hc with hc | hc
    · exact I4.e c hc
    · rw [List.mem_singleton.mp hc]
      refine ⟨?_, hs2, hres⟩
      rcases hoa with ⟨e1, e2⟩ | ⟨e1, e2⟩
      · exact .inl ⟨e1, by rw [← e2]; exact hs1⟩
      · exact .inr ⟨e1, by rw [← e2]; exact hs1⟩
end
theorem pure_sch {K : PySem.W.Frag} {vs : List V} {H : Hp} {Q : VK} {E : XK} (h : spScheme vs H Q E) : t_sch K { nx := fun _ H' => Q .non H', rt := Q } (L2.start ["pot", "most", "edges", "uses", "labels", "s", "name", "one", "other", "operators", "arities", "k", "given", "turn"] vs) H := by
  obtain ⟨⟨p, most, edges, uses, m0, m1, e1, u1⟩, F, o, al, q⟩ := h
  have m0 : 1 ≤ most := m0
  have m1 : most ≤ 10 := m1
  have e1 : edges ≤ 20 := e1
  have u1 : uses ≤ 16 := u1
  dsimp only at o q
  obtain ⟨x0, x1, x2, x3, rfl, hx0, hx1, hx2, hx3⟩ := four_args al
  obtain rfl : x0 = .ref p := hx0
  obtain rfl : x1 = .int most := hx1
  obtain rfl : x2 = .int edges := hx2
  obtain rfl : x3 = .int uses := hx3
  -- labels
  have hA : EvW (Wp p) (WordsP fun k => ∃ j, j < most ∧ k = 1 + j) (tCall spWords [] E0 (tCons (tVar 0) (tCons (tOp oAdd (tC (.int 1)) (tCall spDraw [] E0 (tCons (tVar 0) (tCons (tVar 1) tNil)))) tNil))) [some (.ref p), some (.int most), some (.int edges), some (.int uses), none, none, none, none, none, none, none, none, none, none] F H :=
    ev_words o rfl (fun n ⟨j, hj, e⟩ => by omega) (ev_op o (Is.mo (.int (1 : Nat))) (ev_c o fun _ => rfl) (dr_most (ev_draw (n := ((most : Nat) : Int)) o rfl (by omega) (by omega) (ev_var o (Is.mo _) rfl rfl))) (ow_addMost (c := 1)))
  refine q_asgS (fun v => [some (.ref p), some (.int most), some (.int edges), some (.int uses), some v, none, none, none, none, none, none, none, none, none]) o hA fun v4 F1 H1 g1 r4 => ?_
  obtain ⟨ts, ⟨j0, hj0, htl⟩, Nt, hT⟩ := r4
  have o1 := g1.ok o
  -- s
  refine asgO (fun d hd => ⟨_, rfl, show 0 ≤ sizeLine by decide, fun lC hC => ⟨show 0 ≤ sizeLine by decide, fun lV hV => ⟨?_, [((Sum.inr "types" : Key), v4), (Sum.inr "casts", .ref lC), (Sum.inr "versions", .ref lV)], rfl, show 3 ≤ 15 by decide, ?_⟩⟩⟩)
  · have h1 : d ≠ lC := fun z => by rw [← z, upd_same] at hC; cases hC
    have h2 : d ≠ lV := fun z => by rw [← z, upd_ne h1, upd_same] at hV; cases hV
    rw [upd_ne h2, upd_ne h1, upd_same]
  have hm : mergeK [] [((Sum.inr "types" : Key), v4), (Sum.inr "casts", .ref lC), (Sum.inr "versions", .ref lV)] = [((Sum.inr "types" : Key), v4), (Sum.inr "casts", .ref lC), (Sum.inr "versions", .ref lV)] :=
    mergeK_new _ [] (show ([Sum.inr "types", Sum.inr "casts", Sum.inr "versions"] : List Key).Nodup by decide)
  rw [hm]
  have dC : lC ≠ d := fun z => by rw [z, upd_same] at hC; cases hC
  have dV : lV ≠ d := fun z => by
    rw [z, upd_ne (Ne.symm dC), upd_same] at hV; cases hV
  have CV : lC ≠ lV := fun z => by rw [← z, upd_same] at hV; cases hV
  have hC1 : H1 lC = none := by rw [upd_ne dC] at hC; exact hC
  have hV1 : H1 lV = none := by rw [upd_ne (Ne.symm CV), upd_ne dV] at hV; exact hV
  have nd : H d = none := g1.old o hd
  have nC : H lC = none := g1.old o hC1
  have nV : H lV = none := g1.old o hV1
  have fd : F1 d = none := same_none o1.s hd
  have fC : F1 lC = none := same_none o1.s hC1
  have fV : F1 lV = none := same_none o1.s hV1
  have g2 := (((((g1.temp (u := .dK []) hd).temp (u := .lst []) hC).temp (u := .lst []) hV).mutN (m := d) (u := .dK [((Sum.inr "types" : Key), v4), (Sum.inr "casts", .ref lC), (Sum.inr "versions", .ref lV)]) o nd fd)).keepL nd fd upd_same
  change t_scC K _ [some (.ref p), some (.int most), some (.int edges), some (.int uses), some v4, some (.ref d), none, none, none, none, none, none, none, none] (upd (upd (upd (upd H1 d (.dK [])) lC (.lst [])) lV (.lst [])) d (.dK [((Sum.inr "types" : Key), v4), (Sum.inr "casts", .ref lC), (Sum.inr "versions", .ref lV)]))
  generalize hH2 : upd (upd (upd (upd H1 d (.dK [])) lC (.lst [])) lV (.lst [])) d (.dK [((Sum.inr "types" : Key), v4), (Sum.inr "casts", .ref lC), (Sum.inr "versions", .ref lV)]) = H2 at g2 ⊢
  generalize hF2 : upd F1 d (.dK [((Sum.inr "types" : Key), v4), (Sum.inr "casts", .ref lC), (Sum.inr "versions", .ref lV)]) = F2 at g2
  have hC2 : H2 lC = some (.lst []) := by rw [← hH2, upd_ne dC, upd_ne CV, upd_same]
  have hV2 : H2 lV = some (.lst []) := by rw [← hH2, upd_ne dV, upd_same]
  have fC2 : F2 lC = none := by rw [← hF2, upd_ne dC]; exact fC
  have fV2 : F2 lV = none := by rw [← hF2, upd_ne dV]; exact fV
  have hD : DkX v4 lC lV (.ref d) F2 := ⟨d, [v4, .ref lC, .ref lV], rfl, by rw [← hF2, upd_same]; rfl, .cons rfl (.cons rfl (.cons rfl .nil)), rfl⟩
  have hT2 : Txts ts v4 F2 := by rw [← hF2]; exact Txts.mo ts _ _ _ (same_upd fd) hT
  clear hH2 hF2
  have o2 := g2.ok o
  have nmC : lC ∉ (Wp p).M := notM o nC
  have nmV : lV ∉ (Wp p).M := notM o nV
  -- casts
  have hB : EvW (Wp p) (WordsP fun k => k < edges + 1) (tCall spWords [] E0 (tCons (tVar 0) (tCons (tCall spDraw [] E0 (tCons (tVar 0) (tCons (tOp oAdd (tVar 2) (tC (.int 1))) tNil))) tNil))) [some (.ref p), some (.int most), some (.int edges), some (.int uses), some v4, some (.ref d), none, none, none, none, none, none, none, none] F2 H2 :=
    ev_words o2 rfl (fun n hn => by omega) (dr_most (n := edges + 1) (ev_draw (n := ((edges + 1 : Nat) : Int)) o2 rfl (by omega) (by omega) (ev_op o2 (Is.mo (.int edges)) (ev_var o2 (Is.mo _) rfl rfl) (ev_c (v := .int 1) o2 fun _ => rfl) (by have := ow_int (w := Wp p) (g := fun i j => V.int (i + j)) (i := (edges : Int)) (j := 1); rw [Int.natCast_add]; exact this))))
  refine q_forX o2 hB fun wv F3 H3 g3 rw3 => ?_
  obtain ⟨ws, hwl, Nw, hW⟩ := rw3
  have o3 := g3.ok o2
  have g13 := g2.trans o g3
  have I0 : L1 lC ts ws 0 F2 H2 [] [] := ⟨fC2, hC2, .nil, by simp, fun _ z => nomatch z⟩
  have I3 := I0.on nmC g3
  have hM1 : ∀ m ∈ [lC], m ∉ (Wp p).M := fun m hm => by rw [List.mem_singleton.mp hm]; exact nmC
  have oL := o3.addL (M := [lC]) fun m hm => by rw [List.mem_singleton.mp hm]; exact ⟨I3.g, by rw [I3.h]; exact nofun⟩
  have hT3 := Txts.mo ts _ _ _ g3.g.ff hT2
  have hD3 := DkX.mo v4 lC lV _ _ _ g3.g.ff hD
  have hj := ej_list (K := K) (tl := tC wv) (σ := [some (.ref p), some (.int most), some (.int edges), some (.int uses), some v4, some (.ref d), none, none, none, none, none, none, none, none]) (Sub.addL hM1) oL (mosS ws) (ev_cR (Txts.mo ws) o3 hW)
  have hwm : (ws.map fun y => Is (.str y)).length = ws.length := List.length_map ..
  refine q_forJ (Sub.addL hM1) oL hj (fun i σ' G H' => (∃ x6 x7 x8, σ' = [some (.ref p), some (.int most), some (.int edges), some (.int uses), some v4, some (.ref d), x6, x7, x8, none, none, none, none, none]) ∧ ∃ cs vs, L1 lC ts ws i G H' cs vs)
    (fun F' H' g => ⟨⟨_, _, _, rfl⟩, _, _, I3.on nmC g⟩) (fun i x σ' G0 H0 G H' N hi g0 iv g4 hx k2 => ?_) fun σ' G H' g iv => ?_
  · obtain ⟨⟨x6, x7, x8, rfl⟩, cs, vs, I⟩ := iv
    obtain ⟨R, hR, r⟩ := hx
    have hi' : i < ws.length := by rw [← hwm]; exact hi
    rw [List.getElem?_map, List.getElem?_eq_getElem hi'] at hR
    cases hR
    obtain rfl := r
    have o0 := g0.ok oL
    have oo := ((Sub.addL hM1).gw _ _ _ _ o0 g4).ok o0
    have ff := g0.g.ff.trans g4.g.ff
    change t_l1B K _ [some (.ref p), some (.int most), some (.int edges), some (.int uses), some v4, some (.ref d), some (.str ws[i]), x7, x8, none, none, none, none, none] H'
    exact pure_l1B rfl List.mem_cons_self hM1 hi' (by omega) (by omega) (by omega) oo (I.on nmC g4) (Txts.mo ts _ _ _ ff hT3) (DkX.mo v4 lC lV _ _ _ ff hD3) fun σ' G1 H1 cs1 vs1 hσ g5 I5 => k2 σ' G1 H1 g5 ⟨hσ, cs1, vs1, I5⟩
  obtain ⟨⟨x6, x7, x8, rfl⟩, cs, cvs, IC⟩ := iv
  rw [hwm] at IC
  have G4 := Gw.addDrop o g13 g fun m hm => by rw [List.mem_singleton.mp hm]; exact nC
  have o4 := G4.ok o
  have hT4 := Txts.mo ts _ _ _ g.g.ff hT3
  have hD4 := DkX.mo v4 lC lV _ _ _ g.g.ff hD3
  have nVL : lV ∉ ((Wp p).addL [lC]).M := fun z => by
    rcases List.mem_append.mp z with z | z
    · exact CV (List.mem_singleton.mp z).symm
    · exact nmV z
  have fV4 : G lV = none := g.g.nw lV (g3.g.nw lV fV2 (by rw [hV2]; exact nofun)) (by rw [g3.g.hh lV _ nmV hV2]; exact nofun)
  have hV4 : H' lV = some (.lst []) := g.g.hh lV _ nVL (g3.g.hh lV _ nmV hV2)
  -- operators
  change t_scD K _ [some (.ref p), some (.int most), some (.int edges), some (.int uses), some v4, some (.ref d), x6, x7, x8, none, none, none, none, none] H'
  have hE : EvW (Wp p) (WordsP fun k => k = 2) (tCall spWords [] E0 (tCons (tVar 0) (tCons (tC (.int 2)) tNil))) [some (.ref p), some (.int most), some (.int edges), some (.int uses), some v4, some (.ref d), x6, x7, x8, none, none, none, none, none] G H' :=
    ev_words o4 rfl (fun n hn => by omega) (ev_c o4 fun _ => ⟨2, rfl, rfl⟩)
  refine q_asgS (fun v => [some (.ref p), some (.int most), some (.int edges), some (.int uses), some v4, some (.ref d), x6, x7, x8, some v, none, none, none, none]) o4 hE fun v9 F5 H5 g5 r9 => ?_
  obtain ⟨os, hol, No, hO⟩ := r9
  obtain ⟨o0, o1', rfl⟩ : ∃ a b, os = [a, b] := by
    match os, hol with
    | [a, b], _ => exact ⟨a, b, rfl⟩
  have o5 := g5.ok o4
  -- arities
  have hadd : EvW (Wp p) (AtMost fun k => ∃ j, j < 2 ∧ k = 1 + j) (tOp oAdd (tC (.int 1)) (tCall spDraw [] E0 (tCons (tVar 0) (tCons (tC (.int 2)) tNil)))) [some (.ref p), some (.int most), some (.int edges), some (.int uses), some v4, some (.ref d), x6, x7, x8, some v9, none, none, none, none] F5 H5 :=
    ev_op o5 (Is.mo (.int (1 : Nat))) (ev_c o5 fun _ => rfl) (dr_most (n := 2) (ev_draw (n := ((2 : Nat) : Int)) o5 rfl (by decide) (by decide) (ev_c o5 fun _ => rfl))) (ow_addMost (c := 1))
  have mA : ∀ R ∈ [AtMost fun k => ∃ j, j < 2 ∧ k = 1 + j, AtMost fun k => ∃ j, j < 2 ∧ k = 1 + j], Mo R := mos_cons (AtMost.mo _) (mos_cons (AtMost.mo _) mos_nil)
  refine q_asgS (fun v => [some (.ref p), some (.int most), some (.int edges), some (.int uses), some v4, some (.ref d), x6, x7, x8, some v9, some v, none, none, none]) o5 (ev_lst o5 mA (ea_cons o5 (AtMost.mo _) hadd (ea_cons o5 (AtMost.mo _) hadd (ea_nil o5))) (show 2 ≤ 100000 by decide)) fun v10 F6 H6 g6 r10 => ?_
  obtain ⟨l10, us10, rfl, hl10, al10⟩ := r10
  obtain ⟨y0, y1, rfl, ⟨a0, rfl, ha0⟩, ⟨a1, rfl, ha1⟩⟩ := two_args al10
  have h10 : Li [Is (.int (a0 : Nat)), Is (.int (a1 : Nat))] (.ref l10) F6 := ⟨l10, _, rfl, hl10, .cons rfl (.cons rfl .nil)⟩
  have a0b : 1 ≤ a0 ∧ a0 ≤ 2 := by obtain ⟨j, h1, h2⟩ := ha0; omega
  have a1b : 1 ≤ a1 ∧ a1 ≤ 2 := by obtain ⟨j, h1, h2⟩ := ha1; omega
  have o6 := g6.ok o5
  have g46 := g5.trans o4 g6
  -- versions
  have hG : EvW (Wp p) (WordsP fun k => k < uses + 1) (tCall spWords [] E0 (tCons (tVar 0) (tCons (tCall spDraw [] E0 (tCons (tVar 0) (tCons (tOp oAdd (tVar 3) (tC (.int 1))) tNil))) tNil))) [some (.ref p), some (.int most), some (.int edges), some (.int uses), some v4, some (.ref d), x6, x7, x8, some v9, some (.ref l10), none, none, none] F6 H6 :=
    ev_words o6 rfl (fun n hn => by omega) (dr_most (n := uses + 1) (ev_draw (n := ((uses + 1 : Nat) : Int)) o6 rfl (by omega) (by omega) (ev_op o6 (Is.mo (.int uses)) (ev_var o6 (Is.mo _) rfl rfl) (ev_c (v := .int 1) o6 fun _ => rfl) (by have := ow_int (w := Wp p) (g := fun i j => V.int (i + j)) (i := (uses : Int)) (j := 1); rw [Int.natCast_add]; exact this))))
  refine q_forX o6 hG fun zv F7 H7 g7 rz => ?_
  obtain ⟨zs, hzl, Nz, hZ⟩ := rz
  have o7 := g7.ok o6
  have g47 := g46.trans o4 g7
  have G7 := G4.trans o g47
  have IC7 := IC.on nmC g47
  have fV7 : F7 lV = none := g47.g.nw lV fV4 (by rw [hV4]; exact nofun)
  have hV7 : H7 lV = some (.lst []) := g47.g.hh lV _ nmV hV4
  have J7 : L2' lV ts zs o0 o1' a0 a1 0 F7 H7 [] [] := ⟨fV7, hV7, .nil, by simp, fun _ z => nomatch z⟩
  have hM2 : ∀ m ∈ [lV], m ∉ (Wp p).M := fun m hm => by rw [List.mem_singleton.mp hm]; exact nmV
  have oL2 := o7.addL (M := [lV]) fun m hm => by rw [List.mem_singleton.mp hm]; exact ⟨fV7, by rw [hV7]; exact nofun⟩
  have hT7 := Txts.mo ts _ _ _ g47.g.ff hT4
  have hD7 := DkX.mo v4 lC lV _ _ _ g47.g.ff hD4
  have hO7 := Txts.mo _ _ _ _ (g6.g.ff.trans g7.g.ff) hO
  have m10 : ∀ R ∈ [Is (.int (a0 : Nat)), Is (.int (a1 : Nat))], Mo R := mos_cons (Is.mo _) (mos_cons (Is.mo _) mos_nil)
  have h107 := Li.mo m10 _ _ _ g7.g.ff h10
  have hj2 := ej_list (K := K) (tl := tC zv) (σ := [some (.ref p), some (.int most), some (.int edges), some (.int uses), some v4, some (.ref d), x6, x7, x8, some v9, some (.ref l10), none, none, none]) (Sub.addL hM2) oL2 (mosS zs) (ev_cR (Txts.mo zs) o7 hZ)
  have hzm : (zs.map fun y => Is (.str y)).length = zs.length := List.length_map ..
  refine q_forJ (Sub.addL hM2) oL2 hj2 (fun i σ' G H' => (∃ x6 x11 x12 x13, σ' = [some (.ref p), some (.int most), some (.int edges), some (.int uses), some v4, some (.ref d), x6, x7, x8, some v9, some (.ref l10), x11, x12, x13]) ∧ ∃ cs vs, L2' lV ts zs o0 o1' a0 a1 i G H' cs vs)
    (fun F' H' g => ⟨⟨_, _, _, _, rfl⟩, _, _, J7.on nmV g⟩) (fun i x σ' G0 H0 G H' N hi g0 iv g4 hx k2 => ?_) fun σ' G8 H8 g8 iv => ?_
  · obtain ⟨⟨x6, x11, x12, x13, rfl⟩, cs, vs, I⟩ := iv
    obtain ⟨R, hR, r⟩ := hx
    have hi' : i < zs.length := by rw [← hzm]; exact hi
    rw [List.getElem?_map, List.getElem?_eq_getElem hi'] at hR
    cases hR
    obtain rfl := r
    have oo0 := g0.ok oL2
    have oo := ((Sub.addL hM2).gw _ _ _ _ oo0 g4).ok oo0
    have ff := g0.g.ff.trans g4.g.ff
    change t_l2B K _ [some (.ref p), some (.int most), some (.int edges), some (.int uses), some v4, some (.ref d), some (.str zs[i]), x7, x8, some v9, some (.ref l10), x11, x12, x13] H'
    exact pure_l2B rfl List.mem_cons_self hM2 a0b.2 a1b.2 hi' (by omega) (by omega) (by omega) oo (I.on nmV g4) (Txts.mo ts _ _ _ ff hT7) (DkX.mo v4 lC lV _ _ _ ff hD7) (Txts.mo _ _ _ _ ff hO7) (Li.mo m10 _ _ _ ff h107) fun σ' G1 H1 cs1 vs1 hσ g5 I5 => k2 σ' G1 H1 g5 ⟨hσ, cs1, vs1, I5⟩
  obtain ⟨⟨x6', x11, x12, x13, rfl⟩, rs, rvs, IV⟩ := iv
  rw [hzm] at IV
  have G8' := Gw.addDrop o G7 g8 fun m hm => by rw [List.mem_singleton.mp hm]; exact nV
  have nCL : lC ∉ ((Wp p).addL [lV]).M := fun z => by
    rcases List.mem_append.mp z with z | z
    · exact CV (List.mem_singleton.mp z)
    · exact nmC z
  have IC8 := IC7.on nCL g8
  have GK := G8'.keepA (A := [lC, lV]) fun a ha => by
    rcases List.mem_cons.mp ha with rfl | ha
    · exact ⟨nC, IC8.g⟩
    · rw [List.mem_singleton.mp ha]; exact ⟨nV, IV.g⟩
  have o8 := G8'.ok o
  have sK := kn_same (A := [lC, lV]) o8.s
  have slC := IC8.sl
  have slV := IV.sl
  rw [List.take_length] at slC slV
  have lenC : cs.length ≤ ws.length := by have := slC.length_le; rw [List.length_map] at this; exact this
  have lenV : rs.length ≤ zs.length := by have := slV.length_le; rw [List.length_map] at this; exact this
  have hne : o0 ≠ o1' := fun z => by have := No.nd; rw [z] at this; simp at this
  refine ⟨_, rfl, q (.ref d) _ _ GK ⟨ts, cs, rs, ⟨Nt.nd, Nt.nm, by omega, by omega, Nw.nd.sublist slC, fun c hc => Nw.nm _ (slC.subset (List.mem_map.mpr ⟨c, hc, rfl⟩)), by omega, IC8.e, Nz.nd.sublist slV, fun c hc => Nz.nm _ (slV.subset (List.mem_map.mpr ⟨c, hc, rfl⟩)), by omega, fun v hv => ?_, fun x => if x = o0 then a0 else a1, fun v hv => ?_⟩, ?_⟩⟩
  · obtain ⟨h1, h2, h3⟩ := IV.e v hv
    refine ⟨?_, ?_, ?_, h2, h3⟩
    · rcases h1 with ⟨e, _⟩ | ⟨e, _⟩
      · rw [e]; exact No.nm _ List.mem_cons_self
      · rw [e]; exact No.nm _ (List.mem_cons_of_mem _ List.mem_cons_self)
    · intro z
      rcases h1 with ⟨_, e⟩ | ⟨_, e⟩ <;> rw [z] at e <;> simp at e <;> omega
    · rcases h1 with ⟨_, e⟩ | ⟨_, e⟩ <;> omega
  · show _ = if v.2.1 = o0 then a0 else a1
    rcases (IV.e v hv).1 with ⟨e, h⟩ | ⟨e, h⟩
    · rw [e, if_pos rfl]; exact h
    · rw [e, if_neg (Ne.symm hne)]; exact h
  · obtain ⟨d', us, e, hd', al', hl'⟩ := DkX.mo v4 lC lV _ _ _ (g8.g.ff.trans sK) hD7
    obtain ⟨z1, z2, z3, rfl, q1, q2, q3⟩ := three_args al'
    obtain rfl : z1 = v4 := q1
    obtain rfl : z2 = .ref lC := q2
    obtain rfl : z3 = .ref lV := q3
    refine ⟨d', _, e, hd', .cons (Txts.mo ts _ _ _ (g8.g.ff.trans sK) hT7) (.cons ⟨lC, cvs, rfl, by rw [kn_in List.mem_cons_self]; exact IC8.h, IC8.al.mono sK (mos_map cTu.mo _)⟩ (.cons ⟨lV, rvs, rfl, by rw [kn_in (List.mem_cons_of_mem _ List.mem_cons_self)]; exact IV.h, IV.al.mono sK (mos_map vTu.mo _)⟩ .nil)), rfl⟩
end QW

set_option Elab.async false
set_option linter.all false
set_option maxRecDepth 100000
set_option maxHeartbeats 1000000
/-! QUps: _law_ups: rounds over the casts until all is reached. -/
namespace QW
open PySem PySem.Spec PyProof.Rows L2 QR
/-- reached by so many casts at most -/
def RN (cs : List Cst) : Nat → Str → Str → Prop
  | 0, a, b => a = b
  | n + 1, a, b => a = b ∨ ∃ c ∈ cs, c.2.1 = a ∧ RN cs n c.2.2 b
theorem RN.self {cs : List Cst} : ∀ (n : Nat) (a : Str), RN cs n a a
  | 0, _ => rfl
  | _ + 1, _ => .inl rfl
theorem RN.succ {cs : List Cst} : ∀ {n : Nat} {a b : Str}, RN cs n a b → RN cs (n + 1) a b
  | 0, _, _, h => .inl h
  | n + 1, a, b, h => by
    rcases h with h | ⟨c, hc, e, r⟩
    · exact .inl h
    · exact .inr ⟨c, hc, e, RN.succ r⟩
theorem RN.le {cs : List Cst} {n m : Nat} {a b : Str} (h : RN cs n a b) (l : n ≤ m) : RN cs m a b := by
  induction l with
  | refl => exact h
  | step _ ih => exact ih.succ
theorem RN.of {ts : List Str} {cs : List Cst} (nd : ts.Nodup) (ce : ∀ c ∈ cs, ∃ i j : Nat, i < j ∧ ts[i]? = some c.2.1 ∧ ts[j]? = some c.2.2) {a b : Str} (r : Reach cs a b) : ∀ i : Nat, ts[i]? = some a → RN cs (ts.length - i) a b := by
  induction r with
  | refl a => exact fun i _ => RN.self _ a
  | @step n a c b m r ih =>
    intro i hi
    obtain ⟨i', j', hlt, h1, h2⟩ := ce _ m
    have l1 := (List.getElem?_eq_some_iff.mp hi).1
    have l2 := (List.getElem?_eq_some_iff.mp h2).1
    have e : i = i' := (List.getElem?_inj (l := ts) l1 nd).mp (by rw [hi, h1])
    have q := ih j' h2
    have : RN cs (ts.length - j' + 1) a b := .inr ⟨_, m, rfl, q⟩
    exact this.le (by omega)
theorem RN.reach {cs : List Cst} : ∀ {n : Nat} {a b : Str}, RN cs n a b → Reach cs a b
  | 0, _, _, h => h ▸ .refl _
  | n + 1, a, b, h => by
    rcases h with h | ⟨c, hc, e, r⟩
    · exact h ▸ .refl _
    · obtain ⟨n0, a0, c0⟩ := c
      dsimp only at e r
      subst e
      exact .step hc r.reach
theorem Al.set {F : Hp} : ∀ {Rs : List Pr} {vs : List V} (i : Nat) {R : Pr} {v : V}, Al Rs vs F → R v F → Al (Rs.set i R) (vs.set i v) F
  | _, _, _, _, _, .nil, _ => .nil
  | _, _, 0, _, _, .cons _ r, h => .cons h r
  | _, _, i + 1, _, _, .cons a r, h => .cons a (r.set i h)
theorem putK_set {k : Str} {v : V} : ∀ {ks : List Str} {us : List V} {i : Nat}, ks.Nodup → ks[i]? = some k → us.length = ks.length → putK ((ks.zip us).map QSo.entK) (Sum.inr k : Key) v = ((ks.zip (us.set i v)).map QSo.entK) := by
  intro ks us i nd hi hl
  have hm : k ∈ ks := List.mem_of_getElem? hi
  obtain ⟨v0, hv0⟩ := valV_some hm hl
  unfold putK
  rw [valV_any, hv0, if_pos (show (some v0).isSome = true from rfl)]
  clear hv0 hm
  induction ks generalizing us i with
  | nil => simp at hi
  | cons a ks ih =>
    cases us with
    | nil => cases hl
    | cons b us =>
      rw [List.nodup_cons] at nd
      cases i with
      | zero =>
        simp only [List.getElem?_cons_zero, Option.some.injEq] at hi
        subst hi
        rw [List.set_cons_zero, List.zip_cons_cons, List.zip_cons_cons, List.map_cons, List.map_cons, List.map_cons, if_pos rfl]
        congr 1
        refine List.map_congr_left (g := id) (fun kv hkv => if_neg fun z => ?_) |>.trans (List.map_id _)
        obtain ⟨q, hq, rfl⟩ := List.mem_map.mp hkv
        have : q.1 ∈ ks := (List.of_mem_zip hq).1
        exact nd.1 ((Sum.inr.inj z) ▸ this)
      | succ i =>
        rw [List.getElem?_cons_succ] at hi
        rw [List.set_cons_succ, List.zip_cons_cons, List.zip_cons_cons, List.map_cons, List.map_cons, List.map_cons, ih nd.2 hi (by simpa using hl), if_neg]
        exact fun z => nd.1 (by have e : a = k := Sum.inr.inj z; rw [e]; exact List.mem_of_getElem? hi)
/-- how far it has come: r whole rounds and i casts -/
structure UpM (d : Addr) (ts : List Str) (cs : List Cst) (r i : Nat) (G H' : Hp) (u : Ups) (us : List V) : Prop where
  g : G d = none
  h : H' d = some (.dK (((u.map (·.1)).zip us).map QSo.entK))
  al : Al (u.map fun e => Txts e.2) us G
  k : u.map (·.1) = ts
  nd : ∀ e ∈ u, e.2.Nodup
  so : ∀ e ∈ u, ∀ x ∈ e.2, Reach cs e.1 x
  c1 : ∀ e ∈ u, ∀ x, RN cs r e.1 x → x ∈ e.2
  c2 : ∀ c ∈ cs.take i, ∀ e ∈ u, e.1 = c.2.1 → ∀ x, RN cs r c.2.2 x → x ∈ e.2
section
variable {K : PySem.W.Frag} {d : Addr} {ts : List Str} {cs : List Cst} {vs : List Ver} {r i : Nat} {G H' : Hp} {u : Ups} {us : List V} {D : Ends} {v0 : V}
theorem UpM.on (h : UpM d ts cs r i G H' u us) {G1 H1 : Hp} (g : Gw W0 G H' G1 H1) : UpM d ts cs r i G1 H1 u us := ⟨g.g.nw d h.g (by rw [h.h]; exact nofun), g.same _ _ h.h, h.al.mono g.g.ff (mos_map (f := fun e : Str × List Str => Txts e.2) (fun e => Txts.mo _) _), h.k, h.nd, h.so, h.c1, h.c2⟩
theorem UpM.round (h : UpM d ts cs r cs.length G H' u us) : UpM d ts cs (r + 1) 0 G H' u us := ⟨h.g, h.h, h.al, h.k, h.nd, h.so, fun e he x hx => by
    rcases hx with hx | ⟨c, hc, e1, hx⟩
    · exact h.c1 e he x (hx ▸ RN.self r e.1)
    · exact h.c2 c (by rw [List.take_length]; exact hc) e he e1.symm x hx, fun c hc => by simp at hc⟩
def t_upB (K : PySem.W.Frag) : TS := sDPut (tVar 1) (tVar 5) (tOp rCat (tDGet (tVar 1) (tVar 5)) (tLc (iList K (tDGet (tVar 1) (tVar 6))) (gName 7) (tTest (tOp (rIn K true) (tVar 7) (tDGet (tVar 1) (tVar 5)))) (tVar 7) [7]))
theorem pure_upB {x2 x3 x4 x7 : Option V} (hi : i < cs.length) (nd : ts.Nodup) (tl : ts.length ≤ 1000) (ce : ∀ c ∈ cs, ∃ i j : Nat, i < j ∧ ts[i]? = some c.2.1 ∧ ts[j]? = some c.2.2) (o : Ok (Wl [d]) G H') (I : UpM d ts cs r i G H' u us)
    (k : ∀ G1 H1 u1 us1, Gw (Wl [d]) G H' G1 H1 → UpM d ts cs r (i + 1) G1 H1 u1 us1 → D.nx [some v0, some (.ref d), x2, x3, x4, some (.str cs[i].2.1), some (.str cs[i].2.2), x7] H1) :
    t_upB K D [some v0, some (.ref d), x2, x3, x4, some (.str cs[i].2.1), some (.str cs[i].2.2), x7] H' := by
  have hc := List.getElem_mem hi
  have htk : cs.take (i + 1) = cs.take i ++ [cs[i]] := List.take_succ_eq_append_getElem hi
  obtain ⟨a, b, hab, ha, hb⟩ := ce _ hc
  generalize hcc : cs[i] = c at *
  obtain ⟨nme, s, t⟩ := c
  dsimp only at ha hb k ⊢
  have ndu : (u.map (·.1)).Nodup := by rw [I.k]; exact nd
  have hua : (u.map (·.1))[a]? = some s := by rw [I.k]; exact ha
  have hub : (u.map (·.1))[b]? = some t := by rw [I.k]; exact hb
  obtain ⟨⟨s', su⟩, hsu, hs'⟩ : ∃ e, u[a]? = some e ∧ e.1 = s := by
    rw [List.getElem?_map] at hua
    cases h : u[a]? with
    | none => rw [h] at hua; cases hua
    | some e => rw [h] at hua; cases hua; exact ⟨e, rfl, rfl⟩
  obtain rfl : s' = s := hs'
  obtain ⟨⟨t', tu⟩, htu, ht'⟩ : ∃ e, u[b]? = some e ∧ e.1 = t := by
    rw [List.getElem?_map] at hub
    cases h : u[b]? with
    | none => rw [h] at hub; cases hub
    | some e => rw [h] at hub; cases hub; exact ⟨e, rfl, rfl⟩
  obtain rfl : t' = t := ht'
  have hsm := List.mem_of_getElem? hsu
  have htm := List.mem_of_getElem? htu
  have memb : ∀ e ∈ u, e.2.length ≤ 1000 := fun e he => by
    refine Nat.le_trans (nodup_le _ ts (I.nd e he) fun x hx => ?_) tl
    refine Reach.in_ (fun c h => ?_) (I.so e he x hx) ?_
    · obtain ⟨_, j, _, _, h2⟩ := ce c h
      exact List.mem_of_getElem? h2
    · rw [← I.k]
      exact List.mem_map.mpr ⟨e, he, rfl⟩
  have oZ := o.zero
  have sK := kn_same (A := [d]) oZ.s
  have oK := oZ.kn (A := [d])
  have mU := mos_map (f := fun e : Str × List Str => Txts e.2) (fun e => Txts.mo _) u
  have hU : upD u (.ref d) (kn [d] G H') := ⟨d, us, rfl, by rw [kn_in List.mem_cons_self]; exact I.h, I.al.mono sK mU, by rw [List.length_map, List.length_map]⟩
  have get : ∀ (F1 H1 : Hp) (σ : L2.St) (j : Nat) (nm : Str) (n : Nat) (l : List Str), Ok W0 F1 H1 → upD u (.ref d) F1 → σ[1]? = some (some (.ref d)) → σ[j]? = some (some (.str nm)) → u[n]? = some (nm, l) → EvW W0 (Txts l) (tDGet (tVar 1) (tVar j)) σ F1 H1 := fun F1 H1 σ j nm n l o1 hu h1 hj hn =>
    ev_dget (ks := u.map (·.1)) (Rs := u.map fun e => Txts e.2) (R := Txts l) (k := nm) (i := n) o1 mU (ev_var o1 (upD.mo u) h1 hu) (ev_var o1 (Is.mo _) hj rfl) ndu (by rw [List.getElem?_map, hn]; rfl) (by rw [List.getElem?_map, hn]; rfl)
  have hf : EvW W0 (Txts (tu.filter fun y => !decide (y ∈ su))) (tLc (iList K (tDGet (tVar 1) (tVar 6))) (gName 7) (tTest (tOp (rIn K true) (tVar 7) (tDGet (tVar 1) (tVar 5)))) (tVar 7) [7]) [some v0, some (.ref d), x2, x3, x4, some (.str s'), some (.str t'), x7] (kn [d] G H') H' :=
    compN_list (f := fun y : Str => Is (.str y)) (gg := fun y : Str => Is (.str y)) (p := fun y => !decide (y ∈ su)) oK (get _ _ _ 6 t' b tu oK hU rfl rfl htu) (fun _ => rfl) (fun _ => Is.mo _) (fun _ => Is.mo _) (by have := memb _ htm; dsimp only at this; omega)
      (fun y z G2 H2 hy hz g2 => by
        obtain rfl : z = .str y := hz
        have o2 := g2.ok oK
        exact et_val (ev_op o2 (Is.mo _) (ev_var o2 (Is.mo _) rfl rfl) (get _ _ _ 5 s' a su o2 (upD.mo u _ _ _ g2.g.ff hU) rfl rfl hsu) ow_notInS)) fun y z G2 H2 hy _ hz g2 => ev_var (g2.ok oK) (Is.mo _) rfl hz
  have hcat := eo_cat oK (mosS _) (mosS _) (by rw [List.length_map, List.length_map]; have h1 := memb _ hsm; have h2 := memb _ htm; have h3 := List.length_filter_le (fun y => !decide (y ∈ su)) tu; dsimp only at h1 h2; omega) (get _ _ [some v0, some (.ref d), x2, x3, x4, some (.str s'), some (.str t'), x7] 5 s' a su oK hU rfl rfl hsu) hf
  refine dputO (hcat _ _ oK.refl _ fun p ws F2 H2 g2 np nF hp al2 => ?_)
  rw [← List.map_append] at al2
  obtain rfl : ws = sv (su ++ tu.filter fun y => !decide (y ∈ su)) := al2.is
  have gf := Gw.forget oZ sK g2
  have fp : G p = none := same_none oZ.s np
  have g3 : Gw W0 G H' (upd G p (.lst (sv (su ++ tu.filter fun y => !decide (y ∈ su))))) H2 := gf.keepL np fp hp
  have I3 := I.on g3
  have hl : us.length = (u.map (·.1)).length := by rw [List.length_map, (al_map (f := fun e : Str × List Str => Txts e.2) I.al).1]
  refine ⟨_, rfl, _, rfl, d, _, rfl, DPut.k (k := (Sum.inr s' : Key)) I3.h (Evl.sz_lt ?_), ?_⟩
  · rw [List.length_map, List.length_zip, hl, Nat.min_self, List.length_map]
    have := congrArg List.length I.k
    rw [List.length_map] at this
    omega
  rw [putK_set ndu hua hl]
  have hua' := hua
  rw [I.k] at hua'
  have hk' : (u.set a (s', su ++ tu.filter fun y => !decide (y ∈ su))).map (·.1) = ts := by
    rw [List.map_set, I.k]
    have hlt := (List.getElem?_eq_some_iff.mp hua').1
    have e : ts[a] = s' := (List.getElem?_eq_some_iff.mp hua').2
    show ts.set a s' = ts
    rw [← e]
    exact List.set_getElem_self hlt
  have hset : ∀ e ∈ u.set a (s', su ++ tu.filter fun y => !decide (y ∈ su)), e ∈ u ∨ e = (s', su ++ tu.filter fun y => !decide (y ∈ su)) := fun e he => List.mem_or_eq_of_mem_set he
  have hin : (s', su ++ tu.filter fun y => !decide (y ∈ su)) ∈ u.set a (s', su ++ tu.filter fun y => !decide (y ∈ su)) := List.mem_set (List.getElem?_eq_some_iff.mp hsu).1 _
  refine k _ _ (u.set a (s', su ++ tu.filter fun y => !decide (y ∈ su))) (us.set a (.ref p)) ((g3.of0 o).mutL (.inl List.mem_cons_self) I3.g) ⟨I3.g, by rw [upd_same, I.k, hk'], ?_, hk', fun e he => ?_, fun e he x hx => ?_, fun e he x hx => ?_, fun c' hc' e he ee x hx => ?_⟩
  · rw [List.map_set]
    exact I3.al.set a ⟨p, _, rfl, upd_same, al_strs _⟩
  · rcases hset e he with he | rfl
    · exact I.nd e he
    · refine List.nodup_append.mpr ⟨I.nd _ hsm, List.Nodup.sublist List.filter_sublist (I.nd _ htm), fun x hx y hy z => ?_⟩
      have := (List.mem_filter.mp hy).2
      rw [z] at hx
      simp [hx] at this
  · rcases hset e he with he | rfl
    · exact I.so e he x hx
    · rcases List.mem_append.mp hx with hx | hx
      · exact I.so _ hsm x hx
      · exact .step (n := nme) hc (I.so _ htm x (List.mem_filter.mp hx).1)
  · rcases hset e he with he | rfl
    · exact I.c1 e he x hx
    · exact List.mem_append_left _ (I.c1 _ hsm x hx)
  · have ndk : ((u.set a (s', su ++ tu.filter fun y => !decide (y ∈ su))).map (·.1)).Nodup := by rw [hk']; exact nd
    rw [htk] at hc'
    rcases List.mem_append.mp hc' with hc' | hc'
    · rcases hset e he with he | rfl
      · exact I.c2 c' hc' e he ee x hx
      · exact List.mem_append_left _ (I.c2 c' hc' _ hsm ee x hx)
    · have e2 := List.mem_singleton.mp hc'
      subst e2
      have e3 : e = (s', su ++ tu.filter fun y => !decide (y ∈ su)) := QSo.nodup_inj ndk e he _ hin ee
      rw [e3]
      have hx2 : x ∈ tu := I.c1 _ htm x hx
      by_cases h : x ∈ su
      · exact List.mem_append_left _ h
      · exact List.mem_append_right _ (List.mem_filter.mpr ⟨hx2, by simp [h]⟩)
def t_ups (K : PySem.W.Frag) : TS := tSeq (tAsg (tCB (QK.rDictP K) (tCons (tLc (iList K (tDGet (tVar 0) (tC (.str "types")))) (gName 2) tYes (tTup (tCons (tVar 2) (tCons (tLst (tCons (tVar 2) tNil)) tNil))) [2]) tNil)) (gName 1))
  (tSeq (tFor (iList K (tDGet (tVar 0) (tC (.str "types")))) (gName 3) (tFor (iList K (tDGet (tVar 0) (tC (.str "casts")))) (gTup K 3 (gCons (gName 4) (gCons (gName 5) (gCons (gName 6) gNil)))) (t_upB K))) (tRet (tVar 1)))
theorem pairs_of {F : Hp} : ∀ {ts : List Str} {vs : List V}, Al (ts.map fun s => Tu [Is (.str s), Txts [s]]) vs F → ∃ (ps : List Addr) (ls : List V), vs = ps.map V.ref ∧ Paired (fun p kv => F p = some (.tup [kV kv.1, kv.2])) ps ((ts.zip ls).map QSo.entK) ∧ Al (ts.map fun s => Txts [s]) ls F ∧ ls.length = ts.length
  | [], _, h => by cases h; exact ⟨[], [], rfl, .nil, .nil, rfl⟩
  | t :: ts, _, h => by
    cases h with
    | cons h r =>
      obtain ⟨p, us, rfl, hp, al⟩ := h
      obtain ⟨a, l, rfl, ha, hl⟩ := two_args al
      obtain rfl := ha
      obtain ⟨ps, ls, rfl, h1, h2, h3⟩ := pairs_of r
      exact ⟨p :: ps, l :: ls, rfl, .cons hp h1, .cons hl h2, by rw [List.length_cons, List.length_cons, h3]⟩
theorem paired_mono {α β : Type} {P Q : α → β → Prop} (h : ∀ a b, P a b → Q a b) : ∀ {as : List α} {bs : List β}, Paired P as bs → Paired Q as bs
  | _, _, .nil => .nil
  | _, _, .cons a r => .cons (h _ _ a) (paired_mono h r)
theorem cb1O {r : List V → Hp → VK → Prop} {te : TE} {σ : L2.St} {H : Hp} {Q : VK} (h : te σ H fun x H1 => r [x] H1 Q) : tCB r (tCons te tNil) σ H Q := h
theorem pure_ups {vs' : List V} {H : Hp} {Q : VK} {E : XK} (h : spUps vs' H Q E) : t_ups K { nx := fun _ H' => Q .non H', rt := Q } (L2.start ["s", "found", "label", "turn", "name", "source", "target", "one"] vs') H := by
  obtain ⟨⟨ts, cs, rs, nd, tl, ce⟩, F, o, al, q⟩ := h
  obtain ⟨v, rfl, hv⟩ := one_arg al
  have nd : ts.Nodup := nd
  have tl : ts.length ≤ 1000 := tl
  have ce : ∀ c ∈ cs, ∃ i j : Nat, i < j ∧ ts[i]? = some c.2.1 ∧ ts[j]? = some c.2.2 := ce
  have o : Ok W0 F H := o
  have mD := DatS.mo ts cs rs
  have hts : ∀ (F1 H1 : Hp) (σ : L2.St), Ok W0 F1 H1 → DatS ts cs rs v F1 → σ[0]? = some (some v) → EvW W0 (Txts ts) (tDGet (tVar 0) (tC (.str "types"))) σ F1 H1 := fun F1 H1 σ o1 h1 hσ => ev_dat (i := 0) (R := Txts ts) o1 (ev_var o1 mD hσ h1) rfl rfl
  have hcs : ∀ (F1 H1 : Hp) (σ : L2.St), Ok W0 F1 H1 → DatS ts cs rs v F1 → σ[0]? = some (some v) → EvW W0 (Li (cs.map cTu)) (tDGet (tVar 0) (tC (.str "casts"))) σ F1 H1 := fun F1 H1 σ o1 h1 hσ => ev_dat (i := 1) (R := Li (cs.map cTu)) o1 (ev_var o1 mD hσ h1) rfl rfl
  have mP : ∀ s : Str, Mo (Tu [Is (.str s), Txts [s]]) := fun s => Tu.mo (mos_cons (Is.mo _) (mos_cons (Txts.mo _) mos_nil))
  have hcomp : EvW W0 (Li (ts.map fun s => Tu [Is (.str s), Txts [s]])) (tLc (iList K (tDGet (tVar 0) (tC (.str "types")))) (gName 2) tYes (tTup (tCons (tVar 2) (tCons (tLst (tCons (tVar 2) tNil)) tNil))) [2]) [some v, none, none, none, none, none, none, none] F H :=
    mapN_list (f := fun s : Str => Is (.str s)) (gg := fun s => Tu [Is (.str s), Txts [s]]) o (hts _ _ _ o hv rfl) (fun _ => rfl) (fun _ => Is.mo _) mP (by omega) fun s x G H' hs hx g => by
      have oG := g.ok o
      exact ev_tup (Rs := [Is (.str s), Txts [s]]) oG (mos_cons (Is.mo _) (mos_cons (Txts.mo _) mos_nil)) (ea_cons oG (Is.mo _) (ev_var oG (Is.mo _) rfl hx) (ea_cons oG (Txts.mo [s]) (ev_lst (Rs := [Is (.str s)]) oG (mosS [s]) (ea_cons oG (Is.mo _) (ev_var oG (Is.mo _) rfl hx) (ea_nil oG)) (show 1 ≤ 100000 by decide)) (ea_nil oG))) (show 2 ≤ 100000 by decide)
  refine asgO (cb1O (hcomp _ _ o.refl _ fun x F1 H1 g1 r => ?_))
  obtain ⟨l, ws, rfl, hl, alw⟩ := r
  obtain ⟨ps, ls, rfl, hpr, all, hll⟩ := pairs_of alw
  have o1 := g1.ok o
  have hkk : ((ts.zip ls).map QSo.entK).map (·.1) = ts.map (Sum.inr : Str → Key) := by
    rw [List.map_map]
    have : (ts.zip ls).map (·.1) = ts := zip_fst hll
    conv => rhs; rw [← this]
    rw [List.map_map]
    rfl
  have hmk : mergeK [] ((ts.zip ls).map QSo.entK) = (ts.zip ls).map QSo.entK := mergeK_new _ [] (by rw [List.nil_append, hkk]; exact List.Pairwise.map _ (fun a b hab z => hab (Sum.inr.inj z)) nd)
  refine ⟨l, ps, (ts.zip ls).map QSo.entK, rfl, .of (o1.s _ _ hl), paired_mono (fun p kv h => .of (o1.s _ _ h)) hpr, fun d hd => ?_⟩
  rw [hmk]
  have fd : F1 d = none := same_none o1.s hd
  have nd0 : H d = none := g1.old o hd
  have g2 := g1.temp (u := .dK ((ts.zip ls).map QSo.entK)) hd
  have I0 : UpM d ts cs 0 0 F1 (upd H1 d (.dK ((ts.zip ls).map QSo.entK))) (ts.map fun s => (s, [s])) ls := ⟨fd, by rw [upd_same, List.map_map]; simp [Function.comp_def], by rw [List.map_map]; exact all, by rw [List.map_map]; simp [Function.comp_def], fun e he => by
      obtain ⟨s, _, rfl⟩ := List.mem_map.mp he; simp, fun e he x hx => by
      obtain ⟨s, _, rfl⟩ := List.mem_map.mp he
      rw [List.mem_singleton.mp hx]; exact .refl _, fun e he x hx => by
      obtain ⟨s, _, rfl⟩ := List.mem_map.mp he
      have : s = x := hx
      rw [this]; exact List.mem_cons_self, fun c hc => by simp at hc⟩
  generalize hH2 : upd H1 d (.dK ((ts.zip ls).map QSo.entK)) = H2 at g2 I0 ⊢
  have o2 : Ok (Wl [d]) F1 H2 := Ok.wl (g2.ok o).s fun m hm => by rw [List.mem_singleton.mp hm]; exact ⟨fd, by rw [I0.h]; exact nofun⟩
  change tSeq (tFor _ _ _) _ _ [some v, some (.ref d), none, none, none, none, none, none] H2
  have hv1 := mD _ _ _ g1.g.ff hv
  have hj := ej_list (K := K) (w0 := W0) (w := Wl [d]) (σ := [some v, some (.ref d), none, none, none, none, none, none]) Wl.sub0 o2 (mosS ts) (hts F1 H2 _ o2.zero hv1 rfl)
  have htm : (ts.map fun y => Is (.str y)).length = ts.length := List.length_map ..
  refine q_forJ Wl.sub0 o2 hj (fun i σ' G H' => (∃ x3 x4 x5 x6 x7, σ' = [some v, some (.ref d), none, x3, x4, x5, x6, x7]) ∧ ∃ u us, UpM d ts cs i 0 G H' u us) (fun F' H' g => ⟨⟨_, _, _, _, _, rfl⟩, _, _, I0.on g⟩) (fun r x σ' G0 H0 G H' N hr g0 iv g4 hx k2 => ?_) fun σ' G H' g iv => ?_
  · obtain ⟨⟨x3, x4, x5, x6, x7, rfl⟩, u, us, I⟩ := iv
    have o0 := g0.ok o2
    have g04 := g0.trans o2 (g4.of0 o0)
    have oo := g04.ok o2
    have I4 := I.on g4
    have hvG := mD _ _ _ g04.g.ff hv1
    have hj2 := ej_list (K := K) (w0 := W0) (w := Wl [d]) (σ := [some v, some (.ref d), none, some x, x4, x5, x6, x7]) Wl.sub0 oo (mos_map cTu.mo cs) (hcs G H' _ oo.zero hvG rfl)
    have hcm : (cs.map cTu).length = cs.length := List.length_map ..
    change tFor _ _ (t_upB K) _ [some v, some (.ref d), none, some x, x4, x5, x6, x7] H'
    refine q_forJ (u := fun D => D.nx) (D := ⟨_, _, _, _⟩) Wl.sub0 oo hj2 (fun i σ' G H' => (∃ x3 x4 x5 x6 x7, σ' = [some v, some (.ref d), none, x3, x4, x5, x6, x7]) ∧ ∃ u us, UpM d ts cs r i G H' u us) (fun F' H' g => ⟨⟨_, _, _, _, _, rfl⟩, _, _, I4.on g⟩) (fun i x σ' G5 H5 G6 H6 N2 hi g5 iv g6 hx2 k3 => ?_) fun σ' G5 H5 g5 iv => ?_
    · obtain ⟨⟨y3, y4, y5, y6, y7, rfl⟩, u, us, I⟩ := iv
      obtain ⟨R, hR, rr⟩ := hx2
      have hi' : i < cs.length := by rw [← hcm]; exact hi
      rw [List.getElem?_map, List.getElem?_eq_getElem hi'] at hR
      cases hR
      have o5 := g5.ok oo
      have o6 := (g6.of0 o5).ok o5
      obtain ⟨ya, ys, rfl, hya, aly⟩ := rr
      obtain rfl := Al.is (f := fun v : V => v) (xs := [.str cs[i].1, .str cs[i].2.1, .str cs[i].2.2]) aly
      refine ⟨ya, _, rfl, .of (o6.s _ _ hya), rfl, _, _, rfl, _, _, rfl, _, _, rfl, rfl, ?_⟩
      change t_upB K _ [some v, some (.ref d), none, y3, some (.str cs[i].1), some (.str cs[i].2.1), some (.str cs[i].2.2), y7] H6
      exact pure_upB hi' nd tl ce o6 (I.on g6) fun G1 H1 u1 us1 g7 I7 => k3 _ G1 H1 g7 ⟨⟨_, _, _, _, _, rfl⟩, u1, us1, I7⟩
    · obtain ⟨hσ, u, us, I⟩ := iv
      rw [hcm] at I
      exact k2 σ' G5 H5 g5 ⟨hσ, u, us, I.round⟩
  · obtain ⟨⟨x3, x4, x5, x6, x7, rfl⟩, u, us, I⟩ := iv
    rw [htm] at I
    have gT : Gw W0 F H G H' := Gw.nestW o g2 g fun m hm => by rw [List.mem_singleton.mp hm]; exact nd0
    have gK := gT.keepL nd0 I.g I.h
    refine ⟨_, rfl, q (.ref d) _ _ gK ⟨u, I.k, fun e he => ⟨I.nd e he, fun x => ⟨I.so e he x, fun hr => ?_⟩⟩, d, us, rfl, upd_same, I.al.mono (same_upd I.g) (mos_map (f := fun e : Str × List Str => Txts e.2) (fun e => Txts.mo _) _), by rw [List.length_map, List.length_map]⟩⟩
    refine I.c1 e he x ?_
    have hem : e.1 ∈ ts := by rw [← I.k]; exact List.mem_map.mpr ⟨e, he, rfl⟩
    obtain ⟨i, hi⟩ := List.getElem?_of_mem hem
    exact (RN.of nd ce hr i hi).le (by omega)
end
end QW

set_option Elab.async false
set_option linter.all false
set_option maxRecDepth 100000
set_option maxHeartbeats 1000000
/-! QLe: k12's own errors asked, its answers compared. -/
namespace QW
open PySem PySem.Spec PyProof.Rows L2 QR
structure LeA where
  ts : List Str
  u : Ups
  uk : u.map (·.1) = ts
  nd : ts.Nodup
  tl : ts.length ≤ 100000
  word : Str
  d1 : PyData
  d2 : PyData
  bad : PyData
  h1 : word = "order" → badOf ts [d1, d2] = some bad
  h2 : word ≠ "order" → isOne ts d1 = false ∧ bad = d1
  sh : Shows (.list [.str "unknown", bad])
def spLe (K : PySem.W.Frag) (C CT CU : Addr) : Sp := spW (fun _ : LeA => W0) (fun a => [Obj C schF (ordL CT a.ts a.u), Is (.str a.word), Da K a.d1, Da K a.d2]) fun a => Is (.str (PyData.list [.str "unknown", a.bad]).shown)
theorem spLe.len {K : PySem.W.Frag} {C CT CU : Addr} : ∀ vs H Q E, spLe K C CT CU vs H Q E → vs.length = 4 := spW.len fun _ => rfl
structure StA where
  ts : List Str
  cs : List Cst
  vs : List Ver
  s : SchD
  nd : ts.Nodup
  tl : ts.length ≤ 20
  tm : ∀ t ∈ ts, isNmS t = true
  ce : ∀ c ∈ cs, ∃ i j : Nat, i < j ∧ ts[i]? = some c.2.1 ∧ ts[j]? = some c.2.2
  ok : SchOk ts cs vs s
def spSt (K : PySem.W.Frag) (C CT CU : Addr) : Sp := spW (fun _ : StA => W0) (fun a => [Sch C CT a.s, DatS a.ts a.cs a.vs]) fun _ => Is (.bl true)
theorem spSt.len {K : PySem.W.Frag} {C CT CU : Addr} : ∀ vs H Q E, spSt K C CT CU vs H Q E → vs.length = 2 := spW.len fun _ => rfl
section
variable {K : PySem.W.Frag} {w : Wd} {σ : L2.St} {F H : Hp} {te ta tb : TE} {tt : TT} {R : Pr} {CU : Addr}
theorem ev_ifE {b : Bool} (o : Ok w F H) (h : EvT w b tt σ F H) (h1 : b = true → EvW w R ta σ F H) (h2 : b = false → EvW w R tb σ F H) : EvW w R (tIf tt ta tb) σ F H := fun F1 H1 g Q q =>
  h F1 H1 g _ fun F2 H2 g2 => by
    cases b with
    | true => exact (if_pos rfl).mpr (h1 rfl F2 H2 (g.trans o g2) _ fun v F3 H3 g3 r => q v F3 H3 (g2.trans (g.ok o) g3) r)
    | false => exact (if_neg (by decide)).mpr (h2 rfl F2 H2 (g.trans o g2) _ fun v F3 H3 g3 r => q v F3 H3 (g2.trans (g.ok o) g3) r)
theorem ev_isS {a dd : Addr} {fs : List (Str × V)} {c : V} {cv : Value} {b : Bool} (o : Ok w F H) (X : QE.ExX K CU) (hd : F dd = some (.xd fs)) (hc : ∀ u, RelV c u → u = cv) (e : PySem.W.kitOne K (.ref CU) cv = some b) (h : EvW w (Is (.ref a)) te σ F H) : EvW w (Is (.bl b)) (tCB (QE.rIsS K a (.ref CU) (some dd)) (tCons te (tCons (tC c) tNil))) σ F H := fun F1 H1 g Q q =>
  h F1 H1 g _ fun x F2 H2 g2 rx => by
    obtain rfl : x = .ref a := rx
    exact ⟨CU, dd, fs, c, cv, b, rfl, rfl, rfl, X, (g2.ok (g.ok o)).s _ _ (g2.g.ff _ _ (g.g.ff _ _ hd)), hc, e, q _ F2 H2 g2 rfl⟩
theorem ev_xf {a dd : Addr} {fs : List (Str × V)} {f : Str} {v : V} {R : Pr} (m : Mo R) (o : Ok w F H) (hd : F dd = some (.xd fs)) (hl : fs.lookup f = some v) (hv : R v F) (h : EvW w (Is (.ref a)) te σ F H) : EvW w R (tXf a (.ref CU) (some dd) CU f te) σ F H := fun F1 H1 g Q q =>
  h F1 H1 g _ fun x F2 H2 g2 rx => by
    obtain rfl : x = .ref a := rx
    have ff := g.g.ff.trans g2.g.ff
    exact ⟨rfl, rfl, dd, fs, v, rfl, (g2.ok (g.ok o)).s _ _ (ff _ _ hd), hl, q v F2 H2 g2 (m _ _ _ ff hv)⟩
end
/-! ### _law_error -/
def t_suiteE (K : PySem.W.Frag) (CU CE : Addr) : Addr → Value → Option Addr → TS := fun a cls d => tSeq (tAsg (tAndV (tCB (QE.rIsS K a cls d) (tCons (tVar 5) (tCons (tC (.ty "LookupError")) tNil))) (tNotV (tCB (QE.rIsS K a cls d) (tCons (tVar 5) (tCons (tC (.ref CE)) tNil))))) (gName 6))
  (tAsg (tIf (tB (tVar 6)) (tLst (tCons (tC (.str "unknown")) (tCons (tXf a cls d CU "value" (tVar 5)) tNil))) (tC (.str "other"))) (gName 4))
def t_tryE (K : PySem.W.Frag) (C CT CU : Addr) (W : WX) : TS := tIfS (tTest (tOp rEq (tVar 1) (tC (.str "order")))) (tDrop (QC.tMethE C "is_at_or_below" (spBo K C CT CU) [] (WE W) (tVar 0) (tCons (tVar 2) (tCons (tVar 3) tNil))))
  (tIfS (tTest (tOp rEq (tVar 1) (tC (.str "above")))) (tDrop (QC.tMethE C "above" (spAb aboveL K C CT CU) [] (WE W) (tVar 0) (tCons (tVar 2) tNil))) (tDrop (QC.tMethE C "below" (spAb belowL K C CT CU) [] (WE W) (tVar 0) (tCons (tVar 2) tNil))))
def t_le (K : PySem.W.Frag) (C CT CU CE : Addr) : TS := tSeq (tAsg (tC (.str "no error")) (gName 4)) (tSeq (fun D σ H => t_tryE K C CT CU (wAs K (.ref CU) 5 (t_suiteE K CU CE) (fun _ _ _ _ => False) D) D σ H) (tRet (tCB (rRepr K) (tCons (tVar 4) tNil))))
theorem s_ifT {w : Wd} {σ : L2.St} {F H : Hp} {t : TT} {a u : TS} {D : Ends} {b : Bool} (o : Ok w F H) (h : EvT w b t σ F H) (k1 : b = true → ∀ F1 H1, Gw w F H F1 H1 → a D σ H1) (k2 : b = false → ∀ F1 H1, Gw w F H F1 H1 → u D σ H1) : tIfS t a u D σ H :=
  s_ifO (h F H o.refl _ fun F1 H1 g => by
    cases b with
    | true => exact (if_pos rfl).mpr (k1 rfl F1 H1 g)
    | false => exact (if_neg (by decide)).mpr (k2 rfl F1 H1 g))
theorem suiteE {K : PySem.W.Frag} {CU CE : Addr} (X : QE.ExX K CU) (hL : PySem.W.kitOne K (.ref CU) (.type "LookupError") = some true) (hE : PySem.W.kitOne K (.ref CU) (.ref CE) = some false) {D : Ends} {F H : Hp} {v0 v1 v2 v3 v4 : V} {u6 : Option V} {a : Addr} {cls : Value} {d : Option Addr} {bad : PyData} (o : Ok W0 F H) (hx : Xv K CU "value" bad cls d F)
    (k : ∀ v F1 H1, Gw W0 F H F1 H1 → Da K (.list [.str "unknown", bad]) v F1 → ∀ x, D.nx [some v0, some v1, some v2, some v3, some v, some (.ref a), x] H1) : t_suiteE K CU CE a cls d D [some v0, some v1, some v2, some v3, some v4, some (.ref a), u6] H := by
  obtain ⟨rfl, dd, v, rfl, hd, hv⟩ := hx
  have h1 : EvW W0 (Is (.bl true)) (tAndV (tCB (QE.rIsS K a (.ref CU) (some dd)) (tCons (tVar 5) (tCons (tC (.ty "LookupError")) tNil))) (tNotV (tCB (QE.rIsS K a (.ref CU) (some dd)) (tCons (tVar 5) (tCons (tC (.ref CE)) tNil))))) [some v0, some v1, some v2, some v3, some v4, some (.ref a), u6] F H :=
    ev_andV (a := true) (b := true) o (ev_isS o X hd (fun u r => r) hL (ev_var o (Is.mo _) rfl rfl)) fun _ => ev_notV (a := false) (ev_isS o X hd (fun u r => r) hE (ev_var o (Is.mo _) rfl rfl))
  refine q_asgS (fun x => [some v0, some v1, some v2, some v3, some v4, some (.ref a), some x]) o h1 fun x F1 H1 g r => ?_
  obtain rfl : x = .bl true := r
  have o1 := g.ok o
  have m2 : ∀ R ∈ [PyData.str "unknown", bad].map (Da K), Mo R := mos_map (Da.mo K) _
  have h2 : EvW W0 (Da K (.list [.str "unknown", bad])) (tIf (tB (tVar 6)) (tLst (tCons (tC (.str "unknown")) (tCons (tXf a (.ref CU) (some dd) CU "value" (tVar 5)) tNil))) (tC (.str "other"))) [some v0, some v1, some v2, some v3, some v4, some (.ref a), some (.bl true)] F1 H1 :=
    ev_ifE (b := true) o1 (et_B (ev_var o1 (Is.mo _) rfl rfl)) (fun _ => (ev_lst (Rs := [PyData.str "unknown", bad].map (Da K)) o1 m2 (ea_cons o1 (Da.mo K _) ((ev_c o1 fun _ => rfl).daS) (ea_cons o1 (Da.mo K bad) (ev_xf (Da.mo K bad) o1 (g.g.ff _ _ hd) rfl (Da.mo K bad _ _ _ g.g.ff hv) (ev_var o1 (Is.mo _) rfl rfl)) (ea_nil o1))) (show 2 ≤ 100000 by decide)).imp fun v F' _ r => r.da) fun z => by cases z
  exact s_asg (i := 4) (D := D) o1 h2 fun v F2 H2 g2 r => k v F2 H2 (g.trans o g2) r (some (.bl true))
theorem pure_le {K : PySem.W.Frag} {C CT CU CE : Addr} (X : QE.ExX K CU) (hx : PySem.W.exmOne K (.ref CU) (.ref CU) = some true) (hL : PySem.W.kitOne K (.ref CU) (.type "LookupError") = some true) (hE : PySem.W.kitOne K (.ref CU) (.ref CE) = some false) {vs : List V} {H : Hp} {Q : VK} {E : XK} (h : spLe K C CT CU vs H Q E) :
    t_le K C CT CU CE { nx := fun _ H' => Q .non H', rt := Q } (L2.start ["made", "word", "one", "other", "told", "e", "is_right"] vs) H := by
  obtain ⟨⟨ts, u, uk, nd, tl, word, d1, d2, bad, h1, h2, sh⟩, F, o, al, q⟩ := h
  obtain ⟨v0, v1, v2, v3, rfl, hv0, hv1, hv2, hv3⟩ := four_args al
  obtain rfl : v1 = .str word := hv1
  dsimp only at q hv0 hv2 hv3
  have h1 : word = "order" → badOf ts [d1, d2] = some bad := h1
  have h2 : word ≠ "order" → isOne ts d1 = false ∧ bad = d1 := h2
  have sh : Shows (.list [.str "unknown", bad]) := sh
  have o : Ok W0 F H := o
  have mO := Obj.mo (C := C) (ns := schF) (ordL.mo CT ts u)
  refine q_asgS (fun v => [some v0, some (.str word), some v2, some v3, some v, none, none]) o (R := Is (.str "no error")) (ev_c o fun _ => rfl) fun v4 F1 H1 g1 r4 => ?_
  obtain rfl := r4
  have o1 := g1.ok o
  have hv01 := mO _ _ _ g1.g.ff hv0
  have hv21 := Da.mo K d1 _ _ _ g1.g.ff hv2
  have hv31 := Da.mo K d2 _ _ _ g1.g.ff hv3
  -- what the except clause does
  have hW : ∀ (D : Ends) cls d F2 H2, D = { nx := tRet (tCB (rRepr K) (tCons (tVar 4) tNil)) { nx := fun _ H' => Q .non H', rt := Q }, rt := Q } → Gw W0 F1 H1 F2 H2 → Xv K CU "value" bad cls d F2 →
      wAs K (.ref CU) 5 (t_suiteE K CU CE) (fun _ _ _ _ => False) D cls d [some v0, some (.str word), some v2, some v3, some (.str "no error"), none, none] H2 := fun D cls d F2 H2 hD g2 hxv => by
    subst hD
    have o2 := g2.ok o1
    have hc : cls = .ref CU := hxv.1
    refine ⟨true, by rw [hc]; exact hx, fun _ a ha => ?_, fun z => by cases z⟩
    refine suiteE X hL hE (u6 := none) o2 hxv fun v F3 H3 g3 r x => ?_
    have o3 := g3.ok o2
    change tRet (tCB (rRepr K) (tCons (tVar 4) tNil)) _ [some v0, some (.str word), some v2, some v3, some v, none, x] H3
    exact q_ret o3 (ev_cb o3 (ea_cons o3 (Da.mo K _) (ev_var o3 (Da.mo K _) rfl r) (ea_nil o3)) (ca_repr (.inl ⟨_, rfl⟩) sh)) fun w F4 H4 g4 r4 => q w F4 H4 (((g1.trans o g2).trans o g3).trans o g4) r4
  change t_tryE K C CT CU (wAs K (.ref CU) 5 (t_suiteE K CU CE) (fun _ _ _ _ => False) { nx := tRet (tCB (rRepr K) (tCons (tVar 4) tNil)) { nx := fun _ H' => Q .non H', rt := Q }, rt := Q }) { nx := tRet (tCB (rRepr K) (tCons (tVar 4) tNil)) { nx := fun _ H' => Q .non H', rt := Q }, rt := Q } [some v0, some (.str word), some v2, some v3, some (.str "no error"), none, none] H1
  have heq : ∀ s : Str, EvT W0 (decide (V.str word = V.str s)) (tTest (tOp rEq (tVar 1) (tC (.str s)))) [some v0, some (.str word), some v2, some v3, some (.str "no error"), none, none] F1 H1 := fun s => et_val (ev_op o1 (Is.mo _) (ev_var o1 (Is.mo _) rfl rfl) (ev_c o1 fun _ => rfl) (ow_eqS rfl))
  have hab : ∀ (m : Str) (f : List Str → Ups → Str → List Str) (F2 H2 : Hp), m ∉ schF → Gw W0 F1 H1 F2 H2 → word ≠ "order" → QC.tMethE C m (spAb f K C CT CU) [] (WE (wAs K (.ref CU) 5 (t_suiteE K CU CE) (fun _ _ _ _ => False) { nx := tRet (tCB (rRepr K) (tCons (tVar 4) tNil)) { nx := fun _ H' => Q .non H', rt := Q }, rt := Q })) (tVar 0) (tCons (tVar 2) tNil) [some v0, some (.str word), some v2, some v3, some (.str "no error"), none, none] H2 fun _ H' => tRet (tCB (rRepr K) (tCons (tVar 4) tNil)) { nx := fun _ H' => Q .non H', rt := Q } [some v0, some (.str word), some v2, some v3, some (.str "no error"), none, none] H' := fun m f F2 H2 hm g2 hw => by
    obtain ⟨hb, rfl⟩ := h2 hw
    have o2 := g2.ok o1
    exact methXO (A := fun a : AbA => [Obj C schF (ordL CT a.ts a.u), Da K a.d]) (L := fun a us => ∃ s, a.d = .str s ∧ s ∈ a.ts ∧ us = sv (f a.ts a.u s)) (X := fun a cls d F => isOne a.ts a.d = false ∧ Xv K CU "value" a.d cls d F) ⟨ts, u, uk, nd, tl, bad⟩ rfl mO (Obj.ins hm) o2 (ev_var o2 mO rfl (mO _ _ _ g2.g.ff hv01)) (ea_cons o2 (Da.mo K _) (ev_var o2 (Da.mo K _) rfl (Da.mo K _ _ _ _ g2.g.ff hv21)) (ea_nil o2))
      (fun p us F3 H3 g3 np nF hp ⟨s, e, hs, _⟩ => by
        cases e
        rw [show isOne ts (.str s) = true from decide_eq_true hs] at hb
        cases hb) fun cls d F3 H3 g3 ⟨_, r⟩ => hW _ cls d F3 H3 rfl (g2.trans o1 g3) r
  refine s_ifT o1 (heq "order") (fun hb F2 H2 g2 => ?_) fun hb F2 H2 g2 => ?_
  · have hw : word = "order" := V.str.inj (of_decide_eq_true hb)
    have hbad := h1 hw
    have o2 := g2.ok o1
    refine s_dropO (methX (A := fun a : BoA => [Obj C schF (ordL CT a.ts a.u), Da K a.d1, Da K a.d2]) (R := fun a v _ => ∃ s1 s2, a.d1 = .str s1 ∧ a.d2 = .str s2 ∧ s1 ∈ a.ts ∧ s2 ∈ a.ts ∧ v = .bl (decide (s2 ∈ upOf a.u s1))) (X := fun a cls d F => ∃ b, badOf a.ts [a.d1, a.d2] = some b ∧ Xv K CU "value" b cls d F) ⟨ts, u, uk, nd, tl, d1, d2⟩ rfl mO (Obj.ins (by decide)) o2 (ev_var o2 mO rfl (mO _ _ _ g2.g.ff hv01))
      (ea_cons o2 (Da.mo K _) (ev_var o2 (Da.mo K _) rfl (Da.mo K _ _ _ _ g2.g.ff hv21)) (ea_cons o2 (Da.mo K _) (ev_var o2 (Da.mo K _) rfl (Da.mo K _ _ _ _ g2.g.ff hv31)) (ea_nil o2)))
      (fun v F3 H3 g3 ⟨a, b, e1, e2, ha, hb, _⟩ => ?_) fun cls d F3 H3 g3 ⟨b, e, r⟩ => ?_)
    · cases e1
      cases e2
      unfold badOf at hbad
      rw [List.find?_cons_of_neg (by rw [show isOne ts (.str a) = true from decide_eq_true ha]; decide), List.find?_cons_of_neg (by rw [show isOne ts (.str b) = true from decide_eq_true hb]; decide)] at hbad
      cases hbad
    · have e' : badOf ts [d1, d2] = some b := e
      rw [hbad] at e'
      cases e'
      exact hW _ cls d F3 H3 rfl (g2.trans o1 g3) r
  · have hw : word ≠ "order" := fun z => by rw [z] at hb; simp at hb
    have o2 := g2.ok o1
    refine s_ifT o2 (EvT.mono o1 g2 (heq "above")) (fun _ F3 H3 g3 => ?_) fun _ F3 H3 g3 => ?_
    · exact s_dropO (hab "above" aboveL F3 H3 (by decide) (g2.trans o1 g3) hw)
    · exact s_dropO (hab "below" belowL F3 H3 (by decide) (g2.trans o1 g3) hw)
end QW

set_option Elab.async false
set_option linter.all false
set_option maxRecDepth 100000
set_option maxHeartbeats 1000000
/-! QSt: the order's answers compared with the law's own. -/
namespace QW
open PySem PySem.Spec PyProof.Rows L2 QR
theorem shows_list {n k : Nat} {ds : List PyData} (h : ∀ d ∈ ds, Small n d) (hk : ds.length ≤ k) (hz : 42 * ((n + 1) * k) + 40 ≤ 10000000) : Shows (.list ds) := by
  obtain ⟨h1, h2, h3, h4⟩ := small_all h
  refine ⟨by simp only [PyData.showable, h1], by simp only [PyData.depth]; omega, ?_⟩
  have e := PyData.shown_le_bulk 40 (by decide) (.list ds) (by simp only [PyData.leavesShort, h3])
  have hb : (n + 1) * ds.length ≤ (n + 1) * k := Nat.mul_le_mul_left _ hk
  simp only [PyData.bulk] at e
  have hs : sizeLine = 16777216 := by decide
  have h5 := Nat.mul_le_mul_left 42 (Nat.le_trans h4 hb)
  omega
theorem small_bool (n : Nat) (b : Bool) : Small n (.bool b) := ⟨rfl, by simp only [PyData.depth]; omega, rfl, Nat.zero_le _⟩
theorem isNmS_cps {s : Str} (h : isNmS s = true) : ∀ c ∈ s.cps.toList, c < 128 := by
  unfold isNmS at h
  rw [Bool.and_eq_true, List.all_eq_true] at h
  intro c hc
  have := of_decide_eq_true (h.2 c hc)
  have key : ∀ c ∈ letters.cps.toList, c < 128 := by decide +kernel
  exact key c this
theorem small_str {s : Str} (h : isNmS s = true) : Small 8 (.str s) := ⟨rfl, by simp only [PyData.depth]; omega, by
  simp only [PyData.leavesShort]
  rw [List.all_eq_true]
  intro c hc
  have := isNmS_cps h c hc
  exact decide_eq_true (by omega), by simp only [PyData.bulk]; exact isNmS_len h⟩
abbrev strL (ts : List Str) : PyData := .list (ts.map .str)
theorem strOk_nm {s : Str} (h : isNmS s = true) : PyData.strOk s = true := by
  unfold PyData.strOk
  rw [Array.all_eq_true']
  intro c hc
  have := isNmS_cps h c (by simpa using hc)
  exact decide_eq_true (by omega)
theorem strL_shaped {ts : List Str} (h : ∀ s ∈ ts, PyData.strOk s = true) : SeqAt.shaped (strL ts) = true := by
  have h1 : ∀ ts : List Str, (∀ s ∈ ts, PyData.strOk s = true) → PyData.canLayAll0 (ts.map .str) = true ∧ PyData.depthAll (ts.map .str) ≤ 1 := by
    intro ts
    induction ts with
    | nil => exact fun _ => ⟨by simp only [List.map_nil, PyData.canLayAll0], by simp only [List.map_nil, PyData.depthAll]; omega⟩
    | cons a ts ih =>
      intro h
      obtain ⟨q1, q2⟩ := ih fun s hs => h s (List.mem_cons_of_mem _ hs)
      refine ⟨by simp only [List.map_cons, PyData.canLayAll0, PyData.canLay0, h a List.mem_cons_self, q1, Bool.and_self], by simp only [List.map_cons, PyData.depthAll, PyData.depth]; omega⟩
  obtain ⟨q1, q2⟩ := h1 ts h
  unfold SeqAt.shaped
  rw [Bool.and_eq_true]
  exact ⟨by simp only [strL, PyData.canLay0, q1], decide_eq_true (by simp only [strL, PyData.depth]; omega)⟩
theorem strL_noDict (ts : List Str) : (strL ts).hasDict = false := by
  have h1 : ∀ ts : List Str, PyData.hasDictAll (ts.map .str) = false := by
    intro ts
    induction ts with
    | nil => simp only [List.map_nil, PyData.hasDictAll]
    | cons a ts ih => simp only [List.map_cons, PyData.hasDictAll, PyData.hasDict, ih, Bool.or_self]
  simp only [strL, PyData.hasDict, h1]
theorem strL_eqv {ts : List Str} (h : ∀ s ∈ ts, PyData.strOk s = true) : PyData.eqv (strL ts) (strL ts) = true := SeqAt.eqv_refl _ (SeqAt.canLay_of_shaped (strL_shaped h))
section
variable {K : PySem.W.Frag} {w : Wd} {σ : L2.St} {F H : Hp} {te ta tb : TE}
theorem EvW.strL {ts : List Str} (h : EvW w (Txts ts) te σ F H) : EvW w (Da K (strL ts)) te σ F H := h.imp fun v F' _ r => Li.da_of (d := .str) (fun s v F e => by
  obtain rfl : v = .str s := e
  exact .str s) r
theorem ev_neL {ts : List Str} (hs : ∀ s ∈ ts, PyData.strOk s = true) (o : Ok w F H) (ha : EvW w (Txts ts) ta σ F H) (hb : EvW w (Txts ts) tb σ F H) : EvW w (Is (.bl false)) (tOp (rNeD K) ta tb) σ F H :=
  ev_neD o ha.strL hb.strL (strL_noDict _) (strL_noDict _) (strL_shaped hs) (strL_shaped hs) (by rw [strL_eqv hs]; rfl)
theorem ev_neR {a b : Str} (h : a = b) (o : Ok w F H) (ha : EvW w (Is (.str a)) ta σ F H) (hb : EvW w (Is (.str b)) tb σ F H) : EvW w (Is (.bl false)) (tOp rNe ta tb) σ F H := by
  have := ev_op o (Is.mo _) ha hb (ow_neS (a := a) (b := b))
  rw [decide_eq_true (congrArg V.str h)] at this
  exact this
theorem ev_reprL {d : PyData} (hk : ∃ ds, d = .list ds) (S : Shows d) (o : Ok w F H) (h : EvW w (Da K d) te σ F H) : EvW w (Is (.str d.shown)) (tCB (rRepr K) (tCons te tNil)) σ F H := ev_cb o (ea_cons o (Da.mo K d) h (ea_nil o)) (ca_repr (.inl hk) S)
end
def c_due (K : PySem.W.Frag) : TE := tLc (iList K (tDGet (tVar 1) (tC (.str "types")))) (gName 5) tYes (tOp (rIn K false) (tVar 5) (tDGet (tVar 2) (tVar 3))) [5]
def c_bo (K : PySem.W.Frag) (C CT CU : Addr) : TE := tLc (iList K (tDGet (tVar 1) (tC (.str "types")))) (gName 5) tYes (QC.tMethE C "is_at_or_below" (spBo K C CT CU) [] (fun _ => E0) (tVar 0) (tCons (tVar 3) (tCons (tVar 5) tNil))) [5]
def c_up (K : PySem.W.Frag) : TE := tLc (iList K (tDGet (tVar 2) (tVar 3))) (gName 5) (tTest (tOp rNe (tVar 5) (tVar 3))) (tVar 5) [5]
def c_dn (K : PySem.W.Frag) : TE := tLc (iList K (tDGet (tVar 1) (tC (.str "types")))) (gName 5) (tAnd (tTest (tOp rNe (tVar 5) (tVar 3))) (tTest (tOp (rIn K false) (tVar 3) (tDGet (tVar 2) (tVar 5))))) (tVar 5) [5]
def c_ab (f : List Str → Ups → Str → List Str) (m : Str) (K : PySem.W.Frag) (C CT CU : Addr) : TE := QC.tMethE C m (spAb f K C CT CU) [] (fun _ => E0) (tVar 0) (tCons (tVar 3) tNil)
def t_stB (K : PySem.W.Frag) (C CT CU : Addr) : TS := tSeq (tAsg (c_due K) (gName 4)) (tSeq (tIfS (tTest (tOp rNe (tCB (rRepr K) (tCons (c_bo K C CT CU) tNil)) (tCB (rRepr K) (tCons (tVar 4) tNil)))) (tRet (tC (.bl false))) tNext)
  (tSeq (tAsg (tCB (rSortedS K) (tCons (c_up K) tNil)) (gName 6)) (tSeq (tAsg (tCB (rSortedS K) (tCons (c_dn K) tNil)) (gName 7))
  (tSeq (tIfS (tTest (tOp rNe (tCB (rRepr K) (tCons (tLst (tCons (c_ab aboveL "above" K C CT CU) (tCons (c_ab belowL "below" K C CT CU) tNil))) tNil)) (tCB (rRepr K) (tCons (tLst (tCons (tVar 6) (tCons (tVar 7) tNil))) tNil)))) (tRet (tC (.bl false))) tNext)
  (tSeq (tDrop (tBM K "list" rAppend (c_ab aboveL "above" K C CT CU) (tCons (tC (.str "extra")) tNil))) (tSeq (tDrop (tBM0 K "list" rClear (c_ab belowL "below" K C CT CU)))
  (tIfS (tOr (tTest (tOp (rNeD K) (c_ab aboveL "above" K C CT CU) (tVar 6))) (tTest (tOp (rNeD K) (c_ab belowL "below" K C CT CU) (tVar 7)))) (tRet (tC (.bl false))) tNext)))))))
def t_st (K : PySem.W.Frag) (C CT CU : Addr) : TS := tSeq (tAsg (tCall spUps [] E0 (tCons (tVar 1) tNil)) (gName 2)) (tSeq (tFor (iList K (tDGet (tVar 1) (tC (.str "types")))) (gName 3) (t_stB K C CT CU)) (tRet (tC (.bl true))))
theorem bmO {K : PySem.W.Frag} {T : String} {r : V → List V → Hp → VK → Prop} {to : TE} {t : TA} {σ : L2.St} {H : Hp} {Q : VK} (h : to σ H fun x H1 => tyV K T x H1 ∧ t σ H1 fun xs H2 => r x xs H2 Q) : tBM K T r to t σ H Q := h
theorem bm0O {K : PySem.W.Frag} {T : String} {r : V → List V → Hp → VK → Prop} {to : TE} {σ : L2.St} {H : Hp} {Q : VK} (h : to σ H fun x H1 => tyV K T x H1 ∧ r x [] H1 Q) : tBM0 K T r to σ H Q := h
theorem s_noT {w : Wd} {σ : L2.St} {F H : Hp} {t : TT} {a : TS} {D : Ends} (o : Ok w F H) (h : EvT w false t σ F H) (k : ∀ F1 H1, Gw w F H F1 H1 → D.nx σ H1) : tIfS t a tNext D σ H := s_no o h k
theorem pure_stB {K : PySem.W.Frag} {C CT CU : Addr} {ts : List Str} {cs : List Cst} {vs : List Ver} {s : SchD} {u : Ups} (nd : ts.Nodup) (tl : ts.length ≤ 20) (tm : ∀ t ∈ ts, isNmS t = true) (ce : ∀ c ∈ cs, ∃ i j : Nat, i < j ∧ ts[i]? = some c.2.1 ∧ ts[j]? = some c.2.2) (hs : SchOk ts cs vs s) (uk : u.map (·.1) = ts) (ur : ∀ e ∈ u, e.2.Nodup ∧ ∀ x, x ∈ e.2 ↔ Reach cs e.1 x)
    {D : Ends} {G H' : Hp} {x : Str} {v0 v1 v2 : V} {u4 u5 u6 u7 : Option V} (hx : x ∈ ts) (o : Ok W0 G H') (h0 : Sch C CT s v0 G) (h1 : DatS ts cs vs v1 G) (h2 : upD u v2 G)
    (k : ∀ σ' G1 H1, (∃ x4 x6 x7, σ' = [some v0, some v1, some v2, some (.str x), x4, u5, x6, x7]) → Gw W0 G H' G1 H1 → D.nx σ' H1) : t_stB K C CT CU D [some v0, some v1, some v2, some (.str x), u4, u5, u6, u7] H' := by
  have ndu : (u.map (·.1)).Nodup := by rw [uk]; exact nd
  have nds : s.ts.Nodup := by rw [hs.t]; exact srt_nodup nd
  have ndsu : (s.u.map (·.1)).Nodup := by rw [hs.uk]; exact nds
  have tls : s.ts.length ≤ 100000 := by rw [hs.t, srt_length]; omega
  have hxs : x ∈ s.ts := by rw [hs.t]; exact mem_srt.mpr hx
  have hU : ∀ y ∈ ts, (upOf u y).Nodup ∧ ∀ z, z ∈ upOf u y ↔ Reach cs y z := fun y hy => by
    obtain ⟨i, hi⟩ := upOf_ex ndu (by rw [uk]; exact hy)
    exact ur _ (List.mem_of_getElem? hi)
  have hS : ∀ y ∈ ts, (upOf s.u y).Nodup ∧ ∀ z, z ∈ upOf s.u y ↔ Reach cs y z := fun y hy => by
    obtain ⟨i, hi⟩ := upOf_ex ndsu (by rw [hs.uk, hs.t]; exact mem_srt.mpr hy)
    exact hs.ur _ (List.mem_of_getElem? hi)
  have hin : ∀ y ∈ ts, ∀ z, Reach cs y z → z ∈ ts := fun y hy z r => Reach.in_ (fun c h => by
    obtain ⟨_, j, _, _, h2⟩ := ce c h
    exact List.mem_of_getElem? h2) r hy
  have mS := Sch.mo C CT s
  have mD := DatS.mo ts cs vs
  have mU := upD.mo u
  have mL := mos_map (f := fun e : Str × List Str => Txts e.2) (fun e => Txts.mo _) u
  have eO : ∀ {F1 H1 : Hp} {σ : L2.St}, Ok W0 F1 H1 → Sch C CT s v0 F1 → σ[0]? = some (some v0) → EvW W0 (Obj C schF (ordL CT s.ts s.u)) (tVar 0) σ F1 H1 := fun o1 h hσ => (ev_var o1 mS hσ h).imp fun v F' _ r => Obj.less r fun p hp => by
    rcases List.mem_cons.mp hp with rfl | hp
    · exact List.mem_cons_self
    · rw [List.mem_singleton.mp hp]; simp [schL]
  have eT : ∀ {F1 H1 : Hp} {σ : L2.St}, Ok W0 F1 H1 → DatS ts cs vs v1 F1 → σ[1]? = some (some v1) → EvW W0 (Txts ts) (tDGet (tVar 1) (tC (.str "types"))) σ F1 H1 := fun o1 h hσ => ev_dat (i := 0) (R := Txts ts) o1 (ev_var o1 mD hσ h) rfl rfl
  have eU : ∀ {F1 H1 : Hp} {σ : L2.St} {j : Nat} {y : Str}, y ∈ ts → Ok W0 F1 H1 → upD u v2 F1 → σ[2]? = some (some v2) → σ[j]? = some (some (.str y)) → EvW W0 (Txts (upOf u y)) (tDGet (tVar 2) (tVar j)) σ F1 H1 := fun {F1 H1 σ j y} hy o1 h hσ hj => by
    obtain ⟨i, hi⟩ := upOf_ex ndu (by rw [uk]; exact hy)
    exact ev_dget (ks := u.map (·.1)) (Rs := u.map fun e => Txts e.2) (R := Txts (upOf u y)) (k := y) (i := i) o1 mL (ev_var o1 mU hσ h) (ev_var o1 (Is.mo _) hj rfl) ndu (by rw [List.getElem?_map, hi]; rfl) (by rw [List.getElem?_map, hi]; rfl)
  have mB : ∀ b : Str → Bool, ∀ y : Str, Mo (Is (.bl (b y))) := fun b y => Is.mo _
  -- due
  have e1 : EvW W0 (Li (ts.map fun y => Is (.bl (decide (y ∈ upOf u x))))) (c_due K) [some v0, some v1, some v2, some (.str x), u4, u5, u6, u7] G H' :=
    mapN_list (f := fun y : Str => Is (.str y)) (gg := fun y : Str => Is (.bl (decide (y ∈ upOf u x)))) o (eT o h1 rfl) (fun _ => rfl) (fun _ => Is.mo _) (fun _ => Is.mo _) (by omega) fun y z G2 H2 hy hz g => by
      obtain rfl : z = .str y := hz
      have o2 := g.ok o
      exact ev_op o2 (Is.mo _) (ev_var (i := 5) o2 (Is.mo _) rfl rfl) (eU (j := 3) hx o2 (mU _ _ _ g.g.ff h2) rfl rfl) ow_inTx
  refine q_asgS (fun v => [some v0, some v1, some v2, some (.str x), some v, u5, u6, u7]) o e1 fun v4 F1 H1 g1 r4 => ?_
  have o1 := g1.ok o
  have h01 := mS _ _ _ g1.g.ff h0
  have h11 := mD _ _ _ g1.g.ff h1
  have h21 := mU _ _ _ g1.g.ff h2
  have m4 : Mo (Li (ts.map fun y => Is (.bl (decide (y ∈ upOf u x))))) := Li.mo (mos_map (f := fun y : Str => Is (.bl (decide (y ∈ upOf u x)))) (fun _ => Is.mo _) ts)
  have hbl : ∀ p : Str → Bool, ∀ {te : TE} {σ : L2.St} {F1 H1 : Hp}, EvW W0 (Li (ts.map fun y => Is (.bl (p y)))) te σ F1 H1 → EvW W0 (Da K (.list ((ts.map p).map .bool))) te σ F1 H1 := fun p {te σ F1 H1} h => h.imp fun v F' _ r => Li.bools (bs := ts.map p) (by rw [List.map_map]; exact r)
  have shB : ∀ p : Str → Bool, Shows (.list ((ts.map p).map .bool)) := fun p => shows_list (n := 0) (k := 20) (fun d hd => by
    obtain ⟨b, _, rfl⟩ := List.mem_map.mp hd
    exact small_bool 0 b) (by rw [List.length_map, List.length_map]; exact tl) (by decide)
  have e2 : EvW W0 (Li (ts.map fun y => Is (.bl (decide (y ∈ upOf s.u x))))) (c_bo K C CT CU) [some v0, some v1, some v2, some (.str x), some v4, u5, u6, u7] F1 H1 :=
    mapN_list (f := fun y : Str => Is (.str y)) (gg := fun y : Str => Is (.bl (decide (y ∈ upOf s.u x)))) o1 (eT o1 h11 rfl) (fun _ => rfl) (fun _ => Is.mo _) (fun _ => Is.mo _) (by omega) fun y z G2 H2 hy hz g => by
      obtain rfl : z = .str y := hz
      have o2 := g.ok o1
      exact ev_bo hs.uk nds tls hxs (by rw [hs.t]; exact mem_srt.mpr hy) o2 (eO o2 (mS _ _ _ g.g.ff h01) rfl) (ev_var (i := 3) o2 (Is.mo _) rfl rfl) (ev_var (i := 5) o2 (Is.mo _) rfl rfl)
  have hbe : (ts.map fun y => decide (y ∈ upOf s.u x)) = ts.map fun y => decide (y ∈ upOf u x) := List.map_congr_left fun y _ => by
    rw [decide_eq_decide, (hS x hx).2 y, (hU x hx).2 y]
  refine q_no o1 (et_val (ev_neR (by rw [hbe]) o1 (ev_reprL ⟨_, rfl⟩ (shB _) o1 (hbl _ e2)) (ev_reprL ⟨_, rfl⟩ (shB _) o1 (hbl _ (ev_var (i := 4) o1 m4 rfl r4))))) fun F2 H2 g2 => ?_
  have o2 := g2.ok o1
  have g02 := g1.trans o g2
  have h12 := mD _ _ _ g02.g.ff h1
  have h22 := mU _ _ _ g02.g.ff h2
  have lenU : ∀ y ∈ ts, (upOf u y).length ≤ 20 := fun y hy => Nat.le_trans (nodup_le _ ts (hU y hy).1 fun z hz => hin y hy z (((hU y hy).2 z).mp hz)) tl
  -- above, below by the law
  have ne : ∀ {F3 H3 : Hp} {σ : L2.St} {y : Str}, Ok W0 F3 H3 → σ[5]? = some (some (.str y)) → σ[3]? = some (some (.str x)) → EvT W0 (!decide (y = x)) (tTest (tOp rNe (tVar 5) (tVar 3))) σ F3 H3 := fun {F3 H3 σ y} o3 h5 h3 => by
    have := ev_op o3 (Is.mo _) (ev_var o3 (Is.mo _) h5 rfl) (ev_var o3 (Is.mo _) h3 rfl) (ow_neS (a := y) (b := x))
    rw [dec_str] at this
    exact et_val this
  have e3 : EvW W0 (Txts ((upOf u x).filter fun y => !decide (y = x))) (c_up K) [some v0, some v1, some v2, some (.str x), some v4, u5, u6, u7] F2 H2 :=
    compN_list (f := fun y : Str => Is (.str y)) (gg := fun y : Str => Is (.str y)) (p := fun y => !decide (y = x)) o2 (eU (j := 3) hx o2 h22 rfl rfl) (fun _ => rfl) (fun _ => Is.mo _) (fun _ => Is.mo _) (by have := lenU x hx; omega)
      (fun y z G3 H3 hy hz g => by
        obtain rfl : z = .str y := hz
        exact ne (g.ok o2) rfl rfl) fun y z G3 H3 hy _ hz g => ev_var (g.ok o2) (Is.mo _) rfl hz
  have flen : ∀ (p : Str → Bool) (l : List Str), (l.filter p).length ≤ l.length := fun p l => List.length_filter_le _ _
  refine q_asgS (fun v => [some v0, some v1, some v2, some (.str x), some v4, u5, some v, u7]) o2 (ev_sorted (K := K) o2 e3 (by have := lenU x hx; have := flen (fun y => !decide (y = x)) (upOf u x); omega)) fun v6 F3 H3 g3 r6 => ?_
  have o3 := g3.ok o2
  have g03 := g02.trans o g3
  have h13 := mD _ _ _ g03.g.ff h1
  have h23 := mU _ _ _ g03.g.ff h2
  have e4 : EvW W0 (Txts (ts.filter fun y => !decide (y = x) && decide (x ∈ upOf u y))) (c_dn K) [some v0, some v1, some v2, some (.str x), some v4, u5, some v6, u7] F3 H3 :=
    compN_list (f := fun y : Str => Is (.str y)) (gg := fun y : Str => Is (.str y)) (p := fun y => !decide (y = x) && decide (x ∈ upOf u y)) o3 (eT o3 h13 rfl) (fun _ => rfl) (fun _ => Is.mo _) (fun _ => Is.mo _) (by omega)
      (fun y z G4 H4 hy hz g => by
        obtain rfl : z = .str y := hz
        have o4 := g.ok o3
        exact et_and o4 (ne o4 rfl rfl) fun _ => et_val (ev_op o4 (Is.mo _) (ev_var (i := 3) o4 (Is.mo _) rfl rfl) (eU (j := 5) hy o4 (mU _ _ _ g.g.ff h23) rfl rfl) ow_inTx)) fun y z G4 H4 hy _ hz g => ev_var (g.ok o3) (Is.mo _) rfl hz
  refine q_asgS (fun v => [some v0, some v1, some v2, some (.str x), some v4, u5, some v6, some v]) o3 (ev_sorted (K := K) o3 e4 (by have := flen (fun y => !decide (y = x) && decide (x ∈ upOf u y)) ts; omega)) fun v7 F4 H4 g4 r7 => ?_
  have o4 := g4.ok o3
  have g04 := g03.trans o g4
  have r64 := Txts.mo _ _ _ _ g4.g.ff r6
  -- what they are
  have eA : aboveL s.ts s.u x = srt ((upOf u x).filter fun y => !decide (y = x)) := by
    unfold aboveL
    rw [hs.t, srt_filter]
    refine srt_of_perm (perm_of_mem (nd.sublist List.filter_sublist) ((hU x hx).1.sublist List.filter_sublist) fun y => ?_)
    simp only [List.mem_filter, Bool.and_eq_true, decide_eq_true_eq, Bool.not_eq_true', decide_eq_false_iff_not]
    rw [(hS x hx).2 y, (hU x hx).2 y]
    exact ⟨fun ⟨a, b, c⟩ => ⟨c, b⟩, fun ⟨a, b⟩ => ⟨hin x hx y a, b, a⟩⟩
  have eB : belowL s.ts s.u x = srt (ts.filter fun y => !decide (y = x) && decide (x ∈ upOf u y)) := by
    unfold belowL
    rw [hs.t, srt_filter]
    congr 1
    refine List.filter_congr fun y hy => ?_
    rw [decide_eq_decide.mpr ((hS y hy).2 x |>.trans ((hU y hy).2 x).symm)]
  have nmA : ∀ y ∈ srt ((upOf u x).filter fun y => !decide (y = x)), isNmS y = true := fun y hy => tm y (hin x hx y (((hU x hx).2 y).mp (List.mem_filter.mp (mem_srt.mp hy)).1))
  have nmB : ∀ y ∈ srt (ts.filter fun y => !decide (y = x) && decide (x ∈ upOf u y)), isNmS y = true := fun y hy => tm y (List.mem_filter.mp (mem_srt.mp hy)).1
  have lA : (srt ((upOf u x).filter fun y => !decide (y = x))).length ≤ 20 := by rw [srt_length]; have := lenU x hx; have := flen (fun y => !decide (y = x)) (upOf u x); omega
  have lB : (srt (ts.filter fun y => !decide (y = x) && decide (x ∈ upOf u y))).length ≤ 20 := by rw [srt_length]; have := flen (fun y => !decide (y = x) && decide (x ∈ upOf u y)) ts; omega
  have evA : ∀ {F5 H5 : Hp}, Ok W0 F5 H5 → Sch C CT s v0 F5 → EvW W0 (Txts (srt ((upOf u x).filter fun y => !decide (y = x)))) (c_ab aboveL "above" K C CT CU) [some v0, some v1, some v2, some (.str x), some v4, u5, some v6, some v7] F5 H5 := fun o5 h => by
    have := ev_ab (K := K) (CU := CU) (E := fun _ => E0) (f := aboveL) (m := "above") (by decide) hs.uk nds tls hxs o5 (eO (σ := [some v0, some v1, some v2, some (.str x), some v4, u5, some v6, some v7]) o5 h rfl) (ev_var (i := 3) o5 (Is.mo _) rfl rfl)
    rw [eA] at this
    exact this
  have evB : ∀ {F5 H5 : Hp}, Ok W0 F5 H5 → Sch C CT s v0 F5 → EvW W0 (Txts (srt (ts.filter fun y => !decide (y = x) && decide (x ∈ upOf u y)))) (c_ab belowL "below" K C CT CU) [some v0, some v1, some v2, some (.str x), some v4, u5, some v6, some v7] F5 H5 := fun o5 h => by
    have := ev_ab (K := K) (CU := CU) (E := fun _ => E0) (f := belowL) (m := "below") (by decide) hs.uk nds tls hxs o5 (eO (σ := [some v0, some v1, some v2, some (.str x), some v4, u5, some v6, some v7]) o5 h rfl) (ev_var (i := 3) o5 (Is.mo _) rfl rfl)
    rw [eB] at this
    exact this
  have two : ∀ (a b : List Str), (∀ y ∈ a, isNmS y = true) → (∀ y ∈ b, isNmS y = true) → a.length ≤ 20 → b.length ≤ 20 → ∀ {ta tb : TE} {σ : L2.St} {F5 H5 : Hp}, Ok W0 F5 H5 → EvW W0 (Txts a) ta σ F5 H5 → EvW W0 (Txts b) tb σ F5 H5 → EvW W0 (Is (.str (PyData.list [strL a, strL b]).shown)) (tCB (rRepr K) (tCons (tLst (tCons ta (tCons tb tNil))) tNil)) σ F5 H5 := fun a b ha hb la lb {ta tb σ F5 H5} o5 ea eb => by
    have m2 : ∀ R ∈ [Da K (strL a), Da K (strL b)], Mo R := mos_cons (Da.mo K _) (mos_cons (Da.mo K _) mos_nil)
    refine ev_reprL ⟨_, rfl⟩ ?_ o5 ((ev_lst (Rs := [strL a, strL b].map (Da K)) o5 (mos_map (Da.mo K) _) (ea_cons o5 (Da.mo K _) ea.strL (ea_cons o5 (Da.mo K _) eb.strL (ea_nil o5))) (show 2 ≤ 100000 by decide)).imp fun v F' _ r => r.da)
    refine shows_rows (n := 8) (m := 20) (k := 2) (rows := [a.map .str, b.map .str]) (fun r hr => ?_) (show 2 ≤ 2 by decide) (by decide)
    simp only [List.mem_cons, List.not_mem_nil, or_false] at hr
    rcases hr with rfl | rfl
    · exact ⟨by rw [List.length_map]; exact la, fun d hd => by obtain ⟨y, hy, rfl⟩ := List.mem_map.mp hd; exact small_str (ha y hy)⟩
    · exact ⟨by rw [List.length_map]; exact lb, fun d hd => by obtain ⟨y, hy, rfl⟩ := List.mem_map.mp hd; exact small_str (hb y hy)⟩
  have h04 := mS _ _ _ g04.g.ff h0
  refine q_no o4 (et_val (ev_neR rfl o4 (two _ _ nmA nmB lA lB o4 (evA o4 h04) (evB o4 h04)) (two _ _ nmA nmB lA lB o4 (ev_var (i := 6) o4 (Txts.mo _) rfl r64) (ev_var (i := 7) o4 (Txts.mo _) rfl r7)))) fun F5 H5 g5 => ?_
  have o5 := g5.ok o4
  have g05 := g04.trans o g5
  have h05 := mS _ _ _ g05.g.ff h0
  -- a returned list is changed
  refine q_dropO (bmO (abO (K := K) (CU := CU) (E := fun _ => E0) (f := aboveL) (m := "above") (by decide) hs.uk nds tls hxs o5 (eO (σ := [some v0, some v1, some v2, some (.str x), some v4, u5, some v6, some v7]) o5 h05 rfl) (ev_var (i := 3) o5 (Is.mo _) rfl rfl) fun p F6 H6 g6 np nF hp => ?_))
  refine ⟨.inl ⟨rfl, _, .of hp⟩, p, _, _, rfl, rfl, hp, Evl.sz_lt (by rw [List.length_map, eA]; omega), ?_⟩
  have g6' := Gw.mutN (u := .lst (sv (aboveL s.ts s.u x) ++ [V.str "extra"])) o5 g6 np nF
  have o6 := g6'.ok o5
  have g06 := g05.trans o g6'
  have h06 := mS _ _ _ g06.g.ff h0
  refine q_dropO (bm0O (abO (K := K) (CU := CU) (E := fun _ => E0) (f := belowL) (m := "below") (by decide) hs.uk nds tls hxs o6 (eO (σ := [some v0, some v1, some v2, some (.str x), some v4, u5, some v6, some v7]) o6 h06 rfl) (ev_var (i := 3) o6 (Is.mo _) rfl rfl) fun p2 F7 H7 g7 np7 nF7 hp7 => ?_))
  refine ⟨.inl ⟨rfl, _, .of hp7⟩, p2, _, rfl, rfl, hp7, ?_⟩
  have g7' := Gw.mutN (u := .lst []) o6 g7 np7 nF7
  have o7 := g7'.ok o6
  have g07 := g06.trans o g7'
  have h07 := mS _ _ _ g07.g.ff h0
  have ff47 := (g5.g.ff.trans g6'.g.ff).trans g7'.g.ff
  have sA : ∀ y ∈ srt ((upOf u x).filter fun y => !decide (y = x)), PyData.strOk y = true := fun y hy => strOk_nm (nmA y hy)
  have sB : ∀ y ∈ srt (ts.filter fun y => !decide (y = x) && decide (x ∈ upOf u y)), PyData.strOk y = true := fun y hy => strOk_nm (nmB y hy)
  have last : EvT W0 false (tOr (tTest (tOp (rNeD K) (c_ab aboveL "above" K C CT CU) (tVar 6))) (tTest (tOp (rNeD K) (c_ab belowL "below" K C CT CU) (tVar 7)))) [some v0, some v1, some v2, some (.str x), some v4, u5, some v6, some v7] F7 (upd H7 p2 (.lst [])) :=
    et_or (a := false) (b := false) o7 (et_val (ev_neL sA o7 (evA o7 h07) (ev_var (i := 6) o7 (Txts.mo _) rfl (Txts.mo _ _ _ _ ff47 r64)))) fun _ => et_val (ev_neL sB o7 (evB o7 h07) (ev_var (i := 7) o7 (Txts.mo _) rfl (Txts.mo _ _ _ _ ff47 r7)))
  exact s_noT o7 last fun F8 H8 g8 => k _ F8 H8 ⟨_, _, _, rfl⟩ (g07.trans o g8)
theorem pure_st {K : PySem.W.Frag} {C CT CU : Addr} {vs' : List V} {H : Hp} {Q : VK} {E : XK} (h : spSt K C CT CU vs' H Q E) : t_st K C CT CU { nx := fun _ H' => Q .non H', rt := Q } (L2.start ["made", "s", "ups", "one", "due", "other", "above", "below"] vs') H := by
  obtain ⟨⟨ts, cs, vs, s, nd, tl, tm, ce, hs⟩, F, o, al, q⟩ := h
  obtain ⟨v0, v1, rfl, hv0, hv1⟩ := two_args al
  dsimp only at q hv0 hv1
  have nd : ts.Nodup := nd
  have tl : ts.length ≤ 20 := tl
  have tm : ∀ t ∈ ts, isNmS t = true := tm
  have ce : ∀ c ∈ cs, ∃ i j : Nat, i < j ∧ ts[i]? = some c.2.1 ∧ ts[j]? = some c.2.2 := ce
  have hs : SchOk ts cs vs s := hs
  have o : Ok W0 F H := o
  have mD := DatS.mo ts cs vs
  have e1 := ev_call0 (E := E0) (σ := [some v0, some v1, none, none, none, none, none, none]) (tas := tCons (tVar 1) tNil) (A := fun a : UpA => [DatS a.ts a.cs a.vs]) (Rf := fun a => UpsOf a.ts a.cs) ⟨ts, cs, vs, nd, by omega, ce⟩ o (ea_cons o mD (ev_var o mD rfl hv1) (ea_nil o))
  refine q_asgS (fun v => [some v0, some v1, some v, none, none, none, none, none]) o e1 fun v2 F1 H1 g1 r2 => ?_
  obtain ⟨u, uk, ur, hu⟩ := r2
  have o1 := g1.ok o
  have hv01 := Sch.mo C CT s _ _ _ g1.g.ff hv0
  have hv11 := mD _ _ _ g1.g.ff hv1
  have hj := ej_list (K := K) (w0 := W0) (w := W0) (σ := [some v0, some v1, some v2, none, none, none, none, none]) (Sub.refl _) o1 (mosS ts) (ev_dat (i := 0) (R := Txts ts) o1 (ev_var (i := 1) o1 mD rfl hv11) rfl rfl)
  have htm : (ts.map fun y => Is (.str y)).length = ts.length := List.length_map ..
  refine q_forJ (Sub.refl _) o1 hj (fun i σ' G H' => ∃ x3 x4 x6 x7, σ' = [some v0, some v1, some v2, x3, x4, none, x6, x7]) (fun F' H' g => ⟨_, _, _, _, rfl⟩) (fun i x σ' G0 H0 G H' N hi g0 iv g2 hx k2 => ?_) fun σ' G H' g iv => ?_
  · obtain ⟨x3, x4, x6, x7, rfl⟩ := iv
    obtain ⟨R, hR, r⟩ := hx
    have hi' : i < ts.length := by rw [← htm]; exact hi
    rw [List.getElem?_map, List.getElem?_eq_getElem hi'] at hR
    cases hR
    obtain rfl := r
    have g02 := g0.trans o1 g2
    have oo := g02.ok o1
    change t_stB K C CT CU _ [some v0, some v1, some v2, some (.str ts[i]), x4, none, x6, x7] H'
    exact pure_stB nd tl tm ce hs uk ur (List.getElem_mem hi') oo (Sch.mo C CT s _ _ _ g02.g.ff hv01) (mD _ _ _ g02.g.ff hv11) (upD.mo u _ _ _ g02.g.ff hu) fun σ' G1 H1 ⟨a, b, c, hσ⟩ g5 => k2 σ' G1 H1 g5 ⟨_, a, b, c, hσ⟩
  · obtain ⟨x3, x4, x6, x7, rfl⟩ := iv
    have o2 := g.ok o1
    exact q_ret (R := Is (.bl true)) o2 (ev_c o2 fun _ => rfl) fun v F3 H3 g3 r => q v F3 H3 ((g1.trans o g).trans o g3) r
end QW

set_option Elab.async false
set_option linter.all false
set_option maxRecDepth 100000
set_option maxHeartbeats 1000000
/-! QLaw: k12's law itself. -/
namespace QW
open PySem PySem.Spec PyProof.Rows L2 QR
def spLaw12 (K : PySem.W.Frag) : Sp := fun vs H Q _ => ∃ (a : Addr) (ns : List Int), vs = [.ref a] ∧ ns.length ≤ 63 ∧ SqL K H a (ns.map V.int) ∧ ∀ H', Q (.bl true) H'
theorem spLaw12.len {K : PySem.W.Frag} : ∀ vs H Q E, spLaw12 K vs H Q E → vs.length = 1 := fun vs H Q E ⟨_, _, e, _⟩ => by rw [e]; rfl

theorem WfW.wfS {m e u : Nat} {ts : List Str} {cs : List Cst} {vs : List Ver} (h : WfW m e u ts cs vs) (hm : m ≤ 10) (he : e ≤ 20) (hu : u ≤ 16) : WfS ts cs vs where
  tn := h.tn
  tm := fun s hs => wordS.nm (h.tm s hs)
  tl := Nat.le_trans h.tl hm
  cn := h.cn
  cm := fun c hc => wordS.nm (h.cm c hc)
  cl := Nat.le_trans h.cl he
  ce := fun c hc => let ⟨i, j, _, h1, h2⟩ := h.ce c hc; ⟨List.mem_of_getElem? h1, List.mem_of_getElem? h2⟩
  ac := by
    classical
    refine ⟨fun x => if hx : ∃ i : Nat, ts[i]? = some x then Classical.choose hx else 0, fun c hc => ?_⟩
    obtain ⟨i, j, hlt, h1, h2⟩ := h.ce c hc
    have e1 : ∃ i : Nat, ts[i]? = some c.2.1 := ⟨i, h1⟩
    have e2 : ∃ i : Nat, ts[i]? = some c.2.2 := ⟨j, h2⟩
    have q1 := Classical.choose_spec e1
    have q2 := Classical.choose_spec e2
    have l1 := (List.getElem?_eq_some_iff.mp h1).1
    have l2 := (List.getElem?_eq_some_iff.mp h2).1
    have r1 : i = Classical.choose e1 := (List.getElem?_inj (l := ts) l1 h.tn).mp (by rw [h1, q1])
    have r2 : j = Classical.choose e2 := (List.getElem?_inj (l := ts) l2 h.tn).mp (by rw [h2, q2])
    show (if hx : ∃ i : Nat, ts[i]? = some c.2.1 then Classical.choose hx else 0) < (if hx : ∃ i : Nat, ts[i]? = some c.2.2 then Classical.choose hx else 0)
    rw [dif_pos e1, dif_pos e2, ← r1, ← r2]
    exact hlt
  vn := h.vn
  vm := fun s hs => wordS.nm (h.vm s hs)
  vl := Nat.le_trans h.vl hu
  ve := fun v hv => let ⟨a, b, c, d, e⟩ := h.ve v hv; ⟨wordS.nm a, b, c, d, e⟩
  va := h.va
section
variable {w : Wd} {σ : L2.St} {F H : Hp} {tas : TA} {R : Pr} {Rs : List Pr} {sp : Sp} {dvs : List V} {E : XK} {t : TA} {Q : VK}
/-- a call, its promise chosen by what its arguments are -/
theorem ev_call0X {α : Type} {A : α → List Pr} {Rf : α → Pr} (o : Ok w F H) (h : EvA w Rs tas σ F H) (k : ∀ vs F1, Al Rs vs F1 → ∃ a, Al (A a) vs F1 ∧ ∀ v F2, Rf a v F2 → R v F2) : EvW w R (tCall (spW (fun _ => W0) A Rf) [] E tas) σ F H := fun F1 H1 g _ q =>
  h F1 H1 g _ fun vs F2 H2 b rs => by
    obtain ⟨a, ha, hr⟩ := k vs F2 rs
    exact ⟨a, F2, ⟨(b.ok (g.ok o)).s, True.intro, fun _ z => nomatch z⟩, by rw [List.append_nil]; exact ha, fun v F3 H3 c rv => q v F3 H3 (b.trans (g.ok o) (c.of0 (b.ok (g.ok o)))) (hr v F3 rv)⟩
theorem callO (h : t σ H fun vs H1 => sp (vs ++ dvs) H1 Q E) : tCall sp dvs E t σ H Q := h
end
def odds : List PyData := [.str "nobody", .none, .int 0, .str "", .str "A", .list [], .tuple [], .dict [], .bool true, .tuple [.str "a"]]
def OddP (K : PySem.W.Frag) : Pr := fun v F => ∃ d ∈ odds, Da K d v F
theorem OddP.mo (K : PySem.W.Frag) : Mo (OddP K) := fun _ _ _ e ⟨d, h, r⟩ => ⟨d, h, Da.mo K d _ _ _ e r⟩
theorem odd_not {ts : List Str} (h : ∀ s ∈ ts, wordS s = true) : ∀ d ∈ odds, isOne ts d = false := by
  intro d hd
  have key : ∀ z : Str, wordS z = false → isOne ts (.str z) = false := fun z hz => decide_eq_false fun m => by rw [h z m] at hz; cases hz
  simp only [odds, List.mem_cons, List.not_mem_nil, or_false] at hd
  rcases hd with rfl | rfl | rfl | rfl | rfl | rfl | rfl | rfl | rfl | rfl
  · exact key _ (by decide +kernel)
  · rfl
  · rfl
  · exact key _ (by decide +kernel)
  · exact key _ (by decide +kernel)
  · rfl
  · rfl
  · rfl
  · rfl
  · rfl
theorem odd_shows : ∀ d ∈ odds, Shows (.list [.str "unknown", d]) := by
  intro d hd
  simp only [odds, List.mem_cons, List.not_mem_nil, or_false] at hd
  rcases hd with rfl | rfl | rfl | rfl | rfl | rfl | rfl | rfl | rfl | rfl <;> exact ⟨by decide +kernel, by decide +kernel, by rw [sizeLine_eq]; decide +kernel⟩
theorem odd_ok : ∀ d ∈ odds, PyData.strOk (PyData.list [.str "unknown", d]).shown = true := by decide +kernel
def t_opts : TE := tLst (tCons (tC (.str "nobody")) (tCons (tC .non) (tCons (tC (.int 0)) (tCons (tC (.str "")) (tCons (tC (.str "A")) (tCons (tLst tNil) (tCons (tTup tNil) (tCons tDNewK (tCons (tC (.bl true)) (tCons (tTup (tCons (tC (.str "a")) tNil)) tNil))))))))))
section
variable {K : PySem.W.Frag} {w : Wd} {σ : L2.St} {F H : Hp} {p : Addr}
theorem ev_opts (o : Ok w F H) : EvW w (Li (odds.map (Da K))) t_opts σ F H := by
  have e0 : EvW w (Da K (.list [])) (tLst tNil) σ F H := (ev_lst (Rs := ([] : List PyData).map (Da K)) o mos_nil (ea_nil o) (show 0 ≤ 100000 by decide)).imp fun v F' _ r => r.da
  have e1 : EvW w (Da K (.tuple [])) (tTup tNil) σ F H := (ev_tup (Rs := ([] : List PyData).map (Da K)) o mos_nil (ea_nil o) (show 0 ≤ 100000 by decide)).imp fun v F' _ r => r.da
  have e2 : EvW w (Da K (.tuple [.str "a"])) (tTup (tCons (tC (.str "a")) tNil)) σ F H := (ev_tup (Rs := [PyData.str "a"].map (Da K)) o (mos_map (Da.mo K) _) (ea_cons o (Da.mo K _) ((ev_c o fun _ => rfl).daS) (ea_nil o)) (show 1 ≤ 100000 by decide)).imp fun v F' _ r => r.da
  exact ev_lst o (mos_map (Da.mo K) odds) (ea_cons o (Da.mo K _) ((ev_c o fun _ => rfl).daS) (ea_cons o (Da.mo K _) (ev_c o fun _ => .non) (ea_cons o (Da.mo K _) (ev_c o fun _ => .int 0) (ea_cons o (Da.mo K _) ((ev_c o fun _ => rfl).daS) (ea_cons o (Da.mo K _) ((ev_c o fun _ => rfl).daS) (ea_cons o (Da.mo K _) e0 (ea_cons o (Da.mo K _) e1 (ea_cons o (Da.mo K _) (ev_dnew o) (ea_cons o (Da.mo K _) (ev_c o fun _ => .bl true) (ea_cons o (Da.mo K _) e2 (ea_nil o))))))))))) (show 10 ≤ 100000 by decide)
def t_two : TE := tLc (iRng1 (tCons (tC (.int 2)) tNil)) (gName 9) tYes (tCall spChoice [] E0 (tCons (tVar 2) (tCons t_opts tNil))) [9]
theorem ev_two {x0 x1 x3 x4 x5 x6 x7 x8 x9 x10 x11 : Option V} (o : Ok (Wp p) F H) : EvW (Wp p) (Li [OddP K, OddP K]) t_two [x0, x1, some (.ref p), x3, x4, x5, x6, x7, x8, x9, x10, x11] F H := by
  refine ev_lcI o (ei_range (n := 2) o (by decide) (by decide) (ea_cons o (Is.mo _) (ev_c o fun _ => rfl) (ea_nil o))) (show 2 ≤ 100000 by decide) (fun i ys F => Al (List.replicate i (OddP K)) ys F) (fun i ys F F' e h => h.mono e fun R hR => by rw [List.eq_of_mem_replicate hR]; exact OddP.mo K) (fun _ _ => .nil) (fun i x ys G H' hi hx g iv Qy Qn hy hn => ?_) fun ys G iv D e => ⟨D, ys, rfl, e, iv⟩
  have o2 := g.ok o
  refine ⟨rfl, lc_yes ?_⟩
  have hc := ev_call (E := E0) (σ := [x0, x1, some (.ref p), x3, x4, x5, x6, x7, x8, some x, x10, x11]) (tas := tCons (tVar 2) (tCons t_opts tNil)) (wf := fun a : ChA => Wp a.p) (A := fun a => [Is (.ref a.p), Li a.Rs]) (Rf := fun a => Some_ a.Rs) ⟨p, odds.map (Da K), mos_map (Da.mo K) odds, by rw [List.length_map]; decide, by rw [List.length_map]; decide⟩ o2 (ea_cons o2 (Is.mo _) (ev_var (i := 2) o2 (Is.mo _) rfl rfl) (ea_cons o2 (Li.mo (mos_map (Da.mo K) odds)) (ev_opts o2) (ea_nil o2)))
  refine hc G H' o2.refl Qy fun v G' H'' g' ⟨R, hR, r⟩ => hy v G' H'' g' ?_
  obtain ⟨d, hd, rfl⟩ := List.mem_map.mp hR
  rw [show List.replicate (i + 1) (OddP K) = List.replicate i (OddP K) ++ [OddP K] from List.replicate_succ' ..]
  exact (iv.mono g'.g.ff fun R hR => by rw [List.eq_of_mem_replicate hR]; exact OddP.mo K).append (.cons ⟨d, hd, r⟩ .nil)
end
def c_le (K : PySem.W.Frag) (C CT CU : Addr) (word : Str) (i j : Nat) : TE := tCall (spLe K C CT CU) [] E0 (tCons (tVar 4) (tCons (tC (.str word)) (tCons (tVar i) (tCons (tVar j) tNil))))
def t_lwI (K : PySem.W.Frag) (C CT CU : Addr) : TS := tSeq (tAsg t_two (gUnl K 2 (gCons (gName 7) (gCons (gName 8) gNil))))
  (tSeq (tAsg (tCB (rRepr K) (tCons (tLst (tCons (tC (.str "unknown")) (tCons (tVar 7) tNil))) tNil)) (gName 10))
  (tSeq (tAsg (tLst (tCons (c_le K C CT CU "order" 7 8) (tCons (c_le K C CT CU "order" 5 7) tNil))) (gName 11))
  (tIfS (tTest (tOp (rNeD K) (tOp rCat (tVar 11) (tLst (tCons (c_le K C CT CU "above" 7 8) (tCons (c_le K C CT CU "below" 7 8) tNil)))) (tOp rRep (tLst (tCons (tVar 10) tNil)) (tC (.int 4))))) (tRet (tC (.bl false))) tNext)))
theorem pure_lwI {K : PySem.W.Frag} {C CT CU p : Addr} {ts : List Str} {u : Ups} {t0 : Str} (uk : u.map (·.1) = srt ts) (nd : ts.Nodup) (tl : ts.length ≤ 10) (tw : ∀ s ∈ ts, wordS s = true) (h0 : t0 ∈ ts) {D : Ends} {F H : Hp} {x0 x1 x3 x6 x7 x8 x9 x10 x11 : Option V} {v4 : V} (o : Ok (Wp p) F H) (h4 : Obj C schF (ordL CT (srt ts) u) v4 F)
    (k : ∀ σ' F1 H1, (∃ x7 x8 x10 x11, σ' = [x0, x1, some (.ref p), x3, some v4, some (.str t0), x6, x7, x8, x9, x10, x11]) → Gw (Wp p) F H F1 H1 → D.nx σ' H1) : t_lwI K C CT CU D [x0, x1, some (.ref p), x3, some v4, some (.str t0), x6, x7, x8, x9, x10, x11] H := by
  have mO := Obj.mo (C := C) (ns := schF) (ordL.mo CT (srt ts) u)
  refine q_asgG o (ev_two (K := K) o) fun v F1 H1 g1 r => ?_
  have o1 := g1.ok o
  obtain ⟨l, us, rfl, hl, al⟩ := r
  obtain ⟨w7, w8, rfl, ⟨d7, hd7, r7⟩, ⟨d8, hd8, r8⟩⟩ := two_args al
  refine ⟨l, _, rfl, .of (o1.s _ _ hl), rfl, _, _, rfl, _, _, rfl, rfl, ?_⟩
  change tSeq _ _ D [x0, x1, some (.ref p), x3, some v4, some (.str t0), x6, some w7, some w8, x9, x10, x11] H1
  have sh := odd_shows d7 hd7
  have mds : ∀ ts' : List Str, (∀ s ∈ ts', wordS s = true) → isOne ts' d7 = false := fun ts' h => odd_not h d7 hd7
  have hws : ∀ s ∈ srt ts, wordS s = true := fun s hs => tw s (mem_srt.mp hs)
  have e1 : EvW (Wp p) (Is (.str (PyData.list [.str "unknown", d7]).shown)) (tCB (rRepr K) (tCons (tLst (tCons (tC (.str "unknown")) (tCons (tVar 7) tNil))) tNil)) [x0, x1, some (.ref p), x3, some v4, some (.str t0), x6, some w7, some w8, x9, x10, x11] F1 H1 :=
    ev_reprL ⟨_, rfl⟩ sh o1 ((ev_lst (Rs := [PyData.str "unknown", d7].map (Da K)) o1 (mos_map (Da.mo K) _) (ea_cons o1 (Da.mo K _) ((ev_c o1 fun _ => rfl).daS) (ea_cons o1 (Da.mo K d7) (ev_var o1 (Da.mo K d7) rfl r7) (ea_nil o1))) (show 2 ≤ 100000 by decide)).imp fun v F' _ r => r.da)
  refine q_asgS (fun v => [x0, x1, some (.ref p), x3, some v4, some (.str t0), x6, some w7, some w8, x9, some v, x11]) o1 e1 fun v10 F2 H2 g2 r10 => ?_
  obtain rfl := r10
  have o2 := g2.ok o1
  have g02 := g1.trans o g2
  have h42 := mO _ _ _ g02.g.ff h4
  have r72 := Da.mo K d7 _ _ _ g2.g.ff r7
  have r82 := Da.mo K d8 _ _ _ g2.g.ff r8
  have le : ∀ {σ : L2.St} {F3 H3 : Hp} (word : Str) (i j : Nat) (vi vj : V) (di dj : PyData), Ok (Wp p) F3 H3 → Obj C schF (ordL CT (srt ts) u) v4 F3 → σ[4]? = some (some v4) → σ[i]? = some (some vi) → σ[j]? = some (some vj) → Da K di vi F3 → Da K dj vj F3 → (word = "order" → badOf (srt ts) [di, dj] = some d7) → (word ≠ "order" → isOne (srt ts) di = false ∧ d7 = di) →
      EvW (Wp p) (Is (.str (PyData.list [.str "unknown", d7]).shown)) (c_le K C CT CU word i j) σ F3 H3 := fun {σ F3 H3} word i j vi vj di dj o3 h hσ hi hj ri rj b1 b2 =>
    ev_call0 (A := fun a : LeA => [Obj C schF (ordL CT a.ts a.u), Is (.str a.word), Da K a.d1, Da K a.d2]) (Rf := fun a => Is (.str (PyData.list [.str "unknown", a.bad]).shown)) ⟨srt ts, u, uk, srt_nodup nd, by rw [srt_length]; omega, word, di, dj, d7, b1, b2, sh⟩ o3
      (ea_cons o3 mO (ev_var o3 mO hσ h) (ea_cons o3 (Is.mo _) (ev_c o3 fun _ => rfl) (ea_cons o3 (Da.mo K di) (ev_var o3 (Da.mo K di) hi ri) (ea_cons o3 (Da.mo K dj) (ev_var o3 (Da.mo K dj) hj rj) (ea_nil o3)))))
  have n7 := mds (srt ts) hws
  have n0 : isOne (srt ts) (.str t0) = true := decide_eq_true (mem_srt.mpr h0)
  have b1 : badOf (srt ts) [d7, d8] = some d7 := by unfold badOf; rw [List.find?_cons_of_pos (by rw [n7]; rfl)]
  have b2 : badOf (srt ts) [.str t0, d7] = some d7 := by unfold badOf; rw [List.find?_cons_of_neg (by rw [n0]; decide), List.find?_cons_of_pos (by rw [n7]; rfl)]
  have hS2 : ∀ {F3 H3 : Hp} {σ : L2.St} {ta tb : TE} {s : Str}, Ok (Wp p) F3 H3 → EvW (Wp p) (Is (.str s)) ta σ F3 H3 → EvW (Wp p) (Is (.str s)) tb σ F3 H3 → EvW (Wp p) (Txts [s, s]) (tLst (tCons ta (tCons tb tNil))) σ F3 H3 := fun {F3 H3 σ ta tb s} o3 ea eb =>
    ev_lst (Rs := [Is (.str s), Is (.str s)]) o3 (mos_cons (Is.mo _) (mos_cons (Is.mo _) mos_nil)) (ea_cons o3 (Is.mo _) ea (ea_cons o3 (Is.mo _) eb (ea_nil o3))) (show 2 ≤ 100000 by decide)
  generalize hS : (PyData.list [.str "unknown", d7]).shown = S at *
  have sok : ∀ s ∈ [S, S, S, S], PyData.strOk s = true := fun s hs => by
    have : s = S := by simpa using hs
    rw [this, ← hS]
    exact odd_ok d7 hd7
  refine q_asgS (fun v => [x0, x1, some (.ref p), x3, some v4, some (.str t0), x6, some w7, some w8, x9, some (.str S), some v]) o2 (hS2 (s := S) o2 (le "order" 7 8 w7 w8 d7 d8 o2 h42 rfl rfl rfl r72 r82 (fun _ => b1) fun z => (z rfl).elim) (le "order" 5 7 (.str t0) w7 (.str t0) d7 o2 h42 rfl rfl rfl (.str t0) r72 (fun _ => b2) fun z => (z rfl).elim)) fun v11 F3 H3 g3 r11 => ?_
  have o3 := g3.ok o2
  have g03 := g02.trans o g3
  have h43 := mO _ _ _ g03.g.ff h4
  have r73 := Da.mo K d7 _ _ _ g3.g.ff r72
  have r83 := Da.mo K d8 _ _ _ g3.g.ff r82
  have c1 : EvW (Wp p) (Txts [S, S, S, S]) (tOp rCat (tVar 11) (tLst (tCons (c_le K C CT CU "above" 7 8) (tCons (c_le K C CT CU "below" 7 8) tNil)))) [x0, x1, some (.ref p), x3, some v4, some (.str t0), x6, some w7, some w8, x9, some (.str S), some v11] F3 H3 :=
    ev_op (T := Txts [S, S, S, S]) o3 (Txts.mo [S, S]) (ev_var o3 (Txts.mo [S, S]) rfl r11) (hS2 (s := S) o3 (le "above" 7 8 w7 w8 d7 d8 o3 h43 rfl rfl rfl r73 r83 (fun z => absurd z (by decide)) fun _ => ⟨n7, rfl⟩) (le "below" 7 8 w7 w8 d7 d8 o3 h43 rfl rfl rfl r73 r83 (fun z => absurd z (by decide)) fun _ => ⟨n7, rfl⟩)) (ow_cat (mosS [S, S]) (mosS [S, S]) (show 2 + 2 ≤ 100000 by decide))
  have c2 : EvW (Wp p) (Txts [S, S, S, S]) (tOp rRep (tLst (tCons (tVar 10) tNil)) (tC (.int 4))) [x0, x1, some (.ref p), x3, some v4, some (.str t0), x6, some w7, some w8, x9, some (.str S), some v11] F3 H3 :=
    ev_op (T := Txts [S, S, S, S]) o3 (Li.mo (mos_cons (Is.mo (.str S)) mos_nil)) (ev_lst (Rs := [Is (.str S)]) o3 (mos_cons (Is.mo _) mos_nil) (ea_cons o3 (Is.mo _) (ev_var o3 (Is.mo _) rfl rfl) (ea_nil o3)) (show 1 ≤ 100000 by decide)) (ev_c o3 fun _ => rfl) (ow_rep (Is.mo _) 4 (by decide))
  exact s_noT o3 (et_val (ev_neL sok o3 c1 c2)) fun F4 H4 g4 => k _ F4 H4 ⟨_, _, _, _, rfl⟩ (g03.trans o g4)
def t_lwB (K : PySem.W.Frag) (C CT CU : Addr) : TS := tSeq (tAsg (tCall (spPot K) [] E0 (tCons (tVar 0) (tCons (tVar 1) tNil))) (gName 2))
  (tSeq (tAsg (tCall spScheme [] E0 (tCons (tVar 2) (tCons (tC (.int 10)) (tCons (tC (.int 20)) (tCons (tC (.int 3)) tNil))))) (gName 3))
  (tSeq (tPar 4 5 (tCons (tCall (spMade C CT) [] E0 (tCons (tVar 2) (tCons (tVar 3) tNil))) (tCons (tOp (rIxL K) (tDGet (tVar 3) (tC (.str "types"))) (tC (.int 0))) tNil)))
  (tSeq (tIfS (tOr (tNot (tB (tCall (spSt K C CT CU) [] E0 (tCons (tVar 4) (tCons (tVar 3) tNil))))) (tNot (tB (tCall (spSt K C CT CU) [] E0 (tCons (tCall (spMade C CT) [] E0 (tCons (tVar 2) (tCons (tVar 3) tNil))) (tCons (tVar 3) tNil)))))) (tRet (tC (.bl false))) tNext)
  (tFor (iRng1 (tCons (tC (.int 4)) tNil)) (gName 6) (t_lwI K C CT CU)))))
def t_lw (K : PySem.W.Frag) (C CT CU : Addr) : TS := tSeq (tFor (iRng1 (tCons (tCB oMax (tCons (tC (.int 1)) (tCons (tCB oMin (tCons (tCB (iLen K) (tCons (tVar 0) tNil)) (tCons (tC (.int 5)) tNil))) tNil))) tNil)) (gName 1) (t_lwB K C CT CU)) (tRet (tC (.bl true)))
theorem pure_lwB {K : PySem.W.Frag} {C CT CU a : Addr} {ns : List Int} {i : Int} (hi : 0 ≤ i) (hi2 : i ≤ 1000) {D : Ends} {F H : Hp} {x2 x3 x4 x5 x6 x7 x8 x10 x11 : Option V} (o : Ok W0 F H) (hS : SqL K F a (ns.map V.int))
    (k : ∀ σ' F1 H1, (∃ x2 x3 x4 x5 x6 x7 x8 x10 x11, σ' = [some (.ref a), some (.int i), x2, x3, x4, x5, x6, x7, x8, none, x10, x11]) → Gw W0 F H F1 H1 → D.nx σ' H1) : t_lwB K C CT CU D [some (.ref a), some (.int i), x2, x3, x4, x5, x6, x7, x8, none, x10, x11] H := by
  refine asgO (callO ⟨_, rfl, _, rfl, a, ns, i, rfl, o.s.seq hS, hi, hi2, fun p H1 np s1 hp => ?_⟩)
  change tSeq _ _ D [some (.ref a), some (.int i), some (.ref p), x3, x4, x5, x6, x7, x8, none, x10, x11] H1
  have oP := o.pot np s1 hp
  have e1 := ev_call (E := E0) (σ := [some (.ref a), some (.int i), some (.ref p), x3, x4, x5, x6, x7, x8, none, x10, x11]) (tas := tCons (tVar 2) (tCons (tC (.int 10)) (tCons (tC (.int 20)) (tCons (tC (.int 3)) tNil)))) (wf := fun a : ScA => Wp a.p) (A := fun a => [Is (.ref a.p), Is (.int a.most), Is (.int a.edges), Is (.int a.uses)]) (Rf := fun a => Drawn a.most a.edges a.uses) ⟨p, 10, 20, 3, by decide, by decide, by decide, by decide⟩ oP
    (ea_cons oP (Is.mo _) (ev_var oP (Is.mo _) rfl rfl) (ea_cons oP (Is.mo _) (ev_c oP fun _ => rfl) (ea_cons oP (Is.mo _) (ev_c oP fun _ => rfl) (ea_cons oP (Is.mo _) (ev_c oP fun _ => rfl) (ea_nil oP)))))
  refine q_asgS (fun v => [some (.ref a), some (.int i), some (.ref p), some v, x4, x5, x6, x7, x8, none, x10, x11]) oP e1 fun v3 F2 H2 g2 r3 => ?_
  obtain ⟨ts, cs, vs, wf, hD⟩ := r3
  have wf : WfW 10 20 3 ts cs vs := wf
  have o2 := g2.ok oP
  have ws := wf.wfS (by decide) (by decide) (by decide)
  have mD := DatS.mo ts cs vs
  have hl : 0 < ts.length := wf.t0
  have em : ∀ {F3 H3 : Hp} {σ : L2.St}, Ok (Wp p) F3 H3 → DatS ts cs vs v3 F3 → σ[2]? = some (some (.ref p)) → σ[3]? = some (some v3) → EvW (Wp p) (SchOf C CT ts cs vs) (tCall (spMade C CT) [] E0 (tCons (tVar 2) (tCons (tVar 3) tNil))) σ F3 H3 := fun {F3 H3 σ} o3 h h2 h3 =>
    ev_call (wf := fun a : MdA => Wp a.p) (A := fun a => [Is (.ref a.p), DatS a.ts a.cs a.vs]) (Rf := fun a => SchOf C CT a.ts a.cs a.vs) ⟨p, ts, cs, vs, ws⟩ o3 (ea_cons o3 (Is.mo _) (ev_var o3 (Is.mo _) h2 rfl) (ea_cons o3 mD (ev_var o3 mD h3 h) (ea_nil o3)))
  have ef : EvW (Wp p) (Is (.str ts[0])) (tOp (rIxL K) (tDGet (tVar 3) (tC (.str "types"))) (tC (.int 0))) [some (.ref a), some (.int i), some (.ref p), some v3, x4, x5, x6, x7, x8, none, x10, x11] F2 H2 :=
    ev_op o2 (Txts.mo ts) (ev_dat (i := 0) (R := Txts ts) o2 (ev_var (i := 3) o2 mD rfl hD) rfl rfl) (ev_c (v := .int 0) o2 fun _ => rfl) (ow_ix fun xs hx => ⟨0, by exact at_nat (i := 0) (n := ts.length) (by decide) hl (by rw [hx, List.length_map]), by rw [List.getElem?_map, List.getElem?_eq_getElem hl]; rfl⟩)
  refine q_par2S (fun u v => [some (.ref a), some (.int i), some (.ref p), some v3, some u, some v, x6, x7, x8, none, x10, x11]) o2 (ea_cons o2 (SchOf.mo C CT ts cs vs) (em o2 hD rfl rfl) (ea_cons o2 (Is.mo _) ef (ea_nil o2))) fun v4 v5 F3 H3 g3 r4 r5 => ?_
  obtain rfl : v5 = .str ts[0] := r5
  obtain ⟨s, hs, r4⟩ := r4
  have o3 := g3.ok o2
  have hD3 := mD _ _ _ g3.g.ff hD
  have mS := Sch.mo C CT s
  have tl := ws.tl
  have stA : ∀ s', SchOk ts cs vs s' → StA := fun s' h => ⟨ts, cs, vs, s', ws.tn, by omega, ws.tm, wf.ce, h⟩
  have st1 : EvW (Wp p) (Is (.bl true)) (tCall (spSt K C CT CU) [] E0 (tCons (tVar 4) (tCons (tVar 3) tNil))) [some (.ref a), some (.int i), some (.ref p), some v3, some v4, some (.str ts[0]), x6, x7, x8, none, x10, x11] F3 H3 :=
    ev_call0 (A := fun a : StA => [Sch C CT a.s, DatS a.ts a.cs a.vs]) (Rf := fun _ => Is (.bl true)) ⟨ts, cs, vs, s, ws.tn, by omega, ws.tm, wf.ce, hs⟩ o3 (ea_cons o3 mS (ev_var o3 mS rfl r4) (ea_cons o3 mD (ev_var o3 mD rfl hD3) (ea_nil o3)))
  have st2 : ∀ F4 H4, Gw (Wp p) F3 H3 F4 H4 → EvW (Wp p) (Is (.bl true)) (tCall (spSt K C CT CU) [] E0 (tCons (tCall (spMade C CT) [] E0 (tCons (tVar 2) (tCons (tVar 3) tNil))) (tCons (tVar 3) tNil))) [some (.ref a), some (.int i), some (.ref p), some v3, some v4, some (.str ts[0]), x6, x7, x8, none, x10, x11] F4 H4 := fun F4 H4 g4 => by
    have o4 := g4.ok o3
    have hD4 := mD _ _ _ g4.g.ff hD3
    refine ev_call0X (A := fun a : StA => [Sch C CT a.s, DatS a.ts a.cs a.vs]) (Rf := fun _ => Is (.bl true)) o4 (ea_cons o4 (SchOf.mo C CT ts cs vs) (em o4 hD4 rfl rfl) (ea_cons o4 mD (ev_var (i := 3) o4 mD rfl hD4) (ea_nil o4))) fun us F1 al => ?_
    obtain ⟨y, z, rfl, ⟨s', hs', rs'⟩, hz⟩ := two_args al
    exact ⟨⟨ts, cs, vs, s', ws.tn, by omega, ws.tm, wf.ce, hs'⟩, .cons rs' (.cons hz .nil), fun v F2 h => h⟩
  refine q_no o3 (et_or (a := false) (b := false) o3 (et_not (b := true) (et_B st1)) fun _ => et_not (b := true) (et_B (st2 F3 H3 o3.refl))) fun F4 H4 g4 => ?_
  have o4 := g4.ok o3
  have g24 := (g2.trans oP g3).trans oP g4
  have r44 := mS _ _ _ g4.g.ff r4
  have h4 : Obj C schF (ordL CT (srt ts) s.u) v4 F4 := by
    have := Obj.less (L' := ordL CT s.ts s.u) r44 fun p hp => by
      rcases List.mem_cons.mp hp with rfl | hp
      · exact List.mem_cons_self
      · rw [List.mem_singleton.mp hp]; simp [schL]
    rw [hs.t] at this
    exact this
  have hj := ej_range (w0 := Wp p) (w := Wp p) (n := 4) (tas := tCons (tC (.int 4)) tNil) (σ := [some (.ref a), some (.int i), some (.ref p), some v3, some v4, some (.str ts[0]), x6, x7, x8, none, x10, x11]) (Sub.refl _) o4 (by decide) (by decide) (ea_cons o4 (Is.mo _) (ev_c o4 fun _ => rfl) (ea_nil o4))
  refine q_forJ (u := fun D => D.nx) (D := D) (Sub.refl _) o4 hj (fun j σ' G H' => ∃ x6 x7 x8 x10 x11, σ' = [some (.ref a), some (.int i), some (.ref p), some v3, some v4, some (.str ts[0]), x6, x7, x8, none, x10, x11]) (fun F' H' g => ⟨_, _, _, _, _, rfl⟩) (fun j x σ' G0 H0 G H' N hj g0 iv g5 hx k2 => ?_) fun σ' G H' g iv => ?_
  · obtain ⟨y6, y7, y8, y10, y11, rfl⟩ := iv
    have g05 := g0.trans o4 g5
    have o5 := g05.ok o4
    change t_lwI K C CT CU _ [some (.ref a), some (.int i), some (.ref p), some v3, some v4, some (.str ts[0]), some x, y7, y8, none, y10, y11] H'
    exact pure_lwI (by rw [hs.uk, hs.t]) ws.tn ws.tl wf.tm (List.getElem_mem hl) o5 (Obj.mo (ordL.mo CT (srt ts) s.u) _ _ _ g05.g.ff h4) fun σ' F1 H1 ⟨a7, a8, a10, a11, hσ⟩ g6 => k2 σ' F1 H1 g6 ⟨_, a7, a8, a10, a11, hσ⟩
  · obtain ⟨y6, y7, y8, y10, y11, rfl⟩ := iv
    exact k _ G H' ⟨_, _, _, _, _, _, _, _, _, rfl⟩ (Gw.drop np s1 (g24.trans oP g))
theorem pure_lw {K : PySem.W.Frag} {C CT CU : Addr} {vs : List V} {H : Hp} {Q : VK} {E : XK} (h : spLaw12 K vs H Q E) : t_lw K C CT CU { nx := fun _ H' => Q .non H', rt := Q } (L2.start ["script", "index", "pot", "s", "made", "first", "turn", "odd", "more", "time", "due", "told"] vs) H := by
  obtain ⟨a, ns, rfl, hl, hS, q⟩ := h
  have o : Ok W0 H H := ⟨Same.refl H, True.intro, fun _ z => nomatch z⟩
  have hnl : ((ns.map V.int).length : Int) ≤ 63 := by rw [List.length_map]; omega
  have hb : EvA W0 [Is (.int (if (if (5 : Int) < ((ns.map V.int).length : Int) then 5 else ((ns.map V.int).length : Int)) > 1 then (if (5 : Int) < ((ns.map V.int).length : Int) then 5 else ((ns.map V.int).length : Int)) else 1))] (tCons (tCB oMax (tCons (tC (.int 1)) (tCons (tCB oMin (tCons (tCB (iLen K) (tCons (tVar 0) tNil)) (tCons (tC (.int 5)) tNil))) tNil))) tNil) [some (.ref a), none, none, none, none, none, none, none, none, none, none, none] H H :=
    ea_cons o (Is.mo _) (ev_cb o (ea_cons o (Is.mo _) (ev_c o fun _ => rfl) (ea_cons o (Is.mo _) (ev_cb o (ea_cons o (Is.mo _) (ev_cb o (ea_cons o Sc.mo (ev_var (R := Sc K a (ns.map V.int)) o Sc.mo rfl ⟨rfl, hS⟩) (ea_nil o)) ca_lenSc) (ea_cons o (Is.mo _) (ev_c o fun _ => rfl) (ea_nil o))) ca_min2) (ea_nil o))) ca_max2) (ea_nil o)
  have hj := ej_range (w0 := W0) (w := W0) (Sub.refl _) o (by split <;> omega) (by split <;> (try split) <;> omega) hb
  refine q_forJ (Sub.refl _) o hj (fun i σ' G H' => ∃ x1 x2 x3 x4 x5 x6 x7 x8 x10 x11, σ' = [some (.ref a), x1, x2, x3, x4, x5, x6, x7, x8, none, x10, x11]) (fun F' H' g => ⟨_, _, _, _, _, _, _, _, _, _, rfl⟩) (fun i x σ' G0 H0 G H' N hi g0 iv g2 hx k2 => ?_) fun σ' G H' g iv => ?_
  · obtain ⟨x1, x2, x3, x4, x5, x6, x7, x8, x10, x11, rfl⟩ := iv
    subst hx
    have g02 := g0.trans o g2
    have oo := g02.ok o
    have hi2 : (i : Int) ≤ 1000 := by
      have : i < 6 := by split at hi <;> (try split at hi) <;> omega
      omega
    change t_lwB K C CT CU _ [some (.ref a), some (.int (i : Nat)), x2, x3, x4, x5, x6, x7, x8, none, x10, x11] H'
    exact pure_lwB (by omega) hi2 oo (g02.g.ff.seq hS) fun σ' F1 H1 ⟨a2, a3, a4, a5, a6, a7, a8, a10, a11, hσ⟩ g5 => k2 σ' F1 H1 g5 ⟨_, a2, a3, a4, a5, a6, a7, a8, a10, a11, hσ⟩
  · obtain ⟨x1, x2, x3, x4, x5, x6, x7, x8, x10, x11, rfl⟩ := iv
    have o2 := g.ok o
    exact q_ret (R := Is (.bl true)) o2 (ev_c o2 fun _ => rfl) fun v F3 H3 g3 r => by
      obtain rfl : v = .bl true := r
      exact q H3
end QW

set_option Elab.async false
set_option linter.all false
set_option maxRecDepth 100000
set_option maxHeartbeats 1000000
/-! QPs: sorting tuples of texts, any number of them. -/
namespace QSo
open PySem PySem.Spec PyProof.Rows L2 PySem.W QW
/-- in the order of tuples -/
def tls : List Str → List Str → Bool
  | [], [] => false
  | [], _ :: _ => true
  | _ :: _, [] => false
  | x :: xs, y :: ys => if x = y then tls xs ys else tlt x y
theorem tlt_asym {x y : Str} (h : tlt x y = true) : tlt y x = false := by
  cases e : tlt y x with
  | false => rfl
  | true => exact absurd (lt_tr h e) (by rw [lt_irr]; decide)
theorem tls_asym : ∀ x y : List Str, tls x y = true → tls y x = false
  | [], [], _ => rfl
  | [], _ :: _, _ => rfl
  | _ :: _, [], h => nomatch h
  | x :: xs, y :: ys, h => by
    unfold tls at h ⊢
    by_cases e : x = y
    · rw [if_pos e] at h
      rw [if_pos e.symm]
      exact tls_asym xs ys h
    · rw [if_neg e] at h
      rw [if_neg fun z => e z.symm]
      exact tlt_asym h
theorem tls_tr : ∀ x y z : List Str, tls y x = false → tls z y = false → tls z x = false
  | [], [], z, _, h2 => h2
  | [], _ :: _, [], _, h2 => nomatch h2
  | [], _ :: _, _ :: _, _, _ => rfl
  | _ :: _, [], _, h1, _ => nomatch h1
  | _ :: _, _ :: _, [], _, h2 => nomatch h2
  | x :: xs, y :: ys, z :: zs, h1, h2 => by
    unfold tls at h1 h2 ⊢
    by_cases e1 : y = x
    · rw [if_pos e1] at h1
      by_cases e2 : z = y
      · rw [if_pos e2] at h2
        rw [if_pos (e2.trans e1)]
        exact tls_tr xs ys zs h1 h2
      · rw [if_neg e2] at h2
        rw [if_neg (by rw [← e1]; exact e2), ← e1]
        exact h2
    · rw [if_neg e1] at h1
      by_cases e2 : z = y
      · rw [e2, if_neg e1]
        exact h1
      · rw [if_neg e2] at h2
        have h3 := tlt_trans h1 h2
        by_cases e3 : z = x
        · rw [e3] at h2
          exact (e1 (tlt_tri h1 h2)).elim
        · rw [if_neg e3]
          exact h3
theorem tls_tri : ∀ {x y : List Str}, tls x y = false → tls y x = false → x = y
  | [], [], _, _ => rfl
  | [], _ :: _, h, _ => nomatch h
  | _ :: _, [], _, h => nomatch h
  | x :: xs, y :: ys, h1, h2 => by
    unfold tls at h1 h2
    by_cases e : x = y
    · rw [if_pos e] at h1
      rw [if_pos e.symm] at h2
      rw [e, tls_tri h1 h2]
    · rw [if_neg e] at h1
      rw [if_neg fun z => e z.symm] at h2
      exact (e (tlt_tri h1 h2)).elim
theorem tls_swo {α : Type} (k : α → List Str) : SrtO.Swo fun v u => tls (k v) (k u) := ⟨fun x y => tls_asym _ _, fun x y z => tls_tr _ _ _⟩
/-- values that are texts -/
inductive Txs : List Value → List Str → Prop
  | nil : Txs [] []
  | cons {y : Str} {t : Tok} {us : List Value} {ys : List Str} : Txs us ys → Txs (.str y t :: us) (y :: ys)
theorem Txs.length : ∀ {us : List Value} {ys : List Str}, Txs us ys → us.length = ys.length
  | _, _, .nil => rfl
  | _, _, .cons r => congrArg (· + 1) r.length
/-- v is a tuple of the texts ys -/
def TsIn (h : Heap) (v : Value) (ys : List Str) : Prop := ∃ (a : Addr) (us : List Value) (o : Obj) (n : Nat), v = .ref a ∧ h.get? a = some o ∧ o.cls = .type "tuple" ∧ o.data = .seq us.toArray n ∧ Txs us ys
theorem TsIn.keeps {h h' : Heap} {v : Value} {ys : List Str} (x : TsIn h v ys) (k : ∀ b o, h.get? b = some o → o.cls = .type "tuple" → h'.get? b = some o) : TsIn h' v ys := by
  obtain ⟨a, us, o, n, e, h1, h2, h3, h4⟩ := x
  exact ⟨a, us, o, n, e, k _ _ h1 h2, h2, h3, h4⟩
theorem Txs.uniq : ∀ {us : List Value} {xs ys : List Str}, Txs us xs → Txs us ys → xs = ys
  | _, _, _, .nil, .nil => rfl
  | _, _, _, .cons a, .cons b => by rw [Txs.uniq a b]
theorem TsIn.uniq {h : Heap} {v : Value} {xs ys : List Str} (a : TsIn h v xs) (b : TsIn h v ys) : xs = ys := by
  obtain ⟨p, us, o, n, rfl, h1, h2, h3, h4⟩ := a
  obtain ⟨p', us', o', n', e, h1', h2', h3', h4'⟩ := b
  cases e
  rw [h1] at h1'
  cases h1'
  rw [h3] at h3'
  have e : us.toArray = us'.toArray := by injection h3'
  have e2 : us = us' := by simpa using e
  subst e2
  exact h4.uniq h4'
open Classical in
/-- its texts -/
noncomputable def txsOf (h : Heap) (v : Value) : List Str := if x : ∃ ys, TsIn h v ys then choose x else []
theorem txsOf_eq {h : Heap} {v : Value} {ys : List Str} (x : TsIn h v ys) : txsOf h v = ys := by
  unfold txsOf
  rw [dif_pos ⟨ys, x⟩]
  exact (Classical.choose_spec (p := fun ys => TsIn h v ys) ⟨ys, x⟩).uniq x
theorem TsIn.of {h : Heap} {v : Value} {ys : List Str} (x : TsIn h v ys) : TsIn h v (txsOf h v) := by rw [txsOf_eq x]; exact x
section
variable {prog : Program} {w : World} {A : Around} {E : Value → Shared → Prop} {s : Shared}
theorem oneLt_strs (c : Bool) {x y : Str} {t u : Tok} {Q : Bool → Shared → Prop} (h : Q (tlt x y) s) : wpAny (model prog w) A (oneLt' c (.str x t) (.str y u)) Q E s := by
  cases c with
  | true => exact oneLt_str h
  | false => exact PySem.W.kat_one _ _ (PyProof.Rows.lt_str (Q := PySem.W.BoolBack Q) h)
theorem lex_txs {b fin : Bool} {Q : Bool → Shared → Prop} : ∀ {us vs : List Value} {xs ys : List Str} (i : Nat), Txs us xs → Txs vs ys → fin = decide (us.length < vs.length) → Q (tls xs ys) s → KatLex prog w A b fin Q (us.zip vs) i s
  | _, _, _, _, i, .nil, .nil, e, h => by
    subst e
    exact kat_nil h
  | _, _, _, _, i, .nil, .cons (y := y) (t := t) (us := us) r, e, h => by
    subst e
    refine kat_nil ?_
    have : decide (([] : List Value).length < (Value.str y t :: us).length) = true := decide_eq_true (by simp)
    rw [this]
    exact h
  | _, _, _, _, i, .cons r, .nil, e, h => by
    subst e
    exact kat_nil h
  | _, _, _, _, i, .cons (y := x) (us := us) (ys := xs) r1, .cons (y := y) (us := vs) (ys := ys) r2, e, h => by
    have e' : fin = decide (us.length < vs.length) := by rw [e]; simp
    have h' : Q (if x = y then tls xs ys else tlt x y) s := h
    refine kat_cons (wpAny_eqBool_str ?_)
    by_cases q : x = y
    · rw [decide_eq_true q]
      rw [if_pos q] at h'
      exact kat_yes (lex_txs (i + 1) r1 r2 e' h')
    · rw [decide_eq_false q]
      rw [if_neg q] at h'
      exact kat_no (oneLt_strs _ h')
theorem firsts_tx {h : Heap} : ∀ vs : List Value, (∀ v ∈ vs, ∃ y ys, TsIn h v (y :: ys)) → ∃ fs : List Value, KatTups h vs fs ∧ fs.length = vs.length ∧ ∀ f ∈ fs, ∃ y t, f = Value.str y t
  | [], _ => ⟨[], KatTups.nil, rfl, fun f hf => nomatch hf⟩
  | v :: vs, x => by
    obtain ⟨fs, k, hl, hi⟩ := firsts_tx vs fun u hu => x u (List.mem_cons_of_mem _ hu)
    obtain ⟨y, ys, a, us, o, n, rfl, ho, hc, hd, ht⟩ := x v List.mem_cons_self
    obtain ⟨t, us', rfl⟩ : ∃ t us', us = Value.str y t :: us' := by cases ht; exact ⟨_, _, rfl⟩
    refine ⟨.str y t :: fs, KatTups.cons ho hc hd rfl k, by rw [List.length_cons, List.length_cons, hl], fun f hf => ?_⟩
    rcases List.mem_cons.mp hf with rfl | hf
    · exact ⟨y, t, rfl⟩
    · exact hi f hf
theorem tx_cmp {vs : List Value} {k : Value → List Str} (hp : ∀ v ∈ vs, TsIn s.heap v (k v)) : SrtO.Cmp prog w A s (tuples' true) (fun p => p.1 ∈ vs) (SrtO.lt2 fun v u => tls (k v) (k u)) := by
  intro p q hm hm'
  have h1 := hp _ hm
  have h2 := hp _ hm'
  show wpAny (model prog w) A (keyLt' (tuples' true) p.1 q.1) (fun r s' => s' = s ∧ r = tls (k p.1) (k q.1)) (fun _ _ => False) s
  generalize k p.1 = xs at h1 ⊢
  generalize k q.1 = ys at h2 ⊢
  obtain ⟨a, us, o, n, e, ho, hc, hd, ht⟩ := h1
  obtain ⟨a', us', o', n', e', ho', hc', hd', ht'⟩ := h2
  rw [e, e']
  refine PySem.W.kat_lt ho hd ho' hd' ?_
  exact lex_txs (us := us) (vs := us') 0 ht ht' (by rw [List.size_toArray, List.size_toArray]) ⟨rfl, rfl⟩
theorem txs_sortable {a : Addr} {vs : List Value} {k : Value → List Str} (hp : ∀ v ∈ vs, TsIn s.heap v (k v)) (hne : ∀ v ∈ vs, k v ≠ []) (h0 : 0 < vs.length) (ha : ∀ o, s.heap.get? a = some o → o.cls ≠ .type "tuple") : SrtO.SortableO prog w A s a vs fun v u => tls (k v) (k u) := by
  intro h' keep
  have hp' : ∀ v ∈ vs, TsIn h' v (k v) := fun v hm => (hp v hm).keeps fun b o e c => keep b o (fun z => by subst z; exact ha o e c) e
  obtain ⟨fs, h1, h2, h3⟩ := firsts_tx (h := h') vs fun v hv => by
    have x := hp' v hv
    have n := hne v hv
    cases e : k v with
    | nil => exact (n e).elim
    | cons y ys => rw [e] at x; exact ⟨y, ys, x⟩
  refine ⟨tuples' true, fun Q E hq => ?_, tx_cmp hp'⟩
  refine PySem.W.kat_kind (T := .type "str") h1 (by omega) (fun f hm => ?_) (by rfl) ?_
  · obtain ⟨x, t, rfl⟩ := h3 f hm
    exact PySem.W.Looks.now
  · have e : (Value.type "str" != Value.type "tuple") = true := by first | decide +kernel | rfl | decide
    rw [e]
    exact hq
end
/-- an entry: the tuple's address, its texts -/
abbrev EntT : Type := Addr × List Str
/-- sorted(xs), xs a list of tuples of texts (none empty, if there are two) -/
def rSortTT (K : PySem.W.Frag) : List V → Hp → VK → Prop := fun vs H Q => ∃ (a : Addr) (ts : List EntT), vs = [.ref a] ∧ SqL K H a (ts.map fun z => V.ref z.1) ∧ ts.length ≤ 100000 ∧ (∀ z ∈ ts, SqT K H z.1 (sv z.2)) ∧ (2 ≤ ts.length → ∀ z ∈ ts, z.2 ≠ []) ∧
  ∀ (zs : List EntT) (p : Addr), zs.Perm ts → zs.Pairwise (fun x y => tls y.2 x.2 = false) → H p = none → Q (.ref p) (upd H p (.lst (zs.map fun z => V.ref z.1)))
theorem txs_vals : ∀ {ys : List Str} {us : List Value}, Vals (sv ys) us → Txs us ys
  | [], _, r => by cases r; exact .nil
  | y :: ys, _, r => by
    cases r with
    | cons r1 r2 =>
      obtain ⟨t, rfl⟩ := r1
      exact .cons (txs_vals r2)
section
variable {X : Cx} {pins : List (Addr × Obj)} {σ : L2.St} {H : Hp} {s : Shared}
theorem tsIn_of (I : Inv X pins σ H s) {a : Addr} {ys : List Str} (h : SqT X.K H a (sv ys)) : TsIn s.heap (.ref a) ys := by
  obtain ⟨its, rv, ht, hz⟩ := I.tuple h
  obtain ⟨o, ho, hc, n, hd⟩ := ht
  exact ⟨a, its, o, n, rfl, ho, hc, hd, txs_vals rv⟩
theorem refs_valsT {ts : List EntT} {its : List Value} (rv : Vals (ts.map fun z => V.ref z.1) its) : its = ts.map fun z => Value.ref z.1 := by
  induction ts generalizing its with
  | nil => cases rv; rfl
  | cons z ts ih =>
    cases rv with
    | cons r1 r2 =>
      obtain rfl := r1
      rw [ih r2]
      rfl
theorem cr_sortTT : CallR X (.builtin "sorted") (rSortTT X.K) := by
  intro pins s σ H vs us Q I r h
  obtain ⟨a, ts, rfl, hs, hz, ht, hne, q⟩ := h
  obtain ⟨its, rv, hl, _⟩ := I.list hs
  rw [Vals.ref1 r]
  have eI := refs_valsT rv
  subst eI
  have tx : ∀ z ∈ ts, TsIn s.heap (.ref z.1) z.2 := fun z hz => tsIn_of I (ht z hz)
  have hz' : (ts.map fun z => Value.ref z.1).length ≤ sizeLine := by rw [List.length_map, sizeLine_eq]; omega
  refine SrtO.sorted_ord (tls_swo (txsOf s.heap)) hl.isList hz' (fun h2 h₁ a ha kk => ?_) fun out hs hb => ?_
  · refine txs_sortable (s := { s with heap := h₁ }) (fun v hv => ?_) (fun v hv => ?_) (by omega) fun o e => ?_
    · obtain ⟨z, hz, rfl⟩ := List.mem_map.mp hv
      exact (tx z hz).of.keeps fun b o e _ => (kk b o e).2
    · obtain ⟨z, hz, rfl⟩ := List.mem_map.mp hv
      rw [txsOf_eq (tx z hz)]
      exact hne (by rw [List.length_map] at h2; exact h2) z hz
    · have e' : some o = some (seqObj "list" (ts.map fun z => Value.ref z.1).toArray 0) := e.symm.trans ha
      cases e'
      intro c
      exact absurd (Value.type.inj c) (by decide)
  · obtain ⟨zs, pz, ez⟩ := perm_lift (fun z : EntT => Value.ref z.1) hb.perm ts rfl
    have pw : zs.Pairwise (fun x y => tls y.2 x.2 = false) := by
      have hs' : out.Pairwise fun v u => tls (txsOf s.heap u) (txsOf s.heap v) = false := hs
      rw [← ez, List.pairwise_map] at hs'
      refine List.Pairwise.imp_of_mem (fun {x y} hx hy z => ?_) hs'
      rw [txsOf_eq (tx x (pz.mem_iff.mp hx)), txsOf_eq (tx y (pz.mem_iff.mp hy))] at z
      exact z
    obtain ⟨ep, he'⟩ := PyProof.Rows.sortedAll_at s.heap (ts.map fun z => Value.ref z.1) out.toArray
    have hlen : (zs.map fun z => V.ref z.1).length ≤ sizeLine := by rw [List.length_map, pz.length_eq, sizeLine_eq]; omega
    have rv' : Vals (zs.map fun z => V.ref z.1) out := by
      rw [← ez]
      exact vals_maps (fun z : EntT => V.ref z.1) (fun z => Value.ref z.1) zs fun _ _ => rfl
    exact ⟨.ref _, upd H (s.heap.objs.size + 1) (.lst (zs.map fun z => V.ref z.1)), I.laid (t' := s.toks) (fun _ _ => PyProof.Rows.sortedAll_old) (Nat.le_succ _) ⟨hlen, out, ep, rv', he'⟩, rfl, q zs _ pz pw (I.hok.fresh (Nat.le_succ _))⟩
end
end QSo
namespace QK
open PySem PySem.Spec PyProof.Rows L2
theorem cr_sortTT {X : Cx} {K : PySem.W.Frag} (hK : X.K = K) : CallR X (.builtin "sorted") (QSo.rSortTT K) := by subst hK; exact QSo.cr_sortTT
end QK

set_option Elab.async false
set_option linter.all false
set_option maxRecDepth 100000
set_option maxHeartbeats 1000000
/-! QVar: defs f(a, *r), called where no object is being shown. -/
namespace QC
open PySem PySem.Spec PyProof.Rows L2 QG
/-- with a new tuple -/
def tupS (s : Shared) (us : List Value) : Shared := { s with heap := s.heap.push ({ cls := .type "tuple", data := .seq us.toArray } : Obj) }
/-- a promise of such a def: the tuple laid first -/
def FnV (P : Program) (w : World) (K : PySem.W.Frag) (mg : Str → Option Value) (base : Heap) (CX : CXT) (k n : Nat) (f : Addr) (sp : Sp) : Prop :=
  ∀ (A : Around) (outer : List Env) (s : Shared) (H : Hp) (u : Value) (rest : List Value) (v : V) (vr : List V) (Q : VK) (E : XK), A.guards = some [] → Room k A →
    (∀ b o, base.get? b = some o → s.heap.get? b = some o) → Env0 P w K mg base A outer (tupS s rest) (upd H s.heap.objs.size (.tup vr)) → RelV v u → rest.length ≤ n → sp [v, .ref s.heap.objs.size] (upd H s.heap.objs.size (.tup vr)) Q E →
    codeAny (model P w) A (.call (.ref f) ⟨u :: rest, []⟩) (CR CX outer P w (upd H s.heap.objs.size (.tup vr)) (tupS s rest) Q E) s
section
variable {P : Program} {w : World} {K : PySem.W.Frag} {mg : Str → Option Value} {base : Heap} {CX : CXT} {k n : Nat} {f : Addr} {fd : FuncData} {sp : Sp} {pa pv : Str}
theorem fn_ofVG {name qual : Str} {params : Arguments} {body : List Stmt} {scope : Scope} {dV kV doc pm cdv ct oc : Value} {an od : Option Addr} {osl : Array (Option Value)} {N : List Str}
    (lk : K.lookup f = some ⟨oc, od, .func (PySem.W.fnOf name qual params body scope dV kV doc pm an cdv ct), osl⟩) (hcd : PySem.W.codeIn K cdv qual = true) (S : FnScope N [pa, pv] scope) (hz : n ≤ sizeLine)
    (bt : ∀ (u : Value) (rest : List Value), rest.length ≤ n → bindArgs (PySem.W.fnOf name qual params body scope dV kV doc pm an cdv ct) ⟨u :: rest, []⟩ = (newTuple rest >>= fun t => pure [(pa, u), (pv, t)]))
    (hb : ∀ (A : Around) (outer : List Env) (s : Shared) (H : Hp) (vs : List V) (Q : VK) (E : XK), (A.deeper (envOfC qual scope s.heap.objs.size f cdv)).guards = some [] →
      Room k (A.deeper (envOfC qual scope s.heap.objs.size f cdv)) → sp vs H Q E →
      ∃ t, PSs (cxOf CX P w K mg base N qual scope f cdv A outer s H E) body t ∧ t { nx := fun _ H' => Q .non H', rt := Q } (start N vs) H) :
    FnV P w K mg base CX (k + 1) n f sp := by
  intro A outer s H u rest v vr Q E gd rm stays e0 rv hl q
  have stays1 : ∀ b o, base.get? b = some o → (tupS s rest).heap.get? b = some o := fun b o e => (e0.bs b o e).1
  have KX : K.In s.heap := e0.mod.kin.keeps stays
  have lim : (tupS s rest).heap.NoLimit := e0.mod.nolimit.keeps stays1
  have kinds : ∀ y ∈ [pa, pv].zip [u, Value.ref s.heap.objs.size], scope.names.lookup y.1 = some .local ∨ (scope.names.lookup y.1 = some .cell ∧ ((cellsFrom ((tupS s rest).heap.objs.size + 1) scope.names []).lookup y.1).isSome = true) := by
    rintro ⟨n, v⟩ hy
    exact (S.par n (List.of_mem_zip hy).1).imp id fun z => ⟨z, PySem.W.cellsFrom_some _ _ _ (.inl z)⟩
  refine codeAny_call_function rm.depth (KX _ _ lk) rfl S.co S.gen rfl (PySem.W.codeRec_of KX hcd) ?_
  rw [bt u rest hl]
  refine wpAny_bind (wpAny_newTuple (wpAny_pure ?_) (Nat.le_trans hl hz))
  refine wpAny_newFunctionEnv_cells (s := tupS s rest) S.kind kinds fun env he s1 x => ?_
  subst he
  refine ⟨lim.keeps x.toInCall.keep, codeAny_func ?_⟩
  obtain ⟨t, ht, hq⟩ := hb A outer (tupS s rest) (upd H s.heap.objs.size (.tup vr)) _ Q E (guards_deeper gd) (rm.deeper _) q
  have I := inv_start (CX := CX) (P := P) (E := E) S rm.hd e0 rfl (.cons rv (.cons (show RelV (.ref s.heap.objs.size) (.ref s.heap.objs.size) from rfl) .nil)) x
  refine wpAny_mono (ht.run [] s1 _ _ _ I hq) (fun fl s' hs => ?_) fun _ _ z => z
  cases fl with
  | ret u =>
    obtain ⟨v, σ', H', J, rv', q'⟩ := hs
    exact ⟨v, H', J.os, J.bare, J.base, J.hok, rv', q'⟩
  | next =>
    obtain ⟨σ', H', J, q'⟩ := hs
    exact ⟨.non, H', J.os, J.bare, J.base, J.hok, rfl, q'⟩
  | brk =>
    obtain ⟨_, _, _, z⟩ := hs
    exact z.elim
  | cont =>
    obtain ⟨_, _, _, z⟩ := hs
    exact z.elim
/-- such a def, by its name -/
structure CalV (P : Program) (w : World) (K : PySem.W.Frag) (mg : Str → Option Value) (base : Heap) (CX : CXT) (k n : Nat) (x : Str) (sp : Sp) : Prop where
  ex : ∃ f : Addr, FnV P w K mg base CX k n f sp ∧ mg x = some (.ref f) ∧ PySem.W.keepIn K (.ref f) = true
theorem calV {x : Str} {params : Arguments} {body : List Stmt} {scope : Scope} {N : List Str} (F : FunD K x x params body scope [] [] f fd) (hm : mg x = some (.ref f)) (hz : n ≤ sizeLine)
    (bt : ∀ (kV doc pm : Value) (an : Option Addr) (cdv ct : Value) (u : Value) (rest : List Value), rest.length ≤ n → bindArgs (PySem.W.fnOf x x params body scope .none kV doc pm an cdv ct) ⟨u :: rest, []⟩ = (newTuple rest >>= fun t => pure [(pa, u), (pv, t)]))
    (S : FnScope N [pa, pv] scope)
    (hb : ∀ (cdv : Value) (A : Around) (outer : List Env) (s : Shared) (H : Hp) (vs : List V) (Q : VK) (E : XK), (A.deeper (envOfC x scope s.heap.objs.size f cdv)).guards = some [] →
      Room k (A.deeper (envOfC x scope s.heap.objs.size f cdv)) → sp vs H Q E →
      ∃ t, PSs (cxOf CX P w K mg base N x scope f cdv A outer s H E) body t ∧ t { nx := fun _ H' => Q .non H', rt := Q } (start N vs) H) : CalV P w K mg base CX (k + 1) n x sp := by
  refine ⟨f, ?_, hm, F.kp⟩
  obtain ⟨oc, od, dV, kV, doc, pm, an, cdv, ct, osl, rfl, lk, hcd, hd, _⟩ := F.ex
  have e : dV = .none := hd.elim (fun z => z.2) fun z => (z.1 rfl).elim
  subst e
  exact fn_ofVG lk hcd S hz (fun u rest h => bt kV doc pm an cdv ct u rest h) fun A outer s H vs Q E gd rm q => hb cdv A outer s H vs Q E gd rm q
end
def tCallV (n : Nat) (sp : Sp) (E : L2.St → XK) (t : TA) : TE := fun σ H Q => t σ H fun vs H1 => ∃ v vr, vs = v :: vr ∧ vr.length ≤ n ∧ ∀ p, H1 p = none → sp [v, .ref p] (upd H1 p (.tup vr)) Q (E σ)
section
variable {X : Cx} {CX : CXT} {k j n : Nat} {sp : Sp} {E : L2.St → XK} {x : Str} {p pos : Pos} {e : Expr} {es : List Expr} {t : TA}
theorem pe_v (c : CalV X.prog X.w X.K X.mg X.base CX k n x sp) (hz : n ≤ sizeLine) (gd : X.A.guards = some []) (hr : Room j X.A) (hk : k ≤ j) (hx : ∀ σ, PassesAt CX X σ (E σ)) (hg : Gl X x) (ha : PA X (e :: es) t)
    (hdb : (x == ("__debug__" : Str)) = false := by decide) (he : starEach (e :: es) X.env = (false, eval e X.env) :: starEach es X.env := by rfl) (hpl : (backTo pos (starEach es X.env)).any (·.1) = false := by rfl) :
    PE X (.Call (.Name x p) (e :: es) [] pos) (tCallV n sp E t) := by
  obtain ⟨f, F, hm, kp⟩ := c.ex
  refine ⟨fun pins s σ H Q I h => ?_⟩
  refine wpAny_Call_Name_kw (ld_glob I hg hm ?_ hdb)
  refine PySem.W.callWith_K (h₀ := X.base) I.ok.mod.kin kp (thn (ha.run pos pins s σ H _ I h) fun us s1 ⟨vs, H1, I1, r, q⟩ => ⟨I1.kIn, ?_⟩) he hpl
  obtain ⟨v, vr, rfl, hl, q⟩ := q
  cases r with
  | @cons _ u _ rest rv rr =>
    have hl' : rest.length ≤ n := by rw [← rr.length]; exact hl
    have I2 : Inv X pins σ (upd H1 s1.heap.objs.size (.tup vr)) (tupS s1 rest) := I1.laid (t' := s1.toks) (fun b u e => Heap.get?_push_of_some _ e) (Nat.le_refl _)
      ⟨Nat.le_trans hl hz, rest, rr, ⟨_, Heap.get?_push_size _ rfl, rfl, _, rfl⟩⟩
    refine wpAny_call (codeAny_mono (F X.A X.stack s1 H1 u rest v vr Q (E σ) gd (hr.mono hk) (fun b o e => (I1.env0.bs b o e).1) I2.env0 rv hl' (q _ (I1.hok.fresh (Nat.le_refl _)))) fun r s' hq => ?_)
    cases r with
    | error e => exact hx σ pins _ _ e s' I2 hq
    | ok fl =>
      cases fl with
      | ret u => exact I2.after hq
      | next => exact False.elim hq
      | brk => exact False.elim hq
      | cont => exact False.elim hq
end
end QC
namespace QW
open PySem PySem.Spec PyProof.Rows L2 QR
section
variable {w : Wd} {σ : L2.St} {F H : Hp} {ta : TA} {Rs : List Pr}
theorem callVX {α : Type} {A : α → List Pr} {R : α → Pr} {X : α → Value → Option Addr → Hp → Prop} {R0 : Pr} {E : L2.St → XK} {n : Nat} {Qv : VK} (a : α) (hA : A a = [R0, Tu Rs]) (m0 : Mo R0) (m : ∀ R ∈ Rs, Mo R) (hl : Rs.length ≤ n) (o : Ok w F H) (h : EvA w (R0 :: Rs) ta σ F H)
    (k : ∀ v F1 H1, Gw w F H F1 H1 → R a v F1 → Qv v H1) (kx : ∀ cls d F1 H1, Gw w F H F1 H1 → X a cls d F1 → E σ cls d H1) : QC.tCallV n (spX A R X) E ta σ H Qv :=
  h F H o.refl _ fun vs F1 H1 g al => by
    have o1 := g.ok o
    cases al with
    | @cons _ _ v vr _ r0 al =>
      refine ⟨v, vr, rfl, by rw [al.length]; exact hl, fun p hp => ?_⟩
      have g2 := g.new o hp (u := .tup vr)
      have e := same_upd (o := .tup vr) (same_none o1.s hp)
      refine ⟨a, upd F1 p (.tup vr), (g2.ok o).zero, ?_, fun v F4 H4 c r => k v F4 H4 (g2.trans o (c.of0 (g2.ok o))) r, fun cls d F4 H4 c r => kx cls d F4 H4 (g2.trans o (c.of0 (g2.ok o))) r⟩
      rw [hA]
      exact .cons (m0 _ _ _ e r0) (.cons ⟨p, vr, rfl, upd_same, al.mono e m⟩ .nil)
end
/-- a def that may let an exception out, called by its name -/
theorem callX {w : Wd} {σ : L2.St} {F H : Hp} {ta : TA} {α : Type} {A : α → List Pr} {R : α → Pr} {X : α → Value → Option Addr → Hp → Prop} {E : L2.St → XK} {Qv : VK} (a : α) (o : Ok w F H) (h : EvA w (A a) ta σ F H)
    (k : ∀ v F1 H1, Gw w F H F1 H1 → R a v F1 → Qv v H1) (kx : ∀ cls d F1 H1, Gw w F H F1 H1 → X a cls d F1 → E σ cls d H1) : QC.tCallE (spX A R X) [] E ta σ H Qv :=
  h F H o.refl _ fun vs F1 H1 g al => by
    have o1 := g.ok o
    exact ⟨a, F1, o1.zero, by rw [List.append_nil]; exact al, fun v F4 H4 c r => k v F4 H4 (g.trans o (c.of0 o1)) r, fun cls d F4 H4 c r => kx cls d F4 H4 (g.trans o (c.of0 o1)) r⟩
end QW

set_option Elab.async false
set_option linter.all false
set_option maxRecDepth 100000
set_option maxHeartbeats 1000000
/-! QPath: has_cast, cast, require_types, walked, is_path. -/
namespace QW
open PySem PySem.Spec PyProof.Rows L2 QR
/-! ### plain -/
def isTup : PyData → Bool
  | .tuple _ => true
  | _ => false
theorem kit_tup {K : PySem.W.Frag} : ∀ d : PyData, PySem.W.kitOne K (.type (tyD d)) (.type "tuple") = some (isTup d)
  | .none => rfl
  | .bool _ => rfl
  | .int _ => rfl
  | .str _ => rfl
  | .list _ => rfl
  | .tuple _ => rfl
  | .dict _ => rfl
/-- the ends of a cast -/
def castN (cs : List Cst) (n : Str) : Option (Str × Str) := (cs.find? fun c => decide (c.1 = n)).map (·.2)
def castOf (cs : List Cst) : PyData → Option (Str × Str)
  | .str n => castN cs n
  | _ => none
theorem castOf_at : ∀ {cs : List Cst} {i : Nat} {c : Cst}, (cs.map (·.1)).Nodup → cs[i]? = some c → castOf cs (.str c.1) = some c.2
  | [], i, _, _, h => by simp at h
  | a :: cs, 0, c, _, h => by
    simp only [List.getElem?_cons_zero] at h
    cases h
    show castN (a :: cs) a.1 = _
    unfold castN
    rw [List.find?_cons_of_pos (by simp)]
    rfl
  | a :: cs, i + 1, c, hn, h => by
    rw [List.getElem?_cons_succ] at h
    rw [List.map_cons, List.nodup_cons] at hn
    have ne : ¬ a.1 = c.1 := fun z => hn.1 (by rw [z]; exact List.mem_map.mpr ⟨c, List.mem_of_getElem? h, rfl⟩)
    have ih : castN cs c.1 = some c.2 := castOf_at hn.2 h
    show castN (a :: cs) c.1 = _
    unfold castN at ih ⊢
    rw [List.find?_cons_of_neg (by simpa using ne)]
    exact ih
theorem castOf_mem {cs : List Cst} {c : Cst} (hn : (cs.map (·.1)).Nodup) (h : c ∈ cs) : castOf cs (.str c.1) = some c.2 := by
  obtain ⟨i, hi⟩ := List.getElem?_of_mem h
  exact castOf_at hn hi
theorem castOf_some {cs : List Cst} {d : PyData} {e : Str × Str} (h : castOf cs d = some e) : ∃ n, d = .str n ∧ (n, e) ∈ cs := by
  cases d <;> first | (cases h; done) | skip
  rename_i n
  refine ⟨n, rfl, ?_⟩
  have h : castN cs n = some e := h
  unfold castN at h
  cases q : cs.find? fun c => decide (c.1 = n) with
  | none => rw [q] at h; cases h
  | some c =>
    rw [q] at h
    cases h
    have hm := List.mem_of_find?_eq_some q
    have hp := List.find?_some q
    have hc : c.1 = n := of_decide_eq_true hp
    rw [← hc]
    exact hm
theorem isOne_cast {cs : List Cst} (hn : (cs.map (·.1)).Nodup) (d : PyData) : isOne (cs.map (·.1)) d = (castOf cs d).isSome := by
  cases e : castOf cs d with
  | some p =>
    obtain ⟨n, rfl, hm⟩ := castOf_some e
    exact decide_eq_true (List.mem_map.mpr ⟨_, hm, rfl⟩)
  | none =>
    cases d <;> first | rfl | skip
    rename_i n
    refine decide_eq_false fun z => ?_
    obtain ⟨c, hc, rfl⟩ := List.mem_map.mp z
    rw [castOf_mem hn hc] at e
    cases e
theorem castOf_perm {cs cs' : List Cst} (hn : (cs.map (·.1)).Nodup) (p : cs'.Perm cs) (d : PyData) : castOf cs' d = castOf cs d := by
  have hn' : (cs'.map (·.1)).Nodup := (p.map _).nodup_iff.mpr hn
  cases e : castOf cs d with
  | some q =>
    obtain ⟨n, rfl, hm⟩ := castOf_some e
    exact castOf_mem (c := (n, q)) hn' (p.mem_iff.mpr hm)
  | none =>
    cases e' : castOf cs' d with
    | none => rfl
    | some q =>
      obtain ⟨n, rfl, hm⟩ := castOf_some e'
      rw [castOf_mem (c := (n, q)) hn (p.mem_iff.mp hm)] at e
      cases e
/-- the types on a path behind its source -/
def walkL (cs : List Cst) : Str → List PyData → Option (List Str)
  | _, [] => some []
  | s, d :: ds => match castOf cs d with
    | some (a, b) => if a = s then (walkL cs b ds).map (b :: ·) else none
    | none => none
def walkD (cs : List Cst) (s : Str) : PyData → Option (List Str)
  | .tuple ds => (walkL cs s ds).map (s :: ·)
  | _ => none
def endOf (s : Str) (ts : List Str) : Str := (s :: ts).getLast (List.cons_ne_nil _ _)
def isPathD (cs : List Cst) (s t : Str) (d : PyData) : Bool := match walkD cs s d with
  | some ts => decide (ts.getLast? = some t)
  | none => false
def dLen : PyData → Nat
  | .tuple ds => ds.length
  | _ => 0
theorem walkL_perm {cs cs' : List Cst} (hn : (cs.map (·.1)).Nodup) (p : cs'.Perm cs) : ∀ (ds : List PyData) (s : Str), walkL cs' s ds = walkL cs s ds
  | [], _ => rfl
  | d :: ds, s => by
    unfold walkL
    rw [castOf_perm hn p]
    cases castOf cs d with
    | none => rfl
    | some e =>
      obtain ⟨a, b⟩ := e
      dsimp only
      rw [walkL_perm hn p ds b]
theorem walkD_perm {cs cs' : List Cst} (hn : (cs.map (·.1)).Nodup) (p : cs'.Perm cs) (s : Str) (d : PyData) : walkD cs' s d = walkD cs s d := by
  cases d <;> first | rfl | skip
  rename_i ds
  show (walkL cs' s ds).map _ = (walkL cs s ds).map _
  rw [walkL_perm hn p]
theorem isPathD_perm {cs cs' : List Cst} (hn : (cs.map (·.1)).Nodup) (p : cs'.Perm cs) (s t : Str) (d : PyData) : isPathD cs' s t d = isPathD cs s t d := by
  unfold isPathD
  rw [walkD_perm hn p]
/-! ### has_cast, cast -/
structure HcA where
  cs : List Cst
  d : PyData
abbrev casL (cs : List Cst) : List (Str × Pr) := [("own_casts", castD cs)]
theorem casL.mo (cs : List Cst) : ∀ p ∈ casL cs, Mo p.2 := mo1 (castD.mo cs)
def spHasC (K : PySem.W.Frag) (C : Addr) : Sp := spW (fun _ : HcA => W0) (fun a => [Obj C schF (casL a.cs), Da K a.d]) fun a => Is (.bl (isOne (a.cs.map (·.1)) a.d))
theorem spHasC.len {K : PySem.W.Frag} {C : Addr} : ∀ vs H Q E, spHasC K C vs H Q E → vs.length = 2 := spW.len fun _ => rfl
def t_hasC (K : PySem.W.Frag) : TS := tRet (tCall (spOne K) [] E0 (tCons (tVar 1) (tCons (tFld K (tVar 0) "own_casts") tNil)))
theorem pure_hasC {K : PySem.W.Frag} {C : Addr} (c : Cls K C) (n : NoAttr K C "own_casts") {vs : List V} {H : Hp} {Q : VK} {E : XK} (h : spHasC K C vs H Q E) : t_hasC K { nx := fun _ H' => Q .non H', rt := Q } (L2.start ["self", "value"] vs) H := by
  obtain ⟨⟨cs, d⟩, F, o, al, q⟩ := h
  obtain ⟨v, u, rfl, hv, hu⟩ := two_args al
  have mT := castD.mo cs
  exact q_ret (R := Is (.bl (isOne (cs.map (·.1)) d))) o (ev_call0 (A := fun a : OnA => [Da K a.d, a.R]) (Rf := fun a => Is (.bl (isOne a.ks a.d))) ⟨d, cs.map (·.1), castD cs, mT, show NmsOf (cs.map (·.1)) (castD cs) from .inr ⟨cs.map cEnd, fun _ _ h => h⟩⟩ o (ea_cons o (Da.mo K d) (ev_var o (Da.mo K d) rfl hu)
    (ea_cons o mT (ev_fldO o c n (ev_var o (Obj.mo (casL.mo cs)) rfl hv) List.mem_cons_self) (ea_nil o)))) q
section
variable {K : PySem.W.Frag} {w : Wd} {σ : L2.St} {F H : Hp} {to te : TE} {C UC : Addr} {L : List (Str × Pr)} {cs : List Cst} {d : PyData} {E : L2.St → XK}
/-- o.has_cast(v) -/
theorem ev_hasC (m : ∀ p ∈ L, Mo p.2) (h1 : (("own_casts" : Str), castD cs) ∈ L) (o : Ok w F H) (ho : EvW w (Obj C schF L) to σ F H) (h : EvW w (Da K d) te σ F H) :
    EvW w (Is (.bl (isOne (cs.map (·.1)) d))) (QC.tMethE C "has_cast" (spHasC K C) [] E to (tCons te tNil)) σ F H :=
  ev_meth (A := fun a : HcA => [Obj C schF (casL a.cs), Da K a.d]) (Rf := fun a => Is (.bl (isOne (a.cs.map (·.1)) a.d))) ⟨cs, d⟩ rfl (Obj.mo (casL.mo cs)) (Obj.ins (by decide)) o
    (ho.imp fun v F' _ r => r.less fun p hp => by rw [List.mem_singleton.mp hp]; exact h1) (ea_cons o (Da.mo K d) h (ea_nil o))
end
structure CaA where
  cs : List Cst
  nd : (cs.map (·.1)).Nodup
  d : PyData
def EndP (e : Str × Str) : Pr := Tu [Is (.str e.1), Is (.str e.2)]
theorem EndP.mo (e : Str × Str) : Mo (EndP e) := Tu.mo (mos_cons (Is.mo _) (mos_cons (Is.mo _) mos_nil))
def spCast (K : PySem.W.Frag) (C UC : Addr) : Sp := spX (fun a : CaA => [Obj C schF (casL a.cs), Da K a.d]) (fun a v F => ∃ e, castOf a.cs a.d = some e ∧ EndP e v F) fun a cls d F => castOf a.cs a.d = none ∧ Xv K UC "value" a.d cls d F
theorem spCast.len {K : PySem.W.Frag} {C UC : Addr} : ∀ vs H Q E, spCast K C UC vs H Q E → vs.length = 2 := spX.len fun _ => rfl
def t_cast (K : PySem.W.Frag) (C UC : Addr) (E : XK) : TS := tSeq (tIfS (tNot (tB (QC.tMethE C "has_cast" (spHasC K C) [] (fun _ => E0) (tVar 0) (tCons (tVar 1) tNil)))) (fun _ σ H => tMkO UC (spI UC ["value"]) [] (tCons (tVar 1) tNil) σ H fun cls d H' => E cls d H') tNext)
  (tRet (tDGet (tFld K (tVar 0) "own_casts") (tVar 1)))
theorem q_ifO {c : TT} {t u : TS} {D : Ends} {σ : L2.St} {H : Hp} {us : TS} (h : c σ H fun b H1 => if b = true then t { D with nx := us D } σ H1 else u { D with nx := us D } σ H1) : tSeq (tIfS c t u) us D σ H := h
theorem pure_cast {K : PySem.W.Frag} {C UC : Addr} (c : Cls K C) (n : NoAttr K C "own_casts") {vs : List V} {H : Hp} {Q : VK} {E : XK} (h : spCast K C UC vs H Q E) : t_cast K C UC E { nx := fun _ H' => Q .non H', rt := Q } (L2.start ["self", "name"] vs) H := by
  obtain ⟨⟨cs, nd, d⟩, F, o, al, q, qx⟩ := h
  obtain ⟨v, u, rfl, hv, hu⟩ := two_args al
  dsimp only at q qx hv hu
  have nd : (cs.map (·.1)).Nodup := nd
  have mO := casL.mo cs
  have hh := ev_hasC (K := K) (C := C) (E := fun _ => E0) (to := tVar 0) (te := tVar 1) (σ := [some v, some u]) mO List.mem_cons_self o (ev_var (i := 0) o (Obj.mo mO) rfl hv) (ev_var o (Da.mo K d) rfl hu)
  rw [isOne_cast nd] at hh
  refine q_ifO (et_not (et_B hh) F H o.refl _ fun F1 H1 g => ?_)
  have o1 := g.ok o
  cases hb : castOf cs d with
  | none =>
    refine ev_raise (Rs := [Da K d]) o1 (mos_cons (Da.mo K d) mos_nil) (ea_cons o1 (Da.mo K d) (ev_var o1 (Da.mo K d) rfl (Da.mo K d _ _ _ g.g.ff hu)) (ea_nil o1)) rfl (show 1 ≤ 1000 by decide) fun dd us F2 H2 g2 hd al2 => ?_
    obtain ⟨x, rfl, hx⟩ := one_arg al2
    exact qx _ _ F2 H2 (g.trans o g2) ⟨hb, rfl, dd, x, rfl, hd, hx⟩
  | some e =>
    obtain ⟨nm, rfl, hm⟩ := castOf_some hb
    obtain rfl : u = .str nm := by cases hu; rfl
    obtain ⟨i, hi⟩ := List.getElem?_of_mem hm
    refine q_ret (R := EndP e) o1 (ev_dget (i := i) (k := nm) (ks := cs.map (·.1)) (Rs := cs.map cEnd) o1 (mos_map cEnd.mo cs) (ev_fldO (L := casL cs) (σ := [some v, some (.str nm)]) o1 c n (ev_var (i := 0) o1 (Obj.mo mO) rfl (Obj.mo mO _ _ _ g.g.ff hv)) List.mem_cons_self) (ev_var o1 (Is.mo _) rfl rfl) nd
      (by rw [List.getElem?_map, hi]; rfl) (by rw [List.getElem?_map, hi]; rfl)) fun x F2 H2 g2 r => q x F2 H2 (g.trans o g2) ⟨e, hb, r⟩
section
variable {K : PySem.W.Frag} {w : Wd} {σ : L2.St} {F H : Hp} {to te : TE} {C UC : Addr} {L : List (Str × Pr)} {cs : List Cst} {d : PyData} {E : L2.St → XK} {e : Str × Str}
/-- o.cast(v), v a cast -/
theorem ev_cast (nd : (cs.map (·.1)).Nodup) (he : castOf cs d = some e) (m : ∀ p ∈ L, Mo p.2) (h1 : (("own_casts" : Str), castD cs) ∈ L) (o : Ok w F H) (ho : EvW w (Obj C schF L) to σ F H) (h : EvW w (Da K d) te σ F H) :
    EvW w (EndP e) (QC.tMethE C "cast" (spCast K C UC) [] E to (tCons te tNil)) σ F H := fun F1 H1 g Q q =>
  methX (A := fun a : CaA => [Obj C schF (casL a.cs), Da K a.d]) (R := fun a v F => ∃ e, castOf a.cs a.d = some e ∧ EndP e v F) (X := fun a cls d F => castOf a.cs a.d = none ∧ Xv K UC "value" a.d cls d F) ⟨cs, nd, d⟩ rfl (Obj.mo (casL.mo cs)) (Obj.ins (by decide)) (g.ok o)
    (EvW.mono o g (ho.imp fun v F' _ r => r.less fun p hp => by rw [List.mem_singleton.mp hp]; exact h1)) (ea_cons (g.ok o) (Da.mo K d) (EvW.mono o g h) (ea_nil (g.ok o)))
    (fun v F2 H2 g2 ⟨e', h', r⟩ => q v F2 H2 g2 (by rw [he] at h'; cases h'; exact r)) fun cls dd F2 H2 g2 ⟨h', _⟩ => by rw [he] at h'; cases h'
end
/-! ### require_types -/
structure RqA where
  ts : List Str
  ds : List PyData
abbrev typL (ts : List Str) : List (Str × Pr) := [("own_types", Txts ts)]
def spReqs (K : PySem.W.Frag) (C CU : Addr) : Sp := spX (fun a : RqA => [Obj C schF (typL a.ts), Tu (a.ds.map (Da K))]) (fun a v _ => v = .non ∧ ∀ d ∈ a.ds, isOne a.ts d = true) fun a cls d F => ∃ b, badOf a.ts a.ds = some b ∧ Xv K CU "value" b cls d F
def t_rqB (K : PySem.W.Frag) (C CU : Addr) (E : XK) : TS := tIfS (tNot (tB (QC.tMethE C "has_type" (spHas K C) [] (fun _ => E0) (tVar 0) (tCons (tVar 2) tNil)))) (fun _ σ H => tMkO CU (spI CU ["value"]) [] (tCons (tVar 2) tNil) σ H fun cls d H' => E cls d H') tNext
def t_reqs (K : PySem.W.Frag) (C CU : Addr) (E : XK) : TS := tFor (iTup K (tVar 1)) (gName 2) (t_rqB K C CU E)
theorem ej_tup {K : PySem.W.Frag} {w w0 : Wd} {σ : L2.St} {F H : Hp} {tl : TE} {Rs : List Pr} (s : Sub w0 w) (o : Ok w F H) (m : ∀ R ∈ Rs, Mo R) (h : EvW w0 (fun v F => ∃ l xs, v = .ref l ∧ SqT K F l xs ∧ Al Rs xs F) tl σ F H) : EvJ w0 w Rs.length (fun i x F => ∃ R, Rs[i]? = some R ∧ R x F) (iTup K tl) σ F H := fun Q q =>
  h F H (s.ok _ _ o).refl _ fun v F2 H2 b hv => by
    obtain ⟨l, xs, rfl, hx, al⟩ := hv
    have o2 := (s.gw _ _ _ _ o b).ok o
    have sq : ∀ {G G' : Hp}, Same G G' → SqT K G l xs → SqT K G' l xs := fun {G G'} e h => by
      rcases h with (h | ⟨o, h⟩) | h
      · exact .inl (.inl (e _ _ h))
      · exact .inl (.inr ⟨o, e _ _ h⟩)
      · exact .inr h
    refine ⟨l, rfl, ⟨xs, sq o2.s hx⟩, q _ F2 H2 b ?_⟩
    have hS : ∀ G H', Gw w F2 H2 G H' → SqT K H' l xs := fun G H' g => sq g.g.fh (sq g.g.ff hx)
    have wk := walk_tup (K := K) (a := l) (xs := xs)
    have hl := al.length
    refine ⟨fun i G H' hi g => wk.goes i H' (by omega) (hS G H' g), fun G H' g => by rw [← hl]; exact wk.stops H' (hS G H' g), fun i G H' x H'' hi g y => ?_⟩
    obtain ⟨rfl, hx'⟩ := wk.yields i H' x H'' (by omega) (hS G H' g) y
    obtain ⟨R, e, r⟩ := al.get hx'
    exact ⟨G, (s.ok _ _ (g.ok o2)).refl, R, e, m R (List.mem_of_getElem? e) _ _ _ g.g.ff r⟩
theorem Tu.sq {K : PySem.W.Frag} {Rs : List Pr} {v : V} {F : Hp} (h : Tu Rs v F) : ∃ l xs, v = .ref l ∧ SqT K F l xs ∧ Al Rs xs F := by
  obtain ⟨l, xs, h1, h2, h3⟩ := h
  exact ⟨l, xs, h1, .of h2, h3⟩
theorem s_forO {wi : TI} {g : TG} {tb : TS} {D : Ends} {σ : L2.St} {H : Hp} (h : tSeq (tFor wi g tb) (fun D => D.nx) D σ H) : tFor wi g tb D σ H := h
theorem badOf_none {ts : List Str} {ds : List PyData} (h : badOf ts ds = none) : ∀ d ∈ ds, isOne ts d = true := fun d hd => by
  have := List.find?_eq_none.mp h d hd
  simpa using this
theorem badOf_at {ts : List Str} {ds : List PyData} {i : Nat} {d : PyData} (h0 : ∀ x ∈ ds.take i, isOne ts x = true) (hi : ds[i]? = some d) (hd : isOne ts d = false) : badOf ts ds = some d := by
  have hlt := (List.getElem?_eq_some_iff.mp hi).1
  have e : ds = ds.take i ++ d :: ds.drop (i + 1) := by
    have e2 := List.drop_eq_getElem_cons hlt
    rw [List.getElem?_eq_getElem hlt] at hi
    rw [Option.some.inj hi] at e2
    rw [← e2, List.take_append_drop]
  unfold badOf
  rw [e, List.find?_append, List.find?_eq_none.mpr (fun x hx => by simp [h0 x hx]), List.find?_cons_of_pos (by simp [hd])]
  rfl
theorem pure_reqs {K : PySem.W.Frag} {C CU : Addr} {vs : List V} {H : Hp} {Q : VK} {E : XK} (h : spReqs K C CU vs H Q E) : t_reqs K C CU E { nx := fun _ H' => Q .non H', rt := Q } (L2.start ["scheme", "values", "value"] vs) H := by
  obtain ⟨⟨ts, ds⟩, F, o, al, q, qx⟩ := h
  obtain ⟨v, u, rfl, hv, hu⟩ := two_args al
  dsimp only at q qx hv hu
  have mO := mo1 (f := "own_types") (Txts.mo ts)
  have md := mos_map (Da.mo K) ds
  have hj := ej_tup (K := K) (w0 := W0) (w := W0) (σ := [some v, some u, none]) (tl := tVar 1) (Sub.refl _) o md ((ev_var o (Tu.mo md) rfl hu).imp fun _ _ _ r => r.sq)
  have hlen : (ds.map (Da K)).length = ds.length := List.length_map ..
  refine s_forO (q_forJ (Sub.refl _) o hj (fun i σ' G H' => (∃ x, σ' = [some v, some u, x]) ∧ ∀ d ∈ ds.take i, isOne ts d = true) (fun F' H' g => ⟨⟨_, rfl⟩, fun d hd => by simp at hd⟩) (fun i x σ' G0 H0 G H' N hi g0 iv g2 hx k2 => ?_) fun σ' G H' g iv => ?_)
  · obtain ⟨⟨x2, rfl⟩, ih⟩ := iv
    obtain ⟨R, hR, r⟩ := hx
    have hi' : i < ds.length := by rw [← hlen]; exact hi
    rw [List.getElem?_map, List.getElem?_eq_getElem hi'] at hR
    cases hR
    have o0 := g0.ok o
    have oo := g2.ok o0
    have ff := g0.g.ff.trans g2.g.ff
    have hh := ev_has (K := K) (E := fun _ => E0) (to := tVar 0) (te := tVar 2) (σ := [some v, some u, some x]) mO List.mem_cons_self oo (ev_var (i := 0) oo (Obj.mo mO) rfl (Obj.mo mO _ _ _ ff hv)) (ev_var oo (Da.mo K _) rfl r)
    show tIfS (tNot (tB (QC.tMethE C "has_type" (spHas K C) [] (fun _ => E0) (tVar 0) (tCons (tVar 2) tNil)))) (fun _ σ H => tMkO CU (spI CU ["value"]) [] (tCons (tVar 2) tNil) σ H fun cls d H' => E cls d H') tNext _ [some v, some u, some x] H'
    refine s_ifO (et_not (et_B hh) G H' oo.refl _ fun F1 H1 g3 => ?_)
    have o1 := g3.ok oo
    have gA := (g0.trans o g2).trans o g3
    cases hb : isOne ts ds[i] with
    | true =>
      refine k2 _ F1 H1 g3 ⟨⟨_, rfl⟩, fun d hd => ?_⟩
      rw [List.take_succ_eq_append_getElem hi'] at hd
      rcases List.mem_append.mp hd with hd | hd
      · exact ih d hd
      · rw [List.mem_singleton.mp hd]; exact hb
    | false =>
      refine ev_raise (Rs := [Da K ds[i]]) o1 (mos_cons (Da.mo K _) mos_nil) (ea_cons o1 (Da.mo K _) (ev_var o1 (Da.mo K _) rfl (Da.mo K _ _ _ _ g3.g.ff r)) (ea_nil o1)) rfl (show 1 ≤ 1000 by decide) fun dd us F2 H2 g4 hd al2 => ?_
      obtain ⟨y, rfl, hy⟩ := one_arg al2
      exact qx _ _ F2 H2 (gA.trans o g4) ⟨_, badOf_at ih (List.getElem?_eq_getElem hi') hb, rfl, dd, y, rfl, hd, hy⟩
  · rw [hlen, List.take_length] at iv
    exact q .non G H' g ⟨rfl, iv.2⟩
end QW

set_option Elab.async false
set_option linter.all false
set_option maxRecDepth 100000
set_option maxHeartbeats 1000000
/-! QPath2: walked, is_path. -/
namespace QW
open PySem PySem.Spec PyProof.Rows L2 QR
theorem walkL_none {cs : List Cst} : ∀ {as bs : List PyData} {s : Str}, walkL cs s as = none → walkL cs s (as ++ bs) = none
  | [], _, _, h => nomatch h
  | d :: as, bs, s, h => by
    rw [List.cons_append]
    unfold walkL at h ⊢
    cases e : castOf cs d with
    | none => rfl
    | some p =>
      obtain ⟨a, b⟩ := p
      rw [e] at h
      dsimp only at h ⊢
      by_cases q : a = s
      · rw [if_pos q] at h ⊢
        cases e2 : walkL cs b as with
        | none => rw [walkL_none e2]; rfl
        | some ts => rw [e2] at h; cases h
      · rw [if_neg q]
theorem walkL_snoc {cs : List Cst} {d : PyData} : ∀ {as : List PyData} {s : Str} {ts : List Str}, walkL cs s as = some ts →
    walkL cs s (as ++ [d]) = match castOf cs d with
      | some (a, b) => if a = endOf s ts then some (ts ++ [b]) else none
      | none => none
  | [], s, ts, h => by
    cases h
    show walkL cs s [d] = _
    unfold walkL
    cases castOf cs d with
    | none => rfl
    | some p => rfl
  | x :: as, s, ts, h => by
    rw [List.cons_append]
    unfold walkL at h ⊢
    cases e : castOf cs x with
    | none => rw [e] at h; cases h
    | some p =>
      obtain ⟨a, b⟩ := p
      rw [e] at h
      dsimp only at h ⊢
      by_cases q : a = s
      · rw [if_pos q] at h ⊢
        cases e2 : walkL cs b as with
        | none => rw [e2] at h; cases h
        | some us =>
          rw [e2] at h
          cases h
          rw [walkL_snoc e2]
          have ee : endOf s (b :: us) = endOf b us := List.getLast_cons (List.cons_ne_nil _ _)
          rw [ee]
          cases castOf cs d with
          | none => rfl
          | some p =>
            obtain ⟨a', b'⟩ := p
            dsimp only
            by_cases z : a' = endOf b us
            · rw [if_pos z, if_pos z]; rfl
            · rw [if_neg z, if_neg z]; rfl
      · rw [if_neg q] at h; cases h
theorem walkL_len {cs : List Cst} : ∀ {as : List PyData} {s : Str} {ts : List Str}, walkL cs s as = some ts → ts.length = as.length
  | [], s, ts, h => by cases h; rfl
  | x :: as, s, ts, h => by
    unfold walkL at h
    cases e : castOf cs x with
    | none => rw [e] at h; cases h
    | some p =>
      obtain ⟨a, b⟩ := p
      rw [e] at h
      dsimp only at h
      by_cases q : a = s
      · rw [if_pos q] at h
        cases e2 : walkL cs b as with
        | none => rw [e2] at h; cases h
        | some us =>
          rw [e2] at h
          cases h
          rw [List.length_cons, walkL_len e2]; rfl
      · rw [if_neg q] at h; cases h
theorem atI_last {s : Str} {ts : List Str} : atI (sv (s :: ts)) (-1) = some (.str (endOf s ts)) := by
  have hl : (sv (s :: ts)).length = ts.length + 1 := by rw [List.length_map, List.length_cons]
  unfold atI ixN
  rw [if_neg (by omega), hl, if_pos (by omega)]
  have e1 : ((-1 : Int) + ((ts.length + 1 : Nat) : Int)).toNat = ts.length := by omega
  show (sv (s :: ts))[((-1 : Int) + ((ts.length + 1 : Nat) : Int)).toNat]? = _
  rw [e1, List.getElem?_map]
  have e2 : (s :: ts).getLast? = (s :: ts)[ts.length]? := by rw [List.getLast?_eq_getElem?]; rfl
  rw [← e2, List.getLast?_eq_some_getLast (List.cons_ne_nil _ _)]
  rfl
structure WkA where
  cs : List Cst
  nd : (cs.map (·.1)).Nodup
  s : Str
  d : PyData
  dl : dLen d ≤ 10000
def spWk (K : PySem.W.Frag) (C : Addr) : Sp := fun vs H Q _ => ∃ (a : WkA) (F : Hp), Ok W0 F H ∧ Al [Obj C schF (casL a.cs), Is (.str a.s), Da K a.d] vs F ∧ (∀ F' H', Gw W0 F H F' H' → walkD a.cs a.s a.d = none → Q .non H') ∧
  ∀ p ts F' H', Gw W0 F H F' H' → H p = none → F' p = none → H' p = some (.lst (sv ts)) → walkD a.cs a.s a.d = some ts → Q (.ref p) H'
theorem spWk.len {K : PySem.W.Frag} {C : Addr} : ∀ vs H Q E, spWk K C vs H Q E → vs.length = 3 := fun vs H Q E ⟨a, F, _, al, _⟩ => al.length
abbrev tNeg1 : TE := tUn (rU fun i => .int (-i)) (tC (.int 1))
def t_wkB2 (K : PySem.W.Frag) (C UC : Addr) : TS := tSeq (tIfS (tTest (tOp rNe (tVar 5) (tOp (rIxL K) (tVar 3) tNeg1))) (tRet (tC .non)) tNext) (tDrop (tBM K "list" rAppend (tVar 3) (tCons (tVar 6) tNil)))
def t_wkB (K : PySem.W.Frag) (C UC : Addr) : TS := tSeq (tAsg (tIf (tB (QC.tMethE C "has_cast" (spHasC K C) [] (fun _ => E0) (tVar 0) (tCons (tVar 4) tNil))) (QC.tMethE C "cast" (spCast K C UC) [] (fun _ => E0) (tVar 0) (tCons (tVar 4) tNil)) (tTup (tCons (tC .non) (tCons (tC .non) tNil)))) (gTup K 2 (gCons (gName 5) (gCons (gName 6) gNil))))
  (t_wkB2 K C UC)
def t_wkE (K : PySem.W.Frag) (C UC : Addr) : TS := tSeq (tFor (iTup K (tVar 2)) (gName 4) (t_wkB K C UC)) (tRet (tVar 3))
def t_wk (K : PySem.W.Frag) (C UC : Addr) : TS := tSeq (tIfS (tNot (tB (tCB (rIsi K) (tCons (tVar 2) (tCons (tC (.ty "tuple")) tNil))))) (tRet (tC .non)) tNext) (tSeq (tAsg (tLst (tCons (tVar 1) tNil)) (gName 3)) (t_wkE K C UC))
/-- the two values a name gives -/
def endV : Option (Str × Str) → V × V
  | some e => (.str e.1, .str e.2)
  | none => (.non, .non)
theorem pure_wk {K : PySem.W.Frag} {C UC : Addr} {vs : List V} {H : Hp} {Q : VK} {E : XK} (h : spWk K C vs H Q E) : t_wk K C UC { nx := fun _ H' => Q .non H', rt := Q } (L2.start ["scheme", "source", "value", "found", "name", "start", "end"] vs) H := by
  obtain ⟨⟨cs, nd, s, d, dl⟩, F, o, al, qn, q⟩ := h
  obtain ⟨v, x, u, rfl, hv, hx, hu⟩ := three_args al
  obtain rfl : x = .str s := hx
  dsimp only at q qn hv hu
  have nd : (cs.map (·.1)).Nodup := nd
  have dl : dLen d ≤ 10000 := dl
  have mO := Obj.mo (C := C) (ns := schF) (casL.mo cs)
  have hi : EvW W0 (Is (.bl (isTup d))) (tCB (rIsi K) (tCons (tVar 2) (tCons (tC (.ty "tuple")) tNil))) [some v, some (.str s), some u, none, none, none, none] F H := ev_cb o (ea_cons o (Da.mo K d) (ev_var o (Da.mo K d) rfl hu) (ea_cons o (Is.mo _) (ev_c o fun _ => rfl) (ea_nil o))) (ca_isiD (kit_tup d))
  refine q_ifO (et_not (et_B hi) F H o.refl _ fun F1 H1 g1 => ?_)
  have o1 := g1.ok o
  cases ht : isTup d with
  | false => exact qn F1 H1 g1 (by cases d <;> first | rfl | cases ht)
  | true =>
    obtain ⟨ds, rfl⟩ : ∃ ds, d = .tuple ds := by cases d <;> first | exact ⟨_, rfl⟩ | cases ht
    have dl : ds.length ≤ 10000 := dl
    have hv1 := mO _ _ _ g1.g.ff hv
    have hu1 := Da.mo K _ _ _ _ g1.g.ff hu
    refine ⟨_, rfl, (show 1 ≤ sizeLine by decide), fun l hl => ?_⟩
    show t_wkE K C UC { nx := fun _ H' => Q .non H', rt := Q } [some v, some (.str s), some u, some (.ref l), none, none, none] (upd H1 l (.lst [.str s]))
    have nl : F1 l = none := same_none o1.s hl
    have lH : H l = none := by
      cases z : H l with
      | none => rfl
      | some y => exact (g1.live o (by rw [z]; exact nofun) hl).elim
    have gT : Gw W0 F H F1 (upd H1 l (.lst [.str s])) := g1.temp hl
    have oT := gT.ok o
    have o2 : Ok (Wl [l]) F1 (upd H1 l (.lst [.str s])) := Ok.wl oT.s fun m hm => by rw [List.mem_singleton.mp hm]; exact ⟨nl, by rw [upd_same]; exact nofun⟩
    have md := mos_map (Da.mo K) ds
    have hj := ej_tup (K := K) (w0 := W0) (w := Wl [l]) (σ := [some v, some (.str s), some u, some (.ref l), none, none, none]) (tl := tVar 2) Wl.sub0 o2 md ((ev_var (R := Da K (.tuple ds)) o2.zero (Da.mo K _) rfl hu1).imp fun y F' _ r => by
      cases r with
      | tup h1 h2 => exact ⟨_, _, rfl, h1, Al.of_das h2⟩)
    have hlen : (ds.map (Da K)).length = ds.length := List.length_map ..
    have back : ∀ {G H'}, Gw (Wl [l]) F1 (upd H1 l (.lst [.str s])) G H' → Gw W0 F H G H' := fun {G H'} g => Gw.nestW o gT g fun m hm => by rw [List.mem_singleton.mp hm]; exact lH
    refine q_forJ Wl.sub0 o2 hj (fun i σ' G H' => (∃ x4 x5 x6, σ' = [some v, some (.str s), some u, some (.ref l), x4, x5, x6]) ∧ G l = none ∧ ∃ ts, H' l = some (.lst (sv (s :: ts))) ∧ walkL cs s (ds.take i) = some ts)
      (fun F' H' g => ⟨⟨_, _, _, rfl⟩, g.g.nw l nl (by rw [upd_same]; exact nofun), [], g.same _ _ upd_same, rfl⟩) (fun i x σ' G0 H0 G H' N hi g0 iv g2 hx k2 => ?_) fun σ' G H' g iv => ?_
    · obtain ⟨⟨x4, x5, x6, rfl⟩, k0, ts, e0, w0⟩ := iv
      obtain ⟨R, hR, r⟩ := hx
      have hi' : i < ds.length := by rw [← hlen]; exact hi
      rw [List.getElem?_map, List.getElem?_eq_getElem hi'] at hR
      cases hR
      have o0 := g0.ok o2
      have oo := (g2.of0 o0).ok o0
      have k1 : G l = none := g2.g.nw l k0 (by rw [e0]; exact nofun)
      have e1 := g2.same _ _ e0
      have ff := (g0.g.ff.trans g2.g.ff)
      have hv2 := mO _ _ _ ff hv1
      have oZ := oo.zero
      have hsn := walkL_snoc (d := ds[i]) w0
      rw [← List.take_succ_eq_append_getElem hi'] at hsn
      have htl : ts.length = i := by rw [walkL_len w0, List.length_take]; omega
      have hh := ev_hasC (K := K) (C := C) (E := fun _ => E0) (to := tVar 0) (te := tVar 4) (σ := [some v, some (.str s), some u, some (.ref l), some x, x5, x6]) (casL.mo cs) List.mem_cons_self oZ (ev_var (i := 0) oZ mO rfl hv2) (ev_var oZ (Da.mo K _) rfl r)
      rw [isOne_cast nd] at hh
      have mE : Mo (Tu [Is (endV (castOf cs ds[i])).1, Is (endV (castOf cs ds[i])).2]) := Tu.mo (mos_cons (Is.mo _) (mos_cons (Is.mo _) mos_nil))
      have hE : EvW W0 (Tu [Is (endV (castOf cs ds[i])).1, Is (endV (castOf cs ds[i])).2]) (tIf (tB (QC.tMethE C "has_cast" (spHasC K C) [] (fun _ => E0) (tVar 0) (tCons (tVar 4) tNil))) (QC.tMethE C "cast" (spCast K C UC) [] (fun _ => E0) (tVar 0) (tCons (tVar 4) tNil)) (tTup (tCons (tC .non) (tCons (tC .non) tNil)))) [some v, some (.str s), some u, some (.ref l), some x, x5, x6] G H' := by
        refine ev_ifE oZ (et_B hh) (fun hb => ?_) fun hb => ?_
        · cases hc : castOf cs ds[i] with
          | none => rw [hc] at hb; cases hb
          | some e => exact ev_cast nd hc (casL.mo cs) List.mem_cons_self oZ (ev_var (i := 0) oZ mO rfl hv2) (ev_var oZ (Da.mo K _) rfl r)
        · cases hc : castOf cs ds[i] with
          | some e => rw [hc] at hb; cases hb
          | none => exact ev_tup oZ (mos_cons (Is.mo _) (mos_cons (Is.mo _) mos_nil)) (ea_cons oZ (Is.mo _) (ev_c oZ fun _ => rfl) (ea_cons oZ (Is.mo _) (ev_c oZ fun _ => rfl) (ea_nil oZ))) (show 2 ≤ 100000 by decide)
      show t_wkB K C UC _ [some v, some (.str s), some u, some (.ref l), some x, x5, x6] H'
      refine q_asgG oZ hE fun y G1 H2 g3 ry => ?_
      obtain ⟨t, us, rfl, hT, al2⟩ := ry
      obtain rfl := Al.is (f := fun v : V => v) (xs := [(endV (castOf cs ds[i])).1, (endV (castOf cs ds[i])).2]) al2
      have o3 := g3.ok oZ
      have e3 := g3.same _ _ e1
      have k3 : G1 l = none := g3.g.nw l k1 (by rw [e1]; exact nofun)
      refine ⟨t, _, rfl, .of (o3.s _ _ hT), rfl, _, _, rfl, _, _, rfl, rfl, ?_⟩
      show t_wkB2 K C UC _ [some v, some (.str s), some u, some (.ref l), some x, some (endV (castOf cs ds[i])).1, some (endV (castOf cs ds[i])).2] H2
      refine q_ifO (testO ⟨_, rfl, ⟨_, rfl, ⟨1, rfl, l, _, -1, .str (endOf s ts), rfl, rfl, .of e3, atI_last, ?_, _, rfl, ?_⟩⟩⟩)
      · cases castOf cs ds[i] <;> rfl
      · have gA := back ((g0.trans o2 (g2.of0 o0)).trans o2 (g3.of0 oo))
        cases hc : castOf cs ds[i] with
        | none =>
          rw [hc] at hsn
          refine qn G1 H2 gA ?_
          show (walkL cs s ds).map _ = none
          have := walkL_none (bs := ds.drop (i + 1)) hsn
          rw [List.take_append_drop] at this
          rw [this]; rfl
        | some e =>
          obtain ⟨a, b⟩ := e
          rw [hc] at hsn
          dsimp only at hsn
          by_cases ha : a = endOf s ts
          · rw [if_pos ha] at hsn
            have hb : (!decide (V.str a = V.str (endOf s ts))) = false := by rw [ha]; simp
            show (if (!decide (V.str a = V.str (endOf s ts))) = true then _ else _)
            rw [hb, if_neg (by decide)]
            refine ⟨_, rfl, .inl ⟨rfl, _, .inl (.inl e3)⟩, _, rfl, l, sv (s :: ts), .str b, rfl, rfl, e3, Evl.sz_lt (by rw [List.length_map, List.length_cons]; omega), ?_⟩
            refine k2 _ G1 _ (((g3.of0 oo).mutL (.inl List.mem_cons_self) k3)) ⟨⟨_, _, _, rfl⟩, k3, ts ++ [b], ?_, hsn⟩
            rw [upd_same]
            simp [sv]
          · rw [if_neg ha] at hsn
            have hb : (!decide (V.str a = V.str (endOf s ts))) = true := by
              rw [decide_eq_false fun z => ha (V.str.inj z)]; rfl
            show (if (!decide (V.str a = V.str (endOf s ts))) = true then _ else _)
            rw [hb, if_pos rfl]
            refine qn G1 H2 gA ?_
            show (walkL cs s ds).map _ = none
            have := walkL_none (bs := ds.drop (i + 1)) hsn
            rw [List.take_append_drop] at this
            rw [this]; rfl
    · obtain ⟨⟨x4, x5, x6, rfl⟩, k0, ts, e0, w0⟩ := iv
      rw [hlen, List.take_length] at w0
      exact ⟨_, rfl, q l _ G H' (back g) lH k0 e0 (by show (walkL cs s ds).map _ = _; rw [w0]; rfl)⟩
/-! ### is_path -/
abbrev ipL (ts : List Str) (cs : List Cst) : List (Str × Pr) := [("own_types", Txts ts), ("own_casts", castD cs)]
theorem ipL.mo (ts : List Str) (cs : List Cst) : ∀ p ∈ ipL ts cs, Mo p.2 := mo2 (Txts.mo _) (castD.mo _)
structure IpA where
  ts : List Str
  cs : List Cst
  nd : (cs.map (·.1)).Nodup
  d1 : PyData
  d2 : PyData
  d : PyData
  dl : dLen d ≤ 10000
def spIp (K : PySem.W.Frag) (C CU : Addr) : Sp := spX (fun a : IpA => [Obj C schF (ipL a.ts a.cs), Da K a.d1, Da K a.d2, Da K a.d]) (fun a v _ => ∃ s1 s2, a.d1 = .str s1 ∧ s1 ∈ a.ts ∧ a.d2 = .str s2 ∧ s2 ∈ a.ts ∧ v = .bl (isPathD a.cs s1 s2 a.d))
  fun a cls d F => ∃ b, badOf a.ts [a.d1, a.d2] = some b ∧ Xv K CU "value" b cls d F
theorem spIp.len {K : PySem.W.Frag} {C CU : Addr} : ∀ vs H Q E, spIp K C CU vs H Q E → vs.length = 4 := spX.len fun _ => rfl
def t_ip (K : PySem.W.Frag) (C CU : Addr) (E : XK) : TS := tSeq (tDrop (QC.tCallV 2 (spReqs K C CU) (fun _ => E) (tCons (tVar 0) (tCons (tVar 1) (tCons (tVar 2) tNil)))))
  (tSeq (tAsg (tCall (spWk K C) [] E0 (tCons (tVar 0) (tCons (tVar 1) (tCons (tVar 3) tNil)))) (gName 4)) (tRet (tAndV (tOp rNotN (tVar 4) (tC .non)) (tOp rEq (tOp (rIxL K) (tVar 4) tNeg1) (tVar 2)))))
theorem isPathD_some {cs : List Cst} {s t : Str} {d : PyData} {ts : List Str} (h : walkD cs s d = some ts) : ∃ us, ts = s :: us ∧ isPathD cs s t d = decide (endOf s us = t) := by
  cases d <;> first | (cases h; done) | skip
  rename_i ds
  have h' : (walkL cs s ds).map (s :: ·) = some ts := h
  cases e : walkL cs s ds with
  | none => rw [e] at h'; cases h'
  | some us =>
    rw [e] at h'
    cases h'
    refine ⟨us, rfl, ?_⟩
    unfold isPathD
    rw [h]
    show decide ((s :: us).getLast? = some t) = _
    rw [List.getLast?_eq_some_getLast (List.cons_ne_nil _ _)]
    unfold endOf
    by_cases z : (s :: us).getLast (List.cons_ne_nil _ _) = t
    · rw [decide_eq_true z, decide_eq_true (congrArg some z)]
    · rw [decide_eq_false z, decide_eq_false fun y => z (Option.some.inj y)]
theorem pure_ip {K : PySem.W.Frag} {C CU : Addr} {vs : List V} {H : Hp} {Q : VK} {E : XK} (h : spIp K C CU vs H Q E) : t_ip K C CU E { nx := fun _ H' => Q .non H', rt := Q } (L2.start ["scheme", "source", "target", "value", "types"] vs) H := by
  obtain ⟨⟨ts, cs, nd, d1, d2, d, dl⟩, F, o, al, q, qx⟩ := h
  obtain ⟨v, x, y, u, rfl, hv, hx, hy, hu⟩ := four_args al
  dsimp only at q qx hv hx hy hu
  have nd : (cs.map (·.1)).Nodup := nd
  have mO := Obj.mo (C := C) (ns := schF) (ipL.mo ts cs)
  refine q_dropO (callVX (A := fun a : RqA => [Obj C schF (typL a.ts), Tu (a.ds.map (Da K))]) (R := fun a v _ => v = .non ∧ ∀ d ∈ a.ds, isOne a.ts d = true) (X := fun a cls d F => ∃ b, badOf a.ts a.ds = some b ∧ Xv K CU "value" b cls d F) (n := 2) ⟨ts, [d1, d2]⟩ rfl (Obj.mo (mo1 (Txts.mo ts))) (mos_map (Da.mo K) [d1, d2]) (show 2 ≤ 2 by decide) o
    (ea_cons o (Obj.mo (mo1 (Txts.mo ts))) ((ev_var (i := 0) o mO rfl hv).imp fun v F' _ r => r.less fun p hp => by rw [List.mem_singleton.mp hp]; exact List.mem_cons_self) (ea_cons o (Da.mo K _) (ev_var o (Da.mo K _) rfl hx) (ea_cons o (Da.mo K _) (ev_var o (Da.mo K _) rfl hy) (ea_nil o))))
    (fun z F1 H1 g r => ?_) fun cls dd F1 H1 g r => qx cls dd F1 H1 g r)
  have o1 := g.ok o
  obtain ⟨s1, rfl, m1⟩ := isOne_str (r.2 d1 List.mem_cons_self)
  obtain ⟨s2, rfl, m2⟩ := isOne_str (r.2 d2 (List.mem_cons_of_mem _ List.mem_cons_self))
  obtain rfl := da_str hx
  obtain rfl := da_str hy
  have fin : ∀ b F2 H2, Gw W0 F H F2 H2 → b = isPathD cs s1 s2 d → Q (.bl b) H2 := fun b F2 H2 g2 e => q _ F2 H2 g2 ⟨s1, s2, rfl, m1, rfl, m2, by rw [e]⟩
  refine asgO (us := tRet (tAndV (tOp rNotN (tVar 4) (tC .non)) (tOp rEq (tOp (rIxL K) (tVar 4) tNeg1) (tVar 2)))) (i := 4) ?_
  have hA := ea_cons (σ := [some v, some (.str s1), some (.str s2), some u, none]) o1 (Obj.mo (casL.mo cs)) ((ev_var (i := 0) o1 mO rfl (mO _ _ _ g.g.ff hv)).imp fun v F' _ r => r.less (L' := casL cs) fun p hp => by rw [List.mem_singleton.mp hp]; exact List.mem_cons_of_mem _ List.mem_cons_self) (ea_cons o1 (Is.mo (.str s1)) (ev_var (i := 1) o1 (Is.mo _) rfl rfl) (ea_cons o1 (Da.mo K d) (ev_var (i := 3) o1 (Da.mo K d) rfl (Da.mo K d _ _ _ g.g.ff hu)) (ea_nil o1)))
  refine hA F1 H1 o1.refl _ fun vs F2 H2 g2 al2 => ?_
  have o2 := g2.ok o1
  refine ⟨⟨cs, nd, s1, d, dl⟩, F2, o2, by rw [List.append_nil]; exact al2, fun F3 H3 g3 hw => ?_, fun p us F3 H3 g3 n1 n2 e3 hw => ?_⟩
  · refine ⟨_, rfl, rfl, _, rfl, ?_⟩
    rw [if_neg (by simp)]
    exact fin _ F3 H3 ((g.trans o g2).trans o g3) (by unfold isPathD; rw [hw])
  · obtain ⟨us, rfl, hd⟩ := isPathD_some (t := s2) hw
    refine ⟨_, rfl, rfl, _, rfl, ?_⟩
    rw [if_pos (by simp)]
    refine ⟨_, rfl, ⟨1, rfl, p, _, -1, .str (endOf s1 us), rfl, rfl, .of e3, atI_last, _, rfl, rfl, ?_⟩⟩
    refine fin _ F3 H3 ((g.trans o g2).trans o g3) ?_
    rw [hd, dec_str]
section
variable {K : PySem.W.Frag} {w : Wd} {σ : L2.St} {F H : Hp} {ta : TA} {C CU : Addr} {ts : List Str} {cs : List Cst} {d : PyData} {E : L2.St → XK} {s1 s2 : Str}
/-- is_path(made, s1, s2, v), s1 and s2 types -/
theorem ev_ip (nd : (cs.map (·.1)).Nodup) (h1 : s1 ∈ ts) (h2 : s2 ∈ ts) (dl : dLen d ≤ 10000) (o : Ok w F H) (h : EvA w [Obj C schF (ipL ts cs), Is (.str s1), Is (.str s2), Da K d] ta σ F H) :
    EvW w (Is (.bl (isPathD cs s1 s2 d))) (QC.tCallE (spIp K C CU) [] E ta) σ F H := fun F1 H1 g Q q =>
  callX (A := fun a : IpA => [Obj C schF (ipL a.ts a.cs), Da K a.d1, Da K a.d2, Da K a.d]) (R := fun a v _ => ∃ s1 s2, a.d1 = .str s1 ∧ s1 ∈ a.ts ∧ a.d2 = .str s2 ∧ s2 ∈ a.ts ∧ v = .bl (isPathD a.cs s1 s2 a.d)) (X := fun a cls d F => ∃ b, badOf a.ts [a.d1, a.d2] = some b ∧ Xv K CU "value" b cls d F)
    ⟨ts, cs, nd, .str s1, .str s2, d, dl⟩ (g.ok o) (fun F2 H2 g2 Q2 q2 => h F2 H2 (g.trans o g2) Q2 fun vs F3 H3 g3 al => q2 vs F3 H3 g3 (by
      obtain ⟨a, b, c, e, rfl, ha, hb, hc, he⟩ := four_args al
      obtain rfl : b = .str s1 := hb
      obtain rfl : c = .str s2 := hc
      exact .cons ha (.cons (.str _) (.cons (.str _) (.cons he .nil)))))
    (fun v F2 H2 g2 ⟨a, b, e1, _, e2, _, e3⟩ => q v F2 H2 g2 (by cases e1; cases e2; exact e3))
    fun cls dd F2 H2 g2 ⟨b, e, _⟩ => by
      unfold badOf at e
      rw [List.find?_cons_of_neg (by rw [show isOne ts (.str s1) = true from decide_eq_true h1]; decide), List.find?_cons_of_neg (by rw [show isOne ts (.str s2) = true from decide_eq_true h2]; decide)] at e
      cases e
end
end QW

set_option Elab.async false
set_option linter.all false
set_option maxRecDepth 100000
set_option maxHeartbeats 1000000
/-! QPl: all paths, in order, in plain Lean; plain data. -/
namespace QW
open PySem PySem.Spec PyProof.Rows L2 QR QSo
/-- the sorted list of some paths -/
def leP (a b : List Str) : Bool := !tls b a
def srtP (l : List (List Str)) : List (List Str) := l.mergeSort leP
theorem leP_trans (a b c : List Str) (h1 : leP a b = true) (h2 : leP b c = true) : leP a c = true := by
  unfold leP at h1 h2 ⊢
  rw [Bool.not_eq_true'] at h1 h2 ⊢
  exact tls_tr a b c h1 h2
theorem leP_total (a b : List Str) : (leP a b || leP b a) = true := by
  unfold leP
  cases e : tls b a with
  | false => rfl
  | true => rw [tls_asym b a e]; rfl
theorem srtP_perm (l : List (List Str)) : (srtP l).Perm l := List.mergeSort_perm l leP
theorem srtP_ord (l : List (List Str)) : (srtP l).Pairwise fun x y => tls y x = false := (List.pairwise_mergeSort leP_trans leP_total l).imp fun h => by
  unfold leP at h
  rw [Bool.not_eq_true'] at h
  exact h
theorem ordP_uniq : ∀ {l m : List (List Str)}, l.Perm m → (l.Pairwise fun x y => tls y x = false) → (m.Pairwise fun x y => tls y x = false) → l = m := by
  intro l
  induction l with
  | nil => intro m p _ _; exact (List.nil_perm.mp p).symm
  | cons a l ih =>
    intro m p h1 h2
    cases m with
    | nil => exact (List.perm_nil.mp p)
    | cons b m =>
      have e : a = b := by
        have ha : a ∈ b :: m := p.mem_iff.mp List.mem_cons_self
        have hb : b ∈ a :: l := p.mem_iff.mpr List.mem_cons_self
        rcases List.mem_cons.mp ha with e | ha
        · exact e
        · rcases List.mem_cons.mp hb with e | hb
          · exact e.symm
          · exact tls_tri (List.rel_of_pairwise_cons h2 ha) (List.rel_of_pairwise_cons h1 hb)
      subst e
      rw [ih ((List.perm_cons a).mp p) (List.pairwise_cons.mp h1).2 (List.pairwise_cons.mp h2).2]
theorem srtP_eq {l m : List (List Str)} (p : m.Perm l) (h : m.Pairwise fun x y => tls y x = false) : m = srtP l := ordP_uniq (p.trans (srtP_perm l).symm) h (srtP_ord l)
/-! ### the search level by level -/
abbrev PEnd : Type := List Str × Str
def expand1 (cs : List Cst) (e : PEnd) : List PEnd := (cs.filter fun c => decide (c.2.1 = e.2)).map fun c => (e.1 ++ [c.1], c.2.2)
def expand (cs : List Cst) (es : List PEnd) : List PEnd := es.flatMap (expand1 cs)
def hits (tgt : Str) (es : List PEnd) : List (List Str) := srtP ((es.filter fun e => decide (e.2 = tgt)).map (·.1))
def rounds (cs : List Cst) (tgt : Str) : Nat → List PEnd → List (List Str)
  | 0, _ => []
  | n + 1, es => hits tgt es ++ rounds cs tgt n (expand cs es)
theorem rounds_nil (cs : List Cst) (tgt : Str) : ∀ n, rounds cs tgt n [] = []
  | 0 => rfl
  | n + 1 => by
    show hits tgt [] ++ rounds cs tgt n [] = []
    rw [rounds_nil cs tgt n, List.append_nil]
    exact List.Perm.eq_nil (srtP_perm _)
def pathsL (ts : List Str) (cs : List Cst) (src tgt : Str) : List (List Str) := rounds cs tgt ts.length [([], src)]
/-! ### how many there are -/
section
variable {cs : List Cst} {rk : Str → Nat}
theorem count_add {p q r : Cst → Bool} (h1 : ∀ c, p c = true → r c = true) (h2 : ∀ c, q c = true → r c = true) (h3 : ∀ c, p c = true → q c = true → False) : ∀ cs : List Cst, (cs.filter p).length + (cs.filter q).length ≤ (cs.filter r).length
  | [] => Nat.le_refl _
  | c :: cs => by
    have ih := count_add h1 h2 h3 cs
    rw [List.filter_cons, List.filter_cons, List.filter_cons]
    cases hp : p c with
    | true =>
      have hq : q c = false := by
        cases e : q c with
        | false => rfl
        | true => exact (h3 c hp e).elim
      rw [h1 c hp, hq]
      simp only [if_true, Bool.false_eq_true, if_false, List.length_cons]
      omega
    | false =>
      cases hq : q c with
      | true =>
        rw [h2 c hq]
        simp only [if_true, Bool.false_eq_true, if_false, List.length_cons]
        omega
      | false =>
        simp only [Bool.false_eq_true, if_false]
        split
        · rw [List.length_cons]; omega
        · exact ih
def wtE (cs : List Cst) (rk : Str → Nat) (e : PEnd) : Nat := 2 ^ (cs.filter fun c => decide (rk e.2 ≤ rk c.2.1)).length
def wtS (cs : List Cst) (rk : Str → Nat) (es : List PEnd) : Nat := (es.map (wtE cs rk)).sum
theorem wtE_pos (e : PEnd) : 1 ≤ wtE cs rk e := Nat.one_le_two_pow
theorem wtS_len : ∀ es : List PEnd, es.length ≤ wtS cs rk es
  | [] => Nat.le_refl _
  | e :: es => by
    have h1 := wtS_len es
    have h2 := wtE_pos (cs := cs) (rk := rk) e
    show es.length + 1 ≤ wtE cs rk e + wtS cs rk es
    omega
theorem wt_one (hr : ∀ c ∈ cs, rk c.2.1 < rk c.2.2) (e : PEnd) : wtS cs rk (expand1 cs e) ≤ wtE cs rk e := by
  have key : ∀ l : List Cst, (∀ c ∈ l, c ∈ cs ∧ c.2.1 = e.2) → ((l.map fun c => (e.1 ++ [c.1], c.2.2)).map (wtE cs rk)).sum ≤ l.length * 2 ^ ((cs.filter fun c => decide (rk e.2 ≤ rk c.2.1)).length - (cs.filter fun c => decide (c.2.1 = e.2)).length) := by
    intro l
    induction l with
    | nil => exact fun _ => Nat.zero_le _
    | cons c l ih =>
      intro h
      have i := ih fun x hx => h x (List.mem_cons_of_mem _ hx)
      obtain ⟨hc, he⟩ := h c List.mem_cons_self
      rw [List.map_cons, List.map_cons, List.sum_cons, List.length_cons, Nat.add_mul, Nat.one_mul]
      have h0 := hr c hc
      rw [he] at h0
      have h1 : wtE cs rk (e.1 ++ [c.1], c.2.2) ≤ 2 ^ ((cs.filter fun c => decide (rk e.2 ≤ rk c.2.1)).length - (cs.filter fun c => decide (c.2.1 = e.2)).length) := by
        refine Nat.pow_le_pow_right (by decide) ?_
        have := count_add (p := fun x => decide (rk c.2.2 ≤ rk x.2.1)) (q := fun x => decide (x.2.1 = e.2)) (r := fun x => decide (rk e.2 ≤ rk x.2.1)) (fun x hx => decide_eq_true (by have := of_decide_eq_true hx; omega)) (fun x hx => decide_eq_true (by rw [of_decide_eq_true hx]; exact Nat.le_refl _))
          (fun x h1 h2 => by
            have a := of_decide_eq_true h1
            rw [of_decide_eq_true h2] at a
            omega) cs
        show (cs.filter fun x => decide (rk c.2.2 ≤ rk x.2.1)).length ≤ _
        omega
      omega
  have h := key (cs.filter fun c => decide (c.2.1 = e.2)) fun c hc => ⟨(List.mem_filter.mp hc).1, of_decide_eq_true (List.mem_filter.mp hc).2⟩
  refine Nat.le_trans h ?_
  have hle : (cs.filter fun c => decide (c.2.1 = e.2)).length ≤ (cs.filter fun c => decide (rk e.2 ≤ rk c.2.1)).length := by
    have := count_add (p := fun _ => false) (q := fun x : Cst => decide (x.2.1 = e.2)) (r := fun x : Cst => decide (rk e.2 ≤ rk x.2.1)) (fun x hx => nomatch hx) (fun x hx => decide_eq_true (by rw [of_decide_eq_true hx]; exact Nat.le_refl _)) (fun x h1 _ => nomatch h1) cs
    omega
  unfold wtE
  obtain ⟨k, hk⟩ := Nat.exists_eq_add_of_le hle
  rw [hk, Nat.add_sub_cancel_left, Nat.pow_add]
  exact Nat.mul_le_mul_right _ (Nat.le_of_lt Nat.lt_two_pow_self)
theorem wt_expand (hr : ∀ c ∈ cs, rk c.2.1 < rk c.2.2) : ∀ es : List PEnd, wtS cs rk (expand cs es) ≤ wtS cs rk es
  | [] => Nat.le_refl _
  | e :: es => by
    have h1 := wt_expand hr es
    have h2 := wt_one hr e
    unfold expand at h1 ⊢
    unfold wtS at h1 h2 ⊢
    rw [List.flatMap_cons, List.map_append, List.sum_append, List.map_cons, List.sum_cons]
    omega
theorem wt_first (src : Str) : wtS cs rk [([], src)] ≤ 2 ^ cs.length := by
  show 2 ^ _ + 0 ≤ _
  rw [Nat.add_zero]
  exact Nat.pow_le_pow_right (by decide) (List.length_filter_le _ _)
end
/-- the search at its i-th level -/
structure Lev (ts : List Str) (cs : List Cst) (rk : Str → Nat) (i : Nat) (es : List PEnd) : Prop where
  at_ : ∀ e ∈ es, e.2 ∈ ts ∧ i ≤ rk e.2 ∧ e.1.length = i ∧ ∀ n ∈ e.1, ∃ c ∈ cs, c.1 = n
  wt : wtS cs rk es ≤ 2 ^ cs.length
  one : i = 0 → es.length ≤ 1
section
variable {ts : List Str} {cs : List Cst} {rk : Str → Nat} {i : Nat} {es : List PEnd}
theorem Lev.len (h : Lev ts cs rk i es) : es.length ≤ 2 ^ cs.length := Nat.le_trans (wtS_len (cs := cs) (rk := rk) es) h.wt
theorem Lev.next (hr : ∀ c ∈ cs, rk c.2.1 < rk c.2.2) (he : ∀ c ∈ cs, c.2.2 ∈ ts) (h : Lev ts cs rk i es) : Lev ts cs rk (i + 1) (expand cs es) := by
  refine ⟨fun e hm => ?_, Nat.le_trans (wt_expand hr es) h.wt, fun z => by omega⟩
  obtain ⟨x, hx, hm⟩ := List.mem_flatMap.mp hm
  obtain ⟨c, hc, rfl⟩ := List.mem_map.mp hm
  have hc1 := (List.mem_filter.mp hc).1
  have hc2 : c.2.1 = x.2 := of_decide_eq_true (List.mem_filter.mp hc).2
  obtain ⟨a1, a2, a3, a4⟩ := h.at_ x hx
  have := hr c hc1
  rw [hc2] at this
  refine ⟨he c hc1, by show i + 1 ≤ rk c.2.2; omega, by show (x.1 ++ [c.1]).length = i + 1; rw [List.length_append, a3]; rfl, fun n hn => ?_⟩
  rcases List.mem_append.mp hn with hn | hn
  · exact a4 n hn
  · rw [List.mem_singleton.mp hn]; exact ⟨c, hc1, rfl⟩
theorem Lev.first {src : Str} (hs : src ∈ ts) : Lev ts cs rk 0 [([], src)] := ⟨fun e he => by
  rw [List.mem_singleton.mp he]
  exact ⟨hs, Nat.zero_le _, rfl, fun n hn => nomatch hn⟩, wt_first src, fun _ => Nat.le_refl _⟩
theorem Lev.end_ (hn : ∀ s ∈ ts, rk s < ts.length) (h : Lev ts cs rk ts.length es) : es = [] := by
  cases es with
  | nil => rfl
  | cons e es =>
    obtain ⟨a1, a2, _⟩ := h.at_ e List.mem_cons_self
    have := hn _ a1
    omega
end
theorem hits_len (tgt : Str) (es : List PEnd) : (hits tgt es).length ≤ es.length := by
  unfold hits
  rw [(srtP_perm _).length_eq, List.length_map]
  exact List.length_filter_le _ _
theorem mem_hits {tgt : Str} {es : List PEnd} {p : List Str} : p ∈ hits tgt es ↔ ∃ e ∈ es, e.2 = tgt ∧ e.1 = p := by
  unfold hits
  rw [(srtP_perm _).mem_iff, List.mem_map]
  constructor
  · rintro ⟨e, he, rfl⟩
    exact ⟨e, (List.mem_filter.mp he).1, of_decide_eq_true (List.mem_filter.mp he).2, rfl⟩
  · rintro ⟨e, he, h1, rfl⟩
    exact ⟨e, List.mem_filter.mpr ⟨he, decide_eq_true h1⟩, rfl⟩
theorem rounds_at {ts : List Str} {cs : List Cst} {rk : Str → Nat} (hr : ∀ c ∈ cs, rk c.2.1 < rk c.2.2) (he : ∀ c ∈ cs, c.2.2 ∈ ts) {tgt : Str} : ∀ {n i : Nat} {es : List PEnd}, Lev ts cs rk i es → ∀ p ∈ rounds cs tgt n es, p.length < i + n ∧ ∀ x ∈ p, ∃ c ∈ cs, c.1 = x
  | 0, _, _, _, p, hp => nomatch hp
  | n + 1, i, es, h, p, hp => by
    rcases List.mem_append.mp hp with hp | hp
    · obtain ⟨e, hm, _, rfl⟩ := mem_hits.mp hp
      obtain ⟨_, _, a3, a4⟩ := h.at_ e hm
      exact ⟨by omega, a4⟩
    · have := rounds_at hr he (h.next hr he) p hp
      exact ⟨by omega, this.2⟩
/-- a rank by the places in the list -/
theorem rank_of {ts : List Str} {cs : List Cst} (nd : ts.Nodup) (ce : ∀ c ∈ cs, ∃ i j : Nat, i < j ∧ ts[i]? = some c.2.1 ∧ ts[j]? = some c.2.2) : ∃ rk : Str → Nat, (∀ c ∈ cs, rk c.2.1 < rk c.2.2) ∧ ∀ s ∈ ts, rk s < ts.length := by
  refine ⟨fun s => ts.idxOf s, fun c hc => ?_, fun s hs => List.idxOf_lt_length_of_mem hs⟩
  obtain ⟨i, j, hij, h1, h2⟩ := ce c hc
  obtain ⟨a1, a2⟩ := List.getElem?_eq_some_iff.mp h1
  obtain ⟨b1, b2⟩ := List.getElem?_eq_some_iff.mp h2
  show ts.idxOf c.2.1 < ts.idxOf c.2.2
  rw [← a2, ← b2, nd.idxOf_getElem i a1, nd.idxOf_getElem j b1]
  exact hij
theorem pathsL_at {ts : List Str} {cs : List Cst} {src tgt : Str} (nd : ts.Nodup) (ce : ∀ c ∈ cs, ∃ i j : Nat, i < j ∧ ts[i]? = some c.2.1 ∧ ts[j]? = some c.2.2) (hs : src ∈ ts) : ∀ p ∈ pathsL ts cs src tgt, p.length < ts.length ∧ ∀ x ∈ p, ∃ c ∈ cs, c.1 = x := by
  obtain ⟨rk, hr, _⟩ := rank_of nd ce
  have he : ∀ c ∈ cs, c.2.2 ∈ ts := fun c hc => by
    obtain ⟨i, j, _, _, h2⟩ := ce c hc
    exact List.mem_of_getElem? h2
  intro p hp
  have := rounds_at hr he (Lev.first (cs := cs) (rk := rk) hs) p hp
  exact ⟨by omega, this.2⟩
theorem rounds_len {ts : List Str} {cs : List Cst} {rk : Str → Nat} (hr : ∀ c ∈ cs, rk c.2.1 < rk c.2.2) (he : ∀ c ∈ cs, c.2.2 ∈ ts) {tgt : Str} : ∀ {n i : Nat} {es : List PEnd}, Lev ts cs rk i es → (rounds cs tgt n es).length ≤ n * 2 ^ cs.length
  | 0, _, _, _ => Nat.zero_le _
  | n + 1, i, es, h => by
    have h1 := rounds_len (tgt := tgt) hr he (n := n) (h.next hr he)
    have h2 := hits_len tgt es
    have h3 := h.len
    show (hits tgt es ++ rounds cs tgt n (expand cs es)).length ≤ _
    rw [List.length_append, Nat.add_mul, Nat.one_mul]
    omega
/-! ### plain data -/
structure Pln (n : Nat) (d : PyData) : Prop where
  l : d.canLay0 = true
  nd : d.hasDict = false
  h : d.depth ≤ n
theorem pln_str {s : Str} (h : PyData.strOk s = true) : Pln 1 (.str s) := ⟨by simp only [PyData.canLay0, h], rfl, by simp only [PyData.depth]; omega⟩
theorem pln_all {n : Nat} : ∀ {ds : List PyData}, (∀ d ∈ ds, Pln n d) → PyData.canLayAll0 ds = true ∧ PyData.hasDictAll ds = false ∧ PyData.depthAll ds ≤ n
  | [], _ => ⟨by simp only [PyData.canLayAll0], by simp only [PyData.hasDictAll], by simp only [PyData.depthAll]; omega⟩
  | d :: ds, h => by
    obtain ⟨a, b, c⟩ := pln_all fun x hx => h x (List.mem_cons_of_mem _ hx)
    have p := h d List.mem_cons_self
    have p1 := p.l
    have p2 := p.nd
    have p3 := p.h
    exact ⟨by simp only [PyData.canLayAll0, p1, a, Bool.and_self], by simp only [PyData.hasDictAll, p2, b, Bool.or_self], by simp only [PyData.depthAll]; omega⟩
theorem pln_list {n : Nat} {ds : List PyData} (h : ∀ d ∈ ds, Pln n d) : Pln (n + 1) (.list ds) := by
  obtain ⟨a, b, c⟩ := pln_all h
  exact ⟨by simp only [PyData.canLay0, a], by simp only [PyData.hasDict, b], by simp only [PyData.depth]; omega⟩
theorem pln_tup {n : Nat} {ds : List PyData} (h : ∀ d ∈ ds, Pln n d) : Pln (n + 1) (.tuple ds) := by
  obtain ⟨a, b, c⟩ := pln_all h
  exact ⟨by simp only [PyData.canLay0, a], by simp only [PyData.hasDict, b], by simp only [PyData.depth]; omega⟩
theorem Pln.sh {n : Nat} {d : PyData} (h : Pln n d) (hn : n ≤ 64) : SeqAt.shaped d = true := by
  unfold SeqAt.shaped
  rw [h.l, Bool.true_and]
  exact decide_eq_true (Nat.le_trans h.h hn)
theorem Pln.up {n m : Nat} {d : PyData} (h : Pln n d) (hn : n ≤ m) : Pln m d := ⟨h.l, h.nd, Nat.le_trans h.h hn⟩
theorem eqv_nil : PyData.eqv (.list []) (.list []) = true := by first | rfl | decide | simp [PyData.eqv]
theorem eqv_cons {d : PyData} {ds : List PyData} : PyData.eqv (.list (d :: ds)) (.list []) = false := by first | rfl | simp [PyData.eqv, PyData.eqvAll] | simp [PyData.eqv]
end QW

set_option Elab.async false
set_option linter.all false
set_option maxRecDepth 100000
set_option maxHeartbeats 1000000
/-! QCat: t + u of any tuples. -/
namespace QK
open PySem PySem.Spec PyProof.Rows L2
def rCatE (K : PySem.W.Frag) : R2 := fun x y H Q => ∃ a b xs ys, x = .ref a ∧ y = .ref b ∧ SqT K H a xs ∧ SqT K H b ys ∧ xs.length + ys.length ≤ sizeLine ∧
  (xs = [] → Q (.ref b) H) ∧ (xs ≠ [] → ys = [] → Q (.ref a) H) ∧ (xs ≠ [] → ys ≠ [] → ∀ p, H p = none → Q (.ref p) (upd H p (.tup (xs ++ ys))))
theorem op_catE {X : Cx} {K : PySem.W.Frag} (hK : X.K = K) : OpR X (binaryOp .Add) (rCatE K) := by
  subst hK
  intro pins s σ H x y v u Q I rx ry h
  obtain ⟨a, b, xs, ys, rfl, rfl, ha, hb, hz, q0, q1, q2⟩ := h
  cases rx
  cases ry
  obtain ⟨its, r1, p1, _⟩ := I.tuple ha
  obtain ⟨its2, r2, p2, _⟩ := I.tuple hb
  by_cases hv : its = []
  · obtain ⟨⟨cls, dd, data, sl⟩, ho, hc, n, hd⟩ := id p1
    obtain ⟨⟨cls2, dd2, data2, sl2⟩, ho2, hc2, n2, hd2⟩ := id p2
    simp only at hc hd hc2 hd2
    subst hc hd hc2 hd2
    exact concat_meets ⟨_, ho, rfl⟩ ⟨_, ho2, rfl⟩ noFill_tuple_add seq_tuple_add PySem.F.slot_tuple_add PySem.F.entry_tuple_add (PySem.F.args_tuple_add_2 _ _)
      (tuple_addW0 a b its.toArray its2.toArray n n2 dd dd2 sl sl2 (by simp [hv])) ⟨ho, ho2, .ref b, H, I, rfl, q0 (r1.nil_iff.mp hv)⟩
  refine HT.cat_tup p1 p2 hv (fun z => ⟨.ref a, H, I, rfl, q1 (fun w => hv (r1.nil_iff.mpr w)) (r2.nil_iff.mp z)⟩) (fun z => ?_) (by rw [← r1.length, ← r2.length]; exact hz)
  have y := hv
  refine ⟨.ref s.heap.objs.size, _, I.laid (t' := s.toks) (o := .tup (xs ++ ys)) (fun b ob q => Heap.get?_push_of_some _ q) (Nat.le_refl _) ?_, rfl, q2 (fun w => y (r1.nil_iff.mpr w)) (fun w => z (r2.nil_iff.mpr w)) _ (I.hok.fresh (Nat.le_refl _))⟩
  exact ⟨by rw [List.length_append]; exact hz, _, r1.append r2, IsTup.new _ _⟩
end QK
namespace QW
open PySem PySem.Spec PyProof.Rows L2 QR
theorem ow_catE {K : PySem.W.Frag} {w : Wd} {Rs Ss : List Pr} (m1 : ∀ R ∈ Rs, Mo R) (m2 : ∀ R ∈ Ss, Mo R) (hl : Rs.length + Ss.length ≤ 100000) : OpW w (QK.rCatE K) (Tu Rs) (Tu Ss) (Tu (Rs ++ Ss)) := by
  intro x y F H o rx ry Q q
  obtain ⟨l, vs, rfl, h1, a1⟩ := rx
  obtain ⟨k, us, rfl, h2, a2⟩ := ry
  have l1 := a1.length
  have l2 := a2.length
  refine ⟨l, k, vs, us, rfl, rfl, .of (o.s _ _ h1), .of (o.s _ _ h2), Evl.sz_of (by omega), fun e => ?_, fun _ e => ?_, fun _ _ p n => ?_⟩
  · subst e
    obtain rfl : Rs = [] := List.length_eq_zero_iff.mp (by rw [← l1]; rfl)
    exact q _ F H o.refl ⟨k, us, rfl, h2, a2⟩
  · subst e
    obtain rfl : Ss = [] := List.length_eq_zero_iff.mp (by rw [← l2]; rfl)
    exact q _ F H o.refl ⟨l, vs, rfl, h1, by rw [List.append_nil]; exact a1⟩
  · have e := same_upd (o := .tup (vs ++ us)) (same_none o.s n)
    exact q _ (upd F p (.tup (vs ++ us))) _ (o.refl.new o n) ⟨p, vs ++ us, rfl, upd_same, (a1.mono e m1).append (a2.mono e m2)⟩
end QW

set_option Elab.async false
set_option linter.all false
set_option maxRecDepth 100000
set_option maxHeartbeats 2000000
/-! QPw: _law_paths. -/
namespace QW
open PySem PySem.Spec PyProof.Rows L2 QR QSo
/-- a path | a path and where it ends -/
def pTu (p : List Str) : Pr := Tu (p.map fun n => Is (.str n))
def eTu (e : PEnd) : Pr := Tu [pTu e.1, Is (.str e.2)]
theorem pTu.mo (p : List Str) : Mo (pTu p) := Tu.mo (mos_map (f := fun n : Str => Is (.str n)) (fun _ => Is.mo _) p)
theorem eTu.mo (e : PEnd) : Mo (eTu e) := Tu.mo (mos_cons (pTu.mo _) (mos_cons (Is.mo _) mos_nil))
abbrev pD (p : List Str) : PyData := .tuple (p.map .str)
abbrev eD (e : PEnd) : PyData := .tuple [pD e.1, .str e.2]
section
variable {K : PySem.W.Frag} {v : V} {F : Hp}
theorem strs_das : ∀ {p : List Str} {vs : List V}, Al (p.map fun n => Is (.str n)) vs F → Al ((p.map PyData.str).map (Da K)) vs F
  | [], _, .nil => .nil
  | x :: p, _, .cons h r => .cons (by cases h; exact .str _) (strs_das r)
theorem pTu.da {p : List Str} (h : pTu p v F) : Da K (pD p) v F := by
  obtain ⟨l, vs, rfl, h1, h2⟩ := h
  exact Tu.da ⟨l, vs, rfl, h1, strs_das h2⟩
theorem eTu.da {e : PEnd} (h : eTu e v F) : Da K (eD e) v F := by
  obtain ⟨l, vs, rfl, h1, h2⟩ := h
  obtain ⟨x, y, rfl, hx, hy⟩ := two_args h2
  cases hy
  exact Tu.da (ds := [pD e.1, .str e.2]) ⟨l, _, rfl, h1, .cons (pTu.da hx) (.cons (.str _) .nil)⟩
theorem das_map {α : Type} {f : α → Pr} {g : α → PyData} (h : ∀ a v F, f a v F → Da K (g a) v F) : ∀ {l : List α} {vs : List V}, Al (l.map f) vs F → Al ((l.map g).map (Da K)) vs F
  | [], _, .nil => .nil
  | x :: l, _, .cons a r => .cons (h _ _ _ a) (das_map h r)
theorem Li.daM {α : Type} {f : α → Pr} {g : α → PyData} (h : ∀ a v F, f a v F → Da K (g a) v F) {l : List α} (x : Li (l.map f) v F) : Da K (.list (l.map g)) v F := by
  obtain ⟨a, vs, rfl, h1, h2⟩ := x
  exact Li.da ⟨a, vs, rfl, h1, das_map h h2⟩
end
theorem pln_p {p : List Str} (h : ∀ s ∈ p, PyData.strOk s = true) : Pln 2 (pD p) := pln_tup fun d hd => by
  obtain ⟨s, hs, rfl⟩ := List.mem_map.mp hd
  exact pln_str (h s hs)
theorem pln_e {e : PEnd} (h : ∀ s ∈ e.1, PyData.strOk s = true) (h2 : PyData.strOk e.2 = true) : Pln 3 (eD e) := pln_tup fun d hd => by
  rcases List.mem_cons.mp hd with rfl | hd
  · exact pln_p h
  · rw [List.mem_singleton.mp hd]
    exact (pln_str h2).up (by decide)
/-! ### sorted -/
section
variable {K : PySem.W.Frag} {w : Wd} {σ : L2.St} {F H : Hp} {te : TE}
theorem ents_of : ∀ {ps : List (List Str)} {us : List V} {F : Hp}, Al (ps.map pTu) us F → ∃ ts : List EntT, us = ts.map (fun z => V.ref z.1) ∧ ts.map (·.2) = ps ∧ ∀ z ∈ ts, F z.1 = some (.tup (sv z.2))
  | [], _, _, .nil => ⟨[], rfl, rfl, fun z hz => nomatch hz⟩
  | p :: ps, _, F, .cons h r => by
    obtain ⟨ts, h1, h2, h3⟩ := ents_of r
    obtain ⟨l, vs, rfl, e1, al⟩ := h
    obtain rfl : vs = sv p := al.is
    refine ⟨(l, p) :: ts, by rw [h1]; rfl, by rw [List.map_cons, h2], fun z hz => ?_⟩
    rcases List.mem_cons.mp hz with rfl | hz
    · exact e1
    · exact h3 z hz
theorem al_ents {F : Hp} : ∀ {zs : List EntT}, (∀ z ∈ zs, F z.1 = some (.tup (sv z.2))) → Al ((zs.map (·.2)).map pTu) (zs.map fun z => V.ref z.1) F
  | [], _ => .nil
  | z :: zs, h => .cons ⟨z.1, _, rfl, h z List.mem_cons_self, al_strs _⟩ (al_ents fun y hy => h y (List.mem_cons_of_mem _ hy))
theorem ev_sortTT {ps : List (List Str)} (o : Ok w F H) (h : EvW w (Li (ps.map pTu)) te σ F H) (hz : ps.length ≤ 100000) (hne : 2 ≤ ps.length → ∀ p ∈ ps, p ≠ []) : EvW w (Li ((srtP ps).map pTu)) (tCB (rSortTT K) (tCons te tNil)) σ F H := fun F1 H1 g Q q =>
  h F1 H1 g _ fun v F2 H2 g2 ⟨l, us, e, e1, al⟩ => by
    obtain ⟨ts, rfl, h2, h3⟩ := ents_of al
    have o2 := g2.ok (g.ok o)
    have hl : ts.length = ps.length := by rw [← h2, List.length_map]
    refine ⟨l, ts, by rw [e], .of (o2.s _ _ e1), by omega, fun z hz => .of (o2.s _ _ (h3 z hz)), fun hh z hz => hne (by omega) _ (by rw [← h2]; exact List.mem_map.mpr ⟨z, hz, rfl⟩), fun zs p hp hs hn => ?_⟩
    have es : zs.map (·.2) = srtP ps := srtP_eq (by rw [← h2]; exact hp.map _) (List.pairwise_map.mpr hs)
    refine q _ (upd F2 p _) _ (g2.new (g.ok o) hn) ⟨p, _, rfl, upd_same, ?_⟩
    rw [← es]
    have nF := same_none o2.s hn
    exact al_ents fun z hz => same_upd nF _ _ (h3 z (hp.mem_iff.mp hz))
end
/-! ### while -/
section
variable {w w0 : Wd} {σ : L2.St} {F H : Hp} {tc : TT} {tb us : TS} {D : Ends} {n : Nat}
/-- while c: at most n turns -/
theorem q_while (o : Ok w F H) (Iv : Nat → L2.St → Hp → Hp → Prop) (h0 : Iv 0 σ F H)
    (hs : ∀ i σ' G H', i ≤ n → Gw w F H G H' → Iv i σ' G H' → ∃ b, EvT w b tc σ' G H' ∧ (b = true → i < n ∧ ∀ (N : L2.St → Hp → Prop) G1 H1, Gw w G H' G1 H1 → (∀ σ'' G' H'', Gw w G1 H1 G' H'' → Iv (i + 1) σ'' G' H'' → N σ'' H'') → tb { D with nx := N, ct := N, bk := us D } σ' H1) ∧
      (b = false → ∀ G1 H1, Gw w G H' G1 H1 → us D σ' H1)) : tSeq (tWhile tc tb) us D σ H := by
  refine ⟨fun m σ' H' => ∃ i G, i ≤ n ∧ m = n - i ∧ Gw w F H G H' ∧ Iv i σ' G H', ⟨n, 0, F, Nat.zero_le _, rfl, o.refl, h0⟩, ?_⟩
  rintro m σ' H' ⟨i, G, hi, rfl, g, iv⟩
  have o1 := g.ok o
  obtain ⟨b, ht, h1, h2⟩ := hs i σ' G H' hi g iv
  refine ht G H' o1.refl _ fun G1 H1 g1 => ?_
  cases b with
  | true =>
    rw [if_pos rfl]
    obtain ⟨hlt, hb⟩ := h1 rfl
    refine ⟨fun σ'' H'' => ∃ m', m' < n - i ∧ ∃ i G, i ≤ n ∧ m' = n - i ∧ Gw w F H G H'' ∧ Iv i σ'' G H'', fun σ'' H'' ⟨m', h, x⟩ => ⟨m', h, x⟩, ?_⟩
    exact hb _ G1 H1 g1 fun σ'' G' H'' g2 iv' => ⟨n - (i + 1), by omega, i + 1, G', hlt, rfl, (g.trans o g1).trans o g2, iv'⟩
  | false =>
    rw [if_neg (by decide)]
    exact h2 rfl G1 H1 g1
end
/-! ### _law_paths -/
structure PaA where
  ts : List Str
  cs : List Cst
  vs : List Ver
  tn : ts.Nodup
  tl : ts.length ≤ 10
  cl : cs.length ≤ 12
  ce : ∀ c ∈ cs, ∃ i j : Nat, i < j ∧ ts[i]? = some c.2.1 ∧ ts[j]? = some c.2.2
  ok : ∀ s ∈ ts, PyData.strOk s = true
  cok : ∀ c ∈ cs, PyData.strOk c.1 = true
  src : Str
  tgt : Str
  hs : src ∈ ts
def spPaths : Sp := spW (fun _ : PaA => W0) (fun a => [DatS a.ts a.cs a.vs, Is (.str a.src), Is (.str a.tgt)]) fun a => Li ((pathsL a.ts a.cs a.src a.tgt).map pTu)
theorem spPaths.len : ∀ vs H Q E, spPaths vs H Q E → vs.length = 3 := spW.len fun _ => rfl
abbrev gPA (K : PySem.W.Frag) : TG := gTup K 2 (gCons (gName 5) (gCons (gName 6) gNil))
def t_psX (K : PySem.W.Frag) : TE := tLc (iList K (tDGet (tVar 0) (tC (.str "casts")))) (gName 8) (tTest (tOp rEq (tOp (rIxT K) (tVar 8) (tC (.int 1))) (tVar 6))) (tTup (tCons (tOp (QK.rCatE K) (tVar 5) (tTup (tCons (tOp (rIxT K) (tVar 8) (tC (.int 0))) tNil))) (tCons (tOp (rIxT K) (tVar 8) (tC (.int 2))) tNil))) [8]
def t_psI (K : PySem.W.Frag) : TS := tAsg (tOp rCat (tVar 7) (t_psX K)) (gName 7)
def t_psH (K : PySem.W.Frag) : TE := tLc (iList K (tVar 4)) (gPA K) (tTest (tOp rEq (tVar 6) (tVar 2))) (tVar 5) [5, 6]
def t_psC (K : PySem.W.Frag) : TS := tSeq (tFor (iList K (tVar 4)) (gPA K) (t_psI K)) (tAsg (tVar 7) (gName 4))
def t_psB (K : PySem.W.Frag) : TS := tSeq (tAsg (tOp rCat (tVar 3) (tCB (rSortTT K) (tCons (t_psH K) tNil))) (gName 3)) (tSeq (tAsg (tLst tNil) (gName 7)) (t_psC K))
def t_psW (K : PySem.W.Frag) : TS := tSeq (tWhile (tTest (tOp (rNeD K) (tVar 4) (tLst tNil))) (t_psB K)) (tRet (tVar 3))
def t_paths (K : PySem.W.Frag) : TS := tSeq (tPar 3 4 (tCons (tLst tNil) (tCons (tLst (tCons (tTup (tCons (tTup tNil) (tCons (tVar 1) tNil))) tNil)) tNil))) (t_psW K)
section
variable {K : PySem.W.Frag} {F H : Hp}
theorem dec_eqS {a b : Str} : decide (V.str a = V.str b) = decide (a = b) := dec_str
/-- the further ones of one end -/
theorem ev_psX {v0 x1 x2 x3 x4 v5 x7 : V} {ts : List Str} {cs : List Cst} {vs : List Ver} {e : PEnd} (hl : cs.length ≤ 12) (hp : e.1.length ≤ 10) (o : Ok W0 F H) (hD : DatS ts cs vs v0 F) (h5 : pTu e.1 v5 F) :
    EvW W0 (Li ((expand1 cs e).map eTu)) (t_psX K) [some v0, some x1, some x2, some x3, some x4, some v5, some (.str e.2), some x7, none] F H := by
  have hc := ev_dat (i := 1) (k := "casts") (R := Li (cs.map cTu)) (ts := ts) (cs := cs) (vs := vs) (σ := [some v0, some x1, some x2, some x3, some x4, some v5, some (.str e.2), some x7, none]) (te := tVar 0) o (ev_var (i := 0) o (DatS.mo ts cs vs) rfl hD) rfl rfl
  have m3 : ∀ c : Cst, ∀ R ∈ [Is (V.str c.1), Is (.str c.2.1), Is (.str c.2.2)], Mo R := fun c => mos_cons (Is.mo _) (mos_cons (Is.mo _) (mos_cons (Is.mo _) mos_nil))
  have key := compN_list (K := K) (tt := tTest (tOp rEq (tOp (rIxT K) (tVar 8) (tC (.int 1))) (tVar 6))) (te := tTup (tCons (tOp (QK.rCatE K) (tVar 5) (tTup (tCons (tOp (rIxT K) (tVar 8) (tC (.int 0))) tNil))) (tCons (tOp (rIxT K) (tVar 8) (tC (.int 2))) tNil)))
    (vs := [8]) (j := 8) (f := cTu) (gg := fun c : Cst => eTu (e.1 ++ [c.1], c.2.2)) (p := fun c : Cst => decide (c.2.1 = e.2)) o hc (fun _ => rfl) cTu.mo (fun _ => eTu.mo _) (by omega)
    (fun c x G H' hC hx g => by
      have oG := g.ok o
      have a1 := ev_op (ta := tOp (rIxT K) (tVar 8) (tC (.int 1))) (tb := tVar 6) (σ := [some v0, some x1, some x2, some x3, some x4, some v5, some (.str e.2), some x7, some x]) oG (Is.mo _) (ev_op oG (cTu.mo c) (ev_var oG (cTu.mo c) rfl hx) (ev_c oG fun _ => rfl) (ow_ixT (i := 1) (R := Is (.str c.2.1)) rfl)) (ev_var oG (Is.mo (.str e.2)) rfl rfl) (ow_eqS rfl)
      rw [dec_eqS] at a1
      exact et_val a1)
    (fun c x G H' hC hp' hx g => by
      have oG := g.ok o
      have ix : ∀ {i : Nat} {R : Pr}, [Is (V.str c.1), Is (.str c.2.1), Is (.str c.2.2)][i]? = some R → EvW W0 R (tOp (rIxT K) (tVar 8) (tC (.int i))) [some v0, some x1, some x2, some x3, some x4, some v5, some (.str e.2), some x7, some x] G H' := fun {i R} h => ev_op oG (cTu.mo c) (ev_var oG (cTu.mo c) rfl hx) (ev_c oG fun _ => rfl) (ow_ixT h)
      have hcat : EvW W0 (pTu (e.1 ++ [c.1])) (tOp (QK.rCatE K) (tVar 5) (tTup (tCons (tOp (rIxT K) (tVar 8) (tC (.int 0))) tNil))) [some v0, some x1, some x2, some x3, some x4, some v5, some (.str e.2), some x7, some x] G H' := by
        have := ev_op (S := Tu [Is (.str c.1)]) oG (pTu.mo e.1) (ev_var (i := 5) oG (pTu.mo e.1) rfl (pTu.mo e.1 _ _ _ g.g.ff h5)) (ev_tup oG (mos_cons (Is.mo _) mos_nil) (ea_cons oG (Is.mo _) (ix (i := 0) rfl) (ea_nil oG)) (show 1 ≤ 100000 by decide)) (ow_catE (K := K) (mos_map (f := fun n : Str => Is (.str n)) (fun _ => Is.mo _) e.1) (mos_cons (Is.mo _) mos_nil) (by rw [List.length_map]; show _ + 1 ≤ _; omega))
        unfold pTu
        rw [List.map_append]
        exact this
      exact ev_tup oG (mos_cons (pTu.mo _) (mos_cons (Is.mo _) mos_nil)) (ea_cons oG (pTu.mo _) hcat (ea_cons oG (Is.mo _) (ix (i := 2) rfl) (ea_nil oG))) (show 2 ≤ 100000 by decide))
  unfold t_psX
  have e2 : (expand1 cs e).map eTu = (cs.filter fun c => decide (c.2.1 = e.2)).map fun c => eTu (e.1 ++ [c.1], c.2.2) := by
    unfold expand1
    rw [List.map_map]
    rfl
  rw [e2]
  exact key
/-- those at the target -/
theorem ev_psH {v0 x1 x3 v4 : V} {x5 x6 x7 : Option V} {tgt : Str} {es : List PEnd} (hz : es.length ≤ 100000) (o : Ok W0 F H) (h4 : Li (es.map eTu) v4 F) :
    EvW W0 (Li (((es.filter fun e => decide (e.2 = tgt)).map (·.1)).map pTu)) (t_psH K) [some v0, some x1, some (.str tgt), some x3, some v4, x5, x6, x7, none] F H := by
  have e2 : ((es.filter fun e => decide (e.2 = tgt)).map (·.1)).map pTu = (es.filter fun e => decide (e.2 = tgt)).map fun e => pTu e.1 := by
    rw [List.map_map]
    rfl
  rw [e2]
  have hi := ei_list (K := K) (tl := tVar 4) (σ := [some v0, some x1, some (.str tgt), some x3, some v4, x5, x6, x7, none]) o (mos_map eTu.mo es) (ev_var o (Li.mo (mos_map eTu.mo es)) rfl h4)
  refine ev_compG (p := fun e : PEnd => decide (e.2 = tgt)) (gg := fun e : PEnd => pTu e.1) (S := fun e σ' G => ∃ a, σ' = [some v0, some x1, some (.str tgt), some x3, some v4, some a, some (.str e.2), x7, none] ∧ pTu e.1 a G) o hi (List.length_map ..) (fun _ => pTu.mo _) hz
    (fun i e x G H' hC hY g => ?_) (fun e σ' G H' hC hS g => ?_) (fun e σ' G G' s hS => ?_) fun e σ' G H' hC hp hS g => ?_
  · obtain ⟨R, hR, r⟩ := hY
    rw [List.getElem?_map, hC] at hR
    cases hR
    obtain ⟨T, us, rfl, hT, al⟩ := r
    obtain ⟨a, b, rfl, ha, hb⟩ := two_args al
    obtain rfl : b = .str e.2 := hb
    refine ⟨[some v0, some x1, some (.str tgt), some x3, some v4, some a, some (.str e.2), x7, none], rfl, fun Kk hk => ⟨T, _, rfl, .of ((g.ok o).s _ _ hT), rfl, _, _, rfl, _, _, rfl, rfl, hk⟩, a, rfl, ha⟩
  · obtain ⟨a, rfl, ha⟩ := hS
    have oG := g.ok o
    have a1 := ev_op (ta := tVar 6) (tb := tVar 2) (σ := [some v0, some x1, some (.str tgt), some x3, some v4, some a, some (.str e.2), x7, none]) oG (Is.mo _) (ev_var oG (Is.mo (.str e.2)) rfl rfl) (ev_var oG (Is.mo (.str tgt)) rfl rfl) (ow_eqS rfl)
    rw [dec_eqS] at a1
    exact et_val a1
  · obtain ⟨a, rfl, ha⟩ := hS
    exact ⟨a, rfl, pTu.mo _ _ _ _ s ha⟩
  · obtain ⟨a, rfl, ha⟩ := hS
    exact ev_var (g.ok o) (pTu.mo _) rfl ha
end
end QW

set_option Elab.async false
set_option linter.all false
set_option maxRecDepth 100000
set_option maxHeartbeats 2000000
/-! QPw2: _law_paths, all of it. -/
namespace QW
open PySem PySem.Spec PyProof.Rows L2 QR QSo
theorem expand_take {cs : List Cst} {es : List PEnd} {i : Nat} (hi : i < es.length) : expand cs (es.take (i + 1)) = expand cs (es.take i) ++ expand1 cs es[i] := by
  rw [List.take_succ_eq_append_getElem hi]
  unfold expand
  rw [List.flatMap_append, List.flatMap_cons, List.flatMap_nil, List.append_nil]
theorem sub_expand {cs : List Cst} {rk : Str → Nat} {es : List PEnd} (i : Nat) : (expand cs (es.take i)).length ≤ (expand cs es).length := by
  have e : es = es.take i ++ es.drop i := (List.take_append_drop i es).symm
  have : expand cs es = expand cs (es.take i) ++ expand cs (es.drop i) := by
    unfold expand
    rw [← List.flatMap_append, ← e]
  rw [this, List.length_append]
  omega
section
variable {K : PySem.W.Frag} {F H : Hp}
/-- one level -/
theorem pure_psB {D : Ends} {ts : List Str} {cs : List Cst} {vs : List Ver} {rk : Str → Nat} {i : Nat} {es : List PEnd} {fs : List (List Str)} {src tgt : Str} {v0 v3 v4 : V} {x5 x6 x7 : Option V} (hr : ∀ c ∈ cs, rk c.2.1 < rk c.2.2) (he : ∀ c ∈ cs, c.2.2 ∈ ts) (cl : cs.length ≤ 12) (lv : Lev ts cs rk i es) (hp : ∀ e ∈ es, e.1.length ≤ 10) (hf : fs.length ≤ 45000)
    (o : Ok W0 F H) (hD : DatS ts cs vs v0 F) (h3 : Li (fs.map pTu) v3 F) (h4 : Li (es.map eTu) v4 F)
    (k : ∀ v3' v4' x5 x6 x7 F1 H1, Gw W0 F H F1 H1 → Li ((fs ++ hits tgt es).map pTu) v3' F1 → Li ((expand cs es).map eTu) v4' F1 → D.nx [some v0, some (.str src), some (.str tgt), some v3', some v4', x5, x6, x7, none] H1) :
    t_psB K D [some v0, some (.str src), some (.str tgt), some v3, some v4, x5, x6, x7, none] H := by
  have h12 : 2 ^ cs.length ≤ 4096 := Nat.pow_le_pow_right (by decide) cl
  have l1 := lv.len
  have l2 := (lv.next hr he).len
  have hz : es.length ≤ 100000 := by omega
  have hfl : (es.filter fun e => decide (e.2 = tgt)).length ≤ es.length := List.length_filter_le _ _
  have hS := ev_sortTT (K := K) (te := t_psH K) (σ := [some v0, some (.str src), some (.str tgt), some v3, some v4, x5, x6, x7, none]) (ps := (es.filter fun e => decide (e.2 = tgt)).map (·.1)) o (ev_psH hz o h4) (by rw [List.length_map]; omega) (fun h2 p hp' => by
    rw [List.length_map] at h2
    obtain ⟨e, hm, rfl⟩ := List.mem_map.mp hp'
    have hm := (List.mem_filter.mp hm).1
    obtain ⟨_, _, a3, _⟩ := lv.at_ e hm
    intro z
    rw [z] at a3
    have i0 : i = 0 := a3.symm
    have := lv.one i0
    omega)
  have hC : EvW W0 (Li ((fs ++ hits tgt es).map pTu)) (tOp rCat (tVar 3) (tCB (rSortTT K) (tCons (t_psH K) tNil))) [some v0, some (.str src), some (.str tgt), some v3, some v4, x5, x6, x7, none] F H := by
    rw [List.map_append]
    have hh := hits_len tgt es
    exact ev_op o (Li.mo (mos_map pTu.mo fs)) (ev_var o (Li.mo (mos_map pTu.mo fs)) rfl h3) hS (ow_cat (mos_map pTu.mo fs) (mos_map pTu.mo _) (by rw [List.length_map, List.length_map]; show fs.length + (hits tgt es).length ≤ _; omega))
  refine q_asg o hC fun v3' F1 H1 g1 r3 => ?_
  have o1 := g1.ok o
  refine q_asg (R := Li ((expand cs (es.take 0)).map eTu)) (te := tLst tNil) o1 (ev_lst o1 mos_nil (ea_nil o1) (Nat.zero_le _)) fun v7 F2 H2 g2 r7 => ?_
  have o2 := g2.ok o1
  have ff := g1.g.ff.trans g2.g.ff
  have h4' := Li.mo (mos_map eTu.mo es) _ _ _ ff h4
  have hD' := DatS.mo ts cs vs _ _ _ ff hD
  have r3' := Li.mo (mos_map pTu.mo _) _ _ _ g2.g.ff r3
  have hj := ej_list (K := K) (w0 := W0) (w := W0) (tl := tVar 4) (σ := [some v0, some (.str src), some (.str tgt), some v3', some v4, x5, x6, some v7, none]) (Sub.refl _) o2 (mos_map eTu.mo es) (ev_var o2 (Li.mo (mos_map eTu.mo es)) rfl h4')
  have hlen : (es.map eTu).length = es.length := List.length_map ..
  show t_psC K D [some v0, some (.str src), some (.str tgt), some v3', some v4, x5, x6, some v7, none] H2
  refine q_forJ (Sub.refl _) o2 hj (fun j σ' G H' => ∃ x5 x6 v7, σ' = [some v0, some (.str src), some (.str tgt), some v3', some v4, x5, x6, some v7, none] ∧ Li ((expand cs (es.take j)).map eTu) v7 G) (fun F' H' g => ⟨_, _, _, rfl, Li.mo (mos_map eTu.mo _) _ _ _ g.g.ff r7⟩) (fun j x σ' G0 H0 G H' N hj0 g0 iv g5 hx k2 => ?_) fun σ' G H' g iv => ?_
  · obtain ⟨y5, y6, y7, rfl, h7⟩ := iv
    obtain ⟨R, hR, r⟩ := hx
    have hj' : j < es.length := by rw [← hlen]; exact hj0
    rw [List.getElem?_map, List.getElem?_eq_getElem hj'] at hR
    cases hR
    have o0 := g0.ok o2
    have oo := g5.ok o0
    obtain ⟨T, us, rfl, hT, al⟩ := r
    obtain ⟨a, b, rfl, ha, hb⟩ := two_args al
    obtain rfl : b = .str es[j].2 := hb
    refine ⟨T, _, rfl, .of (oo.s _ _ hT), rfl, _, _, rfl, _, _, rfl, rfl, ?_⟩
    have h7' := Li.mo (mos_map eTu.mo _) _ _ _ g5.g.ff h7
    have hx := ev_psX (K := K) (ts := ts) (cs := cs) (vs := vs) (e := es[j]) (v0 := v0) (x1 := .str src) (x2 := .str tgt) (x3 := v3') (x4 := v4) (v5 := a) (x7 := y7) cl (hp _ (List.getElem_mem hj')) oo (DatS.mo ts cs vs _ _ _ (g0.g.ff.trans g5.g.ff) hD') ha
    have hle := sub_expand (cs := cs) (rk := rk) (es := es) (j + 1)
    rw [expand_take hj', List.length_append] at hle
    have hcat : EvW W0 (Li ((expand cs (es.take (j + 1))).map eTu)) (tOp rCat (tVar 7) (t_psX K)) [some v0, some (.str src), some (.str tgt), some v3', some v4, some a, some (.str es[j].2), some y7, none] G H' := by
      rw [expand_take hj', List.map_append]
      exact ev_op oo (Li.mo (mos_map eTu.mo _)) (ev_var oo (Li.mo (mos_map eTu.mo _)) rfl h7') hx (ow_cat (mos_map eTu.mo _) (mos_map eTu.mo _) (by rw [List.length_map, List.length_map]; omega))
    exact s_asg (i := 7) oo hcat fun v7' G1 H1 g6 r => k2 _ G1 H1 g6 ⟨_, _, _, rfl, r⟩
  · obtain ⟨y5, y6, y7, rfl, h7⟩ := iv
    rw [hlen, List.take_length] at h7
    have o3 := g.ok o2
    refine s_asg (i := 4) (te := tVar 7) o3 (ev_var o3 (Li.mo (mos_map eTu.mo _)) rfl h7) fun v4' G1 H1 g6 r => ?_
    exact k _ _ _ _ _ G1 H1 (((g1.trans o g2).trans o g).trans o g6) (Li.mo (mos_map pTu.mo _) _ _ _ (g.g.ff.trans g6.g.ff) r3') r
theorem pure_paths {vs : List V} {H : Hp} {Q : VK} {E : XK} (h : spPaths vs H Q E) : t_paths K { nx := fun _ H' => Q .non H', rt := Q } (L2.start ["s", "source", "target", "found", "ends", "path", "at", "further", "one"] vs) H := by
  obtain ⟨⟨ts, cs, rs, tn, tl, cl, ce, ok, cok, src, tgt, hs⟩, F, o, al, q⟩ := h
  obtain ⟨v0, v1, v2, rfl, hD, hv1, hv2⟩ := three_args al
  obtain rfl : v1 = .str src := hv1
  obtain rfl : v2 = .str tgt := hv2
  dsimp only at q hD
  have o : Ok W0 F H := o
  have tl : ts.length ≤ 10 := tl
  have cl : cs.length ≤ 12 := cl
  have hs : src ∈ ts := hs
  have ok : ∀ s ∈ ts, PyData.strOk s = true := ok
  have cok : ∀ c ∈ cs, PyData.strOk c.1 = true := cok
  obtain ⟨rk, hr, hrn⟩ := rank_of (cs := cs) tn ce
  have he : ∀ c ∈ cs, c.2.2 ∈ ts := fun c hc => by
    obtain ⟨i, j, _, _, h2⟩ := ce c hc
    exact List.mem_of_getElem? h2
  have h12 : 2 ^ cs.length ≤ 4096 := Nat.pow_le_pow_right (by decide) cl
  have e1 : EvW W0 (Li (([] : List (List Str)).map pTu)) (tLst tNil) [some v0, some (.str src), some (.str tgt), none, none, none, none, none, none] F H := ev_lst o mos_nil (ea_nil o) (Nat.zero_le _)
  have e2 : EvW W0 (Li ([([], src)].map eTu)) (tLst (tCons (tTup (tCons (tTup tNil) (tCons (tVar 1) tNil))) tNil)) [some v0, some (.str src), some (.str tgt), none, none, none, none, none, none] F H :=
    ev_lst o (mos_cons (eTu.mo _) mos_nil) (ea_cons o (eTu.mo _) (ev_tup o (mos_cons (pTu.mo []) (mos_cons (Is.mo _) mos_nil)) (ea_cons o (pTu.mo []) (ev_tup o mos_nil (ea_nil o) (Nat.zero_le _)) (ea_cons o (Is.mo _) (ev_var o (Is.mo _) rfl rfl) (ea_nil o))) (show 2 ≤ 100000 by decide)) (ea_nil o)) (show 1 ≤ 100000 by decide)
  refine q_par2S (fun a b => [some v0, some (.str src), some (.str tgt), some a, some b, none, none, none, none]) o (ea_cons o (Li.mo (mos_map pTu.mo _)) e1 (ea_cons o (Li.mo (mos_map eTu.mo _)) e2 (ea_nil o))) fun v3 v4 F1 H1 g1 r3 r4 => ?_
  have o1 := g1.ok o
  show t_psW K { nx := fun _ H' => Q .non H', rt := Q } [some v0, some (.str src), some (.str tgt), some v3, some v4, none, none, none, none] H1
  refine q_while (n := ts.length) o1 (fun i σ' G H' => ∃ v3 v4 x5 x6 x7 fs es, σ' = [some v0, some (.str src), some (.str tgt), some v3, some v4, x5, x6, x7, none] ∧ Li (fs.map pTu) v3 G ∧ Li (es.map eTu) v4 G ∧ Lev ts cs rk i es ∧ fs.length ≤ i * 4096 ∧ pathsL ts cs src tgt = fs ++ rounds cs tgt (ts.length - i) es)
    ⟨_, _, _, _, _, [], [([], src)], rfl, r3, r4, Lev.first hs, Nat.zero_le _, by rw [List.nil_append, Nat.sub_zero]; rfl⟩ fun i σ' G H' hi g iv => ?_
  obtain ⟨y3, y4, x5, x6, x7, fs, es, rfl, h3, h4, lv, hl, hP⟩ := iv
  have oG := g.ok o1
  have hDG := DatS.mo ts cs rs _ _ _ (g1.g.ff.trans g.g.ff) hD
  have pl : ∀ d ∈ es.map eD, Pln 3 d := fun d hd => by
    obtain ⟨e, hm, rfl⟩ := List.mem_map.mp hd
    obtain ⟨a1, a2, a3, a4⟩ := lv.at_ e hm
    exact pln_e (fun s hs' => by obtain ⟨c, hc, rfl⟩ := a4 s hs'; exact cok c hc) (ok _ a1)
  have pL := pln_list pl
  have hd4 : Da K (.list (es.map eD)) y4 G := Li.daM (fun a v F h => eTu.da h) h4
  have pN : Pln 4 (.list []) := pln_list (fun d hd => nomatch hd)
  have hT : ∀ b, (!PyData.eqv (.list (es.map eD)) (.list [])) = b → EvT W0 b (tTest (tOp (rNeD K) (tVar 4) (tLst tNil))) [some v0, some (.str src), some (.str tgt), some y3, some y4, x5, x6, x7, none] G H' := fun b hb =>
    et_val (ev_neD oG (ev_var oG (Da.mo K _) rfl hd4) ((ev_lst (Rs := []) oG mos_nil (ea_nil oG) (Nat.zero_le _)).imp fun v F' _ r => Li.da (ds := []) r) pL.nd pN.nd (pL.sh (by decide)) (pN.sh (by decide)) hb)
  cases es with
  | nil =>
    refine ⟨false, hT false (by rw [show (PyData.list ([].map eD)) = .list [] from rfl, eqv_nil]; rfl), (fun z => by cases z), fun _ G1 H2 g2 => ?_⟩
    have oo := g2.ok oG
    rw [rounds_nil, List.append_nil] at hP
    refine q_ret oo (ev_var oo (Li.mo (mos_map pTu.mo fs)) rfl (Li.mo (mos_map pTu.mo fs) _ _ _ g2.g.ff h3)) fun v F3 H3 g3 r => q v F3 H3 (((g1.trans o g).trans o g2).trans o g3) ?_
    show Li ((pathsL ts cs src tgt).map pTu) v F3
    rw [hP]
    exact r
  | cons e0 es0 =>
    have hlt : i < ts.length := by
      rcases Nat.lt_or_ge i ts.length with h | h
      · exact h
      · have ei : i = ts.length := by omega
        rw [ei] at lv
        have := lv.end_ hrn
        cases this
    refine ⟨true, hT true (by rw [show (PyData.list ((e0 :: es0).map eD)) = .list (eD e0 :: es0.map eD) from rfl, eqv_cons]; rfl), fun _ => ⟨hlt, fun N G1 H2 g2 k => ?_⟩, fun z => by cases z⟩
    have oo := g2.ok oG
    have s2 := g2.g.ff
    refine pure_psB (i := i) (rk := rk) hr he cl lv (fun e hm => by
      obtain ⟨_, _, a3, _⟩ := lv.at_ e hm
      omega) (by omega) oo (DatS.mo ts cs rs _ _ _ s2 hDG) (Li.mo (mos_map pTu.mo fs) _ _ _ s2 h3) (Li.mo (mos_map eTu.mo _) _ _ _ s2 h4) fun v3' v4' z5 z6 z7 F3 H3 g3 q3 q4 => ?_
    refine k _ F3 H3 g3 ⟨_, _, _, _, _, _, _, rfl, q3, q4, lv.next hr he, ?_, ?_⟩
    · have h1 := hits_len tgt (e0 :: es0)
      have h2 := lv.len
      rw [List.length_append]
      omega
    · rw [hP, List.append_assoc]
      have e : ts.length - i = (ts.length - (i + 1)) + 1 := by omega
      rw [e]
      rfl
end
end QW

set_option Elab.async false
set_option linter.all false
set_option maxRecDepth 100000
set_option maxHeartbeats 2000000
/-! QLd: _law_leads. -/
namespace QW
open PySem PySem.Spec PyProof.Rows L2 QR QSo
def nameIs (m : Str) : PyData → Bool
  | .str n => decide (m = n)
  | _ => false
def rowsOf (cs : List Cst) : PyData → List Cst
  | .str n => cs.filter fun c => decide (c.1 = n)
  | _ => []
theorem rowsOf_none {cs : List Cst} {d : PyData} (h : castOf cs d = none) : rowsOf cs d = [] := by
  cases d <;> first | rfl | skip
  rename_i n
  have h : castN cs n = none := h
  unfold castN at h
  rw [← List.head?_filter] at h
  show cs.filter _ = []
  cases e : cs.filter fun c => decide (c.1 = n) with
  | nil => rfl
  | cons a l => rw [e] at h; cases h
theorem rowsOf_some {cs : List Cst} {d : PyData} {p : Str × Str} (h : castOf cs d = some p) : ∃ n l, rowsOf cs d = (n, p) :: l := by
  obtain ⟨n, rfl, _⟩ := castOf_some h
  have h : castN cs n = some p := h
  unfold castN at h
  rw [← List.head?_filter] at h
  show ∃ n' l, (cs.filter fun c => decide (c.1 = n)) = (n', p) :: l
  cases e : cs.filter fun c => decide (c.1 = n) with
  | nil => rw [e] at h; cases h
  | cons a l => rw [e] at h; cases h; exact ⟨a.1, l, rfl⟩
structure LdA where
  ts : List Str
  cs : List Cst
  vs : List Ver
  cl : cs.length ≤ 20
  ok : ∀ s ∈ ts, PyData.strOk s = true
  cok : ∀ c ∈ cs, PyData.strOk c.1 = true ∧ PyData.strOk c.2.1 = true ∧ PyData.strOk c.2.2 = true
  one : Str
  other : Str
  d : PyData
def spLeads (K : PySem.W.Frag) : Sp := spW (fun _ : LdA => W0) (fun a => [DatS a.ts a.cs a.vs, Is (.str a.one), Is (.str a.other), Da K a.d]) fun a => Is (.bl (isPathD a.cs a.one a.other a.d))
theorem spLeads.len {K : PySem.W.Frag} : ∀ vs H Q E, spLeads K vs H Q E → vs.length = 4 := spW.len fun _ => rfl
abbrev t_row0 (K : PySem.W.Frag) (i : Int) : TE := tOp (rIxT K) (tOp (rIxL K) (tVar 6) (tC (.int 0))) (tC (.int i))
def t_ldX (K : PySem.W.Frag) : TE := tLc (iList K (tDGet (tVar 0) (tC (.str "casts")))) (gName 7) (tAnd (tB (tCB (rIsi K) (tCons (tVar 5) (tCons (tC (.ty "str")) tNil)))) (tTest (tOp rEq (tOp (rIxT K) (tVar 7) (tC (.int 0))) (tVar 5)))) (tVar 7) [7]
def t_ldB2 (K : PySem.W.Frag) : TS := tSeq (tIfS (tOr (tTest (tOp (rEqD K) (tVar 6) (tLst tNil))) (tTest (tOp rNe (t_row0 K 1) (tVar 4)))) (tRet (tC (.bl false))) tNext) (tAsg (t_row0 K 2) (gName 4))
def t_ldB (K : PySem.W.Frag) : TS := tSeq (tAsg (t_ldX K) (gName 6)) (t_ldB2 K)
def t_ldE (K : PySem.W.Frag) : TS := tSeq (tFor (iTup K (tVar 3)) (gName 5) (t_ldB K)) (tRet (tOp rEq (tVar 4) (tVar 2)))
def t_leads (K : PySem.W.Frag) : TS := tSeq (tIfS (tNot (tB (tCB (rIsi K) (tCons (tVar 3) (tCons (tC (.ty "tuple")) tNil))))) (tRet (tC (.bl false))) tNext) (tSeq (tAsg (tVar 1) (gName 4)) (t_ldE K))
abbrev cD (c : Cst) : PyData := .tuple [.str c.1, .str c.2.1, .str c.2.2]
theorem cTu.da {K : PySem.W.Frag} {c : Cst} {v : V} {F : Hp} (h : cTu c v F) : Da K (cD c) v F := by
  obtain ⟨l, vs, rfl, h1, h2⟩ := h
  obtain ⟨x, y, z, rfl, hx, hy, hz⟩ := three_args h2
  cases hx
  cases hy
  cases hz
  exact Tu.da (ds := [.str c.1, .str c.2.1, .str c.2.2]) ⟨l, _, rfl, h1, .cons (.str _) (.cons (.str _) (.cons (.str _) .nil))⟩
theorem pln_c {c : Cst} (h : PyData.strOk c.1 = true ∧ PyData.strOk c.2.1 = true ∧ PyData.strOk c.2.2 = true) : Pln 2 (cD c) := pln_tup fun d hd => by
  rcases List.mem_cons.mp hd with rfl | hd
  · exact pln_str h.1
  rcases List.mem_cons.mp hd with rfl | hd
  · exact pln_str h.2.1
  · rw [List.mem_singleton.mp hd]; exact pln_str h.2.2
section
variable {K : PySem.W.Frag}
theorem pure_leads {vs : List V} {H : Hp} {Q : VK} {E : XK} (h : spLeads K vs H Q E) : t_leads K { nx := fun _ H' => Q .non H', rt := Q } (L2.start ["s", "one", "other", "value", "here", "name", "ends", "row"] vs) H := by
  obtain ⟨⟨ts, cs, rs, cl, ok, cok, one, other, d⟩, F, o, al, q⟩ := h
  obtain ⟨v0, v1, v2, u, rfl, hD, hv1, hv2, hu⟩ := four_args al
  obtain rfl : v1 = .str one := hv1
  obtain rfl : v2 = .str other := hv2
  dsimp only at q hD hu
  have o : Ok W0 F H := o
  have cl : cs.length ≤ 20 := cl
  have cok : ∀ c ∈ cs, PyData.strOk c.1 = true ∧ PyData.strOk c.2.1 = true ∧ PyData.strOk c.2.2 = true := cok
  have hi : EvW W0 (Is (.bl (isTup d))) (tCB (rIsi K) (tCons (tVar 3) (tCons (tC (.ty "tuple")) tNil))) [some v0, some (.str one), some (.str other), some u, none, none, none, none] F H := ev_cb o (ea_cons o (Da.mo K d) (ev_var o (Da.mo K d) rfl hu) (ea_cons o (Is.mo _) (ev_c o fun _ => rfl) (ea_nil o))) (ca_isiD (kit_tup d))
  refine q_ifO (et_not (et_B hi) F H o.refl _ fun F1 H1 g1 => ?_)
  have o1 := g1.ok o
  cases ht : isTup d with
  | false =>
    refine q _ F1 H1 g1 ?_
    have e : isPathD cs one other d = false := by cases d <;> first | rfl | cases ht
    show V.bl false = .bl (isPathD cs one other d)
    rw [e]
  | true =>
    obtain ⟨ds, rfl⟩ : ∃ ds, d = .tuple ds := by cases d <;> first | exact ⟨_, rfl⟩ | cases ht
    have hD1 := DatS.mo ts cs rs _ _ _ g1.g.ff hD
    have hu1 := Da.mo K _ _ _ _ g1.g.ff hu
    have fin : ∀ G H', Gw W0 F H G H' → walkL cs one ds = none → Q (.bl false) H' := fun G H' g hw => q _ G H' g (by
      show V.bl false = .bl (isPathD cs one other (.tuple ds))
      have e : walkD cs one (.tuple ds) = none := by
        show (walkL cs one ds).map _ = none
        rw [hw]; rfl
      unfold isPathD
      rw [e])
    refine q_asg (i := 4) (te := tVar 1) (R := Is (.str one)) o1 (ev_var o1 (Is.mo _) rfl rfl) fun v4 F2 H2 g2 r4 => ?_
    obtain rfl : v4 = .str one := r4
    have o2 := g2.ok o1
    have gA := g1.trans o g2
    have hu2 := Da.mo K _ _ _ _ g2.g.ff hu1
    have hD2 := DatS.mo ts cs rs _ _ _ g2.g.ff hD1
    have md := mos_map (Da.mo K) ds
    have hj := ej_tup (K := K) (w0 := W0) (w := W0) (σ := [some v0, some (.str one), some (.str other), some u, some (.str one), none, none, none]) (tl := tVar 3) (Sub.refl _) o2 md ((ev_var (R := Da K (.tuple ds)) o2 (Da.mo K _) rfl hu2).imp fun y F' _ r => by
      cases r with
      | tup h1 h2 => exact ⟨_, _, rfl, h1, Al.of_das h2⟩)
    have hlen : (ds.map (Da K)).length = ds.length := List.length_map ..
    show t_ldE K _ [some v0, some (.str one), some (.str other), some u, some (.str one), none, none, none] H2
    refine q_forJ (Sub.refl _) o2 hj (fun i σ' G H' => ∃ x5 x6 ts', σ' = [some v0, some (.str one), some (.str other), some u, some (.str (endOf one ts')), x5, x6, none] ∧ walkL cs one (ds.take i) = some ts') (fun F' H' g => ⟨_, _, [], rfl, rfl⟩) (fun i x σ' G0 H0 G H' N hi g0 iv g3 hx k2 => ?_) fun σ' G H' g iv => ?_
    · obtain ⟨x5, x6, ts', rfl, w0⟩ := iv
      obtain ⟨R, hR, r⟩ := hx
      have hi' : i < ds.length := by rw [← hlen]; exact hi
      rw [List.getElem?_map, List.getElem?_eq_getElem hi'] at hR
      cases hR
      have o0 := g0.ok o2
      have oo := g3.ok o0
      have gG := (gA.trans o g0).trans o g3
      have hDG := DatS.mo ts cs rs _ _ _ (g0.g.ff.trans g3.g.ff) hD2
      have hsn := walkL_snoc (d := ds[i]) w0
      rw [← List.take_succ_eq_append_getElem hi'] at hsn
      have hc := ev_dat (i := 1) (k := "casts") (R := Li (cs.map cTu)) (ts := ts) (cs := cs) (vs := rs) (σ := [some v0, some (.str one), some (.str other), some u, some (.str (endOf one ts')), some x, x6, none]) (te := tVar 0) oo (ev_var (i := 0) oo (DatS.mo ts cs rs) rfl hDG) rfl rfl
      have hX : EvW W0 (Li ((rowsOf cs ds[i]).map cTu)) (t_ldX K) [some v0, some (.str one), some (.str other), some u, some (.str (endOf one ts')), some x, x6, none] G H' := by
        have e : rowsOf cs ds[i] = cs.filter fun c => isStr ds[i] && nameIs c.1 ds[i] := by
          cases hd : ds[i] <;> first | (exact (List.filter_eq_nil_iff.mpr (fun c _ => by simp [isStr])).symm) | skip
          rename_i n
          show cs.filter _ = cs.filter _
          refine List.filter_congr fun c _ => ?_
          show decide (c.1 = n) = (true && decide (c.1 = n))
          rw [Bool.true_and]
        rw [e]
        refine compN_list (K := K) (j := 7) (vs := [7]) (f := cTu) (gg := cTu) (p := fun c => isStr ds[i] && nameIs c.1 ds[i]) oo hc (fun _ => rfl) cTu.mo cTu.mo (by omega) (fun c z G1 H1 hC hz g5 => ?_) fun c z G1 H1 hC _ hz g5 => ev_var (g5.ok oo) (cTu.mo c) rfl hz
        have o5 := g5.ok oo
        have r5 := Da.mo K _ _ _ _ g5.g.ff r
        refine et_and o5 (et_B (ev_cb o5 (ea_cons o5 (Da.mo K _) (ev_var o5 (Da.mo K _) rfl r5) (ea_cons o5 (Is.mo _) (ev_c o5 fun _ => rfl) (ea_nil o5))) (ca_isiD (kit_str _)))) fun hs => ?_
        obtain ⟨n, hn⟩ : ∃ n, ds[i] = .str n := by
          cases hd : ds[i] <;> first | exact ⟨_, rfl⟩ | (rw [hd] at hs; cases hs)
        rw [hn] at r5 ⊢
        have hx5 : x = .str n := da_str r5
        have a1 := ev_op (ta := tOp (rIxT K) (tVar 7) (tC (.int 0))) (tb := tVar 5) (σ := [some v0, some (.str one), some (.str other), some u, some (.str (endOf one ts')), some x, x6, some z]) o5 (Is.mo _) (ev_op o5 (cTu.mo c) (ev_var o5 (cTu.mo c) rfl hz) (ev_c o5 fun _ => rfl) (ow_ixT (i := 0) (R := Is (.str c.1)) rfl)) (ev_var (R := Is (.str n)) o5 (Is.mo _) rfl hx5) (ow_eqS rfl)
        rw [dec_eqS] at a1
        exact et_val a1
      refine q_asg (i := 6) oo hX fun v6 G1 H1 g4 r6 => ?_
      have o4 := g4.ok oo
      have pL : Pln 3 (.list ((rowsOf cs ds[i]).map cD)) := pln_list fun d hd => by
        obtain ⟨c, hc, rfl⟩ := List.mem_map.mp hd
        refine pln_c (cok c ?_)
        cases hd : ds[i] <;> (rw [hd] at hc) <;> first | (exact (List.mem_filter.mp hc).1) | cases hc
      have pN : Pln 3 (.list []) := pln_list (fun d hd => nomatch hd)
      have d6 : Da K (.list ((rowsOf cs ds[i]).map cD)) v6 G1 := Li.daM (fun a v F h => cTu.da h) r6
      have hT : ∀ b, PyData.eqv (.list ((rowsOf cs ds[i]).map cD)) (.list []) = b → EvT W0 b (tTest (tOp (rEqD K) (tVar 6) (tLst tNil))) [some v0, some (.str one), some (.str other), some u, some (.str (endOf one ts')), some x, some v6, none] G1 H1 := fun b hb =>
        et_val (ev_eqD o4 (ev_var o4 (Da.mo K _) rfl d6) ((ev_lst (Rs := []) o4 mos_nil (ea_nil o4) (Nat.zero_le _)).imp fun v F' _ r => Li.da (ds := []) r) pL.nd pN.nd (pL.sh (by decide)) (pN.sh (by decide)) hb)
      show t_ldB2 K _ [some v0, some (.str one), some (.str other), some u, some (.str (endOf one ts')), some x, some v6, none] H1
      cases hcast : castOf cs ds[i] with
      | none =>
        rw [hcast] at hsn
        rw [rowsOf_none hcast] at hT
        refine q_ifO (et_or (b := false) o4 (hT true eqv_nil) (fun z => by cases z) G1 H1 o4.refl _ fun G2 H2 g5 => ?_)
        · refine fin G2 H2 ((gG.trans o g4).trans o g5) ?_
          have := walkL_none (bs := ds.drop (i + 1)) hsn
          rw [List.take_append_drop] at this
          exact this
      | some p =>
        obtain ⟨a, b⟩ := p
        obtain ⟨n, l, hrow⟩ := rowsOf_some hcast
        rw [hcast] at hsn
        rw [hrow] at hT r6
        dsimp only at hsn
        have ix : ∀ {j : Nat} {R : Pr} {G2 H2}, Gw W0 G1 H1 G2 H2 → [Is (V.str n), Is (.str a), Is (.str b)][j]? = some R → EvW W0 R (t_row0 K j) [some v0, some (.str one), some (.str other), some u, some (.str (endOf one ts')), some x, some v6, none] G2 H2 := fun {j R G2 H2} g h => by
          have oz := g.ok o4
          exact ev_op oz (cTu.mo (n, a, b)) (ev_op oz (Li.mo (mos_map cTu.mo _)) (ev_var oz (Li.mo (mos_map cTu.mo _)) rfl (Li.mo (mos_map cTu.mo _) _ _ _ g.g.ff r6)) (ev_c (v := .int 0) oz fun _ => rfl) (ow_ix (T := cTu (n, a, b)) fun xs hx => ⟨0, at_nat (i := 0) (n := xs.length) (by decide) (by rw [hx, List.length_map, List.length_cons]; show 0 < _; omega) rfl, rfl⟩)) (ev_c oz fun _ => rfl) (ow_ixT h)
        have hne := ev_op (ta := t_row0 K 1) (tb := tVar 4) (σ := [some v0, some (.str one), some (.str other), some u, some (.str (endOf one ts')), some x, some v6, none]) o4 (Is.mo _) (ix (j := 1) (R := Is (.str a)) o4.refl rfl) (ev_var (R := Is (.str (endOf one ts'))) o4 (Is.mo _) rfl rfl) (ow_neS (a := a) (b := endOf one ts'))
        rw [dec_str] at hne
        refine q_ifO (et_or o4 (hT false eqv_cons) (fun _ => et_val hne) G1 H1 o4.refl _ fun G2 H2 g5 => ?_)
        by_cases ha : a = endOf one ts'
        · rw [if_pos ha] at hsn
          have hb : (false || !decide (a = endOf one ts')) = false := by rw [decide_eq_true ha]; rfl
          rw [hb, if_neg (by decide)]
          have o5 := g5.ok o4
          refine s_asg (i := 4) (te := t_row0 K 2) o5 (ix (j := 2) (R := Is (.str b)) g5 rfl) fun v4 G3 H3 g6 r4 => ?_
          obtain rfl : v4 = .str b := r4
          refine k2 _ G3 H3 ((g4.trans oo g5).trans oo g6) ⟨some x, some v6, ts' ++ [b], ?_, hsn⟩
          have e : endOf one (ts' ++ [b]) = b := by
            unfold endOf
            have h : ∀ (l : List Str) (h : l ++ [b] ≠ []), (l ++ [b]).getLast h = b := fun l h => by simp
            exact h (one :: ts') _
          rw [e]
          rfl
        · rw [if_neg ha] at hsn
          have hb : (false || !decide (a = endOf one ts')) = true := by rw [decide_eq_false ha]; rfl
          rw [hb, if_pos rfl]
          refine fin G2 H2 ((gG.trans o g4).trans o g5) ?_
          have := walkL_none (bs := ds.drop (i + 1)) hsn
          rw [List.take_append_drop] at this
          exact this
    · obtain ⟨x5, x6, ts', rfl, w0⟩ := iv
      rw [hlen, List.take_length] at w0
      have o3 := g.ok o2
      have hw : walkD cs one (.tuple ds) = some (one :: ts') := by
        show (walkL cs one ds).map _ = _
        rw [w0]; rfl
      obtain ⟨us, hus, hp⟩ := isPathD_some (t := other) hw
      cases hus
      have a1 := ev_op (ta := tVar 4) (tb := tVar 2) (σ := [some v0, some (.str one), some (.str other), some u, some (.str (endOf one ts')), x5, x6, none]) o3 (Is.mo _) (ev_var (R := Is (.str (endOf one ts'))) o3 (Is.mo _) rfl rfl) (ev_var (R := Is (.str other)) o3 (Is.mo _) rfl rfl) (ow_eqS rfl)
      rw [dec_eqS] at a1
      refine q_ret o3 a1 fun v G3 H3 g6 r => q v G3 H3 ((gA.trans o g).trans o g6) ?_
      show v = .bl (isPathD cs one other (.tuple ds))
      rw [hp]
      exact r
end
end QW

set_option Elab.async false
set_option linter.all false
set_option maxRecDepth 100000
set_option maxHeartbeats 1000000
/-! QRev: t[::-1], t a tuple; repr of any data. -/
namespace QK
open PySem PySem.Spec PyProof.Rows L2
section
variable {prog : Program} {w : World} {A : Around} {E : Value → Shared → Prop} {s : Shared}
theorem sliceApplied_rev {sl : Addr} {vl vu vs : Value} {n : Nat} {Q : Int × Int × Nat → Shared → Prop} (hs : s.heap.IsSliceOf sl vl vu vs) (pl : IsPart vl none) (pu : IsPart vu none) (ps : IsPart vs (some (-1)))
    (h : Q ((n : Int) - 1, -1, n) s) : wpAny (model prog w) A (Builtin.Slice.sliceApplied (.ref sl) (pure (n : Int))) Q E s := by
  obtain ⟨os, hos, hcs, hds⟩ := id hs
  unfold Builtin.Slice.sliceApplied Builtin.Slice.sliceFields
  refine wpAny_bind (wpAny_bind (wpAny_field hos hds (x := vl) rfl (wpAny_bind (wpAny_field hos hds (x := vu) rfl (wpAny_bind (wpAny_field hos hds (x := vs) rfl (wpAny_pure ?_)))))))
  refine wpAny_bind (HT.slicePart_ ps ?_)
  show wpAny _ _ (if ((-1 : Int) == 0) = true then _ else _) _ _ s
  rw [if_neg (by decide)]
  refine wpAny_bind (HT.slicePart_ pl (wpAny_bind (HT.slicePart_ pu (wpAny_bind (wpAny_pure ?_)))))
  show wpAny _ _ (pure ((n : Int) - 1, (-1 : Int), Builtin.Slice.slicePlaces ((n : Int) - 1) (-1) (-1))) _ _ s
  have e : Builtin.Slice.slicePlaces ((n : Int) - 1) (-1) (-1) = n := by
    unfold Builtin.Slice.slicePlaces
    rw [if_neg (by decide)]
    by_cases h : (n : Int) - 1 > -1
    · rw [if_pos h, show (-(-1) : Int) = 1 by decide, Int.ediv_one]
      omega
    · rw [if_neg h]
      omega
  rw [e]
  exact wpAny_pure h
theorem fm_congr {α β : Type} {f g : α → Option β} : ∀ {l : List α}, (∀ k ∈ l, f k = g k) → l.filterMap f = l.filterMap g
  | [], _ => rfl
  | a :: l, h => by
    rw [List.filterMap_cons, List.filterMap_cons, h a List.mem_cons_self, fm_congr fun k hk => h k (List.mem_cons_of_mem _ hk)]
theorem pick_rev (xs : Array Value) : ((List.range xs.size).filterMap fun (k : Nat) => xs[(((xs.size : Int) - 1) + (k : Int) * (-1)).toNat]?).toArray = xs.toList.reverse.toArray := by
  have e : (List.range xs.size).filterMap (fun (k : Nat) => xs[(((xs.size : Int) - 1) + (k : Int) * (-1)).toNat]?) = ((List.range xs.size).map fun k => xs.size - 1 - k).filterMap (xs[·]?) := by
    rw [List.filterMap_map]
    refine fm_congr fun k hk => ?_
    have := List.mem_range.mp hk
    have e2 : (((xs.size : Int) - 1) + (k : Int) * (-1)).toNat = xs.size - 1 - k := by omega
    rw [e2]
    rfl
  rw [e, PySem.W.krv_range, List.filterMap_reverse, PySem.W.krv_all]
theorem getItem_tuple_rev {t sl : Addr} {items : Array Value} {vl vu vs : Value} {Q : Value → Shared → Prop} (ht : IsTup s.heap t items) (hs : s.heap.IsSliceOf sl vl vu vs) (pl : IsPart vl none) (pu : IsPart vu none) (ps : IsPart vs (some (-1)))
    (h : Q (.ref s.heap.objs.size) { s with heap := s.heap.push { cls := .type "tuple", data := .seq items.toList.reverse.toArray } })
    (hsz : items.size ≤ sizeLine) : wpAny (model prog w) A (getItem (.ref t) (.ref sl)) Q E s := by
  have htake : sizeOk (.seq items.toList.reverse.toArray) := by
    show items.toList.reverse.toArray.size ≤ sizeLine
    rw [List.size_toArray, List.length_reverse, Array.length_toList]
    exact hsz
  obtain ⟨os, hos, hcs, hds⟩ := id hs
  have hTs : s.TypeIs (.ref sl) "slice" := ⟨os, hos, hcs⟩
  unfold getItem
  try with_reducible refine wpAny_holding ?_
  first | refine wpAny_bind (wpAny_pure ?_) | skip
  refine wpAny_bind (wpAny_sequenceKey ht.typeIs (by decide) ?_)
  refine wpAny_bind (wpAny_callSpecial?_slot (name := Str.ofString "__getitem__") ht.typeIs PyProof.Rows.slot_tuple_getitem
    (wpAny_call_entry PyProof.Rows.slot_tuple_getitem ht.typeIs entry_tuple_getitem ?_ (args_tuple_getitem _ _)))
  show wpAny _ _ (Builtin.Tuple.tupleItemsOf (.ref t) >>= _) _ _ s
  refine wpAny_bind (tupleItemsOf_ ht ?_)
  refine wpAny_bind (wpAny_typeOf hTs ?_)
  rw [if_pos (by decide)]
  refine wpAny_bind (sliceApplied_rev hs pl pu ps ?_)
  have hno : ¬ ((((items.size : Int) - 1) == 0 && (-1 : Int) == 1 && items.size == items.size) = true) := by
    intro q
    rw [Bool.and_eq_true, Bool.and_eq_true] at q
    exact absurd q.1.2 (by decide)
  show wpAny _ _ (if (((items.size : Int) - 1) == 0 && (-1 : Int) == 1 && items.size == items.size) = true then _ else _) _ _ s
  rw [if_neg hno, pick_rev]
  first
    | exact wpAny_bind (m := Builtin.Tuple.tupleExact _) (wpAny_newObj_type (wpAny_pure ⟨_, rfl, wpAny_pure h⟩) htake)
    | exact wpAny_bind (m := Builtin.Tuple.tupleExact _) (wpAny_newObj_type (wpAny_bind (wpAny_pure (wpAny_pure ⟨_, rfl, wpAny_pure h⟩))) htake)
    | exact wpAny_bind (wpAny_bind (m := Builtin.Tuple.tupleExact _) (wpAny_newObj_type (wpAny_pure (wpAny_pure ⟨_, rfl, wpAny_pure h⟩)) htake))
    | exact wpAny_bind (wpAny_bind (m := Builtin.Tuple.tupleExact _) (wpAny_newObj_type (wpAny_pure ⟨_, rfl, wpAny_pure h⟩) htake))
end
def tRevT (K : PySem.W.Frag) (te : TE) : TE := fun σ H Q => te σ H fun x H1 => ∃ a xs, x = .ref a ∧ SqT K H1 a xs ∧ ∀ p, H1 p = none → Q (.ref p) (upd H1 p (.tup xs.reverse))
theorem pe_revT {X : Cx} {K : PySem.W.Frag} {e : Expr} {te : TE} {k : Nat} {p1 p2 p3 pos : Pos} (hK : X.K = K) (he : PE X e te) : PE X (.Subscript e (.Slice none none (some (.UnaryOp .USub (.Constant (.int 1) k p1) p2)) p3) pos) (tRevT K te) := by
  subst hK
  refine ⟨fun pins s σ H Q I h => ?_⟩
  refine Subscript_ (thn (he.run pins s σ H _ I h) fun v s1 ⟨x, H1, I1, r1, q1⟩ => ?_)
  obtain ⟨a, xs, ex, hx, q⟩ := q1
  subst ex
  cases r1
  have hst : PO X (some (.UnaryOp .USub (.Constant (.int 1) k p1) p2)) (tPart (tUn (rU fun i => .int (-i)) (tC (.int 1)))) := po_some (pe_un un_neg pe_int)
  refine wpAny_Slice (thn (po_none.run pins s1 σ H1 (fun o H2 => o = none ∧ H2 = H1) I1 ⟨rfl, rfl⟩) fun vl s2 ⟨l, H2, I2, pl, el, e2⟩ => ?_)
  subst el e2
  refine thn (po_none.run pins s2 σ H2 (fun o H3 => o = none ∧ H3 = H2) I2 ⟨rfl, rfl⟩) fun vu s3 ⟨u, H3, I3, pu, eu, e3⟩ => ?_
  subst eu e3
  refine thn (hst.run pins s3 σ H3 (fun o H4 => o = some (-1) ∧ H4 = H3) I3 ⟨1, rfl, -1, rfl, rfl, rfl⟩) fun vs s4 ⟨o, H4, I4, ps, eo, e4⟩ => ?_
  subst eo e4
  have I5 : Inv X pins σ H4 { s4 with heap := s4.heap.push { cls := .type "slice", data := .fields #[vl, vu, vs] } } := I4.kept (t' := s4.toks) fun b ob q => Heap.get?_push_of_some _ q
  obtain ⟨its, r, ht, hz⟩ := I5.tuple hx
  have hlen := r.length
  show wpAny (model X.prog X.w) X.A (subscriptTail e (.Slice none none (some (.UnaryOp .USub (.Constant (.int 1) k p1) p2)) p3) (.ref a) (.ref s4.heap.objs.size)) (EP X pins σ Q) X.xe { s4 with heap := s4.heap.push { cls := .type "slice", data := .fields #[vl, vu, vs] } }
  refine tail_any (ops := [.ref a, .ref s4.heap.objs.size]) ht.typeIs (PyProof.Rows.slot_tuple_getitem.lookup) ?_ (by with_unfolding_all rfl)
  refine getItem_tuple_rev ht (Heap.IsSliceOf.new _ vl vu vs) pl pu ps ?_ (by rw [List.size_toArray]; omega)
  refine ⟨.ref _, _, I5.laid (t' := s4.toks) (o := .tup xs.reverse) (fun b ob q => Heap.get?_push_of_some _ q) (Nat.le_refl _) ?_, rfl, q _ (I5.hok.fresh (Nat.le_refl _))⟩
  exact ⟨by rw [List.length_reverse]; exact hz, _, r.reverse, IsTup.new _ _⟩
theorem sl_tupA {X : Cx} {K : PySem.W.Frag} (hK : X.K = K) : SlR X (rSlA K) := by subst hK; exact L2.sl_tupA
end QK
namespace QR
open PySem PySem.Spec PyProof.Rows L2
section
variable {X : Cx}
/-- repr of any data; ints below 10 ^ 30 -/
def reprI : PyData → Prop
  | .int i => i.natAbs.log2 < 1920
  | _ => True
def rReprA (K : PySem.W.Frag) : List V → Hp → VK → Prop := fun xs H Q => ∃ v d, xs = [v] ∧ Dv K H v d ∧ reprI d ∧ Shows d ∧ Q (.str d.shown) H
theorem call_reprA {k : Nat} (gd : X.A.guards = some []) (hr : Room k X.A) (hs : SysK X.K) : CallR X (.builtin "repr") (rReprA X.K) := by
  intro pins s σ H xs us Q I r h
  obtain ⟨v, d, rfl, dv, hi, S, q⟩ := h
  obtain ⟨u, rfl, ru⟩ : ∃ u, us = [u] ∧ RelV v u := by
    cases r with
    | cons r1 r2 =>
      cases r2
      exact ⟨_, rfl, r1⟩
  obtain ⟨as, rd, ns⟩ := Dv.reads I hs dv ru
  have hu : X.A.units + (d.depth + 1) < cLine := by have := hr.un; have := S.deep; omega
  have fin : ∀ (h' : Heap) (u : Tok) (tk : Nat), (∀ b o, s.heap.get? b = some o → h'.get? b = some o) → EP X pins σ Q (.str d.shown u) { s with heap := h', toks := tk } :=
    fun h' u tk k => ⟨.str d.shown, H, I.kept (t' := tk) k, ⟨u, rfl⟩, q⟩
  cases dv with
  | lst h1 h2 =>
    cases ru
    exact repr_of_reads' rd S.ok (fun _ => ns) gd hu (fun _ _ e => e) fin S.len
  | tup h1 h2 =>
    cases ru
    exact repr_of_reads' rd S.ok (fun _ => ns) gd hu (fun _ _ e => e) fin S.len
  | dic h1 h2 =>
    cases ru
    exact repr_of_reads' rd S.ok (fun _ => ns) gd hu (fun _ _ e => e) fin S.len
  | str x =>
    obtain ⟨t, rfl⟩ := ru
    have e := S.len
    simp only [PyData.shown] at e q
    exact PySem.P.repr_of_str ⟨.str _, H, I.tok _, ⟨_, rfl⟩, q⟩ e
  | int i =>
    obtain ⟨t, rfl⟩ := ru
    simp only [PyData.shown] at q
    exact PySem.P.repr_of_int hi ⟨.str _, H, I.tok _, ⟨_, rfl⟩, q⟩
  | bl b =>
    cases ru
    simp only [PyData.shown] at q
    exact PySem.P.repr_of_bool ⟨.str _, H, I.tok _, ⟨_, rfl⟩, q⟩
  | non =>
    cases ru
    simp only [PyData.shown] at q
    exact PySem.P.repr_of_none ⟨.str _, H, I.tok _, ⟨_, rfl⟩, q⟩
end
end QR
namespace QK
open PySem PySem.Spec PyProof.Rows L2
theorem call_reprA {X : Cx} {K : PySem.W.Frag} {k : Nat} (hK : X.K = K) (gd : X.A.guards = some []) (hr : Room k X.A) (hs : QR.SysK K) : CallR X (.builtin "repr") (QR.rReprA K) := by subst hK; exact QR.call_reprA gd hr hs
end QK

set_option Elab.async false
set_option linter.all false
set_option maxRecDepth 100000
set_option maxHeartbeats 2000000
/-! QOd: small data that laws pick at random: what can be shown; tuples of such. -/
namespace QW
open PySem PySem.Spec PyProof.Rows L2 QR QSo
/-- small data: its depth, its bulk -/
structure Sm (k n : Nat) (d : PyData) : Prop where
  s : d.showable = true
  dp : d.depth ≤ k
  l : d.leavesShort 40 = true
  b : d.bulk ≤ n
theorem Sm.up {k n k' n' : Nat} {d : PyData} (h : Sm k n d) (h1 : k ≤ k') (h2 : n ≤ n') : Sm k' n' d := ⟨h.s, Nat.le_trans h.dp h1, h.l, Nat.le_trans h.b h2⟩
theorem Sm.shows {k n : Nat} {d : PyData} (h : Sm k n d) (h1 : k ≤ 40) (h2 : n ≤ 100000) : Shows d := by
  refine ⟨h.s, Nat.le_trans h.dp h1, ?_⟩
  have e := PyData.shown_le_bulk 40 (by decide) d h.l
  have hs : sizeLine = 16777216 := by decide
  have := h.b
  omega
theorem sm_all {k n : Nat} : ∀ {ds : List PyData}, (∀ d ∈ ds, Sm k n d) → PyData.showableAll ds = true ∧ PyData.depthAll ds ≤ k ∧ PyData.leavesShortAll 40 ds = true ∧ PyData.bulkAll ds ≤ (n + 1) * ds.length
  | [], _ => ⟨by simp only [PyData.showableAll], by simp only [PyData.depthAll]; omega, by simp only [PyData.leavesShortAll], by simp only [PyData.bulkAll]; omega⟩
  | d :: ds, h => by
    obtain ⟨h1, h2, h3, h4⟩ := sm_all fun x hx => h x (List.mem_cons_of_mem _ hx)
    have q := h d List.mem_cons_self
    have b := q.b
    have e := q.dp
    refine ⟨by simp only [PyData.showableAll, q.s, h1, Bool.and_self], by simp only [PyData.depthAll]; omega, by simp only [PyData.leavesShortAll, q.l, h3, Bool.and_self], ?_⟩
    simp only [PyData.bulkAll, List.length_cons]
    rw [Nat.mul_add]
    omega
theorem sm_list {k n m : Nat} {ds : List PyData} (h : ∀ d ∈ ds, Sm k n d) (hm : ds.length ≤ m) : Sm (k + 1) ((n + 1) * m) (.list ds) := by
  obtain ⟨h1, h2, h3, h4⟩ := sm_all h
  have := Nat.mul_le_mul_left (n + 1) hm
  exact ⟨by simp only [PyData.showable, h1], by simp only [PyData.depth]; omega, by simp only [PyData.leavesShort, h3], by simp only [PyData.bulk]; omega⟩
theorem sm_tup {k n m : Nat} {ds : List PyData} (h : ∀ d ∈ ds, Sm k n d) (hm : ds.length ≤ m) : Sm (k + 1) ((n + 1) * m) (.tuple ds) := by
  obtain ⟨h1, h2, h3, h4⟩ := sm_all h
  have := Nat.mul_le_mul_left (n + 1) hm
  exact ⟨by simp only [PyData.showable, h1], by simp only [PyData.depth]; omega, by simp only [PyData.leavesShort, h3], by simp only [PyData.bulk]; omega⟩
theorem sm_str {s : Str} (h : isNmS s = true) : Sm 1 8 (.str s) := by
  have q := small_str h
  exact ⟨q.s, by simp only [PyData.depth]; omega, q.l, q.b⟩
theorem sm_small {d : PyData} (h : (d.showable && decide (d.depth ≤ 3) && d.leavesShort 40 && decide (d.bulk ≤ 200)) = true) : Sm 3 200 d := by
  rw [Bool.and_eq_true, Bool.and_eq_true, Bool.and_eq_true] at h
  exact ⟨h.1.1.1, of_decide_eq_true h.1.1.2, h.1.2, of_decide_eq_true h.2⟩
/-- any of the odd values -/
def OddD (d : PyData) : Prop := Shows d ∧ reprI d ∧ dLen d ≤ 10000
def OddV (K : PySem.W.Frag) : Pr := fun v F => ∃ d, OddD d ∧ Da K d v F
theorem OddV.mo (K : PySem.W.Frag) : Mo (OddV K) := fun _ _ _ e ⟨d, h, r⟩ => ⟨d, h, Da.mo K d _ _ _ e r⟩
theorem oddD {k n : Nat} {d : PyData} (h : Sm k n d) (h1 : k ≤ 40) (h2 : n ≤ 100000) (h3 : reprI d) (h4 : dLen d ≤ 10000) : OddD d := ⟨h.shows h1 h2, h3, h4⟩
/-- a tuple of small data | of texts -/
def TD (K : PySem.W.Frag) (m : Nat) : Pr := fun v F => ∃ ds : List PyData, ds.length ≤ m ∧ (∀ d ∈ ds, Sm 3 300 d) ∧ Tu (ds.map (Da K)) v F
def TP (m : Nat) : Pr := fun v F => ∃ p : List Str, p.length ≤ m ∧ (∀ s ∈ p, Sm 1 8 (.str s)) ∧ pTu p v F
def SomeS : Pr := fun v _ => ∃ s : Str, Sm 1 8 (.str s) ∧ v = .str s
theorem TD.mo (K : PySem.W.Frag) (m : Nat) : Mo (TD K m) := fun _ _ _ e ⟨ds, h1, h2, r⟩ => ⟨ds, h1, h2, Tu.mo (mos_map (Da.mo K) ds) _ _ _ e r⟩
theorem TP.mo (m : Nat) : Mo (TP m) := fun _ _ _ e ⟨p, h1, h2, r⟩ => ⟨p, h1, h2, pTu.mo p _ _ _ e r⟩
theorem SomeS.mo : Mo SomeS := fun _ _ _ _ h => h
section
variable {K : PySem.W.Frag} {v : V} {F : Hp} {m : Nat}
theorem TP.td (h : TP m v F) : TD K m v F := by
  obtain ⟨p, h1, h2, l, vs, rfl, e, al⟩ := h
  exact ⟨p.map .str, by rw [List.length_map]; exact h1, fun d hd => by
    obtain ⟨s, hs, rfl⟩ := List.mem_map.mp hd
    exact (h2 s hs).up (by decide) (by decide), l, vs, rfl, e, strs_das al⟩
theorem TD.odd (h : TD K m v F) (hm : m ≤ 100) : OddV K v F := by
  obtain ⟨ds, h1, h2, r⟩ := h
  refine ⟨.tuple ds, oddD (sm_tup h2 h1) (by decide) (by omega) trivial (by show ds.length ≤ 10000; omega), Tu.da r⟩
end
section
variable {K : PySem.W.Frag} {w : Wd} {σ : L2.St} {F H : Hp} {ta tb te tl : TE} {a b m : Nat}
theorem ev_tds (o : Ok w F H) (ha : EvW w (TD K a) ta σ F H) (hb : EvW w (TD K b) tb σ F H) (hz : a + b ≤ 1000) : EvW w (TD K (a + b)) (tOp (QK.rCatE K) ta tb) σ F H :=
  ev_op o (TD.mo K a) ha hb fun x y F H o rx ry Q q => by
    obtain ⟨ds, h1, h2, r1⟩ := rx
    obtain ⟨es, h3, h4, r2⟩ := ry
    exact ow_catE (w := w) (mos_map (Da.mo K) ds) (mos_map (Da.mo K) es) (by rw [List.length_map, List.length_map]; omega) x y F H o r1 r2 Q fun v F2 H2 g r => q v F2 H2 g ⟨ds ++ es, by rw [List.length_append]; omega, fun d hd => (List.mem_append.mp hd).elim (h2 d) (h4 d), by rw [List.map_append]; exact r⟩
theorem al_drop : ∀ (n : Nat) {Rs : List Pr} {vs : List V} {F : Hp}, Al Rs vs F → Al (Rs.drop n) (vs.drop n) F
  | 0, _, _, _, h => h
  | n + 1, _, _, _, .nil => .nil
  | n + 1, _, _, _, .cons _ r => al_drop n r
theorem al_take : ∀ (n : Nat) {Rs : List Pr} {vs : List V} {F : Hp}, Al Rs vs F → Al (Rs.take n) (vs.take n) F
  | 0, _, _, _, _ => .nil
  | n + 1, _, _, _, .nil => .nil
  | n + 1, _, _, _, .cons h r => .cons h (al_take n r)
theorem al_rev : ∀ {Rs : List Pr} {vs : List V} {F : Hp}, Al Rs vs F → Al Rs.reverse vs.reverse F
  | _, _, _, .nil => .nil
  | _, _, _, .cons h r => by
    rw [List.reverse_cons, List.reverse_cons]
    exact (al_rev r).append (.cons h .nil)
/-- the parts of a slice -/
def EvP (w : Wd) (t : TO) (σ : L2.St) (F H : Hp) : Prop := ∀ F1 H1, Gw w F H F1 H1 → ∀ Q : Option Int → Hp → Prop, (∀ i F2 H2, Gw w F1 H1 F2 H2 → Q i H2) → t σ H1 Q
theorem ep_no (o : Ok w F H) : EvP w tNoPart σ F H := fun F1 H1 g Q q => q none F1 H1 (g.ok o).refl
theorem ep_at {te : TE} (h : EvW w (fun v _ => ∃ i : Int, v = .int i) te σ F H) : EvP w (tPart te) σ F H := fun F1 H1 g Q q => h F1 H1 g _ fun v F2 H2 g2 ⟨i, e⟩ => ⟨i, e, q (some i) F2 H2 g2⟩
theorem ev_cut {t1 t2 : TO} (o : Ok w F H) (h : EvW w (TD K m) te σ F H) (h1 : EvP w t1 σ F H) (h2 : EvP w t2 σ F H) : EvW w (TD K m) (tSl (rSlA K) te t1 t2) σ F H := fun F1 H1 g Q q =>
  h F1 H1 g _ fun x F2 H2 g2 rx => h1 F2 H2 (g.trans o g2) _ fun i F3 H3 g3 => h2 F3 H3 ((g.trans o g2).trans o g3) _ fun j F4 H4 g4 => by
    have o1 := g.ok o
    have g24 := (g2.trans o1 g3).trans o1 g4
    have o4 := g24.ok o1
    have rx' := TD.mo K m _ _ _ (g3.g.ff.trans g4.g.ff) rx
    obtain ⟨ds, a1, a2, l, vs, rfl, e, al⟩ := rx'
    refine ⟨l, vs, rfl, .of (o4.s _ _ e), fun _ => q _ F4 H4 g24 ⟨ds, a1, a2, l, vs, rfl, e, al⟩, fun _ p hp => ?_⟩
    have nF := same_none o4.s hp
    refine q _ (upd F4 p (.tup (cutV vs i j))) _ (g24.new o1 hp) ⟨(ds.drop (HT.sIx vs.length 0 i)).take (HT.sIx vs.length vs.length j - HT.sIx vs.length 0 i), ?_, fun d hd => a2 d (List.mem_of_mem_drop (List.mem_of_mem_take hd)), p, _, rfl, upd_same, ?_⟩
    · rw [List.length_take, List.length_drop]
      omega
    · rw [List.map_take, List.map_drop]
      exact (al_take _ (al_drop _ al)).mono (same_upd nF) fun R hR => mos_map (Da.mo K) ds R (List.mem_of_mem_drop (List.mem_of_mem_take hR))
theorem ev_revT (o : Ok w F H) (h : EvW w (TD K m) te σ F H) : EvW w (TD K m) (QK.tRevT K te) σ F H := fun F1 H1 g Q q =>
  h F1 H1 g _ fun x F2 H2 g2 rx => by
    have o1 := g.ok o
    have o2 := g2.ok o1
    obtain ⟨ds, a1, a2, l, vs, rfl, e, al⟩ := rx
    refine ⟨l, vs, rfl, .of (o2.s _ _ e), fun p hp => ?_⟩
    have nF := same_none o2.s hp
    refine q _ (upd F2 p (.tup vs.reverse)) _ (g2.new o1 hp) ⟨ds.reverse, by rw [List.length_reverse]; exact a1, fun d hd => a2 d (List.mem_reverse.mp hd), p, _, rfl, upd_same, ?_⟩
    rw [List.map_reverse]
    exact (al_rev al).mono (same_upd nF) fun R hR => mos_map (Da.mo K) ds R (List.mem_reverse.mp hR)
theorem ev_tup1 {d : PyData → Prop} {R : Pr} (mR : Mo R) (hd : ∀ v F, R v F → ∃ d, Sm 3 300 d ∧ Da K d v F) (o : Ok w F H) (h : EvW w R te σ F H) : EvW w (TD K 1) (tTup (tCons te tNil)) σ F H :=
  (ev_tup o (mos_cons mR mos_nil) (ea_cons o mR h (ea_nil o)) (show 1 ≤ 100000 by decide)).imp fun v F' _ ⟨l, vs, e, e1, al⟩ => by
    obtain ⟨x, rfl, hx⟩ := one_arg al
    obtain ⟨d, hs, hd'⟩ := hd _ _ hx
    exact ⟨[d], Nat.le_refl _, fun y hy => by rw [List.mem_singleton.mp hy]; exact hs, l, _, e, e1, .cons hd' .nil⟩
theorem ev_tup0 (o : Ok w F H) : EvW w (TD K 0) (tTup tNil) σ F H := (ev_tup o mos_nil (ea_nil o) (Nat.zero_le _)).imp fun v F' _ r => ⟨[], Nat.le_refl _, fun d hd => (nomatch hd), r⟩
theorem EvW.oddT (h : EvW w (TD K m) te σ F H) (hm : m ≤ 100) : EvW w (OddV K) te σ F H := h.imp fun v F' _ r => r.odd hm
/-- list(t), tuple(l) -/
theorem ev_listT (o : Ok w F H) (h : EvW w (TD K m) te σ F H) (hm : m ≤ 100) : EvW w (OddV K) (tCB (fun xs H Q => ∃ p ys, xs = [.ref p] ∧ (SqL K H p ys ∨ SqT K H p ys) ∧ ∀ l, H l = none → Q (.ref l) (upd H l (.lst ys))) (tCons te tNil)) σ F H := fun F1 H1 g Q q =>
  h F1 H1 g _ fun x F2 H2 g2 rx => by
    have o1 := g.ok o
    have o2 := g2.ok o1
    obtain ⟨ds, a1, a2, l, vs, rfl, e, al⟩ := rx
    refine ⟨l, vs, rfl, .inr (.of (o2.s _ _ e)), fun p hp => ?_⟩
    have nF := same_none o2.s hp
    exact q _ (upd F2 p (.lst vs)) _ (g2.new o1 hp) ⟨.list ds, oddD (sm_list a2 a1) (by decide) (by omega) trivial (Nat.zero_le _), Li.da ⟨p, vs, rfl, upd_same, al.mono (same_upd nF) (mos_map (Da.mo K) ds)⟩⟩
theorem ev_tupL {ts : List Str} (o : Ok w F H) (hs : ∀ s ∈ ts, Sm 1 8 (.str s)) (hm : ts.length ≤ 100) (h : EvW w (Txts ts) te σ F H) : EvW w (OddV K) (tCB (iTup1 K) (tCons te tNil)) σ F H := fun F1 H1 g Q q =>
  h F1 H1 g _ fun x F2 H2 g2 rx => by
    have o1 := g.ok o
    have o2 := g2.ok o1
    obtain ⟨l, vs, rfl, e, al⟩ := rx
    refine ⟨l, vs, rfl, .inl ⟨.of (o2.s _ _ e), fun p hp => ?_⟩⟩
    have nF := same_none o2.s hp
    exact q _ (upd F2 p (.tup vs)) _ (g2.new o1 hp) (TD.odd (m := 100) (TP.td ⟨ts, hm, hs, p, vs, rfl, upd_same, al.mono (same_upd nF) (mos_map (f := fun y : Str => Is (.str y)) (fun _ => Is.mo _) ts)⟩) (Nat.le_refl _))
theorem ev_dispS {i : Nat} {s : Str} (hs : Sm 1 8 (.str s)) (o : Ok w F H) (hi : σ[i]? = some (some (.str s))) : EvW w (OddV K) (tDisp [(tVar i, tVar i)]) σ F H := fun F1 H1 g Q q => by
  have o1 := g.ok o
  intro p hp
  refine ⟨_, hi, _, hi, upd_same, [((Sum.inr s : Key), .str s)], rfl, (show 1 ≤ 15 by decide), ?_⟩
  have nF := same_none o1.s hp
  have g2 := (((o1.refl.temp (u := .dK []) hp).mutN (m := p) (u := .dK (mergeK [] [((Sum.inr s : Key), V.str s)])) o1 hp nF)).keepL hp nF upd_same
  refine q _ _ _ g2 ⟨.dict [(.str s, .str s)], oddD (k := 3) (n := 100) ⟨?_, ?_, ?_, ?_⟩ (by decide) (by decide) trivial (Nat.zero_le _), .dic (kvs := [((Sum.inr s : Key), .str s)]) upd_same (.cons (.str s) .nil)⟩
  · have := hs.s
    simp only [PyData.showable, PyData.showableKv] at this ⊢
    simp [this]
  · simp [PyData.depth, PyData.depthKv]
  · have := hs.l
    simp only [PyData.leavesShort, PyData.leavesShortKv] at this ⊢
    simp [this]
  · have := hs.b
    simp only [PyData.bulk, PyData.bulkKv] at this ⊢
    omega
theorem ev_oddC {v : V} {d : PyData} (o : Ok w F H) (hd : OddD d) (hv : ∀ F, Da K d v F) : EvW w (OddV K) (tC v) σ F H := ev_c o fun F => ⟨d, hd, hv F⟩
end
end QW

set_option Elab.async false
set_option linter.all false
set_option maxRecDepth 100000
set_option maxHeartbeats 2000000
/-! QOd2: _law_odd (k22). -/
namespace QW
open PySem PySem.Spec PyProof.Rows L2 QR QSo
structure OdA where
  p : Addr
  ts : List Str
  cs : List Cst
  vs : List Ver
  t0 : 1 ≤ ts.length
  tl : ts.length ≤ 10
  cl : cs.length ≤ 20
  tm : ∀ s ∈ ts, isNmS s = true
  cm : ∀ c ∈ cs, isNmS c.1 = true
def spOddP (K : PySem.W.Frag) : Sp := spW (fun a : OdA => Wp a.p) (fun a => [Is (.ref a.p), DatS a.ts a.cs a.vs, TP 12]) fun _ => OddV K
theorem spOddP.len {K : PySem.W.Frag} : ∀ vs H Q E, spOddP K vs H Q E → vs.length = 3 := spW.len fun _ => rfl
abbrev slTo (K : PySem.W.Frag) : TE := tSl (rSlA K) (tVar 2) tNoPart (tPart (tVar 5))
abbrev slFr (K : PySem.W.Frag) : TE := tSl (rSlA K) (tVar 2) (tPart (tVar 5)) tNoPart
abbrev slFr1 (K : PySem.W.Frag) : TE := tSl (rSlA K) (tVar 2) (tPart (tOp oAdd (tVar 5) (tC (.int 1)))) tNoPart
abbrev slLast (K : PySem.W.Frag) : TE := tSl (rSlA K) (tVar 2) (tPart tNeg1) tNoPart
abbrev cE (K : PySem.W.Frag) (a b : TE) : TE := tOp (QK.rCatE K) a b
abbrev tup1 (t : TE) : TE := tTup (tCons t tNil)
abbrev tList (K : PySem.W.Frag) (t : TE) : TE := tCB (fun xs H Q => ∃ p ys, xs = [.ref p] ∧ (SqL K H p ys ∨ SqT K H p ys) ∧ ∀ l, H l = none → Q (.ref l) (upd H l (.lst ys))) (tCons t tNil)
def odL1 (K : PySem.W.Frag) : TA := tCons (cE K (cE K (slTo K) (tup1 (tVar 6))) (slFr K)) (tCons (cE K (slTo K) (slFr1 K)) (tCons (cE K (tVar 2) (slLast K)) (tCons (QK.tRevT K (tVar 2)) (tCons (tList K (tVar 2)) (tCons (tTup tNil) tNil)))))
def odL2 (K : PySem.W.Frag) : TA := tCons (cE K (cE K (slTo K) (tup1 (tC .non))) (slFr1 K)) (tCons (tup1 (tVar 6)) (tCons (tVar 6) (tCons (tC .non) (tCons (tC (.int 0)) (tCons (tC (.bl true)) (tCons (tC (.str "")) (tCons (tLst tNil) (tCons tDNewK (tCons (tup1 (tVar 2)) (tCons (tup1 (tC (.int 0))) (tCons (tup1 (tLst tNil)) tNil)))))))))))
def odL3 (K : PySem.W.Frag) : TA := tCons (tup1 (tC (.str "Z"))) (tCons (cE K (tVar 2) (tup1 (tC (.str "")))) (tCons (tCB (iTup1 K) (tCons (tVar 3) tNil)) (tCons (tDisp [(tVar 6, tVar 6)]) (tCons (tup1 (tTup tNil)) tNil))))
def t_odE (K : PySem.W.Frag) : TS := tSeq (tAsg (tOp rCat (tVar 7) (tLst (odL2 K))) (gName 7)) (tRet (tCall spChoice [] E0 (tCons (tVar 0) (tCons (tOp rCat (tVar 7) (tLst (odL3 K))) tNil))))
def t_odD (K : PySem.W.Frag) : TS := tSeq (tPar 5 6 (tCons (tCall spDraw [] E0 (tCons (tVar 0) (tCons (tOp oAdd (tCB (iLen K) (tCons (tVar 2) tNil)) (tC (.int 1))) tNil))) (tCons (tCall spChoice [] E0 (tCons (tVar 0) (tCons (tVar 3) tNil))) tNil)))
  (tSeq (tAsg (tLst (odL1 K)) (gName 7)) (t_odE K))
def t_od (K : PySem.W.Frag) : TS := tSeq (tAsg (tOp rCat (tLc (iList K (tDGet (tVar 1) (tC (.str "casts")))) (gName 4) tYes (tOp (rIxT K) (tVar 4) (tC (.int 0))) [4]) (tDGet (tVar 1) (tC (.str "types")))) (gName 3)) (t_odD K)
section
variable {K : PySem.W.Frag} {w : Wd} {σ : L2.St} {F H : Hp} {p : Addr}
theorem ev_someS {i : Nat} {R : Pr} (o : Ok w F H) : True := trivial
/-- a choice of some list's elements, all alike -/
theorem ev_choiceA {Rs : List Pr} {R : Pr} {te : TE} {E : XK} (m : ∀ R ∈ Rs, Mo R) (h0 : 0 < Rs.length) (h1 : Rs.length < 1000000) (hR : ∀ S ∈ Rs, ∀ v F, S v F → R v F) (o : Ok (Wp p) F H) (hp : σ[0]? = some (some (.ref p))) (h : EvW (Wp p) (Li Rs) te σ F H) :
    EvW (Wp p) R (tCall spChoice [] E (tCons (tVar 0) (tCons te tNil))) σ F H :=
  (ev_call (wf := fun a : ChA => Wp a.p) (A := fun a => [Is (.ref a.p), Li a.Rs]) (Rf := fun a => Some_ a.Rs) ⟨p, Rs, m, h0, h1⟩ o (ea_cons o (Is.mo _) (ev_var o (Is.mo _) hp rfl) (ea_cons o (Li.mo m) h (ea_nil o)))).imp fun v F' _ ⟨S, hS, r⟩ => hR S hS v F' r
theorem reps_mo (n : Nat) : ∀ R ∈ List.replicate n (OddV K), Mo R := fun R hR => by rw [List.eq_of_mem_replicate hR]; exact OddV.mo K
theorem pure_od {vs : List V} {H : Hp} {Q : VK} {E : XK} (h : spOddP K vs H Q E) : t_od K { nx := fun _ H' => Q .non H', rt := Q } (L2.start ["pot", "s", "path", "names", "row", "at", "some", "odd"] vs) H := by
  obtain ⟨⟨p, ts, cs, rs, t0, tl, cl, tm, cm⟩, F, o, al, q⟩ := h
  obtain ⟨v0, v1, v2, rfl, hv0, hD, hP⟩ := three_args al
  obtain rfl : v0 = .ref p := hv0
  dsimp only at q hD
  have o : Ok (Wp p) F H := o
  have t0 : 1 ≤ ts.length := t0
  have tl : ts.length ≤ 10 := tl
  have cl : cs.length ≤ 20 := cl
  have tm : ∀ s ∈ ts, isNmS s = true := tm
  have cm : ∀ c ∈ cs, isNmS c.1 = true := cm
  have mD := DatS.mo ts cs rs
  have mS := fun (l : List Str) => mos_map (f := fun y : Str => Is (.str y)) (fun _ => Is.mo _) l
  have hc := ev_dat (i := 1) (k := "casts") (R := Li (cs.map cTu)) (ts := ts) (cs := cs) (vs := rs) (σ := [some (.ref p), some v1, some v2, none, none, none, none, none]) (te := tVar 1) o (ev_var o mD rfl hD) rfl rfl
  have hm := mapN_list (K := K) (te := tOp (rIxT K) (tVar 4) (tC (.int 0))) (vs := [4]) (j := 4) (f := cTu) (gg := fun c : Cst => Is (.str c.1)) o hc (fun _ => rfl) cTu.mo (fun _ => Is.mo _) (by omega) fun c x G H' hC hx g => by
    have oG := g.ok o
    exact ev_op oG (cTu.mo c) (ev_var oG (cTu.mo c) rfl hx) (ev_c oG fun _ => rfl) (ow_ixT (i := 0) (R := Is (.str c.1)) rfl)
  have hn : EvW (Wp p) (Txts (cs.map (·.1) ++ ts)) (tOp rCat (tLc (iList K (tDGet (tVar 1) (tC (.str "casts")))) (gName 4) tYes (tOp (rIxT K) (tVar 4) (tC (.int 0))) [4]) (tDGet (tVar 1) (tC (.str "types")))) [some (.ref p), some v1, some v2, none, none, none, none, none] F H := by
    unfold Txts
    rw [List.map_append, List.map_map]
    exact ev_op o (Li.mo (mos_map (f := fun c : Cst => Is (.str c.1)) (fun _ => Is.mo _) cs)) hm (ev_dat (i := 0) (k := "types") (R := Txts ts) (ts := ts) (cs := cs) (vs := rs) o (ev_var o mD rfl hD) rfl rfl) (ow_cat (mos_map (f := fun c : Cst => Is (.str c.1)) (fun _ => Is.mo _) cs) (mS ts) (by rw [List.length_map, List.length_map]; omega))
  have hnm : ∀ s ∈ cs.map (·.1) ++ ts, isNmS s = true := fun s hs => by
    rcases List.mem_append.mp hs with hs | hs
    · obtain ⟨c, hc, rfl⟩ := List.mem_map.mp hs
      exact cm c hc
    · exact tm s hs
  have hnl : (cs.map (·.1) ++ ts).length ≤ 30 := by rw [List.length_append, List.length_map]; omega
  have hn0 : 0 < (cs.map (·.1) ++ ts).length := by rw [List.length_append]; omega
  refine q_asg o hn fun v3 F1 H1 g1 r3 => ?_
  have o1 := g1.ok o
  have hP1 := TP.mo 12 _ _ _ g1.g.ff hP
  generalize cs.map (·.1) ++ ts = ns at r3 hnm hnl hn0
  show t_odD K _ [some (.ref p), some v1, some v2, some v3, none, none, none, none] H1
  obtain ⟨pp, hp1, hp2, hpT⟩ := id hP1
  have hlen : EvW (Wp p) (Is (.int (pp.length : Nat))) (tCB (iLen K) (tCons (tVar 2) tNil)) [some (.ref p), some v1, some v2, some v3, none, none, none, none] F1 H1 := by
    have := ev_cb o1 (ea_cons o1 (pTu.mo pp) (ev_var (i := 2) (σ := [some (.ref p), some v1, some v2, some v3, none, none, none, none]) o1 (pTu.mo pp) rfl hpT) (ea_nil o1)) (ca_lenTu (K := K))
    rw [List.length_map] at this
    exact this
  have hdr := ev_draw (n := ((pp.length : Nat) : Int) + 1) (E := E0) (i := 0) o1 rfl (by omega) (by omega) (ev_op o1 (Is.mo _) hlen (ev_c (v := .int 1) o1 fun _ => rfl) (ow_int (g := fun i j => V.int (i + j))))
  have hch := ev_choiceA (E := E0) (te := tVar 3) (σ := [some (.ref p), some v1, some v2, some v3, none, none, none, none]) (Rs := ns.map fun y : Str => Is (.str y)) (R := SomeS) (mS ns) (by rw [List.length_map]; exact hn0) (by rw [List.length_map]; omega) (fun S hS v F r => by
    obtain ⟨s, hs, rfl⟩ := List.mem_map.mp hS
    exact ⟨s, sm_str (hnm s hs), r⟩) o1 rfl (ev_var o1 (Txts.mo ns) rfl r3)
  refine q_par2S (fun a b => [some (.ref p), some v1, some v2, some v3, none, some a, some b, none]) o1 (ea_cons o1 Dr.mo hdr (ea_cons o1 SomeS.mo hch (ea_nil o1))) fun a b F2 H2 g2 ra rb => ?_
  have o2 := g2.ok o1
  obtain ⟨at_, rfl, _, _⟩ := ra
  obtain ⟨s, hs, rfl⟩ := rb
  have hP2 := TP.mo 12 _ _ _ g2.g.ff hP1
  have r32 := Txts.mo ns _ _ _ g2.g.ff r3
  -- parts, wherever
  have P : ∀ {x7 : Option V} {G H'}, Gw (Wp p) F2 H2 G H' → EvW (Wp p) (TD K 12) (tVar 2) [some (.ref p), some v1, some v2, some v3, none, some (.int at_), some (.str s), x7] G H' := fun {x7 G H'} g => (ev_var (g.ok o2) (TP.mo 12) rfl (TP.mo 12 _ _ _ g.g.ff hP2)).imp fun v F' _ r => r.td
  have At : ∀ {x7 : Option V} {G H'}, Gw (Wp p) F2 H2 G H' → EvP (Wp p) (tPart (tVar 5)) [some (.ref p), some v1, some v2, some v3, none, some (.int at_), some (.str s), x7] G H' := fun {x7 G H'} g => ep_at ((ev_var (R := Is (.int at_)) (g.ok o2) (Is.mo _) rfl rfl).imp fun v F' _ r => ⟨_, r⟩)
  have At1 : ∀ {x7 : Option V} {G H'}, Gw (Wp p) F2 H2 G H' → EvP (Wp p) (tPart (tOp oAdd (tVar 5) (tC (.int 1)))) [some (.ref p), some v1, some v2, some v3, none, some (.int at_), some (.str s), x7] G H' := fun {x7 G H'} g => ep_at ((ev_op (g.ok o2) (Is.mo _) (ev_var (R := Is (.int at_)) (g.ok o2) (Is.mo _) rfl rfl) (ev_c (v := .int 1) (R := Is (.int 1)) (g.ok o2) fun _ => rfl) (ow_int (g := fun i j => V.int (i + j)))).imp fun v F' _ r => ⟨_, r⟩)
  have Neg : ∀ {x7 : Option V} {G H'}, Gw (Wp p) F2 H2 G H' → EvP (Wp p) (tPart tNeg1) [some (.ref p), some v1, some v2, some v3, none, some (.int at_), some (.str s), x7] G H' := fun {x7 G H'} g => ep_at ((ev_neg (i := 1) (ev_c (g.ok o2) fun _ => rfl)).imp fun v F' _ r => ⟨_, r⟩)
  have To : ∀ {x7 : Option V} {G H'}, Gw (Wp p) F2 H2 G H' → EvW (Wp p) (TD K 12) (slTo K) [some (.ref p), some v1, some v2, some v3, none, some (.int at_), some (.str s), x7] G H' := fun g => ev_cut (g.ok o2) (P g) (ep_no (g.ok o2)) (At g)
  have Fr : ∀ {x7 : Option V} {G H'}, Gw (Wp p) F2 H2 G H' → EvW (Wp p) (TD K 12) (slFr K) [some (.ref p), some v1, some v2, some v3, none, some (.int at_), some (.str s), x7] G H' := fun g => ev_cut (g.ok o2) (P g) (At g) (ep_no (g.ok o2))
  have Fr1 : ∀ {x7 : Option V} {G H'}, Gw (Wp p) F2 H2 G H' → EvW (Wp p) (TD K 12) (slFr1 K) [some (.ref p), some v1, some v2, some v3, none, some (.int at_), some (.str s), x7] G H' := fun g => ev_cut (g.ok o2) (P g) (At1 g) (ep_no (g.ok o2))
  have La : ∀ {x7 : Option V} {G H'}, Gw (Wp p) F2 H2 G H' → EvW (Wp p) (TD K 12) (slLast K) [some (.ref p), some v1, some v2, some v3, none, some (.int at_), some (.str s), x7] G H' := fun g => ev_cut (g.ok o2) (P g) (Neg g) (ep_no (g.ok o2))
  have S1 : ∀ {x7 : Option V} {G H'}, Gw (Wp p) F2 H2 G H' → EvW (Wp p) (Is (.str s)) (tVar 6) [some (.ref p), some v1, some v2, some v3, none, some (.int at_), some (.str s), x7] G H' := fun {x7 G H'} g => ev_var (g.ok o2) (Is.mo _) rfl rfl
  have sd : ∀ v F, Is (.str s) v F → ∃ d, Sm 3 300 d ∧ Da K d v F := fun v F e => ⟨.str s, hs.up (by decide) (by decide), by obtain rfl : v = .str s := e; exact .str s⟩
  have cd : ∀ {u : V} {d : PyData}, Sm 3 300 d → (∀ F, Da K d u F) → ∀ v F, Is u v F → ∃ d, Sm 3 300 d ∧ Da K d v F := fun {u d} h1 h2 v F e => ⟨d, h1, by obtain rfl : v = u := e; exact h2 F⟩
  have T1 : ∀ {σ : L2.St} {te : TE} {R : Pr} {G H'}, Gw (Wp p) F2 H2 G H' → Mo R → (∀ v F, R v F → ∃ d, Sm 3 300 d ∧ Da K d v F) → EvW (Wp p) R te σ G H' → EvW (Wp p) (TD K 1) (tup1 te) σ G H' := fun g mR hd h => ev_tup1 (d := fun _ => True) mR hd (g.ok o2) h
  have h1 : ∀ {G H'}, Gw (Wp p) F2 H2 G H' → EvW (Wp p) (Li (List.replicate 6 (OddV K))) (tLst (odL1 K)) [some (.ref p), some v1, some v2, some v3, none, some (.int at_), some (.str s), none] G H' := fun {G H'} g => by
    have oG := g.ok o2
    have m := OddV.mo K
    exact ev_lst oG (reps_mo 6) (ea_cons oG m (EvW.oddT (ev_tds oG (ev_tds oG (To g) (T1 g (Is.mo _) sd (S1 g)) (by decide)) (Fr g) (by decide)) (by decide)) (ea_cons oG m (EvW.oddT (ev_tds oG (To g) (Fr1 g) (by decide)) (by decide)) (ea_cons oG m (EvW.oddT (ev_tds oG (P g) (La g) (by decide)) (by decide)) (ea_cons oG m (EvW.oddT (ev_revT oG (P g)) (by decide)) (ea_cons oG m (ev_listT oG (P g) (by decide)) (ea_cons oG m (EvW.oddT (ev_tup0 oG) (by decide)) (ea_nil oG))))))) (show 6 ≤ 100000 by decide)
  refine q_asg o2 (h1 o2.refl) fun v7 F3 H3 g3 r7 => ?_
  have o3 := g3.ok o2
  show t_odE K _ [some (.ref p), some v1, some v2, some v3, none, some (.int at_), some (.str s), some v7] H3
  have sm0 : ∀ {d : PyData}, Sm 3 200 d → Sm 3 300 d := fun h => h.up (by decide) (by decide)
  have h2 : EvW (Wp p) (Li (List.replicate 18 (OddV K))) (tOp rCat (tVar 7) (tLst (odL2 K))) [some (.ref p), some v1, some v2, some v3, none, some (.int at_), some (.str s), some v7] F3 H3 := by
    have m := OddV.mo K
    have e : List.replicate 18 (OddV K) = List.replicate 6 (OddV K) ++ List.replicate 12 (OddV K) := rfl
    rw [e]
    refine ev_op o3 (Li.mo (reps_mo 6)) (ev_var o3 (Li.mo (reps_mo 6)) rfl r7) (ev_lst o3 (reps_mo 12) ?_ (show 12 ≤ 100000 by decide)) (ow_cat (reps_mo 6) (reps_mo 12) (show 18 ≤ 100000 by decide))
    refine ea_cons o3 m (EvW.oddT (ev_tds o3 (ev_tds o3 (To g3) (T1 g3 (Is.mo .non) (cd (sm0 (sm_small (d := .none) (by decide))) fun _ => .non) (ev_c o3 fun _ => rfl)) (by decide)) (Fr1 g3) (by decide)) (by decide)) ?_
    refine ea_cons o3 m (EvW.oddT (T1 g3 (Is.mo _) sd (S1 g3)) (by decide)) ?_
    refine ea_cons o3 m ((S1 g3).imp fun v F' _ e => ⟨.str s, oddD hs (by decide) (by decide) trivial (Nat.zero_le _), by obtain rfl : v = .str s := e; exact .str s⟩) ?_
    refine ea_cons o3 m (ev_oddC (d := .none) o3 (oddD (sm_small (by decide)) (by decide) (by decide) trivial (by decide)) fun _ => .non) ?_
    refine ea_cons o3 m (ev_oddC (d := .int 0) o3 (oddD (sm_small (by decide)) (by decide) (by decide) (by show (0 : Int).natAbs.log2 < 1920; decide) (by decide)) fun _ => .int 0) ?_
    refine ea_cons o3 m (ev_oddC (d := .bool true) o3 (oddD (sm_small (by decide)) (by decide) (by decide) trivial (by decide)) fun _ => .bl true) ?_
    refine ea_cons o3 m (ev_oddC (d := .str "") o3 (oddD (sm_small (by decide)) (by decide) (by decide) trivial (by decide)) fun _ => .str "") ?_
    refine ea_cons o3 m ((ev_lst (Rs := []) o3 mos_nil (ea_nil o3) (Nat.zero_le _)).imp fun v F' _ r => ⟨.list [], oddD (sm_small (by decide)) (by decide) (by decide) trivial (by decide), Li.da (ds := []) r⟩) ?_
    refine ea_cons o3 m ((ev_dnew o3).imp fun v F' _ r => ⟨.dict [], oddD (sm_small (by decide)) (by decide) (by decide) trivial (by decide), r⟩) ?_
    refine ea_cons o3 m (EvW.oddT (T1 g3 (TP.mo 12) (fun v F ⟨p', a1, a2, a3⟩ => ⟨pD p', (sm_tup (k := 1) (n := 8) (m := 12) (fun d hd => by obtain ⟨x, hx, rfl⟩ := List.mem_map.mp hd; exact a2 x hx) (by rw [List.length_map]; exact a1)).up (by decide) (by decide), pTu.da a3⟩) (ev_var o3 (TP.mo 12) rfl (TP.mo 12 _ _ _ g3.g.ff hP2))) (by decide)) ?_
    refine ea_cons o3 m (EvW.oddT (T1 g3 (Is.mo (.int 0)) (cd (sm0 (sm_small (d := .int 0) (by decide))) fun _ => .int 0) (ev_c o3 fun _ => rfl)) (by decide)) ?_
    exact ea_cons o3 m (EvW.oddT (T1 g3 (Li.mo mos_nil) (fun v F r => ⟨.list [], sm0 (sm_small (by decide)), Li.da (ds := []) r⟩) (ev_lst (Rs := []) o3 mos_nil (ea_nil o3) (Nat.zero_le _))) (by decide)) (ea_nil o3)
  refine q_asg o3 h2 fun v7' F4 H4 g4 r7' => ?_
  have o4 := g4.ok o3
  have g34 := g3.trans o2 g4
  have h3 : EvW (Wp p) (Li (List.replicate 23 (OddV K))) (tOp rCat (tVar 7) (tLst (odL3 K))) [some (.ref p), some v1, some v2, some v3, none, some (.int at_), some (.str s), some v7'] F4 H4 := by
    have m := OddV.mo K
    have e : List.replicate 23 (OddV K) = List.replicate 18 (OddV K) ++ List.replicate 5 (OddV K) := rfl
    rw [e]
    refine ev_op o4 (Li.mo (reps_mo 18)) (ev_var o4 (Li.mo (reps_mo 18)) rfl r7') (ev_lst o4 (reps_mo 5) ?_ (show 5 ≤ 100000 by decide)) (ow_cat (reps_mo 18) (reps_mo 5) (show 23 ≤ 100000 by decide))
    refine ea_cons o4 m (EvW.oddT (T1 g34 (Is.mo (.str "Z")) (cd (sm0 (sm_small (d := .str "Z") (by decide))) fun _ => .str "Z") (ev_c o4 fun _ => rfl)) (by decide)) ?_
    refine ea_cons o4 m (EvW.oddT (ev_tds o4 (P g34) (T1 g34 (Is.mo (.str "")) (cd (sm0 (sm_small (d := .str "") (by decide))) fun _ => .str "") (ev_c o4 fun _ => rfl)) (by decide)) (by decide)) ?_
    refine ea_cons o4 m (ev_tupL (ts := ns) o4 (fun s hs => sm_str (hnm s hs)) (by omega) (ev_var o4 (Txts.mo ns) rfl (Txts.mo ns _ _ _ g34.g.ff r32))) ?_
    refine ea_cons o4 m (ev_dispS hs o4 rfl) ?_
    exact ea_cons o4 m (EvW.oddT (T1 g34 (TD.mo K 0) (fun v F ⟨ds, a1, a2, a3⟩ => ⟨.tuple ds, (sm_tup (k := 0) (n := 0) (m := 0) (fun d hd => by rw [List.length_eq_zero_iff.mp (Nat.le_zero.mp a1)] at hd; cases hd) a1).up (by decide) (by decide), Tu.da a3⟩) (ev_tup0 o4)) (by decide)) (ea_nil o4)
  refine q_ret o4 (ev_choiceA (R := OddV K) (reps_mo 23) (show 0 < 23 by decide) (show 23 < 1000000 by decide) (fun S hS v F r => by rw [List.eq_of_mem_replicate hS] at r; exact r) o4 rfl h3) fun v F5 H5 g5 r => q v F5 H5 ((((g1.trans o g2).trans o g3).trans o g4).trans o g5) r
end
end QW

set_option Elab.async false
set_option linter.all false
set_option maxRecDepth 100000
set_option maxHeartbeats 2000000
/-! QRt: _law_right of k22. -/
namespace QW
open PySem PySem.Spec PyProof.Rows L2 QR QSo
theorem ca_reprA {K : PySem.W.Frag} {w : Wd} {d : PyData} (h1 : reprI d) (h2 : Shows d) : CaW w (rReprA K) [Da K d] (Is (.str d.shown)) := by
  intro vs F H o al Q q
  obtain ⟨v, rfl, hv⟩ := one_arg al
  exact ⟨v, d, rfl, QR.Dv.mono o.s hv, h1, h2, q _ F H o.refl rfl⟩
theorem shows_bool (b : Bool) : Shows (.bool b) := by
  have h : Sm 3 200 (.bool b) := sm_small (by cases b <;> decide)
  exact h.shows (by decide) (by decide)
def TyIn (ts : List Str) : Pr := fun v _ => ∃ x : Str, x ∈ ts ∧ v = .str x
theorem TyIn.mo (ts : List Str) : Mo (TyIn ts) := fun _ _ _ _ h => h
/-- some paths, not too many, of texts -/
def PL (n : Nat) : Pr := fun v F => ∃ ps : List (List Str), n ≤ ps.length ∧ ps.length ≤ 60000 + n ∧ (∀ p ∈ ps, p.length ≤ 12 ∧ ∀ s ∈ p, Sm 1 8 (.str s)) ∧ Li (ps.map pTu) v F
theorem PL.mo (n : Nat) : Mo (PL n) := fun _ _ _ e ⟨ps, h0, h1, h2, r⟩ => ⟨ps, h0, h1, h2, Li.mo (mos_map pTu.mo ps) _ _ _ e r⟩
section
variable {K : PySem.W.Frag} {σ : L2.St} {F H : Hp} {p : Addr} {ts : List Str} {cs : List Cst} {vs : List Ver} {te ta tb : TE} {E : XK}
/-- one of the types -/
theorem ev_chT {i : Nat} {v : V} (t0 : 1 ≤ ts.length) (tl : ts.length ≤ 10) (o : Ok (Wp p) F H) (hp : σ[0]? = some (some (.ref p))) (hi : σ[i]? = some (some v)) (hD : DatS ts cs vs v F) : EvW (Wp p) (TyIn ts) (tCall spChoice [] E (tCons (tVar 0) (tCons (tDGet (tVar i) (tC (.str "types"))) tNil))) σ F H :=
  ev_choiceA (Rs := ts.map fun y : Str => Is (.str y)) (R := TyIn ts) (mos_map (f := fun y : Str => Is (.str y)) (fun _ => Is.mo _) ts) (by rw [List.length_map]; omega) (by rw [List.length_map]; omega) (fun S hS v F r => by
    obtain ⟨s, hs, rfl⟩ := List.mem_map.mp hS
    exact ⟨s, hs, r⟩) o hp (ev_dat (i := 0) (k := "types") (R := Txts ts) (ts := ts) (cs := cs) (vs := vs) o (ev_var o (DatS.mo ts cs vs) hi hD) rfl rfl)
/-- _law_paths(s, one, t) -/
theorem ev_pathsL {most edges uses : Nat} (wf : WfW most edges uses ts cs vs) (hm : most ≤ 10) (he : edges ≤ 12) {s : Str} (hs : s ∈ ts) (o : Ok (Wp p) F H) (h0 : EvW (Wp p) (DatS ts cs vs) ta σ F H) (h1 : EvW (Wp p) (Is (.str s)) tb σ F H) (h2 : EvW (Wp p) (TyIn ts) te σ F H) :
    EvW (Wp p) (PL 0) (tCall spPaths [] E (tCons ta (tCons tb (tCons te tNil)))) σ F H := fun F1 H1 g Q q =>
  ea_cons o (DatS.mo ts cs vs) h0 (ea_cons o (Is.mo _) h1 (ea_cons o (TyIn.mo ts) h2 (ea_nil o))) F1 H1 g _ fun us F2 H2 g2 al => by
    obtain ⟨x, y, z, rfl, hx, hy, ⟨t, ht, hz⟩⟩ := three_args al
    have o1 := g.ok o
    have o2 := g2.ok o1
    have tl := wf.tl
    have cl := wf.cl
    have nm : ∀ c ∈ cs, isNmS c.1 = true := fun c hc => wordS.nm (wf.cm c hc)
    refine ⟨⟨ts, cs, vs, wf.tn, by omega, by omega, wf.ce, fun s hs => strOk_nm (wordS.nm (wf.tm s hs)), fun c hc => strOk_nm (nm c hc), s, t, hs⟩, F2, o2.zero, .cons hx (.cons hy (.cons hz .nil)), fun v F3 H3 g3 r => q v F3 H3 (g2.trans o1 (g3.of0 o2)) ⟨pathsL ts cs s t, Nat.zero_le _, ?_, fun p hp => ?_, r⟩⟩
    · obtain ⟨rk, hr, _⟩ := rank_of (cs := cs) wf.tn wf.ce
      have he' : ∀ c ∈ cs, c.2.2 ∈ ts := fun c hc => by
        obtain ⟨i, j, _, _, h2⟩ := wf.ce c hc
        exact List.mem_of_getElem? h2
      have h := rounds_len (tgt := t) hr he' (n := ts.length) (Lev.first (cs := cs) (rk := rk) hs)
      have h12 : 2 ^ cs.length ≤ 2 ^ 12 := Nat.pow_le_pow_right (show 0 < 2 by decide) (by omega)
      have h3 : ts.length * 2 ^ cs.length ≤ 10 * 4096 := Nat.mul_le_mul (by omega) h12
      show (rounds cs t ts.length [([], s)]).length ≤ _
      omega
    · have := pathsL_at wf.tn wf.ce hs p hp
      refine ⟨by omega, fun x hx => ?_⟩
      obtain ⟨c, hc, rfl⟩ := this.2 x hx
      exact sm_str (nm c hc)
theorem ev_pl2 (o : Ok (Wp p) F H) (h : EvW (Wp p) (PL 0) te σ F H) : EvW (Wp p) (PL 2) (tOp rCat te (tLst (tCons (tTup tNil) (tCons (tTup tNil) tNil)))) σ F H := fun F1 H1 g Q q =>
  h F1 H1 g _ fun x F2 H2 g2 ⟨ps, a0, a1, a2, r⟩ => by
    have o1 := g.ok o
    have o2 := g2.ok o1
    have e2 : EvW (Wp p) (Li ([[], []].map pTu)) (tLst (tCons (tTup tNil) (tCons (tTup tNil) tNil))) σ F2 H2 := ev_lst o2 (mos_cons (pTu.mo []) (mos_cons (pTu.mo []) mos_nil)) (ea_cons o2 (pTu.mo []) (ev_tup o2 mos_nil (ea_nil o2) (Nat.zero_le _)) (ea_cons o2 (pTu.mo []) (ev_tup o2 mos_nil (ea_nil o2) (Nat.zero_le _)) (ea_nil o2))) (show 2 ≤ 100000 by decide)
    refine e2 F2 H2 o2.refl _ fun y F3 H3 g3 ry => ?_
    have o3 := g3.ok o2
    refine ow_cat (w := Wp p) (mos_map pTu.mo ps) (mos_map pTu.mo [[], []]) (by rw [List.length_map, List.length_map]; show ps.length + 2 ≤ _; omega) x y F3 H3 o3 (Li.mo (mos_map pTu.mo ps) _ _ _ g3.g.ff r) ry Q fun v F4 H4 g4 rv => q v F4 H4 ((g2.trans o1 g3).trans o1 g4) ⟨ps ++ [[], []], ?_, ?_, fun p hp => ?_, by rw [List.map_append]; exact rv⟩
    · rw [List.length_append]; show 2 ≤ ps.length + 2; omega
    · rw [List.length_append]; show ps.length + 2 ≤ _; omega
    · rcases List.mem_append.mp hp with hp | hp
      · exact a2 p hp
      · have e : p = [] := by simpa using hp
        rw [e]
        exact ⟨Nat.zero_le _, fun s hs => nomatch hs⟩
theorem ev_chP (o : Ok (Wp p) F H) (hp : σ[0]? = some (some (.ref p))) (h : EvW (Wp p) (PL 2) te σ F H) : EvW (Wp p) (TP 12) (tCall spChoice [] E (tCons (tVar 0) (tCons te tNil))) σ F H := fun F1 H1 g Q q =>
  ea_cons o (Is.mo (.ref p)) (ev_var o (Is.mo _) hp rfl) (ea_cons o (PL.mo 2) h (ea_nil o)) F1 H1 g _ fun us F2 H2 g2 al => by
    obtain ⟨x, y, rfl, hx, ps, a0, a1, a2, r⟩ := two_args al
    obtain rfl : x = .ref p := hx
    have o1 := g.ok o
    refine ⟨⟨p, ps.map pTu, mos_map pTu.mo ps, by rw [List.length_map]; omega, by rw [List.length_map]; omega⟩, F2, g2.ok o1, .cons rfl (.cons r .nil), fun v F3 H3 g3 ⟨R, hR, rv⟩ => q v F3 H3 (g2.trans o1 g3) ?_⟩
    obtain ⟨z, hz, rfl⟩ := List.mem_map.mp hR
    exact ⟨z, (a2 z hz).1, (a2 z hz).2, rv⟩
end
abbrev chTy (i : Nat) : TE := tCall spChoice [] E0 (tCons (tVar 0) (tCons (tDGet (tVar i) (tC (.str "types"))) tNil))
def t_r3 (K : PySem.W.Frag) (C CU : Addr) : TS := tSeq (tPar 8 9 (tCons (tCB (rReprA K) (tCons (tVar 7) tNil)) (tCons (tCall (spLeads K) [] E0 (tCons (tVar 1) (tCons (tVar 4) (tCons (tVar 5) (tCons (tVar 7) tNil))))) tNil)))
  (tIfS (tOr (tTest (tOp rNe (tCB (rReprA K) (tCons (QC.tCallE (spIp K C CU) [] (fun _ => E0) (tCons (tVar 2) (tCons (tVar 4) (tCons (tVar 5) (tCons (tVar 7) tNil))))) tNil)) (tCB (rReprA K) (tCons (tVar 9) tNil)))) (tTest (tOp rNe (tCB (rReprA K) (tCons (tVar 7) tNil)) (tVar 8)))) (tRet (tC (.bl false))) tNext)
def t_r2b (K : PySem.W.Frag) (C CU : Addr) : TS := tSeq (tAsg (tCall spChoice [] E0 (tCons (tVar 0) (tCons (tOp rCat (tCall spPaths [] E0 (tCons (tVar 1) (tCons (tVar 4) (tCons (chTy 1) tNil)))) (tLst (tCons (tTup tNil) (tCons (tTup tNil) tNil)))) tNil))) (gName 6))
  (tFor (iTup K (tTup (tCons (tVar 6) (tCons (tCall (spOddP K) [] E0 (tCons (tVar 0) (tCons (tVar 1) (tCons (tVar 6) tNil)))) tNil)))) (gName 7) (t_r3 K C CU))
def t_r2 (K : PySem.W.Frag) (C CU : Addr) : TS := tSeq (tPar 4 5 (tCons (chTy 1) (tCons (chTy 1) tNil))) (t_r2b K C CU)
def t_rb (K : PySem.W.Frag) (C CT CU : Addr) : TS := tSeq (tAsg (tCall (spMade C CT) [] E0 (tCons (tVar 0) (tCons (tVar 1) tNil))) (gName 2)) (tSeq (tFor (iRng1 (tCons (tC (.int 30)) tNil)) (gName 3) (t_r2 K C CU)) (tRet (tC (.bl true))))
def t_right (K : PySem.W.Frag) (C CT CU : Addr) : TS := tSeq (tAsg (tCall spScheme [] E0 (tCons (tVar 0) (tCons (tC (.int 6)) (tCons (tC (.int 10)) (tCons (tC (.int 1)) tNil))))) (gName 1)) (t_rb K C CT CU)
def spRight22 (K : PySem.W.Frag) : Sp := spW (fun p : Addr => Wp p) (fun p => [Is (.ref p)]) fun _ => Is (.bl true)
theorem spRight22.len {K : PySem.W.Frag} : ∀ vs H Q E, spRight22 K vs H Q E → vs.length = 1 := spW.len fun _ => rfl
section
variable {K : PySem.W.Frag} {C CT CU p : Addr} {F H : Hp} {ts : List Str} {cs : List Cst} {vs : List Ver}
/-- one value judged -/
theorem pure_r3 {D : Ends} {v1 v2 v3 v6 v7 : V} {x8 x9 : Option V} {sts : List Str} {scs : List Cst} {s1 s2 : Str} {d : PyData} {m e u : Nat} (wf : WfW m e u ts cs vs) (hm : m ≤ 10) (he : e ≤ 20) (h1 : s1 ∈ sts) (h2 : s2 ∈ sts) (hc : scs.Perm cs) (hd : OddD d) (o : Ok (Wp p) F H) (hD : DatS ts cs vs v1 F) (hS : Obj C schF (ipL sts scs) v2 F) (h7 : Da K d v7 F)
    (k : ∀ x8 x9 F1 H1, Gw (Wp p) F H F1 H1 → D.nx [some (.ref p), some v1, some v2, some v3, some (.str s1), some (.str s2), some v6, some v7, x8, x9] H1) :
    t_r3 K C CU D [some (.ref p), some v1, some v2, some v3, some (.str s1), some (.str s2), some v6, some v7, x8, x9] H := by
  obtain ⟨hd1, hd2, hd3⟩ := hd
  have mD := DatS.mo ts cs vs
  have cl := wf.cl
  have tsn : ∀ s ∈ ts, isNmS s = true := fun s hs => wordS.nm (wf.tm s hs)
  have cok : ∀ c ∈ cs, PyData.strOk c.1 = true ∧ PyData.strOk c.2.1 = true ∧ PyData.strOk c.2.2 = true := fun c hc => by
    obtain ⟨i, j, _, a1, a2⟩ := wf.ce c hc
    exact ⟨strOk_nm (wordS.nm (wf.cm c hc)), strOk_nm (tsn _ (List.mem_of_getElem? a1)), strOk_nm (tsn _ (List.mem_of_getElem? a2))⟩
  have snd : (scs.map (·.1)).Nodup := (hc.map _).nodup_iff.mpr wf.cn
  have er : EvW (Wp p) (Is (.str d.shown)) (tCB (rReprA K) (tCons (tVar 7) tNil)) [some (.ref p), some v1, some v2, some v3, some (.str s1), some (.str s2), some v6, some v7, x8, x9] F H := ev_cb o (ea_cons o (Da.mo K d) (ev_var o (Da.mo K d) rfl h7) (ea_nil o)) (ca_reprA hd2 hd1)
  have el : EvW (Wp p) (Is (.bl (isPathD cs s1 s2 d))) (tCall (spLeads K) [] E0 (tCons (tVar 1) (tCons (tVar 4) (tCons (tVar 5) (tCons (tVar 7) tNil))))) [some (.ref p), some v1, some v2, some v3, some (.str s1), some (.str s2), some v6, some v7, x8, x9] F H :=
    ev_call0 (A := fun a : LdA => [DatS a.ts a.cs a.vs, Is (.str a.one), Is (.str a.other), Da K a.d]) (Rf := fun a => Is (.bl (isPathD a.cs a.one a.other a.d))) ⟨ts, cs, vs, by omega, fun s hs => strOk_nm (tsn s hs), cok, s1, s2, d⟩ o (ea_cons o mD (ev_var o mD rfl hD) (ea_cons o (Is.mo _) (ev_var o (Is.mo _) rfl rfl) (ea_cons o (Is.mo _) (ev_var o (Is.mo _) rfl rfl) (ea_cons o (Da.mo K d) (ev_var o (Da.mo K d) rfl h7) (ea_nil o)))))
  refine q_par2S (fun a b => [some (.ref p), some v1, some v2, some v3, some (.str s1), some (.str s2), some v6, some v7, some a, some b]) o (ea_cons o (Is.mo _) er (ea_cons o (Is.mo _) el (ea_nil o))) fun a b F1 H1 g ra rb => ?_
  obtain rfl : a = .str d.shown := ra
  obtain rfl : b = .bl (isPathD cs s1 s2 d) := rb
  have o1 := g.ok o
  have mO := Obj.mo (C := C) (ns := schF) (ipL.mo sts scs)
  have h71 := Da.mo K d _ _ _ g.g.ff h7
  have hip := ev_ip (K := K) (CU := CU) (E := fun _ => E0) (σ := [some (.ref p), some v1, some v2, some v3, some (.str s1), some (.str s2), some v6, some v7, some (.str d.shown), some (.bl (isPathD cs s1 s2 d))]) (ta := tCons (tVar 2) (tCons (tVar 4) (tCons (tVar 5) (tCons (tVar 7) tNil)))) snd h1 h2 hd3 o1 (ea_cons o1 mO (ev_var o1 mO rfl (mO _ _ _ g.g.ff hS)) (ea_cons o1 (Is.mo _) (ev_var o1 (Is.mo _) rfl rfl) (ea_cons o1 (Is.mo _) (ev_var o1 (Is.mo _) rfl rfl) (ea_cons o1 (Da.mo K d) (ev_var o1 (Da.mo K d) rfl h71) (ea_nil o1)))))
  rw [isPathD_perm wf.cn hc] at hip
  have toB : ∀ {te : TE} {σ : L2.St} {F H : Hp} {b : Bool}, EvW (Wp p) (Is (.bl b)) te σ F H → EvW (Wp p) (Da K (.bool b)) te σ F H := fun h => h.imp fun v F' _ e => by obtain rfl : v = .bl _ := e; exact .bl _
  have r1 := ev_cb o1 (ea_cons o1 (Da.mo K _) (toB hip) (ea_nil o1)) (ca_reprA (K := K) (w := Wp p) trivial (shows_bool (isPathD cs s1 s2 d)))
  have r2 : EvW (Wp p) (Is (.str (PyData.bool (isPathD cs s1 s2 d)).shown)) (tCB (rReprA K) (tCons (tVar 9) tNil)) [some (.ref p), some v1, some v2, some v3, some (.str s1), some (.str s2), some v6, some v7, some (.str d.shown), some (.bl (isPathD cs s1 s2 d))] F1 H1 := ev_cb o1 (ea_cons o1 (Da.mo K _) (toB (ev_var o1 (Is.mo _) rfl rfl)) (ea_nil o1)) (ca_reprA (K := K) (w := Wp p) trivial (shows_bool (isPathD cs s1 s2 d)))
  have r3 : EvW (Wp p) (Is (.str d.shown)) (tCB (rReprA K) (tCons (tVar 7) tNil)) [some (.ref p), some v1, some v2, some v3, some (.str s1), some (.str s2), some v6, some v7, some (.str d.shown), some (.bl (isPathD cs s1 s2 d))] F1 H1 := ev_cb o1 (ea_cons o1 (Da.mo K d) (ev_var o1 (Da.mo K d) rfl h71) (ea_nil o1)) (ca_reprA hd2 hd1)
  refine s_no o1 (et_or (a := false) (b := false) o1 (et_val (ev_neR rfl o1 r1 r2)) fun _ => et_val (ev_neR rfl o1 r3 (ev_var (i := 8) (R := Is (.str d.shown)) o1 (Is.mo _) rfl rfl))) fun F2 H2 g2 => ?_
  exact k _ _ F2 H2 (g.trans o g2)
/-- one turn -/
theorem pure_r2 {D : Ends} {v1 v2 v3 : V} {x4 x5 x6 x7 x8 x9 : Option V} {sts : List Str} {scs : List Cst} {m e u : Nat} (wf : WfW m e u ts cs vs) (hm : m ≤ 10) (he : e ≤ 12) (ht : ∀ s ∈ ts, s ∈ sts) (hc : scs.Perm cs) (o : Ok (Wp p) F H) (hD : DatS ts cs vs v1 F) (hS : Obj C schF (ipL sts scs) v2 F)
    (k : ∀ x4 x5 x6 x7 x8 x9 F1 H1, Gw (Wp p) F H F1 H1 → D.nx [some (.ref p), some v1, some v2, some v3, x4, x5, x6, x7, x8, x9] H1) :
    t_r2 K C CU D [some (.ref p), some v1, some v2, some v3, x4, x5, x6, x7, x8, x9] H := by
  have mD := DatS.mo ts cs vs
  have tl := wf.tl
  have cl := wf.cl
  have t0 := wf.t0
  have mO := Obj.mo (C := C) (ns := schF) (ipL.mo sts scs)
  have ch := ev_chT (E := E0) (σ := [some (.ref p), some v1, some v2, some v3, x4, x5, x6, x7, x8, x9]) (i := 1) t0 (by omega) o rfl rfl hD
  refine q_par2S (fun a b => [some (.ref p), some v1, some v2, some v3, some a, some b, x6, x7, x8, x9]) o (ea_cons o (TyIn.mo ts) ch (ea_cons o (TyIn.mo ts) ch (ea_nil o))) fun a b F1 H1 g1 ra rb => ?_
  obtain ⟨s1, m1, rfl⟩ := ra
  obtain ⟨s2, m2, rfl⟩ := rb
  have o1 := g1.ok o
  have hD1 := mD _ _ _ g1.g.ff hD
  show t_r2b K C CU D [some (.ref p), some v1, some v2, some v3, some (.str s1), some (.str s2), x6, x7, x8, x9] H1
  have hp := ev_chP (E := E0) (σ := [some (.ref p), some v1, some v2, some v3, some (.str s1), some (.str s2), x6, x7, x8, x9]) o1 rfl (ev_pl2 o1 (ev_pathsL (E := E0) (ta := tVar 1) (tb := tVar 4) (te := chTy 1) wf hm he m1 o1 (ev_var (i := 1) o1 mD rfl hD1) (ev_var (i := 4) (R := Is (.str s1)) o1 (Is.mo _) rfl rfl) (ev_chT (i := 1) t0 (by omega) o1 rfl rfl hD1)))
  refine q_asg o1 hp fun v6 F2 H2 g2 r6 => ?_
  have o2 := g2.ok o1
  have hD2 := mD _ _ _ g2.g.ff hD1
  have eod : EvW (Wp p) (OddV K) (tCall (spOddP K) [] E0 (tCons (tVar 0) (tCons (tVar 1) (tCons (tVar 6) tNil)))) [some (.ref p), some v1, some v2, some v3, some (.str s1), some (.str s2), some v6, x7, x8, x9] F2 H2 :=
    ev_call (wf := fun a : OdA => Wp a.p) (A := fun a => [Is (.ref a.p), DatS a.ts a.cs a.vs, TP 12]) (Rf := fun _ => OddV K) ⟨p, ts, cs, vs, t0, by omega, by omega, fun s hs => wordS.nm (wf.tm s hs), fun c hc => wordS.nm (wf.cm c hc)⟩ o2 (ea_cons o2 (Is.mo _) (ev_var o2 (Is.mo _) rfl rfl) (ea_cons o2 mD (ev_var o2 mD rfl hD2) (ea_cons o2 (TP.mo 12) (ev_var o2 (TP.mo 12) rfl r6) (ea_nil o2))))
  have e6 : EvW (Wp p) (OddV K) (tVar 6) [some (.ref p), some v1, some v2, some v3, some (.str s1), some (.str s2), some v6, x7, x8, x9] F2 H2 := (ev_var o2 (TP.mo 12) rfl r6).imp fun v F' _ r => r.td.odd (by decide)
  have mo := OddV.mo K
  have et := ev_tup (σ := [some (.ref p), some v1, some v2, some v3, some (.str s1), some (.str s2), some v6, x7, x8, x9]) o2 (mos_cons mo (mos_cons mo mos_nil)) (ea_cons o2 mo e6 (ea_cons o2 mo eod (ea_nil o2))) (show 2 ≤ 100000 by decide)
  have hj := ej_tup (K := K) (w0 := Wp p) (w := Wp p) (Sub.refl _) o2 (mos_cons mo (mos_cons mo mos_nil)) (et.imp fun _ _ _ r => r.sq)
  refine s_forO (q_forJ (Sub.refl _) o2 hj (fun i σ' G H' => ∃ x7 x8 x9, σ' = [some (.ref p), some v1, some v2, some v3, some (.str s1), some (.str s2), some v6, x7, x8, x9]) (fun F' H' g => ⟨_, _, _, rfl⟩) (fun i x σ' G0 H0 G H' N hi g0 iv g3 hx k2 => ?_) fun σ' G H' g iv => ?_)
  · obtain ⟨y7, y8, y9, rfl⟩ := iv
    obtain ⟨R, hR, r⟩ := hx
    have hodd : OddV K x G := by
      have : R = OddV K := by
        have := List.mem_of_getElem? hR
        simpa using this
      rw [this] at r
      exact r
    obtain ⟨d, hd, hx⟩ := hodd
    have g03 := g0.trans o2 g3
    have o3 := g03.ok o2
    show t_r3 K C CU _ [some (.ref p), some v1, some v2, some v3, some (.str s1), some (.str s2), some v6, some x, y8, y9] H'
    exact pure_r3 wf hm (by omega) (ht _ m1) (ht _ m2) hc hd o3 (mD _ _ _ g03.g.ff hD2) (mO _ _ _ ((g1.g.ff.trans g2.g.ff).trans g03.g.ff) hS) hx fun z8 z9 F5 H5 g5 => k2 _ F5 H5 g5 ⟨_, _, _, rfl⟩
  · obtain ⟨y7, y8, y9, rfl⟩ := iv
    exact k _ _ _ _ _ _ G H' ((g1.trans o g2).trans o g)
theorem pure_right {vs : List V} {H : Hp} {Q : VK} {E : XK} (h : spRight22 K vs H Q E) : t_right K C CT CU { nx := fun _ H' => Q .non H', rt := Q } (L2.start ["pot", "s", "made", "turn", "one", "other", "path", "value", "kept", "due"] vs) H := by
  obtain ⟨p, F, o, al, q⟩ := h
  obtain ⟨v0, rfl, hv0⟩ := one_arg al
  obtain rfl : v0 = .ref p := hv0
  have o : Ok (Wp p) F H := o
  have e1 := ev_call (E := E0) (σ := [some (.ref p), none, none, none, none, none, none, none, none, none]) (tas := tCons (tVar 0) (tCons (tC (.int 6)) (tCons (tC (.int 10)) (tCons (tC (.int 1)) tNil)))) (wf := fun a : ScA => Wp a.p) (A := fun a => [Is (.ref a.p), Is (.int a.most), Is (.int a.edges), Is (.int a.uses)]) (Rf := fun a => Drawn a.most a.edges a.uses) ⟨p, 6, 10, 1, by decide, by decide, by decide, by decide⟩ o
    (ea_cons o (Is.mo _) (ev_var o (Is.mo _) rfl rfl) (ea_cons o (Is.mo _) (ev_c o fun _ => rfl) (ea_cons o (Is.mo _) (ev_c o fun _ => rfl) (ea_cons o (Is.mo _) (ev_c o fun _ => rfl) (ea_nil o)))))
  refine q_asg o e1 fun v1 F1 H1 g1 r1 => ?_
  obtain ⟨ts, cs, rs, wf, hD⟩ := r1
  have wf : WfW 6 10 1 ts cs rs := wf
  have o1 := g1.ok o
  have ws := wf.wfS (by decide) (by decide) (by decide)
  have mD := DatS.mo ts cs rs
  show t_rb K C CT CU _ [some (.ref p), some v1, none, none, none, none, none, none, none, none] H1
  have e2 := ev_call (E := E0) (σ := [some (.ref p), some v1, none, none, none, none, none, none, none, none]) (tas := tCons (tVar 0) (tCons (tVar 1) tNil)) (wf := fun a : MdA => Wp a.p) (A := fun a => [Is (.ref a.p), DatS a.ts a.cs a.vs]) (Rf := fun a => SchOf C CT a.ts a.cs a.vs) ⟨p, ts, cs, rs, ws⟩ o1 (ea_cons o1 (Is.mo _) (ev_var o1 (Is.mo _) rfl rfl) (ea_cons o1 mD (ev_var o1 mD rfl hD) (ea_nil o1)))
  refine q_asg o1 e2 fun v2 F2 H2 g2 r2 => ?_
  obtain ⟨s, hs, r2⟩ := r2
  have o2 := g2.ok o1
  have hD2 := mD _ _ _ g2.g.ff hD
  have h2 : Obj C schF (ipL s.ts s.cs) v2 F2 := Obj.less r2 fun p hp => by
    rcases List.mem_cons.mp hp with rfl | hp
    · exact List.mem_cons_self
    · rw [List.mem_singleton.mp hp]; exact List.mem_cons_of_mem _ List.mem_cons_self
  have mO := Obj.mo (C := C) (ns := schF) (ipL.mo s.ts s.cs)
  have hj := ej_range (w0 := Wp p) (w := Wp p) (n := 30) (tas := tCons (tC (.int 30)) tNil) (σ := [some (.ref p), some v1, some v2, none, none, none, none, none, none, none]) (Sub.refl _) o2 (by decide) (by decide) (ea_cons o2 (Is.mo _) (ev_c o2 fun _ => rfl) (ea_nil o2))
  refine q_forJ (Sub.refl _) o2 hj (fun i σ' G H' => ∃ x3 x4 x5 x6 x7 x8 x9, σ' = [some (.ref p), some v1, some v2, x3, x4, x5, x6, x7, x8, x9]) (fun F' H' g => ⟨_, _, _, _, _, _, _, rfl⟩) (fun i x σ' G0 H0 G H' N hi g0 iv g3 hx k2 => ?_) fun σ' G H' g iv => ?_
  · obtain ⟨x3, x4, x5, x6, x7, x8, x9, rfl⟩ := iv
    have g03 := g0.trans o2 g3
    have o3 := g03.ok o2
    show t_r2 K C CU _ [some (.ref p), some v1, some v2, some x, x4, x5, x6, x7, x8, x9] H'
    exact pure_r2 wf (by decide) (by decide) (fun s' hs' => by rw [hs.t]; exact mem_srt.mpr hs') hs.c o3 (mD _ _ _ g03.g.ff hD2) (mO _ _ _ g03.g.ff h2) fun y4 y5 y6 y7 y8 y9 F5 H5 g5 => k2 _ F5 H5 g5 ⟨_, _, _, _, _, _, _, rfl⟩
  · obtain ⟨x3, x4, x5, x6, x7, x8, x9, rfl⟩ := iv
    have o3 := g.ok o2
    exact q_ret (R := Is (.bl true)) o3 (ev_c o3 fun _ => rfl) fun v F5 H5 g5 r => q v F5 H5 (((g1.trans o g2).trans o g).trans o g5) r
end
end QW

set_option Elab.async false
set_option linter.all false
set_option maxRecDepth 100000
set_option maxHeartbeats 2000000
/-! QRw: k22's law: all([right(pot(script, index)) for index in range(max(1, min(5, len(script))))]). -/
namespace QW
open PySem PySem.Spec PyProof.Rows L2 QR QSo
def t_cells (K : PySem.W.Frag) (k : Int) : TA := tCons (tCB oMax (tCons (tC (.int 1)) (tCons (tCB oMin (tCons (tC (.int k)) (tCons (tCB (iLen K) (tCons (tVar 0) tNil)) tNil))) tNil))) tNil
def t_lw22 (K : PySem.W.Frag) : TS := tRet (tCB (rAll K) (tCons (tLc (iRng1 (t_cells K 5)) (gName 1) tYes (tCall (spRight22 K) [] E0 (tCons (tCall (spPot K) [] E0 (tCons (tVar 0) (tCons (tVar 1) tNil))) tNil)) [1]) tNil))
/-- the cells: at least one, at most k -/
theorem ea_cells {K : PySem.W.Frag} {F H : Hp} {a : Addr} {ns : List Int} {σ : L2.St} {k : Int} (o : Ok W0 F H) (h0 : σ[0]? = some (some (.ref a))) (hS : SqL K F a (ns.map V.int)) (hk : 1 ≤ k) (hk2 : k ≤ 100) : ∃ n : Int, 0 ≤ n ∧ n ≤ 100 ∧ EvA W0 [Is (.int n)] (t_cells K k) σ F H := by
  refine ⟨if (if ((ns.map V.int).length : Int) < k then ((ns.map V.int).length : Int) else k) > 1 then (if ((ns.map V.int).length : Int) < k then ((ns.map V.int).length : Int) else k) else 1, by split <;> omega, by split <;> (try split) <;> omega, ?_⟩
  exact ea_cons o (Is.mo _) (ev_cb o (ea_cons o (Is.mo _) (ev_c o fun _ => rfl) (ea_cons o (Is.mo _) (ev_cb o (ea_cons o (Is.mo _) (ev_c o fun _ => rfl) (ea_cons o (Is.mo _) (ev_cb o (ea_cons o Sc.mo (ev_var (R := Sc K a (ns.map V.int)) o Sc.mo h0 ⟨rfl, hS⟩) (ea_nil o)) ca_lenSc) (ea_nil o))) ca_min2) (ea_nil o))) ca_max2) (ea_nil o)
theorem pure_lw22 {K : PySem.W.Frag} {vs : List V} {H : Hp} {Q : VK} {E : XK} (h : spLaw12 K vs H Q E) : t_lw22 K { nx := fun _ H' => Q .non H', rt := Q } (L2.start ["script", "index"] vs) H := by
  obtain ⟨a, ns, rfl, hl, hS, q⟩ := h
  have o : Ok W0 H H := ⟨Same.refl H, True.intro, fun _ z => nomatch z⟩
  obtain ⟨n, n0, n1, hb⟩ := ea_cells (K := K) (σ := [some (.ref a), none]) (k := 5) o rfl hS (by decide) (by decide)
  have hi := ei_range (σ := [some (.ref a), none]) o n0 (by omega) hb
  have hl := ev_compG (Cs := List.range n.toNat) (p := fun _ => true) (gg := fun _ => Is (.bl true)) (tt := tYes) (g := gName 1) (te := tCall (spRight22 K) [] E0 (tCons (tCall (spPot K) [] E0 (tCons (tVar 0) (tCons (tVar 1) tNil))) tNil)) (vs := [1]) (S := fun c σ' G => c < n.toNat ∧ σ' = [some (.ref a), some (.int (c : Nat))]) o hi (List.length_range).symm (fun _ => Is.mo _) (by rw [List.length_range]; omega)
    (fun i c x G H' hC hY g => by
      obtain ⟨hlt, hc⟩ := List.getElem?_eq_some_iff.mp hC
      rw [List.getElem_range] at hc
      subst hc
      subst hY
      exact ⟨[some (.ref a), some (.int (i : Nat))], rfl, fun Kk h => h, by rw [List.length_range] at hlt; exact hlt, rfl⟩)
    (fun c σ' G H' hC hS g => et_yes (g.ok o)) (fun c σ' G G' e h => h) (fun c σ' G H' hC _ hS' g => by
      obtain ⟨hc, rfl⟩ := hS'
      have oG := g.ok o
      exact ev_potted (K := K) (a := a) (ns := ns) (i := (c : Nat)) (R := Is (.bl true)) oG (by omega) (by omega) (ea_cons oG Sc.mo (ev_var (i := 0) (R := Sc K a (ns.map V.int)) oG Sc.mo rfl ⟨rfl, g.g.ff.seq hS⟩) (ea_cons oG (Is.mo _) (ev_var oG (Is.mo _) rfl rfl) (ea_nil oG))))
  rw [filter_tt] at hl
  have hl2 : EvW W0 (Li (((List.range n.toNat).map fun _ => true).map fun b => Is (.bl b))) (tLc (iRng1 (t_cells K 5)) (gName 1) tYes (tCall (spRight22 K) [] E0 (tCons (tCall (spPot K) [] E0 (tCons (tVar 0) (tCons (tVar 1) tNil))) tNil)) [1]) [some (.ref a), none] H H := by
    rw [List.map_map]
    exact hl
  have ha := ev_cb o (ea_cons o (Li.mo (mos_map (f := fun b : Bool => Is (.bl b)) (fun _ => Is.mo _) _)) hl2 (ea_nil o)) (ca_all (K := K))
  refine q_ret o ha fun v F3 H3 g3 r => ?_
  have e : (((List.range n.toNat).map fun _ => true).all id) = true := by simp
  rw [e] at r
  obtain rfl : v = .bl true := r
  exact q H3
end QW

set_option Elab.async false
set_option linter.all false
set_option maxRecDepth 100000
set_option maxHeartbeats 0
namespace K22
open PySem PySem.Spec PyProof.Rows L2
abbrev prog : Program := PySem.Challenge.pw_agreeingcasts_k22_paths_judged
def top (i : Nat) : Stmt := prog.main.body.getD i (.Pass ⟨0, 0, 0, 0⟩)
def dF (x : Str) (st : Stmt) : He.DefD := ⟨(x, none), x, x, defArgs st, defBody st, defScope st, [], []⟩
def dM (c m q : Str) (st : Stmt) : He.DefD := ⟨(c, some m), m, q, defArgs st, defBody st, defScope st, [], []⟩
def veL : List Value := [.type "ValueError", .type "Exception", .type "BaseException", .type "object"]
def leL : List Value := [.type "LookupError", .type "Exception", .type "BaseException", .type "object"]
def reL : List Value := [.type "RuntimeError", .type "Exception", .type "BaseException", .type "object"]
def aeL : List Value := [.type "ArithmeticError", .type "Exception", .type "BaseException", .type "object"]
def fn : List He.DefD := [
  dF "require_types" (top 10),
  dF "walked" (top 11),
  dF "is_path" (top 12),
  dF "is_name" (top 16),
  dF "split_text" (top 19),
  dF "type_words" (top 20),
  dF "cast_words" (top 21),
  dF "version_words" (top 22),
  dF "scheme_words" (top 23),
  dF "words_text" (top 24),
  dF "is_list_of" (top 27),
  dF "is_one_of" (top 28),
  dF "is_argument_tuple" (top 29),
  dF "_law_pot" (top 33),
  dF "_law_draw" (top 34),
  dF "_law_choice" (top 35),
  dF "_law_mixed" (top 36),
  dF "_law_word" (top 37),
  dF "_law_words" (top 38),
  dF "_law_scheme" (top 39),
  dF "_law_handed" (top 40),
  dF "_law_made" (top 41),
  dF "_law_paths" (top 42),
  dF "_law_leads" (top 43),
  dF "_law_odd" (top 44),
  dF "_law_right" (top 45),
  dF "law" (top 46),
  dM "InvalidScheme" "__init__" "InvalidScheme.__init__" (inClass (top 3) 0),
  dM "InvalidText" "__init__" "InvalidText.__init__" (inClass (top 4) 0),
  dM "UnknownType" "__init__" "UnknownType.__init__" (inClass (top 5) 0),
  dM "UnknownCast" "__init__" "UnknownCast.__init__" (inClass (top 6) 0),
  dM "UnknownVersion" "__init__" "UnknownVersion.__init__" (inClass (top 7) 0),
  dM "UnknownOperator" "__init__" "UnknownOperator.__init__" (inClass (top 8) 0),
  dM "TypeOrder" "__init__" "TypeOrder.__init__" (inClass (top 30) 0),
  dM "TypeOrder" "is_at_or_below" "TypeOrder.is_at_or_below" (inClass (top 30) 1),
  dM "TypeOrder" "would_cycle" "TypeOrder.would_cycle" (inClass (top 30) 2),
  dM "TypeOrder" "connect" "TypeOrder.connect" (inClass (top 30) 3),
  ⟨("Scheme", some "__init__"), "__init__", "Scheme.__init__", defArgs (inClass (top 31) 3), defBody (inClass (top 31) 3), defScope (inClass (top 31) 3), [.adr (He.dflAt ("Scheme", some "__init__") 0), .adr (He.dflAt ("Scheme", some "__init__") 1), .adr (He.dflAt ("Scheme", some "__init__") 2)], []⟩,
  dM "Scheme" "take_types" "Scheme.take_types" (inClass (top 31) 6),
  dM "Scheme" "is_cast_row" "Scheme.is_cast_row" (inClass (top 31) 7),
  dM "Scheme" "take_casts" "Scheme.take_casts" (inClass (top 31) 8),
  dM "Scheme" "is_version_row" "Scheme.is_version_row" (inClass (top 31) 9),
  dM "Scheme" "take_versions" "Scheme.take_versions" (inClass (top 31) 10),
  dM "Scheme" "types" "Scheme.types" (inClass (top 31) 11),
  dM "Scheme" "casts" "Scheme.casts" (inClass (top 31) 12),
  dM "Scheme" "versions" "Scheme.versions" (inClass (top 31) 13),
  dM "Scheme" "operators" "Scheme.operators" (inClass (top 31) 14),
  dM "Scheme" "has_type" "Scheme.has_type" (inClass (top 31) 15),
  dM "Scheme" "has_cast" "Scheme.has_cast" (inClass (top 31) 16),
  dM "Scheme" "has_version" "Scheme.has_version" (inClass (top 31) 17),
  dM "Scheme" "require_type" "Scheme.require_type" (inClass (top 31) 18),
  dM "Scheme" "cast" "Scheme.cast" (inClass (top 31) 19),
  dM "Scheme" "version" "Scheme.version" (inClass (top 31) 20),
  dM "Scheme" "arity" "Scheme.arity" (inClass (top 31) 22),
  dM "Scheme" "is_at_or_below" "Scheme.is_at_or_below" (inClass (top 31) 23),
  dM "Scheme" "above" "Scheme.above" (inClass (top 31) 24),
  dM "Scheme" "below" "Scheme.below" (inClass (top 31) 25),
  dM "Scheme" "__eq__" "Scheme.__eq__" (inClass (top 31) 37),
  dM "Scheme" "__len__" "Scheme.__len__" (inClass (top 31) 38),
  dM "Scheme" "__repr__" "Scheme.__repr__" (inClass (top 31) 39),
  dM "Scheme" "__str__" "Scheme.__str__" (inClass (top 31) 40)]
def fs : List QH.Fb := [
  QH.sysB,
  QH.exM,
  QH.frees ((["LookupError", "ValueError", "abs", "all", "classmethod", "dict", "divmod", "enumerate", "isinstance", "len", "list", "max", "min", "range", "repr", "sorted", "str", "tuple"] : List PySem.Str)),
  QH.glo "require_types",
  QH.glo "walked",
  QH.glo "is_path",
  QH.glo "is_name",
  QH.glo "split_text",
  QH.glo "type_words",
  QH.glo "cast_words",
  QH.glo "version_words",
  QH.glo "scheme_words",
  QH.glo "words_text",
  QH.glo "is_list_of",
  QH.glo "is_one_of",
  QH.glo "is_argument_tuple",
  QH.glo "_law_pot",
  QH.glo "_law_draw",
  QH.glo "_law_choice",
  QH.glo "_law_mixed",
  QH.glo "_law_word",
  QH.glo "_law_words",
  QH.glo "_law_scheme",
  QH.glo "_law_handed",
  QH.glo "_law_made",
  QH.glo "_law_paths",
  QH.glo "_law_leads",
  QH.glo "_law_odd",
  QH.glo "_law_right",
  QH.glo "law",
  QH.glo "CastError",
  QH.glo "InvalidScheme",
  QH.glo "InvalidText",
  QH.glo "UnknownType",
  QH.glo "UnknownCast",
  QH.glo "UnknownVersion",
  QH.glo "UnknownOperator",
  QH.glo "SchemeReader",
  QH.glo "TypeOrder",
  QH.glo "Scheme",
  QH.fa (.str "LETTERS" "abcdefghijklmnopqrstuvwxyz"),
  QH.fa (.int "MOST_LETTERS" 8),
  QH.exc "InvalidScheme" "ValueError.__new__" veL,
  QH.ini "InvalidScheme" ["problem", "position"],
  QH.exc "InvalidText" "ValueError.__new__" veL,
  QH.ini "InvalidText" ["line"],
  QH.exc "UnknownType" "LookupError.__new__" leL,
  QH.ini "UnknownType" ["value"],
  QH.exc "UnknownCast" "LookupError.__new__" leL,
  QH.ini "UnknownCast" ["value"],
  QH.exc "UnknownVersion" "LookupError.__new__" leL,
  QH.ini "UnknownVersion" ["value"],
  QH.exc "UnknownOperator" "LookupError.__new__" leL,
  QH.ini "UnknownOperator" ["value"],
  QH.fa (.cls "TypeOrder"),
  QH.fa (.noat "TypeOrder" "own_ups"),
  QH.fa (.mkr "TypeOrder"),
  QH.fa (.meth "TypeOrder" "is_at_or_below"),
  QH.fa (.meth "TypeOrder" "would_cycle"),
  QH.fa (.meth "TypeOrder" "connect"),
  QH.fa (.cls "Scheme"),
  QH.fa (.noat "Scheme" "own_types"),
  QH.fa (.noat "Scheme" "own_casts"),
  QH.fa (.noat "Scheme" "own_versions"),
  QH.fa (.noat "Scheme" "own_arities"),
  QH.fa (.noat "Scheme" "own_order"),
  QH.fa (.noat "Scheme" "own_text"),
  QH.fa (.mkr "Scheme"),
  QH.fa (.meth "Scheme" "take_types"),
  QH.fa (.meth "Scheme" "is_cast_row"),
  QH.fa (.meth "Scheme" "take_casts"),
  QH.fa (.meth "Scheme" "is_version_row"),
  QH.fa (.meth "Scheme" "take_versions"),
  QH.fa (.meth "Scheme" "types"),
  QH.fa (.meth "Scheme" "casts"),
  QH.fa (.meth "Scheme" "versions"),
  QH.fa (.meth "Scheme" "operators"),
  QH.fa (.meth "Scheme" "has_type"),
  QH.fa (.meth "Scheme" "has_cast"),
  QH.fa (.meth "Scheme" "has_version"),
  QH.fa (.meth "Scheme" "require_type"),
  QH.fa (.meth "Scheme" "cast"),
  QH.fa (.meth "Scheme" "version"),
  QH.fa (.meth "Scheme" "arity"),
  QH.fa (.meth "Scheme" "is_at_or_below"),
  QH.fa (.meth "Scheme" "above"),
  QH.fa (.meth "Scheme" "below"),
  QH.fa (.meth "Scheme" "__eq__"),
  QH.fa (.meth "Scheme" "__len__"),
  QH.fa (.meth "Scheme" "__repr__"),
  QH.fa (.meth "Scheme" "__str__"),
  QH.cint "Scheme" "MAX_TYPES" 10,
  QH.cint "Scheme" "MAX_CASTS" 20,
  QH.cint "Scheme" "MAX_VERSIONS" 16,
  QH.cre "CastError" "__init__" "ValueError.__init__",
  (fun K => QH.clsV (.type "LookupError") (.type "type") "__init__" "LookupError.__init__" K)]
abbrev R : PySem.W.OpenRow := PySem.W.OpenLaw.row PySem.Challenge.rw_agreeingcasts_k22_paths_judged
abbrev hk : PySem.W.Hook := QH.hookQ 5 fs fn
def ob (s : PySem.W.SharedT) : QH.AlQ := QH.obsQG 5 fs fn (HandSHeadRun.getT s)
theorem ob_eq (s : PySem.W.SharedT) : ob s = hk.obs s.abs := QH.obsQG_eq (HandSHeadRun.getT_eq s)
def loose : List PySem.Str := (["_wall", "CastError", "InvalidScheme", "InvalidText", "UnknownType", "UnknownCast", "UnknownVersion", "UnknownOperator", "require_types", "walked", "is_path", "LETTERS", "MOST_LETTERS", "is_name", "KINDS", "split_text", "type_words", "cast_words", "version_words", "scheme_words", "words_text", "SchemeReader", "is_list_of", "is_one_of", "is_argument_tuple", "TypeOrder", "Scheme", "_law_pot", "_law_draw", "_law_choice"] : List PySem.Str) ++ (["_law_mixed", "_law_word", "_law_words", "_law_scheme", "_law_handed", "_law_made", "_law_paths", "_law_leads", "_law_odd", "_law_right"] : List PySem.Str)
theorem run (w : World) : HandSHeadRun.RunEq R (PySem.W.view R.prog [46]) hk ob 12000 loose w := by
  intro os
  kernel_rfl
end K22

set_option Elab.async false
set_option linter.all false
set_option maxRecDepth 100000
set_option maxHeartbeats 1000000
namespace K22
open PySem PySem.Spec PyProof.Rows L2
/-- what is known of the module -/
structure T (K : PySem.W.Frag) (mg : Str → Option Value) (base : Heap) : Prop where
  c : QH.Says fs fn K
  X : K.In base
  G : base.Ns mainGlobals mg
section
variable {P : Program} {w : World} {K : PySem.W.Frag} {mg : Str → Option Value} {base : Heap}
theorem n_LookupError (t : T K mg base) : mg "LookupError" = none := QH.frees_ok t.X t.G (t.c.fact 2 (f := QH.frees ((["LookupError", "ValueError", "abs", "all", "classmethod", "dict", "divmod", "enumerate", "isinstance", "len", "list", "max", "min", "range", "repr", "sorted", "str", "tuple"] : List PySem.Str))) rfl) (by decide)
theorem n_ValueError (t : T K mg base) : mg "ValueError" = none := QH.frees_ok t.X t.G (t.c.fact 2 (f := QH.frees ((["LookupError", "ValueError", "abs", "all", "classmethod", "dict", "divmod", "enumerate", "isinstance", "len", "list", "max", "min", "range", "repr", "sorted", "str", "tuple"] : List PySem.Str))) rfl) (by decide)
theorem n_abs (t : T K mg base) : mg "abs" = none := QH.frees_ok t.X t.G (t.c.fact 2 (f := QH.frees ((["LookupError", "ValueError", "abs", "all", "classmethod", "dict", "divmod", "enumerate", "isinstance", "len", "list", "max", "min", "range", "repr", "sorted", "str", "tuple"] : List PySem.Str))) rfl) (by decide)
theorem n_all (t : T K mg base) : mg "all" = none := QH.frees_ok t.X t.G (t.c.fact 2 (f := QH.frees ((["LookupError", "ValueError", "abs", "all", "classmethod", "dict", "divmod", "enumerate", "isinstance", "len", "list", "max", "min", "range", "repr", "sorted", "str", "tuple"] : List PySem.Str))) rfl) (by decide)
theorem n_classmethod (t : T K mg base) : mg "classmethod" = none := QH.frees_ok t.X t.G (t.c.fact 2 (f := QH.frees ((["LookupError", "ValueError", "abs", "all", "classmethod", "dict", "divmod", "enumerate", "isinstance", "len", "list", "max", "min", "range", "repr", "sorted", "str", "tuple"] : List PySem.Str))) rfl) (by decide)
theorem n_dict (t : T K mg base) : mg "dict" = none := QH.frees_ok t.X t.G (t.c.fact 2 (f := QH.frees ((["LookupError", "ValueError", "abs", "all", "classmethod", "dict", "divmod", "enumerate", "isinstance", "len", "list", "max", "min", "range", "repr", "sorted", "str", "tuple"] : List PySem.Str))) rfl) (by decide)
theorem n_divmod (t : T K mg base) : mg "divmod" = none := QH.frees_ok t.X t.G (t.c.fact 2 (f := QH.frees ((["LookupError", "ValueError", "abs", "all", "classmethod", "dict", "divmod", "enumerate", "isinstance", "len", "list", "max", "min", "range", "repr", "sorted", "str", "tuple"] : List PySem.Str))) rfl) (by decide)
theorem n_enumerate (t : T K mg base) : mg "enumerate" = none := QH.frees_ok t.X t.G (t.c.fact 2 (f := QH.frees ((["LookupError", "ValueError", "abs", "all", "classmethod", "dict", "divmod", "enumerate", "isinstance", "len", "list", "max", "min", "range", "repr", "sorted", "str", "tuple"] : List PySem.Str))) rfl) (by decide)
theorem n_isinstance (t : T K mg base) : mg "isinstance" = none := QH.frees_ok t.X t.G (t.c.fact 2 (f := QH.frees ((["LookupError", "ValueError", "abs", "all", "classmethod", "dict", "divmod", "enumerate", "isinstance", "len", "list", "max", "min", "range", "repr", "sorted", "str", "tuple"] : List PySem.Str))) rfl) (by decide)
theorem n_len (t : T K mg base) : mg "len" = none := QH.frees_ok t.X t.G (t.c.fact 2 (f := QH.frees ((["LookupError", "ValueError", "abs", "all", "classmethod", "dict", "divmod", "enumerate", "isinstance", "len", "list", "max", "min", "range", "repr", "sorted", "str", "tuple"] : List PySem.Str))) rfl) (by decide)
theorem n_list (t : T K mg base) : mg "list" = none := QH.frees_ok t.X t.G (t.c.fact 2 (f := QH.frees ((["LookupError", "ValueError", "abs", "all", "classmethod", "dict", "divmod", "enumerate", "isinstance", "len", "list", "max", "min", "range", "repr", "sorted", "str", "tuple"] : List PySem.Str))) rfl) (by decide)
theorem n_max (t : T K mg base) : mg "max" = none := QH.frees_ok t.X t.G (t.c.fact 2 (f := QH.frees ((["LookupError", "ValueError", "abs", "all", "classmethod", "dict", "divmod", "enumerate", "isinstance", "len", "list", "max", "min", "range", "repr", "sorted", "str", "tuple"] : List PySem.Str))) rfl) (by decide)
theorem n_min (t : T K mg base) : mg "min" = none := QH.frees_ok t.X t.G (t.c.fact 2 (f := QH.frees ((["LookupError", "ValueError", "abs", "all", "classmethod", "dict", "divmod", "enumerate", "isinstance", "len", "list", "max", "min", "range", "repr", "sorted", "str", "tuple"] : List PySem.Str))) rfl) (by decide)
theorem n_range (t : T K mg base) : mg "range" = none := QH.frees_ok t.X t.G (t.c.fact 2 (f := QH.frees ((["LookupError", "ValueError", "abs", "all", "classmethod", "dict", "divmod", "enumerate", "isinstance", "len", "list", "max", "min", "range", "repr", "sorted", "str", "tuple"] : List PySem.Str))) rfl) (by decide)
theorem n_repr (t : T K mg base) : mg "repr" = none := QH.frees_ok t.X t.G (t.c.fact 2 (f := QH.frees ((["LookupError", "ValueError", "abs", "all", "classmethod", "dict", "divmod", "enumerate", "isinstance", "len", "list", "max", "min", "range", "repr", "sorted", "str", "tuple"] : List PySem.Str))) rfl) (by decide)
theorem n_sorted (t : T K mg base) : mg "sorted" = none := QH.frees_ok t.X t.G (t.c.fact 2 (f := QH.frees ((["LookupError", "ValueError", "abs", "all", "classmethod", "dict", "divmod", "enumerate", "isinstance", "len", "list", "max", "min", "range", "repr", "sorted", "str", "tuple"] : List PySem.Str))) rfl) (by decide)
theorem n_str (t : T K mg base) : mg "str" = none := QH.frees_ok t.X t.G (t.c.fact 2 (f := QH.frees ((["LookupError", "ValueError", "abs", "all", "classmethod", "dict", "divmod", "enumerate", "isinstance", "len", "list", "max", "min", "range", "repr", "sorted", "str", "tuple"] : List PySem.Str))) rfl) (by decide)
theorem n_tuple (t : T K mg base) : mg "tuple" = none := QH.frees_ok t.X t.G (t.c.fact 2 (f := QH.frees ((["LookupError", "ValueError", "abs", "all", "classmethod", "dict", "divmod", "enumerate", "isinstance", "len", "list", "max", "min", "range", "repr", "sorted", "str", "tuple"] : List PySem.Str))) rfl) (by decide)
theorem exm (t : T K mg base) : QE.ExM K := QH.exM_ok (t.c.fact 1 (f := QH.exM) rfl)
theorem sysk (t : T K mg base) : QR.SysK K := QH.sysB_ok (t.c.fact 0 (f := QH.sysB) rfl)
theorem g_require_types (t : T K mg base) : mg "require_types" = some (.ref (He.ga K "require_types")) := QH.glo_ok t.X t.G (t.c.fact 3 (f := QH.glo "require_types") rfl)
theorem g_walked (t : T K mg base) : mg "walked" = some (.ref (He.ga K "walked")) := QH.glo_ok t.X t.G (t.c.fact 4 (f := QH.glo "walked") rfl)
theorem g_is_path (t : T K mg base) : mg "is_path" = some (.ref (He.ga K "is_path")) := QH.glo_ok t.X t.G (t.c.fact 5 (f := QH.glo "is_path") rfl)
theorem g_is_name (t : T K mg base) : mg "is_name" = some (.ref (He.ga K "is_name")) := QH.glo_ok t.X t.G (t.c.fact 6 (f := QH.glo "is_name") rfl)
theorem g_split_text (t : T K mg base) : mg "split_text" = some (.ref (He.ga K "split_text")) := QH.glo_ok t.X t.G (t.c.fact 7 (f := QH.glo "split_text") rfl)
theorem g_type_words (t : T K mg base) : mg "type_words" = some (.ref (He.ga K "type_words")) := QH.glo_ok t.X t.G (t.c.fact 8 (f := QH.glo "type_words") rfl)
theorem g_cast_words (t : T K mg base) : mg "cast_words" = some (.ref (He.ga K "cast_words")) := QH.glo_ok t.X t.G (t.c.fact 9 (f := QH.glo "cast_words") rfl)
theorem g_version_words (t : T K mg base) : mg "version_words" = some (.ref (He.ga K "version_words")) := QH.glo_ok t.X t.G (t.c.fact 10 (f := QH.glo "version_words") rfl)
theorem g_scheme_words (t : T K mg base) : mg "scheme_words" = some (.ref (He.ga K "scheme_words")) := QH.glo_ok t.X t.G (t.c.fact 11 (f := QH.glo "scheme_words") rfl)
theorem g_words_text (t : T K mg base) : mg "words_text" = some (.ref (He.ga K "words_text")) := QH.glo_ok t.X t.G (t.c.fact 12 (f := QH.glo "words_text") rfl)
theorem g_is_list_of (t : T K mg base) : mg "is_list_of" = some (.ref (He.ga K "is_list_of")) := QH.glo_ok t.X t.G (t.c.fact 13 (f := QH.glo "is_list_of") rfl)
theorem g_is_one_of (t : T K mg base) : mg "is_one_of" = some (.ref (He.ga K "is_one_of")) := QH.glo_ok t.X t.G (t.c.fact 14 (f := QH.glo "is_one_of") rfl)
theorem g_is_argument_tuple (t : T K mg base) : mg "is_argument_tuple" = some (.ref (He.ga K "is_argument_tuple")) := QH.glo_ok t.X t.G (t.c.fact 15 (f := QH.glo "is_argument_tuple") rfl)
theorem g__law_pot (t : T K mg base) : mg "_law_pot" = some (.ref (He.ga K "_law_pot")) := QH.glo_ok t.X t.G (t.c.fact 16 (f := QH.glo "_law_pot") rfl)
theorem g__law_draw (t : T K mg base) : mg "_law_draw" = some (.ref (He.ga K "_law_draw")) := QH.glo_ok t.X t.G (t.c.fact 17 (f := QH.glo "_law_draw") rfl)
theorem g__law_choice (t : T K mg base) : mg "_law_choice" = some (.ref (He.ga K "_law_choice")) := QH.glo_ok t.X t.G (t.c.fact 18 (f := QH.glo "_law_choice") rfl)
theorem g__law_mixed (t : T K mg base) : mg "_law_mixed" = some (.ref (He.ga K "_law_mixed")) := QH.glo_ok t.X t.G (t.c.fact 19 (f := QH.glo "_law_mixed") rfl)
theorem g__law_word (t : T K mg base) : mg "_law_word" = some (.ref (He.ga K "_law_word")) := QH.glo_ok t.X t.G (t.c.fact 20 (f := QH.glo "_law_word") rfl)
theorem g__law_words (t : T K mg base) : mg "_law_words" = some (.ref (He.ga K "_law_words")) := QH.glo_ok t.X t.G (t.c.fact 21 (f := QH.glo "_law_words") rfl)
theorem g__law_scheme (t : T K mg base) : mg "_law_scheme" = some (.ref (He.ga K "_law_scheme")) := QH.glo_ok t.X t.G (t.c.fact 22 (f := QH.glo "_law_scheme") rfl)
theorem g__law_handed (t : T K mg base) : mg "_law_handed" = some (.ref (He.ga K "_law_handed")) := QH.glo_ok t.X t.G (t.c.fact 23 (f := QH.glo "_law_handed") rfl)
theorem g__law_made (t : T K mg base) : mg "_law_made" = some (.ref (He.ga K "_law_made")) := QH.glo_ok t.X t.G (t.c.fact 24 (f := QH.glo "_law_made") rfl)
theorem g__law_paths (t : T K mg base) : mg "_law_paths" = some (.ref (He.ga K "_law_paths")) := QH.glo_ok t.X t.G (t.c.fact 25 (f := QH.glo "_law_paths") rfl)
theorem g__law_leads (t : T K mg base) : mg "_law_leads" = some (.ref (He.ga K "_law_leads")) := QH.glo_ok t.X t.G (t.c.fact 26 (f := QH.glo "_law_leads") rfl)
theorem g__law_odd (t : T K mg base) : mg "_law_odd" = some (.ref (He.ga K "_law_odd")) := QH.glo_ok t.X t.G (t.c.fact 27 (f := QH.glo "_law_odd") rfl)
theorem g__law_right (t : T K mg base) : mg "_law_right" = some (.ref (He.ga K "_law_right")) := QH.glo_ok t.X t.G (t.c.fact 28 (f := QH.glo "_law_right") rfl)
theorem g_law (t : T K mg base) : mg "law" = some (.ref (He.ga K "law")) := QH.glo_ok t.X t.G (t.c.fact 29 (f := QH.glo "law") rfl)
theorem g_CastError (t : T K mg base) : mg "CastError" = some (.ref (He.ga K "CastError")) := QH.glo_ok t.X t.G (t.c.fact 30 (f := QH.glo "CastError") rfl)
theorem g_InvalidScheme (t : T K mg base) : mg "InvalidScheme" = some (.ref (He.ga K "InvalidScheme")) := QH.glo_ok t.X t.G (t.c.fact 31 (f := QH.glo "InvalidScheme") rfl)
theorem g_InvalidText (t : T K mg base) : mg "InvalidText" = some (.ref (He.ga K "InvalidText")) := QH.glo_ok t.X t.G (t.c.fact 32 (f := QH.glo "InvalidText") rfl)
theorem g_UnknownType (t : T K mg base) : mg "UnknownType" = some (.ref (He.ga K "UnknownType")) := QH.glo_ok t.X t.G (t.c.fact 33 (f := QH.glo "UnknownType") rfl)
theorem g_UnknownCast (t : T K mg base) : mg "UnknownCast" = some (.ref (He.ga K "UnknownCast")) := QH.glo_ok t.X t.G (t.c.fact 34 (f := QH.glo "UnknownCast") rfl)
theorem g_UnknownVersion (t : T K mg base) : mg "UnknownVersion" = some (.ref (He.ga K "UnknownVersion")) := QH.glo_ok t.X t.G (t.c.fact 35 (f := QH.glo "UnknownVersion") rfl)
theorem g_UnknownOperator (t : T K mg base) : mg "UnknownOperator" = some (.ref (He.ga K "UnknownOperator")) := QH.glo_ok t.X t.G (t.c.fact 36 (f := QH.glo "UnknownOperator") rfl)
theorem g_SchemeReader (t : T K mg base) : mg "SchemeReader" = some (.ref (He.ga K "SchemeReader")) := QH.glo_ok t.X t.G (t.c.fact 37 (f := QH.glo "SchemeReader") rfl)
theorem g_TypeOrder (t : T K mg base) : mg "TypeOrder" = some (.ref (He.ga K "TypeOrder")) := QH.glo_ok t.X t.G (t.c.fact 38 (f := QH.glo "TypeOrder") rfl)
theorem g_Scheme (t : T K mg base) : mg "Scheme" = some (.ref (He.ga K "Scheme")) := QH.glo_ok t.X t.G (t.c.fact 39 (f := QH.glo "Scheme") rfl)
theorem k_LETTERS (t : T K mg base) : ∃ u, mg "LETTERS" = some (.str "abcdefghijklmnopqrstuvwxyz" u) := He.str_ok t.X t.G (QH.fa_ok (t.c.fact 40 (f := QH.fa (.str "LETTERS" "abcdefghijklmnopqrstuvwxyz")) rfl))
theorem k_MOST_LETTERS (t : T K mg base) : ∃ u, mg "MOST_LETTERS" = some (.int 8 u) := He.int_ok t.X t.G (QH.fa_ok (t.c.fact 41 (f := QH.fa (.int "MOST_LETTERS" 8)) rfl))
theorem cl_TypeOrder (t : T K mg base) : Cls K (He.ga K "TypeOrder") := He.cls_ok (QH.fa_ok (t.c.fact 54 (f := QH.fa (.cls "TypeOrder")) rfl))
theorem no_TypeOrder_own_ups (t : T K mg base) : NoAttr K (He.ga K "TypeOrder") "own_ups" := He.noat_ok (QH.fa_ok (t.c.fact 55 (f := QH.fa (.noat "TypeOrder" "own_ups")) rfl))
theorem mk_TypeOrder (t : T K mg base) : Mk K (He.ga K "TypeOrder") (He.ma K (He.ga K "TypeOrder") "__init__") := He.mkr_ok (QH.fa_ok (t.c.fact 56 (f := QH.fa (.mkr "TypeOrder")) rfl))
theorem me_TypeOrder_is_at_or_below (t : T K mg base) : Meth K (He.ga K "TypeOrder") "is_at_or_below" (He.ma K (He.ga K "TypeOrder") "is_at_or_below") := He.meth_ok (QH.fa_ok (t.c.fact 57 (f := QH.fa (.meth "TypeOrder" "is_at_or_below")) rfl))
theorem me_TypeOrder_would_cycle (t : T K mg base) : Meth K (He.ga K "TypeOrder") "would_cycle" (He.ma K (He.ga K "TypeOrder") "would_cycle") := He.meth_ok (QH.fa_ok (t.c.fact 58 (f := QH.fa (.meth "TypeOrder" "would_cycle")) rfl))
theorem me_TypeOrder_connect (t : T K mg base) : Meth K (He.ga K "TypeOrder") "connect" (He.ma K (He.ga K "TypeOrder") "connect") := He.meth_ok (QH.fa_ok (t.c.fact 59 (f := QH.fa (.meth "TypeOrder" "connect")) rfl))
theorem cl_Scheme (t : T K mg base) : Cls K (He.ga K "Scheme") := He.cls_ok (QH.fa_ok (t.c.fact 60 (f := QH.fa (.cls "Scheme")) rfl))
theorem no_Scheme_own_types (t : T K mg base) : NoAttr K (He.ga K "Scheme") "own_types" := He.noat_ok (QH.fa_ok (t.c.fact 61 (f := QH.fa (.noat "Scheme" "own_types")) rfl))
theorem no_Scheme_own_casts (t : T K mg base) : NoAttr K (He.ga K "Scheme") "own_casts" := He.noat_ok (QH.fa_ok (t.c.fact 62 (f := QH.fa (.noat "Scheme" "own_casts")) rfl))
theorem no_Scheme_own_versions (t : T K mg base) : NoAttr K (He.ga K "Scheme") "own_versions" := He.noat_ok (QH.fa_ok (t.c.fact 63 (f := QH.fa (.noat "Scheme" "own_versions")) rfl))
theorem no_Scheme_own_arities (t : T K mg base) : NoAttr K (He.ga K "Scheme") "own_arities" := He.noat_ok (QH.fa_ok (t.c.fact 64 (f := QH.fa (.noat "Scheme" "own_arities")) rfl))
theorem no_Scheme_own_order (t : T K mg base) : NoAttr K (He.ga K "Scheme") "own_order" := He.noat_ok (QH.fa_ok (t.c.fact 65 (f := QH.fa (.noat "Scheme" "own_order")) rfl))
theorem no_Scheme_own_text (t : T K mg base) : NoAttr K (He.ga K "Scheme") "own_text" := He.noat_ok (QH.fa_ok (t.c.fact 66 (f := QH.fa (.noat "Scheme" "own_text")) rfl))
theorem mk_Scheme (t : T K mg base) : Mk K (He.ga K "Scheme") (He.ma K (He.ga K "Scheme") "__init__") := He.mkr_ok (QH.fa_ok (t.c.fact 67 (f := QH.fa (.mkr "Scheme")) rfl))
theorem me_Scheme_take_types (t : T K mg base) : Meth K (He.ga K "Scheme") "take_types" (He.ma K (He.ga K "Scheme") "take_types") := He.meth_ok (QH.fa_ok (t.c.fact 68 (f := QH.fa (.meth "Scheme" "take_types")) rfl))
theorem me_Scheme_is_cast_row (t : T K mg base) : Meth K (He.ga K "Scheme") "is_cast_row" (He.ma K (He.ga K "Scheme") "is_cast_row") := He.meth_ok (QH.fa_ok (t.c.fact 69 (f := QH.fa (.meth "Scheme" "is_cast_row")) rfl))
theorem me_Scheme_take_casts (t : T K mg base) : Meth K (He.ga K "Scheme") "take_casts" (He.ma K (He.ga K "Scheme") "take_casts") := He.meth_ok (QH.fa_ok (t.c.fact 70 (f := QH.fa (.meth "Scheme" "take_casts")) rfl))
theorem me_Scheme_is_version_row (t : T K mg base) : Meth K (He.ga K "Scheme") "is_version_row" (He.ma K (He.ga K "Scheme") "is_version_row") := He.meth_ok (QH.fa_ok (t.c.fact 71 (f := QH.fa (.meth "Scheme" "is_version_row")) rfl))
theorem me_Scheme_take_versions (t : T K mg base) : Meth K (He.ga K "Scheme") "take_versions" (He.ma K (He.ga K "Scheme") "take_versions") := He.meth_ok (QH.fa_ok (t.c.fact 72 (f := QH.fa (.meth "Scheme" "take_versions")) rfl))
theorem me_Scheme_types (t : T K mg base) : Meth K (He.ga K "Scheme") "types" (He.ma K (He.ga K "Scheme") "types") := He.meth_ok (QH.fa_ok (t.c.fact 73 (f := QH.fa (.meth "Scheme" "types")) rfl))
theorem me_Scheme_casts (t : T K mg base) : Meth K (He.ga K "Scheme") "casts" (He.ma K (He.ga K "Scheme") "casts") := He.meth_ok (QH.fa_ok (t.c.fact 74 (f := QH.fa (.meth "Scheme" "casts")) rfl))
theorem me_Scheme_versions (t : T K mg base) : Meth K (He.ga K "Scheme") "versions" (He.ma K (He.ga K "Scheme") "versions") := He.meth_ok (QH.fa_ok (t.c.fact 75 (f := QH.fa (.meth "Scheme" "versions")) rfl))
theorem me_Scheme_operators (t : T K mg base) : Meth K (He.ga K "Scheme") "operators" (He.ma K (He.ga K "Scheme") "operators") := He.meth_ok (QH.fa_ok (t.c.fact 76 (f := QH.fa (.meth "Scheme" "operators")) rfl))
theorem me_Scheme_has_type (t : T K mg base) : Meth K (He.ga K "Scheme") "has_type" (He.ma K (He.ga K "Scheme") "has_type") := He.meth_ok (QH.fa_ok (t.c.fact 77 (f := QH.fa (.meth "Scheme" "has_type")) rfl))
theorem me_Scheme_has_cast (t : T K mg base) : Meth K (He.ga K "Scheme") "has_cast" (He.ma K (He.ga K "Scheme") "has_cast") := He.meth_ok (QH.fa_ok (t.c.fact 78 (f := QH.fa (.meth "Scheme" "has_cast")) rfl))
theorem me_Scheme_has_version (t : T K mg base) : Meth K (He.ga K "Scheme") "has_version" (He.ma K (He.ga K "Scheme") "has_version") := He.meth_ok (QH.fa_ok (t.c.fact 79 (f := QH.fa (.meth "Scheme" "has_version")) rfl))
theorem me_Scheme_require_type (t : T K mg base) : Meth K (He.ga K "Scheme") "require_type" (He.ma K (He.ga K "Scheme") "require_type") := He.meth_ok (QH.fa_ok (t.c.fact 80 (f := QH.fa (.meth "Scheme" "require_type")) rfl))
theorem me_Scheme_cast (t : T K mg base) : Meth K (He.ga K "Scheme") "cast" (He.ma K (He.ga K "Scheme") "cast") := He.meth_ok (QH.fa_ok (t.c.fact 81 (f := QH.fa (.meth "Scheme" "cast")) rfl))
theorem me_Scheme_version (t : T K mg base) : Meth K (He.ga K "Scheme") "version" (He.ma K (He.ga K "Scheme") "version") := He.meth_ok (QH.fa_ok (t.c.fact 82 (f := QH.fa (.meth "Scheme" "version")) rfl))
theorem me_Scheme_arity (t : T K mg base) : Meth K (He.ga K "Scheme") "arity" (He.ma K (He.ga K "Scheme") "arity") := He.meth_ok (QH.fa_ok (t.c.fact 83 (f := QH.fa (.meth "Scheme" "arity")) rfl))
theorem me_Scheme_is_at_or_below (t : T K mg base) : Meth K (He.ga K "Scheme") "is_at_or_below" (He.ma K (He.ga K "Scheme") "is_at_or_below") := He.meth_ok (QH.fa_ok (t.c.fact 84 (f := QH.fa (.meth "Scheme" "is_at_or_below")) rfl))
theorem me_Scheme_above (t : T K mg base) : Meth K (He.ga K "Scheme") "above" (He.ma K (He.ga K "Scheme") "above") := He.meth_ok (QH.fa_ok (t.c.fact 85 (f := QH.fa (.meth "Scheme" "above")) rfl))
theorem me_Scheme_below (t : T K mg base) : Meth K (He.ga K "Scheme") "below" (He.ma K (He.ga K "Scheme") "below") := He.meth_ok (QH.fa_ok (t.c.fact 86 (f := QH.fa (.meth "Scheme" "below")) rfl))
theorem me_Scheme___eq__ (t : T K mg base) : Meth K (He.ga K "Scheme") "__eq__" (He.ma K (He.ga K "Scheme") "__eq__") := He.meth_ok (QH.fa_ok (t.c.fact 87 (f := QH.fa (.meth "Scheme" "__eq__")) rfl))
theorem me_Scheme___len__ (t : T K mg base) : Meth K (He.ga K "Scheme") "__len__" (He.ma K (He.ga K "Scheme") "__len__") := He.meth_ok (QH.fa_ok (t.c.fact 88 (f := QH.fa (.meth "Scheme" "__len__")) rfl))
theorem me_Scheme___repr__ (t : T K mg base) : Meth K (He.ga K "Scheme") "__repr__" (He.ma K (He.ga K "Scheme") "__repr__") := He.meth_ok (QH.fa_ok (t.c.fact 89 (f := QH.fa (.meth "Scheme" "__repr__")) rfl))
theorem me_Scheme___str__ (t : T K mg base) : Meth K (He.ga K "Scheme") "__str__" (He.ma K (He.ga K "Scheme") "__str__") := He.meth_ok (QH.fa_ok (t.c.fact 90 (f := QH.fa (.meth "Scheme" "__str__")) rfl))
theorem ci_Scheme_MAX_TYPES (t : T K mg base) : ∃ u, PySem.W.findIn K (.ref (He.ga K "Scheme")) "MAX_TYPES" = some (some (.int 10 u)) := QH.cint_ok (t.c.fact 91 (f := QH.cint "Scheme" "MAX_TYPES" 10) rfl)
theorem ci_Scheme_MAX_CASTS (t : T K mg base) : ∃ u, PySem.W.findIn K (.ref (He.ga K "Scheme")) "MAX_CASTS" = some (some (.int 20 u)) := QH.cint_ok (t.c.fact 92 (f := QH.cint "Scheme" "MAX_CASTS" 20) rfl)
theorem ci_Scheme_MAX_VERSIONS (t : T K mg base) : ∃ u, PySem.W.findIn K (.ref (He.ga K "Scheme")) "MAX_VERSIONS" = some (some (.int 16 u)) := QH.cint_ok (t.c.fact 93 (f := QH.cint "Scheme" "MAX_VERSIONS" 16) rfl)
theorem v_LookupError (t : T K mg base) : PySem.W.findCls K (.type "LookupError") (.type "type") "__init__" = some (.val (.builtin "LookupError.__init__")) := QH.clsV_ok (t.c.fact 95 (f := (fun K => QH.clsV (.type "LookupError") (.type "type") "__init__" "LookupError.__init__" K)) rfl)
theorem cre (t : T K mg base) : ClX.CRead K (He.ga K "CastError") (.type "type") ∧ PySem.W.findCls K (.ref (He.ga K "CastError")) (.type "type") "__init__" = some (.val (.builtin "ValueError.__init__")) := QH.cre_ok (t.c.fact 94 (f := QH.cre "CastError" "__init__" "ValueError.__init__") rfl)
theorem x_InvalidScheme (t : T K mg base) : QE.ExB K (He.ga K "InvalidScheme") "ValueError" "ValueError.__new__" "ValueError.__init__" veL := QH.exc_ok PySem.F.excBase_ValueError PySem.F.store_ValueError (t.c.fact 42 (f := QH.exc "InvalidScheme" "ValueError.__new__" veL) rfl)
theorem i_InvalidScheme (t : T K mg base) : PySem.W.findIn K (.ref (He.ga K "InvalidScheme")) "__init__" = some (some (.ref (He.ma K (He.ga K "InvalidScheme") "__init__"))) ∧ PySem.W.typeIn K (.ref (He.ma K (He.ga K "InvalidScheme") "__init__")) = some (.type "function") ∧ ∀ f ∈ (["problem", "position"] : List Str), PySem.W.findIn K (.ref (He.ga K "InvalidScheme")) f = some none := QH.ini_ok (t.c.fact 43 (f := QH.ini "InvalidScheme" ["problem", "position"]) rfl)
theorem si_InvalidScheme : FnScope ["self", "problem", "position"] ["self", "problem", "position"] (defScope (inClass (top 3) 0)) := ⟨rfl, rfl, rfl, by decide +kernel, rfl, by decide +kernel, by decide +kernel⟩
theorem m_InvalidScheme (t : T K mg base) : QE.MkE P w K mg base "InvalidScheme" (He.ga K "InvalidScheme") ["problem", "position"] := by
  obtain ⟨fd, F⟩ := t.c.def_ 27
  exact ⟨_, fd, ["self", "problem", "position"], (x_InvalidScheme t).x, (i_InvalidScheme t).1, (i_InvalidScheme t).2.1, F.ok si_InvalidScheme (QW.spI.len rfl) (fun cdv A outer s H vs Q E hr h => ⟨_, PSs.nox (pss_cons (ps_expr (QE.pe_binit rfl (g_CastError t) (cre t).1 (cre t).2 (pa_cons (pv 0) (pa_cons pe_str pa_nil)))) (pss_cons (QE.ps_st (pv 0) (pv 1)) (pss_one (QE.ps_st (pv 0) (pv 2))))), QW.pure_init2 (x_InvalidScheme t) ((i_InvalidScheme t).2.2 _ (by simp)) ((i_InvalidScheme t).2.2 _ (by simp)) h rfl⟩), F.bindsN (fun _ _ _ _ _ _ us hl => match us, hl with | [_, _, _], _ => rfl), g_InvalidScheme t⟩
theorem x_InvalidText (t : T K mg base) : QE.ExB K (He.ga K "InvalidText") "ValueError" "ValueError.__new__" "ValueError.__init__" veL := QH.exc_ok PySem.F.excBase_ValueError PySem.F.store_ValueError (t.c.fact 44 (f := QH.exc "InvalidText" "ValueError.__new__" veL) rfl)
theorem i_InvalidText (t : T K mg base) : PySem.W.findIn K (.ref (He.ga K "InvalidText")) "__init__" = some (some (.ref (He.ma K (He.ga K "InvalidText") "__init__"))) ∧ PySem.W.typeIn K (.ref (He.ma K (He.ga K "InvalidText") "__init__")) = some (.type "function") ∧ ∀ f ∈ (["line"] : List Str), PySem.W.findIn K (.ref (He.ga K "InvalidText")) f = some none := QH.ini_ok (t.c.fact 45 (f := QH.ini "InvalidText" ["line"]) rfl)
theorem si_InvalidText : FnScope ["self", "line"] ["self", "line"] (defScope (inClass (top 4) 0)) := ⟨rfl, rfl, rfl, by decide +kernel, rfl, by decide +kernel, by decide +kernel⟩
theorem m_InvalidText (t : T K mg base) : QE.MkE P w K mg base "InvalidText" (He.ga K "InvalidText") ["line"] := by
  obtain ⟨fd, F⟩ := t.c.def_ 28
  exact ⟨_, fd, ["self", "line"], (x_InvalidText t).x, (i_InvalidText t).1, (i_InvalidText t).2.1, F.ok si_InvalidText (QW.spI.len rfl) (fun cdv A outer s H vs Q E hr h => ⟨_, PSs.nox (pss_cons (ps_expr (QE.pe_binit rfl (g_CastError t) (cre t).1 (cre t).2 (pa_cons (pv 0) (pa_cons pe_str pa_nil)))) (pss_one (QE.ps_st (pv 0) (pv 1)))), QW.pure_init1 (x_InvalidText t) ((i_InvalidText t).2.2 _ (by simp)) h rfl⟩), F.bindsN (fun _ _ _ _ _ _ us hl => match us, hl with | [_, _], _ => rfl), g_InvalidText t⟩
theorem x_UnknownType (t : T K mg base) : QE.ExB K (He.ga K "UnknownType") "LookupError" "LookupError.__new__" "LookupError.__init__" leL := QH.exc_ok PySem.F.excBase_LookupError PySem.F.store_LookupError (t.c.fact 46 (f := QH.exc "UnknownType" "LookupError.__new__" leL) rfl)
theorem i_UnknownType (t : T K mg base) : PySem.W.findIn K (.ref (He.ga K "UnknownType")) "__init__" = some (some (.ref (He.ma K (He.ga K "UnknownType") "__init__"))) ∧ PySem.W.typeIn K (.ref (He.ma K (He.ga K "UnknownType") "__init__")) = some (.type "function") ∧ ∀ f ∈ (["value"] : List Str), PySem.W.findIn K (.ref (He.ga K "UnknownType")) f = some none := QH.ini_ok (t.c.fact 47 (f := QH.ini "UnknownType" ["value"]) rfl)
theorem si_UnknownType : FnScope ["self", "value"] ["self", "value"] (defScope (inClass (top 5) 0)) := ⟨rfl, rfl, rfl, by decide +kernel, rfl, by decide +kernel, by decide +kernel⟩
theorem m_UnknownType (t : T K mg base) : QE.MkE P w K mg base "UnknownType" (He.ga K "UnknownType") ["value"] := by
  obtain ⟨fd, F⟩ := t.c.def_ 29
  exact ⟨_, fd, ["self", "value"], (x_UnknownType t).x, (i_UnknownType t).1, (i_UnknownType t).2.1, F.ok si_UnknownType (QW.spI.len rfl) (fun cdv A outer s H vs Q E hr h => ⟨_, PSs.nox (pss_cons (ps_expr (QE.pe_tinit (T := "LookupError") rfl (n_LookupError t) (by decide +kernel) QE.ty_LE (by decide +kernel) (v_LookupError t) (pa_cons (pv 0) (pa_cons pe_str pa_nil)))) (pss_one (QE.ps_st (pv 0) (pv 1)))), QW.pure_init1 (x_UnknownType t) ((i_UnknownType t).2.2 _ (by simp)) h rfl⟩), F.bindsN (fun _ _ _ _ _ _ us hl => match us, hl with | [_, _], _ => rfl), g_UnknownType t⟩
theorem x_UnknownCast (t : T K mg base) : QE.ExB K (He.ga K "UnknownCast") "LookupError" "LookupError.__new__" "LookupError.__init__" leL := QH.exc_ok PySem.F.excBase_LookupError PySem.F.store_LookupError (t.c.fact 48 (f := QH.exc "UnknownCast" "LookupError.__new__" leL) rfl)
theorem i_UnknownCast (t : T K mg base) : PySem.W.findIn K (.ref (He.ga K "UnknownCast")) "__init__" = some (some (.ref (He.ma K (He.ga K "UnknownCast") "__init__"))) ∧ PySem.W.typeIn K (.ref (He.ma K (He.ga K "UnknownCast") "__init__")) = some (.type "function") ∧ ∀ f ∈ (["value"] : List Str), PySem.W.findIn K (.ref (He.ga K "UnknownCast")) f = some none := QH.ini_ok (t.c.fact 49 (f := QH.ini "UnknownCast" ["value"]) rfl)
theorem si_UnknownCast : FnScope ["self", "value"] ["self", "value"] (defScope (inClass (top 6) 0)) := ⟨rfl, rfl, rfl, by decide +kernel, rfl, by decide +kernel, by decide +kernel⟩
theorem m_UnknownCast (t : T K mg base) : QE.MkE P w K mg base "UnknownCast" (He.ga K "UnknownCast") ["value"] := by
  obtain ⟨fd, F⟩ := t.c.def_ 30
  exact ⟨_, fd, ["self", "value"], (x_UnknownCast t).x, (i_UnknownCast t).1, (i_UnknownCast t).2.1, F.ok si_UnknownCast (QW.spI.len rfl) (fun cdv A outer s H vs Q E hr h => ⟨_, PSs.nox (pss_cons (ps_expr (QE.pe_tinit (T := "LookupError") rfl (n_LookupError t) (by decide +kernel) QE.ty_LE (by decide +kernel) (v_LookupError t) (pa_cons (pv 0) (pa_cons pe_str pa_nil)))) (pss_one (QE.ps_st (pv 0) (pv 1)))), QW.pure_init1 (x_UnknownCast t) ((i_UnknownCast t).2.2 _ (by simp)) h rfl⟩), F.bindsN (fun _ _ _ _ _ _ us hl => match us, hl with | [_, _], _ => rfl), g_UnknownCast t⟩
theorem x_UnknownVersion (t : T K mg base) : QE.ExB K (He.ga K "UnknownVersion") "LookupError" "LookupError.__new__" "LookupError.__init__" leL := QH.exc_ok PySem.F.excBase_LookupError PySem.F.store_LookupError (t.c.fact 50 (f := QH.exc "UnknownVersion" "LookupError.__new__" leL) rfl)
theorem i_UnknownVersion (t : T K mg base) : PySem.W.findIn K (.ref (He.ga K "UnknownVersion")) "__init__" = some (some (.ref (He.ma K (He.ga K "UnknownVersion") "__init__"))) ∧ PySem.W.typeIn K (.ref (He.ma K (He.ga K "UnknownVersion") "__init__")) = some (.type "function") ∧ ∀ f ∈ (["value"] : List Str), PySem.W.findIn K (.ref (He.ga K "UnknownVersion")) f = some none := QH.ini_ok (t.c.fact 51 (f := QH.ini "UnknownVersion" ["value"]) rfl)
theorem si_UnknownVersion : FnScope ["self", "value"] ["self", "value"] (defScope (inClass (top 7) 0)) := ⟨rfl, rfl, rfl, by decide +kernel, rfl, by decide +kernel, by decide +kernel⟩
theorem m_UnknownVersion (t : T K mg base) : QE.MkE P w K mg base "UnknownVersion" (He.ga K "UnknownVersion") ["value"] := by
  obtain ⟨fd, F⟩ := t.c.def_ 31
  exact ⟨_, fd, ["self", "value"], (x_UnknownVersion t).x, (i_UnknownVersion t).1, (i_UnknownVersion t).2.1, F.ok si_UnknownVersion (QW.spI.len rfl) (fun cdv A outer s H vs Q E hr h => ⟨_, PSs.nox (pss_cons (ps_expr (QE.pe_tinit (T := "LookupError") rfl (n_LookupError t) (by decide +kernel) QE.ty_LE (by decide +kernel) (v_LookupError t) (pa_cons (pv 0) (pa_cons pe_str pa_nil)))) (pss_one (QE.ps_st (pv 0) (pv 1)))), QW.pure_init1 (x_UnknownVersion t) ((i_UnknownVersion t).2.2 _ (by simp)) h rfl⟩), F.bindsN (fun _ _ _ _ _ _ us hl => match us, hl with | [_, _], _ => rfl), g_UnknownVersion t⟩
theorem x_UnknownOperator (t : T K mg base) : QE.ExB K (He.ga K "UnknownOperator") "LookupError" "LookupError.__new__" "LookupError.__init__" leL := QH.exc_ok PySem.F.excBase_LookupError PySem.F.store_LookupError (t.c.fact 52 (f := QH.exc "UnknownOperator" "LookupError.__new__" leL) rfl)
theorem i_UnknownOperator (t : T K mg base) : PySem.W.findIn K (.ref (He.ga K "UnknownOperator")) "__init__" = some (some (.ref (He.ma K (He.ga K "UnknownOperator") "__init__"))) ∧ PySem.W.typeIn K (.ref (He.ma K (He.ga K "UnknownOperator") "__init__")) = some (.type "function") ∧ ∀ f ∈ (["value"] : List Str), PySem.W.findIn K (.ref (He.ga K "UnknownOperator")) f = some none := QH.ini_ok (t.c.fact 53 (f := QH.ini "UnknownOperator" ["value"]) rfl)
theorem si_UnknownOperator : FnScope ["self", "value"] ["self", "value"] (defScope (inClass (top 8) 0)) := ⟨rfl, rfl, rfl, by decide +kernel, rfl, by decide +kernel, by decide +kernel⟩
theorem m_UnknownOperator (t : T K mg base) : QE.MkE P w K mg base "UnknownOperator" (He.ga K "UnknownOperator") ["value"] := by
  obtain ⟨fd, F⟩ := t.c.def_ 32
  exact ⟨_, fd, ["self", "value"], (x_UnknownOperator t).x, (i_UnknownOperator t).1, (i_UnknownOperator t).2.1, F.ok si_UnknownOperator (QW.spI.len rfl) (fun cdv A outer s H vs Q E hr h => ⟨_, PSs.nox (pss_cons (ps_expr (QE.pe_tinit (T := "LookupError") rfl (n_LookupError t) (by decide +kernel) QE.ty_LE (by decide +kernel) (v_LookupError t) (pa_cons (pv 0) (pa_cons pe_str pa_nil)))) (pss_one (QE.ps_st (pv 0) (pv 1)))), QW.pure_init1 (x_UnknownOperator t) ((i_UnknownOperator t).2.2 _ (by simp)) h rfl⟩), F.bindsN (fun _ _ _ _ _ _ us hl => match us, hl with | [_, _], _ => rfl), g_UnknownOperator t⟩
end
end K22

set_option Elab.async false
set_option linter.all false
set_option maxRecDepth 100000
set_option maxHeartbeats 1000000
namespace K22
open PySem PySem.Spec PyProof.Rows L2
section
variable {P : Program} {w : World} {K : PySem.W.Frag} {mg : Str → Option Value} {base : Heap}

theorem s__law_pot : FnScope ["script", "index", "cell"] ["script", "index"] (defScope (top 33)) := ⟨rfl, rfl, rfl, by decide +kernel, rfl, by decide +kernel, by decide +kernel⟩
theorem c__law_pot (t : T K mg base) : QC.Cal P w K mg base (L2.CX P w) 1 "_law_pot" (QW.spPot K) [] := by
  obtain ⟨fd, F⟩ := t.c.def_ 13
  have sc := s__law_pot
  refine QC.cal (k := 0) F (g__law_pot t) (fun _ _ _ _ _ _ us hl => match us, hl with | [_, _], _ => rfl) sc QW.spPot.len (fun cdv A outer s H vs Q E gd hr h => ?_)
  have hu := QC.hu64 hr
  refine ⟨_, PSs.nox (pss_cons (ps_set (i := 2) sc.nd rfl (by first | exact .inl rfl | exact .inr rfl) pe_int)
      (pss_cons (ps_if (pt_cmpR op_lt (pv 1) (pe_callB (QK.call_len_seq (K := K) rfl) rfl (n_len t) (by decide +kernel) (pa_cons (pv 0) pa_nil)) (nomark _)) (pss_one (ps_set (i := 2) sc.nd rfl (by first | exact .inl rfl | exact .inr rfl) (pe_callB call_abs rfl (n_abs t) (by decide +kernel) (pa_cons (pe_ix (QK.ix_list (K := K) rfl) (pv 0) (pv 1) (fun _ _ => rfl)) pa_nil)))) pss_nil)
      (pss_one (ps_ret (pe_lst (pa_cons (pe_callB (call_max2 rfl) rfl (n_max t) (by decide +kernel) (pa_cons pe_int (pa_cons (pe_op op_sub (pv 2) (pe_op op_pow pe_int pe_int)) pa_nil))) (pa_cons (pe_op op_add (pe_op op_mod (pe_op op_pow (pe_op op_add (pe_op op_add (pe_op op_mod (pv 2) pe_int) (pe_op op_mul pe_int (pv 1))) pe_int) pe_int) pe_int) pe_int) pa_nil))))))), ?_⟩
  exact QW.pure_pot h

theorem s__law_draw : FnScope ["pot", "bound", "digit"] ["pot", "bound"] (defScope (top 34)) := ⟨rfl, rfl, rfl, by decide +kernel, rfl, by decide +kernel, by decide +kernel⟩
theorem c__law_draw (t : T K mg base) : QC.Cal P w K mg base (L2.CX P w) 1 "_law_draw" QW.spDraw [] := by
  obtain ⟨fd, F⟩ := t.c.def_ 14
  have sc := s__law_draw
  refine QC.cal (k := 0) F (g__law_draw t) (fun _ _ _ _ _ _ us hl => match us, hl with | [_, _], _ => rfl) sc QW.spDraw.len (fun cdv A outer s H vs Q E gd hr h => ?_)
  have hu := QC.hu64 hr
  refine ⟨_, PSs.nox (pss_cons (ps_if (pt_cmpR op_gt (pe_ix (QK.ix_list (K := K) rfl) (pv 0) pe_int (fun _ _ => rfl)) pe_int (nomark _)) (pss_cons (ps_asg (pe_callB call_divmod rfl (n_divmod t) (by decide +kernel) (pa_cons (pe_ix (QK.ix_list (K := K) rfl) (pv 0) pe_int (fun _ _ => rfl)) (pa_cons (pv 1) pa_nil))) (QK.pg_tup (K := K) (n := 2) rfl rfl (pgs_cons (pg_sub (pv 0) pe_int set_list) (pgs_cons (pg_name (i := 2) sc.nd rfl (by first | exact .inl rfl | exact .inr rfl)) pgs_nil))))
      (pss_one (ps_ret (pv 2)))) pss_nil)
      (pss_cons (ps_asg (pe_op op_mod (pe_op op_add (pe_op op_mul (pe_ix (QK.ix_list (K := K) rfl) (pv 0) pe_int (fun _ _ => rfl)) pe_int) pe_int) pe_int) (pg_sub (pv 0) pe_int set_list))
      (pss_one (ps_ret (pe_op op_mod (pe_op op_fdiv (pe_op op_mod (pe_op op_mul (pe_ix (QK.ix_list (K := K) rfl) (pv 0) pe_int (fun _ _ => rfl)) (pe_ix (QK.ix_list (K := K) rfl) (pv 0) pe_int (fun _ _ => rfl))) pe_int) pe_int) (pv 1)))))), ?_⟩
  exact QW.pure_draw h

theorem s__law_choice : FnScope ["pot", "options"] ["pot", "options"] (defScope (top 35)) := ⟨rfl, rfl, rfl, by decide +kernel, rfl, by decide +kernel, by decide +kernel⟩
theorem c__law_choice (t : T K mg base) : QC.Cal P w K mg base (L2.CX P w) 2 "_law_choice" QW.spChoice [] := by
  obtain ⟨fd, F⟩ := t.c.def_ 15
  have sc := s__law_choice
  refine QC.cal (k := 1) F (g__law_choice t) (fun _ _ _ _ _ _ us hl => match us, hl with | [_, _], _ => rfl) sc QW.spChoice.len (fun cdv A outer s H vs Q E gd hr h => ?_)
  have hu := QC.hu64 hr
  refine ⟨_, PSs.nox (pss_one (ps_ret (pe_ix (QK.ix_list (K := K) rfl) (pv 1) (QC.pe_q (c__law_draw (K := K) t) gd hr (by decide) QC.passE rfl (pa_cons (pv 0) (pa_cons (pe_callB (QK.call_len_seq (K := K) rfl) rfl (n_len t) (by decide +kernel) (pa_cons (pv 1) pa_nil)) pa_nil))) (fun _ _ => rfl)))), ?_⟩
  exact QW.pure_choice h

theorem s_is_name : FnScope ["value", "letter"] ["value"] (defScope (top 16)) := ⟨rfl, rfl, rfl, by decide +kernel, rfl, by decide +kernel, by decide +kernel⟩
theorem c_is_name (t : T K mg base) : QC.Cal P w K mg base (L2.CX P w) 1 "is_name" (QW.spNm K) [] := by
  obtain ⟨fd, F⟩ := t.c.def_ 3
  have sc := s_is_name
  refine QC.cal (k := 0) F (g_is_name t) (fun _ _ _ _ _ _ us hl => match us, hl with | [_], _ => rfl) sc QW.spNm.len (fun cdv A outer s H vs Q E gd hr h => ?_)
  have hu := QC.hu64 hr
  refine ⟨_, PSs.nox (pss_cons (ps_if (PW.pt (pw_or (pt_not (pt_val (pe_callB (QK.call_isi (K := K) rfl) rfl (n_isinstance t) (by decide +kernel) (pa_cons (pv 0) (pa_cons (pe_bltn (v := .ty "str") (u := .type "str") rfl (n_str t) (by decide +kernel) rfl) pa_nil))))) (pw_or1 (pt_not (pt_chain op_le op_le pe_int (pe_callB call_len_str rfl (n_len t) (by decide +kernel) (pa_cons (pv 0) pa_nil)) (QK.pe_gint (k_MOST_LETTERS t) rfl)))))) (pss_one (ps_ret pe_bl)) pss_nil)
      (pss_one (ps_ret (pe_callB (QK.cr_all (K := K) rfl rfl) rfl (n_all t) (by decide +kernel) (pa_cons (pe_lc rfl sc.nd (pi_str (pv 0)) (blkOk_by (own := [("letter", 1)]) (by show blkC ["value", "letter"] (defScope (top 16)) _ _ = true; decide +kernel)) (fun _ _ _ _ _ => (pg_name (i := 1) sc.nd rfl (by first | exact .inl rfl | exact .inr rfl))) (fun _ _ _ _ _ => pts_nil) (fun _ _ _ _ _ => (pe_cmpR op_inS (pv 1) (QK.pe_gstr (k_LETTERS t) rfl) (by rfl)))) pa_nil))))), ?_⟩
  exact QW.pure_isname h

theorem s__law_mixed : FnScope ["pot", "options", "rest", "turn"] ["pot", "options"] (defScope (top 36)) := ⟨rfl, rfl, rfl, by decide +kernel, rfl, by decide +kernel, by decide +kernel⟩
theorem c__law_mixed (t : T K mg base) : QC.Cal P w K mg base (L2.CX P w) 2 "_law_mixed" QW.spMixed [] := by
  obtain ⟨fd, F⟩ := t.c.def_ 16
  have sc := s__law_mixed
  refine QC.cal (k := 1) F (g__law_mixed t) (fun _ _ _ _ _ _ us hl => match us, hl with | [_, _], _ => rfl) sc QW.spMixed.len (fun cdv A outer s H vs Q E gd hr h => ?_)
  have hu := QC.hu64 hr
  refine ⟨_, PSs.nox (pss_cons (ps_set (i := 2) sc.nd rfl (by first | exact .inl rfl | exact .inr rfl) (pe_callTy (QK.call_list_of (K := K) rfl) rfl (n_list t) (by decide +kernel) (pa_cons (pv 1) pa_nil)))
      (pss_one (ps_ret (pe_lc rfl sc.nd (pi_range1 rfl (n_range t) (pa_cons (pe_callB (QK.call_len_seq (K := K) rfl) rfl (n_len t) (by decide +kernel) (pa_cons (pv 1) pa_nil)) pa_nil)) (blkOk_by (own := [("turn", 3)]) (by show blkC ["pot", "options", "rest", "turn"] (defScope (top 36)) _ _ = true; decide +kernel)) (fun _ _ _ _ _ => (pg_name (i := 3) sc.nd rfl (by first | exact .inl rfl | exact .inr rfl))) (fun _ _ _ _ _ => pts_nil) (fun _ _ _ _ _ => (QK.pe_bm (K := K) rfl PySem.F.plainAttrs_list PySem.F.slot_list_pop PySem.F.type_list_pop mt_popAt (pv 2) (pa_cons (QC.pe_q (c__law_draw (K := K) t) gd hr (by decide) QC.passE rfl (pa_cons (pv 0) (pa_cons (pe_callB (QK.call_len_seq (K := K) rfl) rfl (n_len t) (by decide +kernel) (pa_cons (pv 2) pa_nil)) pa_nil))) pa_nil))))))), ?_⟩
  exact QW.pure_mixed h

theorem s__law_word : FnScope ["pot", "taken", "letters", "some", "word", "turn", "spare", "k", "free", "one"] ["pot", "taken"] (defScope (top 37)) := ⟨rfl, rfl, rfl, by decide +kernel, rfl, by decide +kernel, by decide +kernel⟩
theorem c__law_word (t : T K mg base) : QC.Cal P w K mg base (L2.CX P w) 3 "_law_word" QW.spWord [] := by
  obtain ⟨fd, F⟩ := t.c.def_ 17
  have sc := s__law_word
  refine QC.cal (k := 2) F (g__law_word t) (fun _ _ _ _ _ _ us hl => match us, hl with | [_, _], _ => rfl) sc QW.spWord.len (fun cdv A outer s H vs Q E gd hr h => ?_)
  have hu := QC.hu64 hr
  refine ⟨_, PSs.nox (pss_cons (ps_set (i := 2) sc.nd rfl (by first | exact .inl rfl | exact .inr rfl) pe_str)
      (pss_cons (ps_set (i := 3) sc.nd rfl (by first | exact .inl rfl | exact .inr rfl) (pe_lst (pa_cons pe_str (pa_cons pe_str (pa_cons pe_str (pa_cons pe_str (pa_cons pe_str (pa_cons pe_str (pa_cons pe_str (pa_cons pe_str (pa_cons pe_str (pa_cons pe_str pa_nil))))))))))))
      (pss_cons (ps_set (i := 4) sc.nd rfl (by first | exact .inl rfl | exact .inr rfl) (QC.pe_q (c__law_choice (K := K) t) gd hr (by decide) QC.passE rfl (pa_cons (pv 0) (pa_cons (pv 3) pa_nil))))
      (pss_cons (ps_if (pt_cmpR op_gt (QC.pe_q (c__law_draw (K := K) t) gd hr (by decide) QC.passE rfl (pa_cons (pv 0) (pa_cons pe_int pa_nil))) pe_int (nomark _)) (pss_one (ps_set (i := 4) sc.nd rfl (by first | exact .inl rfl | exact .inr rfl) (QK.pe_join (K := K) rfl pe_str (pe_lc rfl sc.nd (pi_range1 rfl (n_range t) (pa_cons (pe_ix (QK.ix_list (K := K) rfl) (pe_lst (pa_cons pe_int (pa_cons pe_int (pa_cons pe_int (pa_cons pe_int pa_nil))))) (QC.pe_q (c__law_draw (K := K) t) gd hr (by decide) QC.passE rfl (pa_cons (pv 0) (pa_cons pe_int pa_nil))) (fun _ _ => rfl)) pa_nil)) (blkOk_by (own := [("turn", 5)]) (by show blkC ["pot", "taken", "letters", "some", "word", "turn", "spare", "k", "free", "one"] (defScope (top 37)) _ _ = true; decide +kernel)) (fun _ _ _ _ _ => (pg_name (i := 5) sc.nd rfl (by first | exact .inl rfl | exact .inr rfl))) (fun _ _ _ _ _ => pts_nil) (fun _ _ _ _ _ => (pe_item_str (pv 2) (QC.pe_q (c__law_draw (K := K) t) gd hr (by decide) QC.passE rfl (pa_cons (pv 0) (pa_cons pe_int pa_nil))) (fun _ _ => rfl))))))) pss_nil)
      (pss_cons (ps_setLc (i := 6) rfl sc.nd rfl rfl rfl (pi_range1 rfl (n_range t) (pa_cons pe_int pa_nil)) (blkOk_by (own := [("k", 7)]) (by show blkC ["pot", "taken", "letters", "some", "word", "turn", "spare", "k", "free", "one"] (defScope (top 37)) _ _ = true; decide +kernel)) (fun _ _ _ _ _ => (pg_name (i := 7) sc.nd rfl (by first | exact .inl rfl | exact .inr rfl))) (fun _ _ _ _ _ => pts_nil) (fun _ _ _ _ _ => (pe_op op_add_str (pe_item_str (pv 2) (pe_op op_mod (pv 7) pe_int) (fun _ _ => rfl)) (pe_item_str pe_str (pe_op op_fdiv (pv 7) pe_int) (fun _ _ => rfl)))))
      (pss_cons (ps_setLc (i := 8) rfl sc.nd rfl rfl rfl (QK.pi_list (K := K) rfl (pv 6)) (blkOk_by (own := [("one", 9)]) (by show blkC ["pot", "taken", "letters", "some", "word", "turn", "spare", "k", "free", "one"] (defScope (top 37)) _ _ = true; decide +kernel)) (fun _ _ _ _ _ => (pg_name (i := 9) sc.nd rfl (by first | exact .inl rfl | exact .inr rfl))) (fun _ _ _ _ _ => (pts_one (pt_cmpR (QK.op_notIn_seq (K := K) rfl) (pv 9) (pv 1) (by rfl)))) (fun _ _ _ _ _ => (pv 9)))
      (pss_one (ps_ret (pe_ifExp (pt_cmpR (QK.op_notIn_seq (K := K) rfl) (pv 4) (pv 1) (by rfl)) (pv 4) (pe_ix (QK.ix_list (K := K) rfl) (pv 8) pe_int (fun _ _ => rfl))))))))))), ?_⟩
  exact QW.pure_word h

theorem s__law_words : FnScope ["pot", "many", "found", "turn"] ["pot", "many"] (defScope (top 38)) := ⟨rfl, rfl, rfl, by decide +kernel, rfl, by decide +kernel, by decide +kernel⟩
theorem c__law_words (t : T K mg base) : QC.Cal P w K mg base (L2.CX P w) 4 "_law_words" QW.spWords [] := by
  obtain ⟨fd, F⟩ := t.c.def_ 18
  have sc := s__law_words
  refine QC.cal (k := 3) F (g__law_words t) (fun _ _ _ _ _ _ us hl => match us, hl with | [_, _], _ => rfl) sc QW.spWords.len (fun cdv A outer s H vs Q E gd hr h => ?_)
  have hu := QC.hu64 hr
  refine ⟨_, PSs.nox (pss_cons (ps_set (i := 2) sc.nd rfl (by first | exact .inl rfl | exact .inr rfl) (pe_lst pa_nil))
      (pss_cons (ps_for PassesOwn.never rfl (pi_range1 rfl (n_range t) (pa_cons (pv 1) pa_nil)) (pg_name (i := 3) sc.nd rfl (by first | exact .inl rfl | exact .inr rfl)) (pss_one (ps_expr (pe_bm PySem.F.plainAttrs_list PySem.F.slot_list_append PySem.F.type_list_append mt_append (pv 2) (pa_cons (QC.pe_q (c__law_word (K := K) t) gd hr (by decide) QC.passE rfl (pa_cons (pv 0) (pa_cons (pv 2) pa_nil))) pa_nil)))))
      (pss_one (ps_ret (pv 2))))), ?_⟩
  exact QW.pure_words h

theorem s_is_one_of : FnScope ["value", "names"] ["value", "names"] (defScope (top 28)) := ⟨rfl, rfl, rfl, by decide +kernel, rfl, by decide +kernel, by decide +kernel⟩
theorem c_is_one_of (t : T K mg base) : QC.Cal P w K mg base (L2.CX P w) 1 "is_one_of" (QW.spOne K) [] := by
  obtain ⟨fd, F⟩ := t.c.def_ 11
  have sc := s_is_one_of
  refine QC.cal (k := 0) F (g_is_one_of t) (fun _ _ _ _ _ _ us hl => match us, hl with | [_, _], _ => rfl) sc QW.spOne.len (fun cdv A outer s H vs Q E gd hr h => ?_)
  have hu := QC.hu64 hr
  refine ⟨_, PSs.nox (pss_one (ps_ret (pe_and (pe_callB (QK.call_isi (K := K) rfl) rfl (n_isinstance t) (by decide +kernel) (pa_cons (pv 0) (pa_cons (pe_bltn (v := .ty "str") (u := .type "str") rfl (n_str t) (by decide +kernel) rfl) pa_nil))) (pe_one (pe_cmpR (QK.op_in_one (K := K) rfl (hu_of hr)) (pv 0) (pv 1) (by rfl)))))), ?_⟩
  exact QW.pure_isone h

theorem s_TypeOrder_is_at_or_below : FnScope ["self", "one", "other"] ["self", "one", "other"] (defScope (inClass (top 30) 1)) := ⟨rfl, rfl, rfl, by decide +kernel, rfl, by decide +kernel, by decide +kernel⟩
theorem c_TypeOrder_is_at_or_below (t : T K mg base) : QC.Met P w K mg base (L2.CX P w) 1 (He.ga K "TypeOrder") "is_at_or_below" (QW.spBelow (He.ga K "TypeOrder")) [] := by
  obtain ⟨fd, F⟩ := t.c.def_ 34
  have sc := s_TypeOrder_is_at_or_below
  refine ⟨_, fd, ["self", "one", "other"], [], cl_TypeOrder t, me_TypeOrder_is_at_or_below t, QC.okG (k := 0) F sc QW.spBelow.len (fun cdv A outer s H vs Q E gd hr h => ?_), F.bindsN (fun _ _ _ _ _ _ us hl => match us, hl with | [_, _, _], _ => rfl), .nil⟩
  have hu := QC.hu64 hr
  refine ⟨_, PSs.nox (pss_one (ps_ret (pe_cmpR (QK.op_in_seq (K := K) rfl) (pv 2) (pe_dget (hu_of hr) (QK.pe_fld (K := K) rfl (pv 0)) (pv 1) (fun _ _ => rfl)) (by rfl)))), ?_⟩
  exact QW.pure_below (cl_TypeOrder t) (no_TypeOrder_own_ups t) h

theorem s_TypeOrder_would_cycle : FnScope ["self", "source", "target"] ["self", "source", "target"] (defScope (inClass (top 30) 2)) := ⟨rfl, rfl, rfl, by decide +kernel, rfl, by decide +kernel, by decide +kernel⟩
theorem c_TypeOrder_would_cycle (t : T K mg base) : QC.Met P w K mg base (L2.CX P w) 2 (He.ga K "TypeOrder") "would_cycle" (QW.spCyc (He.ga K "TypeOrder")) [] := by
  obtain ⟨fd, F⟩ := t.c.def_ 35
  have sc := s_TypeOrder_would_cycle
  refine ⟨_, fd, ["self", "source", "target"], [], cl_TypeOrder t, me_TypeOrder_would_cycle t, QC.okG (k := 1) F sc QW.spCyc.len (fun cdv A outer s H vs Q E gd hr h => ?_), F.bindsN (fun _ _ _ _ _ _ us hl => match us, hl with | [_, _, _], _ => rfl), .nil⟩
  have hu := QC.hu64 hr
  refine ⟨_, PSs.nox (pss_one (ps_ret (QC.pe_m (c_TypeOrder_is_at_or_below (K := K) t) gd hr (by decide) (fun _ => QC.passE0) (pv 0) (pa_cons (pv 2) (pa_cons (pv 1) pa_nil))))), ?_⟩
  exact QW.pure_cyc h

end
end K22

set_option Elab.async false
set_option linter.all false
set_option maxRecDepth 100000
set_option maxHeartbeats 1000000
namespace K22
open PySem PySem.Spec PyProof.Rows L2
section
variable {P : Program} {w : World} {K : PySem.W.Frag} {mg : Str → Option Value} {base : Heap}

theorem s_TypeOrder_connect : FnScope ["self", "source", "target", "ups", "name"] ["self", "source", "target"] (defScope (inClass (top 30) 3)) := ⟨rfl, rfl, rfl, by decide +kernel, rfl, by decide +kernel, by decide +kernel⟩
theorem c_TypeOrder_connect (t : T K mg base) : QC.Met P w K mg base (L2.CX P w) 1 (He.ga K "TypeOrder") "connect" (QW.spConn (He.ga K "TypeOrder")) [] := by
  obtain ⟨fd, F⟩ := t.c.def_ 36
  have sc := s_TypeOrder_connect
  refine ⟨_, fd, ["self", "source", "target"], [], cl_TypeOrder t, me_TypeOrder_connect t, QC.okG (k := 0) F sc QW.spConn.len (fun cdv A outer s H vs Q E gd hr h => ?_), F.bindsN (fun _ _ _ _ _ _ us hl => match us, hl with | [_, _, _], _ => rfl), .nil⟩
  have hu := QC.hu64 hr
  refine ⟨_, PSs.nox (pss_one (ps_lock (ps_for PassesOwn.never rfl (pi_values (QK.pe_fld (K := K) rfl (pv 0))) (pg_name (i := 3) sc.nd rfl (by first | exact .inl rfl | exact .inr rfl)) (pss_one (ps_if (pt_cmpR (QK.op_in_seq (K := K) rfl) (pv 1) (pv 3) (by rfl)) (pss_one (ps_expr (QK.pe_bm (K := K) rfl PySem.F.plainAttrs_list PySem.F.slot_list_extend PySem.F.type_list_extend mt_extend (pv 3) (pa_cons (pe_lc rfl sc.nd (QK.pi_list (K := K) rfl (pe_dget (hu_of hr) (QK.pe_fld (K := K) rfl (pv 0)) (pv 2) (fun _ _ => rfl))) (blkOk_by (own := [("name", 4)]) (by show blkC ["self", "source", "target", "ups", "name"] (defScope (inClass (top 30) 3)) _ _ = true; decide +kernel)) (fun _ _ _ _ _ => (pg_name (i := 4) sc.nd rfl (by first | exact .inl rfl | exact .inr rfl))) (fun _ _ _ _ _ => (pts_one (pt_cmpR (QK.op_notIn_seq (K := K) rfl) (pv 4) (pv 3) (by rfl)))) (fun _ _ _ _ _ => (pv 4))) pa_nil)))) pss_nil))))), ?_⟩
  exact QW.pure_conn (cl_TypeOrder t) (no_TypeOrder_own_ups t) h

theorem s_TypeOrder_init : FnScope ["self", "names", "name"] ["self", "names"] (defScope (inClass (top 30) 0)) := ⟨rfl, rfl, rfl, by decide +kernel, rfl, by decide +kernel, by decide +kernel⟩
theorem mkc_TypeOrder (t : T K mg base) : QC.Mak P w K mg base (L2.CX P w) 1 "TypeOrder" (He.ga K "TypeOrder") (QW.spToI (He.ga K "TypeOrder")) [] := by
  obtain ⟨fd, F⟩ := t.c.def_ 33
  have sc := s_TypeOrder_init
  refine ⟨_, fd, ["self", "names"], [], mk_TypeOrder t, QC.okGD (k := 0) F sc QW.spToI.len (fun cdv A outer s H vs Q E gd hr h => ?_), g_TypeOrder t, F.bindsN (fun _ _ _ _ _ _ us hl => match us, hl with | [_, _], _ => rfl), .nil⟩
  have hu := QC.hu64 hr
  refine ⟨_, PSs.nox (pss_one (ps_fld (pv 0) (pe_dc rfl sc.nd (QK.pi_list (K := K) rfl (pv 1)) (blkOk_by (own := [("name", 2)]) (by show blkC ["self", "names", "name"] (defScope (inClass (top 30) 0)) _ _ = true; decide +kernel)) (fun _ _ _ _ _ => (pg_name (i := 2) sc.nd rfl (by first | exact .inl rfl | exact .inr rfl))) (fun _ _ _ _ _ => pts_nil) (fun _ _ _ _ _ => (pv 2)) (fun _ _ _ _ _ => (pe_lst (pa_cons (pv 2) pa_nil)))) rfl)), ?_⟩
  exact QW.pure_toI (cl_TypeOrder t) (no_TypeOrder_own_ups t) h

theorem s_is_list_of : FnScope ["value", "limit"] ["value", "limit"] (defScope (top 27)) := ⟨rfl, rfl, rfl, by decide +kernel, rfl, by decide +kernel, by decide +kernel⟩
theorem c_is_list_of (t : T K mg base) : QC.Cal P w K mg base (L2.CX P w) 1 "is_list_of" QW.spListOf [] := by
  obtain ⟨fd, F⟩ := t.c.def_ 10
  have sc := s_is_list_of
  refine QC.cal (k := 0) F (g_is_list_of t) (fun _ _ _ _ _ _ us hl => match us, hl with | [_, _], _ => rfl) sc QW.spListOf.len (fun cdv A outer s H vs Q E gd hr h => ?_)
  have hu := QC.hu64 hr
  refine ⟨_, PSs.nox (pss_one (ps_ret (pe_and (pe_callB (QK.call_isiT (K := K) rfl) rfl (n_isinstance t) (by decide +kernel) (pa_cons (pv 0) (pa_cons (pe_tup (pa_cons (pe_bltn (v := .ty "list") (u := .type "list") rfl (n_list t) (by decide +kernel) rfl) (pa_cons (pe_bltn (v := .ty "tuple") (u := .type "tuple") rfl (n_tuple t) (by decide +kernel) rfl) pa_nil))) pa_nil))) (pe_one (pe_cmpR op_le (pe_callB (QK.call_len_seq (K := K) rfl) rfl (n_len t) (by decide +kernel) (pa_cons (pv 0) pa_nil)) (pv 1) (nomark _)))))), ?_⟩
  exact QW.pure_listof h

theorem s_Scheme_has_type : FnScope ["self", "value"] ["self", "value"] (defScope (inClass (top 31) 15)) := ⟨rfl, rfl, rfl, by decide +kernel, rfl, by decide +kernel, by decide +kernel⟩
theorem c_Scheme_has_type (t : T K mg base) : QC.Met P w K mg base (L2.CX P w) 2 (He.ga K "Scheme") "has_type" (QW.spHas K (He.ga K "Scheme")) [] := by
  obtain ⟨fd, F⟩ := t.c.def_ 47
  have sc := s_Scheme_has_type
  refine ⟨_, fd, ["self", "value"], [], cl_Scheme t, me_Scheme_has_type t, QC.okG (k := 1) F sc QW.spHas.len (fun cdv A outer s H vs Q E gd hr h => ?_), F.bindsN (fun _ _ _ _ _ _ us hl => match us, hl with | [_, _], _ => rfl), .nil⟩
  have hu := QC.hu64 hr
  refine ⟨_, PSs.nox (pss_one (ps_ret (QC.pe_q (c_is_one_of (K := K) t) gd hr (by decide) QC.passE rfl (pa_cons (pv 1) (pa_cons (QK.pe_fld (K := K) rfl (pv 0)) pa_nil))))), ?_⟩
  exact QW.pure_has (cl_Scheme t) (no_Scheme_own_types t) h

theorem s_Scheme_take_types : FnScope ["self", "types", "position", "name"] ["self", "types"] (defScope (inClass (top 31) 6)) := ⟨rfl, rfl, rfl, by decide +kernel, rfl, by decide +kernel, by decide +kernel⟩
theorem c_Scheme_take_types (t : T K mg base) : QC.Met P w K mg base (L2.CX P w) 2 (He.ga K "Scheme") "take_types" (QW.spTT (He.ga K "Scheme")) [] := by
  obtain ⟨fd, F⟩ := t.c.def_ 38
  have sc := s_Scheme_take_types
  refine ⟨_, fd, ["self", "types"], [], cl_Scheme t, me_Scheme_take_types t, QC.okG (k := 1) F sc QW.spTT.len (fun cdv A outer s H vs Q E gd hr h => ?_), F.bindsN (fun _ _ _ _ _ _ us hl => match us, hl with | [_, _], _ => rfl), .nil⟩
  have hu := QC.hu64 hr
  refine ⟨_, PSs.nox (pss_cons (ps_if (pt_not (pt_val (QC.pe_q (c_is_list_of (K := K) t) gd hr (by decide) QC.passE rfl (pa_cons (pv 1) (pa_cons (QK.pe_con (K := K) rfl (pv 0)) pa_nil))))) (pss_one ps_never) pss_nil)
      (pss_cons (ps_for PassesOwn.never rfl (QK.pi_enum (K := K) rfl rfl (n_enumerate t) (pa_cons (pv 1) pa_nil)) (QK.pg_tup (K := K) (n := 2) rfl rfl (pgs_cons (pg_name (i := 2) sc.nd rfl (by first | exact .inl rfl | exact .inr rfl)) (pgs_cons (pg_name (i := 3) sc.nd rfl (by first | exact .inl rfl | exact .inr rfl)) pgs_nil))) (pss_one (ps_if (PW.pt (pw_or (pt_not (pt_val (QC.pe_q (c_is_name (K := K) t) gd hr (by decide) QC.passE rfl (pa_cons (pv 3) pa_nil)))) (pw_or1 (pt_cmpR (QK.op_in_seq (K := K) rfl) (pv 3) (pe_slice (QK.sl_list (K := K) rfl) (pv 1) po_none (po_some (pv 2))) (by rfl))))) (pss_one ps_never) pss_nil)))
      (pss_one (ps_fld (pv 0) (pe_callB (QK.cr_sortedS (K := K) rfl) rfl (n_sorted t) (by decide +kernel) (pa_cons (pv 1) pa_nil)) rfl)))), ?_⟩
  exact QW.pure_tt (cl_Scheme t) (no_Scheme_own_types t) (QK.con_int (ci_Scheme_MAX_TYPES t)) h

end
end K22

set_option Elab.async false
set_option linter.all false
set_option maxRecDepth 100000
set_option maxHeartbeats 1000000
namespace K22
open PySem PySem.Spec PyProof.Rows L2
section
variable {P : Program} {w : World} {K : PySem.W.Frag} {mg : Str → Option Value} {base : Heap}

theorem s_Scheme_is_cast_row : FnScope ["self", "row"] ["self", "row"] (defScope (inClass (top 31) 7)) := ⟨rfl, rfl, rfl, by decide +kernel, rfl, by decide +kernel, by decide +kernel⟩
theorem c_Scheme_is_cast_row (t : T K mg base) : QC.Met P w K mg base (L2.CX P w) 3 (He.ga K "Scheme") "is_cast_row" (QW.spIsC K (He.ga K "Scheme")) [] := by
  obtain ⟨fd, F⟩ := t.c.def_ 39
  have sc := s_Scheme_is_cast_row
  refine ⟨_, fd, ["self", "row"], [], cl_Scheme t, me_Scheme_is_cast_row t, QC.okG (k := 2) F sc QW.spIsC.len (fun cdv A outer s H vs Q E gd hr h => ?_), F.bindsN (fun _ _ _ _ _ _ us hl => match us, hl with | [_, _], _ => rfl), .nil⟩
  have hu := QC.hu64 hr
  refine ⟨_, PSs.nox (pss_cons (ps_if (PW.pt (pw_or (pt_not (pt_val (pe_callB (QK.call_isi (K := K) rfl) rfl (n_isinstance t) (by decide +kernel) (pa_cons (pv 1) (pa_cons (pe_bltn (v := .ty "tuple") (u := .type "tuple") rfl (n_tuple t) (by decide +kernel) rfl) pa_nil))))) (pw_or (pt_cmpR op_ne (pe_callB (QK.call_len_seq (K := K) rfl) rfl (n_len t) (by decide +kernel) (pa_cons (pv 1) pa_nil)) pe_int (nomark _)) (pw_or (pt_not (pt_val (QC.pe_q (c_is_name (K := K) t) gd hr (by decide) QC.passE rfl (pa_cons (pe_ix (QK.ix_tup (K := K) rfl) (pv 1) pe_int (fun _ _ => rfl)) pa_nil)))) (pw_or1 (pt_cmpR (QK.op_in_dict (hu_of hr)) (pe_ix (QK.ix_tup (K := K) rfl) (pv 1) pe_int (fun _ _ => rfl)) (QK.pe_fld (K := K) rfl (pv 0)) (by rfl))))))) (pss_one (ps_ret pe_bl)) pss_nil)
      (pss_one (ps_ret (pe_and (QC.pe_m (c_Scheme_has_type (K := K) t) gd hr (by decide) (fun _ => QC.passE0) (pv 0) (pa_cons (pe_ix (QK.ix_tup (K := K) rfl) (pv 1) pe_int (fun _ _ => rfl)) pa_nil)) (pe_one (QC.pe_m (c_Scheme_has_type (K := K) t) gd hr (by decide) (fun _ => QC.passE0) (pv 0) (pa_cons (pe_ix (QK.ix_tup (K := K) rfl) (pv 1) pe_int (fun _ _ => rfl)) pa_nil))))))), ?_⟩
  exact QW.pure_isC (cl_Scheme t) (no_Scheme_own_casts t) h

theorem s_Scheme_take_casts : FnScope ["self", "casts", "position", "row", "name", "source", "target"] ["self", "casts"] (defScope (inClass (top 31) 8)) := ⟨rfl, rfl, rfl, by decide +kernel, rfl, by decide +kernel, by decide +kernel⟩
theorem c_Scheme_take_casts (t : T K mg base) : QC.Met P w K mg base (L2.CX P w) 4 (He.ga K "Scheme") "take_casts" (QW.spTC (He.ga K "Scheme") (He.ga K "TypeOrder")) [] := by
  obtain ⟨fd, F⟩ := t.c.def_ 40
  have sc := s_Scheme_take_casts
  refine ⟨_, fd, ["self", "casts"], [], cl_Scheme t, me_Scheme_take_casts t, QC.okG (k := 3) F sc QW.spTC.len (fun cdv A outer s H vs Q E gd hr h => ?_), F.bindsN (fun _ _ _ _ _ _ us hl => match us, hl with | [_, _], _ => rfl), .nil⟩
  have hu := QC.hu64 hr
  refine ⟨_, PSs.nox (pss_cons (ps_if (pt_not (pt_val (QC.pe_q (c_is_list_of (K := K) t) gd hr (by decide) QC.passE rfl (pa_cons (pv 1) (pa_cons (QK.pe_con (K := K) rfl (pv 0)) pa_nil))))) (pss_one ps_never) pss_nil)
      (pss_cons (ps_for PassesOwn.never rfl (QK.pi_enum (K := K) rfl rfl (n_enumerate t) (pa_cons (pv 1) pa_nil)) (QK.pg_tup (K := K) (n := 2) rfl rfl (pgs_cons (pg_name (i := 2) sc.nd rfl (by first | exact .inl rfl | exact .inr rfl)) (pgs_cons (pg_name (i := 3) sc.nd rfl (by first | exact .inl rfl | exact .inr rfl)) pgs_nil))) (pss_cons (ps_if (pt_not (pt_val (QC.pe_m (c_Scheme_is_cast_row (K := K) t) gd hr (by decide) (fun _ => QC.passE0) (pv 0) (pa_cons (pv 3) pa_nil)))) (pss_one ps_never) pss_nil)
      (pss_cons (ps_asg (pv 3) (QK.pg_tup (K := K) (n := 3) rfl rfl (pgs_cons (pg_name (i := 4) sc.nd rfl (by first | exact .inl rfl | exact .inr rfl)) (pgs_cons (pg_name (i := 5) sc.nd rfl (by first | exact .inl rfl | exact .inr rfl)) (pgs_cons (pg_name (i := 6) sc.nd rfl (by first | exact .inl rfl | exact .inr rfl)) pgs_nil)))))
      (pss_cons (ps_if (pt_val (QC.pe_m (c_TypeOrder_would_cycle (K := K) t) gd hr (by decide) (fun _ => QC.passE0) (QK.pe_fld (K := K) rfl (pv 0)) (pa_cons (pv 5) (pa_cons (pv 6) pa_nil)))) (pss_one ps_never) pss_nil)
      (pss_cons (ps_expr (QC.pe_m (c_TypeOrder_connect (K := K) t) gd hr (by decide) (fun _ => QC.passE0) (QK.pe_fld (K := K) rfl (pv 0)) (pa_cons (pv 5) (pa_cons (pv 6) pa_nil))))
      (pss_one (ps_dput (hu_of hr) (QK.pe_fld (K := K) rfl (pv 0)) (pv 4) (pe_tup (pa_cons (pv 5) (pa_cons (pv 6) pa_nil))) rfl)))))))
      (pss_one (ps_fld (pv 0) (pe_callTy (QK.call_dictP (K := K) rfl rfl) rfl (n_dict t) (by decide +kernel) (pa_cons (pe_callB (QSo.cr_sortItK rfl) rfl (n_sorted t) (by decide +kernel) (pa_cons (pe_bm0 PySem.F.plainAttrs_dict PySem.F.slot_dict_items PySem.F.type_dict_items QSo.mt_itemsK (QK.pe_fld (K := K) rfl (pv 0))) pa_nil)) pa_nil)) rfl)))), ?_⟩
  exact QW.pure_tc (cl_Scheme t) (no_Scheme_own_casts t) (no_Scheme_own_order t) (QK.con_int (ci_Scheme_MAX_CASTS t)) h

end
end K22

set_option Elab.async false
set_option linter.all false
set_option maxRecDepth 100000
set_option maxHeartbeats 1000000
namespace K22
open PySem PySem.Spec PyProof.Rows L2
section
variable {P : Program} {w : World} {K : PySem.W.Frag} {mg : Str → Option Value} {base : Heap}

theorem s_is_argument_tuple : FnScope ["value"] ["value"] (defScope (top 29)) := ⟨rfl, rfl, rfl, by decide +kernel, rfl, by decide +kernel, by decide +kernel⟩
theorem c_is_argument_tuple (t : T K mg base) : QC.Cal P w K mg base (L2.CX P w) 1 "is_argument_tuple" (QW.spAT K) [] := by
  obtain ⟨fd, F⟩ := t.c.def_ 12
  have sc := s_is_argument_tuple
  refine QC.cal (k := 0) F (g_is_argument_tuple t) (fun _ _ _ _ _ _ us hl => match us, hl with | [_], _ => rfl) sc QW.spAT.len (fun cdv A outer s H vs Q E gd hr h => ?_)
  have hu := QC.hu64 hr
  refine ⟨_, PSs.nox (pss_one (ps_ret (pe_and (pe_callB (QK.call_isi (K := K) rfl) rfl (n_isinstance t) (by decide +kernel) (pa_cons (pv 0) (pa_cons (pe_bltn (v := .ty "tuple") (u := .type "tuple") rfl (n_tuple t) (by decide +kernel) rfl) pa_nil))) (pe_one (pe_chain op_le op_le pe_int (pe_callB (QK.call_len_seq (K := K) rfl) rfl (n_len t) (by decide +kernel) (pa_cons (pv 0) pa_nil)) pe_int))))), ?_⟩
  exact QW.pure_at h

theorem s_Scheme_is_version_row : FnScope ["self", "row", "name"] ["self", "row"] (defScope (inClass (top 31) 9)) := ⟨rfl, rfl, rfl, by decide +kernel, rfl, by decide +kernel, by decide +kernel⟩
theorem c_Scheme_is_version_row (t : T K mg base) : QC.Met P w K mg base (L2.CX P w) 3 (He.ga K "Scheme") "is_version_row" (QW.spIsV K (He.ga K "Scheme")) [] := by
  obtain ⟨fd, F⟩ := t.c.def_ 41
  have sc := s_Scheme_is_version_row
  refine ⟨_, fd, ["self", "row"], [], cl_Scheme t, me_Scheme_is_version_row t, QC.okG (k := 2) F sc QW.spIsV.len (fun cdv A outer s H vs Q E gd hr h => ?_), F.bindsN (fun _ _ _ _ _ _ us hl => match us, hl with | [_, _], _ => rfl), .nil⟩
  have hu := QC.hu64 hr
  refine ⟨_, PSs.nox (pss_cons (ps_if (PW.pt (pw_or (pt_not (pt_val (pe_callB (QK.call_isi (K := K) rfl) rfl (n_isinstance t) (by decide +kernel) (pa_cons (pv 1) (pa_cons (pe_bltn (v := .ty "tuple") (u := .type "tuple") rfl (n_tuple t) (by decide +kernel) rfl) pa_nil))))) (pw_or (pt_cmpR op_ne (pe_callB (QK.call_len_seq (K := K) rfl) rfl (n_len t) (by decide +kernel) (pa_cons (pv 1) pa_nil)) pe_int (nomark _)) (pw_or (pt_not (pt_val (QC.pe_q (c_is_name (K := K) t) gd hr (by decide) QC.passE rfl (pa_cons (pe_ix (QK.ix_tup (K := K) rfl) (pv 1) pe_int (fun _ _ => rfl)) pa_nil)))) (pw_or1 (pt_cmpR (QK.op_in_dict (hu_of hr)) (pe_ix (QK.ix_tup (K := K) rfl) (pv 1) pe_int (fun _ _ => rfl)) (QK.pe_fld (K := K) rfl (pv 0)) (by rfl))))))) (pss_one (ps_ret pe_bl)) pss_nil)
      (pss_cons (ps_if (PW.pt (pw_or (pt_not (pt_val (QC.pe_q (c_is_name (K := K) t) gd hr (by decide) QC.passE rfl (pa_cons (pe_ix (QK.ix_tup (K := K) rfl) (pv 1) pe_int (fun _ _ => rfl)) pa_nil)))) (pw_or1 (pt_not (pt_val (QC.pe_q (c_is_argument_tuple (K := K) t) gd hr (by decide) QC.passE rfl (pa_cons (pe_ix (QK.ix_tup (K := K) rfl) (pv 1) pe_int (fun _ _ => rfl)) pa_nil))))))) (pss_one (ps_ret pe_bl)) pss_nil)
      (pss_one (ps_ret (pe_callB (QK.cr_all (K := K) rfl rfl) rfl (n_all t) (by decide +kernel) (pa_cons (pe_lc rfl sc.nd (QK.pi_tup (K := K) rfl (pe_op (QK.op_catT (K := K) rfl) (pe_ix (QK.ix_tup (K := K) rfl) (pv 1) pe_int (fun _ _ => rfl)) (pe_tup (pa_cons (pe_ix (QK.ix_tup (K := K) rfl) (pv 1) pe_int (fun _ _ => rfl)) pa_nil)))) (blkOk_by (own := [("name", 2)]) (by show blkC ["self", "row", "name"] (defScope (inClass (top 31) 9)) _ _ = true; decide +kernel)) (fun _ _ _ _ _ => (pg_name (i := 2) sc.nd rfl (by first | exact .inl rfl | exact .inr rfl))) (fun _ _ _ _ _ => pts_nil) (fun _ _ _ _ _ => (QC.pe_m (c_Scheme_has_type (K := K) t) gd hr (by decide) (fun _ => QC.passE0) (pv 0) (pa_cons (pv 2) pa_nil)))) pa_nil)))))), ?_⟩
  exact QW.pure_isV (cl_Scheme t) (no_Scheme_own_versions t) h

theorem s_Scheme_take_versions : FnScope ["self", "versions", "position", "row", "name", "operator", "types", "result"] ["self", "versions"] (defScope (inClass (top 31) 10)) := ⟨rfl, rfl, rfl, by decide +kernel, rfl, by decide +kernel, by decide +kernel⟩
theorem c_Scheme_take_versions (t : T K mg base) : QC.Met P w K mg base (L2.CX P w) 4 (He.ga K "Scheme") "take_versions" (QW.spTV (He.ga K "Scheme")) [] := by
  obtain ⟨fd, F⟩ := t.c.def_ 42
  have sc := s_Scheme_take_versions
  refine ⟨_, fd, ["self", "versions"], [], cl_Scheme t, me_Scheme_take_versions t, QC.okG (k := 3) F sc QW.spTV.len (fun cdv A outer s H vs Q E gd hr h => ?_), F.bindsN (fun _ _ _ _ _ _ us hl => match us, hl with | [_, _], _ => rfl), .nil⟩
  have hu := QC.hu64 hr
  refine ⟨_, PSs.nox (pss_cons (ps_if (pt_not (pt_val (QC.pe_q (c_is_list_of (K := K) t) gd hr (by decide) QC.passE rfl (pa_cons (pv 1) (pa_cons (QK.pe_con (K := K) rfl (pv 0)) pa_nil))))) (pss_one ps_never) pss_nil)
      (pss_cons (ps_for PassesOwn.never rfl (QK.pi_enum (K := K) rfl rfl (n_enumerate t) (pa_cons (pv 1) pa_nil)) (QK.pg_tup (K := K) (n := 2) rfl rfl (pgs_cons (pg_name (i := 2) sc.nd rfl (by first | exact .inl rfl | exact .inr rfl)) (pgs_cons (pg_name (i := 3) sc.nd rfl (by first | exact .inl rfl | exact .inr rfl)) pgs_nil))) (pss_cons (ps_if (pt_not (pt_val (QC.pe_m (c_Scheme_is_version_row (K := K) t) gd hr (by decide) (fun _ => QC.passE0) (pv 0) (pa_cons (pv 3) pa_nil)))) (pss_one ps_never) pss_nil)
      (pss_cons (ps_asg (pv 3) (QK.pg_tup (K := K) (n := 4) rfl rfl (pgs_cons (pg_name (i := 4) sc.nd rfl (by first | exact .inl rfl | exact .inr rfl)) (pgs_cons (pg_name (i := 5) sc.nd rfl (by first | exact .inl rfl | exact .inr rfl)) (pgs_cons (pg_name (i := 6) sc.nd rfl (by first | exact .inl rfl | exact .inr rfl)) (pgs_cons (pg_name (i := 7) sc.nd rfl (by first | exact .inl rfl | exact .inr rfl)) pgs_nil))))))
      (pss_cons (ps_if (pt_cmpR op_ne (pe_dsetd (QK.pe_fld (K := K) rfl (pv 0)) (pv 5) (pe_callB (QK.call_len_seq (K := K) rfl) rfl (n_len t) (by decide +kernel) (pa_cons (pv 6) pa_nil)) ⟨rfl, rfl, rfl, rfl⟩) (pe_callB (QK.call_len_seq (K := K) rfl) rfl (n_len t) (by decide +kernel) (pa_cons (pv 6) pa_nil)) (nomark _)) (pss_one ps_never) pss_nil)
      (pss_one (ps_dput (hu_of hr) (QK.pe_fld (K := K) rfl (pv 0)) (pv 4) (pe_tup (pa_cons (pv 5) (pa_cons (pv 6) (pa_cons (pv 7) pa_nil)))) rfl))))))
      (pss_one (ps_fld (pv 0) (pe_callTy (QK.call_dictP (K := K) rfl rfl) rfl (n_dict t) (by decide +kernel) (pa_cons (pe_callB (QSo.cr_sortItK rfl) rfl (n_sorted t) (by decide +kernel) (pa_cons (pe_bm0 PySem.F.plainAttrs_dict PySem.F.slot_dict_items PySem.F.type_dict_items QSo.mt_itemsK (QK.pe_fld (K := K) rfl (pv 0))) pa_nil)) pa_nil)) rfl)))), ?_⟩
  exact QW.pure_tv (cl_Scheme t) (no_Scheme_own_versions t) (no_Scheme_own_arities t) (QK.con_int (ci_Scheme_MAX_VERSIONS t)) h

end
end K22

set_option Elab.async false
set_option linter.all false
set_option maxRecDepth 100000
set_option maxHeartbeats 1000000
namespace K22
open PySem PySem.Spec PyProof.Rows L2
section
variable {P : Program} {w : World} {K : PySem.W.Frag} {mg : Str → Option Value} {base : Heap}

theorem s_Scheme_types : FnScope ["self"] ["self"] (defScope (inClass (top 31) 11)) := ⟨rfl, rfl, rfl, by decide +kernel, rfl, by decide +kernel, by decide +kernel⟩
theorem c_Scheme_types (t : T K mg base) : QC.Met P w K mg base (L2.CX P w) 1 (He.ga K "Scheme") "types" (QW.spTypes (He.ga K "Scheme")) [] := by
  obtain ⟨fd, F⟩ := t.c.def_ 43
  have sc := s_Scheme_types
  refine ⟨_, fd, ["self"], [], cl_Scheme t, me_Scheme_types t, QC.okG (k := 0) F sc QW.spTypes.len (fun cdv A outer s H vs Q E gd hr h => ?_), F.bindsN (fun _ _ _ _ _ _ us hl => match us, hl with | [_], _ => rfl), .nil⟩
  have hu := QC.hu64 hr
  refine ⟨_, PSs.nox (pss_one (ps_ret (pe_callTy (QK.call_list_of (K := K) rfl) rfl (n_list t) (by decide +kernel) (pa_cons (QK.pe_fld (K := K) rfl (pv 0)) pa_nil)))), ?_⟩
  exact QW.pure_types (cl_Scheme t) (no_Scheme_own_types t) h

theorem s_Scheme_casts : FnScope ["self", "name", "source", "target"] ["self"] (defScope (inClass (top 31) 12)) := ⟨rfl, rfl, rfl, by decide +kernel, rfl, by decide +kernel, by decide +kernel⟩
theorem c_Scheme_casts (t : T K mg base) : QC.Met P w K mg base (L2.CX P w) 1 (He.ga K "Scheme") "casts" (QW.spCasts (He.ga K "Scheme")) [] := by
  obtain ⟨fd, F⟩ := t.c.def_ 44
  have sc := s_Scheme_casts
  refine ⟨_, fd, ["self"], [], cl_Scheme t, me_Scheme_casts t, QC.okG (k := 0) F sc QW.spCasts.len (fun cdv A outer s H vs Q E gd hr h => ?_), F.bindsN (fun _ _ _ _ _ _ us hl => match us, hl with | [_], _ => rfl), .nil⟩
  have hu := QC.hu64 hr
  refine ⟨_, PSs.nox (pss_one (ps_ret (pe_lock (pe_lc rfl sc.nd (pi_items (QK.pe_fld (K := K) rfl (pv 0))) (blkOk_by (own := [("name", 1), ("source", 2), ("target", 3)]) (by show blkC ["self", "name", "source", "target"] (defScope (inClass (top 31) 12)) _ _ = true; decide +kernel)) (fun _ _ _ _ _ => (QK.pg_tup (K := K) (n := 2) rfl rfl (pgs_cons (pg_name (i := 1) sc.nd rfl (by first | exact .inl rfl | exact .inr rfl)) (pgs_cons (QK.pg_tup (K := K) (n := 2) rfl rfl (pgs_cons (pg_name (i := 2) sc.nd rfl (by first | exact .inl rfl | exact .inr rfl)) (pgs_cons (pg_name (i := 3) sc.nd rfl (by first | exact .inl rfl | exact .inr rfl)) pgs_nil))) pgs_nil)))) (fun _ _ _ _ _ => pts_nil) (fun _ _ _ _ _ => (pe_tup (pa_cons (pv 1) (pa_cons (pv 2) (pa_cons (pv 3) pa_nil))))))))), ?_⟩
  exact QW.pure_casts (cl_Scheme t) (no_Scheme_own_casts t) h

theorem s_Scheme_versions : FnScope ["self", "name", "row"] ["self"] (defScope (inClass (top 31) 13)) := ⟨rfl, rfl, rfl, by decide +kernel, rfl, by decide +kernel, by decide +kernel⟩
theorem c_Scheme_versions (t : T K mg base) : QC.Met P w K mg base (L2.CX P w) 1 (He.ga K "Scheme") "versions" (QW.spVers (He.ga K "Scheme")) [] := by
  obtain ⟨fd, F⟩ := t.c.def_ 45
  have sc := s_Scheme_versions
  refine ⟨_, fd, ["self"], [], cl_Scheme t, me_Scheme_versions t, QC.okG (k := 0) F sc QW.spVers.len (fun cdv A outer s H vs Q E gd hr h => ?_), F.bindsN (fun _ _ _ _ _ _ us hl => match us, hl with | [_], _ => rfl), .nil⟩
  have hu := QC.hu64 hr
  refine ⟨_, PSs.nox (pss_one (ps_ret (pe_lock (pe_lc rfl sc.nd (pi_items (QK.pe_fld (K := K) rfl (pv 0))) (blkOk_by (own := [("name", 1), ("row", 2)]) (by show blkC ["self", "name", "row"] (defScope (inClass (top 31) 13)) _ _ = true; decide +kernel)) (fun _ _ _ _ _ => (QK.pg_tup (K := K) (n := 2) rfl rfl (pgs_cons (pg_name (i := 1) sc.nd rfl (by first | exact .inl rfl | exact .inr rfl)) (pgs_cons (pg_name (i := 2) sc.nd rfl (by first | exact .inl rfl | exact .inr rfl)) pgs_nil)))) (fun _ _ _ _ _ => pts_nil) (fun _ _ _ _ _ => (pe_tup (pa_cons (pv 1) (QK.pa_star (K := K) rfl (pv 2) pa_nil)))))))), ?_⟩
  exact QW.pure_vers (cl_Scheme t) (no_Scheme_own_versions t) h

theorem s_type_words : FnScope ["name"] ["name"] (defScope (top 20)) := ⟨rfl, rfl, rfl, by decide +kernel, rfl, by decide +kernel, by decide +kernel⟩
theorem c_type_words (t : T K mg base) : QC.Cal P w K mg base (L2.CX P w) 1 "type_words" QW.spTyW [] := by
  obtain ⟨fd, F⟩ := t.c.def_ 5
  have sc := s_type_words
  refine QC.cal (k := 0) F (g_type_words t) (fun _ _ _ _ _ _ us hl => match us, hl with | [_], _ => rfl) sc QW.spTyW.len (fun cdv A outer s H vs Q E gd hr h => ?_)
  have hu := QC.hu64 hr
  refine ⟨_, PSs.nox (pss_one (ps_ret (pe_lst (pa_cons pe_str (pa_cons (pv 0) pa_nil))))), ?_⟩
  exact QW.pure_tyW h

theorem s_cast_words : FnScope ["row"] ["row"] (defScope (top 21)) := ⟨rfl, rfl, rfl, by decide +kernel, rfl, by decide +kernel, by decide +kernel⟩
theorem c_cast_words (t : T K mg base) : QC.Cal P w K mg base (L2.CX P w) 1 "cast_words" QW.spCaW [] := by
  obtain ⟨fd, F⟩ := t.c.def_ 6
  have sc := s_cast_words
  refine QC.cal (k := 0) F (g_cast_words t) (fun _ _ _ _ _ _ us hl => match us, hl with | [_], _ => rfl) sc QW.spCaW.len (fun cdv A outer s H vs Q E gd hr h => ?_)
  have hu := QC.hu64 hr
  refine ⟨_, PSs.nox (pss_one (ps_ret (pe_op op_cat (pe_lst (pa_cons pe_str pa_nil)) (pe_callTy (QK.call_list_of (K := K) rfl) rfl (n_list t) (by decide +kernel) (pa_cons (pv 0) pa_nil))))), ?_⟩
  exact QW.pure_caW h

theorem s_version_words : FnScope ["row", "name", "operator", "types", "result"] ["row"] (defScope (top 22)) := ⟨rfl, rfl, rfl, by decide +kernel, rfl, by decide +kernel, by decide +kernel⟩
theorem c_version_words (t : T K mg base) : QC.Cal P w K mg base (L2.CX P w) 1 "version_words" QW.spVeW [] := by
  obtain ⟨fd, F⟩ := t.c.def_ 7
  have sc := s_version_words
  refine QC.cal (k := 0) F (g_version_words t) (fun _ _ _ _ _ _ us hl => match us, hl with | [_], _ => rfl) sc QW.spVeW.len (fun cdv A outer s H vs Q E gd hr h => ?_)
  have hu := QC.hu64 hr
  refine ⟨_, PSs.nox (pss_cons (ps_asg (pv 0) (QK.pg_tup (K := K) (n := 4) rfl rfl (pgs_cons (pg_name (i := 1) sc.nd rfl (by first | exact .inl rfl | exact .inr rfl)) (pgs_cons (pg_name (i := 2) sc.nd rfl (by first | exact .inl rfl | exact .inr rfl)) (pgs_cons (pg_name (i := 3) sc.nd rfl (by first | exact .inl rfl | exact .inr rfl)) (pgs_cons (pg_name (i := 4) sc.nd rfl (by first | exact .inl rfl | exact .inr rfl)) pgs_nil))))))
      (pss_one (ps_ret (pe_lst (pa_cons pe_str (pa_cons (pv 1) (pa_cons (pv 2) (QK.pa_star (K := K) rfl (pv 3) (pa_cons (pv 4) pa_nil))))))))), ?_⟩
  exact QW.pure_veW h

theorem s_scheme_words : FnScope ["types", "casts", "versions", "found", "name", "row"] ["types", "casts", "versions"] (defScope (top 23)) := ⟨rfl, rfl, rfl, by decide +kernel, rfl, by decide +kernel, by decide +kernel⟩
theorem c_scheme_words (t : T K mg base) : QC.Cal P w K mg base (L2.CX P w) 2 "scheme_words" QW.spScW [] := by
  obtain ⟨fd, F⟩ := t.c.def_ 8
  have sc := s_scheme_words
  refine QC.cal (k := 1) F (g_scheme_words t) (fun _ _ _ _ _ _ us hl => match us, hl with | [_, _, _], _ => rfl) sc QW.spScW.len (fun cdv A outer s H vs Q E gd hr h => ?_)
  have hu := QC.hu64 hr
  refine ⟨_, PSs.nox (pss_cons (ps_setLc (i := 3) rfl sc.nd rfl rfl rfl (QK.pi_list (K := K) rfl (pv 0)) (blkOk_by (own := [("name", 4)]) (by show blkC ["types", "casts", "versions", "found", "name", "row"] (defScope (top 23)) _ _ = true; decide +kernel)) (fun _ _ _ _ _ => (pg_name (i := 4) sc.nd rfl (by first | exact .inl rfl | exact .inr rfl))) (fun _ _ _ _ _ => pts_nil) (fun _ _ _ _ _ => (QC.pe_q (c_type_words (K := K) t) gd hr (by decide) QC.passE rfl (pa_cons (pv 4) pa_nil))))
      (pss_cons (ps_expr (QK.pe_bm (K := K) rfl PySem.F.plainAttrs_list PySem.F.slot_list_extend PySem.F.type_list_extend mt_extend (pv 3) (pa_cons (pe_lc rfl sc.nd (QK.pi_list (K := K) rfl (pv 1)) (blkOk_by (own := [("row", 5)]) (by show blkC ["types", "casts", "versions", "found", "name", "row"] (defScope (top 23)) _ _ = true; decide +kernel)) (fun _ _ _ _ _ => (pg_name (i := 5) sc.nd rfl (by first | exact .inl rfl | exact .inr rfl))) (fun _ _ _ _ _ => pts_nil) (fun _ _ _ _ _ => (QC.pe_q (c_cast_words (K := K) t) gd hr (by decide) QC.passE rfl (pa_cons (pv 5) pa_nil)))) pa_nil)))
      (pss_one (ps_ret (pe_op op_cat (pv 3) (pe_lc rfl sc.nd (QK.pi_list (K := K) rfl (pv 2)) (blkOk_by (own := [("row", 5)]) (by show blkC ["types", "casts", "versions", "found", "name", "row"] (defScope (top 23)) _ _ = true; decide +kernel)) (fun _ _ _ _ _ => (pg_name (i := 5) sc.nd rfl (by first | exact .inl rfl | exact .inr rfl))) (fun _ _ _ _ _ => pts_nil) (fun _ _ _ _ _ => (QC.pe_q (c_version_words (K := K) t) gd hr (by decide) QC.passE rfl (pa_cons (pv 5) pa_nil))))))))), ?_⟩
  exact QW.pure_scW h

theorem s_words_text : FnScope ["rows", "words"] ["rows"] (defScope (top 24)) := ⟨rfl, rfl, rfl, by decide +kernel, rfl, by decide +kernel, by decide +kernel⟩
theorem c_words_text (t : T K mg base) : QC.Cal P w K mg base (L2.CX P w) 1 "words_text" QW.spWT [] := by
  obtain ⟨fd, F⟩ := t.c.def_ 9
  have sc := s_words_text
  refine QC.cal (k := 0) F (g_words_text t) (fun _ _ _ _ _ _ us hl => match us, hl with | [_], _ => rfl) sc QW.spWT.len (fun cdv A outer s H vs Q E gd hr h => ?_)
  have hu := QC.hu64 hr
  refine ⟨_, PSs.nox (pss_one (ps_ret (QK.pe_join (K := K) rfl pe_str (pe_lc rfl sc.nd (QK.pi_list (K := K) rfl (pv 0)) (blkOk_by (own := [("words", 1)]) (by show blkC ["rows", "words"] (defScope (top 24)) _ _ = true; decide +kernel)) (fun _ _ _ _ _ => (pg_name (i := 1) sc.nd rfl (by first | exact .inl rfl | exact .inr rfl))) (fun _ _ _ _ _ => pts_nil) (fun _ _ _ _ _ => (pe_op op_add_str (QK.pe_join (K := K) rfl pe_str (pv 1)) pe_str)))))), ?_⟩
  exact QW.pure_wT h

end
end K22

set_option Elab.async false
set_option linter.all false
set_option maxRecDepth 100000
set_option maxHeartbeats 1000000
namespace K22
open PySem PySem.Spec PyProof.Rows L2
section
variable {P : Program} {w : World} {K : PySem.W.Frag} {mg : Str → Option Value} {base : Heap}

theorem s_Scheme_init : FnScope ["self", "types", "casts", "versions"] ["self", "types", "casts", "versions"] (defScope (inClass (top 31) 3)) := ⟨rfl, rfl, rfl, by decide +kernel, rfl, by decide +kernel, by decide +kernel⟩
theorem mkc_Scheme (t : T K mg base) : QC.Mak P w K mg base (L2.CX P w) 5 "Scheme" (He.ga K "Scheme") (QW.spSch (He.ga K "Scheme") (He.ga K "TypeOrder")) [] := by
  obtain ⟨fd, F⟩ := t.c.def_ 37
  have sc := s_Scheme_init
  refine ⟨_, fd, ["self", "types", "casts", "versions"], [], mk_Scheme t, QC.okGD (k := 4) F sc QW.spSch.len (fun cdv A outer s H vs Q E gd hr h => ?_), g_Scheme t, by obtain ⟨ds, v, b⟩ := F.binds1 (ps := ["self", "types", "casts", "versions"]) 4 3 (List.cons_ne_nil _ _) rfl (fun _ _ _ _ _ _ _ us its h1 h2 => match us, its, h1, h2 with | [_, _, _, _], [_, _, _], _, _ => ⟨_, rfl, rfl⟩); cases v; exact b, .nil⟩
  have hu := QC.hu64 hr
  refine ⟨_, PSs.nox (pss_cons (ps_fld (pv 0) (pe_lst pa_nil) rfl)
      (pss_cons (ps_fld (pv 0) pe_dnewK rfl)
      (pss_cons (ps_fld (pv 0) pe_dnewK rfl)
      (pss_cons (ps_fld (pv 0) pe_dnewK rfl)
      (pss_cons (ps_expr (QC.pe_m (c_Scheme_take_types (K := K) t) gd hr (by decide) (fun _ => QC.passE0) (pv 0) (pa_cons (pv 1) pa_nil)))
      (pss_cons (ps_fld (pv 0) (QC.pe_k (mkc_TypeOrder t) gd hr (by decide) (fun _ => QC.passE0) rfl (pa_cons (QK.pe_fld (K := K) rfl (pv 0)) pa_nil)) rfl)
      (pss_cons (ps_expr (QC.pe_m (c_Scheme_take_casts (K := K) t) gd hr (by decide) (fun _ => QC.passE0) (pv 0) (pa_cons (pv 2) pa_nil)))
      (pss_cons (ps_expr (QC.pe_m (c_Scheme_take_versions (K := K) t) gd hr (by decide) (fun _ => QC.passE0) (pv 0) (pa_cons (pv 3) pa_nil)))
      (pss_one (ps_fld (pv 0) (QC.pe_q (c_words_text (K := K) t) gd hr (by decide) QC.passE rfl (pa_cons (QC.pe_q (c_scheme_words (K := K) t) gd hr (by decide) QC.passE rfl (pa_cons (QC.pe_m0 (c_Scheme_types (K := K) t) gd hr (by decide) (fun _ => QC.passE0) (pv 0)) (pa_cons (QC.pe_m0 (c_Scheme_casts (K := K) t) gd hr (by decide) (fun _ => QC.passE0) (pv 0)) (pa_cons (QC.pe_m0 (c_Scheme_versions (K := K) t) gd hr (by decide) (fun _ => QC.passE0) (pv 0)) pa_nil)))) pa_nil)) rfl)))))))))), ?_⟩
  exact QW.pure_si (cl_Scheme t) (no_Scheme_own_types t) (no_Scheme_own_casts t) (no_Scheme_own_versions t) (no_Scheme_own_arities t) (no_Scheme_own_order t) (no_Scheme_own_text t) h

end
end K22

set_option Elab.async false
set_option linter.all false
set_option maxRecDepth 100000
set_option maxHeartbeats 1000000
namespace K22
open PySem PySem.Spec PyProof.Rows L2
section
variable {P : Program} {w : World} {K : PySem.W.Frag} {mg : Str → Option Value} {base : Heap}

theorem s_Scheme_require_type : FnScope ["self", "value"] ["self", "value"] (defScope (inClass (top 31) 18)) := ⟨rfl, rfl, rfl, by decide +kernel, rfl, by decide +kernel, by decide +kernel⟩
theorem c_Scheme_require_type (t : T K mg base) : QC.Met P w K mg base (L2.CX P w) 3 (He.ga K "Scheme") "require_type" (QW.spReq K (He.ga K "Scheme") (He.ga K "UnknownType")) [] := by
  obtain ⟨fd, F⟩ := t.c.def_ 50
  have sc := s_Scheme_require_type
  refine ⟨_, fd, ["self", "value"], [], cl_Scheme t, me_Scheme_require_type t, QC.okG (k := 2) F sc QW.spReq.len (fun cdv A outer s H vs Q E gd hr h => ?_), F.bindsN (fun _ _ _ _ _ _ us hl => match us, hl with | [_, _], _ => rfl), .nil⟩
  have hu := QC.hu64 hr
  refine ⟨_,  (pss_one (ps_if (pt_not (pt_val (QC.pe_m (c_Scheme_has_type (K := K) t) gd hr (by decide) (fun _ => QC.passE0) (pv 0) (pa_cons (pv 1) pa_nil)))) (pss_one (ps_raise rfl (takes_of rfl rfl rfl rfl) (QE.pmk_E (m_UnknownType t) hr (by decide) rfl (pa_cons (pv 1) pa_nil)))) pss_nil)), ?_⟩
  exact QW.pure_req h

theorem s_Scheme_is_at_or_below : FnScope ["self", "one", "other"] ["self", "one", "other"] (defScope (inClass (top 31) 23)) := ⟨rfl, rfl, rfl, by decide +kernel, rfl, by decide +kernel, by decide +kernel⟩
theorem c_Scheme_is_at_or_below (t : T K mg base) : QC.Met P w K mg base (L2.CX P w) 4 (He.ga K "Scheme") "is_at_or_below" (QW.spBo K (He.ga K "Scheme") (He.ga K "TypeOrder") (He.ga K "UnknownType")) [] := by
  obtain ⟨fd, F⟩ := t.c.def_ 54
  have sc := s_Scheme_is_at_or_below
  refine ⟨_, fd, ["self", "one", "other"], [], cl_Scheme t, me_Scheme_is_at_or_below t, QC.okG (k := 3) F sc QW.spBo.len (fun cdv A outer s H vs Q E gd hr h => ?_), F.bindsN (fun _ _ _ _ _ _ us hl => match us, hl with | [_, _, _], _ => rfl), .nil⟩
  have hu := QC.hu64 hr
  refine ⟨_,  (pss_cons (ps_expr (QC.pe_m (c_Scheme_require_type (K := K) t) gd hr (by decide) (fun σ => passAt (takes_of rfl rfl rfl rfl) σ) (pv 0) (pa_cons (pv 1) pa_nil)))
      (pss_cons (ps_expr (QC.pe_m (c_Scheme_require_type (K := K) t) gd hr (by decide) (fun σ => passAt (takes_of rfl rfl rfl rfl) σ) (pv 0) (pa_cons (pv 2) pa_nil)))
      (pss_one (ps_ret (QC.pe_m (c_TypeOrder_is_at_or_below (K := K) t) gd hr (by decide) (fun _ => QC.passE0) (QK.pe_fld (K := K) rfl (pv 0)) (pa_cons (pv 1) (pa_cons (pv 2) pa_nil))))))), ?_⟩
  exact QW.pure_bo (cl_Scheme t) (no_Scheme_own_order t) h

end
end K22

set_option Elab.async false
set_option linter.all false
set_option maxRecDepth 100000
set_option maxHeartbeats 1000000
namespace K22
open PySem PySem.Spec PyProof.Rows L2
section
variable {P : Program} {w : World} {K : PySem.W.Frag} {mg : Str → Option Value} {base : Heap}

theorem s__law_scheme : FnScope ["pot", "most", "edges", "uses", "labels", "s", "name", "one", "other", "operators", "arities", "k", "given", "turn"] ["pot", "most", "edges", "uses"] (defScope (top 39)) := ⟨rfl, rfl, rfl, by decide +kernel, rfl, by decide +kernel, by decide +kernel⟩
theorem c__law_scheme (t : T K mg base) : QC.Cal P w K mg base (L2.CX P w) 5 "_law_scheme" QW.spScheme [] := by
  obtain ⟨fd, F⟩ := t.c.def_ 19
  have sc := s__law_scheme
  refine QC.cal (k := 4) F (g__law_scheme t) (fun _ _ _ _ _ _ us hl => match us, hl with | [_, _, _, _], _ => rfl) sc QW.spScheme.len (fun cdv A outer s H vs Q E gd hr h => ?_)
  have hu := QC.hu64 hr
  refine ⟨_, PSs.nox (pss_cons (ps_set (i := 4) sc.nd rfl (by first | exact .inl rfl | exact .inr rfl) (QC.pe_q (c__law_words (K := K) t) gd hr (by decide) QC.passE rfl (pa_cons (pv 0) (pa_cons (pe_op op_add pe_int (QC.pe_q (c__law_draw (K := K) t) gd hr (by decide) QC.passE rfl (pa_cons (pv 0) (pa_cons (pv 1) pa_nil)))) pa_nil))))
      (pss_cons (ps_set (i := 5) sc.nd rfl (by first | exact .inl rfl | exact .inr rfl) (pe_disp (pps_cons pe_str (pv 4) (pps_cons pe_str (pe_lst pa_nil) (pps_cons pe_str (pe_lst pa_nil) pps_nil))) rfl rfl (by simp) (by decide)))
      (pss_cons (ps_for PassesOwn.never rfl (QK.pi_list (K := K) rfl (QC.pe_q (c__law_words (K := K) t) gd hr (by decide) QC.passE rfl (pa_cons (pv 0) (pa_cons (QC.pe_q (c__law_draw (K := K) t) gd hr (by decide) QC.passE rfl (pa_cons (pv 0) (pa_cons (pe_op op_add (pv 2) pe_int) pa_nil))) pa_nil)))) (pg_name (i := 6) sc.nd rfl (by first | exact .inl rfl | exact .inr rfl)) (pss_cons (ps_par (i := 7) (j := 8) rfl sc.nd rfl rfl (by decide) rfl rfl (pa_cons (QC.pe_q (c__law_draw (K := K) t) gd hr (by decide) QC.passE rfl (pa_cons (pv 0) (pa_cons (pe_callB (QK.call_len_seq (K := K) rfl) rfl (n_len t) (by decide +kernel) (pa_cons (pv 4) pa_nil)) pa_nil))) (pa_cons (QC.pe_q (c__law_draw (K := K) t) gd hr (by decide) QC.passE rfl (pa_cons (pv 0) (pa_cons (pe_callB (QK.call_len_seq (K := K) rfl) rfl (n_len t) (by decide +kernel) (pa_cons (pv 4) pa_nil)) pa_nil))) pa_nil)) rfl)
      (pss_one (ps_if (pt_cmpR op_ne (pv 7) (pv 8) (nomark _)) (pss_one (ps_expr (pe_bm PySem.F.plainAttrs_list PySem.F.slot_list_append PySem.F.type_list_append mt_append (pe_dget (hu_of hr) (pv 5) pe_str (fun _ _ => rfl)) (pa_cons (pe_tup (pa_cons (pv 6) (pa_cons (pe_ix (QK.ix_list (K := K) rfl) (pv 4) (pe_callB (call_min2 rfl) rfl (n_min t) (by decide +kernel) (pa_cons (pv 7) (pa_cons (pv 8) pa_nil))) (fun _ _ => rfl)) (pa_cons (pe_ix (QK.ix_list (K := K) rfl) (pv 4) (pe_callB (call_max2 rfl) rfl (n_max t) (by decide +kernel) (pa_cons (pv 7) (pa_cons (pv 8) pa_nil))) (fun _ _ => rfl)) pa_nil)))) pa_nil)))) pss_nil))))
      (pss_cons (ps_set (i := 9) sc.nd rfl (by first | exact .inl rfl | exact .inr rfl) (QC.pe_q (c__law_words (K := K) t) gd hr (by decide) QC.passE rfl (pa_cons (pv 0) (pa_cons pe_int pa_nil))))
      (pss_cons (ps_set (i := 10) sc.nd rfl (by first | exact .inl rfl | exact .inr rfl) (pe_lst (pa_cons (pe_op op_add pe_int (QC.pe_q (c__law_draw (K := K) t) gd hr (by decide) QC.passE rfl (pa_cons (pv 0) (pa_cons pe_int pa_nil)))) (pa_cons (pe_op op_add pe_int (QC.pe_q (c__law_draw (K := K) t) gd hr (by decide) QC.passE rfl (pa_cons (pv 0) (pa_cons pe_int pa_nil)))) pa_nil))))
      (pss_cons (ps_for PassesOwn.never rfl (QK.pi_list (K := K) rfl (QC.pe_q (c__law_words (K := K) t) gd hr (by decide) QC.passE rfl (pa_cons (pv 0) (pa_cons (QC.pe_q (c__law_draw (K := K) t) gd hr (by decide) QC.passE rfl (pa_cons (pv 0) (pa_cons (pe_op op_add (pv 3) pe_int) pa_nil))) pa_nil)))) (pg_name (i := 6) sc.nd rfl (by first | exact .inl rfl | exact .inr rfl)) (pss_cons (ps_set (i := 11) sc.nd rfl (by first | exact .inl rfl | exact .inr rfl) (pe_op op_fdiv (QC.pe_q (c__law_draw (K := K) t) gd hr (by decide) QC.passE rfl (pa_cons (pv 0) (pa_cons pe_int pa_nil))) pe_int))
      (pss_cons (ps_set (i := 12) sc.nd rfl (by first | exact .inl rfl | exact .inr rfl) (pe_callTy (QK.call_tuple_of (K := K) rfl) rfl (n_tuple t) (by decide +kernel) (pa_cons (pe_lc rfl sc.nd (pi_range1 rfl (n_range t) (pa_cons (pe_ix (QK.ix_list (K := K) rfl) (pv 10) (pv 11) (fun _ _ => rfl)) pa_nil)) (blkOk_by (own := [("turn", 13)]) (by show blkC ["pot", "most", "edges", "uses", "labels", "s", "name", "one", "other", "operators", "arities", "k", "given", "turn"] (defScope (top 39)) _ _ = true; decide +kernel)) (fun _ _ _ _ _ => (pg_name (i := 13) sc.nd rfl (by first | exact .inl rfl | exact .inr rfl))) (fun _ _ _ _ _ => pts_nil) (fun _ _ _ _ _ => (QC.pe_q (c__law_choice (K := K) t) gd hr (by decide) QC.passE rfl (pa_cons (pv 0) (pa_cons (pv 4) pa_nil))))) pa_nil)))
      (pss_one (ps_expr (pe_bm PySem.F.plainAttrs_list PySem.F.slot_list_append PySem.F.type_list_append mt_append (pe_dget (hu_of hr) (pv 5) pe_str (fun _ _ => rfl)) (pa_cons (pe_tup (pa_cons (pv 6) (pa_cons (pe_ix (QK.ix_list (K := K) rfl) (pv 9) (pv 11) (fun _ _ => rfl)) (pa_cons (pv 12) (pa_cons (QC.pe_q (c__law_choice (K := K) t) gd hr (by decide) QC.passE rfl (pa_cons (pv 0) (pa_cons (pv 4) pa_nil))) pa_nil))))) pa_nil)))))))
      (pss_one (ps_ret (pv 5))))))))), ?_⟩
  exact QW.pure_sch h

theorem s__law_handed : FnScope ["pot", "s", "labels", "edges"] ["pot", "s"] (defScope (top 40)) := ⟨rfl, rfl, rfl, by decide +kernel, rfl, by decide +kernel, by decide +kernel⟩
theorem c__law_handed (t : T K mg base) : QC.Cal P w K mg base (L2.CX P w) 3 "_law_handed" QW.spHanded [] := by
  obtain ⟨fd, F⟩ := t.c.def_ 20
  have sc := s__law_handed
  refine QC.cal (k := 2) F (g__law_handed t) (fun _ _ _ _ _ _ us hl => match us, hl with | [_, _], _ => rfl) sc QW.spHanded.len (fun cdv A outer s H vs Q E gd hr h => ?_)
  have hu := QC.hu64 hr
  refine ⟨_, PSs.nox (pss_cons (ps_par (i := 2) (j := 3) rfl sc.nd rfl rfl (by decide) rfl rfl (pa_cons (QC.pe_q (c__law_mixed (K := K) t) gd hr (by decide) QC.passE rfl (pa_cons (pv 0) (pa_cons (pe_dget (hu_of hr) (pv 1) pe_str (fun _ _ => rfl)) pa_nil))) (pa_cons (QC.pe_q (c__law_mixed (K := K) t) gd hr (by decide) QC.passE rfl (pa_cons (pv 0) (pa_cons (pe_dget (hu_of hr) (pv 1) pe_str (fun _ _ => rfl)) pa_nil))) pa_nil)) rfl)
      (pss_one (ps_ret (pe_tup (pa_cons (pv 2) (pa_cons (pv 3) (pa_cons (QC.pe_q (c__law_mixed (K := K) t) gd hr (by decide) QC.passE rfl (pa_cons (pv 0) (pa_cons (pe_dget (hu_of hr) (pv 1) pe_str (fun _ _ => rfl)) pa_nil))) pa_nil))))))), ?_⟩
  exact QW.pure_handed h

theorem s__law_made : FnScope ["pot", "s", "labels", "edges", "rows"] ["pot", "s"] (defScope (top 41)) := ⟨rfl, rfl, rfl, by decide +kernel, rfl, by decide +kernel, by decide +kernel⟩
theorem c__law_made (t : T K mg base) : QC.Cal P w K mg base (L2.CX P w) 7 "_law_made" (QW.spMade (He.ga K "Scheme") (He.ga K "TypeOrder")) [] := by
  obtain ⟨fd, F⟩ := t.c.def_ 21
  have sc := s__law_made
  refine QC.cal (k := 6) F (g__law_made t) (fun _ _ _ _ _ _ us hl => match us, hl with | [_, _], _ => rfl) sc QW.spMade.len (fun cdv A outer s H vs Q E gd hr h => ?_)
  have hu := QC.hu64 hr
  refine ⟨_, PSs.nox (pss_cons (ps_asg (QC.pe_q (c__law_handed (K := K) t) gd hr (by decide) QC.passE rfl (pa_cons (pv 0) (pa_cons (pv 1) pa_nil))) (QK.pg_tup (K := K) (n := 3) rfl rfl (pgs_cons (pg_name (i := 2) sc.nd rfl (by first | exact .inl rfl | exact .inr rfl)) (pgs_cons (pg_name (i := 3) sc.nd rfl (by first | exact .inl rfl | exact .inr rfl)) (pgs_cons (pg_name (i := 4) sc.nd rfl (by first | exact .inl rfl | exact .inr rfl)) pgs_nil)))))
      (pss_one (ps_ret (QC.pe_k (mkc_Scheme t) gd hr (by decide) (fun _ => QC.passE0) rfl (pa_cons (pv 2) (pa_cons (pv 3) (pa_cons (pv 4) pa_nil))))))), ?_⟩
  exact QW.pure_made h

end
end K22

set_option Elab.async false
set_option linter.all false
set_option maxRecDepth 100000
set_option maxHeartbeats 1000000
namespace K22
open PySem PySem.Spec PyProof.Rows L2
section
variable {P : Program} {w : World} {K : PySem.W.Frag} {mg : Str → Option Value} {base : Heap}

theorem s_Scheme_has_cast : FnScope ["self", "value"] ["self", "value"] (defScope (inClass (top 31) 16)) := ⟨rfl, rfl, rfl, by decide +kernel, rfl, by decide +kernel, by decide +kernel⟩
theorem c_Scheme_has_cast (t : T K mg base) : QC.Met P w K mg base (L2.CX P w) 2 (He.ga K "Scheme") "has_cast" (QW.spHasC K (He.ga K "Scheme")) [] := by
  obtain ⟨fd, F⟩ := t.c.def_ 48
  have sc := s_Scheme_has_cast
  refine ⟨_, fd, ["self", "value"], [], cl_Scheme t, me_Scheme_has_cast t, QC.okG (k := 1) F sc QW.spHasC.len (fun cdv A outer s H vs Q E gd hr h => ?_), F.bindsN (fun _ _ _ _ _ _ us hl => match us, hl with | [_, _], _ => rfl), .nil⟩
  have hu := QC.hu64 hr
  refine ⟨_, PSs.nox (pss_one (ps_ret (QC.pe_q (c_is_one_of (K := K) t) gd hr (by decide) QC.passE rfl (pa_cons (pv 1) (pa_cons (QK.pe_fld (K := K) rfl (pv 0)) pa_nil))))), ?_⟩
  exact QW.pure_hasC (cl_Scheme t) (no_Scheme_own_casts t) h

theorem s_Scheme_cast : FnScope ["self", "name"] ["self", "name"] (defScope (inClass (top 31) 19)) := ⟨rfl, rfl, rfl, by decide +kernel, rfl, by decide +kernel, by decide +kernel⟩
theorem c_Scheme_cast (t : T K mg base) : QC.Met P w K mg base (L2.CX P w) 3 (He.ga K "Scheme") "cast" (QW.spCast K (He.ga K "Scheme") (He.ga K "UnknownCast")) [] := by
  obtain ⟨fd, F⟩ := t.c.def_ 51
  have sc := s_Scheme_cast
  refine ⟨_, fd, ["self", "name"], [], cl_Scheme t, me_Scheme_cast t, QC.okG (k := 2) F sc QW.spCast.len (fun cdv A outer s H vs Q E gd hr h => ?_), F.bindsN (fun _ _ _ _ _ _ us hl => match us, hl with | [_, _], _ => rfl), .nil⟩
  have hu := QC.hu64 hr
  refine ⟨_,  (pss_cons (ps_if (pt_not (pt_val (QC.pe_m (c_Scheme_has_cast (K := K) t) gd hr (by decide) (fun _ => QC.passE0) (pv 0) (pa_cons (pv 1) pa_nil)))) (pss_one (ps_raise rfl (takes_of rfl rfl rfl rfl) (QE.pmk_E (m_UnknownCast t) hr (by decide) rfl (pa_cons (pv 1) pa_nil)))) pss_nil)
      (pss_one (ps_ret (pe_dget (hu_of hr) (QK.pe_fld (K := K) rfl (pv 0)) (pv 1) (fun _ _ => rfl))))), ?_⟩
  exact QW.pure_cast (cl_Scheme t) (no_Scheme_own_casts t) h

theorem s_require_types : FnScope ["scheme", "values", "value"] ["scheme", "values"] (defScope (top 10)) := ⟨rfl, rfl, rfl, by decide +kernel, rfl, by decide +kernel, by decide +kernel⟩
theorem cv_require_types (t : T K mg base) : QC.CalV P w K mg base (L2.CX P w) 4 2 "require_types" (QW.spReqs K (He.ga K "Scheme") (He.ga K "UnknownType")) := by
  obtain ⟨fd, F⟩ := t.c.def_ 0
  have sc := s_require_types
  refine QC.calV (k := 3) F (g_require_types t) (by decide) (fun _ _ _ _ _ _ u rest hl => match rest, hl with
    | [], _ => rfl
    | [_], _ => rfl
    | [_, _], _ => rfl
    | _ :: _ :: _ :: r, h => absurd h (by simp only [List.length_cons]; omega)) sc (fun cdv A outer s H vs Q E gd hr h => ?_)
  have hu := QC.hu64 hr
  refine ⟨_, (pss_one (ps_for (passes_of rfl) rfl (QK.pi_tup (K := K) rfl (pv 1)) (pg_name (i := 2) sc.nd rfl (by first | exact .inl rfl | exact .inr rfl)) (pss_one (ps_if (pt_not (pt_val (QC.pe_m (c_Scheme_has_type (K := K) t) gd hr (by decide) (fun _ => QC.passE0) (pv 0) (pa_cons (pv 2) pa_nil)))) (pss_one (ps_raise rfl (takes_of rfl rfl rfl rfl) (QE.pmk_E (m_UnknownType t) hr (by decide) rfl (pa_cons (pv 2) pa_nil)))) pss_nil)))), ?_⟩
  exact QW.pure_reqs h

theorem s_walked : FnScope ["scheme", "source", "value", "found", "name", "start", "end"] ["scheme", "source", "value"] (defScope (top 11)) := ⟨rfl, rfl, rfl, by decide +kernel, rfl, by decide +kernel, by decide +kernel⟩
theorem c_walked (t : T K mg base) : QC.Cal P w K mg base (L2.CX P w) 4 "walked" (QW.spWk K (He.ga K "Scheme")) [] := by
  obtain ⟨fd, F⟩ := t.c.def_ 1
  have sc := s_walked
  refine QC.cal (k := 3) F (g_walked t) (fun _ _ _ _ _ _ us hl => match us, hl with | [_, _, _], _ => rfl) sc QW.spWk.len (fun cdv A outer s H vs Q E gd hr h => ?_)
  have hu := QC.hu64 hr
  refine ⟨_, PSs.nox (pss_cons (ps_if (pt_not (pt_val (pe_callB (QK.call_isi (K := K) rfl) rfl (n_isinstance t) (by decide +kernel) (pa_cons (pv 2) (pa_cons (pe_bltn (v := .ty "tuple") (u := .type "tuple") rfl (n_tuple t) (by decide +kernel) rfl) pa_nil))))) (pss_one (ps_ret pe_non)) pss_nil)
      (pss_cons (ps_set (i := 3) sc.nd rfl (by first | exact .inl rfl | exact .inr rfl) (pe_lst (pa_cons (pv 1) pa_nil)))
      (pss_cons (ps_for PassesOwn.never rfl (QK.pi_tup (K := K) rfl (pv 2)) (pg_name (i := 4) sc.nd rfl (by first | exact .inl rfl | exact .inr rfl)) (pss_cons (ps_asg (pe_ifExp (pt_val (QC.pe_m (c_Scheme_has_cast (K := K) t) gd hr (by decide) (fun _ => QC.passE0) (pv 0) (pa_cons (pv 4) pa_nil))) (QC.pe_m (c_Scheme_cast (K := K) t) gd hr (by decide) (fun _ => QC.passE0) (pv 0) (pa_cons (pv 4) pa_nil)) (pe_tup (pa_cons pe_non (pa_cons pe_non pa_nil)))) (QK.pg_tup (K := K) (n := 2) rfl rfl (pgs_cons (pg_name (i := 5) sc.nd rfl (by first | exact .inl rfl | exact .inr rfl)) (pgs_cons (pg_name (i := 6) sc.nd rfl (by first | exact .inl rfl | exact .inr rfl)) pgs_nil))))
      (pss_cons (ps_if (pt_cmpR op_ne (pv 5) (pe_ix (QK.ix_list (K := K) rfl) (pv 3) (pe_un un_neg pe_int) (fun _ _ => rfl)) (nomark _)) (pss_one (ps_ret pe_non)) pss_nil)
      (pss_one (ps_expr (pe_bm PySem.F.plainAttrs_list PySem.F.slot_list_append PySem.F.type_list_append mt_append (pv 3) (pa_cons (pv 6) pa_nil)))))))
      (pss_one (ps_ret (pv 3)))))), ?_⟩
  exact QW.pure_wk (UC := (He.ga K "UnknownCast")) h

theorem s_is_path : FnScope ["scheme", "source", "target", "value", "types"] ["scheme", "source", "target", "value"] (defScope (top 12)) := ⟨rfl, rfl, rfl, by decide +kernel, rfl, by decide +kernel, by decide +kernel⟩
theorem c_is_path (t : T K mg base) : QC.Cal P w K mg base (L2.CX P w) 6 "is_path" (QW.spIp K (He.ga K "Scheme") (He.ga K "UnknownType")) [] := by
  obtain ⟨fd, F⟩ := t.c.def_ 2
  have sc := s_is_path
  refine QC.cal (k := 5) F (g_is_path t) (fun _ _ _ _ _ _ us hl => match us, hl with | [_, _, _, _], _ => rfl) sc QW.spIp.len (fun cdv A outer s H vs Q E gd hr h => ?_)
  have hu := QC.hu64 hr
  refine ⟨_,  (pss_cons (ps_expr (QC.pe_v (cv_require_types (K := K) t) (by decide) gd hr (by decide) (fun σ => passAt (takes_of rfl rfl rfl rfl) σ) rfl (pa_cons (pv 0) (pa_cons (pv 1) (pa_cons (pv 2) pa_nil)))))
      (pss_cons (ps_set (i := 4) sc.nd rfl (by first | exact .inl rfl | exact .inr rfl) (QC.pe_q (c_walked (K := K) t) gd hr (by decide) QC.passE rfl (pa_cons (pv 0) (pa_cons (pv 1) (pa_cons (pv 3) pa_nil)))))
      (pss_one (ps_ret (pe_and (pe_cmpR op_notN (pv 4) pe_non (by rfl)) (pe_one (pe_cmpR op_eq (pe_ix (QK.ix_list (K := K) rfl) (pv 4) (pe_un un_neg pe_int) (fun _ _ => rfl)) (pv 2) (nomark _)))))))), ?_⟩
  exact QW.pure_ip h

end
end K22

set_option Elab.async false
set_option linter.all false
set_option maxRecDepth 100000
set_option maxHeartbeats 1000000
namespace K22
open PySem PySem.Spec PyProof.Rows L2
section
variable {P : Program} {w : World} {K : PySem.W.Frag} {mg : Str → Option Value} {base : Heap}

theorem s__law_paths : FnScope ["s", "source", "target", "found", "ends", "path", "at", "further", "one"] ["s", "source", "target"] (defScope (top 42)) := ⟨rfl, rfl, rfl, by decide +kernel, rfl, by decide +kernel, by decide +kernel⟩
theorem c__law_paths (t : T K mg base) : QC.Cal P w K mg base (L2.CX P w) 2 "_law_paths" QW.spPaths [] := by
  obtain ⟨fd, F⟩ := t.c.def_ 22
  have sc := s__law_paths
  refine QC.cal (k := 1) F (g__law_paths t) (fun _ _ _ _ _ _ us hl => match us, hl with | [_, _, _], _ => rfl) sc QW.spPaths.len (fun cdv A outer s H vs Q E gd hr h => ?_)
  have hu := QC.hu64 hr
  refine ⟨_, PSs.nox (pss_cons (ps_par (i := 3) (j := 4) rfl sc.nd rfl rfl (by decide) rfl rfl (pa_cons (pe_lst pa_nil) (pa_cons (pe_lst (pa_cons (pe_tup (pa_cons (pe_tup pa_nil) (pa_cons (pv 1) pa_nil))) pa_nil)) pa_nil)) rfl)
      (pss_cons (ps_while PassesOwn.never (pt_cmpR (QK.op_neD (K := K) rfl hu) (pv 4) (pe_lst pa_nil) (nomark _))
      (pss_cons (ps_set (i := 3) sc.nd rfl (by first | exact .inl rfl | exact .inr rfl) (pe_op op_cat (pv 3) (pe_callB (QK.cr_sortTT (K := K) rfl) rfl (n_sorted t) (by decide +kernel) (pa_cons (pe_lc rfl sc.nd (QK.pi_list (K := K) rfl (pv 4)) (blkOk_by (own := [("path", 5), ("at", 6)]) (by show blkC ["s", "source", "target", "found", "ends", "path", "at", "further", "one"] (defScope (top 42)) _ _ = true; decide +kernel)) (fun _ _ _ _ _ => (QK.pg_tup (K := K) (n := 2) rfl rfl (pgs_cons (pg_name (i := 5) sc.nd rfl (by first | exact .inl rfl | exact .inr rfl)) (pgs_cons (pg_name (i := 6) sc.nd rfl (by first | exact .inl rfl | exact .inr rfl)) pgs_nil)))) (fun _ _ _ _ _ => (pts_one (pt_cmpR op_eq (pv 6) (pv 2) (nomark _)))) (fun _ _ _ _ _ => (pv 5))) pa_nil))))
      (pss_cons (ps_set (i := 7) sc.nd rfl (by first | exact .inl rfl | exact .inr rfl) (pe_lst pa_nil))
      (pss_cons (ps_for PassesOwn.never rfl (QK.pi_list (K := K) rfl (pv 4)) (QK.pg_tup (K := K) (n := 2) rfl rfl (pgs_cons (pg_name (i := 5) sc.nd rfl (by first | exact .inl rfl | exact .inr rfl)) (pgs_cons (pg_name (i := 6) sc.nd rfl (by first | exact .inl rfl | exact .inr rfl)) pgs_nil))) (pss_one (ps_set (i := 7) sc.nd rfl (by first | exact .inl rfl | exact .inr rfl) (pe_op op_cat (pv 7) (pe_lc rfl sc.nd (QK.pi_list (K := K) rfl (pe_dget (hu_of hr) (pv 0) pe_str (fun _ _ => rfl))) (blkOk_by (own := [("one", 8)]) (by show blkC ["s", "source", "target", "found", "ends", "path", "at", "further", "one"] (defScope (top 42)) _ _ = true; decide +kernel)) (fun _ _ _ _ _ => (pg_name (i := 8) sc.nd rfl (by first | exact .inl rfl | exact .inr rfl))) (fun _ _ _ _ _ => (pts_one (pt_cmpR op_eq (pe_ix (QK.ix_tup (K := K) rfl) (pv 8) pe_int (fun _ _ => rfl)) (pv 6) (nomark _)))) (fun _ _ _ _ _ => (pe_tup (pa_cons (pe_op (QK.op_catE (K := K) rfl) (pv 5) (pe_tup (pa_cons (pe_ix (QK.ix_tup (K := K) rfl) (pv 8) pe_int (fun _ _ => rfl)) pa_nil))) (pa_cons (pe_ix (QK.ix_tup (K := K) rfl) (pv 8) pe_int (fun _ _ => rfl)) pa_nil)))))))))
      (pss_one (ps_set (i := 4) sc.nd rfl (by first | exact .inl rfl | exact .inr rfl) (pv 7)))))))
      (pss_one (ps_ret (pv 3))))), ?_⟩
  exact QW.pure_paths h

theorem s__law_leads : FnScope ["s", "one", "other", "value", "here", "name", "ends", "row"] ["s", "one", "other", "value"] (defScope (top 43)) := ⟨rfl, rfl, rfl, by decide +kernel, rfl, by decide +kernel, by decide +kernel⟩
theorem c__law_leads (t : T K mg base) : QC.Cal P w K mg base (L2.CX P w) 2 "_law_leads" (QW.spLeads K) [] := by
  obtain ⟨fd, F⟩ := t.c.def_ 23
  have sc := s__law_leads
  refine QC.cal (k := 1) F (g__law_leads t) (fun _ _ _ _ _ _ us hl => match us, hl with | [_, _, _, _], _ => rfl) sc QW.spLeads.len (fun cdv A outer s H vs Q E gd hr h => ?_)
  have hu := QC.hu64 hr
  refine ⟨_, PSs.nox (pss_cons (ps_if (pt_not (pt_val (pe_callB (QK.call_isi (K := K) rfl) rfl (n_isinstance t) (by decide +kernel) (pa_cons (pv 3) (pa_cons (pe_bltn (v := .ty "tuple") (u := .type "tuple") rfl (n_tuple t) (by decide +kernel) rfl) pa_nil))))) (pss_one (ps_ret pe_bl)) pss_nil)
      (pss_cons (ps_set (i := 4) sc.nd rfl (by first | exact .inl rfl | exact .inr rfl) (pv 1))
      (pss_cons (ps_for PassesOwn.never rfl (QK.pi_tup (K := K) rfl (pv 3)) (pg_name (i := 5) sc.nd rfl (by first | exact .inl rfl | exact .inr rfl)) (pss_cons (ps_setLc (i := 6) rfl sc.nd rfl rfl rfl (QK.pi_list (K := K) rfl (pe_dget (hu_of hr) (pv 0) pe_str (fun _ _ => rfl))) (blkOk_by (own := [("row", 7)]) (by show blkC ["s", "one", "other", "value", "here", "name", "ends", "row"] (defScope (top 43)) _ _ = true; decide +kernel)) (fun _ _ _ _ _ => (pg_name (i := 7) sc.nd rfl (by first | exact .inl rfl | exact .inr rfl))) (fun _ _ _ _ _ => (pts_one (PW.pt (pw_and (pt_val (pe_callB (QK.call_isi (K := K) rfl) rfl (n_isinstance t) (by decide +kernel) (pa_cons (pv 5) (pa_cons (pe_bltn (v := .ty "str") (u := .type "str") rfl (n_str t) (by decide +kernel) rfl) pa_nil)))) (pw_and1 (pt_cmpR op_eq (pe_ix (QK.ix_tup (K := K) rfl) (pv 7) pe_int (fun _ _ => rfl)) (pv 5) (nomark _))))))) (fun _ _ _ _ _ => (pv 7)))
      (pss_cons (ps_if (PW.pt (pw_or (pt_cmpR (QK.op_eqD (K := K) rfl hu) (pv 6) (pe_lst pa_nil) (nomark _)) (pw_or1 (pt_cmpR op_ne (pe_ix (QK.ix_tup (K := K) rfl) (pe_ix (QK.ix_list (K := K) rfl) (pv 6) pe_int (fun _ _ => rfl)) pe_int (fun _ _ => rfl)) (pv 4) (nomark _))))) (pss_one (ps_ret pe_bl)) pss_nil)
      (pss_one (ps_set (i := 4) sc.nd rfl (by first | exact .inl rfl | exact .inr rfl) (pe_ix (QK.ix_tup (K := K) rfl) (pe_ix (QK.ix_list (K := K) rfl) (pv 6) pe_int (fun _ _ => rfl)) pe_int (fun _ _ => rfl)))))))
      (pss_one (ps_ret (pe_cmpR op_eq (pv 4) (pv 2) (nomark _))))))), ?_⟩
  exact QW.pure_leads h

end
end K22

set_option Elab.async false
set_option linter.all false
set_option maxRecDepth 100000
set_option maxHeartbeats 1000000
namespace K22
open PySem PySem.Spec PyProof.Rows L2
section
variable {P : Program} {w : World} {K : PySem.W.Frag} {mg : Str → Option Value} {base : Heap}

theorem s__law_odd : FnScope ["pot", "s", "path", "names", "row", "at", "some", "odd"] ["pot", "s", "path"] (defScope (top 44)) := ⟨rfl, rfl, rfl, by decide +kernel, rfl, by decide +kernel, by decide +kernel⟩
theorem c__law_odd (t : T K mg base) : QC.Cal P w K mg base (L2.CX P w) 3 "_law_odd" (QW.spOddP K) [] := by
  obtain ⟨fd, F⟩ := t.c.def_ 24
  have sc := s__law_odd
  refine QC.cal (k := 2) F (g__law_odd t) (fun _ _ _ _ _ _ us hl => match us, hl with | [_, _, _], _ => rfl) sc QW.spOddP.len (fun cdv A outer s H vs Q E gd hr h => ?_)
  have hu := QC.hu64 hr
  refine ⟨_, PSs.nox (pss_cons (ps_set (i := 3) sc.nd rfl (by first | exact .inl rfl | exact .inr rfl) (pe_op op_cat (pe_lc rfl sc.nd (QK.pi_list (K := K) rfl (pe_dget (hu_of hr) (pv 1) pe_str (fun _ _ => rfl))) (blkOk_by (own := [("row", 4)]) (by show blkC ["pot", "s", "path", "names", "row", "at", "some", "odd"] (defScope (top 44)) _ _ = true; decide +kernel)) (fun _ _ _ _ _ => (pg_name (i := 4) sc.nd rfl (by first | exact .inl rfl | exact .inr rfl))) (fun _ _ _ _ _ => pts_nil) (fun _ _ _ _ _ => (pe_ix (QK.ix_tup (K := K) rfl) (pv 4) pe_int (fun _ _ => rfl)))) (pe_dget (hu_of hr) (pv 1) pe_str (fun _ _ => rfl))))
      (pss_cons (ps_par (i := 5) (j := 6) rfl sc.nd rfl rfl (by decide) rfl rfl (pa_cons (QC.pe_q (c__law_draw (K := K) t) gd hr (by decide) QC.passE rfl (pa_cons (pv 0) (pa_cons (pe_op op_add (pe_callB (QK.call_len_seq (K := K) rfl) rfl (n_len t) (by decide +kernel) (pa_cons (pv 2) pa_nil)) pe_int) pa_nil))) (pa_cons (QC.pe_q (c__law_choice (K := K) t) gd hr (by decide) QC.passE rfl (pa_cons (pv 0) (pa_cons (pv 3) pa_nil))) pa_nil)) rfl)
      (pss_cons (ps_set (i := 7) sc.nd rfl (by first | exact .inl rfl | exact .inr rfl) (pe_lst (pa_cons (pe_op (QK.op_catE (K := K) rfl) (pe_op (QK.op_catE (K := K) rfl) (pe_slice (QK.sl_tupA (K := K) rfl) (pv 2) po_none (po_some (pv 5))) (pe_tup (pa_cons (pv 6) pa_nil))) (pe_slice (QK.sl_tupA (K := K) rfl) (pv 2) (po_some (pv 5)) po_none)) (pa_cons (pe_op (QK.op_catE (K := K) rfl) (pe_slice (QK.sl_tupA (K := K) rfl) (pv 2) po_none (po_some (pv 5))) (pe_slice (QK.sl_tupA (K := K) rfl) (pv 2) (po_some (pe_op op_add (pv 5) pe_int)) po_none)) (pa_cons (pe_op (QK.op_catE (K := K) rfl) (pv 2) (pe_slice (QK.sl_tupA (K := K) rfl) (pv 2) (po_some (pe_un un_neg pe_int)) po_none)) (pa_cons (QK.pe_revT (K := K) rfl (pv 2)) (pa_cons (pe_callTy (QK.call_list_of (K := K) rfl) rfl (n_list t) (by decide +kernel) (pa_cons (pv 2) pa_nil)) (pa_cons (pe_tup pa_nil) pa_nil))))))))
      (pss_cons (ps_set (i := 7) sc.nd rfl (by first | exact .inl rfl | exact .inr rfl) (pe_op op_cat (pv 7) (pe_lst (pa_cons (pe_op (QK.op_catE (K := K) rfl) (pe_op (QK.op_catE (K := K) rfl) (pe_slice (QK.sl_tupA (K := K) rfl) (pv 2) po_none (po_some (pv 5))) (pe_tup (pa_cons pe_non pa_nil))) (pe_slice (QK.sl_tupA (K := K) rfl) (pv 2) (po_some (pe_op op_add (pv 5) pe_int)) po_none)) (pa_cons (pe_tup (pa_cons (pv 6) pa_nil)) (pa_cons (pv 6) (pa_cons pe_non (pa_cons pe_int (pa_cons pe_bl (pa_cons pe_str (pa_cons (pe_lst pa_nil) (pa_cons pe_dnewK (pa_cons (pe_tup (pa_cons (pv 2) pa_nil)) (pa_cons (pe_tup (pa_cons pe_int pa_nil)) (pa_cons (pe_tup (pa_cons (pe_lst pa_nil) pa_nil)) pa_nil)))))))))))))))
      (pss_one (ps_ret (QC.pe_q (c__law_choice (K := K) t) gd hr (by decide) QC.passE rfl (pa_cons (pv 0) (pa_cons (pe_op op_cat (pv 7) (pe_lst (pa_cons (pe_tup (pa_cons pe_str pa_nil)) (pa_cons (pe_op (QK.op_catE (K := K) rfl) (pv 2) (pe_tup (pa_cons pe_str pa_nil))) (pa_cons (pe_callTy (QK.call_tuple_of (K := K) rfl) rfl (n_tuple t) (by decide +kernel) (pa_cons (pv 3) pa_nil)) (pa_cons (pe_disp (pps_cons (pv 6) (pv 6) pps_nil) rfl rfl (by simp) (by decide)) (pa_cons (pe_tup (pa_cons (pe_tup pa_nil) pa_nil)) pa_nil))))))) pa_nil))))))))), ?_⟩
  exact QW.pure_od h

end
end K22

set_option Elab.async false
set_option linter.all false
set_option maxRecDepth 100000
set_option maxHeartbeats 1000000
namespace K22
open PySem PySem.Spec PyProof.Rows L2
section
variable {P : Program} {w : World} {K : PySem.W.Frag} {mg : Str → Option Value} {base : Heap}

theorem s__law_right : FnScope ["pot", "s", "made", "turn", "one", "other", "path", "value", "kept", "due"] ["pot"] (defScope (top 45)) := ⟨rfl, rfl, rfl, by decide +kernel, rfl, by decide +kernel, by decide +kernel⟩
theorem c__law_right (t : T K mg base) : QC.Cal P w K mg base (L2.CX P w) 8 "_law_right" (QW.spRight22 K) [] := by
  obtain ⟨fd, F⟩ := t.c.def_ 25
  have sc := s__law_right
  refine QC.cal (k := 7) F (g__law_right t) (fun _ _ _ _ _ _ us hl => match us, hl with | [_], _ => rfl) sc QW.spRight22.len (fun cdv A outer s H vs Q E gd hr h => ?_)
  have hu := QC.hu64 hr
  refine ⟨_, PSs.nox (pss_cons (ps_set (i := 1) sc.nd rfl (by first | exact .inl rfl | exact .inr rfl) (QC.pe_q (c__law_scheme (K := K) t) gd hr (by decide) QC.passE rfl (pa_cons (pv 0) (pa_cons pe_int (pa_cons pe_int (pa_cons pe_int pa_nil))))))
      (pss_cons (ps_set (i := 2) sc.nd rfl (by first | exact .inl rfl | exact .inr rfl) (QC.pe_q (c__law_made (K := K) t) gd hr (by decide) QC.passE rfl (pa_cons (pv 0) (pa_cons (pv 1) pa_nil))))
      (pss_cons (ps_for PassesOwn.never rfl (pi_range1 rfl (n_range t) (pa_cons pe_int pa_nil)) (pg_name (i := 3) sc.nd rfl (by first | exact .inl rfl | exact .inr rfl)) (pss_cons (ps_par (i := 4) (j := 5) rfl sc.nd rfl rfl (by decide) rfl rfl (pa_cons (QC.pe_q (c__law_choice (K := K) t) gd hr (by decide) QC.passE rfl (pa_cons (pv 0) (pa_cons (pe_dget (hu_of hr) (pv 1) pe_str (fun _ _ => rfl)) pa_nil))) (pa_cons (QC.pe_q (c__law_choice (K := K) t) gd hr (by decide) QC.passE rfl (pa_cons (pv 0) (pa_cons (pe_dget (hu_of hr) (pv 1) pe_str (fun _ _ => rfl)) pa_nil))) pa_nil)) rfl)
      (pss_cons (ps_set (i := 6) sc.nd rfl (by first | exact .inl rfl | exact .inr rfl) (QC.pe_q (c__law_choice (K := K) t) gd hr (by decide) QC.passE rfl (pa_cons (pv 0) (pa_cons (pe_op op_cat (QC.pe_q (c__law_paths (K := K) t) gd hr (by decide) QC.passE rfl (pa_cons (pv 1) (pa_cons (pv 4) (pa_cons (QC.pe_q (c__law_choice (K := K) t) gd hr (by decide) QC.passE rfl (pa_cons (pv 0) (pa_cons (pe_dget (hu_of hr) (pv 1) pe_str (fun _ _ => rfl)) pa_nil))) pa_nil)))) (pe_lst (pa_cons (pe_tup pa_nil) (pa_cons (pe_tup pa_nil) pa_nil)))) pa_nil))))
      (pss_one (ps_for PassesOwn.never rfl (QK.pi_tup (K := K) rfl (pe_tup (pa_cons (pv 6) (pa_cons (QC.pe_q (c__law_odd (K := K) t) gd hr (by decide) QC.passE rfl (pa_cons (pv 0) (pa_cons (pv 1) (pa_cons (pv 6) pa_nil)))) pa_nil)))) (pg_name (i := 7) sc.nd rfl (by first | exact .inl rfl | exact .inr rfl)) (pss_cons (ps_par (i := 8) (j := 9) rfl sc.nd rfl rfl (by decide) rfl rfl (pa_cons (pe_callB (QK.call_reprA (K := K) rfl gd hr (sysk t)) rfl (n_repr t) (by decide +kernel) (pa_cons (pv 7) pa_nil)) (pa_cons (QC.pe_q (c__law_leads (K := K) t) gd hr (by decide) QC.passE rfl (pa_cons (pv 1) (pa_cons (pv 4) (pa_cons (pv 5) (pa_cons (pv 7) pa_nil))))) pa_nil)) rfl)
      (pss_one (ps_if (PW.pt (pw_or (pt_cmpR op_ne (pe_callB (QK.call_reprA (K := K) rfl gd hr (sysk t)) rfl (n_repr t) (by decide +kernel) (pa_cons (QC.pe_f (c_is_path (K := K) t) gd hr (by decide) (fun _ => QC.passE0) rfl (pa_cons (pv 2) (pa_cons (pv 4) (pa_cons (pv 5) (pa_cons (pv 7) pa_nil))))) pa_nil)) (pe_callB (QK.call_reprA (K := K) rfl gd hr (sysk t)) rfl (n_repr t) (by decide +kernel) (pa_cons (pv 9) pa_nil)) (nomark _)) (pw_or1 (pt_cmpR op_ne (pe_callB (QK.call_reprA (K := K) rfl gd hr (sysk t)) rfl (n_repr t) (by decide +kernel) (pa_cons (pv 7) pa_nil)) (pv 8) (nomark _))))) (pss_one (ps_ret pe_bl)) pss_nil))))))))
      (pss_one (ps_ret pe_bl))))), ?_⟩
  exact QW.pure_right h

end
end K22

set_option Elab.async false
set_option linter.all false
set_option maxRecDepth 100000
set_option maxHeartbeats 1000000
namespace K22
open PySem PySem.Spec PyProof.Rows L2
section
variable {P : Program} {w : World} {K : PySem.W.Frag} {mg : Str → Option Value} {base : Heap}

theorem s_law : FnScope ["script", "index"] ["script"] (defScope (top 46)) := ⟨rfl, rfl, rfl, by decide +kernel, rfl, by decide +kernel, by decide +kernel⟩
theorem ok_law (t : T K mg base) {fd : FuncData} (F : FunD K "law" "law" (defArgs (top 46)) (defBody (top 46)) (defScope (top 46)) [] [] (He.ga K "law") fd) : QG.FnG P w K mg base (L2.CX P w) 9 (He.ga K "law") fd ["script"] (QW.spLaw12 K) := by
  have sc := s_law
  refine QC.okG (k := 8) F sc QW.spLaw12.len (fun cdv A outer s H vs Q E gd hr h => ?_)
  have hu := QC.hu64 hr
  refine ⟨_, PSs.nox (pss_one (ps_ret (pe_callB (QK.cr_all (K := K) rfl rfl) rfl (n_all t) (by decide +kernel) (pa_cons (pe_lc rfl sc.nd (pi_range1 rfl (n_range t) (pa_cons (pe_callB (call_max2 rfl) rfl (n_max t) (by decide +kernel) (pa_cons pe_int (pa_cons (pe_callB (call_min2 rfl) rfl (n_min t) (by decide +kernel) (pa_cons pe_int (pa_cons (pe_callB (QK.call_len_seq (K := K) rfl) rfl (n_len t) (by decide +kernel) (pa_cons (pv 0) pa_nil)) pa_nil))) pa_nil))) pa_nil)) (blkOk_by (own := [("index", 1)]) (by show blkC ["script", "index"] (defScope (top 46)) _ _ = true; decide +kernel)) (fun _ _ _ _ _ => (pg_name (i := 1) sc.nd rfl (by first | exact .inl rfl | exact .inr rfl))) (fun _ _ _ _ _ => pts_nil) (fun _ _ _ _ _ => (QC.pe_q (c__law_right (K := K) t) gd hr (by decide) QC.passE rfl (pa_cons (QC.pe_q (c__law_pot (K := K) t) gd hr (by decide) QC.passE rfl (pa_cons (pv 0) (pa_cons (pv 1) pa_nil))) pa_nil)))) pa_nil)))), ?_⟩
  exact QW.pure_lw22 h

end
end K22

open PySem PySem.W PySem.Calls PyProof.Rows
set_option Elab.async false
set_option maxRecDepth 100000
set_option maxHeartbeats 0
theorem PySem.Challenge.cw_agreeingcasts_k22_paths_judged_holds : PySem.Challenge.rw_agreeingcasts_k22_paths_judged.Holds := by
  w_on; o_law
  refine HandSHeadRun.head_any (r := OpenLaw.row PySem.Challenge.rw_agreeingcasts_k22_paths_judged) (q := view (OpenLaw.row PySem.Challenge.rw_agreeingcasts_k22_paths_judged).prog [46]) (H := K22.hk) (ob := K22.ob) (M := 12000) (loose := K22.loose) (d := HandSHeadRun.topDef (OpenLaw.row PySem.Challenge.rw_agreeingcasts_k22_paths_judged).prog 46) (kwd := []) K22.ob_eq
    (by kernel_rfl) (fun s => by kernel_rfl) K22.run (by kernel_rfl) (by kernel_rfl) (by kernel_rfl) (by rfl) (by first | assumption | decide +kernel) (by decide +kernel) ⟨rfl, rfl, rfl, rfl, rfl, by decide +kernel⟩ ?hw ?hc
  case hw => w_witness2
  case hc =>
    refine QH.walk_GE (l := PySem.Challenge.rw_agreeingcasts_k22_paths_judged) (n := 63) (k := 9) (x := "script") (CX := fun w => L2.CX (PySem.Challenge.rw_agreeingcasts_k22_paths_judged).prog w) rfl (by decide) (by kernel_rfl) ⟨rfl, by decide, by decide⟩ ?F (fun _ _ _ _ _ ⟨_, _, _, _, _, _, _, _, _, _, _, _, z⟩ => z)
    intro w mg fa h Y G hmg0
    obtain ⟨K, KX, c⟩ := Y
    have hmg : mg ("law" : PySem.Str) = some (.ref fa) := by
      have e : (HandSHeadRun.topDef (OpenLaw.row PySem.Challenge.rw_agreeingcasts_k22_paths_judged).prog 46).name = ("law" : PySem.Str) := by kernel_rfl
      rw [← e]
      exact hmg0
    obtain ⟨fd, F⟩ := QH.Says.def_ (fs := K22.fs) (fn := K22.fn) c 26 (d := K22.dF "law" (K22.top 46)) rfl
    have e := hmg.symm.trans (K22.g_law ⟨c, KX, G⟩)
    cases e
    have b := L2.FunD.bindsA (ps := ["script"]) F fun _ _ _ _ _ _ us hl => match us, hl with | [_], _ => rfl
    exact ⟨K, fd, QW.spLaw12 K, KX, fun s v => b s [v] rfl, fun H a ns hl _ _ hS => ⟨a, ns, rfl, hl, hS, fun _ => rfl⟩, fun base KB GB => K22.ok_law (P := (PySem.Challenge.rw_agreeingcasts_k22_paths_judged).prog) (w := w) ⟨c, KB, GB⟩ F⟩
