import PyProof.Rows.All
import Wide.All
import OpenK.AllK
import Wide.FinOn
import KE.KStateDown
import Lean
import HandS.ForMost
import HandS.Words
import HandS.HeadEnd
import HandS.Flow
import HandS.Style
import HandS.NoneIn
import HandS.TupAny
import HandS.TupMul
import HandS.IsInst
import HandS.Zip
import HandS.Conv
import HandS.SortInts
import HandS.Wide
import HandS.Star
import HandS.More
import HandS.Defaults
import HandS.Head0
import HandS.Head1
import HandS.Head2
import HandS.HeadHook1
import HandS.HeadHook2
import HandS.HeadHook3
import PyProof.StrLawsChain
import PySem.Challenge.RW_weylweights_k05_types_of_anything_and_th
/-! ==== DL0 ==== -/
set_option Elab.async false
set_option linter.all false
set_option maxRecDepth 100000
set_option maxHeartbeats 4000000
namespace DL
open PySem PySem.Spec PyProof.Rows L2

/-- a def's promise, kept wherever no repr of a list, a tuple or a dict is under way -/
structure FnG (P : Program) (w : World) (K : PySem.W.Frag) (mg : Str → Option Value) (base : Heap) (CX : CXT) (k : Nat) (f : Addr) (fd : FuncData) (ps : List Str) (sp : Sp) : Prop where
  arity : ∀ {vs : List V} {H : Hp} {Q : VK} {E : XK}, sp vs H Q E → vs.length = ps.length
  go : ∀ {A : Around} {outer : List Env} {s : Shared} {H : Hp} {args : Args} {us : List Value} {vs : List V} {Q : VK} {E : XK}, Room k A → A.guards = some [] → Env0 P w K mg base A outer s H →
    BindsTo s fd args (ps.zip us) → Vals vs us → sp vs H Q E → codeAny (model P w) A (.call (.ref f) args) (CR CX outer P w H s Q E) s
/-- room, and no repr under way -/
structure Rm (k : Nat) (A : Around) : Prop where
  room : Room k A
  gd : A.guards = some []
theorem Rm.mono {j k : Nat} {A : Around} (r : Rm k A) (h : j ≤ k) : Rm j A := ⟨r.room.mono h, r.gd⟩
section
variable {P : Program} {w : World} {K : PySem.W.Frag} {mg : Str → Option Value} {base : Heap} {CX : CXT} {k j : Nat} {f : Addr} {fd : FuncData} {ps : List Str} {sp sp' : Sp}
theorem FnG.up (G : FnG P w K mg base CX j f fd ps sp) (h : j ≤ k) : FnG P w K mg base CX k f fd ps sp := ⟨G.arity, fun hr => G.go (hr.mono h)⟩
theorem FnG.imp (G : FnG P w K mg base CX k f fd ps sp) (h : ∀ vs H Q E, sp' vs H Q E → sp vs H Q E) : FnG P w K mg base CX k f fd ps sp' := ⟨fun q => G.arity (h _ _ _ _ q), fun hr hg e0 b r q => G.go hr hg e0 b r (h _ _ _ _ q)⟩
theorem FnG.of (G : FnOk P w K mg base CX k f fd ps sp) : FnG P w K mg base CX k f fd ps sp := ⟨fun q => G.len _ _ _ _ q, fun hr _ e0 b r q => G.run _ _ _ _ _ _ _ _ _ hr e0 b r q⟩
end
section
variable {X : Cx} {CX : CXT} {k : Nat} {f : Addr} {fd : FuncData} {ps ks : List Str} {sp : Sp} {dvs : List V} {dus : List Value} {E : XK} {x : Str} {p pos : Pos} {e : Expr} {es : List Expr} {t tk : TA}
theorem after_call {pins : List (Addr × Obj)} {σ : L2.St} {H : Hp} {s : Shared} {Q : VK} (hx : Passes CX X E) (I : Inv X pins σ H s) : ∀ (r : Result) (s' : Shared), CR CX X.stack X.prog X.w H s Q E r s' → (match r with
    | .ok (.ret u) => EP X pins σ Q u s'
    | .ok _ => False
    | .error e => X.xe e s') := fun r s' hq => by
  cases r with
  | error e => exact hx pins σ H s e s' I hq
  | ok fl => cases fl with
    | ret u => exact I.after hq
    | next => exact hq
    | brk => exact hq
    | cont => exact hq
theorem g_run {pins : List (Addr × Obj)} {σ : L2.St} {H : Hp} {s : Shared} {Q : VK} {us : List Value} {vs : List V} (G : FnG X.prog X.w X.K X.mg X.base CX k f fd ps sp) (hr : Room k X.A) (hgd : X.A.guards = some []) (hb : Binds X.K fd ps dus) (hd : Vals dvs dus) (hx : Passes CX X E)
    (I : Inv X pins σ H s) (r : Vals vs us) (h : sp (vs ++ dvs) H Q E) : wpAny (model X.prog X.w) X.A (call (.ref f) us) (EP X pins σ Q) X.xe s := by
  have rr : Vals (vs ++ dvs) (us ++ dus) := r.append hd
  refine wpAny_call (codeAny_mono (G.go hr hgd I.env0 (hb s us I.kIn (rr.length.symm.trans (G.arity h))) rr h) fun q s' hq => ?_)
  have z := after_call hx I q s' hq
  cases q with
  | error e => exact z
  | ok fl => cases fl <;> first | exact z | exact z.elim
theorem g_call (G : FnG X.prog X.w X.K X.mg X.base CX k f fd ps sp) (hr : Room k X.A) (hgd : X.A.guards = some []) (hg : Gl X x) (hm : X.mg x = some (.ref f)) (hk : PySem.W.keepIn X.K (.ref f) = true) (hb : Binds X.K fd ps dus) (hd : Vals dvs dus) (hx : Passes CX X E)
    (ha : PA X (e :: es) t) (hdb : (x == ("__debug__" : Str)) = false := by decide) (he : starEach (e :: es) X.env = (false, eval e X.env) :: starEach es X.env := by rfl) (hpl : (backTo pos (starEach es X.env)).any (·.1) = false := by rfl) :
    PE X (.Call (.Name x p) (e :: es) [] pos) (tCall sp dvs E t) := ⟨fun pins s σ H Q I h => wpAny_Call_Name_kw (ld_glob I hg hm (PySem.W.callWith_K (h₀ := X.base) I.ok.mod.kin hk
    (thn (ha.run pos pins s σ H _ I h) fun us s1 ⟨vs, H1, I1, r, q⟩ => ⟨I1.kIn, g_run G hr hgd hb hd hx I1 r q⟩) he hpl) hdb)⟩
theorem g_call0 (G : FnG X.prog X.w X.K X.mg X.base CX k f fd ps sp) (hr : Room k X.A) (hgd : X.A.guards = some []) (hg : Gl X x) (hm : X.mg x = some (.ref f)) (hk : PySem.W.keepIn X.K (.ref f) = true) (hb : Binds X.K fd ps dus) (hd : Vals dvs dus) (hx : Passes CX X E)
    (hdb : (x == ("__debug__" : Str)) = false := by decide) : PE X (.Call (.Name x p) [] [] pos) (tCall sp dvs E tNil) :=
  ⟨fun pins s σ H Q I h => wpAny_Call_Name_kw (ld_glob I hg hm (PySem.W.callWith_K0 I.kIn hk (g_run (us := []) G hr hgd hb hd hx I .nil h)) hdb)⟩
variable {kws : List Keyword} {π : List Nat} {n : Nat}
/-- the values in the parameters' order -/
def permL {α : Type} (π : List Nat) (d : α) (zs : List α) : List α := π.map fun i => (zs[i]?).getD d
theorem Vals.perm {vs : List V} {us : List Value} (r : Vals vs us) : ∀ π : List Nat, (∀ i ∈ π, i < vs.length) → Vals (permL π .non vs) (permL π .none us)
  | [], _ => .nil
  | i :: π, h => by
    have hi : i < vs.length := h i List.mem_cons_self
    obtain ⟨u, e1, e2⟩ := Vals.get r (List.getElem?_eq_getElem hi)
    refine Paired.cons ?_ (Vals.perm r π fun j hj => h j (List.mem_cons_of_mem _ hj))
    show RelV ((vs[i]?).getD .non) ((us[i]?).getD .none)
    rw [List.getElem?_eq_getElem hi, e1]
    exact e2
/-- how n positional values and the keywords ks come to the parameters: π says where each parameter's value stands -/
def KB (K : PySem.W.Frag) (fd : FuncData) (ps : List Str) (n : Nat) (ks : List Str) (π : List Nat) : Prop := ∀ (s : Shared) (us ws : List Value), K.In s.heap → us.length = n → ws.length = ks.length → BindsTo s fd ⟨us, ks.zip ws⟩ (ps.zip (permL π .none (us ++ ws)))
def tCallX (n : Nat) (ks : List Str) (π : List Nat) (sp : Sp) (E : XK) (t tk : TA) : TE := fun σ H Q => t σ H fun vs H1 => tk σ H1 fun zs H2 => vs.length = n ∧ zs.length = ks.length ∧ sp (permL π .non (vs ++ zs)) H2 Q E
theorem g_runk {pins : List (Addr × Obj)} {σ : L2.St} {H : Hp} {s : Shared} {Q : VK} {us ws : List Value} {vs zs : List V} (G : FnG X.prog X.w X.K X.mg X.base CX k f fd ps sp) (hr : Room k X.A) (hgd : X.A.guards = some []) (hb : KB X.K fd ps n ks π) (hπ : ∀ i ∈ π, i < n + ks.length) (hx : Passes CX X E)
    (I : Inv X pins σ H s) (r : Vals vs us) (rz : Vals zs ws) (l1 : vs.length = n) (l2 : zs.length = ks.length) (h : sp (permL π .non (vs ++ zs)) H Q E) : wpAny (model X.prog X.w) X.A (call (.ref f) us (ks.zip ws)) (EP X pins σ Q) X.xe s := by
  have rr := Vals.perm (r.append rz) π (fun i hi => by rw [List.length_append, l1, l2]; exact hπ i hi)
  refine wpAny_call (codeAny_mono (G.go hr hgd I.env0 (hb s us ws I.kIn (r.length.symm.trans l1) (rz.length.symm.trans l2)) rr h) fun q s' hq => ?_)
  have z := after_call hx I q s' hq
  cases q with
  | error e => exact z
  | ok fl => cases fl <;> first | exact z | exact z.elim
theorem g_callX (G : FnG X.prog X.w X.K X.mg X.base CX k f fd ps sp) (hr : Room k X.A) (hgd : X.A.guards = some []) (hg : Gl X x) (hm : X.mg x = some (.ref f)) (hk : PySem.W.keepIn X.K (.ref f) = true) (hb : KB X.K fd ps n ks π) (hπ : ∀ i ∈ π, i < n + ks.length) (hx : Passes CX X E)
    (ha : PA X (e :: es) t) (hkw : PK X kws tk) (hall : (backToKw pos (keywordEach kws X.env)).all (·.1.isSome) = true := by rfl) (hks : (backToKw pos (keywordEach kws X.env)).filterMap (·.1) = ks := by rfl)
    (hdb : (x == ("__debug__" : Str)) = false := by decide) (he : starEach (e :: es) X.env = (false, eval e X.env) :: starEach es X.env := by rfl)
    (hpl : ((backTo pos (starEach (e :: es) X.env)).any (·.1) || (backToKw pos (keywordEach kws X.env)).any (·.1.isNone)) = false := by rfl) :
    PE X (.Call (.Name x p) (e :: es) kws pos) (tCallX n ks π sp E t tk) := ⟨fun pins s σ H Q I h => wpAny_Call_Name_kw (ld_glob I hg hm (PySem.W.callWith_KW (h₀ := X.base) I.ok.mod.kin hk hall
    (thn (ha.run pos pins s σ H _ I h) fun us s1 ⟨vs, H1, I1, r, q⟩ => thn (hkw.run pos pins s1 σ H1 _ I1 q) fun ws s2 ⟨zs, H2, I2, rz, l1, l2, q2⟩ => ⟨I2.kIn, by rw [hks]; exact g_runk G hr hgd hb hπ hx I2 r rz l1 l2 q2⟩) hpl he) hdb)⟩
theorem g_callX0 (G : FnG X.prog X.w X.K X.mg X.base CX k f fd ps sp) (hr : Room k X.A) (hgd : X.A.guards = some []) (hg : Gl X x) (hm : X.mg x = some (.ref f)) (hk : PySem.W.keepIn X.K (.ref f) = true) (hb : KB X.K fd ps 0 ks π) (hπ : ∀ i ∈ π, i < 0 + ks.length) (hx : Passes CX X E)
    (hkw : PK X kws tk) (hall : (backToKw pos (keywordEach kws X.env)).all (·.1.isSome) = true := by rfl) (hks : (backToKw pos (keywordEach kws X.env)).filterMap (·.1) = ks := by rfl)
    (hdb : (x == ("__debug__" : Str)) = false := by decide)
    (hpl : ((backTo pos (starEach [] X.env)).any (·.1) || (backToKw pos (keywordEach kws X.env)).any (·.1.isNone)) = false := by rfl) :
    PE X (.Call (.Name x p) [] kws pos) (tCallX 0 ks π sp E tNil tk) := ⟨fun pins s σ H Q I h => wpAny_Call_Name_kw (ld_glob I hg hm (PySem.W.callWith_KW0 (h₀ := X.base) I.ok.mod.kin hk hall
    (thn (hkw.run pos pins s σ H _ I h) fun ws s2 ⟨zs, H2, I2, rz, l1, l2, q2⟩ => ⟨I2.kIn, by rw [hks]; exact g_runk (us := []) G hr hgd hb hπ hx I2 .nil rz rfl l2 q2⟩) hpl) hdb)⟩
end
/-- a def by its body -/
theorem g_def {CX : CXT} {P : Program} {w : World} {K : PySem.W.Frag} {mg : Str → Option Value} {base : Heap} {k : Nat} {f : Addr} {x qual : Str} {st : Stmt} {fd : FuncData} {N ps : List Str} {sp : Sp} (F : L2.Fun K x qual st f fd) (S : FnScope N ps (defScope st))
    (len : ∀ vs H Q E, sp vs H Q E → vs.length = ps.length)
    (hbody : ∀ (cdv : Value) (A : Around) (outer : List Env) (s : Shared) (H : Hp) (vs : List V) (Q : VK) (E : XK), Room k (A.deeper (envOfC qual (defScope st) s.heap.objs.size f cdv)) → (A.deeper (envOfC qual (defScope st) s.heap.objs.size f cdv)).guards = some [] → sp vs H Q E →
      ∃ t, PSs (cxOf CX P w K mg base N qual (defScope st) f cdv A outer s H E) (defBody st) t ∧ t { nx := fun _ H' => Q .non H', rt := Q } (L2.start N vs) H) : FnG P w K mg base CX (k + 1) f fd ps sp := by
  obtain ⟨oc, od, kV, doc, pm, an, cdv, ct, osl, rfl, lk, hcd⟩ := F.ex
  refine ⟨fun h => len _ _ _ _ h, fun {A outer s H args us vs Q E} hr hgd e0 hb r hsp => ?_⟩
  have same : ∀ b o, base.get? b = some o → s.heap.get? b = some o := fun b o e => (e0.bs b o e).1
  have KX : K.In s.heap := e0.mod.kin.keeps same
  have kinds : ∀ y ∈ ps.zip us, (defScope st).names.lookup y.1 = some .local ∨ ((defScope st).names.lookup y.1 = some .cell ∧ ((cellsFrom (s.heap.objs.size + 1) (defScope st).names []).lookup y.1).isSome = true) := fun y hy =>
    (S.par y.1 (List.of_mem_zip (a := y.1) (b := y.2) hy).1).imp id fun q => ⟨q, PySem.W.cellsFrom_some _ _ _ (.inl q)⟩
  refine codeAny_call_function hr.depth (KX _ _ lk) rfl S.co S.gen rfl (PySem.W.codeRec_of KX hcd) (hb _ _ _ _ ?_)
  refine wpAny_newFunctionEnv_cells S.kind kinds fun env he s1 x => ?_
  subst he
  refine ⟨(e0.mod.nolimit.keeps same).keeps x.toInCall.keep, codeAny_func ?_⟩
  obtain ⟨t, ht, hq⟩ := hbody cdv A outer s H vs Q E (hr.deeper _) (by first | exact hgd | simpa using hgd) hsp
  refine wpAny_mono (ht.run [] s1 (L2.start N vs) H _ (inv_start S hr.hd e0 (len _ _ _ _ hsp) r x) hq) (fun fl s' hs => ?_) fun e s' hs => hs
  cases fl with
  | ret u =>
    obtain ⟨v, σ', H', J, rv, q⟩ := hs
    exact ⟨v, H', J.os, J.bare, J.base, J.hok, rv, q⟩
  | next =>
    obtain ⟨σ', H', J, q⟩ := hs
    exact ⟨V.non, H', J.os, J.bare, J.base, J.hok, rfl, q⟩
  | brk =>
    obtain ⟨_, _, _, q⟩ := hs
    exact False.elim q
  | cont =>
    obtain ⟨_, _, _, q⟩ := hs
    exact False.elim q

/-! ## the law's own call -/
/-- the abstract heap in which the script alone may stand -/
def scriptH (K : PySem.W.Frag) (a : Addr) (o : Obj) (ns : List Int) : Hp := fun b => if b = a ∧ K.lookup a = none then some (.frz o (.lst (ns.map V.int))) else none
theorem scriptH_only {K : PySem.W.Frag} {a : Addr} {o : Obj} {ns : List Int} {b : Addr} {u : HO} (h : scriptH K a o ns b = some u) : b = a ∧ K.lookup a = none ∧ u = .frz o (.lst (ns.map V.int)) := by
  unfold scriptH at h
  by_cases c : b = a ∧ K.lookup a = none
  · rw [if_pos c] at h
    cases h
    exact ⟨c.1, c.2, rfl⟩
  · rw [if_neg c] at h
    cases h
theorem g_law {P : Program} {w : World} {K : PySem.W.Frag} {mg mb : Str → Option Value} {CX : CXT} {k : Nat} {fa a : Addr} {fd : FuncData} {x : Str} {sp : Sp} {s₁ : Shared} {vs : List Value} {ns : List Int}
    (KX : K.In s₁.heap) (hns : s₁.heap.Ns mainGlobals mg) (hb : s₁.heap.Ns builtinsNs mb) (hbb : ∀ x : Str, x ≠ "__name__" → mb x = bootBuiltins x) (hlim : s₁.heap.NoLimit) (hg : s₁.gens = #[])
    (ha : s₁.heap.get? a = some { cls := .type "list", data := .seq vs.toArray }) (hi : IntsAre vs ns) (hl : ns.length ≤ sizeLine) (hr : Room k callerA)
    (F : ∀ base : Heap, K.In base → base.Ns mainGlobals mg → FnG P w K mg base CX k fa fd [x] sp) (hbind : ∀ (s : Shared) (u : Value), BindsTo s fd ⟨[u], []⟩ [(x, u)])
    (hsp : ∀ H : Hp, Only H → SqL K H a (ns.map V.int) → (∀ b, H b ≠ none → b = a) → sp [.ref a] H (fun v _ => v = .bl true) fun _ _ _ => False) (hCX : ∀ H e s', CX [] H s₁ (fun _ _ _ => False) e s' → False) :
    codeAny (model P w) callerA (.call (.ref fa) ⟨[.ref a], []⟩) (fun r s' => r = .ok (.ret (.bool true)) ∧ OldK s₁.heap s'.heap ∧ s'.os = s₁.os ∧ AllBare s'.gens) s₁ := by
  have rv := vals_ints hi
  let o : Obj := { cls := .type "list", data := .seq vs.toArray }
  let H : Hp := scriptH K a o ns
  have hO : Only H := fun b => by
    cases q : H b with
    | none => exact .inl rfl
    | some u =>
      obtain ⟨_, _, e⟩ := scriptH_only q
      exact .inr ⟨o, _, by rw [e]⟩
  have hA : ∀ b, H b ≠ none → b = a := fun b z => by
    cases q : H b with
    | none => exact absurd q z
    | some u => exact (scriptH_only q).1
  have hS : SqL K H a (ns.map V.int) := by
    cases hk : K.lookup a with
    | some ob =>
      have e := (KX a ob hk).symm.trans ha
      cases e
      exact .inr ⟨_, vs.toArray, _, hk, rfl, rfl, rfl, by rw [List.size_toArray, hi.length]; exact hl, by simpa using rv⟩
    | none => exact .inl (.inr ⟨o, if_pos ⟨rfl, hk⟩⟩)
  have hok : HOk P w H s₁.heap := fun b u q => by
    obtain ⟨e1, _, e2⟩ := scriptH_only q
    rw [e1, e2]
    exact ⟨ha, by rw [List.length_map]; exact hl, vs, _, rv, ha⟩
  -- the base: all but what is tracked
  have keepB : ∀ {b : Addr} {u : Obj}, s₁.heap.get? b = some u → H b = none → (hidT s₁.heap H).get? b = some u := fun e n => hidT_get e n
  have noDict : ∀ {b : Addr} {u : Obj} {es : Array DictEntry} {ep : Nat}, s₁.heap.get? b = some u → u.data = .dict es ep → H b = none := fun {b u es ep} e d => by
    cases q : H b with
    | none => rfl
    | some z =>
      rw [(scriptH_only q).1, ha] at e
      cases e
      cases (show Data.seq vs.toArray _ = Data.dict es ep from d)
  have nsB : ∀ {b : Addr} {mm : Str → Option Value}, s₁.heap.Ns b mm → (hidT s₁.heap H).Ns b mm := fun {b mm} h => by
    obtain ⟨u, es, ep, e, d, r⟩ := h
    exact ⟨u, es, ep, keepB e (noDict e d), d, r⟩
  have kB : K.In (hidT s₁.heap H) := fun b u e => keepB (KX b u e) (by
    cases q : H b with
    | none => rfl
    | some z =>
      obtain ⟨e1, e2, _⟩ := scriptH_only q
      rw [e1, e2] at e
      cases e)
  have md : Mod K mg (hidT s₁.heap H) := ⟨kB, nsB hns, ⟨mb, nsB hb, hbb⟩, by
    obtain ⟨mc, h1, h2⟩ := hlim
    exact ⟨mc, nsB h1, h2⟩⟩
  have e0 : Env0 P w K mg (hidT s₁.heap H) callerA [] s₁ H := ⟨rfl, md, fun b u e => of_hidT e, Nat.le_of_eq (hidT_size _ _), trivial, fun b hb => absurd (show b ∈ ([] : List Addr) from hb) (by simp), hok, .of_eq hg⟩
  have run := (F _ kB (nsB hns)).go (A := callerA) (outer := []) (args := ⟨[.ref a], []⟩) (us := [.ref a]) (vs := [.ref a]) hr rfl e0 (hbind s₁ (.ref a)) (.cons rfl .nil) (hsp H hO hS hA)
  refine codeAny_mono run fun r s' h => ?_
  cases r with
  | error e => exact (hCX H e s' h).elim
  | ok fl => cases fl with
    | next => exact False.elim h
    | brk => exact False.elim h
    | cont => exact False.elim h
    | ret u =>
      obtain ⟨v, H', os, bare, un, hok', rv', qv⟩ := h
      obtain rfl : v = .bl true := qv
      obtain rfl : u = Value.bool true := rv'
      refine ⟨rfl, OldK.of_keep fun b ob e => ?_, os, bare⟩
      cases q : H b with
      | none => exact un.keep b ob e q (fun z => nomatch (show b ∈ ([] : List Addr) from z)) (fun z => nomatch z)
      | some z =>
        obtain ⟨e1, _, e2⟩ := scriptH_only q
        subst e2
        obtain ⟨g1, _⟩ := hok b _ q
        obtain ⟨g2, _⟩ := hok' b _ (un.frzs b o _ q)
        rw [g1] at e
        cases e
        exact g2
/-- the goal that a head by facts leaves (case hc) -/
theorem g_walk {l : PySem.W.OpenLaw} {n k : Nat} {q : Program} {loose : List Str} {XP : (Str → Option Value) → Heap → Prop} {YP : World → Heap → Prop} {d : DefRec} {CX : CXT} {x : Str}
    (hn : l.most = some n) (hn2 : n ≤ sizeLine) (hdf : d.params.defaults = []) (hr : Room k callerA)
    (F : ∀ (w : World) (mg : Str → Option Value) (fa : Addr) (h : Heap), YP w h → h.Ns mainGlobals mg → mg d.name = some (.ref fa) → ∃ (K : PySem.W.Frag) (fd : FuncData) (sp : Sp), K.In h ∧ (∀ (s : Shared) (u : Value), BindsTo s fd ⟨[u], []⟩ [(x, u)]) ∧
      (∀ (H : Hp) (a : Addr) (ns : List Int), ns.length ≤ n → Only H → SqL K H a (ns.map V.int) → (∀ b, H b ≠ none → b = a) → sp [.ref a] H (fun v _ => v = .bl true) fun _ _ _ => False) ∧ ∀ base : Heap, K.In base → base.Ns mainGlobals mg → FnG l.prog w K mg base CX k fa fd [x] sp)
    (hCX : ∀ (H : Hp) (s : Shared) (e : Value) (s' : Shared), CX [] H s (fun _ _ _ => False) e s' → False) : PySem.W.WalkO q loose XP YP l.row.toRowW d [] (fun f vs => PySem.call f vs) :=
  Att.attach_call hn hdf fun w s₀ s₁ mg mb fa o pm cd doc a vs ns G Y ho hd hcd hmg hobj hints hlen hg => by
    obtain ⟨K, fd, sp, KX, hb, hsp, hF⟩ := F w mg fa _ Y G.T.g hmg
    exact g_law KX G.T.g G.T.b G.T.builtins G.T.nolimit hg hobj hints (Nat.le_trans hlen hn2) hr hF hb (fun H h1 h2 h3 => hsp H a ns hlen h1 h2 h3) fun H e s' => hCX H s₁ e s'
end DL

/-! ==== DL1 ==== -/
set_option Elab.async false
set_option linter.all false
set_option maxRecDepth 100000
set_option maxHeartbeats 4000000
namespace DL
open PySem PySem.Spec PyProof.Rows L2

/-! ## data in a heap -/
def Ex (H H' : Hp) : Prop := ∀ a o, H a = some o → H' a = some o
theorem Ex.refl (H : Hp) : Ex H H := fun _ _ h => h
theorem Ex.trans {H H1 H2 : Hp} (a : Ex H H1) (b : Ex H1 H2) : Ex H H2 := fun x o h => b x o (a x o h)
theorem Ex.rd {H H' : Hp} {a : Addr} {u : HO} (e : Ex H H') (h : Rd H a u) : Rd H' a u := by
  rcases h with h | ⟨o, h⟩
  · exact .inl (e a _ h)
  · exact .inr ⟨o, e a _ h⟩
theorem Ex.sl {K : PySem.W.Frag} {H H' : Hp} {a : Addr} {xs : List V} (e : Ex H H') (h : SqL K H a xs) : SqL K H' a xs := by
  rcases h with h | h
  · exact .inl (e.rd h)
  · exact .inr h
theorem Ex.stp {K : PySem.W.Frag} {H H' : Hp} {a : Addr} {xs : List V} (e : Ex H H') (h : SqT K H a xs) : SqT K H' a xs := by
  rcases h with h | h
  · exact .inl (e.rd h)
  · exact .inr h
theorem Ex.new {H : Hp} {p : Addr} {o : HO} (h : H p = none) : Ex H (upd H p o) := fun a u e => by
  rw [upd_ne (ne_of_none e h)]
  exact e

def kD : Key → PyData
  | .inl i => .int i
  | .inr x => .str x

mutual
inductive Rep (K : PySem.W.Frag) (H : Hp) : V → PyData → Prop
  | non : Rep K H .non .none
  | bl (b : Bool) : Rep K H (.bl b) (.bool b)
  | int (i : Int) : Rep K H (.int i) (.int i)
  | str (x : Str) : Rep K H (.str x) (.str x)
  | lst {a : Addr} {xs : List V} {ds : List PyData} : H a = some (.lst xs) → RepAll K H xs ds → Rep K H (.ref a) (.list ds)
  | tup {a : Addr} {xs : List V} {ds : List PyData} : SqT K H a xs → RepAll K H xs ds → Rep K H (.ref a) (.tuple ds)
  | dic {a : Addr} {kvs : List (Key × V)} {ds : List (PyData × PyData)} : Rd H a (.dK kvs) → RepKV K H kvs ds → Rep K H (.ref a) (.dict ds)
inductive RepAll (K : PySem.W.Frag) (H : Hp) : List V → List PyData → Prop
  | nil : RepAll K H [] []
  | cons {v : V} {vs : List V} {d : PyData} {ds : List PyData} : Rep K H v d → RepAll K H vs ds → RepAll K H (v :: vs) (d :: ds)
inductive RepKV (K : PySem.W.Frag) (H : Hp) : List (Key × V) → List (PyData × PyData) → Prop
  | nil : RepKV K H [] []
  | cons {k : Key} {v : V} {vs : List (Key × V)} {d : PyData} {ds : List (PyData × PyData)} : Rep K H v d → RepKV K H vs ds → RepKV K H ((k, v) :: vs) ((kD k, d) :: ds)
end
section
variable {K : PySem.W.Frag} {H H' : Hp}
mutual
theorem Rep.mono (e : Ex H H') : ∀ (d : PyData) (v : V), Rep K H v d → Rep K H' v d
  | .none, _, h => by cases h; exact .non
  | .bool b, _, h => by cases h; exact .bl b
  | .int i, _, h => by cases h; exact .int i
  | .str x, _, h => by cases h; exact .str x
  | .list ds, _, h => by
    cases h with
    | lst hs ha => exact .lst (e _ _ hs) (RepAll.mono e ds _ ha)
  | .tuple ds, _, h => by
    cases h with
    | tup hs ha => exact .tup (e.stp hs) (RepAll.mono e ds _ ha)
  | .dict ds, _, h => by
    cases h with
    | dic hs ha => exact .dic (e.rd hs) (RepKV.mono e ds _ ha)
theorem RepAll.mono (e : Ex H H') : ∀ (ds : List PyData) (vs : List V), RepAll K H vs ds → RepAll K H' vs ds
  | [], _, h => by cases h; exact .nil
  | d :: ds, _, h => by
    cases h with
    | cons h1 h2 => exact .cons (Rep.mono e d _ h1) (RepAll.mono e ds _ h2)
theorem RepKV.mono (e : Ex H H') : ∀ (ds : List (PyData × PyData)) (vs : List (Key × V)), RepKV K H vs ds → RepKV K H' vs ds
  | [], _, h => by cases h; exact .nil
  | d :: ds, _, h => by
    cases h with
    | cons h1 h2 => exact .cons (Rep.mono e _ _ h1) (RepKV.mono e ds _ h2)
end
theorem RepAll.length : ∀ {vs : List V} {ds : List PyData}, RepAll K H vs ds → vs.length = ds.length
  | _, _, .nil => rfl
  | _, _, .cons _ h => by rw [List.length_cons, List.length_cons, RepAll.length h]
theorem RepAll.get : ∀ {vs : List V} {ds : List PyData} {i : Nat} {d : PyData}, RepAll K H vs ds → ds[i]? = some d → ∃ v, vs[i]? = some v ∧ Rep K H v d
  | _, _, _, _, .nil, h => by simp at h
  | _, _, 0, _, .cons r _, h => ⟨_, rfl, by simp at h; subst h; exact r⟩
  | _, _, i + 1, _, .cons _ r, h => by
    obtain ⟨v, h1, h2⟩ := RepAll.get (i := i) r (by simpa using h)
    exact ⟨v, by simpa using h1, h2⟩
theorem RepAll.append : ∀ {vs us : List V} {ds es : List PyData}, RepAll K H vs ds → RepAll K H us es → RepAll K H (vs ++ us) (ds ++ es)
  | _, _, _, _, .nil, s => s
  | _, _, _, _, .cons r t, s => .cons r (RepAll.append t s)
theorem RepAll.take : ∀ {vs : List V} {ds : List PyData} (n : Nat), RepAll K H vs ds → RepAll K H (vs.take n) (ds.take n)
  | _, _, 0, _ => .nil
  | _, _, _ + 1, .nil => .nil
  | _, _, n + 1, .cons r t => .cons r (RepAll.take n t)
theorem RepAll.drop : ∀ {vs : List V} {ds : List PyData} (n : Nat), RepAll K H vs ds → RepAll K H (vs.drop n) (ds.drop n)
  | _, _, 0, r => r
  | _, _, _ + 1, .nil => .nil
  | _, _, n + 1, .cons _ t => RepAll.drop n t
theorem RepAll.rep : ∀ (n : Nat) {v : V} {d : PyData}, Rep K H v d → RepAll K H (List.replicate n v) (List.replicate n d)
  | 0, _, _, _ => .nil
  | n + 1, _, _, r => .cons r (RepAll.rep n r)
theorem RepAll.reverse : ∀ {vs : List V} {ds : List PyData}, RepAll K H vs ds → RepAll K H vs.reverse ds.reverse
  | _, _, .nil => .nil
  | _, _, .cons r t => by
    rw [List.reverse_cons, List.reverse_cons]
    exact RepAll.append (RepAll.reverse t) (.cons r .nil)
theorem RepAll.ints : ∀ ns : List Int, RepAll K H (ns.map V.int) (ns.map PyData.int)
  | [] => .nil
  | n :: ns => .cons (.int n) (RepAll.ints ns)
theorem RepAll.to_ints : ∀ {vs : List V} {ns : List Int}, RepAll K H vs (ns.map PyData.int) → vs = ns.map V.int
  | _, [], h => by cases h; rfl
  | _, n :: ns, h => by
    cases h with
    | cons h1 h2 => cases h1; rw [RepAll.to_ints h2]; rfl
theorem RepAll.to_bools : ∀ {vs : List V} {ns : List Bool}, RepAll K H vs (ns.map PyData.bool) → vs = ns.map V.bl
  | _, [], h => by cases h; rfl
  | _, n :: ns, h => by
    cases h with
    | cons h1 h2 => cases h1; rw [RepAll.to_bools h2]; rfl
theorem RepAll.to_strs : ∀ {vs : List V} {ns : List Str}, RepAll K H vs (ns.map PyData.str) → vs = ns.map V.str
  | _, [], h => by cases h; rfl
  | _, n :: ns, h => by
    cases h with
    | cons h1 h2 => cases h1; rw [RepAll.to_strs h2]; rfl
end
section
variable {X : Cx} {pins : List (Addr × Obj)} {σ : L2.St} {H : Hp} {s : Shared}
end

/-! ## own lists -/
inductive OV where
  | d (x : PyData)
  | lst (xs : List OV)
  | dic (kvs : List (PyData × PyData))
  | pot
structure Am where
  P : Option Addr
  S : Addr → Bool
  H0 : Hp
/-- the pot: digits, stirred number, count -/
def PotI (a b c : Int) : Prop := 0 ≤ a ∧ 0 ≤ b ∧ b < 2147483477 ∧ 0 ≤ c
def PotOk (P : Option Addr) (H : Hp) : Prop := ∀ p, P = some p → ∃ a b c, H p = some (.lst [.int a, .int b, .int c]) ∧ PotI a b c
def Ext (P : Option Addr) (H H' : Hp) : Prop := ∀ a o, P ≠ some a → H a = some o → H' a = some o
def hid (H : Hp) (S : Addr → Bool) : Hp := fun a => if S a = true then none else H a
structure Base (m : Am) (H : Hp) : Prop where
  ext : Ext m.P m.H0 H
  pot : PotOk m.P H
  potS : ∀ p, m.P = some p → m.S p = true
  trk : ∀ a, m.S a = true → m.H0 a ≠ none
def hS (m : Am) (F : List Addr) : Addr → Bool := fun a => m.S a || decide (a ∈ F)
abbrev Bh (m : Am) (F : List Addr) (H : Hp) : Hp := hid H (hS m F)

mutual
inductive Own (K : PySem.W.Frag) (m : Am) (B H : Hp) : V → OV → List Addr → Prop
  | d {v : V} {x : PyData} : Rep K B v x → Own K m B H v (.d x) []
  | pot {p : Addr} : m.P = some p → Own K m B H (.ref p) .pot []
  | lst {p : Addr} {vs : List V} {xs : List OV} {fp : List Addr} : H p = some (.lst vs) → OwnAll K m B H vs xs fp → Own K m B H (.ref p) (.lst xs) (p :: fp)
  | dic {p : Addr} {kvs : List (Key × V)} {ds : List (PyData × PyData)} : H p = some (.dK kvs) → RepKV K B kvs ds → Own K m B H (.ref p) (.dic ds) [p]
inductive OwnAll (K : PySem.W.Frag) (m : Am) (B H : Hp) : List V → List OV → List Addr → Prop
  | nil : OwnAll K m B H [] [] []
  | cons {v : V} {vs : List V} {x : OV} {xs : List OV} {fp fq : List Addr} : Own K m B H v x fp → OwnAll K m B H vs xs fq → OwnAll K m B H (v :: vs) (x :: xs) (fp ++ fq)
end
inductive Slots (K : PySem.W.Frag) (m : Am) (B H : Hp) : L2.St → List (Option OV) → List Addr → Prop
  | nil : Slots K m B H [] [] []
  | un {s : Option V} {σ : L2.St} {ρ : List (Option OV)} {fq : List Addr} : Slots K m B H σ ρ fq → Slots K m B H (s :: σ) (none :: ρ) fq
  | val {v : V} {x : OV} {σ : L2.St} {ρ : List (Option OV)} {fp fq : List Addr} : Own K m B H v x fp → Slots K m B H σ ρ fq → Slots K m B H (some v :: σ) (some x :: ρ) (fp ++ fq)

theorem Own.same {K : PySem.W.Frag} {m : Am} {B B' H H' : Hp} (e : Ex B B') : ∀ (x : OV) (v : V) (fp : List Addr), (∀ a ∈ fp, H' a = H a) → Own K m B H v x fp → Own K m B' H' v x fp := by
  intro x
  refine OV.rec (motive_1 := fun x => ∀ (v : V) (fp : List Addr), (∀ a ∈ fp, H' a = H a) → Own K m B H v x fp → Own K m B' H' v x fp)
    (motive_2 := fun xs => ∀ (vs : List V) (fp : List Addr), (∀ a ∈ fp, H' a = H a) → OwnAll K m B H vs xs fp → OwnAll K m B' H' vs xs fp) ?_ ?_ ?_ ?_ ?_ ?_ x
  · intro x v fp k h
    cases h with
    | d r => exact .d (Rep.mono e x _ r)
  · intro xs ih v fp k h
    cases h with
    | lst hp ha => exact .lst (by rw [k _ List.mem_cons_self]; exact hp) (ih _ _ (fun a ha => k a (List.mem_cons_of_mem _ ha)) ha)
  · intro kvs v fp k h
    cases h with
    | dic hp ha => exact .dic (by rw [k _ List.mem_cons_self]; exact hp) (RepKV.mono e _ _ ha)
  · intro v fp k h
    cases h with
    | pot hp => exact .pot hp
  · intro vs fp k h
    cases h
    exact .nil
  · intro x xs ih1 ih2 vs fp k h
    cases h with
    | cons h1 h2 => exact .cons (ih1 _ _ (fun a ha => k a (List.mem_append_left _ ha)) h1) (ih2 _ _ (fun a ha => k a (List.mem_append_right _ ha)) h2)
theorem OwnAll.same {K : PySem.W.Frag} {m : Am} {B B' H H' : Hp} (e : Ex B B') : ∀ (xs : List OV) (vs : List V) (fp : List Addr), (∀ a ∈ fp, H' a = H a) → OwnAll K m B H vs xs fp → OwnAll K m B' H' vs xs fp
  | [], _, _, _, h => by cases h; exact .nil
  | x :: xs, _, _, k, h => by
    cases h with
    | cons h1 h2 => exact .cons (Own.same e x _ _ (fun a ha => k a (List.mem_append_left _ ha)) h1) (OwnAll.same e xs _ _ (fun a ha => k a (List.mem_append_right _ ha)) h2)
theorem Slots.same {K : PySem.W.Frag} {m : Am} {B B' H H' : Hp} (e : Ex B B') : ∀ {σ : L2.St} {ρ : List (Option OV)} {fp : List Addr}, (∀ a ∈ fp, H' a = H a) → Slots K m B H σ ρ fp → Slots K m B' H' σ ρ fp
  | _, _, _, _, .nil => .nil
  | _, _, _, k, .un h => .un (Slots.same e k h)
  | _, _, _, k, .val o h => .val (Own.same e _ _ _ (fun a ha => k a (List.mem_append_left _ ha)) o) (Slots.same e (fun a ha => k a (List.mem_append_right _ ha)) h)

/-- the state: slots σ hold what ρ tells; F: the own objects of the slots, T: those of values on the way -/
structure ER (K : PySem.W.Frag) (m : Am) (σ : L2.St) (H : Hp) (ρ : List (Option OV)) (F T : List Addr) : Prop where
  base : Base m H
  slots : Slots K m (Bh m (F ++ T) H) H σ ρ F
  nd : (F ++ T).Nodup
  fresh : ∀ a ∈ F ++ T, m.H0 a = none ∧ H a ≠ none
end DL

/-! ==== DL2 ==== -/
set_option Elab.async false
set_option linter.all false
set_option maxRecDepth 100000
set_option maxHeartbeats 4000000
namespace DL
open PySem PySem.Spec PyProof.Rows L2

theorem hid_some {H : Hp} {S : Addr → Bool} {a : Addr} {o : HO} : hid H S a = some o ↔ S a = false ∧ H a = some o := by
  unfold hid
  cases S a with
  | true =>
    rw [if_pos rfl]
    exact ⟨fun h => (nomatch h), fun h => (nomatch h.1)⟩
  | false =>
    rw [if_neg Bool.false_ne_true]
    exact ⟨fun h => ⟨rfl, h⟩, fun h => h.2⟩
theorem hS_false {m : Am} {G : List Addr} {a : Addr} : hS m G a = false ↔ m.S a = false ∧ a ∉ G := by
  unfold hS
  rw [Bool.or_eq_false_iff, decide_eq_false_iff_not]
section
variable {K : PySem.W.Frag} {m : Am} {σ : L2.St} {H H' : Hp} {ρ : List (Option OV)} {F T : List Addr}
theorem Ext.refl (P : Option Addr) (H : Hp) : Ext P H H := fun _ _ _ h => h
theorem Ext.trans {P : Option Addr} {H H1 H2 : Hp} (a : Ext P H H1) (b : Ext P H1 H2) : Ext P H H2 := fun x o n h => b x o n (a x o n h)
theorem Ext.new {P : Option Addr} {H : Hp} {p : Addr} {o : HO} (h : H p = none) : Ext P H (upd H p o) := fun a u _ e => by
  rw [upd_ne (ne_of_none e h)]
  exact e
/-- an object that H does not know may change -/
theorem Ext.mut {P : Option Addr} {H H' : Hp} {p : Addr} {o : HO} (e : Ext P H H') (h : H p = none) : Ext P H (upd H' p o) := fun a u n ha => by
  rw [upd_ne (ne_of_none ha h)]
  exact e a u n ha
theorem Ext.of_ex {P : Option Addr} {H H' : Hp} (e : Ex H H') : Ext P H H' := fun a o _ h => e a o h
theorem Ext.back {H H' : Hp} {p : Addr} (hb : PotOk m.P H') (e : Ext m.P H H') (h : H' p = none) : H p = none := by
  cases h1 : H p with
  | none => rfl
  | some o =>
    by_cases hp : m.P = some p
    · obtain ⟨a, b, c, e1, _⟩ := hb p hp
      rw [h] at e1
      cases e1
    · rw [e p o hp h1] at h
      cases h

theorem ER.potF (er : ER K m σ H ρ F T) {p : Addr} (hp : m.P = some p) : p ∉ F ++ T := fun hm => by
  have h1 := er.base.trk p (er.base.potS p hp)
  exact h1 (er.fresh p hm).1
theorem ER.sF (er : ER K m σ H ρ F T) {a : Addr} (hs : m.S a = true) : a ∉ F ++ T := fun hm => er.base.trk a hs (er.fresh a hm).1
theorem ER.keepF (er : ER K m σ H ρ F T) (e : Ext m.P H H') {a : Addr} (ha : a ∈ F ++ T) : H' a = H a := by
  cases h : H a with
  | none => exact absurd h (er.fresh a ha).2
  | some o => exact e a o (fun hp => er.potF hp ha) h
theorem Bh.ex {G : List Addr} (hb : Base m H) (e : Ext m.P H H') : Ex (Bh m G H) (Bh m G H') := fun a o h => by
  obtain ⟨h1, h2⟩ := hid_some.mp h
  refine hid_some.mpr ⟨h1, e a o (fun hp => ?_) h2⟩
  have := (hS_false.mp h1).1
  rw [hb.potS a hp] at this
  cases this
theorem Bh.sub {G G' : List Addr} (h : ∀ a ∈ G', a ∈ G) : Ex (Bh m G H) (Bh m G' H) := fun a o q => by
  obtain ⟨h1, h2⟩ := hid_some.mp q
  have h3 := hS_false.mp h1
  exact hid_some.mpr ⟨hS_false.mpr ⟨h3.1, fun z => h3.2 (h a z)⟩, h2⟩
/-- hidden objects change, more are hidden that were not there -/
theorem Bh.chg {G G' : List Addr} (hg : ∀ a ∈ G', a ∈ G ∨ H a = none) (hh : ∀ a, a ∉ G → H a ≠ none → H' a = H a) : Ex (Bh m G H) (Bh m G' H') := fun a o q => by
  obtain ⟨h1, h2⟩ := hid_some.mp q
  have h3 := hS_false.mp h1
  have hn : H a ≠ none := by rw [h2]; exact fun z => nomatch z
  refine hid_some.mpr ⟨hS_false.mpr ⟨h3.1, fun z => ?_⟩, by rw [hh a h3.2 hn]; exact h2⟩
  rcases hg a z with z | z
  · exact h3.2 z
  · exact hn z
theorem Bh.go {G G' : List Addr} (hb : Base m H) (e : Ext m.P H H') (hg : ∀ a ∈ G', a ∈ G ∨ H a = none) : Ex (Bh m G H) (Bh m G' H') := fun a o q => by
  obtain ⟨h1, h2⟩ := hid_some.mp q
  have h3 := hS_false.mp h1
  refine hid_some.mpr ⟨hS_false.mpr ⟨h3.1, fun z => ?_⟩, e a o (fun hp => ?_) h2⟩
  · rcases hg a z with z | z
    · exact h3.2 z
    · rw [z] at h2
      cases h2
  · have := h3.1
    rw [hb.potS a hp] at this
    cases this
theorem Bh.out {G : List Addr} : Ex (Bh m G H) (hid H m.S) := fun a o q => by
  obtain ⟨h1, h2⟩ := hid_some.mp q
  exact hid_some.mpr ⟨(hS_false.mp h1).1, h2⟩
theorem Base.step (hb : Base m H) (e : Ext m.P H H') (hp : PotOk m.P H') : Base m H' := ⟨hb.ext.trans e, hp, hb.potS, hb.trk⟩
/-- the heap goes on: all but the pot stays -/
theorem ER.step (er : ER K m σ H ρ F T) (e : Ext m.P H H') (hp : PotOk m.P H') : ER K m σ H' ρ F T :=
  ⟨er.base.step e hp, er.slots.same (Bh.ex er.base e) fun a ha => er.keepF e (List.mem_append_left _ ha), er.nd, fun a ha => ⟨(er.fresh a ha).1, by rw [er.keepF e ha]; exact (er.fresh a ha).2⟩⟩
theorem PotOk.new {P : Option Addr} {p : Addr} {o : HO} (h : PotOk P H) (hn : H p = none) : PotOk P (upd H p o) := fun q hq => by
  obtain ⟨a, b, c, e, i⟩ := h q hq
  exact ⟨a, b, c, by rw [upd_ne (ne_of_none e hn)]; exact e, i⟩
theorem PotOk.ne {P : Option Addr} {p : Addr} {o : HO} (h : PotOk P H) (hn : P ≠ some p) : PotOk P (upd H p o) := fun q hq => by
  obtain ⟨a, b, c, e, i⟩ := h q hq
  exact ⟨a, b, c, by rw [upd_ne (fun z => hn (by rw [hq, z]))]; exact e, i⟩
/-- a new object that all may see -/
theorem ER.new (er : ER K m σ H ρ F T) {p : Addr} {o : HO} (hn : H p = none) : ER K m σ (upd H p o) ρ F T := er.step (Ext.new hn) (er.base.pot.new hn)
theorem Base.h0 (hb : Base m H) {p : Addr} (hn : H p = none) : m.H0 p = none := by
  cases q : m.H0 p with
  | none => rfl
  | some u =>
    by_cases hp : m.P = some p
    · obtain ⟨a, b, c, e, _⟩ := hb.pot p hp
      rw [hn] at e
      cases e
    · have := hb.ext p u hp q
      rw [hn] at this
      cases this
theorem Base.s0 (hb : Base m H) {p : Addr} (hn : H p = none) : m.S p = false := by
  cases q : m.S p with
  | false => rfl
  | true => exact absurd (hb.h0 hn) (hb.trk p q)
theorem ER.seen (er : ER K m σ H ρ F T) {p : Addr} (hn : H p = none) : hS m (F ++ T) p = false :=
  hS_false.mpr ⟨er.base.s0 hn, fun z => (er.fresh p z).2 hn⟩
/-- the new object, seen -/
theorem ER.newB (er : ER K m σ H ρ F T) {p : Addr} {o : HO} (hn : H p = none) : Bh m (F ++ T) (upd H p o) p = some o :=
  hid_some.mpr ⟨er.seen hn, upd_same⟩
/-- a new own object: a value on the way -/
theorem ER.own (er : ER K m σ H ρ F T) {p : Addr} {o : HO} (hn : H p = none) : ER K m σ (upd H p o) ρ F (T ++ [p]) := by
  have hpn : p ∉ F ++ T := fun z => (er.fresh p z).2 hn
  have er2 := er.new (o := o) hn
  refine ⟨er2.base, er.slots.same (Bh.chg (fun a ha => ?_) fun a _ h => upd_ne fun z => h (by rw [z]; exact hn)) (fun a ha => upd_ne fun z => hpn (by rw [← z]; exact List.mem_append_left _ ha)), ?_, fun a ha => ?_⟩
  · rw [← List.append_assoc] at ha
    rcases List.mem_append.mp ha with ha | ha
    · exact .inl ha
    · rw [List.mem_singleton] at ha
      subst ha
      exact .inr hn
  · rw [← List.append_assoc]
    exact List.nodup_append.mpr ⟨er.nd, List.nodup_cons.mpr ⟨List.not_mem_nil, List.nodup_nil⟩, fun a ha b hb => by
      intro e
      subst e
      rw [List.mem_singleton] at hb
      subst hb
      exact hpn ha⟩
  · rw [← List.append_assoc] at ha
    rcases List.mem_append.mp ha with ha | ha
    · exact er2.fresh a ha
    · rw [List.mem_singleton] at ha
      subst ha
      exact ⟨er.base.h0 hn, by rw [upd_same]; exact fun z => nomatch z⟩
/-- fewer values on the way: what they were is seen -/
theorem ER.free (er : ER K m σ H ρ F T) {T' : List Addr} (hs : List.Sublist T' T) : ER K m σ H ρ F T' :=
  ⟨er.base, er.slots.same (Bh.sub fun a ha => by
    rcases List.mem_append.mp ha with z | z
    · exact List.mem_append_left _ z
    · exact List.mem_append_right _ (hs.subset z)) fun _ _ => rfl, er.nd.sublist ((List.Sublist.refl F).append hs), fun a ha => er.fresh a (by
    rcases List.mem_append.mp ha with z | z
    · exact List.mem_append_left _ z
    · exact List.mem_append_right _ (hs.subset z))⟩
/-- an own object of a value on the way changes -/
theorem ER.wr (er : ER K m σ H ρ F T) {p : Addr} {o : HO} (hp : p ∈ T) : ER K m σ (upd H p o) ρ F T := by
  have hPm : m.P ≠ some p := fun z => er.potF z (List.mem_append_right _ hp)
  have h0 : m.H0 p = none := (er.fresh p (List.mem_append_right _ hp)).1
  have hnF : p ∉ F := fun z => by
    have h2 := er.nd
    rw [List.nodup_append] at h2
    exact h2.2.2 p z p hp rfl
  refine ⟨⟨fun a u n h => ?_, er.base.pot.ne hPm, er.base.potS, er.base.trk⟩, er.slots.same (Bh.chg (fun a ha => .inl ha) fun a ha _ => upd_ne fun z => ha (by rw [z]; exact List.mem_append_right _ hp)) (fun a ha => upd_ne fun z => hnF (by rw [← z]; exact ha)), er.nd, fun a ha => ⟨(er.fresh a ha).1, ?_⟩⟩
  · rw [upd_ne (ne_of_none h h0)]
    exact er.base.ext a u n h
  · by_cases hap : a = p
    · subst hap
      rw [upd_same]
      exact fun z => nomatch z
    · rw [upd_ne hap]
      exact (er.fresh a ha).2

/-! ### slots -/
theorem Slots.get {B : Hp} : ∀ {σ : L2.St} {ρ : List (Option OV)} {F : List Addr} {i : Nat} {x : OV}, Slots K m B H σ ρ F → ρ[i]? = some (some x) → ∃ v fp, σ[i]? = some (some v) ∧ Own K m B H v x fp ∧ ∀ a ∈ fp, a ∈ F
  | _, _, _, _, _, .nil, h => by simp at h
  | _, _, _, 0, _, .un _, h => by simp at h
  | _, _, _, i + 1, x, .un s, h => by
    obtain ⟨v, fp, h1, h2, h3⟩ := Slots.get (i := i) s (by simpa using h)
    exact ⟨v, fp, by simpa using h1, h2, h3⟩
  | _, _, _, 0, _, .val o s, h => by
    simp at h
    subst h
    exact ⟨_, _, rfl, o, fun a ha => List.mem_append_left _ ha⟩
  | _, _, _, i + 1, x, .val o s, h => by
    obtain ⟨v, fp, h1, h2, h3⟩ := Slots.get (i := i) s (by simpa using h)
    exact ⟨v, fp, by simpa using h1, h2, fun a ha => List.mem_append_right _ (h3 a ha)⟩
theorem nodup3 {a b c : List Addr} (h : ((a ++ b) ++ c).Nodup) : (c ++ b).Nodup := by
  rw [List.nodup_append] at h ⊢
  obtain ⟨h1, h2, h3⟩ := h
  rw [List.nodup_append] at h1
  exact ⟨h2, h1.2.1, fun x hx y hy e => h3 y (List.mem_append_right _ hy) x hx e.symm⟩
theorem Slots.set {B : Hp} {v : V} {x : OV} {fp : List Addr} (o : Own K m B H v x fp) : ∀ {σ : L2.St} {ρ : List (Option OV)} {F : List Addr} (i : Nat), Slots K m B H σ ρ F →
    ∃ F', Slots K m B H (σ.set i (some v)) (ρ.set i (some x)) F' ∧ (∀ a ∈ F', a ∈ F ++ fp) ∧ ((F ++ fp).Nodup → F'.Nodup)
  | _, _, _, _, .nil => ⟨[], .nil, fun a h => (nomatch h), fun _ => List.nodup_nil⟩
  | _, _, _, 0, .un s => by
    refine ⟨_, .val o s, fun a ha => ?_, fun h => ?_⟩
    · rcases List.mem_append.mp ha with z | z
      · exact List.mem_append_right _ z
      · exact List.mem_append_left _ z
    · exact nodup3 (a := []) h
  | _, _, _, i + 1, .un s => by
    obtain ⟨F', h1, h2, h3⟩ := Slots.set o i s
    exact ⟨F', .un h1, h2, h3⟩
  | _, _, _, 0, .val o' s => by
    refine ⟨_, .val o s, fun a ha => ?_, fun h => ?_⟩
    · rcases List.mem_append.mp ha with z | z
      · exact List.mem_append_right _ z
      · exact List.mem_append_left _ (List.mem_append_right _ z)
    · exact nodup3 h
  | _, _, _, i + 1, .val (fp := f0) (fq := f1) o' s => by
    obtain ⟨F', h1, h2, h3⟩ := Slots.set o i s
    refine ⟨_, .val o' h1, fun a ha => ?_, fun h => ?_⟩
    · rcases List.mem_append.mp ha with z | z
      · exact List.mem_append_left _ (List.mem_append_left _ z)
      · rcases List.mem_append.mp (h2 a z) with z | z
        · exact List.mem_append_left _ (List.mem_append_right _ z)
        · exact List.mem_append_right _ z
    · rw [List.append_assoc, List.nodup_append] at h
      rw [List.nodup_append]
      exact ⟨h.1, h3 h.2.1, fun a ha b hb => h.2.2 a ha b (h2 b hb)⟩
theorem Slots.drop {B : Hp} : ∀ {σ : L2.St} {ρ : List (Option OV)} {F : List Addr} (i : Nat), Slots K m B H σ ρ F → ∃ F' Fd, Slots K m B H (σ.set i none) (ρ.set i none) F' ∧ List.Perm (F' ++ Fd) F
  | _, _, _, _, .nil => ⟨[], [], .nil, .refl _⟩
  | _, _, _, 0, .un s => ⟨_, [], .un s, by rw [List.append_nil]⟩
  | _, _, _, i + 1, .un s => by
    obtain ⟨F', Fd, h1, h2⟩ := Slots.drop i s
    exact ⟨F', Fd, .un h1, h2⟩
  | _, _, _, 0, .val (fp := f0) (fq := f1) o' s => ⟨_, f0, .un s, List.perm_append_comm⟩
  | _, _, _, i + 1, .val (fp := f0) (fq := f1) o' s => by
    obtain ⟨F', Fd, h1, h2⟩ := Slots.drop i s
    exact ⟨_, Fd, .val o' h1, by rw [List.append_assoc]; exact h2.append_left f0⟩
theorem Slots.len {B : Hp} : ∀ {σ : L2.St} {ρ : List (Option OV)} {F : List Addr}, Slots K m B H σ ρ F → σ.length = ρ.length
  | _, _, _, .nil => rfl
  | _, _, _, .un s => congrArg (· + 1) (Slots.len s)
  | _, _, _, .val _ s => congrArg (· + 1) (Slots.len s)
def wipeD (ρ : List (Option OV)) : List Nat → List (Option OV)
  | [] => ρ
  | v :: vs => (wipeD ρ vs).set v none
theorem Slots.wipe {B : Hp} {σ : L2.St} {ρ : List (Option OV)} {F : List Addr} (s : Slots K m B H σ ρ F) : ∀ vs : List Nat, ∃ F' Fd, Slots K m B H (L2.wipe σ vs) (wipeD ρ vs) F' ∧ List.Perm (F' ++ Fd) F
  | [] => ⟨F, [], s, by rw [List.append_nil]⟩
  | v :: vs => by
    obtain ⟨F', Fd, h1, h2⟩ := Slots.wipe s vs
    obtain ⟨F'', Fe, h3, h4⟩ := h1.drop v
    exact ⟨F'', Fe ++ Fd, h3, by rw [← List.append_assoc]; exact (h4.append_right Fd).trans h2⟩
theorem ER.perm (er : ER K m σ H ρ F T) {σ' : L2.St} {ρ' : List (Option OV)} {F' T' : List Addr} (s : Slots K m (Bh m (F ++ T) H) H σ' ρ' F') (p : List.Perm (F' ++ T') (F ++ T)) : ER K m σ' H ρ' F' T' :=
  ⟨er.base, s.same (Bh.sub fun a ha => p.mem_iff.mp ha) fun _ _ => rfl, p.nodup_iff.mpr er.nd, fun a ha => er.fresh a (p.mem_iff.mp ha)⟩
theorem Bh.perm {G G' : List Addr} (p : List.Perm G G') : Ex (Bh m G H) (Bh m G' H) := Bh.sub fun a ha => p.mem_iff.mpr ha
theorem ER.wipe (er : ER K m σ H ρ F T) (vs : List Nat) : ∃ F' T', ER K m (L2.wipe σ vs) H (wipeD ρ vs) F' T' ∧ List.Perm (F' ++ T') (F ++ T) := by
  obtain ⟨F', Fd, h1, h2⟩ := er.slots.wipe vs
  have p : List.Perm (F' ++ (Fd ++ T)) (F ++ T) := by
    rw [← List.append_assoc]
    exact h2.append_right T
  exact ⟨F', Fd ++ T, er.perm h1 p, p⟩

/-! ### values on the way -/
def VR (K : PySem.W.Frag) (m : Am) (F T : List Addr) (H : Hp) (v : V) (x : OV) : Prop := ∃ fp, Own K m (Bh m (F ++ T) H) H v x fp ∧ ∀ a ∈ fp, a ∈ F ++ T
theorem VR.step {v : V} {x : OV} (er : ER K m σ H ρ F T) (e : Ext m.P H H') (h : VR K m F T H v x) : VR K m F T H' v x := by
  obtain ⟨fp, h1, h2⟩ := h
  exact ⟨fp, Own.same (Bh.ex er.base e) x v fp (fun a ha => er.keepF e (h2 a ha)) h1, h2⟩
theorem VR.d {v : V} {x : PyData} (h : Rep K (Bh m (F ++ T) H) v x) : VR K m F T H v (.d x) := ⟨[], .d h, fun a z => (nomatch z)⟩
theorem VR.rep {v : V} {x : PyData} (h : VR K m F T H v (.d x)) : Rep K (Bh m (F ++ T) H) v x := by
  obtain ⟨fp, h1, _⟩ := h
  cases h1 with
  | d r => exact r
inductive VRs (K : PySem.W.Frag) (m : Am) (F T : List Addr) (H : Hp) : List V → List OV → Prop
  | nil : VRs K m F T H [] []
  | cons {v : V} {x : OV} {vs : List V} {xs : List OV} : VR K m F T H v x → VRs K m F T H vs xs → VRs K m F T H (v :: vs) (x :: xs)
theorem VRs.step (er : ER K m σ H ρ F T) (e : Ext m.P H H') : ∀ {vs : List V} {xs : List OV}, VRs K m F T H vs xs → VRs K m F T H' vs xs
  | _, _, .nil => .nil
  | _, _, .cons h t => .cons (h.step er e) (VRs.step er e t)
theorem VRs.append : ∀ {vs us : List V} {xs ys : List OV}, VRs K m F T H vs xs → VRs K m F T H us ys → VRs K m F T H (vs ++ us) (xs ++ ys)
  | _, _, _, _, .nil, s => s
  | _, _, _, _, .cons h t, s => .cons h (VRs.append t s)
end
end DL

/-! ==== DL3 ==== -/
set_option Elab.async false
set_option linter.all false
set_option maxRecDepth 100000
set_option maxHeartbeats 4000000
namespace DL
open PySem PySem.Spec PyProof.Rows L2

/-! ## readings over data -/
abbrev DEnv := List (Option OV)
abbrev DE := DEnv → (OV → Prop) → Prop
abbrev DN := DEnv → (List OV → Prop) → Prop
abbrev DT := DEnv → (Bool → Prop) → Prop
abbrev DA := DEnv → (List OV → Prop) → Prop
abbrev D2 := OV → OV → (OV → Prop) → Prop
structure DEnds where
  nx : DEnv → Prop
  rt : PyData → Prop
  bk : DEnv → Prop := fun _ => False
  ct : DEnv → Prop := fun _ => False
abbrev DS := DEnds → DEnv → Prop
abbrev DG := PyData → DEnv → (DEnv → Prop) → Prop
abbrev DI := DEnv → (List PyData → Prop) → Prop
/-- what a def does with its arguments -/
abbrev DF := List OV → (PyData → Prop) → Prop

def argOk : OV → Bool
  | .d _ => true
  | .pot => true
  | _ => false
mutual
/-- as plain data -/
def vw : OV → PyData
  | .d x => x
  | .lst xs => .list (vws xs)
  | .dic kvs => .dict kvs
  | .pot => .none
def vws : List OV → List PyData
  | [] => []
  | x :: xs => vw x :: vws xs
end
mutual
def okv : OV → Bool
  | .pot => false
  | .lst xs => okvs xs
  | _ => true
def okvs : List OV → Bool
  | [] => true
  | x :: xs => okv x && okvs xs
end
theorem vws_d : ∀ xs : List PyData, vws (xs.map OV.d) = xs
  | [] => rfl
  | x :: xs => by
    show vw (.d x) :: vws (xs.map OV.d) = x :: xs
    rw [vws_d xs]
    rfl
theorem okvs_d : ∀ xs : List PyData, okvs (xs.map OV.d) = true
  | [] => rfl
  | x :: xs => by
    show (okv (.d x) && okvs (xs.map OV.d)) = true
    rw [okvs_d xs]
    rfl
/-- items that are plain -/
def ovs : List OV → Option (List PyData)
  | [] => some []
  | .d x :: r => (ovs r).map (x :: ·)
  | _ => none
theorem ovs_d : ∀ xs : List PyData, ovs (xs.map OV.d) = some xs
  | [] => rfl
  | x :: xs => by
    show (ovs (xs.map OV.d)).map (x :: ·) = some (x :: xs)
    rw [ovs_d xs]
    rfl
def asList : OV → Option (List PyData)
  | .d (.list xs) => some xs
  | .lst xs => ovs xs
  | _ => none

section
variable {K : PySem.W.Frag} {m : Am} {σ : L2.St} {H H' : Hp} {ρ : DEnv} {F T : List Addr}
/-- own or not: seen where its objects are seen -/
theorem Own.rep {B B' : Hp} (e : Ex B B') : ∀ (x : OV) (v : V) (fp : List Addr), okv x = true → (∀ a ∈ fp, B' a = H a) → Own K m B H v x fp → Rep K B' v (vw x) := by
  intro x
  refine OV.rec (motive_1 := fun x => ∀ (v : V) (fp : List Addr), okv x = true → (∀ a ∈ fp, B' a = H a) → Own K m B H v x fp → Rep K B' v (vw x))
    (motive_2 := fun xs => ∀ (vs : List V) (fp : List Addr), okvs xs = true → (∀ a ∈ fp, B' a = H a) → OwnAll K m B H vs xs fp → RepAll K B' vs (vws xs)) ?_ ?_ ?_ ?_ ?_ ?_ x
  · intro x v fp _ k h
    cases h with
    | d r => exact Rep.mono e x _ r
  · intro xs ih v fp ok k h
    cases h with
    | lst hp ha => exact .lst (by rw [k _ List.mem_cons_self]; exact hp) (ih _ _ ok (fun a ha => k a (List.mem_cons_of_mem _ ha)) ha)
  · intro kvs v fp _ k h
    cases h with
    | dic hp ha => exact .dic (.inl (by rw [k _ List.mem_cons_self]; exact hp)) (RepKV.mono e _ _ ha)
  · intro v fp ok k h
    exact nomatch (show false = true from ok)
  · intro vs fp _ k h
    cases h
    exact .nil
  · intro x xs ih1 ih2 vs fp ok k h
    have ok' : (okv x && okvs xs) = true := ok
    rw [Bool.and_eq_true] at ok'
    cases h with
    | cons h1 h2 => exact .cons (ih1 _ _ ok'.1 (fun a ha => k a (List.mem_append_left _ ha)) h1) (ih2 _ _ ok'.2 (fun a ha => k a (List.mem_append_right _ ha)) h2)
/-- read in the whole heap -/
theorem Ex.ofBh {G : List Addr} : Ex (Bh m G H) H := fun a o q => (hid_some.mp q).2
theorem VR.read {v : V} {x : OV} (ok : okv x = true) (h : VR K m F T H v x) : Rep K H v (vw x) := by
  obtain ⟨fp, h1, _⟩ := h
  exact Own.rep Ex.ofBh x v fp ok (fun _ _ => rfl) h1
/-- handed out of the def -/
theorem VR.out {v : V} {x : OV} (er : ER K m σ H ρ F T) (ok : okv x = true) (h : VR K m F T H v x) : Rep K (hid H m.S) v (vw x) := by
  obtain ⟨fp, h1, h2⟩ := h
  refine Own.rep Bh.out x v fp ok (fun a ha => ?_) h1
  unfold hid
  rw [if_neg]
  intro z
  exact er.sF z (h2 a ha)
theorem OwnAll.ovs {B : Hp} : ∀ {vs : List V} {xs : List OV} {fp : List Addr} {ds : List PyData}, OwnAll K m B H vs xs fp → ovs xs = some ds → RepAll K B vs ds ∧ fp = []
  | _, _, _, _, .nil, h => by
    cases h
    exact ⟨.nil, rfl⟩
  | _, _, _, ds, .cons (x := x) (xs := xs) (fp := f1) (fq := f2) h1 h2, h => by
    cases x with
    | d y =>
      have h' : (DL.ovs xs).map (y :: ·) = some ds := h
      cases e : DL.ovs xs with
      | none =>
        rw [e] at h'
        cases h'
      | some es =>
        rw [e] at h'
        cases h'
        obtain ⟨r, ef⟩ := OwnAll.ovs h2 e
        cases h1 with
        | d r1 => exact ⟨.cons r1 r, by rw [ef]; rfl⟩
    | lst _ => cases h
    | dic _ => cases h
    | pot => cases h
/-- a list with plain items, read -/
theorem VR.list {v : V} {x : OV} {ds : List PyData} (h : VR K m F T H v x) (e : asList x = some ds) : ∃ a vs, v = .ref a ∧ H a = some (.lst vs) ∧ RepAll K (Bh m (F ++ T) H) vs ds := by
  obtain ⟨fp, h1, h2⟩ := h
  cases x with
  | d y =>
    cases y with
    | list xs =>
      cases e
      cases h1 with
      | d r =>
        cases r with
        | lst hp ha => exact ⟨_, _, rfl, (hid_some.mp hp).2, ha⟩
    | _ => cases e
  | lst xs =>
    cases h1 with
    | lst hp ha => exact ⟨_, _, rfl, hp, (OwnAll.ovs ha e).1⟩
  | dic _ => cases e
  | pot => cases e
theorem VR.tuple {v : V} {ds : List PyData} (h : VR K m F T H v (.d (.tuple ds))) : ∃ a vs, v = .ref a ∧ SqT K H a vs ∧ RepAll K (Bh m (F ++ T) H) vs ds := by
  cases h.rep with
  | tup hp ha => exact ⟨_, _, rfl, Ex.ofBh.stp hp, ha⟩
theorem VR.int {v : V} {i : Int} (h : VR K m F T H v (.d (.int i))) : v = .int i := by
  cases h.rep
  rfl
theorem VR.str {v : V} {i : Str} (h : VR K m F T H v (.d (.str i))) : v = .str i := by
  cases h.rep
  rfl
theorem VR.bool {v : V} {i : Bool} (h : VR K m F T H v (.d (.bool i))) : v = .bl i := by
  cases h.rep
  rfl
theorem VR.isNone {v : V} (h : VR K m F T H v (.d .none)) : v = .non := by
  cases h.rep
  rfl
theorem VR.ofInt (i : Int) : VR K m F T H (.int i) (.d (.int i)) := .d (.int i)
theorem VR.ofStr (i : Str) : VR K m F T H (.str i) (.d (.str i)) := .d (.str i)
theorem VR.ofBool (i : Bool) : VR K m F T H (.bl i) (.d (.bool i)) := .d (.bl i)
theorem VR.ofNone : VR K m F T H .non (.d .none) := .d .non
/-- a new list, tuple of plain things -/
theorem RepAll.newB (er : ER K m σ H ρ F T) {p : Addr} {o : HO} (hn : H p = none) {vs : List V} {ds : List PyData} (h : RepAll K (Bh m (F ++ T) H) vs ds) : RepAll K (Bh m (F ++ T) (upd H p o)) vs ds := RepAll.mono (Bh.ex er.base (Ext.new hn)) _ _ h
theorem VR.newL (er : ER K m σ H ρ F T) {p : Addr} (hn : H p = none) {vs : List V} {ds : List PyData} (h : RepAll K (Bh m (F ++ T) H) vs ds) : VR K m F T (upd H p (.lst vs)) (.ref p) (.d (.list ds)) :=
  .d (.lst (er.newB hn) (h.newB er hn))
theorem VR.newT (er : ER K m σ H ρ F T) {p : Addr} (hn : H p = none) {vs : List V} {ds : List PyData} (h : RepAll K (Bh m (F ++ T) H) vs ds) : VR K m F T (upd H p (.tup vs)) (.ref p) (.d (.tuple ds)) :=
  .d (.tup (.inl (.inl (er.newB hn))) (h.newB er hn))
theorem RepAll.ofVRs : ∀ {vs : List V} {xs : List OV} {ds : List PyData}, VRs K m F T H vs xs → ovs xs = some ds → RepAll K (Bh m (F ++ T) H) vs ds
  | _, _, _, .nil, h => by
    cases h
    exact .nil
  | _, _, ds, .cons (x := x) (xs := xs) h1 h2, h => by
    cases x with
    | d y =>
      have h' : (DL.ovs xs).map (y :: ·) = some ds := h
      cases e : DL.ovs xs with
      | none =>
        rw [e] at h'
        cases h'
      | some es =>
        rw [e] at h'
        cases h'
        exact .cons h1.rep (RepAll.ofVRs h2 e)
    | lst _ => cases h
    | dic _ => cases h
    | pot => cases h
end

/-! ## judgements -/
structure RE (K : PySem.W.Frag) (m : Am) (t : TE) (de : DE) : Prop where
  run : ∀ {σ : L2.St} {H : Hp} {ρ : DEnv} {F T : List Addr} {Q : VK} {dQ : OV → Prop}, ER K m σ H ρ F T → de ρ dQ →
    (∀ H' v x, Ext m.P H H' → ER K m σ H' ρ F T → VR K m F T H' v x → dQ x → Q v H') → t σ H Q
/-- a new list, the value's own -/
structure RN (K : PySem.W.Frag) (m : Am) (t : TE) (dn : DN) : Prop where
  run : ∀ {σ : L2.St} {H : Hp} {ρ : DEnv} {F T : List Addr} {Q : VK} {dQ : List OV → Prop}, ER K m σ H ρ F T → dn ρ dQ →
    (∀ H' v xs fp, Ext m.P H H' → (∀ a ∈ fp, H a = none) → ER K m σ H' ρ F (T ++ fp) → Own K m (Bh m (F ++ (T ++ fp)) H') H' v (.lst xs) fp → dQ xs → Q v H') → t σ H Q
structure RT (K : PySem.W.Frag) (m : Am) (t : TT) (dt : DT) : Prop where
  run : ∀ {σ : L2.St} {H : Hp} {ρ : DEnv} {F T : List Addr} {Q : Bool → Hp → Prop} {dQ : Bool → Prop}, ER K m σ H ρ F T → dt ρ dQ →
    (∀ H' b, Ext m.P H H' → ER K m σ H' ρ F T → dQ b → Q b H') → t σ H Q
structure RA (K : PySem.W.Frag) (m : Am) (t : TA) (da : DA) : Prop where
  run : ∀ {σ : L2.St} {H : Hp} {ρ : DEnv} {F T : List Addr} {Q : List V → Hp → Prop} {dQ : List OV → Prop}, ER K m σ H ρ F T → da ρ dQ →
    (∀ H' vs xs, Ext m.P H H' → ER K m σ H' ρ F T → VRs K m F T H' vs xs → dQ xs → Q vs H') → t σ H Q
structure R2D (K : PySem.W.Frag) (m : Am) (r : R2) (dr : D2) : Prop where
  run : ∀ {σ : L2.St} {H : Hp} {ρ : DEnv} {F T : List Addr} {v u : V} {x y : OV} {Q : VK} {dQ : OV → Prop}, ER K m σ H ρ F T → VR K m F T H v x → VR K m F T H u y → dr x y dQ →
    (∀ H' w z, Ext m.P H H' → ER K m σ H' ρ F T → VR K m F T H' w z → dQ z → Q w H') → r v u H Q
/-- a call on values: cr of args -/
structure RCD (K : PySem.W.Frag) (m : Am) (r : List V → Hp → VK → Prop) (dr : DF) : Prop where
  run : ∀ {σ : L2.St} {H : Hp} {ρ : DEnv} {F T : List Addr} {vs : List V} {xs : List OV} {Q : VK} {dQ : PyData → Prop}, ER K m σ H ρ F T → VRs K m F T H vs xs → dr xs dQ →
    (∀ H' w z, Ext m.P H H' → ER K m σ H' ρ F T → VR K m F T H' w (.d z) → dQ z → Q w H') → r vs H Q
structure DPE (X : Cx) (m : Am) (e : Expr) (t : TE) (de : DE) : Prop where
  pe : PE X e t
  re : RE X.K m t de
structure DPN (X : Cx) (m : Am) (e : Expr) (t : TE) (dn : DN) : Prop where
  pe : PE X e t
  rn : RN X.K m t dn
structure DPT (X : Cx) (m : Am) (e : Expr) (t : TT) (dt : DT) : Prop where
  pt : PT X e t
  rt : RT X.K m t dt
structure DPW (X : Cx) (m : Am) (e : Expr) (t : TT) (dt : DT) : Prop where
  pw : PW X e t
  rt : RT X.K m t dt
structure DPA (X : Cx) (m : Am) (es : List Expr) (t : TA) (da : DA) : Prop where
  pa : PA X es t
  ra : RA X.K m t da

section
variable {X : Cx} {m : Am} {a b c e : Expr} {es : List Expr} {pos : Pos} {t ta tb tc te : TE} {da db dc de : DE} {tt tu : TT} {dt du : DT}

/-! ### names, constants -/
def dVar (i : Nat) : DE := fun ρ Q => match ρ[i]? with
  | some (some x) => Q x
  | _ => False
def dC (x : PyData) : DE := fun _ Q => Q (.d x)
theorem re_var {K : PySem.W.Frag} (i : Nat) : RE K m (tVar i) (dVar i) := ⟨fun {σ H ρ F T Q dQ} er h k => by
  unfold dVar at h
  split at h
  · rename_i x hx
    obtain ⟨v, fp, h1, h2, h3⟩ := er.slots.get hx
    exact ⟨v, h1, k H v x (Ext.refl _ _) er ⟨fp, h2, fun a ha => List.mem_append_left _ (h3 a ha)⟩ h⟩
  · exact h.elim⟩
theorem dv (i : Nat) {x : Str} (hN : X.N[i]? = some x := by rfl) (hv : Vis X.env.scope x := by first | exact Or.inl rfl | exact Or.inr (Or.inl rfl) | exact Or.inr (Or.inr rfl)) (hd : (x == ("__debug__" : Str)) = false := by decide)
    (hcd : (x == ("__classdict__" : Str)) = false := by decide) : DPE X m (.Name x pos) (tVar i) (dVar i) := ⟨pe_var hN hv hd hcd, re_var i⟩
theorem re_c {K : PySem.W.Frag} {v : V} {x : PyData} (h : ∀ H, Rep K H v x) : RE K m (tC v) (dC x) := ⟨fun {σ H ρ F T Q dQ} er hq k => k H v _ (Ext.refl _ _) er (.d (h _)) hq⟩
theorem d_int {i j} : DPE X m (.Constant (.int i) j pos) (tC (.int i)) (dC (.int i)) := ⟨pe_int, re_c fun _ => .int i⟩
theorem d_bl {b j} : DPE X m (.Constant (.bool b) j pos) (tC (.bl b)) (dC (.bool b)) := ⟨pe_bl, re_c fun _ => .bl b⟩
theorem d_non {j} : DPE X m (.Constant .none j pos) (tC .non) (dC .none) := ⟨pe_non, re_c fun _ => .non⟩
theorem d_str {x : Str} {j} : DPE X m (.Constant (.str x) j pos) (tC (.str x)) (dC (.str x)) := ⟨pe_str, re_c fun _ => .str x⟩
/-- a module's int, text -/
theorem d_gint {x : Str} {i : Int} {tk : Tok} (hg : Gl X x) (hm : X.mg x = some (.int i tk)) (hd : (x == ("__debug__" : Str)) = false := by decide) : DPE X m (.Name x pos) (tC (.int i)) (dC (.int i)) := ⟨pe_glob hg hm ⟨_, rfl⟩ hd, re_c fun _ => .int i⟩
theorem d_gstr {x z : Str} {tk : Tok} (hg : Gl X x) (hm : X.mg x = some (.str z tk)) (hd : (x == ("__debug__" : Str)) = false := by decide) : DPE X m (.Name x pos) (tC (.str z)) (dC (.str z)) := ⟨pe_glob hg hm ⟨_, rfl⟩ hd, re_c fun _ => .str z⟩

/-! ### operators -/
def dOp (dr : D2) (da db : DE) : DE := fun ρ Q => da ρ fun x => db ρ fun y => dr x y Q
theorem re_op {K : PySem.W.Frag} {r : R2} {dr : D2} (hr : R2D K m r dr) (ha : RE K m ta da) (hb : RE K m tb db) : RE K m (tOp r ta tb) (dOp dr da db) := ⟨fun {σ H ρ F T Q dQ} er h k =>
  ha.run er h fun H1 v x e1 er1 vx h1 => hb.run er1 h1 fun H2 u y e2 er2 vy h2 => hr.run er2 (vx.step er1 e2) vy h2 fun H3 w z e3 er3 vz h3 => k H3 w z ((e1.trans e2).trans e3) er3 vz h3⟩
theorem d_op {op : Operator} {r : R2} {dr : D2} (ho : OpR X (binaryOp op) r) (hr : R2D X.K m r dr) (ha : DPE X m a ta da) (hb : DPE X m b tb db) : DPE X m (.BinOp a op b pos) (tOp r ta tb) (dOp dr da db) := ⟨pe_op ho ha.pe hb.pe, re_op hr ha.re hb.re⟩
theorem d_cmp {op : CmpOp} {r : R2} {dr : D2} (ho : OpR X (compareOp op) r) (hr : R2D X.K m r dr) (ha : DPE X m a ta da) (hb : DPE X m b tb db) (hm : behindInMarks op b = false) : DPE X m (.Compare a [op] [b] pos) (tOp r ta tb) (dOp dr da db) := ⟨pe_cmpR ho ha.pe hb.pe hm, re_op hr ha.re hb.re⟩
theorem d_ix {r : R2} {dr : D2} (ho : IxR X r) (hr : R2D X.K m r dr) (ha : DPE X m a ta da) (hb : DPE X m b tb db) (hs : PlainIx b) : DPE X m (.Subscript a b pos) (tOp r ta tb) (dOp dr da db) := ⟨pe_ix ho ha.pe hb.pe hs, re_op hr ha.re hb.re⟩

def dI2 (C : Int → Int → Prop) (g : Int → Int → PyData) : D2
  | .d (.int i), .d (.int j), Q => C i j ∧ Q (.d (g i j))
  | _, _, _ => False
theorem r2_I {K : PySem.W.Frag} {C : Int → Int → Prop} {g : Int → Int → Int} : R2D K m (rI C fun i j => .int (g i j)) (dI2 C fun i j => .int (g i j)) := ⟨fun {σ H ρ F T v u x y Q dQ} er vx vy h k => by
  unfold dI2 at h
  split at h
  · exact ⟨_, _, vx.int, vy.int, h.1, k H _ _ (Ext.refl _ _) er (.ofInt _) h.2⟩
  · exact h.elim⟩
def dI0 (g : Int → Int → PyData) : D2
  | .d (.int i), .d (.int j), Q => Q (.d (g i j))
  | _, _, _ => False
theorem r2_I0 {K : PySem.W.Frag} {g : Int → Int → Int} : R2D K m (rI0 fun i j => .int (g i j)) (dI0 fun i j => .int (g i j)) := ⟨fun {σ H ρ F T v u x y Q dQ} er vx vy h k => by
  unfold dI0 at h
  split at h
  · exact ⟨_, _, vx.int, vy.int, k H _ _ (Ext.refl _ _) er (.ofInt _) h⟩
  · exact h.elim⟩
theorem r2_B0 {K : PySem.W.Frag} {g : Int → Int → Bool} : R2D K m (rI0 fun i j => .bl (g i j)) (dI0 fun i j => .bool (g i j)) := ⟨fun {σ H ρ F T v u x y Q dQ} er vx vy h k => by
  unfold dI0 at h
  split at h
  · exact ⟨_, _, vx.int, vy.int, k H _ _ (Ext.refl _ _) er (.ofBool _) h⟩
  · exact h.elim⟩
theorem R2D.or {K : PySem.W.Frag} {r r' : R2} {dr dr' : D2} (h : R2D K m r dr) (h' : R2D K m r' dr') : R2D K m (fun x y H Q => r x y H Q ∨ r' x y H Q) (fun x y Q => dr x y Q ∨ dr' x y Q) := ⟨fun {σ H ρ F T v u x y Q dQ} er vx vy hq k => by
  rcases hq with hq | hq
  · exact .inl (h.run er vx vy hq k)
  · exact .inr (h'.run er vx vy hq k)⟩
theorem R2D.imp {K : PySem.W.Frag} {r : R2} {dr dr' : D2} (h : R2D K m r dr) (hi : ∀ x y Q, dr' x y Q → dr x y Q) : R2D K m r dr' := ⟨fun {σ H ρ F T v u x y Q dQ} er vx vy hq k => h.run er vx vy (hi _ _ _ hq) k⟩

/-- a + b -/
def dAdd : D2 := fun x y Q => match x, y with
  | .d (.int i), .d (.int j) => Q (.d (.int (i + j)))
  | .d (.str i), .d (.str j) => i.length + j.length ≤ sizeLine ∧ Q (.d (.str (i ++ j)))
  | .d (.tuple xs), .d (.tuple ys) => xs.length + ys.length ≤ sizeLine ∧ Q (.d (.tuple (xs ++ ys)))
  | x, y => ∃ xs ys, asList x = some xs ∧ asList y = some ys ∧ xs.length + ys.length ≤ sizeLine ∧ Q (.d (.list (xs ++ ys)))
def rAddA (K : PySem.W.Frag) : R2 := fun x y H Q => ((∃ i j, x = .int i ∧ y = .int j ∧ Q (.int (i + j)) H) ∨ ∃ i j, x = .str i ∧ y = .str j ∧ i.length + j.length ≤ sizeLine ∧ Q (.str (i ++ j)) H) ∨ (rCat x y H Q ∨ rCatA K x y H Q)
theorem op_addA : OpR X (binaryOp .Add) (rAddA X.K) := (op_add.or op_add_str).or (op_cat.or op_catA)
theorem r2_add {K : PySem.W.Frag} : R2D K m (rAddA K) dAdd := ⟨fun {σ H ρ F T v u x y Q dQ} er vx vy h k => by
  unfold dAdd at h
  split at h
  · exact .inl (.inl ⟨_, _, vx.int, vy.int, k H _ _ (Ext.refl _ _) er (.ofInt _) h⟩)
  · exact .inl (.inr ⟨_, _, vx.str, vy.str, h.1, k H _ _ (Ext.refl _ _) er (.ofStr _) h.2⟩)
  · obtain ⟨a, vs, rfl, ha, ra⟩ := vx.tuple
    obtain ⟨b, us, rfl, hb, rb⟩ := vy.tuple
    refine .inr (.inr ⟨a, b, vs, us, rfl, rfl, ha, hb, ?_, fun e => ?_, fun e1 e2 => ?_, fun _ _ p hp => ?_⟩)
    · rw [ra.length, rb.length]
      exact h.1
    · subst e
      cases ra
      exact k H _ _ (Ext.refl _ _) er vy h.2
    · subst e2
      cases rb
      rw [List.append_nil] at h
      exact k H _ _ (Ext.refl _ _) er vx h.2
    · exact k _ _ _ (Ext.new hp) (er.new hp) (.newT er hp (ra.append rb)) h.2
  · obtain ⟨xs, ys, e1, e2, hl, h⟩ := h
    obtain ⟨a, vs, rfl, ha, ra⟩ := vx.list e1
    obtain ⟨b, us, rfl, hb, rb⟩ := vy.list e2
    refine .inr (.inl ⟨a, b, vs, us, rfl, rfl, ha, hb, by rw [ra.length, rb.length]; exact hl, fun p hp => ?_⟩)
    exact k _ _ _ (Ext.new hp) (er.new hp) (.newL er hp (ra.append rb)) h⟩
theorem d_add (ha : DPE X m a ta da) (hb : DPE X m b tb db) : DPE X m (.BinOp a .Add b pos) (tOp (rAddA X.K) ta tb) (dOp dAdd da db) := d_op op_addA r2_add ha hb
theorem d_sub (ha : DPE X m a ta da) (hb : DPE X m b tb db) : DPE X m (.BinOp a .Sub b pos) (tOp (rI0 fun i j => .int (i - j)) ta tb) (dOp (dI0 fun i j => .int (i - j)) da db) := d_op op_sub r2_I0 ha hb
theorem d_mod (ha : DPE X m a ta da) (hb : DPE X m b tb db) : DPE X m (.BinOp a .Mod b pos) (tOp (rI (fun _ j => j ≠ 0) fun i j => .int (i.fmod j)) ta tb) (dOp (dI2 (fun _ j => j ≠ 0) fun i j => .int (i.fmod j)) da db) := d_op op_modN r2_I ha hb
theorem d_fdiv (ha : DPE X m a ta da) (hb : DPE X m b tb db) : DPE X m (.BinOp a .FloorDiv b pos) (tOp (rI CDivN fun i j => .int (i.fdiv j)) ta tb) (dOp (dI2 CDivN fun i j => .int (i.fdiv j)) da db) := d_op op_fdivN r2_I ha hb
theorem d_pow (ha : DPE X m a ta da) (hb : DPE X m b tb db) : DPE X m (.BinOp a .Pow b pos) (tOp (rI CPow fun i j => .int (i ^ j.toNat)) ta tb) (dOp (dI2 CPow fun i j => .int (i ^ j.toNat)) da db) := d_op op_pow r2_I ha hb

/-! ### comparisons -/
abbrev dLt : D2 := dI0 fun i j => .bool (decide (i < j))
abbrev dLe : D2 := dI0 fun i j => .bool (decide (i ≤ j))
abbrev dGt : D2 := dI0 fun i j => .bool (decide (j < i))
abbrev dGe : D2 := dI0 fun i j => .bool (decide (j ≤ i))
theorem d_lt (ha : DPE X m a ta da) (hb : DPE X m b tb db) : DPE X m (.Compare a [.Lt] [b] pos) (tOp (rI0 fun i j => .bl (decide (i < j))) ta tb) (dOp dLt da db) := d_cmp op_lt r2_B0 ha hb (nomark _)
theorem d_le (ha : DPE X m a ta da) (hb : DPE X m b tb db) : DPE X m (.Compare a [.LtE] [b] pos) (tOp (rI0 fun i j => .bl (decide (i ≤ j))) ta tb) (dOp dLe da db) := d_cmp op_le r2_B0 ha hb (nomark _)
theorem d_gt (ha : DPE X m a ta da) (hb : DPE X m b tb db) : DPE X m (.Compare a [.Gt] [b] pos) (tOp (rI0 fun i j => .bl (decide (j < i))) ta tb) (dOp dGt da db) := d_cmp op_gt r2_B0 ha hb (nomark _)
theorem d_ge (ha : DPE X m a ta da) (hb : DPE X m b tb db) : DPE X m (.Compare a [.GtE] [b] pos) (tOp (rI0 fun i j => .bl (decide (j ≤ i))) ta tb) (dOp dGe da db) := d_cmp op_ge r2_B0 ha hb (nomark _)
end
end DL

/-! ==== DL4 ==== -/
set_option Elab.async false
set_option linter.all false
set_option maxRecDepth 100000
set_option maxHeartbeats 4000000
namespace DL
open PySem PySem.Spec PyProof.Rows L2

/-! ### == -/
mutual
theorem Rep.dp {K : PySem.W.Frag} {H : Hp} : ∀ (d : PyData) (v : V), d.hasDict = false → Rep K H v d → Dp K H v d
  | .none, _, _, h => by cases h; exact .non
  | .bool b, _, _, h => by cases h; exact .bl b
  | .int i, _, _, h => by cases h; exact .int i
  | .str x, _, _, h => by cases h; exact .str x
  | .list ds, _, hd, h => by
    have hd' : PyData.hasDictAll ds = false := by simpa only [PyData.hasDict] using hd
    cases h with
    | lst hs ha => exact .lst (SqL.of hs) (RepAll.dp ds _ hd' ha)
  | .tuple ds, _, hd, h => by
    have hd' : PyData.hasDictAll ds = false := by simpa only [PyData.hasDict] using hd
    cases h with
    | tup hs ha => exact .tup hs (RepAll.dp ds _ hd' ha)
  | .dict ds, _, hd, h => by simp only [PyData.hasDict] at hd; exact Bool.noConfusion hd
theorem RepAll.dp {K : PySem.W.Frag} {H : Hp} : ∀ (ds : List PyData) (vs : List V), PyData.hasDictAll ds = false → RepAll K H vs ds → DpAll K H vs ds
  | [], _, _, h => by cases h; exact .nil
  | d :: ds, _, hd, h => by
    have hd' : (d.hasDict || PyData.hasDictAll ds) = false := by simpa only [PyData.hasDictAll] using hd
    rw [Bool.or_eq_false_iff] at hd'
    cases h with
    | cons h1 h2 => exact .cons (Rep.dp d _ hd'.1 h1) (RepAll.dp ds _ hd'.2 h2)
end
theorem noDict_of_shaped {d : PyData} (h : SeqAt.shaped d = true) : d.hasDict = false := PyData.hasDict_of_canLay d (SeqAt.canLay_of_shaped h)

/-- sc: what is given for == of two texts, ints, bools; else deep -/
def dEqG (g : Bool → Bool) : D2 := fun x y Q => match x, y with
  | .d (.int i), .d (.int j) => Q (.d (.bool (g (decide (i = j)))))
  | .d (.str i), .d (.str j) => Q (.d (.bool (g (decide (i = j)))))
  | .d (.bool i), .d (.bool j) => Q (.d (.bool (g (decide (i = j)))))
  | x, y => okv x = true ∧ okv y = true ∧ SeqAt.shaped (vw x) = true ∧ SeqAt.shaped (vw y) = true ∧ Q (.d (.bool (g (PyData.eqv (vw x) (vw y)))))
abbrev dEq : D2 := dEqG id
abbrev dNe : D2 := dEqG not
section
variable {X : Cx} {m : Am} {a b c e : Expr} {es : List Expr} {pos : Pos} {t ta tb tc te : TE} {da db dc de : DE} {tt tu : TT} {dt du : DT}
def rEqA (K : PySem.W.Frag) : R2 := fun x y H Q => rEq x y H Q ∨ rEqD K x y H Q
def rNeA (K : PySem.W.Frag) : R2 := fun x y H Q => rNe x y H Q ∨ rNeD K x y H Q
theorem op_eqA {k : Nat} (hr : Rm k X.A) : OpR X (compareOp .Eq) (rEqA X.K) := op_eq.or (op_eqD hr.room.units)
theorem op_neA {k : Nat} (hr : Rm k X.A) : OpR X (compareOp .NotEq) (rNeA X.K) := op_ne.or (op_neD hr.room.units)
theorem dec_intV (i j : Int) : decide (V.int i = V.int j) = decide (i = j) := by
  by_cases e : i = j
  · subst e
    rw [decide_eq_true rfl, decide_eq_true rfl]
  · rw [decide_eq_false e, decide_eq_false (fun z => e (V.int.inj z))]
theorem dec_strV (i j : Str) : decide (V.str i = V.str j) = decide (i = j) := by
  by_cases e : i = j
  · subst e
    rw [decide_eq_true rfl, decide_eq_true rfl]
  · rw [decide_eq_false e, decide_eq_false (fun z => e (V.str.inj z))]
theorem dec_blV (i j : Bool) : decide (V.bl i = V.bl j) = decide (i = j) := by
  by_cases e : i = j
  · subst e
    rw [decide_eq_true rfl, decide_eq_true rfl]
  · rw [decide_eq_false e, decide_eq_false (fun z => e (V.bl.inj z))]
theorem r2_eq {K : PySem.W.Frag} : R2D K m (rEqA K) dEq := ⟨fun {σ H ρ F T v u x y Q dQ} er vx vy h k => by
  unfold dEq dEqG at h
  split at h
  · refine .inl ⟨by rw [vx.int, vy.int]; rfl, ?_⟩
    rw [vx.int, vy.int, dec_intV]
    exact k H _ _ (Ext.refl _ _) er (.ofBool _) h
  · refine .inl ⟨by rw [vx.str, vy.str]; rfl, ?_⟩
    rw [vx.str, vy.str, dec_strV]
    exact k H _ _ (Ext.refl _ _) er (.ofBool _) h
  · refine .inl ⟨by rw [vx.bool, vy.bool]; rfl, ?_⟩
    rw [vx.bool, vy.bool, dec_blV]
    exact k H _ _ (Ext.refl _ _) er (.ofBool _) h
  · obtain ⟨o1, o2, s1, s2, h⟩ := h
    exact .inr ⟨_, _, Rep.dp _ _ (noDict_of_shaped s1) (vx.read o1), Rep.dp _ _ (noDict_of_shaped s2) (vy.read o2), s1, s2, k H _ _ (Ext.refl _ _) er (.ofBool _) h⟩⟩
theorem r2_ne {K : PySem.W.Frag} : R2D K m (rNeA K) dNe := ⟨fun {σ H ρ F T v u x y Q dQ} er vx vy h k => by
  unfold dNe dEqG at h
  split at h
  · refine .inl ⟨by rw [vx.int, vy.int]; rfl, ?_⟩
    rw [vx.int, vy.int, dec_intV]
    exact k H _ _ (Ext.refl _ _) er (.ofBool _) h
  · refine .inl ⟨by rw [vx.str, vy.str]; rfl, ?_⟩
    rw [vx.str, vy.str, dec_strV]
    exact k H _ _ (Ext.refl _ _) er (.ofBool _) h
  · refine .inl ⟨by rw [vx.bool, vy.bool]; rfl, ?_⟩
    rw [vx.bool, vy.bool, dec_blV]
    exact k H _ _ (Ext.refl _ _) er (.ofBool _) h
  · obtain ⟨o1, o2, s1, s2, h⟩ := h
    exact .inr ⟨_, _, Rep.dp _ _ (noDict_of_shaped s1) (vx.read o1), Rep.dp _ _ (noDict_of_shaped s2) (vy.read o2), s1, s2, k H _ _ (Ext.refl _ _) er (.ofBool _) h⟩⟩
theorem d_eq {k : Nat} (hr : Rm k X.A) (ha : DPE X m a ta da) (hb : DPE X m b tb db) : DPE X m (.Compare a [.Eq] [b] pos) (tOp (rEqA X.K) ta tb) (dOp dEq da db) := d_cmp (op_eqA hr) r2_eq ha hb (nomark _)
theorem d_ne {k : Nat} (hr : Rm k X.A) (ha : DPE X m a ta da) (hb : DPE X m b tb db) : DPE X m (.Compare a [.NotEq] [b] pos) (tOp (rNeA X.K) ta tb) (dOp dNe da db) := d_cmp (op_neA hr) r2_ne ha hb (nomark _)

/-! ### in -/
def flatD : PyData → Bool
  | .none => true
  | .bool _ => true
  | .int _ => true
  | .str _ => true
  | _ => false
def vD : PyData → V
  | .none => .non
  | .bool b => .bl b
  | .int i => .int i
  | .str x => .str x
  | _ => .non
theorem flat_rep {K : PySem.W.Frag} {H : Hp} {d : PyData} {v : V} (f : flatD d = true) (h : Rep K H v d) : v = vD d ∧ flatV v = true := by
  cases h <;> first | exact ⟨rfl, rfl⟩ | exact nomatch (show false = true from f)
theorem flat_all {K : PySem.W.Frag} {H : Hp} : ∀ {ds : List PyData} {vs : List V}, ds.all flatD = true → RepAll K H vs ds → vs = ds.map vD ∧ vs.all flatV = true
  | [], _, _, h => by
    cases h
    exact ⟨rfl, rfl⟩
  | d :: ds, _, f, h => by
    rw [List.all_cons, Bool.and_eq_true] at f
    cases h with
    | cons h1 h2 =>
      obtain ⟨e1, f1⟩ := flat_rep f.1 h1
      obtain ⟨e2, f2⟩ := flat_all f.2 h2
      exact ⟨by rw [List.map_cons, e1, e2], by rw [List.all_cons, f1, f2]; rfl⟩
/-- x stands among ys (flat things) -/
def inD (x : PyData) (ys : List PyData) : Bool := inV (vD x) (ys.map vD)
def dInG (g : Bool → Bool) : D2 := fun x y Q => match x, y with
  | .d (.str s), .d (.str z) => ∃ c, s = ⟨#[c]⟩ ∧ Q (.d (.bool (g (decide (c ∈ z.cps.toList)))))
  | .d x, .d (.tuple ys) => flatD x = true ∧ ys.all flatD = true ∧ Q (.d (.bool (g (inD x ys))))
  | .d x, y => ∃ ys, asList y = some ys ∧ flatD x = true ∧ ys.all flatD = true ∧ Q (.d (.bool (g (inD x ys))))
  | _, _ => False
abbrev dIn : D2 := dInG id
abbrev dNotIn : D2 := dInG not
def rInA (K : PySem.W.Frag) (neg : Bool) : R2 := fun x y H Q => (∃ (c : Nat) (z : Str), x = .str ⟨#[c]⟩ ∧ y = .str z ∧ Q (.bl (if neg then !decide (c ∈ z.cps.toList) else decide (c ∈ z.cps.toList))) H) ∨ rIn K neg x y H Q
theorem op_inA : OpR X (compareOp .In) (rInA X.K false) := op_in_sign.or op_in_seq
theorem op_niA : OpR X (compareOp .NotIn) (rInA X.K true) := op_notIn_sign.or op_notIn_seq
theorem r2_inG {K : PySem.W.Frag} {neg : Bool} {g : Bool → Bool} (hg : ∀ b, g b = if neg = true then !b else b) : R2D K m (rInA K neg) (dInG g) := ⟨fun {σ H ρ F T v u x y Q dQ} er vx vy h k => by
  unfold dInG at h
  split at h
  · obtain ⟨c, rfl, h⟩ := h
    rw [vx.str, vy.str]
    rw [hg] at h
    exact .inl ⟨c, _, rfl, rfl, k H _ _ (Ext.refl _ _) er (.ofBool _) h⟩
  · obtain ⟨f1, f2, h⟩ := h
    obtain ⟨p, vs, rfl, hp, ra⟩ := vy.tuple
    obtain ⟨e1, g1⟩ := flat_rep f1 vx.rep
    obtain ⟨e2, g2⟩ := flat_all f2 ra
    rw [hg] at h
    refine .inr ⟨p, vs, rfl, .inr hp, g1, g2, ?_⟩
    rw [e1, e2]
    exact k H _ _ (Ext.refl _ _) er (.ofBool _) h
  · obtain ⟨ys, ea, f1, f2, h⟩ := h
    obtain ⟨p, vs, rfl, hp, ra⟩ := vy.list ea
    obtain ⟨e1, g1⟩ := flat_rep f1 vx.rep
    obtain ⟨e2, g2⟩ := flat_all f2 ra
    rw [hg] at h
    refine .inr ⟨p, vs, rfl, .inl (SqL.of hp), g1, g2, ?_⟩
    rw [e1, e2]
    exact k H _ _ (Ext.refl _ _) er (.ofBool _) h
  · exact h.elim⟩
theorem d_in (ha : DPE X m a ta da) (hb : DPE X m b tb db) (hm : behindInMarks .In b = false) : DPE X m (.Compare a [.In] [b] pos) (tOp (rInA X.K false) ta tb) (dOp dIn da db) := d_cmp op_inA (r2_inG fun b => rfl) ha hb hm
theorem d_ni (ha : DPE X m a ta da) (hb : DPE X m b tb db) (hm : behindInMarks .NotIn b = false) : DPE X m (.Compare a [.NotIn] [b] pos) (tOp (rInA X.K true) ta tb) (dOp dNotIn da db) := d_cmp op_niA (r2_inG fun b => rfl) ha hb hm

/-! ### a[i] -/
theorem RepAll.atI {K : PySem.W.Frag} {H : Hp} {vs : List V} {ds : List PyData} {i : Int} {d : PyData} (h : RepAll K H vs ds) (e : atI ds i = some d) : ∃ v, L2.atI vs i = some v ∧ Rep K H v d := by
  unfold L2.atI at e ⊢
  rw [h.length]
  cases q : ixN ds.length i with
  | none =>
    rw [q] at e
    cases e
  | some j =>
    rw [q] at e
    exact h.get e
theorem OwnAll.get {K : PySem.W.Frag} {B H : Hp} : ∀ {vs : List V} {xs : List OV} {fp : List Addr} {i : Nat} {x : OV}, OwnAll K m B H vs xs fp → xs[i]? = some x → ∃ v fq, vs[i]? = some v ∧ Own K m B H v x fq ∧ ∀ a ∈ fq, a ∈ fp
  | _, _, _, _, _, .nil, h => by simp at h
  | _, _, _, 0, _, .cons r _, h => by
    simp at h
    subst h
    exact ⟨_, _, rfl, r, fun a ha => List.mem_append_left _ ha⟩
  | _, _, _, i + 1, _, .cons _ r, h => by
    obtain ⟨v, fq, h1, h2, h3⟩ := OwnAll.get (i := i) r (by simpa using h)
    exact ⟨v, fq, by simpa using h1, h2, fun a ha => List.mem_append_right _ (h3 a ha)⟩
theorem OwnAll.len {K : PySem.W.Frag} {B H : Hp} : ∀ {vs : List V} {xs : List OV} {fp : List Addr}, OwnAll K m B H vs xs fp → vs.length = xs.length
  | _, _, _, .nil => rfl
  | _, _, _, .cons _ h => by rw [List.length_cons, List.length_cons, OwnAll.len h]
theorem OwnAll.atI {K : PySem.W.Frag} {B H : Hp} {vs : List V} {xs : List OV} {fp : List Addr} {i : Int} {x : OV} (h : OwnAll K m B H vs xs fp) (e : atI xs i = some x) : ∃ v fq, L2.atI vs i = some v ∧ Own K m B H v x fq ∧ ∀ a ∈ fq, a ∈ fp := by
  unfold L2.atI at e ⊢
  rw [h.len]
  cases q : ixN xs.length i with
  | none =>
    rw [q] at e
    cases e
  | some j =>
    rw [q] at e
    exact h.get e
def dIx : D2 := fun x y Q => match x, y with
  | .d (.list xs), .d (.int i) => ∃ z, atI xs i = some z ∧ Q (.d z)
  | .d (.tuple xs), .d (.int i) => ∃ z, atI xs i = some z ∧ Q (.d z)
  | .d (.str s), .d (.int i) => s.length ≤ sizeLine ∧ ∃ c, atI s.cps.toList i = some c ∧ Q (.d (.str ⟨#[c]⟩))
  | .lst xs, .d (.int i) => ∃ z, atI xs i = some z ∧ Q z
  | _, _ => False
theorem r2_ix {K : PySem.W.Frag} : R2D K m (rIx K) dIx := ⟨fun {σ H ρ F T v u x y Q dQ} er vx vy h k => by
  unfold dIx at h
  split at h
  · obtain ⟨z, e, h⟩ := h
    rw [vy.int]
    obtain ⟨p, vs, rfl, hp, ra⟩ := vx.list rfl
    obtain ⟨w, e1, r1⟩ := ra.atI e
    exact .inl ⟨p, vs, _, w, rfl, rfl, SqL.of hp, e1, k H _ _ (Ext.refl _ _) er (.d r1) h⟩
  · obtain ⟨z, e, h⟩ := h
    rw [vy.int]
    obtain ⟨p, vs, rfl, hp, ra⟩ := vx.tuple
    obtain ⟨w, e1, r1⟩ := ra.atI e
    exact .inr (.inl ⟨p, vs, _, w, rfl, rfl, hp, e1, k H _ _ (Ext.refl _ _) er (.d r1) h⟩)
  · obtain ⟨hl, c, e, h⟩ := h
    rw [vx.str, vy.int]
    exact .inr (.inr ⟨_, _, c, rfl, rfl, hl, e, k H _ _ (Ext.refl _ _) er (.ofStr _) h⟩)
  · obtain ⟨z, e, h⟩ := h
    rw [vy.int]
    obtain ⟨fp, h1, h2⟩ := vx
    cases h1 with
    | lst hp ha =>
      obtain ⟨w, fq, e1, r1, h3⟩ := ha.atI e
      exact .inl ⟨_, _, _, w, rfl, rfl, SqL.of hp, e1, k H _ _ (Ext.refl _ _) er ⟨fq, r1, fun a ha => h2 a (List.mem_cons_of_mem _ (h3 a ha))⟩ h⟩
  · exact h.elim⟩
theorem d_at (ha : DPE X m a ta da) (hb : DPE X m b tb db) (hs : PlainIx b := by exact fun _ _ => rfl) : DPE X m (.Subscript a b pos) (tOp (rIx X.K) ta tb) (dOp dIx da db) := d_ix ix_seq r2_ix ha hb hs

/-! ### tests -/
def dTest (de : DE) : DT := fun ρ Q => de ρ fun x => match x with
  | .d (.bool b) => Q b
  | _ => False
theorem rt_test {K : PySem.W.Frag} (h : RE K m te de) : RT K m (tTest te) (dTest de) := ⟨fun {σ H ρ F T Q dQ} er hq k => h.run er hq fun H' v x e1 er1 vx hx => by
  split at hx
  · exact ⟨_, vx.bool, k H' _ e1 er1 hx⟩
  · exact hx.elim⟩
theorem t_cmp {op : CmpOp} {r : R2} {dr : D2} (ho : OpR X (compareOp op) r) (hr : R2D X.K m r dr) (ha : DPE X m a ta da) (hb : DPE X m b tb db) (hm : behindInMarks op b = false) : DPT X m (.Compare a [op] [b] pos) (tTest (tOp r ta tb)) (dTest (dOp dr da db)) :=
  ⟨pt_cmpR ho ha.pe hb.pe hm, rt_test (re_op hr ha.re hb.re)⟩
theorem t_lt (ha : DPE X m a ta da) (hb : DPE X m b tb db) : DPT X m (.Compare a [.Lt] [b] pos) (tTest (tOp (rI0 fun i j => .bl (decide (i < j))) ta tb)) (dTest (dOp dLt da db)) := t_cmp op_lt r2_B0 ha hb (nomark _)
theorem t_le (ha : DPE X m a ta da) (hb : DPE X m b tb db) : DPT X m (.Compare a [.LtE] [b] pos) (tTest (tOp (rI0 fun i j => .bl (decide (i ≤ j))) ta tb)) (dTest (dOp dLe da db)) := t_cmp op_le r2_B0 ha hb (nomark _)
theorem t_gt (ha : DPE X m a ta da) (hb : DPE X m b tb db) : DPT X m (.Compare a [.Gt] [b] pos) (tTest (tOp (rI0 fun i j => .bl (decide (j < i))) ta tb)) (dTest (dOp dGt da db)) := t_cmp op_gt r2_B0 ha hb (nomark _)
theorem t_ge (ha : DPE X m a ta da) (hb : DPE X m b tb db) : DPT X m (.Compare a [.GtE] [b] pos) (tTest (tOp (rI0 fun i j => .bl (decide (j ≤ i))) ta tb)) (dTest (dOp dGe da db)) := t_cmp op_ge r2_B0 ha hb (nomark _)
theorem t_eq {k : Nat} (hr : Rm k X.A) (ha : DPE X m a ta da) (hb : DPE X m b tb db) : DPT X m (.Compare a [.Eq] [b] pos) (tTest (tOp (rEqA X.K) ta tb)) (dTest (dOp dEq da db)) := t_cmp (op_eqA hr) r2_eq ha hb (nomark _)
theorem t_ne {k : Nat} (hr : Rm k X.A) (ha : DPE X m a ta da) (hb : DPE X m b tb db) : DPT X m (.Compare a [.NotEq] [b] pos) (tTest (tOp (rNeA X.K) ta tb)) (dTest (dOp dNe da db)) := t_cmp (op_neA hr) r2_ne ha hb (nomark _)
theorem t_in (ha : DPE X m a ta da) (hb : DPE X m b tb db) (hm : behindInMarks .In b = false) : DPT X m (.Compare a [.In] [b] pos) (tTest (tOp (rInA X.K false) ta tb)) (dTest (dOp dIn da db)) := t_cmp op_inA (r2_inG fun b => rfl) ha hb hm
theorem t_ni (ha : DPE X m a ta da) (hb : DPE X m b tb db) (hm : behindInMarks .NotIn b = false) : DPT X m (.Compare a [.NotIn] [b] pos) (tTest (tOp (rInA X.K true) ta tb)) (dTest (dOp dNotIn da db)) := t_cmp op_niA (r2_inG fun b => rfl) ha hb hm
theorem t_val (h : DPE X m e te de) (he : ∀ whole, isTrue e X.env whole = (do let v ← whole; standAt e.pos; holding [v] (truthy v)) := by intro _; rfl) : DPT X m e (tB te) (dTest de) := ⟨pt_val h.pe he, ⟨(rt_test h.re).run⟩⟩
def dAndT (dt du : DT) : DT := fun ρ Q => dt ρ fun c => if c = true then du ρ Q else Q false
def dOrT (dt du : DT) : DT := fun ρ Q => dt ρ fun c => if c = true then Q true else du ρ Q
def dNotT (dt : DT) : DT := fun ρ Q => dt ρ fun c => Q (!c)
theorem rt_and {K : PySem.W.Frag} (h : RT K m tt dt) (h' : RT K m tu du) : RT K m (tAnd tt tu) (dAndT dt du) := ⟨fun {σ H ρ F T Q dQ} er hq k => h.run er hq fun H' c e1 er1 hc => by
  cases c with
  | true => exact h'.run er1 hc fun H2 b e2 er2 hb => k H2 b (e1.trans e2) er2 hb
  | false => exact k H' false e1 er1 hc⟩
theorem rt_or {K : PySem.W.Frag} (h : RT K m tt dt) (h' : RT K m tu du) : RT K m (tOr tt tu) (dOrT dt du) := ⟨fun {σ H ρ F T Q dQ} er hq k => h.run er hq fun H' c e1 er1 hc => by
  cases c with
  | true => exact k H' true e1 er1 hc
  | false => exact h'.run er1 hc fun H2 b e2 er2 hb => k H2 b (e1.trans e2) er2 hb⟩
theorem rt_not {K : PySem.W.Frag} (h : RT K m tt dt) : RT K m (tNot tt) (dNotT dt) := ⟨fun {σ H ρ F T Q dQ} er hq k => h.run er hq fun H' c e1 er1 hc => k H' _ e1 er1 hc⟩
variable {rest : List Expr}
theorem w_and1 (h : DPT X m a tt dt) : DPW X m (.BoolOp .And [a] pos) tt dt := ⟨pw_and1 h.pt, h.rt⟩
theorem w_or1 (h : DPT X m a tt dt) : DPW X m (.BoolOp .Or [a] pos) tt dt := ⟨pw_or1 h.pt, h.rt⟩
theorem w_and (h : DPT X m a tt dt) (h' : DPW X m (.BoolOp .And (b :: rest) pos) tu du) : DPW X m (.BoolOp .And (a :: b :: rest) pos) (tAnd tt tu) (dAndT dt du) := ⟨pw_and h.pt h'.pw, rt_and h.rt h'.rt⟩
theorem w_or (h : DPT X m a tt dt) (h' : DPW X m (.BoolOp .Or (b :: rest) pos) tu du) : DPW X m (.BoolOp .Or (a :: b :: rest) pos) (tOr tt tu) (dOrT dt du) := ⟨pw_or h.pt h'.pw, rt_or h.rt h'.rt⟩
theorem t_pw (h : DPW X m e tt dt) : DPT X m e tt dt := ⟨h.pw.pt, h.rt⟩
theorem t_not (h : DPT X m a tt dt) : DPT X m (.UnaryOp .Not a pos) (tNot tt) (dNotT dt) := ⟨pt_not h.pt, rt_not h.rt⟩
/-! ### .. as values -/
def dAnd (da db : DE) : DE := fun ρ Q => da ρ fun x => match x with
  | .d (.bool c) => if c = true then db ρ Q else Q (.d (.bool false))
  | _ => False
def dOr (da db : DE) : DE := fun ρ Q => da ρ fun x => match x with
  | .d (.bool c) => if c = true then Q (.d (.bool true)) else db ρ Q
  | _ => False
def dNot (da : DE) : DE := fun ρ Q => da ρ fun x => match x with
  | .d (.bool c) => Q (.d (.bool (!c)))
  | _ => False
def dIf (dt : DT) (da db : DE) : DE := fun ρ Q => dt ρ fun c => if c = true then da ρ Q else db ρ Q
theorem re_and {K : PySem.W.Frag} (h : RE K m ta da) (h' : RE K m tb db) : RE K m (tAndV ta tb) (dAnd da db) := ⟨fun {σ H ρ F T Q dQ} er hq k => h.run er hq fun H' v x e1 er1 vx hx => by
  split at hx
  · rename_i c
    refine ⟨c, vx.bool, ?_⟩
    cases c with
    | true => exact h'.run er1 hx fun H2 w z e2 er2 vz hz => k H2 w z (e1.trans e2) er2 vz hz
    | false => exact k H' _ _ e1 er1 (.ofBool _) hx
  · exact hx.elim⟩
theorem re_or {K : PySem.W.Frag} (h : RE K m ta da) (h' : RE K m tb db) : RE K m (tOrV ta tb) (dOr da db) := ⟨fun {σ H ρ F T Q dQ} er hq k => h.run er hq fun H' v x e1 er1 vx hx => by
  split at hx
  · rename_i c
    refine ⟨c, vx.bool, ?_⟩
    cases c with
    | true => exact k H' _ _ e1 er1 (.ofBool _) hx
    | false => exact h'.run er1 hx fun H2 w z e2 er2 vz hz => k H2 w z (e1.trans e2) er2 vz hz
  · exact hx.elim⟩
theorem re_not {K : PySem.W.Frag} (h : RE K m ta da) : RE K m (tNotV ta) (dNot da) := ⟨fun {σ H ρ F T Q dQ} er hq k => h.run er hq fun H' v x e1 er1 vx hx => by
  split at hx
  · exact ⟨_, vx.bool, k H' _ _ e1 er1 (.ofBool _) hx⟩
  · exact hx.elim⟩
theorem re_if {K : PySem.W.Frag} (h : RT K m tt dt) (ha : RE K m ta da) (hb : RE K m tb db) : RE K m (tIf tt ta tb) (dIf dt da db) := ⟨fun {σ H ρ F T Q dQ} er hq k => h.run er hq fun H' c e1 er1 hc => by
  cases c with
  | true => exact ha.run er1 hc fun H2 w z e2 er2 vz hz => k H2 w z (e1.trans e2) er2 vz hz
  | false => exact hb.run er1 hc fun H2 w z e2 er2 vz hz => k H2 w z (e1.trans e2) er2 vz hz⟩
theorem d_one {op} (h : DPE X m a ta da) : DPE X m (.BoolOp op [a] pos) ta da := ⟨pe_one h.pe, h.re⟩
theorem d_and (h : DPE X m a ta da) (h' : DPE X m (.BoolOp .And (b :: rest) pos) tb db) : DPE X m (.BoolOp .And (a :: b :: rest) pos) (tAndV ta tb) (dAnd da db) := ⟨pe_and h.pe h'.pe, re_and h.re h'.re⟩
theorem d_or (h : DPE X m a ta da) (h' : DPE X m (.BoolOp .Or (b :: rest) pos) tb db) : DPE X m (.BoolOp .Or (a :: b :: rest) pos) (tOrV ta tb) (dOr da db) := ⟨pe_or h.pe h'.pe, re_or h.re h'.re⟩
theorem d_not (h : DPE X m a ta da) : DPE X m (.UnaryOp .Not a pos) (tNotV ta) (dNot da) := ⟨pe_not h.pe, re_not h.re⟩
theorem d_if (h : DPT X m c tt dt) (ha : DPE X m a ta da) (hb : DPE X m b tb db) : DPE X m (.IfExp c a b pos) (tIf tt ta tb) (dIf dt da db) := ⟨pe_ifExp h.pt ha.pe hb.pe, re_if h.rt ha.re hb.re⟩
/-- -a -/
def dNeg (da : DE) : DE := fun ρ Q => da ρ fun x => match x with
  | .d (.int i) => Q (.d (.int (-i)))
  | _ => False
theorem d_neg (h : DPE X m a ta da) : DPE X m (.UnaryOp .USub a pos) (tUn (rU fun i => .int (-i)) ta) (dNeg da) := ⟨pe_un un_neg h.pe, ⟨fun {σ H ρ F T Q dQ} er hq k => h.re.run er hq fun H' v x e1 er1 vx hx => by
  split at hx
  · exact ⟨_, vx.int, k H' _ _ e1 er1 (.ofInt _) hx⟩
  · exact hx.elim⟩⟩
/-- a op b op' c -/
def dChain (dr dr' : D2) (da db dc : DE) : DE := fun ρ Q => da ρ fun x => db ρ fun y => dr x y fun z => match z with
  | .d (.bool k) => if k = true then dc ρ fun w => dr' y w Q else Q (.d (.bool false))
  | _ => False

/-! ### arguments, displays -/
def dNil : DA := fun _ Q => Q []
def dCons (de : DE) (dr : DA) : DA := fun ρ Q => de ρ fun x => dr ρ fun xs => Q (x :: xs)
variable {ua ub : TA} {va vb : DA}
theorem a_nil : DPA X m [] tNil dNil := ⟨pa_nil, ⟨fun {σ H ρ F T Q dQ} er hq k => k H [] [] (Ext.refl _ _) er .nil hq⟩⟩
theorem a_cons (h : DPE X m e te de) (h' : DPA X m es ua va) (hs : starEach (e :: es) X.env = (false, eval e X.env) :: starEach es X.env := by rfl) : DPA X m (e :: es) (tCons te ua) (dCons de va) := ⟨pa_cons h.pe h'.pa hs, ⟨fun {σ H ρ F T Q dQ} er hq k =>
  h.re.run er hq fun H1 v x e1 er1 vx h1 => h'.ra.run er1 h1 fun H2 vs xs e2 er2 vxs h2 => k H2 (v :: vs) (x :: xs) (e1.trans e2) er2 (.cons (vx.step er1 e2) vxs) h2⟩⟩
def dTup (da : DA) : DE := fun ρ Q => da ρ fun xs => ∃ ds, ovs xs = some ds ∧ ds.length ≤ sizeLine ∧ Q (.d (.tuple ds))
def dLst (da : DA) : DE := fun ρ Q => da ρ fun xs => ∃ ds, ovs xs = some ds ∧ ds.length ≤ sizeLine ∧ Q (.d (.list ds))
theorem d_tup {k : Nat} (h : DPA X m es ua va) : DPE X m (.Tuple es k pos) (tTup ua) (dTup va) := ⟨pe_tup h.pa, ⟨fun {σ H ρ F T Q dQ} er hq kk => h.ra.run er hq fun H1 vs xs e1 er1 vxs h1 => by
  obtain ⟨ds, e, hl, h1⟩ := h1
  have r := RepAll.ofVRs vxs e
  exact ⟨by rw [r.length]; exact hl, fun p hp => kk _ _ _ (e1.trans (Ext.new hp)) (er1.new hp) (.newT er1 hp r) h1⟩⟩⟩
theorem d_lst (h : DPA X m es ua va) : DPE X m (.List es pos) (tLst ua) (dLst va) := ⟨pe_lst h.pa, ⟨fun {σ H ρ F T Q dQ} er hq kk => h.ra.run er hq fun H1 vs xs e1 er1 vxs h1 => by
  obtain ⟨ds, e, hl, h1⟩ := h1
  have r := RepAll.ofVRs vxs e
  exact ⟨by rw [r.length]; exact hl, fun p hp => kk _ _ _ (e1.trans (Ext.new hp)) (er1.new hp) (.newL er1 hp r) h1⟩⟩⟩
/-- an own list of plain things -/
theorem OwnAll.plain {K : PySem.W.Frag} {B H : Hp} : ∀ {vs : List V} {ds : List PyData}, RepAll K B vs ds → OwnAll K m B H vs (ds.map OV.d) []
  | _, _, .nil => .nil
  | _, _, .cons h t => OwnAll.cons (fp := []) (fq := []) (.d h) (OwnAll.plain t)
theorem Bh.own {G G' : List Addr} {H : Hp} {p : Addr} {o : HO} (hn : H p = none) (hg : ∀ a ∈ G', a ∈ G ∨ a = p) : Ex (Bh m G H) (Bh m G' (upd H p o)) := Bh.chg (fun a ha => by
  rcases hg a ha with z | z
  · exact .inl z
  · exact .inr (by rw [z]; exact hn)) fun a _ h => upd_ne fun z => h (by rw [z]; exact hn)
theorem own_new {K : PySem.W.Frag} {σ : L2.St} {H : Hp} {ρ : DEnv} {F T : List Addr} (er : ER K m σ H ρ F T) {p : Addr} (hn : H p = none) {vs : List V} {ds : List PyData} (r : RepAll K (Bh m (F ++ T) H) vs ds) :
    Own K m (Bh m (F ++ (T ++ [p])) (upd H p (.lst vs))) (upd H p (.lst vs)) (.ref p) (.lst (ds.map OV.d)) [p] :=
  .lst upd_same (OwnAll.plain (RepAll.mono (Bh.own hn fun a ha => by
    rw [← List.append_assoc] at ha
    rcases List.mem_append.mp ha with z | z
    · exact .inl z
    · exact .inr (List.mem_singleton.mp z)) _ _ r))
def dLstN (da : DA) : DN := fun ρ Q => da ρ fun xs => ∃ ds, ovs xs = some ds ∧ ds.length ≤ sizeLine ∧ Q (ds.map OV.d)
theorem n_lst (h : DPA X m es ua va) : DPN X m (.List es pos) (tLst ua) (dLstN va) := ⟨pe_lst h.pa, ⟨fun {σ H ρ F T Q dQ} er hq kk => h.ra.run er hq fun H1 vs xs e1 er1 vxs h1 => by
  obtain ⟨ds, e, hl, h1⟩ := h1
  have r := RepAll.ofVRs vxs e
  exact ⟨by rw [r.length]; exact hl, fun p hp => kk _ _ _ [p] (e1.trans (Ext.new hp)) (fun a ha => by rw [List.mem_singleton.mp ha]; exact Ext.back er1.base.pot e1 hp) (er1.own hp) (own_new er1 hp r) h1⟩⟩⟩
/-- a new list, given away -/
def dNE (dn : DN) : DE := fun ρ Q => dn ρ fun xs => okvs xs = true ∧ Q (.d (.list (vws xs)))
variable {dn : DN}
theorem re_new {K : PySem.W.Frag} (h : RN K m te dn) : RE K m te (dNE dn) := ⟨fun {σ H ρ F T Q dQ} er hq k => h.run er hq fun H' v xs fp e1 _ er1 o hx =>
  k H' v _ e1 (er1.free (List.sublist_append_left _ _)) (.d (Own.rep (Bh.sub fun a ha => by
    rcases List.mem_append.mp ha with z | z
    · exact List.mem_append_left _ z
    · exact List.mem_append_right _ (List.mem_append_left _ z)) (.lst xs) v fp hx.1 (fun a ha => by
      have nd := er1.nd
      show (if hS m (F ++ T) a = true then none else H' a) = H' a
      rw [if_neg]
      intro z
      have hz : hS m (F ++ T) a = true := z
      unfold hS at hz
      rw [Bool.or_eq_true, decide_eq_true_eq] at hz
      rcases hz with z | z
      · exact er1.sF z (List.mem_append_right _ (List.mem_append_right _ ha))
      · rw [← List.append_assoc, List.nodup_append] at nd
        exact nd.2.2 a z a ha rfl) o)) hx.2⟩
theorem d_new (h : DPN X m e te dn) : DPE X m e te (dNE dn) := ⟨h.pe, re_new h.rn⟩
end
end DL

/-! ==== DL5 ==== -/
set_option Elab.async false
set_option linter.all false
set_option maxRecDepth 100000
set_option maxHeartbeats 4000000
namespace DL
open PySem PySem.Spec PyProof.Rows L2

/-! ## calls of the text's own defs -/
inductive ArgsR (K : PySem.W.Frag) (m : Am) (B : Hp) : List V → List OV → Prop
  | nil : ArgsR K m B [] []
  | d {v : V} {x : PyData} {vs : List V} {xs : List OV} : Rep K B v x → ArgsR K m B vs xs → ArgsR K m B (v :: vs) (.d x :: xs)
  | pot {p : Addr} {vs : List V} {xs : List OV} : m.P = some p → ArgsR K m B vs xs → ArgsR K m B (.ref p :: vs) (.pot :: xs)
def dsp (K : PySem.W.Frag) (R : DF) : Sp := fun vs H Q _ => ∃ (m : Am) (xs : List OV), m.H0 = H ∧ Base m H ∧ ArgsR K m (hid H m.S) vs xs ∧
  ∃ Pq : PyData → Prop, R xs Pq ∧ ∀ r, Pq r → ∀ H' v, Ext m.P H H' → PotOk m.P H' → Rep K (hid H' m.S) v r → Q v H'
theorem ArgsR.length {K : PySem.W.Frag} {m : Am} {B : Hp} : ∀ {vs : List V} {xs : List OV}, ArgsR K m B vs xs → vs.length = xs.length
  | _, _, .nil => rfl
  | _, _, .d _ h => congrArg (· + 1) h.length
  | _, _, .pot _ h => congrArg (· + 1) h.length
theorem ArgsR.ofVRs {K : PySem.W.Frag} {m : Am} {F T : List Addr} {H H0 : Hp} : ∀ {vs : List V} {xs : List OV}, VRs K m F T H vs xs → xs.all argOk = true → ArgsR K ⟨m.P, hS m (F ++ T), H0⟩ (Bh m (F ++ T) H) vs xs
  | _, _, .nil, _ => .nil
  | _, _, .cons (x := x) h t, ok => by
    rw [List.all_cons, Bool.and_eq_true] at ok
    cases x with
    | d y => exact .d h.rep (ArgsR.ofVRs t ok.2)
    | pot =>
      obtain ⟨fp, h1, _⟩ := h
      cases h1 with
      | pot hp => exact .pot hp (ArgsR.ofVRs t ok.2)
    | lst _ => exact nomatch ok.1
    | dic _ => exact nomatch ok.1
def dCall (R : DF) (da : DA) : DE := fun ρ Q => da ρ fun xs => xs.all argOk = true ∧ ∃ Pq : PyData → Prop, R xs Pq ∧ ∀ r, Pq r → Q (.d r)
section
variable {K : PySem.W.Frag} {m : Am} {σ : L2.St} {H H' : Hp} {ρ : DEnv} {F T : List Addr}
/-- what a callee sees -/
theorem ER.callee (er : ER K m σ H ρ F T) : Base ⟨m.P, hS m (F ++ T), H⟩ H := ⟨Ext.refl _ _, er.base.pot, fun p hp => by
    show (m.S p || decide (p ∈ F ++ T)) = true
    rw [er.base.potS p hp]
    rfl, fun a ha => by
    have ha' : (m.S a || decide (a ∈ F ++ T)) = true := ha
    rw [Bool.or_eq_true, decide_eq_true_eq] at ha'
    rcases ha' with z | z
    · have h1 := er.base.trk a z
      cases q : m.H0 a with
      | none => exact absurd q h1
      | some o =>
        by_cases hp : m.P = some a
        · obtain ⟨x, y, c, e, _⟩ := er.base.pot a hp
          show H a ≠ none
          rw [e]
          exact fun z => nomatch z
        · show H a ≠ none
          rw [er.base.ext a o hp q]
          exact fun z => nomatch z
    · exact (er.fresh a z).2⟩
theorem call_ok {K : PySem.W.Frag} {R : DF} {E : XK} {vs : List V} {xs : List OV} {Q : VK} {dQ : OV → Prop} {Pq : PyData → Prop} (er : ER K m σ H ρ F T) (vxs : VRs K m F T H vs xs) (ok : xs.all argOk = true) (h : R xs Pq) (hp : ∀ r, Pq r → dQ (.d r))
    (k : ∀ H' v x, Ext m.P H H' → ER K m σ H' ρ F T → VR K m F T H' v x → dQ x → Q v H') : dsp K R vs H Q E :=
  ⟨⟨m.P, hS m (F ++ T), H⟩, xs, rfl, er.callee, ArgsR.ofVRs vxs ok, Pq, h, fun r hr H2 v e2 po rp => k H2 v _ e2 (er.step e2 po) (.d rp) (hp r hr)⟩
theorem re_call {K : PySem.W.Frag} {R : DF} {ta : TA} {da : DA} {E : XK} (ha : RA K m ta da) : RE K m (tCall (dsp K R) [] E ta) (dCall R da) := ⟨fun {σ H ρ F T Q dQ} er hq k => ha.run er hq fun H1 vs xs e1 er1 vxs h1 => by
  rw [List.append_nil]
  obtain ⟨ok, Pq, h, hp⟩ := h1
  exact call_ok er1 vxs ok h hp fun H2 v x e2 er2 vx hx => k H2 v x (e1.trans e2) er2 vx hx⟩
end
section
variable {X : Cx} {m : Am} {a b c e : Expr} {es : List Expr} {pos p : Pos} {t ta tb tc te : TE} {da db dc de : DE} {tt tu : TT} {dt du : DT} {ua ub : TA} {va vb : DA}
theorem d_call {k : Nat} {f : Addr} {fd : FuncData} {ps : List Str} {R : DF} {x : Str} (G : FnG X.prog X.w X.K X.mg X.base CX0 k f fd ps (dsp X.K R)) (hr : Rm k X.A) (hg : Gl X x) (hm : X.mg x = some (.ref f)) (hk : PySem.W.keepIn X.K (.ref f) = true) (hb : Binds X.K fd ps [])
    (ha : DPA X m (e :: es) ua va) (hdb : (x == ("__debug__" : Str)) = false := by decide) (he : starEach (e :: es) X.env = (false, eval e X.env) :: starEach es X.env := by rfl) (hpl : (backTo pos (starEach es X.env)).any (·.1) = false := by rfl) :
    DPE X m (.Call (.Name x p) (e :: es) [] pos) (tCall (dsp X.K R) [] E0 ua) (dCall R va) := ⟨g_call G hr.room hr.gd hg hm hk hb .nil pass0 ha.pa hdb he hpl, re_call ha.ra⟩
theorem d_call0 {k : Nat} {f : Addr} {fd : FuncData} {ps : List Str} {R : DF} {x : Str} (G : FnG X.prog X.w X.K X.mg X.base CX0 k f fd ps (dsp X.K R)) (hr : Rm k X.A) (hg : Gl X x) (hm : X.mg x = some (.ref f)) (hk : PySem.W.keepIn X.K (.ref f) = true) (hb : Binds X.K fd ps [])
    (hdb : (x == ("__debug__" : Str)) = false := by decide) : DPE X m (.Call (.Name x p) [] [] pos) (tCall (dsp X.K R) [] E0 tNil) (dCall R dNil) := ⟨g_call0 G hr.room hr.gd hg hm hk hb .nil pass0 hdb, re_call (a_nil (X := X)).ra⟩
structure DPK (X : Cx) (m : Am) (kws : List Keyword) (t : TA) (da : DA) : Prop where
  pk : PK X kws t
  ra : RA X.K m t da
theorem k_nil : DPK X m [] tNil dNil := ⟨pk_nil, (a_nil (X := X)).ra⟩
theorem k_cons {kws : List Keyword} {nm} {kpos} (h : DPE X m e te de) (h' : DPK X m kws ua va) : DPK X m (⟨nm, e, kpos⟩ :: kws) (tCons te ua) (dCons de va) := ⟨pk_cons h.pe h'.pk, ⟨fun {σ H ρ F T Q dQ} er hq k =>
  h.re.run er hq fun H1 v x e1 er1 vx h1 => h'.ra.run er1 h1 fun H2 vs xs e2 er2 vxs h2 => k H2 (v :: vs) (x :: xs) (e1.trans e2) er2 (.cons (vx.step er1 e2) vxs) h2⟩⟩
/-- f(e, .., k = v, ..): n values by place, then those by name; π: which of them comes to each parameter -/
def dCallX (R : DF) (n l : Nat) (π : List Nat) (da dk : DA) : DE := fun ρ Q => da ρ fun xs => dk ρ fun ys => xs.length = n ∧ ys.length = l ∧ (permL π .pot (xs ++ ys)).all argOk = true ∧ ∃ Pq : PyData → Prop, R (permL π .pot (xs ++ ys)) Pq ∧ ∀ r, Pq r → Q (.d r)
theorem VRs.len {K : PySem.W.Frag} {F T : List Addr} {H : Hp} : ∀ {vs : List V} {xs : List OV}, VRs K m F T H vs xs → vs.length = xs.length
  | _, _, .nil => rfl
  | _, _, .cons _ h => congrArg (· + 1) h.len
theorem VRs.get {K : PySem.W.Frag} {F T : List Addr} {H : Hp} : ∀ (i : Nat) {vs : List V} {xs : List OV}, VRs K m F T H vs xs → i < vs.length → VR K m F T H ((vs[i]?).getD .non) ((xs[i]?).getD .pot)
  | _, _, _, .nil, h => absurd h (Nat.not_lt_zero _)
  | 0, _, _, .cons r _, _ => r
  | i + 1, _, _, .cons (vs := vs) (xs := xs) _ r, h => VRs.get i r (Nat.lt_of_succ_lt_succ (show i + 1 < vs.length + 1 from h))
theorem VRs.perm {K : PySem.W.Frag} {F T : List Addr} {H : Hp} {vs : List V} {xs : List OV} (r : VRs K m F T H vs xs) : ∀ π : List Nat, (∀ i ∈ π, i < vs.length) → VRs K m F T H (permL π .non vs) (permL π .pot xs)
  | [], _ => .nil
  | i :: π, h => VRs.cons (VRs.get i r (h i List.mem_cons_self)) (VRs.perm r π fun j hj => h j (List.mem_cons_of_mem _ hj))
theorem re_callX {K : PySem.W.Frag} {R : DF} {ta tk : TA} {da dk : DA} {E : XK} {n : Nat} {ks : List Str} {π : List Nat} (hπ : ∀ i ∈ π, i < n + ks.length) (ha : RA K m ta da) (hk : RA K m tk dk) : RE K m (tCallX n ks π (dsp K R) E ta tk) (dCallX R n ks.length π da dk) := ⟨fun {σ H ρ F T Q dQ} er hq k => ha.run er hq fun H1 vs xs e1 er1 vxs h1 => hk.run er1 h1 fun H2 zs ys e2 er2 vys h2 => by
  obtain ⟨l1, l2, ok, Pq, h, hp⟩ := h2
  have ra := (vxs.step er1 e2).append vys
  refine ⟨vxs.len.trans l1, vys.len.trans l2, call_ok er2 (ra.perm π fun i hi => ?_) ok h hp fun H3 v x e3 er3 vx hx => k H3 v x ((e1.trans e2).trans e3) er3 vx hx⟩
  rw [List.length_append, vxs.len, vys.len, l1, l2]
  exact hπ i hi⟩
theorem d_callX {k n : Nat} {f : Addr} {fd : FuncData} {ps ks : List Str} {π : List Nat} {R : DF} {x : Str} {kws : List Keyword} {uk : TA} {vk : DA} (G : FnG X.prog X.w X.K X.mg X.base CX0 k f fd ps (dsp X.K R)) (hr : Rm k X.A) (hg : Gl X x) (hm : X.mg x = some (.ref f)) (hk : PySem.W.keepIn X.K (.ref f) = true) (hb : KB X.K fd ps n ks π)
    (ha : DPA X m (e :: es) ua va) (hkw : DPK X m kws uk vk) (hπ : ∀ i ∈ π, i < n + ks.length := by decide) (hall : (backToKw pos (keywordEach kws X.env)).all (·.1.isSome) = true := by rfl) (hks : (backToKw pos (keywordEach kws X.env)).filterMap (·.1) = ks := by rfl)
    (hdb : (x == ("__debug__" : Str)) = false := by decide) (he : starEach (e :: es) X.env = (false, eval e X.env) :: starEach es X.env := by rfl)
    (hpl : ((backTo pos (starEach (e :: es) X.env)).any (·.1) || (backToKw pos (keywordEach kws X.env)).any (·.1.isNone)) = false := by rfl) :
    DPE X m (.Call (.Name x p) (e :: es) kws pos) (tCallX n ks π (dsp X.K R) E0 ua uk) (dCallX R n ks.length π va vk) := ⟨g_callX G hr.room hr.gd hg hm hk hb hπ pass0 ha.pa hkw.pk hall hks hdb he hpl, re_callX hπ ha.ra hkw.ra⟩
theorem d_callX0 {k : Nat} {f : Addr} {fd : FuncData} {ps ks : List Str} {π : List Nat} {R : DF} {x : Str} {kws : List Keyword} {uk : TA} {vk : DA} (G : FnG X.prog X.w X.K X.mg X.base CX0 k f fd ps (dsp X.K R)) (hr : Rm k X.A) (hg : Gl X x) (hm : X.mg x = some (.ref f)) (hk : PySem.W.keepIn X.K (.ref f) = true) (hb : KB X.K fd ps 0 ks π)
    (hkw : DPK X m kws uk vk) (hπ : ∀ i ∈ π, i < 0 + ks.length := by decide) (hall : (backToKw pos (keywordEach kws X.env)).all (·.1.isSome) = true := by rfl) (hks : (backToKw pos (keywordEach kws X.env)).filterMap (·.1) = ks := by rfl)
    (hdb : (x == ("__debug__" : Str)) = false := by decide) (hpl : ((backTo pos (starEach [] X.env)).any (·.1) || (backToKw pos (keywordEach kws X.env)).any (·.1.isNone)) = false := by rfl) :
    DPE X m (.Call (.Name x p) [] kws pos) (tCallX 0 ks π (dsp X.K R) E0 tNil uk) (dCallX R 0 ks.length π dNil vk) := ⟨g_callX0 G hr.room hr.gd hg hm hk hb hπ pass0 hkw.pk hall hks hdb hpl, re_callX hπ (a_nil (X := X)).ra hkw.ra⟩
end

/-! ## statements -/
abbrev Fz (m : Am) (F : List Addr) (H : Hp) (F' : List Addr) (H' : Hp) : Prop := Ex (Bh m (F ++ []) H) (Bh m (F' ++ []) H')
structure EndsOk (K : PySem.W.Frag) (m : Am) (F : List Addr) (H : Hp) (D : Ends) (dD : DEnds) : Prop where
  nx : ∀ σ' H' ρ' F', ER K m σ' H' ρ' F' [] → Fz m F H F' H' → dD.nx ρ' → D.nx σ' H'
  bk : ∀ σ' H' ρ' F', ER K m σ' H' ρ' F' [] → Fz m F H F' H' → dD.bk ρ' → D.bk σ' H'
  ct : ∀ σ' H' ρ' F', ER K m σ' H' ρ' F' [] → Fz m F H F' H' → dD.ct ρ' → D.ct σ' H'
  rt : ∀ H' v r, Base m H' → Rep K (hid H' m.S) v r → dD.rt r → D.rt v H'
theorem EndsOk.on {K : PySem.W.Frag} {m : Am} {F F' : List Addr} {H H' : Hp} {D : Ends} {dD : DEnds} (o : EndsOk K m F H D dD) (z : Fz m F H F' H') : EndsOk K m F' H' D dD :=
  ⟨fun σ' H2 ρ' F2 er y h => o.nx σ' H2 ρ' F2 er (Ex.trans z y) h, fun σ' H2 ρ' F2 er y h => o.bk σ' H2 ρ' F2 er (Ex.trans z y) h, fun σ' H2 ρ' F2 er y h => o.ct σ' H2 ρ' F2 er (Ex.trans z y) h, o.rt⟩
structure RS (K : PySem.W.Frag) (m : Am) (t : TS) (ds : DS) : Prop where
  run : ∀ {σ : L2.St} {H : Hp} {ρ : DEnv} {F : List Addr} {D : Ends} {dD : DEnds}, ER K m σ H ρ F [] → ds dD ρ → EndsOk K m F H D dD → t D σ H
structure DPS (X : Cx) (m : Am) (st : Stmt) (t : TS) (ds : DS) : Prop where
  ps : PS X st t
  rs : RS X.K m t ds
structure DPSs (X : Cx) (m : Am) (st : List Stmt) (t : TS) (ds : DS) : Prop where
  ps : PSs X st t
  rs : RS X.K m t ds
section
variable {X : Cx} {m : Am} {a b c e : Expr} {es : List Expr} {pos p : Pos} {t u : TS} {ds du : DS} {te : TE} {de : DE} {tt : TT} {dt : DT} {st : Stmt} {rest sts : List Stmt} {dn : DN}
def dNext : DS := fun D ρ => D.nx ρ
def dSeq (ds du : DS) : DS := fun D ρ => ds { D with nx := fun ρ' => du D ρ' } ρ
theorem ss_nil : DPSs X m [] tNext dNext := ⟨pss_nil, ⟨fun {σ H ρ F D dD} er h o => o.nx σ H ρ F er (Ex.refl _) h⟩⟩
theorem ss_one (h : DPS X m st t ds) : DPSs X m [st] t ds := ⟨pss_one h.ps, h.rs⟩
theorem ss_cons (h : DPS X m st t ds) (h' : DPSs X m rest u du) : DPSs X m (st :: rest) (tSeq t u) (dSeq ds du) := ⟨pss_cons h.ps h'.ps, ⟨fun {σ H ρ F D dD} er hq o =>
  h.rs.run (D := { D with nx := u D }) (dD := { dD with nx := fun ρ' => du dD ρ' }) er hq ⟨fun σ' H' ρ' F' er' z hn => h'.rs.run er' hn (o.on z), o.bk, o.ct, o.rt⟩⟩⟩
theorem s_pass : DPS X m (.Pass pos) tNext dNext := ⟨ps_pass, ss_nil.rs⟩
theorem s_doc {x j pos pos'} : DPS X m (.Expr (.Constant (.str x) j pos) pos') tNext dNext := ⟨ps_doc, ss_nil.rs⟩
def dBreak : DS := fun D ρ => D.bk ρ
def dCont : DS := fun D ρ => D.ct ρ
theorem s_break : DPS X m (.Break pos) tBreak dBreak := ⟨ps_break, ⟨fun {σ H ρ F D dD} er h o => o.bk σ H ρ F er (Ex.refl _) h⟩⟩
theorem s_cont : DPS X m (.Continue pos) tCont dCont := ⟨ps_continue, ⟨fun {σ H ρ F D dD} er h o => o.ct σ H ρ F er (Ex.refl _) h⟩⟩
def dNever : DS := fun _ _ => False
theorem s_never : DPS X m st tNever dNever := ⟨ps_never, ⟨fun {σ H ρ F D dD} er h o => h.elim⟩⟩
theorem ss_never : DPSs X m sts tNever dNever := ⟨pss_never, ⟨fun {σ H ρ F D dD} er h o => h.elim⟩⟩
theorem Fz.of {F : List Addr} {H H' : Hp} (hb : Base m H) (e : Ext m.P H H') : Fz m F H F H' := Bh.ex hb e
def dRet (de : DE) : DS := fun D ρ => de ρ fun x => okv x = true ∧ D.rt (vw x)
theorem s_ret (h : DPE X m e te de) : DPS X m (.Return (some e) pos) (tRet te) (dRet de) := ⟨ps_ret h.pe, ⟨fun {σ H ρ F D dD} er hq o => h.re.run er hq fun H' v x e1 er1 vx hx => o.rt H' v _ er1.base (vx.out er1 hx.1) hx.2⟩⟩
def dRetN : DS := fun D _ => D.rt .none
theorem s_retN : DPS X m (.Return none pos) tRetN dRetN := ⟨ps_retN, ⟨fun {σ H ρ F D dD} er hq o => o.rt H .non _ er.base .non hq⟩⟩
def dIfS (dt : DT) (ds du : DS) : DS := fun D ρ => dt ρ fun b => if b = true then ds D ρ else du D ρ
theorem s_if {c : Expr} {sa sb : List Stmt} (hc : DPT X m c tt dt) (ha : DPSs X m sa t ds) (hb : DPSs X m sb u du) : DPS X m (.If c sa sb pos) (tIfS tt t u) (dIfS dt ds du) := ⟨ps_if hc.pt ha.ps hb.ps, ⟨fun {σ H ρ F D dD} er hq o => hc.rt.run er hq fun H' b e1 er1 hb' => by
  have o' := o.on (F' := F) (H' := H') (Bh.ex er.base e1)
  cases b with
  | true => exact ha.rs.run er1 hb' o'
  | false => exact hb.rs.run er1 hb' o'⟩⟩
/-- a call whose value is dropped -/
def dDrop (de : DE) : DS := fun D ρ => de ρ fun _ => D.nx ρ
theorem s_expr (h : DPE X m e te de) (hs : swapsWith e none pos.line X.env = pure false := by rfl) : DPS X m (.Expr e pos) (tDrop te) (dDrop de) := ⟨ps_expr h.pe hs, ⟨fun {σ H ρ F D dD} er hq o => h.re.run er hq fun H' v x e1 er1 vx hx => o.nx σ H' ρ F er1 (Bh.ex er.base e1) hx⟩⟩

/-! ### x = e -/
theorem ER.setD {K : PySem.W.Frag} {σ : L2.St} {H : Hp} {ρ : DEnv} {F T : List Addr} (er : ER K m σ H ρ F T) {v : V} {x : OV} {fp : List Addr} (i : Nat) (o : Own K m (Bh m (F ++ T) H) H v x fp) (hfp : ∀ a ∈ fp, a ∈ T) (hn : fp.Nodup) :
    ∃ F', ER K m (σ.set i (some v)) H (ρ.set i (some x)) F' [] ∧ ∀ a ∈ F', a ∈ F ++ T := by
  obtain ⟨F', h1, h2, h3⟩ := er.slots.set o i
  have hsub : ∀ a ∈ F', a ∈ F ++ T := fun a ha => by
    rcases List.mem_append.mp (h2 a ha) with z | z
    · exact List.mem_append_left _ z
    · exact List.mem_append_right _ (hfp a z)
  have nd : (F ++ fp).Nodup := by
    have h := er.nd
    rw [List.nodup_append] at h ⊢
    exact ⟨h.1, hn, fun a ha b hb => h.2.2 a ha b (hfp b hb)⟩
  refine ⟨F', ⟨er.base, h1.same (Bh.sub fun a ha => ?_) fun _ _ => rfl, ?_, fun a ha => ?_⟩, hsub⟩
  · rw [List.append_nil] at ha
    exact hsub a ha
  · rw [List.append_nil]
    exact h3 nd
  · rw [List.append_nil] at ha
    exact er.fresh a (hsub a ha)
theorem Fz.sub {F F' T : List Addr} {H : Hp} (h : ∀ a ∈ F', a ∈ F ++ T) : Ex (Bh m (F ++ T) H) (Bh m (F' ++ []) H) := Bh.sub fun a ha => by
  rw [List.append_nil] at ha
  exact h a ha
/-- behind an assignment of a plain thing -/
theorem ER.put {K : PySem.W.Frag} {σ : L2.St} {H : Hp} {ρ : DEnv} {F : List Addr} (er : ER K m σ H ρ F []) {v : V} {x : OV} (i : Nat) (ok : argOk x = true) (vx : VR K m F [] H v x) :
    ∃ F', ER K m (σ.set i (some v)) H (ρ.set i (some x)) F' [] ∧ Fz m F H F' H := by
  obtain ⟨fp, o, hfp⟩ := vx
  have e : fp = [] := by
    cases o with
    | d _ => rfl
    | pot _ => rfl
    | lst _ _ => exact nomatch ok
    | dic _ _ => exact nomatch ok
  subst e
  obtain ⟨F', h1, h2⟩ := er.setD i o (fun a z => nomatch z) List.nodup_nil
  exact ⟨F', h1, Fz.sub h2⟩
def dSet (i : Nat) (de : DE) : DS := fun D ρ => de ρ fun x => argOk x = true ∧ D.nx (ρ.set i (some x))
theorem rs_set {K : PySem.W.Frag} {i : Nat} (h : RE K m te de) : RS K m (tAsg te (gName i)) (dSet i de) := ⟨fun {σ H ρ F D dD} er hq o => h.run er hq fun H' v x e1 er1 vx hx => by
  obtain ⟨F', er2, z⟩ := er1.put i hx.1 vx
  exact o.nx _ H' _ F' er2 (Ex.trans (Bh.ex er.base e1) z) hx.2⟩
theorem s_set {i : Nat} {x : Str} {pos' : Pos} (hN : X.N.Nodup) (h : DPE X m e te de) (hi : X.N[i]? = some x := by rfl) (hx : Loc X.env.scope x := by first | exact Or.inl rfl | exact Or.inr rfl) (hs : swapsWith e (some (.Name x pos')) pos.line X.env = pure false := by rfl)
    (hf : X.fn x = true ∨ X.env.scope.names.lookup x = some .local := by first | exact .inl rfl | exact .inr rfl | assumption) : DPS X m (.Assign [.Name x pos'] e pos) (tAsg te (gName i)) (dSet i de) := ⟨ps_set hN hi hx h.pe hs hf, rs_set h.re⟩
/-- x = a new list, x's own -/
def dSetN (i : Nat) (dn : DN) : DS := fun D ρ => dn ρ fun xs => D.nx (ρ.set i (some (.lst xs)))
theorem rs_setN {K : PySem.W.Frag} {i : Nat} (h : RN K m te dn) : RS K m (tAsg te (gName i)) (dSetN i dn) := ⟨fun {σ H ρ F D dD} er hq o => h.run er hq fun H' v xs fp e1 hf er1 ow hx => by
  have nd : fp.Nodup := by
    have h := er1.nd
    rw [List.nodup_append] at h
    exact h.2.1
  obtain ⟨F', er2, z⟩ := er1.setD i ow (fun a ha => ha) nd
  refine o.nx _ H' _ F' er2 (Bh.go er.base e1 fun a ha => ?_) hx
  rw [List.append_nil] at ha
  rcases List.mem_append.mp (z a ha) with z | z
  · exact .inl (List.mem_append_left _ z)
  · exact .inr (hf a z)⟩
theorem s_setN {i : Nat} {x : Str} {pos' : Pos} (hN : X.N.Nodup) (h : DPN X m e te dn) (hi : X.N[i]? = some x := by rfl) (hx : Loc X.env.scope x := by first | exact Or.inl rfl | exact Or.inr rfl) (hs : swapsWith e (some (.Name x pos')) pos.line X.env = pure false := by rfl)
    (hf : X.fn x = true ∨ X.env.scope.names.lookup x = some .local := by first | exact .inl rfl | exact .inr rfl | assumption) : DPS X m (.Assign [.Name x pos'] e pos) (tAsg te (gName i)) (dSetN i dn) := ⟨ps_set hN hi hx h.pe hs hf, rs_setN h.rn⟩
/-- a, b = e1, e2 -/
def dPar (i j : Nat) (da : DA) : DS := fun D ρ => da ρ fun xs => match xs with
  | [x, y] => argOk x = true ∧ argOk y = true ∧ D.nx ((ρ.set i (some x)).set j (some y))
  | _ => False
def dPar3 (i j l : Nat) (da : DA) : DS := fun D ρ => da ρ fun xs => match xs with
  | [x, y, z] => argOk x = true ∧ argOk y = true ∧ argOk z = true ∧ D.nx (((ρ.set i (some x)).set j (some y)).set l (some z))
  | _ => False
theorem VR.fz {K : PySem.W.Frag} {F F' : List Addr} {H H' : Hp} {v : V} {x : OV} (z : Ex (Bh m (F ++ []) H) (Bh m (F' ++ []) H')) (ok : argOk x = true) (h : VR K m F [] H v x) : VR K m F' [] H' v x := by
  obtain ⟨fp, o, hfp⟩ := h
  cases o with
  | d r => exact .d (Rep.mono z _ _ r)
  | pot hp => exact ⟨[], .pot hp, fun a z => nomatch z⟩
  | lst _ _ => exact nomatch ok
  | dic _ _ => exact nomatch ok
variable {ua : TA} {va : DA}
theorem s_par {i j : Nat} {x y : Str} {a b : Expr} {px py pt : Pos} {kt k2 pt2} (hc : X.calm = true) (hN : X.N.Nodup) (hij : i ≠ j) (ha : DPA X m [a, b] ua va)
    (hw : swappedStores [.Tuple [.Name x px, .Name y py] kt pt] (.Tuple [a, b] k2 pt2) X.env = pure (some [x, y]) := by rfl) (hi : X.N[i]? = some x := by rfl) (hj : X.N[j]? = some y := by rfl)
    (hx : X.env.scope.names.lookup x = some .local := by rfl) (hy : X.env.scope.names.lookup y = some .local := by rfl)
    (hs : swapsWithSole [.Tuple [.Name x px, .Name y py] kt pt] (.Tuple [a, b] k2 pt2) pos.line X.env = pure false := by rfl) :
    DPS X m (.Assign [.Tuple [.Name x px, .Name y py] kt pt] (.Tuple [a, b] k2 pt2) pos) (tPar i j ua) (dPar i j va) := ⟨ps_par hc hN hi hj hij hx hy ha.pa hw hs, ⟨fun {σ H ρ F D dD} er hq o => ha.ra.run er hq fun H' vs xs e1 er1 vxs hx => by
  split at hx
  · obtain ⟨o1, o2, hx⟩ := hx
    cases vxs with
    | cons v1 vxs =>
      cases vxs with
      | cons v2 vxs =>
        cases vxs
        obtain ⟨F1, er2, z1⟩ := er1.put i o1 v1
        obtain ⟨F2, er3, z2⟩ := er2.put j o2 (v2.fz z1 o2)
        exact ⟨_, _, rfl, o.nx _ H' _ F2 er3 (Ex.trans (Bh.ex er.base e1) (Ex.trans z1 z2)) hx⟩
  · exact hx.elim⟩⟩
theorem s_par3 {i j l : Nat} {x y z : Str} {a b c : Expr} {px py pz pt : Pos} {kt k2 pt2} (hc : X.calm = true) (hN : X.N.Nodup) (hij : i ≠ j) (hil : i ≠ l) (hjl : j ≠ l) (ha : DPA X m [a, b, c] ua va)
    (hw : swappedStores [.Tuple [.Name x px, .Name y py, .Name z pz] kt pt] (.Tuple [a, b, c] k2 pt2) X.env = pure (some [x, y, z]) := by rfl) (hi : X.N[i]? = some x := by rfl) (hj : X.N[j]? = some y := by rfl) (hl : X.N[l]? = some z := by rfl)
    (hx : X.env.scope.names.lookup x = some .local := by rfl) (hy : X.env.scope.names.lookup y = some .local := by rfl) (hz : X.env.scope.names.lookup z = some .local := by rfl)
    (hs : swapsWithSole [.Tuple [.Name x px, .Name y py, .Name z pz] kt pt] (.Tuple [a, b, c] k2 pt2) pos.line X.env = pure false := by rfl) :
    DPS X m (.Assign [.Tuple [.Name x px, .Name y py, .Name z pz] kt pt] (.Tuple [a, b, c] k2 pt2) pos) (tPar3 i j l ua) (dPar3 i j l va) := ⟨ps_par3 hc hN hi hj hl hij hil hjl hx hy hz ha.pa hw hs, ⟨fun {σ H ρ F D dD} er hq o => ha.ra.run er hq fun H' vs xs e1 er1 vxs hx => by
  split at hx
  · obtain ⟨o1, o2, o3, hx⟩ := hx
    cases vxs with
    | cons v1 vxs =>
      cases vxs with
      | cons v2 vxs =>
        cases vxs with
        | cons v3 vxs =>
          cases vxs
          obtain ⟨F1, er2, z1⟩ := er1.put i o1 v1
          obtain ⟨F2, er3, z2⟩ := er2.put j o2 (v2.fz z1 o2)
          obtain ⟨F3, er4, z3⟩ := er3.put l o3 (v3.fz (Ex.trans z1 z2) o3)
          exact ⟨_, _, _, rfl, o.nx _ H' _ F3 er4 (Ex.trans (Bh.ex er.base e1) (Ex.trans z1 (Ex.trans z2 z3))) hx⟩
  · exact hx.elim⟩⟩

/-! ### targets: a name, some names -/
/-- a target: js are the slots that it may write -/
structure RG (K : PySem.W.Frag) (m : Am) (g : TG) (dg : DG) (js : List Nat) : Prop where
  run : ∀ {σ : L2.St} {H : Hp} {ρ : DEnv} {F T : List Addr} {v : V} {x : PyData} {Q : L2.St → Hp → Prop} {dQ : DEnv → Prop}, ER K m σ H ρ F T → Rep K (Bh m (F ++ T) H) v x → dg x ρ dQ →
    (∀ σ' ρ' F' T', ER K m σ' H ρ' F' T' → List.Perm (F' ++ T') (F ++ T) → (∀ vs : List Nat, (∀ j ∈ js, j ∈ vs) → L2.wipe σ' vs = L2.wipe σ vs) → dQ ρ' → Q σ' H) → g v σ H Q
structure DPG (X : Cx) (m : Am) (tg : Expr) (g : TG) (dg : DG) (js : List Nat) : Prop where
  pg : PG X tg g
  rg : RG X.K m g dg js
def dgName (i : Nat) : DG := fun x ρ Q => Q (ρ.set i (some (.d x)))
theorem wipe_set (σ : L2.St) (i : Nat) (s : Option V) : ∀ vs : List Nat, i ∈ vs → L2.wipe (σ.set i s) vs = L2.wipe σ vs
  | [], h => nomatch h
  | v :: vs, h => by
    show (L2.wipe (σ.set i s) vs).set v none = (L2.wipe σ vs).set v none
    by_cases hi : i ∈ vs
    · rw [wipe_set σ i s vs hi]
    · have hv : i = v := by
        rcases List.mem_cons.mp h with z | z
        · exact z
        · exact absurd z hi
      subst hv
      have : L2.wipe (σ.set i s) vs = (L2.wipe σ vs).set i s := by
        clear h
        induction vs with
        | nil => rfl
        | cons w ws ih =>
          show (L2.wipe (σ.set i s) ws).set w none = ((L2.wipe σ ws).set w none).set i s
          rw [ih (fun z => hi (List.mem_cons_of_mem _ z)), List.set_comm _ _ (fun z => hi (by rw [z]; exact List.mem_cons_self))]
      rw [this, List.set_set]
theorem Slots.setP {K : PySem.W.Frag} {B H : Hp} {v : V} {x : PyData} (r : Rep K B v x) : ∀ {σ : L2.St} {ρ : DEnv} {F : List Addr} (i : Nat), Slots K m B H σ ρ F → ∃ F' Fd, Slots K m B H (σ.set i (some v)) (ρ.set i (some (.d x))) F' ∧ List.Perm (F' ++ Fd) F
  | _, _, _, _, .nil => ⟨[], [], .nil, .refl _⟩
  | _, _, _, 0, .un s => ⟨_, [], Slots.val (fp := []) (.d r) s, by rw [List.append_nil]; exact .refl _⟩
  | _, _, _, i + 1, .un s => by
    obtain ⟨F', Fd, h1, h2⟩ := Slots.setP r i s
    exact ⟨F', Fd, .un h1, h2⟩
  | _, _, _, 0, .val (fp := f0) (fq := f1) o' s => ⟨_, f0, Slots.val (fp := []) (.d r) s, List.perm_append_comm⟩
  | _, _, _, i + 1, .val (fp := f0) (fq := f1) o' s => by
    obtain ⟨F', Fd, h1, h2⟩ := Slots.setP r i s
    exact ⟨_, Fd, .val o' h1, by rw [List.append_assoc]; exact h2.append_left f0⟩
theorem ER.setP {K : PySem.W.Frag} {σ : L2.St} {H : Hp} {ρ : DEnv} {F T : List Addr} (er : ER K m σ H ρ F T) {v : V} {x : PyData} (i : Nat) (r : Rep K (Bh m (F ++ T) H) v x) :
    ∃ F' T', ER K m (σ.set i (some v)) H (ρ.set i (some (.d x))) F' T' ∧ List.Perm (F' ++ T') (F ++ T) := by
  obtain ⟨F', Fd, h1, h2⟩ := er.slots.setP r i
  have p : List.Perm (F' ++ (Fd ++ T)) (F ++ T) := by
    rw [← List.append_assoc]
    exact h2.append_right T
  exact ⟨F', Fd ++ T, er.perm h1 p, p⟩
theorem rg_name {K : PySem.W.Frag} (i : Nat) : RG K m (gName i) (dgName i) [i] := ⟨fun {σ H ρ F T v x Q dQ} er r hq k => by
  obtain ⟨F', T', er1, h⟩ := er.setP i r
  exact k _ _ F' T' er1 h (fun vs hj => wipe_set σ i _ vs (hj i List.mem_cons_self)) hq⟩
theorem g_name {i : Nat} {x : Str} (hN : X.N.Nodup) (hi : X.N[i]? = some x := by rfl) (hx : Loc X.env.scope x := by first | exact Or.inl rfl | exact Or.inr rfl) (hf : X.fn x = true ∨ X.env.scope.names.lookup x = some .local := by first | exact .inl rfl | exact .inr rfl | assumption) :
    DPG X m (.Name x pos) (gName i) (dgName i) [i] := ⟨pg_name hN hi hx hf, rg_name i⟩
abbrev DGs := List PyData → DEnv → (DEnv → Prop) → Prop
structure RGs (K : PySem.W.Frag) (m : Am) (g : TGs) (dg : DGs) (js : List Nat) : Prop where
  run : ∀ {σ : L2.St} {H : Hp} {ρ : DEnv} {F T : List Addr} {vs : List V} {xs : List PyData} {Q : L2.St → Hp → Prop} {dQ : DEnv → Prop}, ER K m σ H ρ F T → RepAll K (Bh m (F ++ T) H) vs xs → dg xs ρ dQ →
    (∀ σ' ρ' F' T', ER K m σ' H ρ' F' T' → List.Perm (F' ++ T') (F ++ T) → (∀ vs : List Nat, (∀ j ∈ js, j ∈ vs) → L2.wipe σ' vs = L2.wipe σ vs) → dQ ρ' → Q σ' H) → g vs σ H Q
structure DPGs (X : Cx) (m : Am) (ts : List Expr) (g : TGs) (dg : DGs) (js : List Nat) : Prop where
  pg : PGs X ts g
  rg : RGs X.K m g dg js
def dgNil : DGs := fun xs ρ Q => match xs with
  | [] => Q ρ
  | _ => False
def dgCons (g : DG) (gs : DGs) : DGs := fun xs ρ Q => match xs with
  | x :: r => g x ρ fun ρ' => gs r ρ' Q
  | [] => False
theorem gs_nil : DPGs X m [] gNil dgNil [] := ⟨pgs_nil, ⟨fun {σ H ρ F T vs xs Q dQ} er r hq k => by
  unfold dgNil at hq
  split at hq
  · cases r
    exact ⟨rfl, k σ ρ F T er (.refl _) (fun _ _ => rfl) hq⟩
  · exact hq.elim⟩⟩
theorem gs_cons {ts : List Expr} {g : TG} {gs : TGs} {dg : DG} {dgs : DGs} {js js' : List Nat} (h : DPG X m e g dg js) (h' : DPGs X m ts gs dgs js') (hs : (assignEach (e :: ts) X.env).map (·.2) = assign e X.env :: (assignEach ts X.env).map (·.2) := by rfl) : DPGs X m (e :: ts) (gCons g gs) (dgCons dg dgs) (js ++ js') := ⟨pgs_cons h.pg h'.pg hs, ⟨fun {σ H ρ F T vs xs Q dQ} er r hq k => by
  unfold dgCons at hq
  split at hq
  · cases r with
    | cons r1 r2 =>
      refine ⟨_, _, rfl, h.rg.run er r1 hq fun σ1 ρ1 F1 T1 er1 s1 w1 h1 => ?_⟩
      exact h'.rg.run er1 (RepAll.mono (Bh.perm s1.symm) _ _ r2) h1 fun σ2 ρ2 F2 T2 er2 s2 w2 h2 => k σ2 ρ2 F2 T2 er2 (s2.trans s1) (fun vs hj => (w2 vs fun j hj' => hj j (List.mem_append_right _ hj')).trans (w1 vs fun j hj' => hj j (List.mem_append_left _ hj'))) h2
  · exact hq.elim⟩⟩
/-- (a, b, ..) = a tuple, a list of that length -/
def dgTup (gs : DGs) : DG := fun x ρ Q => match x with
  | .tuple xs => gs xs ρ Q
  | _ => False
def dgUnl (gs : DGs) : DG := fun x ρ Q => match x with
  | .list xs => gs xs ρ Q
  | _ => False
variable {ts : List Expr} {gs : TGs} {dgs : DGs} {js : List Nat}
theorem RGs.len {K : PySem.W.Frag} : True := trivial
theorem g_tup {k n : Nat} (hc : X.calm = true) (h : DPGs X m ts gs dgs js) (hlen : ∀ xs ρ Q, dgs xs ρ Q → xs.length = n) (hn : (assignEach ts X.env).length = n := by rfl) (hst : (assignEach ts X.env).findIdx? (·.1) = none := by rfl) :
    DPG X m (.Tuple ts k pos) (gTup X.K n gs) (dgTup dgs) js := ⟨pg_tup hc h.pg hn hst, ⟨fun {σ H ρ F T v x Q dQ} er r hq kk => by
  unfold dgTup at hq
  split at hq
  · cases r with
    | tup hp ha => exact ⟨_, _, rfl, Ex.ofBh.stp hp, by rw [ha.length]; exact hlen _ _ _ hq, h.rg.run er ha hq kk⟩
  · exact hq.elim⟩⟩
theorem g_unl {k n : Nat} (hc : X.calm = true) (h : DPGs X m ts gs dgs js) (hlen : ∀ xs ρ Q, dgs xs ρ Q → xs.length = n) (hn : (assignEach ts X.env).length = n := by rfl) (hst : (assignEach ts X.env).findIdx? (·.1) = none := by rfl) :
    DPG X m (.Tuple ts k pos) (gUnl X.K n gs) (dgUnl dgs) js := ⟨pg_unl hc h.pg hn hst, ⟨fun {σ H ρ F T v x Q dQ} er r hq kk => by
  unfold dgUnl at hq
  split at hq
  · cases r with
    | lst hp ha => exact ⟨_, _, rfl, SqL.of (hid_some.mp hp).2, by rw [ha.length]; exact hlen _ _ _ hq, h.rg.run er ha hq kk⟩
  · exact hq.elim⟩⟩
/-- (a, b, ..) = an expression's value -/
def dAsgG (de : DE) (dg : DG) : DS := fun D ρ => de ρ fun x => match x with
  | .d y => dg y ρ D.nx
  | _ => False
theorem rs_asgG {K : PySem.W.Frag} {g : TG} {dg : DG} (h : RE K m te de) (hg : RG K m g dg js) : RS K m (tAsg te g) (dAsgG de dg) := ⟨fun {σ H ρ F D dD} er hq o => h.run er hq fun H' v x e1 er1 vx hx => by
  split at hx
  · exact hg.run er1 vx.rep hx fun σ' ρ' F' T' er' s _ hn => o.nx σ' H' ρ' F' (er'.free (List.nil_sublist _)) (Ex.trans (Bh.ex er.base e1) (Bh.sub fun a ha => by
      rw [List.append_nil] at ha
      exact s.mem_iff.mp (List.mem_append_left _ ha))) hn
  · exact hx.elim⟩
theorem s_asgG {tg : Expr} {g : TG} {dg : DG} (h : DPE X m e te de) (hg : DPG X m tg g dg js) (hs : swapsWithSole [tg] e pos.line X.env = pure false := by rfl) (hw : swappedStores [tg] e X.env = pure none := by rfl)
    (h1 : (assignEach [tg] X.env).map (·.2) = [assign tg X.env] := by rfl) : DPS X m (.Assign [tg] e pos) (tAsg te g) (dAsgG de dg) := ⟨ps_asg h.pe hg.pg hs hw h1, rs_asgG h.re hg.rg⟩
end
end DL

/-! ==== DL6 ==== -/
set_option Elab.async false
set_option linter.all false
set_option maxRecDepth 100000
set_option maxHeartbeats 4000000
namespace DL
open PySem PySem.Spec PyProof.Rows L2

section
variable {X : Cx} {m : Am} {a b c e : Expr} {es : List Expr} {pos p : Pos} {t u : TS} {ds du : DS} {te ti to : TE} {de di dO : DE} {tt : TT} {dt : DT} {st : Stmt} {rest sts : List Stmt} {dn : DN}

/-! ### own lists change -/
/-- a slot's own value, taken out -/
theorem Slots.mod {K : PySem.W.Frag} {B H : Hp} : ∀ {σ : L2.St} {ρ : DEnv} {F : List Addr} {i : Nat} {x : OV}, Slots K m B H σ ρ F → ρ[i]? = some (some x) →
    ∃ v F1 fp F2, F = F1 ++ (fp ++ F2) ∧ σ[i]? = some (some v) ∧ Own K m B H v x fp ∧ ∀ (B' H' : Hp) (x' : OV) (fp' : List Addr), Ex B B' → (∀ a, a ∈ F1 ∨ a ∈ F2 → H' a = H a) → Own K m B' H' v x' fp' → Slots K m B' H' σ (ρ.set i (some x')) (F1 ++ (fp' ++ F2))
  | _, _, _, _, _, .nil, h => by simp at h
  | _, _, _, 0, _, .un _, h => by simp at h
  | _, _, _, i + 1, x, .un s, h => by
    obtain ⟨v, F1, fp, F2, e1, e2, o, k⟩ := Slots.mod (i := i) s (by simpa using h)
    exact ⟨v, F1, fp, F2, e1, by simpa using e2, o, fun B' H' x' fp' e q o' => .un (k B' H' x' fp' e q o')⟩
  | _, _, _, 0, _, .val (fp := f0) (fq := f1) o s, h => by
    simp at h
    subst h
    refine ⟨_, [], f0, f1, rfl, rfl, o, fun B' H' x' fp' e q o' => ?_⟩
    show Slots K m B' H' _ (some x' :: _) (fp' ++ f1)
    exact .val o' (s.same e fun a ha => q a (.inr ha))
  | _, _, _, i + 1, x, .val (fp := f0) (fq := f1) o s, h => by
    obtain ⟨v, F1, fp, F2, e1, e2, o', k⟩ := Slots.mod (i := i) s (by simpa using h)
    refine ⟨v, f0 ++ F1, fp, F2, by rw [e1, List.append_assoc], by simpa using e2, o', fun B' H' x' fp' e q o'' => ?_⟩
    rw [List.append_assoc]
    exact .val (Own.same e _ _ _ (fun a ha => q a (.inl (List.mem_append_left _ ha))) o) (k B' H' x' fp' e (fun a ha => q a (ha.elim (fun z => .inl (List.mem_append_right _ z)) .inr)) o'')
theorem nodup_mid {A B C D : List Addr} (h : (A ++ (B ++ C)).Nodup) (hd : D.Nodup) (hs : ∀ a ∈ D, a ∈ B ∨ (a ∉ A ∧ a ∉ C)) : (A ++ (D ++ C)).Nodup := by
  rw [List.nodup_append] at h ⊢
  obtain ⟨h1, h2, h3⟩ := h
  rw [List.nodup_append] at h2
  refine ⟨h1, ?_, fun a ha b hb => ?_⟩
  · rw [List.nodup_append]
    refine ⟨hd, h2.2.1, fun a ha b hb e => ?_⟩
    rcases hs a ha with z | z
    · exact h2.2.2 a z b hb e
    · exact z.2 (by rw [e]; exact hb)
  · intro e
    rcases List.mem_append.mp hb with z | z
    · rcases hs b z with y | y
      · exact h3 a ha b (List.mem_append_left _ y) e
      · exact y.1 (by rw [← e]; exact ha)
    · exact h3 a ha b (List.mem_append_right _ z) e
/-- the own value at slot i changes: at p, one of its objects; G: objects from values on the way that it takes -/
theorem ER.chg {K : PySem.W.Frag} {σ : L2.St} {H : Hp} {ρ : DEnv} {F T : List Addr} (er : ER K m σ H ρ F T) {i : Nat} {x : OV} (hx : ρ[i]? = some (some x)) :
    ∃ v fp, σ[i]? = some (some v) ∧ Own K m (Bh m (F ++ T) H) H v x fp ∧ (∀ a ∈ fp, a ∈ F) ∧ fp.Nodup ∧ ∀ (q : Addr) (o : HO) (x' : OV) (fp' : List Addr), q ∈ fp → (∀ a ∈ fp', a ∈ fp ∨ a ∈ T) → fp'.Nodup →
      (∀ B', Ex (Bh m (F ++ T) H) B' → Own K m B' (upd H q o) v x' fp') → ∃ F', ER K m σ (upd H q o) (ρ.set i (some x')) F' [] ∧ Ex (Bh m (F ++ T) H) (Bh m (F' ++ []) (upd H q o)) := by
  obtain ⟨v, F1, fp, F2, eF, e2, ow, k⟩ := er.slots.mod hx
  have hm : ∀ a ∈ fp, a ∈ F := fun a ha => by
    rw [eF]
    exact List.mem_append_right _ (List.mem_append_left _ ha)
  have ndF : F.Nodup := (List.nodup_append.mp er.nd).1
  have ndA : (F1 ++ (fp ++ F2)).Nodup := by rw [← eF]; exact ndF
  have ndfp : fp.Nodup := by
    rw [List.nodup_append] at ndA
    exact (List.nodup_append.mp ndA.2.1).1
  refine ⟨v, fp, e2, ow, hm, ndfp, fun q o x' fp' hq hfp nd hown => ?_⟩
  have qF : q ∈ F ++ T := List.mem_append_left _ (hm q hq)
  have qn : ∀ a, a ∈ F1 ∨ a ∈ F2 → a ≠ q := fun a ha z => by
    subst z
    rw [List.nodup_append] at ndA
    rcases ha with ha | ha
    · exact ndA.2.2 a ha a (List.mem_append_left _ hq) rfl
    · exact (List.nodup_append.mp ndA.2.1).2.2 a hq a ha rfl
  have qP : m.P ≠ some q := fun z => er.potF z qF
  have mem' : ∀ a ∈ F1 ++ (fp' ++ F2), a ∈ F ++ T := fun a ha => by
    rw [eF]
    rcases List.mem_append.mp ha with z | z
    · exact List.mem_append_left _ (List.mem_append_left _ z)
    · rcases List.mem_append.mp z with z | z
      · rcases hfp a z with y | y
        · exact List.mem_append_left _ (List.mem_append_right _ (List.mem_append_left _ y))
        · exact List.mem_append_right _ y
      · exact List.mem_append_left _ (List.mem_append_right _ (List.mem_append_right _ z))
  have hB : Ex (Bh m (F ++ T) H) (Bh m ((F1 ++ (fp' ++ F2)) ++ []) (upd H q o)) := Bh.chg (fun a ha => by
    rw [List.append_nil] at ha
    exact .inl (mem' a ha)) fun a ha _ => upd_ne fun z => ha (by rw [z]; exact qF)
  refine ⟨F1 ++ (fp' ++ F2), ⟨⟨fun a u n h => ?_, er.base.pot.ne qP, er.base.potS, er.base.trk⟩, ?_, ?_, fun a ha => ?_⟩, hB⟩
  · rw [upd_ne (ne_of_none h (er.fresh q qF).1)]
    exact er.base.ext a u n h
  · exact k _ _ x' fp' hB (fun a ha => upd_ne (qn a ha)) (hown _ hB)
  · rw [List.append_nil]
    refine nodup_mid ndA nd fun a ha => ?_
    rcases hfp a ha with y | y
    · exact .inl y
    · have dj := (List.nodup_append.mp er.nd).2.2
      exact .inr ⟨fun z => dj a (by rw [eF]; exact List.mem_append_left _ z) a y rfl, fun z => dj a (by rw [eF]; exact List.mem_append_right _ (List.mem_append_right _ z)) a y rfl⟩
  · rw [List.append_nil] at ha
    have hf := er.fresh a (mem' a ha)
    refine ⟨hf.1, ?_⟩
    by_cases haq : a = q
    · subst haq
      rw [upd_same]
      exact fun z => nomatch z
    · rw [upd_ne haq]
      exact hf.2
theorem OwnAll.app {K : PySem.W.Frag} {B H : Hp} : ∀ {vs us : List V} {xs ys : List OV} {fp fq : List Addr}, OwnAll K m B H vs xs fp → OwnAll K m B H us ys fq → OwnAll K m B H (vs ++ us) (xs ++ ys) (fp ++ fq)
  | _, _, _, _, _, _, .nil, s => s
  | _, _, _, _, _, _, .cons h t, s => by
    rw [List.append_assoc]
    exact .cons h (OwnAll.app t s)
theorem OwnAll.one {K : PySem.W.Frag} {B H : Hp} {v : V} {x : OV} {fp : List Addr} (h : Own K m B H v x fp) : OwnAll K m B H [v] [x] fp := by
  have := OwnAll.cons h (OwnAll.nil (K := K) (m := m) (B := B) (H := H))
  rw [List.append_nil] at this
  exact this
theorem Own.lst_inv {K : PySem.W.Frag} {B H : Hp} {v : V} {xs : List OV} {fp : List Addr} (h : Own K m B H v (.lst xs) fp) : ∃ p vs fq, v = .ref p ∧ fp = p :: fq ∧ H p = some (.lst vs) ∧ OwnAll K m B H vs xs fq := by
  cases h with
  | lst hp ha => exact ⟨_, _, _, rfl, rfl, hp, ha⟩
theorem Own.listTy {K : PySem.W.Frag} {B H : Hp} {v : V} {xs : List OV} {fp : List Addr} (h : Own K m B H v (.lst xs) fp) : tyV K "list" v H := by
  cases h with
  | lst hp _ => exact Or.inl ⟨rfl, _, SqL.of hp⟩
def getL (ρ : DEnv) (i : Nat) : Option (List OV) := match ρ[i]? with
  | some (some (.lst xs)) => some xs
  | _ => none
theorem getL_at {ρ : DEnv} {i : Nat} {xs : List OV} (h : getL ρ i = some xs) : ρ[i]? = some (some (.lst xs)) := by
  unfold getL at h
  split at h
  · cases h
    assumption
  · cases h
/-- x.append(e), a plain thing -/
def dApp (i : Nat) (de : DE) : DS := fun D ρ => match getL ρ i with
  | some xs => de ρ fun y => argOk y = true ∧ xs.length < sizeLine ∧ D.nx (ρ.set i (some (.lst (xs ++ [y]))))
  | none => False
theorem rs_app {K : PySem.W.Frag} {i : Nat} (h : RE K m te de) : RS K m (tDrop (tBM K "list" rAppend (tVar i) (tCons te tNil))) (dApp i de) := ⟨fun {σ H ρ F D dD} er hq o => by
  unfold dApp at hq
  split at hq
  · rename_i xs hx
    obtain ⟨v, fp, e1, ow, hfp, ndf, _⟩ := er.chg (getL_at hx)
    refine ⟨v, e1, ow.listTy, h.run er hq fun H' w y e2 er2 vy hy => ?_⟩
    obtain ⟨v', fp', e1', ow', hfp', ndf', k⟩ := er2.chg (getL_at hx)
    obtain rfl : v = v' := Option.some.inj (Option.some.inj (e1.symm.trans e1'))
    obtain ⟨ok, hl, hy⟩ := hy
    obtain ⟨q, vs, fq, rfl, rfl, hp, ha⟩ := ow'.lst_inv
    · obtain ⟨gq, oy, hgq⟩ := vy
      have eg : gq = [] := by
        cases oy with
        | d _ => rfl
        | pot _ => rfl
        | lst _ _ => exact nomatch ok
        | dic _ _ => exact nomatch ok
      subst eg
      obtain ⟨F', er3, z⟩ := k q (.lst (vs ++ [w])) (.lst (xs ++ [y])) (q :: fq) List.mem_cons_self (fun a ha => .inl ha) ndf' (fun B' eB => by
        refine .lst upd_same ?_
        have qn : q ∉ fq := (List.nodup_cons.mp ndf').1
        have h1 := OwnAll.app (OwnAll.same eB _ _ _ (fun a ha => upd_ne fun z => qn (by rw [← z]; exact ha)) ha) (OwnAll.one (Own.same (H' := upd H' q (.lst (vs ++ [w]))) eB _ _ _ (fun a (z : a ∈ ([] : List Addr)) => nomatch z) oy))
        rw [List.append_nil] at h1
        exact h1)
      exact ⟨q, vs, w, rfl, rfl, hp, by rw [ha.len]; exact hl, o.nx _ _ _ F' er3 (Ex.trans (Bh.ex er.base e2) z) hy⟩
  · exact hq.elim⟩
theorem s_app {i : Nat} {x : Str} {apos cpos xpos : Pos} (h : DPE X m e te de) (hN : X.N[i]? = some x := by rfl) (hv : Vis X.env.scope x := by first | exact Or.inl rfl | exact Or.inr (Or.inl rfl) | exact Or.inr (Or.inr rfl))
    (hd : (x == ("__debug__" : Str)) = false := by decide) (hcd : (x == ("__classdict__" : Str)) = false := by decide)
    (hbase : attributeBase (.Name x xpos) "append" X.env (eval (.Name x xpos) X.env) = eval (.Name x xpos) X.env := by rfl)
    (hfew : ((backTo cpos (starEach [e] X.env)).all (fun x => !x.1) && (backToKw cpos (keywordEach [] X.env)).all (fun x => x.1.isSome) && decide (([e] : List Expr).length + ([] : List Keyword).length + (if ([] : List Keyword).isEmpty then 0 else 1) < 30)) = true := by rfl)
    (hline : (apos.endLine == cpos.line) = true := by rfl) (hs : starEach [e] X.env = (false, eval e X.env) :: starEach [] X.env := by rfl) (hplain : (backTo cpos (starEach [] X.env)).any (·.1) = false := by rfl)
    (hsw : swapsWith (.Call (.Attribute (.Name x xpos) "append" apos) [e] [] cpos) none pos.line X.env = pure false := by rfl) :
    DPS X m (.Expr (.Call (.Attribute (.Name x xpos) "append" apos) [e] [] cpos) pos) (tDrop (tBM X.K "list" rAppend (tVar i) (tCons te tNil))) (dApp i de) :=
  ⟨ps_expr (pe_bm PySem.F.plainAttrs_list PySem.F.slot_list_append PySem.F.type_list_append mt_append (pe_var hN hv hd hcd) (pa_cons h.pe pa_nil hs) hbase hfew hline hs hplain) hsw, rs_app h.re⟩
/-- x.append(a new list) -/
def dAppN (i : Nat) (dn : DN) : DS := fun D ρ => match getL ρ i with
  | some xs => dn ρ fun ys => xs.length < sizeLine ∧ D.nx (ρ.set i (some (.lst (xs ++ [.lst ys]))))
  | none => False
theorem rs_appN {K : PySem.W.Frag} {i : Nat} (h : RN K m te dn) : RS K m (tDrop (tBM K "list" rAppend (tVar i) (tCons te tNil))) (dAppN i dn) := ⟨fun {σ H ρ F D dD} er hq o => by
  unfold dAppN at hq
  split at hq
  · rename_i xs hx
    obtain ⟨v, fp, e1, ow, hfp, ndf, _⟩ := er.chg (getL_at hx)
    refine ⟨v, e1, ow.listTy, h.run er hq fun H' w ys gq e2 hf er2 oy hy => ?_⟩
    obtain ⟨v', fp', e1', ow', hfp', ndf', k⟩ := er2.chg (getL_at hx)
    obtain rfl : v = v' := Option.some.inj (Option.some.inj (e1.symm.trans e1'))
    obtain ⟨hl, hy⟩ := hy
    obtain ⟨q, vs, fq, rfl, rfl, hp, ha⟩ := ow'.lst_inv
    · have ndT := (List.nodup_append.mp er2.nd)
      have qn : q ∉ fq := (List.nodup_cons.mp ndf').1
      have qg : ∀ a ∈ gq, a ≠ q := fun a ha z => ndT.2.2 q (hfp' q List.mem_cons_self) a ha z.symm
      have nd2 : (q :: (fq ++ gq)).Nodup := by
        have h3 : ((q :: fq) ++ gq).Nodup := List.nodup_append.mpr ⟨ndf', ndT.2.1, fun a ha b hb => ndT.2.2 a (hfp' a ha) b hb⟩
        exact h3
      obtain ⟨F', er3, z⟩ := k q (.lst (vs ++ [w])) (.lst (xs ++ [.lst ys])) (q :: (fq ++ gq)) List.mem_cons_self (fun a ha => by
        rcases List.mem_cons.mp ha with z | z
        · exact .inl (by rw [z]; exact List.mem_cons_self)
        · rcases List.mem_append.mp z with z | z
          · exact .inl (List.mem_cons_of_mem _ z)
          · exact .inr z) nd2 (fun B' eB => .lst upd_same (OwnAll.app (OwnAll.same eB _ _ _ (fun a ha => upd_ne fun z => qn (by rw [← z]; exact ha)) ha) (OwnAll.one (Own.same eB _ _ _ (fun a ha => upd_ne (qg a ha)) oy))))
      refine ⟨q, vs, w, rfl, rfl, hp, by rw [ha.len]; exact hl, o.nx _ _ _ F' er3 ?_ hy⟩
      exact Ex.trans (Bh.go er.base e2 fun a ha => by
        rcases List.mem_append.mp ha with z | z
        · exact .inl (List.mem_append_left _ z)
        · exact .inr (hf a z)) z
  · exact hq.elim⟩
theorem s_appN {i : Nat} {x : Str} {apos cpos xpos : Pos} (h : DPN X m e te dn) (hN : X.N[i]? = some x := by rfl) (hv : Vis X.env.scope x := by first | exact Or.inl rfl | exact Or.inr (Or.inl rfl) | exact Or.inr (Or.inr rfl))
    (hd : (x == ("__debug__" : Str)) = false := by decide) (hcd : (x == ("__classdict__" : Str)) = false := by decide)
    (hbase : attributeBase (.Name x xpos) "append" X.env (eval (.Name x xpos) X.env) = eval (.Name x xpos) X.env := by rfl)
    (hfew : ((backTo cpos (starEach [e] X.env)).all (fun x => !x.1) && (backToKw cpos (keywordEach [] X.env)).all (fun x => x.1.isSome) && decide (([e] : List Expr).length + ([] : List Keyword).length + (if ([] : List Keyword).isEmpty then 0 else 1) < 30)) = true := by rfl)
    (hline : (apos.endLine == cpos.line) = true := by rfl) (hs : starEach [e] X.env = (false, eval e X.env) :: starEach [] X.env := by rfl) (hplain : (backTo cpos (starEach [] X.env)).any (·.1) = false := by rfl)
    (hsw : swapsWith (.Call (.Attribute (.Name x xpos) "append" apos) [e] [] cpos) none pos.line X.env = pure false := by rfl) :
    DPS X m (.Expr (.Call (.Attribute (.Name x xpos) "append" apos) [e] [] cpos) pos) (tDrop (tBM X.K "list" rAppend (tVar i) (tCons te tNil))) (dAppN i dn) :=
  ⟨ps_expr (pe_bm PySem.F.plainAttrs_list PySem.F.slot_list_append PySem.F.type_list_append mt_append (pe_var hN hv hd hcd) (pa_cons h.pe pa_nil hs) hbase hfew hline hs hplain) hsw, rs_appN h.rn⟩

/-- x becomes plain: from here on it is not changed -/
def frzAt (ρ : DEnv) (i : Nat) : DEnv := match ρ[i]? with
  | some (some x) => if okv x = true then ρ.set i (some (.d (vw x))) else ρ
  | _ => ρ
def dFrz (i : Nat) (ds : DS) : DS := fun D ρ => ds D (frzAt ρ i)
theorem ER.frz {K : PySem.W.Frag} {σ : L2.St} {H : Hp} {ρ : DEnv} {F : List Addr} (er : ER K m σ H ρ F []) (i : Nat) : ∃ F', ER K m σ H (frzAt ρ i) F' [] ∧ Fz m F H F' H := by
  unfold frzAt
  split
  · rename_i x hx
    by_cases ok : okv x = true
    · rw [if_pos ok]
      obtain ⟨v, F1, fp, F2, eF, e2, ow, k⟩ := er.slots.mod hx
      have ndA : (F1 ++ (fp ++ F2)).Nodup := by
        rw [← eF]
        exact (List.nodup_append.mp er.nd).1
      have sub : ∀ a ∈ F1 ++ ([] ++ F2), a ∈ F := fun a ha => by
        rw [eF]
        rcases List.mem_append.mp ha with z | z
        · exact List.mem_append_left _ z
        · exact List.mem_append_right _ (List.mem_append_right _ z)
      have hB : Ex (Bh m (F ++ []) H) (Bh m ((F1 ++ ([] ++ F2)) ++ []) H) := Bh.sub fun a ha => by
        rw [List.append_nil] at ha ⊢
        exact sub a ha
      have nd' := ndA
      rw [List.nodup_append] at nd'
      have nd2 := List.nodup_append.mp nd'.2.1
      refine ⟨F1 ++ ([] ++ F2), ⟨er.base, k _ H _ [] hB (fun _ _ => rfl) (.d (Own.rep hB x v fp ok (fun a ha => ?_) ow)), ?_, fun a ha => ?_⟩, hB⟩
      · show (if hS m ((F1 ++ ([] ++ F2)) ++ []) a = true then none else H a) = H a
        rw [if_neg]
        intro z
        have hz : (m.S a || decide (a ∈ (F1 ++ ([] ++ F2)) ++ [])) = true := z
        rw [Bool.or_eq_true, decide_eq_true_eq, List.append_nil] at hz
        rcases hz with z | z
        · exact er.sF z (List.mem_append_left _ (by rw [eF]; exact List.mem_append_right _ (List.mem_append_left _ ha)))
        · rcases List.mem_append.mp z with z | z
          · exact nd'.2.2 a z a (List.mem_append_left _ ha) rfl
          · exact nd2.2.2 a ha a z rfl
      · rw [List.append_nil]
        exact List.nodup_append.mpr ⟨nd'.1, nd2.2.1, fun a ha b hb => nd'.2.2 a ha b (List.mem_append_right _ hb)⟩
      · rw [List.append_nil] at ha
        exact er.fresh a (List.mem_append_left _ (sub a ha))
    · rw [if_neg ok]
      exact ⟨F, er, Ex.refl _⟩
  · exact ⟨F, er, Ex.refl _⟩
theorem rs_frz {K : PySem.W.Frag} {i : Nat} (h : RS K m t ds) : RS K m t (dFrz i ds) := ⟨fun {σ H ρ F D dD} er hq o => by
  obtain ⟨F', er1, z⟩ := er.frz i
  exact h.run er1 hq (o.on z)⟩
theorem s_frz (i : Nat) (h : DPS X m st t ds) : DPS X m st t (dFrz i ds) := ⟨h.ps, rs_frz h.rs⟩

/-! ### x[i] = e, x[i][j] = e -/
theorem OwnAll.set {K : PySem.W.Frag} {B H : Hp} {w : V} {y : OV} (oy : Own K m B H w y []) : ∀ {vs : List V} {xs : List OV} {fp : List Addr} (j : Nat), OwnAll K m B H vs xs fp → ∃ fp', OwnAll K m B H (vs.set j w) (xs.set j y) fp' ∧ List.Sublist fp' fp
  | _, _, _, _, .nil => ⟨[], .nil, List.Sublist.refl _⟩
  | _, _, _, 0, .cons h t => ⟨_, OwnAll.cons (fp := []) oy t, List.sublist_append_right _ _⟩
  | _, _, _, j + 1, .cons h t => by
    obtain ⟨fp', h1, h2⟩ := OwnAll.set oy j t
    exact ⟨_, .cons h h1, (List.Sublist.refl _).append h2⟩
/-- the j-th item, taken out -/
theorem OwnAll.mod {K : PySem.W.Frag} {B H : Hp} : ∀ {vs : List V} {xs : List OV} {fp : List Addr} {j : Nat} {x : OV}, OwnAll K m B H vs xs fp → xs[j]? = some x →
    ∃ v f1 fq f2, fp = f1 ++ (fq ++ f2) ∧ vs[j]? = some v ∧ Own K m B H v x fq ∧ ∀ (B' H' : Hp) (x' : OV) (fq' : List Addr), Ex B B' → (∀ a, a ∈ f1 ∨ a ∈ f2 → H' a = H a) → Own K m B' H' v x' fq' → OwnAll K m B' H' vs (xs.set j x') (f1 ++ (fq' ++ f2))
  | _, _, _, _, _, .nil, h => by simp at h
  | _, _, _, 0, _, .cons (fp := f0) (fq := f1) o s, h => by
    simp at h
    subst h
    refine ⟨_, [], f0, f1, rfl, rfl, o, fun B' H' x' fp' e q o' => ?_⟩
    show OwnAll K m B' H' (_ :: _) (x' :: _) (fp' ++ f1)
    exact .cons o' (OwnAll.same e _ _ _ (fun a ha => q a (.inr ha)) s)
  | _, _, _, j + 1, x, .cons (fp := f0) (fq := f1) o s, h => by
    obtain ⟨v, F1, fp, F2, e1, e2, o', k⟩ := OwnAll.mod (j := j) s (by simpa using h)
    refine ⟨v, f0 ++ F1, fp, F2, by rw [e1, List.append_assoc], by simpa using e2, o', fun B' H' x' fp' e q o'' => ?_⟩
    rw [List.append_assoc]
    exact .cons (Own.same e _ _ _ (fun a ha => q a (.inl (List.mem_append_left _ ha))) o) (k B' H' x' fp' e (fun a ha => q a (ha.elim (fun z => .inl (List.mem_append_right _ z)) .inr)) o'')
theorem argOk_nil {K : PySem.W.Frag} {B H : Hp} {v : V} {y : OV} {fp : List Addr} (ok : argOk y = true) (o : Own K m B H v y fp) : fp = [] := by
  cases o with
  | d _ => rfl
  | pot _ => rfl
  | lst _ _ => exact nomatch ok
  | dic _ _ => exact nomatch ok
def dSet1 (r : Nat) (de di : DE) : DS := fun D ρ => match getL ρ r with
  | some xs => de ρ fun y => di ρ fun k => match k with
    | .d (.int i) => argOk y = true ∧ ∃ j, ixN xs.length i = some j ∧ D.nx (ρ.set r (some (.lst (xs.set j y))))
    | _ => False
  | none => False
theorem rs_set1 {K : PySem.W.Frag} {r : Nat} (h : RE K m te de) (hi : RE K m ti di) : RS K m (tAsg te (gSub (tVar r) ti rSetL)) (dSet1 r de di) := ⟨fun {σ H ρ F D dD} er hq o => by
  unfold dSet1 at hq
  split at hq
  · rename_i xs hg
    refine h.run er hq fun H1 w y e1 er1 vy hq1 => ?_
    obtain ⟨v, fp, ev, ow, hfp, ndf, _⟩ := er1.chg (getL_at hg)
    refine ⟨v, ev, hi.run er1 hq1 fun H2 u k e2 er2 vk hk => ?_⟩
    split at hk
    · rename_i i
      obtain ⟨ok, j, hj, hk⟩ := hk
      rw [vk.int]
      obtain ⟨v', fp', ev', ow', hfp', ndf', kk⟩ := er2.chg (getL_at hg)
      obtain rfl : v = v' := Option.some.inj (Option.some.inj (ev.symm.trans ev'))
      obtain ⟨q, vs, fq, rfl, rfl, hp, ha⟩ := ow'.lst_inv
      obtain ⟨gq, oy, _⟩ := vy.step er1 e2
      obtain rfl := argOk_nil ok oy
      have qn : q ∉ fq := (List.nodup_cons.mp ndf').1
      obtain ⟨fz, o2, sb⟩ := OwnAll.set oy j ha
      obtain ⟨F', er3, z⟩ := kk q (.lst (vs.set j w)) (.lst (xs.set j y)) (q :: fz) List.mem_cons_self (fun a ha => by
        rcases List.mem_cons.mp ha with z | z
        · exact .inl (by rw [z]; exact List.mem_cons_self)
        · exact .inl (List.mem_cons_of_mem _ (sb.subset z))) (List.nodup_cons.mpr ⟨fun z => qn (sb.subset z), (List.nodup_cons.mp ndf').2.sublist sb⟩)
        (fun B' eB => .lst upd_same (OwnAll.same eB _ _ _ (fun a ha => upd_ne fun z => qn (by rw [← z]; exact sb.subset ha)) o2))
      exact ⟨q, vs, i, j, rfl, rfl, hp, by rw [ha.len]; exact hj, o.nx _ _ _ F' er3 (Ex.trans (Bh.ex er.base (e1.trans e2)) z) hk⟩
    · exact hk.elim
  · exact hq.elim⟩
/-- x[i][j] = e -/
def dSet2 (r : Nat) (de di dj : DE) : DS := fun D ρ => match getL ρ r with
  | some xs => de ρ fun y => di ρ fun k => match k with
    | .d (.int i) => ∃ n, ixN xs.length i = some n ∧ ∃ ys, xs[n]? = some (.lst ys) ∧ dj ρ fun l => match l with
      | .d (.int j) => argOk y = true ∧ ∃ l, ixN ys.length j = some l ∧ D.nx (ρ.set r (some (.lst (xs.set n (.lst (ys.set l y))))))
      | _ => False
    | _ => False
  | none => False
variable {tj : TE} {dj : DE}
theorem rs_set2 {K : PySem.W.Frag} {r : Nat} (h : RE K m te de) (hi : RE K m ti di) (hj : RE K m tj dj) : RS K m (tAsg te (gSub (tOp (rIx K) (tVar r) ti) tj rSetL)) (dSet2 r de di dj) := ⟨fun {σ H ρ F D dD} er hq o => by
  unfold dSet2 at hq
  split at hq
  · rename_i xs hg
    refine h.run er hq fun H1 w y e1 er1 vy hq1 => ?_
    obtain ⟨v, fp, ev, ow, hfp, ndf, _⟩ := er1.chg (getL_at hg)
    refine ⟨v, ev, hi.run er1 hq1 fun H2 u k e2 er2 vk hk => ?_⟩
    split at hk
    · rename_i i
      obtain ⟨n, hn, ys, hy, hk⟩ := hk
      rw [vk.int]
      obtain ⟨v', fp', ev', ow', hfp', ndf', kk⟩ := er2.chg (getL_at hg)
      obtain rfl : v = v' := Option.some.inj (Option.some.inj (ev.symm.trans ev'))
      obtain ⟨q, vs, fq, rfl, rfl, hp, ha⟩ := ow'.lst_inv
      obtain ⟨v1, f1, g1, f2, ef, ev1, ow1, k1⟩ := ha.mod hy
      have at1 : L2.atI vs i = some v1 := by
        unfold L2.atI
        rw [ha.len, hn]
        exact ev1
      refine .inl ⟨q, vs, i, v1, rfl, rfl, SqL.of hp, at1, hj.run er2 hk fun H3 u3 l e3 er3 vl hl => ?_⟩
      split at hl
      · rename_i j
        obtain ⟨ok, ln, hln, hl⟩ := hl
        rw [vl.int]
        obtain ⟨v3, fp3, ev3, ow3, hfp3, ndf3, kk3⟩ := er3.chg (getL_at hg)
        obtain rfl : V.ref q = v3 := Option.some.inj (Option.some.inj (ev.symm.trans ev3))
        obtain ⟨q3, vs3, fq3, eq3, rfl, hp3, ha3⟩ := ow3.lst_inv
        cases eq3
        obtain rfl : vs = vs3 := by
          have h1 := e3 q _ (fun z => er2.potF z (List.mem_append_left _ (hfp' q List.mem_cons_self))) hp
          rw [hp3] at h1
          cases h1
          rfl
        obtain ⟨v4, f4, g4, f5, ef4, ev4, ow4, k4⟩ := ha3.mod hy
        obtain rfl : v1 = v4 := Option.some.inj (ev1.symm.trans ev4)
        obtain ⟨p5, us, g5, rfl, rfl, hp5, ha5⟩ := ow4.lst_inv
        obtain ⟨gq, oy, _⟩ := vy.step er1 (e2.trans e3)
        obtain rfl := argOk_nil ok oy
        obtain ⟨fz, o2, sb⟩ := OwnAll.set oy ln ha5
        have nd0 := List.nodup_cons.mp ndf3
        have ndm := nd0.2
        rw [ef4] at ndm
        have nd1 := List.nodup_append.mp ndm
        have nd2 := List.nodup_append.mp nd1.2.1
        have nd5 := List.nodup_cons.mp nd2.1
        have memp5 : p5 ∈ fq3 := by
          rw [ef4]
          exact List.mem_append_right _ (List.mem_append_left _ List.mem_cons_self)
        have qp5 : q ≠ p5 := fun z => nd0.1 (by rw [z]; exact memp5)
        have ndz : (p5 :: fz).Nodup := List.nodup_cons.mpr ⟨fun z => nd5.1 (sb.subset z), nd5.2.sublist sb⟩
        have subz : ∀ a ∈ p5 :: fz, a ∈ p5 :: g5 := fun a ha => by
          rcases List.mem_cons.mp ha with z | z
          · rw [z]
            exact List.mem_cons_self
          · exact List.mem_cons_of_mem _ (sb.subset z)
        obtain ⟨F', er4, z⟩ := kk3 p5 (.lst (us.set ln w)) (.lst (xs.set n (.lst (ys.set ln y)))) (q :: (f4 ++ ((p5 :: fz) ++ f5))) (List.mem_cons_of_mem _ memp5) (fun a ha => by
          rcases List.mem_cons.mp ha with z | z
          · exact .inl (by rw [z]; exact List.mem_cons_self)
          · refine .inl (List.mem_cons_of_mem _ ?_)
            rw [ef4]
            rcases List.mem_append.mp z with z | z
            · exact List.mem_append_left _ z
            · rcases List.mem_append.mp z with z | z
              · exact List.mem_append_right _ (List.mem_append_left _ (subz a z))
              · exact List.mem_append_right _ (List.mem_append_right _ z)) (List.nodup_cons.mpr ⟨fun z => nd0.1 (by
            rw [ef4]
            rcases List.mem_append.mp z with z | z
            · exact List.mem_append_left _ z
            · rcases List.mem_append.mp z with z | z
              · exact List.mem_append_right _ (List.mem_append_left _ (subz q z))
              · exact List.mem_append_right _ (List.mem_append_right _ z)), nodup_mid ndm ndz fun a ha => .inl (subz a ha)⟩)
          (fun B' eB => .lst (by rw [upd_ne qp5]; exact hp3) (k4 B' _ _ _ eB (fun a ha => upd_ne fun z => by
            subst z
            rcases ha with ha | ha
            · exact nd1.2.2 a ha a (List.mem_append_left _ List.mem_cons_self) rfl
            · exact nd2.2.2 a List.mem_cons_self a ha rfl)
            (.lst upd_same (OwnAll.same eB _ _ _ (fun a ha => upd_ne fun z => nd5.1 (by rw [← z]; exact sb.subset ha)) o2))))
        exact ⟨p5, us, j, ln, rfl, rfl, hp5, by rw [ha5.len]; exact hln, o.nx _ _ _ F' er4 (Ex.trans (Bh.ex er.base ((e1.trans e2).trans e3)) z) hl⟩
      · exact hl.elim
    · exact hk.elim
  · exact hq.elim⟩
variable {i j o : Expr}
theorem s_set1 {r : Nat} {x : Str} {xpos spos : Pos} (h : DPE X m e te de) (hi : DPE X m i ti di) (hN : X.N[r]? = some x := by rfl) (hv : Vis X.env.scope x := by first | exact Or.inl rfl | exact Or.inr (Or.inl rfl) | exact Or.inr (Or.inr rfl))
    (hd : (x == ("__debug__" : Str)) = false := by decide) (hcd : (x == ("__classdict__" : Str)) = false := by decide)
    (ha : ∀ v, assign (.Subscript (.Name x xpos) i spos) X.env v = (do
      let ov ← holding [v] (eval (.Name x xpos) X.env)
      let iv ← holding [v, ov] (eval i X.env)
      standAt spos
      holding [v, ov, iv] (setItem ov iv v)
      release [v, ov, iv] []) := by intro _; rfl) (hs : swapsWithSole [.Subscript (.Name x xpos) i spos] e pos.line X.env = pure false := by rfl) (hw : swappedStores [.Subscript (.Name x xpos) i spos] e X.env = pure none := by rfl)
    (h1 : (assignEach [.Subscript (.Name x xpos) i spos] X.env).map (·.2) = [assign (.Subscript (.Name x xpos) i spos) X.env] := by rfl) :
    DPS X m (.Assign [.Subscript (.Name x xpos) i spos] e pos) (tAsg te (gSub (tVar r) ti rSetL)) (dSet1 r de di) := ⟨ps_asg h.pe (pg_sub (pe_var hN hv hd hcd) hi.pe set_list ha) hs hw h1, rs_set1 h.re hi.re⟩
theorem s_set2 {r : Nat} {x : Str} {xpos opos spos : Pos} (h : DPE X m e te de) (hi : DPE X m i ti di) (hj : DPE X m j tj dj) (hN : X.N[r]? = some x := by rfl) (hv : Vis X.env.scope x := by first | exact Or.inl rfl | exact Or.inr (Or.inl rfl) | exact Or.inr (Or.inr rfl))
    (hd : (x == ("__debug__" : Str)) = false := by decide) (hcd : (x == ("__classdict__" : Str)) = false := by decide) (hpl : PlainIx i := by exact fun _ _ => rfl)
    (ha : ∀ v, assign (.Subscript (.Subscript (.Name x xpos) i opos) j spos) X.env v = (do
      let ov ← holding [v] (eval (.Subscript (.Name x xpos) i opos) X.env)
      let iv ← holding [v, ov] (eval j X.env)
      standAt spos
      holding [v, ov, iv] (setItem ov iv v)
      release [v, ov, iv] []) := by intro _; rfl) (hs : swapsWithSole [.Subscript (.Subscript (.Name x xpos) i opos) j spos] e pos.line X.env = pure false := by rfl) (hw : swappedStores [.Subscript (.Subscript (.Name x xpos) i opos) j spos] e X.env = pure none := by rfl)
    (h1 : (assignEach [.Subscript (.Subscript (.Name x xpos) i opos) j spos] X.env).map (·.2) = [assign (.Subscript (.Subscript (.Name x xpos) i opos) j spos) X.env] := by rfl) :
    DPS X m (.Assign [.Subscript (.Subscript (.Name x xpos) i opos) j spos] e pos) (tAsg te (gSub (tOp (rIx X.K) (tVar r) ti) tj rSetL)) (dSet2 r de di dj) := ⟨ps_asg h.pe (pg_sub (pe_ix ix_seq (pe_var hN hv hd hcd) hi.pe hpl) hj.pe set_list ha) hs hw h1, rs_set2 h.re hi.re hj.re⟩
end
end DL

/-! ==== DL7 ==== -/
set_option Elab.async false
set_option linter.all false
set_option maxRecDepth 100000
set_option maxHeartbeats 4000000
namespace DL
open PySem PySem.Spec PyProof.Rows L2

/-! ## what is walked -/
def ItOk (K : PySem.W.Frag) (m : Am) (G : List Addr) (H : Hp) (J : It) (xs : List PyData) : Prop :=
  ∀ (G' : List Addr) (H' : Hp), Ex (Bh m G H) (Bh m G' H') → Base m H' → (∀ a ∈ G', H' a ≠ none) → ∀ i,
    (xs.length ≤ i → J.stop i H') ∧ ∀ x, xs[i]? = some x → J.go i H' ∧ ∀ v H'', J.yld i H' v H'' → Ex H' H'' ∧ Rep K (Bh m G' H'') v x
structure RI (K : PySem.W.Frag) (m : Am) (wi : TI) (di : DI) : Prop where
  run : ∀ {σ : L2.St} {H : Hp} {ρ : DEnv} {F T : List Addr} {R : It → Hp → Prop} {dQ : List PyData → Prop}, ER K m σ H ρ F T → di ρ dQ →
    (∀ H' J xs, Ext m.P H H' → ER K m σ H' ρ F T → ItOk K m (F ++ T) H' J xs → dQ xs → R J H') → wi σ H R
structure DPI (X : Cx) (m : Am) (tg iter : Expr) (wi : TI) (di : DI) : Prop where
  pi : PI X tg iter wi
  ri : RI X.K m wi di

section
variable {X : Cx} {m : Am} {tg a b c e : Expr} {es : List Expr} {pos p : Pos} {t u : TS} {ds du : DS} {te ti to : TE} {de dO : DE} {tt : TT} {dt : DT} {st : Stmt} {rest sts body : List Stmt} {dn : DN} {wi : TI} {di : DI} {g : TG} {dg : DG} {js : List Nat} {ua : TA} {va : DA}
/-! ### for -/
def dLoop (g : DG) (body : DS) : List PyData → DS
  | [], D, ρ => D.nx ρ
  | x :: xs, D, ρ => g x ρ fun ρ' => body { nx := fun ρ2 => dLoop g body xs D ρ2, ct := fun ρ2 => dLoop g body xs D ρ2, bk := D.nx, rt := D.rt } ρ'
def dFor (di : DI) (g : DG) (body : DS) : DS := fun D ρ => di ρ fun xs => dLoop g body xs D ρ
theorem rs_for {K : PySem.W.Frag} (hi : RI K m wi di) (hg : RG K m g dg js) (hb : RS K m t ds) : RS K m (tFor wi g t) (dFor di dg ds) := ⟨fun {σ H ρ F D dD} er hq o => hi.run er hq fun H1 J xs e1 er1 it hx => by
  have o1 := o.on (F' := F) (H' := H1) (Bh.ex er.base e1)
  refine ⟨fun i n σ' H' => n = xs.length - i ∧ ∃ ρ' F', ER K m σ' H' ρ' F' [] ∧ Fz m F H1 F' H' ∧ dLoop dg ds (xs.drop i) dD ρ', ⟨xs.length, rfl, ρ, F, er1, Ex.refl _, hx⟩, ?_⟩
  rintro i n σ' H' ⟨rfl, ρ', F', er', z, hl⟩
  have it' := it (F' ++ []) H' z er'.base (fun a ha => (er'.fresh a ha).2) i
  by_cases hlt : i < xs.length
  · have hd : xs.drop i = xs[i] :: xs.drop (i + 1) := List.drop_eq_getElem_cons hlt
    rw [hd] at hl
    obtain ⟨go, yl⟩ := it'.2 xs[i] (List.getElem?_eq_getElem hlt)
    refine .inr ⟨go, fun σ2 H2 => ∃ ρ2 F2, ER K m σ2 H2 ρ2 F2 [] ∧ Fz m F H1 F2 H2 ∧ dLoop dg ds (xs.drop (i + 1)) dD ρ2, fun σ2 H2 ⟨ρ2, F2, h1, h2, h3⟩ => ⟨xs.length - (i + 1), by omega, rfl, ρ2, F2, h1, h2, h3⟩, fun v H2 hy => ?_⟩
    obtain ⟨e2, r2⟩ := yl v H2 hy
    have er2 := er'.step (Ext.of_ex e2) (fun q hq => by
      obtain ⟨x, y, z, e, i⟩ := er'.base.pot q hq
      exact ⟨x, y, z, e2 q _ e, i⟩)
    have z2 : Fz m F H1 F' H2 := Ex.trans z (Bh.ex er'.base (Ext.of_ex e2))
    refine hg.run er2 r2 hl fun σ3 ρ3 F3 T3 er3 s3 _ h3 => ?_
    have z3 : Fz m F H1 F3 H2 := Ex.trans z2 (Bh.sub fun a ha => by
      rw [List.append_nil] at ha
      exact s3.mem_iff.mp (List.mem_append_left _ ha))
    refine hb.run (er3.free (List.nil_sublist _)) h3 ⟨fun σ4 H4 ρ4 F4 er4 z4 h4 => ⟨ρ4, F4, er4, Ex.trans z3 z4, h4⟩, fun σ4 H4 ρ4 F4 er4 z4 h4 => o1.nx σ4 H4 ρ4 F4 er4 (Ex.trans z3 z4) h4, fun σ4 H4 ρ4 F4 er4 z4 h4 => ⟨ρ4, F4, er4, Ex.trans z3 z4, h4⟩, o1.rt⟩
  · have hd : xs.drop i = [] := List.drop_of_length_le (by omega)
    rw [hd] at hl
    exact .inl ⟨it'.1 (by omega), o1.nx σ' H' ρ' F' er' z hl⟩⟩
theorem s_for (hp : PassesOwn (model X.prog X.w) X.A X.env X.xe) (hc : X.calm = true) (hi : DPI X m tg e wi di) (hg : DPG X m tg g dg js) (hb : DPSs X m body t ds) (hs : ∀ x, foldedSetIterable e X.env x = pure x := by intro _; rfl) :
    DPS X m (.For tg e body [] pos) (tFor wi g t) (dFor di dg ds) := ⟨ps_for hp hc hi.pi hg.pg hb.ps hs, rs_for hi.ri hg.rg hb.rs⟩
/-! ### while -/
def dWhile (dt : DT) (body : DS) : DS := fun D ρ => ∃ W : Nat → DEnv → Prop, (∃ n, W n ρ) ∧ ∀ n ρ', W n ρ' → dt ρ' fun b => if b = true then body { nx := fun ρ2 => ∃ k, k < n ∧ W k ρ2, ct := fun ρ2 => ∃ k, k < n ∧ W k ρ2, bk := D.nx, rt := D.rt } ρ' else D.nx ρ'
theorem rs_while {K : PySem.W.Frag} (hc : RT K m tt dt) (hb : RS K m t ds) : RS K m (tWhile tt t) (dWhile dt ds) := ⟨fun {σ H ρ F D dD} er hq o => by
  obtain ⟨W, ⟨n0, w0⟩, turn⟩ := hq
  refine ⟨fun n σ' H' => ∃ ρ' F', ER K m σ' H' ρ' F' [] ∧ Fz m F H F' H' ∧ W n ρ', ⟨n0, ρ, F, er, Ex.refl _, w0⟩, ?_⟩
  rintro n σ' H' ⟨ρ', F', er', z, w⟩
  refine hc.run er' (turn n ρ' w) fun H2 b e2 er2 hb2 => ?_
  have z2 : Fz m F H F' H2 := Ex.trans z (Bh.ex er'.base e2)
  cases b with
  | true => exact ⟨fun σ3 H3 => ∃ k, k < n ∧ ∃ ρ3 F3, ER K m σ3 H3 ρ3 F3 [] ∧ Fz m F H F3 H3 ∧ W k ρ3, fun σ3 H3 ⟨k, hk, h⟩ => ⟨k, hk, h⟩,
      hb.run er2 hb2 ⟨fun σ4 H4 ρ4 F4 er4 z4 ⟨k, hk, h4⟩ => ⟨k, hk, ρ4, F4, er4, Ex.trans z2 z4, h4⟩, fun σ4 H4 ρ4 F4 er4 z4 h4 => o.nx σ4 H4 ρ4 F4 er4 (Ex.trans z2 z4) h4, fun σ4 H4 ρ4 F4 er4 z4 ⟨k, hk, h4⟩ => ⟨k, hk, ρ4, F4, er4, Ex.trans z2 z4, h4⟩, o.rt⟩⟩
  | false => exact o.nx σ' H2 ρ' F' er2 z2 hb2⟩
theorem s_while {c : Expr} (hp : PassesOwn (model X.prog X.w) X.A X.env X.xe) (hc : DPT X m c tt dt) (hb : DPSs X m body t ds) : DPS X m (.While c body [] pos) (tWhile tt t) (dWhile dt ds) := ⟨ps_while hp hc.pt hb.ps, rs_while hc.rt hb.rs⟩

/-! ### lists, tuples, ranges, texts -/
def diSeq (de : DE) : DI := fun ρ Q => de ρ fun x => match x with
  | .d (.list xs) => Q xs
  | .d (.tuple xs) => Q xs
  | _ => False
def diList (de : DE) : DI := fun ρ Q => de ρ fun x => match x with
  | .d (.list xs) => Q xs
  | _ => False
def diTup (de : DE) : DI := fun ρ Q => de ρ fun x => match x with
  | .d (.tuple xs) => Q xs
  | _ => False
theorem ri_list {K : PySem.W.Frag} (h : RE K m te de) : RI K m (iList K te) (diList de) := ⟨fun {σ H ρ F T R dQ} er hq k => h.run er hq fun H' v x e1 er1 vx hx => by
  split at hx
  · rename_i xs
    have r := vx.rep
    cases r with
    | lst hp ha =>
      rename_i a vs
      refine ⟨a, rfl, ⟨vs, SqL.of (hid_some.mp hp).2⟩, k H' _ xs e1 er1 (fun G' H2 z hb hf i => ⟨fun hi => ⟨vs, SqL.of (hid_some.mp (z _ _ hp)).2, by rw [ha.length]; exact hi⟩, fun x hx => ?_⟩) hx⟩
      obtain ⟨w, hw, rw'⟩ := ha.get hx
      refine ⟨⟨vs, w, SqL.of (hid_some.mp (z _ _ hp)).2, hw⟩, fun v H3 hy => ?_⟩
      obtain ⟨rfl, hu⟩ := hy
      have e2 := hu vs (SqL.of (hid_some.mp (z _ _ hp)).2)
      rw [hw] at e2
      cases e2
      exact ⟨Ex.refl _, Rep.mono z _ _ rw'⟩
  · exact hx.elim⟩
theorem ri_tup {K : PySem.W.Frag} (h : RE K m te de) : RI K m (iTup K te) (diTup de) := ⟨fun {σ H ρ F T R dQ} er hq k => h.run er hq fun H' v x e1 er1 vx hx => by
  split at hx
  · rename_i xs
    have r := vx.rep
    cases r with
    | tup hp ha =>
      rename_i a vs
      have q : ∀ {G' : List Addr} {H2 : Hp}, Ex (Bh m (F ++ T) H') (Bh m G' H2) → SqT K H2 a vs := fun z => Ex.ofBh.stp (z.stp hp)
      refine ⟨a, rfl, ⟨vs, Ex.ofBh.stp hp⟩, k H' _ xs e1 er1 (fun G' H2 z hb hf i => ⟨fun hi => ⟨vs, q z, by rw [ha.length]; exact hi⟩, fun x hx => ?_⟩) hx⟩
      obtain ⟨w, hw, rw'⟩ := ha.get hx
      refine ⟨⟨vs, w, q z, hw⟩, fun v H3 hy => ?_⟩
      obtain ⟨rfl, hu⟩ := hy
      have e2 := hu vs (q z)
      rw [hw] at e2
      cases e2
      exact ⟨Ex.refl _, Rep.mono z _ _ rw'⟩
  · exact hx.elim⟩
theorem i_list (h : DPE X m e te de) : DPI X m tg e (iList X.K te) (diList de) := ⟨pi_list h.pe, ri_list h.re⟩
theorem i_tup (h : DPE X m e te de) : DPI X m tg e (iTup X.K te) (diTup de) := ⟨pi_tup h.pe, ri_tup h.re⟩
/-- lo, lo + 1, .. (n of them) -/
def rngD (lo : Int) (n : Nat) : List PyData := (List.range n).map fun i => .int (lo + (i : Nat))
theorem rngD_len (lo : Int) (n : Nat) : (rngD lo n).length = n := by
  unfold rngD
  rw [List.length_map, List.length_range]
theorem rng_ok {K : PySem.W.Frag} {G : List Addr} {H : Hp} (lo : Int) (n : Nat) : ItOk K m G H (Itr lo n) (rngD lo n) := fun G' H2 z hb hf i => ⟨fun hi => by rw [rngD_len] at hi; exact hi, fun x hx => by
  unfold rngD at hx
  rw [List.getElem?_map] at hx
  by_cases hlt : i < n
  · rw [List.getElem?_range hlt] at hx
    cases hx
    exact ⟨hlt, fun v H3 ⟨e1, e2⟩ => by subst e1 e2; exact ⟨Ex.refl _, .int _⟩⟩
  · rw [List.getElem?_eq_none (by rw [List.length_range]; omega)] at hx
    cases hx⟩
def diRng1 (da : DA) : DI := fun ρ Q => da ρ fun xs => match xs with
  | [.d (.int j)] => (-(2 ^ 62) ≤ j ∧ j < 2 ^ 62) ∧ Q (rngD 0 j.toNat)
  | _ => False
def diRng2 (da : DA) : DI := fun ρ Q => da ρ fun xs => match xs with
  | [.d (.int i), .d (.int j)] => (-(2 ^ 62) ≤ i ∧ i < 2 ^ 62 ∧ -(2 ^ 62) ≤ j ∧ j < 2 ^ 62) ∧ Q (rngD i (j - i).toNat)
  | _ => False
theorem ri_rng1 {K : PySem.W.Frag} (h : RA K m ua va) : RI K m (iRng1 ua) (diRng1 va) := ⟨fun {σ H ρ F T R dQ} er hq k => h.run er hq fun H' vs xs e1 er1 vxs hx => by
  split at hx
  · obtain ⟨⟨h1, h2⟩, hx⟩ := hx
    cases vxs with
    | cons v1 vr =>
      cases vr
      rw [v1.int]
      exact ⟨_, rfl, h1, h2, k H' _ _ e1 er1 (rng_ok 0 _) hx⟩
  · exact hx.elim⟩
theorem ri_rng2 {K : PySem.W.Frag} (h : RA K m ua va) : RI K m (iRng2 ua) (diRng2 va) := ⟨fun {σ H ρ F T R dQ} er hq k => h.run er hq fun H' vs xs e1 er1 vxs hx => by
  split at hx
  · obtain ⟨h1, hx⟩ := hx
    cases vxs with
    | cons v1 vr =>
      cases vr with
      | cons v2 vr =>
        cases vr
        rw [v1.int, v2.int]
        exact ⟨_, _, rfl, h1, k H' _ _ e1 er1 (rng_ok _ _) hx⟩
  · exact hx.elim⟩
theorem i_rng1 {a : Expr} (hg : Gl X "range") (hm : X.mg "range" = none) (ha : DPA X m [a] ua va) (hs : starEach [a] X.env = [(false, eval a X.env)] := by rfl) : DPI X m tg (.Call (.Name "range" p) [a] [] pos) (iRng1 ua) (diRng1 va) := ⟨pi_range1 hg hm ha.pa hs, ri_rng1 ha.ra⟩
theorem i_rng2 {a b : Expr} (hg : Gl X "range") (hm : X.mg "range" = none) (ha : DPA X m [a, b] ua va) (hs : starEach [a, b] X.env = [(false, eval a X.env), (false, eval b X.env)] := by rfl) (hs2 : starEach [b] X.env = [(false, eval b X.env)] := by rfl) :
    DPI X m tg (.Call (.Name "range" p) [a, b] [] pos) (iRng2 ua) (diRng2 va) := ⟨pi_range2 hg hm ha.pa hs hs2, ri_rng2 ha.ra⟩
/-- zip of two lists, of two tuples -/
def zipD : List PyData → List PyData → List PyData
  | x :: xs, y :: ys => .tuple [x, y] :: zipD xs ys
  | _, _ => []
def diZip (da : DA) : DI := fun ρ Q => da ρ fun xs => match xs with
  | [.d (.tuple xs), .d (.tuple ys)] => Q (zipD xs ys)
  | [.d (.list xs), .d (.list ys)] => Q (zipD xs ys)
  | _ => False
theorem zipD_get : ∀ {xs ys : List PyData} {i : Nat} {z : PyData}, (zipD xs ys)[i]? = some z → ∃ x y, xs[i]? = some x ∧ ys[i]? = some y ∧ z = .tuple [x, y]
  | x :: xs, y :: ys, 0, z, h => by
    cases h
    exact ⟨x, y, rfl, rfl, rfl⟩
  | x :: xs, y :: ys, i + 1, z, h => by
    obtain ⟨a, b, h1, h2, h3⟩ := zipD_get (xs := xs) (ys := ys) (i := i) h
    exact ⟨a, b, h1, h2, h3⟩
  | [], _, i, z, h => by
    simp [zipD] at h
  | _ :: _, [], i, z, h => by
    simp [zipD] at h
theorem zipD_len : ∀ (xs ys : List PyData) (i : Nat), (zipD xs ys).length ≤ i → xs.length ≤ i ∨ ys.length ≤ i
  | x :: xs, y :: ys, 0, h => by simp [zipD] at h
  | x :: xs, y :: ys, i + 1, h => by
    have h' : (zipD xs ys).length ≤ i := Nat.le_of_succ_le_succ h
    rcases zipD_len xs ys i h' with z | z
    · exact .inl (Nat.succ_le_succ z)
    · exact .inr (Nat.succ_le_succ z)
  | [], _, i, _ => .inl (Nat.zero_le _)
  | _ :: _, [], i, _ => .inr (Nat.zero_le _)
theorem new_pair {K : PySem.W.Frag} {G : List Addr} {H : Hp} {q : Addr} {v w : V} {x y : PyData} (hb : Base m H) (hf : ∀ a ∈ G, H a ≠ none) (hn : H q = none) (r1 : Rep K (Bh m G H) v x) (r2 : Rep K (Bh m G H) w y) :
    Rep K (Bh m G (upd H q (.tup [v, w]))) (.ref q) (.tuple [x, y]) :=
  .tup (.inl (.inl (hid_some.mpr ⟨hS_false.mpr ⟨hb.s0 hn, fun z => hf q z hn⟩, upd_same⟩))) (.cons (Rep.mono (Bh.ex hb (Ext.new hn)) _ _ r1) (.cons (Rep.mono (Bh.ex hb (Ext.new hn)) _ _ r2) .nil))
theorem ri_zip {K : PySem.W.Frag} (h : RA K m ua va) : RI K m (RZ.iZipA K ua) (diZip va) := ⟨fun {σ H ρ F T R dQ} er hq k => h.run er hq fun H' vs xs e1 er1 vxs hx => by
  split at hx
  · cases vxs with
    | cons v1 vr =>
      cases vr with
      | cons v2 vr =>
        cases vr
        cases v1.rep with
        | tup hp ha =>
          cases v2.rep with
          | tup hp2 ha2 =>
            rename_i a1 ws1 a2 ws2
            refine ⟨a1, a2, ws1, ws2, rfl, .inr ⟨Ex.ofBh.stp hp, Ex.ofBh.stp hp2, k H' _ _ e1 er1 (fun G' H2 z hb hf i => ⟨fun hi => ⟨ws1, ws2, Ex.ofBh.stp (z.stp hp), Ex.ofBh.stp (z.stp hp2), ?_⟩, fun x hx => ?_⟩) hx⟩⟩
            · rw [ha.length, ha2.length]
              exact zipD_len _ _ _ hi
            · obtain ⟨x1, x2, g1, g2, rfl⟩ := zipD_get hx
              obtain ⟨w1, hw1, r1⟩ := ha.get g1
              obtain ⟨w2, hw2, r2⟩ := ha2.get g2
              refine ⟨⟨ws1, ws2, w1, w2, Ex.ofBh.stp (z.stp hp), Ex.ofBh.stp (z.stp hp2), hw1, hw2⟩, fun v H3 hy => ?_⟩
              obtain ⟨q, y1, y2, rfl, hn, rfl, f1, f2⟩ := hy
              have f1 := f1 ws1 (Ex.ofBh.stp (z.stp hp))
              have f2 := f2 ws2 (Ex.ofBh.stp (z.stp hp2))
              rw [hw1] at f1
              rw [hw2] at f2
              cases f1
              cases f2
              exact ⟨Ex.new hn, new_pair hb hf hn (Rep.mono z _ _ r1) (Rep.mono z _ _ r2)⟩
  · cases vxs with
    | cons v1 vr =>
      cases vr with
      | cons v2 vr =>
        cases vr
        cases v1.rep with
        | lst hp ha =>
          cases v2.rep with
          | lst hp2 ha2 =>
            rename_i a1 ws1 a2 ws2
            have q1 : ∀ {G' : List Addr} {H2 : Hp}, Ex (Bh m (F ++ T) H') (Bh m G' H2) → SqL K H2 a1 ws1 := fun z => SqL.of (hid_some.mp (z _ _ hp)).2
            have q2 : ∀ {G' : List Addr} {H2 : Hp}, Ex (Bh m (F ++ T) H') (Bh m G' H2) → SqL K H2 a2 ws2 := fun z => SqL.of (hid_some.mp (z _ _ hp2)).2
            refine ⟨a1, a2, ws1, ws2, rfl, .inl ⟨SqL.of (hid_some.mp hp).2, SqL.of (hid_some.mp hp2).2, k H' _ _ e1 er1 (fun G' H2 z hb hf i => ⟨fun hi => ⟨ws1, ws2, q1 z, q2 z, ?_⟩, fun x hx => ?_⟩) hx⟩⟩
            · rw [ha.length, ha2.length]
              exact zipD_len _ _ _ hi
            · obtain ⟨x1, x2, g1, g2, rfl⟩ := zipD_get hx
              obtain ⟨w1, hw1, r1⟩ := ha.get g1
              obtain ⟨w2, hw2, r2⟩ := ha2.get g2
              refine ⟨⟨ws1, ws2, w1, w2, q1 z, q2 z, hw1, hw2⟩, fun v H3 hy => ?_⟩
              obtain ⟨q, y1, y2, rfl, hn, rfl, f1, f2⟩ := hy
              have f1 := f1 ws1 (q1 z)
              have f2 := f2 ws2 (q2 z)
              rw [hw1] at f1
              rw [hw2] at f2
              cases f1
              cases f2
              exact ⟨Ex.new hn, new_pair hb hf hn (Rep.mono z _ _ r1) (Rep.mono z _ _ r2)⟩
  · exact hx.elim⟩
theorem i_zip {e e2 : Expr} {tpos : Pos} {elts : List Expr} {kk : Nat} (hg : Gl X "zip") (hm : X.mg "zip" = none) (ha : DPA X m [e, e2] ua va) (hs : starEach [e, e2] X.env = (false, eval e X.env) :: starEach [e2] X.env := by rfl) (hpl : (backTo pos (starEach [e2] X.env)).any (·.1) = false := by rfl) :
    DPI X m (.Tuple elts kk tpos) (.Call (.Name "zip" p) [e, e2] [] pos) (RZ.iZipA X.K ua) (diZip va) := ⟨RZ.pi_zipA hg hm ha.pa hs hpl, ri_zip ha.ra⟩

/-! ### comprehensions -/
structure DPTs (X : Cx) (m : Am) (ifs : List Expr) (tt : TT) (dt : DT) : Prop where
  pt : PTs X ifs tt
  rt : RT X.K m tt dt
def dYes : DT := fun _ Q => Q true
theorem rt_yes {K : PySem.W.Frag} : RT K m tYes dYes := ⟨fun {σ H ρ F T Q dQ} er hq k => k H true (Ext.refl _ _) er hq⟩
theorem ts_nil : DPTs X m [] tYes dYes := ⟨pts_nil, rt_yes⟩
theorem ts_one (h : DPT X m a tt dt) : DPTs X m [a] tt dt := ⟨pts_one h.pt, h.rt⟩
def dLcL (g : DG) (dt : DT) (de : DE) (ρ0 : DEnv) : List PyData → List PyData → (List PyData → Prop) → Prop
  | [], acc, Q => Q acc
  | x :: xs, acc, Q => g x ρ0 fun ρ' => dt ρ' fun b => if b = true then de ρ' fun y => match y with
      | .d y => acc.length < sizeLine ∧ dLcL g dt de ρ0 xs (acc ++ [y]) Q
      | _ => False
    else dLcL g dt de ρ0 xs acc Q
def dLc (di : DI) (g : DG) (dt : DT) (de : DE) (vs : List Nat) : DN := fun ρ Q => di ρ fun xs => dLcL g dt de (wipeD ρ vs) xs [] fun ys => Q (ys.map OV.d)
theorem wipe_comm (σ : L2.St) (w : Nat) : ∀ vs : List Nat, L2.wipe (σ.set w none) vs = (L2.wipe σ vs).set w none
  | [] => rfl
  | v :: vs => by
    show (L2.wipe (σ.set w none) vs).set v none = ((L2.wipe σ vs).set v none).set w none
    rw [wipe_comm σ w vs]
    by_cases h : w = v
    · rw [h]
    · exact List.set_comm _ _ h
theorem wipe_idem (σ : L2.St) : ∀ vs : List Nat, L2.wipe (L2.wipe σ vs) vs = L2.wipe σ vs
  | [] => rfl
  | v :: vs => by
    show (L2.wipe ((L2.wipe σ vs).set v none) vs).set v none = (L2.wipe σ vs).set v none
    rw [wipe_comm, wipe_idem σ vs, List.set_set]
theorem rn_lc {K : PySem.W.Frag} {vs : List Nat} (hi : RI K m wi di) (hg : RG K m g dg js) (ht : RT K m tt dt) (he : RE K m te de) (hj : ∀ j ∈ js, j ∈ vs) : RN K m (tLc wi g tt te vs) (dLc di dg dt de vs) := ⟨fun {σ H ρ F T Q dQ} er hq k => hi.run er hq fun H1 J xs e1 er1 it hx D hD => by
  have er2 := er1.own (o := .lst []) hD
  refine ⟨fun i n H' => n = xs.length - i ∧ ∃ acc us, H' D = some (.lst us) ∧ RepAll K (Bh m (F ++ (T ++ [D])) H') us acc ∧ ER K m σ H' ρ F (T ++ [D]) ∧ Ext m.P H1 H' ∧
    dLcL dg dt de (wipeD ρ vs) (xs.drop i) acc (fun ys => dQ (ys.map OV.d)), ⟨xs.length, rfl, [], [], upd_same, .nil, er2, Ext.new hD, hx⟩, ?_⟩
  rintro i n H' ⟨rfl, acc, us, hDl, ra, er', e2, hl⟩
  have zH : Ex (Bh m (F ++ T) H1) (Bh m (F ++ (T ++ [D])) H') := Bh.go er1.base e2 fun a ha => by
    rw [← List.append_assoc] at ha
    rcases List.mem_append.mp ha with z | z
    · exact .inl z
    · rw [List.mem_singleton.mp z]
      exact .inr hD
  have it' := it _ H' zH er'.base (fun a ha => (er'.fresh a ha).2) i
  by_cases hlt : i < xs.length
  · have hd : xs.drop i = xs[i] :: xs.drop (i + 1) := List.drop_eq_getElem_cons hlt
    rw [hd] at hl
    obtain ⟨go, yl⟩ := it'.2 xs[i] (List.getElem?_eq_getElem hlt)
    refine .inr ⟨go, fun H2 => ∃ acc us, H2 D = some (.lst us) ∧ RepAll K (Bh m (F ++ (T ++ [D])) H2) us acc ∧ ER K m σ H2 ρ F (T ++ [D]) ∧ Ext m.P H1 H2 ∧
      dLcL dg dt de (wipeD ρ vs) (xs.drop (i + 1)) acc (fun ys => dQ (ys.map OV.d)), fun H2 ⟨acc, us, h1, h2, h3, h4, h5⟩ => ⟨xs.length - (i + 1), by omega, rfl, acc, us, h1, h2, h3, h4, h5⟩, fun v H2 hy => ?_⟩
    obtain ⟨e3, r3⟩ := yl v H2 hy
    have po2 : PotOk m.P H2 := fun q hq => by
      obtain ⟨x, y, z, e, i⟩ := er'.base.pot q hq
      exact ⟨x, y, z, e3 q _ e, i⟩
    have erH2 := er'.step (Ext.of_ex e3) po2
    obtain ⟨Fw, Tw, erw, pw⟩ := erH2.wipe vs
    refine hg.run erw (Rep.mono (Bh.perm pw.symm) _ _ r3) hl fun σ3 ρ3 F3 T3 er3 p3 w3 h3 => ⟨by rw [w3 vs hj]; exact wipe_idem σ vs, ht.run er3 h3 fun H4 b e4 er4 h4 => ?_⟩
    have p3' : List.Perm (F3 ++ T3) (F ++ (T ++ [D])) := p3.trans pw
    have hD4 : ∀ {Hx : Hp}, Ext m.P H2 Hx → Hx D = some (.lst us) := fun e => by
      have h1 := erH2.keepF e (List.mem_append_right F (List.mem_append_right T List.mem_cons_self))
      rw [h1]
      exact e3 D _ hDl
    cases b with
    | true =>
      refine he.run er4 h4 fun H5 w y e5 er5 vy h5 => ?_
      split at h5
      · rename_i y
        obtain ⟨hsz, h5⟩ := h5
        have e25 : Ext m.P H2 H5 := e4.trans e5
        have e15 : Ext m.P H1 H5 := (e2.trans (Ext.of_ex e3)).trans e25
        have er5' := erH2.step e25 er5.base.pot
        have hDm : D ∈ T ++ [D] := List.mem_append_right _ List.mem_cons_self
        have er6 := er5'.wr (o := .lst (us ++ [w])) hDm
        have zz : Ex (Bh m (F ++ (T ++ [D])) H5) (Bh m (F ++ (T ++ [D])) (upd H5 D (.lst (us ++ [w])))) := Bh.chg (fun a ha => .inl ha) fun a ha _ => upd_ne fun z => ha (by rw [z]; exact List.mem_append_right _ hDm)
        refine ⟨us, hD4 e25, by rw [ra.length]; exact hsz, acc ++ [y], us ++ [w], upd_same, ?_, er6, ?_, h5⟩
        · refine RepAll.append (RepAll.mono (Ex.trans (Bh.ex er'.base ((Ext.of_ex e3).trans e25)) zz) _ _ ra) (.cons (Rep.mono (Ex.trans (Bh.perm p3') zz) _ _ vy.rep) .nil)
        · exact e15.mut hD
      · exact h5.elim
    | false =>
      have e24 : Ext m.P H1 H4 := (e2.trans (Ext.of_ex e3)).trans e4
      exact ⟨acc, us, hD4 e4, RepAll.mono (Bh.ex er'.base ((Ext.of_ex e3).trans e4)) _ _ ra, erH2.step e4 er4.base.pot, e24, h4⟩
  · have hd : xs.drop i = [] := List.drop_of_length_le (by omega)
    rw [hd] at hl
    refine .inl ⟨it'.1 (by omega), k H' (.ref D) _ [D] (e1.trans e2) (fun a ha => ?_) er' (.lst hDl (OwnAll.plain ra)) hl⟩
    rw [List.mem_singleton.mp ha]
    exact Ext.back er1.base.pot e1 hD⟩
end
end DL

/-! ==== DL8 ==== -/
set_option Elab.async false
set_option linter.all false
set_option maxRecDepth 100000
set_option maxHeartbeats 4000000
namespace DL
open PySem PySem.Spec PyProof.Rows L2

section
variable {X : Cx} {m : Am} {tg a b c e elt iter : Expr} {es ifs : List Expr} {pos p : Pos} {t u : TS} {ds du : DS} {te ti to : TE} {de dO : DE} {tt : TT} {dt : DT} {st : Stmt} {rest sts body : List Stmt} {dn : DN} {wi : TI} {di : DI} {g : TG} {dg : DG} {js : List Nat} {ua : TA} {va : DA}
variable {scope : Scope} {own : List (Str × Nat)}
theorem n_lc (hc : X.calm = true) (hN : X.N.Nodup) (hi : DPI X m tg iter wi di) (ok : BlkOk X.N X.env.scope scope own)
    (hg : ∀ (s : Shared) (H : Hp) (C : Addr) (cl : List (Str × Addr)) (fp : List Addr), DPG (X.blk s H scope (compEnvC scope cl C X.env) fp) m tg g dg js) (ht : ∀ (s : Shared) (H : Hp) (C : Addr) (cl : List (Str × Addr)) (fp : List Addr), DPTs (X.blk s H scope (compEnvC scope cl C X.env) fp) m ifs tt dt)
    (he : ∀ (s : Shared) (H : Hp) (C : Addr) (cl : List (Str × Addr)) (fp : List Addr), DPE (X.blk s H scope (compEnvC scope cl C X.env) fp) m elt te de) (hj : ∀ j ∈ js, j ∈ own.map (·.2) := by decide) (hs : ∀ x, foldedSetIterable iter X.env x = pure x := by intro _; rfl) :
    DPN X m (.ListComp elt [⟨tg, iter, ifs, 0⟩] scope pos) (tLc wi g tt te (own.map (·.2))) (dLc di dg dt de (own.map (·.2))) :=
  ⟨pe_lc hc hN hi.pi ok (fun s H C cl fp => (hg s H C cl fp).pg) (fun s H C cl fp => (ht s H C cl fp).pt) (fun s H C cl fp => (he s H C cl fp).pe) hs,
    rn_lc hi.ri (hg X.s_0 X.H_0 0 [] []).rg (ht X.s_0 X.H_0 0 [] []).rt (he X.s_0 X.H_0 0 [] []).re hj⟩
/-- x = [..] on one line -/
theorem s_setLc {i : Nat} {y : Str} {py spos : Pos} (hc : X.calm = true) (hN : X.N.Nodup) (hi : DPI X m tg iter wi di) (ok : BlkOk X.N X.env.scope scope own)
    (hg : ∀ (s : Shared) (H : Hp) (C : Addr) (cl : List (Str × Addr)) (fp : List Addr), DPG (X.blk s H scope (compEnvC scope cl C X.env) fp) m tg g dg js) (ht : ∀ (s : Shared) (H : Hp) (C : Addr) (cl : List (Str × Addr)) (fp : List Addr), DPTs (X.blk s H scope (compEnvC scope cl C X.env) fp) m ifs tt dt)
    (he : ∀ (s : Shared) (H : Hp) (C : Addr) (cl : List (Str × Addr)) (fp : List Addr), DPE (X.blk s H scope (compEnvC scope cl C X.env) fp) m elt te de) (hj : ∀ j ∈ js, j ∈ own.map (·.2) := by decide)
    (hsw : swapsWith (.ListComp elt [⟨tg, iter, ifs, 0⟩] scope pos) (some (.Name y py)) spos.line X.env = pure true := by exact sw_true rfl rfl rfl (by decide +kernel)) (hy : X.N[i]? = some y := by rfl) (hyl : X.env.scope.names.lookup y = some .local := by rfl) (hs : ∀ x, foldedSetIterable iter X.env x = pure x := by intro _; rfl) :
    DPS X m (.Assign [.Name y py] (.ListComp elt [⟨tg, iter, ifs, 0⟩] scope pos) spos) (tAsg (tLc wi g tt te (own.map (·.2))) (gName i)) (dSet i (dNE (dLc di dg dt de (own.map (·.2))))) :=
  ⟨ps_setLc hc hN hy hyl hsw hi.pi ok (fun s H C cl fp => (hg s H C cl fp).pg) (fun s H C cl fp => (ht s H C cl fp).pt) (fun s H C cl fp => (he s H C cl fp).pe) hs,
    rs_set (re_new (rn_lc hi.ri (hg X.s_0 X.H_0 0 [] []).rg (ht X.s_0 X.H_0 0 [] []).rt (he X.s_0 X.H_0 0 [] []).re hj))⟩
theorem s_setLcN {i : Nat} {y : Str} {py spos : Pos} (hc : X.calm = true) (hN : X.N.Nodup) (hi : DPI X m tg iter wi di) (ok : BlkOk X.N X.env.scope scope own)
    (hg : ∀ (s : Shared) (H : Hp) (C : Addr) (cl : List (Str × Addr)) (fp : List Addr), DPG (X.blk s H scope (compEnvC scope cl C X.env) fp) m tg g dg js) (ht : ∀ (s : Shared) (H : Hp) (C : Addr) (cl : List (Str × Addr)) (fp : List Addr), DPTs (X.blk s H scope (compEnvC scope cl C X.env) fp) m ifs tt dt)
    (he : ∀ (s : Shared) (H : Hp) (C : Addr) (cl : List (Str × Addr)) (fp : List Addr), DPE (X.blk s H scope (compEnvC scope cl C X.env) fp) m elt te de) (hj : ∀ j ∈ js, j ∈ own.map (·.2) := by decide)
    (hsw : swapsWith (.ListComp elt [⟨tg, iter, ifs, 0⟩] scope pos) (some (.Name y py)) spos.line X.env = pure true := by exact sw_true rfl rfl rfl (by decide +kernel)) (hy : X.N[i]? = some y := by rfl) (hyl : X.env.scope.names.lookup y = some .local := by rfl) (hs : ∀ x, foldedSetIterable iter X.env x = pure x := by intro _; rfl) :
    DPS X m (.Assign [.Name y py] (.ListComp elt [⟨tg, iter, ifs, 0⟩] scope pos) spos) (tAsg (tLc wi g tt te (own.map (·.2))) (gName i)) (dSetN i (dLc di dg dt de (own.map (·.2)))) :=
  ⟨ps_setLc hc hN hy hyl hsw hi.pi ok (fun s H C cl fp => (hg s H C cl fp).pg) (fun s H C cl fp => (ht s H C cl fp).pt) (fun s H C cl fp => (he s H C cl fp).pe) hs,
    rs_setN (rn_lc hi.ri (hg X.s_0 X.H_0 0 [] []).rg (ht X.s_0 X.H_0 0 [] []).rt (he X.s_0 X.H_0 0 [] []).re hj)⟩

/-! ### a list of new own lists -/
def dLcNL (g : DG) (dt : DT) (dn : DN) (ρ0 : DEnv) : List PyData → List OV → (List OV → Prop) → Prop
  | [], acc, Q => Q acc
  | x :: xs, acc, Q => g x ρ0 fun ρ' => dt ρ' fun b => if b = true then dn ρ' fun ys => acc.length < sizeLine ∧ dLcNL g dt dn ρ0 xs (acc ++ [.lst ys]) Q
    else dLcNL g dt dn ρ0 xs acc Q
def dLcN (di : DI) (g : DG) (dt : DT) (dn : DN) (vs : List Nat) : DN := fun ρ Q => di ρ fun xs => dLcNL g dt dn (wipeD ρ vs) xs [] Q
theorem ER.join {K : PySem.W.Frag} {σ σ5 : L2.St} {H H5 : Hp} {ρ ρ5 : DEnv} {F T F5 T5 fq : List Addr} (er : ER K m σ H ρ F T) (er5 : ER K m σ5 H5 ρ5 F5 (T5 ++ fq)) (p : List.Perm (F5 ++ T5) (F ++ T)) (e : Ext m.P H H5) (hf : ∀ a ∈ fq, H a = none) :
    ER K m σ H5 ρ F (T ++ fq) := by
  have p2 : List.Perm (F5 ++ (T5 ++ fq)) (F ++ (T ++ fq)) := by
    rw [← List.append_assoc, ← List.append_assoc]
    exact p.append_right fq
  refine ⟨er5.base, er.slots.same (Bh.go er.base e fun a ha => ?_) (fun a ha => er.keepF e (List.mem_append_left _ ha)), p2.nodup_iff.mp er5.nd, fun a ha => er5.fresh a (p2.mem_iff.mpr ha)⟩
  rw [← List.append_assoc] at ha
  rcases List.mem_append.mp ha with z | z
  · exact .inl z
  · exact .inr (hf a z)
theorem rn_lcN {K : PySem.W.Frag} {vs : List Nat} (hi : RI K m wi di) (hg : RG K m g dg js) (ht : RT K m tt dt) (he : RN K m te dn) (hj : ∀ j ∈ js, j ∈ vs) : RN K m (tLc wi g tt te vs) (dLcN di dg dt dn vs) := ⟨fun {σ H ρ F T Q dQ} er hq k => hi.run er hq fun H1 J xs e1 er1 it hx D hD => by
  have er2 := er1.own (o := .lst []) hD
  refine ⟨fun i n H' => n = xs.length - i ∧ ∃ acc us fps, H' D = some (.lst us) ∧ OwnAll K m (Bh m (F ++ (T ++ (D :: fps))) H') H' us acc fps ∧ ER K m σ H' ρ F (T ++ (D :: fps)) ∧ Ext m.P H1 H' ∧ (∀ a ∈ fps, H1 a = none) ∧
    dLcNL dg dt dn (wipeD ρ vs) (xs.drop i) acc dQ, ⟨xs.length, rfl, [], [], [], upd_same, .nil, er2, Ext.new hD, fun a z => (nomatch z), hx⟩, ?_⟩
  rintro i n H' ⟨rfl, acc, us, fps, hDl, ra, er', e2, hf1, hl⟩
  have zH : Ex (Bh m (F ++ T) H1) (Bh m (F ++ (T ++ (D :: fps))) H') := Bh.go er1.base e2 fun a ha => by
    rw [← List.append_assoc] at ha
    rcases List.mem_append.mp ha with z | z
    · exact .inl z
    · rcases List.mem_cons.mp z with z | z
      · exact .inr (by rw [z]; exact hD)
      · exact .inr (hf1 a z)
  have it' := it _ H' zH er'.base (fun a ha => (er'.fresh a ha).2) i
  by_cases hlt : i < xs.length
  · have hd : xs.drop i = xs[i] :: xs.drop (i + 1) := List.drop_eq_getElem_cons hlt
    rw [hd] at hl
    obtain ⟨go, yl⟩ := it'.2 xs[i] (List.getElem?_eq_getElem hlt)
    refine .inr ⟨go, fun H2 => ∃ acc us fps, H2 D = some (.lst us) ∧ OwnAll K m (Bh m (F ++ (T ++ (D :: fps))) H2) H2 us acc fps ∧ ER K m σ H2 ρ F (T ++ (D :: fps)) ∧ Ext m.P H1 H2 ∧ (∀ a ∈ fps, H1 a = none) ∧
      dLcNL dg dt dn (wipeD ρ vs) (xs.drop (i + 1)) acc dQ, fun H2 ⟨acc, us, fps, h1, h2, h3, h4, h5, h6⟩ => ⟨xs.length - (i + 1), by omega, rfl, acc, us, fps, h1, h2, h3, h4, h5, h6⟩, fun v H2 hy => ?_⟩
    obtain ⟨e3, r3⟩ := yl v H2 hy
    have po2 : PotOk m.P H2 := fun q hq => by
      obtain ⟨x, y, z, e, i⟩ := er'.base.pot q hq
      exact ⟨x, y, z, e3 q _ e, i⟩
    have erH2 := er'.step (Ext.of_ex e3) po2
    obtain ⟨Fw, Tw, erw, pw⟩ := erH2.wipe vs
    refine hg.run erw (Rep.mono (Bh.perm pw.symm) _ _ r3) hl fun σ3 ρ3 F3 T3 er3 p3 w3 h3 => ⟨by rw [w3 vs hj]; exact wipe_idem σ vs, ht.run er3 h3 fun H4 b e4 er4 h4 => ?_⟩
    have p3' : List.Perm (F3 ++ T3) (F ++ (T ++ (D :: fps))) := p3.trans pw
    have hDm : D ∈ T ++ (D :: fps) := List.mem_append_right _ List.mem_cons_self
    have kp : ∀ {Hx : Hp}, Ext m.P H2 Hx → ∀ a ∈ D :: fps, Hx a = H' a := fun e a ha => by
      have ha2 : a ∈ F ++ (T ++ (D :: fps)) := List.mem_append_right F (List.mem_append_right T ha)
      rw [erH2.keepF e ha2, er'.keepF (Ext.of_ex e3) ha2]
    have ndD := (List.nodup_append.mp (List.nodup_append.mp er'.nd).2.1).2.1
    cases b with
    | true =>
      refine he.run er4 h4 fun H5 w ys fq e5 hf5 er5 ow h5 => ?_
      obtain ⟨hsz, h5⟩ := h5
      have e25 : Ext m.P H2 H5 := e4.trans e5
      have e15 : Ext m.P H1 H5 := (e2.trans (Ext.of_ex e3)).trans e25
      have hfq : ∀ a ∈ fq, H2 a = none := fun a ha => Ext.back er4.base.pot e4 (hf5 a ha)
      have hfq1 : ∀ a ∈ fq, H1 a = none := fun a ha => Ext.back po2 (e2.trans (Ext.of_ex e3)) (hfq a ha)
      have erJ := erH2.join er5 p3' e25 hfq
      have eqT : (T ++ (D :: fps)) ++ fq = T ++ (D :: (fps ++ fq)) := by rw [List.append_assoc]; rfl
      rw [eqT] at erJ
      have hDm' : D ∈ T ++ (D :: (fps ++ fq)) := List.mem_append_right _ List.mem_cons_self
      have er6 := erJ.wr (o := .lst (us ++ [w])) hDm'
      have zz : Ex (Bh m (F ++ (T ++ (D :: (fps ++ fq)))) H5) (Bh m (F ++ (T ++ (D :: (fps ++ fq)))) (upd H5 D (.lst (us ++ [w])))) := Bh.chg (fun a ha => .inl ha) fun a ha _ => upd_ne fun z => ha (by rw [z]; exact List.mem_append_right _ hDm')
      have z25 : Ex (Bh m (F ++ (T ++ (D :: fps))) H') (Bh m (F ++ (T ++ (D :: (fps ++ fq)))) H5) := Ex.trans (Bh.ex er'.base (Ext.of_ex e3)) (Bh.go erH2.base e25 fun a ha => by
        rw [← eqT, ← List.append_assoc] at ha
        rcases List.mem_append.mp ha with z | z
        · exact .inl z
        · exact .inr (hfq a z))
      have p5 : List.Perm (F3 ++ (T3 ++ fq)) (F ++ (T ++ (D :: (fps ++ fq)))) := by
        rw [← eqT, ← List.append_assoc, ← List.append_assoc F]
        exact p3'.append_right fq
      have dq : ∀ a ∈ fq, a ≠ D := fun a ha z => by
        have h1 := (erH2.fresh D (List.mem_append_right _ hDm)).2
        rw [z] at ha
        exact h1 (hfq D ha)
      have df : ∀ a ∈ fps, a ≠ D := fun a ha z => (List.nodup_cons.mp ndD).1 (by rw [← z]; exact ha)
      refine ⟨us, by rw [kp e25 D List.mem_cons_self]; exact hDl, by rw [ra.len]; exact hsz, acc ++ [.lst ys], us ++ [w], fps ++ fq, upd_same, ?_, er6, e15.mut hD, fun a ha => ?_, h5⟩
      · refine OwnAll.app (OwnAll.same (Ex.trans z25 zz) _ _ _ (fun a ha => ?_) ra) (OwnAll.one (Own.same (Ex.trans (Bh.perm p5) zz) _ _ _ (fun a ha => upd_ne (dq a ha)) ow))
        rw [upd_ne (df a ha)]
        exact kp e25 a (List.mem_cons_of_mem _ ha)
      · rcases List.mem_append.mp ha with z | z
        · exact hf1 a z
        · exact hfq1 a z
    | false =>
      have e24 : Ext m.P H1 H4 := (e2.trans (Ext.of_ex e3)).trans e4
      refine ⟨acc, us, fps, by rw [kp e4 D List.mem_cons_self]; exact hDl, OwnAll.same (Bh.ex er'.base ((Ext.of_ex e3).trans e4)) _ _ _ (fun a ha => kp e4 a (List.mem_cons_of_mem _ ha)) ra, erH2.step e4 er4.base.pot, e24, hf1, h4⟩
  · have hd : xs.drop i = [] := List.drop_of_length_le (by omega)
    rw [hd] at hl
    refine .inl ⟨it'.1 (by omega), k H' (.ref D) _ (D :: fps) (e1.trans e2) (fun a ha => ?_) er' (.lst hDl ra) hl⟩
    rcases List.mem_cons.mp ha with z | z
    · rw [z]
      exact Ext.back er1.base.pot e1 hD
    · exact Ext.back er1.base.pot e1 (hf1 a z)⟩
theorem n_lcN (hc : X.calm = true) (hN : X.N.Nodup) (hi : DPI X m tg iter wi di) (ok : BlkOk X.N X.env.scope scope own)
    (hg : ∀ (s : Shared) (H : Hp) (C : Addr) (cl : List (Str × Addr)) (fp : List Addr), DPG (X.blk s H scope (compEnvC scope cl C X.env) fp) m tg g dg js) (ht : ∀ (s : Shared) (H : Hp) (C : Addr) (cl : List (Str × Addr)) (fp : List Addr), DPTs (X.blk s H scope (compEnvC scope cl C X.env) fp) m ifs tt dt)
    (he : ∀ (s : Shared) (H : Hp) (C : Addr) (cl : List (Str × Addr)) (fp : List Addr), DPN (X.blk s H scope (compEnvC scope cl C X.env) fp) m elt te dn) (hj : ∀ j ∈ js, j ∈ own.map (·.2) := by decide) (hs : ∀ x, foldedSetIterable iter X.env x = pure x := by intro _; rfl) :
    DPN X m (.ListComp elt [⟨tg, iter, ifs, 0⟩] scope pos) (tLc wi g tt te (own.map (·.2))) (dLcN di dg dt dn (own.map (·.2))) :=
  ⟨pe_lc hc hN hi.pi ok (fun s H C cl fp => (hg s H C cl fp).pg) (fun s H C cl fp => (ht s H C cl fp).pt) (fun s H C cl fp => (he s H C cl fp).pe) hs,
    rn_lcN hi.ri (hg X.s_0 X.H_0 0 [] []).rg (ht X.s_0 X.H_0 0 [] []).rt (he X.s_0 X.H_0 0 [] []).rn hj⟩
theorem s_setLcNN {i : Nat} {y : Str} {py spos : Pos} (hc : X.calm = true) (hN : X.N.Nodup) (hi : DPI X m tg iter wi di) (ok : BlkOk X.N X.env.scope scope own)
    (hg : ∀ (s : Shared) (H : Hp) (C : Addr) (cl : List (Str × Addr)) (fp : List Addr), DPG (X.blk s H scope (compEnvC scope cl C X.env) fp) m tg g dg js) (ht : ∀ (s : Shared) (H : Hp) (C : Addr) (cl : List (Str × Addr)) (fp : List Addr), DPTs (X.blk s H scope (compEnvC scope cl C X.env) fp) m ifs tt dt)
    (he : ∀ (s : Shared) (H : Hp) (C : Addr) (cl : List (Str × Addr)) (fp : List Addr), DPN (X.blk s H scope (compEnvC scope cl C X.env) fp) m elt te dn) (hj : ∀ j ∈ js, j ∈ own.map (·.2) := by decide)
    (hsw : swapsWith (.ListComp elt [⟨tg, iter, ifs, 0⟩] scope pos) (some (.Name y py)) spos.line X.env = pure true := by exact sw_true rfl rfl rfl (by decide +kernel)) (hy : X.N[i]? = some y := by rfl) (hyl : X.env.scope.names.lookup y = some .local := by rfl) (hs : ∀ x, foldedSetIterable iter X.env x = pure x := by intro _; rfl) :
    DPS X m (.Assign [.Name y py] (.ListComp elt [⟨tg, iter, ifs, 0⟩] scope pos) spos) (tAsg (tLc wi g tt te (own.map (·.2))) (gName i)) (dSetN i (dLcN di dg dt dn (own.map (·.2)))) :=
  ⟨ps_setLc hc hN hy hyl hsw hi.pi ok (fun s H C cl fp => (hg s H C cl fp).pg) (fun s H C cl fp => (ht s H C cl fp).pt) (fun s H C cl fp => (he s H C cl fp).pe) hs,
    rs_setN (rn_lcN hi.ri (hg X.s_0 X.H_0 0 [] []).rg (ht X.s_0 X.H_0 0 [] []).rt (he X.s_0 X.H_0 0 [] []).rn hj)⟩
end

/-! ## a def -/
def startD (N : List Str) (xs : List OV) : DEnv := xs.map some ++ List.replicate (N.length - xs.length) none
def Rof (N : List Str) (n : Nat) (ds : DS) : DF := fun xs Q => xs.length = n ∧ ds { nx := fun _ => Q .none, rt := Q } (startD N xs)
theorem Slots.rep {K : PySem.W.Frag} {m : Am} {B H : Hp} : ∀ n : Nat, Slots K m B H (List.replicate n none) (List.replicate n none) []
  | 0 => .nil
  | n + 1 => .un (Slots.rep n)
theorem Slots.start {K : PySem.W.Frag} {m : Am} {B B' H : Hp} (e : Ex B B') (n : Nat) : ∀ {vs : List V} {xs : List OV}, ArgsR K m B vs xs → Slots K m B' H (vs.map some ++ List.replicate n none) (xs.map some ++ List.replicate n none) []
  | _, _, .nil => Slots.rep n
  | _, _, .d r h => Slots.val (fp := []) (.d (Rep.mono e _ _ r)) (Slots.start e n h)
  | _, _, .pot r h => Slots.val (fp := []) (.pot r) (Slots.start e n h)
theorem Fun.dok {P : Program} {w : World} {K : PySem.W.Frag} {mg : Str → Option Value} {base : Heap} {x qual : Str} {st : Stmt} {f : Addr} {fd : FuncData} {N ps : List Str} {k : Nat} {ds : DS} (F : L2.Fun K x qual st f fd) (S : FnScope N ps (defScope st))
    (hb : ∀ (m : Am) (cdv : Value) (A : Around) (outer : List Env) (s : Shared) (H : Hp) (E : XK), Rm k (A.deeper (envOfC qual (defScope st) s.heap.objs.size f cdv)) → ∃ t, DPSs ((cxOf CX0 P w K mg base N qual (defScope st) f cdv A outer s H E).nox) m (defBody st) t ds) :
    FnG P w K mg base CX0 (k + 1) f fd ps (dsp K (Rof N ps.length ds)) := by
  refine g_def F S (fun vs H Q E h => ?_) (fun cdv A outer s H vs Q E hr hgd h => ?_)
  · obtain ⟨m, xs, _, _, ha, Pq, hR, _⟩ := h
    rw [ha.length]
    exact hR.1
  · obtain ⟨m, xs, e0, hbs, ha, Pq, ⟨hlen, hds⟩, hQ⟩ := h
    obtain ⟨t, ht⟩ := hb m cdv A outer s H E ⟨hr, hgd⟩
    refine ⟨t, ht.ps.nox, ?_⟩
    have er : ER K m (L2.start N vs) H (startD N xs) [] [] := by
      refine ⟨hbs, ?_, List.nodup_nil, fun a z => (nomatch z)⟩
      unfold L2.start startD
      rw [ha.length]
      exact Slots.start (fun a o q => by
        obtain ⟨h1, h2⟩ := hid_some.mp q
        exact hid_some.mpr ⟨hS_false.mpr ⟨h1, fun z => nomatch z⟩, h2⟩) _ ha
    refine ht.rs.run (dD := { nx := fun _ => Pq .none, rt := Pq }) er hds ⟨fun σ' H' ρ' F' er' _ hn => ?_, fun _ _ _ _ _ _ h => h, fun _ _ _ _ _ _ h => h, fun H' v r hb' rp hr' => ?_⟩
    · exact hQ .none hn H' .non (by have := er'.base.ext; rw [e0] at this; exact this) er'.base.pot .non
    · exact hQ r hr' H' v (by have := hb'.ext; rw [e0] at this; exact this) hb'.pot rp
end DL

/-! ==== DLT ==== -/
set_option Elab.async false
set_option linter.all false
set_option maxRecDepth 100000
set_option maxHeartbeats 4000000
namespace DL
open PySem PySem.Spec PyProof.Rows L2
/-! ## a tuple so many times, any number -/
theorem tmul_same (l : Addr) (its : Array Value) (n : Nat) (dd : Option Addr) (sl : Array (Option Value)) (x : Int) (u : Tok) (h0 : (decide (x < -(2 ^ 63)) || decide (x ≥ 2 ^ 63)) = false) (h1 : (its.isEmpty || x == 1) = true) :
    Meets (Builtin.«tuple.__mul__» ⟨[.ref l, .int x u], []⟩) (fun _ R s => s.heap.get? l = some { cls := .type "tuple", dict := dd, data := .seq its n, slots := sl } ∧ ∀ k, R (.ok (.ret (.ref l))) { s with toks := k }) :=
  .of_wp fun prog w A R s h => by
    obtain ⟨hp, g, d, tk, os⟩ := s
    obtain ⟨hl, h⟩ := h
    have f1 := AutoSeq1.idx_int
    wp_walk using wpAny_loadPart' hl
    repeat (first
      | (refine wpAny_ite_false (decide_eq_false (by rw [h0]; exact Bool.false_ne_true)) ?_; wp_walk using wpAny_loadPart' hl)
      | (refine wpAny_ite_true (decide_eq_true h1) ?_; wp_walk using wpAny_loadPart' hl))
    all_goals exact ⟨_, rfl, h _⟩
theorem tmul_none (l : Addr) (its : Array Value) (n : Nat) (dd : Option Addr) (sl : Array (Option Value)) (x : Int) (u : Tok) (h0 : (decide (x < -(2 ^ 63)) || decide (x ≥ 2 ^ 63)) = false) (h1 : (its.isEmpty || x == 1) = false) (h2 : (decide (x ≤ 0) || its.isEmpty) = true) :
    Meets (Builtin.«tuple.__mul__» ⟨[.ref l, .int x u], []⟩) (fun _ R s => s.heap.get? l = some { cls := .type "tuple", dict := dd, data := .seq its n, slots := sl } ∧ ∀ k, R (.ok (.ret (.ref s.heap.objs.size))) { s with heap := s.heap.push { cls := Value.type "tuple", data := Data.seq #[] }, toks := k }) :=
  .of_wp fun prog w A R s h => by
    obtain ⟨hp, g, d, tk, os⟩ := s
    obtain ⟨hl, h⟩ := h
    have f1 := AutoSeq1.idx_int
    wp_walk using wpAny_loadPart' hl
    repeat (first
      | (refine wpAny_ite_false (decide_eq_false (by rw [h0]; exact Bool.false_ne_true)) ?_; wp_walk using wpAny_loadPart' hl)
      | (refine wpAny_ite_false (decide_eq_false (by rw [h1]; exact Bool.false_ne_true)) ?_; wp_walk using wpAny_loadPart' hl)
      | (refine wpAny_ite_true (decide_eq_true h2) ?_; wp_walk using wpAny_loadPart' hl))
    all_goals exact ⟨_, rfl, h _⟩
/-- t * k, every way -/
def rRepA (K : PySem.W.Frag) : R2 := fun x y H Q => ∃ l k xs, x = .ref l ∧ y = .int k ∧ SqT K H l xs ∧ -1000 ≤ k ∧ k ≤ 1000 ∧ xs.length ≤ 1000 ∧ (xs = [] ∨ k = 1 → Q (.ref l) H) ∧ (xs ≠ [] → k ≤ 0 → ∀ p, H p = none → Q (.ref p) (upd H p (.tup []))) ∧
  (xs ≠ [] → 2 ≤ k → ∀ p, H p = none → Q (.ref p) (upd H p (.tup (List.replicate k.toNat xs).flatten)))
theorem op_repA {X : Cx} : OpR X (binaryOp .Mult) (rRepA X.K) := by
  intro pins s σ H x y v u Q I rx ry h
  obtain ⟨l, k, xs, rfl, rfl, hT, b1, b2, hz, q1, q2, q3⟩ := h
  by_cases c : xs ≠ [] ∧ 2 ≤ k
  · exact op_repT pins s σ H _ _ v u Q I rx ry ⟨l, k, xs, rfl, rfl, hT, c.1, c.2, b2, hz, q3 c.1 c.2⟩
  · cases rx
    obtain ⟨t, rfl⟩ := ry
    obtain ⟨its, r, ⟨⟨cls, dd, data, sl⟩, ho, hc, n, hd⟩, hs⟩ := I.tuple hT
    simp only at hc hd
    subst hc hd
    have hle : its.length = xs.length := r.length.symm
    have c0 : (decide (k < -(2 ^ 63)) || decide (k ≥ 2 ^ 63)) = false := by
      rw [decide_eq_false (by omega), decide_eq_false (by omega)] <;> rfl
    have road : ∀ {S : Around → (Result → Shared → Prop) → Shared → Prop}, Meets (Builtin.«tuple.__mul__» ⟨[.ref l, .int k t], []⟩) S → (∀ (A : Around), S A (wants (EP X pins σ Q) X.xe) s) → wpAny (model X.prog X.w) X.A (binaryOp .Mult (.ref l) (.int k t)) (EP X pins σ Q) X.xe s := fun mt hS =>
      wpAny_binaryOp_repeat_ref (T := "tuple") (U := "int") (by decide) ⟨_, ho, rfl⟩ (fun s' => typeIs_int s' k t) noFill_tuple_mul F.fills_int_mul F.slot_int_rmul repeat_tuple F.slot_int_index.lookup
        (call_meets F.slot_int_rmul (typeIs_int s k t) F.entry_int_rmul (F.args_int_rmul_2 _ _) (int_rmul_tuple k t l its.toArray n dd sl)
          ⟨ho, rfl, ⟨_, ho, rfl⟩, call_meets F.slot_tuple_mul ⟨_, ho, rfl⟩ F.entry_tuple_mul (F.args_tuple_mul_2 _ _) mt (hS _)⟩)
    by_cases c1 : xs = [] ∨ k = 1
    · have e1 : (its.toArray.isEmpty || k == 1) = true := by
        rcases c1 with c1 | c1
        · rw [c1] at hle
          rw [List.eq_nil_of_length_eq_zero hle]
          rfl
        · rw [c1]
          exact Bool.or_true _
      refine road (tmul_same l its.toArray n dd sl k t c0 e1) fun A => ⟨ho, fun tk => ?_⟩
      exact ⟨.ref l, H, I.tok tk, rfl, q1 c1⟩
    · have ne : xs ≠ [] := fun z => c1 (.inl z)
      have k0 : k ≤ 0 := by
        have n1 : ¬ k = 1 := fun z => c1 (.inr z)
        have n2 : ¬ 2 ≤ k := fun z => c ⟨ne, z⟩
        omega
      have hi : its.toArray.isEmpty = false := by
        cases its with
        | nil => exact absurd (List.eq_nil_of_length_eq_zero hle.symm) ne
        | cons a b => rfl
      refine road (tmul_none l its.toArray n dd sl k t c0 (by rw [hi, Bool.false_or]; exact beq_eq_false_iff_ne.mpr (by omega)) (by rw [decide_eq_true k0]; rfl)) fun A => ⟨ho, fun tk => ?_⟩
      refine ⟨.ref s.heap.objs.size, _, I.laid (t' := tk) (o := .tup []) (fun b ob q => Heap.get?_push_of_some _ q) (Nat.le_refl _) ?_, rfl, q2 ne k0 _ (I.hok.fresh (Nat.le_refl _))⟩
      exact ⟨Nat.zero_le _, [], .nil, IsTup.new _ _⟩
end DL

/-! ==== DL9 ==== -/
set_option Elab.async false
set_option linter.all false
set_option maxRecDepth 100000
set_option maxHeartbeats 4000000
namespace DL
open PySem PySem.Spec PyProof.Rows L2

section
variable {X : Cx} {m : Am} {a b c e o : Expr} {es : List Expr} {pos p apos : Pos} {t ta tb tc te ti to : TE} {da db dc de dO : DE} {ua ub : TA} {va vb : DA} {dn : DN}
/-! ### a * b -/
def dMul : D2 := fun x y Q => match x, y with
  | .d (.int i), .d (.int j) => CMul i j ∧ Q (.d (.int (i * j)))
  | .d (.tuple xs), .d (.int k) => (-1000 ≤ k ∧ k ≤ 1000 ∧ xs.length ≤ 1000) ∧ Q (.d (.tuple (List.replicate k.toNat xs).flatten))
  | x, .d (.int k) => ∃ xs, asList x = some xs ∧ (-(2 ^ 63) ≤ k ∧ k < 2 ^ 63) ∧ xs.length * k.toNat ≤ sizeLine ∧ Q (.d (.list (List.replicate k.toNat xs).flatten))
  | _, _ => False
theorem RepAll.flat {K : PySem.W.Frag} {H : Hp} {vs : List V} {ds : List PyData} (h : RepAll K H vs ds) : ∀ n : Nat, RepAll K H (List.replicate n vs).flatten (List.replicate n ds).flatten
  | 0 => .nil
  | n + 1 => by
    show RepAll K H (vs ++ (List.replicate n vs).flatten) (ds ++ (List.replicate n ds).flatten)
    exact h.append (RepAll.flat h n)
def rMulA (K : PySem.W.Frag) : R2 := fun x y H Q => ((∃ i j, x = .int i ∧ y = .int j ∧ CMul i j ∧ Q (.int (i * j)) H) ∨ rRep x y H Q) ∨ rRepA K x y H Q
theorem op_mulA : OpR X (binaryOp .Mult) (rMulA X.K) := (op_mul.or op_rep).or op_repA
theorem flat_nil {α : Type} : ∀ n : Nat, (List.replicate n ([] : List α)).flatten = []
  | 0 => rfl
  | n + 1 => by
    show [] ++ (List.replicate n ([] : List α)).flatten = []
    rw [flat_nil n]
    rfl
theorem r2_mul {K : PySem.W.Frag} : R2D K m (rMulA K) dMul := ⟨fun {σ H ρ F T v u x y Q dQ} er vx vy h k => by
  unfold dMul at h
  split at h
  · exact .inl (.inl ⟨_, _, vx.int, vy.int, h.1, k H _ _ (Ext.refl _ _) er (.ofInt _) h.2⟩)
  · rename_i xs n
    obtain ⟨⟨h1, h2, h3⟩, h⟩ := h
    obtain ⟨l, vs, rfl, hl, ra⟩ := vx.tuple
    rw [vy.int]
    refine .inr ⟨l, n, vs, rfl, rfl, hl, h1, h2, by rw [ra.length]; exact h3, fun c => ?_, fun _ c p hp => ?_, fun _ _ p hp => ?_⟩
    · have e : (List.replicate n.toNat xs).flatten = xs := by
        rcases c with c | c
        · subst c
          cases ra
          exact flat_nil _
        · subst c
          show xs ++ [] = xs
          exact List.append_nil _
      rw [e] at h
      exact k H _ _ (Ext.refl _ _) er vx h
    · have e : n.toNat = 0 := by omega
      rw [e] at h
      exact k _ _ _ (Ext.new hp) (er.new hp) (.newT er hp .nil) h
    · exact k _ _ _ (Ext.new hp) (er.new hp) (.newT er hp (ra.flat _)) h
  · obtain ⟨xs, e, ⟨h1, h2⟩, h3, h⟩ := h
    obtain ⟨l, vs, rfl, hl, ra⟩ := vx.list e
    rw [vy.int]
    exact .inl (.inr ⟨l, _, vs, rfl, rfl, hl, h1, h2, by rw [ra.length]; exact h3, fun p hp => k _ _ _ (Ext.new hp) (er.new hp) (.newL er hp (ra.flat _)) h⟩)
  · exact h.elim⟩
theorem d_mul (ha : DPE X m a ta da) (hb : DPE X m b tb db) : DPE X m (.BinOp a .Mult b pos) (tOp (rMulA X.K) ta tb) (dOp dMul da db) := d_op op_mulA r2_mul ha hb
/-- [..] * k, as an own list -/
def dRepN (da db : DE) : DN := fun ρ Q => da ρ fun x => db ρ fun y => match y with
  | .d (.int k) => ∃ xs, asList x = some xs ∧ (-(2 ^ 63) ≤ k ∧ k < 2 ^ 63) ∧ xs.length * k.toNat ≤ sizeLine ∧ Q ((List.replicate k.toNat xs).flatten.map OV.d)
  | _ => False
theorem n_rep (ha : DPE X m a ta da) (hb : DPE X m b tb db) : DPN X m (.BinOp a .Mult b pos) (tOp rRep ta tb) (dRepN da db) := ⟨pe_op op_rep ha.pe hb.pe, ⟨fun {σ H ρ F T Q dQ} er h k => ha.re.run er h fun H1 v x e1 er1 vx h1 => hb.re.run er1 h1 fun H2 u y e2 er2 vy h2 => by
  split at h2
  · rename_i n
    obtain ⟨xs, e, ⟨b1, b2⟩, b3, h⟩ := h2
    obtain ⟨l, vs, rfl, hl, ra⟩ := (vx.step er1 e2).list e
    rw [vy.int]
    exact ⟨l, n, vs, rfl, rfl, hl, b1, b2, by rw [ra.length]; exact b3, fun p hp => k _ _ _ [p] ((e1.trans e2).trans (Ext.new hp)) (fun a ha => by rw [List.mem_singleton.mp ha]; exact Ext.back er2.base.pot (e1.trans e2) hp) (er2.own hp) (own_new er2 hp (ra.flat _)) h⟩
  · exact h2.elim⟩⟩
/-- xs + ys, as an own list -/
def dCatN (da db : DE) : DN := fun ρ Q => da ρ fun x => db ρ fun y => ∃ xs ys, asList x = some xs ∧ asList y = some ys ∧ xs.length + ys.length ≤ sizeLine ∧ Q ((xs ++ ys).map OV.d)
theorem n_cat (ha : DPE X m a ta da) (hb : DPE X m b tb db) : DPN X m (.BinOp a .Add b pos) (tOp rCat ta tb) (dCatN da db) := ⟨pe_op op_cat ha.pe hb.pe, ⟨fun {σ H ρ F T Q dQ} er h k => ha.re.run er h fun H1 v x e1 er1 vx h1 => hb.re.run er1 h1 fun H2 u y e2 er2 vy h2 => by
  obtain ⟨xs, ys, ex, ey, hz, h⟩ := h2
  obtain ⟨l, vs, rfl, hl, ra⟩ := (vx.step er1 e2).list ex
  obtain ⟨l2, us, rfl, hl2, rb⟩ := vy.list ey
  exact ⟨l, l2, vs, us, rfl, rfl, hl, hl2, by rw [ra.length, rb.length]; exact hz, fun p hp => k _ _ _ [p] ((e1.trans e2).trans (Ext.new hp)) (fun a ha => by rw [List.mem_singleton.mp ha]; exact Ext.back er2.base.pot (e1.trans e2) hp) (er2.own hp) (own_new er2 hp (ra.append rb)) h⟩⟩⟩

/-! ### slices -/
def dNoPart : DEnv → (Option Int → Prop) → Prop := fun _ Q => Q none
def dPart (de : DE) : DEnv → (Option Int → Prop) → Prop := fun ρ Q => de ρ fun x => match x with
  | .d (.int i) => Q (some i)
  | _ => False
structure RO (K : PySem.W.Frag) (m : Am) (t : TO) (dp : DEnv → (Option Int → Prop) → Prop) : Prop where
  run : ∀ {σ : L2.St} {H : Hp} {ρ : DEnv} {F T : List Addr} {Q : Option Int → Hp → Prop} {dQ : Option Int → Prop}, ER K m σ H ρ F T → dp ρ dQ → (∀ H' i, Ext m.P H H' → ER K m σ H' ρ F T → dQ i → Q i H') → t σ H Q
structure DPO (X : Cx) (m : Am) (e : Option Expr) (t : TO) (dp : DEnv → (Option Int → Prop) → Prop) : Prop where
  po : PO X e t
  ro : RO X.K m t dp
theorem o_none : DPO X m none tNoPart dNoPart := ⟨po_none, ⟨fun {σ H ρ F T Q dQ} er h k => k H none (Ext.refl _ _) er h⟩⟩
theorem o_some (h : DPE X m e te de) : DPO X m (some e) (tPart te) (dPart de) := ⟨po_some h.pe, ⟨fun {σ H ρ F T Q dQ} er hq k => h.re.run er hq fun H' v x e1 er1 vx hx => by
  split at hx
  · exact ⟨_, vx.int, k H' _ e1 er1 hx⟩
  · exact hx.elim⟩⟩
def cutD (xs : List PyData) (lo hi : Option Int) : List PyData := (xs.drop (HT.sIx xs.length 0 lo)).take (HT.sIx xs.length xs.length hi - HT.sIx xs.length 0 lo)
theorem RepAll.cut {K : PySem.W.Frag} {H : Hp} {vs : List V} {ds : List PyData} (h : RepAll K H vs ds) (lo hi : Option Int) : RepAll K H (cutV vs lo hi) (cutD ds lo hi) := by
  unfold cutV cutD
  rw [h.length]
  exact (h.drop _).take _
def dSlV (x : OV) (lo hi : Option Int) (Q : OV → Prop) : Prop := match x with
  | .d (.str z) => z.length ≤ sizeLine ∧ Q (.d (.str (cutS z lo hi)))
  | .d (.tuple xs) => Q (.d (.tuple (cutD xs lo hi)))
  | x => ∃ xs, asList x = some xs ∧ Q (.d (.list (cutD xs lo hi)))
variable {dl dh : DEnv → (Option Int → Prop) → Prop} {tl th : TO} {lo hi : Option Expr} {p2 : Pos}
def dSl (de : DE) (dl dh : DEnv → (Option Int → Prop) → Prop) : DE := fun ρ Q => de ρ fun x => dl ρ fun l => dh ρ fun h => dSlV x l h Q
def rSlAll (K : PySem.W.Frag) : V → Option Int → Option Int → Hp → VK → Prop := fun x lo hi H Q => rSlL K x lo hi H Q ∨ (rSlA K x lo hi H Q ∨ rSlS x lo hi H Q)
theorem sl_all : SlR X (rSlAll X.K) := sl_list.or (sl_tupA.or sl_str)
theorem cut_whole {xs : List PyData} {lo hi : Option Int} (h : HT.sIx xs.length 0 lo = 0 ∧ HT.sIx xs.length xs.length hi = xs.length) : cutD xs lo hi = xs := by
  unfold cutD
  rw [h.1, h.2, List.drop_zero, Nat.sub_zero, List.take_length]
theorem d_sl (h : DPE X m e te de) (hl : DPO X m lo tl dl) (hh : DPO X m hi th dh) : DPE X m (.Subscript e (.Slice lo hi none p2) pos) (tSl (rSlAll X.K) te tl th) (dSl de dl dh) := ⟨pe_slice sl_all h.pe hl.po hh.po, ⟨fun {σ H ρ F T Q dQ} er hq k => h.re.run er hq fun H1 v x e1 er1 vx h1 =>
  hl.ro.run er1 h1 fun H2 l e2 er2 h2 => hh.ro.run er2 h2 fun H3 u e3 er3 h3 => by
    have vx3 := vx.step er1 (e2.trans e3)
    have e13 := (e1.trans e2).trans e3
    unfold dSlV at h3
    split at h3
    · exact .inr (.inr ⟨_, vx3.str, h3.1, k H3 _ _ e13 er3 (.ofStr _) h3.2⟩)
    · obtain ⟨a, vs, rfl, ha, ra⟩ := vx3.tuple
      refine .inr (.inl ⟨a, vs, rfl, ha, fun w => ?_, fun _ p hp => k _ _ _ (e13.trans (Ext.new hp)) (er3.new hp) (.newT er3 hp (ra.cut _ _)) h3⟩)
      rw [ra.length] at w
      rw [cut_whole w] at h3
      exact k H3 _ _ e13 er3 vx3 h3
    · obtain ⟨xs, ex, h3⟩ := h3
      obtain ⟨a, vs, rfl, ha, ra⟩ := vx3.list ex
      exact .inl ⟨a, vs, rfl, SqL.of ha, fun p hp => k _ _ _ (e13.trans (Ext.new hp)) (er3.new hp) (.newL er3 hp (ra.cut _ _)) h3⟩⟩⟩

/-! ### built-ins by name -/
def dCB (R : DF) (da : DA) : DE := fun ρ Q => da ρ fun xs => R xs fun z => Q (.d z)
theorem re_cb {K : PySem.W.Frag} {r : List V → Hp → VK → Prop} {R : DF} (hr : RCD K m r R) (ha : RA K m ua va) : RE K m (tCB r ua) (dCB R va) := ⟨fun {σ H ρ F T Q dQ} er hq k => ha.run er hq fun H1 vs xs e1 er1 vxs h1 => hr.run er1 vxs h1 fun H2 w z e2 er2 vz hz => k H2 w _ (e1.trans e2) er2 vz hz⟩
theorem d_cb {r : List V → Hp → VK → Prop} {R : DF} {id : String} {x : Str} (hc : CallR X (.builtin id) r) (hr : RCD X.K m r R) (hv : bootBuiltins x = some (.builtin id)) (hg : Gl X x) (hm : X.mg x = none) (ha : DPA X m (e :: es) ua va) (hn : x ≠ "__name__" := by decide) (hdb : (x == ("__debug__" : Str)) = false := by decide)
    (he : starEach (e :: es) X.env = (false, eval e X.env) :: starEach es X.env := by rfl) (hpl : (backTo pos (starEach es X.env)).any (·.1) = false := by rfl) : DPE X m (.Call (.Name x p) (e :: es) [] pos) (tCB r ua) (dCB R va) := ⟨pe_callB hc hg hm hv ha.pa hn hdb he hpl, re_cb hr ha.ra⟩
theorem d_cty {r : List V → Hp → VK → Prop} {R : DF} {T : String} {x : Str} (hc : CallR X (.type T) r) (hr : RCD X.K m r R) (hv : bootBuiltins x = some (.type T)) (hg : Gl X x) (hm : X.mg x = none) (ha : DPA X m (e :: es) ua va) (hn : x ≠ "__name__" := by decide) (hdb : (x == ("__debug__" : Str)) = false := by decide)
    (he : starEach (e :: es) X.env = (false, eval e X.env) :: starEach es X.env := by rfl) (hpl : (backTo pos (starEach es X.env)).any (·.1) = false := by rfl) : DPE X m (.Call (.Name x p) (e :: es) [] pos) (tCB r ua) (dCB R va) := ⟨pe_callTy hc hg hm hv ha.pa hn hdb he hpl, re_cb hr ha.ra⟩
theorem VRs.one {K : PySem.W.Frag} {F T : List Addr} {H : Hp} {vs : List V} {x : OV} (h : VRs K m F T H vs [x]) : ∃ v, vs = [v] ∧ VR K m F T H v x := by
  cases h with
  | cons h1 h2 =>
    cases h2
    exact ⟨_, rfl, h1⟩
theorem VRs.two {K : PySem.W.Frag} {F T : List Addr} {H : Hp} {vs : List V} {x y : OV} (h : VRs K m F T H vs [x, y]) : ∃ v u, vs = [v, u] ∧ VR K m F T H v x ∧ VR K m F T H u y := by
  cases h with
  | cons h1 h2 =>
    cases h2 with
    | cons h2 h3 =>
      cases h3
      exact ⟨_, _, rfl, h1, h2⟩
/-- len -/
def dLen : DF := fun xs Q => match xs with
  | [.d (.list ys)] => Q (.int ys.length)
  | [.d (.tuple ys)] => Q (.int ys.length)
  | [.d (.str z)] => z.length ≤ sizeLine ∧ Q (.int z.length)
  | [.lst ys] => Q (.int ys.length)
  | _ => False
def rLenA (K : PySem.W.Frag) : List V → Hp → VK → Prop := fun xs H Q => ∃ x n, xs = [x] ∧ LenV K x H n ∧ Q (.int n) H
theorem rc_len {K : PySem.W.Frag} : RCD K m (rLenA K) dLen := ⟨fun {σ H ρ F T vs xs Q dQ} er vxs h k => by
  unfold dLen at h
  split at h
  · obtain ⟨v, rfl, vx⟩ := vxs.one
    obtain ⟨a, us, rfl, ha, ra⟩ := vx.list rfl
    exact ⟨_, _, rfl, .inl ⟨us, SqL.of ha, ra.length.symm⟩, k H _ _ (Ext.refl _ _) er (.ofInt _) h⟩
  · obtain ⟨v, rfl, vx⟩ := vxs.one
    obtain ⟨a, us, rfl, ha, ra⟩ := vx.tuple
    exact ⟨_, _, rfl, .inr ⟨us, ha, ra.length.symm⟩, k H _ _ (Ext.refl _ _) er (.ofInt _) h⟩
  · obtain ⟨v, rfl, vx⟩ := vxs.one
    rw [vx.str]
    exact ⟨_, _, rfl, ⟨h.1, rfl⟩, k H _ _ (Ext.refl _ _) er (.ofInt _) h.2⟩
  · obtain ⟨v, rfl, vx⟩ := vxs.one
    obtain ⟨fp, h1, _⟩ := vx
    obtain ⟨q, us, fq, rfl, rfl, hp, ha⟩ := h1.lst_inv
    exact ⟨_, _, rfl, .inl ⟨us, SqL.of hp, ha.len.symm⟩, k H _ _ (Ext.refl _ _) er (.ofInt _) h⟩
  · exact h.elim⟩
theorem d_len (hg : Gl X "len") (hm : X.mg "len" = none) (ha : DPA X m [e] ua va) (he : starEach [e] X.env = (false, eval e X.env) :: starEach [] X.env := by rfl) (hpl : (backTo pos (starEach [] X.env)).any (·.1) = false := by rfl) :
    DPE X m (.Call (.Name "len" p) [e] [] pos) (tCB (rLenA X.K) ua) (dCB dLen va) := d_cb call_len rc_len PySem.boot_len hg hm ha (by decide) (by decide) he hpl
/-- int(..) of an int, a truth value, a text of digits -/
def dInt : DF := fun xs Q => match xs with
  | [.d (.int i)] => Q (.int i)
  | [.d (.bool b)] => Q (.int (if b then 1 else 0))
  | [.d (.str z)] => z.length ≤ 640 ∧ ∃ n, PySem.intText? z = some n ∧ Q (.int n)
  | _ => False
def rIntA : List V → Hp → VK → Prop := fun xs H Q => ((∃ i, xs = [.int i] ∧ Q (.int i) H) ∨ ∃ k, xs = [.bl k] ∧ Q (.int (if k then 1 else 0)) H) ∨ ∃ a n, xs = [.str a] ∧ PySem.intText? a = some n ∧ a.length ≤ 640 ∧ Q (.int n) H
theorem CallR.or {f : Value} {r r' : List V → Hp → VK → Prop} (h : CallR X f r) (h' : CallR X f r') : CallR X f (fun xs H Q => r xs H Q ∨ r' xs H Q) := fun pins s σ H xs us Q I rv hq => by
  rcases hq with hq | hq
  · exact h pins s σ H xs us Q I rv hq
  · exact h' pins s σ H xs us Q I rv hq
theorem call_intA : CallR X (.type "int") rIntA := CallR.or call_int1 call_int_str
theorem rc_int {K : PySem.W.Frag} : RCD K m rIntA dInt := ⟨fun {σ H ρ F T vs xs Q dQ} er vxs h k => by
  unfold dInt at h
  split at h
  · obtain ⟨v, rfl, vx⟩ := vxs.one
    rw [vx.int]
    exact .inl (.inl ⟨_, rfl, k H _ _ (Ext.refl _ _) er (.ofInt _) h⟩)
  · obtain ⟨v, rfl, vx⟩ := vxs.one
    rw [vx.bool]
    exact .inl (.inr ⟨_, rfl, k H _ _ (Ext.refl _ _) er (.ofInt _) h⟩)
  · obtain ⟨v, rfl, vx⟩ := vxs.one
    rw [vx.str]
    obtain ⟨hl, n, hn, h⟩ := h
    exact .inr ⟨_, n, rfl, hn, hl, k H _ _ (Ext.refl _ _) er (.ofInt _) h⟩
  · exact h.elim⟩
theorem d_toint (hg : Gl X "int") (hm : X.mg "int" = none) (ha : DPA X m [e] ua va) (he : starEach [e] X.env = (false, eval e X.env) :: starEach [] X.env := by rfl) (hpl : (backTo pos (starEach [] X.env)).any (·.1) = false := by rfl) :
    DPE X m (.Call (.Name "int" p) [e] [] pos) (tCB rIntA ua) (dCB dInt va) := d_cty call_intA rc_int (by decide +kernel) hg hm ha (by decide) (by decide) he hpl
/-- str(int) -/
def dStrI : DF := fun xs Q => match xs with
  | [.d (.int i)] => i.natAbs.log2 < 1920 ∧ Q (.str (toString i))
  | _ => False
def rStrI : List V → Hp → VK → Prop := fun xs H Q => ∃ i, xs = [.int i] ∧ i.natAbs.log2 < 1920 ∧ Q (.str (toString i)) H
theorem rc_strI {K : PySem.W.Frag} : RCD K m rStrI dStrI := ⟨fun {σ H ρ F T vs xs Q dQ} er vxs h k => by
  unfold dStrI at h
  split at h
  · obtain ⟨v, rfl, vx⟩ := vxs.one
    rw [vx.int]
    exact ⟨_, rfl, h.1, k H _ _ (Ext.refl _ _) er (.ofStr _) h.2⟩
  · exact h.elim⟩
theorem d_strI (hg : Gl X "str") (hm : X.mg "str" = none) (ha : DPA X m [e] ua va) (he : starEach [e] X.env = (false, eval e X.env) :: starEach [] X.env := by rfl) (hpl : (backTo pos (starEach [] X.env)).any (·.1) = false := by rfl) :
    DPE X m (.Call (.Name "str" p) [e] [] pos) (tCB rStrI ua) (dCB dStrI va) := d_cty call_str_int rc_strI (by decide +kernel) hg hm ha (by decide) (by decide) he hpl
/-- abs, max, min of ints -/
def dI1 (C : Int → Prop) (g : Int → Int) : DF := fun xs Q => match xs with
  | [.d (.int i)] => C i ∧ Q (.int (g i))
  | _ => False
def rAbs : List V → Hp → VK → Prop := fun xs H Q => ∃ i, xs = [.int i] ∧ Q (.int (if i < 0 then -i else i)) H
theorem rc_abs {K : PySem.W.Frag} : RCD K m rAbs (dI1 (fun _ => True) fun i => if i < 0 then -i else i) := ⟨fun {σ H ρ F T vs xs Q dQ} er vxs h k => by
  unfold dI1 at h
  split at h
  · obtain ⟨v, rfl, vx⟩ := vxs.one
    rw [vx.int]
    exact ⟨_, rfl, k H _ _ (Ext.refl _ _) er (.ofInt _) h.2⟩
  · exact h.elim⟩
theorem d_abs (hg : Gl X "abs") (hm : X.mg "abs" = none) (ha : DPA X m [e] ua va) (he : starEach [e] X.env = (false, eval e X.env) :: starEach [] X.env := by rfl) (hpl : (backTo pos (starEach [] X.env)).any (·.1) = false := by rfl) :
    DPE X m (.Call (.Name "abs" p) [e] [] pos) (tCB rAbs ua) (dCB (dI1 (fun _ => True) fun i => if i < 0 then -i else i) va) := d_cb call_abs rc_abs (by decide +kernel) hg hm ha (by decide) (by decide) he hpl
def dII (g : Int → Int → Int) : DF := fun xs Q => match xs with
  | [.d (.int i), .d (.int j)] => Q (.int (g i j))
  | _ => False
def rII (g : Int → Int → Int) : List V → Hp → VK → Prop := fun xs H Q => ∃ i j, xs = [.int i, .int j] ∧ Q (.int (g i j)) H
theorem rc_II {K : PySem.W.Frag} {g : Int → Int → Int} : RCD K m (rII g) (dII g) := ⟨fun {σ H ρ F T vs xs Q dQ} er vxs h k => by
  unfold dII at h
  split at h
  · obtain ⟨v, u, rfl, vx, vy⟩ := vxs.two
    rw [vx.int, vy.int]
    exact ⟨_, _, rfl, k H _ _ (Ext.refl _ _) er (.ofInt _) h⟩
  · exact h.elim⟩
theorem d_max2 (hc : X.calm = true) (hg : Gl X "max") (hm : X.mg "max" = none) (ha : DPA X m [a, b] ua va) (he : starEach [a, b] X.env = (false, eval a X.env) :: starEach [b] X.env := by rfl) (hpl : (backTo pos (starEach [b] X.env)).any (·.1) = false := by rfl) :
    DPE X m (.Call (.Name "max" p) [a, b] [] pos) (tCB (rII fun i j => if j > i then j else i) ua) (dCB (dII fun i j => if j > i then j else i) va) := d_cb (call_max2 hc) rc_II (by decide +kernel) hg hm ha (by decide) (by decide) he hpl
theorem d_min2 (hc : X.calm = true) (hg : Gl X "min") (hm : X.mg "min" = none) (ha : DPA X m [a, b] ua va) (he : starEach [a, b] X.env = (false, eval a X.env) :: starEach [b] X.env := by rfl) (hpl : (backTo pos (starEach [b] X.env)).any (·.1) = false := by rfl) :
    DPE X m (.Call (.Name "min" p) [a, b] [] pos) (tCB (rII fun i j => if j < i then j else i) ua) (dCB (dII fun i j => if j < i then j else i) va) := d_cb (call_min2 hc) rc_II (by decide +kernel) hg hm ha (by decide) (by decide) he hpl
/-- sum of a list of ints; all, any of a list of truths -/
def dSum : DF := fun xs Q => match xs with
  | [x] => ∃ ns : List Int, asList x = some (ns.map PyData.int) ∧ Q (.int ns.sum)
  | _ => False
theorem rc_sum {K : PySem.W.Frag} : RCD K m (rSum K) dSum := ⟨fun {σ H ρ F T vs xs Q dQ} er vxs h k => by
  unfold dSum at h
  split at h
  · obtain ⟨v, rfl, vx⟩ := vxs.one
    obtain ⟨ns, e, h⟩ := h
    obtain ⟨a, us, rfl, ha, ra⟩ := vx.list e
    rw [ra.to_ints] at ha
    exact ⟨a, ns, rfl, SqL.of ha, k H _ _ (Ext.refl _ _) er (.ofInt _) h⟩
  · exact h.elim⟩
theorem d_sum (hc : X.calm = true) (hg : Gl X "sum") (hm : X.mg "sum" = none) (ha : DPA X m [e] ua va) (he : starEach [e] X.env = (false, eval e X.env) :: starEach [] X.env := by rfl) (hpl : (backTo pos (starEach [] X.env)).any (·.1) = false := by rfl) :
    DPE X m (.Call (.Name "sum" p) [e] [] pos) (tCB (rSum X.K) ua) (dCB dSum va) := d_cb (cr_sum hc) rc_sum (by decide +kernel) hg hm ha (by decide) (by decide) he hpl
def dBools (g : List Bool → Bool) : DF := fun xs Q => match xs with
  | [x] => ∃ bs : List Bool, asList x = some (bs.map PyData.bool) ∧ Q (.bool (g bs))
  | _ => False
abbrev dAll : DF := dBools fun bs => bs.all id
abbrev dAny : DF := dBools fun bs => bs.any id
theorem rc_all {K : PySem.W.Frag} : RCD K m (rAll K) dAll := ⟨fun {σ H ρ F T vs xs Q dQ} er vxs h k => by
  unfold dAll dBools at h
  split at h
  · obtain ⟨v, rfl, vx⟩ := vxs.one
    obtain ⟨ns, e, h⟩ := h
    obtain ⟨a, us, rfl, ha, ra⟩ := vx.list e
    rw [ra.to_bools] at ha
    exact ⟨a, ns, rfl, SqL.of ha, k H _ _ (Ext.refl _ _) er (.ofBool _) h⟩
  · exact h.elim⟩
theorem rc_any {K : PySem.W.Frag} : RCD K m (rAny K) dAny := ⟨fun {σ H ρ F T vs xs Q dQ} er vxs h k => by
  unfold dAny dBools at h
  split at h
  · obtain ⟨v, rfl, vx⟩ := vxs.one
    obtain ⟨ns, e, h⟩ := h
    obtain ⟨a, us, rfl, ha, ra⟩ := vx.list e
    rw [ra.to_bools] at ha
    exact ⟨a, ns, rfl, SqL.of ha, k H _ _ (Ext.refl _ _) er (.ofBool _) h⟩
  · exact h.elim⟩
theorem d_all (hc : X.calm = true) (hg : Gl X "all") (hm : X.mg "all" = none) (ha : DPA X m [e] ua va) (he : starEach [e] X.env = (false, eval e X.env) :: starEach [] X.env := by rfl) (hpl : (backTo pos (starEach [] X.env)).any (·.1) = false := by rfl) :
    DPE X m (.Call (.Name "all" p) [e] [] pos) (tCB (rAll X.K) ua) (dCB dAll va) := d_cb (cr_all hc) rc_all (by decide +kernel) hg hm ha (by decide) (by decide) he hpl
theorem d_any (hc : X.calm = true) (hg : Gl X "any") (hm : X.mg "any" = none) (ha : DPA X m [e] ua va) (he : starEach [e] X.env = (false, eval e X.env) :: starEach [] X.env := by rfl) (hpl : (backTo pos (starEach [] X.env)).any (·.1) = false := by rfl) :
    DPE X m (.Call (.Name "any" p) [e] [] pos) (tCB (rAny X.K) ua) (dCB dAny va) := d_cb (cr_any hc) rc_any (by decide +kernel) hg hm ha (by decide) (by decide) he hpl
/-- tuple(..), list(..) of a list, a tuple -/
def dTupC : DF := fun xs Q => match xs with
  | [.d (.tuple ys)] => Q (.tuple ys)
  | [x] => ∃ ys, asList x = some ys ∧ Q (.tuple ys)
  | _ => False
def rTupC (K : PySem.W.Frag) : List V → Hp → VK → Prop := fun xs H Q => ∃ p ys, xs = [.ref p] ∧ ((SqL K H p ys ∧ ∀ l, H l = none → Q (.ref l) (upd H l (.tup ys))) ∨ (SqT K H p ys ∧ Q (.ref p) H))
theorem rc_tupC {K : PySem.W.Frag} : RCD K m (rTupC K) dTupC := ⟨fun {σ H ρ F T vs xs Q dQ} er vxs h k => by
  unfold dTupC at h
  split at h
  · obtain ⟨v, rfl, vx⟩ := vxs.one
    obtain ⟨a, us, rfl, ha, ra⟩ := vx.tuple
    exact ⟨a, us, rfl, .inr ⟨ha, k H _ _ (Ext.refl _ _) er vx h⟩⟩
  · obtain ⟨v, rfl, vx⟩ := vxs.one
    obtain ⟨ys, e, h⟩ := h
    obtain ⟨a, us, rfl, ha, ra⟩ := vx.list e
    exact ⟨a, us, rfl, .inl ⟨SqL.of ha, fun l hl => k _ _ _ (Ext.new hl) (er.new hl) (.newT er hl ra) h⟩⟩
  · exact h.elim⟩
theorem d_tupC (hg : Gl X "tuple") (hm : X.mg "tuple" = none) (ha : DPA X m [e] ua va) (he : starEach [e] X.env = (false, eval e X.env) :: starEach [] X.env := by rfl) (hpl : (backTo pos (starEach [] X.env)).any (·.1) = false := by rfl) :
    DPE X m (.Call (.Name "tuple" p) [e] [] pos) (tCB (rTupC X.K) ua) (dCB dTupC va) := d_cty call_tuple_of rc_tupC (by decide +kernel) hg hm ha (by decide) (by decide) he hpl
def asSeq : OV → Option (List PyData)
  | .d (.tuple xs) => some xs
  | x => asList x
theorem VR.seq {K : PySem.W.Frag} {F T : List Addr} {H : Hp} {v : V} {x : OV} {ds : List PyData} (h : VR K m F T H v x) (e : asSeq x = some ds) : ∃ a vs, v = .ref a ∧ (SqL K H a vs ∨ SqT K H a vs) ∧ RepAll K (Bh m (F ++ T) H) vs ds := by
  unfold asSeq at e
  split at e
  · cases e
    obtain ⟨a, us, rfl, ha, ra⟩ := h.tuple
    exact ⟨a, us, rfl, .inr ha, ra⟩
  · obtain ⟨a, us, rfl, ha, ra⟩ := h.list e
    exact ⟨a, us, rfl, .inl (SqL.of ha), ra⟩
def dLstC : DF := fun xs Q => match xs with
  | [x] => ∃ ys, asSeq x = some ys ∧ Q (.list ys)
  | _ => False
def dLstCN (da : DA) : DN := fun ρ Q => da ρ fun xs => match xs with
  | [x] => ∃ ys, asSeq x = some ys ∧ Q (ys.map OV.d)
  | _ => False
def rLstC (K : PySem.W.Frag) : List V → Hp → VK → Prop := fun xs H Q => ∃ p ys, xs = [.ref p] ∧ (SqL K H p ys ∨ SqT K H p ys) ∧ ∀ l, H l = none → Q (.ref l) (upd H l (.lst ys))
theorem rc_lstC {K : PySem.W.Frag} : RCD K m (rLstC K) dLstC := ⟨fun {σ H ρ F T vs xs Q dQ} er vxs h k => by
  unfold dLstC at h
  split at h
  · obtain ⟨v, rfl, vx⟩ := vxs.one
    obtain ⟨ys, e, h⟩ := h
    obtain ⟨a, us, rfl, ha, ra⟩ := vx.seq e
    exact ⟨a, us, rfl, ha, fun l hl => k _ _ _ (Ext.new hl) (er.new hl) (.newL er hl ra) h⟩
  · exact h.elim⟩
theorem d_lstC (hg : Gl X "list") (hm : X.mg "list" = none) (ha : DPA X m [e] ua va) (he : starEach [e] X.env = (false, eval e X.env) :: starEach [] X.env := by rfl) (hpl : (backTo pos (starEach [] X.env)).any (·.1) = false := by rfl) :
    DPE X m (.Call (.Name "list" p) [e] [] pos) (tCB (rLstC X.K) ua) (dCB dLstC va) := d_cty call_list_of rc_lstC (by decide +kernel) hg hm ha (by decide) (by decide) he hpl
theorem n_lstC (hg : Gl X "list") (hm : X.mg "list" = none) (ha : DPA X m [e] ua va) (he : starEach [e] X.env = (false, eval e X.env) :: starEach [] X.env := by rfl) (hpl : (backTo pos (starEach [] X.env)).any (·.1) = false := by rfl) :
    DPN X m (.Call (.Name "list" p) [e] [] pos) (tCB (rLstC X.K) ua) (dLstCN va) := ⟨pe_callTy call_list_of hg hm (by decide +kernel) ha.pa (by decide) (by decide) he hpl, ⟨fun {σ H ρ F T Q dQ} er hq k => ha.ra.run er hq fun H1 vs xs e1 er1 vxs h => by
  split at h
  · obtain ⟨v, rfl, vx⟩ := vxs.one
    obtain ⟨ys, e, h⟩ := h
    obtain ⟨a, us, rfl, ha, ra⟩ := vx.seq e
    exact ⟨a, us, rfl, ha, fun l hl => k _ _ _ [l] (e1.trans (Ext.new hl)) (fun a ha => by rw [List.mem_singleton.mp ha]; exact Ext.back er1.base.pot e1 hl) (er1.own hl) (own_new er1 hl ra) h⟩
  · exact h.elim⟩⟩
end
end DL

/-! ==== DL10 ==== -/
set_option Elab.async false
set_option linter.all false
set_option maxRecDepth 100000
set_option maxHeartbeats 4000000
namespace DL
open PySem PySem.Spec PyProof.Rows L2

section
variable {X : Cx} {m : Am} {a b c e o : Expr} {es : List Expr} {pos p apos sp_ : Pos} {t ta tb tc te ti to : TE} {da db dc de dO : DE} {ua ub : TA} {va vb : DA} {dn : DN}
/-! ### list(range(..)), *range(..) -/
abbrev TRg := L2.St → Hp → (Int → Int → Hp → Prop) → Prop
abbrev DRg := DEnv → (Int → Int → Prop) → Prop
structure RRg (K : PySem.W.Frag) (m : Am) (t : TRg) (d : DRg) : Prop where
  run : ∀ {σ : L2.St} {H : Hp} {ρ : DEnv} {F T : List Addr} {Q : Int → Int → Hp → Prop} {dQ : Int → Int → Prop}, ER K m σ H ρ F T → d ρ dQ → (∀ H' i j, Ext m.P H H' → ER K m σ H' ρ F T → dQ i j → Q i j H') → t σ H Q
structure DPRg (X : Cx) (m : Am) (e : Expr) (t : TRg) (d : DRg) : Prop where
  prg : PRg X e t
  rr : RRg X.K m t d
def dRg1 (da : DE) : DRg := fun ρ Q => da ρ fun x => match x with
  | .d (.int n) => Q 0 n
  | _ => False
def dRg2 (da db : DE) : DRg := fun ρ Q => da ρ fun x => db ρ fun y => match x, y with
  | .d (.int i), .d (.int j) => Q i j
  | _, _ => False
theorem rg_1 (hg : Gl X "range") (hm : X.mg "range" = none) (ha : DPE X m a ta da) (na : starEach [a] X.env = (false, eval a X.env) :: starEach [] X.env := by rfl) : DPRg X m (.Call (.Name "range" p) [a] [] pos) (tRg1 ta) (dRg1 da) := ⟨prg_1 hg hm ha.pe na, ⟨fun {σ H ρ F T Q dQ} er hq k => ha.re.run er hq fun H1 v x e1 er1 vx h => by
  split at h
  · exact ⟨_, vx.int, k H1 _ _ e1 er1 h⟩
  · exact h.elim⟩⟩
theorem rg_2 (hg : Gl X "range") (hm : X.mg "range" = none) (ha : DPE X m a ta da) (hb : DPE X m b tb db) (na : starEach [a, b] X.env = (false, eval a X.env) :: starEach [b] X.env := by rfl)
    (nb : starEach [b] X.env = (false, eval b X.env) :: starEach [] X.env := by rfl) (hp : (backTo pos (starEach [b] X.env)).any (·.1) = false := by rfl) : DPRg X m (.Call (.Name "range" p) [a, b] [] pos) (tRg2 ta tb) (dRg2 da db) := ⟨prg_2 hg hm ha.pe hb.pe na nb hp, ⟨fun {σ H ρ F T Q dQ} er hq k => ha.re.run er hq fun H1 v x e1 er1 vx h1 => hb.re.run er1 h1 fun H2 u y e2 er2 vy h => by
  split at h
  · exact ⟨_, _, vx.int, vy.int, k H2 _ _ (e1.trans e2) er2 h⟩
  · exact h.elim⟩⟩
theorem rep_rg {K : PySem.W.Frag} {H : Hp} (i j : Int) : RepAll K H (rgV i j) (rngD i (j - i).toNat) := by
  unfold rgV rngD
  generalize List.range (j - i).toNat = l
  induction l with
  | nil => exact .nil
  | cons x l ih => exact .cons (.int _) ih
variable {tr : TRg} {dr : DRg}
def dLstRg (dr : DRg) : DE := fun ρ Q => dr ρ fun i j => RgOk i j ∧ Q (.d (.list (rngD i (j - i).toNat)))
def dTupRg (dr : DRg) : DE := fun ρ Q => dr ρ fun i j => RgOk i j ∧ Q (.d (.tuple (rngD i (j - i).toNat)))
theorem d_lstRg (hc : X.calm = true) (hg : Gl X "list") (hm : X.mg "list" = none) (he : DPRg X m e tr dr) (na : starEach [e] X.env = (false, eval e X.env) :: starEach [] X.env := by rfl) : DPE X m (.Call (.Name "list" p) [e] [] pos) (tLstRg tr) (dLstRg dr) := ⟨pe_listRg hc hg hm he.prg na, ⟨fun {σ H ρ F T Q dQ} er hq k => he.rr.run er hq fun H1 i j e1 er1 h =>
  ⟨h.1, fun q hq => k _ _ _ (e1.trans (Ext.new hq)) (er1.new hq) (.newL er1 hq (rep_rg i j)) h.2⟩⟩⟩
theorem d_tupRg (hc : X.calm = true) (hg : Gl X "tuple") (hm : X.mg "tuple" = none) (he : DPRg X m e tr dr) (na : starEach [e] X.env = (false, eval e X.env) :: starEach [] X.env := by rfl) : DPE X m (.Call (.Name "tuple" p) [e] [] pos) (tTupRg tr) (dTupRg dr) := ⟨pe_tupRg hc hg hm he.prg na, ⟨fun {σ H ρ F T Q dQ} er hq k => he.rr.run er hq fun H1 i j e1 er1 h =>
  ⟨h.1, fun q hq => k _ _ _ (e1.trans (Ext.new hq)) (er1.new hq) (.newT er1 hq (rep_rg i j)) h.2⟩⟩⟩
def tStarRg (tr : TRg) (t : TA) : TA := fun σ H Q => tr σ H fun i j H1 => RgOk i j ∧ t σ H1 fun ys H2 => Q (rgV i j ++ ys) H2
theorem pa_starRg {tq : TA} (hc : X.calm = true) (he : PRg X e tr) (hr : PA X es tq) (hs : starEach (.Starred e p :: es) X.env = (true, eval e X.env) :: starEach es X.env := by rfl) : PA X (.Starred e p :: es) (tStarRg tr tq) := by
  refine ⟨fun pos pins s σ H Q I h => PySem.W.items_star (thn (he pins s σ H _ I h) fun v s1 ⟨r, i, j, t, u, w, H1, ev, hrg, I1, ok, q⟩ => ?_) hs⟩
  subst ev
  obtain ⟨b1, b2, b3, b4, b5⟩ := ok
  have hT : s1.TypeIs (.ref r) "range" := ⟨_, hrg, rfl⟩
  unfold PySem.W.StarOf notIterableAtAll
  refine wpAny_bind (wpAny_specialOf hT PySem.F.slot_range_iter.lookup (wpAny_pure ⟨rfl, ?_⟩))
  refine collect_range (n := (j - i).toNat) (I1.ok.hd hc) hrg (small_one b1 b2 b3 b4) (rangeSize_nat i j) b5 fun h' tk acc hk hi => ?_
  exact thn (hr.run pos pins _ σ H1 _ (I1.kept (t' := tk) hk) q) fun ws s3 ⟨vs, H3, I3, r3, q3⟩ => ⟨rgV i j ++ vs, H3, I3, (vals_rg hi).append r3, q3⟩
def dStarRg (dr : DRg) (da : DA) : DA := fun ρ Q => dr ρ fun i j => RgOk i j ∧ da ρ fun ys => Q ((rngD i (j - i).toNat).map OV.d ++ ys)
theorem VRs.ofRep {K : PySem.W.Frag} {F T : List Addr} {H : Hp} : ∀ {vs : List V} {ds : List PyData}, RepAll K (Bh m (F ++ T) H) vs ds → VRs K m F T H vs (ds.map OV.d)
  | _, _, .nil => .nil
  | _, _, .cons h t => .cons (.d h) (VRs.ofRep t)
theorem a_starRg (hc : X.calm = true) (he : DPRg X m e tr dr) (hr : DPA X m es ua va) (hs : starEach (.Starred e p :: es) X.env = (true, eval e X.env) :: starEach es X.env := by rfl) : DPA X m (.Starred e p :: es) (tStarRg tr ua) (dStarRg dr va) := ⟨pa_starRg hc he.prg hr.pa hs, ⟨fun {σ H ρ F T Q dQ} er hq k => he.rr.run er hq fun H1 i j e1 er1 h =>
  ⟨h.1, hr.ra.run er1 h.2 fun H2 vs xs e2 er2 vxs h2 => k H2 _ _ (e1.trans e2) er2 (VRs.append (VRs.ofRep (rep_rg i j)) vxs) h2⟩⟩⟩

/-! ### isinstance -/
def tyN : PyData → String
  | .none => "NoneType"
  | .bool _ => "bool"
  | .int _ => "int"
  | .str _ => "str"
  | .list _ => "list"
  | .tuple _ => "tuple"
  | .dict _ => "dict"
def isiB (a T : String) : Bool := a == T || (a == "bool" && T == "int")
theorem kit_isi {a T : String} (ha : a ∈ ["NoneType", "bool", "int", "str", "list", "tuple", "dict"]) (hT : T ∈ ["bool", "int", "str", "list", "tuple", "dict"]) : kitB a T = some (isiB a T) := by
  have h : (["NoneType", "bool", "int", "str", "list", "tuple", "dict"].all fun a => ["bool", "int", "str", "list", "tuple", "dict"].all fun T => kitB a T == some (isiB a T)) = true := by decide +kernel
  have h1 := List.all_eq_true.mp h a ha
  exact eq_of_beq (List.all_eq_true.mp h1 T hT)
theorem tyN_mem (d : PyData) : tyN d ∈ ["NoneType", "bool", "int", "str", "list", "tuple", "dict"] := by
  cases d <;> simp [tyN]
theorem Rep.ty {K : PySem.W.Frag} {H : Hp} {v : V} {d : PyData} (h : Rep K H v d) : TyX K H v (.type (tyN d)) := by
  cases h with
  | non => exact .base .non
  | bl b => exact .base (.bl b)
  | int i => exact .base (.int i)
  | str x => exact .base (.str x)
  | lst hp _ => exact .base (.lst hp)
  | tup hp _ =>
    rcases hp with (hp | ⟨o, hp⟩) | ⟨o, its, n, hk, hc, _⟩
    · exact .base (.tup hp)
    · exact .fTuple hp
    · exact .kTuple hk hc
  | dic hp _ =>
    rcases hp with hp | ⟨o, hp⟩
    · exact .base (.dK hp)
    · exact .fDict hp
def dIsi (T : String) (de : DE) : DE := fun ρ Q => de ρ fun x => okv x = true ∧ Q (.d (.bool (isiB (tyN (vw x)) T)))
theorem d_isi {T : String} {x : Str} {tp : Pos} (hT : T ∈ ["bool", "int", "str", "list", "tuple", "dict"]) (hgi : Gl X "isinstance") (hmi : X.mg "isinstance" = none) (hg : Gl X x) (hm : X.mg x = none) (hv : bootBuiltins x = some (.type T)) (h : DPE X m e te de) (hn : x ≠ "__name__" := by decide) (hd : (x == ("__debug__" : Str)) = false := by decide)
    (hs : starEach [e, .Name x tp] X.env = (false, eval e X.env) :: starEach [.Name x tp] X.env := by rfl) (hs2 : starEach [.Name x tp] X.env = (false, eval (.Name x tp) X.env) :: starEach [] X.env := by rfl) (hpl : (backTo pos (starEach [.Name x tp] X.env)).any (·.1) = false := by rfl) :
    DPE X m (.Call (.Name "isinstance" p) [e, .Name x tp] [] pos) (tCB (rIsi X.K) (tCons te (tCons (tC (.ty T)) tNil))) (dIsi T de) :=
  ⟨pe_callB call_isi hgi hmi (by decide +kernel) (pa_cons h.pe (pa_cons (pe_bltn (v := .ty T) hg hm hv rfl hn hd) pa_nil hs2) hs) (by decide) (by decide) hs hpl, ⟨fun {σ H ρ F T' Q dQ} er hq k => h.re.run er hq fun H1 v x e1 er1 vx hx =>
    ⟨v, .ty T, _, _, _, rfl, .ty T, (vx.read hx.1).ty, kit_ty (kit_isi (tyN_mem _) hT), k H1 _ _ e1 er1 (.ofBool _) hx.2⟩⟩⟩

/-! ### repr -/
theorem call_repr {k : Nat} (hr : Rm k X.A) : CallR X (.builtin "repr") (fun xs H Q => ∃ (a : Addr) (d : PyData), xs = [.ref a] ∧ Dp X.K H (.ref a) d ∧ d.hasDict = false ∧ d.showable = true ∧ d.depth ≤ 60 ∧ d.shown.length ≤ sizeLine ∧ Q (.str d.shown) H) := by
  intro pins s σ H xs us Q I r h
  obtain ⟨a, d, rfl, hd, hn, hs, hdp, hz, q⟩ := h
  obtain ⟨u, rfl, rx⟩ := vals1 r
  obtain ⟨as, rd⟩ := Dp.reads I d _ u hd rx
  cases rx
  refine repr_of_reads' rd hs (PyData.noDict_hsm hn) hr.gd (by have := hr.room.units; omega) (fun _ _ e => e) (fun h' u tk hk => ?_) hz
  exact ⟨.str _, H, I.kept (t' := tk) hk, ⟨_, rfl⟩, q⟩
def rRepr (K : PySem.W.Frag) : List V → Hp → VK → Prop := fun xs H Q => ∃ (a : Addr) (d : PyData), xs = [.ref a] ∧ Dp K H (.ref a) d ∧ d.hasDict = false ∧ d.showable = true ∧ d.depth ≤ 60 ∧ d.shown.length ≤ sizeLine ∧ Q (.str d.shown) H
/-- what can be shown -/
def canShow (d : PyData) : Prop := d.hasDict = false ∧ d.showable = true ∧ d.depth ≤ 60 ∧ d.shown.length ≤ sizeLine
def isSeq : PyData → Bool
  | .list _ => true
  | .tuple _ => true
  | _ => false
def dRepr : DF := fun xs Q => match xs with
  | [x] => okv x = true ∧ isSeq (vw x) = true ∧ canShow (vw x) ∧ Q (.str (vw x).shown)
  | _ => False
theorem rc_repr {K : PySem.W.Frag} : RCD K m (rRepr K) dRepr := ⟨fun {σ H ρ F T vs xs Q dQ} er vxs h k => by
  unfold dRepr at h
  split at h
  · obtain ⟨v, rfl, vx⟩ := vxs.one
    obtain ⟨ok, sq, ⟨h1, h2, h3, h4⟩, h⟩ := h
    have r := vx.read ok
    have hv : ∃ a, v = .ref a := by
      generalize vw _ = d at r sq
      cases r with
      | lst _ _ => exact ⟨_, rfl⟩
      | tup _ _ => exact ⟨_, rfl⟩
      | dic _ _ => exact ⟨_, rfl⟩
      | _ => exact nomatch (show false = true from sq)
    obtain ⟨a, rfl⟩ := hv
    exact ⟨a, _, rfl, Rep.dp _ _ h1 r, h1, h2, h3, h4, k H _ _ (Ext.refl _ _) er (.ofStr _) h⟩
  · exact h.elim⟩
theorem d_repr {k : Nat} (hr : Rm k X.A) (hg : Gl X "repr") (hm : X.mg "repr" = none) (ha : DPA X m [e] ua va) (he : starEach [e] X.env = (false, eval e X.env) :: starEach [] X.env := by rfl) (hpl : (backTo pos (starEach [] X.env)).any (·.1) = false := by rfl) :
    DPE X m (.Call (.Name "repr" p) [e] [] pos) (tCB (rRepr X.K) ua) (dCB dRepr va) := d_cb (call_repr hr) rc_repr (by decide +kernel) hg hm ha (by decide) (by decide) he hpl

/-! ### methods of texts -/
def dM0 (R : OV → (OV → Prop) → Prop) (dO : DE) : DE := fun ρ Q => dO ρ fun x => R x Q
def dM1 (R : OV → OV → (OV → Prop) → Prop) (dO de : DE) : DE := fun ρ Q => dO ρ fun x => match x with
  | .d (.str z) => de ρ fun y => R (.d (.str z)) y Q
  | _ => False
def dSplitR : OV → OV → (OV → Prop) → Prop := fun x y Q => match x, y with
  | .d (.str a), .d (.str b) => (b.length == 0) = false ∧ a.length + 2 ≤ sizeLine ∧ Q (.d (.list ((Txt.split a b).map PyData.str)))
  | _, _ => False
theorem RepAll.strs {K : PySem.W.Frag} {H : Hp} : ∀ ns : List Str, RepAll K H (ns.map V.str) (ns.map PyData.str)
  | [] => .nil
  | n :: ns => .cons (.str n) (RepAll.strs ns)
theorem d_split (hO : DPE X m o to dO) (h : DPE X m e te de) (hs : starEach [e] X.env = [(false, eval e X.env)] := by rfl) (hbase : attributeBase o "split" X.env (eval o X.env) = eval o X.env := by rfl) (hline : (apos.endLine == pos.line) = true := by rfl) :
    DPE X m (.Call (.Attribute o "split" apos) [e] [] pos) (tM1 (fun x xs H Q => ∃ a b, x = .str a ∧ xs = [.str b] ∧ (b.length == 0) = false ∧ a.length + 2 ≤ sizeLine ∧ rNewStrs (Txt.split a b) H Q) to te) (dM1 dSplitR dO de) :=
  ⟨pe_split hO.pe h.pe hs hbase hline, ⟨fun {σ H ρ F T Q dQ} er hq k => hO.re.run er hq fun H1 v x e1 er1 vx h1 => by
    split at h1
    · rename_i z
      rw [vx.str]
      refine ⟨⟨_, rfl⟩, h.re.run er1 h1 fun H2 u y e2 er2 vy h2 => ?_⟩
      unfold dSplitR at h2
      split at h2
      · rename_i a b ea
        obtain rfl : z = a := by
          injection ea with ea
          injection ea
        rw [vy.str]
        exact ⟨_, _, rfl, rfl, h2.1, h2.2.1, fun q hq => k _ _ _ ((e1.trans e2).trans (Ext.new hq)) (er2.new hq) (.newL er2 hq (RepAll.strs _)) h2.2.2⟩
      · exact h2.elim
    · exact h1.elim⟩⟩
def dJoinR : OV → OV → (OV → Prop) → Prop := fun x y Q => match x with
  | .d (.str a) => ∃ ys : List Str, asSeq y = some (ys.map PyData.str) ∧ (ys.map (·.length)).sum + ys.length * a.length ≤ 16777216 ∧ Q (.d (.str (Txt.join a ys)))
  | _ => False
theorem d_join (hO : DPE X m o to dO) (h : DPE X m e te de) (hs : starEach [e] X.env = [(false, eval e X.env)] := by rfl) (hbase : attributeBase o "join" X.env (eval o X.env) = eval o X.env := by rfl) (hline : (apos.endLine == pos.line) = true := by rfl) :
    DPE X m (.Call (.Attribute o "join" apos) [e] [] pos) (tM1 (fun x xs H Q => ∃ a p, ∃ ys : List Str, x = .str a ∧ xs = [.ref p] ∧ (SqL X.K H p (ys.map V.str) ∨ SqT X.K H p (ys.map V.str)) ∧ (ys.map (·.length)).sum + ys.length * a.length ≤ 16777216 ∧ Q (.str (Txt.join a ys)) H) to te) (dM1 dJoinR dO de) :=
  ⟨pe_join hO.pe h.pe hs hbase hline, ⟨fun {σ H ρ F T Q dQ} er hq k => hO.re.run er hq fun H1 v x e1 er1 vx h1 => by
    split at h1
    · rename_i z
      rw [vx.str]
      refine ⟨⟨_, rfl⟩, h.re.run er1 h1 fun H2 u y e2 er2 vy h2 => ?_⟩
      obtain ⟨ys, ey, hz, h2⟩ := h2
      obtain ⟨a, us, rfl, ha, ra⟩ := vy.seq ey
      rw [ra.to_strs] at ha
      exact ⟨_, a, ys, rfl, rfl, ha, hz, k H2 _ _ (e1.trans e2) er2 (.ofStr _) h2⟩
    · exact h1.elim⟩⟩
def dLowerR : OV → (OV → Prop) → Prop := fun x Q => match x with
  | .d (.str a) => a.length ≤ 5592405 ∧ Q (.d (.str (Txt.lower a)))
  | _ => False
theorem d_lower (hO : DPE X m o to dO) (hbase : attributeBase o "lower" X.env (eval o X.env) = eval o X.env := by rfl) (hline : (apos.endLine == pos.line) = true := by rfl) :
    DPE X m (.Call (.Attribute o "lower" apos) [] [] pos) (tM0 (fun x xs H Q => ∃ a, x = .str a ∧ xs = [] ∧ a.length ≤ 5592405 ∧ Q (.str (Txt.lower a)) H) to) (dM0 dLowerR dO) :=
  ⟨pe_lower hO.pe hbase hline, ⟨fun {σ H ρ F T Q dQ} er hq k => hO.re.run er hq fun H1 v x e1 er1 vx h1 => by
    unfold dLowerR at h1
    split at h1
    · rw [vx.str]
      exact ⟨⟨_, rfl⟩, _, rfl, rfl, h1.1, k H1 _ _ e1 er1 (.ofStr _) h1.2⟩
    · exact h1.elim⟩⟩
end
end DL

/-! ==== DLH ==== -/
set_option Elab.async false
set_option linter.all false
set_option maxRecDepth 100000
set_option maxHeartbeats 4000000
namespace DL
open PySem PySem.Spec PyProof.Rows L2

/-! ## data that stands in the module -/
mutual
def datB (K : PySem.W.Frag) : PyData → Value → Bool
  | .none, u => (match u with
    | .none => true
    | _ => false)
  | .bool b, u => He.relB (.bl b) u
  | .int i, u => He.relB (.int i) u
  | .str x, u => He.relB (.str x) u
  | .tuple ds, u => (match u with
    | .ref a => (match K.lookup a with
      | some ⟨.type c, _, .seq its _, _⟩ => decide (c = "tuple") && (decide (its.size ≤ sizeLine) && datBs K ds its.toList)
      | _ => false)
    | _ => false)
  | _, _ => false
def datBs (K : PySem.W.Frag) : List PyData → List Value → Bool
  | [], us => us.isEmpty
  | d :: ds, us => (match us with
    | [] => false
    | u :: us => datB K d u && datBs K ds us)
end
def RepG (K : PySem.W.Frag) (u : Value) (d : PyData) : Prop := ∃ v, RelV v u ∧ ∀ H, Rep K H v d
def RepGs (K : PySem.W.Frag) (us : List Value) (ds : List PyData) : Prop := ∃ vs, Vals vs us ∧ ∀ H, RepAll K H vs ds
mutual
theorem datB_ok {K : PySem.W.Frag} : ∀ (d : PyData) (u : Value), datB K d u = true → RepG K u d
  | .none, u, h => by
    cases u <;> first | exact ⟨.non, rfl, fun _ => .non⟩ | exact nomatch h
  | .bool b, u, h => ⟨_, He.relB_ok (show He.relB (.bl b) u = true from h), fun _ => .bl b⟩
  | .int i, u, h => ⟨_, He.relB_ok (show He.relB (.int i) u = true from h), fun _ => .int i⟩
  | .str x, u, h => ⟨_, He.relB_ok (show He.relB (.str x) u = true from h), fun _ => .str x⟩
  | .tuple ds, u, h => by
    cases u with
    | ref a =>
      have h1 : (match K.lookup a with
        | some ⟨.type c, _, .seq its _, _⟩ => decide (c = "tuple") && (decide (its.size ≤ sizeLine) && datBs K ds its.toList)
        | _ => false) = true := h
      cases q : K.lookup a with
      | none =>
        rw [q] at h1
        cases h1
      | some o =>
        obtain ⟨oc, od, dt, osl⟩ := o
        rw [q] at h1
        cases oc with
        | type c =>
          cases dt with
          | seq its n =>
            obtain ⟨h2, h3⟩ := He.ba (show (decide (c = "tuple") && (decide (its.size ≤ sizeLine) && datBs K ds its.toList)) = true from h1)
            obtain ⟨h4, h5⟩ := He.ba h3
            obtain ⟨vs, hv, hr⟩ := datBs_ok ds _ h5
            exact ⟨.ref a, rfl, fun H => .tup (.inr ⟨_, its, n, q, congrArg Value.type (of_decide_eq_true h2), rfl, of_decide_eq_true h4, hv⟩) (hr H)⟩
          | _ => cases h1
        | _ => cases dt <;> cases h1
    | _ => exact nomatch h
  | .list _, u, h => nomatch h
  | .dict _, u, h => nomatch h
theorem datBs_ok {K : PySem.W.Frag} : ∀ (ds : List PyData) (us : List Value), datBs K ds us = true → RepGs K us ds
  | [], us, h => by
    cases us with
    | nil => exact ⟨[], .nil, fun _ => .nil⟩
    | cons a b => exact nomatch h
  | d :: ds, us, h => by
    cases us with
    | nil => exact nomatch h
    | cons u us =>
      obtain ⟨h1, h2⟩ := He.ba (show (datB K d u && datBs K ds us) = true from h)
      obtain ⟨v, r1, r2⟩ := datB_ok d u h1
      obtain ⟨vs, s1, s2⟩ := datBs_ok ds us h2
      exact ⟨v :: vs, .cons r1 s1, fun H => .cons (r2 H) (s2 H)⟩
end
/-- the module's name x is this datum -/
def globB (x : Str) (d : PyData) (K : PySem.W.Frag) : Bool := match PySem.W.nsIn K mainGlobals x with
  | some (some u) => datB K d u
  | _ => false
def tabB (x : Str) (kvs : List (Str × PyData)) (K : PySem.W.Frag) : Bool := kvs.all fun q => match PySem.W.nsIn K (He.ga K x) q.1 with
  | some (some u) => datB K q.2 u
  | _ => false
structure GDic (K : PySem.W.Frag) (w : World) (a : Addr) (kvs : List (Str × PyData)) : Prop where
  kd : ∃ es n, L2.KDict K w a es n
  get : ∀ z : Str, ∃ r, PySem.W.nsIn K a z = some r ∧ match kvs.lookup z with
    | some d => ∃ u, r = some u ∧ RepG K u d
    | none => r = none
theorem find_miss {P : Params} {z : Str} : ∀ {l : List DictEntry} {ks : List Str}, l.map He.keyOf = He.keysIn P ks → z ∉ ks → l.find? (·.key.isStr z) = none ∧ l.any (·.refKey) = false
  | [], _, _, _ => ⟨rfl, rfl⟩
  | e :: r, [], h, _ => by cases h
  | e :: r, k :: ks, h, hz => by
    have h1 : He.keyOf e :: r.map He.keyOf = some (k, PyData.keyHash P k) :: He.keysIn P ks := h
    injection h1 with h2 h3
    obtain ⟨i1, i2⟩ := find_miss h3 (fun q => hz (List.mem_cons_of_mem _ q))
    unfold He.keyOf at h2
    split at h2
    · rename_i x t q
      obtain ⟨h5, _⟩ := Prod.mk.inj (Option.some.inj h2)
      have n1 : e.key.isStr z = false := by
        rw [q]
        show (x == z) = false
        rw [beq_eq_false_iff_ne, h5]
        exact fun y => hz (by rw [← y]; exact List.mem_cons_self)
      have n2 : e.refKey = false := by
        unfold DictEntry.refKey
        rw [q]
      exact ⟨by rw [List.find?_cons, n1]; exact i1, by rw [List.any_cons, n2, i2]; rfl⟩
    · cases h2
theorem dicW_es {K : PySem.W.Frag} {w : World} {a : Addr} {ks : List Str} (h : He.dicW K a = some (He.keysIn w.params ks)) : ∃ es n, L2.KDict K w a es n ∧ es.toList.map He.keyOf = He.keysIn w.params ks := by
  obtain ⟨es, n, kd⟩ := He.dicW_ok h
  refine ⟨es, n, kd, ?_⟩
  unfold He.dicW at h
  rw [kd.at_] at h
  have e3 := kd.low
  have h1 : (match decide ("dict" = ("dict" : String)) && ((#[] : Array (Option Value)).isEmpty && !(a == sysModules)) with
            | true => some (es.toList.map He.keyOf)
            | false => none) = some (He.keysIn w.params ks) := h
  rw [e3] at h1
  exact Option.some.inj h1
theorem gdic_of {K : PySem.W.Frag} {w : World} {x : Str} {kvs : List (Str × PyData)} (h : He.dicW K (He.ga K x) = some (He.keysIn w.params (kvs.map (·.1)))) (hv : tabB x kvs K = true) : GDic K w (He.ga K x) kvs := by
  obtain ⟨es, n, kd, hk⟩ := dicW_es h
  refine ⟨⟨es, n, kd⟩, fun z => ?_⟩
  cases e : kvs.lookup z with
  | some d =>
    have hm : (z, d) ∈ kvs := by
      clear hv h hk kd
      induction kvs with
      | nil => cases e
      | cons q r ih =>
        obtain ⟨k, v⟩ := q
        rw [List.lookup_cons] at e
        cases hb : z == k with
        | true =>
          rw [hb] at e
          cases e
          rw [eq_of_beq hb]
          exact List.mem_cons_self
        | false =>
          rw [hb] at e
          exact List.mem_cons_of_mem _ (ih e)
    have h2 := List.all_eq_true.mp hv (z, d) hm
    cases q : PySem.W.nsIn K (He.ga K x) z with
    | none =>
      rw [show ((z, d) : Str × PyData).1 = z from rfl, q] at h2
      cases h2
    | some r =>
      rw [show ((z, d) : Str × PyData).1 = z from rfl, q] at h2
      cases r with
      | none => cases h2
      | some u => exact ⟨_, rfl, u, rfl, datB_ok d u h2⟩
  | none =>
    have hz : z ∉ kvs.map (·.1) := by
      clear hv h hk kd
      induction kvs with
      | nil => exact fun y => nomatch y
      | cons q r ih =>
        obtain ⟨k, v⟩ := q
        rw [List.lookup_cons] at e
        cases hb : z == k with
        | true =>
          rw [hb] at e
          cases e
        | false =>
          rw [hb] at e
          intro y
          rcases List.mem_cons.mp y with y | y
          · rw [show z = k from y, beq_self_eq_true] at hb
            cases hb
          · exact ih e y
    obtain ⟨i1, i2⟩ := find_miss hk hz
    refine ⟨none, ?_, rfl⟩
    unfold PySem.W.nsIn
    rw [kd.at_]
    show (match es.toList.find? (·.key.isStr z) with
      | some e => some (some e.val)
      | none => if es.toList.any (·.refKey) then none else some none) = some none
    rw [i1, i2]
    rfl

/-! ## the Hook -/
abbrev AlX : Type := He.AlT × Bool
def obsX (fa : List He.Fa) (fn : List He.DefD) (ts : List He.Tab) (cs : List (PySem.W.Frag → Bool)) (K : PySem.W.Frag) : AlX := (He.obsT fa fn ts K, cs.all fun c => c K)
def valX (fn : List He.DefD) (ts : List He.Tab) (w : World) : AlX := (He.valT fn ts w, true)
def obsXG (n : Nat) (fa : List He.Fa) (fn : List He.DefD) (ts : List He.Tab) (cs : List (PySem.W.Frag → Bool)) (g : Addr → Option Obj) : AlX := obsX fa fn ts cs (He.frG g (He.asD g n))
def SaysX (fa : List He.Fa) (fn : List He.DefD) (ts : List He.Tab) (cs : List (PySem.W.Frag → Bool)) (w : World) (K : PySem.W.Frag) : Prop := obsX fa fn ts cs K = valX fn ts w
def hookX (n : Nat) (fa : List He.Fa) (fn : List He.DefD) (ts : List He.Tab) (cs : List (PySem.W.Frag → Bool)) : PySem.W.Hook where
  α := AlX
  obs := fun s => obsXG n fa fn ts cs s.heap.get?
  val := fun w => valX fn ts w
  says := fun w h => ∃ K : PySem.W.Frag, K.In h ∧ SaysX fa fn ts cs w K
  of := fun _ _ e => ⟨_, He.frG_in, e⟩
  keeps := fun _ _ _ ⟨K, hK, c⟩ k => ⟨K, PySem.W.Frag.In.keeps hK k, c⟩
theorem obsXG_eq {n : Nat} {fa : List He.Fa} {fn : List He.DefD} {ts : List He.Tab} {cs : List (PySem.W.Frag → Bool)} {g : Addr → Option Obj} {s : Shared} (h : ∀ a, g a = s.heap.get? a) : obsXG n fa fn ts cs g = (hookX n fa fn ts cs).obs s := by
  have e : g = s.heap.get? := funext h
  rw [e] <;> rfl
section
variable {fa : List He.Fa} {fn : List He.DefD} {ts : List He.Tab} {cs : List (PySem.W.Frag → Bool)} {w : World} {K : PySem.W.Frag}
theorem SaysX.t (c : SaysX fa fn ts cs w K) : He.SaysT fa fn ts w K := congrArg (fun z : AlX => z.1) c
theorem SaysX.d (c : SaysX fa fn ts cs w K) : He.SaysD fa fn K := c.t.d
theorem SaysX.chk (c : SaysX fa fn ts cs w K) (i : Nat) {f : PySem.W.Frag → Bool} (h : cs[i]? = some f := by rfl) : f K = true := List.all_eq_true.mp (congrArg (fun z : AlX => z.2) c : (cs.all fun c => c K) = true) f (List.mem_of_getElem? h)
theorem SaysX.gdic (c : SaysX fa fn ts cs w K) (i j : Nat) {x : Str} {kvs : List (Str × PyData)} (h : ts[i]? = some (fun K => He.ga K x, kvs.map (·.1)) := by rfl) (h' : cs[j]? = some (tabB x kvs) := by rfl) : GDic K w (He.ga K x) kvs := by
  have e : ts.map (fun t => He.dicW K (t.1 K)) = ts.map fun t => some (He.keysIn w.params t.2) := congrArg (fun z : He.AlT => z.2) c.t
  have e2 : (ts.map fun t => He.dicW K (t.1 K))[i]? = (ts.map fun t => some (He.keysIn w.params t.2))[i]? := by rw [e]
  rw [List.getElem?_map, List.getElem?_map, h] at e2
  exact gdic_of (Option.some.inj e2) (c.chk j h')
theorem SaysX.glob (c : SaysX fa fn ts cs w K) (j : Nat) {h : Heap} {mg : Str → Option Value} (X : K.In h) (G : h.Ns mainGlobals mg) {x : Str} {d : PyData} (h' : cs[j]? = some (globB x d) := by rfl) : ∃ u, mg x = some u ∧ RepG K u d := by
  have h2 := c.chk j h'
  unfold globB at h2
  cases q : PySem.W.nsIn K mainGlobals x with
  | none =>
    rw [q] at h2
    cases h2
  | some r =>
    rw [q] at h2
    cases r with
    | none => cases h2
    | some u => exact ⟨u, PySem.W.mg_of X G q, datB_ok d u h2⟩
end
section
variable {K : PySem.W.Frag} {x qual : Str} {st : Stmt} {f : Addr} {fd : FuncData}
theorem toFun (F : FunD K x qual (defArgs st) (defBody st) (defScope st) [] [] f fd) : L2.Fun K x qual st f fd := by
  obtain ⟨oc, od, dV, kV, doc, pm, an, cdv, ct, osl, h1, lk, hcd, hD, hK⟩ := F.ex
  rcases hD with ⟨_, rfl⟩ | ⟨e, _⟩
  · exact ⟨⟨oc, od, kV, doc, pm, an, cdv, ct, osl, h1, lk, hcd⟩, F.kp⟩
  · exact absurd rfl e
theorem kb_of {ps ks : List Str} {n : Nat} {π : List Nat} (F : FunD K x qual (defArgs st) (defBody st) (defScope st) [] [] f fd)
    (h : ∀ (kV doc pm : Value) (an : Option Addr) (cdv ct : Value) (us ws : List Value), us.length = n → ws.length = ks.length → bindArgs (PySem.W.fnOf x qual (defArgs st) (defBody st) (defScope st) .none kV doc pm an cdv ct) ⟨us, ks.zip ws⟩ = pure (ps.zip (permL π .none (us ++ ws)))) : KB K fd ps n ks π := by
  obtain ⟨oc, od, dV, kV, doc, pm, an, cdv, ct, osl, rfl, lk, hcd, hD, hK⟩ := F.ex
  rcases hD with ⟨_, rfl⟩ | ⟨e, _⟩
  · exact fun s us ws _ h1 h2 => .of_eq (h kV doc pm an cdv ct us ws h1 h2)
  · exact absurd rfl e
end

/-! ## rules -/
section
variable {X : Cx} {m : Am} {a b c e : Expr} {pos p : Pos} {te : TE} {de : DE}
theorem d_glob {x : Str} {d : PyData} (hg : Gl X x) (hm : ∃ u, X.mg x = some u ∧ RepG X.K u d) (hd : (x == ("__debug__" : Str)) = false := by decide) : ∃ t, DPE X m (.Name x pos) t (dC d) := by
  obtain ⟨u, e, v, r, h⟩ := hm
  exact ⟨tC v, pe_glob hg e r hd, re_c h⟩
def dGIn (kvs : List (Str × PyData)) (de : DE) : DE := fun ρ Q => de ρ fun x => match x with
  | .d (.str z) => Q (.d (.bool (kvs.lookup z).isSome))
  | _ => False
def dGNot (kvs : List (Str × PyData)) (de : DE) : DE := fun ρ Q => de ρ fun x => match x with
  | .d (.str z) => Q (.d (.bool (!(kvs.lookup z).isSome)))
  | _ => False
def dGGet (kvs : List (Str × PyData)) (de : DE) : DE := fun ρ Q => de ρ fun x => match x with
  | .d (.str z) => ∃ d, kvs.lookup z = some d ∧ Q (.d d)
  | _ => False
def rGIn (K : PySem.W.Frag) (D : Addr) : R2 := fun x y H Q => ∃ (z : Str) (r : Option Value), x = .str z ∧ y = .ref D ∧ PySem.W.nsIn K D z = some r ∧ Q (.bl r.isSome) H
def rGNot (K : PySem.W.Frag) (D : Addr) : R2 := fun x y H Q => ∃ (z : Str) (r : Option Value), x = .str z ∧ y = .ref D ∧ PySem.W.nsIn K D z = some r ∧ Q (.bl (!r.isSome)) H
theorem isSome_of {K : PySem.W.Frag} {z : Str} {kvs : List (Str × PyData)} {r : Option Value} (h : match kvs.lookup z with
    | some d => ∃ u, r = some u ∧ RepG K u d
    | none => r = none) : r.isSome = (kvs.lookup z).isSome := by
  split at h
  · rename_i q
    obtain ⟨u, rfl, _⟩ := h
    rw [q]
    rfl
  · rename_i q
    subst h
    rw [q]
    rfl
theorem d_gin {x : Str} {D : Addr} {kvs : List (Str × PyData)} (hg : Gl X x) (hm : X.mg x = some (.ref D)) (G : GDic X.K X.w D kvs) (he : DPE X m e te de) (hd : (x == ("__debug__" : Str)) = false := by decide) :
    DPE X m (.Compare e [.In] [.Name x p] pos) (tOp (rGIn X.K D) te (tC (.ref D))) (dGIn kvs de) := by
  obtain ⟨es, n, kd⟩ := G.kd
  refine ⟨pe_cmpR (op_in_kd kd) he.pe (pe_glob hg hm rfl hd) rfl, ⟨fun {σ H ρ F T Q dQ} er hq k => he.re.run er hq fun H1 v x e1 er1 vx h => ?_⟩⟩
  split at h
  · rename_i z
    obtain ⟨r, e2, hr⟩ := G.get z
    exact ⟨z, r, vx.str, rfl, e2, k H1 _ _ e1 er1 (.ofBool _) (by rw [isSome_of hr]; exact h)⟩
  · exact h.elim
theorem d_gni {x : Str} {D : Addr} {kvs : List (Str × PyData)} (hg : Gl X x) (hm : X.mg x = some (.ref D)) (G : GDic X.K X.w D kvs) (he : DPE X m e te de) (hd : (x == ("__debug__" : Str)) = false := by decide) :
    DPE X m (.Compare e [.NotIn] [.Name x p] pos) (tOp (rGNot X.K D) te (tC (.ref D))) (dGNot kvs de) := by
  obtain ⟨es, n, kd⟩ := G.kd
  refine ⟨pe_cmpR (op_notIn_kd kd) he.pe (pe_glob hg hm rfl hd) rfl, ⟨fun {σ H ρ F T Q dQ} er hq k => he.re.run er hq fun H1 v x e1 er1 vx h => ?_⟩⟩
  split at h
  · rename_i z
    obtain ⟨r, e2, hr⟩ := G.get z
    exact ⟨z, r, vx.str, rfl, e2, k H1 _ _ e1 er1 (.ofBool _) (by rw [isSome_of hr]; exact h)⟩
  · exact h.elim
theorem d_gget {x : Str} {D : Addr} {kvs : List (Str × PyData)} (hg : Gl X x) (hm : X.mg x = some (.ref D)) (G : GDic X.K X.w D kvs) (he : DPE X m e te de) (hs : PlainIx e) (hd : (x == ("__debug__" : Str)) = false := by decide) :
    DPE X m (.Subscript (.Name x p) e pos) (tOp (rIxD X.K X.w) (tC (.ref D)) te) (dGGet kvs de) := by
  obtain ⟨es, n, kd⟩ := G.kd
  refine ⟨pe_ix ix_kdict (pe_glob hg hm rfl hd) he.pe hs, ⟨fun {σ H ρ F T Q dQ} er hq k => he.re.run er hq fun H1 v x e1 er1 vx h => ?_⟩⟩
  split at h
  · rename_i z
    obtain ⟨d, e3, h⟩ := h
    obtain ⟨r, e2, hr⟩ := G.get z
    rw [e3] at hr
    obtain ⟨u, rfl, v0, rv, rp⟩ := hr
    exact ⟨D, z, v0, rfl, vx.str, ⟨es, n, u, kd.at_, kd.lit, e2, rv⟩, k H1 _ _ e1 er1 (.d (rp _)) h⟩
  · exact h.elim
/-! ### a < b < c -/
theorem d_chain {op op' : CmpOp} {r r' : R2} {dr dr' : D2} {ta tb tc : TE} {da db dc : DE} (ho : OpR X (compareOp op) r) (ho' : OpR X (compareOp op') r') (h1 : R2D X.K m r dr) (h2 : R2D X.K m r' dr') (ha : DPE X m a ta da) (hb : DPE X m b tb db) (hc : DPE X m c tc dc)
    (hm : lastMarks [op, op'] [b, c] = false := by with_unfolding_all rfl) : DPE X m (.Compare a [op, op'] [b, c] pos) (tChain r r' ta tb tc) (dChain dr dr' da db dc) := ⟨pe_chain ho ho' ha.pe hb.pe hc.pe hm, ⟨fun {σ H ρ F T Q dQ} er hq k =>
  ha.re.run er hq fun H1 v x e1 er1 vx hq => hb.re.run er1 hq fun H2 u y e2 er2 vy hq => h1.run er2 (vx.step er1 e2) vy hq fun H3 w z e3 er3 vz hq => by
    split at hq
    case h_2 => exact hq.elim
    rename_i kk
    refine ⟨kk, vz.bool, ?_⟩
    cases kk with
    | true =>
      rw [if_pos rfl] at hq ⊢
      exact hc.re.run er3 hq fun H4 w' z' e4 er4 vz' hq => h2.run er4 (vy.step er2 (e3.trans e4)) vz' hq fun H5 w5 z5 e5 er5 v5 hq => k H5 w5 z5 ((((e1.trans e2).trans e3).trans e4).trans e5) er5 v5 hq
    | false =>
      rw [if_neg (by simp)] at hq ⊢
      exact k H3 _ _ ((e1.trans e2).trans e3) er3 (.ofBool _) hq⟩⟩
end
end DL

/-! ==== DLP ==== -/
set_option Elab.async false
set_option linter.all false
set_option maxRecDepth 100000
set_option maxHeartbeats 4000000
namespace DL
open PySem PySem.Spec PyProof.Rows L2

/-! ## the pot of the laws k00 .. k18 -/
def Rdraw : DF := fun xs Q => ∃ n : Int, xs = [.pot, .d (.int n)] ∧ 1 ≤ n ∧ n < 1073741824 ∧ ∀ r : Int, 0 ≤ r → r < n → Q (.int r)
abbrev ixP (K : PySem.W.Frag) (i : Int) : TE := tOp (rIxL K) (tVar 0) (tC (.int i))
abbrev gP (i : Int) : TG := gSub (tVar 0) (tC (.int i)) rSetL
abbrev rDvm : List V → Hp → VK → Prop := fun xs H Q => ∃ i j, xs = [.int i, .int j] ∧ CDiv i j ∧ ∀ p, H p = none → Q (.ref p) (upd H p (.tup [.int (i / j), .int (i % j)]))
abbrev rInt1 : List V → Hp → VK → Prop := fun xs H Q => (∃ i, xs = [.int i] ∧ Q (.int i) H) ∨ ∃ k, xs = [.bl k] ∧ Q (.int (if k then 1 else 0)) H
abbrev rPl : R2 := rI0 fun i j => .int (i + j)
abbrev rTm : R2 := rI CMul fun i j => .int (i * j)
theorem cmulR (i j : Int) (h : 0 ≤ j ∧ j < 9223372036854775808) : CMul i j := .inr ⟨by omega, by omega⟩
theorem cmulL (i j : Int) (h : 0 ≤ i ∧ i < 9223372036854775808) : CMul i j := .inl ⟨by omega, by omega⟩
abbrev rMd : R2 := rI (fun _ j => j ≠ 0) fun i j => .int (i.fmod j)
abbrev rFd : R2 := rI CDivN fun i j => .int (i.fdiv j)
abbrev rGt : R2 := rI0 fun i j => .bl (decide (j < i))
abbrev tInt1 (t : TE) : TE := tCB rInt1 (tCons t tNil)
abbrev tI (i : Int) : TE := tC (.int i)
def t_draw (K : PySem.W.Frag) : TS :=
  tSeq (tIfS (tTest (tOp rGt (ixP K 0) (tI 0)))
    (tSeq (tAsg (tCB rDvm (tCons (ixP K 0) (tCons (tVar 1) tNil))) (gTup K 2 (gCons (gP 0) (gCons (gName 2) gNil)))) (tRet (tVar 2)))
    tNext)
  (tSeq (tAsg (tOp rPl (ixP K 2) (tI 1)) (gP 2))
  (tSeq (tAsg (tOp rMd (tInt1 (tOp rPl (tOp rPl (tOp rTm (ixP K 1) (tOp rPl (tI 44021) (tOp rTm (tI 6) (ixP K 2)))) (tI 60029)) (ixP K 2))) (tI 2147483477)) (gP 1))
  (tRet (tOp rMd (tInt1 (tOp rFd (ixP K 1) (tI 61))) (tVar 1)))))
theorem ixP_ok {K : PySem.W.Frag} {σ : L2.St} {H : Hp} {p : Addr} {xs : List V} {i : Int} {v : V} {Q : VK} (h0 : σ[0]? = some (some (.ref p))) (hp : H p = some (.lst xs)) (ha : atI xs i = some v) (q : Q v H) : ixP K i σ H Q :=
  ⟨_, h0, p, xs, i, v, rfl, rfl, SqL.of hp, ha, q⟩
theorem gP_ok {σ : L2.St} {H : Hp} {p : Addr} {xs : List V} {i : Int} {j : Nat} {v : V} {Q : L2.St → Hp → Prop} (h0 : σ[0]? = some (some (.ref p))) (hp : H p = some (.lst xs)) (hj : ixN xs.length i = some j) (q : Q σ (upd H p (.lst (xs.set j v)))) : gP i v σ H Q :=
  ⟨_, h0, p, xs, i, j, rfl, rfl, hp, hj, q⟩
theorem potOk_upd {P : Option Addr} {H : Hp} {p : Addr} {a b c : Int} (hp : P = some p) (i : PotI a b c) : PotOk P (upd H p (.lst [.int a, .int b, .int c])) := fun q hq => by
  rw [hp] at hq
  cases hq
  exact ⟨a, b, c, upd_same, i⟩
theorem ext_upd {P : Option Addr} {H H' : Hp} {p : Addr} {o : HO} (hp : P = some p) (e : Ext P H H') : Ext P H (upd H' p o) := fun a u hne ha => by
  rw [upd_ne (fun z => hne (by rw [hp, z]))]
  exact e a u hne ha
theorem pure_draw {K : PySem.W.Frag} (vs : List V) (H : Hp) (Q : VK) (E : XK) (h : dsp K Rdraw vs H Q E) : t_draw K { nx := fun _ H' => Q .non H', rt := Q } (L2.start ["p", "f", "d"] vs) H := by
  obtain ⟨m, xs, e0, hb, ha, Pq, ⟨n, rfl, h1, h2, hPq⟩, hQ⟩ := h
  subst e0
  cases ha with
  | pot hmp hrest =>
    rename_i p vs
    cases hrest with
    | d r hr2 =>
      cases hr2
      cases r
      obtain ⟨a, b, c, hp, ia, ib, ib2, ic⟩ := hb.pot p hmp
      have fin : ∀ (H' : Hp) (r : Int), 0 ≤ r → r < n → Ext m.P m.H0 H' → PotOk m.P H' → Q (.int r) H' := fun H' r q1 q2 e po => hQ (.int r) (hPq r q1 q2) H' (.int r) e po (.int r)
      refine ixP_ok rfl hp rfl ⟨a, 0, rfl, rfl, decide (0 < a), rfl, ?_⟩
      by_cases hpos : 0 < a
      · rw [show decide (0 < a) = true from decide_eq_true hpos]
        refine (if_pos rfl : (if true = true then _ else _) = _).mpr ?_
        refine ixP_ok rfl hp rfl ⟨_, rfl, ?_⟩
        refine ⟨a, n, rfl, ⟨by omega, by omega⟩, fun q hq => ?_⟩
        have npq : p ≠ q := fun z => by rw [z, hq] at hp; cases hp
        have hp' : upd m.H0 q (.tup [.int (a / n), .int (a % n)]) p = some (.lst [.int a, .int b, .int c]) := by rw [upd_ne npq]; exact hp
        refine ⟨q, _, rfl, SqT.of upd_same, rfl, _, _, rfl, gP_ok (j := 0) rfl hp' rfl ⟨_, _, rfl, rfl, ?_⟩⟩
        refine ⟨_, rfl, fin _ _ (Int.emod_nonneg _ (by omega)) (Int.emod_lt_of_pos _ (by omega)) (ext_upd hmp fun x o hne hx => ?_) (potOk_upd hmp ⟨Int.ediv_nonneg ia (by omega), ib, ib2, ic⟩)⟩
        rw [upd_ne (fun z => by rw [z, hq] at hx; cases hx)]
        exact hx
      · rw [show decide (0 < a) = false from decide_eq_false hpos]
        refine (if_neg (by simp) : (if false = true then _ else _) = _).mpr ?_
        refine ixP_ok rfl hp rfl ⟨_, _, rfl, rfl, gP_ok (j := 2) rfl hp rfl ?_⟩
        have e1 : upd m.H0 p (.lst [.int a, .int b, .int (c + 1)]) p = some (.lst [.int a, .int b, .int (c + 1)]) := upd_same
        have ec : ∀ {H1 : Hp} {a b c : Int}, upd H1 p (.lst [.int a, .int b, .int c]) p = some (.lst [.int a, .int b, .int c]) := upd_same
        refine ixP_ok rfl e1 rfl (ixP_ok rfl e1 rfl ⟨_, _, rfl, rfl, cmulL _ _ ⟨by decide, by decide⟩, _, _, rfl, rfl, _, _, rfl, rfl, cmulL _ _ ⟨ib, by omega⟩, _, _, rfl, rfl, ixP_ok rfl e1 rfl ⟨_, _, rfl, rfl, .inl ⟨_, rfl, _, _, rfl, rfl, (by decide : (2147483477 : Int) ≠ 0), gP_ok (j := 1) rfl e1 rfl ?_⟩⟩⟩)
        refine ixP_ok rfl ec rfl ⟨_, _, rfl, rfl, (⟨by decide, by decide⟩ : (61 : Int) ≠ 0 ∧ (61 : Int).natAbs < 1073741824), .inl ⟨_, rfl, ⟨_, rfl, _, _, rfl, rfl, by omega, ?_⟩⟩⟩
        have hfm : ∀ x : Int, 0 ≤ x.fmod 2147483477 ∧ x.fmod 2147483477 < 2147483477 := fun x => ⟨Int.fmod_nonneg_of_pos _ (by decide), Int.fmod_lt_of_pos _ (by decide)⟩
        exact fin _ _ (Int.fmod_nonneg_of_pos _ (by omega)) (Int.fmod_lt_of_pos _ (by omega)) (ext_upd hmp (ext_upd hmp fun x o _ hx => hx)) (potOk_upd hmp ⟨ia, (hfm _).1, (hfm _).2, by omega⟩)

/-! ### the pot itself -/
/-- what the law hands to the pot: the script, a turn below its length or not -/
def spPot (K : PySem.W.Frag) : Sp := fun vs H Q _ => ∃ (a : Addr) (ns : List Int) (t : Int), vs = [.ref a, .int t] ∧ SqL K H a (ns.map V.int) ∧ 0 ≤ t ∧
  ∀ H' p x y, Ex H H' → H p = none → H' p = some (.lst [.int x, .int y, .int 0]) → PotI x y 0 → Q (.ref p) H'
abbrev rSlA (K : PySem.W.Frag) := rSlL K
abbrev rMod1 (i : TE) (j : Int) : TE := tOp rMd i (tI j)
abbrev rAbs1 : List V → Hp → VK → Prop := rAbs
def t_pot (K : PySem.W.Frag) : TS :=
  tSeq (tAsg (tOp rPl (tI 733001) (tOp rTm (tI 4409) (tVar 1))) (gName 2))
  (tSeq (tFor (iList K (tSl (rSlL K) (tVar 0) tNoPart (tPart (tI 11)))) (gName 3)
    (tAsg (rMod1 (tInt1 (tOp rPl (tOp rPl (tOp rTm (tVar 2) (tI 50021)) (tOp rTm (rMod1 (tInt1 (tVar 3)) 1999999973) (tI 3))) (tI 17))) 2147483477) (gName 2)))
  (tSeq (tAsg (tIf (tTest (tOp (rI0 fun i j => .bl (decide (i < j))) (tVar 1) (tCB (rLen K) (tCons (tVar 0) tNil)))) (tInt1 (tOp (rIxL K) (tVar 0) (tVar 1))) (tI 0)) (gName 4))
  (tSeq (tAsg (tIf (tTest (tOp (rI0 fun i j => .bl (decide (j ≤ i))) (tCB rAbs (tCons (tVar 4) tNil)) (tOp (rI CPow fun i j => .int (i ^ j.toNat)) (tI 10) (tI 16)))) (tCB rAbs (tCons (tVar 4) tNil)) (tI 0)) (gName 5))
  (tRet (tLst (tCons (tVar 5) (tCons (rMod1 (tInt1 (tOp rPl (tOp rPl (tOp rTm (tVar 2) (tI 30011)) (rMod1 (tInt1 (tVar 4)) 1999999973)) (tI 7))) 2147483477) (tCons (tI 0) tNil))))))))
theorem ite_t {P Q : Prop} (h : P) : (if true = true then P else Q) := (if_pos rfl).mpr h
theorem ite_f {P Q : Prop} (h : Q) : (if false = true then P else Q) := (if_neg (by simp)).mpr h
theorem pure_pot {K : PySem.W.Frag} (vs : List V) (H : Hp) (Q : VK) (E : XK) (h : spPot K vs H Q E) : t_pot K { nx := fun _ H' => Q .non H', rt := Q } (L2.start ["s", "t", "u", "e", "c", "d"] vs) H := by
  obtain ⟨a, ns, t, rfl, hS, ht, hQ⟩ := h
  refine ⟨_, rfl, _, _, rfl, rfl, cmulL _ _ ⟨by decide, by decide⟩, _, _, rfl, rfl, ?_⟩
  refine ⟨_, rfl, _, rfl, a, _, rfl, hS, fun q hq => ⟨q, rfl, ⟨_, SqL.of upd_same⟩, ?_⟩⟩
  have hys : ∀ v ∈ cutV (ns.map V.int) none (some 11), ∃ i, v = .int i := fun v hv => by
    have h1 : v ∈ ns.map V.int := List.mem_of_mem_drop (List.mem_of_mem_take hv)
    obtain ⟨i, _, e⟩ := List.mem_map.mp h1
    exact ⟨i, e.symm⟩
  generalize hye : cutV (ns.map V.int) none (some 11) = ys at hys ⊢
  have hyq : ∀ {zs}, SqL K (upd H q (.lst ys)) q zs → SqL K (upd H q (.lst ys)) q zs := fun h => h
  have hEx : Ex H (upd H q (.lst ys)) := Ex.new hq
  refine ⟨fun i m σ H' => m = ys.length - i ∧ H' = upd H q (.lst ys) ∧ ∃ u x, σ = [some (.ref a), some (.int t), some (.int u), x, none, none], ⟨_, rfl, rfl, _, _, rfl⟩, ?_⟩
  rintro i m σ H' ⟨rfl, rfl, u, x, rfl⟩
  by_cases hlt : i < ys.length
  · refine .inr ⟨⟨_, _, SqL.of upd_same, List.getElem?_eq_getElem hlt⟩, fun σ' H' => H' = upd H q (.lst ys) ∧ ∃ u x, σ' = [some (.ref a), some (.int t), some (.int u), x, none, none], fun σ' H' ⟨e1, e2⟩ => ⟨ys.length - (i + 1), by omega, rfl, e1, e2⟩, fun v H2 hy => ?_⟩
    obtain ⟨rfl, hu⟩ := hy
    have e2 := hu ys (SqL.of upd_same)
    rw [List.getElem?_eq_getElem hlt] at e2
    cases e2
    obtain ⟨n, hn⟩ := hys ys[i] (List.getElem_mem hlt)
    rw [hn]
    exact ⟨_, rfl, _, _, rfl, rfl, cmulR _ _ ⟨by decide, by decide⟩, _, rfl, .inl ⟨_, rfl, _, _, rfl, rfl, (by decide : (1999999973 : Int) ≠ 0), _, _, rfl, rfl, cmulR _ _ ⟨by decide, by decide⟩, _, _, rfl, rfl, _, _, rfl, rfl, .inl ⟨_, rfl, _, _, rfl, rfl, (by decide : (2147483477 : Int) ≠ 0), rfl, _, _, rfl⟩⟩⟩
  · refine .inl ⟨⟨ys, SqL.of upd_same, by omega⟩, ?_⟩
    have hS' : SqL K (upd H q (.lst ys)) a (ns.map V.int) := hEx.sl hS
    have fin : ∀ c : Int, (tSeq (tAsg (tIf (tTest (tOp (rI0 fun i j => .bl (decide (j ≤ i))) (tCB rAbs (tCons (tVar 4) tNil)) (tOp (rI CPow fun i j => .int (i ^ j.toNat)) (tI 10) (tI 16)))) (tCB rAbs (tCons (tVar 4) tNil)) (tI 0)) (gName 5))
  (tRet (tLst (tCons (tVar 5) (tCons (rMod1 (tInt1 (tOp rPl (tOp rPl (tOp rTm (tVar 2) (tI 30011)) (rMod1 (tInt1 (tVar 4)) 1999999973)) (tI 7))) 2147483477) (tCons (tI 0) tNil)))))) { nx := fun _ H' => Q .non H', rt := Q } [some (.ref a), some (.int t), some (.int u), x, some (.int c), none] (upd H q (.lst ys)) := fun c => by
      have fin2 : ∀ dg : Int, 0 ≤ dg → (tRet (tLst (tCons (tVar 5) (tCons (rMod1 (tInt1 (tOp rPl (tOp rPl (tOp rTm (tVar 2) (tI 30011)) (rMod1 (tInt1 (tVar 4)) 1999999973)) (tI 7))) 2147483477) (tCons (tI 0) tNil))))) { nx := fun _ H' => Q .non H', rt := Q } [some (.ref a), some (.int t), some (.int u), x, some (.int c), some (.int dg)] (upd H q (.lst ys)) := fun dg hdg => by
        refine ⟨_, rfl, _, rfl, _, _, rfl, rfl, cmulR _ _ ⟨by decide, by decide⟩, _, rfl, .inl ⟨_, rfl, _, _, rfl, rfl, (by decide : (1999999973 : Int) ≠ 0), _, _, rfl, rfl, _, _, rfl, rfl, .inl ⟨_, rfl, _, _, rfl, rfl, (by decide : (2147483477 : Int) ≠ 0), ?_⟩⟩⟩
        refine ⟨by show (3 : Nat) ≤ sizeLine; decide, fun p hp => ?_⟩
        have hHp : H p = none := by
          cases z : H p with
          | none => rfl
          | some o =>
            have := hEx p o z
            rw [hp] at this
            cases this
        exact hQ _ p _ _ (Ex.trans hEx (Ex.new hp)) hHp upd_same ⟨hdg, Int.fmod_nonneg_of_pos _ (by decide), Int.fmod_lt_of_pos _ (by decide), Int.le_refl _⟩
      have ab : 0 ≤ (if c < 0 then -c else c) := by
        by_cases z : c < 0
        · rw [if_pos z]; omega
        · rw [if_neg z]; omega
      refine ⟨_, rfl, _, rfl, _, _, rfl, rfl, ⟨by decide, by decide, by decide⟩, _, _, rfl, rfl, _, rfl, ?_⟩
      by_cases hc : (10 : Int) ^ (16 : Int).toNat ≤ (if c < 0 then -c else c)
      · rw [decide_eq_true hc]
        exact ite_t ⟨_, rfl, _, rfl, fin2 _ ab⟩
      · rw [decide_eq_false hc]
        exact ite_f (fin2 0 (Int.le_refl _))
    refine ⟨_, rfl, _, rfl, _, _, rfl, .inl ⟨_, hS', rfl⟩, _, _, rfl, rfl, _, rfl, ?_⟩
    by_cases hc : t < ((ns.map V.int).length : Int)
    · rw [decide_eq_true hc]
      have hl : t.toNat < (ns.map V.int).length := by omega
      have hl2 : t.toNat < ns.length := by rw [List.length_map] at hl; exact hl
      have hat : atI (ns.map V.int) t = some (.int ns[t.toNat]) := by
        have h1 : ixN (ns.map V.int).length t = some t.toNat := by
          unfold ixN
          rw [if_pos ht, if_pos (by omega)]
        unfold atI
        rw [h1]
        show (ns.map V.int)[t.toNat]? = _
        rw [List.getElem?_map, List.getElem?_eq_getElem hl2]
        rfl
      exact ite_t ⟨_, rfl, _, rfl, a, _, t, _, rfl, rfl, hS', hat, .inl ⟨_, rfl, fin _⟩⟩
    · rw [decide_eq_false hc]
      exact ite_f (fin 0)

/-! ### the law: all([right(pot(script, turn)) for turn in range(max(lo, min(len(script), hi)))]) -/
def Rright : DF := fun xs Q => xs = [.pot] ∧ Q (.bool true)
def t_law (K : PySem.W.Frag) (lo hi : Int) : TS :=
  tRet (tCB (rAll K) (tCons (tLc (iRng1 (tCons (tCB (rII fun i j => if j > i then j else i) (tCons (tI lo) (tCons (tCB (rII fun i j => if j < i then j else i) (tCons (tCB (rLen K) (tCons (tVar 0) tNil)) (tCons (tI hi) tNil))) tNil))) tNil)) (gName 1) tYes
    (tCall (dsp K Rright) [] E0 (tCons (tCall (spPot K) [] E0 (tCons (tVar 0) (tCons (tVar 1) tNil))) tNil)) [1]) tNil))
def spLaw (K : PySem.W.Frag) : Sp := fun vs H Q _ => ∃ (a : Addr) (ns : List Int), vs = [.ref a] ∧ SqL K H a (ns.map V.int) ∧ ∀ H', Q (.bl true) H'
theorem tYes_t {σ : L2.St} {H : Hp} {A B : Hp → Prop} (h : A H) : tYes σ H (fun b H3 => if b = true then A H3 else B H3) := h
theorem pure_law {K : PySem.W.Frag} (lo hi : Int) (h1 : 0 ≤ lo ∧ lo ≤ 1000) (h2 : 0 ≤ hi ∧ hi ≤ 1000) (vs : List V) (H : Hp) (Q : VK) (E : XK) (h : spLaw K vs H Q E) : t_law K lo hi { nx := fun _ H' => Q .non H', rt := Q } (L2.start ["s", "t"] vs) H := by
  obtain ⟨a, ns, rfl, hS, hQ⟩ := h
  refine ⟨_, rfl, _, _, rfl, .inl ⟨_, hS, rfl⟩, _, _, rfl, _, _, rfl, ?_⟩
  generalize hc : (if (if hi < ((ns.map V.int).length : Int) then hi else ((ns.map V.int).length : Int)) > lo then (if hi < ((ns.map V.int).length : Int) then hi else ((ns.map V.int).length : Int)) else lo) = c
  have cb : 0 ≤ c ∧ c ≤ 1000 := by
    rw [← hc]
    split
    · split <;> omega
    · omega
  refine ⟨c, congrArg (fun z => [V.int z]) hc, by omega, by omega, fun D hD => ?_⟩
  have hEx : Ex H (upd H D (.lst [])) := Ex.new hD
  refine ⟨fun i m H' => m = c.toNat - i ∧ i ≤ c.toNat ∧ Ex H H' ∧ H' D = some (.lst (List.replicate i (.bl true))), ⟨_, rfl, Nat.zero_le _, hEx, upd_same⟩, ?_⟩
  rintro i m H' ⟨rfl, hi', e1, hDl⟩
  by_cases hlt : i < c.toNat
  · refine .inr ⟨hlt, fun H2 => Ex H H2 ∧ H2 D = some (.lst (List.replicate (i + 1) (.bl true))), fun H2 ⟨e2, e3⟩ => ⟨c.toNat - (i + 1), by omega, rfl, by omega, e2, e3⟩, fun v H2 hy => ?_⟩
    obtain ⟨rfl, rfl⟩ := hy
    have hS' : SqL K H2 a (ns.map V.int) := e1.sl hS
    refine ⟨rfl, ?_⟩
    refine tYes_t ?_
    refine ⟨_, rfl, _, rfl, ?_⟩
    refine ⟨a, ns, _, rfl, hS', by omega, fun H3 p x y e3 hp hpl hpi => ?_⟩
    refine ⟨⟨some p, fun b => decide (b = p), H3⟩, [.pot], rfl, ⟨fun _ _ _ z => z, fun q hq => ?_, fun q hq => ?_, fun b hb => ?_⟩, .pot rfl .nil, fun r => r = .bool true, ⟨rfl, rfl⟩, ?_⟩
    · cases hq
      exact ⟨x, y, 0, hpl, hpi⟩
    · cases hq
      exact decide_eq_true rfl
    · have hb' : b = p := of_decide_eq_true hb
      rw [hb']
      show H3 p ≠ none
      rw [hpl]
      exact fun z => nomatch z
    · rintro r rfl H4 v4 e4 _ r4
      cases r4
      have dp : some p ≠ some D := fun z => by
        cases z
        rw [hDl] at hp
        cases hp
      have hD4 : H4 D = some (.lst (List.replicate i (.bl true))) := e4 D _ dp (e3 D _ hDl)
      refine ⟨_, hD4, ?_, ?_, ?_⟩
      · rw [List.length_replicate]
        have : (1000 : Nat) < sizeLine := by decide
        omega
      · intro b o hb
        have hb2 := e3 b o (e1 b o hb)
        have nb : b ≠ D := fun z => by rw [z, hD] at hb; cases hb
        rw [upd_ne nb]
        refine e4 b o (fun z => ?_) hb2
        cases z
        have := e1 p o hb
        rw [hp] at this
        cases this
      · rw [upd_same, List.replicate_succ']
  · refine .inl ⟨by show c.toNat ≤ i; omega, D, List.replicate i true, rfl, ?_, ?_⟩
    · rw [List.map_replicate]
      exact SqL.of hDl
    · rw [show (List.replicate i true).all id = true from by
        rw [List.all_eq_true]
        intro b hb
        rw [List.eq_of_mem_replicate hb]
        rfl]
      exact hQ _
theorem FnG.dimp {P : Program} {w : World} {K : PySem.W.Frag} {mg : Str → Option Value} {base : Heap} {CX : CXT} {k : Nat} {f : Addr} {fd : FuncData} {ps : List Str} {R R' : DF} (G : FnG P w K mg base CX k f fd ps (dsp K R)) (h : ∀ xs Q, R' xs Q → R xs Q) : FnG P w K mg base CX k f fd ps (dsp K R') :=
  G.imp fun vs H Q E ⟨m, xs, e0, hb, ha, Pq, hR, hQ⟩ => ⟨m, xs, e0, hb, ha, Pq, h _ _ hR, hQ⟩
end DL

/-! ==== DLO ==== -/
set_option Elab.async false
set_option linter.all false
set_option maxRecDepth 100000
set_option maxHeartbeats 4000000
namespace DL
open PySem PySem.Spec PyProof.Rows L2

/-! ## arguments that may be new lists -/
structure RAo (K : PySem.W.Frag) (m : Am) (t : TA) (da : DA) : Prop where
  run : ∀ {σ : L2.St} {H : Hp} {ρ : DEnv} {F T : List Addr} {Q : List V → Hp → Prop} {dQ : List OV → Prop}, ER K m σ H ρ F T → da ρ dQ →
    (∀ H' vs xs fp, Ext m.P H H' → (∀ a ∈ fp, H a = none) → ER K m σ H' ρ F (T ++ fp) → OwnAll K m (Bh m (F ++ (T ++ fp)) H') H' vs xs fp → dQ xs → Q vs H') → t σ H Q
structure DPAo (X : Cx) (m : Am) (es : List Expr) (t : TA) (da : DA) : Prop where
  pa : PA X es t
  ra : RAo X.K m t da
def dConsO (de : DE) (da : DA) : DA := fun ρ Q => de ρ fun x => argOk x = true ∧ da ρ fun xs => Q (x :: xs)
def dConsN (dn : DN) (da : DA) : DA := fun ρ Q => dn ρ fun ys => da ρ fun xs => Q (.lst ys :: xs)
section
variable {X : Cx} {m : Am} {a b c e : Expr} {es : List Expr} {pos p : Pos} {te : TE} {de : DE} {dn : DN} {ua : TA} {va : DA}
theorem ao_nil : DPAo X m [] tNil dNil := ⟨pa_nil, ⟨fun {σ H ρ F T Q dQ} er hq k => k H [] [] [] (Ext.refl _ _) (fun a z => nomatch z) (by rw [List.append_nil]; exact er) .nil hq⟩⟩
theorem ao_d (h : DPE X m e te de) (h' : DPAo X m es ua va) (hs : starEach (e :: es) X.env = (false, eval e X.env) :: starEach es X.env := by rfl) : DPAo X m (e :: es) (tCons te ua) (dConsO de va) := ⟨pa_cons h.pe h'.pa hs, ⟨fun {σ H ρ F T Q dQ} er hq k =>
  h.re.run er hq fun H1 v x e1 er1 vx hq => h'.ra.run er1 hq.2 fun H2 vs xs fp e2 hf er2 ow hq2 => by
    refine k H2 (v :: vs) (x :: xs) fp (e1.trans e2) (fun a ha => Ext.back er1.base.pot e1 (hf a ha)) er2 ?_ hq2
    have vx2 : Own X.K m (Bh m (F ++ (T ++ fp)) H2) H2 v x [] := by
      have z : Ex (Bh m (F ++ T) H1) (Bh m (F ++ (T ++ fp)) H2) := Bh.go er1.base e2 fun a ha => by
        rw [← List.append_assoc] at ha
        rcases List.mem_append.mp ha with y | y
        · exact .inl y
        · exact .inr (hf a y)
      obtain ⟨fq, o, _⟩ := vx
      cases o with
      | d r => exact .d (Rep.mono z _ _ r)
      | pot hp => exact .pot hp
      | lst _ _ => exact nomatch hq.1
      | dic _ _ => exact nomatch hq.1
    exact OwnAll.cons (fp := []) vx2 ow⟩⟩
theorem ao_n (h : DPN X m e te dn) (h' : DPAo X m es ua va) (hs : starEach (e :: es) X.env = (false, eval e X.env) :: starEach es X.env := by rfl) : DPAo X m (e :: es) (tCons te ua) (dConsN dn va) := ⟨pa_cons h.pe h'.pa hs, ⟨fun {σ H ρ F T Q dQ} er hq k =>
  h.rn.run er hq fun H1 v ys fp e1 hf1 er1 ow1 hq => h'.ra.run er1 hq fun H2 vs xs fq e2 hf er2 ow hq2 => by
    have eT : (T ++ fp) ++ fq = T ++ (fp ++ fq) := List.append_assoc _ _ _
    rw [eT] at er2 ow
    refine k H2 (v :: vs) (.lst ys :: xs) (fp ++ fq) (e1.trans e2) (fun a ha => ?_) er2 (OwnAll.cons (Own.same (Bh.go er1.base e2 fun a ha => ?_) _ _ _ (fun a ha => er1.keepF e2 (List.mem_append_right _ (List.mem_append_right _ ha))) ow1) ow) hq2
    · rcases List.mem_append.mp ha with y | y
      · exact hf1 a y
      · exact Ext.back er1.base.pot e1 (hf a y)
    · rw [← eT, ← List.append_assoc] at ha
      rcases List.mem_append.mp ha with y | y
      · exact .inl y
      · exact .inr (hf a y)⟩⟩
def setsS (σ : L2.St) : List Nat → List V → L2.St
  | i :: is, v :: vs => setsS (σ.set i (some v)) is vs
  | _, _ => σ
def setsR (ρ : DEnv) : List Nat → List OV → DEnv
  | i :: is, v :: vs => setsR (ρ.set i (some v)) is vs
  | _, _ => ρ
theorem Slots.sets {K : PySem.W.Frag} {B H : Hp} : ∀ {vs : List V} {xs : List OV} {fp : List Addr} (is : List Nat) {σ : L2.St} {ρ : List (Option OV)} {F : List Addr}, OwnAll K m B H vs xs fp → Slots K m B H σ ρ F →
    ∃ F', Slots K m B H (setsS σ is vs) (setsR ρ is xs) F' ∧ (∀ a ∈ F', a ∈ F ++ fp) ∧ ((F ++ fp).Nodup → F'.Nodup)
  | [], _, _, [], σ, ρ, F, .nil, s => ⟨F, s, fun a ha => List.mem_append_left _ ha, fun h => by rw [List.append_nil] at h; exact h⟩
  | [], _, _, _ :: _, σ, ρ, F, .nil, s => ⟨F, s, fun a ha => List.mem_append_left _ ha, fun h => by rw [List.append_nil] at h; exact h⟩
  | v :: vs, x :: xs, _, [], σ, ρ, F, .cons _ _, s => ⟨F, s, fun a ha => List.mem_append_left _ ha, fun h => (List.nodup_append.mp h).1⟩
  | v :: vs, x :: xs, _, i :: is, σ, ρ, F, .cons (fp := f1) (fq := f2) o os, s => by
    obtain ⟨F1, s1, h1, n1⟩ := Slots.set o i s
    obtain ⟨F2, s2, h2, n2⟩ := Slots.sets is os s1
    refine ⟨F2, s2, fun a ha => ?_, fun nd => n2 ?_⟩
    · rw [← List.append_assoc]
      rcases List.mem_append.mp (h2 a ha) with z | z
      · exact List.mem_append_left _ (h1 a z)
      · exact List.mem_append_right _ z
    · rw [← List.append_assoc] at nd
      have nd1 := List.nodup_append.mp nd
      exact List.nodup_append.mpr ⟨n1 nd1.1, nd1.2.1, fun a ha b hb => nd1.2.2 a (h1 a ha) b hb⟩
theorem ER.sets {K : PySem.W.Frag} {σ : L2.St} {H : Hp} {ρ : DEnv} {F fp : List Addr} {vs : List V} {xs : List OV} (er : ER K m σ H ρ F ([] ++ fp)) (is : List Nat) (ow : OwnAll K m (Bh m (F ++ ([] ++ fp)) H) H vs xs fp) :
    ∃ F', ER K m (setsS σ is vs) H (setsR ρ is xs) F' [] ∧ ∀ a ∈ F', a ∈ F ++ fp := by
  obtain ⟨F', h1, h2, h3⟩ := Slots.sets is ow er.slots
  refine ⟨F', ⟨er.base, h1.same (Bh.sub fun a ha => ?_) fun _ _ => rfl, ?_, fun a ha => ?_⟩, h2⟩
  · rw [List.append_nil] at ha
    exact h2 a ha
  · rw [List.append_nil]
    exact h3 er.nd
  · rw [List.append_nil] at ha
    exact er.fresh a (h2 a ha)
def dParO (is : List Nat) (da : DA) : DS := fun D ρ => da ρ fun xs => xs.length = is.length ∧ D.nx (setsR ρ is xs)
theorem rs_parO {K : PySem.W.Frag} {D : Ends} {dD : DEnds} {σ : L2.St} {H : Hp} {ρ : DEnv} {F : List Addr} (is : List Nat) (ha : RAo K m ua va) (er : ER K m σ H ρ F []) (hq : dParO is va dD ρ) (o : EndsOk K m F H D dD) {Q : List V → Hp → Prop} (k : ∀ vs H1, vs.length = is.length → D.nx (setsS σ is vs) H1 → Q vs H1) : ua σ H Q :=
  ha.run er hq fun H' vs xs fp e1 hf er1 ow hx => by
    obtain ⟨F', er2, z⟩ := er1.sets is ow
    have hl : vs.length = xs.length := ow.len
    refine k _ _ (hl.trans hx.1) (o.nx _ H' _ F' er2 (Bh.go er.base e1 fun a ha => ?_) hx.2)
    rw [List.append_nil] at ha
    rcases List.mem_append.mp (z a ha) with y | y
    · exact .inl (List.mem_append_left _ y)
    · exact .inr (hf a y)
theorem s_parO {i j : Nat} {x y : Str} {a b : Expr} {px py pt : Pos} {kt k2 pt2} (hc : X.calm = true) (hN : X.N.Nodup) (hij : i ≠ j) (ha : DPAo X m [a, b] ua va)
    (hw : swappedStores [.Tuple [.Name x px, .Name y py] kt pt] (.Tuple [a, b] k2 pt2) X.env = pure (some [x, y]) := by rfl) (hi : X.N[i]? = some x := by rfl) (hj : X.N[j]? = some y := by rfl)
    (hx : X.env.scope.names.lookup x = some .local := by rfl) (hy : X.env.scope.names.lookup y = some .local := by rfl)
    (hs : swapsWithSole [.Tuple [.Name x px, .Name y py] kt pt] (.Tuple [a, b] k2 pt2) pos.line X.env = pure false := by rfl) :
    DPS X m (.Assign [.Tuple [.Name x px, .Name y py] kt pt] (.Tuple [a, b] k2 pt2) pos) (tPar i j ua) (dParO [i, j] va) := ⟨ps_par hc hN hi hj hij hx hy ha.pa hw hs, ⟨fun {σ H ρ F D dD} er hq o => by
  refine rs_parO [i, j] ha.ra er hq o fun vs H' hl h => ?_
  match vs, hl with
  | [v, u], _ => exact ⟨v, u, rfl, h⟩⟩⟩
theorem s_parO3 {i j l : Nat} {x y z : Str} {a b c : Expr} {px py pz pt : Pos} {kt k2 pt2} (hc : X.calm = true) (hN : X.N.Nodup) (hij : i ≠ j) (hil : i ≠ l) (hjl : j ≠ l) (ha : DPAo X m [a, b, c] ua va)
    (hw : swappedStores [.Tuple [.Name x px, .Name y py, .Name z pz] kt pt] (.Tuple [a, b, c] k2 pt2) X.env = pure (some [x, y, z]) := by rfl) (hi : X.N[i]? = some x := by rfl) (hj : X.N[j]? = some y := by rfl) (hl : X.N[l]? = some z := by rfl)
    (hx : X.env.scope.names.lookup x = some .local := by rfl) (hy : X.env.scope.names.lookup y = some .local := by rfl) (hz : X.env.scope.names.lookup z = some .local := by rfl)
    (hs : swapsWithSole [.Tuple [.Name x px, .Name y py, .Name z pz] kt pt] (.Tuple [a, b, c] k2 pt2) pos.line X.env = pure false := by rfl) :
    DPS X m (.Assign [.Tuple [.Name x px, .Name y py, .Name z pz] kt pt] (.Tuple [a, b, c] k2 pt2) pos) (tPar3 i j l ua) (dParO [i, j, l] va) := ⟨ps_par3 hc hN hi hj hl hij hil hjl hx hy hz ha.pa hw hs, ⟨fun {σ H ρ F D dD} er hq o => by
  refine rs_parO [i, j, l] ha.ra er hq o fun vs H' hl h => ?_
  match vs, hl with
  | [v, u, w], _ => exact ⟨v, u, w, rfl, h⟩⟩⟩
end
end DL

/-! ==== DLE ==== -/
set_option Elab.async false
set_option linter.all false
set_option maxRecDepth 100000
set_option maxHeartbeats 4000000
namespace DL
open PySem PySem.Spec PyProof.Rows L2

/-! ## what is settled: data readings that compute -/
abbrev CE := DEnv → Option OV
abbrev CN := DEnv → Option (List OV)
abbrev CT := DEnv → Option Bool
abbrev C2 := OV → OV → Option OV
abbrev CF := List OV → Option PyData
abbrev CI := DEnv → Option (List PyData)
abbrev CG := PyData → DEnv → Option DEnv
abbrev CGs := List PyData → DEnv → Option DEnv
abbrev CO := DEnv → Option (Option Int)
abbrev CRg := DEnv → Option (Int × Int)
inductive Out where
  | nx (ρ : DEnv)
  | rt (x : PyData)
  | bk (ρ : DEnv)
  | ct (ρ : DEnv)
def Out.go (D : DEnds) : Out → Prop
  | .nx ρ => D.nx ρ
  | .rt x => D.rt x
  | .bk ρ => D.bk ρ
  | .ct ρ => D.ct ρ
abbrev CS := DEnv → Option Out
class EvE (de : DE) (ce : outParam CE) : Prop where
  ev : ∀ {ρ x Q}, ce ρ = some x → Q x → de ρ Q
class EvN (dn : DN) (cn : outParam CN) : Prop where
  ev : ∀ {ρ x Q}, cn ρ = some x → Q x → dn ρ Q
class EvT (dt : DT) (ct : outParam CT) : Prop where
  ev : ∀ {ρ x Q}, ct ρ = some x → Q x → dt ρ Q
class EvA (da : DA) (ca : outParam CN) : Prop where
  ev : ∀ {ρ x Q}, ca ρ = some x → Q x → da ρ Q
class Ev2 (d : D2) (c : outParam C2) : Prop where
  ev : ∀ {x y z Q}, c x y = some z → Q z → d x y Q
class EvF (R : DF) (c : outParam CF) : Prop where
  ev : ∀ {xs r Q}, c xs = some r → Q r → R xs Q
class EvI (di : DI) (ci : outParam CI) : Prop where
  ev : ∀ {ρ x Q}, ci ρ = some x → Q x → di ρ Q
class EvG (dg : DG) (cg : outParam CG) : Prop where
  ev : ∀ {x ρ ρ' Q}, cg x ρ = some ρ' → Q ρ' → dg x ρ Q
class EvGs (dg : DGs) (cg : outParam CGs) : Prop where
  ev : ∀ {x ρ ρ' Q}, cg x ρ = some ρ' → Q ρ' → dg x ρ Q
class EvO (d : DEnv → (Option Int → Prop) → Prop) (c : outParam CO) : Prop where
  ev : ∀ {ρ x Q}, c ρ = some x → Q x → d ρ Q
class EvRg (d : DRg) (c : outParam CRg) : Prop where
  ev : ∀ {ρ x Q}, c ρ = some x → Q x.1 x.2 → d ρ Q
class EvS (ds : DS) (cs : outParam CS) : Prop where
  ev : ∀ {ρ o D}, cs ρ = some o → o.go D → ds D ρ
theorem ob {α β : Type} {x : Option α} {f : α → Option β} {b : β} (h : x.bind f = some b) : ∃ a, x = some a ∧ f a = some b := Option.bind_eq_some_iff.mp h
theorem om {α β : Type} {x : Option α} {f : α → β} {b : β} (h : x.map f = some b) : ∃ a, x = some a ∧ f a = b := Option.map_eq_some_iff.mp h
theorem oi {α : Type} {c : Prop} [Decidable c] {x : Option α} {b : α} (h : (if c then x else none) = some b) : c ∧ x = some b := by
  by_cases hc : c
  · rw [if_pos hc] at h
    exact ⟨hc, h⟩
  · rw [if_neg hc] at h
    cases h

/-! ### expressions -/
def cVar (i : Nat) : CE := fun ρ => (ρ[i]?).bind id
instance {i : Nat} : EvE (dVar i) (cVar i) := ⟨fun {ρ x Q} h q => by
  obtain ⟨a, e1, e2⟩ := ob h
  have e3 : a = some x := e2
  unfold dVar
  rw [e1, e3]
  exact q⟩
def cC (x : PyData) : CE := fun _ => some (.d x)
instance {x : PyData} : EvE (dC x) (cC x) := ⟨fun {ρ y Q} h q => by
  cases h
  exact q⟩
def cOp (c : C2) (a b : CE) : CE := fun ρ => (a ρ).bind fun x => (b ρ).bind fun y => c x y
instance {d : D2} {da db : DE} {c : C2} {ca cb : CE} [h : Ev2 d c] [ha : EvE da ca] [hb : EvE db cb] : EvE (dOp d da db) (cOp c ca cb) := ⟨fun {ρ x Q} e q => by
  obtain ⟨a, e1, e⟩ := ob e
  obtain ⟨b, e2, e⟩ := ob e
  exact ha.ev e1 (hb.ev e2 (h.ev e q))⟩
def cI0 (g : Int → Int → PyData) : C2 := fun x y => match x, y with
  | .d (.int i), .d (.int j) => some (.d (g i j))
  | _, _ => none
instance {g : Int → Int → PyData} : Ev2 (dI0 g) (cI0 g) := ⟨fun {x y z Q} e q => by
  unfold cI0 at e
  split at e
  · cases e
    exact q
  · cases e⟩
def cI2 (C : Int → Int → Prop) [∀ i j, Decidable (C i j)] (g : Int → Int → PyData) : C2 := fun x y => match x, y with
  | .d (.int i), .d (.int j) => if C i j then some (.d (g i j)) else none
  | _, _ => none
instance {C : Int → Int → Prop} [∀ i j, Decidable (C i j)] {g : Int → Int → PyData} : Ev2 (dI2 C g) (cI2 C g) := ⟨fun {x y z Q} e q => by
  unfold cI2 at e
  split at e
  · obtain ⟨h, e⟩ := oi e
    cases e
    exact ⟨h, q⟩
  · cases e⟩
instance {i j : Int} : Decidable (CMul i j) := by
  unfold CMul
  infer_instance
instance {i j : Int} : Decidable (CDivN i j) := by
  unfold CDivN
  infer_instance
instance {i j : Int} : Decidable (CPow i j) := by
  unfold CPow
  infer_instance
def cAdd : C2 := fun x y => match x, y with
  | .d (.int i), .d (.int j) => some (.d (.int (i + j)))
  | .d (.str i), .d (.str j) => if i.length + j.length ≤ sizeLine then some (.d (.str (i ++ j))) else none
  | .d (.tuple xs), .d (.tuple ys) => if xs.length + ys.length ≤ sizeLine then some (.d (.tuple (xs ++ ys))) else none
  | .d (.list xs), .d (.list ys) => if xs.length + ys.length ≤ sizeLine then some (.d (.list (xs ++ ys))) else none
  | _, _ => none
instance : Ev2 dAdd cAdd := ⟨fun {x y z Q} e q => by
  unfold cAdd at e
  split at e
  · cases e
    exact q
  · obtain ⟨h, e⟩ := oi e
    cases e
    exact ⟨h, q⟩
  · obtain ⟨h, e⟩ := oi e
    cases e
    exact ⟨h, q⟩
  · obtain ⟨h, e⟩ := oi e
    cases e
    exact ⟨_, _, rfl, rfl, h, q⟩
  · cases e⟩
abbrev cLt : C2 := cI0 fun i j => .bool (decide (i < j))
abbrev cLe : C2 := cI0 fun i j => .bool (decide (i ≤ j))
abbrev cGt : C2 := cI0 fun i j => .bool (decide (j < i))
abbrev cGe : C2 := cI0 fun i j => .bool (decide (j ≤ i))
def cEqG (g : Bool → Bool) : C2 := fun x y => match x, y with
  | .d (.int i), .d (.int j) => some (.d (.bool (g (decide (i = j)))))
  | .d (.str i), .d (.str j) => some (.d (.bool (g (decide (i = j)))))
  | .d (.bool i), .d (.bool j) => some (.d (.bool (g (decide (i = j)))))
  | x, y => if okv x = true ∧ okv y = true ∧ SeqAt.shaped (vw x) = true ∧ SeqAt.shaped (vw y) = true then some (.d (.bool (g (PyData.eqv (vw x) (vw y))))) else none
abbrev cEq : C2 := cEqG id
abbrev cNe : C2 := cEqG not
instance {g : Bool → Bool} : Ev2 (dEqG g) (cEqG g) := ⟨fun {x y z Q} e q => by
  unfold cEqG at e
  split at e
  · cases e
    exact q
  · cases e
    exact q
  · cases e
    exact q
  · rename_i n1 n2 n3
    obtain ⟨h, e⟩ := oi e
    cases e
    unfold dEqG
    split
    · exact absurd rfl (n1 _ _ rfl)
    · exact absurd rfl (n2 _ _ rfl)
    · exact absurd rfl (n3 _ _ rfl)
    · exact ⟨h.1, h.2.1, h.2.2.1, h.2.2.2, q⟩⟩
def cInG (g : Bool → Bool) : C2 := fun x y => match x, y with
  | .d (.str s), .d (.str z) => (match s.cps.toList with
    | [c] => some (.d (.bool (g (decide (c ∈ z.cps.toList)))))
    | _ => none)
  | .d x, .d (.tuple ys) => if flatD x = true ∧ ys.all flatD = true then some (.d (.bool (g (inD x ys)))) else none
  | .d x, .d (.list ys) => if flatD x = true ∧ ys.all flatD = true then some (.d (.bool (g (inD x ys)))) else none
  | _, _ => none
abbrev cIn : C2 := cInG id
abbrev cNotIn : C2 := cInG not
theorem str_one {s : Str} {c : Nat} (h : s.cps.toList = [c]) : s = ⟨#[c]⟩ := by
  obtain ⟨a⟩ := s
  obtain ⟨l⟩ := a
  have h2 : l = [c] := h
  rw [h2]
instance {g : Bool → Bool} : Ev2 (dInG g) (cInG g) := ⟨fun {x y z Q} e q => by
  unfold cInG at e
  split at e
  · split at e
    · cases e
      exact ⟨_, str_one ‹_›, q⟩
    · cases e
  · rename_i x ys
    obtain ⟨h, e⟩ := oi e
    cases e
    cases x <;> exact ⟨h.1, h.2, q⟩
  · rename_i x ys
    obtain ⟨h, e⟩ := oi e
    cases e
    cases x <;> exact ⟨_, rfl, h.1, h.2, q⟩
  · cases e⟩
def cIx : C2 := fun x y => match x, y with
  | .d (.list xs), .d (.int i) => (atI xs i).map .d
  | .d (.tuple xs), .d (.int i) => (atI xs i).map .d
  | .d (.str s), .d (.int i) => if s.length ≤ sizeLine then (atI s.cps.toList i).map fun c => .d (.str ⟨#[c]⟩) else none
  | .lst xs, .d (.int i) => atI xs i
  | _, _ => none
instance : Ev2 dIx cIx := ⟨fun {x y z Q} e q => by
  unfold cIx at e
  split at e
  · obtain ⟨a, e1, rfl⟩ := om e
    exact ⟨a, e1, q⟩
  · obtain ⟨a, e1, rfl⟩ := om e
    exact ⟨a, e1, q⟩
  · obtain ⟨h, e⟩ := oi e
    obtain ⟨a, e1, rfl⟩ := om e
    exact ⟨h, a, e1, q⟩
  · exact ⟨z, e, q⟩
  · cases e⟩
def cMul : C2 := fun x y => match x, y with
  | .d (.int i), .d (.int j) => if CMul i j then some (.d (.int (i * j))) else none
  | .d (.tuple xs), .d (.int k) => if -1000 ≤ k ∧ k ≤ 1000 ∧ xs.length ≤ 1000 then some (.d (.tuple (List.replicate k.toNat xs).flatten)) else none
  | .d (.list xs), .d (.int k) => if (-(2 ^ 63) ≤ k ∧ k < 2 ^ 63) ∧ xs.length * k.toNat ≤ sizeLine then some (.d (.list (List.replicate k.toNat xs).flatten)) else none
  | _, _ => none
instance : Ev2 dMul cMul := ⟨fun {x y z Q} e q => by
  unfold cMul at e
  split at e
  · obtain ⟨h, e⟩ := oi e
    cases e
    exact ⟨h, q⟩
  · obtain ⟨h, e⟩ := oi e
    cases e
    exact ⟨h, q⟩
  · obtain ⟨h, e⟩ := oi e
    cases e
    exact ⟨_, rfl, h.1, h.2, q⟩
  · cases e⟩
def cNot (a : CE) : CE := fun ρ => (a ρ).bind fun x => match x with
  | .d (.bool c) => some (.d (.bool (!c)))
  | _ => none
instance {da : DE} {ca : CE} [h : EvE da ca] : EvE (dNot da) (cNot ca) := ⟨fun {ρ x Q} e q => by
  obtain ⟨a, e1, e⟩ := ob e
  refine h.ev e1 ?_
  split at e
  · cases e
    exact q
  · cases e⟩
def cAnd (a b : CE) : CE := fun ρ => (a ρ).bind fun x => match x with
  | .d (.bool c) => if c = true then b ρ else some (.d (.bool false))
  | _ => none
def cOr (a b : CE) : CE := fun ρ => (a ρ).bind fun x => match x with
  | .d (.bool c) => if c = true then some (.d (.bool true)) else b ρ
  | _ => none
instance {da db : DE} {ca cb : CE} [h : EvE da ca] [h' : EvE db cb] : EvE (dAnd da db) (cAnd ca cb) := ⟨fun {ρ x Q} e q => by
  obtain ⟨a, e1, e⟩ := ob e
  refine h.ev e1 ?_
  split at e
  · rename_i c
    cases c with
    | true => exact ite_t (h'.ev e q)
    | false =>
      cases e
      exact ite_f q
  · cases e⟩
instance {da db : DE} {ca cb : CE} [h : EvE da ca] [h' : EvE db cb] : EvE (dOr da db) (cOr ca cb) := ⟨fun {ρ x Q} e q => by
  obtain ⟨a, e1, e⟩ := ob e
  refine h.ev e1 ?_
  split at e
  · rename_i c
    cases c with
    | true =>
      cases e
      exact ite_t q
    | false => exact ite_f (h'.ev e q)
  · cases e⟩
def cNeg (a : CE) : CE := fun ρ => (a ρ).bind fun x => match x with
  | .d (.int i) => some (.d (.int (-i)))
  | _ => none
instance {da : DE} {ca : CE} [h : EvE da ca] : EvE (dNeg da) (cNeg ca) := ⟨fun {ρ x Q} e q => by
  obtain ⟨a, e1, e⟩ := ob e
  refine h.ev e1 ?_
  split at e
  · cases e
    exact q
  · cases e⟩
def cIf (t : CT) (a b : CE) : CE := fun ρ => (t ρ).bind fun c => if c = true then a ρ else b ρ
instance {dt : DT} {da db : DE} {ct : CT} {ca cb : CE} [h : EvT dt ct] [h1 : EvE da ca] [h2 : EvE db cb] : EvE (dIf dt da db) (cIf ct ca cb) := ⟨fun {ρ x Q} e q => by
  obtain ⟨c, e1, e⟩ := ob e
  refine h.ev e1 ?_
  cases c with
  | true => exact ite_t (h1.ev e q)
  | false => exact ite_f (h2.ev e q)⟩
def cChain (c c' : C2) (a b d : CE) : CE := fun ρ => (a ρ).bind fun x => (b ρ).bind fun y => (c x y).bind fun z => match z with
  | .d (.bool k) => if k = true then (d ρ).bind fun w => c' y w else some (.d (.bool false))
  | _ => none
instance {d d' : D2} {c c' : C2} {da db dc : DE} {ca cb cc : CE} [h : Ev2 d c] [h' : Ev2 d' c'] [h1 : EvE da ca] [h2 : EvE db cb] [h3 : EvE dc cc] : EvE (dChain d d' da db dc) (cChain c c' ca cb cc) := ⟨fun {ρ x Q} e q => by
  obtain ⟨x1, e1, e⟩ := ob e
  obtain ⟨x2, e2, e⟩ := ob e
  obtain ⟨x3, e3, e⟩ := ob e
  refine h1.ev e1 (h2.ev e2 (h.ev e3 ?_))
  split at e
  · rename_i c
    cases c with
    | true =>
      obtain ⟨x4, e4, e⟩ := ob e
      exact ite_t (h3.ev e4 (h'.ev e q))
    | false =>
      cases e
      exact ite_f q
  · cases e⟩

/-! ### tests -/
def cTest (a : CE) : CT := fun ρ => (a ρ).bind fun x => match x with
  | .d (.bool b) => some b
  | _ => none
instance {da : DE} {ca : CE} [h : EvE da ca] : EvT (dTest da) (cTest ca) := ⟨fun {ρ x Q} e q => by
  obtain ⟨a, e1, e⟩ := ob e
  refine h.ev e1 ?_
  split at e
  · cases e
    exact q
  · cases e⟩
def cAndT (a b : CT) : CT := fun ρ => (a ρ).bind fun c => if c = true then b ρ else some false
def cOrT (a b : CT) : CT := fun ρ => (a ρ).bind fun c => if c = true then some true else b ρ
def cNotT (a : CT) : CT := fun ρ => (a ρ).map fun c => !c
def cYes : CT := fun _ => some true
instance : EvT dYes cYes := ⟨fun {ρ x Q} e q => by
  cases e
  exact q⟩
instance {da db : DT} {ca cb : CT} [h : EvT da ca] [h' : EvT db cb] : EvT (dAndT da db) (cAndT ca cb) := ⟨fun {ρ x Q} e q => by
  obtain ⟨c, e1, e⟩ := ob e
  refine h.ev e1 ?_
  cases c with
  | true => exact ite_t (h'.ev e q)
  | false =>
    cases e
    exact ite_f q⟩
instance {da db : DT} {ca cb : CT} [h : EvT da ca] [h' : EvT db cb] : EvT (dOrT da db) (cOrT ca cb) := ⟨fun {ρ x Q} e q => by
  obtain ⟨c, e1, e⟩ := ob e
  refine h.ev e1 ?_
  cases c with
  | true =>
    cases e
    exact ite_t q
  | false => exact ite_f (h'.ev e q)⟩
instance {da : DT} {ca : CT} [h : EvT da ca] : EvT (dNotT da) (cNotT ca) := ⟨fun {ρ x Q} e q => by
  obtain ⟨c, e1, rfl⟩ := om e
  exact h.ev e1 q⟩

/-! ### arguments, displays -/
def cNil : CN := fun _ => some []
def cCons (a : CE) (r : CN) : CN := fun ρ => (a ρ).bind fun x => (r ρ).map fun xs => x :: xs
instance : EvA dNil cNil := ⟨fun {ρ x Q} e q => by
  cases e
  exact q⟩
instance {da : DE} {dr : DA} {ca : CE} {cr : CN} [h : EvE da ca] [h' : EvA dr cr] : EvA (dCons da dr) (cCons ca cr) := ⟨fun {ρ x Q} e q => by
  obtain ⟨c, e1, e⟩ := ob e
  obtain ⟨r, e2, rfl⟩ := om e
  exact h.ev e1 (h'.ev e2 q)⟩
def cConsO (a : CE) (r : CN) : CN := fun ρ => (a ρ).bind fun x => if argOk x = true then (r ρ).map fun xs => x :: xs else none
instance {da : DE} {dr : DA} {ca : CE} {cr : CN} [h : EvE da ca] [h' : EvA dr cr] : EvA (dConsO da dr) (cConsO ca cr) := ⟨fun {ρ x Q} e q => by
  obtain ⟨c, e1, e⟩ := ob e
  obtain ⟨ok, e⟩ := oi e
  obtain ⟨r, e2, rfl⟩ := om e
  exact h.ev e1 ⟨ok, h'.ev e2 q⟩⟩
def cConsN (a : CN) (r : CN) : CN := fun ρ => (a ρ).bind fun x => (r ρ).map fun xs => .lst x :: xs
instance {da : DN} {dr : DA} {ca : CN} {cr : CN} [h : EvN da ca] [h' : EvA dr cr] : EvA (dConsN da dr) (cConsN ca cr) := ⟨fun {ρ x Q} e q => by
  obtain ⟨c, e1, e⟩ := ob e
  obtain ⟨r, e2, rfl⟩ := om e
  exact h.ev e1 (h'.ev e2 q)⟩
def cTup (a : CN) : CE := fun ρ => (a ρ).bind fun xs => (ovs xs).bind fun ds => if ds.length ≤ sizeLine then some (.d (.tuple ds)) else none
def cLst (a : CN) : CE := fun ρ => (a ρ).bind fun xs => (ovs xs).bind fun ds => if ds.length ≤ sizeLine then some (.d (.list ds)) else none
def cLstN (a : CN) : CN := fun ρ => (a ρ).bind fun xs => (ovs xs).bind fun ds => if ds.length ≤ sizeLine then some (ds.map OV.d) else none
instance {da : DA} {ca : CN} [h : EvA da ca] : EvE (dTup da) (cTup ca) := ⟨fun {ρ x Q} e q => by
  obtain ⟨xs, e1, e⟩ := ob e
  obtain ⟨ds, e2, e⟩ := ob e
  obtain ⟨hl, e⟩ := oi e
  cases e
  exact h.ev e1 ⟨ds, e2, hl, q⟩⟩
instance {da : DA} {ca : CN} [h : EvA da ca] : EvE (dLst da) (cLst ca) := ⟨fun {ρ x Q} e q => by
  obtain ⟨xs, e1, e⟩ := ob e
  obtain ⟨ds, e2, e⟩ := ob e
  obtain ⟨hl, e⟩ := oi e
  cases e
  exact h.ev e1 ⟨ds, e2, hl, q⟩⟩
instance {da : DA} {ca : CN} [h : EvA da ca] : EvN (dLstN da) (cLstN ca) := ⟨fun {ρ x Q} e q => by
  obtain ⟨xs, e1, e⟩ := ob e
  obtain ⟨ds, e2, e⟩ := ob e
  obtain ⟨hl, e⟩ := oi e
  cases e
  exact h.ev e1 ⟨ds, e2, hl, q⟩⟩
def cNE (n : CN) : CE := fun ρ => (n ρ).bind fun xs => if okvs xs = true then some (.d (.list (vws xs))) else none
instance {dn : DN} {cn : CN} [h : EvN dn cn] : EvE (dNE dn) (cNE cn) := ⟨fun {ρ x Q} e q => by
  obtain ⟨xs, e1, e⟩ := ob e
  obtain ⟨hl, e⟩ := oi e
  cases e
  exact h.ev e1 ⟨hl, q⟩⟩
def cRepN (a b : CE) : CN := fun ρ => (a ρ).bind fun x => (b ρ).bind fun y => match y with
  | .d (.int k) => (asList x).bind fun xs => if (-(2 ^ 63) ≤ k ∧ k < 2 ^ 63) ∧ xs.length * k.toNat ≤ sizeLine then some ((List.replicate k.toNat xs).flatten.map OV.d) else none
  | _ => none
instance {da db : DE} {ca cb : CE} [h : EvE da ca] [h' : EvE db cb] : EvN (dRepN da db) (cRepN ca cb) := ⟨fun {ρ x Q} e q => by
  obtain ⟨x1, e1, e⟩ := ob e
  obtain ⟨x2, e2, e⟩ := ob e
  refine h.ev e1 (h'.ev e2 ?_)
  split at e
  · obtain ⟨xs, e3, e⟩ := ob e
    obtain ⟨hl, e⟩ := oi e
    cases e
    exact ⟨xs, e3, hl.1, hl.2, q⟩
  · cases e⟩
def cCatN (a b : CE) : CN := fun ρ => (a ρ).bind fun x => (b ρ).bind fun y => (asList x).bind fun xs => (asList y).bind fun ys => if xs.length + ys.length ≤ sizeLine then some ((xs ++ ys).map OV.d) else none
instance {da db : DE} {ca cb : CE} [h : EvE da ca] [h' : EvE db cb] : EvN (dCatN da db) (cCatN ca cb) := ⟨fun {ρ x Q} e q => by
  obtain ⟨x1, e1, e⟩ := ob e
  obtain ⟨x2, e2, e⟩ := ob e
  obtain ⟨x3, e3, e⟩ := ob e
  obtain ⟨x4, e4, e⟩ := ob e
  obtain ⟨hl, e⟩ := oi e
  cases e
  exact h.ev e1 (h'.ev e2 ⟨x3, x4, e3, e4, hl, q⟩)⟩
/-! ### slices -/
def cNoPart : CO := fun _ => some none
def cPart (a : CE) : CO := fun ρ => (a ρ).bind fun x => match x with
  | .d (.int i) => some (some i)
  | _ => none
instance : EvO dNoPart cNoPart := ⟨fun {ρ x Q} e q => by
  cases e
  exact q⟩
instance {da : DE} {ca : CE} [h : EvE da ca] : EvO (dPart da) (cPart ca) := ⟨fun {ρ x Q} e q => by
  obtain ⟨a, e1, e⟩ := ob e
  refine h.ev e1 ?_
  split at e
  · cases e
    exact q
  · cases e⟩
def cSlV (x : OV) (lo hi : Option Int) : Option OV := match x with
  | .d (.str z) => if z.length ≤ sizeLine then some (.d (.str (cutS z lo hi))) else none
  | .d (.tuple xs) => some (.d (.tuple (cutD xs lo hi)))
  | .d (.list xs) => some (.d (.list (cutD xs lo hi)))
  | _ => none
def cSl (a : CE) (l h : CO) : CE := fun ρ => (a ρ).bind fun x => (l ρ).bind fun l => (h ρ).bind fun h => cSlV x l h
instance {da : DE} {dl dh : DEnv → (Option Int → Prop) → Prop} {ca : CE} {cl ch : CO} [h : EvE da ca] [h1 : EvO dl cl] [h2 : EvO dh ch] : EvE (dSl da dl dh) (cSl ca cl ch) := ⟨fun {ρ x Q} e q => by
  obtain ⟨x1, e1, e⟩ := ob e
  obtain ⟨x2, e2, e⟩ := ob e
  obtain ⟨x3, e3, e⟩ := ob e
  refine h.ev e1 (h1.ev e2 (h2.ev e3 ?_))
  unfold cSlV at e
  split at e
  · obtain ⟨hl, e⟩ := oi e
    cases e
    exact ⟨hl, q⟩
  · cases e
    exact q
  · cases e
    exact ⟨_, rfl, q⟩
  · cases e⟩

/-! ### calls -/
def cCB (c : CF) (a : CN) : CE := fun ρ => (a ρ).bind fun xs => (c xs).map .d
instance {R : DF} {c : CF} {da : DA} {ca : CN} [h : EvF R c] [h' : EvA da ca] : EvE (dCB R da) (cCB c ca) := ⟨fun {ρ x Q} e q => by
  obtain ⟨x1, e1, e⟩ := ob e
  obtain ⟨r, e2, rfl⟩ := om e
  exact h'.ev e1 (h.ev (Q := fun z => Q (.d z)) e2 q)⟩
def cCall (c : CF) (a : CN) : CE := fun ρ => (a ρ).bind fun xs => if xs.all argOk = true then (c xs).map .d else none
instance {R : DF} {c : CF} {da : DA} {ca : CN} [h : EvF R c] [h' : EvA da ca] : EvE (dCall R da) (cCall c ca) := ⟨fun {ρ x Q} e q => by
  obtain ⟨x1, e1, e⟩ := ob e
  obtain ⟨ok, e⟩ := oi e
  obtain ⟨r, e2, rfl⟩ := om e
  refine h'.ev e1 ⟨ok, fun z => z = r, h.ev e2 rfl, fun z hz => ?_⟩
  rw [hz]
  exact q⟩
def cCallX (c : CF) (n l : Nat) (π : List Nat) (a k : CN) : CE := fun ρ => (a ρ).bind fun xs => (k ρ).bind fun ys => if xs.length = n ∧ ys.length = l ∧ (permL π .pot (xs ++ ys)).all argOk = true then (c (permL π .pot (xs ++ ys))).map .d else none
instance {R : DF} {c : CF} {n l : Nat} {π : List Nat} {da dk : DA} {ca ck : CN} [h : EvF R c] [h' : EvA da ca] [h2 : EvA dk ck] : EvE (dCallX R n l π da dk) (cCallX c n l π ca ck) := ⟨fun {ρ x Q} e q => by
  obtain ⟨x1, e1, e⟩ := ob e
  obtain ⟨x2, e2, e⟩ := ob e
  obtain ⟨ok, e⟩ := oi e
  obtain ⟨r, e3, rfl⟩ := om e
  refine h'.ev e1 (h2.ev e2 ⟨ok.1, ok.2.1, ok.2.2, fun z => z = r, h.ev e3 rfl, fun z hz => ?_⟩)
  rw [hz]
  exact q⟩
def cLen : CF := fun xs => match xs with
  | [.d (.list ys)] => some (.int ys.length)
  | [.d (.tuple ys)] => some (.int ys.length)
  | [.d (.str z)] => if z.length ≤ sizeLine then some (.int z.length) else none
  | [.lst ys] => some (.int ys.length)
  | _ => none
instance : EvF dLen cLen := ⟨fun {xs r Q} e q => by
  unfold cLen at e
  split at e
  · cases e
    exact q
  · cases e
    exact q
  · obtain ⟨h, e⟩ := oi e
    cases e
    exact ⟨h, q⟩
  · cases e
    exact q
  · cases e⟩
def cInt : CF := fun xs => match xs with
  | [.d (.int i)] => some (.int i)
  | [.d (.bool b)] => some (.int (if b then 1 else 0))
  | [.d (.str z)] => if z.length ≤ 640 then (PySem.intText? z).map .int else none
  | _ => none
instance : EvF dInt cInt := ⟨fun {xs r Q} e q => by
  unfold cInt at e
  split at e
  · cases e
    exact q
  · cases e
    exact q
  · obtain ⟨h, e⟩ := oi e
    obtain ⟨n, e1, rfl⟩ := om e
    exact ⟨h, n, e1, q⟩
  · cases e⟩
def cStrI : CF := fun xs => match xs with
  | [.d (.int i)] => if i.natAbs.log2 < 1920 then some (.str (toString i)) else none
  | _ => none
instance : EvF dStrI cStrI := ⟨fun {xs r Q} e q => by
  unfold cStrI at e
  split at e
  · obtain ⟨h, e⟩ := oi e
    cases e
    exact ⟨h, q⟩
  · cases e⟩
def cI1 (C : Int → Prop) [∀ i, Decidable (C i)] (g : Int → Int) : CF := fun xs => match xs with
  | [.d (.int i)] => if C i then some (.int (g i)) else none
  | _ => none
instance {C : Int → Prop} [∀ i, Decidable (C i)] {g : Int → Int} : EvF (dI1 C g) (cI1 C g) := ⟨fun {xs r Q} e q => by
  unfold cI1 at e
  split at e
  · obtain ⟨h, e⟩ := oi e
    cases e
    exact ⟨h, q⟩
  · cases e⟩
def cII (g : Int → Int → Int) : CF := fun xs => match xs with
  | [.d (.int i), .d (.int j)] => some (.int (g i j))
  | _ => none
instance {g : Int → Int → Int} : EvF (dII g) (cII g) := ⟨fun {xs r Q} e q => by
  unfold cII at e
  split at e
  · cases e
    exact q
  · cases e⟩
def ints? : List PyData → Option (List Int)
  | [] => some []
  | .int i :: r => (ints? r).map (i :: ·)
  | _ => none
def bools? : List PyData → Option (List Bool)
  | [] => some []
  | .bool i :: r => (bools? r).map (i :: ·)
  | _ => none
def strs? : List PyData → Option (List Str)
  | [] => some []
  | .str i :: r => (strs? r).map (i :: ·)
  | _ => none
theorem ints_ok : ∀ {ys : List PyData} {ns : List Int}, ints? ys = some ns → ys = ns.map PyData.int
  | [], _, h => by
    cases h
    rfl
  | y :: r, ns, h => by
    cases y with
    | int i =>
      obtain ⟨a, e1, e2⟩ := om (show (ints? r).map (i :: ·) = some ns from h)
      rw [← e2, ints_ok e1]
      rfl
    | _ => exact nomatch h
theorem bools_ok : ∀ {ys : List PyData} {ns : List Bool}, bools? ys = some ns → ys = ns.map PyData.bool
  | [], _, h => by
    cases h
    rfl
  | y :: r, ns, h => by
    cases y with
    | bool i =>
      obtain ⟨a, e1, e2⟩ := om (show (bools? r).map (i :: ·) = some ns from h)
      rw [← e2, bools_ok e1]
      rfl
    | _ => exact nomatch h
theorem strs_ok : ∀ {ys : List PyData} {ns : List Str}, strs? ys = some ns → ys = ns.map PyData.str
  | [], _, h => by
    cases h
    rfl
  | y :: r, ns, h => by
    cases y with
    | str i =>
      obtain ⟨a, e1, e2⟩ := om (show (strs? r).map (i :: ·) = some ns from h)
      rw [← e2, strs_ok e1]
      rfl
    | _ => exact nomatch h
def cSum : CF := fun xs => match xs with
  | [x] => (asList x).bind fun ys => (ints? ys).map fun ns => .int ns.sum
  | _ => none
instance : EvF dSum cSum := ⟨fun {xs r Q} e q => by
  unfold cSum at e
  split at e
  · obtain ⟨ys, e1, e⟩ := ob e
    obtain ⟨ns, e2, rfl⟩ := om e
    rw [ints_ok e2] at e1
    exact ⟨ns, e1, q⟩
  · cases e⟩
def cBools (g : List Bool → Bool) : CF := fun xs => match xs with
  | [x] => (asList x).bind fun ys => (bools? ys).map fun ns => .bool (g ns)
  | _ => none
instance {g : List Bool → Bool} : EvF (dBools g) (cBools g) := ⟨fun {xs r Q} e q => by
  unfold cBools at e
  split at e
  · obtain ⟨ys, e1, e⟩ := ob e
    obtain ⟨ns, e2, rfl⟩ := om e
    rw [bools_ok e2] at e1
    exact ⟨ns, e1, q⟩
  · cases e⟩
abbrev cAll : CF := cBools fun bs => bs.all id
abbrev cAny : CF := cBools fun bs => bs.any id
def cTupC : CF := fun xs => match xs with
  | [.d (.tuple ys)] => some (.tuple ys)
  | [.d (.list ys)] => some (.tuple ys)
  | _ => none
instance : EvF dTupC cTupC := ⟨fun {xs r Q} e q => by
  unfold cTupC at e
  split at e
  · cases e
    exact q
  · cases e
    exact ⟨_, rfl, q⟩
  · cases e⟩
def cLstC : CF := fun xs => match xs with
  | [x] => (asSeq x).map .list
  | _ => none
instance : EvF dLstC cLstC := ⟨fun {xs r Q} e q => by
  unfold cLstC at e
  split at e
  · obtain ⟨ys, e1, rfl⟩ := om e
    exact ⟨ys, e1, q⟩
  · cases e⟩
def cLstCN (a : CN) : CN := fun ρ => (a ρ).bind fun xs => match xs with
  | [x] => (asSeq x).map fun ys => ys.map OV.d
  | _ => none
instance {da : DA} {ca : CN} [h : EvA da ca] : EvN (dLstCN da) (cLstCN ca) := ⟨fun {ρ x Q} e q => by
  obtain ⟨xs, e1, e⟩ := ob e
  refine h.ev e1 ?_
  split at e
  · obtain ⟨ys, e2, rfl⟩ := om e
    exact ⟨ys, e2, q⟩
  · cases e⟩
instance {d : PyData} : Decidable (canShow d) := by
  unfold canShow
  infer_instance
def cRepr : CF := fun xs => match xs with
  | [x] => if okv x = true ∧ isSeq (vw x) = true ∧ canShow (vw x) then some (.str (vw x).shown) else none
  | _ => none
instance : EvF dRepr cRepr := ⟨fun {xs r Q} e q => by
  unfold cRepr at e
  split at e
  · obtain ⟨h, e⟩ := oi e
    cases e
    exact ⟨h.1, h.2.1, h.2.2, q⟩
  · cases e⟩
def cIsi (T : String) (a : CE) : CE := fun ρ => (a ρ).bind fun x => if okv x = true then some (.d (.bool (isiB (tyN (vw x)) T))) else none
instance {T : String} {da : DE} {ca : CE} [h : EvE da ca] : EvE (dIsi T da) (cIsi T ca) := ⟨fun {ρ x Q} e q => by
  obtain ⟨a, e1, e⟩ := ob e
  obtain ⟨ok, e⟩ := oi e
  cases e
  exact h.ev e1 ⟨ok, q⟩⟩
/-! ### ranges -/
def cRg1 (a : CE) : CRg := fun ρ => (a ρ).bind fun x => match x with
  | .d (.int n) => some (0, n)
  | _ => none
def cRg2 (a b : CE) : CRg := fun ρ => (a ρ).bind fun x => (b ρ).bind fun y => match x, y with
  | .d (.int i), .d (.int j) => some (i, j)
  | _, _ => none
instance {da : DE} {ca : CE} [h : EvE da ca] : EvRg (dRg1 da) (cRg1 ca) := ⟨fun {ρ x Q} e q => by
  obtain ⟨a, e1, e⟩ := ob e
  refine h.ev e1 ?_
  split at e
  · cases e
    exact q
  · cases e⟩
instance {da db : DE} {ca cb : CE} [h : EvE da ca] [h' : EvE db cb] : EvRg (dRg2 da db) (cRg2 ca cb) := ⟨fun {ρ x Q} e q => by
  obtain ⟨a, e1, e⟩ := ob e
  obtain ⟨b, e2, e⟩ := ob e
  refine h.ev e1 (h'.ev e2 ?_)
  split at e
  · cases e
    exact q
  · cases e⟩
instance {i j : Int} : Decidable (RgOk i j) := by
  unfold RgOk
  infer_instance
def cLstRg (c : CRg) : CE := fun ρ => (c ρ).bind fun p => if RgOk p.1 p.2 then some (.d (.list (rngD p.1 (p.2 - p.1).toNat))) else none
def cTupRg (c : CRg) : CE := fun ρ => (c ρ).bind fun p => if RgOk p.1 p.2 then some (.d (.tuple (rngD p.1 (p.2 - p.1).toNat))) else none
def cStarRg (c : CRg) (a : CN) : CN := fun ρ => (c ρ).bind fun p => if RgOk p.1 p.2 then (a ρ).map fun ys => (rngD p.1 (p.2 - p.1).toNat).map OV.d ++ ys else none
instance {dr : DRg} {c : CRg} [h : EvRg dr c] : EvE (dLstRg dr) (cLstRg c) := ⟨fun {ρ x Q} e q => by
  obtain ⟨a, e1, e⟩ := ob e
  obtain ⟨ok, e⟩ := oi e
  cases e
  exact h.ev e1 ⟨ok, q⟩⟩
instance {dr : DRg} {c : CRg} [h : EvRg dr c] : EvE (dTupRg dr) (cTupRg c) := ⟨fun {ρ x Q} e q => by
  obtain ⟨a, e1, e⟩ := ob e
  obtain ⟨ok, e⟩ := oi e
  cases e
  exact h.ev e1 ⟨ok, q⟩⟩
instance {dr : DRg} {c : CRg} {da : DA} {ca : CN} [h : EvRg dr c] [h' : EvA da ca] : EvA (dStarRg dr da) (cStarRg c ca) := ⟨fun {ρ x Q} e q => by
  obtain ⟨a, e1, e⟩ := ob e
  obtain ⟨ok, e⟩ := oi e
  obtain ⟨ys, e2, rfl⟩ := om e
  exact h.ev e1 ⟨ok, h'.ev e2 q⟩⟩
/-! ### tables, text methods -/
def cGIn (kvs : List (Str × PyData)) (a : CE) : CE := fun ρ => (a ρ).bind fun x => match x with
  | .d (.str z) => some (.d (.bool (kvs.lookup z).isSome))
  | _ => none
def cGNot (kvs : List (Str × PyData)) (a : CE) : CE := fun ρ => (a ρ).bind fun x => match x with
  | .d (.str z) => some (.d (.bool (!(kvs.lookup z).isSome)))
  | _ => none
def cGGet (kvs : List (Str × PyData)) (a : CE) : CE := fun ρ => (a ρ).bind fun x => match x with
  | .d (.str z) => (kvs.lookup z).map .d
  | _ => none
instance {kvs : List (Str × PyData)} {da : DE} {ca : CE} [h : EvE da ca] : EvE (dGIn kvs da) (cGIn kvs ca) := ⟨fun {ρ x Q} e q => by
  obtain ⟨a, e1, e⟩ := ob e
  refine h.ev e1 ?_
  split at e
  · cases e
    exact q
  · cases e⟩
instance {kvs : List (Str × PyData)} {da : DE} {ca : CE} [h : EvE da ca] : EvE (dGNot kvs da) (cGNot kvs ca) := ⟨fun {ρ x Q} e q => by
  obtain ⟨a, e1, e⟩ := ob e
  refine h.ev e1 ?_
  split at e
  · cases e
    exact q
  · cases e⟩
instance {kvs : List (Str × PyData)} {da : DE} {ca : CE} [h : EvE da ca] : EvE (dGGet kvs da) (cGGet kvs ca) := ⟨fun {ρ x Q} e q => by
  obtain ⟨a, e1, e⟩ := ob e
  refine h.ev e1 ?_
  split at e
  · obtain ⟨d, e2, rfl⟩ := om e
    exact ⟨d, e2, q⟩
  · cases e⟩
class Ev1R (R : OV → (OV → Prop) → Prop) (c : outParam (OV → Option OV)) : Prop where
  ev : ∀ {x z Q}, c x = some z → Q z → R x Q
def cM0 (c : OV → Option OV) (a : CE) : CE := fun ρ => (a ρ).bind c
instance {R : OV → (OV → Prop) → Prop} {c : OV → Option OV} {da : DE} {ca : CE} [h : Ev1R R c] [h' : EvE da ca] : EvE (dM0 R da) (cM0 c ca) := ⟨fun {ρ x Q} e q => by
  obtain ⟨a, e1, e⟩ := ob e
  exact h'.ev e1 (h.ev e q)⟩
def cM1 (c : C2) (a b : CE) : CE := fun ρ => (a ρ).bind fun x => match x with
  | .d (.str z) => (b ρ).bind fun y => c (.d (.str z)) y
  | _ => none
instance {R : D2} {c : C2} {da db : DE} {ca cb : CE} [h : Ev2 R c] [h1 : EvE da ca] [h2 : EvE db cb] : EvE (dM1 R da db) (cM1 c ca cb) := ⟨fun {ρ x Q} e q => by
  obtain ⟨a, e1, e⟩ := ob e
  refine h1.ev e1 ?_
  split at e
  · obtain ⟨b, e2, e⟩ := ob e
    exact h2.ev e2 (h.ev e q)
  · cases e⟩
def cSplitR : C2 := fun x y => match x, y with
  | .d (.str a), .d (.str b) => if (b.length == 0) = false ∧ a.length + 2 ≤ sizeLine then some (.d (.list ((Txt.split a b).map PyData.str))) else none
  | _, _ => none
instance : Ev2 dSplitR cSplitR := ⟨fun {x y z Q} e q => by
  unfold cSplitR at e
  split at e
  · obtain ⟨h, e⟩ := oi e
    cases e
    exact ⟨h.1, h.2, q⟩
  · cases e⟩
def cJoinR : C2 := fun x y => match x with
  | .d (.str a) => (asSeq y).bind fun ds => (strs? ds).bind fun ys => if (ys.map (·.length)).sum + ys.length * a.length ≤ 16777216 then some (.d (.str (Txt.join a ys))) else none
  | _ => none
instance : Ev2 dJoinR cJoinR := ⟨fun {x y z Q} e q => by
  unfold cJoinR at e
  split at e
  · obtain ⟨ds, e1, e⟩ := ob e
    obtain ⟨ys, e2, e⟩ := ob e
    obtain ⟨h, e⟩ := oi e
    cases e
    rw [strs_ok e2] at e1
    exact ⟨ys, e1, h, q⟩
  · cases e⟩
def cLowerR : OV → Option OV := fun x => match x with
  | .d (.str a) => if a.length ≤ 5592405 then some (.d (.str (Txt.lower a))) else none
  | _ => none
instance : Ev1R dLowerR cLowerR := ⟨fun {x z Q} e q => by
  unfold cLowerR at e
  split at e
  · obtain ⟨h, e⟩ := oi e
    cases e
    exact ⟨h, q⟩
  · cases e⟩
end DL

/-! ==== DLF ==== -/
set_option Elab.async false
set_option linter.all false
set_option maxRecDepth 100000
set_option maxHeartbeats 4000000
namespace DL
open PySem PySem.Spec PyProof.Rows L2

/-! ### statements -/
def cNext : CS := fun ρ => some (.nx ρ)
instance : EvS dNext cNext := ⟨fun {ρ o D} e q => by
  cases e
  exact q⟩
def cSeq (a b : CS) : CS := fun ρ => (a ρ).bind fun o => match o with
  | .nx ρ' => b ρ'
  | o => some o
instance {da db : DS} {ca cb : CS} [h : EvS da ca] [h' : EvS db cb] : EvS (dSeq da db) (cSeq ca cb) := ⟨fun {ρ o D} e q => by
  obtain ⟨o1, e1, e⟩ := ob e
  refine h.ev e1 ?_
  split at e
  · exact h'.ev e q
  · rename_i n
    cases e
    cases o with
    | nx ρ' => exact (n ρ' rfl).elim
    | _ => exact q⟩
def cBreak : CS := fun ρ => some (.bk ρ)
def cCont : CS := fun ρ => some (.ct ρ)
def cNever : CS := fun _ => none
instance : EvS dBreak cBreak := ⟨fun {ρ o D} e q => by
  cases e
  exact q⟩
instance : EvS dCont cCont := ⟨fun {ρ o D} e q => by
  cases e
  exact q⟩
instance : EvS dNever cNever := ⟨fun {ρ o D} e q => by cases e⟩
def cRet (a : CE) : CS := fun ρ => (a ρ).bind fun x => if okv x = true then some (.rt (vw x)) else none
instance {da : DE} {ca : CE} [h : EvE da ca] : EvS (dRet da) (cRet ca) := ⟨fun {ρ o D} e q => by
  obtain ⟨x, e1, e⟩ := ob e
  obtain ⟨ok, e⟩ := oi e
  cases e
  exact h.ev e1 ⟨ok, q⟩⟩
def cRetN : CS := fun _ => some (.rt .none)
instance : EvS dRetN cRetN := ⟨fun {ρ o D} e q => by
  cases e
  exact q⟩
def cIfS (t : CT) (a b : CS) : CS := fun ρ => (t ρ).bind fun c => if c = true then a ρ else b ρ
instance {dt : DT} {da db : DS} {ct : CT} {ca cb : CS} [h : EvT dt ct] [h1 : EvS da ca] [h2 : EvS db cb] : EvS (dIfS dt da db) (cIfS ct ca cb) := ⟨fun {ρ o D} e q => by
  obtain ⟨c, e1, e⟩ := ob e
  refine h.ev e1 ?_
  cases c with
  | true => exact ite_t (h1.ev e q)
  | false => exact ite_f (h2.ev e q)⟩
def cDrop (a : CE) : CS := fun ρ => (a ρ).map fun _ => .nx ρ
instance {da : DE} {ca : CE} [h : EvE da ca] : EvS (dDrop da) (cDrop ca) := ⟨fun {ρ o D} e q => by
  obtain ⟨x, e1, rfl⟩ := om e
  exact h.ev e1 q⟩
def cSet (i : Nat) (a : CE) : CS := fun ρ => (a ρ).bind fun x => if argOk x = true then some (.nx (ρ.set i (some x))) else none
instance {i : Nat} {da : DE} {ca : CE} [h : EvE da ca] : EvS (dSet i da) (cSet i ca) := ⟨fun {ρ o D} e q => by
  obtain ⟨x, e1, e⟩ := ob e
  obtain ⟨ok, e⟩ := oi e
  cases e
  exact h.ev e1 ⟨ok, q⟩⟩
def cSetN (i : Nat) (a : CN) : CS := fun ρ => (a ρ).map fun xs => .nx (ρ.set i (some (.lst xs)))
instance {i : Nat} {dn : DN} {cn : CN} [h : EvN dn cn] : EvS (dSetN i dn) (cSetN i cn) := ⟨fun {ρ o D} e q => by
  obtain ⟨x, e1, rfl⟩ := om e
  exact h.ev e1 q⟩
def cPar (i j : Nat) (a : CN) : CS := fun ρ => (a ρ).bind fun xs => match xs with
  | [x, y] => if argOk x = true ∧ argOk y = true then some (.nx ((ρ.set i (some x)).set j (some y))) else none
  | _ => none
instance {i j : Nat} {da : DA} {ca : CN} [h : EvA da ca] : EvS (dPar i j da) (cPar i j ca) := ⟨fun {ρ o D} e q => by
  obtain ⟨x, e1, e⟩ := ob e
  refine h.ev e1 ?_
  split at e
  · obtain ⟨ok, e⟩ := oi e
    cases e
    exact ⟨ok.1, ok.2, q⟩
  · cases e⟩
def cPar3 (i j l : Nat) (a : CN) : CS := fun ρ => (a ρ).bind fun xs => match xs with
  | [x, y, z] => if argOk x = true ∧ argOk y = true ∧ argOk z = true then some (.nx (((ρ.set i (some x)).set j (some y)).set l (some z))) else none
  | _ => none
instance {i j l : Nat} {da : DA} {ca : CN} [h : EvA da ca] : EvS (dPar3 i j l da) (cPar3 i j l ca) := ⟨fun {ρ o D} e q => by
  obtain ⟨x, e1, e⟩ := ob e
  refine h.ev e1 ?_
  split at e
  · obtain ⟨ok, e⟩ := oi e
    cases e
    exact ⟨ok.1, ok.2.1, ok.2.2, q⟩
  · cases e⟩
def cParO (is : List Nat) (a : CN) : CS := fun ρ => (a ρ).bind fun xs => if xs.length = is.length then some (.nx (setsR ρ is xs)) else none
instance {is : List Nat} {da : DA} {ca : CN} [h : EvA da ca] : EvS (dParO is da) (cParO is ca) := ⟨fun {ρ o D} e q => by
  obtain ⟨x, e1, e⟩ := ob e
  obtain ⟨ok, e⟩ := oi e
  cases e
  exact h.ev e1 ⟨ok, q⟩⟩
/-! ### targets -/
def cgName (i : Nat) : CG := fun x ρ => some (ρ.set i (some (.d x)))
instance {i : Nat} : EvG (dgName i) (cgName i) := ⟨fun {x ρ ρ' Q} e q => by
  cases e
  exact q⟩
def cgNil : CGs := fun xs ρ => match xs with
  | [] => some ρ
  | _ => none
instance : EvGs dgNil cgNil := ⟨fun {x ρ ρ' Q} e q => by
  unfold cgNil at e
  split at e
  · cases e
    exact q
  · cases e⟩
def cgCons (g : CG) (gs : CGs) : CGs := fun xs ρ => match xs with
  | x :: r => (g x ρ).bind fun ρ' => gs r ρ'
  | [] => none
instance {dg : DG} {dgs : DGs} {cg : CG} {cgs : CGs} [h : EvG dg cg] [h' : EvGs dgs cgs] : EvGs (dgCons dg dgs) (cgCons cg cgs) := ⟨fun {x ρ ρ' Q} e q => by
  unfold cgCons at e
  split at e
  · obtain ⟨r, e1, e⟩ := ob e
    exact h.ev e1 (h'.ev e q)
  · cases e⟩
def cgTup (gs : CGs) : CG := fun x ρ => match x with
  | .tuple xs => gs xs ρ
  | _ => none
def cgUnl (gs : CGs) : CG := fun x ρ => match x with
  | .list xs => gs xs ρ
  | _ => none
instance {dgs : DGs} {cgs : CGs} [h : EvGs dgs cgs] : EvG (dgTup dgs) (cgTup cgs) := ⟨fun {x ρ ρ' Q} e q => by
  unfold cgTup at e
  split at e
  · exact h.ev e q
  · cases e⟩
instance {dgs : DGs} {cgs : CGs} [h : EvGs dgs cgs] : EvG (dgUnl dgs) (cgUnl cgs) := ⟨fun {x ρ ρ' Q} e q => by
  unfold cgUnl at e
  split at e
  · exact h.ev e q
  · cases e⟩
def cAsgG (a : CE) (g : CG) : CS := fun ρ => (a ρ).bind fun x => match x with
  | .d y => (g y ρ).map .nx
  | _ => none
instance {da : DE} {ca : CE} {dg : DG} {cg : CG} [h : EvE da ca] [h' : EvG dg cg] : EvS (dAsgG da dg) (cAsgG ca cg) := ⟨fun {ρ o D} e q => by
  obtain ⟨x, e1, e⟩ := ob e
  refine h.ev e1 ?_
  split at e
  · obtain ⟨r, e2, rfl⟩ := om e
    exact h'.ev e2 q
  · cases e⟩
/-! ### own lists -/
def cApp (i : Nat) (a : CE) : CS := fun ρ => (getL ρ i).bind fun xs => (a ρ).bind fun y => if argOk y = true ∧ xs.length < sizeLine then some (.nx (ρ.set i (some (.lst (xs ++ [y]))))) else none
instance {i : Nat} {da : DE} {ca : CE} [h : EvE da ca] : EvS (dApp i da) (cApp i ca) := ⟨fun {ρ o D} e q => by
  obtain ⟨xs, e1, e⟩ := ob e
  obtain ⟨y, e2, e⟩ := ob e
  obtain ⟨ok, e⟩ := oi e
  cases e
  unfold dApp
  rw [e1]
  exact h.ev e2 ⟨ok.1, ok.2, q⟩⟩
def cAppN (i : Nat) (a : CN) : CS := fun ρ => (getL ρ i).bind fun xs => (a ρ).bind fun ys => if xs.length < sizeLine then some (.nx (ρ.set i (some (.lst (xs ++ [.lst ys]))))) else none
instance {i : Nat} {da : DN} {ca : CN} [h : EvN da ca] : EvS (dAppN i da) (cAppN i ca) := ⟨fun {ρ o D} e q => by
  obtain ⟨xs, e1, e⟩ := ob e
  obtain ⟨y, e2, e⟩ := ob e
  obtain ⟨ok, e⟩ := oi e
  cases e
  unfold dAppN
  rw [e1]
  exact h.ev e2 ⟨ok, q⟩⟩
def cFrz (i : Nat) (a : CS) : CS := fun ρ => a (frzAt ρ i)
instance {i : Nat} {da : DS} {ca : CS} [h : EvS da ca] : EvS (dFrz i da) (cFrz i ca) := ⟨fun {ρ o D} e q => h.ev (show ca (frzAt ρ i) = some o from e) q⟩
def cSet1 (r : Nat) (a b : CE) : CS := fun ρ => (getL ρ r).bind fun xs => (a ρ).bind fun y => (b ρ).bind fun k => match k with
  | .d (.int i) => if argOk y = true then (ixN xs.length i).map fun j => .nx (ρ.set r (some (.lst (xs.set j y)))) else none
  | _ => none
instance {r : Nat} {da db : DE} {ca cb : CE} [h : EvE da ca] [h' : EvE db cb] : EvS (dSet1 r da db) (cSet1 r ca cb) := ⟨fun {ρ o D} e q => by
  obtain ⟨xs, e1, e⟩ := ob e
  obtain ⟨y, e2, e⟩ := ob e
  obtain ⟨k, e3, e⟩ := ob e
  unfold dSet1
  rw [e1]
  refine h.ev e2 (h'.ev e3 ?_)
  split at e
  · obtain ⟨ok, e⟩ := oi e
    obtain ⟨j, e4, rfl⟩ := om e
    exact ⟨ok, j, e4, q⟩
  · cases e⟩
def asL? : Option OV → Option (List OV)
  | some (.lst ys) => some ys
  | _ => none
theorem asL_ok {x : Option OV} {ys : List OV} (h : asL? x = some ys) : x = some (.lst ys) := by
  unfold asL? at h
  split at h
  · cases h
    rfl
  · cases h
def cSet2 (r : Nat) (a b d : CE) : CS := fun ρ => (getL ρ r).bind fun xs => (a ρ).bind fun y => (b ρ).bind fun k => match k with
  | .d (.int i) => (ixN xs.length i).bind fun n => (asL? xs[n]?).bind fun ys => (d ρ).bind fun l => match l with
    | .d (.int j) => if argOk y = true then (ixN ys.length j).map fun l => .nx (ρ.set r (some (.lst (xs.set n (.lst (ys.set l y)))))) else none
    | _ => none
  | _ => none
instance {r : Nat} {da db dd : DE} {ca cb cd : CE} [h : EvE da ca] [h' : EvE db cb] [h2 : EvE dd cd] : EvS (dSet2 r da db dd) (cSet2 r ca cb cd) := ⟨fun {ρ o D} e q => by
  obtain ⟨xs, e1, e⟩ := ob e
  obtain ⟨y, e2, e⟩ := ob e
  obtain ⟨k, e3, e⟩ := ob e
  unfold dSet2
  rw [e1]
  refine h.ev e2 (h'.ev e3 ?_)
  split at e
  · obtain ⟨n, e4, e⟩ := ob e
    obtain ⟨ys, e5, e⟩ := ob e
    obtain ⟨l, e6, e⟩ := ob e
    refine ⟨n, e4, ys, asL_ok e5, h2.ev e6 ?_⟩
    split at e
    · obtain ⟨ok, e⟩ := oi e
      obtain ⟨j, e7, rfl⟩ := om e
      exact ⟨ok, j, e7, q⟩
    · cases e
  · cases e⟩
/-! ### loops -/
def ciSeq (a : CE) : CI := fun ρ => (a ρ).bind fun x => match x with
  | .d (.list xs) => some xs
  | .d (.tuple xs) => some xs
  | _ => none
def ciList (a : CE) : CI := fun ρ => (a ρ).bind fun x => match x with
  | .d (.list xs) => some xs
  | _ => none
def ciTup (a : CE) : CI := fun ρ => (a ρ).bind fun x => match x with
  | .d (.tuple xs) => some xs
  | _ => none
instance {da : DE} {ca : CE} [h : EvE da ca] : EvI (diList da) (ciList ca) := ⟨fun {ρ x Q} e q => by
  obtain ⟨y, e1, e⟩ := ob e
  refine h.ev e1 ?_
  split at e
  · cases e
    exact q
  · cases e⟩
instance {da : DE} {ca : CE} [h : EvE da ca] : EvI (diTup da) (ciTup ca) := ⟨fun {ρ x Q} e q => by
  obtain ⟨y, e1, e⟩ := ob e
  refine h.ev e1 ?_
  split at e
  · cases e
    exact q
  · cases e⟩
def ciRng1 (a : CN) : CI := fun ρ => (a ρ).bind fun xs => match xs with
  | [.d (.int j)] => if -(2 ^ 62) ≤ j ∧ j < 2 ^ 62 then some (rngD 0 j.toNat) else none
  | _ => none
def ciRng2 (a : CN) : CI := fun ρ => (a ρ).bind fun xs => match xs with
  | [.d (.int i), .d (.int j)] => if -(2 ^ 62) ≤ i ∧ i < 2 ^ 62 ∧ -(2 ^ 62) ≤ j ∧ j < 2 ^ 62 then some (rngD i (j - i).toNat) else none
  | _ => none
instance {da : DA} {ca : CN} [h : EvA da ca] : EvI (diRng1 da) (ciRng1 ca) := ⟨fun {ρ x Q} e q => by
  obtain ⟨y, e1, e⟩ := ob e
  refine h.ev e1 ?_
  split at e
  · obtain ⟨ok, e⟩ := oi e
    cases e
    exact ⟨ok, q⟩
  · cases e⟩
instance {da : DA} {ca : CN} [h : EvA da ca] : EvI (diRng2 da) (ciRng2 ca) := ⟨fun {ρ x Q} e q => by
  obtain ⟨y, e1, e⟩ := ob e
  refine h.ev e1 ?_
  split at e
  · obtain ⟨ok, e⟩ := oi e
    cases e
    exact ⟨ok, q⟩
  · cases e⟩
def ciZip (a : CN) : CI := fun ρ => (a ρ).bind fun xs => match xs with
  | [.d (.tuple xs), .d (.tuple ys)] => some (zipD xs ys)
  | [.d (.list xs), .d (.list ys)] => some (zipD xs ys)
  | _ => none
instance {da : DA} {ca : CN} [h : EvA da ca] : EvI (diZip da) (ciZip ca) := ⟨fun {ρ x Q} e q => by
  obtain ⟨y, e1, e⟩ := ob e
  refine h.ev e1 ?_
  split at e
  · cases e
    exact q
  · cases e
    exact q
  · cases e⟩
def cLoop (g : CG) (body : CS) : List PyData → CS
  | [], ρ => some (.nx ρ)
  | x :: xs, ρ => (g x ρ).bind fun ρ' => (body ρ').bind fun o => match o with
    | .nx ρ2 => cLoop g body xs ρ2
    | .ct ρ2 => cLoop g body xs ρ2
    | .bk ρ2 => some (.nx ρ2)
    | .rt v => some (.rt v)
theorem loop_ev {dg : DG} {db : DS} {cg : CG} {cb : CS} [h : EvG dg cg] [h' : EvS db cb] : ∀ (xs : List PyData) {ρ : DEnv} {o : Out} {D : DEnds}, cLoop cg cb xs ρ = some o → o.go D → dLoop dg db xs D ρ
  | [], ρ, o, D, e, q => by
    cases e
    exact q
  | x :: xs, ρ, o, D, e, q => by
    obtain ⟨r, e1, e⟩ := ob e
    obtain ⟨p, e2, e⟩ := ob e
    refine h.ev e1 (h'.ev e2 ?_)
    cases p with
    | nx ρ2 => exact loop_ev xs e q
    | ct ρ2 => exact loop_ev xs e q
    | bk ρ2 =>
      cases e
      exact q
    | rt v =>
      cases e
      exact q
def cFor (i : CI) (g : CG) (body : CS) : CS := fun ρ => (i ρ).bind fun xs => cLoop g body xs ρ
instance {di : DI} {ci : CI} {dg : DG} {db : DS} {cg : CG} {cb : CS} [h0 : EvI di ci] [h : EvG dg cg] [h' : EvS db cb] : EvS (dFor di dg db) (cFor ci cg cb) := ⟨fun {ρ o D} e q => by
  obtain ⟨xs, e1, e⟩ := ob e
  exact h0.ev e1 (loop_ev xs e q)⟩
def cLcL (g : CG) (t : CT) (a : CE) (ρ0 : DEnv) : List PyData → List PyData → Option (List PyData)
  | [], acc => some acc
  | x :: xs, acc => (g x ρ0).bind fun ρ' => (t ρ').bind fun b => if b = true then (a ρ').bind fun y => match y with
      | .d y => if acc.length < sizeLine then cLcL g t a ρ0 xs (acc ++ [y]) else none
      | _ => none
    else cLcL g t a ρ0 xs acc
theorem lcl_ev {dg : DG} {dt : DT} {da : DE} {cg : CG} {ct : CT} {ca : CE} [h : EvG dg cg] [h1 : EvT dt ct] [h2 : EvE da ca] {ρ0 : DEnv} : ∀ (xs : List PyData) {acc ys : List PyData} {Q : List PyData → Prop}, cLcL cg ct ca ρ0 xs acc = some ys → Q ys → dLcL dg dt da ρ0 xs acc Q
  | [], acc, ys, Q, e, q => by
    cases e
    exact q
  | x :: xs, acc, ys, Q, e, q => by
    obtain ⟨r, e1, e⟩ := ob e
    obtain ⟨b, e2, e⟩ := ob e
    refine h.ev e1 (h1.ev e2 ?_)
    cases b with
    | true =>
      obtain ⟨y, e3, e⟩ := ob (show (ca r).bind _ = some ys from e)
      refine ite_t (h2.ev e3 ?_)
      split at e
      · obtain ⟨ok, e⟩ := oi e
        exact ⟨ok, lcl_ev xs e q⟩
      · cases e
    | false => exact ite_f (lcl_ev xs e q)
def cLc (i : CI) (g : CG) (t : CT) (a : CE) (vs : List Nat) : CN := fun ρ => (i ρ).bind fun xs => (cLcL g t a (wipeD ρ vs) xs []).map fun ys => ys.map OV.d
instance {di : DI} {ci : CI} {dg : DG} {dt : DT} {da : DE} {cg : CG} {ct : CT} {ca : CE} {vs : List Nat} [h0 : EvI di ci] [h : EvG dg cg] [h1 : EvT dt ct] [h2 : EvE da ca] : EvN (dLc di dg dt da vs) (cLc ci cg ct ca vs) := ⟨fun {ρ x Q} e q => by
  obtain ⟨xs, e1, e⟩ := ob e
  obtain ⟨ys, e2, rfl⟩ := om e
  exact h0.ev e1 (lcl_ev xs e2 q)⟩
def cLcNL (g : CG) (t : CT) (a : CN) (ρ0 : DEnv) : List PyData → List OV → Option (List OV)
  | [], acc => some acc
  | x :: xs, acc => (g x ρ0).bind fun ρ' => (t ρ').bind fun b => if b = true then (a ρ').bind fun ys => if acc.length < sizeLine then cLcNL g t a ρ0 xs (acc ++ [.lst ys]) else none
    else cLcNL g t a ρ0 xs acc
theorem lcnl_ev {dg : DG} {dt : DT} {da : DN} {cg : CG} {ct : CT} {ca : CN} [h : EvG dg cg] [h1 : EvT dt ct] [h2 : EvN da ca] {ρ0 : DEnv} : ∀ (xs : List PyData) {acc ys : List OV} {Q : List OV → Prop}, cLcNL cg ct ca ρ0 xs acc = some ys → Q ys → dLcNL dg dt da ρ0 xs acc Q
  | [], acc, ys, Q, e, q => by
    cases e
    exact q
  | x :: xs, acc, ys, Q, e, q => by
    obtain ⟨r, e1, e⟩ := ob e
    obtain ⟨b, e2, e⟩ := ob e
    refine h.ev e1 (h1.ev e2 ?_)
    cases b with
    | true =>
      obtain ⟨y, e3, e⟩ := ob (show (ca r).bind _ = some ys from e)
      refine ite_t (h2.ev e3 ?_)
      obtain ⟨ok, e⟩ := oi e
      exact ⟨ok, lcnl_ev xs e q⟩
    | false => exact ite_f (lcnl_ev xs e q)
def cLcN (i : CI) (g : CG) (t : CT) (a : CN) (vs : List Nat) : CN := fun ρ => (i ρ).bind fun xs => cLcNL g t a (wipeD ρ vs) xs []
instance {di : DI} {ci : CI} {dg : DG} {dt : DT} {da : DN} {cg : CG} {ct : CT} {ca : CN} {vs : List Nat} [h0 : EvI di ci] [h : EvG dg cg] [h1 : EvT dt ct] [h2 : EvN da ca] : EvN (dLcN di dg dt da vs) (cLcN ci cg ct ca vs) := ⟨fun {ρ x Q} e q => by
  obtain ⟨xs, e1, e⟩ := ob e
  exact h0.ev e1 (lcnl_ev xs e q)⟩
/-! ### a def -/
def Out.val : Out → Option PyData
  | .nx _ => some .none
  | .rt v => some v
  | _ => none
def cRof (N : List Str) (n : Nat) (c : CS) : CF := fun xs => if xs.length = n then (c (startD N xs)).bind Out.val else none
instance {N : List Str} {n : Nat} {ds : DS} {cs : CS} [h : EvS ds cs] : EvF (Rof N n ds) (cRof N n cs) := ⟨fun {xs r Q} e q => by
  obtain ⟨hl, e⟩ := oi e
  obtain ⟨o, e1, e⟩ := ob e
  refine ⟨hl, h.ev e1 ?_⟩
  cases o with
  | nx ρ =>
    cases e
    exact q
  | rt v =>
    cases e
    exact q
  | bk ρ => cases e
  | ct ρ => cases e⟩
end DL

/-! ==== DLK ==== -/
set_option Elab.async false
set_option linter.all false
set_option maxRecDepth 100000
set_option maxHeartbeats 4000000
namespace DL
open PySem PySem.Spec PyProof.Rows L2
/-! ## short words for the printed proofs -/
abbrev dSub : D2 := dI0 fun i j => .int (i - j)
abbrev cSub : C2 := cI0 fun i j => .int (i - j)
abbrev dMdo : D2 := dI2 (fun _ j => j ≠ 0) fun i j => .int (i.fmod j)
abbrev cMdo : C2 := cI2 (fun _ j => j ≠ 0) fun i j => .int (i.fmod j)
abbrev dFdv : D2 := dI2 CDivN fun i j => .int (i.fdiv j)
abbrev cFdv : C2 := cI2 CDivN fun i j => .int (i.fdiv j)
abbrev dPwr : D2 := dI2 CPow fun i j => .int (i ^ j.toNat)
abbrev cPwr : C2 := cI2 CPow fun i j => .int (i ^ j.toNat)
abbrev dAbs : DF := dI1 (fun _ => True) fun i => if i < 0 then -i else i
abbrev cAbs : CF := cI1 (fun _ => True) fun i => if i < 0 then -i else i
abbrev dMax2 : DF := dII fun i j => if j > i then j else i
abbrev cMax2 : CF := cII fun i j => if j > i then j else i
abbrev dMin2 : DF := dII fun i j => if j < i then j else i
abbrev cMin2 : CF := cII fun i j => if j < i then j else i
theorem len_nil : ∀ (xs : List PyData) (ρ : DEnv) (Q : DEnv → Prop), dgNil xs ρ Q → xs.length = 0
  | [], _, _, _ => rfl
  | _ :: _, _, _, h => h.elim
theorem len_cons {gs : DGs} {n i : Nat} (h : ∀ xs ρ Q, gs xs ρ Q → xs.length = n) : ∀ (xs : List PyData) (ρ : DEnv) (Q : DEnv → Prop), dgCons (dgName i) gs xs ρ Q → xs.length = n + 1
  | [], _, _, z => z.elim
  | _ :: r, ρ, Q, z => by
    have z' : gs r (ρ.set i (some (.d ‹PyData›))) Q := z
    rw [List.length_cons, h _ _ _ z']
theorem isTrue_chk : True := trivial
section
variable {X : Cx} {m : Am} {a b c e : Expr} {pos p : Pos} {te ta tb tc : TE} {de da db dc : DE}
theorem t_gin {x : Str} {D : Addr} {kvs : List (Str × PyData)} (hg : Gl X x) (hm : X.mg x = some (.ref D)) (G : GDic X.K X.w D kvs) (he : DPE X m e te de) (hd : (x == ("__debug__" : Str)) = false := by decide) :
    DPT X m (.Compare e [.In] [.Name x p] pos) (tTest (tOp (rGIn X.K D) te (tC (.ref D)))) (dTest (dGIn kvs de)) := by
  have h := d_gin (p := p) (pos := pos) hg hm G he hd
  obtain ⟨es, n, kd⟩ := G.kd
  exact ⟨pt_cmpR (op_in_kd kd) he.pe (pe_glob (v := .ref D) hg hm rfl hd) rfl, rt_test h.re⟩
theorem t_gni {x : Str} {D : Addr} {kvs : List (Str × PyData)} (hg : Gl X x) (hm : X.mg x = some (.ref D)) (G : GDic X.K X.w D kvs) (he : DPE X m e te de) (hd : (x == ("__debug__" : Str)) = false := by decide) :
    DPT X m (.Compare e [.NotIn] [.Name x p] pos) (tTest (tOp (rGNot X.K D) te (tC (.ref D)))) (dTest (dGNot kvs de)) := by
  have h := d_gni (p := p) (pos := pos) hg hm G he hd
  obtain ⟨es, n, kd⟩ := G.kd
  exact ⟨pt_cmpR (op_notIn_kd kd) he.pe (pe_glob (v := .ref D) hg hm rfl hd) rfl, rt_test h.re⟩
theorem t_chain {op op' : CmpOp} {r r' : R2} {dr dr' : D2} (ho : OpR X (compareOp op) r) (ho' : OpR X (compareOp op') r') (h1 : R2D X.K m r dr) (h2 : R2D X.K m r' dr') (ha : DPE X m a ta da) (hb : DPE X m b tb db) (hc : DPE X m c tc dc)
    (hm : lastMarks [op, op'] [b, c] = false := by with_unfolding_all rfl) : DPT X m (.Compare a [op, op'] [b, c] pos) (tTest (tChain r r' ta tb tc)) (dTest (dChain dr dr' da db dc)) :=
  ⟨pt_chain ho ho' ha.pe hb.pe hc.pe hm, rt_test (d_chain (pos := pos) ho ho' h1 h2 ha hb hc hm).re⟩
structure GV (K : PySem.W.Frag) (mg : Str → Option Value) (x : Str) (u : Value) (v : V) (d : PyData) : Prop where
  at_ : mg x = some u
  rel : RelV v u
  rep : ∀ H, Rep K H v d
theorem d_gl {x : Str} {u : Value} {v : V} {d : PyData} (hg : Gl X x) (hm : GV X.K X.mg x u v d) (hd : (x == ("__debug__" : Str)) = false := by decide) : DPE X m (.Name x pos) (tC v) (dC d) := ⟨pe_glob hg hm.at_ hm.rel hd, re_c hm.rep⟩
/-- {} -/
theorem d_dic0 : DPE X m (.Dict [] [] pos) tDNewK (dC (.dict [])) := ⟨pe_dnewK, ⟨fun {σ H ρ F T Q dQ} er hq k => fun q hq2 => k _ _ _ (Ext.new hq2) (er.new hq2) (.d (.dic (.inl (er.newB hq2)) .nil)) hq⟩⟩
end
end DL

/-! ==== DLQ ==== -/
set_option Elab.async false
set_option linter.all false
set_option maxRecDepth 100000
set_option maxHeartbeats 4000000
namespace DL
open PySem PySem.Spec PyProof.Rows L2
/-! the rules whose terms name the fragment, with the fragment named apart (printed by mkprime.py) -/
section
variable {X : Cx} {m : Am} {tg a b c e o elt iter : Expr} {es ifs : List Expr} {pos p p2 apos sp_ tpos : Pos} {t u ti to : TE} {tl th : TO} {dl dh : DEnv → (Option Int → Prop) → Prop} {ta tb tc te : TE} {da db dc de dO : DE} {tt tu : TT} {dt du : DT} {ua ub : TA} {va vb : DA} {dn : DN} {wi : TI} {di : DI} {g : TG} {dg : DG} {js : List Nat} {ts : List Expr} {gs : TGs} {dgs : DGs} {rest : List Expr} {lo hi : Option Expr}
theorem d_add' {K' : PySem.W.Frag} (ha : DPE X m a ta da) (hb : DPE X m b tb db) (hK : X.K = K' := by rfl) : DPE X m (.BinOp a .Add b pos) (tOp (rAddA K') ta tb) (dOp dAdd da db) := by
  subst hK
  exact d_add (ha := ha) (hb := hb)
theorem d_eq' {K' : PySem.W.Frag} {k : Nat} (hr : Rm k X.A) (ha : DPE X m a ta da) (hb : DPE X m b tb db) (hK : X.K = K' := by rfl) : DPE X m (.Compare a [.Eq] [b] pos) (tOp (rEqA K') ta tb) (dOp dEq da db) := by
  subst hK
  exact d_eq (hr := hr) (ha := ha) (hb := hb)
theorem d_ne' {K' : PySem.W.Frag} {k : Nat} (hr : Rm k X.A) (ha : DPE X m a ta da) (hb : DPE X m b tb db) (hK : X.K = K' := by rfl) : DPE X m (.Compare a [.NotEq] [b] pos) (tOp (rNeA K') ta tb) (dOp dNe da db) := by
  subst hK
  exact d_ne (hr := hr) (ha := ha) (hb := hb)
theorem d_in' {K' : PySem.W.Frag} (ha : DPE X m a ta da) (hb : DPE X m b tb db) (hm : behindInMarks .In b = false) (hK : X.K = K' := by rfl) : DPE X m (.Compare a [.In] [b] pos) (tOp (rInA K' false) ta tb) (dOp dIn da db) := by
  subst hK
  exact d_in (ha := ha) (hb := hb) (hm := hm)
theorem d_ni' {K' : PySem.W.Frag} (ha : DPE X m a ta da) (hb : DPE X m b tb db) (hm : behindInMarks .NotIn b = false) (hK : X.K = K' := by rfl) : DPE X m (.Compare a [.NotIn] [b] pos) (tOp (rInA K' true) ta tb) (dOp dNotIn da db) := by
  subst hK
  exact d_ni (ha := ha) (hb := hb) (hm := hm)
theorem d_at' {K' : PySem.W.Frag} (ha : DPE X m a ta da) (hb : DPE X m b tb db) (hs : PlainIx b := by exact fun _ _ => rfl) (hK : X.K = K' := by rfl) : DPE X m (.Subscript a b pos) (tOp (rIx K') ta tb) (dOp dIx da db) := by
  subst hK
  exact d_at (ha := ha) (hb := hb) (hs := hs)
theorem t_eq' {K' : PySem.W.Frag} {k : Nat} (hr : Rm k X.A) (ha : DPE X m a ta da) (hb : DPE X m b tb db) (hK : X.K = K' := by rfl) : DPT X m (.Compare a [.Eq] [b] pos) (tTest (tOp (rEqA K') ta tb)) (dTest (dOp dEq da db)) := by
  subst hK
  exact t_eq (hr := hr) (ha := ha) (hb := hb)
theorem t_ne' {K' : PySem.W.Frag} {k : Nat} (hr : Rm k X.A) (ha : DPE X m a ta da) (hb : DPE X m b tb db) (hK : X.K = K' := by rfl) : DPT X m (.Compare a [.NotEq] [b] pos) (tTest (tOp (rNeA K') ta tb)) (dTest (dOp dNe da db)) := by
  subst hK
  exact t_ne (hr := hr) (ha := ha) (hb := hb)
theorem t_in' {K' : PySem.W.Frag} (ha : DPE X m a ta da) (hb : DPE X m b tb db) (hm : behindInMarks .In b = false) (hK : X.K = K' := by rfl) : DPT X m (.Compare a [.In] [b] pos) (tTest (tOp (rInA K' false) ta tb)) (dTest (dOp dIn da db)) := by
  subst hK
  exact t_in (ha := ha) (hb := hb) (hm := hm)
theorem t_ni' {K' : PySem.W.Frag} (ha : DPE X m a ta da) (hb : DPE X m b tb db) (hm : behindInMarks .NotIn b = false) (hK : X.K = K' := by rfl) : DPT X m (.Compare a [.NotIn] [b] pos) (tTest (tOp (rInA K' true) ta tb)) (dTest (dOp dNotIn da db)) := by
  subst hK
  exact t_ni (ha := ha) (hb := hb) (hm := hm)
theorem d_call' {K' : PySem.W.Frag} {k : Nat} {f : Addr} {fd : FuncData} {ps : List Str} {R : DF} {x : Str} (G : FnG X.prog X.w X.K X.mg X.base CX0 k f fd ps (dsp X.K R)) (hr : Rm k X.A) (hg : Gl X x) (hm : X.mg x = some (.ref f)) (hk : PySem.W.keepIn X.K (.ref f) = true) (hb : Binds X.K fd ps [])
    (ha : DPA X m (e :: es) ua va) (hdb : (x == ("__debug__" : Str)) = false := by decide) (he : starEach (e :: es) X.env = (false, eval e X.env) :: starEach es X.env := by rfl) (hpl : (backTo pos (starEach es X.env)).any (·.1) = false := by rfl)  (hK : X.K = K' := by rfl) :     DPE X m (.Call (.Name x p) (e :: es) [] pos) (tCall (dsp K' R) [] E0 ua) (dCall R va) := by
  subst hK
  exact d_call (G := G) (hr := hr) (hg := hg) (hm := hm) (hk := hk) (hb := hb) (ha := ha) (hdb := hdb) (he := he) (hpl := hpl)
theorem d_call0' {K' : PySem.W.Frag} {k : Nat} {f : Addr} {fd : FuncData} {ps : List Str} {R : DF} {x : Str} (G : FnG X.prog X.w X.K X.mg X.base CX0 k f fd ps (dsp X.K R)) (hr : Rm k X.A) (hg : Gl X x) (hm : X.mg x = some (.ref f)) (hk : PySem.W.keepIn X.K (.ref f) = true) (hb : Binds X.K fd ps [])
    (hdb : (x == ("__debug__" : Str)) = false := by decide) (hK : X.K = K' := by rfl) : DPE X m (.Call (.Name x p) [] [] pos) (tCall (dsp K' R) [] E0 tNil) (dCall R dNil) := by
  subst hK
  exact d_call0 (G := G) (hr := hr) (hg := hg) (hm := hm) (hk := hk) (hb := hb) (hdb := hdb)
theorem d_callX' {K' : PySem.W.Frag} {k n : Nat} {f : Addr} {fd : FuncData} {ps ks : List Str} {π : List Nat} {R : DF} {x : Str} {kws : List Keyword} {uk : TA} {vk : DA} (G : FnG X.prog X.w X.K X.mg X.base CX0 k f fd ps (dsp X.K R)) (hr : Rm k X.A) (hg : Gl X x) (hm : X.mg x = some (.ref f)) (hk : PySem.W.keepIn X.K (.ref f) = true) (hb : KB X.K fd ps n ks π)
    (ha : DPA X m (e :: es) ua va) (hkw : DPK X m kws uk vk) (hπ : ∀ i ∈ π, i < n + ks.length := by decide) (hall : (backToKw pos (keywordEach kws X.env)).all (·.1.isSome) = true := by rfl) (hks : (backToKw pos (keywordEach kws X.env)).filterMap (·.1) = ks := by rfl)
    (hdb : (x == ("__debug__" : Str)) = false := by decide) (he : starEach (e :: es) X.env = (false, eval e X.env) :: starEach es X.env := by rfl)
    (hpl : ((backTo pos (starEach (e :: es) X.env)).any (·.1) || (backToKw pos (keywordEach kws X.env)).any (·.1.isNone)) = false := by rfl)  (hK : X.K = K' := by rfl) :     DPE X m (.Call (.Name x p) (e :: es) kws pos) (tCallX n ks π (dsp K' R) E0 ua uk) (dCallX R n ks.length π va vk) := by
  subst hK
  exact d_callX (G := G) (hr := hr) (hg := hg) (hm := hm) (hk := hk) (hb := hb) (ha := ha) (hkw := hkw) (hπ := hπ) (hall := hall) (hks := hks) (hdb := hdb) (he := he) (hpl := hpl)
theorem d_callX0' {K' : PySem.W.Frag} {k : Nat} {f : Addr} {fd : FuncData} {ps ks : List Str} {π : List Nat} {R : DF} {x : Str} {kws : List Keyword} {uk : TA} {vk : DA} (G : FnG X.prog X.w X.K X.mg X.base CX0 k f fd ps (dsp X.K R)) (hr : Rm k X.A) (hg : Gl X x) (hm : X.mg x = some (.ref f)) (hk : PySem.W.keepIn X.K (.ref f) = true) (hb : KB X.K fd ps 0 ks π)
    (hkw : DPK X m kws uk vk) (hπ : ∀ i ∈ π, i < 0 + ks.length := by decide) (hall : (backToKw pos (keywordEach kws X.env)).all (·.1.isSome) = true := by rfl) (hks : (backToKw pos (keywordEach kws X.env)).filterMap (·.1) = ks := by rfl)
    (hdb : (x == ("__debug__" : Str)) = false := by decide) (hpl : ((backTo pos (starEach [] X.env)).any (·.1) || (backToKw pos (keywordEach kws X.env)).any (·.1.isNone)) = false := by rfl)  (hK : X.K = K' := by rfl) :     DPE X m (.Call (.Name x p) [] kws pos) (tCallX 0 ks π (dsp K' R) E0 tNil uk) (dCallX R 0 ks.length π dNil vk) := by
  subst hK
  exact d_callX0 (G := G) (hr := hr) (hg := hg) (hm := hm) (hk := hk) (hb := hb) (hkw := hkw) (hπ := hπ) (hall := hall) (hks := hks) (hdb := hdb) (hpl := hpl)
theorem g_tup' {K' : PySem.W.Frag} {k n : Nat} (hc : X.calm = true) (h : DPGs X m ts gs dgs js) (hlen : ∀ xs ρ Q, dgs xs ρ Q → xs.length = n) (hn : (assignEach ts X.env).length = n := by rfl) (hst : (assignEach ts X.env).findIdx? (·.1) = none := by rfl)  (hK : X.K = K' := by rfl) :     DPG X m (.Tuple ts k pos) (gTup K' n gs) (dgTup dgs) js := by
  subst hK
  exact g_tup (hc := hc) (h := h) (hlen := hlen) (hn := hn) (hst := hst)
theorem g_unl' {K' : PySem.W.Frag} {k n : Nat} (hc : X.calm = true) (h : DPGs X m ts gs dgs js) (hlen : ∀ xs ρ Q, dgs xs ρ Q → xs.length = n) (hn : (assignEach ts X.env).length = n := by rfl) (hst : (assignEach ts X.env).findIdx? (·.1) = none := by rfl)  (hK : X.K = K' := by rfl) :     DPG X m (.Tuple ts k pos) (gUnl K' n gs) (dgUnl dgs) js := by
  subst hK
  exact g_unl (hc := hc) (h := h) (hlen := hlen) (hn := hn) (hst := hst)
theorem i_list' {K' : PySem.W.Frag} (h : DPE X m e te de) (hK : X.K = K' := by rfl) : DPI X m tg e (iList K' te) (diList de) := by
  subst hK
  exact i_list (h := h)
theorem i_tup' {K' : PySem.W.Frag} (h : DPE X m e te de) (hK : X.K = K' := by rfl) : DPI X m tg e (iTup K' te) (diTup de) := by
  subst hK
  exact i_tup (h := h)
theorem i_zip' {K' : PySem.W.Frag} {e e2 : Expr} {tpos : Pos} {elts : List Expr} {kk : Nat} (hg : Gl X "zip") (hm : X.mg "zip" = none) (ha : DPA X m [e, e2] ua va) (hs : starEach [e, e2] X.env = (false, eval e X.env) :: starEach [e2] X.env := by rfl) (hpl : (backTo pos (starEach [e2] X.env)).any (·.1) = false := by rfl)  (hK : X.K = K' := by rfl) :     DPI X m (.Tuple elts kk tpos) (.Call (.Name "zip" p) [e, e2] [] pos) (RZ.iZipA K' ua) (diZip va) := by
  subst hK
  exact i_zip (hg := hg) (hm := hm) (ha := ha) (hs := hs) (hpl := hpl)
theorem d_mul' {K' : PySem.W.Frag} (ha : DPE X m a ta da) (hb : DPE X m b tb db) (hK : X.K = K' := by rfl) : DPE X m (.BinOp a .Mult b pos) (tOp (rMulA K') ta tb) (dOp dMul da db) := by
  subst hK
  exact d_mul (ha := ha) (hb := hb)
theorem d_sl' {K' : PySem.W.Frag} (h : DPE X m e te de) (hl : DPO X m lo tl dl) (hh : DPO X m hi th dh) (hK : X.K = K' := by rfl) : DPE X m (.Subscript e (.Slice lo hi none p2) pos) (tSl (rSlAll K') te tl th) (dSl de dl dh) := by
  subst hK
  exact d_sl (h := h) (hl := hl) (hh := hh)
theorem d_len' {K' : PySem.W.Frag} (hg : Gl X "len") (hm : X.mg "len" = none) (ha : DPA X m [e] ua va) (he : starEach [e] X.env = (false, eval e X.env) :: starEach [] X.env := by rfl) (hpl : (backTo pos (starEach [] X.env)).any (·.1) = false := by rfl)  (hK : X.K = K' := by rfl) :     DPE X m (.Call (.Name "len" p) [e] [] pos) (tCB (rLenA K') ua) (dCB dLen va) := by
  subst hK
  exact d_len (hg := hg) (hm := hm) (ha := ha) (he := he) (hpl := hpl)
theorem d_sum' {K' : PySem.W.Frag} (hc : X.calm = true) (hg : Gl X "sum") (hm : X.mg "sum" = none) (ha : DPA X m [e] ua va) (he : starEach [e] X.env = (false, eval e X.env) :: starEach [] X.env := by rfl) (hpl : (backTo pos (starEach [] X.env)).any (·.1) = false := by rfl)  (hK : X.K = K' := by rfl) :     DPE X m (.Call (.Name "sum" p) [e] [] pos) (tCB (rSum K') ua) (dCB dSum va) := by
  subst hK
  exact d_sum (hc := hc) (hg := hg) (hm := hm) (ha := ha) (he := he) (hpl := hpl)
theorem d_all' {K' : PySem.W.Frag} (hc : X.calm = true) (hg : Gl X "all") (hm : X.mg "all" = none) (ha : DPA X m [e] ua va) (he : starEach [e] X.env = (false, eval e X.env) :: starEach [] X.env := by rfl) (hpl : (backTo pos (starEach [] X.env)).any (·.1) = false := by rfl)  (hK : X.K = K' := by rfl) :     DPE X m (.Call (.Name "all" p) [e] [] pos) (tCB (rAll K') ua) (dCB dAll va) := by
  subst hK
  exact d_all (hc := hc) (hg := hg) (hm := hm) (ha := ha) (he := he) (hpl := hpl)
theorem d_any' {K' : PySem.W.Frag} (hc : X.calm = true) (hg : Gl X "any") (hm : X.mg "any" = none) (ha : DPA X m [e] ua va) (he : starEach [e] X.env = (false, eval e X.env) :: starEach [] X.env := by rfl) (hpl : (backTo pos (starEach [] X.env)).any (·.1) = false := by rfl)  (hK : X.K = K' := by rfl) :     DPE X m (.Call (.Name "any" p) [e] [] pos) (tCB (rAny K') ua) (dCB dAny va) := by
  subst hK
  exact d_any (hc := hc) (hg := hg) (hm := hm) (ha := ha) (he := he) (hpl := hpl)
theorem d_tupC' {K' : PySem.W.Frag} (hg : Gl X "tuple") (hm : X.mg "tuple" = none) (ha : DPA X m [e] ua va) (he : starEach [e] X.env = (false, eval e X.env) :: starEach [] X.env := by rfl) (hpl : (backTo pos (starEach [] X.env)).any (·.1) = false := by rfl)  (hK : X.K = K' := by rfl) :     DPE X m (.Call (.Name "tuple" p) [e] [] pos) (tCB (rTupC K') ua) (dCB dTupC va) := by
  subst hK
  exact d_tupC (hg := hg) (hm := hm) (ha := ha) (he := he) (hpl := hpl)
theorem d_lstC' {K' : PySem.W.Frag} (hg : Gl X "list") (hm : X.mg "list" = none) (ha : DPA X m [e] ua va) (he : starEach [e] X.env = (false, eval e X.env) :: starEach [] X.env := by rfl) (hpl : (backTo pos (starEach [] X.env)).any (·.1) = false := by rfl)  (hK : X.K = K' := by rfl) :     DPE X m (.Call (.Name "list" p) [e] [] pos) (tCB (rLstC K') ua) (dCB dLstC va) := by
  subst hK
  exact d_lstC (hg := hg) (hm := hm) (ha := ha) (he := he) (hpl := hpl)
theorem n_lstC' {K' : PySem.W.Frag} (hg : Gl X "list") (hm : X.mg "list" = none) (ha : DPA X m [e] ua va) (he : starEach [e] X.env = (false, eval e X.env) :: starEach [] X.env := by rfl) (hpl : (backTo pos (starEach [] X.env)).any (·.1) = false := by rfl)  (hK : X.K = K' := by rfl) :     DPN X m (.Call (.Name "list" p) [e] [] pos) (tCB (rLstC K') ua) (dLstCN va) := by
  subst hK
  exact n_lstC (hg := hg) (hm := hm) (ha := ha) (he := he) (hpl := hpl)
theorem d_isi' {K' : PySem.W.Frag} {T : String} {x : Str} {tp : Pos} (hT : T ∈ ["bool", "int", "str", "list", "tuple", "dict"]) (hgi : Gl X "isinstance") (hmi : X.mg "isinstance" = none) (hg : Gl X x) (hm : X.mg x = none) (hv : bootBuiltins x = some (.type T)) (h : DPE X m e te de) (hn : x ≠ "__name__" := by decide) (hd : (x == ("__debug__" : Str)) = false := by decide)
    (hs : starEach [e, .Name x tp] X.env = (false, eval e X.env) :: starEach [.Name x tp] X.env := by rfl) (hs2 : starEach [.Name x tp] X.env = (false, eval (.Name x tp) X.env) :: starEach [] X.env := by rfl) (hpl : (backTo pos (starEach [.Name x tp] X.env)).any (·.1) = false := by rfl)  (hK : X.K = K' := by rfl) :     DPE X m (.Call (.Name "isinstance" p) [e, .Name x tp] [] pos) (tCB (rIsi K') (tCons te (tCons (tC (.ty T)) tNil))) (dIsi T de) := by
  subst hK
  exact d_isi (hT := hT) (hgi := hgi) (hmi := hmi) (hg := hg) (hm := hm) (hv := hv) (h := h) (hn := hn) (hd := hd) (hs := hs) (hs2 := hs2) (hpl := hpl)
theorem d_repr' {K' : PySem.W.Frag} {k : Nat} (hr : Rm k X.A) (hg : Gl X "repr") (hm : X.mg "repr" = none) (ha : DPA X m [e] ua va) (he : starEach [e] X.env = (false, eval e X.env) :: starEach [] X.env := by rfl) (hpl : (backTo pos (starEach [] X.env)).any (·.1) = false := by rfl)  (hK : X.K = K' := by rfl) :     DPE X m (.Call (.Name "repr" p) [e] [] pos) (tCB (rRepr K') ua) (dCB dRepr va) := by
  subst hK
  exact d_repr (hr := hr) (hg := hg) (hm := hm) (ha := ha) (he := he) (hpl := hpl)
theorem d_join' {K' : PySem.W.Frag} (hO : DPE X m o to dO) (h : DPE X m e te de) (hs : starEach [e] X.env = [(false, eval e X.env)] := by rfl) (hbase : attributeBase o "join" X.env (eval o X.env) = eval o X.env := by rfl) (hline : (apos.endLine == pos.line) = true := by rfl)  (hK : X.K = K' := by rfl) :     DPE X m (.Call (.Attribute o "join" apos) [e] [] pos) (tM1 (fun x xs H Q => ∃ a p, ∃ ys : List Str, x = .str a ∧ xs = [.ref p] ∧ (SqL K' H p (ys.map V.str) ∨ SqT K' H p (ys.map V.str)) ∧ (ys.map (·.length)).sum + ys.length * a.length ≤ 16777216 ∧ Q (.str (Txt.join a ys)) H) to te) (dM1 dJoinR dO de) := by
  subst hK
  exact d_join (hO := hO) (h := h) (hs := hs) (hbase := hbase) (hline := hline)
theorem d_gin' {K' : PySem.W.Frag} {x : Str} {D : Addr} {kvs : List (Str × PyData)} (hg : Gl X x) (hm : X.mg x = some (.ref D)) (G : GDic X.K X.w D kvs) (he : DPE X m e te de) (hd : (x == ("__debug__" : Str)) = false := by decide)  (hK : X.K = K' := by rfl) :     DPE X m (.Compare e [.In] [.Name x p] pos) (tOp (rGIn K' D) te (tC (.ref D))) (dGIn kvs de) := by
  subst hK
  exact d_gin (hg := hg) (hm := hm) (G := G) (he := he) (hd := hd)
theorem d_gni' {K' : PySem.W.Frag} {x : Str} {D : Addr} {kvs : List (Str × PyData)} (hg : Gl X x) (hm : X.mg x = some (.ref D)) (G : GDic X.K X.w D kvs) (he : DPE X m e te de) (hd : (x == ("__debug__" : Str)) = false := by decide)  (hK : X.K = K' := by rfl) :     DPE X m (.Compare e [.NotIn] [.Name x p] pos) (tOp (rGNot K' D) te (tC (.ref D))) (dGNot kvs de) := by
  subst hK
  exact d_gni (hg := hg) (hm := hm) (G := G) (he := he) (hd := hd)
theorem d_gget' {K' : PySem.W.Frag} {x : Str} {D : Addr} {kvs : List (Str × PyData)} (hg : Gl X x) (hm : X.mg x = some (.ref D)) (G : GDic X.K X.w D kvs) (he : DPE X m e te de) (hs : PlainIx e) (hd : (x == ("__debug__" : Str)) = false := by decide)  (hK : X.K = K' := by rfl) :     DPE X m (.Subscript (.Name x p) e pos) (tOp (rIxD K' X.w) (tC (.ref D)) te) (dGGet kvs de) := by
  subst hK
  exact d_gget (hg := hg) (hm := hm) (G := G) (he := he) (hs := hs) (hd := hd)
theorem t_gin' {K' : PySem.W.Frag} {x : Str} {D : Addr} {kvs : List (Str × PyData)} (hg : Gl X x) (hm : X.mg x = some (.ref D)) (G : GDic X.K X.w D kvs) (he : DPE X m e te de) (hd : (x == ("__debug__" : Str)) = false := by decide)  (hK : X.K = K' := by rfl) :     DPT X m (.Compare e [.In] [.Name x p] pos) (tTest (tOp (rGIn K' D) te (tC (.ref D)))) (dTest (dGIn kvs de)) := by
  subst hK
  exact t_gin (hg := hg) (hm := hm) (G := G) (he := he) (hd := hd)
theorem t_gni' {K' : PySem.W.Frag} {x : Str} {D : Addr} {kvs : List (Str × PyData)} (hg : Gl X x) (hm : X.mg x = some (.ref D)) (G : GDic X.K X.w D kvs) (he : DPE X m e te de) (hd : (x == ("__debug__" : Str)) = false := by decide)  (hK : X.K = K' := by rfl) :     DPT X m (.Compare e [.NotIn] [.Name x p] pos) (tTest (tOp (rGNot K' D) te (tC (.ref D)))) (dTest (dGNot kvs de)) := by
  subst hK
  exact t_gni (hg := hg) (hm := hm) (G := G) (he := he) (hd := hd)
end
end DL

/-! ==== DLD ==== -/
set_option Elab.async false
set_option linter.all false
set_option maxRecDepth 100000
set_option maxHeartbeats 4000000
namespace DL
open PySem PySem.Spec PyProof.Rows L2
/-! ## equality of data, decided -/
mutual
def eqD : PyData → PyData → Bool
  | .none, y => (match y with
    | .none => true
    | _ => false)
  | .bool a, y => (match y with
    | .bool b => a == b
    | _ => false)
  | .int a, y => (match y with
    | .int b => decide (a = b)
    | _ => false)
  | .str a, y => (match y with
    | .str b => decide (a = b)
    | _ => false)
  | .list a, y => (match y with
    | .list b => eqDs a b
    | _ => false)
  | .tuple a, y => (match y with
    | .tuple b => eqDs a b
    | _ => false)
  | _, _ => false
def eqDs : List PyData → List PyData → Bool
  | [], y => y.isEmpty
  | a :: as, y => (match y with
    | [] => false
    | b :: bs => eqD a b && eqDs as bs)
end
mutual
theorem eqD_ok : ∀ (a b : PyData), eqD a b = true → a = b
  | .none, b, h => by
    cases b <;> first | rfl | exact nomatch h
  | .bool a, b, h => by
    cases b with
    | bool c => rw [eq_of_beq (show (a == c) = true from h)]
    | _ => exact nomatch h
  | .int a, b, h => by
    cases b with
    | int c => rw [of_decide_eq_true (show decide (a = c) = true from h)]
    | _ => exact nomatch h
  | .str a, b, h => by
    cases b with
    | str c => rw [of_decide_eq_true (show decide (a = c) = true from h)]
    | _ => exact nomatch h
  | .list a, b, h => by
    cases b with
    | list c => rw [eqDs_ok a c h]
    | _ => exact nomatch h
  | .tuple a, b, h => by
    cases b with
    | tuple c => rw [eqDs_ok a c h]
    | _ => exact nomatch h
  | .dict a, b, h => nomatch h
theorem eqDs_ok : ∀ (a b : List PyData), eqDs a b = true → a = b
  | [], b, h => by
    cases b with
    | nil => rfl
    | cons x y => exact nomatch h
  | a :: as, b, h => by
    cases b with
    | nil => exact nomatch h
    | cons x y =>
      obtain ⟨h1, h2⟩ := He.ba (show (eqD a x && eqDs as y) = true from h)
      rw [eqD_ok a x h1, eqDs_ok as y h2]
end
end DL

/-! ==== W05 ==== -/
set_option Elab.async false
set_option linter.all false
set_option maxRecDepth 100000
set_option maxHeartbeats 0
set_option synthInstance.maxHeartbeats 0
set_option synthInstance.maxSize 1000000
namespace LW
open PySem PySem.Spec PyProof.Rows L2 DL
abbrev top (i : Nat) : Stmt := PySem.Challenge.pw_weylweights_k05_types_of_anything_and_th.main.body.getD i (.Pass ⟨0, 0, 0, 0⟩)
abbrev s_is_name : Stmt := top 8
abbrev s_is_typed : Stmt := top 9
abbrev s_joints_of : Stmt := top 10
abbrev s_matrix_by : Stmt := top 11
abbrev s_check_type : Stmt := top 13
abbrev s_is_type : Stmt := top 15
abbrev s_matrix_of : Stmt := top 16
abbrev s_rank_of : Stmt := top 17
abbrev s__law_pot : Stmt := top 19
abbrev s__law_draw : Stmt := top 20
abbrev s__law_pick : Stmt := top 21
abbrev s__law_odd : Stmt := top 22
abbrev s__law_names : Stmt := top 23
abbrev s__law_single : Stmt := top 24
abbrev s__law_blocks : Stmt := top 25
abbrev s__law_type : Stmt := top 26
abbrev s__law_is_type : Stmt := top 27
abbrev s__law_bent : Stmt := top 28
abbrev s__law_right : Stmt := top 29
abbrev s_law : Stmt := top 30
def kvs_LEAST : List (Str × PyData) := [("A", (.int 1)), ("B", (.int 2)), ("C", (.int 3)), ("D", (.int 4))]
def kvs_NAMES_OF_SOME : List (Str × PyData) := [("E", (.tuple [(.int 6), (.int 7), (.int 8)])), ("F", (.tuple [(.int 4)])), ("G", (.tuple [(.int 2)]))]
def N__law_draw : List Str := ["_law_pot_here", "_law_few", "_law_digit"]
theorem sc__law_draw : FnScope N__law_draw ["_law_pot_here", "_law_few"] (defScope s__law_draw) := ⟨rfl, rfl, rfl, by decide +kernel, rfl, by decide +kernel, by decide +kernel⟩
/-! ### is_name -/
def N_is_name : List Str := ["value", "letter", "many"]
theorem sc_is_name : FnScope N_is_name ["value"] (defScope s_is_name) := ⟨rfl, rfl, rfl, by decide +kernel, rfl, by decide +kernel, by decide +kernel⟩
def ds_is_name : DS := (dSeq (dIfS (dOrT (dTest (dOp dNe (dCB dLen (dCons (dVar 0) dNil)) (dC (.int 2)))) (dTest (dOp dNotIn (dOp dIx (dVar 0) (dC (.int 1))) (dC (.str "12345678"))))) (dRet (dC (.bool false))) dNext) (dSeq (dPar 1 2 (dCons (dOp dIx (dVar 0) (dC (.int 0))) (dCons (dCB dInt (dCons (dOp dIx (dVar 0) (dC (.int 1))) dNil)) dNil))) (dSeq (dIfS (dTest (dGIn kvs_LEAST (dVar 1))) (dRet (dOp dGe (dVar 2) (dGGet kvs_LEAST (dVar 1)))) dNext) (dRet (dAnd (dGIn kvs_NAMES_OF_SOME (dVar 1)) (dOp dIn (dVar 2) (dGGet kvs_NAMES_OF_SOME (dVar 1))))))))
def R_is_name : DF := Rof N_is_name 1 ds_is_name
def cs_is_name : CS := (cSeq (cIfS (cOrT (cTest (cOp cNe (cCB cLen (cCons (cVar 0) cNil)) (cC (.int 2)))) (cTest (cOp cNotIn (cOp cIx (cVar 0) (cC (.int 1))) (cC (.str "12345678"))))) (cRet (cC (.bool false))) cNext) (cSeq (cPar 1 2 (cCons (cOp cIx (cVar 0) (cC (.int 0))) (cCons (cCB cInt (cCons (cOp cIx (cVar 0) (cC (.int 1))) cNil)) cNil))) (cSeq (cIfS (cTest (cGIn kvs_LEAST (cVar 1))) (cRet (cOp cGe (cVar 2) (cGGet kvs_LEAST (cVar 1)))) cNext) (cRet (cAnd (cGIn kvs_NAMES_OF_SOME (cVar 1)) (cOp cIn (cVar 2) (cGGet kvs_NAMES_OF_SOME (cVar 1))))))))
instance ev_is_name : EvS ds_is_name cs_is_name := by
  unfold ds_is_name cs_is_name
  infer_instance
def c_is_name : CF := cRof N_is_name 1 cs_is_name
instance evf_is_name : EvF R_is_name c_is_name := by
  unfold R_is_name c_is_name
  infer_instance
/-! ### is_typed -/
def N_is_typed : List Str := ["value", "names", "name"]
theorem sc_is_typed : FnScope N_is_typed ["value"] (defScope s_is_typed) := ⟨rfl, rfl, rfl, by decide +kernel, rfl, by decide +kernel, by decide +kernel⟩
def ds_is_typed : DS := (dSeq (dIfS (dOrT (dNotT (dTest (dIsi "str" (dVar 0)))) (dTest (dOp dGt (dCB dLen (dCons (dVar 0) dNil)) (dOp dMul (dC (.int 3)) (dC (.int 8)))))) (dRet (dC (.bool false))) dNext) (dSeq (dSet 1 (dM1 dSplitR (dVar 0) (dC (.str " ")))) (dRet (dAnd (dCB dAll (dCons (dNE (dLc (diList (dVar 1)) (dgName 2) dYes (dCall R_is_name (dCons (dVar 2) dNil)) [2])) dNil)) (dOp dLe (dCB dSum (dCons (dNE (dLc (diList (dVar 1)) (dgName 2) dYes (dCB dInt (dCons (dOp dIx (dVar 2) (dC (.int 1))) dNil)) [2])) dNil)) (dC (.int 8)))))))
def R_is_typed : DF := Rof N_is_typed 1 ds_is_typed
def cs_is_typed : CS := (cSeq (cIfS (cOrT (cNotT (cTest (cIsi "str" (cVar 0)))) (cTest (cOp cGt (cCB cLen (cCons (cVar 0) cNil)) (cOp cMul (cC (.int 3)) (cC (.int 8)))))) (cRet (cC (.bool false))) cNext) (cSeq (cSet 1 (cM1 cSplitR (cVar 0) (cC (.str " ")))) (cRet (cAnd (cCB cAll (cCons (cNE (cLc (ciList (cVar 1)) (cgName 2) cYes (cCall c_is_name (cCons (cVar 2) cNil)) [2])) cNil)) (cOp cLe (cCB cSum (cCons (cNE (cLc (ciList (cVar 1)) (cgName 2) cYes (cCB cInt (cCons (cOp cIx (cVar 2) (cC (.int 1))) cNil)) [2])) cNil)) (cC (.int 8)))))))
instance ev_is_typed : EvS ds_is_typed cs_is_typed := by
  unfold ds_is_typed cs_is_typed
  infer_instance
def c_is_typed : CF := cRof N_is_typed 1 cs_is_typed
instance evf_is_typed : EvF R_is_typed c_is_typed := by
  unfold R_is_typed c_is_typed
  infer_instance
/-! ### joints_of -/
def N_joints_of : List Str := ["name", "letter", "many", "chain", "found", "one", "two"]
theorem sc_joints_of : FnScope N_joints_of ["name"] (defScope s_joints_of) := ⟨rfl, rfl, rfl, by decide +kernel, rfl, by decide +kernel, by decide +kernel⟩
def ds_joints_of : DS := (dSeq (dPar 1 2 (dCons (dOp dIx (dVar 0) (dC (.int 0))) (dCons (dCB dInt (dCons (dOp dIx (dVar 0) (dC (.int 1))) dNil)) dNil))) (dSeq (dSet 3 (dLstRg (dRg1 (dVar 2)))) (dSeq (dIfS (dTest (dOp dEq (dVar 1) (dC (.str "E")))) (dSet 3 (dLst (dCons (dC (.int 0)) (dStarRg (dRg2 (dC (.int 2)) (dVar 2)) dNil)))) dNext) (dSeq (dIfS (dTest (dOp dEq (dVar 1) (dC (.str "D")))) (dSet 3 (dLstRg (dRg1 (dOp dSub (dVar 2) (dC (.int 1)))))) dNext) (dSeq (dSetN 4 (dLcN (diZip (dCons (dVar 3) (dCons (dSl (dVar 3) (dPart (dC (.int 1))) dNoPart) dNil))) (dgTup (dgCons (dgName 5) (dgCons (dgName 6) dgNil))) dYes (dLstN (dCons (dVar 5) (dCons (dVar 6) (dCons (dNeg (dC (.int 1))) (dCons (dNeg (dC (.int 1))) dNil))))) [5, 6])) (dSeq (dIfS (dTest (dOp dEq (dVar 1) (dC (.str "E")))) (dAppN 4 (dLstN (dCons (dC (.int 1)) (dCons (dC (.int 3)) (dCons (dNeg (dC (.int 1))) (dCons (dNeg (dC (.int 1))) dNil)))))) dNext) (dSeq (dIfS (dTest (dOp dEq (dVar 1) (dC (.str "D")))) (dAppN 4 (dLstN (dCons (dOp dSub (dVar 2) (dC (.int 3))) (dCons (dOp dSub (dVar 2) (dC (.int 1))) (dCons (dNeg (dC (.int 1))) (dCons (dNeg (dC (.int 1))) dNil)))))) dNext) (dSeq (dIfS (dTest (dOp dEq (dVar 1) (dC (.str "B")))) (dSet2 4 (dNeg (dC (.int 2))) (dNeg (dC (.int 1))) (dC (.int 3))) dNext) (dSeq (dIfS (dTest (dOp dEq (dVar 1) (dC (.str "C")))) (dSet2 4 (dNeg (dC (.int 2))) (dNeg (dC (.int 1))) (dC (.int 2))) dNext) (dSeq (dIfS (dTest (dOp dEq (dVar 1) (dC (.str "F")))) (dSet2 4 (dNeg (dC (.int 2))) (dC (.int 1)) (dC (.int 3))) dNext) (dSeq (dIfS (dTest (dOp dEq (dVar 1) (dC (.str "G")))) (dSet2 4 (dNeg (dC (.int 3))) (dC (.int 0)) (dC (.int 2))) dNext) (dRet (dVar 4)))))))))))))
def R_joints_of : DF := Rof N_joints_of 1 ds_joints_of
def cs_joints_of : CS := (cSeq (cPar 1 2 (cCons (cOp cIx (cVar 0) (cC (.int 0))) (cCons (cCB cInt (cCons (cOp cIx (cVar 0) (cC (.int 1))) cNil)) cNil))) (cSeq (cSet 3 (cLstRg (cRg1 (cVar 2)))) (cSeq (cIfS (cTest (cOp cEq (cVar 1) (cC (.str "E")))) (cSet 3 (cLst (cCons (cC (.int 0)) (cStarRg (cRg2 (cC (.int 2)) (cVar 2)) cNil)))) cNext) (cSeq (cIfS (cTest (cOp cEq (cVar 1) (cC (.str "D")))) (cSet 3 (cLstRg (cRg1 (cOp cSub (cVar 2) (cC (.int 1)))))) cNext) (cSeq (cSetN 4 (cLcN (ciZip (cCons (cVar 3) (cCons (cSl (cVar 3) (cPart (cC (.int 1))) cNoPart) cNil))) (cgTup (cgCons (cgName 5) (cgCons (cgName 6) cgNil))) cYes (cLstN (cCons (cVar 5) (cCons (cVar 6) (cCons (cNeg (cC (.int 1))) (cCons (cNeg (cC (.int 1))) cNil))))) [5, 6])) (cSeq (cIfS (cTest (cOp cEq (cVar 1) (cC (.str "E")))) (cAppN 4 (cLstN (cCons (cC (.int 1)) (cCons (cC (.int 3)) (cCons (cNeg (cC (.int 1))) (cCons (cNeg (cC (.int 1))) cNil)))))) cNext) (cSeq (cIfS (cTest (cOp cEq (cVar 1) (cC (.str "D")))) (cAppN 4 (cLstN (cCons (cOp cSub (cVar 2) (cC (.int 3))) (cCons (cOp cSub (cVar 2) (cC (.int 1))) (cCons (cNeg (cC (.int 1))) (cCons (cNeg (cC (.int 1))) cNil)))))) cNext) (cSeq (cIfS (cTest (cOp cEq (cVar 1) (cC (.str "B")))) (cSet2 4 (cNeg (cC (.int 2))) (cNeg (cC (.int 1))) (cC (.int 3))) cNext) (cSeq (cIfS (cTest (cOp cEq (cVar 1) (cC (.str "C")))) (cSet2 4 (cNeg (cC (.int 2))) (cNeg (cC (.int 1))) (cC (.int 2))) cNext) (cSeq (cIfS (cTest (cOp cEq (cVar 1) (cC (.str "F")))) (cSet2 4 (cNeg (cC (.int 2))) (cC (.int 1)) (cC (.int 3))) cNext) (cSeq (cIfS (cTest (cOp cEq (cVar 1) (cC (.str "G")))) (cSet2 4 (cNeg (cC (.int 3))) (cC (.int 0)) (cC (.int 2))) cNext) (cRet (cVar 4)))))))))))))
instance ev_joints_of : EvS ds_joints_of cs_joints_of := by
  unfold ds_joints_of cs_joints_of
  infer_instance
def c_joints_of : CF := cRof N_joints_of 1 cs_joints_of
instance evf_joints_of : EvF R_joints_of c_joints_of := by
  unfold R_joints_of c_joints_of
  infer_instance
/-! ### matrix_by -/
def N_matrix_by : List Str := ["value", "names", "many", "start", "rows", "name", "node", "one", "two", "here", "there", "_", "row"]
theorem sc_matrix_by : FnScope N_matrix_by ["value"] (defScope s_matrix_by) := ⟨rfl, rfl, rfl, by decide +kernel, rfl, by decide +kernel, by decide +kernel⟩
def ds_matrix_by : DS := (dSeq (dSet 1 (dM1 dSplitR (dVar 0) (dC (.str " ")))) (dSeq (dAsgG (dTup (dCons (dCB dSum (dCons (dNE (dLc (diList (dVar 1)) (dgName 5) dYes (dCB dInt (dCons (dOp dIx (dVar 5) (dC (.int 1))) dNil)) [5])) dNil)) (dCons (dC (.int 0)) dNil))) (dgTup (dgCons (dgName 2) (dgCons (dgName 3) dgNil)))) (dSeq (dSetN 4 (dLcN (diRng1 (dCons (dVar 2) dNil)) (dgName 11) dYes (dRepN (dLst (dCons (dC (.int 0)) dNil)) (dVar 2)) [11])) (dSeq (dFor (diList (dVar 1)) (dgName 5) (dSeq (dFor (diRng2 (dCons (dVar 3) (dCons (dOp dAdd (dVar 3) (dCB dInt (dCons (dOp dIx (dVar 5) (dC (.int 1))) dNil))) dNil))) (dgName 6) (dSet2 4 (dC (.int 2)) (dVar 6) (dVar 6))) (dSeq (dFor (diList (dCall R_joints_of (dCons (dVar 5) dNil))) (dgUnl (dgCons (dgName 7) (dgCons (dgName 8) (dgCons (dgName 9) (dgCons (dgName 10) dgNil))))) (dSeq (dSet2 4 (dVar 9) (dOp dAdd (dVar 3) (dVar 7)) (dOp dAdd (dVar 3) (dVar 8))) (dSet2 4 (dVar 10) (dOp dAdd (dVar 3) (dVar 8)) (dOp dAdd (dVar 3) (dVar 7))))) (dSet 3 (dOp dAdd (dVar 3) (dCB dInt (dCons (dOp dIx (dVar 5) (dC (.int 1))) dNil))))))) (dFrz 4 (dRet (dCB dTupC (dCons (dNE (dLc (diList (dVar 4)) (dgName 12) dYes (dCB dTupC (dCons (dVar 12) dNil)) [12])) dNil))))))))
def R_matrix_by : DF := Rof N_matrix_by 1 ds_matrix_by
def cs_matrix_by : CS := (cSeq (cSet 1 (cM1 cSplitR (cVar 0) (cC (.str " ")))) (cSeq (cAsgG (cTup (cCons (cCB cSum (cCons (cNE (cLc (ciList (cVar 1)) (cgName 5) cYes (cCB cInt (cCons (cOp cIx (cVar 5) (cC (.int 1))) cNil)) [5])) cNil)) (cCons (cC (.int 0)) cNil))) (cgTup (cgCons (cgName 2) (cgCons (cgName 3) cgNil)))) (cSeq (cSetN 4 (cLcN (ciRng1 (cCons (cVar 2) cNil)) (cgName 11) cYes (cRepN (cLst (cCons (cC (.int 0)) cNil)) (cVar 2)) [11])) (cSeq (cFor (ciList (cVar 1)) (cgName 5) (cSeq (cFor (ciRng2 (cCons (cVar 3) (cCons (cOp cAdd (cVar 3) (cCB cInt (cCons (cOp cIx (cVar 5) (cC (.int 1))) cNil))) cNil))) (cgName 6) (cSet2 4 (cC (.int 2)) (cVar 6) (cVar 6))) (cSeq (cFor (ciList (cCall c_joints_of (cCons (cVar 5) cNil))) (cgUnl (cgCons (cgName 7) (cgCons (cgName 8) (cgCons (cgName 9) (cgCons (cgName 10) cgNil))))) (cSeq (cSet2 4 (cVar 9) (cOp cAdd (cVar 3) (cVar 7)) (cOp cAdd (cVar 3) (cVar 8))) (cSet2 4 (cVar 10) (cOp cAdd (cVar 3) (cVar 8)) (cOp cAdd (cVar 3) (cVar 7))))) (cSet 3 (cOp cAdd (cVar 3) (cCB cInt (cCons (cOp cIx (cVar 5) (cC (.int 1))) cNil))))))) (cFrz 4 (cRet (cCB cTupC (cCons (cNE (cLc (ciList (cVar 4)) (cgName 12) cYes (cCB cTupC (cCons (cVar 12) cNil)) [12])) cNil))))))))
instance ev_matrix_by : EvS ds_matrix_by cs_matrix_by := by
  unfold ds_matrix_by cs_matrix_by
  infer_instance
def c_matrix_by : CF := cRof N_matrix_by 1 cs_matrix_by
instance evf_matrix_by : EvF R_matrix_by c_matrix_by := by
  unfold R_matrix_by c_matrix_by
  infer_instance
/-! ### check_type -/
def N_check_type : List Str := ["value"]
theorem sc_check_type : FnScope N_check_type ["value"] (defScope s_check_type) := ⟨rfl, rfl, rfl, by decide +kernel, rfl, by decide +kernel, by decide +kernel⟩
def ds_check_type : DS := (dIfS (dNotT (dTest (dCall R_is_typed (dCons (dVar 0) dNil)))) dNever dNext)
def R_check_type : DF := Rof N_check_type 1 ds_check_type
def cs_check_type : CS := (cIfS (cNotT (cTest (cCall c_is_typed (cCons (cVar 0) cNil)))) cNever cNext)
instance ev_check_type : EvS ds_check_type cs_check_type := by
  unfold ds_check_type cs_check_type
  infer_instance
def c_check_type : CF := cRof N_check_type 1 cs_check_type
instance evf_check_type : EvF R_check_type c_check_type := by
  unfold R_check_type c_check_type
  infer_instance
/-! ### is_type -/
def N_is_type : List Str := ["value"]
theorem sc_is_type : FnScope N_is_type ["value"] (defScope s_is_type) := ⟨rfl, rfl, rfl, by decide +kernel, rfl, by decide +kernel, by decide +kernel⟩
def ds_is_type : DS := (dRet (dCall R_is_typed (dCons (dVar 0) dNil)))
def R_is_type : DF := Rof N_is_type 1 ds_is_type
def cs_is_type : CS := (cRet (cCall c_is_typed (cCons (cVar 0) cNil)))
instance ev_is_type : EvS ds_is_type cs_is_type := by
  unfold ds_is_type cs_is_type
  infer_instance
def c_is_type : CF := cRof N_is_type 1 cs_is_type
instance evf_is_type : EvF R_is_type c_is_type := by
  unfold R_is_type c_is_type
  infer_instance
/-! ### matrix_of -/
def N_matrix_of : List Str := ["name"]
theorem sc_matrix_of : FnScope N_matrix_of ["name"] (defScope s_matrix_of) := ⟨rfl, rfl, rfl, by decide +kernel, rfl, by decide +kernel, by decide +kernel⟩
def ds_matrix_of : DS := (dSeq (dDrop (dCall R_check_type (dCons (dVar 0) dNil))) (dRet (dCall R_matrix_by (dCons (dVar 0) dNil))))
def R_matrix_of : DF := Rof N_matrix_of 1 ds_matrix_of
def cs_matrix_of : CS := (cSeq (cDrop (cCall c_check_type (cCons (cVar 0) cNil))) (cRet (cCall c_matrix_by (cCons (cVar 0) cNil))))
instance ev_matrix_of : EvS ds_matrix_of cs_matrix_of := by
  unfold ds_matrix_of cs_matrix_of
  infer_instance
def c_matrix_of : CF := cRof N_matrix_of 1 cs_matrix_of
instance evf_matrix_of : EvF R_matrix_of c_matrix_of := by
  unfold R_matrix_of c_matrix_of
  infer_instance
/-! ### rank_of -/
def N_rank_of : List Str := ["name"]
theorem sc_rank_of : FnScope N_rank_of ["name"] (defScope s_rank_of) := ⟨rfl, rfl, rfl, by decide +kernel, rfl, by decide +kernel, by decide +kernel⟩
def ds_rank_of : DS := (dSeq (dDrop (dCall R_check_type (dCons (dVar 0) dNil))) (dRet (dCB dLen (dCons (dCall R_matrix_by (dCons (dVar 0) dNil)) dNil))))
def R_rank_of : DF := Rof N_rank_of 1 ds_rank_of
def cs_rank_of : CS := (cSeq (cDrop (cCall c_check_type (cCons (cVar 0) cNil))) (cRet (cCB cLen (cCons (cCall c_matrix_by (cCons (cVar 0) cNil)) cNil))))
instance ev_rank_of : EvS ds_rank_of cs_rank_of := by
  unfold ds_rank_of cs_rank_of
  infer_instance
def c_rank_of : CF := cRof N_rank_of 1 cs_rank_of
instance evf_rank_of : EvF R_rank_of c_rank_of := by
  unfold R_rank_of c_rank_of
  infer_instance
/-! ### _law_pick -/
def N__law_pick : List Str := ["_law_pot_here", "_law_some"]
theorem sc__law_pick : FnScope N__law_pick ["_law_pot_here", "_law_some"] (defScope s__law_pick) := ⟨rfl, rfl, rfl, by decide +kernel, rfl, by decide +kernel, by decide +kernel⟩
def ds__law_pick : DS := (dRet (dOp dIx (dVar 1) (dCall Rdraw (dCons (dVar 0) (dCons (dCB dLen (dCons (dVar 1) dNil)) dNil)))))
def R__law_pick : DF := Rof N__law_pick 2 ds__law_pick
/-! ### _law_odd -/
def N__law_odd : List Str := ["_law_pot_here", "_law_some", "_law_more"]
theorem sc__law_odd : FnScope N__law_odd ["_law_pot_here"] (defScope s__law_odd) := ⟨rfl, rfl, rfl, by decide +kernel, rfl, by decide +kernel, by decide +kernel⟩
def ds__law_odd : DS := (dSeq (dSet 1 (dLst (dCons (dC .none) (dCons (dC (.bool true)) (dCons (dC (.bool false)) (dCons (dC (.int 0)) (dCons (dC (.int 1)) (dCons (dNeg (dC (.int 1))) (dCons (dC (.int 2)) (dCons (dOp dPwr (dC (.int 10)) (dC (.int 30))) (dCons (dC (.str "")) (dCons (dC (.str "A2")) (dCons (dC (.str "x")) (dCons (dTup dNil) (dCons (dTup (dCons (dC (.int 2)) dNil)) (dCons (dTup (dCons (dTup (dCons (dC (.int 2)) dNil)) dNil)) (dCons (dTup (dCons (dTup (dCons (dC (.int 2)) (dCons (dC (.int 0)) dNil))) (dCons (dTup (dCons (dC (.int 0)) (dCons (dC (.int 2)) dNil))) dNil))) (dCons (dTup (dCons (dC (.int 0)) (dCons (dC (.int 1)) dNil))) (dCons (dTup (dCons (dC (.int 1)) (dCons (dC (.int 0)) dNil))) dNil))))))))))))))))))) (dSeq (dSet 2 (dLst (dCons (dLst dNil) (dCons (dLst (dCons (dLst (dCons (dC (.int 2)) dNil)) dNil)) (dCons (dC (.dict [])) (dCons (dTup (dCons (dTup (dCons (dC (.int 2)) (dCons (dNeg (dC (.int 1))) dNil))) (dCons (dTup (dCons (dNeg (dC (.int 1))) dNil)) dNil))) (dCons (dTup (dCons (dTup (dCons (dC (.bool true)) dNil)) dNil)) (dCons (dTup (dCons (dC .none) dNil)) (dCons (dTup (dCons (dC (.str "0")) dNil)) (dCons (dTup (dCons (dTup (dCons (dC (.int 1)) (dCons (dC (.int 2)) dNil))) (dCons (dC (.int 3)) dNil))) (dCons (dTup (dCons (dC (.int 0)) (dCons (dC (.int 0)) dNil))) (dCons (dTup (dCons (dNeg (dC (.int 1))) (dCons (dC (.int 0)) dNil))) (dCons (dTup (dCons (dC (.int 1)) (dCons (dC (.int 1)) (dCons (dC (.int 1)) dNil)))) (dCons (dTup (dCons (dC (.bool true)) (dCons (dC (.int 0)) dNil))) dNil)))))))))))))) (dRet (dCall R__law_pick (dCons (dVar 0) (dCons (dOp dAdd (dVar 1) (dVar 2)) dNil))))))
def R__law_odd : DF := Rof N__law_odd 1 ds__law_odd
/-! ### _law_names -/
def N__law_names : List Str := ["_law_many", "_law_found", "_law_letter"]
theorem sc__law_names : FnScope N__law_names ["_law_many"] (defScope s__law_names) := ⟨rfl, rfl, rfl, by decide +kernel, rfl, by decide +kernel, by decide +kernel⟩
def ds__law_names : DS := (dSeq (dSet 1 (dOp dAdd (dOp dAdd (dOp dAdd (dLst (dCons (dC (.str "A")) dNil)) (dIf (dTest (dOp dGt (dVar 0) (dC (.int 1)))) (dLst (dCons (dC (.str "B")) dNil)) (dLst dNil))) (dIf (dTest (dOp dGt (dVar 0) (dC (.int 2)))) (dLst (dCons (dC (.str "C")) dNil)) (dLst dNil))) (dIf (dTest (dOp dGt (dVar 0) (dC (.int 3)))) (dLst (dCons (dC (.str "D")) dNil)) (dLst dNil)))) (dSeq (dSet 1 (dOp dAdd (dOp dAdd (dOp dAdd (dVar 1) (dIf (dTest (dOp dIn (dVar 0) (dTup (dCons (dC (.int 6)) (dCons (dC (.int 7)) (dCons (dC (.int 8)) dNil)))))) (dLst (dCons (dC (.str "E")) dNil)) (dLst dNil))) (dIf (dTest (dOp dEq (dVar 0) (dC (.int 4)))) (dLst (dCons (dC (.str "F")) dNil)) (dLst dNil))) (dIf (dTest (dOp dEq (dVar 0) (dC (.int 2)))) (dLst (dCons (dC (.str "G")) dNil)) (dLst dNil)))) (dRet (dNE (dLc (diList (dVar 1)) (dgName 2) dYes (dOp dAdd (dVar 2) (dCB dStrI (dCons (dVar 0) dNil))) [2])))))
def R__law_names : DF := Rof N__law_names 1 ds__law_names
def cs__law_names : CS := (cSeq (cSet 1 (cOp cAdd (cOp cAdd (cOp cAdd (cLst (cCons (cC (.str "A")) cNil)) (cIf (cTest (cOp cGt (cVar 0) (cC (.int 1)))) (cLst (cCons (cC (.str "B")) cNil)) (cLst cNil))) (cIf (cTest (cOp cGt (cVar 0) (cC (.int 2)))) (cLst (cCons (cC (.str "C")) cNil)) (cLst cNil))) (cIf (cTest (cOp cGt (cVar 0) (cC (.int 3)))) (cLst (cCons (cC (.str "D")) cNil)) (cLst cNil)))) (cSeq (cSet 1 (cOp cAdd (cOp cAdd (cOp cAdd (cVar 1) (cIf (cTest (cOp cIn (cVar 0) (cTup (cCons (cC (.int 6)) (cCons (cC (.int 7)) (cCons (cC (.int 8)) cNil)))))) (cLst (cCons (cC (.str "E")) cNil)) (cLst cNil))) (cIf (cTest (cOp cEq (cVar 0) (cC (.int 4)))) (cLst (cCons (cC (.str "F")) cNil)) (cLst cNil))) (cIf (cTest (cOp cEq (cVar 0) (cC (.int 2)))) (cLst (cCons (cC (.str "G")) cNil)) (cLst cNil)))) (cRet (cNE (cLc (ciList (cVar 1)) (cgName 2) cYes (cOp cAdd (cVar 2) (cCB cStrI (cCons (cVar 0) cNil))) [2])))))
instance ev__law_names : EvS ds__law_names cs__law_names := by
  unfold ds__law_names cs__law_names
  infer_instance
def c__law_names : CF := cRof N__law_names 1 cs__law_names
instance evf__law_names : EvF R__law_names c__law_names := by
  unfold R__law_names c__law_names
  infer_instance
/-! ### _law_single -/
def N__law_single : List Str := ["_law_name", "_law_letter", "_law_many", "_law_bonds", "_law_rows", "_law_i", "_law_j", "_law_here", "_law_there", "_law_row"]
theorem sc__law_single : FnScope N__law_single ["_law_name"] (defScope s__law_single) := ⟨rfl, rfl, rfl, by decide +kernel, rfl, by decide +kernel, by decide +kernel⟩
def ds__law_single : DS := (dSeq (dAsgG (dTup (dCons (dOp dIx (dVar 0) (dC (.int 0))) (dCons (dCB dInt (dCons (dSl (dVar 0) (dPart (dC (.int 1))) dNoPart) dNil)) dNil))) (dgTup (dgCons (dgName 1) (dgCons (dgName 2) dgNil)))) (dSeq (dSet 3 (dNE (dLc (diRng1 (dCons (dOp dSub (dVar 2) (dC (.int 1))) dNil)) (dgName 5) dYes (dTup (dCons (dVar 5) (dCons (dOp dAdd (dVar 5) (dC (.int 1))) (dCons (dNeg (dC (.int 1))) (dCons (dNeg (dC (.int 1))) dNil))))) [5]))) (dSeq (dIfS (dTest (dOp dEq (dVar 1) (dC (.str "B")))) (dSet 3 (dOp dAdd (dSl (dVar 3) dNoPart (dPart (dNeg (dC (.int 1))))) (dLst (dCons (dTup (dCons (dOp dSub (dVar 2) (dC (.int 2))) (dCons (dOp dSub (dVar 2) (dC (.int 1))) (dCons (dNeg (dC (.int 1))) (dCons (dNeg (dC (.int 2))) dNil))))) dNil)))) dNext) (dSeq (dIfS (dTest (dOp dEq (dVar 1) (dC (.str "C")))) (dSet 3 (dOp dAdd (dSl (dVar 3) dNoPart (dPart (dNeg (dC (.int 1))))) (dLst (dCons (dTup (dCons (dOp dSub (dVar 2) (dC (.int 2))) (dCons (dOp dSub (dVar 2) (dC (.int 1))) (dCons (dNeg (dC (.int 2))) (dCons (dNeg (dC (.int 1))) dNil))))) dNil)))) dNext) (dSeq (dIfS (dTest (dOp dEq (dVar 1) (dC (.str "D")))) (dSet 3 (dOp dAdd (dSl (dVar 3) dNoPart (dPart (dNeg (dC (.int 1))))) (dLst (dCons (dTup (dCons (dOp dSub (dVar 2) (dC (.int 3))) (dCons (dOp dSub (dVar 2) (dC (.int 1))) (dCons (dNeg (dC (.int 1))) (dCons (dNeg (dC (.int 1))) dNil))))) dNil)))) dNext) (dSeq (dIfS (dTest (dOp dEq (dVar 1) (dC (.str "E")))) (dSet 3 (dOp dAdd (dLst (dCons (dTup (dCons (dC (.int 0)) (dCons (dC (.int 2)) (dCons (dNeg (dC (.int 1))) (dCons (dNeg (dC (.int 1))) dNil))))) (dCons (dTup (dCons (dC (.int 1)) (dCons (dC (.int 3)) (dCons (dNeg (dC (.int 1))) (dCons (dNeg (dC (.int 1))) dNil))))) dNil))) (dSl (dVar 3) (dPart (dC (.int 2))) dNoPart))) dNext) (dSeq (dIfS (dTest (dOp dEq (dVar 1) (dC (.str "F")))) (dSet 3 (dLst (dCons (dTup (dCons (dC (.int 0)) (dCons (dC (.int 1)) (dCons (dNeg (dC (.int 1))) (dCons (dNeg (dC (.int 1))) dNil))))) (dCons (dTup (dCons (dC (.int 1)) (dCons (dC (.int 2)) (dCons (dNeg (dC (.int 1))) (dCons (dNeg (dC (.int 2))) dNil))))) (dCons (dTup (dCons (dC (.int 2)) (dCons (dC (.int 3)) (dCons (dNeg (dC (.int 1))) (dCons (dNeg (dC (.int 1))) dNil))))) dNil))))) dNext) (dSeq (dIfS (dTest (dOp dEq (dVar 1) (dC (.str "G")))) (dSet 3 (dLst (dCons (dTup (dCons (dC (.int 0)) (dCons (dC (.int 1)) (dCons (dNeg (dC (.int 3))) (dCons (dNeg (dC (.int 1))) dNil))))) dNil))) dNext) (dSeq (dSetN 4 (dLcN (diRng1 (dCons (dVar 2) dNil)) (dgName 5) dYes (dLc (diRng1 (dCons (dVar 2) dNil)) (dgName 6) dYes (dIf (dTest (dOp dEq (dVar 5) (dVar 6))) (dC (.int 2)) (dC (.int 0))) [6]) [5])) (dSeq (dFor (diList (dVar 3)) (dgTup (dgCons (dgName 5) (dgCons (dgName 6) (dgCons (dgName 7) (dgCons (dgName 8) dgNil))))) (dSeq (dSet2 4 (dVar 7) (dVar 5) (dVar 6)) (dSet2 4 (dVar 8) (dVar 6) (dVar 5)))) (dFrz 4 (dRet (dCB dTupC (dCons (dNE (dLc (diList (dVar 4)) (dgName 9) dYes (dCB dTupC (dCons (dVar 9) dNil)) [9])) dNil))))))))))))))
def R__law_single : DF := Rof N__law_single 1 ds__law_single
def cs__law_single : CS := (cSeq (cAsgG (cTup (cCons (cOp cIx (cVar 0) (cC (.int 0))) (cCons (cCB cInt (cCons (cSl (cVar 0) (cPart (cC (.int 1))) cNoPart) cNil)) cNil))) (cgTup (cgCons (cgName 1) (cgCons (cgName 2) cgNil)))) (cSeq (cSet 3 (cNE (cLc (ciRng1 (cCons (cOp cSub (cVar 2) (cC (.int 1))) cNil)) (cgName 5) cYes (cTup (cCons (cVar 5) (cCons (cOp cAdd (cVar 5) (cC (.int 1))) (cCons (cNeg (cC (.int 1))) (cCons (cNeg (cC (.int 1))) cNil))))) [5]))) (cSeq (cIfS (cTest (cOp cEq (cVar 1) (cC (.str "B")))) (cSet 3 (cOp cAdd (cSl (cVar 3) cNoPart (cPart (cNeg (cC (.int 1))))) (cLst (cCons (cTup (cCons (cOp cSub (cVar 2) (cC (.int 2))) (cCons (cOp cSub (cVar 2) (cC (.int 1))) (cCons (cNeg (cC (.int 1))) (cCons (cNeg (cC (.int 2))) cNil))))) cNil)))) cNext) (cSeq (cIfS (cTest (cOp cEq (cVar 1) (cC (.str "C")))) (cSet 3 (cOp cAdd (cSl (cVar 3) cNoPart (cPart (cNeg (cC (.int 1))))) (cLst (cCons (cTup (cCons (cOp cSub (cVar 2) (cC (.int 2))) (cCons (cOp cSub (cVar 2) (cC (.int 1))) (cCons (cNeg (cC (.int 2))) (cCons (cNeg (cC (.int 1))) cNil))))) cNil)))) cNext) (cSeq (cIfS (cTest (cOp cEq (cVar 1) (cC (.str "D")))) (cSet 3 (cOp cAdd (cSl (cVar 3) cNoPart (cPart (cNeg (cC (.int 1))))) (cLst (cCons (cTup (cCons (cOp cSub (cVar 2) (cC (.int 3))) (cCons (cOp cSub (cVar 2) (cC (.int 1))) (cCons (cNeg (cC (.int 1))) (cCons (cNeg (cC (.int 1))) cNil))))) cNil)))) cNext) (cSeq (cIfS (cTest (cOp cEq (cVar 1) (cC (.str "E")))) (cSet 3 (cOp cAdd (cLst (cCons (cTup (cCons (cC (.int 0)) (cCons (cC (.int 2)) (cCons (cNeg (cC (.int 1))) (cCons (cNeg (cC (.int 1))) cNil))))) (cCons (cTup (cCons (cC (.int 1)) (cCons (cC (.int 3)) (cCons (cNeg (cC (.int 1))) (cCons (cNeg (cC (.int 1))) cNil))))) cNil))) (cSl (cVar 3) (cPart (cC (.int 2))) cNoPart))) cNext) (cSeq (cIfS (cTest (cOp cEq (cVar 1) (cC (.str "F")))) (cSet 3 (cLst (cCons (cTup (cCons (cC (.int 0)) (cCons (cC (.int 1)) (cCons (cNeg (cC (.int 1))) (cCons (cNeg (cC (.int 1))) cNil))))) (cCons (cTup (cCons (cC (.int 1)) (cCons (cC (.int 2)) (cCons (cNeg (cC (.int 1))) (cCons (cNeg (cC (.int 2))) cNil))))) (cCons (cTup (cCons (cC (.int 2)) (cCons (cC (.int 3)) (cCons (cNeg (cC (.int 1))) (cCons (cNeg (cC (.int 1))) cNil))))) cNil))))) cNext) (cSeq (cIfS (cTest (cOp cEq (cVar 1) (cC (.str "G")))) (cSet 3 (cLst (cCons (cTup (cCons (cC (.int 0)) (cCons (cC (.int 1)) (cCons (cNeg (cC (.int 3))) (cCons (cNeg (cC (.int 1))) cNil))))) cNil))) cNext) (cSeq (cSetN 4 (cLcN (ciRng1 (cCons (cVar 2) cNil)) (cgName 5) cYes (cLc (ciRng1 (cCons (cVar 2) cNil)) (cgName 6) cYes (cIf (cTest (cOp cEq (cVar 5) (cVar 6))) (cC (.int 2)) (cC (.int 0))) [6]) [5])) (cSeq (cFor (ciList (cVar 3)) (cgTup (cgCons (cgName 5) (cgCons (cgName 6) (cgCons (cgName 7) (cgCons (cgName 8) cgNil))))) (cSeq (cSet2 4 (cVar 7) (cVar 5) (cVar 6)) (cSet2 4 (cVar 8) (cVar 6) (cVar 5)))) (cFrz 4 (cRet (cCB cTupC (cCons (cNE (cLc (ciList (cVar 4)) (cgName 9) cYes (cCB cTupC (cCons (cVar 9) cNil)) [9])) cNil))))))))))))))
instance ev__law_single : EvS ds__law_single cs__law_single := by
  unfold ds__law_single cs__law_single
  infer_instance
def c__law_single : CF := cRof N__law_single 1 cs__law_single
instance evf__law_single : EvF R__law_single c__law_single := by
  unfold R__law_single c__law_single
  infer_instance
/-! ### _law_blocks -/
def N__law_blocks : List Str := ["_law_name", "_law_singles", "_law_found", "_law_ahead", "_law_many", "_law_single_here", "_law_row", "_law_word"]
theorem sc__law_blocks : FnScope N__law_blocks ["_law_name"] (defScope s__law_blocks) := ⟨rfl, rfl, rfl, by decide +kernel, rfl, by decide +kernel, by decide +kernel⟩
def ds__law_blocks : DS := (dSeq (dParO [1, 2, 3] (dConsO (dNE (dLc (diList (dM1 dSplitR (dVar 0) (dC (.str " ")))) (dgName 7) dYes (dCall R__law_single (dCons (dVar 7) dNil)) [7])) (dConsN (dLstN dNil) (dConsO (dC (.int 0)) dNil)))) (dSeq (dSet 4 (dCB dSum (dCons (dNE (dLc (diList (dVar 1)) (dgName 5) dYes (dCB dLen (dCons (dVar 5) dNil)) [5])) dNil))) (dSeq (dFor (diList (dVar 1)) (dgName 5) (dSeq (dFor (diTup (dVar 5)) (dgName 6) (dApp 2 (dOp dAdd (dOp dAdd (dOp dMul (dTup (dCons (dC (.int 0)) dNil)) (dVar 3)) (dVar 6)) (dOp dMul (dTup (dCons (dC (.int 0)) dNil)) (dOp dSub (dOp dSub (dVar 4) (dVar 3)) (dCB dLen (dCons (dVar 5) dNil))))))) (dSet 3 (dOp dAdd (dVar 3) (dCB dLen (dCons (dVar 5) dNil)))))) (dFrz 2 (dRet (dCB dTupC (dCons (dVar 2) dNil)))))))
def R__law_blocks : DF := Rof N__law_blocks 1 ds__law_blocks
def cs__law_blocks : CS := (cSeq (cParO [1, 2, 3] (cConsO (cNE (cLc (ciList (cM1 cSplitR (cVar 0) (cC (.str " ")))) (cgName 7) cYes (cCall c__law_single (cCons (cVar 7) cNil)) [7])) (cConsN (cLstN cNil) (cConsO (cC (.int 0)) cNil)))) (cSeq (cSet 4 (cCB cSum (cCons (cNE (cLc (ciList (cVar 1)) (cgName 5) cYes (cCB cLen (cCons (cVar 5) cNil)) [5])) cNil))) (cSeq (cFor (ciList (cVar 1)) (cgName 5) (cSeq (cFor (ciTup (cVar 5)) (cgName 6) (cApp 2 (cOp cAdd (cOp cAdd (cOp cMul (cTup (cCons (cC (.int 0)) cNil)) (cVar 3)) (cVar 6)) (cOp cMul (cTup (cCons (cC (.int 0)) cNil)) (cOp cSub (cOp cSub (cVar 4) (cVar 3)) (cCB cLen (cCons (cVar 5) cNil))))))) (cSet 3 (cOp cAdd (cVar 3) (cCB cLen (cCons (cVar 5) cNil)))))) (cFrz 2 (cRet (cCB cTupC (cCons (cVar 2) cNil)))))))
instance ev__law_blocks : EvS ds__law_blocks cs__law_blocks := by
  unfold ds__law_blocks cs__law_blocks
  infer_instance
def c__law_blocks : CF := cRof N__law_blocks 1 cs__law_blocks
instance evf__law_blocks : EvF R__law_blocks c__law_blocks := by
  unfold R__law_blocks c__law_blocks
  infer_instance
/-! ### _law_type -/
def N__law_type : List Str := ["_law_pot_here", "_law_most", "_law_left", "_law_words", "_law_turn", "_law_many"]
theorem sc__law_type : FnScope N__law_type ["_law_pot_here", "_law_most"] (defScope s__law_type) := ⟨rfl, rfl, rfl, by decide +kernel, rfl, by decide +kernel, by decide +kernel⟩
def ds__law_type : DS := (dSeq (dParO [2, 3] (dConsO (dOp dAdd (dC (.int 1)) (dCall Rdraw (dCons (dVar 0) (dCons (dVar 1) dNil)))) (dConsN (dLstN dNil) dNil))) (dSeq (dFor (diRng1 (dCons (dC (.int 8)) dNil)) (dgName 4) (dIfS (dTest (dOp dGt (dVar 2) (dC (.int 0)))) (dSeq (dSet 5 (dIf (dTest (dOp dGt (dCall Rdraw (dCons (dVar 0) (dCons (dC (.int 3)) dNil))) (dC (.int 0)))) (dVar 2) (dOp dAdd (dC (.int 1)) (dCall Rdraw (dCons (dVar 0) (dCons (dVar 2) dNil)))))) (dSeq (dApp 3 (dCall R__law_pick (dCons (dVar 0) (dCons (dCall R__law_names (dCons (dVar 5) dNil)) dNil)))) (dSet 2 (dOp dSub (dVar 2) (dVar 5))))) dNext)) (dFrz 3 (dRet (dM1 dJoinR (dC (.str " ")) (dVar 3))))))
def R__law_type : DF := Rof N__law_type 2 ds__law_type
/-! ### _law_is_type -/
def N__law_is_type : List Str := ["_law_value", "_law_known", "_law_many", "_law_size", "_law_word"]
theorem sc__law_is_type : FnScope N__law_is_type ["_law_value"] (defScope s__law_is_type) := ⟨rfl, rfl, rfl, by decide +kernel, rfl, by decide +kernel, by decide +kernel⟩
def ds__law_is_type : DS := (dSeq (dIfS (dNotT (dTest (dIsi "str" (dVar 0)))) (dRet (dC (.bool false))) dNext) (dSeq (dPar 1 2 (dCons (dLst dNil) (dCons (dC (.int 0)) dNil))) (dSeq (dFor (diRng2 (dCons (dC (.int 1)) (dCons (dC (.int 9)) dNil))) (dgName 3) (dSet 1 (dOp dAdd (dVar 1) (dCall R__law_names (dCons (dVar 3) dNil))))) (dSeq (dFor (diList (dM1 dSplitR (dVar 0) (dC (.str " ")))) (dgName 4) (dSeq (dIfS (dTest (dOp dNotIn (dVar 4) (dVar 1))) (dRet (dC (.bool false))) dNext) (dSet 2 (dOp dAdd (dVar 2) (dCB dInt (dCons (dSl (dVar 4) (dPart (dC (.int 1))) dNoPart) dNil)))))) (dRet (dOp dLe (dVar 2) (dC (.int 8))))))))
def R__law_is_type : DF := Rof N__law_is_type 1 ds__law_is_type
def cs__law_is_type : CS := (cSeq (cIfS (cNotT (cTest (cIsi "str" (cVar 0)))) (cRet (cC (.bool false))) cNext) (cSeq (cPar 1 2 (cCons (cLst cNil) (cCons (cC (.int 0)) cNil))) (cSeq (cFor (ciRng2 (cCons (cC (.int 1)) (cCons (cC (.int 9)) cNil))) (cgName 3) (cSet 1 (cOp cAdd (cVar 1) (cCall c__law_names (cCons (cVar 3) cNil))))) (cSeq (cFor (ciList (cM1 cSplitR (cVar 0) (cC (.str " ")))) (cgName 4) (cSeq (cIfS (cTest (cOp cNotIn (cVar 4) (cVar 1))) (cRet (cC (.bool false))) cNext) (cSet 2 (cOp cAdd (cVar 2) (cCB cInt (cCons (cSl (cVar 4) (cPart (cC (.int 1))) cNoPart) cNil)))))) (cRet (cOp cLe (cVar 2) (cC (.int 8))))))))
instance ev__law_is_type : EvS ds__law_is_type cs__law_is_type := by
  unfold ds__law_is_type cs__law_is_type
  infer_instance
def c__law_is_type : CF := cRof N__law_is_type 1 cs__law_is_type
instance evf__law_is_type : EvF R__law_is_type c__law_is_type := by
  unfold R__law_is_type c__law_is_type
  infer_instance
/-! ### _law_bent -/
def N__law_bent : List Str := ["_law_pot_here", "_law_text", "_law_way", "_law_at"]
theorem sc__law_bent : FnScope N__law_bent ["_law_pot_here", "_law_text"] (defScope s__law_bent) := ⟨rfl, rfl, rfl, by decide +kernel, rfl, by decide +kernel, by decide +kernel⟩
def ds__law_bent : DS := (dSeq (dPar 2 3 (dCons (dCall Rdraw (dCons (dVar 0) (dCons (dC (.int 10)) dNil))) (dCons (dCall Rdraw (dCons (dVar 0) (dCons (dCB dLen (dCons (dVar 1) dNil)) dNil))) dNil))) (dSeq (dIfS (dTest (dOp dEq (dVar 2) (dC (.int 0)))) (dRet (dOp dAdd (dOp dAdd (dSl (dVar 1) dNoPart (dPart (dVar 3))) (dCall R__law_pick (dCons (dVar 0) (dCons (dC (.str "ABCDEFG0123456789 aH-\n")) dNil)))) (dSl (dVar 1) (dPart (dOp dAdd (dVar 3) (dC (.int 1)))) dNoPart))) dNext) (dSeq (dIfS (dTest (dOp dEq (dVar 2) (dC (.int 1)))) (dRet (dOp dAdd (dOp dAdd (dSl (dVar 1) dNoPart (dPart (dVar 3))) (dCall R__law_pick (dCons (dVar 0) (dCons (dC (.str " 01A\t+")) dNil)))) (dSl (dVar 1) (dPart (dVar 3)) dNoPart))) dNext) (dSeq (dIfS (dTest (dOp dEq (dVar 2) (dC (.int 2)))) (dRet (dOp dAdd (dSl (dVar 1) dNoPart (dPart (dVar 3))) (dSl (dVar 1) (dPart (dOp dAdd (dVar 3) (dC (.int 1)))) dNoPart))) dNext) (dSeq (dIfS (dTest (dOp dEq (dVar 2) (dC (.int 3)))) (dRet (dOp dAdd (dOp dAdd (dVar 1) (dC (.str " "))) (dCall R__law_pick (dCons (dVar 0) (dCons (dLst (dCons (dC (.str "A1")) (dCons (dC (.str "A2")) (dCons (dVar 1) (dCons (dC (.str "G2")) (dCons (dC (.str "")) (dCons (dC (.str "F4")) (dCons (dC (.str "b2")) (dCons (dC (.str "E8")) dNil))))))))) dNil))))) dNext) (dSeq (dIfS (dAndT (dTest (dOp dGt (dVar 2) (dC (.int 3)))) (dAndT (dTest (dOp dNe (dVar 2) (dC (.int 5)))) (dTest (dOp dNe (dVar 2) (dC (.int 6)))))) (dRet (dCall R__law_pick (dCons (dVar 0) (dCons (dLst (dCons (dC (.str "B1")) (dCons (dC (.str "C2")) (dCons (dC (.str "D3")) (dCons (dC (.str "E5")) (dCons (dC (.str "F3")) (dCons (dC (.str "G3")) (dCons (dC (.str "A0")) (dCons (dC (.str "A9")) (dCons (dC (.str "E9")) (dCons (dC (.str "D2")) (dCons (dC (.str "C1")) (dCons (dC (.str "A01")) (dCons (dC (.str "A 1")) (dCons (dC (.str "A")) (dCons (dC (.str "2")) (dCons (dC (.str "C2")) (dCons (dC (.str "B1")) dNil)))))))))))))))))) dNil)))) dNext) (dRet (dIf (dTest (dOp dEq (dVar 2) (dC (.int 5)))) (dM0 dLowerR (dVar 1)) (dOp dAdd (dC (.str " ")) (dVar 1))))))))))
def R__law_bent : DF := Rof N__law_bent 2 ds__law_bent
/-! ### _law_right -/
def N__law_right : List Str := ["_law_pot_here", "_law_thing", "_law_way", "_law_due", "_law_matrix"]
theorem sc__law_right : FnScope N__law_right ["_law_pot_here"] (defScope s__law_right) := ⟨rfl, rfl, rfl, by decide +kernel, rfl, by decide +kernel, by decide +kernel⟩
def ds__law_right : DS := (dSeq (dPar 1 2 (dCons (dCall R__law_type (dCons (dVar 0) (dCons (dC (.int 8)) dNil))) (dCons (dCall Rdraw (dCons (dVar 0) (dCons (dC (.int 6)) dNil))) dNil))) (dSeq (dSet 1 (dIf (dTest (dOp dEq (dVar 2) (dC (.int 0)))) (dCall R__law_odd (dCons (dVar 0) dNil)) (dIf (dTest (dOp dLt (dVar 2) (dC (.int 4)))) (dCall R__law_bent (dCons (dVar 0) (dCons (dVar 1) dNil))) (dVar 1)))) (dSeq (dSet 3 (dCall R__law_is_type (dCons (dVar 1) dNil))) (dSeq (dIfS (dTest (dOp dNe (dCB dRepr (dCons (dLst (dCons (dCall R_is_type (dCons (dVar 1) dNil)) (dCons (dCallX R_is_type 0 1 [0] dNil (dCons (dVar 1) dNil)) dNil))) dNil)) (dCB dRepr (dCons (dLst (dCons (dVar 3) (dCons (dVar 3) dNil))) dNil)))) (dRet (dC (.bool false))) dNext) (dSeq (dIfS (dNotT (dTest (dVar 3))) (dRet (dC (.bool true))) dNext) (dSeq (dSet 4 (dCall R__law_blocks (dCons (dVar 1) dNil))) (dSeq (dIfS (dTest (dOp dNe (dCB dRepr (dCons (dLst (dCons (dCall R_matrix_of (dCons (dVar 1) dNil)) (dCons (dCallX R_matrix_of 0 1 [0] dNil (dCons (dVar 1) dNil)) dNil))) dNil)) (dCB dRepr (dCons (dLst (dCons (dVar 4) (dCons (dVar 4) dNil))) dNil)))) (dRet (dC (.bool false))) dNext) (dRet (dOp dEq (dCB dRepr (dCons (dLst (dCons (dCall R_rank_of (dCons (dVar 1) dNil)) (dCons (dCallX R_rank_of 0 1 [0] dNil (dCons (dVar 1) dNil)) dNil))) dNil)) (dCB dRepr (dCons (dLst (dCons (dCB dLen (dCons (dVar 4) dNil)) (dCons (dCB dLen (dCons (dVar 4) dNil)) dNil))) dNil)))))))))))
def R__law_right : DF := Rof N__law_right 1 ds__law_right
/-! ### facts -/
structure Fds where
  fd_is_name : FuncData
  fd_is_typed : FuncData
  fd_joints_of : FuncData
  fd_matrix_by : FuncData
  fd_check_type : FuncData
  fd_is_type : FuncData
  fd_matrix_of : FuncData
  fd_rank_of : FuncData
  fd__law_pot : FuncData
  fd__law_draw : FuncData
  fd__law_pick : FuncData
  fd__law_odd : FuncData
  fd__law_names : FuncData
  fd__law_single : FuncData
  fd__law_blocks : FuncData
  fd__law_type : FuncData
  fd__law_is_type : FuncData
  fd__law_bent : FuncData
  fd__law_right : FuncData
  fd_law : FuncData
  u_DIGITS : Value
  v_DIGITS : V
  u_MOST_NODES : Value
  v_MOST_NODES : V
structure T (D : Fds) (w : World) (K : PySem.W.Frag) (mg : Str → Option Value) : Prop where
  F_is_name : FunD K "is_name" "is_name" (defArgs s_is_name) (defBody s_is_name) (defScope s_is_name) [] [] (He.ga K "is_name") D.fd_is_name
  g_is_name : mg "is_name" = some (.ref (He.ga K "is_name"))
  F_is_typed : FunD K "is_typed" "is_typed" (defArgs s_is_typed) (defBody s_is_typed) (defScope s_is_typed) [] [] (He.ga K "is_typed") D.fd_is_typed
  g_is_typed : mg "is_typed" = some (.ref (He.ga K "is_typed"))
  F_joints_of : FunD K "joints_of" "joints_of" (defArgs s_joints_of) (defBody s_joints_of) (defScope s_joints_of) [] [] (He.ga K "joints_of") D.fd_joints_of
  g_joints_of : mg "joints_of" = some (.ref (He.ga K "joints_of"))
  F_matrix_by : FunD K "matrix_by" "matrix_by" (defArgs s_matrix_by) (defBody s_matrix_by) (defScope s_matrix_by) [] [] (He.ga K "matrix_by") D.fd_matrix_by
  g_matrix_by : mg "matrix_by" = some (.ref (He.ga K "matrix_by"))
  F_check_type : FunD K "check_type" "check_type" (defArgs s_check_type) (defBody s_check_type) (defScope s_check_type) [] [] (He.ga K "check_type") D.fd_check_type
  g_check_type : mg "check_type" = some (.ref (He.ga K "check_type"))
  F_is_type : FunD K "is_type" "is_type" (defArgs s_is_type) (defBody s_is_type) (defScope s_is_type) [] [] (He.ga K "is_type") D.fd_is_type
  g_is_type : mg "is_type" = some (.ref (He.ga K "is_type"))
  F_matrix_of : FunD K "matrix_of" "matrix_of" (defArgs s_matrix_of) (defBody s_matrix_of) (defScope s_matrix_of) [] [] (He.ga K "matrix_of") D.fd_matrix_of
  g_matrix_of : mg "matrix_of" = some (.ref (He.ga K "matrix_of"))
  F_rank_of : FunD K "rank_of" "rank_of" (defArgs s_rank_of) (defBody s_rank_of) (defScope s_rank_of) [] [] (He.ga K "rank_of") D.fd_rank_of
  g_rank_of : mg "rank_of" = some (.ref (He.ga K "rank_of"))
  F__law_pot : FunD K "_law_pot" "_law_pot" (defArgs s__law_pot) (defBody s__law_pot) (defScope s__law_pot) [] [] (He.ga K "_law_pot") D.fd__law_pot
  g__law_pot : mg "_law_pot" = some (.ref (He.ga K "_law_pot"))
  F__law_draw : FunD K "_law_draw" "_law_draw" (defArgs s__law_draw) (defBody s__law_draw) (defScope s__law_draw) [] [] (He.ga K "_law_draw") D.fd__law_draw
  g__law_draw : mg "_law_draw" = some (.ref (He.ga K "_law_draw"))
  F__law_pick : FunD K "_law_pick" "_law_pick" (defArgs s__law_pick) (defBody s__law_pick) (defScope s__law_pick) [] [] (He.ga K "_law_pick") D.fd__law_pick
  g__law_pick : mg "_law_pick" = some (.ref (He.ga K "_law_pick"))
  F__law_odd : FunD K "_law_odd" "_law_odd" (defArgs s__law_odd) (defBody s__law_odd) (defScope s__law_odd) [] [] (He.ga K "_law_odd") D.fd__law_odd
  g__law_odd : mg "_law_odd" = some (.ref (He.ga K "_law_odd"))
  F__law_names : FunD K "_law_names" "_law_names" (defArgs s__law_names) (defBody s__law_names) (defScope s__law_names) [] [] (He.ga K "_law_names") D.fd__law_names
  g__law_names : mg "_law_names" = some (.ref (He.ga K "_law_names"))
  F__law_single : FunD K "_law_single" "_law_single" (defArgs s__law_single) (defBody s__law_single) (defScope s__law_single) [] [] (He.ga K "_law_single") D.fd__law_single
  g__law_single : mg "_law_single" = some (.ref (He.ga K "_law_single"))
  F__law_blocks : FunD K "_law_blocks" "_law_blocks" (defArgs s__law_blocks) (defBody s__law_blocks) (defScope s__law_blocks) [] [] (He.ga K "_law_blocks") D.fd__law_blocks
  g__law_blocks : mg "_law_blocks" = some (.ref (He.ga K "_law_blocks"))
  F__law_type : FunD K "_law_type" "_law_type" (defArgs s__law_type) (defBody s__law_type) (defScope s__law_type) [] [] (He.ga K "_law_type") D.fd__law_type
  g__law_type : mg "_law_type" = some (.ref (He.ga K "_law_type"))
  F__law_is_type : FunD K "_law_is_type" "_law_is_type" (defArgs s__law_is_type) (defBody s__law_is_type) (defScope s__law_is_type) [] [] (He.ga K "_law_is_type") D.fd__law_is_type
  g__law_is_type : mg "_law_is_type" = some (.ref (He.ga K "_law_is_type"))
  F__law_bent : FunD K "_law_bent" "_law_bent" (defArgs s__law_bent) (defBody s__law_bent) (defScope s__law_bent) [] [] (He.ga K "_law_bent") D.fd__law_bent
  g__law_bent : mg "_law_bent" = some (.ref (He.ga K "_law_bent"))
  F__law_right : FunD K "_law_right" "_law_right" (defArgs s__law_right) (defBody s__law_right) (defScope s__law_right) [] [] (He.ga K "_law_right") D.fd__law_right
  g__law_right : mg "_law_right" = some (.ref (He.ga K "_law_right"))
  F_law : FunD K "law" "law" (defArgs s_law) (defBody s_law) (defScope s_law) [] [] (He.ga K "law") D.fd_law
  g_law : mg "law" = some (.ref (He.ga K "law"))
  free_abs : mg "abs" = none
  free_all : mg "all" = none
  free_divmod : mg "divmod" = none
  free_int : mg "int" = none
  free_isinstance : mg "isinstance" = none
  free_len : mg "len" = none
  free_list : mg "list" = none
  free_max : mg "max" = none
  free_min : mg "min" = none
  free_range : mg "range" = none
  free_repr : mg "repr" = none
  free_str : mg "str" = none
  free_sum : mg "sum" = none
  free_tuple : mg "tuple" = none
  free_zip : mg "zip" = none
  g_LEAST : mg "LEAST" = some (.ref (He.ga K "LEAST"))
  D_LEAST : GDic K w (He.ga K "LEAST") kvs_LEAST
  g_NAMES_OF_SOME : mg "NAMES_OF_SOME" = some (.ref (He.ga K "NAMES_OF_SOME"))
  D_NAMES_OF_SOME : GDic K w (He.ga K "NAMES_OF_SOME") kvs_NAMES_OF_SOME
  G_DIGITS : GV K mg "DIGITS" D.u_DIGITS D.v_DIGITS (.str "12345678")
  G_MOST_NODES : GV K mg "MOST_NODES" D.u_MOST_NODES D.v_MOST_NODES (.int 8)
section
variable {P : Program} {D : Fds} {w : World} {K : PySem.W.Frag} {mg : Str → Option Value} {base : Heap}
theorem b_is_name (t : T D w K mg) : Binds K D.fd_is_name ["value"] [] := t.F_is_name.bindsN fun _ _ _ _ _ _ us hl => match us, hl with | [_], _ => rfl
theorem b_is_typed (t : T D w K mg) : Binds K D.fd_is_typed ["value"] [] := t.F_is_typed.bindsN fun _ _ _ _ _ _ us hl => match us, hl with | [_], _ => rfl
theorem b_joints_of (t : T D w K mg) : Binds K D.fd_joints_of ["name"] [] := t.F_joints_of.bindsN fun _ _ _ _ _ _ us hl => match us, hl with | [_], _ => rfl
theorem b_matrix_by (t : T D w K mg) : Binds K D.fd_matrix_by ["value"] [] := t.F_matrix_by.bindsN fun _ _ _ _ _ _ us hl => match us, hl with | [_], _ => rfl
theorem b_check_type (t : T D w K mg) : Binds K D.fd_check_type ["value"] [] := t.F_check_type.bindsN fun _ _ _ _ _ _ us hl => match us, hl with | [_], _ => rfl
theorem b_is_type (t : T D w K mg) : Binds K D.fd_is_type ["value"] [] := t.F_is_type.bindsN fun _ _ _ _ _ _ us hl => match us, hl with | [_], _ => rfl
theorem b_matrix_of (t : T D w K mg) : Binds K D.fd_matrix_of ["name"] [] := t.F_matrix_of.bindsN fun _ _ _ _ _ _ us hl => match us, hl with | [_], _ => rfl
theorem b_rank_of (t : T D w K mg) : Binds K D.fd_rank_of ["name"] [] := t.F_rank_of.bindsN fun _ _ _ _ _ _ us hl => match us, hl with | [_], _ => rfl
theorem b__law_pot (t : T D w K mg) : Binds K D.fd__law_pot ["_law_script", "_law_turn"] [] := t.F__law_pot.bindsN fun _ _ _ _ _ _ us hl => match us, hl with | [_, _], _ => rfl
theorem b__law_draw (t : T D w K mg) : Binds K D.fd__law_draw ["_law_pot_here", "_law_few"] [] := t.F__law_draw.bindsN fun _ _ _ _ _ _ us hl => match us, hl with | [_, _], _ => rfl
theorem b__law_pick (t : T D w K mg) : Binds K D.fd__law_pick ["_law_pot_here", "_law_some"] [] := t.F__law_pick.bindsN fun _ _ _ _ _ _ us hl => match us, hl with | [_, _], _ => rfl
theorem b__law_odd (t : T D w K mg) : Binds K D.fd__law_odd ["_law_pot_here"] [] := t.F__law_odd.bindsN fun _ _ _ _ _ _ us hl => match us, hl with | [_], _ => rfl
theorem b__law_names (t : T D w K mg) : Binds K D.fd__law_names ["_law_many"] [] := t.F__law_names.bindsN fun _ _ _ _ _ _ us hl => match us, hl with | [_], _ => rfl
theorem b__law_single (t : T D w K mg) : Binds K D.fd__law_single ["_law_name"] [] := t.F__law_single.bindsN fun _ _ _ _ _ _ us hl => match us, hl with | [_], _ => rfl
theorem b__law_blocks (t : T D w K mg) : Binds K D.fd__law_blocks ["_law_name"] [] := t.F__law_blocks.bindsN fun _ _ _ _ _ _ us hl => match us, hl with | [_], _ => rfl
theorem b__law_type (t : T D w K mg) : Binds K D.fd__law_type ["_law_pot_here", "_law_most"] [] := t.F__law_type.bindsN fun _ _ _ _ _ _ us hl => match us, hl with | [_, _], _ => rfl
theorem b__law_is_type (t : T D w K mg) : Binds K D.fd__law_is_type ["_law_value"] [] := t.F__law_is_type.bindsN fun _ _ _ _ _ _ us hl => match us, hl with | [_], _ => rfl
theorem b__law_bent (t : T D w K mg) : Binds K D.fd__law_bent ["_law_pot_here", "_law_text"] [] := t.F__law_bent.bindsN fun _ _ _ _ _ _ us hl => match us, hl with | [_, _], _ => rfl
theorem b__law_right (t : T D w K mg) : Binds K D.fd__law_right ["_law_pot_here"] [] := t.F__law_right.bindsN fun _ _ _ _ _ _ us hl => match us, hl with | [_], _ => rfl
theorem kb_is_type_0_value (t : T D w K mg) : KB K D.fd_is_type ["value"] 0 ["value"] [0] := kb_of t.F_is_type fun _ _ _ _ _ _ us ws h1 h2 => match us, ws, h1, h2 with | [], [_], _, _ => rfl
theorem kb_matrix_of_0_name (t : T D w K mg) : KB K D.fd_matrix_of ["name"] 0 ["name"] [0] := kb_of t.F_matrix_of fun _ _ _ _ _ _ us ws h1 h2 => match us, ws, h1, h2 with | [], [_], _, _ => rfl
theorem kb_rank_of_0_name (t : T D w K mg) : KB K D.fd_rank_of ["name"] 0 ["name"] [0] := kb_of t.F_rank_of fun _ _ _ _ _ _ us ws h1 h2 => match us, ws, h1, h2 with | [], [_], _, _ => rfl
theorem ok__law_draw (t : T D w K mg) : FnG P w K mg base CX0 1 (He.ga K "_law_draw") D.fd__law_draw ["_law_pot_here", "_law_few"] (dsp K Rdraw) := by
  refine g_def (N := N__law_draw) (toFun t.F__law_draw) sc__law_draw (fun vs H Q E h => ?_) (fun cdv A outer s H vs Q E hr hgd h => ⟨t_draw K, PSs.nox ?_, pure_draw vs H Q E h⟩)
  · obtain ⟨m, xs, _, _, ha, Pq, ⟨n, e, _⟩, _⟩ := h
    rw [ha.length, e]
    rfl
  · exact pss_cons (ps_if (pt_cmpR op_gt (pe_ix ix_list (pe_var rfl (Or.inl rfl)) pe_int fun _ _ => rfl) pe_int rfl)
      (pss_cons (ps_asg (pe_callB call_divmod rfl t.free_divmod (by decide +kernel) (pa_cons (pe_ix ix_list (pe_var rfl (Or.inl rfl)) pe_int fun _ _ => rfl) (pa_cons (pe_var rfl (Or.inl rfl)) pa_nil)))
        (pg_tup rfl (pgs_cons (pg_sub (pe_var rfl (Or.inl rfl)) pe_int set_list) (pgs_cons (pg_name sc__law_draw.nd rfl (Or.inl rfl)) pgs_nil))))
        (pss_one (ps_ret (pe_var rfl (Or.inl rfl))))) pss_nil)
      (pss_cons (ps_asg (pe_op op_add (pe_ix ix_list (pe_var rfl (Or.inl rfl)) pe_int fun _ _ => rfl) pe_int) (pg_sub (pe_var rfl (Or.inl rfl)) pe_int set_list))
      (pss_cons (ps_asg (pe_op op_modN (pe_callTy call_int1 rfl t.free_int (by decide +kernel) (pa_cons (pe_op op_add (pe_op op_add (pe_op op_mul (pe_ix ix_list (pe_var rfl (Or.inl rfl)) pe_int fun _ _ => rfl) (pe_op op_add pe_int (pe_op op_mul pe_int (pe_ix ix_list (pe_var rfl (Or.inl rfl)) pe_int fun _ _ => rfl)))) pe_int) (pe_ix ix_list (pe_var rfl (Or.inl rfl)) pe_int fun _ _ => rfl)) pa_nil)) pe_int) (pg_sub (pe_var rfl (Or.inl rfl)) pe_int set_list))
      (pss_one (ps_ret (pe_op op_modN (pe_callTy call_int1 rfl t.free_int (by decide +kernel) (pa_cons (pe_op op_fdivN (pe_ix ix_list (pe_var rfl (Or.inl rfl)) pe_int fun _ _ => rfl) pe_int) pa_nil)) (pe_var rfl (Or.inl rfl)))))))

def N__law_pot : List Str := ["_law_script", "_law_turn", "_law_stirred", "_law_each", "_law_cell", "_law_digits"]
theorem sc__law_pot : FnScope N__law_pot ["_law_script", "_law_turn"] (defScope s__law_pot) := ⟨rfl, rfl, rfl, by decide +kernel, rfl, by decide +kernel, by decide +kernel⟩
theorem ok__law_pot (t : T D w K mg) : FnG P w K mg base CX0 1 (He.ga K "_law_pot") D.fd__law_pot ["_law_script", "_law_turn"] (spPot K) := by
  refine g_def (N := N__law_pot) (toFun t.F__law_pot) sc__law_pot (fun vs H Q E h => ?_) (fun cdv A outer s H vs Q E hr hgd h => ⟨t_pot K, PSs.nox ?_, pure_pot vs H Q E h⟩)
  · obtain ⟨_, _, _, rfl, _⟩ := h
    rfl
  · exact pss_cons (ps_set (i := 2) sc__law_pot.nd rfl (Or.inl rfl) (pe_op op_add pe_int (pe_op op_mul pe_int (pe_var rfl (Or.inl rfl)))))
      (pss_cons (ps_for PassesOwn.never rfl (pi_list (pe_slice sl_list (pe_var rfl (Or.inl rfl)) po_none (po_some pe_int))) (pg_name (i := 3) sc__law_pot.nd rfl (Or.inl rfl))
        (pss_one (ps_set (i := 2) sc__law_pot.nd rfl (Or.inl rfl) (pe_op op_modN (pe_callTy call_int1 rfl t.free_int (by decide +kernel) (pa_cons (pe_op op_add (pe_op op_add (pe_op op_mul (pe_var rfl (Or.inl rfl)) pe_int) (pe_op op_mul (pe_op op_modN (pe_callTy call_int1 rfl t.free_int (by decide +kernel) (pa_cons (pe_var rfl (Or.inl rfl)) pa_nil)) pe_int) pe_int)) pe_int) pa_nil)) pe_int))))
      (pss_cons (ps_set (i := 4) sc__law_pot.nd rfl (Or.inl rfl) (pe_ifExp (pt_cmpR op_lt (pe_var rfl (Or.inl rfl)) (pe_callB call_len rfl t.free_len (by decide +kernel) (pa_cons (pe_var rfl (Or.inl rfl)) pa_nil)) rfl) (pe_callTy call_int1 rfl t.free_int (by decide +kernel) (pa_cons (pe_ix ix_list (pe_var rfl (Or.inl rfl)) (pe_var rfl (Or.inl rfl)) fun _ _ => rfl) pa_nil)) pe_int))
      (pss_cons (ps_set (i := 5) sc__law_pot.nd rfl (Or.inl rfl) (pe_ifExp (pt_cmpR op_ge (pe_callB call_abs rfl t.free_abs (by decide +kernel) (pa_cons (pe_var rfl (Or.inl rfl)) pa_nil)) (pe_op op_pow pe_int pe_int) rfl) (pe_callB call_abs rfl t.free_abs (by decide +kernel) (pa_cons (pe_var rfl (Or.inl rfl)) pa_nil)) pe_int))
      (pss_one (ps_ret (pe_lst (pa_cons (pe_var rfl (Or.inl rfl)) (pa_cons (pe_op op_modN (pe_callTy call_int1 rfl t.free_int (by decide +kernel) (pa_cons (pe_op op_add (pe_op op_add (pe_op op_mul (pe_var rfl (Or.inl rfl)) pe_int) (pe_op op_modN (pe_callTy call_int1 rfl t.free_int (by decide +kernel) (pa_cons (pe_var rfl (Or.inl rfl)) pa_nil)) pe_int)) pe_int) pa_nil)) pe_int) (pa_cons pe_int pa_nil)))))))))

theorem ok_is_name (t : T D w K mg) : FnG P w K mg base CX0 1 (He.ga K "is_name") D.fd_is_name ["value"] (dsp K R_is_name) := Fun.dok (ds := ds_is_name) (toFun t.F_is_name) sc_is_name fun m cdv A outer s H E hr => ⟨_, (ss_cons (s_if (t_pw (w_or (t_ne' (K' := K) hr (d_len' (K' := K) rfl t.free_len (a_cons (dv 0) a_nil)) d_int) (w_or1 (t_ni' (K' := K) (d_at' (K' := K) (dv 0) d_int) (d_gl rfl t.G_DIGITS) rfl)))) (ss_one (s_ret d_bl)) ss_nil) (ss_cons (s_par (i := 1) (j := 2) rfl sc_is_name.nd (by decide) (a_cons (d_at' (K' := K) (dv 0) d_int) (a_cons (d_toint rfl t.free_int (a_cons (d_at' (K' := K) (dv 0) d_int) a_nil)) a_nil))) (ss_cons (s_if (t_gin' (K' := K) rfl t.g_LEAST t.D_LEAST (dv 1)) (ss_one (s_ret (d_ge (dv 2) (d_gget' (K' := K) rfl t.g_LEAST t.D_LEAST (dv 1) (fun _ _ => rfl))))) ss_nil) (ss_one (s_ret (d_and (d_gin' (K' := K) rfl t.g_NAMES_OF_SOME t.D_NAMES_OF_SOME (dv 1)) (d_one (d_in' (K' := K) (dv 2) (d_gget' (K' := K) rfl t.g_NAMES_OF_SOME t.D_NAMES_OF_SOME (dv 1) (fun _ _ => rfl)) rfl))))))))⟩
theorem ok_is_typed (t : T D w K mg) : FnG P w K mg base CX0 2 (He.ga K "is_typed") D.fd_is_typed ["value"] (dsp K R_is_typed) := Fun.dok (ds := ds_is_typed) (toFun t.F_is_typed) sc_is_typed fun m cdv A outer s H E hr => ⟨_, (ss_cons (s_if (t_pw (w_or (t_not (t_val (d_isi' (K' := K) (T := "str") (by decide) rfl t.free_isinstance rfl t.free_str (by decide +kernel) (dv 0)))) (w_or1 (t_gt (d_len' (K' := K) rfl t.free_len (a_cons (dv 0) a_nil)) (d_mul' (K' := K) d_int (d_gl rfl t.G_MOST_NODES)))))) (ss_one (s_ret d_bl)) ss_nil) (ss_cons (s_set (i := 1) sc_is_typed.nd (d_split (dv 0) d_str)) (ss_one (s_ret (d_and (d_all' (K' := K) rfl rfl t.free_all (a_cons (d_new (n_lc (own := [("name", 2)]) rfl sc_is_typed.nd (i_list' (K' := K) (dv 1)) (blkOk_by (N := N_is_typed) (sc := defScope s_is_typed) (by decide +kernel)) (fun _ _ _ _ _ => (g_name sc_is_typed.nd)) (fun _ _ _ _ _ => ts_nil) (fun _ _ _ _ _ => (d_call' (K' := K) (ok_is_name t) (hr.mono (by decide)) rfl t.g_is_name t.F_is_name.kp (b_is_name t) (a_cons (dv 2) a_nil))))) a_nil)) (d_one (d_le (d_sum' (K' := K) rfl rfl t.free_sum (a_cons (d_new (n_lc (own := [("name", 2)]) rfl sc_is_typed.nd (i_list' (K' := K) (dv 1)) (blkOk_by (N := N_is_typed) (sc := defScope s_is_typed) (by decide +kernel)) (fun _ _ _ _ _ => (g_name sc_is_typed.nd)) (fun _ _ _ _ _ => ts_nil) (fun _ _ _ _ _ => (d_toint rfl t.free_int (a_cons (d_at' (K' := K) (dv 2) d_int) a_nil))))) a_nil)) (d_gl rfl t.G_MOST_NODES))))))))⟩
theorem ok_joints_of (t : T D w K mg) : FnG P w K mg base CX0 1 (He.ga K "joints_of") D.fd_joints_of ["name"] (dsp K R_joints_of) := Fun.dok (ds := ds_joints_of) (toFun t.F_joints_of) sc_joints_of fun m cdv A outer s H E hr => ⟨_, (ss_cons (s_par (i := 1) (j := 2) rfl sc_joints_of.nd (by decide) (a_cons (d_at' (K' := K) (dv 0) d_int) (a_cons (d_toint rfl t.free_int (a_cons (d_at' (K' := K) (dv 0) d_int) a_nil)) a_nil))) (ss_cons (s_set (i := 3) sc_joints_of.nd (d_lstRg rfl rfl t.free_list (rg_1 rfl t.free_range (dv 2)))) (ss_cons (s_if (t_eq' (K' := K) hr (dv 1) d_str) (ss_one (s_set (i := 3) sc_joints_of.nd (d_lst (a_cons d_int (a_starRg rfl (rg_2 rfl t.free_range d_int (dv 2)) a_nil))))) ss_nil) (ss_cons (s_if (t_eq' (K' := K) hr (dv 1) d_str) (ss_one (s_set (i := 3) sc_joints_of.nd (d_lstRg rfl rfl t.free_list (rg_1 rfl t.free_range (d_sub (dv 2) d_int))))) ss_nil) (ss_cons (s_setLcNN (own := [("one", 5), ("two", 6)]) rfl sc_joints_of.nd (i_zip' (K' := K) rfl t.free_zip (a_cons (dv 3) (a_cons (d_sl' (K' := K) (dv 3) (o_some d_int) o_none) a_nil))) (blkOk_by (N := N_joints_of) (sc := defScope s_joints_of) (by decide +kernel)) (fun _ _ _ _ _ => (g_tup' (K' := K) rfl (gs_cons (g_name sc_joints_of.nd) (gs_cons (g_name sc_joints_of.nd) gs_nil)) (len_cons (len_cons len_nil)))) (fun _ _ _ _ _ => ts_nil) (fun _ _ _ _ _ => (n_lst (a_cons (dv 5) (a_cons (dv 6) (a_cons (d_neg d_int) (a_cons (d_neg d_int) a_nil)))))) (i := 4)) (ss_cons (s_if (t_eq' (K' := K) hr (dv 1) d_str) (ss_one (s_appN (i := 4) (n_lst (a_cons d_int (a_cons d_int (a_cons (d_neg d_int) (a_cons (d_neg d_int) a_nil))))))) ss_nil) (ss_cons (s_if (t_eq' (K' := K) hr (dv 1) d_str) (ss_one (s_appN (i := 4) (n_lst (a_cons (d_sub (dv 2) d_int) (a_cons (d_sub (dv 2) d_int) (a_cons (d_neg d_int) (a_cons (d_neg d_int) a_nil))))))) ss_nil) (ss_cons (s_if (t_eq' (K' := K) hr (dv 1) d_str) (ss_one (s_set2 (r := 4) (d_neg d_int) (d_neg d_int) d_int)) ss_nil) (ss_cons (s_if (t_eq' (K' := K) hr (dv 1) d_str) (ss_one (s_set2 (r := 4) (d_neg d_int) (d_neg d_int) d_int)) ss_nil) (ss_cons (s_if (t_eq' (K' := K) hr (dv 1) d_str) (ss_one (s_set2 (r := 4) (d_neg d_int) d_int d_int)) ss_nil) (ss_cons (s_if (t_eq' (K' := K) hr (dv 1) d_str) (ss_one (s_set2 (r := 4) (d_neg d_int) d_int d_int)) ss_nil) (ss_one (s_ret (dv 4))))))))))))))⟩
theorem ok_matrix_by (t : T D w K mg) : FnG P w K mg base CX0 2 (He.ga K "matrix_by") D.fd_matrix_by ["value"] (dsp K R_matrix_by) := Fun.dok (ds := ds_matrix_by) (toFun t.F_matrix_by) sc_matrix_by fun m cdv A outer s H E hr => ⟨_, (ss_cons (s_set (i := 1) sc_matrix_by.nd (d_split (dv 0) d_str)) (ss_cons (s_asgG (d_tup (a_cons (d_sum' (K' := K) rfl rfl t.free_sum (a_cons (d_new (n_lc (own := [("name", 5)]) rfl sc_matrix_by.nd (i_list' (K' := K) (dv 1)) (blkOk_by (N := N_matrix_by) (sc := defScope s_matrix_by) (by decide +kernel)) (fun _ _ _ _ _ => (g_name sc_matrix_by.nd)) (fun _ _ _ _ _ => ts_nil) (fun _ _ _ _ _ => (d_toint rfl t.free_int (a_cons (d_at' (K' := K) (dv 5) d_int) a_nil))))) a_nil)) (a_cons d_int a_nil))) (g_tup' (K' := K) rfl (gs_cons (g_name sc_matrix_by.nd) (gs_cons (g_name sc_matrix_by.nd) gs_nil)) (len_cons (len_cons len_nil)))) (ss_cons (s_setLcNN (own := [("_", 11)]) rfl sc_matrix_by.nd (i_rng1 rfl t.free_range (a_cons (dv 2) a_nil)) (blkOk_by (N := N_matrix_by) (sc := defScope s_matrix_by) (by decide +kernel)) (fun _ _ _ _ _ => (g_name sc_matrix_by.nd)) (fun _ _ _ _ _ => ts_nil) (fun _ _ _ _ _ => (n_rep (d_lst (a_cons d_int a_nil)) (dv 2))) (i := 4)) (ss_cons (s_for PassesOwn.never rfl (i_list' (K' := K) (dv 1)) (g_name sc_matrix_by.nd) (ss_cons (s_for PassesOwn.never rfl (i_rng2 rfl t.free_range (a_cons (dv 3) (a_cons (d_add' (K' := K) (dv 3) (d_toint rfl t.free_int (a_cons (d_at' (K' := K) (dv 5) d_int) a_nil))) a_nil))) (g_name sc_matrix_by.nd) (ss_one (s_set2 (r := 4) d_int (dv 6) (dv 6)))) (ss_cons (s_for PassesOwn.never rfl (i_list' (K' := K) (d_call' (K' := K) (ok_joints_of t) (hr.mono (by decide)) rfl t.g_joints_of t.F_joints_of.kp (b_joints_of t) (a_cons (dv 5) a_nil))) (g_unl' (K' := K) rfl (gs_cons (g_name sc_matrix_by.nd) (gs_cons (g_name sc_matrix_by.nd) (gs_cons (g_name sc_matrix_by.nd) (gs_cons (g_name sc_matrix_by.nd) gs_nil)))) (len_cons (len_cons (len_cons (len_cons len_nil))))) (ss_cons (s_set2 (r := 4) (dv 9) (d_add' (K' := K) (dv 3) (dv 7)) (d_add' (K' := K) (dv 3) (dv 8))) (ss_one (s_set2 (r := 4) (dv 10) (d_add' (K' := K) (dv 3) (dv 8)) (d_add' (K' := K) (dv 3) (dv 7)))))) (ss_one (s_set (i := 3) sc_matrix_by.nd (d_add' (K' := K) (dv 3) (d_toint rfl t.free_int (a_cons (d_at' (K' := K) (dv 5) d_int) a_nil)))))))) (ss_one (s_frz 4 (s_ret (d_tupC' (K' := K) rfl t.free_tuple (a_cons (d_new (n_lc (own := [("row", 12)]) rfl sc_matrix_by.nd (i_list' (K' := K) (dv 4)) (blkOk_by (N := N_matrix_by) (sc := defScope s_matrix_by) (by decide +kernel)) (fun _ _ _ _ _ => (g_name sc_matrix_by.nd)) (fun _ _ _ _ _ => ts_nil) (fun _ _ _ _ _ => (d_tupC' (K' := K) rfl t.free_tuple (a_cons (dv 12) a_nil))))) a_nil)))))))))⟩
theorem ok_check_type (t : T D w K mg) : FnG P w K mg base CX0 3 (He.ga K "check_type") D.fd_check_type ["value"] (dsp K R_check_type) := Fun.dok (ds := ds_check_type) (toFun t.F_check_type) sc_check_type fun m cdv A outer s H E hr => ⟨_, (ss_one (s_if (t_not (t_val (d_call' (K' := K) (ok_is_typed t) (hr.mono (by decide)) rfl t.g_is_typed t.F_is_typed.kp (b_is_typed t) (a_cons (dv 0) a_nil)))) (ss_one s_never) ss_nil))⟩
theorem ok_is_type (t : T D w K mg) : FnG P w K mg base CX0 3 (He.ga K "is_type") D.fd_is_type ["value"] (dsp K R_is_type) := Fun.dok (ds := ds_is_type) (toFun t.F_is_type) sc_is_type fun m cdv A outer s H E hr => ⟨_, (ss_one (s_ret (d_call' (K' := K) (ok_is_typed t) (hr.mono (by decide)) rfl t.g_is_typed t.F_is_typed.kp (b_is_typed t) (a_cons (dv 0) a_nil))))⟩
theorem ok_matrix_of (t : T D w K mg) : FnG P w K mg base CX0 4 (He.ga K "matrix_of") D.fd_matrix_of ["name"] (dsp K R_matrix_of) := Fun.dok (ds := ds_matrix_of) (toFun t.F_matrix_of) sc_matrix_of fun m cdv A outer s H E hr => ⟨_, (ss_cons (s_expr (d_call' (K' := K) (ok_check_type t) (hr.mono (by decide)) rfl t.g_check_type t.F_check_type.kp (b_check_type t) (a_cons (dv 0) a_nil))) (ss_one (s_ret (d_call' (K' := K) (ok_matrix_by t) (hr.mono (by decide)) rfl t.g_matrix_by t.F_matrix_by.kp (b_matrix_by t) (a_cons (dv 0) a_nil)))))⟩
theorem ok_rank_of (t : T D w K mg) : FnG P w K mg base CX0 4 (He.ga K "rank_of") D.fd_rank_of ["name"] (dsp K R_rank_of) := Fun.dok (ds := ds_rank_of) (toFun t.F_rank_of) sc_rank_of fun m cdv A outer s H E hr => ⟨_, (ss_cons (s_expr (d_call' (K' := K) (ok_check_type t) (hr.mono (by decide)) rfl t.g_check_type t.F_check_type.kp (b_check_type t) (a_cons (dv 0) a_nil))) (ss_one (s_ret (d_len' (K' := K) rfl t.free_len (a_cons (d_call' (K' := K) (ok_matrix_by t) (hr.mono (by decide)) rfl t.g_matrix_by t.F_matrix_by.kp (b_matrix_by t) (a_cons (dv 0) a_nil)) a_nil)))))⟩
theorem ok__law_pick (t : T D w K mg) : FnG P w K mg base CX0 2 (He.ga K "_law_pick") D.fd__law_pick ["_law_pot_here", "_law_some"] (dsp K R__law_pick) := Fun.dok (ds := ds__law_pick) (toFun t.F__law_pick) sc__law_pick fun m cdv A outer s H E hr => ⟨_, (ss_one (s_ret (d_at' (K' := K) (dv 1) (d_call' (K' := K) (ok__law_draw t) (hr.mono (by decide)) rfl t.g__law_draw t.F__law_draw.kp (b__law_draw t) (a_cons (dv 0) (a_cons (d_len' (K' := K) rfl t.free_len (a_cons (dv 1) a_nil)) a_nil))))))⟩
theorem ok__law_odd (t : T D w K mg) : FnG P w K mg base CX0 3 (He.ga K "_law_odd") D.fd__law_odd ["_law_pot_here"] (dsp K R__law_odd) := Fun.dok (ds := ds__law_odd) (toFun t.F__law_odd) sc__law_odd fun m cdv A outer s H E hr => ⟨_, (ss_cons (s_set (i := 1) sc__law_odd.nd (d_lst (a_cons d_non (a_cons d_bl (a_cons d_bl (a_cons d_int (a_cons d_int (a_cons (d_neg d_int) (a_cons d_int (a_cons (d_pow d_int d_int) (a_cons d_str (a_cons d_str (a_cons d_str (a_cons (d_tup a_nil) (a_cons (d_tup (a_cons d_int a_nil)) (a_cons (d_tup (a_cons (d_tup (a_cons d_int a_nil)) a_nil)) (a_cons (d_tup (a_cons (d_tup (a_cons d_int (a_cons d_int a_nil))) (a_cons (d_tup (a_cons d_int (a_cons d_int a_nil))) a_nil))) (a_cons (d_tup (a_cons d_int (a_cons d_int a_nil))) (a_cons (d_tup (a_cons d_int (a_cons d_int a_nil))) a_nil))))))))))))))))))) (ss_cons (s_set (i := 2) sc__law_odd.nd (d_lst (a_cons (d_lst a_nil) (a_cons (d_lst (a_cons (d_lst (a_cons d_int a_nil)) a_nil)) (a_cons d_dic0 (a_cons (d_tup (a_cons (d_tup (a_cons d_int (a_cons (d_neg d_int) a_nil))) (a_cons (d_tup (a_cons (d_neg d_int) a_nil)) a_nil))) (a_cons (d_tup (a_cons (d_tup (a_cons d_bl a_nil)) a_nil)) (a_cons (d_tup (a_cons d_non a_nil)) (a_cons (d_tup (a_cons d_str a_nil)) (a_cons (d_tup (a_cons (d_tup (a_cons d_int (a_cons d_int a_nil))) (a_cons d_int a_nil))) (a_cons (d_tup (a_cons d_int (a_cons d_int a_nil))) (a_cons (d_tup (a_cons (d_neg d_int) (a_cons d_int a_nil))) (a_cons (d_tup (a_cons d_int (a_cons d_int (a_cons d_int a_nil)))) (a_cons (d_tup (a_cons d_bl (a_cons d_int a_nil))) a_nil)))))))))))))) (ss_one (s_ret (d_call' (K' := K) (ok__law_pick t) (hr.mono (by decide)) rfl t.g__law_pick t.F__law_pick.kp (b__law_pick t) (a_cons (dv 0) (a_cons (d_add' (K' := K) (dv 1) (dv 2)) a_nil)))))))⟩
theorem ok__law_names (t : T D w K mg) : FnG P w K mg base CX0 1 (He.ga K "_law_names") D.fd__law_names ["_law_many"] (dsp K R__law_names) := Fun.dok (ds := ds__law_names) (toFun t.F__law_names) sc__law_names fun m cdv A outer s H E hr => ⟨_, (ss_cons (s_set (i := 1) sc__law_names.nd (d_add' (K' := K) (d_add' (K' := K) (d_add' (K' := K) (d_lst (a_cons d_str a_nil)) (d_if (t_gt (dv 0) d_int) (d_lst (a_cons d_str a_nil)) (d_lst a_nil))) (d_if (t_gt (dv 0) d_int) (d_lst (a_cons d_str a_nil)) (d_lst a_nil))) (d_if (t_gt (dv 0) d_int) (d_lst (a_cons d_str a_nil)) (d_lst a_nil)))) (ss_cons (s_set (i := 1) sc__law_names.nd (d_add' (K' := K) (d_add' (K' := K) (d_add' (K' := K) (dv 1) (d_if (t_in' (K' := K) (dv 0) (d_tup (a_cons d_int (a_cons d_int (a_cons d_int a_nil)))) rfl) (d_lst (a_cons d_str a_nil)) (d_lst a_nil))) (d_if (t_eq' (K' := K) hr (dv 0) d_int) (d_lst (a_cons d_str a_nil)) (d_lst a_nil))) (d_if (t_eq' (K' := K) hr (dv 0) d_int) (d_lst (a_cons d_str a_nil)) (d_lst a_nil)))) (ss_one (s_ret (d_new (n_lc (own := [("_law_letter", 2)]) rfl sc__law_names.nd (i_list' (K' := K) (dv 1)) (blkOk_by (N := N__law_names) (sc := defScope s__law_names) (by decide +kernel)) (fun _ _ _ _ _ => (g_name sc__law_names.nd)) (fun _ _ _ _ _ => ts_nil) (fun _ _ _ _ _ => (d_add' (K' := K) (dv 2) (d_strI rfl t.free_str (a_cons (dv 0) a_nil))))))))))⟩
theorem ok__law_single (t : T D w K mg) : FnG P w K mg base CX0 1 (He.ga K "_law_single") D.fd__law_single ["_law_name"] (dsp K R__law_single) := Fun.dok (ds := ds__law_single) (toFun t.F__law_single) sc__law_single fun m cdv A outer s H E hr => ⟨_, (ss_cons (s_asgG (d_tup (a_cons (d_at' (K' := K) (dv 0) d_int) (a_cons (d_toint rfl t.free_int (a_cons (d_sl' (K' := K) (dv 0) (o_some d_int) o_none) a_nil)) a_nil))) (g_tup' (K' := K) rfl (gs_cons (g_name sc__law_single.nd) (gs_cons (g_name sc__law_single.nd) gs_nil)) (len_cons (len_cons len_nil)))) (ss_cons (s_setLc (own := [("_law_i", 5)]) rfl sc__law_single.nd (i_rng1 rfl t.free_range (a_cons (d_sub (dv 2) d_int) a_nil)) (blkOk_by (N := N__law_single) (sc := defScope s__law_single) (by decide +kernel)) (fun _ _ _ _ _ => (g_name sc__law_single.nd)) (fun _ _ _ _ _ => ts_nil) (fun _ _ _ _ _ => (d_tup (a_cons (dv 5) (a_cons (d_add' (K' := K) (dv 5) d_int) (a_cons (d_neg d_int) (a_cons (d_neg d_int) a_nil)))))) (i := 3)) (ss_cons (s_if (t_eq' (K' := K) hr (dv 1) d_str) (ss_one (s_set (i := 3) sc__law_single.nd (d_add' (K' := K) (d_sl' (K' := K) (dv 3) o_none (o_some (d_neg d_int))) (d_lst (a_cons (d_tup (a_cons (d_sub (dv 2) d_int) (a_cons (d_sub (dv 2) d_int) (a_cons (d_neg d_int) (a_cons (d_neg d_int) a_nil))))) a_nil))))) ss_nil) (ss_cons (s_if (t_eq' (K' := K) hr (dv 1) d_str) (ss_one (s_set (i := 3) sc__law_single.nd (d_add' (K' := K) (d_sl' (K' := K) (dv 3) o_none (o_some (d_neg d_int))) (d_lst (a_cons (d_tup (a_cons (d_sub (dv 2) d_int) (a_cons (d_sub (dv 2) d_int) (a_cons (d_neg d_int) (a_cons (d_neg d_int) a_nil))))) a_nil))))) ss_nil) (ss_cons (s_if (t_eq' (K' := K) hr (dv 1) d_str) (ss_one (s_set (i := 3) sc__law_single.nd (d_add' (K' := K) (d_sl' (K' := K) (dv 3) o_none (o_some (d_neg d_int))) (d_lst (a_cons (d_tup (a_cons (d_sub (dv 2) d_int) (a_cons (d_sub (dv 2) d_int) (a_cons (d_neg d_int) (a_cons (d_neg d_int) a_nil))))) a_nil))))) ss_nil) (ss_cons (s_if (t_eq' (K' := K) hr (dv 1) d_str) (ss_one (s_set (i := 3) sc__law_single.nd (d_add' (K' := K) (d_lst (a_cons (d_tup (a_cons d_int (a_cons d_int (a_cons (d_neg d_int) (a_cons (d_neg d_int) a_nil))))) (a_cons (d_tup (a_cons d_int (a_cons d_int (a_cons (d_neg d_int) (a_cons (d_neg d_int) a_nil))))) a_nil))) (d_sl' (K' := K) (dv 3) (o_some d_int) o_none)))) ss_nil) (ss_cons (s_if (t_eq' (K' := K) hr (dv 1) d_str) (ss_one (s_set (i := 3) sc__law_single.nd (d_lst (a_cons (d_tup (a_cons d_int (a_cons d_int (a_cons (d_neg d_int) (a_cons (d_neg d_int) a_nil))))) (a_cons (d_tup (a_cons d_int (a_cons d_int (a_cons (d_neg d_int) (a_cons (d_neg d_int) a_nil))))) (a_cons (d_tup (a_cons d_int (a_cons d_int (a_cons (d_neg d_int) (a_cons (d_neg d_int) a_nil))))) a_nil)))))) ss_nil) (ss_cons (s_if (t_eq' (K' := K) hr (dv 1) d_str) (ss_one (s_set (i := 3) sc__law_single.nd (d_lst (a_cons (d_tup (a_cons d_int (a_cons d_int (a_cons (d_neg d_int) (a_cons (d_neg d_int) a_nil))))) a_nil)))) ss_nil) (ss_cons (s_setLcNN (own := [("_law_i", 5)]) rfl sc__law_single.nd (i_rng1 rfl t.free_range (a_cons (dv 2) a_nil)) (blkOk_by (N := N__law_single) (sc := defScope s__law_single) (by decide +kernel)) (fun _ _ _ _ _ => (g_name sc__law_single.nd)) (fun _ _ _ _ _ => ts_nil) (fun _ _ _ _ _ => (n_lc (own := [("_law_j", 6)]) rfl sc__law_single.nd (i_rng1 rfl t.free_range (a_cons (dv 2) a_nil)) (blkOk_by (by rfl)) (fun _ _ _ _ _ => (g_name sc__law_single.nd)) (fun _ _ _ _ _ => ts_nil) (fun _ _ _ _ _ => (d_if (t_eq' (K' := K) hr (dv 5) (dv 6)) d_int d_int)))) (i := 4)) (ss_cons (s_for PassesOwn.never rfl (i_list' (K' := K) (dv 3)) (g_tup' (K' := K) rfl (gs_cons (g_name sc__law_single.nd) (gs_cons (g_name sc__law_single.nd) (gs_cons (g_name sc__law_single.nd) (gs_cons (g_name sc__law_single.nd) gs_nil)))) (len_cons (len_cons (len_cons (len_cons len_nil))))) (ss_cons (s_set2 (r := 4) (dv 7) (dv 5) (dv 6)) (ss_one (s_set2 (r := 4) (dv 8) (dv 6) (dv 5))))) (ss_one (s_frz 4 (s_ret (d_tupC' (K' := K) rfl t.free_tuple (a_cons (d_new (n_lc (own := [("_law_row", 9)]) rfl sc__law_single.nd (i_list' (K' := K) (dv 4)) (blkOk_by (N := N__law_single) (sc := defScope s__law_single) (by decide +kernel)) (fun _ _ _ _ _ => (g_name sc__law_single.nd)) (fun _ _ _ _ _ => ts_nil) (fun _ _ _ _ _ => (d_tupC' (K' := K) rfl t.free_tuple (a_cons (dv 9) a_nil))))) a_nil)))))))))))))))⟩
theorem ok__law_blocks (t : T D w K mg) : FnG P w K mg base CX0 2 (He.ga K "_law_blocks") D.fd__law_blocks ["_law_name"] (dsp K R__law_blocks) := Fun.dok (ds := ds__law_blocks) (toFun t.F__law_blocks) sc__law_blocks fun m cdv A outer s H E hr => ⟨_, (ss_cons (s_parO3 (i := 1) (j := 2) (l := 3) rfl sc__law_blocks.nd (by decide) (by decide) (by decide) (ao_d (d_new (n_lc (own := [("_law_word", 7)]) rfl sc__law_blocks.nd (i_list' (K' := K) (d_split (dv 0) d_str)) (blkOk_by (N := N__law_blocks) (sc := defScope s__law_blocks) (by decide +kernel)) (fun _ _ _ _ _ => (g_name sc__law_blocks.nd)) (fun _ _ _ _ _ => ts_nil) (fun _ _ _ _ _ => (d_call' (K' := K) (ok__law_single t) (hr.mono (by decide)) rfl t.g__law_single t.F__law_single.kp (b__law_single t) (a_cons (dv 7) a_nil))))) (ao_n (n_lst a_nil) (ao_d d_int ao_nil)))) (ss_cons (s_set (i := 4) sc__law_blocks.nd (d_sum' (K' := K) rfl rfl t.free_sum (a_cons (d_new (n_lc (own := [("_law_single_here", 5)]) rfl sc__law_blocks.nd (i_list' (K' := K) (dv 1)) (blkOk_by (N := N__law_blocks) (sc := defScope s__law_blocks) (by decide +kernel)) (fun _ _ _ _ _ => (g_name sc__law_blocks.nd)) (fun _ _ _ _ _ => ts_nil) (fun _ _ _ _ _ => (d_len' (K' := K) rfl t.free_len (a_cons (dv 5) a_nil))))) a_nil))) (ss_cons (s_for PassesOwn.never rfl (i_list' (K' := K) (dv 1)) (g_name sc__law_blocks.nd) (ss_cons (s_for PassesOwn.never rfl (i_tup' (K' := K) (dv 5)) (g_name sc__law_blocks.nd) (ss_one (s_app (i := 2) (d_add' (K' := K) (d_add' (K' := K) (d_mul' (K' := K) (d_tup (a_cons d_int a_nil)) (dv 3)) (dv 6)) (d_mul' (K' := K) (d_tup (a_cons d_int a_nil)) (d_sub (d_sub (dv 4) (dv 3)) (d_len' (K' := K) rfl t.free_len (a_cons (dv 5) a_nil)))))))) (ss_one (s_set (i := 3) sc__law_blocks.nd (d_add' (K' := K) (dv 3) (d_len' (K' := K) rfl t.free_len (a_cons (dv 5) a_nil))))))) (ss_one (s_frz 2 (s_ret (d_tupC' (K' := K) rfl t.free_tuple (a_cons (dv 2) a_nil))))))))⟩
theorem ok__law_type (t : T D w K mg) : FnG P w K mg base CX0 3 (He.ga K "_law_type") D.fd__law_type ["_law_pot_here", "_law_most"] (dsp K R__law_type) := Fun.dok (ds := ds__law_type) (toFun t.F__law_type) sc__law_type fun m cdv A outer s H E hr => ⟨_, (ss_cons (s_parO (i := 2) (j := 3) rfl sc__law_type.nd (by decide) (ao_d (d_add' (K' := K) d_int (d_call' (K' := K) (ok__law_draw t) (hr.mono (by decide)) rfl t.g__law_draw t.F__law_draw.kp (b__law_draw t) (a_cons (dv 0) (a_cons (dv 1) a_nil)))) (ao_n (n_lst a_nil) ao_nil))) (ss_cons (s_for PassesOwn.never rfl (i_rng1 rfl t.free_range (a_cons d_int a_nil)) (g_name sc__law_type.nd) (ss_one (s_if (t_gt (dv 2) d_int) (ss_cons (s_set (i := 5) sc__law_type.nd (d_if (t_gt (d_call' (K' := K) (ok__law_draw t) (hr.mono (by decide)) rfl t.g__law_draw t.F__law_draw.kp (b__law_draw t) (a_cons (dv 0) (a_cons d_int a_nil))) d_int) (dv 2) (d_add' (K' := K) d_int (d_call' (K' := K) (ok__law_draw t) (hr.mono (by decide)) rfl t.g__law_draw t.F__law_draw.kp (b__law_draw t) (a_cons (dv 0) (a_cons (dv 2) a_nil)))))) (ss_cons (s_app (i := 3) (d_call' (K' := K) (ok__law_pick t) (hr.mono (by decide)) rfl t.g__law_pick t.F__law_pick.kp (b__law_pick t) (a_cons (dv 0) (a_cons (d_call' (K' := K) (ok__law_names t) (hr.mono (by decide)) rfl t.g__law_names t.F__law_names.kp (b__law_names t) (a_cons (dv 5) a_nil)) a_nil)))) (ss_one (s_set (i := 2) sc__law_type.nd (d_sub (dv 2) (dv 5)))))) ss_nil))) (ss_one (s_frz 3 (s_ret (d_join' (K' := K) d_str (dv 3)))))))⟩
theorem ok__law_is_type (t : T D w K mg) : FnG P w K mg base CX0 2 (He.ga K "_law_is_type") D.fd__law_is_type ["_law_value"] (dsp K R__law_is_type) := Fun.dok (ds := ds__law_is_type) (toFun t.F__law_is_type) sc__law_is_type fun m cdv A outer s H E hr => ⟨_, (ss_cons (s_if (t_not (t_val (d_isi' (K' := K) (T := "str") (by decide) rfl t.free_isinstance rfl t.free_str (by decide +kernel) (dv 0)))) (ss_one (s_ret d_bl)) ss_nil) (ss_cons (s_par (i := 1) (j := 2) rfl sc__law_is_type.nd (by decide) (a_cons (d_lst a_nil) (a_cons d_int a_nil))) (ss_cons (s_for PassesOwn.never rfl (i_rng2 rfl t.free_range (a_cons d_int (a_cons d_int a_nil))) (g_name sc__law_is_type.nd) (ss_one (s_set (i := 1) sc__law_is_type.nd (d_add' (K' := K) (dv 1) (d_call' (K' := K) (ok__law_names t) (hr.mono (by decide)) rfl t.g__law_names t.F__law_names.kp (b__law_names t) (a_cons (dv 3) a_nil)))))) (ss_cons (s_for PassesOwn.never rfl (i_list' (K' := K) (d_split (dv 0) d_str)) (g_name sc__law_is_type.nd) (ss_cons (s_if (t_ni' (K' := K) (dv 4) (dv 1) rfl) (ss_one (s_ret d_bl)) ss_nil) (ss_one (s_set (i := 2) sc__law_is_type.nd (d_add' (K' := K) (dv 2) (d_toint rfl t.free_int (a_cons (d_sl' (K' := K) (dv 4) (o_some d_int) o_none) a_nil))))))) (ss_one (s_ret (d_le (dv 2) d_int)))))))⟩
theorem ok__law_bent (t : T D w K mg) : FnG P w K mg base CX0 3 (He.ga K "_law_bent") D.fd__law_bent ["_law_pot_here", "_law_text"] (dsp K R__law_bent) := Fun.dok (ds := ds__law_bent) (toFun t.F__law_bent) sc__law_bent fun m cdv A outer s H E hr => ⟨_, (ss_cons (s_par (i := 2) (j := 3) rfl sc__law_bent.nd (by decide) (a_cons (d_call' (K' := K) (ok__law_draw t) (hr.mono (by decide)) rfl t.g__law_draw t.F__law_draw.kp (b__law_draw t) (a_cons (dv 0) (a_cons d_int a_nil))) (a_cons (d_call' (K' := K) (ok__law_draw t) (hr.mono (by decide)) rfl t.g__law_draw t.F__law_draw.kp (b__law_draw t) (a_cons (dv 0) (a_cons (d_len' (K' := K) rfl t.free_len (a_cons (dv 1) a_nil)) a_nil))) a_nil))) (ss_cons (s_if (t_eq' (K' := K) hr (dv 2) d_int) (ss_one (s_ret (d_add' (K' := K) (d_add' (K' := K) (d_sl' (K' := K) (dv 1) o_none (o_some (dv 3))) (d_call' (K' := K) (ok__law_pick t) (hr.mono (by decide)) rfl t.g__law_pick t.F__law_pick.kp (b__law_pick t) (a_cons (dv 0) (a_cons d_str a_nil)))) (d_sl' (K' := K) (dv 1) (o_some (d_add' (K' := K) (dv 3) d_int)) o_none)))) ss_nil) (ss_cons (s_if (t_eq' (K' := K) hr (dv 2) d_int) (ss_one (s_ret (d_add' (K' := K) (d_add' (K' := K) (d_sl' (K' := K) (dv 1) o_none (o_some (dv 3))) (d_call' (K' := K) (ok__law_pick t) (hr.mono (by decide)) rfl t.g__law_pick t.F__law_pick.kp (b__law_pick t) (a_cons (dv 0) (a_cons d_str a_nil)))) (d_sl' (K' := K) (dv 1) (o_some (dv 3)) o_none)))) ss_nil) (ss_cons (s_if (t_eq' (K' := K) hr (dv 2) d_int) (ss_one (s_ret (d_add' (K' := K) (d_sl' (K' := K) (dv 1) o_none (o_some (dv 3))) (d_sl' (K' := K) (dv 1) (o_some (d_add' (K' := K) (dv 3) d_int)) o_none)))) ss_nil) (ss_cons (s_if (t_eq' (K' := K) hr (dv 2) d_int) (ss_one (s_ret (d_add' (K' := K) (d_add' (K' := K) (dv 1) d_str) (d_call' (K' := K) (ok__law_pick t) (hr.mono (by decide)) rfl t.g__law_pick t.F__law_pick.kp (b__law_pick t) (a_cons (dv 0) (a_cons (d_lst (a_cons d_str (a_cons d_str (a_cons (dv 1) (a_cons d_str (a_cons d_str (a_cons d_str (a_cons d_str (a_cons d_str a_nil))))))))) a_nil)))))) ss_nil) (ss_cons (s_if (t_pw (w_and (t_gt (dv 2) d_int) (w_and (t_ne' (K' := K) hr (dv 2) d_int) (w_and1 (t_ne' (K' := K) hr (dv 2) d_int))))) (ss_one (s_ret (d_call' (K' := K) (ok__law_pick t) (hr.mono (by decide)) rfl t.g__law_pick t.F__law_pick.kp (b__law_pick t) (a_cons (dv 0) (a_cons (d_lst (a_cons d_str (a_cons d_str (a_cons d_str (a_cons d_str (a_cons d_str (a_cons d_str (a_cons d_str (a_cons d_str (a_cons d_str (a_cons d_str (a_cons d_str (a_cons d_str (a_cons d_str (a_cons d_str (a_cons d_str (a_cons d_str (a_cons d_str a_nil)))))))))))))))))) a_nil))))) ss_nil) (ss_one (s_ret (d_if (t_eq' (K' := K) hr (dv 2) d_int) (d_lower (dv 1)) (d_add' (K' := K) d_str (dv 1)))))))))))⟩
theorem ok__law_right (t : T D w K mg) : FnG P w K mg base CX0 5 (He.ga K "_law_right") D.fd__law_right ["_law_pot_here"] (dsp K R__law_right) := Fun.dok (ds := ds__law_right) (toFun t.F__law_right) sc__law_right fun m cdv A outer s H E hr => ⟨_, (ss_cons (s_par (i := 1) (j := 2) rfl sc__law_right.nd (by decide) (a_cons (d_call' (K' := K) (ok__law_type t) (hr.mono (by decide)) rfl t.g__law_type t.F__law_type.kp (b__law_type t) (a_cons (dv 0) (a_cons d_int a_nil))) (a_cons (d_call' (K' := K) (ok__law_draw t) (hr.mono (by decide)) rfl t.g__law_draw t.F__law_draw.kp (b__law_draw t) (a_cons (dv 0) (a_cons d_int a_nil))) a_nil))) (ss_cons (s_set (i := 1) sc__law_right.nd (d_if (t_eq' (K' := K) hr (dv 2) d_int) (d_call' (K' := K) (ok__law_odd t) (hr.mono (by decide)) rfl t.g__law_odd t.F__law_odd.kp (b__law_odd t) (a_cons (dv 0) a_nil)) (d_if (t_lt (dv 2) d_int) (d_call' (K' := K) (ok__law_bent t) (hr.mono (by decide)) rfl t.g__law_bent t.F__law_bent.kp (b__law_bent t) (a_cons (dv 0) (a_cons (dv 1) a_nil))) (dv 1)))) (ss_cons (s_set (i := 3) sc__law_right.nd (d_call' (K' := K) (ok__law_is_type t) (hr.mono (by decide)) rfl t.g__law_is_type t.F__law_is_type.kp (b__law_is_type t) (a_cons (dv 1) a_nil))) (ss_cons (s_if (t_ne' (K' := K) hr (d_repr' (K' := K) hr rfl t.free_repr (a_cons (d_lst (a_cons (d_call' (K' := K) (ok_is_type t) (hr.mono (by decide)) rfl t.g_is_type t.F_is_type.kp (b_is_type t) (a_cons (dv 1) a_nil)) (a_cons (d_callX0' (K' := K) (ks := ["value"]) (π := [0]) (ok_is_type t) (hr.mono (by decide)) rfl t.g_is_type t.F_is_type.kp (kb_is_type_0_value t) (k_cons (dv 1) k_nil)) a_nil))) a_nil)) (d_repr' (K' := K) hr rfl t.free_repr (a_cons (d_lst (a_cons (dv 3) (a_cons (dv 3) a_nil))) a_nil))) (ss_one (s_ret d_bl)) ss_nil) (ss_cons (s_if (t_not (t_val (dv 3))) (ss_one (s_ret d_bl)) ss_nil) (ss_cons (s_set (i := 4) sc__law_right.nd (d_call' (K' := K) (ok__law_blocks t) (hr.mono (by decide)) rfl t.g__law_blocks t.F__law_blocks.kp (b__law_blocks t) (a_cons (dv 1) a_nil))) (ss_cons (s_if (t_ne' (K' := K) hr (d_repr' (K' := K) hr rfl t.free_repr (a_cons (d_lst (a_cons (d_call' (K' := K) (ok_matrix_of t) (hr.mono (by decide)) rfl t.g_matrix_of t.F_matrix_of.kp (b_matrix_of t) (a_cons (dv 1) a_nil)) (a_cons (d_callX0' (K' := K) (ks := ["name"]) (π := [0]) (ok_matrix_of t) (hr.mono (by decide)) rfl t.g_matrix_of t.F_matrix_of.kp (kb_matrix_of_0_name t) (k_cons (dv 1) k_nil)) a_nil))) a_nil)) (d_repr' (K' := K) hr rfl t.free_repr (a_cons (d_lst (a_cons (dv 4) (a_cons (dv 4) a_nil))) a_nil))) (ss_one (s_ret d_bl)) ss_nil) (ss_one (s_ret (d_eq' (K' := K) hr (d_repr' (K' := K) hr rfl t.free_repr (a_cons (d_lst (a_cons (d_call' (K' := K) (ok_rank_of t) (hr.mono (by decide)) rfl t.g_rank_of t.F_rank_of.kp (b_rank_of t) (a_cons (dv 1) a_nil)) (a_cons (d_callX0' (K' := K) (ks := ["name"]) (π := [0]) (ok_rank_of t) (hr.mono (by decide)) rfl t.g_rank_of t.F_rank_of.kp (kb_rank_of_0_name t) (k_cons (dv 1) k_nil)) a_nil))) a_nil)) (d_repr' (K' := K) hr rfl t.free_repr (a_cons (d_lst (a_cons (d_len' (K' := K) rfl t.free_len (a_cons (dv 4) a_nil)) (a_cons (d_len' (K' := K) rfl t.free_len (a_cons (dv 4) a_nil)) a_nil))) a_nil))))))))))))⟩
def N_law : List Str := ["_law_script", "_law_turn"]
theorem sc_law : FnScope N_law ["_law_script"] (defScope s_law) := ⟨rfl, rfl, rfl, by decide +kernel, rfl, by decide +kernel, by decide +kernel⟩
theorem ok_law (t : T D w K mg) (hR : ∀ xs Q, Rright xs Q → R__law_right xs Q) : FnG P w K mg base CX0 6 (He.ga K "law") D.fd_law ["_law_script"] (spLaw K) := by
  refine g_def (N := N_law) (toFun t.F_law) sc_law (fun vs H Q E h => ?_) (fun cdv A outer s H vs Q E hr hgd h => ⟨t_law K 2 8, PSs.nox ?_, pure_law 2 8 (by decide) (by decide) vs H Q E h⟩)
  · obtain ⟨_, _, rfl, _⟩ := h
    rfl
  · exact pss_one (ps_ret (pe_callB (cr_all rfl) rfl t.free_all (by decide +kernel) (pa_cons (pe_lc (own := [("_law_turn", 1)]) rfl sc_law.nd
      (pi_range1 rfl t.free_range (pa_cons (pe_callB (call_max2 rfl) rfl t.free_max (by decide +kernel) (pa_cons pe_int (pa_cons (pe_callB (call_min2 rfl) rfl t.free_min (by decide +kernel) (pa_cons (pe_callB call_len rfl t.free_len (by decide +kernel) (pa_cons (pe_var rfl (Or.inr (Or.inl rfl))) pa_nil)) (pa_cons pe_int pa_nil))) pa_nil))) pa_nil))
      (blkOk_by (N := N_law) (sc := defScope s_law) (by decide +kernel)) (fun _ _ _ _ _ => pg_name sc_law.nd rfl (Or.inl rfl)) (fun _ _ _ _ _ => pts_nil)
      (fun _ _ _ _ _ => g_call ((ok__law_right t).dimp hR) (hr.mono (by decide)) hgd rfl t.g__law_right t.F__law_right.kp (b__law_right t) .nil pass0
        (pa_cons (g_call (ok__law_pot t) (hr.mono (by decide)) hgd rfl t.g__law_pot t.F__law_pot.kp (b__law_pot t) .nil pass0 (pa_cons (pe_var rfl (Or.inr (Or.inl rfl))) (pa_cons (pe_var rfl (Or.inl rfl)) pa_nil))) pa_nil))) pa_nil)))

end
end LW

/-! ==== PA05 ==== -/
set_option Elab.async false
set_option linter.all false
set_option maxRecDepth 100000
set_option maxHeartbeats 0
namespace LP
open PySem PySem.Spec PyProof.Rows L2 DL LW
/-! ## the plain law: names, texts -/
def KN : List Str := [⟨#[65, 49]⟩, ⟨#[65, 50]⟩, ⟨#[65, 51]⟩, ⟨#[65, 52]⟩, ⟨#[65, 53]⟩, ⟨#[65, 54]⟩, ⟨#[65, 55]⟩, ⟨#[65, 56]⟩, ⟨#[66, 50]⟩, ⟨#[66, 51]⟩, ⟨#[66, 52]⟩, ⟨#[66, 53]⟩, ⟨#[66, 54]⟩, ⟨#[66, 55]⟩, ⟨#[66, 56]⟩,
  ⟨#[67, 51]⟩, ⟨#[67, 52]⟩, ⟨#[67, 53]⟩, ⟨#[67, 54]⟩, ⟨#[67, 55]⟩, ⟨#[67, 56]⟩, ⟨#[68, 52]⟩, ⟨#[68, 53]⟩, ⟨#[68, 54]⟩, ⟨#[68, 55]⟩, ⟨#[68, 56]⟩, ⟨#[69, 54]⟩, ⟨#[69, 55]⟩, ⟨#[69, 56]⟩, ⟨#[70, 52]⟩, ⟨#[71, 50]⟩]
/-- a name's digit -/
def dgN (w : Str) : Nat := (w.cps.toList[1]?).getD 48 - 48
theorem kn_len : ∀ w ∈ KN, w.cps.toList.length = 2 := by decide +kernel
theorem kn_dig : ∀ w ∈ KN, ∃ c ∈ ([49, 50, 51, 52, 53, 54, 55, 56] : List Nat), w.cps.toList[1]? = some c := by decide +kernel
theorem kn_let : ∀ w ∈ KN, ∃ c ∈ ([65, 66, 67, 68, 69, 70, 71] : List Nat), w.cps.toList[0]? = some c := by decide +kernel
theorem str_ext {a b : Str} (h : a.cps.toList = b.cps.toList) : a = b := by
  obtain ⟨⟨a⟩⟩ := a
  obtain ⟨⟨b⟩⟩ := b
  have h2 : a = b := h
  rw [h2]
theorem lookup_miss {α : Type} {z : Str} : ∀ {kvs : List (Str × α)}, z ∉ kvs.map (·.1) → kvs.lookup z = none
  | [], _ => rfl
  | (k, v) :: r, h => by
    rw [List.lookup_cons]
    have : (z == k) = false := beq_eq_false_iff_ne.mpr fun e => h (by rw [e]; exact List.mem_cons_self)
    rw [this]
    exact lookup_miss fun q => h (List.mem_cons_of_mem _ q)
theorem keys_all : ∀ z ∈ kvs_LEAST.map (·.1) ++ kvs_NAMES_OF_SOME.map (·.1), ∃ c ∈ ([65, 66, 67, 68, 69, 70, 71] : List Nat), z.cps.toList = [c] := by decide +kernel
theorem name_two (c1 c2 : Nat) : c_is_name [.d (.str ⟨#[c1, c2]⟩)] = some (.bool (decide ((⟨#[c1, c2]⟩ : Str) ∈ KN))) := by
  by_cases h2 : c2 ∈ ([49, 50, 51, 52, 53, 54, 55, 56] : List Nat)
  · by_cases h1 : c1 ∈ ([65, 66, 67, 68, 69, 70, 71] : List Nat)
    · have key : ∀ c1 ∈ ([65, 66, 67, 68, 69, 70, 71] : List Nat), ∀ c2 ∈ ([49, 50, 51, 52, 53, 54, 55, 56] : List Nat), (match c_is_name [.d (.str ⟨#[c1, c2]⟩)] with
        | some (.bool b) => b == decide ((⟨#[c1, c2]⟩ : Str) ∈ KN)
        | _ => false) = true := by decide +kernel
      have k := key c1 h1 c2 h2
      split at k
      · rename_i b e
        rw [e, eq_of_beq k]
      · cases k
    · have n1 : kvs_LEAST.lookup (⟨#[c1]⟩ : Str) = none := lookup_miss fun h => by
        obtain ⟨c, hc, e⟩ := keys_all _ (List.mem_append_left _ h)
        cases e
        exact h1 hc
      have n2 : kvs_NAMES_OF_SOME.lookup (⟨#[c1]⟩ : Str) = none := lookup_miss fun h => by
        obtain ⟨c, hc, e⟩ := keys_all _ (List.mem_append_right _ h)
        cases e
        exact h1 hc
      have n3 : decide ((⟨#[c1, c2]⟩ : Str) ∈ KN) = false := decide_eq_false fun h => by
        obtain ⟨c, hc, e⟩ := kn_let _ h
        cases e
        exact h1 hc
      have n4 : ∃ i : Int, cInt [.d (.str ⟨#[c2]⟩)] = some (.int i) := by
        have key : ∀ c2 ∈ ([49, 50, 51, 52, 53, 54, 55, 56] : List Nat), (match cInt [.d (.str ⟨#[c2]⟩)] with
          | some (.int i) => true
          | _ => false) = true := by decide +kernel
        have k := key c2 h2
        split at k
        · exact ⟨_, ‹_›⟩
        · cases k
      obtain ⟨i, n4⟩ := n4
      have n5 : c2 ∈ (Str.ofString "12345678").cps := by
        have : (Str.ofString "12345678").cps = #[49, 50, 51, 52, 53, 54, 55, 56] := by decide +kernel
        rw [this]
        simpa using h2
      rw [n3]
      simp [c_is_name, cs_is_name, cRof, startD, N_is_name, cSeq, cIfS, cOrT, cTest, cOp, cEqG, cInG, cIx, cCB, cLen, cCons, cNil, cVar, cC, cRet, cNext, okv, vw, Out.val, atI, ixN, cPar, cGIn, cAnd, argOk, Str.length, sizeLine, cNe, cNotIn, cIn, n1, n2, n4, n5]
  · have n5 : c2 ∉ (Str.ofString "12345678").cps := by
      have : (Str.ofString "12345678").cps = #[49, 50, 51, 52, 53, 54, 55, 56] := by decide +kernel
      rw [this]
      simpa using h2
    have n3 : decide ((⟨#[c1, c2]⟩ : Str) ∈ KN) = false := decide_eq_false fun h => by
      obtain ⟨c, hc, e⟩ := kn_dig _ h
      cases e
      exact h2 hc
    rw [n3]
    simp [c_is_name, cs_is_name, cRof, startD, N_is_name, cSeq, cIfS, cOrT, cTest, cOp, cEqG, cInG, cIx, cCB, cLen, cCons, cNil, cVar, cC, cRet, cNext, okv, vw, Out.val, atI, ixN, cPar, cGIn, cAnd, argOk, Str.length, sizeLine, cNe, cNotIn, cIn, n5]
theorem is_name_ok (w : Str) (hl : w.length ≤ sizeLine) : c_is_name [.d (.str w)] = some (.bool (decide (w ∈ KN))) := by
  by_cases h : w.cps.toList.length = 2
  · obtain ⟨⟨l⟩⟩ := w
    match l, h with
    | [c1, c2], _ => exact name_two c1 c2
  · have n3 : decide (w ∈ KN) = false := decide_eq_false fun hm => h (kn_len w hm)
    have n4 : ¬ (w.cps.size = 2) := by simpa using h
    have n6 : ¬ ((w.cps.size : Int) = 2) := by omega
    have hl' : w.cps.size ≤ 16777216 := hl
    rw [n3]
    simp [c_is_name, cs_is_name, cRof, startD, N_is_name, cSeq, cIfS, cOrT, cTest, cOp, cEqG, cInG, cIx, cCB, cLen, cCons, cNil, cVar, cC, cRet, cNext, okv, vw, Out.val, atI, ixN, cPar, cGIn, cAnd, argOk, Str.length, sizeLine, cNe, cNotIn, cIn, n4, n6, hl']
end LP

/-! ==== PB05 ==== -/
set_option Elab.async false
set_option linter.all false
set_option maxRecDepth 100000
set_option maxHeartbeats 0
namespace LP
open PySem PySem.Spec PyProof.Rows L2 DL LW
theorem join_le (y : Str) : ∀ (ws : List Str) (w : Str), w ∈ ws → w.cps.size ≤ (Str.join y ws).cps.size
  | [a], w, h => by
    rw [List.mem_singleton.mp h]
    exact Nat.le_refl _
  | a :: b :: r, w, h => by
    have e : (Str.join y (a :: b :: r)).cps.size = a.cps.size + y.cps.size + (Str.join y (b :: r)).cps.size := by
      show (a.cps ++ y.cps ++ (Str.join y (b :: r)).cps).size = _
      rw [Array.size_append, Array.size_append]
    rw [e]
    rcases List.mem_cons.mp h with z | z
    · rw [z]; omega
    · have := join_le y (b :: r) w z
      omega
theorem join_len (y : Str) (hy : y.cps.size = 1) : ∀ (ws : List Str), ws.length ≤ (Str.join y ws).cps.size + 1
  | [] => Nat.zero_le _
  | [a] => by simp
  | a :: b :: r => by
    have e : (Str.join y (a :: b :: r)).cps.size = a.cps.size + y.cps.size + (Str.join y (b :: r)).cps.size := by
      show (a.cps ++ y.cps ++ (Str.join y (b :: r)).cps).size = _
      rw [Array.size_append, Array.size_append]
    have := join_len y hy (b :: r)
    rw [e]
    simp only [List.length_cons] at this ⊢
    omega
def sp : Str := " "
theorem sp_one : sp.cps.size = 1 := by decide +kernel
abbrev wd (s : Str) : List Str := Txt.split s sp
theorem wd_join (s : Str) : Str.join sp (wd s) = s := PySem.StrLaws.join_split s sp
theorem wd_le (s w : Str) (h : w ∈ wd s) : w.cps.size ≤ s.cps.size := by
  have := join_le sp (wd s) w h
  rw [wd_join] at this
  exact this
theorem wd_len (s : Str) : (wd s).length ≤ s.cps.size + 1 := by
  have := join_len sp sp_one (wd s)
  rw [wd_join] at this
  exact this
/-- a comprehension whose element is settled -/
theorem lcl_map {i : Nat} {ca : CE} {ρ0 : DEnv} {f : PyData → PyData} : ∀ (xs acc : List PyData), (∀ x ∈ xs, ca (ρ0.set i (some (.d x))) = some (.d (f x))) → acc.length + xs.length ≤ sizeLine → cLcL (cgName i) cYes ca ρ0 xs acc = some (acc ++ xs.map f)
  | [], acc, _, _ => by simp [cLcL]
  | x :: xs, acc, h, hl => by
    have h1 := h x List.mem_cons_self
    have hl' : acc.length < sizeLine := by simp only [List.length_cons] at hl; omega
    show (some (ρ0.set i (some (.d x)))).bind _ = _
    simp only [Option.bind_some, cYes, if_true, h1, hl']
    rw [lcl_map xs (acc ++ [f x]) (fun y hy => h y (List.mem_cons_of_mem _ hy)) (by simp only [List.length_append, List.length_cons, List.length_nil] at hl ⊢; omega)]
    simp
def isT (s : Str) : Bool := (wd s).all (fun w => decide (w ∈ KN)) && decide (((wd s).map fun w => (dgN w : Int)).sum ≤ 8)
theorem kn_int : ∀ w ∈ KN, (match cIx (.d (.str w)) (.d (.int 1)) with
    | some x => (match cInt [x] with
      | some (.int i) => decide (i = (dgN w : Int))
      | _ => false)
    | none => false) = true := by decide +kernel
theorem kn_int1 {w : Str} (h : w ∈ KN) : ∃ x, cIx (.d (.str w)) (.d (.int 1)) = some x ∧ cInt [x] = some (.int (dgN w)) := by
  have k := kn_int w h
  split at k
  · rename_i x e
    split at k
    · rename_i i e2
      rw [of_decide_eq_true k] at e2
      exact ⟨x, e, e2⟩
    · cases k
  · cases k
theorem kn_sl : ∀ w ∈ KN, (match cSlV (.d (.str w)) (some 1) none with
    | some x => (match cInt [x] with
      | some (.int i) => decide (i = (dgN w : Int))
      | _ => false)
    | none => false) = true := by decide +kernel
theorem kn_sl1 {w : Str} (h : w ∈ KN) : ∃ x, cSlV (.d (.str w)) (some 1) none = some x ∧ cInt [x] = some (.int (dgN w)) := by
  have k := kn_sl w h
  split at k
  · rename_i x e
    split at k
    · rename_i i e2
      rw [of_decide_eq_true k] at e2
      exact ⟨x, e, e2⟩
    · cases k
  · cases k
theorem kn_pos : ∀ w ∈ KN, 1 ≤ dgN w := by decide +kernel
theorem strs_len : ∀ ws : List Str, (∀ w ∈ ws, w ∈ KN) → ws ≠ [] → (Str.join sp ws).cps.size + 1 = 3 * ws.length
  | [a], h, _ => by
    have := kn_len a (h a List.mem_cons_self)
    show a.cps.size + 1 = 3
    have e : a.cps.size = a.cps.toList.length := by simp
    omega
  | a :: b :: r, h, _ => by
    have e : (Str.join sp (a :: b :: r)).cps.size = a.cps.size + sp.cps.size + (Str.join sp (b :: r)).cps.size := by
      show (a.cps ++ sp.cps ++ (Str.join sp (b :: r)).cps).size = _
      rw [Array.size_append, Array.size_append]
    have i := strs_len (b :: r) (fun w hw => h w (List.mem_cons_of_mem _ hw)) (List.cons_ne_nil _ _)
    have k := kn_len a (h a List.mem_cons_self)
    have e2 : a.cps.size = a.cps.toList.length := by simp
    rw [e, sp_one]
    simp only [List.length_cons] at i ⊢
    omega
theorem sum_ge : ∀ ws : List Str, (∀ w ∈ ws, w ∈ KN) → (ws.length : Int) ≤ (ws.map fun w => (dgN w : Int)).sum
  | [], _ => by simp
  | a :: r, h => by
    have i := sum_ge r fun w hw => h w (List.mem_cons_of_mem _ hw)
    have k := kn_pos a (h a List.mem_cons_self)
    simp only [List.map_cons, List.sum_cons, List.length_cons]
    omega
theorem wd_empty : wd ⟨#[]⟩ ≠ [] := by decide +kernel
theorem wd_ne (s : Str) : wd s ≠ [] := fun h => by
  have e := wd_join s
  rw [h] at e
  have e2 : s = ⟨#[]⟩ := e.symm
  rw [e2] at h
  exact wd_empty h
theorem isT_len {s : Str} (h : isT s = true) : s.cps.size ≤ 23 := by
  obtain ⟨h1, h2⟩ := He.ba h
  have a : ∀ w ∈ wd s, w ∈ KN := fun w hw => of_decide_eq_true (List.all_eq_true.mp h1 w hw)
  have l := strs_len (wd s) a (wd_ne s)
  rw [wd_join] at l
  have g := sum_ge (wd s) a
  have h3 := of_decide_eq_true h2
  omega
end LP

/-! ==== PC05 ==== -/
set_option Elab.async false
set_option linter.all false
set_option maxRecDepth 100000
set_option maxHeartbeats 0
namespace LP
open PySem PySem.Spec PyProof.Rows L2 DL LW
theorem bools_map {α : Type} (f : α → Bool) : ∀ l : List α, bools? (l.map fun a => PyData.bool (f a)) = some (l.map f)
  | [] => rfl
  | a :: l => by
    show (bools? (l.map fun a => PyData.bool (f a))).map (f a :: ·) = _
    rw [bools_map f l]
    rfl
theorem ints_map {α : Type} (f : α → Int) : ∀ l : List α, ints? (l.map fun a => PyData.int (f a)) = some (l.map f)
  | [] => rfl
  | a :: l => by
    show (ints? (l.map fun a => PyData.int (f a))).map (f a :: ·) = _
    rw [ints_map f l]
    rfl
/-- a comprehension over texts whose element is settled -/
theorem lc_strs {i : Nat} {ci : CI} {ca : CE} {ρ : DEnv} {vs : List Nat} {f : Str → PyData} (ws : List Str) (hi : ci ρ = some (ws.map .str)) (h : ∀ w ∈ ws, ca ((wipeD ρ vs).set i (some (.d (.str w)))) = some (.d (f w))) (hl : ws.length ≤ sizeLine) :
    cNE (cLc ci (cgName i) cYes ca vs) ρ = some (.d (.list (ws.map f))) := by
  have key : ∀ (xs : List Str) (acc : List PyData), (∀ w ∈ xs, ca ((wipeD ρ vs).set i (some (.d (.str w)))) = some (.d (f w))) → acc.length + xs.length ≤ sizeLine → cLcL (cgName i) cYes ca (wipeD ρ vs) (xs.map .str) acc = some (acc ++ xs.map f) := by
    intro xs
    induction xs with
    | nil => intro acc _ _; simp [cLcL]
    | cons x xs ih =>
      intro acc h hl
      have h1 := h x List.mem_cons_self
      have hl' : acc.length < sizeLine := by simp only [List.length_cons] at hl; omega
      show (some ((wipeD ρ vs).set i (some (.d (.str x))))).bind _ = _
      simp only [Option.bind_some, cYes, if_true, h1, hl']
      rw [ih (acc ++ [f x]) (fun y hy => h y (List.mem_cons_of_mem _ hy)) (by simp only [List.length_append, List.length_cons, List.length_nil] at hl ⊢; omega)]
      simp
  unfold cNE cLc
  rw [hi]
  simp only [Option.bind_some]
  rw [key ws [] h (by simpa using hl)]
  simp only [Option.map_some, Option.bind_some, List.nil_append, okvs_d, if_true, vws_d]
theorem sp_cps : ((Str.ofString " ").cps = #[]) = False := by
  have : (Str.ofString " ").cps = #[32] := by decide +kernel
  rw [this]
  simp
theorem split_wd (s : Str) : Txt.split s (Str.ofString " ") = wd s := rfl
theorem typed_ok (s : Str) (hs : s.cps.size + 2 ≤ sizeLine) : c_is_typed [.d (.str s)] = some (.bool (isT s)) := by
  have hs' : s.cps.size + 2 ≤ 16777216 := hs
  have hs1 : s.cps.size ≤ 16777216 := by omega
  by_cases h24 : s.cps.size ≤ 24
  · have lw : (wd s).length ≤ sizeLine := Nat.le_trans (wd_len s) (by omega)
    have g : ¬ ((24 : Int) < (s.cps.size : Int)) := by omega
    have e1 : cNE (cLc (ciList (cVar 1)) (cgName 2) cYes (cCall c_is_name (cCons (cVar 2) cNil)) [2]) [some (.d (.str s)), some (.d (.list ((wd s).map .str))), none] = some (.d (.list ((wd s).map fun w => .bool (decide (w ∈ KN))))) :=
      lc_strs (wd s) (by simp [ciList, cVar]) (fun w hw => by
        have := is_name_ok w (by have := wd_le s w hw; show w.cps.size ≤ sizeLine; omega)
        simp [cCall, cCons, cVar, cNil, wipeD, argOk, this]) lw
    have e2 : (∀ w ∈ wd s, w ∈ KN) → cNE (cLc (ciList (cVar 1)) (cgName 2) cYes (cCB cInt (cCons (cOp cIx (cVar 2) (cC (.int 1))) cNil)) [2]) [some (.d (.str s)), some (.d (.list ((wd s).map .str))), none] = some (.d (.list ((wd s).map fun w => .int (dgN w)))) := fun ha =>
      lc_strs (wd s) (by simp [ciList, cVar]) (fun w hw => by
        obtain ⟨x, q1, q2⟩ := kn_int1 (ha w hw)
        simp [cCB, cCons, cVar, cNil, wipeD, cOp, cC, q1, q2]) lw
    by_cases ha : ∀ w ∈ wd s, w ∈ KN
    · have e2' := e2 ha
      have ei : isT s = decide (((wd s).map fun w => (dgN w : Int)).sum ≤ 8) := by
        unfold isT
        rw [List.all_eq_true.mpr fun w hw => decide_eq_true (ha w hw), Bool.true_and]
      have ea : ((wd s).map fun w => decide (w ∈ KN)).all id = true := by
        rw [List.all_map]
        exact List.all_eq_true.mpr fun w hw => decide_eq_true (ha w hw)
      rw [ei]
      have hb : (wd s).length ≤ sizeLine := lw
      simp [c_is_typed, cs_is_typed, cRof, startD, N_is_typed, cSeq, cIfS, cOrT, cNotT, cTest, cIsi, okv, vw, tyN, isiB, cOp, cI0, cMul, CMul, cCB, cLen, cCons, cNil, cVar, cC, cRet, cNext, Out.val, cSet, cM1, cSplitR, argOk, cAnd, Str.length, sizeLine, g, hs1, show s.cps.size ≤ 16777214 by omega, e1, e2', cBools, asList, bools_map, cSum, ints_map, ea, sp_cps, split_wd, cAll, cLe]
    · have ei : isT s = false := by
        unfold isT
        rw [Bool.and_eq_false_iff]
        left
        cases q : (wd s).all fun w => decide (w ∈ KN) with
        | false => rfl
        | true => exact absurd (fun w hw => of_decide_eq_true (List.all_eq_true.mp q w hw)) ha
      have ea : ((wd s).map fun w => decide (w ∈ KN)).all id = false := by
        rw [List.all_map]
        cases q : (wd s).all (id ∘ fun w => decide (w ∈ KN)) with
        | false => rfl
        | true => exact absurd (fun w hw => of_decide_eq_true (List.all_eq_true.mp q w hw)) ha
      rw [ei]
      simp [c_is_typed, cs_is_typed, cRof, startD, N_is_typed, cSeq, cIfS, cOrT, cNotT, cTest, cIsi, okv, vw, tyN, isiB, cOp, cI0, cMul, CMul, cCB, cLen, cCons, cNil, cVar, cC, cRet, cNext, Out.val, cSet, cM1, cSplitR, argOk, cAnd, Str.length, sizeLine, g, hs1, show s.cps.size ≤ 16777214 by omega, e1, cBools, asList, bools_map, cSum, ints_map, ea, sp_cps, split_wd, cAll, cLe]
  · have ei : isT s = false := by
      cases q : isT s with
      | false => rfl
      | true => exact absurd (isT_len q) (by omega)
    have g : (24 : Int) < (s.cps.size : Int) := by omega
    rw [ei]
    simp [c_is_typed, cs_is_typed, cRof, startD, N_is_typed, cSeq, cIfS, cOrT, cNotT, cTest, cIsi, okv, vw, tyN, isiB, cOp, cI0, cMul, CMul, cCB, cLen, cCons, cNil, cVar, cC, cRet, cNext, Out.val, cSet, cM1, cSplitR, argOk, cAnd, Str.length, sizeLine, g, hs1,   cBools, asList, cSum, sp_cps, split_wd, cAll, cLe]
end LP

/-! ==== PD05 ==== -/
set_option Elab.async false
set_option linter.all false
set_option maxRecDepth 100000
set_option maxHeartbeats 0
namespace LP
open PySem PySem.Spec PyProof.Rows L2 DL LW
/-- the same names, by size -/
def KL : List Str := [⟨#[65, 49]⟩, ⟨#[65, 50]⟩, ⟨#[66, 50]⟩, ⟨#[71, 50]⟩, ⟨#[65, 51]⟩, ⟨#[66, 51]⟩, ⟨#[67, 51]⟩, ⟨#[65, 52]⟩, ⟨#[66, 52]⟩, ⟨#[67, 52]⟩, ⟨#[68, 52]⟩, ⟨#[70, 52]⟩, ⟨#[65, 53]⟩, ⟨#[66, 53]⟩, ⟨#[67, 53]⟩, ⟨#[68, 53]⟩,
  ⟨#[65, 54]⟩, ⟨#[66, 54]⟩, ⟨#[67, 54]⟩, ⟨#[68, 54]⟩, ⟨#[69, 54]⟩, ⟨#[65, 55]⟩, ⟨#[66, 55]⟩, ⟨#[67, 55]⟩, ⟨#[68, 55]⟩, ⟨#[69, 55]⟩, ⟨#[65, 56]⟩, ⟨#[66, 56]⟩, ⟨#[67, 56]⟩, ⟨#[68, 56]⟩, ⟨#[69, 56]⟩]
theorem kl_kn : ∀ w ∈ KL, w ∈ KN := by decide +kernel
theorem kn_kl : ∀ w ∈ KN, w ∈ KL := by decide +kernel
theorem mem_kl (w : Str) : decide (w ∈ KL) = decide (w ∈ KN) := decide_eq_decide.mpr ⟨kl_kn w, kn_kl w⟩
def cF1 : CS := cFor (ciRng2 (cCons (cC (.int 1)) (cCons (cC (.int 9)) cNil))) (cgName 3) (cSet 1 (cOp cAdd (cVar 1) (cCall c__law_names (cCons (cVar 3) cNil))))
def lst? : Option Out → Option (List PyData)
  | some (.nx [_, some (.d (.list ys)), some (.d (.int 0)), some (.d (.int 8)), none]) => some ys
  | _ => none
theorem known_ok (v : PyData) : cF1 [some (.d v), some (.d (.list [])), some (.d (.int 0)), none, none] = some (.nx [some (.d v), some (.d (.list (KL.map .str))), some (.d (.int 0)), some (.d (.int 8)), none]) := by kernel_rfl
theorem in_strs (w : Str) : ∀ ks : List Str, inD (.str w) (ks.map .str) = decide (w ∈ ks)
  | [] => rfl
  | k :: ks => by
    have h := in_strs w ks
    unfold inD inV at h ⊢
    rw [List.map_cons, List.map_cons, List.any_cons, h]
    show ((k == w) || decide (w ∈ ks)) = decide (w ∈ k :: ks)
    by_cases e : k = w
    · rw [e, beq_self_eq_true]
      simp
    · rw [beq_eq_false_iff_ne.mpr e]
      have : ¬ (w = k) := fun z => e z.symm
      simp [this]
theorem flat_strs : ∀ ks : List Str, (ks.map PyData.str).all flatD = true
  | [] => rfl
  | k :: ks => by
    rw [List.map_cons, List.all_cons, flat_strs ks]
    rfl
def cB2 : CS := cSeq (cIfS (cTest (cOp cNotIn (cVar 4) (cVar 1))) (cRet (cC (.bool false))) cNext) (cSet 2 (cOp cAdd (cVar 2) (cCB cInt (cCons (cSl (cVar 4) (cPart (cC (.int 1))) cNoPart) cNil))))
theorem notin_kl (w : Str) : cNotIn (.d (.str w)) (.d (.list (KL.map .str))) = some (.d (.bool (!decide (w ∈ KN)))) := by
  rw [← mem_kl]
  show (if flatD (.str w) = true ∧ (KL.map PyData.str).all flatD = true then some (OV.d (.bool (not (inD (.str w) (KL.map .str))))) else none) = _
  rw [if_pos ⟨rfl, flat_strs KL⟩, in_strs]
theorem loop_in (v : PyData) : ∀ (ws : List Str) (n : Int) (x : Option OV), (∀ w ∈ ws, w ∈ KN) → ∃ x', cLoop (cgName 4) cB2 (ws.map .str) [some (.d v), some (.d (.list (KL.map .str))), some (.d (.int n)), some (.d (.int 8)), x] =
    some (.nx [some (.d v), some (.d (.list (KL.map .str))), some (.d (.int (n + (ws.map fun w => (dgN w : Int)).sum))), some (.d (.int 8)), x'])
  | [], n, x, _ => ⟨x, by simp [cLoop]⟩
  | w :: ws, n, x, h => by
    obtain ⟨x', ih⟩ := loop_in v ws (n + dgN w) (some (.d (.str w))) fun y hy => h y (List.mem_cons_of_mem _ hy)
    refine ⟨x', ?_⟩
    obtain ⟨y, q1, q2⟩ := kn_sl1 (h w List.mem_cons_self)
    have q3 := notin_kl w
    rw [decide_eq_true (h w List.mem_cons_self)] at q3
    rw [List.map_cons, List.map_cons, List.sum_cons, ← Int.add_assoc, ← ih]
    simp [cLoop, cB2, cgName, cSeq, cIfS, cTest, cOp, cVar, q3, cNext, cSet, cCB, cCons, cSl, cPart, cNoPart, cC, cNil, q1, q2, cAdd, argOk]
theorem loop_out (v : PyData) : ∀ (ws : List Str) (n : Int) (x : Option OV), (¬ ∀ w ∈ ws, w ∈ KN) → cLoop (cgName 4) cB2 (ws.map .str) [some (.d v), some (.d (.list (KL.map .str))), some (.d (.int n)), some (.d (.int 8)), x] = some (.rt (.bool false))
  | [], n, x, h => (h fun _ z => nomatch z).elim
  | w :: ws, n, x, h => by
    have q3 := notin_kl w
    by_cases hw : w ∈ KN
    · rw [decide_eq_true hw] at q3
      obtain ⟨y, q1, q2⟩ := kn_sl1 hw
      have ih := loop_out v ws (n + dgN w) (some (.d (.str w))) fun z => h fun y hy => by
        rcases List.mem_cons.mp hy with e | e
        · rw [e]; exact hw
        · exact z y e
      rw [List.map_cons, ← ih]
      simp [cLoop, cB2, cgName, cSeq, cIfS, cTest, cOp, cVar, q3, cNext, cSet, cCB, cCons, cSl, cPart, cNoPart, cC, cNil, q1, q2, cAdd, argOk]
    · rw [decide_eq_false hw] at q3
      simp [cLoop, cB2, cgName, cSeq, cIfS, cTest, cOp, cVar, q3, cRet, cC, okv, vw]
def cF2 : CS := cFor (ciList (cM1 cSplitR (cVar 0) (cC (.str " ")))) (cgName 4) cB2
theorem cs_eq : cs__law_is_type = cSeq (cIfS (cNotT (cTest (cIsi "str" (cVar 0)))) (cRet (cC (.bool false))) cNext) (cSeq (cPar 1 2 (cCons (cLst cNil) (cCons (cC (.int 0)) cNil))) (cSeq cF1 (cSeq cF2 (cRet (cOp cLe (cVar 2) (cC (.int 8))))))) := rfl
theorem cF2_ok (s : Str) (hs : s.cps.size + 2 ≤ sizeLine) (ρ : DEnv) (h0 : ρ[0]? = some (some (.d (.str s)))) : cF2 ρ = cLoop (cgName 4) cB2 ((wd s).map .str) ρ := by
  have hs' : s.cps.size + 2 ≤ 16777216 := hs
  simp [cF2, cFor, ciList, cM1, cVar, h0, cC, cSplitR, sp_cps, split_wd, Str.length, sizeLine, show s.cps.size ≤ 16777214 by omega]
theorem law_ok (s : Str) (hs : s.cps.size + 2 ≤ sizeLine) : c__law_is_type [.d (.str s)] = some (.bool (isT s)) := by
  have hk := known_ok (.str s)
  have h2 := cF2_ok s hs [some (.d (.str s)), some (.d (.list (KL.map .str))), some (.d (.int 0)), some (.d (.int 8)), none] rfl
  by_cases ha : ∀ w ∈ wd s, w ∈ KN
  · obtain ⟨x', hl⟩ := loop_in (.str s) (wd s) 0 none ha
    have ei : isT s = decide (((wd s).map fun w => (dgN w : Int)).sum ≤ 8) := by
      unfold isT
      rw [List.all_eq_true.mpr fun w hw => decide_eq_true (ha w hw), Bool.true_and]
    rw [ei]
    rw [hl] at h2
    simp [c__law_is_type, cs_eq, cRof, startD, N__law_is_type, cSeq, cIfS, cNotT, cTest, cIsi, okv, vw, tyN, isiB, cRet, cC, cNext, cPar, cCons, cLst, cNil, cVar, ovs, argOk, hk, h2, sizeLine, cOp, cI0, cLe, Out.val]
  · have hl := loop_out (.str s) (wd s) 0 none ha
    have ei : isT s = false := by
      unfold isT
      rw [Bool.and_eq_false_iff]
      left
      cases q : (wd s).all fun w => decide (w ∈ KN) with
      | false => rfl
      | true => exact absurd (fun w hw => of_decide_eq_true (List.all_eq_true.mp q w hw)) ha
    rw [ei]
    rw [hl] at h2
    simp [c__law_is_type, cs_eq, cRof, startD, N__law_is_type, cSeq, cIfS, cNotT, cTest, cIsi, okv, vw, tyN, isiB, cRet, cC, cNext, cPar, cCons, cLst, cNil, cVar, ovs, argOk, hk, h2, sizeLine, cOp, cI0, cLe, Out.val]
theorem is_type_ok {d : PyData} {b : Bool} (h : c_is_typed [.d d] = some (.bool b)) : c_is_type [.d d] = some (.bool b) := by
  simp [c_is_type, cs_is_type, cRof, startD, N_is_type, cRet, cCall, cCons, cNil, cVar, argOk, h, okv, vw, Out.val]
theorem matrix_of_ok {d M : PyData} (h : c_is_typed [.d d] = some (.bool true)) (hm : c_matrix_by [.d d] = some M) : c_matrix_of [.d d] = some M := by
  simp [c_matrix_of, cs_matrix_of, c_check_type, cs_check_type, cRof, startD, N_matrix_of, N_check_type, cSeq, cDrop, cIfS, cNotT, cTest, cNever, cNext, cRet, cCall, cCons, cNil, cVar, argOk, h, hm, okv, vw, Out.val]
theorem rank_of_ok {d : PyData} {rs : List PyData} (h : c_is_typed [.d d] = some (.bool true)) (hm : c_matrix_by [.d d] = some (.tuple rs)) : c_rank_of [.d d] = some (.int rs.length) := by
  simp [c_rank_of, cs_rank_of, c_check_type, cs_check_type, cRof, startD, N_rank_of, N_check_type, cSeq, cDrop, cIfS, cNotT, cTest, cNever, cNext, cRet, cCall, cCB, cLen, cCons, cNil, cVar, argOk, h, hm, okv, vw, Out.val]
end LP

/-! ==== PE05 ==== -/
set_option Elab.async false
set_option linter.all false
set_option maxRecDepth 100000
set_option maxHeartbeats 0
namespace LP
open PySem PySem.Spec PyProof.Rows L2 DL LW
/-! ## the blocks -/
def KT : List (Str × List (Nat × Nat × Int × Int) × List (List Int)) := [
  (⟨#[65, 49]⟩, [], [[2]]),
  (⟨#[65, 50]⟩, [(0, 1, (-1), (-1))], [[2, (-1)], [(-1), 2]]),
  (⟨#[65, 51]⟩, [(0, 1, (-1), (-1)), (1, 2, (-1), (-1))], [[2, (-1), 0], [(-1), 2, (-1)], [0, (-1), 2]]),
  (⟨#[65, 52]⟩, [(0, 1, (-1), (-1)), (1, 2, (-1), (-1)), (2, 3, (-1), (-1))], [[2, (-1), 0, 0], [(-1), 2, (-1), 0], [0, (-1), 2, (-1)], [0, 0, (-1), 2]]),
  (⟨#[65, 53]⟩, [(0, 1, (-1), (-1)), (1, 2, (-1), (-1)), (2, 3, (-1), (-1)), (3, 4, (-1), (-1))], [[2, (-1), 0, 0, 0], [(-1), 2, (-1), 0, 0], [0, (-1), 2, (-1), 0], [0, 0, (-1), 2, (-1)], [0, 0, 0, (-1), 2]]),
  (⟨#[65, 54]⟩, [(0, 1, (-1), (-1)), (1, 2, (-1), (-1)), (2, 3, (-1), (-1)), (3, 4, (-1), (-1)), (4, 5, (-1), (-1))], [[2, (-1), 0, 0, 0, 0], [(-1), 2, (-1), 0, 0, 0], [0, (-1), 2, (-1), 0, 0], [0, 0, (-1), 2, (-1), 0], [0, 0, 0, (-1), 2, (-1)], [0, 0, 0, 0, (-1), 2]]),
  (⟨#[65, 55]⟩, [(0, 1, (-1), (-1)), (1, 2, (-1), (-1)), (2, 3, (-1), (-1)), (3, 4, (-1), (-1)), (4, 5, (-1), (-1)), (5, 6, (-1), (-1))], [[2, (-1), 0, 0, 0, 0, 0], [(-1), 2, (-1), 0, 0, 0, 0], [0, (-1), 2, (-1), 0, 0, 0], [0, 0, (-1), 2, (-1), 0, 0], [0, 0, 0, (-1), 2, (-1), 0], [0, 0, 0, 0, (-1), 2, (-1)], [0, 0, 0, 0, 0, (-1), 2]]),
  (⟨#[65, 56]⟩, [(0, 1, (-1), (-1)), (1, 2, (-1), (-1)), (2, 3, (-1), (-1)), (3, 4, (-1), (-1)), (4, 5, (-1), (-1)), (5, 6, (-1), (-1)), (6, 7, (-1), (-1))], [[2, (-1), 0, 0, 0, 0, 0, 0], [(-1), 2, (-1), 0, 0, 0, 0, 0], [0, (-1), 2, (-1), 0, 0, 0, 0], [0, 0, (-1), 2, (-1), 0, 0, 0], [0, 0, 0, (-1), 2, (-1), 0, 0], [0, 0, 0, 0, (-1), 2, (-1), 0], [0, 0, 0, 0, 0, (-1), 2, (-1)], [0, 0, 0, 0, 0, 0, (-1), 2]]),
  (⟨#[66, 50]⟩, [(0, 1, (-1), (-2))], [[2, (-1)], [(-2), 2]]),
  (⟨#[66, 51]⟩, [(0, 1, (-1), (-1)), (1, 2, (-1), (-2))], [[2, (-1), 0], [(-1), 2, (-1)], [0, (-2), 2]]),
  (⟨#[66, 52]⟩, [(0, 1, (-1), (-1)), (1, 2, (-1), (-1)), (2, 3, (-1), (-2))], [[2, (-1), 0, 0], [(-1), 2, (-1), 0], [0, (-1), 2, (-1)], [0, 0, (-2), 2]]),
  (⟨#[66, 53]⟩, [(0, 1, (-1), (-1)), (1, 2, (-1), (-1)), (2, 3, (-1), (-1)), (3, 4, (-1), (-2))], [[2, (-1), 0, 0, 0], [(-1), 2, (-1), 0, 0], [0, (-1), 2, (-1), 0], [0, 0, (-1), 2, (-1)], [0, 0, 0, (-2), 2]]),
  (⟨#[66, 54]⟩, [(0, 1, (-1), (-1)), (1, 2, (-1), (-1)), (2, 3, (-1), (-1)), (3, 4, (-1), (-1)), (4, 5, (-1), (-2))], [[2, (-1), 0, 0, 0, 0], [(-1), 2, (-1), 0, 0, 0], [0, (-1), 2, (-1), 0, 0], [0, 0, (-1), 2, (-1), 0], [0, 0, 0, (-1), 2, (-1)], [0, 0, 0, 0, (-2), 2]]),
  (⟨#[66, 55]⟩, [(0, 1, (-1), (-1)), (1, 2, (-1), (-1)), (2, 3, (-1), (-1)), (3, 4, (-1), (-1)), (4, 5, (-1), (-1)), (5, 6, (-1), (-2))], [[2, (-1), 0, 0, 0, 0, 0], [(-1), 2, (-1), 0, 0, 0, 0], [0, (-1), 2, (-1), 0, 0, 0], [0, 0, (-1), 2, (-1), 0, 0], [0, 0, 0, (-1), 2, (-1), 0], [0, 0, 0, 0, (-1), 2, (-1)], [0, 0, 0, 0, 0, (-2), 2]]),
  (⟨#[66, 56]⟩, [(0, 1, (-1), (-1)), (1, 2, (-1), (-1)), (2, 3, (-1), (-1)), (3, 4, (-1), (-1)), (4, 5, (-1), (-1)), (5, 6, (-1), (-1)), (6, 7, (-1), (-2))], [[2, (-1), 0, 0, 0, 0, 0, 0], [(-1), 2, (-1), 0, 0, 0, 0, 0], [0, (-1), 2, (-1), 0, 0, 0, 0], [0, 0, (-1), 2, (-1), 0, 0, 0], [0, 0, 0, (-1), 2, (-1), 0, 0], [0, 0, 0, 0, (-1), 2, (-1), 0], [0, 0, 0, 0, 0, (-1), 2, (-1)], [0, 0, 0, 0, 0, 0, (-2), 2]]),
  (⟨#[67, 51]⟩, [(0, 1, (-1), (-1)), (1, 2, (-2), (-1))], [[2, (-1), 0], [(-1), 2, (-2)], [0, (-1), 2]]),
  (⟨#[67, 52]⟩, [(0, 1, (-1), (-1)), (1, 2, (-1), (-1)), (2, 3, (-2), (-1))], [[2, (-1), 0, 0], [(-1), 2, (-1), 0], [0, (-1), 2, (-2)], [0, 0, (-1), 2]]),
  (⟨#[67, 53]⟩, [(0, 1, (-1), (-1)), (1, 2, (-1), (-1)), (2, 3, (-1), (-1)), (3, 4, (-2), (-1))], [[2, (-1), 0, 0, 0], [(-1), 2, (-1), 0, 0], [0, (-1), 2, (-1), 0], [0, 0, (-1), 2, (-2)], [0, 0, 0, (-1), 2]]),
  (⟨#[67, 54]⟩, [(0, 1, (-1), (-1)), (1, 2, (-1), (-1)), (2, 3, (-1), (-1)), (3, 4, (-1), (-1)), (4, 5, (-2), (-1))], [[2, (-1), 0, 0, 0, 0], [(-1), 2, (-1), 0, 0, 0], [0, (-1), 2, (-1), 0, 0], [0, 0, (-1), 2, (-1), 0], [0, 0, 0, (-1), 2, (-2)], [0, 0, 0, 0, (-1), 2]]),
  (⟨#[67, 55]⟩, [(0, 1, (-1), (-1)), (1, 2, (-1), (-1)), (2, 3, (-1), (-1)), (3, 4, (-1), (-1)), (4, 5, (-1), (-1)), (5, 6, (-2), (-1))], [[2, (-1), 0, 0, 0, 0, 0], [(-1), 2, (-1), 0, 0, 0, 0], [0, (-1), 2, (-1), 0, 0, 0], [0, 0, (-1), 2, (-1), 0, 0], [0, 0, 0, (-1), 2, (-1), 0], [0, 0, 0, 0, (-1), 2, (-2)], [0, 0, 0, 0, 0, (-1), 2]]),
  (⟨#[67, 56]⟩, [(0, 1, (-1), (-1)), (1, 2, (-1), (-1)), (2, 3, (-1), (-1)), (3, 4, (-1), (-1)), (4, 5, (-1), (-1)), (5, 6, (-1), (-1)), (6, 7, (-2), (-1))], [[2, (-1), 0, 0, 0, 0, 0, 0], [(-1), 2, (-1), 0, 0, 0, 0, 0], [0, (-1), 2, (-1), 0, 0, 0, 0], [0, 0, (-1), 2, (-1), 0, 0, 0], [0, 0, 0, (-1), 2, (-1), 0, 0], [0, 0, 0, 0, (-1), 2, (-1), 0], [0, 0, 0, 0, 0, (-1), 2, (-2)], [0, 0, 0, 0, 0, 0, (-1), 2]]),
  (⟨#[68, 52]⟩, [(0, 1, (-1), (-1)), (1, 2, (-1), (-1)), (1, 3, (-1), (-1))], [[2, (-1), 0, 0], [(-1), 2, (-1), (-1)], [0, (-1), 2, 0], [0, (-1), 0, 2]]),
  (⟨#[68, 53]⟩, [(0, 1, (-1), (-1)), (1, 2, (-1), (-1)), (2, 3, (-1), (-1)), (2, 4, (-1), (-1))], [[2, (-1), 0, 0, 0], [(-1), 2, (-1), 0, 0], [0, (-1), 2, (-1), (-1)], [0, 0, (-1), 2, 0], [0, 0, (-1), 0, 2]]),
  (⟨#[68, 54]⟩, [(0, 1, (-1), (-1)), (1, 2, (-1), (-1)), (2, 3, (-1), (-1)), (3, 4, (-1), (-1)), (3, 5, (-1), (-1))], [[2, (-1), 0, 0, 0, 0], [(-1), 2, (-1), 0, 0, 0], [0, (-1), 2, (-1), 0, 0], [0, 0, (-1), 2, (-1), (-1)], [0, 0, 0, (-1), 2, 0], [0, 0, 0, (-1), 0, 2]]),
  (⟨#[68, 55]⟩, [(0, 1, (-1), (-1)), (1, 2, (-1), (-1)), (2, 3, (-1), (-1)), (3, 4, (-1), (-1)), (4, 5, (-1), (-1)), (4, 6, (-1), (-1))], [[2, (-1), 0, 0, 0, 0, 0], [(-1), 2, (-1), 0, 0, 0, 0], [0, (-1), 2, (-1), 0, 0, 0], [0, 0, (-1), 2, (-1), 0, 0], [0, 0, 0, (-1), 2, (-1), (-1)], [0, 0, 0, 0, (-1), 2, 0], [0, 0, 0, 0, (-1), 0, 2]]),
  (⟨#[68, 56]⟩, [(0, 1, (-1), (-1)), (1, 2, (-1), (-1)), (2, 3, (-1), (-1)), (3, 4, (-1), (-1)), (4, 5, (-1), (-1)), (5, 6, (-1), (-1)), (5, 7, (-1), (-1))], [[2, (-1), 0, 0, 0, 0, 0, 0], [(-1), 2, (-1), 0, 0, 0, 0, 0], [0, (-1), 2, (-1), 0, 0, 0, 0], [0, 0, (-1), 2, (-1), 0, 0, 0], [0, 0, 0, (-1), 2, (-1), 0, 0], [0, 0, 0, 0, (-1), 2, (-1), (-1)], [0, 0, 0, 0, 0, (-1), 2, 0], [0, 0, 0, 0, 0, (-1), 0, 2]]),
  (⟨#[69, 54]⟩, [(0, 2, (-1), (-1)), (2, 3, (-1), (-1)), (3, 4, (-1), (-1)), (4, 5, (-1), (-1)), (1, 3, (-1), (-1))], [[2, 0, (-1), 0, 0, 0], [0, 2, 0, (-1), 0, 0], [(-1), 0, 2, (-1), 0, 0], [0, (-1), (-1), 2, (-1), 0], [0, 0, 0, (-1), 2, (-1)], [0, 0, 0, 0, (-1), 2]]),
  (⟨#[69, 55]⟩, [(0, 2, (-1), (-1)), (2, 3, (-1), (-1)), (3, 4, (-1), (-1)), (4, 5, (-1), (-1)), (5, 6, (-1), (-1)), (1, 3, (-1), (-1))], [[2, 0, (-1), 0, 0, 0, 0], [0, 2, 0, (-1), 0, 0, 0], [(-1), 0, 2, (-1), 0, 0, 0], [0, (-1), (-1), 2, (-1), 0, 0], [0, 0, 0, (-1), 2, (-1), 0], [0, 0, 0, 0, (-1), 2, (-1)], [0, 0, 0, 0, 0, (-1), 2]]),
  (⟨#[69, 56]⟩, [(0, 2, (-1), (-1)), (2, 3, (-1), (-1)), (3, 4, (-1), (-1)), (4, 5, (-1), (-1)), (5, 6, (-1), (-1)), (6, 7, (-1), (-1)), (1, 3, (-1), (-1))], [[2, 0, (-1), 0, 0, 0, 0, 0], [0, 2, 0, (-1), 0, 0, 0, 0], [(-1), 0, 2, (-1), 0, 0, 0, 0], [0, (-1), (-1), 2, (-1), 0, 0, 0], [0, 0, 0, (-1), 2, (-1), 0, 0], [0, 0, 0, 0, (-1), 2, (-1), 0], [0, 0, 0, 0, 0, (-1), 2, (-1)], [0, 0, 0, 0, 0, 0, (-1), 2]]),
  (⟨#[70, 52]⟩, [(0, 1, (-1), (-1)), (1, 2, (-1), (-2)), (2, 3, (-1), (-1))], [[2, (-1), 0, 0], [(-1), 2, (-1), 0], [0, (-2), 2, (-1)], [0, 0, (-1), 2]]),
  (⟨#[71, 50]⟩, [(0, 1, (-3), (-1))], [[2, (-3)], [(-1), 2]])]
def jt (w : Str) : List (Nat × Nat × Int × Int) := ((KT.lookup w).map (·.1)).getD []
def bk (w : Str) : List (List Int) := ((KT.lookup w).map (·.2)).getD []
def set2 (R : List (List Int)) (i j : Nat) (v : Int) : List (List Int) := match R[i]? with
  | some r => R.set i (r.set j v)
  | none => R
def app (st : Nat) (R : List (List Int)) (q : Nat × Nat × Int × Int) : List (List Int) := set2 (set2 R (st + q.1) (st + q.2.1) q.2.2.1) (st + q.2.1) (st + q.1) q.2.2.2
def dia (st : Nat) (R : List (List Int)) (i : Nat) : List (List Int) := set2 R (st + i) (st + i) 2
def rowD (r : List Int) : PyData := .tuple (r.map .int)
def jtD (q : Nat × Nat × Int × Int) : PyData := .list [.int q.1, .int q.2.1, .int q.2.2.1, .int q.2.2.2]
theorem f_jt : ∀ w ∈ KN, (match c_joints_of [.d (.str w)] with
    | some d => eqD d (.list ((jt w).map jtD))
    | none => false) = true := by decide +kernel
theorem f_bk : ∀ w ∈ KN, (match c__law_single [.d (.str w)] with
    | some d => eqD d (.tuple ((bk w).map rowD))
    | none => false) = true := by decide +kernel
theorem f_fold : ∀ w ∈ KN, (jt w).foldl (app 0) ((List.range (dgN w)).foldl (dia 0) (List.replicate (dgN w) (List.replicate (dgN w) 0))) = bk w := by decide +kernel
theorem f_ix : ∀ w ∈ KN, ∀ q ∈ jt w, q.1 < dgN w ∧ q.2.1 < dgN w := by decide +kernel
theorem f_sh : ∀ w ∈ KN, (bk w).length = dgN w ∧ ∀ r ∈ bk w, r.length = dgN w := by decide +kernel
theorem joints_ok {w : Str} (h : w ∈ KN) : c_joints_of [.d (.str w)] = some (.list ((jt w).map jtD)) := by
  have k := f_jt w h
  split at k
  · rename_i d e
    rw [e, eqD_ok _ _ k]
  · cases k
theorem single_ok {w : Str} (h : w ∈ KN) : c__law_single [.d (.str w)] = some (.tuple ((bk w).map rowD)) := by
  have k := f_bk w h
  split at k
  · rename_i d e
    rw [e, eqD_ok _ _ k]
  · cases k
/-! ### writing into rows -/
def Shape (R : List (List Int)) (m : Nat) : Prop := R.length = m ∧ ∀ r ∈ R, r.length = m
theorem set2_len (R : List (List Int)) (i j : Nat) (v : Int) : (set2 R i j v).length = R.length := by
  unfold set2
  split
  · rw [List.length_set]
  · rfl
theorem set2_rows {n : Nat} (R : List (List Int)) (i j : Nat) (v : Int) (h : ∀ r ∈ R, r.length = n) : ∀ r ∈ set2 R i j v, r.length = n := by
  unfold set2
  split
  · rename_i r e
    intro x hx
    rcases List.mem_or_eq_of_mem_set hx with z | z
    · exact h x z
    · rw [z, List.length_set]
      exact h r (List.mem_of_getElem? e)
  · exact h
theorem Shape.set2 {R : List (List Int)} {m : Nat} (h : Shape R m) (i j : Nat) (v : Int) : Shape (set2 R i j v) m := ⟨by rw [set2_len]; exact h.1, set2_rows R i j v h.2⟩
def padR (st e : Nat) (r : List Int) : List Int := List.replicate st 0 ++ r ++ List.replicate e 0
def pad (st e : Nat) (M : List (List Int)) : List (List Int) := M.map (padR st e)
theorem set2_pad (P M Z : List (List Int)) (st e i j n : Nat) (v : Int) (hP : P.length = st) (hi : i < M.length) (hM : ∀ r ∈ M, r.length = n) (hj : j < n) :
    set2 (P ++ (pad st e M ++ Z)) (st + i) (st + j) v = P ++ (pad st e (set2 M i j v) ++ Z) := by
  have e1 : (P ++ (pad st e M ++ Z))[st + i]? = some (padR st e M[i]) := by
    rw [List.getElem?_append_right (by omega), hP, Nat.add_sub_cancel_left, List.getElem?_append_left (by simpa [pad] using hi)]
    simp [pad, hi]
  have e2 : M[i]? = some M[i] := List.getElem?_eq_getElem hi
  have hr : M[i].length = n := hM _ (List.getElem_mem hi)
  unfold set2
  rw [e1, e2]
  have e3 : (padR st e M[i]).set (st + j) v = padR st e (M[i].set j v) := by
    unfold padR
    rw [List.append_assoc, List.set_append_right _ _ (by simp), List.length_replicate, Nat.add_sub_cancel_left, List.set_append_left _ _ (by omega), List.append_assoc]
  show (P ++ (pad st e M ++ Z)).set (st + i) ((padR st e M[i]).set (st + j) v) = P ++ (pad st e (M.set i (M[i].set j v)) ++ Z)
  rw [e3, List.set_append_right _ _ (by omega), hP, Nat.add_sub_cancel_left, List.set_append_left _ _ (by simpa [pad] using hi)]
  congr 2
  unfold pad
  rw [List.map_set]
theorem dia_pad (P Z : List (List Int)) (st e n : Nat) (hP : P.length = st) : ∀ (l : List Nat) (M : List (List Int)), (∀ i ∈ l, i < n) → M.length = n → (∀ r ∈ M, r.length = n) → l.foldl (dia st) (P ++ (pad st e M ++ Z)) = P ++ (pad st e (l.foldl (dia 0) M) ++ Z)
  | [], M, _, _, _ => rfl
  | i :: l, M, hi, hl, hM => by
    have h1 : dia st (P ++ (pad st e M ++ Z)) i = P ++ (pad st e (dia 0 M i) ++ Z) := by
      unfold dia
      rw [set2_pad P M Z st e i i n 2 hP (by rw [hl]; exact hi i List.mem_cons_self) hM (hi i List.mem_cons_self), Nat.zero_add]
    rw [List.foldl_cons, List.foldl_cons, h1]
    exact dia_pad P Z st e n hP l _ (fun j hj => hi j (List.mem_cons_of_mem _ hj)) (by unfold dia; rw [set2_len]; exact hl) (set2_rows M _ _ _ hM)
theorem app_pad (P Z : List (List Int)) (st e n : Nat) (hP : P.length = st) : ∀ (l : List (Nat × Nat × Int × Int)) (M : List (List Int)), (∀ q ∈ l, q.1 < n ∧ q.2.1 < n) → M.length = n → (∀ r ∈ M, r.length = n) → l.foldl (app st) (P ++ (pad st e M ++ Z)) = P ++ (pad st e (l.foldl (app 0) M) ++ Z)
  | [], M, _, _, _ => rfl
  | q :: l, M, hi, hl, hM => by
    obtain ⟨q1, q2⟩ := hi q List.mem_cons_self
    have h1 : app st (P ++ (pad st e M ++ Z)) q = P ++ (pad st e (app 0 M q) ++ Z) := by
      unfold app
      rw [set2_pad P M Z st e _ _ n _ hP (by rw [hl]; exact q1) hM q2, set2_pad P _ Z st e _ _ n _ hP (by rw [set2_len, hl]; exact q2) (set2_rows M _ _ _ hM) q1, Nat.zero_add, Nat.zero_add]
    rw [List.foldl_cons, List.foldl_cons, h1]
    exact app_pad P Z st e n hP l _ (fun j hj => hi j (List.mem_cons_of_mem _ hj)) (by unfold app; rw [set2_len, set2_len]; exact hl) (set2_rows _ _ _ _ (set2_rows M _ _ _ hM))
def rowsOf (m : Nat) : Nat → List Str → List (List Int)
  | _, [] => []
  | st, w :: ws => pad st (m - st - dgN w) (bk w) ++ rowsOf m (st + dgN w) ws
def sumN (ws : List Str) : Nat := (ws.map dgN).sum
theorem sumN_int : ∀ ws : List Str, (ws.map fun w => (dgN w : Int)).sum = (sumN ws : Int)
  | [] => rfl
  | w :: ws => by
    rw [List.map_cons, List.sum_cons, sumN_int ws]
    show (dgN w : Int) + (sumN ws : Int) = ((dgN w + sumN ws : Nat) : Int)
    omega
/-- one name more -/
theorem step_name {P : List (List Int)} {st m k : Nat} {w : Str} (h : w ∈ KN) (hP : P.length = st) (hk : st + dgN w + k = m) :
    (jt w).foldl (app st) ((List.range (dgN w)).foldl (dia st) (P ++ List.replicate (dgN w + k) (List.replicate m 0))) = (P ++ pad st (m - st - dgN w) (bk w)) ++ List.replicate k (List.replicate m 0) := by
  have ez : List.replicate (dgN w + k) (List.replicate m (0 : Int)) = pad st (m - st - dgN w) (List.replicate (dgN w) (List.replicate (dgN w) 0)) ++ List.replicate k (List.replicate m 0) := by
    rw [← List.replicate_append_replicate]
    congr 1
    unfold pad padR
    rw [List.map_replicate, List.replicate_append_replicate, List.replicate_append_replicate]
    congr 2
    omega
  rw [ez, dia_pad P _ st _ (dgN w) hP _ _ (fun i hi => List.mem_range.mp hi) (List.length_replicate ..) (fun r hr => by rw [List.eq_of_mem_replicate hr, List.length_replicate])]
  have sh : ∀ (l : List Nat) (M : List (List Int)), M.length = dgN w → (∀ r ∈ M, r.length = dgN w) → (l.foldl (dia 0) M).length = dgN w ∧ ∀ r ∈ l.foldl (dia 0) M, r.length = dgN w := by
    intro l
    induction l with
    | nil => exact fun M a b => ⟨a, b⟩
    | cons i l ih => exact fun M a b => ih _ (by unfold dia; rw [set2_len]; exact a) (set2_rows M _ _ _ b)
  obtain ⟨s1, s2⟩ := sh (List.range (dgN w)) (List.replicate (dgN w) (List.replicate (dgN w) 0)) (List.length_replicate ..) (fun r hr => by rw [List.eq_of_mem_replicate hr, List.length_replicate])
  rw [app_pad P _ st _ (dgN w) hP _ _ (f_ix w h) s1 s2, f_fold w h, List.append_assoc]
end LP

/-! ==== PF05 ==== -/
set_option Elab.async false
set_option linter.all false
set_option maxRecDepth 100000
set_option maxHeartbeats 0
namespace LP
open PySem PySem.Spec PyProof.Rows L2 DL LW
/-! ## matrix_by -/
def ovR (r : List Int) : OV := .lst (r.map fun x => .d (.int x))
def ov (R : List (List Int)) : List OV := R.map ovR
theorem ov_len (R : List (List Int)) : (ov R).length = R.length := by
  unfold ov
  rw [List.length_map]
theorem ov_set (R : List (List Int)) (i j : Nat) (v : Int) (r : List Int) (e : R[i]? = some r) : (ov R).set i (.lst ((r.map fun x => OV.d (.int x)).set j (.d (.int v)))) = ov (set2 R i j v) := by
  unfold set2
  rw [e]
  show _ = (R.set i (r.set j v)).map ovR
  rw [List.map_set]
  show _ = (R.map ovR).set i (.lst ((r.set j v).map fun x => OV.d (.int x)))
  rw [List.map_set]
  rfl
theorem ixN_nat {n i : Nat} (h : i < n) : ixN n (i : Int) = some i := by
  unfold ixN
  rw [if_pos (Int.natCast_nonneg i), if_pos (by omega)]
  simp
theorem set2_ok {a b d : CE} {ρ : DEnv} {R : List (List Int)} {m s i j : Nat} {v : Int} (hg : getL ρ s = some (ov R)) (sh : Shape R m) (ha : a ρ = some (.d (.int v))) (hb : b ρ = some (.d (.int (i : Nat)))) (hd : d ρ = some (.d (.int (j : Nat)))) (hi : i < m) (hj : j < m) :
    cSet2 s a b d ρ = some (.nx (ρ.set s (some (.lst (ov (set2 R i j v)))))) := by
  have hiR : i < R.length := by rw [sh.1]; exact hi
  have e : R[i]? = some R[i] := List.getElem?_eq_getElem hiR
  have hr : R[i].length = m := sh.2 _ (List.getElem_mem hiR)
  have e2 : (ov R)[i]? = some (ovR R[i]) := by
    unfold ov
    rw [List.getElem?_map, e]
    rfl
  unfold cSet2
  rw [hg, Option.bind_some, ha, Option.bind_some, hb, Option.bind_some]
  show (ixN (ov R).length (i : Int)).bind _ = _
  rw [ov_len, ixN_nat hiR, Option.bind_some, e2]
  show (some (R[i].map fun x => OV.d (.int x))).bind _ = _
  rw [Option.bind_some, hd, Option.bind_some]
  show (if argOk (.d (.int v)) = true then (ixN (R[i].map fun x => OV.d (.int x)).length (j : Int)).map _ else none) = _
  rw [if_pos (show argOk (OV.d (PyData.int v)) = true from rfl), List.length_map, ixN_nat (by omega), Option.map_some, ov_set R i j v _ e]
def E (s : Str) (ns : List PyData) (m st : Nat) (R : List (List Int)) (x5 x6 x7 x8 x9 x10 : Option OV) : DEnv :=
  [some (.d (.str s)), some (.d (.list ns)), some (.d (.int m)), some (.d (.int st)), some (.lst (ov R)), x5, x6, x7, x8, x9, x10, none, none]
def cDi : CS := cSet2 4 (cC (.int 2)) (cVar 6) (cVar 6)
def cJo : CS := cSeq (cSet2 4 (cVar 9) (cOp cAdd (cVar 3) (cVar 7)) (cOp cAdd (cVar 3) (cVar 8))) (cSet2 4 (cVar 10) (cOp cAdd (cVar 3) (cVar 8)) (cOp cAdd (cVar 3) (cVar 7)))
def cgJ : CG := cgUnl (cgCons (cgName 7) (cgCons (cgName 8) (cgCons (cgName 9) (cgCons (cgName 10) cgNil))))
theorem dia_loop (s : Str) (ns : List PyData) (m st : Nat) (x5 x7 x8 x9 x10 : Option OV) : ∀ (l : List Nat) (R : List (List Int)) (x6 : Option OV), Shape R m → (∀ i ∈ l, st + i < m) →
    ∃ x6', cLoop (cgName 6) cDi (l.map fun i => .int ((st : Int) + (i : Nat))) (E s ns m st R x5 x6 x7 x8 x9 x10) = some (.nx (E s ns m st (l.foldl (dia st) R) x5 x6' x7 x8 x9 x10)) ∧ Shape (l.foldl (dia st) R) m
  | [], R, x6, sh, _ => ⟨x6, rfl, sh⟩
  | i :: l, R, x6, sh, h => by
    have hi := h i List.mem_cons_self
    obtain ⟨x', e, sh'⟩ := dia_loop s ns m st x5 x7 x8 x9 x10 l (dia st R i) (some (.d (.int ((st : Int) + (i : Nat))))) (sh.set2 _ _ _) fun j hj => h j (List.mem_cons_of_mem _ hj)
    refine ⟨x', ?_, sh'⟩
    have eq : ((st : Int) + (i : Nat)) = ((st + i : Nat) : Int) := by omega
    have b : cDi (E s ns m st R x5 (some (.d (.int ((st : Int) + (i : Nat))))) x7 x8 x9 x10) = some (.nx (E s ns m st (dia st R i) x5 (some (.d (.int ((st : Int) + (i : Nat))))) x7 x8 x9 x10)) := by
      unfold cDi
      rw [eq, set2_ok (R := R) (m := m) (i := st + i) (j := st + i) (v := 2) rfl sh rfl rfl rfl hi hi]
      rfl
    show (some (E s ns m st R x5 (some (.d (.int ((st : Int) + (i : Nat))))) x7 x8 x9 x10)).bind _ = _
    rw [Option.bind_some, b, Option.bind_some]
    exact e
theorem jo_loop (s : Str) (ns : List PyData) (m st : Nat) (x5 x6 : Option OV) : ∀ (l : List (Nat × Nat × Int × Int)) (R : List (List Int)) (x7 x8 x9 x10 : Option OV), Shape R m → (∀ q ∈ l, st + q.1 < m ∧ st + q.2.1 < m) →
    ∃ x7' x8' x9' x10', cLoop cgJ cJo (l.map jtD) (E s ns m st R x5 x6 x7 x8 x9 x10) = some (.nx (E s ns m st (l.foldl (app st) R) x5 x6 x7' x8' x9' x10')) ∧ Shape (l.foldl (app st) R) m
  | [], R, x7, x8, x9, x10, sh, _ => ⟨x7, x8, x9, x10, rfl, sh⟩
  | q :: l, R, x7, x8, x9, x10, sh, h => by
    obtain ⟨i, j, v, u⟩ := q
    obtain ⟨hi, hj⟩ := h _ List.mem_cons_self
    have hi' : st + i < m := hi
    have hj' : st + j < m := hj
    obtain ⟨y7, y8, y9, y10, e, sh'⟩ := jo_loop s ns m st x5 x6 l (app st R (i, j, v, u)) (some (.d (.int i))) (some (.d (.int j))) (some (.d (.int v))) (some (.d (.int u))) ((sh.set2 _ _ _).set2 _ _ _) fun j hj => h j (List.mem_cons_of_mem _ hj)
    refine ⟨y7, y8, y9, y10, ?_, sh'⟩
    have e1 : ((st : Int) + (i : Nat)) = ((st + i : Nat) : Int) := by omega
    have e2 : ((st : Int) + (j : Nat)) = ((st + j : Nat) : Int) := by omega
    have a1 : ∀ R' : List (List Int), cOp cAdd (cVar 3) (cVar 7) (E s ns m st R' x5 x6 (some (.d (.int i))) (some (.d (.int j))) (some (.d (.int v))) (some (.d (.int u)))) = some (.d (.int ((st + i : Nat) : Int))) := fun R' => by
      rw [← e1]; rfl
    have a2 : ∀ R' : List (List Int), cOp cAdd (cVar 3) (cVar 8) (E s ns m st R' x5 x6 (some (.d (.int i))) (some (.d (.int j))) (some (.d (.int v))) (some (.d (.int u)))) = some (.d (.int ((st + j : Nat) : Int))) := fun R' => by
      rw [← e2]; rfl
    have b : cJo (E s ns m st R x5 x6 (some (.d (.int i))) (some (.d (.int j))) (some (.d (.int v))) (some (.d (.int u)))) = some (.nx (E s ns m st (app st R (i, j, v, u)) x5 x6 (some (.d (.int i))) (some (.d (.int j))) (some (.d (.int v))) (some (.d (.int u))))) := by
      unfold cJo cSeq
      rw [set2_ok (R := R) (m := m) (i := st + i) (j := st + j) (v := v) rfl sh rfl (a1 R) (a2 R) hi' hj']
      show cSet2 4 (cVar 10) (cOp cAdd (cVar 3) (cVar 8)) (cOp cAdd (cVar 3) (cVar 7)) (E s ns m st (set2 R (st + i) (st + j) v) x5 x6 (some (.d (.int i))) (some (.d (.int j))) (some (.d (.int v))) (some (.d (.int u)))) = _
      rw [set2_ok (R := set2 R (st + i) (st + j) v) (m := m) (i := st + j) (j := st + i) (v := u) rfl (sh.set2 _ _ _) rfl (a2 _) (a1 _) hj' hi']
      rfl
    show (some (E s ns m st R x5 x6 (some (.d (.int i))) (some (.d (.int j))) (some (.d (.int v))) (some (.d (.int u))))).bind _ = _
    rw [Option.bind_some, b, Option.bind_some]
    exact e
/-- the body of the outer loop -/
def cDf : CS := cFor (ciRng2 (cCons (cVar 3) (cCons (cOp cAdd (cVar 3) (cCB cInt (cCons (cOp cIx (cVar 5) (cC (.int 1))) cNil))) cNil))) (cgName 6) cDi
def cJf : CS := cFor (ciList (cCall c_joints_of (cCons (cVar 5) cNil))) cgJ cJo
def cBo : CS := cSeq cDf (cSeq cJf (cSet 3 (cOp cAdd (cVar 3) (cCB cInt (cCons (cOp cIx (cVar 5) (cC (.int 1))) cNil)))))
theorem dg_le : ∀ w ∈ KN, dgN w ≤ 8 := by decide +kernel
theorem i1_ok (s : Str) (ns : List PyData) (m st : Nat) (w : Str) (h : w ∈ KN) (R' : List (List Int)) (z6 z7 z8 z9 z10 : Option OV) : cOp cAdd (cVar 3) (cCB cInt (cCons (cOp cIx (cVar 5) (cC (.int 1))) cNil)) (E s ns m st R' (some (.d (.str w))) z6 z7 z8 z9 z10) = some (.d (.int ((st : Int) + dgN w))) := by
  obtain ⟨x, q1, q2⟩ := kn_int1 h
  simp [cOp, cVar, E, cCB, cCons, cC, cNil, q1, q2, cAdd]
theorem rng2_ok {a b : CE} {ρ : DEnv} {i : Int} {n : Nat} (ha : a ρ = some (.d (.int i))) (hb : b ρ = some (.d (.int (i + n)))) (h1 : -1000000 ≤ i ∧ i ≤ 1000000) (h2 : n ≤ 1000000) : ciRng2 (cCons a (cCons b cNil)) ρ = some ((List.range n).map fun k => .int (i + (k : Nat))) := by
  have g : -(2 ^ 62) ≤ i ∧ i < 2 ^ 62 ∧ -(2 ^ 62) ≤ i + n ∧ i + n < 2 ^ 62 := by
    have e : (2 : Int) ^ 62 = 4611686018427387904 := by decide
    rw [e]
    omega
  unfold ciRng2
  simp only [cCons, ha, hb, cNil, Option.bind_some, Option.map_some]
  rw [if_pos g]
  unfold rngD
  rw [show (i + n - i).toNat = n by omega]
theorem di_ok (s : Str) (ns : List PyData) (m st : Nat) (R : List (List Int)) (w : Str) (x6 x7 x8 x9 x10 : Option OV) (h : w ∈ KN) (sh : Shape R m) (hm : m ≤ 1000) (hst : st + dgN w ≤ m) :
    ∃ y6, cDf (E s ns m st R (some (.d (.str w))) x6 x7 x8 x9 x10) = some (.nx (E s ns m st ((List.range (dgN w)).foldl (dia st) R) (some (.d (.str w))) y6 x7 x8 x9 x10)) ∧ Shape ((List.range (dgN w)).foldl (dia st) R) m := by
  obtain ⟨y6, e1, sh1⟩ := dia_loop s ns m st (some (.d (.str w))) x7 x8 x9 x10 (List.range (dgN w)) R x6 sh (fun i hi => by have := List.mem_range.mp hi; omega)
  refine ⟨y6, ?_, sh1⟩
  unfold cDf cFor
  rw [rng2_ok (i := (st : Int)) (n := dgN w) rfl (i1_ok s ns m st w h R _ _ _ _ _) (by omega) (by omega), Option.bind_some]
  exact e1
theorem jn_ok (s : Str) (ns : List PyData) (m st : Nat) (R : List (List Int)) (w : Str) (x6 x7 x8 x9 x10 : Option OV) (h : w ∈ KN) (sh : Shape R m) (hst : st + dgN w ≤ m) :
    ∃ y7 y8 y9 y10, cJf (E s ns m st R (some (.d (.str w))) x6 x7 x8 x9 x10) = some (.nx (E s ns m st ((jt w).foldl (app st) R) (some (.d (.str w))) x6 y7 y8 y9 y10)) ∧ Shape ((jt w).foldl (app st) R) m := by
  obtain ⟨y7, y8, y9, y10, e2, sh2⟩ := jo_loop s ns m st (some (.d (.str w))) x6 (jt w) R x7 x8 x9 x10 sh (fun q hq => by have := f_ix w h q hq; omega)
  refine ⟨y7, y8, y9, y10, ?_, sh2⟩
  have v5 : cVar 5 (E s ns m st R (some (.d (.str w))) x6 x7 x8 x9 x10) = some (.d (.str w)) := rfl
  unfold cJf cFor ciList cCall
  simp only [cCons, v5, cNil, Option.bind_some, Option.map_some]
  rw [if_pos (show [OV.d (PyData.str w)].all argOk = true from rfl), joints_ok h]
  exact e2
theorem st_ok {a : CE} {s : Str} {ns : List PyData} {m st k : Nat} {R : List (List Int)} {x5 x6 x7 x8 x9 x10 : Option OV} (ha : a (E s ns m st R x5 x6 x7 x8 x9 x10) = some (.d (.int ((st : Int) + k)))) : cSet 3 a (E s ns m st R x5 x6 x7 x8 x9 x10) = some (.nx (E s ns m (st + k) R x5 x6 x7 x8 x9 x10)) := by
  have e3 : ((st + k : Nat) : Int) = (st : Int) + k := by omega
  unfold cSet
  rw [ha, Option.bind_some, if_pos (show argOk (OV.d (PyData.int ((st : Int) + k))) = true from rfl)]
  unfold E
  rw [e3]
  rfl
theorem seq_ok {a b : CS} {ρ ρ' : DEnv} (h : a ρ = some (.nx ρ')) : cSeq a b ρ = b ρ' := by
  unfold cSeq
  rw [h]
  rfl
theorem body_ok (s : Str) (ns : List PyData) (m st : Nat) (R : List (List Int)) (w : Str) (x6 x7 x8 x9 x10 : Option OV) (h : w ∈ KN) (sh : Shape R m) (hm : m ≤ 1000) (hst : st + dgN w ≤ m) :
    ∃ y6 y7 y8 y9 y10, cBo (E s ns m st R (some (.d (.str w))) x6 x7 x8 x9 x10) = some (.nx (E s ns m (st + dgN w) ((jt w).foldl (app st) ((List.range (dgN w)).foldl (dia st) R)) (some (.d (.str w))) y6 y7 y8 y9 y10)) ∧
      Shape ((jt w).foldl (app st) ((List.range (dgN w)).foldl (dia st) R)) m := by
  obtain ⟨y6, e1, sh1⟩ := di_ok s ns m st R w x6 x7 x8 x9 x10 h sh hm hst
  obtain ⟨y7, y8, y9, y10, e2, sh2⟩ := jn_ok s ns m st _ w y6 x7 x8 x9 x10 h sh1 hst
  refine ⟨y6, y7, y8, y9, y10, ?_, sh2⟩
  unfold cBo
  rw [seq_ok e1, seq_ok e2, st_ok (i1_ok s ns m st w h _ _ _ _ _ _)]
theorem outer_ok (s : Str) (ns : List PyData) (m : Nat) (hm : m ≤ 1000) : ∀ (ws : List Str) (P : List (List Int)) (st : Nat) (x5 x6 x7 x8 x9 x10 : Option OV), (∀ w ∈ ws, w ∈ KN) → P.length = st → (∀ r ∈ P, r.length = m) → st + sumN ws = m →
    ∃ y5 y6 y7 y8 y9 y10, cLoop (cgName 5) cBo (ws.map .str) (E s ns m st (P ++ List.replicate (sumN ws) (List.replicate m 0)) x5 x6 x7 x8 x9 x10) = some (.nx (E s ns m m (P ++ rowsOf m st ws) y5 y6 y7 y8 y9 y10))
  | [], P, st, x5, x6, x7, x8, x9, x10, _, hP, hr, hs => by
    have e0 : sumN [] = 0 := rfl
    have : st = m := by rw [e0] at hs; omega
    subst this
    exact ⟨x5, x6, x7, x8, x9, x10, rfl⟩
  | w :: ws, P, st, x5, x6, x7, x8, x9, x10, h, hP, hr, hs => by
    have es : sumN (w :: ws) = dgN w + sumN ws := rfl
    rw [es] at hs ⊢
    have hw := h w List.mem_cons_self
    have sh : Shape (P ++ List.replicate (dgN w + sumN ws) (List.replicate m (0 : Int))) m := ⟨by rw [List.length_append, List.length_replicate, hP]; exact hs, fun r hr' => by
      rcases List.mem_append.mp hr' with z | z
      · exact hr r z
      · rw [List.eq_of_mem_replicate z, List.length_replicate]⟩
    obtain ⟨y6, y7, y8, y9, y10, b, sh2⟩ := body_ok s ns m st _ w x6 x7 x8 x9 x10 hw sh hm (by omega)
    rw [step_name hw hP (by omega)] at b
    obtain ⟨f1, f2⟩ := f_sh w hw
    obtain ⟨z5, z6, z7, z8, z9, z10, ih⟩ := outer_ok s ns m hm ws (P ++ pad st (m - st - dgN w) (bk w)) (st + dgN w) (some (.d (.str w))) y6 y7 y8 y9 y10 (fun y hy => h y (List.mem_cons_of_mem _ hy))
      (by rw [List.length_append, hP]; unfold pad; rw [List.length_map, f1]) (fun r hr' => by
        rcases List.mem_append.mp hr' with z | z
        · exact hr r z
        · obtain ⟨r0, h0, e0⟩ := List.mem_map.mp z
          rw [← e0]
          unfold padR
          rw [List.length_append, List.length_append, List.length_replicate, List.length_replicate, f2 r0 h0]
          omega) (by omega)
    refine ⟨z5, z6, z7, z8, z9, z10, ?_⟩
    show (some (E s ns m st (P ++ List.replicate (dgN w + sumN ws) (List.replicate m 0)) (some (.d (.str w))) x6 x7 x8 x9 x10)).bind _ = _
    rw [Option.bind_some, b, Option.bind_some]
    show cLoop (cgName 5) cBo (ws.map .str) _ = _
    rw [ih, show rowsOf m st (w :: ws) = pad st (m - st - dgN w) (bk w) ++ rowsOf m (st + dgN w) ws from rfl, List.append_assoc]
end LP

/-! ==== PG05 ==== -/
set_option Elab.async false
set_option linter.all false
set_option maxRecDepth 100000
set_option maxHeartbeats 0
namespace LP
open PySem PySem.Spec PyProof.Rows L2 DL LW
theorem lc_any {i : Nat} {ci : CI} {ca : CE} {ρ : DEnv} {vs : List Nat} {f : PyData → PyData} (xs : List PyData) (hi : ci ρ = some xs) (h : ∀ x ∈ xs, ca ((wipeD ρ vs).set i (some (.d x))) = some (.d (f x))) (hl : xs.length ≤ sizeLine) :
    cNE (cLc ci (cgName i) cYes ca vs) ρ = some (.d (.list (xs.map f))) := by
  unfold cNE cLc
  rw [hi]
  simp only [Option.bind_some]
  rw [lcl_map xs [] h (by simpa using hl)]
  simp only [Option.map_some, Option.bind_some, List.nil_append, okvs_d, if_true, vws_d]
theorem lcn_const {i : Nat} {ca : CN} {ρ0 : DEnv} {ys : List OV} : ∀ (xs : List PyData) (acc : List OV), (∀ x ∈ xs, ca (ρ0.set i (some (.d x))) = some ys) → acc.length + xs.length ≤ sizeLine → cLcNL (cgName i) cYes ca ρ0 xs acc = some (acc ++ List.replicate xs.length (.lst ys))
  | [], acc, _, _ => by simp [cLcNL]
  | x :: xs, acc, h, hl => by
    have h1 := h x List.mem_cons_self
    have hl' : acc.length < sizeLine := by simp only [List.length_cons] at hl; omega
    show (some (ρ0.set i (some (.d x)))).bind _ = _
    simp only [Option.bind_some, cYes, if_true, h1, hl']
    rw [lcn_const xs (acc ++ [OV.lst ys]) (fun y hy => h y (List.mem_cons_of_mem _ hy)) (by simp only [List.length_append, List.length_cons, List.length_nil] at hl ⊢; omega)]
    simp [List.replicate_succ]
theorem vws_ov : ∀ R : List (List Int), vws (ov R) = R.map fun r => PyData.list (r.map .int)
  | [] => rfl
  | r :: R => by
    have h := vws_ov R
    show vw (ovR r) :: vws (ov R) = _
    rw [h, List.map_cons]
    congr 1
    show PyData.list (vws (r.map fun x => OV.d (.int x))) = _
    have := vws_d (r.map PyData.int)
    rw [List.map_map] at this
    exact congrArg PyData.list this
theorem okvs_ov : ∀ R : List (List Int), okvs (ov R) = true
  | [] => rfl
  | r :: R => by
    show (okv (ovR r) && okvs (ov R)) = true
    rw [okvs_ov R]
    have := okvs_d (r.map PyData.int)
    rw [List.map_map] at this
    exact He.ba' this
where He.ba' {b : Bool} (h : b = true) : (b && true) = true := by rw [h]; rfl
def cSp : CS := cSet 1 (cM1 cSplitR (cVar 0) (cC (.str " ")))
def cSm : CS := cAsgG (cTup (cCons (cCB cSum (cCons (cNE (cLc (ciList (cVar 1)) (cgName 5) cYes (cCB cInt (cCons (cOp cIx (cVar 5) (cC (.int 1))) cNil)) [5])) cNil)) (cCons (cC (.int 0)) cNil))) (cgTup (cgCons (cgName 2) (cgCons (cgName 3) cgNil)))
def cRw : CS := cSetN 4 (cLcN (ciRng1 (cCons (cVar 2) cNil)) (cgName 11) cYes (cRepN (cLst (cCons (cC (.int 0)) cNil)) (cVar 2)) [11])
def cOu : CS := cFor (ciList (cVar 1)) (cgName 5) cBo
def cEn : CS := cFrz 4 (cRet (cCB cTupC (cCons (cNE (cLc (ciList (cVar 4)) (cgName 12) cYes (cCB cTupC (cCons (cVar 12) cNil)) [12])) cNil)))
theorem mb_eq : cs_matrix_by = cSeq cSp (cSeq cSm (cSeq cRw (cSeq cOu cEn))) := rfl
theorem rep_flat (m : Nat) (x : PyData) : (List.replicate m [x]).flatten = List.replicate m x := by
  induction m with
  | zero => rfl
  | succ m ih => rw [List.replicate_succ, List.flatten_cons, ih]; rfl
theorem repN_j {a b : CE} {ρ : DEnv} {x : PyData} {j : Int} (ha : a ρ = some (.d (.list [x]))) (hb : b ρ = some (.d (.int j))) (g2 : (-(2 ^ 63) ≤ j ∧ j < 2 ^ 63) ∧ [x].length * j.toNat ≤ sizeLine) : cRepN a b ρ = some ((List.replicate j.toNat [x]).flatten.map OV.d) := by
  unfold cRepN
  simp only [ha, hb, Option.bind_some, asList]
  rw [if_pos g2]
theorem repN_ok {a b : CE} {ρ : DEnv} {x : PyData} {k : Nat} (ha : a ρ = some (.d (.list [x]))) (hb : b ρ = some (.d (.int k))) (hk : k ≤ 1000000) : cRepN a b ρ = some (List.replicate k (.d x)) := by
  have g2 : (-(2 ^ 63) ≤ (k : Int) ∧ (k : Int) < 2 ^ 63) ∧ [x].length * (k : Int).toNat ≤ sizeLine := by
    have e : (2 : Int) ^ 63 = 9223372036854775808 := by decide
    have e' : sizeLine = 16777216 := rfl
    rw [e, e', List.length_singleton]
    omega
  rw [repN_j ha hb g2, Int.toNat_natCast, rep_flat, List.map_replicate]
theorem rng1_j {a : CE} {ρ : DEnv} {j : Int} (ha : a ρ = some (.d (.int j))) (g : -(2 ^ 62) ≤ j ∧ j < 2 ^ 62) : ciRng1 (cCons a cNil) ρ = some (rngD 0 j.toNat) := by
  unfold ciRng1
  simp only [cCons, ha, cNil, Option.bind_some, Option.map_some]
  rw [if_pos g]
theorem rng1_ok {a : CE} {ρ : DEnv} {n : Nat} (ha : a ρ = some (.d (.int n))) (h2 : n ≤ 1000000) : ciRng1 (cCons a cNil) ρ = some (rngD 0 n) := by
  have g : -(2 ^ 62) ≤ (n : Int) ∧ (n : Int) < 2 ^ 62 := by
    have e : (2 : Int) ^ 62 = 4611686018427387904 := by decide
    rw [e]
    omega
  rw [rng1_j ha g, Int.toNat_natCast]
theorem cb_ok {c : CF} {a : CE} {ρ : DEnv} {x : OV} {r : PyData} (ha : a ρ = some x) (hc : c [x] = some r) : cCB c (cCons a cNil) ρ = some (.d r) := by
  unfold cCB
  simp only [cCons, ha, cNil, Option.bind_some, Option.map_some, hc]
theorem ret_ok {a : CE} {ρ : DEnv} {x : OV} (ha : a ρ = some x) (ok : okv x = true) : cRet a ρ = some (.rt (vw x)) := by
  unfold cRet
  rw [ha, Option.bind_some, if_pos ok]
theorem rowsOf_len (m : Nat) : ∀ (ws : List Str) (st : Nat), (∀ w ∈ ws, w ∈ KN) → (rowsOf m st ws).length = sumN ws
  | [], _, _ => rfl
  | w :: ws, st, h => by
    show (pad st (m - st - dgN w) (bk w) ++ rowsOf m (st + dgN w) ws).length = dgN w + sumN ws
    rw [List.length_append, rowsOf_len m ws _ fun y hy => h y (List.mem_cons_of_mem _ hy)]
    unfold pad
    rw [List.length_map, (f_sh w (h w List.mem_cons_self)).1]
def toTup : PyData → PyData
  | .list ys => .tuple ys
  | x => x
theorem end_ok (s : Str) (ns : List PyData) (m : Nat) (R : List (List Int)) (y5 y6 y7 y8 y9 y10 : Option OV) (hl : R.length ≤ sizeLine) : cEn (E s ns m m R y5 y6 y7 y8 y9 y10) = some (.rt (.tuple (R.map rowD))) := by
  have f1 : frzAt (E s ns m m R y5 y6 y7 y8 y9 y10) 4 = [some (.d (.str s)), some (.d (.list ns)), some (.d (.int m)), some (.d (.int m)), some (.d (.list (R.map fun r => PyData.list (r.map .int)))), y5, y6, y7, y8, y9, y10, none, none] := by
    show (if okvs (ov R) = true then (E s ns m m R y5 y6 y7 y8 y9 y10).set 4 (some (.d (.list (vws (ov R))))) else _) = _
    rw [if_pos (okvs_ov R), vws_ov]
    rfl
  have f2 := lc_any (i := 12) (ci := ciList (cVar 4)) (ca := cCB cTupC (cCons (cVar 12) cNil)) (vs := [12]) (f := toTup) (ρ := [some (.d (.str s)), some (.d (.list ns)), some (.d (.int m)), some (.d (.int m)), some (.d (.list (R.map fun r => PyData.list (r.map .int)))), y5, y6, y7, y8, y9, y10, none, none]) (R.map fun r => PyData.list (r.map .int)) rfl (fun x hx => by
    obtain ⟨r, _, e⟩ := List.mem_map.mp hx
    subst e
    rfl) (by rw [List.length_map]; exact hl)
  rw [List.map_map] at f2
  have f3 : R.map (toTup ∘ fun r => PyData.list (r.map .int)) = R.map rowD := rfl
  rw [f3] at f2
  unfold cEn cFrz
  rw [f1]
  exact ret_ok (cb_ok f2 rfl) rfl
theorem matrix_by_ok (s : Str) (hs : s.cps.size ≤ 100) (ha : ∀ w ∈ wd s, w ∈ KN) (hm : sumN (wd s) ≤ 1000) : c_matrix_by [.d (.str s)] = some (.tuple ((rowsOf (sumN (wd s)) 0 (wd s)).map rowD)) := by
  have lw : (wd s).length ≤ sizeLine := by
    have := wd_len s
    have e : sizeLine = 16777216 := rfl
    omega
  have e1 : cSp (startD N_matrix_by [.d (.str s)]) = some (.nx [some (.d (.str s)), some (.d (.list ((wd s).map .str))), none, none, none, none, none, none, none, none, none, none, none]) := by
    simp [cSp, cSet, cM1, cVar, startD, N_matrix_by, cC, cSplitR, sp_cps, split_wd, Str.length, sizeLine, show s.cps.size ≤ 16777214 by omega, argOk]
  have e2a : cNE (cLc (ciList (cVar 1)) (cgName 5) cYes (cCB cInt (cCons (cOp cIx (cVar 5) (cC (.int 1))) cNil)) [5]) [some (.d (.str s)), some (.d (.list ((wd s).map .str))), none, none, none, none, none, none, none, none, none, none, none] = some (.d (.list ((wd s).map fun w => .int (dgN w)))) :=
    lc_strs (wd s) (by simp [ciList, cVar]) (fun w hw => by
      obtain ⟨x, q1, q2⟩ := kn_int1 (ha w hw)
      simp [cCB, cCons, cVar, cNil, wipeD, cOp, cC, q1, q2]) lw
  have e2 : cSm [some (.d (.str s)), some (.d (.list ((wd s).map .str))), none, none, none, none, none, none, none, none, none, none, none] = some (.nx [some (.d (.str s)), some (.d (.list ((wd s).map .str))), some (.d (.int (sumN (wd s)))), some (.d (.int 0)), none, none, none, none, none, none, none, none, none]) := by
    rw [← sumN_int]
    simp [cSm, cAsgG, cTup, cCons, cCB, e2a, cNil, cSum, asList, ints_map, cC, ovs, sizeLine, cgTup, cgCons, cgName, cgNil]
  have e3 : cRw [some (.d (.str s)), some (.d (.list ((wd s).map .str))), some (.d (.int (sumN (wd s)))), some (.d (.int 0)), none, none, none, none, none, none, none, none, none] = some (.nx (E s ((wd s).map .str) (sumN (wd s)) 0 (List.replicate (sumN (wd s)) (List.replicate (sumN (wd s)) 0)) none none none none none none)) := by
    unfold cRw cSetN cLcN
    rw [rng1_ok (n := sumN (wd s)) rfl (by omega), Option.bind_some, lcn_const (ys := List.replicate (sumN (wd s)) (.d (.int 0))) (rngD 0 (sumN (wd s))) [] (fun x _ => repN_ok rfl rfl (by omega)) (by rw [rngD_len, List.length_nil]; have e' : sizeLine = 16777216 := rfl; omega), rngD_len, Option.map_some]
    unfold E ov
    rw [List.map_replicate]
    unfold ovR
    rw [List.map_replicate]
    rfl
  obtain ⟨y5, y6, y7, y8, y9, y10, e4⟩ := outer_ok s ((wd s).map .str) (sumN (wd s)) hm (wd s) [] 0 none none none none none none ha rfl (fun _ z => nomatch z) (by omega)
  have e5 : cOu (E s ((wd s).map .str) (sumN (wd s)) 0 (List.replicate (sumN (wd s)) (List.replicate (sumN (wd s)) 0)) none none none none none none) = some (.nx (E s ((wd s).map .str) (sumN (wd s)) (sumN (wd s)) (rowsOf (sumN (wd s)) 0 (wd s)) y5 y6 y7 y8 y9 y10)) := e4
  have hl := rowsOf_len (sumN (wd s)) (wd s) 0 ha
  generalize rowsOf (sumN (wd s)) 0 (wd s) = R at e5 hl ⊢
  have e6 := end_ok s ((wd s).map .str) (sumN (wd s)) R y5 y6 y7 y8 y9 y10 (by rw [hl]; have e' : sizeLine = 16777216 := rfl; omega)
  unfold c_matrix_by cRof
  rw [if_pos (show [OV.d (PyData.str s)].length = 1 from rfl), mb_eq, seq_ok e1, seq_ok e2, seq_ok e3, seq_ok e5, e6]
  rfl
end LP

/-! ==== PH05 ==== -/
set_option Elab.async false
set_option linter.all false
set_option maxRecDepth 100000
set_option maxHeartbeats 0
namespace LP
open PySem PySem.Spec PyProof.Rows L2 DL LW
/-! ## the law's own blocks -/
def od (P : List (List Int)) : List OV := P.map fun r => OV.d (rowD r)
def G (s : Str) (sg : List PyData) (P : List (List Int)) (st m : Nat) (x5 x6 : Option OV) : DEnv :=
  [some (.d (.str s)), some (.d (.list sg)), some (.lst (od P)), some (.d (.int st)), some (.d (.int m)), x5, x6, none]
def sgD (w : Str) : PyData := .tuple ((bk w).map rowD)
def cZ (k : CE) : CE := cOp cMul (cTup (cCons (cC (.int 0)) cNil)) k
def cRx : CE := cOp cAdd (cOp cAdd (cZ (cVar 3)) (cVar 6)) (cZ (cOp cSub (cOp cSub (cVar 4) (cVar 3)) (cCB cLen (cCons (cVar 5) cNil))))
def cRo : CS := cApp 2 cRx
def cRl : CS := cFor (ciTup (cVar 5)) (cgName 6) cRo
def cBl : CS := cSeq cRl (cSet 3 (cOp cAdd (cVar 3) (cCB cLen (cCons (cVar 5) cNil))))
theorem z_j {k : CE} {ρ : DEnv} {j : Int} (h : k ρ = some (.d (.int j))) (hj : -1000 ≤ j ∧ j ≤ 1000 ∧ [PyData.int 0].length ≤ 1000) : cZ k ρ = some (.d (.tuple (List.replicate j.toNat [PyData.int 0]).flatten)) := by
  have t : cTup (cCons (cC (.int 0)) cNil) ρ = some (.d (.tuple [.int 0])) := by
    unfold cTup
    show (if [PyData.int 0].length ≤ sizeLine then some (OV.d (.tuple [.int 0])) else none) = _
    rw [if_pos (show [PyData.int 0].length ≤ sizeLine from by decide)]
  unfold cZ cOp
  rw [t, Option.bind_some, h, Option.bind_some]
  show (if -1000 ≤ j ∧ j ≤ 1000 ∧ [PyData.int 0].length ≤ 1000 then _ else none) = _
  rw [if_pos hj]
theorem z_ok {k : CE} {ρ : DEnv} {n : Nat} (h : k ρ = some (.d (.int n))) (hn : n ≤ 1000) : cZ k ρ = some (.d (.tuple ((List.replicate n (0 : Int)).map .int))) := by
  rw [z_j h ⟨by omega, by omega, by decide⟩, Int.toNat_natCast, rep_flat, List.map_replicate]
theorem add_tup {a b : CE} {ρ : DEnv} {x y : List Int} (ha : a ρ = some (.d (.tuple (x.map .int)))) (hb : b ρ = some (.d (.tuple (y.map .int)))) (hl : x.length + y.length ≤ sizeLine) : cOp cAdd a b ρ = some (.d (.tuple ((x ++ y).map .int))) := by
  unfold cOp
  rw [ha, Option.bind_some, hb, Option.bind_some]
  show (if (x.map PyData.int).length + (y.map PyData.int).length ≤ sizeLine then some (OV.d (.tuple (x.map PyData.int ++ y.map PyData.int))) else none) = _
  rw [if_pos (by rw [List.length_map, List.length_map]; exact hl), List.map_append]
theorem sub_ok {a b : CE} {ρ : DEnv} {i j k : Nat} (ha : a ρ = some (.d (.int i))) (hb : b ρ = some (.d (.int j))) (h : j + k = i) : cOp cSub a b ρ = some (.d (.int k)) := by
  unfold cOp
  rw [ha, Option.bind_some, hb, Option.bind_some]
  show some (OV.d (.int ((i : Int) - j))) = _
  rw [show (i : Int) - j = (k : Int) by omega]
theorem len_sg (s : Str) (sg : List PyData) (P : List (List Int)) (st m : Nat) (w : Str) (x6 : Option OV) (h : w ∈ KN) : cCB cLen (cCons (cVar 5) cNil) (G s sg P st m (some (.d (sgD w))) x6) = some (.d (.int (dgN w))) := by
  rw [cb_ok (x := .d (sgD w)) (r := .int (dgN w)) rfl ?_]
  show some (PyData.int (((bk w).map rowD).length : Nat)) = _
  rw [List.length_map, (f_sh w h).1]
theorem app_ok {a : CE} {ρ : DEnv} {i : Nat} {xs : List OV} {d : PyData} (hg : getL ρ i = some xs) (ha : a ρ = some (.d d)) (hl : xs.length < sizeLine) : cApp i a ρ = some (.nx (ρ.set i (some (.lst (xs ++ [.d d]))))) := by
  unfold cApp
  rw [hg, Option.bind_some, ha, Option.bind_some, if_pos ⟨rfl, hl⟩]
theorem row_ok (s : Str) (sg : List PyData) (P : List (List Int)) (st m : Nat) (w : Str) (r : List Int) (h : w ∈ KN) (hr : r.length = dgN w) (hm : m ≤ 1000) (hst : st + dgN w ≤ m) : cRx (G s sg P st m (some (.d (sgD w))) (some (.d (rowD r)))) = some (.d (rowD (padR st (m - st - dgN w) r))) := by
  have a1 := z_ok (k := cVar 3) (ρ := G s sg P st m (some (.d (sgD w))) (some (.d (rowD r)))) (n := st) rfl (by omega)
  have a2 := add_tup (y := r) a1 (b := cVar 6) rfl (by rw [List.length_replicate]; have e' : sizeLine = 16777216 := rfl; omega)
  have a3 := sub_ok (a := cVar 4) (b := cVar 3) (ρ := G s sg P st m (some (.d (sgD w))) (some (.d (rowD r)))) (i := m) (j := st) (k := m - st) rfl rfl (by omega)
  have a4 := sub_ok a3 (len_sg s sg P st m w _ h) (k := m - st - dgN w) (by omega)
  have a5 := z_ok a4 (by omega)
  exact add_tup a2 a5 (by rw [List.length_append, List.length_replicate, List.length_replicate]; have e' : sizeLine = 16777216 := rfl; omega)
theorem od_app (P : List (List Int)) (r : List Int) : od P ++ [.d (rowD r)] = od (P ++ [r]) := by
  unfold od
  rw [List.map_append]
  rfl
theorem rows_loop (s : Str) (sg : List PyData) (st m : Nat) (w : Str) (h : w ∈ KN) (hm : m ≤ 1000) (hst : st + dgN w ≤ m) : ∀ (rs : List (List Int)) (P : List (List Int)) (x6 : Option OV), (∀ r ∈ rs, r.length = dgN w) → P.length + rs.length ≤ 2000 →
    ∃ y6, cLoop (cgName 6) cRo (rs.map rowD) (G s sg P st m (some (.d (sgD w))) x6) = some (.nx (G s sg (P ++ pad st (m - st - dgN w) rs) st m (some (.d (sgD w))) y6))
  | [], P, x6, _, _ => ⟨x6, by show some _ = some _; unfold pad; rw [List.map_nil, List.append_nil]⟩
  | r :: rs, P, x6, hr, hl => by
    rw [List.length_cons] at hl
    obtain ⟨y6, ih⟩ := rows_loop s sg st m w h hm hst rs (P ++ [padR st (m - st - dgN w) r]) (some (.d (rowD r))) (fun y hy => hr y (List.mem_cons_of_mem _ hy)) (by rw [List.length_append, List.length_singleton]; omega)
    refine ⟨y6, ?_⟩
    have b : cRo (G s sg P st m (some (.d (sgD w))) (some (.d (rowD r)))) = some (.nx (G s sg (P ++ [padR st (m - st - dgN w) r]) st m (some (.d (sgD w))) (some (.d (rowD r))))) := by
      unfold cRo
      rw [app_ok (xs := od P) rfl (row_ok s sg P st m w r h (hr r List.mem_cons_self) hm hst) (by unfold od; rw [List.length_map]; have e' : sizeLine = 16777216 := rfl; omega), od_app]
      rfl
    show (some (G s sg P st m (some (.d (sgD w))) (some (.d (rowD r))))).bind _ = _
    rw [Option.bind_some, b, Option.bind_some]
    show cLoop (cgName 6) cRo (rs.map rowD) _ = _
    rw [ih]
    unfold pad
    rw [List.map_cons, List.append_assoc]
    rfl
theorem bl_ok (s : Str) (sg : List PyData) (P : List (List Int)) (st m : Nat) (w : Str) (x6 : Option OV) (h : w ∈ KN) (hm : m ≤ 1000) (hst : st + dgN w ≤ m) (hP : P.length ≤ 1000) :
    ∃ y6, cBl (G s sg P st m (some (.d (sgD w))) x6) = some (.nx (G s sg (P ++ pad st (m - st - dgN w) (bk w)) (st + dgN w) m (some (.d (sgD w))) y6)) := by
  obtain ⟨f1, f2⟩ := f_sh w h
  obtain ⟨y6, e⟩ := rows_loop s sg st m w h hm hst (bk w) P x6 f2 (by have := dg_le w h; omega)
  refine ⟨y6, ?_⟩
  have e1 : cRl (G s sg P st m (some (.d (sgD w))) x6) = some (.nx (G s sg (P ++ pad st (m - st - dgN w) (bk w)) st m (some (.d (sgD w))) y6)) := e
  unfold cBl
  rw [seq_ok e1]
  have l := len_sg s sg (P ++ pad st (m - st - dgN w) (bk w)) st m w y6 h
  have e3 : ((st + dgN w : Nat) : Int) = (st : Int) + dgN w := by omega
  have a : cOp cAdd (cVar 3) (cCB cLen (cCons (cVar 5) cNil)) (G s sg (P ++ pad st (m - st - dgN w) (bk w)) st m (some (.d (sgD w))) y6) = some (.d (.int ((st + dgN w : Nat) : Int))) := by
    unfold cOp
    rw [l, e3]
    rfl
  unfold cSet
  rw [a, Option.bind_some, if_pos (show argOk (OV.d (PyData.int ((st + dgN w : Nat) : Int))) = true from rfl)]
  rfl
theorem bl_loop (s : Str) (sg : List PyData) (m : Nat) (hm : m ≤ 1000) : ∀ (ws : List Str) (P : List (List Int)) (st : Nat) (x5 x6 : Option OV), (∀ w ∈ ws, w ∈ KN) → P.length = st → st + sumN ws = m →
    ∃ y5 y6, cLoop (cgName 5) cBl (ws.map sgD) (G s sg P st m x5 x6) = some (.nx (G s sg (P ++ rowsOf m st ws) m m y5 y6))
  | [], P, st, x5, x6, _, hP, hs => by
    have e0 : sumN [] = 0 := rfl
    have : st = m := by rw [e0] at hs; omega
    subst this
    refine ⟨x5, x6, ?_⟩
    show some _ = some _
    rw [show rowsOf st st [] = [] from rfl, List.append_nil]
  | w :: ws, P, st, x5, x6, h, hP, hs => by
    have es : sumN (w :: ws) = dgN w + sumN ws := rfl
    rw [es] at hs
    have hw := h w List.mem_cons_self
    obtain ⟨y6, b⟩ := bl_ok s sg P st m w x6 hw hm (by omega) (by omega)
    obtain ⟨z5, z6, ih⟩ := bl_loop s sg m hm ws (P ++ pad st (m - st - dgN w) (bk w)) (st + dgN w) (some (.d (sgD w))) y6 (fun y hy => h y (List.mem_cons_of_mem _ hy))
      (by rw [List.length_append, hP]; unfold pad; rw [List.length_map, (f_sh w hw).1]) (by omega)
    refine ⟨z5, z6, ?_⟩
    show (some (G s sg P st m (some (.d (sgD w))) x6)).bind _ = _
    rw [Option.bind_some, b, Option.bind_some]
    show cLoop (cgName 5) cBl (ws.map sgD) _ = _
    rw [ih, show rowsOf m st (w :: ws) = pad st (m - st - dgN w) (bk w) ++ rowsOf m (st + dgN w) ws from rfl, List.append_assoc]
def cA1 : CS := cParO [1, 2, 3] (cConsO (cNE (cLc (ciList (cM1 cSplitR (cVar 0) (cC (.str " ")))) (cgName 7) cYes (cCall c__law_single (cCons (cVar 7) cNil)) [7])) (cConsN (cLstN cNil) (cConsO (cC (.int 0)) cNil)))
def cA2 : CS := cSet 4 (cCB cSum (cCons (cNE (cLc (ciList (cVar 1)) (cgName 5) cYes (cCB cLen (cCons (cVar 5) cNil)) [5])) cNil))
def cA3 : CS := cFor (ciList (cVar 1)) (cgName 5) cBl
def cA4 : CS := cFrz 2 (cRet (cCB cTupC (cCons (cVar 2) cNil)))
theorem lb_eq : cs__law_blocks = cSeq cA1 (cSeq cA2 (cSeq cA3 cA4)) := rfl
theorem vws_od : ∀ P : List (List Int), vws (od P) = P.map rowD
  | [] => rfl
  | r :: P => by
    show rowD r :: vws (od P) = _
    rw [vws_od P]
    rfl
theorem okvs_od : ∀ P : List (List Int), okvs (od P) = true
  | [] => rfl
  | r :: P => by
    show (true && okvs (od P)) = true
    rw [okvs_od P]
    rfl
theorem blocks_ok (s : Str) (hs : s.cps.size ≤ 100) (ha : ∀ w ∈ wd s, w ∈ KN) (hm : sumN (wd s) ≤ 1000) : c__law_blocks [.d (.str s)] = some (.tuple ((rowsOf (sumN (wd s)) 0 (wd s)).map rowD)) := by
  have lw : (wd s).length ≤ sizeLine := by
    have := wd_len s
    have e : sizeLine = 16777216 := rfl
    omega
  have e0 : cNE (cLc (ciList (cM1 cSplitR (cVar 0) (cC (.str " ")))) (cgName 7) cYes (cCall c__law_single (cCons (cVar 7) cNil)) [7]) (startD N__law_blocks [.d (.str s)]) = some (.d (.list ((wd s).map sgD))) :=
    lc_strs (wd s) (by simp [ciList, cM1, cVar, startD, N__law_blocks, cC, cSplitR, sp_cps, split_wd, Str.length, sizeLine, show s.cps.size ≤ 16777214 by omega]) (fun w hw => by
      have := single_ok (ha w hw)
      simp [cCall, cCons, cVar, cNil, wipeD, argOk, this, startD, N__law_blocks, sgD]) lw
  have e1 : cA1 (startD N__law_blocks [.d (.str s)]) = some (.nx [some (.d (.str s)), some (.d (.list ((wd s).map sgD))), some (.lst []), some (.d (.int 0)), none, none, none, none]) := by
    simp [cA1, cParO, cConsO, cConsN, e0, argOk, cLstN, cNil, ovs, sizeLine, cC, setsR]
    simp [startD, N__law_blocks]
  have e2a : cNE (cLc (ciList (cVar 1)) (cgName 5) cYes (cCB cLen (cCons (cVar 5) cNil)) [5]) [some (.d (.str s)), some (.d (.list ((wd s).map sgD))), some (.lst []), some (.d (.int 0)), none, none, none, none] = some (.d (.list ((wd s).map fun w => .int (dgN w)))) := by
    have h := lc_any (i := 5) (ci := ciList (cVar 1)) (ca := cCB cLen (cCons (cVar 5) cNil)) (vs := [5]) (f := fun x => match x with
      | .tuple ys => .int ys.length
      | x => x) (ρ := [some (.d (.str s)), some (.d (.list ((wd s).map sgD))), some (.lst []), some (.d (.int 0)), none, none, none, none]) ((wd s).map sgD) rfl (fun x hx => by
        obtain ⟨w, _, e⟩ := List.mem_map.mp hx
        subst e
        rfl) (by rw [List.length_map]; exact lw)
    rw [h, List.map_map]
    congr 3
    refine List.map_congr_left fun w hw => ?_
    show PyData.int (((bk w).map rowD).length : Nat) = _
    rw [List.length_map, (f_sh w (ha w hw)).1]
  have e2 : cA2 [some (.d (.str s)), some (.d (.list ((wd s).map sgD))), some (.lst []), some (.d (.int 0)), none, none, none, none] = some (.nx (G s ((wd s).map sgD) [] 0 (sumN (wd s)) none none)) := by
    have q : cCB cSum (cCons (cNE (cLc (ciList (cVar 1)) (cgName 5) cYes (cCB cLen (cCons (cVar 5) cNil)) [5])) cNil) [some (.d (.str s)), some (.d (.list ((wd s).map sgD))), some (.lst []), some (.d (.int 0)), none, none, none, none] = some (.d (.int (sumN (wd s)))) := by
      refine cb_ok e2a ?_
      simp only [cSum, asList, Option.bind_some, ints_map, Option.map_some, sumN_int]
    unfold cA2 cSet
    rw [q]
    rfl
  obtain ⟨y5, y6, e3⟩ := bl_loop s ((wd s).map sgD) (sumN (wd s)) hm (wd s) [] 0 none none ha rfl (by omega)
  have e3' : cA3 (G s ((wd s).map sgD) [] 0 (sumN (wd s)) none none) = some (.nx (G s ((wd s).map sgD) (rowsOf (sumN (wd s)) 0 (wd s)) (sumN (wd s)) (sumN (wd s)) y5 y6)) := e3
  generalize rowsOf (sumN (wd s)) 0 (wd s) = R at e3' ⊢
  have e4 : cA4 (G s ((wd s).map sgD) R (sumN (wd s)) (sumN (wd s)) y5 y6) = some (.rt (.tuple (R.map rowD))) := by
    have f1 : frzAt (G s ((wd s).map sgD) R (sumN (wd s)) (sumN (wd s)) y5 y6) 2 = (G s ((wd s).map sgD) R (sumN (wd s)) (sumN (wd s)) y5 y6).set 2 (some (.d (.list (R.map rowD)))) := by
      show (if okvs (od R) = true then (G s ((wd s).map sgD) R (sumN (wd s)) (sumN (wd s)) y5 y6).set 2 (some (.d (.list (vws (od R))))) else _) = _
      rw [if_pos (okvs_od R), vws_od]
    unfold cA4 cFrz
    rw [f1]
    exact ret_ok (cb_ok (x := .d (.list (R.map rowD))) rfl rfl) rfl
  unfold c__law_blocks cRof
  rw [if_pos (show [OV.d (PyData.str s)].length = 1 from rfl), lb_eq, seq_ok e1, seq_ok e2, seq_ok e3', e4]
  rfl
end LP

/-! ==== PI05 ==== -/
set_option Elab.async false
set_option linter.all false
set_option maxRecDepth 100000
set_option maxHeartbeats 0
set_option synthInstance.maxHeartbeats 0
set_option synthInstance.maxSize 1000000
namespace LP
open PySem PySem.Spec PyProof.Rows L2 DL LW
/-! ## what repr may show -/
def VS : List Int := [-3, -2, -1, 0, 2]
theorem vs_ok : ∀ i ∈ VS, PyData.leavesShort 8 (.int i) = true ∧ PyData.showable (.int i) = true := by decide +kernel
theorem row_show : ∀ r : List Int, (∀ x ∈ r, x ∈ VS) → PyData.leavesShortAll 8 (r.map .int) = true ∧ PyData.showableAll (r.map .int) = true ∧ PyData.hasDictAll (r.map .int) = false ∧ PyData.depthAll (r.map .int) = 0 ∧ PyData.bulkAll (r.map .int) = r.length
  | [], _ => ⟨rfl, rfl, rfl, rfl, rfl⟩
  | x :: r, h => by
    obtain ⟨a, b, c, d, e⟩ := row_show r fun y hy => h y (List.mem_cons_of_mem _ hy)
    obtain ⟨p, q⟩ := vs_ok x (h x List.mem_cons_self)
    refine ⟨?_, ?_, ?_, ?_, ?_⟩
    · show (PyData.leavesShort 8 (.int x) && PyData.leavesShortAll 8 (r.map .int)) = true
      rw [p, a]; rfl
    · show (PyData.showable (.int x) && PyData.showableAll (r.map .int)) = true
      rw [q, b]; rfl
    · show (PyData.hasDict (.int x) || PyData.hasDictAll (r.map .int)) = false
      rw [c]; rfl
    · show max (PyData.depth (.int x)) (PyData.depthAll (r.map .int)) = 0
      rw [d]; rfl
    · show PyData.bulk (.int x) + 1 + PyData.bulkAll (r.map .int) = r.length + 1
      rw [e]
      show 0 + 1 + r.length = r.length + 1
      omega
def GoodR (R : List (List Int)) : Prop := ∀ r ∈ R, r.length ≤ 8 ∧ ∀ x ∈ r, x ∈ VS
theorem rows_show : ∀ R : List (List Int), GoodR R → PyData.leavesShortAll 8 (R.map rowD) = true ∧ PyData.showableAll (R.map rowD) = true ∧ PyData.hasDictAll (R.map rowD) = false ∧ PyData.depthAll (R.map rowD) ≤ 1 ∧ PyData.bulkAll (R.map rowD) ≤ 9 * R.length
  | [], _ => ⟨rfl, rfl, rfl, Nat.zero_le _, Nat.le_refl _⟩
  | r :: R, h => by
    obtain ⟨a, b, c, d, e⟩ := rows_show R fun y hy => h y (List.mem_cons_of_mem _ hy)
    obtain ⟨hl, hv⟩ := h r List.mem_cons_self
    obtain ⟨a', b', c', d', e'⟩ := row_show r hv
    refine ⟨?_, ?_, ?_, ?_, ?_⟩
    · show (PyData.leavesShortAll 8 (r.map .int) && PyData.leavesShortAll 8 (R.map rowD)) = true
      rw [a', a]; rfl
    · show (PyData.showableAll (r.map .int) && PyData.showableAll (R.map rowD)) = true
      rw [b', b]; rfl
    · show (PyData.hasDictAll (r.map .int) || PyData.hasDictAll (R.map rowD)) = false
      rw [c', c]; rfl
    · show max (PyData.depthAll (r.map .int) + 1) (PyData.depthAll (R.map rowD)) ≤ 1
      rw [d']
      omega
    · show PyData.bulkAll (r.map .int) + 1 + PyData.bulkAll (R.map rowD) ≤ 9 * (R.length + 1)
      rw [e']
      omega
theorem mat_show (R : List (List Int)) (h : GoodR R) (hl : R.length ≤ 8) : canShow (.list [.tuple (R.map rowD), .tuple (R.map rowD)]) := by
  obtain ⟨a, b, c, d, e⟩ := rows_show R h
  refine ⟨?_, ?_, ?_, ?_⟩
  · show (PyData.hasDictAll (R.map rowD) || (PyData.hasDictAll (R.map rowD) || false)) = false
    rw [c]; rfl
  · show (PyData.showableAll (R.map rowD) && (PyData.showableAll (R.map rowD) && true)) = true
    rw [b]; rfl
  · show max (PyData.depthAll (R.map rowD) + 1) (max (PyData.depthAll (R.map rowD) + 1) 0) + 1 ≤ 60
    omega
  · refine PyData.shown_fits_bulk (B := 8) (by decide) (by decide) ?_ ?_
    · show (PyData.leavesShortAll 8 (R.map rowD) && (PyData.leavesShortAll 8 (R.map rowD) && true)) = true
      rw [a]; rfl
    · show PyData.bulkAll (R.map rowD) + 1 + (PyData.bulkAll (R.map rowD) + 1 + 0) ≤ 2 ^ 20
      have e2 : (2 : Nat) ^ 20 = 1048576 := by decide
      rw [e2]
      omega
theorem bk_vs : ∀ w ∈ KN, ∀ r ∈ bk w, ∀ x ∈ r, x ∈ VS := by decide +kernel
theorem rowsOf_good (m : Nat) (hm : m ≤ 8) : ∀ (ws : List Str) (st : Nat), (∀ w ∈ ws, w ∈ KN) → st + sumN ws = m → GoodR (rowsOf m st ws)
  | [], _, _, _ => fun _ z => nomatch z
  | w :: ws, st, h, hs => by
    have es : sumN (w :: ws) = dgN w + sumN ws := rfl
    rw [es] at hs
    intro r hr
    have hr' : r ∈ pad st (m - st - dgN w) (bk w) ++ rowsOf m (st + dgN w) ws := hr
    rcases List.mem_append.mp hr' with z | z
    · obtain ⟨r0, h0, e0⟩ := List.mem_map.mp z
      rw [← e0]
      have hw := h w List.mem_cons_self
      refine ⟨?_, fun x hx => ?_⟩
      · unfold padR
        rw [List.length_append, List.length_append, List.length_replicate, List.length_replicate, (f_sh w hw).2 r0 h0]
        omega
      · unfold padR at hx
        have z0 : (0 : Int) ∈ VS := by decide
        rcases List.mem_append.mp hx with hx | hx
        · rcases List.mem_append.mp hx with hx | hx
          · rw [List.eq_of_mem_replicate hx]; exact z0
          · exact bk_vs w hw r0 h0 x hx
        · rw [List.eq_of_mem_replicate hx]; exact z0
    · exact rowsOf_good m hm ws (st + dgN w) (fun y hy => h y (List.mem_cons_of_mem _ hy)) (by omega) r z
theorem bl_show (b : Bool) : canShow (.list [.bool b, .bool b]) := by cases b <;> decide +kernel
theorem n_show : ∀ n ∈ List.range 9, canShow (.list [.int (n : Nat), .int (n : Nat)]) := by decide +kernel
def ctail : CS := (cSeq (cSet 3 (cCall c__law_is_type (cCons (cVar 1) cNil))) (cSeq (cIfS (cTest (cOp cNe (cCB cRepr (cCons (cLst (cCons (cCall c_is_type (cCons (cVar 1) cNil)) (cCons (cCallX c_is_type 0 1 [0] cNil (cCons (cVar 1) cNil)) cNil))) cNil)) (cCB cRepr (cCons (cLst (cCons (cVar 3) (cCons (cVar 3) cNil))) cNil)))) (cRet (cC (.bool false))) cNext) (cSeq (cIfS (cNotT (cTest (cVar 3))) (cRet (cC (.bool true))) cNext) (cSeq (cSet 4 (cCall c__law_blocks (cCons (cVar 1) cNil))) (cSeq (cIfS (cTest (cOp cNe (cCB cRepr (cCons (cLst (cCons (cCall c_matrix_of (cCons (cVar 1) cNil)) (cCons (cCallX c_matrix_of 0 1 [0] cNil (cCons (cVar 1) cNil)) cNil))) cNil)) (cCB cRepr (cCons (cLst (cCons (cVar 4) (cCons (cVar 4) cNil))) cNil)))) (cRet (cC (.bool false))) cNext) (cRet (cOp cEq (cCB cRepr (cCons (cLst (cCons (cCall c_rank_of (cCons (cVar 1) cNil)) (cCons (cCallX c_rank_of 0 1 [0] cNil (cCons (cVar 1) cNil)) cNil))) cNil)) (cCB cRepr (cCons (cLst (cCons (cCB cLen (cCons (cVar 4) cNil)) (cCons (cCB cLen (cCons (cVar 4) cNil)) cNil))) cNil)))))))))
def dtail : DS := (dSeq (dSet 3 (dCall R__law_is_type (dCons (dVar 1) dNil))) (dSeq (dIfS (dTest (dOp dNe (dCB dRepr (dCons (dLst (dCons (dCall R_is_type (dCons (dVar 1) dNil)) (dCons (dCallX R_is_type 0 1 [0] dNil (dCons (dVar 1) dNil)) dNil))) dNil)) (dCB dRepr (dCons (dLst (dCons (dVar 3) (dCons (dVar 3) dNil))) dNil)))) (dRet (dC (.bool false))) dNext) (dSeq (dIfS (dNotT (dTest (dVar 3))) (dRet (dC (.bool true))) dNext) (dSeq (dSet 4 (dCall R__law_blocks (dCons (dVar 1) dNil))) (dSeq (dIfS (dTest (dOp dNe (dCB dRepr (dCons (dLst (dCons (dCall R_matrix_of (dCons (dVar 1) dNil)) (dCons (dCallX R_matrix_of 0 1 [0] dNil (dCons (dVar 1) dNil)) dNil))) dNil)) (dCB dRepr (dCons (dLst (dCons (dVar 4) (dCons (dVar 4) dNil))) dNil)))) (dRet (dC (.bool false))) dNext) (dRet (dOp dEq (dCB dRepr (dCons (dLst (dCons (dCall R_rank_of (dCons (dVar 1) dNil)) (dCons (dCallX R_rank_of 0 1 [0] dNil (dCons (dVar 1) dNil)) dNil))) dNil)) (dCB dRepr (dCons (dLst (dCons (dCB dLen (dCons (dVar 4) dNil)) (dCons (dCB dLen (dCons (dVar 4) dNil)) dNil))) dNil)))))))))
instance ev_tail : EvS dtail ctail := by
  unfold dtail ctail
  infer_instance
theorem call_ok {c : CF} {a : CE} {ρ : DEnv} {x : OV} {r : PyData} (ha : a ρ = some x) (ok : argOk x = true) (hc : c [x] = some r) : cCall c (cCons a cNil) ρ = some (.d r) := by
  unfold cCall
  simp only [cCons, ha, cNil, Option.bind_some, Option.map_some]
  rw [if_pos (show [x].all argOk = true by simp [ok]), hc]
  rfl
theorem callx_ok {c : CF} {a : CE} {ρ : DEnv} {x : OV} {r : PyData} (ha : a ρ = some x) (ok : argOk x = true) (hc : c [x] = some r) : cCallX c 0 1 [0] cNil (cCons a cNil) ρ = some (.d r) := by
  unfold cCallX
  simp only [cCons, ha, cNil, Option.bind_some, Option.map_some]
  rw [if_pos (⟨rfl, rfl, by simp [permL, ok]⟩ : [].length = 0 ∧ [x].length = 1 ∧ (permL [0] OV.pot ([] ++ [x])).all argOk = true)]
  show (c [x]).map OV.d = _
  rw [hc]
  rfl
/-- repr([x, y]) -/
theorem repr2 {a b : CE} {ρ : DEnv} {x y : PyData} (ha : a ρ = some (.d x)) (hb : b ρ = some (.d y)) (h : canShow (.list [x, y])) : cCB cRepr (cCons (cLst (cCons a (cCons b cNil))) cNil) ρ = some (.d (.str (PyData.list [x, y]).shown)) := by
  have e : cLst (cCons a (cCons b cNil)) ρ = some (.d (.list [x, y])) := by
    unfold cLst
    simp only [cCons, ha, hb, cNil, Option.bind_some, Option.map_some, ovs]
    rw [if_pos (show [x, y].length ≤ sizeLine from by show 2 ≤ sizeLine; decide)]
  refine cb_ok e ?_
  show (if okv (.d (.list [x, y])) = true ∧ isSeq (.list [x, y]) = true ∧ canShow (.list [x, y]) then some (PyData.str (PyData.list [x, y]).shown) else none) = _
  rw [if_pos ⟨rfl, rfl, h⟩]
theorem ne_same {a b : CE} {ρ : DEnv} {z : Str} (ha : a ρ = some (.d (.str z))) (hb : b ρ = some (.d (.str z))) : cTest (cOp cNe a b) ρ = some false := by
  unfold cTest cOp
  rw [ha, Option.bind_some, hb, Option.bind_some]
  show (some (OV.d (.bool (not (decide (z = z)))))).bind _ = _
  rw [decide_eq_true rfl]
  rfl
theorem eq_same {a b : CE} {ρ : DEnv} {z : Str} (ha : a ρ = some (.d (.str z))) (hb : b ρ = some (.d (.str z))) : cOp cEq a b ρ = some (.d (.bool true)) := by
  unfold cOp
  rw [ha, Option.bind_some, hb, Option.bind_some]
  show some (OV.d (.bool (id (decide (z = z))))) = _
  rw [decide_eq_true rfl]
  rfl
theorem if_f {t : CT} {a b : CS} {ρ : DEnv} (h : t ρ = some false) : cIfS t a b ρ = b ρ := by
  unfold cIfS
  rw [h]
  rfl
theorem if_t {t : CT} {a b : CS} {ρ : DEnv} (h : t ρ = some true) : cIfS t a b ρ = a ρ := by
  unfold cIfS
  rw [h]
  rfl
theorem skip_f {t : CT} {a c : CS} {ρ : DEnv} (h : t ρ = some false) : cSeq (cIfS t a cNext) c ρ = c ρ := seq_ok (by rw [if_f h]; rfl)
theorem set_ok {i : Nat} {a : CE} {c : CS} {ρ : DEnv} {x : OV} (h : a ρ = some x) (ok : argOk x = true) : cSeq (cSet i a) c ρ = c (ρ.set i (some x)) := seq_ok (by unfold cSet; rw [h, Option.bind_some, if_pos ok])
theorem tail_f (d : PyData) (p w x4 : Option OV) (h1 : c__law_is_type [.d d] = some (.bool false)) (h2 : c_is_typed [.d d] = some (.bool false)) : ctail [p, some (.d d), w, none, x4] = some (.rt (.bool true)) := by
  have h3 := is_type_ok h2
  unfold ctail
  rw [set_ok (call_ok (x := .d d) rfl rfl h1) rfl]
  rw [skip_f (ne_same (repr2 (call_ok (x := .d d) rfl rfl h3) (callx_ok (x := .d d) rfl rfl h3) (bl_show false)) (repr2 (x := .bool false) (y := .bool false) rfl rfl (bl_show false)))]
  unfold cSeq
  rw [if_t (show cNotT (cTest (cVar 3)) _ = some true from rfl)]
  rfl
theorem tail_t (d : PyData) (R : List (List Int)) (p w : Option OV) (h1 : c__law_is_type [.d d] = some (.bool true)) (h2 : c_is_typed [.d d] = some (.bool true)) (hm : c_matrix_by [.d d] = some (.tuple (R.map rowD))) (hb : c__law_blocks [.d d] = some (.tuple (R.map rowD))) (hR : GoodR R) (hl : R.length ≤ 8) : ctail [p, some (.d d), w, none, none] = some (.rt (.bool true)) := by
  have h3 := is_type_ok h2
  have h4 := matrix_of_ok h2 hm
  have h5 := rank_of_ok h2 hm
  have hs := mat_show R hR hl
  have hn : canShow (.list [.int (((R.map rowD).length : Nat) : Int), .int (((R.map rowD).length : Nat) : Int)]) := n_show _ (List.mem_range.mpr (by rw [List.length_map]; omega))
  unfold ctail
  rw [set_ok (call_ok (x := .d d) rfl rfl h1) rfl]
  rw [skip_f (ne_same (repr2 (call_ok (x := .d d) rfl rfl h3) (callx_ok (x := .d d) rfl rfl h3) (bl_show true)) (repr2 (x := .bool true) (y := .bool true) rfl rfl (bl_show true)))]
  rw [skip_f (show cNotT (cTest (cVar 3)) _ = some false from rfl)]
  rw [set_ok (call_ok (x := .d d) rfl rfl hb) rfl]
  rw [skip_f (ne_same (repr2 (call_ok (x := .d d) rfl rfl h4) (callx_ok (x := .d d) rfl rfl h4) hs) (repr2 (x := .tuple (R.map rowD)) (y := .tuple (R.map rowD)) rfl rfl hs))]
  refine ret_ok (eq_same (repr2 (call_ok (x := .d d) rfl rfl h5) (callx_ok (x := .d d) rfl rfl h5) hn) (repr2 (cb_ok (x := .d (.tuple (R.map rowD))) rfl rfl) (cb_ok (x := .d (.tuple (R.map rowD))) rfl rfl) hn)) rfl
/-- the rest of the turn, for every text -/
theorem tail_str (s : Str) (p w : Option OV) (hs : s.cps.size + 2 ≤ sizeLine) : ctail [p, some (.d (.str s)), w, none, none] = some (.rt (.bool true)) := by
  have h1 := law_ok s hs
  have h2 := typed_ok s hs
  cases q : isT s with
  | false =>
    rw [q] at h1 h2
    exact tail_f _ p w none h1 h2
  | true =>
    rw [q] at h1 h2
    obtain ⟨a1, a2⟩ := He.ba q
    have ha : ∀ w ∈ wd s, w ∈ KN := fun w hw => of_decide_eq_true (List.all_eq_true.mp a1 w hw)
    have h8 := of_decide_eq_true a2
    rw [sumN_int] at h8
    have h8' : sumN (wd s) ≤ 8 := by omega
    have hl := isT_len q
    exact tail_t _ (rowsOf (sumN (wd s)) 0 (wd s)) p w h1 h2 (matrix_by_ok s (by omega) ha (by omega)) (blocks_ok s (by omega) ha (by omega)) (rowsOf_good _ h8' _ 0 ha (by omega)) (by rw [rowsOf_len _ _ _ ha]; exact h8')
end LP

/-! ==== PJ05 ==== -/
set_option Elab.async false
set_option linter.all false
set_option maxRecDepth 100000
set_option maxHeartbeats 0
set_option synthInstance.maxHeartbeats 0
set_option synthInstance.maxSize 1000000
namespace LP
open PySem PySem.Spec PyProof.Rows L2 DL LW
/-! ## what is drawn -/
theorem call_draw {ρ : DEnv} {Q : OV → Prop} {e : DE} {n : Int} (h0 : ρ[0]? = some (some .pot)) (he : ∀ Q' : OV → Prop, Q' (.d (.int n)) → e ρ Q') (h1 : 1 ≤ n) (h2 : n < 1073741824) (h : ∀ r : Int, 0 ≤ r → r < n → Q (.d (.int r))) : dCall Rdraw (dCons (dVar 0) (dCons e dNil)) ρ Q := by
  unfold dCall dCons dVar
  rw [h0]
  refine he _ ⟨rfl, fun z => ∃ r : Int, z = .int r ∧ 0 ≤ r ∧ r < n, ⟨n, rfl, h1, h2, fun r a b => ⟨r, rfl, a, b⟩⟩, ?_⟩
  rintro z ⟨r, rfl, a, b⟩
  exact h r a b
theorem atI_nat {α : Type} {xs : List α} {i : Int} (h0 : 0 ≤ i) (h1 : i < xs.length) : ∃ x, x ∈ xs ∧ atI xs i = some x := by
  have hn : i.toNat < xs.length := by omega
  refine ⟨xs[i.toNat], List.getElem_mem hn, ?_⟩
  unfold atI ixN
  rw [if_pos h0, if_pos h1]
  exact List.getElem?_eq_getElem hn
theorem pick_list {ys : List PyData} {Q : PyData → Prop} (h0 : 1 ≤ ys.length) (h1 : ys.length ≤ 100000) (h : ∀ y ∈ ys, Q y) : R__law_pick [.pot, .d (.list ys)] Q := by
  refine ⟨rfl, ?_⟩
  refine (show dOp dIx (dVar 1) (dCall Rdraw (dCons (dVar 0) (dCons (dCB dLen (dCons (dVar 1) dNil)) dNil))) [some .pot, some (.d (.list ys))] (fun x => okv x = true ∧ Q (vw x)) from ?_)
  refine (show dCall Rdraw (dCons (dVar 0) (dCons (dCB dLen (dCons (dVar 1) dNil)) dNil)) [some .pot, some (.d (.list ys))] (fun y => dIx (.d (.list ys)) y fun x => okv x = true ∧ Q (vw x)) from ?_)
  refine call_draw (n := ys.length) rfl (fun Q' q => q) (by omega) (by omega) fun r a b => ?_
  obtain ⟨x, hx, e⟩ := atI_nat a b
  exact ⟨x, e, rfl, h x hx⟩
theorem pick_str {s : Str} {Q : PyData → Prop} (h0 : 1 ≤ s.cps.size) (h1 : s.cps.size ≤ 100000) (h : ∀ c : Nat, Q (.str ⟨#[c]⟩)) : R__law_pick [.pot, .d (.str s)] Q := by
  have hz : s.length ≤ sizeLine := by
    show s.cps.size ≤ sizeLine
    have e' : sizeLine = 16777216 := rfl
    omega
  refine ⟨rfl, ?_⟩
  refine (show dCall Rdraw (dCons (dVar 0) (dCons (dCB dLen (dCons (dVar 1) dNil)) dNil)) [some .pot, some (.d (.str s))] (fun y => dIx (.d (.str s)) y fun x => okv x = true ∧ Q (vw x)) from ?_)
  refine call_draw (n := s.cps.size) rfl (fun Q' q => ⟨hz, q⟩) (by omega) (by omega) fun r a b => ?_
  obtain ⟨x, hx, e⟩ := atI_nat (xs := s.cps.toList) a (by simpa using b)
  exact ⟨hz, x, e, rfl, h x⟩
theorem call_pick {R : DF} {ρ : DEnv} {Q : OV → Prop} {e : DE} {y : OV} (ok : argOk y = true) (h0 : ρ[0]? = some (some .pot)) (he : ∀ Q' : OV → Prop, Q' y → e ρ Q') (P : PyData → Prop) (hR : R [.pot, y] P) (h : ∀ r, P r → Q (.d r)) : dCall R (dCons (dVar 0) (dCons e dNil)) ρ Q := by
  unfold dCall dCons dVar
  rw [h0]
  refine he _ ⟨?_, P, hR, h⟩
  show (argOk .pot && (argOk y && true)) = true
  rw [ok]
  rfl
/-! ### a type's text -/
theorem names_len : ∀ k ∈ List.range 9, k = 0 ∨ (match c__law_names [.d (.int (k : Nat))] with
    | some (.list ys) => ((ys.all fun y => match y with
      | .str w => w.cps.size == 2
      | _ => false) && decide (1 ≤ ys.length ∧ ys.length ≤ 10))
    | _ => false) = true := by decide +kernel
theorem names_ok (k : Int) (h1 : 1 ≤ k) (h2 : k ≤ 8) : ∃ ys : List PyData, c__law_names [.d (.int k)] = some (.list ys) ∧ 1 ≤ ys.length ∧ ys.length ≤ 10 ∧ ∀ y ∈ ys, ∃ w : Str, y = .str w ∧ w.cps.size = 2 := by
  have h := names_len k.toNat (List.mem_range.mpr (by omega))
  rw [show ((k.toNat : Nat) : Int) = k by omega] at h
  rcases h with h | h
  · omega
  · split at h
    · rename_i ys e
      obtain ⟨a, b⟩ := He.ba h
      have b' := of_decide_eq_true b
      refine ⟨ys, e, b'.1, b'.2, fun y hy => ?_⟩
      have c := List.all_eq_true.mp a y hy
      split at c
      · exact ⟨_, rfl, eq_of_beq c⟩
      · cases c
    · cases h
def tyB : DS := (dIfS (dTest (dOp dGt (dVar 2) (dC (.int 0)))) (dSeq (dSet 5 (dIf (dTest (dOp dGt (dCall Rdraw (dCons (dVar 0) (dCons (dC (.int 3)) dNil))) (dC (.int 0)))) (dVar 2) (dOp dAdd (dC (.int 1)) (dCall Rdraw (dCons (dVar 0) (dCons (dVar 2) dNil)))))) (dSeq (dApp 3 (dCall R__law_pick (dCons (dVar 0) (dCons (dCall R__law_names (dCons (dVar 5) dNil)) dNil)))) (dSet 2 (dOp dSub (dVar 2) (dVar 5))))) dNext)
def W2 (left : Int) (ws : List Str) (x4 x5 : Option OV) : DEnv := [some .pot, some (.d (.int 8)), some (.d (.int left)), some (.lst ((ws.map PyData.str).map OV.d)), x4, x5]
theorem ty_turn (left : Int) (ws : List Str) (x4 x5 : Option OV) (D : DEnds) (h8 : left ≤ 8) (hw : ∀ w ∈ ws, w.cps.size = 2) (hl : ws.length ≤ 100)
    (h0 : left ≤ 0 → D.nx (W2 left ws x4 x5)) (h1 : 0 < left → ∀ (left' : Int) (w : Str) (x5' : Option OV), left' ≤ 8 → w.cps.size = 2 → D.nx (W2 left' (ws ++ [w]) x4 x5')) : tyB D (W2 left ws x4 x5) := by
  unfold tyB dIfS
  refine (show (if decide (0 < left) = true then _ else _) from ?_)
  by_cases hp : 0 < left
  · rw [decide_eq_true hp]
    refine ite_t ?_
    have rest : ∀ many : Int, 1 ≤ many → many ≤ left → dSeq (dApp 3 (dCall R__law_pick (dCons (dVar 0) (dCons (dCall R__law_names (dCons (dVar 5) dNil)) dNil)))) (dSet 2 (dOp dSub (dVar 2) (dVar 5))) D (W2 left ws x4 (some (.d (.int many)))) := fun many m1 m2 => by
      obtain ⟨ys, e, l1, l2, hy⟩ := names_ok many m1 (by omega)
      refine (show dCall R__law_pick (dCons (dVar 0) (dCons (dCall R__law_names (dCons (dVar 5) dNil)) dNil)) (W2 left ws x4 (some (.d (.int many)))) (fun y => argOk y = true ∧ ((ws.map PyData.str).map OV.d).length < sizeLine ∧ dSet 2 (dOp dSub (dVar 2) (dVar 5)) D ((W2 left ws x4 (some (.d (.int many)))).set 3 (some (.lst ((ws.map PyData.str).map OV.d ++ [y]))))) from ?_)
      refine call_pick (y := .d (.list ys)) rfl rfl (fun Q' q => ?_) (fun r => ∃ w : Str, r = .str w ∧ w.cps.size = 2) (pick_list l1 (by omega) hy) ?_
      · exact EvE.ev (call_ok (a := cVar 5) (x := .d (.int many)) rfl rfl e) q
      · rintro r ⟨w, rfl, ww⟩
        refine ⟨rfl, by rw [List.length_map, List.length_map]; have e' : sizeLine = 16777216 := rfl; omega, rfl, ?_⟩
        have := h1 hp (left - many) w (some (.d (.int many))) (by omega) ww
        unfold W2 at this
        rw [List.map_append, List.map_append] at this
        exact this
    refine (show dIf (dTest (dOp dGt (dCall Rdraw (dCons (dVar 0) (dCons (dC (.int 3)) dNil))) (dC (.int 0)))) (dVar 2) (dOp dAdd (dC (.int 1)) (dCall Rdraw (dCons (dVar 0) (dCons (dVar 2) dNil)))) (W2 left ws x4 x5) (fun x => argOk x = true ∧ dSeq (dApp 3 (dCall R__law_pick (dCons (dVar 0) (dCons (dCall R__law_names (dCons (dVar 5) dNil)) dNil)))) (dSet 2 (dOp dSub (dVar 2) (dVar 5))) D ((W2 left ws x4 x5).set 5 (some x))) from ?_)
    unfold dIf
    refine (show dCall Rdraw (dCons (dVar 0) (dCons (dC (.int 3)) dNil)) (W2 left ws x4 x5) (fun y => dGt y (.d (.int 0)) _) from ?_)
    refine call_draw (n := 3) rfl (fun Q' q => q) (by decide) (by decide) fun r a b => ?_
    refine (show (if decide (0 < r) = true then _ else _) from ?_)
    by_cases hr : 0 < r
    · rw [decide_eq_true hr]
      refine ite_t ?_
      exact ⟨rfl, rest left (by omega) (Int.le_refl _)⟩
    · rw [decide_eq_false hr]
      refine ite_f ?_
      refine (show dCall Rdraw (dCons (dVar 0) (dCons (dVar 2) dNil)) (W2 left ws x4 x5) (fun y => dAdd (.d (.int 1)) y _) from ?_)
      refine call_draw (n := left) rfl (fun Q' q => q) (by omega) (by omega) fun r2 a2 b2 => ?_
      exact ⟨rfl, rest (1 + r2) (by omega) (by omega)⟩
  · rw [decide_eq_false hp]
    exact ite_f (h0 (by omega))
theorem ty_loop (D : DEnds) : ∀ (xs : List PyData) (left : Int) (ws : List Str) (x4 x5 : Option OV), left ≤ 8 → (∀ w ∈ ws, w.cps.size = 2) → ws.length + xs.length ≤ 8 → (ws ≠ [] ∨ (0 < left ∧ xs ≠ [])) →
    (∀ (left' : Int) (ws' : List Str) (x4' x5' : Option OV), (∀ w ∈ ws', w.cps.size = 2) → ws'.length ≤ 8 → ws' ≠ [] → D.nx (W2 left' ws' x4' x5')) → dLoop (dgName 4) tyB xs D (W2 left ws x4 x5)
  | [], left, ws, x4, x5, h8, hw, hl, hn, k => k left ws x4 x5 hw (by simpa using hl) (hn.elim id fun z => absurd rfl z.2)
  | x :: xs, left, ws, x4, x5, h8, hw, hl, hn, k => by
    rw [List.length_cons] at hl
    refine (show tyB { nx := fun ρ2 => dLoop (dgName 4) tyB xs D ρ2, ct := fun ρ2 => dLoop (dgName 4) tyB xs D ρ2, bk := D.nx, rt := D.rt } (W2 left ws (some (.d x)) x5) from ?_)
    refine ty_turn left ws _ x5 _ h8 hw (by omega) (fun hle => ?_) fun hp left' w x5' q8 ww => ?_
    · exact ty_loop D xs left ws _ x5 h8 hw (by omega) (hn.elim Or.inl fun z => absurd z.1 (by omega)) k
    · refine ty_loop D xs left' (ws ++ [w]) _ x5' q8 (fun y hy => ?_) (by rw [List.length_append, List.length_singleton]; omega) (Or.inl (by simp)) k
      rcases List.mem_append.mp hy with z | z
      · exact hw y z
      · rw [List.mem_singleton.mp z]; exact ww
theorem join2 : ∀ ws : List Str, (∀ w ∈ ws, w.cps.size = 2) → ws ≠ [] → (Str.join sp ws).cps.size + 1 = 3 * ws.length
  | [a], h, _ => by
    have := h a List.mem_cons_self
    show a.cps.size + 1 = 3
    omega
  | a :: b :: r, h, _ => by
    have e : (Str.join sp (a :: b :: r)).cps.size = a.cps.size + sp.cps.size + (Str.join sp (b :: r)).cps.size := by
      show (a.cps ++ sp.cps ++ (Str.join sp (b :: r)).cps).size = _
      rw [Array.size_append, Array.size_append]
    have i := join2 (b :: r) (fun w hw => h w (List.mem_cons_of_mem _ hw)) (List.cons_ne_nil _ _)
    have k := h a List.mem_cons_self
    rw [e, sp_one]
    simp only [List.length_cons] at i ⊢
    omega
theorem strs_map : ∀ ws : List Str, DL.strs? (ws.map PyData.str) = some ws
  | [] => rfl
  | w :: ws => by
    show (DL.strs? (ws.map PyData.str)).map (w :: ·) = _
    rw [strs_map ws]
    rfl
theorem sum2 : ∀ ws : List Str, (∀ w ∈ ws, w.cps.size = 2) → (ws.map (·.length)).sum = 2 * ws.length
  | [], _ => rfl
  | w :: ws, h => by
    rw [List.map_cons, List.sum_cons, sum2 ws fun y hy => h y (List.mem_cons_of_mem _ hy), List.length_cons]
    have := h w List.mem_cons_self
    show w.cps.size + 2 * ws.length = 2 * (ws.length + 1)
    omega
theorem fin_ok (left : Int) (ws : List Str) (x4 x5 : Option OV) (hw : ∀ w ∈ ws, w.cps.size = 2) (hl : ws.length ≤ 8) : cFrz 3 (cRet (cM1 cJoinR (cC (.str " ")) (cVar 3))) (W2 left ws x4 x5) = some (.rt (.str (Str.join sp ws))) := by
  have f1 : frzAt (W2 left ws x4 x5) 3 = [some .pot, some (.d (.int 8)), some (.d (.int left)), some (.d (.list (ws.map PyData.str))), x4, x5] := by
    show (if okvs ((ws.map PyData.str).map OV.d) = true then (W2 left ws x4 x5).set 3 (some (.d (.list (vws ((ws.map PyData.str).map OV.d))))) else _) = _
    rw [if_pos (okvs_d _), vws_d]
    rfl
  unfold cFrz
  rw [f1]
  refine ret_ok (x := .d (.str (Str.join sp ws))) ?_ rfl
  show cJoinR (.d (.str sp)) (.d (.list (ws.map PyData.str))) = _
  show (DL.strs? (ws.map PyData.str)).bind _ = _
  rw [strs_map, Option.bind_some]
  rw [if_pos (by rw [sum2 ws hw]; have : sp.length = 1 := sp_one; rw [this]; omega)]
  show some (OV.d (.str (Txt.join sp ws))) = _
  rw [show Txt.join sp ws = Str.join sp ws from PySem.StrLaws.glued_eq_join sp ws]
theorem type_ok {Q : PyData → Prop} (h : ∀ s : Str, 1 ≤ s.cps.size → s.cps.size ≤ 30 → Q (.str s)) : R__law_type [.pot, .d (.int 8)] Q := by
  refine ⟨rfl, ?_⟩
  refine (show dCall Rdraw (dCons (dVar 0) (dCons (dVar 1) dNil)) (startD N__law_type [.pot, .d (.int 8)]) (fun y => dAdd (.d (.int 1)) y _) from ?_)
  refine call_draw (n := 8) rfl (fun Q' q => q) (by decide) (by decide) fun r a b => ?_
  refine ⟨rfl, [], rfl, by decide, rfl, ⟨by decide, by decide⟩, ?_⟩
  refine (show dLoop (dgName 4) tyB (rngD 0 8) { nx := fun ρ' => dFrz 3 (dRet (dM1 dJoinR (dC (.str " ")) (dVar 3))) { nx := fun _ => Q .none, rt := Q } ρ', rt := Q } (W2 (1 + r) [] none none) from ?_)
  refine ty_loop _ _ _ _ _ _ (by omega) (fun _ z => nomatch z) (by rw [rngD_len]; decide) (Or.inr ⟨by omega, fun z => ?_⟩) fun left' ws' x4' x5' hw hl hn => ?_
  · have := congrArg List.length z
    rw [rngD_len] at this
    cases this
  · have j := join2 ws' hw hn
    have : 1 ≤ ws'.length := List.length_pos_iff.mpr hn
    exact EvS.ev (ds := dFrz 3 (dRet (dM1 dJoinR (dC (.str " ")) (dVar 3)))) (D := { nx := fun _ => Q .none, rt := Q }) (fin_ok left' ws' x4' x5' hw hl) (h _ (by omega) (by omega))
end LP

/-! ==== PK05 ==== -/
set_option Elab.async false
set_option linter.all false
set_option maxRecDepth 100000
set_option maxHeartbeats 0
set_option synthInstance.maxHeartbeats 0
set_option synthInstance.maxSize 1000000
namespace LP
open PySem PySem.Spec PyProof.Rows L2 DL LW
/-! ### the odd things -/
def O1 : List PyData := [.none, .bool true, .bool false, .int 0, .int 1, .int (-1), .int 2, .int 1000000000000000000000000000000, .str "", .str "A2", .str "x", .tuple [], .tuple [.int 2], .tuple [.tuple [.int 2]], .tuple [.tuple [.int 2, .int 0], .tuple [.int 0, .int 2]], .tuple [.int 0, .int 1], .tuple [.int 1, .int 0]]
def O2 : List PyData := [.list [], .list [.list [.int 2]], .dict [], .tuple [.tuple [.int 2, .int (-1)], .tuple [.int (-1)]], .tuple [.tuple [.bool true]], .tuple [.none], .tuple [.str "0"], .tuple [.tuple [.int 1, .int 2], .int 3], .tuple [.int 0, .int 0], .tuple [.int (-1), .int 0], .tuple [.int 1, .int 1, .int 1], .tuple [.bool true, .int 0]]
def dE1 : DE := (dLst (dCons (dC .none) (dCons (dC (.bool true)) (dCons (dC (.bool false)) (dCons (dC (.int 0)) (dCons (dC (.int 1)) (dCons (dNeg (dC (.int 1))) (dCons (dC (.int 2)) (dCons (dOp dPwr (dC (.int 10)) (dC (.int 30))) (dCons (dC (.str "")) (dCons (dC (.str "A2")) (dCons (dC (.str "x")) (dCons (dTup dNil) (dCons (dTup (dCons (dC (.int 2)) dNil)) (dCons (dTup (dCons (dTup (dCons (dC (.int 2)) dNil)) dNil)) (dCons (dTup (dCons (dTup (dCons (dC (.int 2)) (dCons (dC (.int 0)) dNil))) (dCons (dTup (dCons (dC (.int 0)) (dCons (dC (.int 2)) dNil))) dNil))) (dCons (dTup (dCons (dC (.int 0)) (dCons (dC (.int 1)) dNil))) (dCons (dTup (dCons (dC (.int 1)) (dCons (dC (.int 0)) dNil))) dNil))))))))))))))))))
def dE2 : DE := (dLst (dCons (dLst dNil) (dCons (dLst (dCons (dLst (dCons (dC (.int 2)) dNil)) dNil)) (dCons (dC (.dict [])) (dCons (dTup (dCons (dTup (dCons (dC (.int 2)) (dCons (dNeg (dC (.int 1))) dNil))) (dCons (dTup (dCons (dNeg (dC (.int 1))) dNil)) dNil))) (dCons (dTup (dCons (dTup (dCons (dC (.bool true)) dNil)) dNil)) (dCons (dTup (dCons (dC .none) dNil)) (dCons (dTup (dCons (dC (.str "0")) dNil)) (dCons (dTup (dCons (dTup (dCons (dC (.int 1)) (dCons (dC (.int 2)) dNil))) (dCons (dC (.int 3)) dNil))) (dCons (dTup (dCons (dC (.int 0)) (dCons (dC (.int 0)) dNil))) (dCons (dTup (dCons (dNeg (dC (.int 1))) (dCons (dC (.int 0)) dNil))) (dCons (dTup (dCons (dC (.int 1)) (dCons (dC (.int 1)) (dCons (dC (.int 1)) dNil)))) (dCons (dTup (dCons (dC (.bool true)) (dCons (dC (.int 0)) dNil))) dNil)))))))))))))
def cE1 : CE := (cLst (cCons (cC .none) (cCons (cC (.bool true)) (cCons (cC (.bool false)) (cCons (cC (.int 0)) (cCons (cC (.int 1)) (cCons (cNeg (cC (.int 1))) (cCons (cC (.int 2)) (cCons (cOp cPwr (cC (.int 10)) (cC (.int 30))) (cCons (cC (.str "")) (cCons (cC (.str "A2")) (cCons (cC (.str "x")) (cCons (cTup cNil) (cCons (cTup (cCons (cC (.int 2)) cNil)) (cCons (cTup (cCons (cTup (cCons (cC (.int 2)) cNil)) cNil)) (cCons (cTup (cCons (cTup (cCons (cC (.int 2)) (cCons (cC (.int 0)) cNil))) (cCons (cTup (cCons (cC (.int 0)) (cCons (cC (.int 2)) cNil))) cNil))) (cCons (cTup (cCons (cC (.int 0)) (cCons (cC (.int 1)) cNil))) (cCons (cTup (cCons (cC (.int 1)) (cCons (cC (.int 0)) cNil))) cNil))))))))))))))))))
def cE2 : CE := (cLst (cCons (cLst cNil) (cCons (cLst (cCons (cLst (cCons (cC (.int 2)) cNil)) cNil)) (cCons (cC (.dict [])) (cCons (cTup (cCons (cTup (cCons (cC (.int 2)) (cCons (cNeg (cC (.int 1))) cNil))) (cCons (cTup (cCons (cNeg (cC (.int 1))) cNil)) cNil))) (cCons (cTup (cCons (cTup (cCons (cC (.bool true)) cNil)) cNil)) (cCons (cTup (cCons (cC .none) cNil)) (cCons (cTup (cCons (cC (.str "0")) cNil)) (cCons (cTup (cCons (cTup (cCons (cC (.int 1)) (cCons (cC (.int 2)) cNil))) (cCons (cC (.int 3)) cNil))) (cCons (cTup (cCons (cC (.int 0)) (cCons (cC (.int 0)) cNil))) (cCons (cTup (cCons (cNeg (cC (.int 1))) (cCons (cC (.int 0)) cNil))) (cCons (cTup (cCons (cC (.int 1)) (cCons (cC (.int 1)) (cCons (cC (.int 1)) cNil)))) (cCons (cTup (cCons (cC (.bool true)) (cCons (cC (.int 0)) cNil))) cNil)))))))))))))
instance ev_E1 : EvE dE1 cE1 := by
  unfold dE1 cE1
  infer_instance
instance ev_E2 : EvE dE2 cE2 := by
  unfold dE2 cE2
  infer_instance
theorem e1_ok (ρ : DEnv) : cE1 ρ = some (.d (.list O1)) := by kernel_rfl
theorem e2_ok (ρ : DEnv) : cE2 ρ = some (.d (.list O2)) := by kernel_rfl
theorem odd_eq : ds__law_odd = dSeq (dSet 1 dE1) (dSeq (dSet 2 dE2) (dRet (dCall R__law_pick (dCons (dVar 0) (dCons (dOp dAdd (dVar 1) (dVar 2)) dNil))))) := rfl
theorem seq_set {i : Nat} {de : DE} {ce : CE} {rest : DS} {D : DEnds} {ρ : DEnv} {x : OV} [h : EvE de ce] (e : ce ρ = some x) (ok : argOk x = true) (k : rest D (ρ.set i (some x))) : dSeq (dSet i de) rest D ρ := h.ev e ⟨ok, k⟩
theorem odd_last {Q : PyData → Prop} (A B : List PyData) (h0 : 1 ≤ (A ++ B).length) (h1 : (A ++ B).length ≤ 100000) (hl : A.length + B.length ≤ sizeLine) (h : ∀ d ∈ A ++ B, Q d) : dRet (dCall R__law_pick (dCons (dVar 0) (dCons (dOp dAdd (dVar 1) (dVar 2)) dNil))) { nx := fun _ => Q .none, rt := Q } [some .pot, some (.d (.list A)), some (.d (.list B))] := by
  refine (show dCall R__law_pick (dCons (dVar 0) (dCons (dOp dAdd (dVar 1) (dVar 2)) dNil)) [some .pot, some (.d (.list A)), some (.d (.list B))] (fun x => okv x = true ∧ Q (vw x)) from ?_)
  refine call_pick (y := .d (.list (A ++ B))) rfl rfl (fun Q' q => ?_) (fun d => d ∈ A ++ B) (pick_list h0 h1 fun y hy => hy) fun r hr => ⟨rfl, h r hr⟩
  exact ⟨A, B, rfl, rfl, hl, q⟩
theorem odd_ok {Q : PyData → Prop} (h : ∀ d ∈ O1 ++ O2, Q d) : R__law_odd [.pot] Q := by
  refine ⟨rfl, ?_⟩
  rw [odd_eq]
  refine seq_set (e1_ok _) rfl ?_
  refine seq_set (e2_ok _) rfl ?_
  exact odd_last O1 O2 (by decide +kernel) (by decide +kernel) (by decide +kernel) h
def Good (d : PyData) : Prop := (∃ s : Str, d = .str s ∧ s.cps.size ≤ 1000) ∨ (tyN d == "str") = false
theorem odd_good : ∀ d ∈ O1 ++ O2, Good d := by
  have key : ((O1 ++ O2).all fun d => match d with
    | .str s => decide (s.cps.size ≤ 1000)
    | d => !(tyN d == "str")) = true := by decide +kernel
  intro d hd
  have k := List.all_eq_true.mp key d hd
  split at k
  · exact .inl ⟨_, rfl, of_decide_eq_true k⟩
  · exact .inr (by simpa using k)
theorem other_ok {d : PyData} (h : (tyN d == "str") = false) : c__law_is_type [.d d] = some (.bool false) ∧ c_is_typed [.d d] = some (.bool false) := by
  have hi : isiB (tyN d) "str" = false := by
    unfold isiB
    rw [h]
    simp
  constructor
  · simp [c__law_is_type, cs_eq, cRof, startD, N__law_is_type, cSeq, cIfS, cNotT, cTest, cIsi, okv, vw, hi, cRet, cC, cVar, Out.val]
  · simp [c_is_typed, cs_is_typed, cRof, startD, N_is_typed, cSeq, cIfS, cOrT, cNotT, cTest, cIsi, okv, vw, hi, cRet, cC, cVar, Out.val]
theorem tail_good (d : PyData) (p w : Option OV) (h : Good d) : ctail [p, some (.d d), w, none, none] = some (.rt (.bool true)) := by
  rcases h with ⟨s, rfl, hs⟩ | h
  · exact tail_str s p w (by have e' : sizeLine = 16777216 := rfl; omega)
  · obtain ⟨h1, h2⟩ := other_ok h
    exact tail_f d p w none h1 h2
end LP

/-! ==== PL05 ==== -/
set_option Elab.async false
set_option linter.all false
set_option maxRecDepth 100000
set_option maxHeartbeats 0
set_option synthInstance.maxHeartbeats 0
set_option synthInstance.maxSize 1000000
namespace LP
open PySem PySem.Spec PyProof.Rows L2 DL LW
/-! ### the bent texts -/
def bT0 : DT := (dTest (dOp dEq (dVar 2) (dC (.int 0))))
def bV0 : DE := (dOp dAdd (dOp dAdd (dSl (dVar 1) dNoPart (dPart (dVar 3))) (dCall R__law_pick (dCons (dVar 0) (dCons (dC (.str "ABCDEFG0123456789 aH-\n")) dNil)))) (dSl (dVar 1) (dPart (dOp dAdd (dVar 3) (dC (.int 1)))) dNoPart))
def bT1 : DT := (dTest (dOp dEq (dVar 2) (dC (.int 1))))
def bV1 : DE := (dOp dAdd (dOp dAdd (dSl (dVar 1) dNoPart (dPart (dVar 3))) (dCall R__law_pick (dCons (dVar 0) (dCons (dC (.str " 01A\t+")) dNil)))) (dSl (dVar 1) (dPart (dVar 3)) dNoPart))
def bT2 : DT := (dTest (dOp dEq (dVar 2) (dC (.int 2))))
def bV2 : DE := (dOp dAdd (dSl (dVar 1) dNoPart (dPart (dVar 3))) (dSl (dVar 1) (dPart (dOp dAdd (dVar 3) (dC (.int 1)))) dNoPart))
def bT3 : DT := (dTest (dOp dEq (dVar 2) (dC (.int 3))))
def bV3 : DE := (dOp dAdd (dOp dAdd (dVar 1) (dC (.str " "))) (dCall R__law_pick (dCons (dVar 0) (dCons (dLst (dCons (dC (.str "A1")) (dCons (dC (.str "A2")) (dCons (dVar 1) (dCons (dC (.str "G2")) (dCons (dC (.str "")) (dCons (dC (.str "F4")) (dCons (dC (.str "b2")) (dCons (dC (.str "E8")) dNil))))))))) dNil))))
def bT4 : DT := (dAndT (dTest (dOp dGt (dVar 2) (dC (.int 3)))) (dAndT (dTest (dOp dNe (dVar 2) (dC (.int 5)))) (dTest (dOp dNe (dVar 2) (dC (.int 6))))))
def bV4 : DE := (dCall R__law_pick (dCons (dVar 0) (dCons (dLst (dCons (dC (.str "B1")) (dCons (dC (.str "C2")) (dCons (dC (.str "D3")) (dCons (dC (.str "E5")) (dCons (dC (.str "F3")) (dCons (dC (.str "G3")) (dCons (dC (.str "A0")) (dCons (dC (.str "A9")) (dCons (dC (.str "E9")) (dCons (dC (.str "D2")) (dCons (dC (.str "C1")) (dCons (dC (.str "A01")) (dCons (dC (.str "A 1")) (dCons (dC (.str "A")) (dCons (dC (.str "2")) (dCons (dC (.str "C2")) (dCons (dC (.str "B1")) dNil)))))))))))))))))) dNil)))
def bV5 : DE := (dIf (dTest (dOp dEq (dVar 2) (dC (.int 5)))) (dM0 dLowerR (dVar 1)) (dOp dAdd (dC (.str " ")) (dVar 1)))
def bP : DS := (dPar 2 3 (dCons (dCall Rdraw (dCons (dVar 0) (dCons (dC (.int 10)) dNil))) (dCons (dCall Rdraw (dCons (dVar 0) (dCons (dCB dLen (dCons (dVar 1) dNil)) dNil))) dNil)))
def bC0 : CT := (cTest (cOp cEq (cVar 2) (cC (.int 0))))
instance ev_bT0 : EvT bT0 bC0 := by
  unfold bT0 bC0
  infer_instance
def bC1 : CT := (cTest (cOp cEq (cVar 2) (cC (.int 1))))
instance ev_bT1 : EvT bT1 bC1 := by
  unfold bT1 bC1
  infer_instance
def bC2 : CT := (cTest (cOp cEq (cVar 2) (cC (.int 2))))
instance ev_bT2 : EvT bT2 bC2 := by
  unfold bT2 bC2
  infer_instance
def bC3 : CT := (cTest (cOp cEq (cVar 2) (cC (.int 3))))
instance ev_bT3 : EvT bT3 bC3 := by
  unfold bT3 bC3
  infer_instance
def bC4 : CT := (cAndT (cTest (cOp cGt (cVar 2) (cC (.int 3)))) (cAndT (cTest (cOp cNe (cVar 2) (cC (.int 5)))) (cTest (cOp cNe (cVar 2) (cC (.int 6))))))
instance ev_bT4 : EvT bT4 bC4 := by
  unfold bT4 bC4
  infer_instance
theorem bent_eq : ds__law_bent = dSeq bP (dSeq (dIfS bT0 (dRet bV0) dNext) (dSeq (dIfS bT1 (dRet bV1) dNext) (dSeq (dIfS bT2 (dRet bV2) dNext) (dSeq (dIfS bT3 (dRet bV3) dNext) (dSeq (dIfS bT4 (dRet bV4) dNext) (dRet bV5)))))) := rfl
/-- a text of at most n signs, whatever is drawn -/
def SS (n : Nat) (de : DE) (ρ : DEnv) : Prop := ∀ Q : OV → Prop, (∀ s : Str, s.cps.size ≤ n → Q (.d (.str s))) → de ρ Q
theorem ss_add {a b : DE} {ρ : DEnv} {n m : Nat} (ha : SS n a ρ) (hb : SS m b ρ) (h : n + m ≤ 10000) : SS (n + m) (dOp dAdd a b) ρ := fun Q k =>
  ha _ fun s hs => hb _ fun u hu => ⟨by
    show s.cps.size + u.cps.size ≤ sizeLine
    have e' : sizeLine = 16777216 := rfl
    omega, k (s ++ u) (by
      show (s.cps ++ u.cps).size ≤ n + m
      rw [Array.size_append]
      omega)⟩
theorem ss_var {i : Nat} {ρ : DEnv} {t : Str} {n : Nat} (h : ρ[i]? = some (some (.d (.str t)))) (hn : t.cps.size ≤ n) : SS n (dVar i) ρ := fun Q k => by
  unfold dVar
  rw [h]
  exact k t hn
theorem ss_c {z : Str} {ρ : DEnv} {n : Nat} (hn : z.cps.size ≤ n) : SS n (dC (.str z)) ρ := fun Q k => k z hn
theorem ss_sl {de : DE} {dl dh : DEnv → (Option Int → Prop) → Prop} {cl ch : CO} {ρ : DEnv} {n : Nat} [h1 : EvO dl cl] [h2 : EvO dh ch] {l h : Option Int} (hd : SS n de ρ) (e1 : cl ρ = some l) (e2 : ch ρ = some h) (hn : n ≤ 10000) : SS n (dSl de dl dh) ρ := fun Q k =>
  hd _ fun s hs => h1.ev e1 (h2.ev e2 ⟨by
    show s.cps.size ≤ sizeLine
    have e' : sizeLine = 16777216 := rfl
    omega, k _ (Nat.le_trans (cutS_length s l h) hs)⟩)
theorem ss_pick {z : Str} {ρ : DEnv} (h0 : ρ[0]? = some (some .pot)) (h1 : 1 ≤ z.cps.size ∧ z.cps.size ≤ 100000) : SS 1 (dCall R__law_pick (dCons (dVar 0) (dCons (dC (.str z)) dNil))) ρ := fun Q k =>
  call_pick (y := .d (.str z)) rfl h0 (fun Q' q => q) (fun r => ∃ c : Nat, r = .str ⟨#[c]⟩) (pick_str h1.1 h1.2 fun c => ⟨c, rfl⟩) (by
    rintro r ⟨c, rfl⟩
    exact k _ (by show (1 : Nat) ≤ 1; decide))
theorem ss_pickl {de : DE} {ce : CE} {ρ : DEnv} {ys : List PyData} {n : Nat} [he : EvE de ce] (h0 : ρ[0]? = some (some .pot)) (e : ce ρ = some (.d (.list ys))) (h1 : 1 ≤ ys.length ∧ ys.length ≤ 100000) (hy : ∀ y ∈ ys, ∃ s : Str, y = .str s ∧ s.cps.size ≤ n) : SS n (dCall R__law_pick (dCons (dVar 0) (dCons de dNil))) ρ := fun Q k =>
  call_pick (y := .d (.list ys)) rfl h0 (fun Q' q => he.ev e q) (fun r => ∃ s : Str, r = .str s ∧ s.cps.size ≤ n) (pick_list h1.1 h1.2 hy) (by
    rintro r ⟨s, rfl, hs⟩
    exact k _ hs)
theorem ss_lower {de : DE} {ρ : DEnv} {n : Nat} (hd : SS n de ρ) (hn : n ≤ 10000) : SS (3 * n) (dM0 dLowerR de) ρ := fun Q k =>
  hd _ fun s hs => ⟨by show s.cps.size ≤ _; omega, k _ (Nat.le_trans (len_lower s) (by show 3 * s.cps.size ≤ 3 * n; omega))⟩
theorem ss_if {dt : DT} {ct : CT} {a b : DE} {ρ : DEnv} {n : Nat} {c : Bool} [h : EvT dt ct] (e : ct ρ = some c) (ha : SS n a ρ) (hb : SS n b ρ) : SS n (dIf dt a b) ρ := fun Q k => h.ev e (by
  cases c with
  | true => exact ite_t (ha Q k)
  | false => exact ite_f (hb Q k))
theorem ss_ret {de : DE} {ρ : DEnv} {n : Nat} {D : DEnds} (h : SS n de ρ) (k : ∀ s : Str, s.cps.size ≤ n → D.rt (.str s)) : dRet de D ρ := h _ fun s hs => ⟨rfl, k s hs⟩
theorem skip_cps {dt : DT} {ct : CT} {de : DE} {rest : DS} {D : DEnds} {ρ : DEnv} {c : Bool} {n : Nat} [h : EvT dt ct] (e : ct ρ = some c) (h1 : SS n de ρ) (k : ∀ s : Str, s.cps.size ≤ n → D.rt (.str s)) (h2 : rest D ρ) : dSeq (dIfS dt (dRet de) dNext) rest D ρ := h.ev e (by
  cases c with
  | true => exact ite_t (h1 _ fun s hs => ⟨rfl, k s hs⟩)
  | false => exact ite_f h2)
def BE (t : Str) (w a : Int) : DEnv := [some .pot, some (.d (.str t)), some (.d (.int w)), some (.d (.int a))]
theorem cons_draw {ρ : DEnv} {e : DE} {dr : DA} {n : Int} {K : List OV → Prop} (h0 : ρ[0]? = some (some .pot)) (he : ∀ Q' : OV → Prop, Q' (.d (.int n)) → e ρ Q') (h1 : 1 ≤ n) (h2 : n < 1073741824) (h : ∀ r : Int, 0 ≤ r → r < n → dr ρ fun xs => K (.d (.int r) :: xs)) :
    dCons (dCall Rdraw (dCons (dVar 0) (dCons e dNil))) dr ρ K := call_draw (Q := fun x => dr ρ fun xs => K (x :: xs)) h0 he h1 h2 h
theorem bP_ok (t : Str) (D : DEnds) (h1 : 1 ≤ t.cps.size) (h2 : t.cps.size ≤ 30) (h : ∀ w a : Int, D.nx (BE t w a)) : bP D [some .pot, some (.d (.str t)), none, none] := by
  have hz : t.length ≤ sizeLine := by
    show t.cps.size ≤ sizeLine
    have e' : sizeLine = 16777216 := rfl
    omega
  unfold bP dPar
  refine cons_draw (n := 10) rfl (fun Q' q => q) (by decide) (by decide) fun w _ _ => ?_
  refine cons_draw (n := t.cps.size) rfl (fun Q' q => ⟨hz, q⟩) (by omega) (by omega) fun a _ _ => ?_
  exact ⟨rfl, rfl, h w a⟩
theorem seq_par (t : Str) (rest : DS) (D : DEnds) (h1 : 1 ≤ t.cps.size) (h2 : t.cps.size ≤ 30) (h : ∀ w a : Int, rest D (BE t w a)) : dSeq bP rest D [some .pot, some (.d (.str t)), none, none] := bP_ok t _ h1 h2 h
theorem cons_str {z : Str} {r : CN} {ρ : DEnv} {ys : List OV} (h : r ρ = some ys) : cCons (cC (.str z)) r ρ = some (.d (.str z) :: ys) := by
  unfold cCons
  show (r ρ).map _ = _
  rw [h]
  rfl
theorem lst_of {a : CN} {ρ : DEnv} {ds : List PyData} (h : a ρ = some (ds.map OV.d)) (hl : ds.length ≤ 1000) : cLst a ρ = some (.d (.list ds)) := by
  unfold cLst
  rw [h, Option.bind_some, ovs_d, Option.bind_some, if_pos (by have e' : sizeLine = 16777216 := rfl; omega)]
theorem l3_ok (t : Str) (w a : Int) : cLst (cCons (cC (.str "A1")) (cCons (cC (.str "A2")) (cCons (cVar 1) (cCons (cC (.str "G2")) (cCons (cC (.str "")) (cCons (cC (.str "F4")) (cCons (cC (.str "b2")) (cCons (cC (.str "E8")) cNil)))))))) (BE t w a) = some (.d (.list [.str "A1", .str "A2", .str t, .str "G2", .str "", .str "F4", .str "b2", .str "E8"])) := lst_of rfl (show (8 : Nat) ≤ 1000 by decide)
def Y4 : List PyData := [.str "B1", .str "C2", .str "D3", .str "E5", .str "F3", .str "G3", .str "A0", .str "A9", .str "E9", .str "D2", .str "C1", .str "A01", .str "A 1", .str "A", .str "2", .str "C2", .str "B1"]
theorem l4_ok (ρ : DEnv) : cLst (cCons (cC (.str "B1")) (cCons (cC (.str "C2")) (cCons (cC (.str "D3")) (cCons (cC (.str "E5")) (cCons (cC (.str "F3")) (cCons (cC (.str "G3")) (cCons (cC (.str "A0")) (cCons (cC (.str "A9")) (cCons (cC (.str "E9")) (cCons (cC (.str "D2")) (cCons (cC (.str "C1")) (cCons (cC (.str "A01")) (cCons (cC (.str "A 1")) (cCons (cC (.str "A")) (cCons (cC (.str "2")) (cCons (cC (.str "C2")) (cCons (cC (.str "B1")) cNil))))))))))))))))) ρ = some (.d (.list Y4)) := lst_of (ds := Y4) rfl (by decide)
theorem y4_ok : ∀ y ∈ Y4, ∃ s : Str, y = .str s ∧ s.cps.size ≤ 30 := by
  have key : (Y4.all fun y => match y with
    | .str s => decide (s.cps.size ≤ 30)
    | _ => false) = true := by decide +kernel
  intro y hy
  have k := List.all_eq_true.mp key y hy
  split at k
  · exact ⟨_, rfl, of_decide_eq_true k⟩
  · cases k
theorem t4_ok (t : Str) (w a : Int) : bC4 (BE t w a) = some (decide (3 < w) && (!decide (w = 5) && !decide (w = 6))) := by
  unfold bC4 BE
  simp [cAndT, cTest, cOp, cVar, cC, cI0, cNe, cEqG]
  by_cases h1 : 3 < w <;> by_cases h2 : w = 5 <;> simp [h1, h2]
theorem bent_ok {Q : PyData → Prop} (t : Str) (h1 : 1 ≤ t.cps.size) (h2 : t.cps.size ≤ 30) (h : ∀ s : Str, s.cps.size ≤ 1000 → Q (.str s)) : R__law_bent [.pot, .d (.str t)] Q := by
  refine ⟨rfl, ?_⟩
  rw [bent_eq]
  have k : ∀ n ≤ 1000, ∀ s : Str, s.cps.size ≤ n → ({ nx := fun _ => Q .none, rt := Q } : DEnds).rt (.str s) := fun n hn s hs => h s (by omega)
  generalize ({ nx := fun _ => Q .none, rt := Q } : DEnds) = D at k ⊢
  refine seq_par t _ D h1 h2 fun w a => ?_
  have hv : SS 30 (dVar 1) (BE t w a) := ss_var rfl h2
  refine skip_cps (dt := bT0) (c := decide (w = 0)) (n := 61) rfl ?_ (k _ (by decide)) ?_
  · unfold bV0
    exact ss_add (n := 31) (m := 30) (ss_add (n := 30) (m := 1) (ss_sl hv rfl rfl (by decide)) (ss_pick rfl (by decide +kernel)) (by decide)) (ss_sl hv rfl rfl (by decide)) (by decide)
  refine skip_cps (dt := bT1) (c := decide (w = 1)) (n := 61) rfl ?_ (k _ (by decide)) ?_
  · unfold bV1
    exact ss_add (n := 31) (m := 30) (ss_add (n := 30) (m := 1) (ss_sl hv rfl rfl (by decide)) (ss_pick rfl (by decide +kernel)) (by decide)) (ss_sl hv rfl rfl (by decide)) (by decide)
  refine skip_cps (dt := bT2) (c := decide (w = 2)) (n := 60) rfl ?_ (k _ (by decide)) ?_
  · unfold bV2
    exact ss_add (n := 30) (m := 30) (ss_sl hv rfl rfl (by decide)) (ss_sl hv rfl rfl (by decide)) (by decide)
  refine skip_cps (dt := bT3) (c := decide (w = 3)) (n := 61) rfl ?_ (k _ (by decide)) ?_
  · unfold bV3
    refine ss_add (n := 31) (m := 30) (ss_add (n := 30) (m := 1) hv (ss_c (by decide +kernel)) (by decide)) (ss_pickl (ys := [.str "A1", .str "A2", .str t, .str "G2", .str "", .str "F4", .str "b2", .str "E8"]) rfl (l3_ok t w a) (show 1 ≤ (8 : Nat) ∧ (8 : Nat) ≤ 100000 by decide) ?_) (by decide)
    intro y hy
    simp only [List.mem_cons, List.not_mem_nil, or_false] at hy
    rcases hy with rfl | rfl | rfl | rfl | rfl | rfl | rfl | rfl <;> first | exact ⟨_, rfl, h2⟩ | exact ⟨_, rfl, by decide +kernel⟩
  refine skip_cps (dt := bT4) (c := (decide (3 < w) && (!decide (w = 5) && !decide (w = 6)))) (n := 30) (t4_ok t w a) ?_ (k _ (by decide)) ?_
  · unfold bV4
    exact ss_pickl (ys := Y4) rfl (l4_ok (BE t w a)) (by decide +kernel) y4_ok
  unfold bV5
  refine ss_ret (n := 90) (ss_if (c := decide (w = 5)) rfl (ss_lower hv (by decide)) fun Q' q => ?_) (k _ (by decide))
  exact ss_add (n := 1) (m := 30) (ss_c (by decide +kernel)) hv (by decide) Q' fun s hs => q s (by omega)
end LP

/-! ==== HD05 ==== -/
set_option Elab.async false
set_option linter.all false
set_option maxRecDepth 100000
set_option maxHeartbeats 0
namespace LH
open PySem PySem.Spec PyProof.Rows L2 DL LW
def d_is_name : He.DefD := ⟨("is_name", none), "is_name", "is_name", defArgs s_is_name, defBody s_is_name, defScope s_is_name, [], []⟩
def d_is_typed : He.DefD := ⟨("is_typed", none), "is_typed", "is_typed", defArgs s_is_typed, defBody s_is_typed, defScope s_is_typed, [], []⟩
def d_joints_of : He.DefD := ⟨("joints_of", none), "joints_of", "joints_of", defArgs s_joints_of, defBody s_joints_of, defScope s_joints_of, [], []⟩
def d_matrix_by : He.DefD := ⟨("matrix_by", none), "matrix_by", "matrix_by", defArgs s_matrix_by, defBody s_matrix_by, defScope s_matrix_by, [], []⟩
def d_check_type : He.DefD := ⟨("check_type", none), "check_type", "check_type", defArgs s_check_type, defBody s_check_type, defScope s_check_type, [], []⟩
def d_is_type : He.DefD := ⟨("is_type", none), "is_type", "is_type", defArgs s_is_type, defBody s_is_type, defScope s_is_type, [], []⟩
def d_matrix_of : He.DefD := ⟨("matrix_of", none), "matrix_of", "matrix_of", defArgs s_matrix_of, defBody s_matrix_of, defScope s_matrix_of, [], []⟩
def d_rank_of : He.DefD := ⟨("rank_of", none), "rank_of", "rank_of", defArgs s_rank_of, defBody s_rank_of, defScope s_rank_of, [], []⟩
def d__law_pot : He.DefD := ⟨("_law_pot", none), "_law_pot", "_law_pot", defArgs s__law_pot, defBody s__law_pot, defScope s__law_pot, [], []⟩
def d__law_draw : He.DefD := ⟨("_law_draw", none), "_law_draw", "_law_draw", defArgs s__law_draw, defBody s__law_draw, defScope s__law_draw, [], []⟩
def d__law_pick : He.DefD := ⟨("_law_pick", none), "_law_pick", "_law_pick", defArgs s__law_pick, defBody s__law_pick, defScope s__law_pick, [], []⟩
def d__law_odd : He.DefD := ⟨("_law_odd", none), "_law_odd", "_law_odd", defArgs s__law_odd, defBody s__law_odd, defScope s__law_odd, [], []⟩
def d__law_names : He.DefD := ⟨("_law_names", none), "_law_names", "_law_names", defArgs s__law_names, defBody s__law_names, defScope s__law_names, [], []⟩
def d__law_single : He.DefD := ⟨("_law_single", none), "_law_single", "_law_single", defArgs s__law_single, defBody s__law_single, defScope s__law_single, [], []⟩
def d__law_blocks : He.DefD := ⟨("_law_blocks", none), "_law_blocks", "_law_blocks", defArgs s__law_blocks, defBody s__law_blocks, defScope s__law_blocks, [], []⟩
def d__law_type : He.DefD := ⟨("_law_type", none), "_law_type", "_law_type", defArgs s__law_type, defBody s__law_type, defScope s__law_type, [], []⟩
def d__law_is_type : He.DefD := ⟨("_law_is_type", none), "_law_is_type", "_law_is_type", defArgs s__law_is_type, defBody s__law_is_type, defScope s__law_is_type, [], []⟩
def d__law_bent : He.DefD := ⟨("_law_bent", none), "_law_bent", "_law_bent", defArgs s__law_bent, defBody s__law_bent, defScope s__law_bent, [], []⟩
def d__law_right : He.DefD := ⟨("_law_right", none), "_law_right", "_law_right", defArgs s__law_right, defBody s__law_right, defScope s__law_right, [], []⟩
def d_law : He.DefD := ⟨("law", none), "law", "law", defArgs s_law, defBody s_law, defScope s_law, [], []⟩
def fn : List He.DefD := [d_is_name, d_is_typed, d_joints_of, d_matrix_by, d_check_type, d_is_type, d_matrix_of, d_rank_of, d__law_pot, d__law_draw, d__law_pick, d__law_odd, d__law_names, d__law_single, d__law_blocks, d__law_type, d__law_is_type, d__law_bent, d__law_right, d_law]
def fa : List He.Fa := [.glo "is_name", .glo "is_typed", .glo "joints_of", .glo "matrix_by", .glo "check_type", .glo "is_type", .glo "matrix_of", .glo "rank_of", .glo "_law_pot", .glo "_law_draw", .glo "_law_pick", .glo "_law_odd", .glo "_law_names", .glo "_law_single", .glo "_law_blocks", .glo "_law_type", .glo "_law_is_type", .glo "_law_bent", .glo "_law_right", .glo "law", .glo "LEAST", .glo "NAMES_OF_SOME", .free "abs", .free "all", .free "divmod", .free "int", .free "isinstance", .free "len", .free "list", .free "max", .free "min", .free "range", .free "repr", .free "str", .free "sum", .free "tuple", .free "zip"]
def ts : List He.Tab := [(fun K => He.ga K "LEAST", kvs_LEAST.map (·.1)), (fun K => He.ga K "NAMES_OF_SOME", kvs_NAMES_OF_SOME.map (·.1))]
def cs : List (PySem.W.Frag → Bool) := [tabB "LEAST" kvs_LEAST, tabB "NAMES_OF_SOME" kvs_NAMES_OF_SOME, globB "DIGITS" (.str "12345678"), globB "MOST_NODES" (.int 8)]
abbrev R : PySem.W.OpenRow := PySem.W.OpenLaw.row PySem.Challenge.rw_weylweights_k05_types_of_anything_and_th
abbrev hk : PySem.W.Hook := hookX 4 fa fn ts cs
def ob (s : PySem.W.SharedT) : AlX := obsXG 4 fa fn ts cs (HandSHeadRun.getT s)
theorem ob_eq (s : PySem.W.SharedT) : ob s = hk.obs s.abs := obsXG_eq (HandSHeadRun.getT_eq s)
def loose : List PySem.Str := ["MOST_NODES", "WeylError", "InvalidType", "LEAST", "NAMES_OF_SOME", "DIGITS", "is_name", "is_typed", "joints_of", "matrix_by", "check_type", "is_type", "matrix_of", "rank_of", "_law_pot", "_law_draw", "_law_pick", "_law_odd", "_law_names", "_law_single", "_law_blocks", "_law_type", "_law_is_type", "_law_bent", "_law_right"]
theorem run (w : World) : HandSHeadRun.RunEq R (PySem.W.view R.prog [30]) hk ob 4000 loose w := by
  refine PySem.W.byRow2 "special-get-raises" (P := fun w => HandSHeadRun.RunEq R (PySem.W.view R.prog [30]) hk ob 4000 loose w) (fun w => ?_) (fun w => ?_) w
  · intro os
    kernel_rfl
  · intro os
    kernel_rfl
theorem facts {P : Program} {w : World} {K : PySem.W.Frag} {h : Heap} {mg : Str → Option Value} {f : Addr} (X : K.In h) (G : h.Ns mainGlobals mg) (hfa : mg ("law" : Str) = some (.ref f)) (c : SaysX fa fn ts cs w K) (hR : ∀ xs Q, Rright xs Q → R__law_right xs Q) :
    ∃ fd : FuncData, (∀ (s : Shared) (v : Value), BindsTo s fd ⟨[v], []⟩ [("_law_script", v)]) ∧ ∀ base : Heap, K.In base → base.Ns mainGlobals mg → FnG P w K mg base CX0 6 f fd ["_law_script"] (spLaw K) := by
  obtain ⟨fd0, F0⟩ := c.d.def_ 0 (d := d_is_name) rfl
  obtain ⟨fd1, F1⟩ := c.d.def_ 1 (d := d_is_typed) rfl
  obtain ⟨fd2, F2⟩ := c.d.def_ 2 (d := d_joints_of) rfl
  obtain ⟨fd3, F3⟩ := c.d.def_ 3 (d := d_matrix_by) rfl
  obtain ⟨fd4, F4⟩ := c.d.def_ 4 (d := d_check_type) rfl
  obtain ⟨fd5, F5⟩ := c.d.def_ 5 (d := d_is_type) rfl
  obtain ⟨fd6, F6⟩ := c.d.def_ 6 (d := d_matrix_of) rfl
  obtain ⟨fd7, F7⟩ := c.d.def_ 7 (d := d_rank_of) rfl
  obtain ⟨fd8, F8⟩ := c.d.def_ 8 (d := d__law_pot) rfl
  obtain ⟨fd9, F9⟩ := c.d.def_ 9 (d := d__law_draw) rfl
  obtain ⟨fd10, F10⟩ := c.d.def_ 10 (d := d__law_pick) rfl
  obtain ⟨fd11, F11⟩ := c.d.def_ 11 (d := d__law_odd) rfl
  obtain ⟨fd12, F12⟩ := c.d.def_ 12 (d := d__law_names) rfl
  obtain ⟨fd13, F13⟩ := c.d.def_ 13 (d := d__law_single) rfl
  obtain ⟨fd14, F14⟩ := c.d.def_ 14 (d := d__law_blocks) rfl
  obtain ⟨fd15, F15⟩ := c.d.def_ 15 (d := d__law_type) rfl
  obtain ⟨fd16, F16⟩ := c.d.def_ 16 (d := d__law_is_type) rfl
  obtain ⟨fd17, F17⟩ := c.d.def_ 17 (d := d__law_bent) rfl
  obtain ⟨fd18, F18⟩ := c.d.def_ 18 (d := d__law_right) rfl
  obtain ⟨fd19, F19⟩ := c.d.def_ 19 (d := d_law) rfl
  obtain ⟨u0, eu0, v0, rv0, rp0⟩ := c.glob 2 X G (x := "DIGITS") (d := (.str "12345678")) rfl
  obtain ⟨u1, eu1, v1, rv1, rp1⟩ := c.glob 3 X G (x := "MOST_NODES") (d := (.int 8)) rfl
  let D : Fds := ⟨fd0, fd1, fd2, fd3, fd4, fd5, fd6, fd7, fd8, fd9, fd10, fd11, fd12, fd13, fd14, fd15, fd16, fd17, fd18, fd19, u0, v0, u1, v1⟩
  have t : T D w K mg := ⟨F0,
    He.glo_ok X G (c.d.fact 0 (f := .glo "is_name") rfl),
    F1,
    He.glo_ok X G (c.d.fact 1 (f := .glo "is_typed") rfl),
    F2,
    He.glo_ok X G (c.d.fact 2 (f := .glo "joints_of") rfl),
    F3,
    He.glo_ok X G (c.d.fact 3 (f := .glo "matrix_by") rfl),
    F4,
    He.glo_ok X G (c.d.fact 4 (f := .glo "check_type") rfl),
    F5,
    He.glo_ok X G (c.d.fact 5 (f := .glo "is_type") rfl),
    F6,
    He.glo_ok X G (c.d.fact 6 (f := .glo "matrix_of") rfl),
    F7,
    He.glo_ok X G (c.d.fact 7 (f := .glo "rank_of") rfl),
    F8,
    He.glo_ok X G (c.d.fact 8 (f := .glo "_law_pot") rfl),
    F9,
    He.glo_ok X G (c.d.fact 9 (f := .glo "_law_draw") rfl),
    F10,
    He.glo_ok X G (c.d.fact 10 (f := .glo "_law_pick") rfl),
    F11,
    He.glo_ok X G (c.d.fact 11 (f := .glo "_law_odd") rfl),
    F12,
    He.glo_ok X G (c.d.fact 12 (f := .glo "_law_names") rfl),
    F13,
    He.glo_ok X G (c.d.fact 13 (f := .glo "_law_single") rfl),
    F14,
    He.glo_ok X G (c.d.fact 14 (f := .glo "_law_blocks") rfl),
    F15,
    He.glo_ok X G (c.d.fact 15 (f := .glo "_law_type") rfl),
    F16,
    He.glo_ok X G (c.d.fact 16 (f := .glo "_law_is_type") rfl),
    F17,
    He.glo_ok X G (c.d.fact 17 (f := .glo "_law_bent") rfl),
    F18,
    He.glo_ok X G (c.d.fact 18 (f := .glo "_law_right") rfl),
    F19,
    He.glo_ok X G (c.d.fact 19 (f := .glo "law") rfl),
    He.free_ok X G (c.d.fact 22 (f := .free "abs") rfl),
    He.free_ok X G (c.d.fact 23 (f := .free "all") rfl),
    He.free_ok X G (c.d.fact 24 (f := .free "divmod") rfl),
    He.free_ok X G (c.d.fact 25 (f := .free "int") rfl),
    He.free_ok X G (c.d.fact 26 (f := .free "isinstance") rfl),
    He.free_ok X G (c.d.fact 27 (f := .free "len") rfl),
    He.free_ok X G (c.d.fact 28 (f := .free "list") rfl),
    He.free_ok X G (c.d.fact 29 (f := .free "max") rfl),
    He.free_ok X G (c.d.fact 30 (f := .free "min") rfl),
    He.free_ok X G (c.d.fact 31 (f := .free "range") rfl),
    He.free_ok X G (c.d.fact 32 (f := .free "repr") rfl),
    He.free_ok X G (c.d.fact 33 (f := .free "str") rfl),
    He.free_ok X G (c.d.fact 34 (f := .free "sum") rfl),
    He.free_ok X G (c.d.fact 35 (f := .free "tuple") rfl),
    He.free_ok X G (c.d.fact 36 (f := .free "zip") rfl),
    He.glo_ok X G (c.d.fact 20 (f := .glo "LEAST") rfl),
    c.gdic 0 0 (x := "LEAST") (kvs := kvs_LEAST) rfl rfl,
    He.glo_ok X G (c.d.fact 21 (f := .glo "NAMES_OF_SOME") rfl),
    c.gdic 1 1 (x := "NAMES_OF_SOME") (kvs := kvs_NAMES_OF_SOME) rfl rfl,
    ⟨eu0, rv0, rp0⟩,
    ⟨eu1, rv1, rp1⟩⟩
  have e := hfa.symm.trans t.g_law
  cases e
  have b := FunD.bindsA (ps := ["_law_script"]) F19 fun _ _ _ _ _ _ us hl => match us, hl with | [_], _ => rfl
  exact ⟨_, fun s v => b s [v] rfl, fun base _ _ => ok_law t hR⟩
end LH
section
open PySem PySem.W PySem.Calls PyProof.Rows
theorem law_from (hR : ∀ xs Q, DL.Rright xs Q → LW.R__law_right xs Q) : PySem.Challenge.rw_weylweights_k05_types_of_anything_and_th.Holds := by
  w_on; o_law
  refine HandSHeadRun.head_any (r := OpenLaw.row PySem.Challenge.rw_weylweights_k05_types_of_anything_and_th) (q := view (OpenLaw.row PySem.Challenge.rw_weylweights_k05_types_of_anything_and_th).prog [30]) (H := LH.hk) (ob := LH.ob) (M := 4000) (loose := LH.loose) (d := HandSHeadRun.topDef (OpenLaw.row PySem.Challenge.rw_weylweights_k05_types_of_anything_and_th).prog 30) (kwd := []) LH.ob_eq
    (by kernel_rfl) (fun s => by kernel_rfl) LH.run (by kernel_rfl) (by kernel_rfl) (by kernel_rfl) (by rfl) (by first | assumption | decide +kernel) (by decide +kernel) ⟨rfl, rfl, rfl, rfl, rfl, by decide +kernel⟩ ?hw ?hc
  case hw => w_witness2
  case hc =>
    refine DL.g_walk (l := PySem.Challenge.rw_weylweights_k05_types_of_anything_and_th) (n := 63) (k := 6) (x := "_law_script") (CX := L2.CX0) rfl (by decide) (by kernel_rfl) ⟨rfl, by decide, by decide⟩ ?F (fun _ _ _ _ z => z)
    intro w mg fa h Y G hmg0
    obtain ⟨K, KX, c⟩ := Y
    have hmg : mg ("law" : PySem.Str) = some (.ref fa) := by
      have e : (HandSHeadRun.topDef (OpenLaw.row PySem.Challenge.rw_weylweights_k05_types_of_anything_and_th).prog 30).name = ("law" : PySem.Str) := by kernel_rfl
      rw [← e]
      exact hmg0
    obtain ⟨fd, hb, hF⟩ := LH.facts (P := (PySem.Challenge.rw_weylweights_k05_types_of_anything_and_th).prog) (w := w) KX G hmg c hR
    exact ⟨K, fd, DL.spLaw K, KX, hb, fun H a ns hl _ hS _ => ⟨a, ns, rfl, hS, fun _ => rfl⟩, hF⟩
end

/-! ==== PM05 ==== -/
set_option Elab.async false
set_option linter.all false
set_option maxRecDepth 100000
set_option maxHeartbeats 0
namespace LP
open PySem PySem.Spec PyProof.Rows L2 DL LW
/-! ### one turn -/
def rP : DS := dPar 1 2 (dCons (dCall R__law_type (dCons (dVar 0) (dCons (dC (.int 8)) dNil))) (dCons (dCall Rdraw (dCons (dVar 0) (dCons (dC (.int 6)) dNil))) dNil))
def rE : DE := dIf (dTest (dOp dEq (dVar 2) (dC (.int 0)))) (dCall R__law_odd (dCons (dVar 0) dNil)) (dIf (dTest (dOp dLt (dVar 2) (dC (.int 4)))) (dCall R__law_bent (dCons (dVar 0) (dCons (dVar 1) dNil))) (dVar 1))
theorem right_eq : ds__law_right = dSeq rP (dSeq (dSet 1 rE) dtail) := rfl
def BR (d : PyData) (w : Int) : DEnv := [some .pot, some (.d d), some (.d (.int w)), none, none]
theorem rP_ok (D : DEnds) (h : ∀ (s : Str) (w : Int), 1 ≤ s.cps.size → s.cps.size ≤ 30 → D.nx (BR (.str s) w)) : rP D [some .pot, none, none, none, none] := by
  unfold rP dPar
  refine (show dCall R__law_type (dCons (dVar 0) (dCons (dC (.int 8)) dNil)) [some .pot, none, none, none, none] (fun x => dCons (dCall Rdraw (dCons (dVar 0) (dCons (dC (.int 6)) dNil))) dNil [some .pot, none, none, none, none] fun xs => match x :: xs with
    | [x, y] => argOk x = true ∧ argOk y = true ∧ D.nx ((([some .pot, none, none, none, none] : DEnv).set 1 (some x)).set 2 (some y))
    | _ => False) from ?_)
  refine call_pick (y := .d (.int 8)) rfl rfl (fun Q' q => q) (fun r => ∃ s : Str, r = .str s ∧ 1 ≤ s.cps.size ∧ s.cps.size ≤ 30) (type_ok fun s a b => ⟨s, rfl, a, b⟩) ?_
  rintro r ⟨s, rfl, a, b⟩
  refine cons_draw (n := 6) rfl (fun Q' q => q) (by decide) (by decide) fun w _ _ => ?_
  exact ⟨rfl, rfl, h s w a b⟩
theorem rE_ok (s : Str) (w : Int) (Q : OV → Prop) (h1 : 1 ≤ s.cps.size) (h2 : s.cps.size ≤ 30) (h : ∀ d, Good d → Q (.d d)) : rE (BR (.str s) w) Q := by
  unfold rE dIf
  refine (show (if decide (w = 0) = true then dCall R__law_odd (dCons (dVar 0) dNil) (BR (.str s) w) Q else dTest (dOp dLt (dVar 2) (dC (.int 4))) (BR (.str s) w) fun c => if c = true then dCall R__law_bent (dCons (dVar 0) (dCons (dVar 1) dNil)) (BR (.str s) w) Q else dVar 1 (BR (.str s) w) Q) from ?_)
  cases decide (w = 0) with
  | true =>
    refine ite_t ?_
    exact ⟨rfl, Good, odd_ok fun d hd => odd_good d hd, fun r hr => h r hr⟩
  | false =>
    refine ite_f ?_
    refine (show (if decide (w < 4) = true then dCall R__law_bent (dCons (dVar 0) (dCons (dVar 1) dNil)) (BR (.str s) w) Q else Q (.d (.str s))) from ?_)
    cases decide (w < 4) with
    | true =>
      refine ite_t ?_
      refine call_pick (y := .d (.str s)) rfl rfl (fun Q' q => q) Good (bent_ok s h1 h2 fun u hu => .inl ⟨u, rfl, hu⟩) fun r hr => h r hr
    | false => exact ite_f (h _ (.inl ⟨s, rfl, by omega⟩))
theorem seq_rP (rest : DS) (D : DEnds) (h : ∀ (s : Str) (w : Int), 1 ≤ s.cps.size → s.cps.size ≤ 30 → rest D (BR (.str s) w)) : dSeq rP rest D [some .pot, none, none, none, none] := rP_ok _ h
theorem seq_rE (s : Str) (w : Int) (D : DEnds) (h1 : 1 ≤ s.cps.size) (h2 : s.cps.size ≤ 30) (h : ∀ d, Good d → dtail D (BR d w)) : dSeq (dSet 1 rE) dtail D (BR (.str s) w) :=
  rE_ok s w _ h1 h2 fun d hd => ⟨rfl, h d hd⟩
theorem right_ok : ∀ xs Q, Rright xs Q → R__law_right xs Q := by
  rintro xs Q ⟨rfl, hQ⟩
  refine ⟨rfl, ?_⟩
  rw [right_eq]
  refine seq_rP _ _ fun s w h1 h2 => ?_
  refine seq_rE s w _ h1 h2 fun d hd => ?_
  exact EvS.ev (tail_good d _ _ hd) hQ
end LP
theorem PySem.Challenge.cw_weylweights_k05_types_of_anything_and_th_holds : PySem.Challenge.rw_weylweights_k05_types_of_anything_and_th.Holds :=
  law_from LP.right_ok
