import PyProof.Rows.All
import Wide.All
import OpenK.AllK
import Wide.FinOn
import KE.KStateDown
import HandS.ForMost
import HandS.Words
import HandS.HeadEnd
import HandS.Flow
import HandS.Style
import HandS.NoneIn
import HandS.TupAny
import HandS.TupMul
import HandS.IsInst
import HandS.Zip
import HandS.Conv
import HandS.SortInts
import HandS.Wide
import HandS.Star
import HandS.More
import HandS.Defaults
import HandS.Head0
import HandS.Head1
import HandS.Head2
import HandS.HeadHook1
import HandS.HeadHook2
import HandS.HeadHook3
import KE.GoesEnum
import KE.SortData
import HandS.TupSets
import HandS.SetFor
import HandS.Strs
import KE.KTupSum
import PyProof.StrLawsChain
import HandS.Text
import PyProof.ReprBulk
import PyProof.FitsInt
import PySem.Challenge.RW_weylweights_k02_matrices_of_anything_and
/-! ==== DL0 ==== -/
set_option Elab.async false
set_option linter.all false
set_option maxRecDepth 100000
set_option maxHeartbeats 4000000
namespace DL
open PySem PySem.Spec PyProof.Rows L2

/-- a def's promise, kept wherever no repr of a list, a tuple or a dict is under way -/
structure FnG (P : Program) (w : World) (K : PySem.W.Frag) (mg : Str → Option Value) (base : Heap) (CX : CXT) (k : Nat) (f : Addr) (fd : FuncData) (ps : List Str) (sp : Sp) : Prop where
  arity : ∀ {vs : List V} {H : Hp} {Q : VK} {E : XK}, sp vs H Q E → vs.length = ps.length
  go : ∀ {A : Around} {outer : List Env} {s : Shared} {H : Hp} {args : Args} {us : List Value} {vs : List V} {Q : VK} {E : XK}, Room k A → A.guards = some [] → Env0 P w K mg base A outer s H →
    BindsTo s fd args (ps.zip us) → Vals vs us → sp vs H Q E → codeAny (model P w) A (.call (.ref f) args) (CR CX outer P w H s Q E) s
/-- room, and no repr under way -/
structure Rm (k : Nat) (A : Around) : Prop where
  room : Room k A
  gd : A.guards = some []
theorem Rm.mono {j k : Nat} {A : Around} (r : Rm k A) (h : j ≤ k) : Rm j A := ⟨r.room.mono h, r.gd⟩
section
variable {P : Program} {w : World} {K : PySem.W.Frag} {mg : Str → Option Value} {base : Heap} {CX : CXT} {k j : Nat} {f : Addr} {fd : FuncData} {ps : List Str} {sp sp' : Sp}
theorem FnG.up (G : FnG P w K mg base CX j f fd ps sp) (h : j ≤ k) : FnG P w K mg base CX k f fd ps sp := ⟨G.arity, fun hr => G.go (hr.mono h)⟩
theorem FnG.imp (G : FnG P w K mg base CX k f fd ps sp) (h : ∀ vs H Q E, sp' vs H Q E → sp vs H Q E) : FnG P w K mg base CX k f fd ps sp' := ⟨fun q => G.arity (h _ _ _ _ q), fun hr hg e0 b r q => G.go hr hg e0 b r (h _ _ _ _ q)⟩
theorem FnG.of (G : FnOk P w K mg base CX k f fd ps sp) : FnG P w K mg base CX k f fd ps sp := ⟨fun q => G.len _ _ _ _ q, fun hr _ e0 b r q => G.run _ _ _ _ _ _ _ _ _ hr e0 b r q⟩
end
section
variable {X : Cx} {CX : CXT} {k : Nat} {f : Addr} {fd : FuncData} {ps ks : List Str} {sp : Sp} {dvs : List V} {dus : List Value} {E : XK} {x : Str} {p pos : Pos} {e : Expr} {es : List Expr} {t tk : TA}
theorem after_call {pins : List (Addr × Obj)} {σ : L2.St} {H : Hp} {s : Shared} {Q : VK} (hx : Passes CX X E) (I : Inv X pins σ H s) : ∀ (r : Result) (s' : Shared), CR CX X.stack X.prog X.w H s Q E r s' → (match r with
    | .ok (.ret u) => EP X pins σ Q u s'
    | .ok _ => False
    | .error e => X.xe e s') := fun r s' hq => by
  cases r with
  | error e => exact hx pins σ H s e s' I hq
  | ok fl => cases fl with
    | ret u => exact I.after hq
    | next => exact hq
    | brk => exact hq
    | cont => exact hq
theorem g_run {pins : List (Addr × Obj)} {σ : L2.St} {H : Hp} {s : Shared} {Q : VK} {us : List Value} {vs : List V} (G : FnG X.prog X.w X.K X.mg X.base CX k f fd ps sp) (hr : Room k X.A) (hgd : X.A.guards = some []) (hb : Binds X.K fd ps dus) (hd : Vals dvs dus) (hx : Passes CX X E)
    (I : Inv X pins σ H s) (r : Vals vs us) (h : sp (vs ++ dvs) H Q E) : wpAny (model X.prog X.w) X.A (call (.ref f) us) (EP X pins σ Q) X.xe s := by
  have rr : Vals (vs ++ dvs) (us ++ dus) := r.append hd
  refine wpAny_call (codeAny_mono (G.go hr hgd I.env0 (hb s us I.kIn (rr.length.symm.trans (G.arity h))) rr h) fun q s' hq => ?_)
  have z := after_call hx I q s' hq
  cases q with
  | error e => exact z
  | ok fl => cases fl <;> first | exact z | exact z.elim
theorem g_call (G : FnG X.prog X.w X.K X.mg X.base CX k f fd ps sp) (hr : Room k X.A) (hgd : X.A.guards = some []) (hg : Gl X x) (hm : X.mg x = some (.ref f)) (hk : PySem.W.keepIn X.K (.ref f) = true) (hb : Binds X.K fd ps dus) (hd : Vals dvs dus) (hx : Passes CX X E)
    (ha : PA X (e :: es) t) (hdb : (x == ("__debug__" : Str)) = false := by decide) (he : starEach (e :: es) X.env = (false, eval e X.env) :: starEach es X.env := by rfl) (hpl : (backTo pos (starEach es X.env)).any (·.1) = false := by rfl) :
    PE X (.Call (.Name x p) (e :: es) [] pos) (tCall sp dvs E t) := ⟨fun pins s σ H Q I h => wpAny_Call_Name_kw (ld_glob I hg hm (PySem.W.callWith_K (h₀ := X.base) I.ok.mod.kin hk
    (thn (ha.run pos pins s σ H _ I h) fun us s1 ⟨vs, H1, I1, r, q⟩ => ⟨I1.kIn, g_run G hr hgd hb hd hx I1 r q⟩) he hpl) hdb)⟩
theorem g_call0 (G : FnG X.prog X.w X.K X.mg X.base CX k f fd ps sp) (hr : Room k X.A) (hgd : X.A.guards = some []) (hg : Gl X x) (hm : X.mg x = some (.ref f)) (hk : PySem.W.keepIn X.K (.ref f) = true) (hb : Binds X.K fd ps dus) (hd : Vals dvs dus) (hx : Passes CX X E)
    (hdb : (x == ("__debug__" : Str)) = false := by decide) : PE X (.Call (.Name x p) [] [] pos) (tCall sp dvs E tNil) :=
  ⟨fun pins s σ H Q I h => wpAny_Call_Name_kw (ld_glob I hg hm (PySem.W.callWith_K0 I.kIn hk (g_run (us := []) G hr hgd hb hd hx I .nil h)) hdb)⟩
variable {kws : List Keyword} {π : List Nat} {n : Nat}
/-- the values in the parameters' order -/
def permL {α : Type} (π : List Nat) (d : α) (zs : List α) : List α := π.map fun i => (zs[i]?).getD d
theorem Vals.perm {vs : List V} {us : List Value} (r : Vals vs us) : ∀ π : List Nat, (∀ i ∈ π, i < vs.length) → Vals (permL π .non vs) (permL π .none us)
  | [], _ => .nil
  | i :: π, h => by
    have hi : i < vs.length := h i List.mem_cons_self
    obtain ⟨u, e1, e2⟩ := Vals.get r (List.getElem?_eq_getElem hi)
    refine Paired.cons ?_ (Vals.perm r π fun j hj => h j (List.mem_cons_of_mem _ hj))
    show RelV ((vs[i]?).getD .non) ((us[i]?).getD .none)
    rw [List.getElem?_eq_getElem hi, e1]
    exact e2
/-- how n positional values and the keywords ks come to the parameters: π says where each parameter's value stands -/
def KB (K : PySem.W.Frag) (fd : FuncData) (ps : List Str) (n : Nat) (ks : List Str) (π : List Nat) : Prop := ∀ (s : Shared) (us ws : List Value), K.In s.heap → us.length = n → ws.length = ks.length → BindsTo s fd ⟨us, ks.zip ws⟩ (ps.zip (permL π .none (us ++ ws)))
def tCallX (n : Nat) (ks : List Str) (π : List Nat) (sp : Sp) (E : XK) (t tk : TA) : TE := fun σ H Q => t σ H fun vs H1 => tk σ H1 fun zs H2 => vs.length = n ∧ zs.length = ks.length ∧ sp (permL π .non (vs ++ zs)) H2 Q E
theorem g_runk {pins : List (Addr × Obj)} {σ : L2.St} {H : Hp} {s : Shared} {Q : VK} {us ws : List Value} {vs zs : List V} (G : FnG X.prog X.w X.K X.mg X.base CX k f fd ps sp) (hr : Room k X.A) (hgd : X.A.guards = some []) (hb : KB X.K fd ps n ks π) (hπ : ∀ i ∈ π, i < n + ks.length) (hx : Passes CX X E)
    (I : Inv X pins σ H s) (r : Vals vs us) (rz : Vals zs ws) (l1 : vs.length = n) (l2 : zs.length = ks.length) (h : sp (permL π .non (vs ++ zs)) H Q E) : wpAny (model X.prog X.w) X.A (call (.ref f) us (ks.zip ws)) (EP X pins σ Q) X.xe s := by
  have rr := Vals.perm (r.append rz) π (fun i hi => by rw [List.length_append, l1, l2]; exact hπ i hi)
  refine wpAny_call (codeAny_mono (G.go hr hgd I.env0 (hb s us ws I.kIn (r.length.symm.trans l1) (rz.length.symm.trans l2)) rr h) fun q s' hq => ?_)
  have z := after_call hx I q s' hq
  cases q with
  | error e => exact z
  | ok fl => cases fl <;> first | exact z | exact z.elim
theorem g_callX (G : FnG X.prog X.w X.K X.mg X.base CX k f fd ps sp) (hr : Room k X.A) (hgd : X.A.guards = some []) (hg : Gl X x) (hm : X.mg x = some (.ref f)) (hk : PySem.W.keepIn X.K (.ref f) = true) (hb : KB X.K fd ps n ks π) (hπ : ∀ i ∈ π, i < n + ks.length) (hx : Passes CX X E)
    (ha : PA X (e :: es) t) (hkw : PK X kws tk) (hall : (backToKw pos (keywordEach kws X.env)).all (·.1.isSome) = true := by rfl) (hks : (backToKw pos (keywordEach kws X.env)).filterMap (·.1) = ks := by rfl)
    (hdb : (x == ("__debug__" : Str)) = false := by decide) (he : starEach (e :: es) X.env = (false, eval e X.env) :: starEach es X.env := by rfl)
    (hpl : ((backTo pos (starEach (e :: es) X.env)).any (·.1) || (backToKw pos (keywordEach kws X.env)).any (·.1.isNone)) = false := by rfl) :
    PE X (.Call (.Name x p) (e :: es) kws pos) (tCallX n ks π sp E t tk) := ⟨fun pins s σ H Q I h => wpAny_Call_Name_kw (ld_glob I hg hm (PySem.W.callWith_KW (h₀ := X.base) I.ok.mod.kin hk hall
    (thn (ha.run pos pins s σ H _ I h) fun us s1 ⟨vs, H1, I1, r, q⟩ => thn (hkw.run pos pins s1 σ H1 _ I1 q) fun ws s2 ⟨zs, H2, I2, rz, l1, l2, q2⟩ => ⟨I2.kIn, by rw [hks]; exact g_runk G hr hgd hb hπ hx I2 r rz l1 l2 q2⟩) hpl he) hdb)⟩
theorem g_callX0 (G : FnG X.prog X.w X.K X.mg X.base CX k f fd ps sp) (hr : Room k X.A) (hgd : X.A.guards = some []) (hg : Gl X x) (hm : X.mg x = some (.ref f)) (hk : PySem.W.keepIn X.K (.ref f) = true) (hb : KB X.K fd ps 0 ks π) (hπ : ∀ i ∈ π, i < 0 + ks.length) (hx : Passes CX X E)
    (hkw : PK X kws tk) (hall : (backToKw pos (keywordEach kws X.env)).all (·.1.isSome) = true := by rfl) (hks : (backToKw pos (keywordEach kws X.env)).filterMap (·.1) = ks := by rfl)
    (hdb : (x == ("__debug__" : Str)) = false := by decide)
    (hpl : ((backTo pos (starEach [] X.env)).any (·.1) || (backToKw pos (keywordEach kws X.env)).any (·.1.isNone)) = false := by rfl) :
    PE X (.Call (.Name x p) [] kws pos) (tCallX 0 ks π sp E tNil tk) := ⟨fun pins s σ H Q I h => wpAny_Call_Name_kw (ld_glob I hg hm (PySem.W.callWith_KW0 (h₀ := X.base) I.ok.mod.kin hk hall
    (thn (hkw.run pos pins s σ H _ I h) fun ws s2 ⟨zs, H2, I2, rz, l1, l2, q2⟩ => ⟨I2.kIn, by rw [hks]; exact g_runk (us := []) G hr hgd hb hπ hx I2 .nil rz rfl l2 q2⟩) hpl) hdb)⟩
end
/-- a def by its body -/
theorem g_def {CX : CXT} {P : Program} {w : World} {K : PySem.W.Frag} {mg : Str → Option Value} {base : Heap} {k : Nat} {f : Addr} {x qual : Str} {st : Stmt} {fd : FuncData} {N ps : List Str} {sp : Sp} (F : L2.Fun K x qual st f fd) (S : FnScope N ps (defScope st))
    (len : ∀ vs H Q E, sp vs H Q E → vs.length = ps.length)
    (hbody : ∀ (cdv : Value) (A : Around) (outer : List Env) (s : Shared) (H : Hp) (vs : List V) (Q : VK) (E : XK), Room k (A.deeper (envOfC qual (defScope st) s.heap.objs.size f cdv)) → (A.deeper (envOfC qual (defScope st) s.heap.objs.size f cdv)).guards = some [] → sp vs H Q E →
      ∃ t, PSs (cxOf CX P w K mg base N qual (defScope st) f cdv A outer s H E) (defBody st) t ∧ t { nx := fun _ H' => Q .non H', rt := Q } (L2.start N vs) H) : FnG P w K mg base CX (k + 1) f fd ps sp := by
  obtain ⟨oc, od, kV, doc, pm, an, cdv, ct, osl, rfl, lk, hcd⟩ := F.ex
  refine ⟨fun h => len _ _ _ _ h, fun {A outer s H args us vs Q E} hr hgd e0 hb r hsp => ?_⟩
  have same : ∀ b o, base.get? b = some o → s.heap.get? b = some o := fun b o e => (e0.bs b o e).1
  have KX : K.In s.heap := e0.mod.kin.keeps same
  have kinds : ∀ y ∈ ps.zip us, (defScope st).names.lookup y.1 = some .local ∨ ((defScope st).names.lookup y.1 = some .cell ∧ ((cellsFrom (s.heap.objs.size + 1) (defScope st).names []).lookup y.1).isSome = true) := fun y hy =>
    (S.par y.1 (List.of_mem_zip (a := y.1) (b := y.2) hy).1).imp id fun q => ⟨q, PySem.W.cellsFrom_some _ _ _ (.inl q)⟩
  refine codeAny_call_function hr.depth (KX _ _ lk) rfl S.co S.gen rfl (PySem.W.codeRec_of KX hcd) (hb _ _ _ _ ?_)
  refine wpAny_newFunctionEnv_cells S.kind kinds fun env he s1 x => ?_
  subst he
  refine ⟨(e0.mod.nolimit.keeps same).keeps x.toInCall.keep, codeAny_func ?_⟩
  obtain ⟨t, ht, hq⟩ := hbody cdv A outer s H vs Q E (hr.deeper _) (by first | exact hgd | simpa using hgd) hsp
  refine wpAny_mono (ht.run [] s1 (L2.start N vs) H _ (inv_start S hr.hd e0 (len _ _ _ _ hsp) r x) hq) (fun fl s' hs => ?_) fun e s' hs => hs
  cases fl with
  | ret u =>
    obtain ⟨v, σ', H', J, rv, q⟩ := hs
    exact ⟨v, H', J.os, J.bare, J.base, J.hok, rv, q⟩
  | next =>
    obtain ⟨σ', H', J, q⟩ := hs
    exact ⟨V.non, H', J.os, J.bare, J.base, J.hok, rfl, q⟩
  | brk =>
    obtain ⟨_, _, _, q⟩ := hs
    exact False.elim q
  | cont =>
    obtain ⟨_, _, _, q⟩ := hs
    exact False.elim q

/-! ## the law's own call -/
/-- the abstract heap in which the script alone may stand -/
def scriptH (K : PySem.W.Frag) (a : Addr) (o : Obj) (ns : List Int) : Hp := fun b => if b = a ∧ K.lookup a = none then some (.frz o (.lst (ns.map V.int))) else none
theorem scriptH_only {K : PySem.W.Frag} {a : Addr} {o : Obj} {ns : List Int} {b : Addr} {u : HO} (h : scriptH K a o ns b = some u) : b = a ∧ K.lookup a = none ∧ u = .frz o (.lst (ns.map V.int)) := by
  unfold scriptH at h
  by_cases c : b = a ∧ K.lookup a = none
  · rw [if_pos c] at h
    cases h
    exact ⟨c.1, c.2, rfl⟩
  · rw [if_neg c] at h
    cases h
theorem g_law {P : Program} {w : World} {K : PySem.W.Frag} {mg mb : Str → Option Value} {CX : CXT} {k : Nat} {fa a : Addr} {fd : FuncData} {x : Str} {sp : Sp} {s₁ : Shared} {vs : List Value} {ns : List Int}
    (KX : K.In s₁.heap) (hns : s₁.heap.Ns mainGlobals mg) (hb : s₁.heap.Ns builtinsNs mb) (hbb : ∀ x : Str, x ≠ "__name__" → mb x = bootBuiltins x) (hlim : s₁.heap.NoLimit) (hg : s₁.gens = #[])
    (ha : s₁.heap.get? a = some { cls := .type "list", data := .seq vs.toArray }) (hi : IntsAre vs ns) (hl : ns.length ≤ sizeLine) (hr : Room k callerA)
    (F : ∀ base : Heap, K.In base → base.Ns mainGlobals mg → FnG P w K mg base CX k fa fd [x] sp) (hbind : ∀ (s : Shared) (u : Value), BindsTo s fd ⟨[u], []⟩ [(x, u)])
    (hsp : ∀ H : Hp, Only H → SqL K H a (ns.map V.int) → (∀ b, H b ≠ none → b = a) → sp [.ref a] H (fun v _ => v = .bl true) fun _ _ _ => False) (hCX : ∀ H e s', CX [] H s₁ (fun _ _ _ => False) e s' → False) :
    codeAny (model P w) callerA (.call (.ref fa) ⟨[.ref a], []⟩) (fun r s' => r = .ok (.ret (.bool true)) ∧ OldK s₁.heap s'.heap ∧ s'.os = s₁.os ∧ AllBare s'.gens) s₁ := by
  have rv := vals_ints hi
  let o : Obj := { cls := .type "list", data := .seq vs.toArray }
  let H : Hp := scriptH K a o ns
  have hO : Only H := fun b => by
    cases q : H b with
    | none => exact .inl rfl
    | some u =>
      obtain ⟨_, _, e⟩ := scriptH_only q
      exact .inr ⟨o, _, by rw [e]⟩
  have hA : ∀ b, H b ≠ none → b = a := fun b z => by
    cases q : H b with
    | none => exact absurd q z
    | some u => exact (scriptH_only q).1
  have hS : SqL K H a (ns.map V.int) := by
    cases hk : K.lookup a with
    | some ob =>
      have e := (KX a ob hk).symm.trans ha
      cases e
      exact .inr ⟨_, vs.toArray, _, hk, rfl, rfl, rfl, by rw [List.size_toArray, hi.length]; exact hl, by simpa using rv⟩
    | none => exact .inl (.inr ⟨o, if_pos ⟨rfl, hk⟩⟩)
  have hok : HOk P w H s₁.heap := fun b u q => by
    obtain ⟨e1, _, e2⟩ := scriptH_only q
    rw [e1, e2]
    exact ⟨ha, by rw [List.length_map]; exact hl, vs, _, rv, ha⟩
  -- the base: all but what is tracked
  have keepB : ∀ {b : Addr} {u : Obj}, s₁.heap.get? b = some u → H b = none → (hidT s₁.heap H).get? b = some u := fun e n => hidT_get e n
  have noDict : ∀ {b : Addr} {u : Obj} {es : Array DictEntry} {ep : Nat}, s₁.heap.get? b = some u → u.data = .dict es ep → H b = none := fun {b u es ep} e d => by
    cases q : H b with
    | none => rfl
    | some z =>
      rw [(scriptH_only q).1, ha] at e
      cases e
      cases (show Data.seq vs.toArray _ = Data.dict es ep from d)
  have nsB : ∀ {b : Addr} {mm : Str → Option Value}, s₁.heap.Ns b mm → (hidT s₁.heap H).Ns b mm := fun {b mm} h => by
    obtain ⟨u, es, ep, e, d, r⟩ := h
    exact ⟨u, es, ep, keepB e (noDict e d), d, r⟩
  have kB : K.In (hidT s₁.heap H) := fun b u e => keepB (KX b u e) (by
    cases q : H b with
    | none => rfl
    | some z =>
      obtain ⟨e1, e2, _⟩ := scriptH_only q
      rw [e1, e2] at e
      cases e)
  have md : Mod K mg (hidT s₁.heap H) := ⟨kB, nsB hns, ⟨mb, nsB hb, hbb⟩, by
    obtain ⟨mc, h1, h2⟩ := hlim
    exact ⟨mc, nsB h1, h2⟩⟩
  have e0 : Env0 P w K mg (hidT s₁.heap H) callerA [] s₁ H := ⟨rfl, md, fun b u e => of_hidT e, Nat.le_of_eq (hidT_size _ _), trivial, fun b hb => absurd (show b ∈ ([] : List Addr) from hb) (by simp), hok, .of_eq hg⟩
  have run := (F _ kB (nsB hns)).go (A := callerA) (outer := []) (args := ⟨[.ref a], []⟩) (us := [.ref a]) (vs := [.ref a]) hr rfl e0 (hbind s₁ (.ref a)) (.cons rfl .nil) (hsp H hO hS hA)
  refine codeAny_mono run fun r s' h => ?_
  cases r with
  | error e => exact (hCX H e s' h).elim
  | ok fl => cases fl with
    | next => exact False.elim h
    | brk => exact False.elim h
    | cont => exact False.elim h
    | ret u =>
      obtain ⟨v, H', os, bare, un, hok', rv', qv⟩ := h
      obtain rfl : v = .bl true := qv
      obtain rfl : u = Value.bool true := rv'
      refine ⟨rfl, OldK.of_keep fun b ob e => ?_, os, bare⟩
      cases q : H b with
      | none => exact un.keep b ob e q (fun z => nomatch (show b ∈ ([] : List Addr) from z)) (fun z => nomatch z)
      | some z =>
        obtain ⟨e1, _, e2⟩ := scriptH_only q
        subst e2
        obtain ⟨g1, _⟩ := hok b _ q
        obtain ⟨g2, _⟩ := hok' b _ (un.frzs b o _ q)
        rw [g1] at e
        cases e
        exact g2
/-- the goal that a head by facts leaves (case hc) -/
theorem g_walk {l : PySem.W.OpenLaw} {n k : Nat} {q : Program} {loose : List Str} {XP : (Str → Option Value) → Heap → Prop} {YP : World → Heap → Prop} {d : DefRec} {CX : CXT} {x : Str}
    (hn : l.most = some n) (hn2 : n ≤ sizeLine) (hdf : d.params.defaults = []) (hr : Room k callerA)
    (F : ∀ (w : World) (mg : Str → Option Value) (fa : Addr) (h : Heap), YP w h → h.Ns mainGlobals mg → mg d.name = some (.ref fa) → ∃ (K : PySem.W.Frag) (fd : FuncData) (sp : Sp), K.In h ∧ (∀ (s : Shared) (u : Value), BindsTo s fd ⟨[u], []⟩ [(x, u)]) ∧
      (∀ (H : Hp) (a : Addr) (ns : List Int), ns.length ≤ n → Only H → SqL K H a (ns.map V.int) → (∀ b, H b ≠ none → b = a) → sp [.ref a] H (fun v _ => v = .bl true) fun _ _ _ => False) ∧ ∀ base : Heap, K.In base → base.Ns mainGlobals mg → FnG l.prog w K mg base CX k fa fd [x] sp)
    (hCX : ∀ (H : Hp) (s : Shared) (e : Value) (s' : Shared), CX [] H s (fun _ _ _ => False) e s' → False) : PySem.W.WalkO q loose XP YP l.row.toRowW d [] (fun f vs => PySem.call f vs) :=
  Att.attach_call hn hdf fun w s₀ s₁ mg mb fa o pm cd doc a vs ns G Y ho hd hcd hmg hobj hints hlen hg => by
    obtain ⟨K, fd, sp, KX, hb, hsp, hF⟩ := F w mg fa _ Y G.T.g hmg
    exact g_law KX G.T.g G.T.b G.T.builtins G.T.nolimit hg hobj hints (Nat.le_trans hlen hn2) hr hF hb (fun H h1 h2 h3 => hsp H a ns hlen h1 h2 h3) fun H e s' => hCX H s₁ e s'
end DL

/-! ==== DL1 ==== -/
set_option Elab.async false
set_option linter.all false
set_option maxRecDepth 100000
set_option maxHeartbeats 4000000
namespace DL
open PySem PySem.Spec PyProof.Rows L2

/-! ## data in a heap -/
def Ex (H H' : Hp) : Prop := ∀ a o, H a = some o → H' a = some o
theorem Ex.refl (H : Hp) : Ex H H := fun _ _ h => h
theorem Ex.trans {H H1 H2 : Hp} (a : Ex H H1) (b : Ex H1 H2) : Ex H H2 := fun x o h => b x o (a x o h)
theorem Ex.rd {H H' : Hp} {a : Addr} {u : HO} (e : Ex H H') (h : Rd H a u) : Rd H' a u := by
  rcases h with h | ⟨o, h⟩
  · exact .inl (e a _ h)
  · exact .inr ⟨o, e a _ h⟩
theorem Ex.sl {K : PySem.W.Frag} {H H' : Hp} {a : Addr} {xs : List V} (e : Ex H H') (h : SqL K H a xs) : SqL K H' a xs := by
  rcases h with h | h
  · exact .inl (e.rd h)
  · exact .inr h
theorem Ex.stp {K : PySem.W.Frag} {H H' : Hp} {a : Addr} {xs : List V} (e : Ex H H') (h : SqT K H a xs) : SqT K H' a xs := by
  rcases h with h | h
  · exact .inl (e.rd h)
  · exact .inr h
theorem Ex.stt {K : PySem.W.Frag} {H H' : Hp} {a : Addr} {xs : List V} (e : Ex H H') (h : H a = some (.tup xs)) : SqT K H' a xs := .inl (.inl (e _ _ h))
theorem Ex.new {H : Hp} {p : Addr} {o : HO} (h : H p = none) : Ex H (upd H p o) := fun a u e => by
  rw [upd_ne (ne_of_none e h)]
  exact e

def kD : Key → PyData
  | .inl i => .int i
  | .inr x => .str x

mutual
inductive Rep (K : PySem.W.Frag) (H : Hp) : V → PyData → Prop
  | non : Rep K H .non .none
  | bl (b : Bool) : Rep K H (.bl b) (.bool b)
  | int (i : Int) : Rep K H (.int i) (.int i)
  | str (x : Str) : Rep K H (.str x) (.str x)
  | lst {a : Addr} {xs : List V} {ds : List PyData} : H a = some (.lst xs) → RepAll K H xs ds → Rep K H (.ref a) (.list ds)
  | tup {a : Addr} {xs : List V} {ds : List PyData} : H a = some (.tup xs) → RepAll K H xs ds → Rep K H (.ref a) (.tuple ds)
  | dic {a : Addr} {kvs : List (Key × V)} {ds : List (PyData × PyData)} : Rd H a (.dK kvs) → RepKV K H kvs ds → Rep K H (.ref a) (.dict ds)
  | dct {a : Addr} {kvs : List (List Key × V)} {ds : List (PyData × PyData)} : H a = some (.dT kvs) → RepKT K H kvs ds → Rep K H (.ref a) (.dict ds)
inductive RepAll (K : PySem.W.Frag) (H : Hp) : List V → List PyData → Prop
  | nil : RepAll K H [] []
  | cons {v : V} {vs : List V} {d : PyData} {ds : List PyData} : Rep K H v d → RepAll K H vs ds → RepAll K H (v :: vs) (d :: ds)
inductive RepKV (K : PySem.W.Frag) (H : Hp) : List (Key × V) → List (PyData × PyData) → Prop
  | nil : RepKV K H [] []
  | cons {k : Key} {v : V} {vs : List (Key × V)} {d : PyData} {ds : List (PyData × PyData)} : Rep K H v d → RepKV K H vs ds → RepKV K H ((k, v) :: vs) ((kD k, d) :: ds)
inductive RepKT (K : PySem.W.Frag) (H : Hp) : List (List Key × V) → List (PyData × PyData) → Prop
  | nil : RepKT K H [] []
  | cons {k : List Key} {v : V} {vs : List (List Key × V)} {d : PyData} {ds : List (PyData × PyData)} : Rep K H v d → RepKT K H vs ds → RepKT K H ((k, v) :: vs) ((.tuple (k.map kD), d) :: ds)
end
section
variable {K : PySem.W.Frag} {H H' : Hp}
mutual
theorem Rep.mono (e : Ex H H') : ∀ (d : PyData) (v : V), Rep K H v d → Rep K H' v d
  | .none, _, h => by cases h; exact .non
  | .bool b, _, h => by cases h; exact .bl b
  | .int i, _, h => by cases h; exact .int i
  | .str x, _, h => by cases h; exact .str x
  | .list ds, _, h => by
    cases h with
    | lst hs ha => exact .lst (e _ _ hs) (RepAll.mono e ds _ ha)
  | .tuple ds, _, h => by
    cases h with
    | tup hs ha => exact .tup (e _ _ hs) (RepAll.mono e ds _ ha)
  | .dict ds, _, h => by
    cases h with
    | dic hs ha => exact .dic (e.rd hs) (RepKV.mono e ds _ ha)
    | dct hs ha => exact .dct (e _ _ hs) (RepKT.mono e ds _ ha)
theorem RepAll.mono (e : Ex H H') : ∀ (ds : List PyData) (vs : List V), RepAll K H vs ds → RepAll K H' vs ds
  | [], _, h => by cases h; exact .nil
  | d :: ds, _, h => by
    cases h with
    | cons h1 h2 => exact .cons (Rep.mono e d _ h1) (RepAll.mono e ds _ h2)
theorem RepKT.mono (e : Ex H H') : ∀ (ds : List (PyData × PyData)) (vs : List (List Key × V)), RepKT K H vs ds → RepKT K H' vs ds
  | [], _, h => by cases h; exact .nil
  | d :: ds, _, h => by
    cases h with
    | cons h1 h2 => exact .cons (Rep.mono e _ _ h1) (RepKT.mono e ds _ h2)
theorem RepKV.mono (e : Ex H H') : ∀ (ds : List (PyData × PyData)) (vs : List (Key × V)), RepKV K H vs ds → RepKV K H' vs ds
  | [], _, h => by cases h; exact .nil
  | d :: ds, _, h => by
    cases h with
    | cons h1 h2 => exact .cons (Rep.mono e _ _ h1) (RepKV.mono e ds _ h2)
end
theorem RepAll.length : ∀ {vs : List V} {ds : List PyData}, RepAll K H vs ds → vs.length = ds.length
  | _, _, .nil => rfl
  | _, _, .cons _ h => by rw [List.length_cons, List.length_cons, RepAll.length h]
theorem RepAll.get : ∀ {vs : List V} {ds : List PyData} {i : Nat} {d : PyData}, RepAll K H vs ds → ds[i]? = some d → ∃ v, vs[i]? = some v ∧ Rep K H v d
  | _, _, _, _, .nil, h => by simp at h
  | _, _, 0, _, .cons r _, h => ⟨_, rfl, by simp at h; subst h; exact r⟩
  | _, _, i + 1, _, .cons _ r, h => by
    obtain ⟨v, h1, h2⟩ := RepAll.get (i := i) r (by simpa using h)
    exact ⟨v, by simpa using h1, h2⟩
theorem RepAll.append : ∀ {vs us : List V} {ds es : List PyData}, RepAll K H vs ds → RepAll K H us es → RepAll K H (vs ++ us) (ds ++ es)
  | _, _, _, _, .nil, s => s
  | _, _, _, _, .cons r t, s => .cons r (RepAll.append t s)
theorem RepAll.take : ∀ {vs : List V} {ds : List PyData} (n : Nat), RepAll K H vs ds → RepAll K H (vs.take n) (ds.take n)
  | _, _, 0, _ => .nil
  | _, _, _ + 1, .nil => .nil
  | _, _, n + 1, .cons r t => .cons r (RepAll.take n t)
theorem RepAll.drop : ∀ {vs : List V} {ds : List PyData} (n : Nat), RepAll K H vs ds → RepAll K H (vs.drop n) (ds.drop n)
  | _, _, 0, r => r
  | _, _, _ + 1, .nil => .nil
  | _, _, n + 1, .cons _ t => RepAll.drop n t
theorem RepAll.rep : ∀ (n : Nat) {v : V} {d : PyData}, Rep K H v d → RepAll K H (List.replicate n v) (List.replicate n d)
  | 0, _, _, _ => .nil
  | n + 1, _, _, r => .cons r (RepAll.rep n r)
theorem RepAll.reverse : ∀ {vs : List V} {ds : List PyData}, RepAll K H vs ds → RepAll K H vs.reverse ds.reverse
  | _, _, .nil => .nil
  | _, _, .cons r t => by
    rw [List.reverse_cons, List.reverse_cons]
    exact RepAll.append (RepAll.reverse t) (.cons r .nil)
theorem RepAll.ints : ∀ ns : List Int, RepAll K H (ns.map V.int) (ns.map PyData.int)
  | [] => .nil
  | n :: ns => .cons (.int n) (RepAll.ints ns)
theorem RepAll.to_ints : ∀ {vs : List V} {ns : List Int}, RepAll K H vs (ns.map PyData.int) → vs = ns.map V.int
  | _, [], h => by cases h; rfl
  | _, n :: ns, h => by
    cases h with
    | cons h1 h2 => cases h1; rw [RepAll.to_ints h2]; rfl
theorem RepAll.to_bools : ∀ {vs : List V} {ns : List Bool}, RepAll K H vs (ns.map PyData.bool) → vs = ns.map V.bl
  | _, [], h => by cases h; rfl
  | _, n :: ns, h => by
    cases h with
    | cons h1 h2 => cases h1; rw [RepAll.to_bools h2]; rfl
theorem RepAll.to_strs : ∀ {vs : List V} {ns : List Str}, RepAll K H vs (ns.map PyData.str) → vs = ns.map V.str
  | _, [], h => by cases h; rfl
  | _, n :: ns, h => by
    cases h with
    | cons h1 h2 => cases h1; rw [RepAll.to_strs h2]; rfl
end
section
variable {X : Cx} {pins : List (Addr × Obj)} {σ : L2.St} {H : Hp} {s : Shared}
end

/-! ## own lists -/
inductive OV where
  | d (x : PyData)
  | lst (xs : List OV)
  | dic (kvs : List (PyData × PyData))
  | dct (kvs : List (PyData × PyData))
  | pot
structure Am where
  P : Option Addr
  S : Addr → Bool
  H0 : Hp
/-- the pot: digits, stirred number, count -/
def PotI (a b c : Int) : Prop := 0 ≤ a ∧ 0 ≤ b ∧ b < 2147483477 ∧ 0 ≤ c
def PotOk (P : Option Addr) (H : Hp) : Prop := ∀ p, P = some p → ∃ a b c, H p = some (.lst [.int a, .int b, .int c]) ∧ PotI a b c
def Ext (P : Option Addr) (H H' : Hp) : Prop := ∀ a o, P ≠ some a → H a = some o → H' a = some o
def hid (H : Hp) (S : Addr → Bool) : Hp := fun a => if S a = true then none else H a
structure Base (m : Am) (H : Hp) : Prop where
  ext : Ext m.P m.H0 H
  pot : PotOk m.P H
  potS : ∀ p, m.P = some p → m.S p = true
  trk : ∀ a, m.S a = true → m.H0 a ≠ none
def hS (m : Am) (F : List Addr) : Addr → Bool := fun a => m.S a || decide (a ∈ F)
abbrev Bh (m : Am) (F : List Addr) (H : Hp) : Hp := hid H (hS m F)

mutual
inductive Own (K : PySem.W.Frag) (m : Am) (B H : Hp) : V → OV → List Addr → Prop
  | d {v : V} {x : PyData} : Rep K B v x → Own K m B H v (.d x) []
  | pot {p : Addr} : m.P = some p → Own K m B H (.ref p) .pot []
  | lst {p : Addr} {vs : List V} {xs : List OV} {fp : List Addr} : H p = some (.lst vs) → OwnAll K m B H vs xs fp → Own K m B H (.ref p) (.lst xs) (p :: fp)
  | dic {p : Addr} {kvs : List (Key × V)} {ds : List (PyData × PyData)} : H p = some (.dK kvs) → RepKV K B kvs ds → Own K m B H (.ref p) (.dic ds) [p]
  | dct {p : Addr} {kvs : List (List Key × V)} {ds : List (PyData × PyData)} : H p = some (.dT kvs) → RepKT K B kvs ds → Own K m B H (.ref p) (.dct ds) [p]
inductive OwnAll (K : PySem.W.Frag) (m : Am) (B H : Hp) : List V → List OV → List Addr → Prop
  | nil : OwnAll K m B H [] [] []
  | cons {v : V} {vs : List V} {x : OV} {xs : List OV} {fp fq : List Addr} : Own K m B H v x fp → OwnAll K m B H vs xs fq → OwnAll K m B H (v :: vs) (x :: xs) (fp ++ fq)
end
inductive Slots (K : PySem.W.Frag) (m : Am) (B H : Hp) : L2.St → List (Option OV) → List Addr → Prop
  | nil : Slots K m B H [] [] []
  | un {s : Option V} {σ : L2.St} {ρ : List (Option OV)} {fq : List Addr} : Slots K m B H σ ρ fq → Slots K m B H (s :: σ) (none :: ρ) fq
  | val {v : V} {x : OV} {σ : L2.St} {ρ : List (Option OV)} {fp fq : List Addr} : Own K m B H v x fp → Slots K m B H σ ρ fq → Slots K m B H (some v :: σ) (some x :: ρ) (fp ++ fq)

theorem Own.same {K : PySem.W.Frag} {m : Am} {B B' H H' : Hp} (e : Ex B B') : ∀ (x : OV) (v : V) (fp : List Addr), (∀ a ∈ fp, H' a = H a) → Own K m B H v x fp → Own K m B' H' v x fp := by
  intro x
  refine OV.rec (motive_1 := fun x => ∀ (v : V) (fp : List Addr), (∀ a ∈ fp, H' a = H a) → Own K m B H v x fp → Own K m B' H' v x fp)
    (motive_2 := fun xs => ∀ (vs : List V) (fp : List Addr), (∀ a ∈ fp, H' a = H a) → OwnAll K m B H vs xs fp → OwnAll K m B' H' vs xs fp) ?_ ?_ ?_ ?_ ?_ ?_ ?_ x
  · intro x v fp k h
    cases h with
    | d r => exact .d (Rep.mono e x _ r)
  · intro xs ih v fp k h
    cases h with
    | lst hp ha => exact .lst (by rw [k _ List.mem_cons_self]; exact hp) (ih _ _ (fun a ha => k a (List.mem_cons_of_mem _ ha)) ha)
  · intro kvs v fp k h
    cases h with
    | dic hp ha => exact .dic (by rw [k _ List.mem_cons_self]; exact hp) (RepKV.mono e _ _ ha)
  · intro kvs v fp k h
    cases h with
    | dct hp ha => exact .dct (by rw [k _ List.mem_cons_self]; exact hp) (RepKT.mono e _ _ ha)
  · intro v fp k h
    cases h with
    | pot hp => exact .pot hp
  · intro vs fp k h
    cases h
    exact .nil
  · intro x xs ih1 ih2 vs fp k h
    cases h with
    | cons h1 h2 => exact .cons (ih1 _ _ (fun a ha => k a (List.mem_append_left _ ha)) h1) (ih2 _ _ (fun a ha => k a (List.mem_append_right _ ha)) h2)
theorem OwnAll.same {K : PySem.W.Frag} {m : Am} {B B' H H' : Hp} (e : Ex B B') : ∀ (xs : List OV) (vs : List V) (fp : List Addr), (∀ a ∈ fp, H' a = H a) → OwnAll K m B H vs xs fp → OwnAll K m B' H' vs xs fp
  | [], _, _, _, h => by cases h; exact .nil
  | x :: xs, _, _, k, h => by
    cases h with
    | cons h1 h2 => exact .cons (Own.same e x _ _ (fun a ha => k a (List.mem_append_left _ ha)) h1) (OwnAll.same e xs _ _ (fun a ha => k a (List.mem_append_right _ ha)) h2)
theorem Slots.same {K : PySem.W.Frag} {m : Am} {B B' H H' : Hp} (e : Ex B B') : ∀ {σ : L2.St} {ρ : List (Option OV)} {fp : List Addr}, (∀ a ∈ fp, H' a = H a) → Slots K m B H σ ρ fp → Slots K m B' H' σ ρ fp
  | _, _, _, _, .nil => .nil
  | _, _, _, k, .un h => .un (Slots.same e k h)
  | _, _, _, k, .val o h => .val (Own.same e _ _ _ (fun a ha => k a (List.mem_append_left _ ha)) o) (Slots.same e (fun a ha => k a (List.mem_append_right _ ha)) h)

/-- the state: slots σ hold what ρ tells; F: the own objects of the slots, T: those of values on the way -/
structure ER (K : PySem.W.Frag) (m : Am) (σ : L2.St) (H : Hp) (ρ : List (Option OV)) (F T : List Addr) : Prop where
  base : Base m H
  slots : Slots K m (Bh m (F ++ T) H) H σ ρ F
  nd : (F ++ T).Nodup
  fresh : ∀ a ∈ F ++ T, m.H0 a = none ∧ H a ≠ none
end DL

/-! ==== DL2 ==== -/
set_option Elab.async false
set_option linter.all false
set_option maxRecDepth 100000
set_option maxHeartbeats 4000000
namespace DL
open PySem PySem.Spec PyProof.Rows L2

theorem hid_some {H : Hp} {S : Addr → Bool} {a : Addr} {o : HO} : hid H S a = some o ↔ S a = false ∧ H a = some o := by
  unfold hid
  cases S a with
  | true =>
    rw [if_pos rfl]
    exact ⟨fun h => (nomatch h), fun h => (nomatch h.1)⟩
  | false =>
    rw [if_neg Bool.false_ne_true]
    exact ⟨fun h => ⟨rfl, h⟩, fun h => h.2⟩
theorem hS_false {m : Am} {G : List Addr} {a : Addr} : hS m G a = false ↔ m.S a = false ∧ a ∉ G := by
  unfold hS
  rw [Bool.or_eq_false_iff, decide_eq_false_iff_not]
section
variable {K : PySem.W.Frag} {m : Am} {σ : L2.St} {H H' : Hp} {ρ : List (Option OV)} {F T : List Addr}
theorem Ext.refl (P : Option Addr) (H : Hp) : Ext P H H := fun _ _ _ h => h
theorem Ext.trans {P : Option Addr} {H H1 H2 : Hp} (a : Ext P H H1) (b : Ext P H1 H2) : Ext P H H2 := fun x o n h => b x o n (a x o n h)
theorem Ext.new {P : Option Addr} {H : Hp} {p : Addr} {o : HO} (h : H p = none) : Ext P H (upd H p o) := fun a u _ e => by
  rw [upd_ne (ne_of_none e h)]
  exact e
/-- an object that H does not know may change -/
theorem Ext.mut {P : Option Addr} {H H' : Hp} {p : Addr} {o : HO} (e : Ext P H H') (h : H p = none) : Ext P H (upd H' p o) := fun a u n ha => by
  rw [upd_ne (ne_of_none ha h)]
  exact e a u n ha
theorem Ext.of_ex {P : Option Addr} {H H' : Hp} (e : Ex H H') : Ext P H H' := fun a o _ h => e a o h
theorem Ext.back {H H' : Hp} {p : Addr} (hb : PotOk m.P H') (e : Ext m.P H H') (h : H' p = none) : H p = none := by
  cases h1 : H p with
  | none => rfl
  | some o =>
    by_cases hp : m.P = some p
    · obtain ⟨a, b, c, e1, _⟩ := hb p hp
      rw [h] at e1
      cases e1
    · rw [e p o hp h1] at h
      cases h

theorem ER.potF (er : ER K m σ H ρ F T) {p : Addr} (hp : m.P = some p) : p ∉ F ++ T := fun hm => by
  have h1 := er.base.trk p (er.base.potS p hp)
  exact h1 (er.fresh p hm).1
theorem ER.sF (er : ER K m σ H ρ F T) {a : Addr} (hs : m.S a = true) : a ∉ F ++ T := fun hm => er.base.trk a hs (er.fresh a hm).1
theorem ER.keepF (er : ER K m σ H ρ F T) (e : Ext m.P H H') {a : Addr} (ha : a ∈ F ++ T) : H' a = H a := by
  cases h : H a with
  | none => exact absurd h (er.fresh a ha).2
  | some o => exact e a o (fun hp => er.potF hp ha) h
theorem Bh.ex {G : List Addr} (hb : Base m H) (e : Ext m.P H H') : Ex (Bh m G H) (Bh m G H') := fun a o h => by
  obtain ⟨h1, h2⟩ := hid_some.mp h
  refine hid_some.mpr ⟨h1, e a o (fun hp => ?_) h2⟩
  have := (hS_false.mp h1).1
  rw [hb.potS a hp] at this
  cases this
theorem Bh.sub {G G' : List Addr} (h : ∀ a ∈ G', a ∈ G) : Ex (Bh m G H) (Bh m G' H) := fun a o q => by
  obtain ⟨h1, h2⟩ := hid_some.mp q
  have h3 := hS_false.mp h1
  exact hid_some.mpr ⟨hS_false.mpr ⟨h3.1, fun z => h3.2 (h a z)⟩, h2⟩
/-- hidden objects change, more are hidden that were not there -/
theorem Bh.chg {G G' : List Addr} (hg : ∀ a ∈ G', a ∈ G ∨ H a = none) (hh : ∀ a, a ∉ G → H a ≠ none → H' a = H a) : Ex (Bh m G H) (Bh m G' H') := fun a o q => by
  obtain ⟨h1, h2⟩ := hid_some.mp q
  have h3 := hS_false.mp h1
  have hn : H a ≠ none := by rw [h2]; exact fun z => nomatch z
  refine hid_some.mpr ⟨hS_false.mpr ⟨h3.1, fun z => ?_⟩, by rw [hh a h3.2 hn]; exact h2⟩
  rcases hg a z with z | z
  · exact h3.2 z
  · exact hn z
theorem Bh.go {G G' : List Addr} (hb : Base m H) (e : Ext m.P H H') (hg : ∀ a ∈ G', a ∈ G ∨ H a = none) : Ex (Bh m G H) (Bh m G' H') := fun a o q => by
  obtain ⟨h1, h2⟩ := hid_some.mp q
  have h3 := hS_false.mp h1
  refine hid_some.mpr ⟨hS_false.mpr ⟨h3.1, fun z => ?_⟩, e a o (fun hp => ?_) h2⟩
  · rcases hg a z with z | z
    · exact h3.2 z
    · rw [z] at h2
      cases h2
  · have := h3.1
    rw [hb.potS a hp] at this
    cases this
theorem Bh.out {G : List Addr} : Ex (Bh m G H) (hid H m.S) := fun a o q => by
  obtain ⟨h1, h2⟩ := hid_some.mp q
  exact hid_some.mpr ⟨(hS_false.mp h1).1, h2⟩
theorem Base.step (hb : Base m H) (e : Ext m.P H H') (hp : PotOk m.P H') : Base m H' := ⟨hb.ext.trans e, hp, hb.potS, hb.trk⟩
/-- the heap goes on: all but the pot stays -/
theorem ER.step (er : ER K m σ H ρ F T) (e : Ext m.P H H') (hp : PotOk m.P H') : ER K m σ H' ρ F T :=
  ⟨er.base.step e hp, er.slots.same (Bh.ex er.base e) fun a ha => er.keepF e (List.mem_append_left _ ha), er.nd, fun a ha => ⟨(er.fresh a ha).1, by rw [er.keepF e ha]; exact (er.fresh a ha).2⟩⟩
theorem PotOk.new {P : Option Addr} {p : Addr} {o : HO} (h : PotOk P H) (hn : H p = none) : PotOk P (upd H p o) := fun q hq => by
  obtain ⟨a, b, c, e, i⟩ := h q hq
  exact ⟨a, b, c, by rw [upd_ne (ne_of_none e hn)]; exact e, i⟩
theorem PotOk.ne {P : Option Addr} {p : Addr} {o : HO} (h : PotOk P H) (hn : P ≠ some p) : PotOk P (upd H p o) := fun q hq => by
  obtain ⟨a, b, c, e, i⟩ := h q hq
  exact ⟨a, b, c, by rw [upd_ne (fun z => hn (by rw [hq, z]))]; exact e, i⟩
/-- a new object that all may see -/
theorem ER.new (er : ER K m σ H ρ F T) {p : Addr} {o : HO} (hn : H p = none) : ER K m σ (upd H p o) ρ F T := er.step (Ext.new hn) (er.base.pot.new hn)
theorem Base.h0 (hb : Base m H) {p : Addr} (hn : H p = none) : m.H0 p = none := by
  cases q : m.H0 p with
  | none => rfl
  | some u =>
    by_cases hp : m.P = some p
    · obtain ⟨a, b, c, e, _⟩ := hb.pot p hp
      rw [hn] at e
      cases e
    · have := hb.ext p u hp q
      rw [hn] at this
      cases this
theorem Base.s0 (hb : Base m H) {p : Addr} (hn : H p = none) : m.S p = false := by
  cases q : m.S p with
  | false => rfl
  | true => exact absurd (hb.h0 hn) (hb.trk p q)
theorem ER.seen (er : ER K m σ H ρ F T) {p : Addr} (hn : H p = none) : hS m (F ++ T) p = false :=
  hS_false.mpr ⟨er.base.s0 hn, fun z => (er.fresh p z).2 hn⟩
/-- the new object, seen -/
theorem ER.newB (er : ER K m σ H ρ F T) {p : Addr} {o : HO} (hn : H p = none) : Bh m (F ++ T) (upd H p o) p = some o :=
  hid_some.mpr ⟨er.seen hn, upd_same⟩
/-- a new own object: a value on the way -/
theorem ER.own (er : ER K m σ H ρ F T) {p : Addr} {o : HO} (hn : H p = none) : ER K m σ (upd H p o) ρ F (T ++ [p]) := by
  have hpn : p ∉ F ++ T := fun z => (er.fresh p z).2 hn
  have er2 := er.new (o := o) hn
  refine ⟨er2.base, er.slots.same (Bh.chg (fun a ha => ?_) fun a _ h => upd_ne fun z => h (by rw [z]; exact hn)) (fun a ha => upd_ne fun z => hpn (by rw [← z]; exact List.mem_append_left _ ha)), ?_, fun a ha => ?_⟩
  · rw [← List.append_assoc] at ha
    rcases List.mem_append.mp ha with ha | ha
    · exact .inl ha
    · rw [List.mem_singleton] at ha
      subst ha
      exact .inr hn
  · rw [← List.append_assoc]
    exact List.nodup_append.mpr ⟨er.nd, List.nodup_cons.mpr ⟨List.not_mem_nil, List.nodup_nil⟩, fun a ha b hb => by
      intro e
      subst e
      rw [List.mem_singleton] at hb
      subst hb
      exact hpn ha⟩
  · rw [← List.append_assoc] at ha
    rcases List.mem_append.mp ha with ha | ha
    · exact er2.fresh a ha
    · rw [List.mem_singleton] at ha
      subst ha
      exact ⟨er.base.h0 hn, by rw [upd_same]; exact fun z => nomatch z⟩
/-- fewer values on the way: what they were is seen -/
theorem ER.free (er : ER K m σ H ρ F T) {T' : List Addr} (hs : List.Sublist T' T) : ER K m σ H ρ F T' :=
  ⟨er.base, er.slots.same (Bh.sub fun a ha => by
    rcases List.mem_append.mp ha with z | z
    · exact List.mem_append_left _ z
    · exact List.mem_append_right _ (hs.subset z)) fun _ _ => rfl, er.nd.sublist ((List.Sublist.refl F).append hs), fun a ha => er.fresh a (by
    rcases List.mem_append.mp ha with z | z
    · exact List.mem_append_left _ z
    · exact List.mem_append_right _ (hs.subset z))⟩
/-- an own object of a value on the way changes -/
theorem ER.wr (er : ER K m σ H ρ F T) {p : Addr} {o : HO} (hp : p ∈ T) : ER K m σ (upd H p o) ρ F T := by
  have hPm : m.P ≠ some p := fun z => er.potF z (List.mem_append_right _ hp)
  have h0 : m.H0 p = none := (er.fresh p (List.mem_append_right _ hp)).1
  have hnF : p ∉ F := fun z => by
    have h2 := er.nd
    rw [List.nodup_append] at h2
    exact h2.2.2 p z p hp rfl
  refine ⟨⟨fun a u n h => ?_, er.base.pot.ne hPm, er.base.potS, er.base.trk⟩, er.slots.same (Bh.chg (fun a ha => .inl ha) fun a ha _ => upd_ne fun z => ha (by rw [z]; exact List.mem_append_right _ hp)) (fun a ha => upd_ne fun z => hnF (by rw [← z]; exact ha)), er.nd, fun a ha => ⟨(er.fresh a ha).1, ?_⟩⟩
  · rw [upd_ne (ne_of_none h h0)]
    exact er.base.ext a u n h
  · by_cases hap : a = p
    · subst hap
      rw [upd_same]
      exact fun z => nomatch z
    · rw [upd_ne hap]
      exact (er.fresh a ha).2

/-! ### slots -/
theorem Slots.get {B : Hp} : ∀ {σ : L2.St} {ρ : List (Option OV)} {F : List Addr} {i : Nat} {x : OV}, Slots K m B H σ ρ F → ρ[i]? = some (some x) → ∃ v fp, σ[i]? = some (some v) ∧ Own K m B H v x fp ∧ ∀ a ∈ fp, a ∈ F
  | _, _, _, _, _, .nil, h => by simp at h
  | _, _, _, 0, _, .un _, h => by simp at h
  | _, _, _, i + 1, x, .un s, h => by
    obtain ⟨v, fp, h1, h2, h3⟩ := Slots.get (i := i) s (by simpa using h)
    exact ⟨v, fp, by simpa using h1, h2, h3⟩
  | _, _, _, 0, _, .val o s, h => by
    simp at h
    subst h
    exact ⟨_, _, rfl, o, fun a ha => List.mem_append_left _ ha⟩
  | _, _, _, i + 1, x, .val o s, h => by
    obtain ⟨v, fp, h1, h2, h3⟩ := Slots.get (i := i) s (by simpa using h)
    exact ⟨v, fp, by simpa using h1, h2, fun a ha => List.mem_append_right _ (h3 a ha)⟩
theorem nodup3 {a b c : List Addr} (h : ((a ++ b) ++ c).Nodup) : (c ++ b).Nodup := by
  rw [List.nodup_append] at h ⊢
  obtain ⟨h1, h2, h3⟩ := h
  rw [List.nodup_append] at h1
  exact ⟨h2, h1.2.1, fun x hx y hy e => h3 y (List.mem_append_right _ hy) x hx e.symm⟩
theorem Slots.set {B : Hp} {v : V} {x : OV} {fp : List Addr} (o : Own K m B H v x fp) : ∀ {σ : L2.St} {ρ : List (Option OV)} {F : List Addr} (i : Nat), Slots K m B H σ ρ F →
    ∃ F', Slots K m B H (σ.set i (some v)) (ρ.set i (some x)) F' ∧ (∀ a ∈ F', a ∈ F ++ fp) ∧ ((F ++ fp).Nodup → F'.Nodup)
  | _, _, _, _, .nil => ⟨[], .nil, fun a h => (nomatch h), fun _ => List.nodup_nil⟩
  | _, _, _, 0, .un s => by
    refine ⟨_, .val o s, fun a ha => ?_, fun h => ?_⟩
    · rcases List.mem_append.mp ha with z | z
      · exact List.mem_append_right _ z
      · exact List.mem_append_left _ z
    · exact nodup3 (a := []) h
  | _, _, _, i + 1, .un s => by
    obtain ⟨F', h1, h2, h3⟩ := Slots.set o i s
    exact ⟨F', .un h1, h2, h3⟩
  | _, _, _, 0, .val o' s => by
    refine ⟨_, .val o s, fun a ha => ?_, fun h => ?_⟩
    · rcases List.mem_append.mp ha with z | z
      · exact List.mem_append_right _ z
      · exact List.mem_append_left _ (List.mem_append_right _ z)
    · exact nodup3 h
  | _, _, _, i + 1, .val (fp := f0) (fq := f1) o' s => by
    obtain ⟨F', h1, h2, h3⟩ := Slots.set o i s
    refine ⟨_, .val o' h1, fun a ha => ?_, fun h => ?_⟩
    · rcases List.mem_append.mp ha with z | z
      · exact List.mem_append_left _ (List.mem_append_left _ z)
      · rcases List.mem_append.mp (h2 a z) with z | z
        · exact List.mem_append_left _ (List.mem_append_right _ z)
        · exact List.mem_append_right _ z
    · rw [List.append_assoc, List.nodup_append] at h
      rw [List.nodup_append]
      exact ⟨h.1, h3 h.2.1, fun a ha b hb => h.2.2 a ha b (h2 b hb)⟩
theorem Slots.drop {B : Hp} : ∀ {σ : L2.St} {ρ : List (Option OV)} {F : List Addr} (i : Nat), Slots K m B H σ ρ F → ∃ F' Fd, Slots K m B H (σ.set i none) (ρ.set i none) F' ∧ List.Perm (F' ++ Fd) F
  | _, _, _, _, .nil => ⟨[], [], .nil, .refl _⟩
  | _, _, _, 0, .un s => ⟨_, [], .un s, by rw [List.append_nil]⟩
  | _, _, _, i + 1, .un s => by
    obtain ⟨F', Fd, h1, h2⟩ := Slots.drop i s
    exact ⟨F', Fd, .un h1, h2⟩
  | _, _, _, 0, .val (fp := f0) (fq := f1) o' s => ⟨_, f0, .un s, List.perm_append_comm⟩
  | _, _, _, i + 1, .val (fp := f0) (fq := f1) o' s => by
    obtain ⟨F', Fd, h1, h2⟩ := Slots.drop i s
    exact ⟨_, Fd, .val o' h1, by rw [List.append_assoc]; exact h2.append_left f0⟩
theorem Slots.len {B : Hp} : ∀ {σ : L2.St} {ρ : List (Option OV)} {F : List Addr}, Slots K m B H σ ρ F → σ.length = ρ.length
  | _, _, _, .nil => rfl
  | _, _, _, .un s => congrArg (· + 1) (Slots.len s)
  | _, _, _, .val _ s => congrArg (· + 1) (Slots.len s)
def wipeD (ρ : List (Option OV)) : List Nat → List (Option OV)
  | [] => ρ
  | v :: vs => (wipeD ρ vs).set v none
theorem Slots.wipe {B : Hp} {σ : L2.St} {ρ : List (Option OV)} {F : List Addr} (s : Slots K m B H σ ρ F) : ∀ vs : List Nat, ∃ F' Fd, Slots K m B H (L2.wipe σ vs) (wipeD ρ vs) F' ∧ List.Perm (F' ++ Fd) F
  | [] => ⟨F, [], s, by rw [List.append_nil]⟩
  | v :: vs => by
    obtain ⟨F', Fd, h1, h2⟩ := Slots.wipe s vs
    obtain ⟨F'', Fe, h3, h4⟩ := h1.drop v
    exact ⟨F'', Fe ++ Fd, h3, by rw [← List.append_assoc]; exact (h4.append_right Fd).trans h2⟩
theorem ER.perm (er : ER K m σ H ρ F T) {σ' : L2.St} {ρ' : List (Option OV)} {F' T' : List Addr} (s : Slots K m (Bh m (F ++ T) H) H σ' ρ' F') (p : List.Perm (F' ++ T') (F ++ T)) : ER K m σ' H ρ' F' T' :=
  ⟨er.base, s.same (Bh.sub fun a ha => p.mem_iff.mp ha) fun _ _ => rfl, p.nodup_iff.mpr er.nd, fun a ha => er.fresh a (p.mem_iff.mp ha)⟩
theorem Bh.perm {G G' : List Addr} (p : List.Perm G G') : Ex (Bh m G H) (Bh m G' H) := Bh.sub fun a ha => p.mem_iff.mpr ha
theorem ER.wipe (er : ER K m σ H ρ F T) (vs : List Nat) : ∃ F' T', ER K m (L2.wipe σ vs) H (wipeD ρ vs) F' T' ∧ List.Perm (F' ++ T') (F ++ T) := by
  obtain ⟨F', Fd, h1, h2⟩ := er.slots.wipe vs
  have p : List.Perm (F' ++ (Fd ++ T)) (F ++ T) := by
    rw [← List.append_assoc]
    exact h2.append_right T
  exact ⟨F', Fd ++ T, er.perm h1 p, p⟩

/-! ### values on the way -/
def VR (K : PySem.W.Frag) (m : Am) (F T : List Addr) (H : Hp) (v : V) (x : OV) : Prop := ∃ fp, Own K m (Bh m (F ++ T) H) H v x fp ∧ ∀ a ∈ fp, a ∈ F ++ T
theorem VR.step {v : V} {x : OV} (er : ER K m σ H ρ F T) (e : Ext m.P H H') (h : VR K m F T H v x) : VR K m F T H' v x := by
  obtain ⟨fp, h1, h2⟩ := h
  exact ⟨fp, Own.same (Bh.ex er.base e) x v fp (fun a ha => er.keepF e (h2 a ha)) h1, h2⟩
theorem VR.d {v : V} {x : PyData} (h : Rep K (Bh m (F ++ T) H) v x) : VR K m F T H v (.d x) := ⟨[], .d h, fun a z => (nomatch z)⟩
theorem VR.rep {v : V} {x : PyData} (h : VR K m F T H v (.d x)) : Rep K (Bh m (F ++ T) H) v x := by
  obtain ⟨fp, h1, _⟩ := h
  cases h1 with
  | d r => exact r
inductive VRs (K : PySem.W.Frag) (m : Am) (F T : List Addr) (H : Hp) : List V → List OV → Prop
  | nil : VRs K m F T H [] []
  | cons {v : V} {x : OV} {vs : List V} {xs : List OV} : VR K m F T H v x → VRs K m F T H vs xs → VRs K m F T H (v :: vs) (x :: xs)
theorem VRs.step (er : ER K m σ H ρ F T) (e : Ext m.P H H') : ∀ {vs : List V} {xs : List OV}, VRs K m F T H vs xs → VRs K m F T H' vs xs
  | _, _, .nil => .nil
  | _, _, .cons h t => .cons (h.step er e) (VRs.step er e t)
theorem VRs.append : ∀ {vs us : List V} {xs ys : List OV}, VRs K m F T H vs xs → VRs K m F T H us ys → VRs K m F T H (vs ++ us) (xs ++ ys)
  | _, _, _, _, .nil, s => s
  | _, _, _, _, .cons h t, s => .cons h (VRs.append t s)
end
end DL

/-! ==== DL3 ==== -/
set_option Elab.async false
set_option linter.all false
set_option maxRecDepth 100000
set_option maxHeartbeats 4000000
namespace DL
open PySem PySem.Spec PyProof.Rows L2

/-! ## readings over data -/
abbrev DEnv := List (Option OV)
abbrev DE := DEnv → (OV → Prop) → Prop
abbrev DN := DEnv → (List OV → Prop) → Prop
abbrev DT := DEnv → (Bool → Prop) → Prop
abbrev DA := DEnv → (List OV → Prop) → Prop
abbrev D2 := OV → OV → (OV → Prop) → Prop
structure DEnds where
  nx : DEnv → Prop
  rt : PyData → Prop
  bk : DEnv → Prop := fun _ => False
  ct : DEnv → Prop := fun _ => False
abbrev DS := DEnds → DEnv → Prop
abbrev DG := PyData → DEnv → (DEnv → Prop) → Prop
abbrev DI := DEnv → (List PyData → Prop) → Prop
/-- what a def does with its arguments -/
abbrev DF := List OV → (PyData → Prop) → Prop

def argOk : OV → Bool
  | .d _ => true
  | .pot => true
  | _ => false
mutual
/-- as plain data -/
def vw : OV → PyData
  | .d x => x
  | .lst xs => .list (vws xs)
  | .dic kvs => .dict kvs
  | .dct kvs => .dict kvs
  | .pot => .none
def vws : List OV → List PyData
  | [] => []
  | x :: xs => vw x :: vws xs
end
mutual
def okv : OV → Bool
  | .pot => false
  | .lst xs => okvs xs
  | _ => true
def okvs : List OV → Bool
  | [] => true
  | x :: xs => okv x && okvs xs
end
theorem vws_d : ∀ xs : List PyData, vws (xs.map OV.d) = xs
  | [] => rfl
  | x :: xs => by
    show vw (.d x) :: vws (xs.map OV.d) = x :: xs
    rw [vws_d xs]
    rfl
theorem okvs_d : ∀ xs : List PyData, okvs (xs.map OV.d) = true
  | [] => rfl
  | x :: xs => by
    show (okv (.d x) && okvs (xs.map OV.d)) = true
    rw [okvs_d xs]
    rfl
/-- items that are plain -/
def ovs : List OV → Option (List PyData)
  | [] => some []
  | .d x :: r => (ovs r).map (x :: ·)
  | _ => none
theorem ovs_d : ∀ xs : List PyData, ovs (xs.map OV.d) = some xs
  | [] => rfl
  | x :: xs => by
    show (ovs (xs.map OV.d)).map (x :: ·) = some (x :: xs)
    rw [ovs_d xs]
    rfl
def asList : OV → Option (List PyData)
  | .d (.list xs) => some xs
  | .lst xs => ovs xs
  | _ => none

section
variable {K : PySem.W.Frag} {m : Am} {σ : L2.St} {H H' : Hp} {ρ : DEnv} {F T : List Addr}
/-- own or not: seen where its objects are seen -/
theorem Own.rep {B B' : Hp} (e : Ex B B') : ∀ (x : OV) (v : V) (fp : List Addr), okv x = true → (∀ a ∈ fp, B' a = H a) → Own K m B H v x fp → Rep K B' v (vw x) := by
  intro x
  refine OV.rec (motive_1 := fun x => ∀ (v : V) (fp : List Addr), okv x = true → (∀ a ∈ fp, B' a = H a) → Own K m B H v x fp → Rep K B' v (vw x))
    (motive_2 := fun xs => ∀ (vs : List V) (fp : List Addr), okvs xs = true → (∀ a ∈ fp, B' a = H a) → OwnAll K m B H vs xs fp → RepAll K B' vs (vws xs)) ?_ ?_ ?_ ?_ ?_ ?_ ?_ x
  · intro x v fp _ k h
    cases h with
    | d r => exact Rep.mono e x _ r
  · intro xs ih v fp ok k h
    cases h with
    | lst hp ha => exact .lst (by rw [k _ List.mem_cons_self]; exact hp) (ih _ _ ok (fun a ha => k a (List.mem_cons_of_mem _ ha)) ha)
  · intro kvs v fp _ k h
    cases h with
    | dic hp ha => exact .dic (.inl (by rw [k _ List.mem_cons_self]; exact hp)) (RepKV.mono e _ _ ha)
  · intro kvs v fp _ k h
    cases h with
    | dct hp ha => exact .dct (by rw [k _ List.mem_cons_self]; exact hp) (RepKT.mono e _ _ ha)
  · intro v fp ok k h
    exact nomatch (show false = true from ok)
  · intro vs fp _ k h
    cases h
    exact .nil
  · intro x xs ih1 ih2 vs fp ok k h
    have ok' : (okv x && okvs xs) = true := ok
    rw [Bool.and_eq_true] at ok'
    cases h with
    | cons h1 h2 => exact .cons (ih1 _ _ ok'.1 (fun a ha => k a (List.mem_append_left _ ha)) h1) (ih2 _ _ ok'.2 (fun a ha => k a (List.mem_append_right _ ha)) h2)
/-- read in the whole heap -/
theorem Ex.ofBh {G : List Addr} : Ex (Bh m G H) H := fun a o q => (hid_some.mp q).2
theorem VR.read {v : V} {x : OV} (ok : okv x = true) (h : VR K m F T H v x) : Rep K H v (vw x) := by
  obtain ⟨fp, h1, _⟩ := h
  exact Own.rep Ex.ofBh x v fp ok (fun _ _ => rfl) h1
/-- handed out of the def -/
theorem VR.out {v : V} {x : OV} (er : ER K m σ H ρ F T) (ok : okv x = true) (h : VR K m F T H v x) : Rep K (hid H m.S) v (vw x) := by
  obtain ⟨fp, h1, h2⟩ := h
  refine Own.rep Bh.out x v fp ok (fun a ha => ?_) h1
  unfold hid
  rw [if_neg]
  intro z
  exact er.sF z (h2 a ha)
theorem OwnAll.ovs {B : Hp} : ∀ {vs : List V} {xs : List OV} {fp : List Addr} {ds : List PyData}, OwnAll K m B H vs xs fp → ovs xs = some ds → RepAll K B vs ds ∧ fp = []
  | _, _, _, _, .nil, h => by
    cases h
    exact ⟨.nil, rfl⟩
  | _, _, _, ds, .cons (x := x) (xs := xs) (fp := f1) (fq := f2) h1 h2, h => by
    cases x with
    | d y =>
      have h' : (DL.ovs xs).map (y :: ·) = some ds := h
      cases e : DL.ovs xs with
      | none =>
        rw [e] at h'
        cases h'
      | some es =>
        rw [e] at h'
        cases h'
        obtain ⟨r, ef⟩ := OwnAll.ovs h2 e
        cases h1 with
        | d r1 => exact ⟨.cons r1 r, by rw [ef]; rfl⟩
    | lst _ => cases h
    | dic _ => cases h
    | dct _ => cases h
    | pot => cases h
/-- a list with plain items, read -/
theorem VR.list {v : V} {x : OV} {ds : List PyData} (h : VR K m F T H v x) (e : asList x = some ds) : ∃ a vs, v = .ref a ∧ H a = some (.lst vs) ∧ RepAll K (Bh m (F ++ T) H) vs ds := by
  obtain ⟨fp, h1, h2⟩ := h
  cases x with
  | d y =>
    cases y with
    | list xs =>
      cases e
      cases h1 with
      | d r =>
        cases r with
        | lst hp ha => exact ⟨_, _, rfl, (hid_some.mp hp).2, ha⟩
    | _ => cases e
  | lst xs =>
    cases h1 with
    | lst hp ha => exact ⟨_, _, rfl, hp, (OwnAll.ovs ha e).1⟩
  | dic _ => cases e
  | dct _ => cases e
  | pot => cases e
theorem VR.tuple {v : V} {ds : List PyData} (h : VR K m F T H v (.d (.tuple ds))) : ∃ a vs, v = .ref a ∧ SqT K H a vs ∧ RepAll K (Bh m (F ++ T) H) vs ds := by
  cases h.rep with
  | tup hp ha => exact ⟨_, _, rfl, Ex.ofBh.stt hp, ha⟩
theorem VR.int {v : V} {i : Int} (h : VR K m F T H v (.d (.int i))) : v = .int i := by
  cases h.rep
  rfl
theorem VR.str {v : V} {i : Str} (h : VR K m F T H v (.d (.str i))) : v = .str i := by
  cases h.rep
  rfl
theorem VR.bool {v : V} {i : Bool} (h : VR K m F T H v (.d (.bool i))) : v = .bl i := by
  cases h.rep
  rfl
theorem VR.isNone {v : V} (h : VR K m F T H v (.d .none)) : v = .non := by
  cases h.rep
  rfl
theorem VR.ofInt (i : Int) : VR K m F T H (.int i) (.d (.int i)) := .d (.int i)
theorem VR.ofStr (i : Str) : VR K m F T H (.str i) (.d (.str i)) := .d (.str i)
theorem VR.ofBool (i : Bool) : VR K m F T H (.bl i) (.d (.bool i)) := .d (.bl i)
theorem VR.ofNone : VR K m F T H .non (.d .none) := .d .non
/-- a new list, tuple of plain things -/
theorem RepAll.newB (er : ER K m σ H ρ F T) {p : Addr} {o : HO} (hn : H p = none) {vs : List V} {ds : List PyData} (h : RepAll K (Bh m (F ++ T) H) vs ds) : RepAll K (Bh m (F ++ T) (upd H p o)) vs ds := RepAll.mono (Bh.ex er.base (Ext.new hn)) _ _ h
theorem VR.newL (er : ER K m σ H ρ F T) {p : Addr} (hn : H p = none) {vs : List V} {ds : List PyData} (h : RepAll K (Bh m (F ++ T) H) vs ds) : VR K m F T (upd H p (.lst vs)) (.ref p) (.d (.list ds)) :=
  .d (.lst (er.newB hn) (h.newB er hn))
theorem VR.newT (er : ER K m σ H ρ F T) {p : Addr} (hn : H p = none) {vs : List V} {ds : List PyData} (h : RepAll K (Bh m (F ++ T) H) vs ds) : VR K m F T (upd H p (.tup vs)) (.ref p) (.d (.tuple ds)) :=
  .d (.tup (er.newB hn) (h.newB er hn))
theorem RepAll.ofVRs : ∀ {vs : List V} {xs : List OV} {ds : List PyData}, VRs K m F T H vs xs → ovs xs = some ds → RepAll K (Bh m (F ++ T) H) vs ds
  | _, _, _, .nil, h => by
    cases h
    exact .nil
  | _, _, ds, .cons (x := x) (xs := xs) h1 h2, h => by
    cases x with
    | d y =>
      have h' : (DL.ovs xs).map (y :: ·) = some ds := h
      cases e : DL.ovs xs with
      | none =>
        rw [e] at h'
        cases h'
      | some es =>
        rw [e] at h'
        cases h'
        exact .cons h1.rep (RepAll.ofVRs h2 e)
    | lst _ => cases h
    | dic _ => cases h
    | dct _ => cases h
    | pot => cases h
end

/-! ## judgements -/
structure RE (K : PySem.W.Frag) (m : Am) (t : TE) (de : DE) : Prop where
  run : ∀ {σ : L2.St} {H : Hp} {ρ : DEnv} {F T : List Addr} {Q : VK} {dQ : OV → Prop}, ER K m σ H ρ F T → de ρ dQ →
    (∀ H' v x, Ext m.P H H' → ER K m σ H' ρ F T → VR K m F T H' v x → dQ x → Q v H') → t σ H Q
/-- a new list, the value's own -/
structure RN (K : PySem.W.Frag) (m : Am) (t : TE) (dn : DN) : Prop where
  run : ∀ {σ : L2.St} {H : Hp} {ρ : DEnv} {F T : List Addr} {Q : VK} {dQ : List OV → Prop}, ER K m σ H ρ F T → dn ρ dQ →
    (∀ H' v xs fp, Ext m.P H H' → (∀ a ∈ fp, H a = none) → ER K m σ H' ρ F (T ++ fp) → Own K m (Bh m (F ++ (T ++ fp)) H') H' v (.lst xs) fp → dQ xs → Q v H') → t σ H Q
structure RT (K : PySem.W.Frag) (m : Am) (t : TT) (dt : DT) : Prop where
  run : ∀ {σ : L2.St} {H : Hp} {ρ : DEnv} {F T : List Addr} {Q : Bool → Hp → Prop} {dQ : Bool → Prop}, ER K m σ H ρ F T → dt ρ dQ →
    (∀ H' b, Ext m.P H H' → ER K m σ H' ρ F T → dQ b → Q b H') → t σ H Q
structure RA (K : PySem.W.Frag) (m : Am) (t : TA) (da : DA) : Prop where
  run : ∀ {σ : L2.St} {H : Hp} {ρ : DEnv} {F T : List Addr} {Q : List V → Hp → Prop} {dQ : List OV → Prop}, ER K m σ H ρ F T → da ρ dQ →
    (∀ H' vs xs, Ext m.P H H' → ER K m σ H' ρ F T → VRs K m F T H' vs xs → dQ xs → Q vs H') → t σ H Q
structure R2D (K : PySem.W.Frag) (m : Am) (r : R2) (dr : D2) : Prop where
  run : ∀ {σ : L2.St} {H : Hp} {ρ : DEnv} {F T : List Addr} {v u : V} {x y : OV} {Q : VK} {dQ : OV → Prop}, ER K m σ H ρ F T → VR K m F T H v x → VR K m F T H u y → dr x y dQ →
    (∀ H' w z, Ext m.P H H' → ER K m σ H' ρ F T → VR K m F T H' w z → dQ z → Q w H') → r v u H Q
/-- a call on values: cr of args -/
structure RCD (K : PySem.W.Frag) (m : Am) (r : List V → Hp → VK → Prop) (dr : DF) : Prop where
  run : ∀ {σ : L2.St} {H : Hp} {ρ : DEnv} {F T : List Addr} {vs : List V} {xs : List OV} {Q : VK} {dQ : PyData → Prop}, ER K m σ H ρ F T → VRs K m F T H vs xs → dr xs dQ →
    (∀ H' w z, Ext m.P H H' → ER K m σ H' ρ F T → VR K m F T H' w (.d z) → dQ z → Q w H') → r vs H Q
structure DPE (X : Cx) (m : Am) (e : Expr) (t : TE) (de : DE) : Prop where
  pe : PE X e t
  re : RE X.K m t de
structure DPN (X : Cx) (m : Am) (e : Expr) (t : TE) (dn : DN) : Prop where
  pe : PE X e t
  rn : RN X.K m t dn
structure DPT (X : Cx) (m : Am) (e : Expr) (t : TT) (dt : DT) : Prop where
  pt : PT X e t
  rt : RT X.K m t dt
structure DPW (X : Cx) (m : Am) (e : Expr) (t : TT) (dt : DT) : Prop where
  pw : PW X e t
  rt : RT X.K m t dt
structure DPA (X : Cx) (m : Am) (es : List Expr) (t : TA) (da : DA) : Prop where
  pa : PA X es t
  ra : RA X.K m t da

section
variable {X : Cx} {m : Am} {a b c e : Expr} {es : List Expr} {pos : Pos} {t ta tb tc te : TE} {da db dc de : DE} {tt tu : TT} {dt du : DT}

/-! ### names, constants -/
def dVar (i : Nat) : DE := fun ρ Q => match ρ[i]? with
  | some (some x) => Q x
  | _ => False
def dC (x : PyData) : DE := fun _ Q => Q (.d x)
theorem re_var {K : PySem.W.Frag} (i : Nat) : RE K m (tVar i) (dVar i) := ⟨fun {σ H ρ F T Q dQ} er h k => by
  unfold dVar at h
  split at h
  · rename_i x hx
    obtain ⟨v, fp, h1, h2, h3⟩ := er.slots.get hx
    exact ⟨v, h1, k H v x (Ext.refl _ _) er ⟨fp, h2, fun a ha => List.mem_append_left _ (h3 a ha)⟩ h⟩
  · exact h.elim⟩
theorem dv (i : Nat) {x : Str} (hN : X.N[i]? = some x := by rfl) (hv : Vis X.env.scope x := by first | exact Or.inl rfl | exact Or.inr (Or.inl rfl) | exact Or.inr (Or.inr rfl)) (hd : (x == ("__debug__" : Str)) = false := by decide)
    (hcd : (x == ("__classdict__" : Str)) = false := by decide) : DPE X m (.Name x pos) (tVar i) (dVar i) := ⟨pe_var hN hv hd hcd, re_var i⟩
theorem re_c {K : PySem.W.Frag} {v : V} {x : PyData} (h : ∀ H, Rep K H v x) : RE K m (tC v) (dC x) := ⟨fun {σ H ρ F T Q dQ} er hq k => k H v _ (Ext.refl _ _) er (.d (h _)) hq⟩
theorem d_int {i j} : DPE X m (.Constant (.int i) j pos) (tC (.int i)) (dC (.int i)) := ⟨pe_int, re_c fun _ => .int i⟩
theorem d_bl {b j} : DPE X m (.Constant (.bool b) j pos) (tC (.bl b)) (dC (.bool b)) := ⟨pe_bl, re_c fun _ => .bl b⟩
theorem d_non {j} : DPE X m (.Constant .none j pos) (tC .non) (dC .none) := ⟨pe_non, re_c fun _ => .non⟩
theorem d_str {x : Str} {j} : DPE X m (.Constant (.str x) j pos) (tC (.str x)) (dC (.str x)) := ⟨pe_str, re_c fun _ => .str x⟩
/-- a module's int, text -/
theorem d_gint {x : Str} {i : Int} {tk : Tok} (hg : Gl X x) (hm : X.mg x = some (.int i tk)) (hd : (x == ("__debug__" : Str)) = false := by decide) : DPE X m (.Name x pos) (tC (.int i)) (dC (.int i)) := ⟨pe_glob hg hm ⟨_, rfl⟩ hd, re_c fun _ => .int i⟩
theorem d_gstr {x z : Str} {tk : Tok} (hg : Gl X x) (hm : X.mg x = some (.str z tk)) (hd : (x == ("__debug__" : Str)) = false := by decide) : DPE X m (.Name x pos) (tC (.str z)) (dC (.str z)) := ⟨pe_glob hg hm ⟨_, rfl⟩ hd, re_c fun _ => .str z⟩

/-! ### operators -/
def dOp (dr : D2) (da db : DE) : DE := fun ρ Q => da ρ fun x => db ρ fun y => dr x y Q
theorem re_op {K : PySem.W.Frag} {r : R2} {dr : D2} (hr : R2D K m r dr) (ha : RE K m ta da) (hb : RE K m tb db) : RE K m (tOp r ta tb) (dOp dr da db) := ⟨fun {σ H ρ F T Q dQ} er h k =>
  ha.run er h fun H1 v x e1 er1 vx h1 => hb.run er1 h1 fun H2 u y e2 er2 vy h2 => hr.run er2 (vx.step er1 e2) vy h2 fun H3 w z e3 er3 vz h3 => k H3 w z ((e1.trans e2).trans e3) er3 vz h3⟩
theorem d_op {op : Operator} {r : R2} {dr : D2} (ho : OpR X (binaryOp op) r) (hr : R2D X.K m r dr) (ha : DPE X m a ta da) (hb : DPE X m b tb db) : DPE X m (.BinOp a op b pos) (tOp r ta tb) (dOp dr da db) := ⟨pe_op ho ha.pe hb.pe, re_op hr ha.re hb.re⟩
theorem d_cmp {op : CmpOp} {r : R2} {dr : D2} (ho : OpR X (compareOp op) r) (hr : R2D X.K m r dr) (ha : DPE X m a ta da) (hb : DPE X m b tb db) (hm : behindInMarks op b = false) : DPE X m (.Compare a [op] [b] pos) (tOp r ta tb) (dOp dr da db) := ⟨pe_cmpR ho ha.pe hb.pe hm, re_op hr ha.re hb.re⟩
theorem d_ix {r : R2} {dr : D2} (ho : IxR X r) (hr : R2D X.K m r dr) (ha : DPE X m a ta da) (hb : DPE X m b tb db) (hs : PlainIx b) : DPE X m (.Subscript a b pos) (tOp r ta tb) (dOp dr da db) := ⟨pe_ix ho ha.pe hb.pe hs, re_op hr ha.re hb.re⟩

def dI2 (C : Int → Int → Prop) (g : Int → Int → PyData) : D2
  | .d (.int i), .d (.int j), Q => C i j ∧ Q (.d (g i j))
  | _, _, _ => False
theorem r2_I {K : PySem.W.Frag} {C : Int → Int → Prop} {g : Int → Int → Int} : R2D K m (rI C fun i j => .int (g i j)) (dI2 C fun i j => .int (g i j)) := ⟨fun {σ H ρ F T v u x y Q dQ} er vx vy h k => by
  unfold dI2 at h
  split at h
  · exact ⟨_, _, vx.int, vy.int, h.1, k H _ _ (Ext.refl _ _) er (.ofInt _) h.2⟩
  · exact h.elim⟩
def dI0 (g : Int → Int → PyData) : D2
  | .d (.int i), .d (.int j), Q => Q (.d (g i j))
  | _, _, _ => False
theorem r2_I0 {K : PySem.W.Frag} {g : Int → Int → Int} : R2D K m (rI0 fun i j => .int (g i j)) (dI0 fun i j => .int (g i j)) := ⟨fun {σ H ρ F T v u x y Q dQ} er vx vy h k => by
  unfold dI0 at h
  split at h
  · exact ⟨_, _, vx.int, vy.int, k H _ _ (Ext.refl _ _) er (.ofInt _) h⟩
  · exact h.elim⟩
theorem r2_B0 {K : PySem.W.Frag} {g : Int → Int → Bool} : R2D K m (rI0 fun i j => .bl (g i j)) (dI0 fun i j => .bool (g i j)) := ⟨fun {σ H ρ F T v u x y Q dQ} er vx vy h k => by
  unfold dI0 at h
  split at h
  · exact ⟨_, _, vx.int, vy.int, k H _ _ (Ext.refl _ _) er (.ofBool _) h⟩
  · exact h.elim⟩
theorem R2D.or {K : PySem.W.Frag} {r r' : R2} {dr dr' : D2} (h : R2D K m r dr) (h' : R2D K m r' dr') : R2D K m (fun x y H Q => r x y H Q ∨ r' x y H Q) (fun x y Q => dr x y Q ∨ dr' x y Q) := ⟨fun {σ H ρ F T v u x y Q dQ} er vx vy hq k => by
  rcases hq with hq | hq
  · exact .inl (h.run er vx vy hq k)
  · exact .inr (h'.run er vx vy hq k)⟩
theorem R2D.imp {K : PySem.W.Frag} {r : R2} {dr dr' : D2} (h : R2D K m r dr) (hi : ∀ x y Q, dr' x y Q → dr x y Q) : R2D K m r dr' := ⟨fun {σ H ρ F T v u x y Q dQ} er vx vy hq k => h.run er vx vy (hi _ _ _ hq) k⟩

/-- a + b -/
def dAdd : D2 := fun x y Q => match x, y with
  | .d (.int i), .d (.int j) => Q (.d (.int (i + j)))
  | .d (.str i), .d (.str j) => i.length + j.length ≤ sizeLine ∧ Q (.d (.str (i ++ j)))
  | .d (.tuple xs), .d (.tuple ys) => xs.length + ys.length ≤ sizeLine ∧ Q (.d (.tuple (xs ++ ys)))
  | x, y => ∃ xs ys, asList x = some xs ∧ asList y = some ys ∧ xs.length + ys.length ≤ sizeLine ∧ Q (.d (.list (xs ++ ys)))
def rAddA (K : PySem.W.Frag) : R2 := fun x y H Q => ((∃ i j, x = .int i ∧ y = .int j ∧ Q (.int (i + j)) H) ∨ ∃ i j, x = .str i ∧ y = .str j ∧ i.length + j.length ≤ sizeLine ∧ Q (.str (i ++ j)) H) ∨ (rCat x y H Q ∨ rCatA K x y H Q)
theorem op_addA : OpR X (binaryOp .Add) (rAddA X.K) := (op_add.or op_add_str).or (op_cat.or op_catA)
theorem r2_add {K : PySem.W.Frag} : R2D K m (rAddA K) dAdd := ⟨fun {σ H ρ F T v u x y Q dQ} er vx vy h k => by
  unfold dAdd at h
  split at h
  · exact .inl (.inl ⟨_, _, vx.int, vy.int, k H _ _ (Ext.refl _ _) er (.ofInt _) h⟩)
  · exact .inl (.inr ⟨_, _, vx.str, vy.str, h.1, k H _ _ (Ext.refl _ _) er (.ofStr _) h.2⟩)
  · obtain ⟨a, vs, rfl, ha, ra⟩ := vx.tuple
    obtain ⟨b, us, rfl, hb, rb⟩ := vy.tuple
    refine .inr (.inr ⟨a, b, vs, us, rfl, rfl, ha, hb, ?_, fun e => ?_, fun e1 e2 => ?_, fun _ _ p hp => ?_⟩)
    · rw [ra.length, rb.length]
      exact h.1
    · subst e
      cases ra
      exact k H _ _ (Ext.refl _ _) er vy h.2
    · subst e2
      cases rb
      rw [List.append_nil] at h
      exact k H _ _ (Ext.refl _ _) er vx h.2
    · exact k _ _ _ (Ext.new hp) (er.new hp) (.newT er hp (ra.append rb)) h.2
  · obtain ⟨xs, ys, e1, e2, hl, h⟩ := h
    obtain ⟨a, vs, rfl, ha, ra⟩ := vx.list e1
    obtain ⟨b, us, rfl, hb, rb⟩ := vy.list e2
    refine .inr (.inl ⟨a, b, vs, us, rfl, rfl, ha, hb, by rw [ra.length, rb.length]; exact hl, fun p hp => ?_⟩)
    exact k _ _ _ (Ext.new hp) (er.new hp) (.newL er hp (ra.append rb)) h⟩
theorem d_add (ha : DPE X m a ta da) (hb : DPE X m b tb db) : DPE X m (.BinOp a .Add b pos) (tOp (rAddA X.K) ta tb) (dOp dAdd da db) := d_op op_addA r2_add ha hb
theorem d_sub (ha : DPE X m a ta da) (hb : DPE X m b tb db) : DPE X m (.BinOp a .Sub b pos) (tOp (rI0 fun i j => .int (i - j)) ta tb) (dOp (dI0 fun i j => .int (i - j)) da db) := d_op op_sub r2_I0 ha hb
theorem d_mod (ha : DPE X m a ta da) (hb : DPE X m b tb db) : DPE X m (.BinOp a .Mod b pos) (tOp (rI (fun _ j => j ≠ 0) fun i j => .int (i.fmod j)) ta tb) (dOp (dI2 (fun _ j => j ≠ 0) fun i j => .int (i.fmod j)) da db) := d_op op_modN r2_I ha hb
theorem d_fdiv (ha : DPE X m a ta da) (hb : DPE X m b tb db) : DPE X m (.BinOp a .FloorDiv b pos) (tOp (rI CDivN fun i j => .int (i.fdiv j)) ta tb) (dOp (dI2 CDivN fun i j => .int (i.fdiv j)) da db) := d_op op_fdivN r2_I ha hb
theorem d_pow (ha : DPE X m a ta da) (hb : DPE X m b tb db) : DPE X m (.BinOp a .Pow b pos) (tOp (rI CPow fun i j => .int (i ^ j.toNat)) ta tb) (dOp (dI2 CPow fun i j => .int (i ^ j.toNat)) da db) := d_op op_pow r2_I ha hb

/-! ### comparisons -/
abbrev dLt : D2 := dI0 fun i j => .bool (decide (i < j))
abbrev dLe : D2 := dI0 fun i j => .bool (decide (i ≤ j))
abbrev dGt : D2 := dI0 fun i j => .bool (decide (j < i))
abbrev dGe : D2 := dI0 fun i j => .bool (decide (j ≤ i))
theorem d_lt (ha : DPE X m a ta da) (hb : DPE X m b tb db) : DPE X m (.Compare a [.Lt] [b] pos) (tOp (rI0 fun i j => .bl (decide (i < j))) ta tb) (dOp dLt da db) := d_cmp op_lt r2_B0 ha hb (nomark _)
theorem d_le (ha : DPE X m a ta da) (hb : DPE X m b tb db) : DPE X m (.Compare a [.LtE] [b] pos) (tOp (rI0 fun i j => .bl (decide (i ≤ j))) ta tb) (dOp dLe da db) := d_cmp op_le r2_B0 ha hb (nomark _)
theorem d_gt (ha : DPE X m a ta da) (hb : DPE X m b tb db) : DPE X m (.Compare a [.Gt] [b] pos) (tOp (rI0 fun i j => .bl (decide (j < i))) ta tb) (dOp dGt da db) := d_cmp op_gt r2_B0 ha hb (nomark _)
theorem d_ge (ha : DPE X m a ta da) (hb : DPE X m b tb db) : DPE X m (.Compare a [.GtE] [b] pos) (tOp (rI0 fun i j => .bl (decide (j ≤ i))) ta tb) (dOp dGe da db) := d_cmp op_ge r2_B0 ha hb (nomark _)
end
end DL

/-! ==== DL4 ==== -/
set_option Elab.async false
set_option linter.all false
set_option maxRecDepth 100000
set_option maxHeartbeats 4000000
namespace DL
open PySem PySem.Spec PyProof.Rows L2

/-! ### == -/
mutual
theorem Rep.dp {K : PySem.W.Frag} {H : Hp} : ∀ (d : PyData) (v : V), d.hasDict = false → Rep K H v d → Dp K H v d
  | .none, _, _, h => by cases h; exact .non
  | .bool b, _, _, h => by cases h; exact .bl b
  | .int i, _, _, h => by cases h; exact .int i
  | .str x, _, _, h => by cases h; exact .str x
  | .list ds, _, hd, h => by
    have hd' : PyData.hasDictAll ds = false := by simpa only [PyData.hasDict] using hd
    cases h with
    | lst hs ha => exact .lst (SqL.of hs) (RepAll.dp ds _ hd' ha)
  | .tuple ds, _, hd, h => by
    have hd' : PyData.hasDictAll ds = false := by simpa only [PyData.hasDict] using hd
    cases h with
    | tup hs ha => exact .tup (.inl (.inl hs)) (RepAll.dp ds _ hd' ha)
  | .dict ds, _, hd, h => by simp only [PyData.hasDict] at hd; exact Bool.noConfusion hd
theorem RepAll.dp {K : PySem.W.Frag} {H : Hp} : ∀ (ds : List PyData) (vs : List V), PyData.hasDictAll ds = false → RepAll K H vs ds → DpAll K H vs ds
  | [], _, _, h => by cases h; exact .nil
  | d :: ds, _, hd, h => by
    have hd' : (d.hasDict || PyData.hasDictAll ds) = false := by simpa only [PyData.hasDictAll] using hd
    rw [Bool.or_eq_false_iff] at hd'
    cases h with
    | cons h1 h2 => exact .cons (Rep.dp d _ hd'.1 h1) (RepAll.dp ds _ hd'.2 h2)
end
theorem noDict_of_shaped {d : PyData} (h : SeqAt.shaped d = true) : d.hasDict = false := PyData.hasDict_of_canLay d (SeqAt.canLay_of_shaped h)

/-- sc: what is given for == of two texts, ints, bools; else deep -/
def dEqG (g : Bool → Bool) : D2 := fun x y Q => match x, y with
  | .d (.int i), .d (.int j) => Q (.d (.bool (g (decide (i = j)))))
  | .d (.str i), .d (.str j) => Q (.d (.bool (g (decide (i = j)))))
  | .d (.bool i), .d (.bool j) => Q (.d (.bool (g (decide (i = j)))))
  | x, y => okv x = true ∧ okv y = true ∧ SeqAt.shaped (vw x) = true ∧ SeqAt.shaped (vw y) = true ∧ Q (.d (.bool (g (PyData.eqv (vw x) (vw y)))))
abbrev dEq : D2 := dEqG id
abbrev dNe : D2 := dEqG not
section
variable {X : Cx} {m : Am} {a b c e : Expr} {es : List Expr} {pos : Pos} {t ta tb tc te : TE} {da db dc de : DE} {tt tu : TT} {dt du : DT}
def rEqA (K : PySem.W.Frag) : R2 := fun x y H Q => rEq x y H Q ∨ rEqD K x y H Q
def rNeA (K : PySem.W.Frag) : R2 := fun x y H Q => rNe x y H Q ∨ rNeD K x y H Q
theorem op_eqA {k : Nat} (hr : Rm k X.A) : OpR X (compareOp .Eq) (rEqA X.K) := op_eq.or (op_eqD hr.room.units)
theorem op_neA {k : Nat} (hr : Rm k X.A) : OpR X (compareOp .NotEq) (rNeA X.K) := op_ne.or (op_neD hr.room.units)
theorem dec_intV (i j : Int) : decide (V.int i = V.int j) = decide (i = j) := by
  by_cases e : i = j
  · subst e
    rw [decide_eq_true rfl, decide_eq_true rfl]
  · rw [decide_eq_false e, decide_eq_false (fun z => e (V.int.inj z))]
theorem dec_strV (i j : Str) : decide (V.str i = V.str j) = decide (i = j) := by
  by_cases e : i = j
  · subst e
    rw [decide_eq_true rfl, decide_eq_true rfl]
  · rw [decide_eq_false e, decide_eq_false (fun z => e (V.str.inj z))]
theorem dec_blV (i j : Bool) : decide (V.bl i = V.bl j) = decide (i = j) := by
  by_cases e : i = j
  · subst e
    rw [decide_eq_true rfl, decide_eq_true rfl]
  · rw [decide_eq_false e, decide_eq_false (fun z => e (V.bl.inj z))]
theorem r2_eq {K : PySem.W.Frag} : R2D K m (rEqA K) dEq := ⟨fun {σ H ρ F T v u x y Q dQ} er vx vy h k => by
  unfold dEq dEqG at h
  split at h
  · refine .inl ⟨by rw [vx.int, vy.int]; rfl, ?_⟩
    rw [vx.int, vy.int, dec_intV]
    exact k H _ _ (Ext.refl _ _) er (.ofBool _) h
  · refine .inl ⟨by rw [vx.str, vy.str]; rfl, ?_⟩
    rw [vx.str, vy.str, dec_strV]
    exact k H _ _ (Ext.refl _ _) er (.ofBool _) h
  · refine .inl ⟨by rw [vx.bool, vy.bool]; rfl, ?_⟩
    rw [vx.bool, vy.bool, dec_blV]
    exact k H _ _ (Ext.refl _ _) er (.ofBool _) h
  · obtain ⟨o1, o2, s1, s2, h⟩ := h
    exact .inr ⟨_, _, Rep.dp _ _ (noDict_of_shaped s1) (vx.read o1), Rep.dp _ _ (noDict_of_shaped s2) (vy.read o2), s1, s2, k H _ _ (Ext.refl _ _) er (.ofBool _) h⟩⟩
theorem r2_ne {K : PySem.W.Frag} : R2D K m (rNeA K) dNe := ⟨fun {σ H ρ F T v u x y Q dQ} er vx vy h k => by
  unfold dNe dEqG at h
  split at h
  · refine .inl ⟨by rw [vx.int, vy.int]; rfl, ?_⟩
    rw [vx.int, vy.int, dec_intV]
    exact k H _ _ (Ext.refl _ _) er (.ofBool _) h
  · refine .inl ⟨by rw [vx.str, vy.str]; rfl, ?_⟩
    rw [vx.str, vy.str, dec_strV]
    exact k H _ _ (Ext.refl _ _) er (.ofBool _) h
  · refine .inl ⟨by rw [vx.bool, vy.bool]; rfl, ?_⟩
    rw [vx.bool, vy.bool, dec_blV]
    exact k H _ _ (Ext.refl _ _) er (.ofBool _) h
  · obtain ⟨o1, o2, s1, s2, h⟩ := h
    exact .inr ⟨_, _, Rep.dp _ _ (noDict_of_shaped s1) (vx.read o1), Rep.dp _ _ (noDict_of_shaped s2) (vy.read o2), s1, s2, k H _ _ (Ext.refl _ _) er (.ofBool _) h⟩⟩
theorem d_eq {k : Nat} (hr : Rm k X.A) (ha : DPE X m a ta da) (hb : DPE X m b tb db) : DPE X m (.Compare a [.Eq] [b] pos) (tOp (rEqA X.K) ta tb) (dOp dEq da db) := d_cmp (op_eqA hr) r2_eq ha hb (nomark _)
theorem d_ne {k : Nat} (hr : Rm k X.A) (ha : DPE X m a ta da) (hb : DPE X m b tb db) : DPE X m (.Compare a [.NotEq] [b] pos) (tOp (rNeA X.K) ta tb) (dOp dNe da db) := d_cmp (op_neA hr) r2_ne ha hb (nomark _)

/-! ### in -/
def flatD : PyData → Bool
  | .none => true
  | .bool _ => true
  | .int _ => true
  | .str _ => true
  | _ => false
def vD : PyData → V
  | .none => .non
  | .bool b => .bl b
  | .int i => .int i
  | .str x => .str x
  | _ => .non
theorem flat_rep {K : PySem.W.Frag} {H : Hp} {d : PyData} {v : V} (f : flatD d = true) (h : Rep K H v d) : v = vD d ∧ flatV v = true := by
  cases h <;> first | exact ⟨rfl, rfl⟩ | exact nomatch (show false = true from f)
theorem flat_all {K : PySem.W.Frag} {H : Hp} : ∀ {ds : List PyData} {vs : List V}, ds.all flatD = true → RepAll K H vs ds → vs = ds.map vD ∧ vs.all flatV = true
  | [], _, _, h => by
    cases h
    exact ⟨rfl, rfl⟩
  | d :: ds, _, f, h => by
    rw [List.all_cons, Bool.and_eq_true] at f
    cases h with
    | cons h1 h2 =>
      obtain ⟨e1, f1⟩ := flat_rep f.1 h1
      obtain ⟨e2, f2⟩ := flat_all f.2 h2
      exact ⟨by rw [List.map_cons, e1, e2], by rw [List.all_cons, f1, f2]; rfl⟩
/-- x stands among ys (flat things) -/
def inD (x : PyData) (ys : List PyData) : Bool := inV (vD x) (ys.map vD)
def dInG (g : Bool → Bool) : D2 := fun x y Q => match x, y with
  | .d (.str s), .d (.str z) => ∃ c, s = ⟨#[c]⟩ ∧ Q (.d (.bool (g (decide (c ∈ z.cps.toList)))))
  | .d x, .d (.tuple ys) => flatD x = true ∧ ys.all flatD = true ∧ Q (.d (.bool (g (inD x ys))))
  | .d x, y => ∃ ys, asList y = some ys ∧ flatD x = true ∧ ys.all flatD = true ∧ Q (.d (.bool (g (inD x ys))))
  | _, _ => False
abbrev dIn : D2 := dInG id
abbrev dNotIn : D2 := dInG not
def rInA (K : PySem.W.Frag) (neg : Bool) : R2 := fun x y H Q => (∃ (c : Nat) (z : Str), x = .str ⟨#[c]⟩ ∧ y = .str z ∧ Q (.bl (if neg then !decide (c ∈ z.cps.toList) else decide (c ∈ z.cps.toList))) H) ∨ rIn K neg x y H Q
theorem op_inA : OpR X (compareOp .In) (rInA X.K false) := op_in_sign.or op_in_seq
theorem op_niA : OpR X (compareOp .NotIn) (rInA X.K true) := op_notIn_sign.or op_notIn_seq
theorem r2_inG {K : PySem.W.Frag} {neg : Bool} {g : Bool → Bool} (hg : ∀ b, g b = if neg = true then !b else b) : R2D K m (rInA K neg) (dInG g) := ⟨fun {σ H ρ F T v u x y Q dQ} er vx vy h k => by
  unfold dInG at h
  split at h
  · obtain ⟨c, rfl, h⟩ := h
    rw [vx.str, vy.str]
    rw [hg] at h
    exact .inl ⟨c, _, rfl, rfl, k H _ _ (Ext.refl _ _) er (.ofBool _) h⟩
  · obtain ⟨f1, f2, h⟩ := h
    obtain ⟨p, vs, rfl, hp, ra⟩ := vy.tuple
    obtain ⟨e1, g1⟩ := flat_rep f1 vx.rep
    obtain ⟨e2, g2⟩ := flat_all f2 ra
    rw [hg] at h
    refine .inr ⟨p, vs, rfl, .inr hp, g1, g2, ?_⟩
    rw [e1, e2]
    exact k H _ _ (Ext.refl _ _) er (.ofBool _) h
  · obtain ⟨ys, ea, f1, f2, h⟩ := h
    obtain ⟨p, vs, rfl, hp, ra⟩ := vy.list ea
    obtain ⟨e1, g1⟩ := flat_rep f1 vx.rep
    obtain ⟨e2, g2⟩ := flat_all f2 ra
    rw [hg] at h
    refine .inr ⟨p, vs, rfl, .inl (SqL.of hp), g1, g2, ?_⟩
    rw [e1, e2]
    exact k H _ _ (Ext.refl _ _) er (.ofBool _) h
  · exact h.elim⟩
theorem d_in (ha : DPE X m a ta da) (hb : DPE X m b tb db) (hm : behindInMarks .In b = false) : DPE X m (.Compare a [.In] [b] pos) (tOp (rInA X.K false) ta tb) (dOp dIn da db) := d_cmp op_inA (r2_inG fun b => rfl) ha hb hm
theorem d_ni (ha : DPE X m a ta da) (hb : DPE X m b tb db) (hm : behindInMarks .NotIn b = false) : DPE X m (.Compare a [.NotIn] [b] pos) (tOp (rInA X.K true) ta tb) (dOp dNotIn da db) := d_cmp op_niA (r2_inG fun b => rfl) ha hb hm

/-! ### a[i] -/
theorem RepAll.atI {K : PySem.W.Frag} {H : Hp} {vs : List V} {ds : List PyData} {i : Int} {d : PyData} (h : RepAll K H vs ds) (e : atI ds i = some d) : ∃ v, L2.atI vs i = some v ∧ Rep K H v d := by
  unfold L2.atI at e ⊢
  rw [h.length]
  cases q : ixN ds.length i with
  | none =>
    rw [q] at e
    cases e
  | some j =>
    rw [q] at e
    exact h.get e
theorem OwnAll.get {K : PySem.W.Frag} {B H : Hp} : ∀ {vs : List V} {xs : List OV} {fp : List Addr} {i : Nat} {x : OV}, OwnAll K m B H vs xs fp → xs[i]? = some x → ∃ v fq, vs[i]? = some v ∧ Own K m B H v x fq ∧ ∀ a ∈ fq, a ∈ fp
  | _, _, _, _, _, .nil, h => by simp at h
  | _, _, _, 0, _, .cons r _, h => by
    simp at h
    subst h
    exact ⟨_, _, rfl, r, fun a ha => List.mem_append_left _ ha⟩
  | _, _, _, i + 1, _, .cons _ r, h => by
    obtain ⟨v, fq, h1, h2, h3⟩ := OwnAll.get (i := i) r (by simpa using h)
    exact ⟨v, fq, by simpa using h1, h2, fun a ha => List.mem_append_right _ (h3 a ha)⟩
theorem OwnAll.len {K : PySem.W.Frag} {B H : Hp} : ∀ {vs : List V} {xs : List OV} {fp : List Addr}, OwnAll K m B H vs xs fp → vs.length = xs.length
  | _, _, _, .nil => rfl
  | _, _, _, .cons _ h => by rw [List.length_cons, List.length_cons, OwnAll.len h]
theorem OwnAll.atI {K : PySem.W.Frag} {B H : Hp} {vs : List V} {xs : List OV} {fp : List Addr} {i : Int} {x : OV} (h : OwnAll K m B H vs xs fp) (e : atI xs i = some x) : ∃ v fq, L2.atI vs i = some v ∧ Own K m B H v x fq ∧ ∀ a ∈ fq, a ∈ fp := by
  unfold L2.atI at e ⊢
  rw [h.len]
  cases q : ixN xs.length i with
  | none =>
    rw [q] at e
    cases e
  | some j =>
    rw [q] at e
    exact h.get e
def dIx : D2 := fun x y Q => match x, y with
  | .d (.list xs), .d (.int i) => ∃ z, atI xs i = some z ∧ Q (.d z)
  | .d (.tuple xs), .d (.int i) => ∃ z, atI xs i = some z ∧ Q (.d z)
  | .d (.str s), .d (.int i) => s.length ≤ sizeLine ∧ ∃ c, atI s.cps.toList i = some c ∧ Q (.d (.str ⟨#[c]⟩))
  | .lst xs, .d (.int i) => ∃ z, atI xs i = some z ∧ Q z
  | _, _ => False
theorem r2_ix {K : PySem.W.Frag} : R2D K m (rIx K) dIx := ⟨fun {σ H ρ F T v u x y Q dQ} er vx vy h k => by
  unfold dIx at h
  split at h
  · obtain ⟨z, e, h⟩ := h
    rw [vy.int]
    obtain ⟨p, vs, rfl, hp, ra⟩ := vx.list rfl
    obtain ⟨w, e1, r1⟩ := ra.atI e
    exact .inl ⟨p, vs, _, w, rfl, rfl, SqL.of hp, e1, k H _ _ (Ext.refl _ _) er (.d r1) h⟩
  · obtain ⟨z, e, h⟩ := h
    rw [vy.int]
    obtain ⟨p, vs, rfl, hp, ra⟩ := vx.tuple
    obtain ⟨w, e1, r1⟩ := ra.atI e
    exact .inr (.inl ⟨p, vs, _, w, rfl, rfl, hp, e1, k H _ _ (Ext.refl _ _) er (.d r1) h⟩)
  · obtain ⟨hl, c, e, h⟩ := h
    rw [vx.str, vy.int]
    exact .inr (.inr ⟨_, _, c, rfl, rfl, hl, e, k H _ _ (Ext.refl _ _) er (.ofStr _) h⟩)
  · obtain ⟨z, e, h⟩ := h
    rw [vy.int]
    obtain ⟨fp, h1, h2⟩ := vx
    cases h1 with
    | lst hp ha =>
      obtain ⟨w, fq, e1, r1, h3⟩ := ha.atI e
      exact .inl ⟨_, _, _, w, rfl, rfl, SqL.of hp, e1, k H _ _ (Ext.refl _ _) er ⟨fq, r1, fun a ha => h2 a (List.mem_cons_of_mem _ (h3 a ha))⟩ h⟩
  · exact h.elim⟩
theorem d_at (ha : DPE X m a ta da) (hb : DPE X m b tb db) (hs : PlainIx b := by exact fun _ _ => rfl) : DPE X m (.Subscript a b pos) (tOp (rIx X.K) ta tb) (dOp dIx da db) := d_ix ix_seq r2_ix ha hb hs

/-! ### tests -/
def dTest (de : DE) : DT := fun ρ Q => de ρ fun x => match x with
  | .d (.bool b) => Q b
  | _ => False
theorem rt_test {K : PySem.W.Frag} (h : RE K m te de) : RT K m (tTest te) (dTest de) := ⟨fun {σ H ρ F T Q dQ} er hq k => h.run er hq fun H' v x e1 er1 vx hx => by
  split at hx
  · exact ⟨_, vx.bool, k H' _ e1 er1 hx⟩
  · exact hx.elim⟩
theorem t_cmp {op : CmpOp} {r : R2} {dr : D2} (ho : OpR X (compareOp op) r) (hr : R2D X.K m r dr) (ha : DPE X m a ta da) (hb : DPE X m b tb db) (hm : behindInMarks op b = false) : DPT X m (.Compare a [op] [b] pos) (tTest (tOp r ta tb)) (dTest (dOp dr da db)) :=
  ⟨pt_cmpR ho ha.pe hb.pe hm, rt_test (re_op hr ha.re hb.re)⟩
theorem t_lt (ha : DPE X m a ta da) (hb : DPE X m b tb db) : DPT X m (.Compare a [.Lt] [b] pos) (tTest (tOp (rI0 fun i j => .bl (decide (i < j))) ta tb)) (dTest (dOp dLt da db)) := t_cmp op_lt r2_B0 ha hb (nomark _)
theorem t_le (ha : DPE X m a ta da) (hb : DPE X m b tb db) : DPT X m (.Compare a [.LtE] [b] pos) (tTest (tOp (rI0 fun i j => .bl (decide (i ≤ j))) ta tb)) (dTest (dOp dLe da db)) := t_cmp op_le r2_B0 ha hb (nomark _)
theorem t_gt (ha : DPE X m a ta da) (hb : DPE X m b tb db) : DPT X m (.Compare a [.Gt] [b] pos) (tTest (tOp (rI0 fun i j => .bl (decide (j < i))) ta tb)) (dTest (dOp dGt da db)) := t_cmp op_gt r2_B0 ha hb (nomark _)
theorem t_ge (ha : DPE X m a ta da) (hb : DPE X m b tb db) : DPT X m (.Compare a [.GtE] [b] pos) (tTest (tOp (rI0 fun i j => .bl (decide (j ≤ i))) ta tb)) (dTest (dOp dGe da db)) := t_cmp op_ge r2_B0 ha hb (nomark _)
theorem t_eq {k : Nat} (hr : Rm k X.A) (ha : DPE X m a ta da) (hb : DPE X m b tb db) : DPT X m (.Compare a [.Eq] [b] pos) (tTest (tOp (rEqA X.K) ta tb)) (dTest (dOp dEq da db)) := t_cmp (op_eqA hr) r2_eq ha hb (nomark _)
theorem t_ne {k : Nat} (hr : Rm k X.A) (ha : DPE X m a ta da) (hb : DPE X m b tb db) : DPT X m (.Compare a [.NotEq] [b] pos) (tTest (tOp (rNeA X.K) ta tb)) (dTest (dOp dNe da db)) := t_cmp (op_neA hr) r2_ne ha hb (nomark _)
theorem t_in (ha : DPE X m a ta da) (hb : DPE X m b tb db) (hm : behindInMarks .In b = false) : DPT X m (.Compare a [.In] [b] pos) (tTest (tOp (rInA X.K false) ta tb)) (dTest (dOp dIn da db)) := t_cmp op_inA (r2_inG fun b => rfl) ha hb hm
theorem t_ni (ha : DPE X m a ta da) (hb : DPE X m b tb db) (hm : behindInMarks .NotIn b = false) : DPT X m (.Compare a [.NotIn] [b] pos) (tTest (tOp (rInA X.K true) ta tb)) (dTest (dOp dNotIn da db)) := t_cmp op_niA (r2_inG fun b => rfl) ha hb hm
theorem t_val (h : DPE X m e te de) (he : ∀ whole, isTrue e X.env whole = (do let v ← whole; standAt e.pos; holding [v] (truthy v)) := by intro _; rfl) : DPT X m e (tB te) (dTest de) := ⟨pt_val h.pe he, ⟨(rt_test h.re).run⟩⟩
def dAndT (dt du : DT) : DT := fun ρ Q => dt ρ fun c => if c = true then du ρ Q else Q false
def dOrT (dt du : DT) : DT := fun ρ Q => dt ρ fun c => if c = true then Q true else du ρ Q
def dNotT (dt : DT) : DT := fun ρ Q => dt ρ fun c => Q (!c)
theorem rt_and {K : PySem.W.Frag} (h : RT K m tt dt) (h' : RT K m tu du) : RT K m (tAnd tt tu) (dAndT dt du) := ⟨fun {σ H ρ F T Q dQ} er hq k => h.run er hq fun H' c e1 er1 hc => by
  cases c with
  | true => exact h'.run er1 hc fun H2 b e2 er2 hb => k H2 b (e1.trans e2) er2 hb
  | false => exact k H' false e1 er1 hc⟩
theorem rt_or {K : PySem.W.Frag} (h : RT K m tt dt) (h' : RT K m tu du) : RT K m (tOr tt tu) (dOrT dt du) := ⟨fun {σ H ρ F T Q dQ} er hq k => h.run er hq fun H' c e1 er1 hc => by
  cases c with
  | true => exact k H' true e1 er1 hc
  | false => exact h'.run er1 hc fun H2 b e2 er2 hb => k H2 b (e1.trans e2) er2 hb⟩
theorem rt_not {K : PySem.W.Frag} (h : RT K m tt dt) : RT K m (tNot tt) (dNotT dt) := ⟨fun {σ H ρ F T Q dQ} er hq k => h.run er hq fun H' c e1 er1 hc => k H' _ e1 er1 hc⟩
variable {rest : List Expr}
theorem w_and1 (h : DPT X m a tt dt) : DPW X m (.BoolOp .And [a] pos) tt dt := ⟨pw_and1 h.pt, h.rt⟩
theorem w_or1 (h : DPT X m a tt dt) : DPW X m (.BoolOp .Or [a] pos) tt dt := ⟨pw_or1 h.pt, h.rt⟩
theorem w_and (h : DPT X m a tt dt) (h' : DPW X m (.BoolOp .And (b :: rest) pos) tu du) : DPW X m (.BoolOp .And (a :: b :: rest) pos) (tAnd tt tu) (dAndT dt du) := ⟨pw_and h.pt h'.pw, rt_and h.rt h'.rt⟩
theorem w_or (h : DPT X m a tt dt) (h' : DPW X m (.BoolOp .Or (b :: rest) pos) tu du) : DPW X m (.BoolOp .Or (a :: b :: rest) pos) (tOr tt tu) (dOrT dt du) := ⟨pw_or h.pt h'.pw, rt_or h.rt h'.rt⟩
theorem t_pw (h : DPW X m e tt dt) : DPT X m e tt dt := ⟨h.pw.pt, h.rt⟩
theorem t_not (h : DPT X m a tt dt) : DPT X m (.UnaryOp .Not a pos) (tNot tt) (dNotT dt) := ⟨pt_not h.pt, rt_not h.rt⟩
/-! ### .. as values -/
def dAnd (da db : DE) : DE := fun ρ Q => da ρ fun x => match x with
  | .d (.bool c) => if c = true then db ρ Q else Q (.d (.bool false))
  | _ => False
def dOr (da db : DE) : DE := fun ρ Q => da ρ fun x => match x with
  | .d (.bool c) => if c = true then Q (.d (.bool true)) else db ρ Q
  | _ => False
def dNot (da : DE) : DE := fun ρ Q => da ρ fun x => match x with
  | .d (.bool c) => Q (.d (.bool (!c)))
  | _ => False
def dIf (dt : DT) (da db : DE) : DE := fun ρ Q => dt ρ fun c => if c = true then da ρ Q else db ρ Q
theorem re_and {K : PySem.W.Frag} (h : RE K m ta da) (h' : RE K m tb db) : RE K m (tAndV ta tb) (dAnd da db) := ⟨fun {σ H ρ F T Q dQ} er hq k => h.run er hq fun H' v x e1 er1 vx hx => by
  split at hx
  · rename_i c
    refine ⟨c, vx.bool, ?_⟩
    cases c with
    | true => exact h'.run er1 hx fun H2 w z e2 er2 vz hz => k H2 w z (e1.trans e2) er2 vz hz
    | false => exact k H' _ _ e1 er1 (.ofBool _) hx
  · exact hx.elim⟩
theorem re_or {K : PySem.W.Frag} (h : RE K m ta da) (h' : RE K m tb db) : RE K m (tOrV ta tb) (dOr da db) := ⟨fun {σ H ρ F T Q dQ} er hq k => h.run er hq fun H' v x e1 er1 vx hx => by
  split at hx
  · rename_i c
    refine ⟨c, vx.bool, ?_⟩
    cases c with
    | true => exact k H' _ _ e1 er1 (.ofBool _) hx
    | false => exact h'.run er1 hx fun H2 w z e2 er2 vz hz => k H2 w z (e1.trans e2) er2 vz hz
  · exact hx.elim⟩
theorem re_not {K : PySem.W.Frag} (h : RE K m ta da) : RE K m (tNotV ta) (dNot da) := ⟨fun {σ H ρ F T Q dQ} er hq k => h.run er hq fun H' v x e1 er1 vx hx => by
  split at hx
  · exact ⟨_, vx.bool, k H' _ _ e1 er1 (.ofBool _) hx⟩
  · exact hx.elim⟩
theorem re_if {K : PySem.W.Frag} (h : RT K m tt dt) (ha : RE K m ta da) (hb : RE K m tb db) : RE K m (tIf tt ta tb) (dIf dt da db) := ⟨fun {σ H ρ F T Q dQ} er hq k => h.run er hq fun H' c e1 er1 hc => by
  cases c with
  | true => exact ha.run er1 hc fun H2 w z e2 er2 vz hz => k H2 w z (e1.trans e2) er2 vz hz
  | false => exact hb.run er1 hc fun H2 w z e2 er2 vz hz => k H2 w z (e1.trans e2) er2 vz hz⟩
theorem d_one {op} (h : DPE X m a ta da) : DPE X m (.BoolOp op [a] pos) ta da := ⟨pe_one h.pe, h.re⟩
theorem d_and (h : DPE X m a ta da) (h' : DPE X m (.BoolOp .And (b :: rest) pos) tb db) : DPE X m (.BoolOp .And (a :: b :: rest) pos) (tAndV ta tb) (dAnd da db) := ⟨pe_and h.pe h'.pe, re_and h.re h'.re⟩
theorem d_or (h : DPE X m a ta da) (h' : DPE X m (.BoolOp .Or (b :: rest) pos) tb db) : DPE X m (.BoolOp .Or (a :: b :: rest) pos) (tOrV ta tb) (dOr da db) := ⟨pe_or h.pe h'.pe, re_or h.re h'.re⟩
theorem d_not (h : DPE X m a ta da) : DPE X m (.UnaryOp .Not a pos) (tNotV ta) (dNot da) := ⟨pe_not h.pe, re_not h.re⟩
theorem d_if (h : DPT X m c tt dt) (ha : DPE X m a ta da) (hb : DPE X m b tb db) : DPE X m (.IfExp c a b pos) (tIf tt ta tb) (dIf dt da db) := ⟨pe_ifExp h.pt ha.pe hb.pe, re_if h.rt ha.re hb.re⟩
/-- -a -/
def dNeg (da : DE) : DE := fun ρ Q => da ρ fun x => match x with
  | .d (.int i) => Q (.d (.int (-i)))
  | _ => False
theorem d_neg (h : DPE X m a ta da) : DPE X m (.UnaryOp .USub a pos) (tUn (rU fun i => .int (-i)) ta) (dNeg da) := ⟨pe_un un_neg h.pe, ⟨fun {σ H ρ F T Q dQ} er hq k => h.re.run er hq fun H' v x e1 er1 vx hx => by
  split at hx
  · exact ⟨_, vx.int, k H' _ _ e1 er1 (.ofInt _) hx⟩
  · exact hx.elim⟩⟩
/-- a op b op' c -/
def dChain (dr dr' : D2) (da db dc : DE) : DE := fun ρ Q => da ρ fun x => db ρ fun y => dr x y fun z => match z with
  | .d (.bool k) => if k = true then dc ρ fun w => dr' y w Q else Q (.d (.bool false))
  | _ => False

/-! ### arguments, displays -/
def dNil : DA := fun _ Q => Q []
def dCons (de : DE) (dr : DA) : DA := fun ρ Q => de ρ fun x => dr ρ fun xs => Q (x :: xs)
variable {ua ub : TA} {va vb : DA}
theorem a_nil : DPA X m [] tNil dNil := ⟨pa_nil, ⟨fun {σ H ρ F T Q dQ} er hq k => k H [] [] (Ext.refl _ _) er .nil hq⟩⟩
theorem a_cons (h : DPE X m e te de) (h' : DPA X m es ua va) (hs : starEach (e :: es) X.env = (false, eval e X.env) :: starEach es X.env := by rfl) : DPA X m (e :: es) (tCons te ua) (dCons de va) := ⟨pa_cons h.pe h'.pa hs, ⟨fun {σ H ρ F T Q dQ} er hq k =>
  h.re.run er hq fun H1 v x e1 er1 vx h1 => h'.ra.run er1 h1 fun H2 vs xs e2 er2 vxs h2 => k H2 (v :: vs) (x :: xs) (e1.trans e2) er2 (.cons (vx.step er1 e2) vxs) h2⟩⟩
def dTup (da : DA) : DE := fun ρ Q => da ρ fun xs => ∃ ds, ovs xs = some ds ∧ ds.length ≤ sizeLine ∧ Q (.d (.tuple ds))
def dLst (da : DA) : DE := fun ρ Q => da ρ fun xs => ∃ ds, ovs xs = some ds ∧ ds.length ≤ sizeLine ∧ Q (.d (.list ds))
theorem d_tup {k : Nat} (h : DPA X m es ua va) : DPE X m (.Tuple es k pos) (tTup ua) (dTup va) := ⟨pe_tup h.pa, ⟨fun {σ H ρ F T Q dQ} er hq kk => h.ra.run er hq fun H1 vs xs e1 er1 vxs h1 => by
  obtain ⟨ds, e, hl, h1⟩ := h1
  have r := RepAll.ofVRs vxs e
  exact ⟨by rw [r.length]; exact hl, fun p hp => kk _ _ _ (e1.trans (Ext.new hp)) (er1.new hp) (.newT er1 hp r) h1⟩⟩⟩
theorem d_lst (h : DPA X m es ua va) : DPE X m (.List es pos) (tLst ua) (dLst va) := ⟨pe_lst h.pa, ⟨fun {σ H ρ F T Q dQ} er hq kk => h.ra.run er hq fun H1 vs xs e1 er1 vxs h1 => by
  obtain ⟨ds, e, hl, h1⟩ := h1
  have r := RepAll.ofVRs vxs e
  exact ⟨by rw [r.length]; exact hl, fun p hp => kk _ _ _ (e1.trans (Ext.new hp)) (er1.new hp) (.newL er1 hp r) h1⟩⟩⟩
/-- an own list of plain things -/
theorem OwnAll.plain {K : PySem.W.Frag} {B H : Hp} : ∀ {vs : List V} {ds : List PyData}, RepAll K B vs ds → OwnAll K m B H vs (ds.map OV.d) []
  | _, _, .nil => .nil
  | _, _, .cons h t => OwnAll.cons (fp := []) (fq := []) (.d h) (OwnAll.plain t)
theorem Bh.own {G G' : List Addr} {H : Hp} {p : Addr} {o : HO} (hn : H p = none) (hg : ∀ a ∈ G', a ∈ G ∨ a = p) : Ex (Bh m G H) (Bh m G' (upd H p o)) := Bh.chg (fun a ha => by
  rcases hg a ha with z | z
  · exact .inl z
  · exact .inr (by rw [z]; exact hn)) fun a _ h => upd_ne fun z => h (by rw [z]; exact hn)
theorem own_new {K : PySem.W.Frag} {σ : L2.St} {H : Hp} {ρ : DEnv} {F T : List Addr} (er : ER K m σ H ρ F T) {p : Addr} (hn : H p = none) {vs : List V} {ds : List PyData} (r : RepAll K (Bh m (F ++ T) H) vs ds) :
    Own K m (Bh m (F ++ (T ++ [p])) (upd H p (.lst vs))) (upd H p (.lst vs)) (.ref p) (.lst (ds.map OV.d)) [p] :=
  .lst upd_same (OwnAll.plain (RepAll.mono (Bh.own hn fun a ha => by
    rw [← List.append_assoc] at ha
    rcases List.mem_append.mp ha with z | z
    · exact .inl z
    · exact .inr (List.mem_singleton.mp z)) _ _ r))
def dLstN (da : DA) : DN := fun ρ Q => da ρ fun xs => ∃ ds, ovs xs = some ds ∧ ds.length ≤ sizeLine ∧ Q (ds.map OV.d)
theorem n_lst (h : DPA X m es ua va) : DPN X m (.List es pos) (tLst ua) (dLstN va) := ⟨pe_lst h.pa, ⟨fun {σ H ρ F T Q dQ} er hq kk => h.ra.run er hq fun H1 vs xs e1 er1 vxs h1 => by
  obtain ⟨ds, e, hl, h1⟩ := h1
  have r := RepAll.ofVRs vxs e
  exact ⟨by rw [r.length]; exact hl, fun p hp => kk _ _ _ [p] (e1.trans (Ext.new hp)) (fun a ha => by rw [List.mem_singleton.mp ha]; exact Ext.back er1.base.pot e1 hp) (er1.own hp) (own_new er1 hp r) h1⟩⟩⟩
/-- a new list, given away -/
def dNE (dn : DN) : DE := fun ρ Q => dn ρ fun xs => okvs xs = true ∧ Q (.d (.list (vws xs)))
variable {dn : DN}
theorem re_new {K : PySem.W.Frag} (h : RN K m te dn) : RE K m te (dNE dn) := ⟨fun {σ H ρ F T Q dQ} er hq k => h.run er hq fun H' v xs fp e1 _ er1 o hx =>
  k H' v _ e1 (er1.free (List.sublist_append_left _ _)) (.d (Own.rep (Bh.sub fun a ha => by
    rcases List.mem_append.mp ha with z | z
    · exact List.mem_append_left _ z
    · exact List.mem_append_right _ (List.mem_append_left _ z)) (.lst xs) v fp hx.1 (fun a ha => by
      have nd := er1.nd
      show (if hS m (F ++ T) a = true then none else H' a) = H' a
      rw [if_neg]
      intro z
      have hz : hS m (F ++ T) a = true := z
      unfold hS at hz
      rw [Bool.or_eq_true, decide_eq_true_eq] at hz
      rcases hz with z | z
      · exact er1.sF z (List.mem_append_right _ (List.mem_append_right _ ha))
      · rw [← List.append_assoc, List.nodup_append] at nd
        exact nd.2.2 a z a ha rfl) o)) hx.2⟩
theorem d_new (h : DPN X m e te dn) : DPE X m e te (dNE dn) := ⟨h.pe, re_new h.rn⟩
end
end DL

/-! ==== DL5 ==== -/
set_option Elab.async false
set_option linter.all false
set_option maxRecDepth 100000
set_option maxHeartbeats 4000000
namespace DL
open PySem PySem.Spec PyProof.Rows L2

/-! ## calls of the text's own defs -/
inductive ArgsR (K : PySem.W.Frag) (m : Am) (B : Hp) : List V → List OV → Prop
  | nil : ArgsR K m B [] []
  | d {v : V} {x : PyData} {vs : List V} {xs : List OV} : Rep K B v x → ArgsR K m B vs xs → ArgsR K m B (v :: vs) (.d x :: xs)
  | pot {p : Addr} {vs : List V} {xs : List OV} : m.P = some p → ArgsR K m B vs xs → ArgsR K m B (.ref p :: vs) (.pot :: xs)
def dsp (K : PySem.W.Frag) (R : DF) : Sp := fun vs H Q _ => ∃ (m : Am) (xs : List OV), m.H0 = H ∧ Base m H ∧ ArgsR K m (hid H m.S) vs xs ∧
  ∃ Pq : PyData → Prop, R xs Pq ∧ ∀ r, Pq r → ∀ H' v, Ext m.P H H' → PotOk m.P H' → Rep K (hid H' m.S) v r → Q v H'
theorem ArgsR.length {K : PySem.W.Frag} {m : Am} {B : Hp} : ∀ {vs : List V} {xs : List OV}, ArgsR K m B vs xs → vs.length = xs.length
  | _, _, .nil => rfl
  | _, _, .d _ h => congrArg (· + 1) h.length
  | _, _, .pot _ h => congrArg (· + 1) h.length
theorem ArgsR.ofVRs {K : PySem.W.Frag} {m : Am} {F T : List Addr} {H H0 : Hp} : ∀ {vs : List V} {xs : List OV}, VRs K m F T H vs xs → xs.all argOk = true → ArgsR K ⟨m.P, hS m (F ++ T), H0⟩ (Bh m (F ++ T) H) vs xs
  | _, _, .nil, _ => .nil
  | _, _, .cons (x := x) h t, ok => by
    rw [List.all_cons, Bool.and_eq_true] at ok
    cases x with
    | d y => exact .d h.rep (ArgsR.ofVRs t ok.2)
    | pot =>
      obtain ⟨fp, h1, _⟩ := h
      cases h1 with
      | pot hp => exact .pot hp (ArgsR.ofVRs t ok.2)
    | lst _ => exact nomatch ok.1
    | dic _ => exact nomatch ok.1
    | dct _ => exact nomatch ok.1
def dCall (R : DF) (da : DA) : DE := fun ρ Q => da ρ fun xs => xs.all argOk = true ∧ ∃ Pq : PyData → Prop, R xs Pq ∧ ∀ r, Pq r → Q (.d r)
section
variable {K : PySem.W.Frag} {m : Am} {σ : L2.St} {H H' : Hp} {ρ : DEnv} {F T : List Addr}
/-- what a callee sees -/
theorem ER.callee (er : ER K m σ H ρ F T) : Base ⟨m.P, hS m (F ++ T), H⟩ H := ⟨Ext.refl _ _, er.base.pot, fun p hp => by
    show (m.S p || decide (p ∈ F ++ T)) = true
    rw [er.base.potS p hp]
    rfl, fun a ha => by
    have ha' : (m.S a || decide (a ∈ F ++ T)) = true := ha
    rw [Bool.or_eq_true, decide_eq_true_eq] at ha'
    rcases ha' with z | z
    · have h1 := er.base.trk a z
      cases q : m.H0 a with
      | none => exact absurd q h1
      | some o =>
        by_cases hp : m.P = some a
        · obtain ⟨x, y, c, e, _⟩ := er.base.pot a hp
          show H a ≠ none
          rw [e]
          exact fun z => nomatch z
        · show H a ≠ none
          rw [er.base.ext a o hp q]
          exact fun z => nomatch z
    · exact (er.fresh a z).2⟩
theorem call_ok {K : PySem.W.Frag} {R : DF} {E : XK} {vs : List V} {xs : List OV} {Q : VK} {dQ : OV → Prop} {Pq : PyData → Prop} (er : ER K m σ H ρ F T) (vxs : VRs K m F T H vs xs) (ok : xs.all argOk = true) (h : R xs Pq) (hp : ∀ r, Pq r → dQ (.d r))
    (k : ∀ H' v x, Ext m.P H H' → ER K m σ H' ρ F T → VR K m F T H' v x → dQ x → Q v H') : dsp K R vs H Q E :=
  ⟨⟨m.P, hS m (F ++ T), H⟩, xs, rfl, er.callee, ArgsR.ofVRs vxs ok, Pq, h, fun r hr H2 v e2 po rp => k H2 v _ e2 (er.step e2 po) (.d rp) (hp r hr)⟩
theorem re_call {K : PySem.W.Frag} {R : DF} {ta : TA} {da : DA} {E : XK} (ha : RA K m ta da) : RE K m (tCall (dsp K R) [] E ta) (dCall R da) := ⟨fun {σ H ρ F T Q dQ} er hq k => ha.run er hq fun H1 vs xs e1 er1 vxs h1 => by
  rw [List.append_nil]
  obtain ⟨ok, Pq, h, hp⟩ := h1
  exact call_ok er1 vxs ok h hp fun H2 v x e2 er2 vx hx => k H2 v x (e1.trans e2) er2 vx hx⟩
end
section
variable {X : Cx} {m : Am} {a b c e : Expr} {es : List Expr} {pos p : Pos} {t ta tb tc te : TE} {da db dc de : DE} {tt tu : TT} {dt du : DT} {ua ub : TA} {va vb : DA}
theorem d_call {k : Nat} {f : Addr} {fd : FuncData} {ps : List Str} {R : DF} {x : Str} (G : FnG X.prog X.w X.K X.mg X.base CX0 k f fd ps (dsp X.K R)) (hr : Rm k X.A) (hg : Gl X x) (hm : X.mg x = some (.ref f)) (hk : PySem.W.keepIn X.K (.ref f) = true) (hb : Binds X.K fd ps [])
    (ha : DPA X m (e :: es) ua va) (hdb : (x == ("__debug__" : Str)) = false := by decide) (he : starEach (e :: es) X.env = (false, eval e X.env) :: starEach es X.env := by rfl) (hpl : (backTo pos (starEach es X.env)).any (·.1) = false := by rfl) :
    DPE X m (.Call (.Name x p) (e :: es) [] pos) (tCall (dsp X.K R) [] E0 ua) (dCall R va) := ⟨g_call G hr.room hr.gd hg hm hk hb .nil pass0 ha.pa hdb he hpl, re_call ha.ra⟩
theorem d_call0 {k : Nat} {f : Addr} {fd : FuncData} {ps : List Str} {R : DF} {x : Str} (G : FnG X.prog X.w X.K X.mg X.base CX0 k f fd ps (dsp X.K R)) (hr : Rm k X.A) (hg : Gl X x) (hm : X.mg x = some (.ref f)) (hk : PySem.W.keepIn X.K (.ref f) = true) (hb : Binds X.K fd ps [])
    (hdb : (x == ("__debug__" : Str)) = false := by decide) : DPE X m (.Call (.Name x p) [] [] pos) (tCall (dsp X.K R) [] E0 tNil) (dCall R dNil) := ⟨g_call0 G hr.room hr.gd hg hm hk hb .nil pass0 hdb, re_call (a_nil (X := X)).ra⟩
structure DPK (X : Cx) (m : Am) (kws : List Keyword) (t : TA) (da : DA) : Prop where
  pk : PK X kws t
  ra : RA X.K m t da
theorem k_nil : DPK X m [] tNil dNil := ⟨pk_nil, (a_nil (X := X)).ra⟩
theorem k_cons {kws : List Keyword} {nm} {kpos} (h : DPE X m e te de) (h' : DPK X m kws ua va) : DPK X m (⟨nm, e, kpos⟩ :: kws) (tCons te ua) (dCons de va) := ⟨pk_cons h.pe h'.pk, ⟨fun {σ H ρ F T Q dQ} er hq k =>
  h.re.run er hq fun H1 v x e1 er1 vx h1 => h'.ra.run er1 h1 fun H2 vs xs e2 er2 vxs h2 => k H2 (v :: vs) (x :: xs) (e1.trans e2) er2 (.cons (vx.step er1 e2) vxs) h2⟩⟩
/-- f(e, .., k = v, ..): n values by place, then those by name; π: which of them comes to each parameter -/
def dCallX (R : DF) (n l : Nat) (π : List Nat) (da dk : DA) : DE := fun ρ Q => da ρ fun xs => dk ρ fun ys => xs.length = n ∧ ys.length = l ∧ (permL π .pot (xs ++ ys)).all argOk = true ∧ ∃ Pq : PyData → Prop, R (permL π .pot (xs ++ ys)) Pq ∧ ∀ r, Pq r → Q (.d r)
theorem VRs.len {K : PySem.W.Frag} {F T : List Addr} {H : Hp} : ∀ {vs : List V} {xs : List OV}, VRs K m F T H vs xs → vs.length = xs.length
  | _, _, .nil => rfl
  | _, _, .cons _ h => congrArg (· + 1) h.len
theorem VRs.get {K : PySem.W.Frag} {F T : List Addr} {H : Hp} : ∀ (i : Nat) {vs : List V} {xs : List OV}, VRs K m F T H vs xs → i < vs.length → VR K m F T H ((vs[i]?).getD .non) ((xs[i]?).getD .pot)
  | _, _, _, .nil, h => absurd h (Nat.not_lt_zero _)
  | 0, _, _, .cons r _, _ => r
  | i + 1, _, _, .cons (vs := vs) (xs := xs) _ r, h => VRs.get i r (Nat.lt_of_succ_lt_succ (show i + 1 < vs.length + 1 from h))
theorem VRs.perm {K : PySem.W.Frag} {F T : List Addr} {H : Hp} {vs : List V} {xs : List OV} (r : VRs K m F T H vs xs) : ∀ π : List Nat, (∀ i ∈ π, i < vs.length) → VRs K m F T H (permL π .non vs) (permL π .pot xs)
  | [], _ => .nil
  | i :: π, h => VRs.cons (VRs.get i r (h i List.mem_cons_self)) (VRs.perm r π fun j hj => h j (List.mem_cons_of_mem _ hj))
theorem re_callX {K : PySem.W.Frag} {R : DF} {ta tk : TA} {da dk : DA} {E : XK} {n : Nat} {ks : List Str} {π : List Nat} (hπ : ∀ i ∈ π, i < n + ks.length) (ha : RA K m ta da) (hk : RA K m tk dk) : RE K m (tCallX n ks π (dsp K R) E ta tk) (dCallX R n ks.length π da dk) := ⟨fun {σ H ρ F T Q dQ} er hq k => ha.run er hq fun H1 vs xs e1 er1 vxs h1 => hk.run er1 h1 fun H2 zs ys e2 er2 vys h2 => by
  obtain ⟨l1, l2, ok, Pq, h, hp⟩ := h2
  have ra := (vxs.step er1 e2).append vys
  refine ⟨vxs.len.trans l1, vys.len.trans l2, call_ok er2 (ra.perm π fun i hi => ?_) ok h hp fun H3 v x e3 er3 vx hx => k H3 v x ((e1.trans e2).trans e3) er3 vx hx⟩
  rw [List.length_append, vxs.len, vys.len, l1, l2]
  exact hπ i hi⟩
theorem d_callX {k n : Nat} {f : Addr} {fd : FuncData} {ps ks : List Str} {π : List Nat} {R : DF} {x : Str} {kws : List Keyword} {uk : TA} {vk : DA} (G : FnG X.prog X.w X.K X.mg X.base CX0 k f fd ps (dsp X.K R)) (hr : Rm k X.A) (hg : Gl X x) (hm : X.mg x = some (.ref f)) (hk : PySem.W.keepIn X.K (.ref f) = true) (hb : KB X.K fd ps n ks π)
    (ha : DPA X m (e :: es) ua va) (hkw : DPK X m kws uk vk) (hπ : ∀ i ∈ π, i < n + ks.length := by decide) (hall : (backToKw pos (keywordEach kws X.env)).all (·.1.isSome) = true := by rfl) (hks : (backToKw pos (keywordEach kws X.env)).filterMap (·.1) = ks := by rfl)
    (hdb : (x == ("__debug__" : Str)) = false := by decide) (he : starEach (e :: es) X.env = (false, eval e X.env) :: starEach es X.env := by rfl)
    (hpl : ((backTo pos (starEach (e :: es) X.env)).any (·.1) || (backToKw pos (keywordEach kws X.env)).any (·.1.isNone)) = false := by rfl) :
    DPE X m (.Call (.Name x p) (e :: es) kws pos) (tCallX n ks π (dsp X.K R) E0 ua uk) (dCallX R n ks.length π va vk) := ⟨g_callX G hr.room hr.gd hg hm hk hb hπ pass0 ha.pa hkw.pk hall hks hdb he hpl, re_callX hπ ha.ra hkw.ra⟩
theorem d_callX0 {k : Nat} {f : Addr} {fd : FuncData} {ps ks : List Str} {π : List Nat} {R : DF} {x : Str} {kws : List Keyword} {uk : TA} {vk : DA} (G : FnG X.prog X.w X.K X.mg X.base CX0 k f fd ps (dsp X.K R)) (hr : Rm k X.A) (hg : Gl X x) (hm : X.mg x = some (.ref f)) (hk : PySem.W.keepIn X.K (.ref f) = true) (hb : KB X.K fd ps 0 ks π)
    (hkw : DPK X m kws uk vk) (hπ : ∀ i ∈ π, i < 0 + ks.length := by decide) (hall : (backToKw pos (keywordEach kws X.env)).all (·.1.isSome) = true := by rfl) (hks : (backToKw pos (keywordEach kws X.env)).filterMap (·.1) = ks := by rfl)
    (hdb : (x == ("__debug__" : Str)) = false := by decide) (hpl : ((backTo pos (starEach [] X.env)).any (·.1) || (backToKw pos (keywordEach kws X.env)).any (·.1.isNone)) = false := by rfl) :
    DPE X m (.Call (.Name x p) [] kws pos) (tCallX 0 ks π (dsp X.K R) E0 tNil uk) (dCallX R 0 ks.length π dNil vk) := ⟨g_callX0 G hr.room hr.gd hg hm hk hb hπ pass0 hkw.pk hall hks hdb hpl, re_callX hπ (a_nil (X := X)).ra hkw.ra⟩
end

/-! ## statements -/
abbrev Fz (m : Am) (F : List Addr) (H : Hp) (F' : List Addr) (H' : Hp) : Prop := Ex (Bh m (F ++ []) H) (Bh m (F' ++ []) H')
structure EndsOk (K : PySem.W.Frag) (m : Am) (F : List Addr) (H : Hp) (D : Ends) (dD : DEnds) : Prop where
  nx : ∀ σ' H' ρ' F', ER K m σ' H' ρ' F' [] → Fz m F H F' H' → dD.nx ρ' → D.nx σ' H'
  bk : ∀ σ' H' ρ' F', ER K m σ' H' ρ' F' [] → Fz m F H F' H' → dD.bk ρ' → D.bk σ' H'
  ct : ∀ σ' H' ρ' F', ER K m σ' H' ρ' F' [] → Fz m F H F' H' → dD.ct ρ' → D.ct σ' H'
  rt : ∀ H' v r, Base m H' → Rep K (hid H' m.S) v r → dD.rt r → D.rt v H'
theorem EndsOk.on {K : PySem.W.Frag} {m : Am} {F F' : List Addr} {H H' : Hp} {D : Ends} {dD : DEnds} (o : EndsOk K m F H D dD) (z : Fz m F H F' H') : EndsOk K m F' H' D dD :=
  ⟨fun σ' H2 ρ' F2 er y h => o.nx σ' H2 ρ' F2 er (Ex.trans z y) h, fun σ' H2 ρ' F2 er y h => o.bk σ' H2 ρ' F2 er (Ex.trans z y) h, fun σ' H2 ρ' F2 er y h => o.ct σ' H2 ρ' F2 er (Ex.trans z y) h, o.rt⟩
structure RS (K : PySem.W.Frag) (m : Am) (t : TS) (ds : DS) : Prop where
  run : ∀ {σ : L2.St} {H : Hp} {ρ : DEnv} {F : List Addr} {D : Ends} {dD : DEnds}, ER K m σ H ρ F [] → ds dD ρ → EndsOk K m F H D dD → t D σ H
structure DPS (X : Cx) (m : Am) (st : Stmt) (t : TS) (ds : DS) : Prop where
  ps : PS X st t
  rs : RS X.K m t ds
structure DPSs (X : Cx) (m : Am) (st : List Stmt) (t : TS) (ds : DS) : Prop where
  ps : PSs X st t
  rs : RS X.K m t ds
section
variable {X : Cx} {m : Am} {a b c e : Expr} {es : List Expr} {pos p : Pos} {t u : TS} {ds du : DS} {te : TE} {de : DE} {tt : TT} {dt : DT} {st : Stmt} {rest sts : List Stmt} {dn : DN}
def dNext : DS := fun D ρ => D.nx ρ
def dSeq (ds du : DS) : DS := fun D ρ => ds { D with nx := fun ρ' => du D ρ' } ρ
theorem ss_nil : DPSs X m [] tNext dNext := ⟨pss_nil, ⟨fun {σ H ρ F D dD} er h o => o.nx σ H ρ F er (Ex.refl _) h⟩⟩
theorem ss_one (h : DPS X m st t ds) : DPSs X m [st] t ds := ⟨pss_one h.ps, h.rs⟩
theorem ss_cons (h : DPS X m st t ds) (h' : DPSs X m rest u du) : DPSs X m (st :: rest) (tSeq t u) (dSeq ds du) := ⟨pss_cons h.ps h'.ps, ⟨fun {σ H ρ F D dD} er hq o =>
  h.rs.run (D := { D with nx := u D }) (dD := { dD with nx := fun ρ' => du dD ρ' }) er hq ⟨fun σ' H' ρ' F' er' z hn => h'.rs.run er' hn (o.on z), o.bk, o.ct, o.rt⟩⟩⟩
theorem s_pass : DPS X m (.Pass pos) tNext dNext := ⟨ps_pass, ss_nil.rs⟩
theorem s_doc {x j pos pos'} : DPS X m (.Expr (.Constant (.str x) j pos) pos') tNext dNext := ⟨ps_doc, ss_nil.rs⟩
def dBreak : DS := fun D ρ => D.bk ρ
def dCont : DS := fun D ρ => D.ct ρ
theorem s_break : DPS X m (.Break pos) tBreak dBreak := ⟨ps_break, ⟨fun {σ H ρ F D dD} er h o => o.bk σ H ρ F er (Ex.refl _) h⟩⟩
theorem s_cont : DPS X m (.Continue pos) tCont dCont := ⟨ps_continue, ⟨fun {σ H ρ F D dD} er h o => o.ct σ H ρ F er (Ex.refl _) h⟩⟩
def dNever : DS := fun _ _ => False
theorem s_never : DPS X m st tNever dNever := ⟨ps_never, ⟨fun {σ H ρ F D dD} er h o => h.elim⟩⟩
theorem ss_never : DPSs X m sts tNever dNever := ⟨pss_never, ⟨fun {σ H ρ F D dD} er h o => h.elim⟩⟩
theorem Fz.of {F : List Addr} {H H' : Hp} (hb : Base m H) (e : Ext m.P H H') : Fz m F H F H' := Bh.ex hb e
def dRet (de : DE) : DS := fun D ρ => de ρ fun x => okv x = true ∧ D.rt (vw x)
theorem s_ret (h : DPE X m e te de) : DPS X m (.Return (some e) pos) (tRet te) (dRet de) := ⟨ps_ret h.pe, ⟨fun {σ H ρ F D dD} er hq o => h.re.run er hq fun H' v x e1 er1 vx hx => o.rt H' v _ er1.base (vx.out er1 hx.1) hx.2⟩⟩
def dRetN : DS := fun D _ => D.rt .none
theorem s_retN : DPS X m (.Return none pos) tRetN dRetN := ⟨ps_retN, ⟨fun {σ H ρ F D dD} er hq o => o.rt H .non _ er.base .non hq⟩⟩
def dIfS (dt : DT) (ds du : DS) : DS := fun D ρ => dt ρ fun b => if b = true then ds D ρ else du D ρ
theorem s_if {c : Expr} {sa sb : List Stmt} (hc : DPT X m c tt dt) (ha : DPSs X m sa t ds) (hb : DPSs X m sb u du) : DPS X m (.If c sa sb pos) (tIfS tt t u) (dIfS dt ds du) := ⟨ps_if hc.pt ha.ps hb.ps, ⟨fun {σ H ρ F D dD} er hq o => hc.rt.run er hq fun H' b e1 er1 hb' => by
  have o' := o.on (F' := F) (H' := H') (Bh.ex er.base e1)
  cases b with
  | true => exact ha.rs.run er1 hb' o'
  | false => exact hb.rs.run er1 hb' o'⟩⟩
/-- a call whose value is dropped -/
def dDrop (de : DE) : DS := fun D ρ => de ρ fun _ => D.nx ρ
theorem s_expr (h : DPE X m e te de) (hs : swapsWith e none pos.line X.env = pure false := by rfl) : DPS X m (.Expr e pos) (tDrop te) (dDrop de) := ⟨ps_expr h.pe hs, ⟨fun {σ H ρ F D dD} er hq o => h.re.run er hq fun H' v x e1 er1 vx hx => o.nx σ H' ρ F er1 (Bh.ex er.base e1) hx⟩⟩

/-! ### x = e -/
theorem ER.setD {K : PySem.W.Frag} {σ : L2.St} {H : Hp} {ρ : DEnv} {F T : List Addr} (er : ER K m σ H ρ F T) {v : V} {x : OV} {fp : List Addr} (i : Nat) (o : Own K m (Bh m (F ++ T) H) H v x fp) (hfp : ∀ a ∈ fp, a ∈ T) (hn : fp.Nodup) :
    ∃ F', ER K m (σ.set i (some v)) H (ρ.set i (some x)) F' [] ∧ ∀ a ∈ F', a ∈ F ++ T := by
  obtain ⟨F', h1, h2, h3⟩ := er.slots.set o i
  have hsub : ∀ a ∈ F', a ∈ F ++ T := fun a ha => by
    rcases List.mem_append.mp (h2 a ha) with z | z
    · exact List.mem_append_left _ z
    · exact List.mem_append_right _ (hfp a z)
  have nd : (F ++ fp).Nodup := by
    have h := er.nd
    rw [List.nodup_append] at h ⊢
    exact ⟨h.1, hn, fun a ha b hb => h.2.2 a ha b (hfp b hb)⟩
  refine ⟨F', ⟨er.base, h1.same (Bh.sub fun a ha => ?_) fun _ _ => rfl, ?_, fun a ha => ?_⟩, hsub⟩
  · rw [List.append_nil] at ha
    exact hsub a ha
  · rw [List.append_nil]
    exact h3 nd
  · rw [List.append_nil] at ha
    exact er.fresh a (hsub a ha)
theorem Fz.sub {F F' T : List Addr} {H : Hp} (h : ∀ a ∈ F', a ∈ F ++ T) : Ex (Bh m (F ++ T) H) (Bh m (F' ++ []) H) := Bh.sub fun a ha => by
  rw [List.append_nil] at ha
  exact h a ha
/-- behind an assignment of a plain thing -/
theorem ER.put {K : PySem.W.Frag} {σ : L2.St} {H : Hp} {ρ : DEnv} {F : List Addr} (er : ER K m σ H ρ F []) {v : V} {x : OV} (i : Nat) (ok : argOk x = true) (vx : VR K m F [] H v x) :
    ∃ F', ER K m (σ.set i (some v)) H (ρ.set i (some x)) F' [] ∧ Fz m F H F' H := by
  obtain ⟨fp, o, hfp⟩ := vx
  have e : fp = [] := by
    cases o with
    | d _ => rfl
    | pot _ => rfl
    | lst _ _ => exact nomatch ok
    | dic _ _ => exact nomatch ok
    | dct _ _ => exact nomatch ok
  subst e
  obtain ⟨F', h1, h2⟩ := er.setD i o (fun a z => nomatch z) List.nodup_nil
  exact ⟨F', h1, Fz.sub h2⟩
def dSet (i : Nat) (de : DE) : DS := fun D ρ => de ρ fun x => argOk x = true ∧ D.nx (ρ.set i (some x))
theorem rs_set {K : PySem.W.Frag} {i : Nat} (h : RE K m te de) : RS K m (tAsg te (gName i)) (dSet i de) := ⟨fun {σ H ρ F D dD} er hq o => h.run er hq fun H' v x e1 er1 vx hx => by
  obtain ⟨F', er2, z⟩ := er1.put i hx.1 vx
  exact o.nx _ H' _ F' er2 (Ex.trans (Bh.ex er.base e1) z) hx.2⟩
theorem s_set {i : Nat} {x : Str} {pos' : Pos} (hN : X.N.Nodup) (h : DPE X m e te de) (hi : X.N[i]? = some x := by rfl) (hx : Loc X.env.scope x := by first | exact Or.inl rfl | exact Or.inr rfl) (hs : swapsWith e (some (.Name x pos')) pos.line X.env = pure false := by rfl)
    (hf : X.fn x = true ∨ X.env.scope.names.lookup x = some .local := by first | exact .inl rfl | exact .inr rfl | assumption) : DPS X m (.Assign [.Name x pos'] e pos) (tAsg te (gName i)) (dSet i de) := ⟨ps_set hN hi hx h.pe hs hf, rs_set h.re⟩
/-- x = a new list, x's own -/
def dSetN (i : Nat) (dn : DN) : DS := fun D ρ => dn ρ fun xs => D.nx (ρ.set i (some (.lst xs)))
theorem rs_setN {K : PySem.W.Frag} {i : Nat} (h : RN K m te dn) : RS K m (tAsg te (gName i)) (dSetN i dn) := ⟨fun {σ H ρ F D dD} er hq o => h.run er hq fun H' v xs fp e1 hf er1 ow hx => by
  have nd : fp.Nodup := by
    have h := er1.nd
    rw [List.nodup_append] at h
    exact h.2.1
  obtain ⟨F', er2, z⟩ := er1.setD i ow (fun a ha => ha) nd
  refine o.nx _ H' _ F' er2 (Bh.go er.base e1 fun a ha => ?_) hx
  rw [List.append_nil] at ha
  rcases List.mem_append.mp (z a ha) with z | z
  · exact .inl (List.mem_append_left _ z)
  · exact .inr (hf a z)⟩
theorem s_setN {i : Nat} {x : Str} {pos' : Pos} (hN : X.N.Nodup) (h : DPN X m e te dn) (hi : X.N[i]? = some x := by rfl) (hx : Loc X.env.scope x := by first | exact Or.inl rfl | exact Or.inr rfl) (hs : swapsWith e (some (.Name x pos')) pos.line X.env = pure false := by rfl)
    (hf : X.fn x = true ∨ X.env.scope.names.lookup x = some .local := by first | exact .inl rfl | exact .inr rfl | assumption) : DPS X m (.Assign [.Name x pos'] e pos) (tAsg te (gName i)) (dSetN i dn) := ⟨ps_set hN hi hx h.pe hs hf, rs_setN h.rn⟩
/-- a, b = e1, e2 -/
def dPar (i j : Nat) (da : DA) : DS := fun D ρ => da ρ fun xs => match xs with
  | [x, y] => argOk x = true ∧ argOk y = true ∧ D.nx ((ρ.set i (some x)).set j (some y))
  | _ => False
def dPar3 (i j l : Nat) (da : DA) : DS := fun D ρ => da ρ fun xs => match xs with
  | [x, y, z] => argOk x = true ∧ argOk y = true ∧ argOk z = true ∧ D.nx (((ρ.set i (some x)).set j (some y)).set l (some z))
  | _ => False
theorem VR.fz {K : PySem.W.Frag} {F F' : List Addr} {H H' : Hp} {v : V} {x : OV} (z : Ex (Bh m (F ++ []) H) (Bh m (F' ++ []) H')) (ok : argOk x = true) (h : VR K m F [] H v x) : VR K m F' [] H' v x := by
  obtain ⟨fp, o, hfp⟩ := h
  cases o with
  | d r => exact .d (Rep.mono z _ _ r)
  | pot hp => exact ⟨[], .pot hp, fun a z => nomatch z⟩
  | lst _ _ => exact nomatch ok
  | dic _ _ => exact nomatch ok
  | dct _ _ => exact nomatch ok
variable {ua : TA} {va : DA}
theorem s_par {i j : Nat} {x y : Str} {a b : Expr} {px py pt : Pos} {kt k2 pt2} (hc : X.calm = true) (hN : X.N.Nodup) (hij : i ≠ j) (ha : DPA X m [a, b] ua va)
    (hw : swappedStores [.Tuple [.Name x px, .Name y py] kt pt] (.Tuple [a, b] k2 pt2) X.env = pure (some [x, y]) := by rfl) (hi : X.N[i]? = some x := by rfl) (hj : X.N[j]? = some y := by rfl)
    (hx : X.env.scope.names.lookup x = some .local := by rfl) (hy : X.env.scope.names.lookup y = some .local := by rfl)
    (hs : swapsWithSole [.Tuple [.Name x px, .Name y py] kt pt] (.Tuple [a, b] k2 pt2) pos.line X.env = pure false := by rfl) :
    DPS X m (.Assign [.Tuple [.Name x px, .Name y py] kt pt] (.Tuple [a, b] k2 pt2) pos) (tPar i j ua) (dPar i j va) := ⟨ps_par hc hN hi hj hij hx hy ha.pa hw hs, ⟨fun {σ H ρ F D dD} er hq o => ha.ra.run er hq fun H' vs xs e1 er1 vxs hx => by
  split at hx
  · obtain ⟨o1, o2, hx⟩ := hx
    cases vxs with
    | cons v1 vxs =>
      cases vxs with
      | cons v2 vxs =>
        cases vxs
        obtain ⟨F1, er2, z1⟩ := er1.put i o1 v1
        obtain ⟨F2, er3, z2⟩ := er2.put j o2 (v2.fz z1 o2)
        exact ⟨_, _, rfl, o.nx _ H' _ F2 er3 (Ex.trans (Bh.ex er.base e1) (Ex.trans z1 z2)) hx⟩
  · exact hx.elim⟩⟩
theorem s_par3 {i j l : Nat} {x y z : Str} {a b c : Expr} {px py pz pt : Pos} {kt k2 pt2} (hc : X.calm = true) (hN : X.N.Nodup) (hij : i ≠ j) (hil : i ≠ l) (hjl : j ≠ l) (ha : DPA X m [a, b, c] ua va)
    (hw : swappedStores [.Tuple [.Name x px, .Name y py, .Name z pz] kt pt] (.Tuple [a, b, c] k2 pt2) X.env = pure (some [x, y, z]) := by rfl) (hi : X.N[i]? = some x := by rfl) (hj : X.N[j]? = some y := by rfl) (hl : X.N[l]? = some z := by rfl)
    (hx : X.env.scope.names.lookup x = some .local := by rfl) (hy : X.env.scope.names.lookup y = some .local := by rfl) (hz : X.env.scope.names.lookup z = some .local := by rfl)
    (hs : swapsWithSole [.Tuple [.Name x px, .Name y py, .Name z pz] kt pt] (.Tuple [a, b, c] k2 pt2) pos.line X.env = pure false := by rfl) :
    DPS X m (.Assign [.Tuple [.Name x px, .Name y py, .Name z pz] kt pt] (.Tuple [a, b, c] k2 pt2) pos) (tPar3 i j l ua) (dPar3 i j l va) := ⟨ps_par3 hc hN hi hj hl hij hil hjl hx hy hz ha.pa hw hs, ⟨fun {σ H ρ F D dD} er hq o => ha.ra.run er hq fun H' vs xs e1 er1 vxs hx => by
  split at hx
  · obtain ⟨o1, o2, o3, hx⟩ := hx
    cases vxs with
    | cons v1 vxs =>
      cases vxs with
      | cons v2 vxs =>
        cases vxs with
        | cons v3 vxs =>
          cases vxs
          obtain ⟨F1, er2, z1⟩ := er1.put i o1 v1
          obtain ⟨F2, er3, z2⟩ := er2.put j o2 (v2.fz z1 o2)
          obtain ⟨F3, er4, z3⟩ := er3.put l o3 (v3.fz (Ex.trans z1 z2) o3)
          exact ⟨_, _, _, rfl, o.nx _ H' _ F3 er4 (Ex.trans (Bh.ex er.base e1) (Ex.trans z1 (Ex.trans z2 z3))) hx⟩
  · exact hx.elim⟩⟩

/-! ### targets: a name, some names -/
/-- a target: js are the slots that it may write -/
structure RG (K : PySem.W.Frag) (m : Am) (g : TG) (dg : DG) (js : List Nat) : Prop where
  run : ∀ {σ : L2.St} {H : Hp} {ρ : DEnv} {F T : List Addr} {v : V} {x : PyData} {Q : L2.St → Hp → Prop} {dQ : DEnv → Prop}, ER K m σ H ρ F T → Rep K (Bh m (F ++ T) H) v x → dg x ρ dQ →
    (∀ σ' ρ' F' T', ER K m σ' H ρ' F' T' → List.Perm (F' ++ T') (F ++ T) → (∀ vs : List Nat, (∀ j ∈ js, j ∈ vs) → L2.wipe σ' vs = L2.wipe σ vs) → dQ ρ' → Q σ' H) → g v σ H Q
structure DPG (X : Cx) (m : Am) (tg : Expr) (g : TG) (dg : DG) (js : List Nat) : Prop where
  pg : PG X tg g
  rg : RG X.K m g dg js
def dgName (i : Nat) : DG := fun x ρ Q => Q (ρ.set i (some (.d x)))
theorem wipe_set (σ : L2.St) (i : Nat) (s : Option V) : ∀ vs : List Nat, i ∈ vs → L2.wipe (σ.set i s) vs = L2.wipe σ vs
  | [], h => nomatch h
  | v :: vs, h => by
    show (L2.wipe (σ.set i s) vs).set v none = (L2.wipe σ vs).set v none
    by_cases hi : i ∈ vs
    · rw [wipe_set σ i s vs hi]
    · have hv : i = v := by
        rcases List.mem_cons.mp h with z | z
        · exact z
        · exact absurd z hi
      subst hv
      have : L2.wipe (σ.set i s) vs = (L2.wipe σ vs).set i s := by
        clear h
        induction vs with
        | nil => rfl
        | cons w ws ih =>
          show (L2.wipe (σ.set i s) ws).set w none = ((L2.wipe σ ws).set w none).set i s
          rw [ih (fun z => hi (List.mem_cons_of_mem _ z)), List.set_comm _ _ (fun z => hi (by rw [z]; exact List.mem_cons_self))]
      rw [this, List.set_set]
theorem Slots.setP {K : PySem.W.Frag} {B H : Hp} {v : V} {x : PyData} (r : Rep K B v x) : ∀ {σ : L2.St} {ρ : DEnv} {F : List Addr} (i : Nat), Slots K m B H σ ρ F → ∃ F' Fd, Slots K m B H (σ.set i (some v)) (ρ.set i (some (.d x))) F' ∧ List.Perm (F' ++ Fd) F
  | _, _, _, _, .nil => ⟨[], [], .nil, .refl _⟩
  | _, _, _, 0, .un s => ⟨_, [], Slots.val (fp := []) (.d r) s, by rw [List.append_nil]; exact .refl _⟩
  | _, _, _, i + 1, .un s => by
    obtain ⟨F', Fd, h1, h2⟩ := Slots.setP r i s
    exact ⟨F', Fd, .un h1, h2⟩
  | _, _, _, 0, .val (fp := f0) (fq := f1) o' s => ⟨_, f0, Slots.val (fp := []) (.d r) s, List.perm_append_comm⟩
  | _, _, _, i + 1, .val (fp := f0) (fq := f1) o' s => by
    obtain ⟨F', Fd, h1, h2⟩ := Slots.setP r i s
    exact ⟨_, Fd, .val o' h1, by rw [List.append_assoc]; exact h2.append_left f0⟩
theorem ER.setP {K : PySem.W.Frag} {σ : L2.St} {H : Hp} {ρ : DEnv} {F T : List Addr} (er : ER K m σ H ρ F T) {v : V} {x : PyData} (i : Nat) (r : Rep K (Bh m (F ++ T) H) v x) :
    ∃ F' T', ER K m (σ.set i (some v)) H (ρ.set i (some (.d x))) F' T' ∧ List.Perm (F' ++ T') (F ++ T) := by
  obtain ⟨F', Fd, h1, h2⟩ := er.slots.setP r i
  have p : List.Perm (F' ++ (Fd ++ T)) (F ++ T) := by
    rw [← List.append_assoc]
    exact h2.append_right T
  exact ⟨F', Fd ++ T, er.perm h1 p, p⟩
theorem rg_name {K : PySem.W.Frag} (i : Nat) : RG K m (gName i) (dgName i) [i] := ⟨fun {σ H ρ F T v x Q dQ} er r hq k => by
  obtain ⟨F', T', er1, h⟩ := er.setP i r
  exact k _ _ F' T' er1 h (fun vs hj => wipe_set σ i _ vs (hj i List.mem_cons_self)) hq⟩
theorem g_name {i : Nat} {x : Str} (hN : X.N.Nodup) (hi : X.N[i]? = some x := by rfl) (hx : Loc X.env.scope x := by first | exact Or.inl rfl | exact Or.inr rfl) (hf : X.fn x = true ∨ X.env.scope.names.lookup x = some .local := by first | exact .inl rfl | exact .inr rfl | assumption) :
    DPG X m (.Name x pos) (gName i) (dgName i) [i] := ⟨pg_name hN hi hx hf, rg_name i⟩
abbrev DGs := List PyData → DEnv → (DEnv → Prop) → Prop
structure RGs (K : PySem.W.Frag) (m : Am) (g : TGs) (dg : DGs) (js : List Nat) : Prop where
  run : ∀ {σ : L2.St} {H : Hp} {ρ : DEnv} {F T : List Addr} {vs : List V} {xs : List PyData} {Q : L2.St → Hp → Prop} {dQ : DEnv → Prop}, ER K m σ H ρ F T → RepAll K (Bh m (F ++ T) H) vs xs → dg xs ρ dQ →
    (∀ σ' ρ' F' T', ER K m σ' H ρ' F' T' → List.Perm (F' ++ T') (F ++ T) → (∀ vs : List Nat, (∀ j ∈ js, j ∈ vs) → L2.wipe σ' vs = L2.wipe σ vs) → dQ ρ' → Q σ' H) → g vs σ H Q
structure DPGs (X : Cx) (m : Am) (ts : List Expr) (g : TGs) (dg : DGs) (js : List Nat) : Prop where
  pg : PGs X ts g
  rg : RGs X.K m g dg js
def dgNil : DGs := fun xs ρ Q => match xs with
  | [] => Q ρ
  | _ => False
def dgCons (g : DG) (gs : DGs) : DGs := fun xs ρ Q => match xs with
  | x :: r => g x ρ fun ρ' => gs r ρ' Q
  | [] => False
theorem gs_nil : DPGs X m [] gNil dgNil [] := ⟨pgs_nil, ⟨fun {σ H ρ F T vs xs Q dQ} er r hq k => by
  unfold dgNil at hq
  split at hq
  · cases r
    exact ⟨rfl, k σ ρ F T er (.refl _) (fun _ _ => rfl) hq⟩
  · exact hq.elim⟩⟩
theorem gs_cons {ts : List Expr} {g : TG} {gs : TGs} {dg : DG} {dgs : DGs} {js js' : List Nat} (h : DPG X m e g dg js) (h' : DPGs X m ts gs dgs js') (hs : (assignEach (e :: ts) X.env).map (·.2) = assign e X.env :: (assignEach ts X.env).map (·.2) := by rfl) : DPGs X m (e :: ts) (gCons g gs) (dgCons dg dgs) (js ++ js') := ⟨pgs_cons h.pg h'.pg hs, ⟨fun {σ H ρ F T vs xs Q dQ} er r hq k => by
  unfold dgCons at hq
  split at hq
  · cases r with
    | cons r1 r2 =>
      refine ⟨_, _, rfl, h.rg.run er r1 hq fun σ1 ρ1 F1 T1 er1 s1 w1 h1 => ?_⟩
      exact h'.rg.run er1 (RepAll.mono (Bh.perm s1.symm) _ _ r2) h1 fun σ2 ρ2 F2 T2 er2 s2 w2 h2 => k σ2 ρ2 F2 T2 er2 (s2.trans s1) (fun vs hj => (w2 vs fun j hj' => hj j (List.mem_append_right _ hj')).trans (w1 vs fun j hj' => hj j (List.mem_append_left _ hj'))) h2
  · exact hq.elim⟩⟩
/-- (a, b, ..) = a tuple, a list of that length -/
def dgTup (gs : DGs) : DG := fun x ρ Q => match x with
  | .tuple xs => gs xs ρ Q
  | _ => False
def dgUnl (gs : DGs) : DG := fun x ρ Q => match x with
  | .list xs => gs xs ρ Q
  | _ => False
variable {ts : List Expr} {gs : TGs} {dgs : DGs} {js : List Nat}
theorem RGs.len {K : PySem.W.Frag} : True := trivial
theorem g_tup {k n : Nat} (hc : X.calm = true) (h : DPGs X m ts gs dgs js) (hlen : ∀ xs ρ Q, dgs xs ρ Q → xs.length = n) (hn : (assignEach ts X.env).length = n := by rfl) (hst : (assignEach ts X.env).findIdx? (·.1) = none := by rfl) :
    DPG X m (.Tuple ts k pos) (gTup X.K n gs) (dgTup dgs) js := ⟨pg_tup hc h.pg hn hst, ⟨fun {σ H ρ F T v x Q dQ} er r hq kk => by
  unfold dgTup at hq
  split at hq
  · cases r with
    | tup hp ha => exact ⟨_, _, rfl, Ex.ofBh.stt hp, by rw [ha.length]; exact hlen _ _ _ hq, h.rg.run er ha hq kk⟩
  · exact hq.elim⟩⟩
theorem g_unl {k n : Nat} (hc : X.calm = true) (h : DPGs X m ts gs dgs js) (hlen : ∀ xs ρ Q, dgs xs ρ Q → xs.length = n) (hn : (assignEach ts X.env).length = n := by rfl) (hst : (assignEach ts X.env).findIdx? (·.1) = none := by rfl) :
    DPG X m (.Tuple ts k pos) (gUnl X.K n gs) (dgUnl dgs) js := ⟨pg_unl hc h.pg hn hst, ⟨fun {σ H ρ F T v x Q dQ} er r hq kk => by
  unfold dgUnl at hq
  split at hq
  · cases r with
    | lst hp ha => exact ⟨_, _, rfl, SqL.of (hid_some.mp hp).2, by rw [ha.length]; exact hlen _ _ _ hq, h.rg.run er ha hq kk⟩
  · exact hq.elim⟩⟩
/-- (a, b, ..) = an expression's value -/
def dAsgG (de : DE) (dg : DG) : DS := fun D ρ => de ρ fun x => match x with
  | .d y => dg y ρ D.nx
  | _ => False
theorem rs_asgG {K : PySem.W.Frag} {g : TG} {dg : DG} (h : RE K m te de) (hg : RG K m g dg js) : RS K m (tAsg te g) (dAsgG de dg) := ⟨fun {σ H ρ F D dD} er hq o => h.run er hq fun H' v x e1 er1 vx hx => by
  split at hx
  · exact hg.run er1 vx.rep hx fun σ' ρ' F' T' er' s _ hn => o.nx σ' H' ρ' F' (er'.free (List.nil_sublist _)) (Ex.trans (Bh.ex er.base e1) (Bh.sub fun a ha => by
      rw [List.append_nil] at ha
      exact s.mem_iff.mp (List.mem_append_left _ ha))) hn
  · exact hx.elim⟩
theorem s_asgG {tg : Expr} {g : TG} {dg : DG} (h : DPE X m e te de) (hg : DPG X m tg g dg js) (hs : swapsWithSole [tg] e pos.line X.env = pure false := by rfl) (hw : swappedStores [tg] e X.env = pure none := by rfl)
    (h1 : (assignEach [tg] X.env).map (·.2) = [assign tg X.env] := by rfl) : DPS X m (.Assign [tg] e pos) (tAsg te g) (dAsgG de dg) := ⟨ps_asg h.pe hg.pg hs hw h1, rs_asgG h.re hg.rg⟩
end
end DL

/-! ==== DL6 ==== -/
set_option Elab.async false
set_option linter.all false
set_option maxRecDepth 100000
set_option maxHeartbeats 4000000
namespace DL
open PySem PySem.Spec PyProof.Rows L2

section
variable {X : Cx} {m : Am} {a b c e : Expr} {es : List Expr} {pos p : Pos} {t u : TS} {ds du : DS} {te ti to : TE} {de di dO : DE} {tt : TT} {dt : DT} {st : Stmt} {rest sts : List Stmt} {dn : DN}

/-! ### own lists change -/
/-- a slot's own value, taken out -/
theorem Slots.mod {K : PySem.W.Frag} {B H : Hp} : ∀ {σ : L2.St} {ρ : DEnv} {F : List Addr} {i : Nat} {x : OV}, Slots K m B H σ ρ F → ρ[i]? = some (some x) →
    ∃ v F1 fp F2, F = F1 ++ (fp ++ F2) ∧ σ[i]? = some (some v) ∧ Own K m B H v x fp ∧ ∀ (B' H' : Hp) (x' : OV) (fp' : List Addr), Ex B B' → (∀ a, a ∈ F1 ∨ a ∈ F2 → H' a = H a) → Own K m B' H' v x' fp' → Slots K m B' H' σ (ρ.set i (some x')) (F1 ++ (fp' ++ F2))
  | _, _, _, _, _, .nil, h => by simp at h
  | _, _, _, 0, _, .un _, h => by simp at h
  | _, _, _, i + 1, x, .un s, h => by
    obtain ⟨v, F1, fp, F2, e1, e2, o, k⟩ := Slots.mod (i := i) s (by simpa using h)
    exact ⟨v, F1, fp, F2, e1, by simpa using e2, o, fun B' H' x' fp' e q o' => .un (k B' H' x' fp' e q o')⟩
  | _, _, _, 0, _, .val (fp := f0) (fq := f1) o s, h => by
    simp at h
    subst h
    refine ⟨_, [], f0, f1, rfl, rfl, o, fun B' H' x' fp' e q o' => ?_⟩
    show Slots K m B' H' _ (some x' :: _) (fp' ++ f1)
    exact .val o' (s.same e fun a ha => q a (.inr ha))
  | _, _, _, i + 1, x, .val (fp := f0) (fq := f1) o s, h => by
    obtain ⟨v, F1, fp, F2, e1, e2, o', k⟩ := Slots.mod (i := i) s (by simpa using h)
    refine ⟨v, f0 ++ F1, fp, F2, by rw [e1, List.append_assoc], by simpa using e2, o', fun B' H' x' fp' e q o'' => ?_⟩
    rw [List.append_assoc]
    exact .val (Own.same e _ _ _ (fun a ha => q a (.inl (List.mem_append_left _ ha))) o) (k B' H' x' fp' e (fun a ha => q a (ha.elim (fun z => .inl (List.mem_append_right _ z)) .inr)) o'')
theorem nodup_mid {A B C D : List Addr} (h : (A ++ (B ++ C)).Nodup) (hd : D.Nodup) (hs : ∀ a ∈ D, a ∈ B ∨ (a ∉ A ∧ a ∉ C)) : (A ++ (D ++ C)).Nodup := by
  rw [List.nodup_append] at h ⊢
  obtain ⟨h1, h2, h3⟩ := h
  rw [List.nodup_append] at h2
  refine ⟨h1, ?_, fun a ha b hb => ?_⟩
  · rw [List.nodup_append]
    refine ⟨hd, h2.2.1, fun a ha b hb e => ?_⟩
    rcases hs a ha with z | z
    · exact h2.2.2 a z b hb e
    · exact z.2 (by rw [e]; exact hb)
  · intro e
    rcases List.mem_append.mp hb with z | z
    · rcases hs b z with y | y
      · exact h3 a ha b (List.mem_append_left _ y) e
      · exact y.1 (by rw [← e]; exact ha)
    · exact h3 a ha b (List.mem_append_right _ z) e
/-- the own value at slot i changes: at p, one of its objects; G: objects from values on the way that it takes -/
theorem ER.chg {K : PySem.W.Frag} {σ : L2.St} {H : Hp} {ρ : DEnv} {F T : List Addr} (er : ER K m σ H ρ F T) {i : Nat} {x : OV} (hx : ρ[i]? = some (some x)) :
    ∃ v fp, σ[i]? = some (some v) ∧ Own K m (Bh m (F ++ T) H) H v x fp ∧ (∀ a ∈ fp, a ∈ F) ∧ fp.Nodup ∧ ∀ (q : Addr) (o : HO) (x' : OV) (fp' : List Addr), q ∈ fp → (∀ a ∈ fp', a ∈ fp ∨ a ∈ T) → fp'.Nodup →
      (∀ B', Ex (Bh m (F ++ T) H) B' → Own K m B' (upd H q o) v x' fp') → ∃ F', ER K m σ (upd H q o) (ρ.set i (some x')) F' [] ∧ Ex (Bh m (F ++ T) H) (Bh m (F' ++ []) (upd H q o)) := by
  obtain ⟨v, F1, fp, F2, eF, e2, ow, k⟩ := er.slots.mod hx
  have hm : ∀ a ∈ fp, a ∈ F := fun a ha => by
    rw [eF]
    exact List.mem_append_right _ (List.mem_append_left _ ha)
  have ndF : F.Nodup := (List.nodup_append.mp er.nd).1
  have ndA : (F1 ++ (fp ++ F2)).Nodup := by rw [← eF]; exact ndF
  have ndfp : fp.Nodup := by
    rw [List.nodup_append] at ndA
    exact (List.nodup_append.mp ndA.2.1).1
  refine ⟨v, fp, e2, ow, hm, ndfp, fun q o x' fp' hq hfp nd hown => ?_⟩
  have qF : q ∈ F ++ T := List.mem_append_left _ (hm q hq)
  have qn : ∀ a, a ∈ F1 ∨ a ∈ F2 → a ≠ q := fun a ha z => by
    subst z
    rw [List.nodup_append] at ndA
    rcases ha with ha | ha
    · exact ndA.2.2 a ha a (List.mem_append_left _ hq) rfl
    · exact (List.nodup_append.mp ndA.2.1).2.2 a hq a ha rfl
  have qP : m.P ≠ some q := fun z => er.potF z qF
  have mem' : ∀ a ∈ F1 ++ (fp' ++ F2), a ∈ F ++ T := fun a ha => by
    rw [eF]
    rcases List.mem_append.mp ha with z | z
    · exact List.mem_append_left _ (List.mem_append_left _ z)
    · rcases List.mem_append.mp z with z | z
      · rcases hfp a z with y | y
        · exact List.mem_append_left _ (List.mem_append_right _ (List.mem_append_left _ y))
        · exact List.mem_append_right _ y
      · exact List.mem_append_left _ (List.mem_append_right _ (List.mem_append_right _ z))
  have hB : Ex (Bh m (F ++ T) H) (Bh m ((F1 ++ (fp' ++ F2)) ++ []) (upd H q o)) := Bh.chg (fun a ha => by
    rw [List.append_nil] at ha
    exact .inl (mem' a ha)) fun a ha _ => upd_ne fun z => ha (by rw [z]; exact qF)
  refine ⟨F1 ++ (fp' ++ F2), ⟨⟨fun a u n h => ?_, er.base.pot.ne qP, er.base.potS, er.base.trk⟩, ?_, ?_, fun a ha => ?_⟩, hB⟩
  · rw [upd_ne (ne_of_none h (er.fresh q qF).1)]
    exact er.base.ext a u n h
  · exact k _ _ x' fp' hB (fun a ha => upd_ne (qn a ha)) (hown _ hB)
  · rw [List.append_nil]
    refine nodup_mid ndA nd fun a ha => ?_
    rcases hfp a ha with y | y
    · exact .inl y
    · have dj := (List.nodup_append.mp er.nd).2.2
      exact .inr ⟨fun z => dj a (by rw [eF]; exact List.mem_append_left _ z) a y rfl, fun z => dj a (by rw [eF]; exact List.mem_append_right _ (List.mem_append_right _ z)) a y rfl⟩
  · rw [List.append_nil] at ha
    have hf := er.fresh a (mem' a ha)
    refine ⟨hf.1, ?_⟩
    by_cases haq : a = q
    · subst haq
      rw [upd_same]
      exact fun z => nomatch z
    · rw [upd_ne haq]
      exact hf.2
theorem OwnAll.app {K : PySem.W.Frag} {B H : Hp} : ∀ {vs us : List V} {xs ys : List OV} {fp fq : List Addr}, OwnAll K m B H vs xs fp → OwnAll K m B H us ys fq → OwnAll K m B H (vs ++ us) (xs ++ ys) (fp ++ fq)
  | _, _, _, _, _, _, .nil, s => s
  | _, _, _, _, _, _, .cons h t, s => by
    rw [List.append_assoc]
    exact .cons h (OwnAll.app t s)
theorem OwnAll.one {K : PySem.W.Frag} {B H : Hp} {v : V} {x : OV} {fp : List Addr} (h : Own K m B H v x fp) : OwnAll K m B H [v] [x] fp := by
  have := OwnAll.cons h (OwnAll.nil (K := K) (m := m) (B := B) (H := H))
  rw [List.append_nil] at this
  exact this
theorem Own.lst_inv {K : PySem.W.Frag} {B H : Hp} {v : V} {xs : List OV} {fp : List Addr} (h : Own K m B H v (.lst xs) fp) : ∃ p vs fq, v = .ref p ∧ fp = p :: fq ∧ H p = some (.lst vs) ∧ OwnAll K m B H vs xs fq := by
  cases h with
  | lst hp ha => exact ⟨_, _, _, rfl, rfl, hp, ha⟩
theorem Own.listTy {K : PySem.W.Frag} {B H : Hp} {v : V} {xs : List OV} {fp : List Addr} (h : Own K m B H v (.lst xs) fp) : tyV K "list" v H := by
  cases h with
  | lst hp _ => exact Or.inl ⟨rfl, _, SqL.of hp⟩
def getL (ρ : DEnv) (i : Nat) : Option (List OV) := match ρ[i]? with
  | some (some (.lst xs)) => some xs
  | _ => none
theorem getL_at {ρ : DEnv} {i : Nat} {xs : List OV} (h : getL ρ i = some xs) : ρ[i]? = some (some (.lst xs)) := by
  unfold getL at h
  split at h
  · cases h
    assumption
  · cases h
/-- x.append(e), a plain thing -/
def dApp (i : Nat) (de : DE) : DS := fun D ρ => match getL ρ i with
  | some xs => de ρ fun y => argOk y = true ∧ xs.length < sizeLine ∧ D.nx (ρ.set i (some (.lst (xs ++ [y]))))
  | none => False
theorem rs_app {K : PySem.W.Frag} {i : Nat} (h : RE K m te de) : RS K m (tDrop (tBM K "list" rAppend (tVar i) (tCons te tNil))) (dApp i de) := ⟨fun {σ H ρ F D dD} er hq o => by
  unfold dApp at hq
  split at hq
  · rename_i xs hx
    obtain ⟨v, fp, e1, ow, hfp, ndf, _⟩ := er.chg (getL_at hx)
    refine ⟨v, e1, ow.listTy, h.run er hq fun H' w y e2 er2 vy hy => ?_⟩
    obtain ⟨v', fp', e1', ow', hfp', ndf', k⟩ := er2.chg (getL_at hx)
    obtain rfl : v = v' := Option.some.inj (Option.some.inj (e1.symm.trans e1'))
    obtain ⟨ok, hl, hy⟩ := hy
    obtain ⟨q, vs, fq, rfl, rfl, hp, ha⟩ := ow'.lst_inv
    · obtain ⟨gq, oy, hgq⟩ := vy
      have eg : gq = [] := by
        cases oy with
        | d _ => rfl
        | pot _ => rfl
        | lst _ _ => exact nomatch ok
        | dic _ _ => exact nomatch ok
        | dct _ _ => exact nomatch ok
      subst eg
      obtain ⟨F', er3, z⟩ := k q (.lst (vs ++ [w])) (.lst (xs ++ [y])) (q :: fq) List.mem_cons_self (fun a ha => .inl ha) ndf' (fun B' eB => by
        refine .lst upd_same ?_
        have qn : q ∉ fq := (List.nodup_cons.mp ndf').1
        have h1 := OwnAll.app (OwnAll.same eB _ _ _ (fun a ha => upd_ne fun z => qn (by rw [← z]; exact ha)) ha) (OwnAll.one (Own.same (H' := upd H' q (.lst (vs ++ [w]))) eB _ _ _ (fun a (z : a ∈ ([] : List Addr)) => nomatch z) oy))
        rw [List.append_nil] at h1
        exact h1)
      exact ⟨q, vs, w, rfl, rfl, hp, by rw [ha.len]; exact hl, o.nx _ _ _ F' er3 (Ex.trans (Bh.ex er.base e2) z) hy⟩
  · exact hq.elim⟩
theorem s_app {i : Nat} {x : Str} {apos cpos xpos : Pos} (h : DPE X m e te de) (hN : X.N[i]? = some x := by rfl) (hv : Vis X.env.scope x := by first | exact Or.inl rfl | exact Or.inr (Or.inl rfl) | exact Or.inr (Or.inr rfl))
    (hd : (x == ("__debug__" : Str)) = false := by decide) (hcd : (x == ("__classdict__" : Str)) = false := by decide)
    (hbase : attributeBase (.Name x xpos) "append" X.env (eval (.Name x xpos) X.env) = eval (.Name x xpos) X.env := by rfl)
    (hfew : ((backTo cpos (starEach [e] X.env)).all (fun x => !x.1) && (backToKw cpos (keywordEach [] X.env)).all (fun x => x.1.isSome) && decide (([e] : List Expr).length + ([] : List Keyword).length + (if ([] : List Keyword).isEmpty then 0 else 1) < 30)) = true := by rfl)
    (hline : (apos.endLine == cpos.line) = true := by rfl) (hs : starEach [e] X.env = (false, eval e X.env) :: starEach [] X.env := by rfl) (hplain : (backTo cpos (starEach [] X.env)).any (·.1) = false := by rfl)
    (hsw : swapsWith (.Call (.Attribute (.Name x xpos) "append" apos) [e] [] cpos) none pos.line X.env = pure false := by rfl) :
    DPS X m (.Expr (.Call (.Attribute (.Name x xpos) "append" apos) [e] [] cpos) pos) (tDrop (tBM X.K "list" rAppend (tVar i) (tCons te tNil))) (dApp i de) :=
  ⟨ps_expr (pe_bm PySem.F.plainAttrs_list PySem.F.slot_list_append PySem.F.type_list_append mt_append (pe_var hN hv hd hcd) (pa_cons h.pe pa_nil hs) hbase hfew hline hs hplain) hsw, rs_app h.re⟩
/-- x.append(a new list) -/
def dAppN (i : Nat) (dn : DN) : DS := fun D ρ => match getL ρ i with
  | some xs => dn ρ fun ys => xs.length < sizeLine ∧ D.nx (ρ.set i (some (.lst (xs ++ [.lst ys]))))
  | none => False
theorem rs_appN {K : PySem.W.Frag} {i : Nat} (h : RN K m te dn) : RS K m (tDrop (tBM K "list" rAppend (tVar i) (tCons te tNil))) (dAppN i dn) := ⟨fun {σ H ρ F D dD} er hq o => by
  unfold dAppN at hq
  split at hq
  · rename_i xs hx
    obtain ⟨v, fp, e1, ow, hfp, ndf, _⟩ := er.chg (getL_at hx)
    refine ⟨v, e1, ow.listTy, h.run er hq fun H' w ys gq e2 hf er2 oy hy => ?_⟩
    obtain ⟨v', fp', e1', ow', hfp', ndf', k⟩ := er2.chg (getL_at hx)
    obtain rfl : v = v' := Option.some.inj (Option.some.inj (e1.symm.trans e1'))
    obtain ⟨hl, hy⟩ := hy
    obtain ⟨q, vs, fq, rfl, rfl, hp, ha⟩ := ow'.lst_inv
    · have ndT := (List.nodup_append.mp er2.nd)
      have qn : q ∉ fq := (List.nodup_cons.mp ndf').1
      have qg : ∀ a ∈ gq, a ≠ q := fun a ha z => ndT.2.2 q (hfp' q List.mem_cons_self) a ha z.symm
      have nd2 : (q :: (fq ++ gq)).Nodup := by
        have h3 : ((q :: fq) ++ gq).Nodup := List.nodup_append.mpr ⟨ndf', ndT.2.1, fun a ha b hb => ndT.2.2 a (hfp' a ha) b hb⟩
        exact h3
      obtain ⟨F', er3, z⟩ := k q (.lst (vs ++ [w])) (.lst (xs ++ [.lst ys])) (q :: (fq ++ gq)) List.mem_cons_self (fun a ha => by
        rcases List.mem_cons.mp ha with z | z
        · exact .inl (by rw [z]; exact List.mem_cons_self)
        · rcases List.mem_append.mp z with z | z
          · exact .inl (List.mem_cons_of_mem _ z)
          · exact .inr z) nd2 (fun B' eB => .lst upd_same (OwnAll.app (OwnAll.same eB _ _ _ (fun a ha => upd_ne fun z => qn (by rw [← z]; exact ha)) ha) (OwnAll.one (Own.same eB _ _ _ (fun a ha => upd_ne (qg a ha)) oy))))
      refine ⟨q, vs, w, rfl, rfl, hp, by rw [ha.len]; exact hl, o.nx _ _ _ F' er3 ?_ hy⟩
      exact Ex.trans (Bh.go er.base e2 fun a ha => by
        rcases List.mem_append.mp ha with z | z
        · exact .inl (List.mem_append_left _ z)
        · exact .inr (hf a z)) z
  · exact hq.elim⟩
theorem s_appN {i : Nat} {x : Str} {apos cpos xpos : Pos} (h : DPN X m e te dn) (hN : X.N[i]? = some x := by rfl) (hv : Vis X.env.scope x := by first | exact Or.inl rfl | exact Or.inr (Or.inl rfl) | exact Or.inr (Or.inr rfl))
    (hd : (x == ("__debug__" : Str)) = false := by decide) (hcd : (x == ("__classdict__" : Str)) = false := by decide)
    (hbase : attributeBase (.Name x xpos) "append" X.env (eval (.Name x xpos) X.env) = eval (.Name x xpos) X.env := by rfl)
    (hfew : ((backTo cpos (starEach [e] X.env)).all (fun x => !x.1) && (backToKw cpos (keywordEach [] X.env)).all (fun x => x.1.isSome) && decide (([e] : List Expr).length + ([] : List Keyword).length + (if ([] : List Keyword).isEmpty then 0 else 1) < 30)) = true := by rfl)
    (hline : (apos.endLine == cpos.line) = true := by rfl) (hs : starEach [e] X.env = (false, eval e X.env) :: starEach [] X.env := by rfl) (hplain : (backTo cpos (starEach [] X.env)).any (·.1) = false := by rfl)
    (hsw : swapsWith (.Call (.Attribute (.Name x xpos) "append" apos) [e] [] cpos) none pos.line X.env = pure false := by rfl) :
    DPS X m (.Expr (.Call (.Attribute (.Name x xpos) "append" apos) [e] [] cpos) pos) (tDrop (tBM X.K "list" rAppend (tVar i) (tCons te tNil))) (dAppN i dn) :=
  ⟨ps_expr (pe_bm PySem.F.plainAttrs_list PySem.F.slot_list_append PySem.F.type_list_append mt_append (pe_var hN hv hd hcd) (pa_cons h.pe pa_nil hs) hbase hfew hline hs hplain) hsw, rs_appN h.rn⟩

/-- x becomes plain: from here on it is not changed -/
def frzAt (ρ : DEnv) (i : Nat) : DEnv := match ρ[i]? with
  | some (some x) => if okv x = true then ρ.set i (some (.d (vw x))) else ρ
  | _ => ρ
def dFrz (i : Nat) (ds : DS) : DS := fun D ρ => ds D (frzAt ρ i)
theorem ER.frz {K : PySem.W.Frag} {σ : L2.St} {H : Hp} {ρ : DEnv} {F : List Addr} (er : ER K m σ H ρ F []) (i : Nat) : ∃ F', ER K m σ H (frzAt ρ i) F' [] ∧ Fz m F H F' H := by
  unfold frzAt
  split
  · rename_i x hx
    by_cases ok : okv x = true
    · rw [if_pos ok]
      obtain ⟨v, F1, fp, F2, eF, e2, ow, k⟩ := er.slots.mod hx
      have ndA : (F1 ++ (fp ++ F2)).Nodup := by
        rw [← eF]
        exact (List.nodup_append.mp er.nd).1
      have sub : ∀ a ∈ F1 ++ ([] ++ F2), a ∈ F := fun a ha => by
        rw [eF]
        rcases List.mem_append.mp ha with z | z
        · exact List.mem_append_left _ z
        · exact List.mem_append_right _ (List.mem_append_right _ z)
      have hB : Ex (Bh m (F ++ []) H) (Bh m ((F1 ++ ([] ++ F2)) ++ []) H) := Bh.sub fun a ha => by
        rw [List.append_nil] at ha ⊢
        exact sub a ha
      have nd' := ndA
      rw [List.nodup_append] at nd'
      have nd2 := List.nodup_append.mp nd'.2.1
      refine ⟨F1 ++ ([] ++ F2), ⟨er.base, k _ H _ [] hB (fun _ _ => rfl) (.d (Own.rep hB x v fp ok (fun a ha => ?_) ow)), ?_, fun a ha => ?_⟩, hB⟩
      · show (if hS m ((F1 ++ ([] ++ F2)) ++ []) a = true then none else H a) = H a
        rw [if_neg]
        intro z
        have hz : (m.S a || decide (a ∈ (F1 ++ ([] ++ F2)) ++ [])) = true := z
        rw [Bool.or_eq_true, decide_eq_true_eq, List.append_nil] at hz
        rcases hz with z | z
        · exact er.sF z (List.mem_append_left _ (by rw [eF]; exact List.mem_append_right _ (List.mem_append_left _ ha)))
        · rcases List.mem_append.mp z with z | z
          · exact nd'.2.2 a z a (List.mem_append_left _ ha) rfl
          · exact nd2.2.2 a ha a z rfl
      · rw [List.append_nil]
        exact List.nodup_append.mpr ⟨nd'.1, nd2.2.1, fun a ha b hb => nd'.2.2 a ha b (List.mem_append_right _ hb)⟩
      · rw [List.append_nil] at ha
        exact er.fresh a (List.mem_append_left _ (sub a ha))
    · rw [if_neg ok]
      exact ⟨F, er, Ex.refl _⟩
  · exact ⟨F, er, Ex.refl _⟩
theorem rs_frz {K : PySem.W.Frag} {i : Nat} (h : RS K m t ds) : RS K m t (dFrz i ds) := ⟨fun {σ H ρ F D dD} er hq o => by
  obtain ⟨F', er1, z⟩ := er.frz i
  exact h.run er1 hq (o.on z)⟩
theorem s_frz (i : Nat) (h : DPS X m st t ds) : DPS X m st t (dFrz i ds) := ⟨h.ps, rs_frz h.rs⟩

/-! ### x[i] = e, x[i][j] = e -/
theorem OwnAll.set {K : PySem.W.Frag} {B H : Hp} {w : V} {y : OV} (oy : Own K m B H w y []) : ∀ {vs : List V} {xs : List OV} {fp : List Addr} (j : Nat), OwnAll K m B H vs xs fp → ∃ fp', OwnAll K m B H (vs.set j w) (xs.set j y) fp' ∧ List.Sublist fp' fp
  | _, _, _, _, .nil => ⟨[], .nil, List.Sublist.refl _⟩
  | _, _, _, 0, .cons h t => ⟨_, OwnAll.cons (fp := []) oy t, List.sublist_append_right _ _⟩
  | _, _, _, j + 1, .cons h t => by
    obtain ⟨fp', h1, h2⟩ := OwnAll.set oy j t
    exact ⟨_, .cons h h1, (List.Sublist.refl _).append h2⟩
/-- the j-th item, taken out -/
theorem OwnAll.mod {K : PySem.W.Frag} {B H : Hp} : ∀ {vs : List V} {xs : List OV} {fp : List Addr} {j : Nat} {x : OV}, OwnAll K m B H vs xs fp → xs[j]? = some x →
    ∃ v f1 fq f2, fp = f1 ++ (fq ++ f2) ∧ vs[j]? = some v ∧ Own K m B H v x fq ∧ ∀ (B' H' : Hp) (x' : OV) (fq' : List Addr), Ex B B' → (∀ a, a ∈ f1 ∨ a ∈ f2 → H' a = H a) → Own K m B' H' v x' fq' → OwnAll K m B' H' vs (xs.set j x') (f1 ++ (fq' ++ f2))
  | _, _, _, _, _, .nil, h => by simp at h
  | _, _, _, 0, _, .cons (fp := f0) (fq := f1) o s, h => by
    simp at h
    subst h
    refine ⟨_, [], f0, f1, rfl, rfl, o, fun B' H' x' fp' e q o' => ?_⟩
    show OwnAll K m B' H' (_ :: _) (x' :: _) (fp' ++ f1)
    exact .cons o' (OwnAll.same e _ _ _ (fun a ha => q a (.inr ha)) s)
  | _, _, _, j + 1, x, .cons (fp := f0) (fq := f1) o s, h => by
    obtain ⟨v, F1, fp, F2, e1, e2, o', k⟩ := OwnAll.mod (j := j) s (by simpa using h)
    refine ⟨v, f0 ++ F1, fp, F2, by rw [e1, List.append_assoc], by simpa using e2, o', fun B' H' x' fp' e q o'' => ?_⟩
    rw [List.append_assoc]
    exact .cons (Own.same e _ _ _ (fun a ha => q a (.inl (List.mem_append_left _ ha))) o) (k B' H' x' fp' e (fun a ha => q a (ha.elim (fun z => .inl (List.mem_append_right _ z)) .inr)) o'')
theorem argOk_nil {K : PySem.W.Frag} {B H : Hp} {v : V} {y : OV} {fp : List Addr} (ok : argOk y = true) (o : Own K m B H v y fp) : fp = [] := by
  cases o with
  | d _ => rfl
  | pot _ => rfl
  | lst _ _ => exact nomatch ok
  | dic _ _ => exact nomatch ok
  | dct _ _ => exact nomatch ok
def dSet1 (r : Nat) (de di : DE) : DS := fun D ρ => match getL ρ r with
  | some xs => de ρ fun y => di ρ fun k => match k with
    | .d (.int i) => argOk y = true ∧ ∃ j, ixN xs.length i = some j ∧ D.nx (ρ.set r (some (.lst (xs.set j y))))
    | _ => False
  | none => False
theorem rs_set1 {K : PySem.W.Frag} {r : Nat} (h : RE K m te de) (hi : RE K m ti di) : RS K m (tAsg te (gSub (tVar r) ti rSetL)) (dSet1 r de di) := ⟨fun {σ H ρ F D dD} er hq o => by
  unfold dSet1 at hq
  split at hq
  · rename_i xs hg
    refine h.run er hq fun H1 w y e1 er1 vy hq1 => ?_
    obtain ⟨v, fp, ev, ow, hfp, ndf, _⟩ := er1.chg (getL_at hg)
    refine ⟨v, ev, hi.run er1 hq1 fun H2 u k e2 er2 vk hk => ?_⟩
    split at hk
    · rename_i i
      obtain ⟨ok, j, hj, hk⟩ := hk
      rw [vk.int]
      obtain ⟨v', fp', ev', ow', hfp', ndf', kk⟩ := er2.chg (getL_at hg)
      obtain rfl : v = v' := Option.some.inj (Option.some.inj (ev.symm.trans ev'))
      obtain ⟨q, vs, fq, rfl, rfl, hp, ha⟩ := ow'.lst_inv
      obtain ⟨gq, oy, _⟩ := vy.step er1 e2
      obtain rfl := argOk_nil ok oy
      have qn : q ∉ fq := (List.nodup_cons.mp ndf').1
      obtain ⟨fz, o2, sb⟩ := OwnAll.set oy j ha
      obtain ⟨F', er3, z⟩ := kk q (.lst (vs.set j w)) (.lst (xs.set j y)) (q :: fz) List.mem_cons_self (fun a ha => by
        rcases List.mem_cons.mp ha with z | z
        · exact .inl (by rw [z]; exact List.mem_cons_self)
        · exact .inl (List.mem_cons_of_mem _ (sb.subset z))) (List.nodup_cons.mpr ⟨fun z => qn (sb.subset z), (List.nodup_cons.mp ndf').2.sublist sb⟩)
        (fun B' eB => .lst upd_same (OwnAll.same eB _ _ _ (fun a ha => upd_ne fun z => qn (by rw [← z]; exact sb.subset ha)) o2))
      exact ⟨q, vs, i, j, rfl, rfl, hp, by rw [ha.len]; exact hj, o.nx _ _ _ F' er3 (Ex.trans (Bh.ex er.base (e1.trans e2)) z) hk⟩
    · exact hk.elim
  · exact hq.elim⟩
/-- x[i][j] = e -/
def dSet2 (r : Nat) (de di dj : DE) : DS := fun D ρ => match getL ρ r with
  | some xs => de ρ fun y => di ρ fun k => match k with
    | .d (.int i) => ∃ n, ixN xs.length i = some n ∧ ∃ ys, xs[n]? = some (.lst ys) ∧ dj ρ fun l => match l with
      | .d (.int j) => argOk y = true ∧ ∃ l, ixN ys.length j = some l ∧ D.nx (ρ.set r (some (.lst (xs.set n (.lst (ys.set l y))))))
      | _ => False
    | _ => False
  | none => False
variable {tj : TE} {dj : DE}
theorem rs_set2 {K : PySem.W.Frag} {r : Nat} (h : RE K m te de) (hi : RE K m ti di) (hj : RE K m tj dj) : RS K m (tAsg te (gSub (tOp (rIx K) (tVar r) ti) tj rSetL)) (dSet2 r de di dj) := ⟨fun {σ H ρ F D dD} er hq o => by
  unfold dSet2 at hq
  split at hq
  · rename_i xs hg
    refine h.run er hq fun H1 w y e1 er1 vy hq1 => ?_
    obtain ⟨v, fp, ev, ow, hfp, ndf, _⟩ := er1.chg (getL_at hg)
    refine ⟨v, ev, hi.run er1 hq1 fun H2 u k e2 er2 vk hk => ?_⟩
    split at hk
    · rename_i i
      obtain ⟨n, hn, ys, hy, hk⟩ := hk
      rw [vk.int]
      obtain ⟨v', fp', ev', ow', hfp', ndf', kk⟩ := er2.chg (getL_at hg)
      obtain rfl : v = v' := Option.some.inj (Option.some.inj (ev.symm.trans ev'))
      obtain ⟨q, vs, fq, rfl, rfl, hp, ha⟩ := ow'.lst_inv
      obtain ⟨v1, f1, g1, f2, ef, ev1, ow1, k1⟩ := ha.mod hy
      have at1 : L2.atI vs i = some v1 := by
        unfold L2.atI
        rw [ha.len, hn]
        exact ev1
      refine .inl ⟨q, vs, i, v1, rfl, rfl, SqL.of hp, at1, hj.run er2 hk fun H3 u3 l e3 er3 vl hl => ?_⟩
      split at hl
      · rename_i j
        obtain ⟨ok, ln, hln, hl⟩ := hl
        rw [vl.int]
        obtain ⟨v3, fp3, ev3, ow3, hfp3, ndf3, kk3⟩ := er3.chg (getL_at hg)
        obtain rfl : V.ref q = v3 := Option.some.inj (Option.some.inj (ev.symm.trans ev3))
        obtain ⟨q3, vs3, fq3, eq3, rfl, hp3, ha3⟩ := ow3.lst_inv
        cases eq3
        obtain rfl : vs = vs3 := by
          have h1 := e3 q _ (fun z => er2.potF z (List.mem_append_left _ (hfp' q List.mem_cons_self))) hp
          rw [hp3] at h1
          cases h1
          rfl
        obtain ⟨v4, f4, g4, f5, ef4, ev4, ow4, k4⟩ := ha3.mod hy
        obtain rfl : v1 = v4 := Option.some.inj (ev1.symm.trans ev4)
        obtain ⟨p5, us, g5, rfl, rfl, hp5, ha5⟩ := ow4.lst_inv
        obtain ⟨gq, oy, _⟩ := vy.step er1 (e2.trans e3)
        obtain rfl := argOk_nil ok oy
        obtain ⟨fz, o2, sb⟩ := OwnAll.set oy ln ha5
        have nd0 := List.nodup_cons.mp ndf3
        have ndm := nd0.2
        rw [ef4] at ndm
        have nd1 := List.nodup_append.mp ndm
        have nd2 := List.nodup_append.mp nd1.2.1
        have nd5 := List.nodup_cons.mp nd2.1
        have memp5 : p5 ∈ fq3 := by
          rw [ef4]
          exact List.mem_append_right _ (List.mem_append_left _ List.mem_cons_self)
        have qp5 : q ≠ p5 := fun z => nd0.1 (by rw [z]; exact memp5)
        have ndz : (p5 :: fz).Nodup := List.nodup_cons.mpr ⟨fun z => nd5.1 (sb.subset z), nd5.2.sublist sb⟩
        have subz : ∀ a ∈ p5 :: fz, a ∈ p5 :: g5 := fun a ha => by
          rcases List.mem_cons.mp ha with z | z
          · rw [z]
            exact List.mem_cons_self
          · exact List.mem_cons_of_mem _ (sb.subset z)
        obtain ⟨F', er4, z⟩ := kk3 p5 (.lst (us.set ln w)) (.lst (xs.set n (.lst (ys.set ln y)))) (q :: (f4 ++ ((p5 :: fz) ++ f5))) (List.mem_cons_of_mem _ memp5) (fun a ha => by
          rcases List.mem_cons.mp ha with z | z
          · exact .inl (by rw [z]; exact List.mem_cons_self)
          · refine .inl (List.mem_cons_of_mem _ ?_)
            rw [ef4]
            rcases List.mem_append.mp z with z | z
            · exact List.mem_append_left _ z
            · rcases List.mem_append.mp z with z | z
              · exact List.mem_append_right _ (List.mem_append_left _ (subz a z))
              · exact List.mem_append_right _ (List.mem_append_right _ z)) (List.nodup_cons.mpr ⟨fun z => nd0.1 (by
            rw [ef4]
            rcases List.mem_append.mp z with z | z
            · exact List.mem_append_left _ z
            · rcases List.mem_append.mp z with z | z
              · exact List.mem_append_right _ (List.mem_append_left _ (subz q z))
              · exact List.mem_append_right _ (List.mem_append_right _ z)), nodup_mid ndm ndz fun a ha => .inl (subz a ha)⟩)
          (fun B' eB => .lst (by rw [upd_ne qp5]; exact hp3) (k4 B' _ _ _ eB (fun a ha => upd_ne fun z => by
            subst z
            rcases ha with ha | ha
            · exact nd1.2.2 a ha a (List.mem_append_left _ List.mem_cons_self) rfl
            · exact nd2.2.2 a List.mem_cons_self a ha rfl)
            (.lst upd_same (OwnAll.same eB _ _ _ (fun a ha => upd_ne fun z => nd5.1 (by rw [← z]; exact sb.subset ha)) o2))))
        exact ⟨p5, us, j, ln, rfl, rfl, hp5, by rw [ha5.len]; exact hln, o.nx _ _ _ F' er4 (Ex.trans (Bh.ex er.base ((e1.trans e2).trans e3)) z) hl⟩
      · exact hl.elim
    · exact hk.elim
  · exact hq.elim⟩
variable {i j o : Expr}
theorem s_set1 {r : Nat} {x : Str} {xpos spos : Pos} (h : DPE X m e te de) (hi : DPE X m i ti di) (hN : X.N[r]? = some x := by rfl) (hv : Vis X.env.scope x := by first | exact Or.inl rfl | exact Or.inr (Or.inl rfl) | exact Or.inr (Or.inr rfl))
    (hd : (x == ("__debug__" : Str)) = false := by decide) (hcd : (x == ("__classdict__" : Str)) = false := by decide)
    (ha : ∀ v, assign (.Subscript (.Name x xpos) i spos) X.env v = (do
      let ov ← holding [v] (eval (.Name x xpos) X.env)
      let iv ← holding [v, ov] (eval i X.env)
      standAt spos
      holding [v, ov, iv] (setItem ov iv v)
      release [v, ov, iv] []) := by intro _; rfl) (hs : swapsWithSole [.Subscript (.Name x xpos) i spos] e pos.line X.env = pure false := by rfl) (hw : swappedStores [.Subscript (.Name x xpos) i spos] e X.env = pure none := by rfl)
    (h1 : (assignEach [.Subscript (.Name x xpos) i spos] X.env).map (·.2) = [assign (.Subscript (.Name x xpos) i spos) X.env] := by rfl) :
    DPS X m (.Assign [.Subscript (.Name x xpos) i spos] e pos) (tAsg te (gSub (tVar r) ti rSetL)) (dSet1 r de di) := ⟨ps_asg h.pe (pg_sub (pe_var hN hv hd hcd) hi.pe set_list ha) hs hw h1, rs_set1 h.re hi.re⟩
theorem s_set2 {r : Nat} {x : Str} {xpos opos spos : Pos} (h : DPE X m e te de) (hi : DPE X m i ti di) (hj : DPE X m j tj dj) (hN : X.N[r]? = some x := by rfl) (hv : Vis X.env.scope x := by first | exact Or.inl rfl | exact Or.inr (Or.inl rfl) | exact Or.inr (Or.inr rfl))
    (hd : (x == ("__debug__" : Str)) = false := by decide) (hcd : (x == ("__classdict__" : Str)) = false := by decide) (hpl : PlainIx i := by exact fun _ _ => rfl)
    (ha : ∀ v, assign (.Subscript (.Subscript (.Name x xpos) i opos) j spos) X.env v = (do
      let ov ← holding [v] (eval (.Subscript (.Name x xpos) i opos) X.env)
      let iv ← holding [v, ov] (eval j X.env)
      standAt spos
      holding [v, ov, iv] (setItem ov iv v)
      release [v, ov, iv] []) := by intro _; rfl) (hs : swapsWithSole [.Subscript (.Subscript (.Name x xpos) i opos) j spos] e pos.line X.env = pure false := by rfl) (hw : swappedStores [.Subscript (.Subscript (.Name x xpos) i opos) j spos] e X.env = pure none := by rfl)
    (h1 : (assignEach [.Subscript (.Subscript (.Name x xpos) i opos) j spos] X.env).map (·.2) = [assign (.Subscript (.Subscript (.Name x xpos) i opos) j spos) X.env] := by rfl) :
    DPS X m (.Assign [.Subscript (.Subscript (.Name x xpos) i opos) j spos] e pos) (tAsg te (gSub (tOp (rIx X.K) (tVar r) ti) tj rSetL)) (dSet2 r de di dj) := ⟨ps_asg h.pe (pg_sub (pe_ix ix_seq (pe_var hN hv hd hcd) hi.pe hpl) hj.pe set_list ha) hs hw h1, rs_set2 h.re hi.re hj.re⟩
end
end DL

/-! ==== DL7 ==== -/
set_option Elab.async false
set_option linter.all false
set_option maxRecDepth 100000
set_option maxHeartbeats 4000000
namespace DL
open PySem PySem.Spec PyProof.Rows L2

/-! ## what is walked -/
def ItOk (K : PySem.W.Frag) (m : Am) (G : List Addr) (H : Hp) (J : It) (xs : List PyData) : Prop :=
  ∀ (G' : List Addr) (H' : Hp), Ex (Bh m G H) (Bh m G' H') → Base m H' → (∀ a ∈ G', H' a ≠ none) → ∀ i,
    (xs.length ≤ i → J.stop i H') ∧ ∀ x, xs[i]? = some x → J.go i H' ∧ ∀ v H'', J.yld i H' v H'' → Ex H' H'' ∧ Rep K (Bh m G' H'') v x
structure RI (K : PySem.W.Frag) (m : Am) (wi : TI) (di : DI) : Prop where
  run : ∀ {σ : L2.St} {H : Hp} {ρ : DEnv} {F T : List Addr} {R : It → Hp → Prop} {dQ : List PyData → Prop}, ER K m σ H ρ F T → di ρ dQ →
    (∀ H' J xs, Ext m.P H H' → ER K m σ H' ρ F T → ItOk K m (F ++ T) H' J xs → dQ xs → R J H') → wi σ H R
structure DPI (X : Cx) (m : Am) (tg iter : Expr) (wi : TI) (di : DI) : Prop where
  pi : PI X tg iter wi
  ri : RI X.K m wi di

section
variable {X : Cx} {m : Am} {tg a b c e : Expr} {es : List Expr} {pos p : Pos} {t u : TS} {ds du : DS} {te ti to : TE} {de dO : DE} {tt : TT} {dt : DT} {st : Stmt} {rest sts body : List Stmt} {dn : DN} {wi : TI} {di : DI} {g : TG} {dg : DG} {js : List Nat} {ua : TA} {va : DA}
/-! ### for -/
def dLoop (g : DG) (body : DS) : List PyData → DS
  | [], D, ρ => D.nx ρ
  | x :: xs, D, ρ => g x ρ fun ρ' => body { nx := fun ρ2 => dLoop g body xs D ρ2, ct := fun ρ2 => dLoop g body xs D ρ2, bk := D.nx, rt := D.rt } ρ'
def dFor (di : DI) (g : DG) (body : DS) : DS := fun D ρ => di ρ fun xs => dLoop g body xs D ρ
theorem rs_for {K : PySem.W.Frag} (hi : RI K m wi di) (hg : RG K m g dg js) (hb : RS K m t ds) : RS K m (tFor wi g t) (dFor di dg ds) := ⟨fun {σ H ρ F D dD} er hq o => hi.run er hq fun H1 J xs e1 er1 it hx => by
  have o1 := o.on (F' := F) (H' := H1) (Bh.ex er.base e1)
  refine ⟨fun i n σ' H' => n = xs.length - i ∧ ∃ ρ' F', ER K m σ' H' ρ' F' [] ∧ Fz m F H1 F' H' ∧ dLoop dg ds (xs.drop i) dD ρ', ⟨xs.length, rfl, ρ, F, er1, Ex.refl _, hx⟩, ?_⟩
  rintro i n σ' H' ⟨rfl, ρ', F', er', z, hl⟩
  have it' := it (F' ++ []) H' z er'.base (fun a ha => (er'.fresh a ha).2) i
  by_cases hlt : i < xs.length
  · have hd : xs.drop i = xs[i] :: xs.drop (i + 1) := List.drop_eq_getElem_cons hlt
    rw [hd] at hl
    obtain ⟨go, yl⟩ := it'.2 xs[i] (List.getElem?_eq_getElem hlt)
    refine .inr ⟨go, fun σ2 H2 => ∃ ρ2 F2, ER K m σ2 H2 ρ2 F2 [] ∧ Fz m F H1 F2 H2 ∧ dLoop dg ds (xs.drop (i + 1)) dD ρ2, fun σ2 H2 ⟨ρ2, F2, h1, h2, h3⟩ => ⟨xs.length - (i + 1), by omega, rfl, ρ2, F2, h1, h2, h3⟩, fun v H2 hy => ?_⟩
    obtain ⟨e2, r2⟩ := yl v H2 hy
    have er2 := er'.step (Ext.of_ex e2) (fun q hq => by
      obtain ⟨x, y, z, e, i⟩ := er'.base.pot q hq
      exact ⟨x, y, z, e2 q _ e, i⟩)
    have z2 : Fz m F H1 F' H2 := Ex.trans z (Bh.ex er'.base (Ext.of_ex e2))
    refine hg.run er2 r2 hl fun σ3 ρ3 F3 T3 er3 s3 _ h3 => ?_
    have z3 : Fz m F H1 F3 H2 := Ex.trans z2 (Bh.sub fun a ha => by
      rw [List.append_nil] at ha
      exact s3.mem_iff.mp (List.mem_append_left _ ha))
    refine hb.run (er3.free (List.nil_sublist _)) h3 ⟨fun σ4 H4 ρ4 F4 er4 z4 h4 => ⟨ρ4, F4, er4, Ex.trans z3 z4, h4⟩, fun σ4 H4 ρ4 F4 er4 z4 h4 => o1.nx σ4 H4 ρ4 F4 er4 (Ex.trans z3 z4) h4, fun σ4 H4 ρ4 F4 er4 z4 h4 => ⟨ρ4, F4, er4, Ex.trans z3 z4, h4⟩, o1.rt⟩
  · have hd : xs.drop i = [] := List.drop_of_length_le (by omega)
    rw [hd] at hl
    exact .inl ⟨it'.1 (by omega), o1.nx σ' H' ρ' F' er' z hl⟩⟩
theorem s_for (hp : PassesOwn (model X.prog X.w) X.A X.env X.xe) (hc : X.calm = true) (hi : DPI X m tg e wi di) (hg : DPG X m tg g dg js) (hb : DPSs X m body t ds) (hs : ∀ x, foldedSetIterable e X.env x = pure x := by intro _; rfl) :
    DPS X m (.For tg e body [] pos) (tFor wi g t) (dFor di dg ds) := ⟨ps_for hp hc hi.pi hg.pg hb.ps hs, rs_for hi.ri hg.rg hb.rs⟩
/-! ### while -/
def dWhile (dt : DT) (body : DS) : DS := fun D ρ => ∃ W : Nat → DEnv → Prop, (∃ n, W n ρ) ∧ ∀ n ρ', W n ρ' → dt ρ' fun b => if b = true then body { nx := fun ρ2 => ∃ k, k < n ∧ W k ρ2, ct := fun ρ2 => ∃ k, k < n ∧ W k ρ2, bk := D.nx, rt := D.rt } ρ' else D.nx ρ'
theorem rs_while {K : PySem.W.Frag} (hc : RT K m tt dt) (hb : RS K m t ds) : RS K m (tWhile tt t) (dWhile dt ds) := ⟨fun {σ H ρ F D dD} er hq o => by
  obtain ⟨W, ⟨n0, w0⟩, turn⟩ := hq
  refine ⟨fun n σ' H' => ∃ ρ' F', ER K m σ' H' ρ' F' [] ∧ Fz m F H F' H' ∧ W n ρ', ⟨n0, ρ, F, er, Ex.refl _, w0⟩, ?_⟩
  rintro n σ' H' ⟨ρ', F', er', z, w⟩
  refine hc.run er' (turn n ρ' w) fun H2 b e2 er2 hb2 => ?_
  have z2 : Fz m F H F' H2 := Ex.trans z (Bh.ex er'.base e2)
  cases b with
  | true => exact ⟨fun σ3 H3 => ∃ k, k < n ∧ ∃ ρ3 F3, ER K m σ3 H3 ρ3 F3 [] ∧ Fz m F H F3 H3 ∧ W k ρ3, fun σ3 H3 ⟨k, hk, h⟩ => ⟨k, hk, h⟩,
      hb.run er2 hb2 ⟨fun σ4 H4 ρ4 F4 er4 z4 ⟨k, hk, h4⟩ => ⟨k, hk, ρ4, F4, er4, Ex.trans z2 z4, h4⟩, fun σ4 H4 ρ4 F4 er4 z4 h4 => o.nx σ4 H4 ρ4 F4 er4 (Ex.trans z2 z4) h4, fun σ4 H4 ρ4 F4 er4 z4 ⟨k, hk, h4⟩ => ⟨k, hk, ρ4, F4, er4, Ex.trans z2 z4, h4⟩, o.rt⟩⟩
  | false => exact o.nx σ' H2 ρ' F' er2 z2 hb2⟩
theorem s_while {c : Expr} (hp : PassesOwn (model X.prog X.w) X.A X.env X.xe) (hc : DPT X m c tt dt) (hb : DPSs X m body t ds) : DPS X m (.While c body [] pos) (tWhile tt t) (dWhile dt ds) := ⟨ps_while hp hc.pt hb.ps, rs_while hc.rt hb.rs⟩

/-! ### lists, tuples, ranges, texts -/
def diSeq (de : DE) : DI := fun ρ Q => de ρ fun x => match x with
  | .d (.list xs) => Q xs
  | .d (.tuple xs) => Q xs
  | _ => False
def diList (de : DE) : DI := fun ρ Q => de ρ fun x => match x with
  | .d (.list xs) => Q xs
  | _ => False
def diTup (de : DE) : DI := fun ρ Q => de ρ fun x => match x with
  | .d (.tuple xs) => Q xs
  | _ => False
theorem ri_list {K : PySem.W.Frag} (h : RE K m te de) : RI K m (iList K te) (diList de) := ⟨fun {σ H ρ F T R dQ} er hq k => h.run er hq fun H' v x e1 er1 vx hx => by
  split at hx
  · rename_i xs
    have r := vx.rep
    cases r with
    | lst hp ha =>
      rename_i a vs
      refine ⟨a, rfl, ⟨vs, SqL.of (hid_some.mp hp).2⟩, k H' _ xs e1 er1 (fun G' H2 z hb hf i => ⟨fun hi => ⟨vs, SqL.of (hid_some.mp (z _ _ hp)).2, by rw [ha.length]; exact hi⟩, fun x hx => ?_⟩) hx⟩
      obtain ⟨w, hw, rw'⟩ := ha.get hx
      refine ⟨⟨vs, w, SqL.of (hid_some.mp (z _ _ hp)).2, hw⟩, fun v H3 hy => ?_⟩
      obtain ⟨rfl, hu⟩ := hy
      have e2 := hu vs (SqL.of (hid_some.mp (z _ _ hp)).2)
      rw [hw] at e2
      cases e2
      exact ⟨Ex.refl _, Rep.mono z _ _ rw'⟩
  · exact hx.elim⟩
theorem ri_tup {K : PySem.W.Frag} (h : RE K m te de) : RI K m (iTup K te) (diTup de) := ⟨fun {σ H ρ F T R dQ} er hq k => h.run er hq fun H' v x e1 er1 vx hx => by
  split at hx
  · rename_i xs
    have r := vx.rep
    cases r with
    | tup hp ha =>
      rename_i a vs
      have q : ∀ {G' : List Addr} {H2 : Hp}, Ex (Bh m (F ++ T) H') (Bh m G' H2) → SqT K H2 a vs := fun z => Ex.ofBh.stt (z _ _ hp)
      refine ⟨a, rfl, ⟨vs, Ex.ofBh.stt hp⟩, k H' _ xs e1 er1 (fun G' H2 z hb hf i => ⟨fun hi => ⟨vs, q z, by rw [ha.length]; exact hi⟩, fun x hx => ?_⟩) hx⟩
      obtain ⟨w, hw, rw'⟩ := ha.get hx
      refine ⟨⟨vs, w, q z, hw⟩, fun v H3 hy => ?_⟩
      obtain ⟨rfl, hu⟩ := hy
      have e2 := hu vs (q z)
      rw [hw] at e2
      cases e2
      exact ⟨Ex.refl _, Rep.mono z _ _ rw'⟩
  · exact hx.elim⟩
theorem i_list (h : DPE X m e te de) : DPI X m tg e (iList X.K te) (diList de) := ⟨pi_list h.pe, ri_list h.re⟩
theorem i_tup (h : DPE X m e te de) : DPI X m tg e (iTup X.K te) (diTup de) := ⟨pi_tup h.pe, ri_tup h.re⟩
/-- lo, lo + 1, .. (n of them) -/
def rngD (lo : Int) (n : Nat) : List PyData := (List.range n).map fun i => .int (lo + (i : Nat))
theorem rngD_len (lo : Int) (n : Nat) : (rngD lo n).length = n := by
  unfold rngD
  rw [List.length_map, List.length_range]
theorem rng_ok {K : PySem.W.Frag} {G : List Addr} {H : Hp} (lo : Int) (n : Nat) : ItOk K m G H (Itr lo n) (rngD lo n) := fun G' H2 z hb hf i => ⟨fun hi => by rw [rngD_len] at hi; exact hi, fun x hx => by
  unfold rngD at hx
  rw [List.getElem?_map] at hx
  by_cases hlt : i < n
  · rw [List.getElem?_range hlt] at hx
    cases hx
    exact ⟨hlt, fun v H3 ⟨e1, e2⟩ => by subst e1 e2; exact ⟨Ex.refl _, .int _⟩⟩
  · rw [List.getElem?_eq_none (by rw [List.length_range]; omega)] at hx
    cases hx⟩
def diRng1 (da : DA) : DI := fun ρ Q => da ρ fun xs => match xs with
  | [.d (.int j)] => (-(2 ^ 62) ≤ j ∧ j < 2 ^ 62) ∧ Q (rngD 0 j.toNat)
  | _ => False
def diRng2 (da : DA) : DI := fun ρ Q => da ρ fun xs => match xs with
  | [.d (.int i), .d (.int j)] => (-(2 ^ 62) ≤ i ∧ i < 2 ^ 62 ∧ -(2 ^ 62) ≤ j ∧ j < 2 ^ 62) ∧ Q (rngD i (j - i).toNat)
  | _ => False
theorem ri_rng1 {K : PySem.W.Frag} (h : RA K m ua va) : RI K m (iRng1 ua) (diRng1 va) := ⟨fun {σ H ρ F T R dQ} er hq k => h.run er hq fun H' vs xs e1 er1 vxs hx => by
  split at hx
  · obtain ⟨⟨h1, h2⟩, hx⟩ := hx
    cases vxs with
    | cons v1 vr =>
      cases vr
      rw [v1.int]
      exact ⟨_, rfl, h1, h2, k H' _ _ e1 er1 (rng_ok 0 _) hx⟩
  · exact hx.elim⟩
theorem ri_rng2 {K : PySem.W.Frag} (h : RA K m ua va) : RI K m (iRng2 ua) (diRng2 va) := ⟨fun {σ H ρ F T R dQ} er hq k => h.run er hq fun H' vs xs e1 er1 vxs hx => by
  split at hx
  · obtain ⟨h1, hx⟩ := hx
    cases vxs with
    | cons v1 vr =>
      cases vr with
      | cons v2 vr =>
        cases vr
        rw [v1.int, v2.int]
        exact ⟨_, _, rfl, h1, k H' _ _ e1 er1 (rng_ok _ _) hx⟩
  · exact hx.elim⟩
theorem i_rng1 {a : Expr} (hg : Gl X "range") (hm : X.mg "range" = none) (ha : DPA X m [a] ua va) (hs : starEach [a] X.env = [(false, eval a X.env)] := by rfl) : DPI X m tg (.Call (.Name "range" p) [a] [] pos) (iRng1 ua) (diRng1 va) := ⟨pi_range1 hg hm ha.pa hs, ri_rng1 ha.ra⟩
theorem i_rng2 {a b : Expr} (hg : Gl X "range") (hm : X.mg "range" = none) (ha : DPA X m [a, b] ua va) (hs : starEach [a, b] X.env = [(false, eval a X.env), (false, eval b X.env)] := by rfl) (hs2 : starEach [b] X.env = [(false, eval b X.env)] := by rfl) :
    DPI X m tg (.Call (.Name "range" p) [a, b] [] pos) (iRng2 ua) (diRng2 va) := ⟨pi_range2 hg hm ha.pa hs hs2, ri_rng2 ha.ra⟩
/-- zip of two lists, of two tuples -/
def zipD : List PyData → List PyData → List PyData
  | x :: xs, y :: ys => .tuple [x, y] :: zipD xs ys
  | _, _ => []
def diZip (da : DA) : DI := fun ρ Q => da ρ fun xs => match xs with
  | [.d (.tuple xs), .d (.tuple ys)] => Q (zipD xs ys)
  | [.d (.list xs), .d (.list ys)] => Q (zipD xs ys)
  | _ => False
theorem zipD_get : ∀ {xs ys : List PyData} {i : Nat} {z : PyData}, (zipD xs ys)[i]? = some z → ∃ x y, xs[i]? = some x ∧ ys[i]? = some y ∧ z = .tuple [x, y]
  | x :: xs, y :: ys, 0, z, h => by
    cases h
    exact ⟨x, y, rfl, rfl, rfl⟩
  | x :: xs, y :: ys, i + 1, z, h => by
    obtain ⟨a, b, h1, h2, h3⟩ := zipD_get (xs := xs) (ys := ys) (i := i) h
    exact ⟨a, b, h1, h2, h3⟩
  | [], _, i, z, h => by
    simp [zipD] at h
  | _ :: _, [], i, z, h => by
    simp [zipD] at h
theorem zipD_len : ∀ (xs ys : List PyData) (i : Nat), (zipD xs ys).length ≤ i → xs.length ≤ i ∨ ys.length ≤ i
  | x :: xs, y :: ys, 0, h => by simp [zipD] at h
  | x :: xs, y :: ys, i + 1, h => by
    have h' : (zipD xs ys).length ≤ i := Nat.le_of_succ_le_succ h
    rcases zipD_len xs ys i h' with z | z
    · exact .inl (Nat.succ_le_succ z)
    · exact .inr (Nat.succ_le_succ z)
  | [], _, i, _ => .inl (Nat.zero_le _)
  | _ :: _, [], i, _ => .inr (Nat.zero_le _)
theorem new_pair {K : PySem.W.Frag} {G : List Addr} {H : Hp} {q : Addr} {v w : V} {x y : PyData} (hb : Base m H) (hf : ∀ a ∈ G, H a ≠ none) (hn : H q = none) (r1 : Rep K (Bh m G H) v x) (r2 : Rep K (Bh m G H) w y) :
    Rep K (Bh m G (upd H q (.tup [v, w]))) (.ref q) (.tuple [x, y]) :=
  .tup (hid_some.mpr ⟨hS_false.mpr ⟨hb.s0 hn, fun z => hf q z hn⟩, upd_same⟩) (.cons (Rep.mono (Bh.ex hb (Ext.new hn)) _ _ r1) (.cons (Rep.mono (Bh.ex hb (Ext.new hn)) _ _ r2) .nil))
theorem ri_zip {K : PySem.W.Frag} (h : RA K m ua va) : RI K m (RZ.iZipA K ua) (diZip va) := ⟨fun {σ H ρ F T R dQ} er hq k => h.run er hq fun H' vs xs e1 er1 vxs hx => by
  split at hx
  · cases vxs with
    | cons v1 vr =>
      cases vr with
      | cons v2 vr =>
        cases vr
        cases v1.rep with
        | tup hp ha =>
          cases v2.rep with
          | tup hp2 ha2 =>
            rename_i a1 ws1 a2 ws2
            refine ⟨a1, a2, ws1, ws2, rfl, .inr ⟨Ex.ofBh.stt hp, Ex.ofBh.stt hp2, k H' _ _ e1 er1 (fun G' H2 z hb hf i => ⟨fun hi => ⟨ws1, ws2, Ex.ofBh.stt (z _ _ hp), Ex.ofBh.stt (z _ _ hp2), ?_⟩, fun x hx => ?_⟩) hx⟩⟩
            · rw [ha.length, ha2.length]
              exact zipD_len _ _ _ hi
            · obtain ⟨x1, x2, g1, g2, rfl⟩ := zipD_get hx
              obtain ⟨w1, hw1, r1⟩ := ha.get g1
              obtain ⟨w2, hw2, r2⟩ := ha2.get g2
              refine ⟨⟨ws1, ws2, w1, w2, Ex.ofBh.stt (z _ _ hp), Ex.ofBh.stt (z _ _ hp2), hw1, hw2⟩, fun v H3 hy => ?_⟩
              obtain ⟨q, y1, y2, rfl, hn, rfl, f1, f2⟩ := hy
              have f1 := f1 ws1 (Ex.ofBh.stt (z _ _ hp))
              have f2 := f2 ws2 (Ex.ofBh.stt (z _ _ hp2))
              rw [hw1] at f1
              rw [hw2] at f2
              cases f1
              cases f2
              exact ⟨Ex.new hn, new_pair hb hf hn (Rep.mono z _ _ r1) (Rep.mono z _ _ r2)⟩
  · cases vxs with
    | cons v1 vr =>
      cases vr with
      | cons v2 vr =>
        cases vr
        cases v1.rep with
        | lst hp ha =>
          cases v2.rep with
          | lst hp2 ha2 =>
            rename_i a1 ws1 a2 ws2
            have q1 : ∀ {G' : List Addr} {H2 : Hp}, Ex (Bh m (F ++ T) H') (Bh m G' H2) → SqL K H2 a1 ws1 := fun z => SqL.of (hid_some.mp (z _ _ hp)).2
            have q2 : ∀ {G' : List Addr} {H2 : Hp}, Ex (Bh m (F ++ T) H') (Bh m G' H2) → SqL K H2 a2 ws2 := fun z => SqL.of (hid_some.mp (z _ _ hp2)).2
            refine ⟨a1, a2, ws1, ws2, rfl, .inl ⟨SqL.of (hid_some.mp hp).2, SqL.of (hid_some.mp hp2).2, k H' _ _ e1 er1 (fun G' H2 z hb hf i => ⟨fun hi => ⟨ws1, ws2, q1 z, q2 z, ?_⟩, fun x hx => ?_⟩) hx⟩⟩
            · rw [ha.length, ha2.length]
              exact zipD_len _ _ _ hi
            · obtain ⟨x1, x2, g1, g2, rfl⟩ := zipD_get hx
              obtain ⟨w1, hw1, r1⟩ := ha.get g1
              obtain ⟨w2, hw2, r2⟩ := ha2.get g2
              refine ⟨⟨ws1, ws2, w1, w2, q1 z, q2 z, hw1, hw2⟩, fun v H3 hy => ?_⟩
              obtain ⟨q, y1, y2, rfl, hn, rfl, f1, f2⟩ := hy
              have f1 := f1 ws1 (q1 z)
              have f2 := f2 ws2 (q2 z)
              rw [hw1] at f1
              rw [hw2] at f2
              cases f1
              cases f2
              exact ⟨Ex.new hn, new_pair hb hf hn (Rep.mono z _ _ r1) (Rep.mono z _ _ r2)⟩
  · exact hx.elim⟩
theorem i_zip {e e2 : Expr} {tpos : Pos} {elts : List Expr} {kk : Nat} (hg : Gl X "zip") (hm : X.mg "zip" = none) (ha : DPA X m [e, e2] ua va) (hs : starEach [e, e2] X.env = (false, eval e X.env) :: starEach [e2] X.env := by rfl) (hpl : (backTo pos (starEach [e2] X.env)).any (·.1) = false := by rfl) :
    DPI X m (.Tuple elts kk tpos) (.Call (.Name "zip" p) [e, e2] [] pos) (RZ.iZipA X.K ua) (diZip va) := ⟨RZ.pi_zipA hg hm ha.pa hs hpl, ri_zip ha.ra⟩

/-! ### comprehensions -/
structure DPTs (X : Cx) (m : Am) (ifs : List Expr) (tt : TT) (dt : DT) : Prop where
  pt : PTs X ifs tt
  rt : RT X.K m tt dt
def dYes : DT := fun _ Q => Q true
theorem rt_yes {K : PySem.W.Frag} : RT K m tYes dYes := ⟨fun {σ H ρ F T Q dQ} er hq k => k H true (Ext.refl _ _) er hq⟩
theorem ts_nil : DPTs X m [] tYes dYes := ⟨pts_nil, rt_yes⟩
theorem ts_one (h : DPT X m a tt dt) : DPTs X m [a] tt dt := ⟨pts_one h.pt, h.rt⟩
def dLcL (g : DG) (dt : DT) (de : DE) (ρ0 : DEnv) : List PyData → List PyData → (List PyData → Prop) → Prop
  | [], acc, Q => Q acc
  | x :: xs, acc, Q => g x ρ0 fun ρ' => dt ρ' fun b => if b = true then de ρ' fun y => match y with
      | .d y => acc.length < sizeLine ∧ dLcL g dt de ρ0 xs (acc ++ [y]) Q
      | _ => False
    else dLcL g dt de ρ0 xs acc Q
def dLc (di : DI) (g : DG) (dt : DT) (de : DE) (vs : List Nat) : DN := fun ρ Q => di ρ fun xs => dLcL g dt de (wipeD ρ vs) xs [] fun ys => Q (ys.map OV.d)
theorem wipe_comm (σ : L2.St) (w : Nat) : ∀ vs : List Nat, L2.wipe (σ.set w none) vs = (L2.wipe σ vs).set w none
  | [] => rfl
  | v :: vs => by
    show (L2.wipe (σ.set w none) vs).set v none = ((L2.wipe σ vs).set v none).set w none
    rw [wipe_comm σ w vs]
    by_cases h : w = v
    · rw [h]
    · exact List.set_comm _ _ h
theorem wipe_idem (σ : L2.St) : ∀ vs : List Nat, L2.wipe (L2.wipe σ vs) vs = L2.wipe σ vs
  | [] => rfl
  | v :: vs => by
    show (L2.wipe ((L2.wipe σ vs).set v none) vs).set v none = (L2.wipe σ vs).set v none
    rw [wipe_comm, wipe_idem σ vs, List.set_set]
theorem rn_lc {K : PySem.W.Frag} {vs : List Nat} (hi : RI K m wi di) (hg : RG K m g dg js) (ht : RT K m tt dt) (he : RE K m te de) (hj : ∀ j ∈ js, j ∈ vs) : RN K m (tLc wi g tt te vs) (dLc di dg dt de vs) := ⟨fun {σ H ρ F T Q dQ} er hq k => hi.run er hq fun H1 J xs e1 er1 it hx D hD => by
  have er2 := er1.own (o := .lst []) hD
  refine ⟨fun i n H' => n = xs.length - i ∧ ∃ acc us, H' D = some (.lst us) ∧ RepAll K (Bh m (F ++ (T ++ [D])) H') us acc ∧ ER K m σ H' ρ F (T ++ [D]) ∧ Ext m.P H1 H' ∧
    dLcL dg dt de (wipeD ρ vs) (xs.drop i) acc (fun ys => dQ (ys.map OV.d)), ⟨xs.length, rfl, [], [], upd_same, .nil, er2, Ext.new hD, hx⟩, ?_⟩
  rintro i n H' ⟨rfl, acc, us, hDl, ra, er', e2, hl⟩
  have zH : Ex (Bh m (F ++ T) H1) (Bh m (F ++ (T ++ [D])) H') := Bh.go er1.base e2 fun a ha => by
    rw [← List.append_assoc] at ha
    rcases List.mem_append.mp ha with z | z
    · exact .inl z
    · rw [List.mem_singleton.mp z]
      exact .inr hD
  have it' := it _ H' zH er'.base (fun a ha => (er'.fresh a ha).2) i
  by_cases hlt : i < xs.length
  · have hd : xs.drop i = xs[i] :: xs.drop (i + 1) := List.drop_eq_getElem_cons hlt
    rw [hd] at hl
    obtain ⟨go, yl⟩ := it'.2 xs[i] (List.getElem?_eq_getElem hlt)
    refine .inr ⟨go, fun H2 => ∃ acc us, H2 D = some (.lst us) ∧ RepAll K (Bh m (F ++ (T ++ [D])) H2) us acc ∧ ER K m σ H2 ρ F (T ++ [D]) ∧ Ext m.P H1 H2 ∧
      dLcL dg dt de (wipeD ρ vs) (xs.drop (i + 1)) acc (fun ys => dQ (ys.map OV.d)), fun H2 ⟨acc, us, h1, h2, h3, h4, h5⟩ => ⟨xs.length - (i + 1), by omega, rfl, acc, us, h1, h2, h3, h4, h5⟩, fun v H2 hy => ?_⟩
    obtain ⟨e3, r3⟩ := yl v H2 hy
    have po2 : PotOk m.P H2 := fun q hq => by
      obtain ⟨x, y, z, e, i⟩ := er'.base.pot q hq
      exact ⟨x, y, z, e3 q _ e, i⟩
    have erH2 := er'.step (Ext.of_ex e3) po2
    obtain ⟨Fw, Tw, erw, pw⟩ := erH2.wipe vs
    refine hg.run erw (Rep.mono (Bh.perm pw.symm) _ _ r3) hl fun σ3 ρ3 F3 T3 er3 p3 w3 h3 => ⟨by rw [w3 vs hj]; exact wipe_idem σ vs, ht.run er3 h3 fun H4 b e4 er4 h4 => ?_⟩
    have p3' : List.Perm (F3 ++ T3) (F ++ (T ++ [D])) := p3.trans pw
    have hD4 : ∀ {Hx : Hp}, Ext m.P H2 Hx → Hx D = some (.lst us) := fun e => by
      have h1 := erH2.keepF e (List.mem_append_right F (List.mem_append_right T List.mem_cons_self))
      rw [h1]
      exact e3 D _ hDl
    cases b with
    | true =>
      refine he.run er4 h4 fun H5 w y e5 er5 vy h5 => ?_
      split at h5
      · rename_i y
        obtain ⟨hsz, h5⟩ := h5
        have e25 : Ext m.P H2 H5 := e4.trans e5
        have e15 : Ext m.P H1 H5 := (e2.trans (Ext.of_ex e3)).trans e25
        have er5' := erH2.step e25 er5.base.pot
        have hDm : D ∈ T ++ [D] := List.mem_append_right _ List.mem_cons_self
        have er6 := er5'.wr (o := .lst (us ++ [w])) hDm
        have zz : Ex (Bh m (F ++ (T ++ [D])) H5) (Bh m (F ++ (T ++ [D])) (upd H5 D (.lst (us ++ [w])))) := Bh.chg (fun a ha => .inl ha) fun a ha _ => upd_ne fun z => ha (by rw [z]; exact List.mem_append_right _ hDm)
        refine ⟨us, hD4 e25, by rw [ra.length]; exact hsz, acc ++ [y], us ++ [w], upd_same, ?_, er6, ?_, h5⟩
        · refine RepAll.append (RepAll.mono (Ex.trans (Bh.ex er'.base ((Ext.of_ex e3).trans e25)) zz) _ _ ra) (.cons (Rep.mono (Ex.trans (Bh.perm p3') zz) _ _ vy.rep) .nil)
        · exact e15.mut hD
      · exact h5.elim
    | false =>
      have e24 : Ext m.P H1 H4 := (e2.trans (Ext.of_ex e3)).trans e4
      exact ⟨acc, us, hD4 e4, RepAll.mono (Bh.ex er'.base ((Ext.of_ex e3).trans e4)) _ _ ra, erH2.step e4 er4.base.pot, e24, h4⟩
  · have hd : xs.drop i = [] := List.drop_of_length_le (by omega)
    rw [hd] at hl
    refine .inl ⟨it'.1 (by omega), k H' (.ref D) _ [D] (e1.trans e2) (fun a ha => ?_) er' (.lst hDl (OwnAll.plain ra)) hl⟩
    rw [List.mem_singleton.mp ha]
    exact Ext.back er1.base.pot e1 hD⟩
end
end DL

/-! ==== DL8 ==== -/
set_option Elab.async false
set_option linter.all false
set_option maxRecDepth 100000
set_option maxHeartbeats 4000000
namespace DL
open PySem PySem.Spec PyProof.Rows L2

section
variable {X : Cx} {m : Am} {tg a b c e elt iter : Expr} {es ifs : List Expr} {pos p : Pos} {t u : TS} {ds du : DS} {te ti to : TE} {de dO : DE} {tt : TT} {dt : DT} {st : Stmt} {rest sts body : List Stmt} {dn : DN} {wi : TI} {di : DI} {g : TG} {dg : DG} {js : List Nat} {ua : TA} {va : DA}
variable {scope : Scope} {own : List (Str × Nat)}
theorem n_lc (hc : X.calm = true) (hN : X.N.Nodup) (hi : DPI X m tg iter wi di) (ok : BlkOk X.N X.env.scope scope own)
    (hg : ∀ (s : Shared) (H : Hp) (C : Addr) (cl : List (Str × Addr)) (fp : List Addr), DPG (X.blk s H scope (compEnvC scope cl C X.env) fp) m tg g dg js) (ht : ∀ (s : Shared) (H : Hp) (C : Addr) (cl : List (Str × Addr)) (fp : List Addr), DPTs (X.blk s H scope (compEnvC scope cl C X.env) fp) m ifs tt dt)
    (he : ∀ (s : Shared) (H : Hp) (C : Addr) (cl : List (Str × Addr)) (fp : List Addr), DPE (X.blk s H scope (compEnvC scope cl C X.env) fp) m elt te de) (hj : ∀ j ∈ js, j ∈ own.map (·.2) := by decide) (hs : ∀ x, foldedSetIterable iter X.env x = pure x := by intro _; rfl) :
    DPN X m (.ListComp elt [⟨tg, iter, ifs, 0⟩] scope pos) (tLc wi g tt te (own.map (·.2))) (dLc di dg dt de (own.map (·.2))) :=
  ⟨pe_lc hc hN hi.pi ok (fun s H C cl fp => (hg s H C cl fp).pg) (fun s H C cl fp => (ht s H C cl fp).pt) (fun s H C cl fp => (he s H C cl fp).pe) hs,
    rn_lc hi.ri (hg X.s_0 X.H_0 0 [] []).rg (ht X.s_0 X.H_0 0 [] []).rt (he X.s_0 X.H_0 0 [] []).re hj⟩
/-- x = [..] on one line -/
theorem s_setLc {i : Nat} {y : Str} {py spos : Pos} (hc : X.calm = true) (hN : X.N.Nodup) (hi : DPI X m tg iter wi di) (ok : BlkOk X.N X.env.scope scope own)
    (hg : ∀ (s : Shared) (H : Hp) (C : Addr) (cl : List (Str × Addr)) (fp : List Addr), DPG (X.blk s H scope (compEnvC scope cl C X.env) fp) m tg g dg js) (ht : ∀ (s : Shared) (H : Hp) (C : Addr) (cl : List (Str × Addr)) (fp : List Addr), DPTs (X.blk s H scope (compEnvC scope cl C X.env) fp) m ifs tt dt)
    (he : ∀ (s : Shared) (H : Hp) (C : Addr) (cl : List (Str × Addr)) (fp : List Addr), DPE (X.blk s H scope (compEnvC scope cl C X.env) fp) m elt te de) (hj : ∀ j ∈ js, j ∈ own.map (·.2) := by decide)
    (hsw : swapsWith (.ListComp elt [⟨tg, iter, ifs, 0⟩] scope pos) (some (.Name y py)) spos.line X.env = pure true := by exact sw_true rfl rfl rfl (by decide +kernel)) (hy : X.N[i]? = some y := by rfl) (hyl : X.env.scope.names.lookup y = some .local := by rfl) (hs : ∀ x, foldedSetIterable iter X.env x = pure x := by intro _; rfl) :
    DPS X m (.Assign [.Name y py] (.ListComp elt [⟨tg, iter, ifs, 0⟩] scope pos) spos) (tAsg (tLc wi g tt te (own.map (·.2))) (gName i)) (dSet i (dNE (dLc di dg dt de (own.map (·.2))))) :=
  ⟨ps_setLc hc hN hy hyl hsw hi.pi ok (fun s H C cl fp => (hg s H C cl fp).pg) (fun s H C cl fp => (ht s H C cl fp).pt) (fun s H C cl fp => (he s H C cl fp).pe) hs,
    rs_set (re_new (rn_lc hi.ri (hg X.s_0 X.H_0 0 [] []).rg (ht X.s_0 X.H_0 0 [] []).rt (he X.s_0 X.H_0 0 [] []).re hj))⟩
theorem s_setLcN {i : Nat} {y : Str} {py spos : Pos} (hc : X.calm = true) (hN : X.N.Nodup) (hi : DPI X m tg iter wi di) (ok : BlkOk X.N X.env.scope scope own)
    (hg : ∀ (s : Shared) (H : Hp) (C : Addr) (cl : List (Str × Addr)) (fp : List Addr), DPG (X.blk s H scope (compEnvC scope cl C X.env) fp) m tg g dg js) (ht : ∀ (s : Shared) (H : Hp) (C : Addr) (cl : List (Str × Addr)) (fp : List Addr), DPTs (X.blk s H scope (compEnvC scope cl C X.env) fp) m ifs tt dt)
    (he : ∀ (s : Shared) (H : Hp) (C : Addr) (cl : List (Str × Addr)) (fp : List Addr), DPE (X.blk s H scope (compEnvC scope cl C X.env) fp) m elt te de) (hj : ∀ j ∈ js, j ∈ own.map (·.2) := by decide)
    (hsw : swapsWith (.ListComp elt [⟨tg, iter, ifs, 0⟩] scope pos) (some (.Name y py)) spos.line X.env = pure true := by exact sw_true rfl rfl rfl (by decide +kernel)) (hy : X.N[i]? = some y := by rfl) (hyl : X.env.scope.names.lookup y = some .local := by rfl) (hs : ∀ x, foldedSetIterable iter X.env x = pure x := by intro _; rfl) :
    DPS X m (.Assign [.Name y py] (.ListComp elt [⟨tg, iter, ifs, 0⟩] scope pos) spos) (tAsg (tLc wi g tt te (own.map (·.2))) (gName i)) (dSetN i (dLc di dg dt de (own.map (·.2)))) :=
  ⟨ps_setLc hc hN hy hyl hsw hi.pi ok (fun s H C cl fp => (hg s H C cl fp).pg) (fun s H C cl fp => (ht s H C cl fp).pt) (fun s H C cl fp => (he s H C cl fp).pe) hs,
    rs_setN (rn_lc hi.ri (hg X.s_0 X.H_0 0 [] []).rg (ht X.s_0 X.H_0 0 [] []).rt (he X.s_0 X.H_0 0 [] []).re hj)⟩

/-! ### a list of new own lists -/
def dLcNL (g : DG) (dt : DT) (dn : DN) (ρ0 : DEnv) : List PyData → List OV → (List OV → Prop) → Prop
  | [], acc, Q => Q acc
  | x :: xs, acc, Q => g x ρ0 fun ρ' => dt ρ' fun b => if b = true then dn ρ' fun ys => acc.length < sizeLine ∧ dLcNL g dt dn ρ0 xs (acc ++ [.lst ys]) Q
    else dLcNL g dt dn ρ0 xs acc Q
def dLcN (di : DI) (g : DG) (dt : DT) (dn : DN) (vs : List Nat) : DN := fun ρ Q => di ρ fun xs => dLcNL g dt dn (wipeD ρ vs) xs [] Q
theorem ER.join {K : PySem.W.Frag} {σ σ5 : L2.St} {H H5 : Hp} {ρ ρ5 : DEnv} {F T F5 T5 fq : List Addr} (er : ER K m σ H ρ F T) (er5 : ER K m σ5 H5 ρ5 F5 (T5 ++ fq)) (p : List.Perm (F5 ++ T5) (F ++ T)) (e : Ext m.P H H5) (hf : ∀ a ∈ fq, H a = none) :
    ER K m σ H5 ρ F (T ++ fq) := by
  have p2 : List.Perm (F5 ++ (T5 ++ fq)) (F ++ (T ++ fq)) := by
    rw [← List.append_assoc, ← List.append_assoc]
    exact p.append_right fq
  refine ⟨er5.base, er.slots.same (Bh.go er.base e fun a ha => ?_) (fun a ha => er.keepF e (List.mem_append_left _ ha)), p2.nodup_iff.mp er5.nd, fun a ha => er5.fresh a (p2.mem_iff.mpr ha)⟩
  rw [← List.append_assoc] at ha
  rcases List.mem_append.mp ha with z | z
  · exact .inl z
  · exact .inr (hf a z)
theorem rn_lcN {K : PySem.W.Frag} {vs : List Nat} (hi : RI K m wi di) (hg : RG K m g dg js) (ht : RT K m tt dt) (he : RN K m te dn) (hj : ∀ j ∈ js, j ∈ vs) : RN K m (tLc wi g tt te vs) (dLcN di dg dt dn vs) := ⟨fun {σ H ρ F T Q dQ} er hq k => hi.run er hq fun H1 J xs e1 er1 it hx D hD => by
  have er2 := er1.own (o := .lst []) hD
  refine ⟨fun i n H' => n = xs.length - i ∧ ∃ acc us fps, H' D = some (.lst us) ∧ OwnAll K m (Bh m (F ++ (T ++ (D :: fps))) H') H' us acc fps ∧ ER K m σ H' ρ F (T ++ (D :: fps)) ∧ Ext m.P H1 H' ∧ (∀ a ∈ fps, H1 a = none) ∧
    dLcNL dg dt dn (wipeD ρ vs) (xs.drop i) acc dQ, ⟨xs.length, rfl, [], [], [], upd_same, .nil, er2, Ext.new hD, fun a z => (nomatch z), hx⟩, ?_⟩
  rintro i n H' ⟨rfl, acc, us, fps, hDl, ra, er', e2, hf1, hl⟩
  have zH : Ex (Bh m (F ++ T) H1) (Bh m (F ++ (T ++ (D :: fps))) H') := Bh.go er1.base e2 fun a ha => by
    rw [← List.append_assoc] at ha
    rcases List.mem_append.mp ha with z | z
    · exact .inl z
    · rcases List.mem_cons.mp z with z | z
      · exact .inr (by rw [z]; exact hD)
      · exact .inr (hf1 a z)
  have it' := it _ H' zH er'.base (fun a ha => (er'.fresh a ha).2) i
  by_cases hlt : i < xs.length
  · have hd : xs.drop i = xs[i] :: xs.drop (i + 1) := List.drop_eq_getElem_cons hlt
    rw [hd] at hl
    obtain ⟨go, yl⟩ := it'.2 xs[i] (List.getElem?_eq_getElem hlt)
    refine .inr ⟨go, fun H2 => ∃ acc us fps, H2 D = some (.lst us) ∧ OwnAll K m (Bh m (F ++ (T ++ (D :: fps))) H2) H2 us acc fps ∧ ER K m σ H2 ρ F (T ++ (D :: fps)) ∧ Ext m.P H1 H2 ∧ (∀ a ∈ fps, H1 a = none) ∧
      dLcNL dg dt dn (wipeD ρ vs) (xs.drop (i + 1)) acc dQ, fun H2 ⟨acc, us, fps, h1, h2, h3, h4, h5, h6⟩ => ⟨xs.length - (i + 1), by omega, rfl, acc, us, fps, h1, h2, h3, h4, h5, h6⟩, fun v H2 hy => ?_⟩
    obtain ⟨e3, r3⟩ := yl v H2 hy
    have po2 : PotOk m.P H2 := fun q hq => by
      obtain ⟨x, y, z, e, i⟩ := er'.base.pot q hq
      exact ⟨x, y, z, e3 q _ e, i⟩
    have erH2 := er'.step (Ext.of_ex e3) po2
    obtain ⟨Fw, Tw, erw, pw⟩ := erH2.wipe vs
    refine hg.run erw (Rep.mono (Bh.perm pw.symm) _ _ r3) hl fun σ3 ρ3 F3 T3 er3 p3 w3 h3 => ⟨by rw [w3 vs hj]; exact wipe_idem σ vs, ht.run er3 h3 fun H4 b e4 er4 h4 => ?_⟩
    have p3' : List.Perm (F3 ++ T3) (F ++ (T ++ (D :: fps))) := p3.trans pw
    have hDm : D ∈ T ++ (D :: fps) := List.mem_append_right _ List.mem_cons_self
    have kp : ∀ {Hx : Hp}, Ext m.P H2 Hx → ∀ a ∈ D :: fps, Hx a = H' a := fun e a ha => by
      have ha2 : a ∈ F ++ (T ++ (D :: fps)) := List.mem_append_right F (List.mem_append_right T ha)
      rw [erH2.keepF e ha2, er'.keepF (Ext.of_ex e3) ha2]
    have ndD := (List.nodup_append.mp (List.nodup_append.mp er'.nd).2.1).2.1
    cases b with
    | true =>
      refine he.run er4 h4 fun H5 w ys fq e5 hf5 er5 ow h5 => ?_
      obtain ⟨hsz, h5⟩ := h5
      have e25 : Ext m.P H2 H5 := e4.trans e5
      have e15 : Ext m.P H1 H5 := (e2.trans (Ext.of_ex e3)).trans e25
      have hfq : ∀ a ∈ fq, H2 a = none := fun a ha => Ext.back er4.base.pot e4 (hf5 a ha)
      have hfq1 : ∀ a ∈ fq, H1 a = none := fun a ha => Ext.back po2 (e2.trans (Ext.of_ex e3)) (hfq a ha)
      have erJ := erH2.join er5 p3' e25 hfq
      have eqT : (T ++ (D :: fps)) ++ fq = T ++ (D :: (fps ++ fq)) := by rw [List.append_assoc]; rfl
      rw [eqT] at erJ
      have hDm' : D ∈ T ++ (D :: (fps ++ fq)) := List.mem_append_right _ List.mem_cons_self
      have er6 := erJ.wr (o := .lst (us ++ [w])) hDm'
      have zz : Ex (Bh m (F ++ (T ++ (D :: (fps ++ fq)))) H5) (Bh m (F ++ (T ++ (D :: (fps ++ fq)))) (upd H5 D (.lst (us ++ [w])))) := Bh.chg (fun a ha => .inl ha) fun a ha _ => upd_ne fun z => ha (by rw [z]; exact List.mem_append_right _ hDm')
      have z25 : Ex (Bh m (F ++ (T ++ (D :: fps))) H') (Bh m (F ++ (T ++ (D :: (fps ++ fq)))) H5) := Ex.trans (Bh.ex er'.base (Ext.of_ex e3)) (Bh.go erH2.base e25 fun a ha => by
        rw [← eqT, ← List.append_assoc] at ha
        rcases List.mem_append.mp ha with z | z
        · exact .inl z
        · exact .inr (hfq a z))
      have p5 : List.Perm (F3 ++ (T3 ++ fq)) (F ++ (T ++ (D :: (fps ++ fq)))) := by
        rw [← eqT, ← List.append_assoc, ← List.append_assoc F]
        exact p3'.append_right fq
      have dq : ∀ a ∈ fq, a ≠ D := fun a ha z => by
        have h1 := (erH2.fresh D (List.mem_append_right _ hDm)).2
        rw [z] at ha
        exact h1 (hfq D ha)
      have df : ∀ a ∈ fps, a ≠ D := fun a ha z => (List.nodup_cons.mp ndD).1 (by rw [← z]; exact ha)
      refine ⟨us, by rw [kp e25 D List.mem_cons_self]; exact hDl, by rw [ra.len]; exact hsz, acc ++ [.lst ys], us ++ [w], fps ++ fq, upd_same, ?_, er6, e15.mut hD, fun a ha => ?_, h5⟩
      · refine OwnAll.app (OwnAll.same (Ex.trans z25 zz) _ _ _ (fun a ha => ?_) ra) (OwnAll.one (Own.same (Ex.trans (Bh.perm p5) zz) _ _ _ (fun a ha => upd_ne (dq a ha)) ow))
        rw [upd_ne (df a ha)]
        exact kp e25 a (List.mem_cons_of_mem _ ha)
      · rcases List.mem_append.mp ha with z | z
        · exact hf1 a z
        · exact hfq1 a z
    | false =>
      have e24 : Ext m.P H1 H4 := (e2.trans (Ext.of_ex e3)).trans e4
      refine ⟨acc, us, fps, by rw [kp e4 D List.mem_cons_self]; exact hDl, OwnAll.same (Bh.ex er'.base ((Ext.of_ex e3).trans e4)) _ _ _ (fun a ha => kp e4 a (List.mem_cons_of_mem _ ha)) ra, erH2.step e4 er4.base.pot, e24, hf1, h4⟩
  · have hd : xs.drop i = [] := List.drop_of_length_le (by omega)
    rw [hd] at hl
    refine .inl ⟨it'.1 (by omega), k H' (.ref D) _ (D :: fps) (e1.trans e2) (fun a ha => ?_) er' (.lst hDl ra) hl⟩
    rcases List.mem_cons.mp ha with z | z
    · rw [z]
      exact Ext.back er1.base.pot e1 hD
    · exact Ext.back er1.base.pot e1 (hf1 a z)⟩
theorem n_lcN (hc : X.calm = true) (hN : X.N.Nodup) (hi : DPI X m tg iter wi di) (ok : BlkOk X.N X.env.scope scope own)
    (hg : ∀ (s : Shared) (H : Hp) (C : Addr) (cl : List (Str × Addr)) (fp : List Addr), DPG (X.blk s H scope (compEnvC scope cl C X.env) fp) m tg g dg js) (ht : ∀ (s : Shared) (H : Hp) (C : Addr) (cl : List (Str × Addr)) (fp : List Addr), DPTs (X.blk s H scope (compEnvC scope cl C X.env) fp) m ifs tt dt)
    (he : ∀ (s : Shared) (H : Hp) (C : Addr) (cl : List (Str × Addr)) (fp : List Addr), DPN (X.blk s H scope (compEnvC scope cl C X.env) fp) m elt te dn) (hj : ∀ j ∈ js, j ∈ own.map (·.2) := by decide) (hs : ∀ x, foldedSetIterable iter X.env x = pure x := by intro _; rfl) :
    DPN X m (.ListComp elt [⟨tg, iter, ifs, 0⟩] scope pos) (tLc wi g tt te (own.map (·.2))) (dLcN di dg dt dn (own.map (·.2))) :=
  ⟨pe_lc hc hN hi.pi ok (fun s H C cl fp => (hg s H C cl fp).pg) (fun s H C cl fp => (ht s H C cl fp).pt) (fun s H C cl fp => (he s H C cl fp).pe) hs,
    rn_lcN hi.ri (hg X.s_0 X.H_0 0 [] []).rg (ht X.s_0 X.H_0 0 [] []).rt (he X.s_0 X.H_0 0 [] []).rn hj⟩
theorem s_setLcNN {i : Nat} {y : Str} {py spos : Pos} (hc : X.calm = true) (hN : X.N.Nodup) (hi : DPI X m tg iter wi di) (ok : BlkOk X.N X.env.scope scope own)
    (hg : ∀ (s : Shared) (H : Hp) (C : Addr) (cl : List (Str × Addr)) (fp : List Addr), DPG (X.blk s H scope (compEnvC scope cl C X.env) fp) m tg g dg js) (ht : ∀ (s : Shared) (H : Hp) (C : Addr) (cl : List (Str × Addr)) (fp : List Addr), DPTs (X.blk s H scope (compEnvC scope cl C X.env) fp) m ifs tt dt)
    (he : ∀ (s : Shared) (H : Hp) (C : Addr) (cl : List (Str × Addr)) (fp : List Addr), DPN (X.blk s H scope (compEnvC scope cl C X.env) fp) m elt te dn) (hj : ∀ j ∈ js, j ∈ own.map (·.2) := by decide)
    (hsw : swapsWith (.ListComp elt [⟨tg, iter, ifs, 0⟩] scope pos) (some (.Name y py)) spos.line X.env = pure true := by exact sw_true rfl rfl rfl (by decide +kernel)) (hy : X.N[i]? = some y := by rfl) (hyl : X.env.scope.names.lookup y = some .local := by rfl) (hs : ∀ x, foldedSetIterable iter X.env x = pure x := by intro _; rfl) :
    DPS X m (.Assign [.Name y py] (.ListComp elt [⟨tg, iter, ifs, 0⟩] scope pos) spos) (tAsg (tLc wi g tt te (own.map (·.2))) (gName i)) (dSetN i (dLcN di dg dt dn (own.map (·.2)))) :=
  ⟨ps_setLc hc hN hy hyl hsw hi.pi ok (fun s H C cl fp => (hg s H C cl fp).pg) (fun s H C cl fp => (ht s H C cl fp).pt) (fun s H C cl fp => (he s H C cl fp).pe) hs,
    rs_setN (rn_lcN hi.ri (hg X.s_0 X.H_0 0 [] []).rg (ht X.s_0 X.H_0 0 [] []).rt (he X.s_0 X.H_0 0 [] []).rn hj)⟩
end

/-! ## a def -/
def startD (N : List Str) (xs : List OV) : DEnv := xs.map some ++ List.replicate (N.length - xs.length) none
def Rof (N : List Str) (n : Nat) (ds : DS) : DF := fun xs Q => xs.length = n ∧ ds { nx := fun _ => Q .none, rt := Q } (startD N xs)
theorem Slots.rep {K : PySem.W.Frag} {m : Am} {B H : Hp} : ∀ n : Nat, Slots K m B H (List.replicate n none) (List.replicate n none) []
  | 0 => .nil
  | n + 1 => .un (Slots.rep n)
theorem Slots.start {K : PySem.W.Frag} {m : Am} {B B' H : Hp} (e : Ex B B') (n : Nat) : ∀ {vs : List V} {xs : List OV}, ArgsR K m B vs xs → Slots K m B' H (vs.map some ++ List.replicate n none) (xs.map some ++ List.replicate n none) []
  | _, _, .nil => Slots.rep n
  | _, _, .d r h => Slots.val (fp := []) (.d (Rep.mono e _ _ r)) (Slots.start e n h)
  | _, _, .pot r h => Slots.val (fp := []) (.pot r) (Slots.start e n h)
theorem Fun.dok {P : Program} {w : World} {K : PySem.W.Frag} {mg : Str → Option Value} {base : Heap} {x qual : Str} {st : Stmt} {f : Addr} {fd : FuncData} {N ps : List Str} {k : Nat} {ds : DS} (F : L2.Fun K x qual st f fd) (S : FnScope N ps (defScope st))
    (hb : ∀ (m : Am) (cdv : Value) (A : Around) (outer : List Env) (s : Shared) (H : Hp) (E : XK), Rm k (A.deeper (envOfC qual (defScope st) s.heap.objs.size f cdv)) → ∃ t, DPSs ((cxOf CX0 P w K mg base N qual (defScope st) f cdv A outer s H E).nox) m (defBody st) t ds) :
    FnG P w K mg base CX0 (k + 1) f fd ps (dsp K (Rof N ps.length ds)) := by
  refine g_def F S (fun vs H Q E h => ?_) (fun cdv A outer s H vs Q E hr hgd h => ?_)
  · obtain ⟨m, xs, _, _, ha, Pq, hR, _⟩ := h
    rw [ha.length]
    exact hR.1
  · obtain ⟨m, xs, e0, hbs, ha, Pq, ⟨hlen, hds⟩, hQ⟩ := h
    obtain ⟨t, ht⟩ := hb m cdv A outer s H E ⟨hr, hgd⟩
    refine ⟨t, ht.ps.nox, ?_⟩
    have er : ER K m (L2.start N vs) H (startD N xs) [] [] := by
      refine ⟨hbs, ?_, List.nodup_nil, fun a z => (nomatch z)⟩
      unfold L2.start startD
      rw [ha.length]
      exact Slots.start (fun a o q => by
        obtain ⟨h1, h2⟩ := hid_some.mp q
        exact hid_some.mpr ⟨hS_false.mpr ⟨h1, fun z => nomatch z⟩, h2⟩) _ ha
    refine ht.rs.run (dD := { nx := fun _ => Pq .none, rt := Pq }) er hds ⟨fun σ' H' ρ' F' er' _ hn => ?_, fun _ _ _ _ _ _ h => h, fun _ _ _ _ _ _ h => h, fun H' v r hb' rp hr' => ?_⟩
    · exact hQ .none hn H' .non (by have := er'.base.ext; rw [e0] at this; exact this) er'.base.pot .non
    · exact hQ r hr' H' v (by have := hb'.ext; rw [e0] at this; exact this) hb'.pot rp
end DL

/-! ==== DLT ==== -/
set_option Elab.async false
set_option linter.all false
set_option maxRecDepth 100000
set_option maxHeartbeats 4000000
namespace DL
open PySem PySem.Spec PyProof.Rows L2
/-! ## a tuple so many times, any number -/
theorem tmul_same (l : Addr) (its : Array Value) (n : Nat) (dd : Option Addr) (sl : Array (Option Value)) (x : Int) (u : Tok) (h0 : (decide (x < -(2 ^ 63)) || decide (x ≥ 2 ^ 63)) = false) (h1 : (its.isEmpty || x == 1) = true) :
    Meets (Builtin.«tuple.__mul__» ⟨[.ref l, .int x u], []⟩) (fun _ R s => s.heap.get? l = some { cls := .type "tuple", dict := dd, data := .seq its n, slots := sl } ∧ ∀ k, R (.ok (.ret (.ref l))) { s with toks := k }) :=
  .of_wp fun prog w A R s h => by
    obtain ⟨hp, g, d, tk, os⟩ := s
    obtain ⟨hl, h⟩ := h
    have f1 := AutoSeq1.idx_int
    wp_walk using wpAny_loadPart' hl
    repeat (first
      | (refine wpAny_ite_false (decide_eq_false (by rw [h0]; exact Bool.false_ne_true)) ?_; wp_walk using wpAny_loadPart' hl)
      | (refine wpAny_ite_true (decide_eq_true h1) ?_; wp_walk using wpAny_loadPart' hl))
    all_goals exact ⟨_, rfl, h _⟩
theorem tmul_none (l : Addr) (its : Array Value) (n : Nat) (dd : Option Addr) (sl : Array (Option Value)) (x : Int) (u : Tok) (h0 : (decide (x < -(2 ^ 63)) || decide (x ≥ 2 ^ 63)) = false) (h1 : (its.isEmpty || x == 1) = false) (h2 : (decide (x ≤ 0) || its.isEmpty) = true) :
    Meets (Builtin.«tuple.__mul__» ⟨[.ref l, .int x u], []⟩) (fun _ R s => s.heap.get? l = some { cls := .type "tuple", dict := dd, data := .seq its n, slots := sl } ∧ ∀ k, R (.ok (.ret (.ref s.heap.objs.size))) { s with heap := s.heap.push { cls := Value.type "tuple", data := Data.seq #[] }, toks := k }) :=
  .of_wp fun prog w A R s h => by
    obtain ⟨hp, g, d, tk, os⟩ := s
    obtain ⟨hl, h⟩ := h
    have f1 := AutoSeq1.idx_int
    wp_walk using wpAny_loadPart' hl
    repeat (first
      | (refine wpAny_ite_false (decide_eq_false (by rw [h0]; exact Bool.false_ne_true)) ?_; wp_walk using wpAny_loadPart' hl)
      | (refine wpAny_ite_false (decide_eq_false (by rw [h1]; exact Bool.false_ne_true)) ?_; wp_walk using wpAny_loadPart' hl)
      | (refine wpAny_ite_true (decide_eq_true h2) ?_; wp_walk using wpAny_loadPart' hl))
    all_goals exact ⟨_, rfl, h _⟩
/-- t * k, every way -/
def rRepA (K : PySem.W.Frag) : R2 := fun x y H Q => ∃ l k xs, x = .ref l ∧ y = .int k ∧ SqT K H l xs ∧ -1000 ≤ k ∧ k ≤ 1000 ∧ xs.length ≤ 1000 ∧ (xs = [] ∨ k = 1 → Q (.ref l) H) ∧ (xs ≠ [] → k ≤ 0 → ∀ p, H p = none → Q (.ref p) (upd H p (.tup []))) ∧
  (xs ≠ [] → 2 ≤ k → ∀ p, H p = none → Q (.ref p) (upd H p (.tup (List.replicate k.toNat xs).flatten)))
theorem op_repA {X : Cx} : OpR X (binaryOp .Mult) (rRepA X.K) := by
  intro pins s σ H x y v u Q I rx ry h
  obtain ⟨l, k, xs, rfl, rfl, hT, b1, b2, hz, q1, q2, q3⟩ := h
  by_cases c : xs ≠ [] ∧ 2 ≤ k
  · exact op_repT pins s σ H _ _ v u Q I rx ry ⟨l, k, xs, rfl, rfl, hT, c.1, c.2, b2, hz, q3 c.1 c.2⟩
  · cases rx
    obtain ⟨t, rfl⟩ := ry
    obtain ⟨its, r, ⟨⟨cls, dd, data, sl⟩, ho, hc, n, hd⟩, hs⟩ := I.tuple hT
    simp only at hc hd
    subst hc hd
    have hle : its.length = xs.length := r.length.symm
    have c0 : (decide (k < -(2 ^ 63)) || decide (k ≥ 2 ^ 63)) = false := by
      rw [decide_eq_false (by omega), decide_eq_false (by omega)] <;> rfl
    have road : ∀ {S : Around → (Result → Shared → Prop) → Shared → Prop}, Meets (Builtin.«tuple.__mul__» ⟨[.ref l, .int k t], []⟩) S → (∀ (A : Around), S A (wants (EP X pins σ Q) X.xe) s) → wpAny (model X.prog X.w) X.A (binaryOp .Mult (.ref l) (.int k t)) (EP X pins σ Q) X.xe s := fun mt hS =>
      wpAny_binaryOp_repeat_ref (T := "tuple") (U := "int") (by decide) ⟨_, ho, rfl⟩ (fun s' => typeIs_int s' k t) noFill_tuple_mul F.fills_int_mul F.slot_int_rmul repeat_tuple F.slot_int_index.lookup
        (call_meets F.slot_int_rmul (typeIs_int s k t) F.entry_int_rmul (F.args_int_rmul_2 _ _) (int_rmul_tuple k t l its.toArray n dd sl)
          ⟨ho, rfl, ⟨_, ho, rfl⟩, call_meets F.slot_tuple_mul ⟨_, ho, rfl⟩ F.entry_tuple_mul (F.args_tuple_mul_2 _ _) mt (hS _)⟩)
    by_cases c1 : xs = [] ∨ k = 1
    · have e1 : (its.toArray.isEmpty || k == 1) = true := by
        rcases c1 with c1 | c1
        · rw [c1] at hle
          rw [List.eq_nil_of_length_eq_zero hle]
          rfl
        · rw [c1]
          exact Bool.or_true _
      refine road (tmul_same l its.toArray n dd sl k t c0 e1) fun A => ⟨ho, fun tk => ?_⟩
      exact ⟨.ref l, H, I.tok tk, rfl, q1 c1⟩
    · have ne : xs ≠ [] := fun z => c1 (.inl z)
      have k0 : k ≤ 0 := by
        have n1 : ¬ k = 1 := fun z => c1 (.inr z)
        have n2 : ¬ 2 ≤ k := fun z => c ⟨ne, z⟩
        omega
      have hi : its.toArray.isEmpty = false := by
        cases its with
        | nil => exact absurd (List.eq_nil_of_length_eq_zero hle.symm) ne
        | cons a b => rfl
      refine road (tmul_none l its.toArray n dd sl k t c0 (by rw [hi, Bool.false_or]; exact beq_eq_false_iff_ne.mpr (by omega)) (by rw [decide_eq_true k0]; rfl)) fun A => ⟨ho, fun tk => ?_⟩
      refine ⟨.ref s.heap.objs.size, _, I.laid (t' := tk) (o := .tup []) (fun b ob q => Heap.get?_push_of_some _ q) (Nat.le_refl _) ?_, rfl, q2 ne k0 _ (I.hok.fresh (Nat.le_refl _))⟩
      exact ⟨Nat.zero_le _, [], .nil, IsTup.new _ _⟩
end DL

/-! ==== DL9 ==== -/
set_option Elab.async false
set_option linter.all false
set_option maxRecDepth 100000
set_option maxHeartbeats 4000000
namespace DL
open PySem PySem.Spec PyProof.Rows L2

section
variable {X : Cx} {m : Am} {a b c e o : Expr} {es : List Expr} {pos p apos : Pos} {t ta tb tc te ti to : TE} {da db dc de dO : DE} {ua ub : TA} {va vb : DA} {dn : DN}
/-! ### a * b -/
def dMul : D2 := fun x y Q => match x, y with
  | .d (.int i), .d (.int j) => CMul i j ∧ Q (.d (.int (i * j)))
  | .d (.tuple xs), .d (.int k) => (-1000 ≤ k ∧ k ≤ 1000 ∧ xs.length ≤ 1000) ∧ Q (.d (.tuple (List.replicate k.toNat xs).flatten))
  | x, .d (.int k) => ∃ xs, asList x = some xs ∧ (-(2 ^ 63) ≤ k ∧ k < 2 ^ 63) ∧ xs.length * k.toNat ≤ sizeLine ∧ Q (.d (.list (List.replicate k.toNat xs).flatten))
  | _, _ => False
theorem RepAll.flat {K : PySem.W.Frag} {H : Hp} {vs : List V} {ds : List PyData} (h : RepAll K H vs ds) : ∀ n : Nat, RepAll K H (List.replicate n vs).flatten (List.replicate n ds).flatten
  | 0 => .nil
  | n + 1 => by
    show RepAll K H (vs ++ (List.replicate n vs).flatten) (ds ++ (List.replicate n ds).flatten)
    exact h.append (RepAll.flat h n)
def rMulA (K : PySem.W.Frag) : R2 := fun x y H Q => ((∃ i j, x = .int i ∧ y = .int j ∧ CMul i j ∧ Q (.int (i * j)) H) ∨ rRep x y H Q) ∨ rRepA K x y H Q
theorem op_mulA : OpR X (binaryOp .Mult) (rMulA X.K) := (op_mul.or op_rep).or op_repA
theorem flat_nil {α : Type} : ∀ n : Nat, (List.replicate n ([] : List α)).flatten = []
  | 0 => rfl
  | n + 1 => by
    show [] ++ (List.replicate n ([] : List α)).flatten = []
    rw [flat_nil n]
    rfl
theorem r2_mul {K : PySem.W.Frag} : R2D K m (rMulA K) dMul := ⟨fun {σ H ρ F T v u x y Q dQ} er vx vy h k => by
  unfold dMul at h
  split at h
  · exact .inl (.inl ⟨_, _, vx.int, vy.int, h.1, k H _ _ (Ext.refl _ _) er (.ofInt _) h.2⟩)
  · rename_i xs n
    obtain ⟨⟨h1, h2, h3⟩, h⟩ := h
    obtain ⟨l, vs, rfl, hl, ra⟩ := vx.tuple
    rw [vy.int]
    refine .inr ⟨l, n, vs, rfl, rfl, hl, h1, h2, by rw [ra.length]; exact h3, fun c => ?_, fun _ c p hp => ?_, fun _ _ p hp => ?_⟩
    · have e : (List.replicate n.toNat xs).flatten = xs := by
        rcases c with c | c
        · subst c
          cases ra
          exact flat_nil _
        · subst c
          show xs ++ [] = xs
          exact List.append_nil _
      rw [e] at h
      exact k H _ _ (Ext.refl _ _) er vx h
    · have e : n.toNat = 0 := by omega
      rw [e] at h
      exact k _ _ _ (Ext.new hp) (er.new hp) (.newT er hp .nil) h
    · exact k _ _ _ (Ext.new hp) (er.new hp) (.newT er hp (ra.flat _)) h
  · obtain ⟨xs, e, ⟨h1, h2⟩, h3, h⟩ := h
    obtain ⟨l, vs, rfl, hl, ra⟩ := vx.list e
    rw [vy.int]
    exact .inl (.inr ⟨l, _, vs, rfl, rfl, hl, h1, h2, by rw [ra.length]; exact h3, fun p hp => k _ _ _ (Ext.new hp) (er.new hp) (.newL er hp (ra.flat _)) h⟩)
  · exact h.elim⟩
theorem d_mul (ha : DPE X m a ta da) (hb : DPE X m b tb db) : DPE X m (.BinOp a .Mult b pos) (tOp (rMulA X.K) ta tb) (dOp dMul da db) := d_op op_mulA r2_mul ha hb
/-- [..] * k, as an own list -/
def dRepN (da db : DE) : DN := fun ρ Q => da ρ fun x => db ρ fun y => match y with
  | .d (.int k) => ∃ xs, asList x = some xs ∧ (-(2 ^ 63) ≤ k ∧ k < 2 ^ 63) ∧ xs.length * k.toNat ≤ sizeLine ∧ Q ((List.replicate k.toNat xs).flatten.map OV.d)
  | _ => False
theorem n_rep (ha : DPE X m a ta da) (hb : DPE X m b tb db) : DPN X m (.BinOp a .Mult b pos) (tOp rRep ta tb) (dRepN da db) := ⟨pe_op op_rep ha.pe hb.pe, ⟨fun {σ H ρ F T Q dQ} er h k => ha.re.run er h fun H1 v x e1 er1 vx h1 => hb.re.run er1 h1 fun H2 u y e2 er2 vy h2 => by
  split at h2
  · rename_i n
    obtain ⟨xs, e, ⟨b1, b2⟩, b3, h⟩ := h2
    obtain ⟨l, vs, rfl, hl, ra⟩ := (vx.step er1 e2).list e
    rw [vy.int]
    exact ⟨l, n, vs, rfl, rfl, hl, b1, b2, by rw [ra.length]; exact b3, fun p hp => k _ _ _ [p] ((e1.trans e2).trans (Ext.new hp)) (fun a ha => by rw [List.mem_singleton.mp ha]; exact Ext.back er2.base.pot (e1.trans e2) hp) (er2.own hp) (own_new er2 hp (ra.flat _)) h⟩
  · exact h2.elim⟩⟩
/-- xs + ys, as an own list -/
def dCatN (da db : DE) : DN := fun ρ Q => da ρ fun x => db ρ fun y => ∃ xs ys, asList x = some xs ∧ asList y = some ys ∧ xs.length + ys.length ≤ sizeLine ∧ Q ((xs ++ ys).map OV.d)
theorem n_cat (ha : DPE X m a ta da) (hb : DPE X m b tb db) : DPN X m (.BinOp a .Add b pos) (tOp rCat ta tb) (dCatN da db) := ⟨pe_op op_cat ha.pe hb.pe, ⟨fun {σ H ρ F T Q dQ} er h k => ha.re.run er h fun H1 v x e1 er1 vx h1 => hb.re.run er1 h1 fun H2 u y e2 er2 vy h2 => by
  obtain ⟨xs, ys, ex, ey, hz, h⟩ := h2
  obtain ⟨l, vs, rfl, hl, ra⟩ := (vx.step er1 e2).list ex
  obtain ⟨l2, us, rfl, hl2, rb⟩ := vy.list ey
  exact ⟨l, l2, vs, us, rfl, rfl, hl, hl2, by rw [ra.length, rb.length]; exact hz, fun p hp => k _ _ _ [p] ((e1.trans e2).trans (Ext.new hp)) (fun a ha => by rw [List.mem_singleton.mp ha]; exact Ext.back er2.base.pot (e1.trans e2) hp) (er2.own hp) (own_new er2 hp (ra.append rb)) h⟩⟩⟩

/-! ### slices -/
def dNoPart : DEnv → (Option Int → Prop) → Prop := fun _ Q => Q none
def dPart (de : DE) : DEnv → (Option Int → Prop) → Prop := fun ρ Q => de ρ fun x => match x with
  | .d (.int i) => Q (some i)
  | _ => False
structure RO (K : PySem.W.Frag) (m : Am) (t : TO) (dp : DEnv → (Option Int → Prop) → Prop) : Prop where
  run : ∀ {σ : L2.St} {H : Hp} {ρ : DEnv} {F T : List Addr} {Q : Option Int → Hp → Prop} {dQ : Option Int → Prop}, ER K m σ H ρ F T → dp ρ dQ → (∀ H' i, Ext m.P H H' → ER K m σ H' ρ F T → dQ i → Q i H') → t σ H Q
structure DPO (X : Cx) (m : Am) (e : Option Expr) (t : TO) (dp : DEnv → (Option Int → Prop) → Prop) : Prop where
  po : PO X e t
  ro : RO X.K m t dp
theorem o_none : DPO X m none tNoPart dNoPart := ⟨po_none, ⟨fun {σ H ρ F T Q dQ} er h k => k H none (Ext.refl _ _) er h⟩⟩
theorem o_some (h : DPE X m e te de) : DPO X m (some e) (tPart te) (dPart de) := ⟨po_some h.pe, ⟨fun {σ H ρ F T Q dQ} er hq k => h.re.run er hq fun H' v x e1 er1 vx hx => by
  split at hx
  · exact ⟨_, vx.int, k H' _ e1 er1 hx⟩
  · exact hx.elim⟩⟩
def cutD (xs : List PyData) (lo hi : Option Int) : List PyData := (xs.drop (HT.sIx xs.length 0 lo)).take (HT.sIx xs.length xs.length hi - HT.sIx xs.length 0 lo)
theorem RepAll.cut {K : PySem.W.Frag} {H : Hp} {vs : List V} {ds : List PyData} (h : RepAll K H vs ds) (lo hi : Option Int) : RepAll K H (cutV vs lo hi) (cutD ds lo hi) := by
  unfold cutV cutD
  rw [h.length]
  exact (h.drop _).take _
def dSlV (x : OV) (lo hi : Option Int) (Q : OV → Prop) : Prop := match x with
  | .d (.str z) => z.length ≤ sizeLine ∧ Q (.d (.str (cutS z lo hi)))
  | .d (.tuple xs) => Q (.d (.tuple (cutD xs lo hi)))
  | x => ∃ xs, asList x = some xs ∧ Q (.d (.list (cutD xs lo hi)))
variable {dl dh : DEnv → (Option Int → Prop) → Prop} {tl th : TO} {lo hi : Option Expr} {p2 : Pos}
def dSl (de : DE) (dl dh : DEnv → (Option Int → Prop) → Prop) : DE := fun ρ Q => de ρ fun x => dl ρ fun l => dh ρ fun h => dSlV x l h Q
def rSlAll (K : PySem.W.Frag) : V → Option Int → Option Int → Hp → VK → Prop := fun x lo hi H Q => rSlL K x lo hi H Q ∨ (rSlA K x lo hi H Q ∨ rSlS x lo hi H Q)
theorem sl_all : SlR X (rSlAll X.K) := sl_list.or (sl_tupA.or sl_str)
theorem cut_whole {xs : List PyData} {lo hi : Option Int} (h : HT.sIx xs.length 0 lo = 0 ∧ HT.sIx xs.length xs.length hi = xs.length) : cutD xs lo hi = xs := by
  unfold cutD
  rw [h.1, h.2, List.drop_zero, Nat.sub_zero, List.take_length]
theorem d_sl (h : DPE X m e te de) (hl : DPO X m lo tl dl) (hh : DPO X m hi th dh) : DPE X m (.Subscript e (.Slice lo hi none p2) pos) (tSl (rSlAll X.K) te tl th) (dSl de dl dh) := ⟨pe_slice sl_all h.pe hl.po hh.po, ⟨fun {σ H ρ F T Q dQ} er hq k => h.re.run er hq fun H1 v x e1 er1 vx h1 =>
  hl.ro.run er1 h1 fun H2 l e2 er2 h2 => hh.ro.run er2 h2 fun H3 u e3 er3 h3 => by
    have vx3 := vx.step er1 (e2.trans e3)
    have e13 := (e1.trans e2).trans e3
    unfold dSlV at h3
    split at h3
    · exact .inr (.inr ⟨_, vx3.str, h3.1, k H3 _ _ e13 er3 (.ofStr _) h3.2⟩)
    · obtain ⟨a, vs, rfl, ha, ra⟩ := vx3.tuple
      refine .inr (.inl ⟨a, vs, rfl, ha, fun w => ?_, fun _ p hp => k _ _ _ (e13.trans (Ext.new hp)) (er3.new hp) (.newT er3 hp (ra.cut _ _)) h3⟩)
      rw [ra.length] at w
      rw [cut_whole w] at h3
      exact k H3 _ _ e13 er3 vx3 h3
    · obtain ⟨xs, ex, h3⟩ := h3
      obtain ⟨a, vs, rfl, ha, ra⟩ := vx3.list ex
      exact .inl ⟨a, vs, rfl, SqL.of ha, fun p hp => k _ _ _ (e13.trans (Ext.new hp)) (er3.new hp) (.newL er3 hp (ra.cut _ _)) h3⟩⟩⟩

/-! ### built-ins by name -/
def dCB (R : DF) (da : DA) : DE := fun ρ Q => da ρ fun xs => R xs fun z => Q (.d z)
theorem re_cb {K : PySem.W.Frag} {r : List V → Hp → VK → Prop} {R : DF} (hr : RCD K m r R) (ha : RA K m ua va) : RE K m (tCB r ua) (dCB R va) := ⟨fun {σ H ρ F T Q dQ} er hq k => ha.run er hq fun H1 vs xs e1 er1 vxs h1 => hr.run er1 vxs h1 fun H2 w z e2 er2 vz hz => k H2 w _ (e1.trans e2) er2 vz hz⟩
theorem d_cb {r : List V → Hp → VK → Prop} {R : DF} {id : String} {x : Str} (hc : CallR X (.builtin id) r) (hr : RCD X.K m r R) (hv : bootBuiltins x = some (.builtin id)) (hg : Gl X x) (hm : X.mg x = none) (ha : DPA X m (e :: es) ua va) (hn : x ≠ "__name__" := by decide) (hdb : (x == ("__debug__" : Str)) = false := by decide)
    (he : starEach (e :: es) X.env = (false, eval e X.env) :: starEach es X.env := by rfl) (hpl : (backTo pos (starEach es X.env)).any (·.1) = false := by rfl) : DPE X m (.Call (.Name x p) (e :: es) [] pos) (tCB r ua) (dCB R va) := ⟨pe_callB hc hg hm hv ha.pa hn hdb he hpl, re_cb hr ha.ra⟩
theorem d_cty {r : List V → Hp → VK → Prop} {R : DF} {T : String} {x : Str} (hc : CallR X (.type T) r) (hr : RCD X.K m r R) (hv : bootBuiltins x = some (.type T)) (hg : Gl X x) (hm : X.mg x = none) (ha : DPA X m (e :: es) ua va) (hn : x ≠ "__name__" := by decide) (hdb : (x == ("__debug__" : Str)) = false := by decide)
    (he : starEach (e :: es) X.env = (false, eval e X.env) :: starEach es X.env := by rfl) (hpl : (backTo pos (starEach es X.env)).any (·.1) = false := by rfl) : DPE X m (.Call (.Name x p) (e :: es) [] pos) (tCB r ua) (dCB R va) := ⟨pe_callTy hc hg hm hv ha.pa hn hdb he hpl, re_cb hr ha.ra⟩
theorem VRs.one {K : PySem.W.Frag} {F T : List Addr} {H : Hp} {vs : List V} {x : OV} (h : VRs K m F T H vs [x]) : ∃ v, vs = [v] ∧ VR K m F T H v x := by
  cases h with
  | cons h1 h2 =>
    cases h2
    exact ⟨_, rfl, h1⟩
theorem VRs.two {K : PySem.W.Frag} {F T : List Addr} {H : Hp} {vs : List V} {x y : OV} (h : VRs K m F T H vs [x, y]) : ∃ v u, vs = [v, u] ∧ VR K m F T H v x ∧ VR K m F T H u y := by
  cases h with
  | cons h1 h2 =>
    cases h2 with
    | cons h2 h3 =>
      cases h3
      exact ⟨_, _, rfl, h1, h2⟩
/-- len -/
def dLen : DF := fun xs Q => match xs with
  | [.d (.list ys)] => Q (.int ys.length)
  | [.d (.tuple ys)] => Q (.int ys.length)
  | [.d (.str z)] => z.length ≤ sizeLine ∧ Q (.int z.length)
  | [.lst ys] => Q (.int ys.length)
  | _ => False
def rLenA (K : PySem.W.Frag) : List V → Hp → VK → Prop := fun xs H Q => ∃ x n, xs = [x] ∧ LenV K x H n ∧ Q (.int n) H
theorem rc_len {K : PySem.W.Frag} : RCD K m (rLenA K) dLen := ⟨fun {σ H ρ F T vs xs Q dQ} er vxs h k => by
  unfold dLen at h
  split at h
  · obtain ⟨v, rfl, vx⟩ := vxs.one
    obtain ⟨a, us, rfl, ha, ra⟩ := vx.list rfl
    exact ⟨_, _, rfl, .inl ⟨us, SqL.of ha, ra.length.symm⟩, k H _ _ (Ext.refl _ _) er (.ofInt _) h⟩
  · obtain ⟨v, rfl, vx⟩ := vxs.one
    obtain ⟨a, us, rfl, ha, ra⟩ := vx.tuple
    exact ⟨_, _, rfl, .inr ⟨us, ha, ra.length.symm⟩, k H _ _ (Ext.refl _ _) er (.ofInt _) h⟩
  · obtain ⟨v, rfl, vx⟩ := vxs.one
    rw [vx.str]
    exact ⟨_, _, rfl, ⟨h.1, rfl⟩, k H _ _ (Ext.refl _ _) er (.ofInt _) h.2⟩
  · obtain ⟨v, rfl, vx⟩ := vxs.one
    obtain ⟨fp, h1, _⟩ := vx
    obtain ⟨q, us, fq, rfl, rfl, hp, ha⟩ := h1.lst_inv
    exact ⟨_, _, rfl, .inl ⟨us, SqL.of hp, ha.len.symm⟩, k H _ _ (Ext.refl _ _) er (.ofInt _) h⟩
  · exact h.elim⟩
theorem d_len (hg : Gl X "len") (hm : X.mg "len" = none) (ha : DPA X m [e] ua va) (he : starEach [e] X.env = (false, eval e X.env) :: starEach [] X.env := by rfl) (hpl : (backTo pos (starEach [] X.env)).any (·.1) = false := by rfl) :
    DPE X m (.Call (.Name "len" p) [e] [] pos) (tCB (rLenA X.K) ua) (dCB dLen va) := d_cb call_len rc_len PySem.boot_len hg hm ha (by decide) (by decide) he hpl
/-- int(..) of an int, a truth value, a text of digits -/
def dInt : DF := fun xs Q => match xs with
  | [.d (.int i)] => Q (.int i)
  | [.d (.bool b)] => Q (.int (if b then 1 else 0))
  | [.d (.str z)] => z.length ≤ 640 ∧ ∃ n, PySem.intText? z = some n ∧ Q (.int n)
  | _ => False
def rIntA : List V → Hp → VK → Prop := fun xs H Q => ((∃ i, xs = [.int i] ∧ Q (.int i) H) ∨ ∃ k, xs = [.bl k] ∧ Q (.int (if k then 1 else 0)) H) ∨ ∃ a n, xs = [.str a] ∧ PySem.intText? a = some n ∧ a.length ≤ 640 ∧ Q (.int n) H
theorem CallR.or {f : Value} {r r' : List V → Hp → VK → Prop} (h : CallR X f r) (h' : CallR X f r') : CallR X f (fun xs H Q => r xs H Q ∨ r' xs H Q) := fun pins s σ H xs us Q I rv hq => by
  rcases hq with hq | hq
  · exact h pins s σ H xs us Q I rv hq
  · exact h' pins s σ H xs us Q I rv hq
theorem call_intA : CallR X (.type "int") rIntA := CallR.or call_int1 call_int_str
theorem rc_int {K : PySem.W.Frag} : RCD K m rIntA dInt := ⟨fun {σ H ρ F T vs xs Q dQ} er vxs h k => by
  unfold dInt at h
  split at h
  · obtain ⟨v, rfl, vx⟩ := vxs.one
    rw [vx.int]
    exact .inl (.inl ⟨_, rfl, k H _ _ (Ext.refl _ _) er (.ofInt _) h⟩)
  · obtain ⟨v, rfl, vx⟩ := vxs.one
    rw [vx.bool]
    exact .inl (.inr ⟨_, rfl, k H _ _ (Ext.refl _ _) er (.ofInt _) h⟩)
  · obtain ⟨v, rfl, vx⟩ := vxs.one
    rw [vx.str]
    obtain ⟨hl, n, hn, h⟩ := h
    exact .inr ⟨_, n, rfl, hn, hl, k H _ _ (Ext.refl _ _) er (.ofInt _) h⟩
  · exact h.elim⟩
theorem d_toint (hg : Gl X "int") (hm : X.mg "int" = none) (ha : DPA X m [e] ua va) (he : starEach [e] X.env = (false, eval e X.env) :: starEach [] X.env := by rfl) (hpl : (backTo pos (starEach [] X.env)).any (·.1) = false := by rfl) :
    DPE X m (.Call (.Name "int" p) [e] [] pos) (tCB rIntA ua) (dCB dInt va) := d_cty call_intA rc_int (by decide +kernel) hg hm ha (by decide) (by decide) he hpl
/-- str(int) -/
def dStrI : DF := fun xs Q => match xs with
  | [.d (.int i)] => i.natAbs.log2 < 1920 ∧ Q (.str (toString i))
  | _ => False
def rStrI : List V → Hp → VK → Prop := fun xs H Q => ∃ i, xs = [.int i] ∧ i.natAbs.log2 < 1920 ∧ Q (.str (toString i)) H
theorem rc_strI {K : PySem.W.Frag} : RCD K m rStrI dStrI := ⟨fun {σ H ρ F T vs xs Q dQ} er vxs h k => by
  unfold dStrI at h
  split at h
  · obtain ⟨v, rfl, vx⟩ := vxs.one
    rw [vx.int]
    exact ⟨_, rfl, h.1, k H _ _ (Ext.refl _ _) er (.ofStr _) h.2⟩
  · exact h.elim⟩
theorem d_strI (hg : Gl X "str") (hm : X.mg "str" = none) (ha : DPA X m [e] ua va) (he : starEach [e] X.env = (false, eval e X.env) :: starEach [] X.env := by rfl) (hpl : (backTo pos (starEach [] X.env)).any (·.1) = false := by rfl) :
    DPE X m (.Call (.Name "str" p) [e] [] pos) (tCB rStrI ua) (dCB dStrI va) := d_cty call_str_int rc_strI (by decide +kernel) hg hm ha (by decide) (by decide) he hpl
/-- abs, max, min of ints -/
def dI1 (C : Int → Prop) (g : Int → Int) : DF := fun xs Q => match xs with
  | [.d (.int i)] => C i ∧ Q (.int (g i))
  | _ => False
def rAbs : List V → Hp → VK → Prop := fun xs H Q => ∃ i, xs = [.int i] ∧ Q (.int (if i < 0 then -i else i)) H
theorem rc_abs {K : PySem.W.Frag} : RCD K m rAbs (dI1 (fun _ => True) fun i => if i < 0 then -i else i) := ⟨fun {σ H ρ F T vs xs Q dQ} er vxs h k => by
  unfold dI1 at h
  split at h
  · obtain ⟨v, rfl, vx⟩ := vxs.one
    rw [vx.int]
    exact ⟨_, rfl, k H _ _ (Ext.refl _ _) er (.ofInt _) h.2⟩
  · exact h.elim⟩
theorem d_abs (hg : Gl X "abs") (hm : X.mg "abs" = none) (ha : DPA X m [e] ua va) (he : starEach [e] X.env = (false, eval e X.env) :: starEach [] X.env := by rfl) (hpl : (backTo pos (starEach [] X.env)).any (·.1) = false := by rfl) :
    DPE X m (.Call (.Name "abs" p) [e] [] pos) (tCB rAbs ua) (dCB (dI1 (fun _ => True) fun i => if i < 0 then -i else i) va) := d_cb call_abs rc_abs (by decide +kernel) hg hm ha (by decide) (by decide) he hpl
def dII (g : Int → Int → Int) : DF := fun xs Q => match xs with
  | [.d (.int i), .d (.int j)] => Q (.int (g i j))
  | _ => False
def rII (g : Int → Int → Int) : List V → Hp → VK → Prop := fun xs H Q => ∃ i j, xs = [.int i, .int j] ∧ Q (.int (g i j)) H
theorem rc_II {K : PySem.W.Frag} {g : Int → Int → Int} : RCD K m (rII g) (dII g) := ⟨fun {σ H ρ F T vs xs Q dQ} er vxs h k => by
  unfold dII at h
  split at h
  · obtain ⟨v, u, rfl, vx, vy⟩ := vxs.two
    rw [vx.int, vy.int]
    exact ⟨_, _, rfl, k H _ _ (Ext.refl _ _) er (.ofInt _) h⟩
  · exact h.elim⟩
theorem d_max2 (hc : X.calm = true) (hg : Gl X "max") (hm : X.mg "max" = none) (ha : DPA X m [a, b] ua va) (he : starEach [a, b] X.env = (false, eval a X.env) :: starEach [b] X.env := by rfl) (hpl : (backTo pos (starEach [b] X.env)).any (·.1) = false := by rfl) :
    DPE X m (.Call (.Name "max" p) [a, b] [] pos) (tCB (rII fun i j => if j > i then j else i) ua) (dCB (dII fun i j => if j > i then j else i) va) := d_cb (call_max2 hc) rc_II (by decide +kernel) hg hm ha (by decide) (by decide) he hpl
theorem d_min2 (hc : X.calm = true) (hg : Gl X "min") (hm : X.mg "min" = none) (ha : DPA X m [a, b] ua va) (he : starEach [a, b] X.env = (false, eval a X.env) :: starEach [b] X.env := by rfl) (hpl : (backTo pos (starEach [b] X.env)).any (·.1) = false := by rfl) :
    DPE X m (.Call (.Name "min" p) [a, b] [] pos) (tCB (rII fun i j => if j < i then j else i) ua) (dCB (dII fun i j => if j < i then j else i) va) := d_cb (call_min2 hc) rc_II (by decide +kernel) hg hm ha (by decide) (by decide) he hpl
/-- sum of a list of ints; all, any of a list of truths -/
def dSum : DF := fun xs Q => match xs with
  | [x] => ∃ ns : List Int, asList x = some (ns.map PyData.int) ∧ Q (.int ns.sum)
  | _ => False
theorem rc_sum {K : PySem.W.Frag} : RCD K m (rSum K) dSum := ⟨fun {σ H ρ F T vs xs Q dQ} er vxs h k => by
  unfold dSum at h
  split at h
  · obtain ⟨v, rfl, vx⟩ := vxs.one
    obtain ⟨ns, e, h⟩ := h
    obtain ⟨a, us, rfl, ha, ra⟩ := vx.list e
    rw [ra.to_ints] at ha
    exact ⟨a, ns, rfl, SqL.of ha, k H _ _ (Ext.refl _ _) er (.ofInt _) h⟩
  · exact h.elim⟩
theorem d_sum (hc : X.calm = true) (hg : Gl X "sum") (hm : X.mg "sum" = none) (ha : DPA X m [e] ua va) (he : starEach [e] X.env = (false, eval e X.env) :: starEach [] X.env := by rfl) (hpl : (backTo pos (starEach [] X.env)).any (·.1) = false := by rfl) :
    DPE X m (.Call (.Name "sum" p) [e] [] pos) (tCB (rSum X.K) ua) (dCB dSum va) := d_cb (cr_sum hc) rc_sum (by decide +kernel) hg hm ha (by decide) (by decide) he hpl
def dBools (g : List Bool → Bool) : DF := fun xs Q => match xs with
  | [x] => ∃ bs : List Bool, asList x = some (bs.map PyData.bool) ∧ Q (.bool (g bs))
  | _ => False
abbrev dAll : DF := dBools fun bs => bs.all id
abbrev dAny : DF := dBools fun bs => bs.any id
theorem rc_all {K : PySem.W.Frag} : RCD K m (rAll K) dAll := ⟨fun {σ H ρ F T vs xs Q dQ} er vxs h k => by
  unfold dAll dBools at h
  split at h
  · obtain ⟨v, rfl, vx⟩ := vxs.one
    obtain ⟨ns, e, h⟩ := h
    obtain ⟨a, us, rfl, ha, ra⟩ := vx.list e
    rw [ra.to_bools] at ha
    exact ⟨a, ns, rfl, SqL.of ha, k H _ _ (Ext.refl _ _) er (.ofBool _) h⟩
  · exact h.elim⟩
theorem rc_any {K : PySem.W.Frag} : RCD K m (rAny K) dAny := ⟨fun {σ H ρ F T vs xs Q dQ} er vxs h k => by
  unfold dAny dBools at h
  split at h
  · obtain ⟨v, rfl, vx⟩ := vxs.one
    obtain ⟨ns, e, h⟩ := h
    obtain ⟨a, us, rfl, ha, ra⟩ := vx.list e
    rw [ra.to_bools] at ha
    exact ⟨a, ns, rfl, SqL.of ha, k H _ _ (Ext.refl _ _) er (.ofBool _) h⟩
  · exact h.elim⟩
theorem d_all (hc : X.calm = true) (hg : Gl X "all") (hm : X.mg "all" = none) (ha : DPA X m [e] ua va) (he : starEach [e] X.env = (false, eval e X.env) :: starEach [] X.env := by rfl) (hpl : (backTo pos (starEach [] X.env)).any (·.1) = false := by rfl) :
    DPE X m (.Call (.Name "all" p) [e] [] pos) (tCB (rAll X.K) ua) (dCB dAll va) := d_cb (cr_all hc) rc_all (by decide +kernel) hg hm ha (by decide) (by decide) he hpl
theorem d_any (hc : X.calm = true) (hg : Gl X "any") (hm : X.mg "any" = none) (ha : DPA X m [e] ua va) (he : starEach [e] X.env = (false, eval e X.env) :: starEach [] X.env := by rfl) (hpl : (backTo pos (starEach [] X.env)).any (·.1) = false := by rfl) :
    DPE X m (.Call (.Name "any" p) [e] [] pos) (tCB (rAny X.K) ua) (dCB dAny va) := d_cb (cr_any hc) rc_any (by decide +kernel) hg hm ha (by decide) (by decide) he hpl
/-- tuple(..), list(..) of a list, a tuple -/
def dTupC : DF := fun xs Q => match xs with
  | [.d (.tuple ys)] => Q (.tuple ys)
  | [x] => ∃ ys, asList x = some ys ∧ Q (.tuple ys)
  | _ => False
def rTupC (K : PySem.W.Frag) : List V → Hp → VK → Prop := fun xs H Q => ∃ p ys, xs = [.ref p] ∧ ((SqL K H p ys ∧ ∀ l, H l = none → Q (.ref l) (upd H l (.tup ys))) ∨ (SqT K H p ys ∧ Q (.ref p) H))
theorem rc_tupC {K : PySem.W.Frag} : RCD K m (rTupC K) dTupC := ⟨fun {σ H ρ F T vs xs Q dQ} er vxs h k => by
  unfold dTupC at h
  split at h
  · obtain ⟨v, rfl, vx⟩ := vxs.one
    obtain ⟨a, us, rfl, ha, ra⟩ := vx.tuple
    exact ⟨a, us, rfl, .inr ⟨ha, k H _ _ (Ext.refl _ _) er vx h⟩⟩
  · obtain ⟨v, rfl, vx⟩ := vxs.one
    obtain ⟨ys, e, h⟩ := h
    obtain ⟨a, us, rfl, ha, ra⟩ := vx.list e
    exact ⟨a, us, rfl, .inl ⟨SqL.of ha, fun l hl => k _ _ _ (Ext.new hl) (er.new hl) (.newT er hl ra) h⟩⟩
  · exact h.elim⟩
theorem d_tupC (hg : Gl X "tuple") (hm : X.mg "tuple" = none) (ha : DPA X m [e] ua va) (he : starEach [e] X.env = (false, eval e X.env) :: starEach [] X.env := by rfl) (hpl : (backTo pos (starEach [] X.env)).any (·.1) = false := by rfl) :
    DPE X m (.Call (.Name "tuple" p) [e] [] pos) (tCB (rTupC X.K) ua) (dCB dTupC va) := d_cty call_tuple_of rc_tupC (by decide +kernel) hg hm ha (by decide) (by decide) he hpl
def asSeq : OV → Option (List PyData)
  | .d (.tuple xs) => some xs
  | x => asList x
theorem VR.seq {K : PySem.W.Frag} {F T : List Addr} {H : Hp} {v : V} {x : OV} {ds : List PyData} (h : VR K m F T H v x) (e : asSeq x = some ds) : ∃ a vs, v = .ref a ∧ (SqL K H a vs ∨ SqT K H a vs) ∧ RepAll K (Bh m (F ++ T) H) vs ds := by
  unfold asSeq at e
  split at e
  · cases e
    obtain ⟨a, us, rfl, ha, ra⟩ := h.tuple
    exact ⟨a, us, rfl, .inr ha, ra⟩
  · obtain ⟨a, us, rfl, ha, ra⟩ := h.list e
    exact ⟨a, us, rfl, .inl (SqL.of ha), ra⟩
def dLstC : DF := fun xs Q => match xs with
  | [x] => ∃ ys, asSeq x = some ys ∧ Q (.list ys)
  | _ => False
def dLstCN (da : DA) : DN := fun ρ Q => da ρ fun xs => match xs with
  | [x] => ∃ ys, asSeq x = some ys ∧ Q (ys.map OV.d)
  | _ => False
def rLstC (K : PySem.W.Frag) : List V → Hp → VK → Prop := fun xs H Q => ∃ p ys, xs = [.ref p] ∧ (SqL K H p ys ∨ SqT K H p ys) ∧ ∀ l, H l = none → Q (.ref l) (upd H l (.lst ys))
theorem rc_lstC {K : PySem.W.Frag} : RCD K m (rLstC K) dLstC := ⟨fun {σ H ρ F T vs xs Q dQ} er vxs h k => by
  unfold dLstC at h
  split at h
  · obtain ⟨v, rfl, vx⟩ := vxs.one
    obtain ⟨ys, e, h⟩ := h
    obtain ⟨a, us, rfl, ha, ra⟩ := vx.seq e
    exact ⟨a, us, rfl, ha, fun l hl => k _ _ _ (Ext.new hl) (er.new hl) (.newL er hl ra) h⟩
  · exact h.elim⟩
theorem d_lstC (hg : Gl X "list") (hm : X.mg "list" = none) (ha : DPA X m [e] ua va) (he : starEach [e] X.env = (false, eval e X.env) :: starEach [] X.env := by rfl) (hpl : (backTo pos (starEach [] X.env)).any (·.1) = false := by rfl) :
    DPE X m (.Call (.Name "list" p) [e] [] pos) (tCB (rLstC X.K) ua) (dCB dLstC va) := d_cty call_list_of rc_lstC (by decide +kernel) hg hm ha (by decide) (by decide) he hpl
theorem n_lstC (hg : Gl X "list") (hm : X.mg "list" = none) (ha : DPA X m [e] ua va) (he : starEach [e] X.env = (false, eval e X.env) :: starEach [] X.env := by rfl) (hpl : (backTo pos (starEach [] X.env)).any (·.1) = false := by rfl) :
    DPN X m (.Call (.Name "list" p) [e] [] pos) (tCB (rLstC X.K) ua) (dLstCN va) := ⟨pe_callTy call_list_of hg hm (by decide +kernel) ha.pa (by decide) (by decide) he hpl, ⟨fun {σ H ρ F T Q dQ} er hq k => ha.ra.run er hq fun H1 vs xs e1 er1 vxs h => by
  split at h
  · obtain ⟨v, rfl, vx⟩ := vxs.one
    obtain ⟨ys, e, h⟩ := h
    obtain ⟨a, us, rfl, ha, ra⟩ := vx.seq e
    exact ⟨a, us, rfl, ha, fun l hl => k _ _ _ [l] (e1.trans (Ext.new hl)) (fun a ha => by rw [List.mem_singleton.mp ha]; exact Ext.back er1.base.pot e1 hl) (er1.own hl) (own_new er1 hl ra) h⟩
  · exact h.elim⟩⟩
end
end DL

/-! ==== DL10 ==== -/
set_option Elab.async false
set_option linter.all false
set_option maxRecDepth 100000
set_option maxHeartbeats 4000000
namespace DL
open PySem PySem.Spec PyProof.Rows L2

section
variable {X : Cx} {m : Am} {a b c e o : Expr} {es : List Expr} {pos p apos sp_ : Pos} {t ta tb tc te ti to : TE} {da db dc de dO : DE} {ua ub : TA} {va vb : DA} {dn : DN}
/-! ### list(range(..)), *range(..) -/
abbrev TRg := L2.St → Hp → (Int → Int → Hp → Prop) → Prop
abbrev DRg := DEnv → (Int → Int → Prop) → Prop
structure RRg (K : PySem.W.Frag) (m : Am) (t : TRg) (d : DRg) : Prop where
  run : ∀ {σ : L2.St} {H : Hp} {ρ : DEnv} {F T : List Addr} {Q : Int → Int → Hp → Prop} {dQ : Int → Int → Prop}, ER K m σ H ρ F T → d ρ dQ → (∀ H' i j, Ext m.P H H' → ER K m σ H' ρ F T → dQ i j → Q i j H') → t σ H Q
structure DPRg (X : Cx) (m : Am) (e : Expr) (t : TRg) (d : DRg) : Prop where
  prg : PRg X e t
  rr : RRg X.K m t d
def dRg1 (da : DE) : DRg := fun ρ Q => da ρ fun x => match x with
  | .d (.int n) => Q 0 n
  | _ => False
def dRg2 (da db : DE) : DRg := fun ρ Q => da ρ fun x => db ρ fun y => match x, y with
  | .d (.int i), .d (.int j) => Q i j
  | _, _ => False
theorem rg_1 (hg : Gl X "range") (hm : X.mg "range" = none) (ha : DPE X m a ta da) (na : starEach [a] X.env = (false, eval a X.env) :: starEach [] X.env := by rfl) : DPRg X m (.Call (.Name "range" p) [a] [] pos) (tRg1 ta) (dRg1 da) := ⟨prg_1 hg hm ha.pe na, ⟨fun {σ H ρ F T Q dQ} er hq k => ha.re.run er hq fun H1 v x e1 er1 vx h => by
  split at h
  · exact ⟨_, vx.int, k H1 _ _ e1 er1 h⟩
  · exact h.elim⟩⟩
theorem rg_2 (hg : Gl X "range") (hm : X.mg "range" = none) (ha : DPE X m a ta da) (hb : DPE X m b tb db) (na : starEach [a, b] X.env = (false, eval a X.env) :: starEach [b] X.env := by rfl)
    (nb : starEach [b] X.env = (false, eval b X.env) :: starEach [] X.env := by rfl) (hp : (backTo pos (starEach [b] X.env)).any (·.1) = false := by rfl) : DPRg X m (.Call (.Name "range" p) [a, b] [] pos) (tRg2 ta tb) (dRg2 da db) := ⟨prg_2 hg hm ha.pe hb.pe na nb hp, ⟨fun {σ H ρ F T Q dQ} er hq k => ha.re.run er hq fun H1 v x e1 er1 vx h1 => hb.re.run er1 h1 fun H2 u y e2 er2 vy h => by
  split at h
  · exact ⟨_, _, vx.int, vy.int, k H2 _ _ (e1.trans e2) er2 h⟩
  · exact h.elim⟩⟩
theorem rep_rg {K : PySem.W.Frag} {H : Hp} (i j : Int) : RepAll K H (rgV i j) (rngD i (j - i).toNat) := by
  unfold rgV rngD
  generalize List.range (j - i).toNat = l
  induction l with
  | nil => exact .nil
  | cons x l ih => exact .cons (.int _) ih
variable {tr : TRg} {dr : DRg}
def dLstRg (dr : DRg) : DE := fun ρ Q => dr ρ fun i j => RgOk i j ∧ Q (.d (.list (rngD i (j - i).toNat)))
def dTupRg (dr : DRg) : DE := fun ρ Q => dr ρ fun i j => RgOk i j ∧ Q (.d (.tuple (rngD i (j - i).toNat)))
theorem d_lstRg (hc : X.calm = true) (hg : Gl X "list") (hm : X.mg "list" = none) (he : DPRg X m e tr dr) (na : starEach [e] X.env = (false, eval e X.env) :: starEach [] X.env := by rfl) : DPE X m (.Call (.Name "list" p) [e] [] pos) (tLstRg tr) (dLstRg dr) := ⟨pe_listRg hc hg hm he.prg na, ⟨fun {σ H ρ F T Q dQ} er hq k => he.rr.run er hq fun H1 i j e1 er1 h =>
  ⟨h.1, fun q hq => k _ _ _ (e1.trans (Ext.new hq)) (er1.new hq) (.newL er1 hq (rep_rg i j)) h.2⟩⟩⟩
theorem d_tupRg (hc : X.calm = true) (hg : Gl X "tuple") (hm : X.mg "tuple" = none) (he : DPRg X m e tr dr) (na : starEach [e] X.env = (false, eval e X.env) :: starEach [] X.env := by rfl) : DPE X m (.Call (.Name "tuple" p) [e] [] pos) (tTupRg tr) (dTupRg dr) := ⟨pe_tupRg hc hg hm he.prg na, ⟨fun {σ H ρ F T Q dQ} er hq k => he.rr.run er hq fun H1 i j e1 er1 h =>
  ⟨h.1, fun q hq => k _ _ _ (e1.trans (Ext.new hq)) (er1.new hq) (.newT er1 hq (rep_rg i j)) h.2⟩⟩⟩
def tStarRg (tr : TRg) (t : TA) : TA := fun σ H Q => tr σ H fun i j H1 => RgOk i j ∧ t σ H1 fun ys H2 => Q (rgV i j ++ ys) H2
theorem pa_starRg {tq : TA} (hc : X.calm = true) (he : PRg X e tr) (hr : PA X es tq) (hs : starEach (.Starred e p :: es) X.env = (true, eval e X.env) :: starEach es X.env := by rfl) : PA X (.Starred e p :: es) (tStarRg tr tq) := by
  refine ⟨fun pos pins s σ H Q I h => PySem.W.items_star (thn (he pins s σ H _ I h) fun v s1 ⟨r, i, j, t, u, w, H1, ev, hrg, I1, ok, q⟩ => ?_) hs⟩
  subst ev
  obtain ⟨b1, b2, b3, b4, b5⟩ := ok
  have hT : s1.TypeIs (.ref r) "range" := ⟨_, hrg, rfl⟩
  unfold PySem.W.StarOf notIterableAtAll
  refine wpAny_bind (wpAny_specialOf hT PySem.F.slot_range_iter.lookup (wpAny_pure ⟨rfl, ?_⟩))
  refine collect_range (n := (j - i).toNat) (I1.ok.hd hc) hrg (small_one b1 b2 b3 b4) (rangeSize_nat i j) b5 fun h' tk acc hk hi => ?_
  exact thn (hr.run pos pins _ σ H1 _ (I1.kept (t' := tk) hk) q) fun ws s3 ⟨vs, H3, I3, r3, q3⟩ => ⟨rgV i j ++ vs, H3, I3, (vals_rg hi).append r3, q3⟩
def dStarRg (dr : DRg) (da : DA) : DA := fun ρ Q => dr ρ fun i j => RgOk i j ∧ da ρ fun ys => Q ((rngD i (j - i).toNat).map OV.d ++ ys)
theorem VRs.ofRep {K : PySem.W.Frag} {F T : List Addr} {H : Hp} : ∀ {vs : List V} {ds : List PyData}, RepAll K (Bh m (F ++ T) H) vs ds → VRs K m F T H vs (ds.map OV.d)
  | _, _, .nil => .nil
  | _, _, .cons h t => .cons (.d h) (VRs.ofRep t)
theorem a_starRg (hc : X.calm = true) (he : DPRg X m e tr dr) (hr : DPA X m es ua va) (hs : starEach (.Starred e p :: es) X.env = (true, eval e X.env) :: starEach es X.env := by rfl) : DPA X m (.Starred e p :: es) (tStarRg tr ua) (dStarRg dr va) := ⟨pa_starRg hc he.prg hr.pa hs, ⟨fun {σ H ρ F T Q dQ} er hq k => he.rr.run er hq fun H1 i j e1 er1 h =>
  ⟨h.1, hr.ra.run er1 h.2 fun H2 vs xs e2 er2 vxs h2 => k H2 _ _ (e1.trans e2) er2 (VRs.append (VRs.ofRep (rep_rg i j)) vxs) h2⟩⟩⟩

/-! ### isinstance -/
def tyN : PyData → String
  | .none => "NoneType"
  | .bool _ => "bool"
  | .int _ => "int"
  | .str _ => "str"
  | .list _ => "list"
  | .tuple _ => "tuple"
  | .dict _ => "dict"
def isiB (a T : String) : Bool := a == T || (a == "bool" && T == "int")
theorem kit_isi {a T : String} (ha : a ∈ ["NoneType", "bool", "int", "str", "list", "tuple", "dict"]) (hT : T ∈ ["bool", "int", "str", "list", "tuple", "dict"]) : kitB a T = some (isiB a T) := by
  have h : (["NoneType", "bool", "int", "str", "list", "tuple", "dict"].all fun a => ["bool", "int", "str", "list", "tuple", "dict"].all fun T => kitB a T == some (isiB a T)) = true := by decide +kernel
  have h1 := List.all_eq_true.mp h a ha
  exact eq_of_beq (List.all_eq_true.mp h1 T hT)
theorem tyN_mem (d : PyData) : tyN d ∈ ["NoneType", "bool", "int", "str", "list", "tuple", "dict"] := by
  cases d <;> simp [tyN]
theorem Rep.ty {K : PySem.W.Frag} {H : Hp} {v : V} {d : PyData} (h : Rep K H v d) : TyX K H v (.type (tyN d)) := by
  cases h with
  | non => exact .base .non
  | bl b => exact .base (.bl b)
  | int i => exact .base (.int i)
  | str x => exact .base (.str x)
  | lst hp _ => exact .base (.lst hp)
  | tup hp _ => exact .base (.tup hp)
  | dic hp _ =>
    rcases hp with hp | ⟨o, hp⟩
    · exact .base (.dK hp)
    · exact .fDict hp
  | dct hp _ => exact .base (.dT hp)
def dIsi (T : String) (de : DE) : DE := fun ρ Q => de ρ fun x => okv x = true ∧ Q (.d (.bool (isiB (tyN (vw x)) T)))
theorem d_isi {T : String} {x : Str} {tp : Pos} (hT : T ∈ ["bool", "int", "str", "list", "tuple", "dict"]) (hgi : Gl X "isinstance") (hmi : X.mg "isinstance" = none) (hg : Gl X x) (hm : X.mg x = none) (hv : bootBuiltins x = some (.type T)) (h : DPE X m e te de) (hn : x ≠ "__name__" := by decide) (hd : (x == ("__debug__" : Str)) = false := by decide)
    (hs : starEach [e, .Name x tp] X.env = (false, eval e X.env) :: starEach [.Name x tp] X.env := by rfl) (hs2 : starEach [.Name x tp] X.env = (false, eval (.Name x tp) X.env) :: starEach [] X.env := by rfl) (hpl : (backTo pos (starEach [.Name x tp] X.env)).any (·.1) = false := by rfl) :
    DPE X m (.Call (.Name "isinstance" p) [e, .Name x tp] [] pos) (tCB (rIsi X.K) (tCons te (tCons (tC (.ty T)) tNil))) (dIsi T de) :=
  ⟨pe_callB call_isi hgi hmi (by decide +kernel) (pa_cons h.pe (pa_cons (pe_bltn (v := .ty T) hg hm hv rfl hn hd) pa_nil hs2) hs) (by decide) (by decide) hs hpl, ⟨fun {σ H ρ F T' Q dQ} er hq k => h.re.run er hq fun H1 v x e1 er1 vx hx =>
    ⟨v, .ty T, _, _, _, rfl, .ty T, (vx.read hx.1).ty, kit_ty (kit_isi (tyN_mem _) hT), k H1 _ _ e1 er1 (.ofBool _) hx.2⟩⟩⟩

/-! ### repr -/
theorem call_repr {k : Nat} (hr : Rm k X.A) : CallR X (.builtin "repr") (fun xs H Q => ∃ (a : Addr) (d : PyData), xs = [.ref a] ∧ Dp X.K H (.ref a) d ∧ d.hasDict = false ∧ d.showable = true ∧ d.depth ≤ 60 ∧ d.shown.length ≤ sizeLine ∧ Q (.str d.shown) H) := by
  intro pins s σ H xs us Q I r h
  obtain ⟨a, d, rfl, hd, hn, hs, hdp, hz, q⟩ := h
  obtain ⟨u, rfl, rx⟩ := vals1 r
  obtain ⟨as, rd⟩ := Dp.reads I d _ u hd rx
  cases rx
  refine repr_of_reads' rd hs (PyData.noDict_hsm hn) hr.gd (by have := hr.room.units; omega) (fun _ _ e => e) (fun h' u tk hk => ?_) hz
  exact ⟨.str _, H, I.kept (t' := tk) hk, ⟨_, rfl⟩, q⟩
def rRepr (K : PySem.W.Frag) : List V → Hp → VK → Prop := fun xs H Q => ∃ (a : Addr) (d : PyData), xs = [.ref a] ∧ Dp K H (.ref a) d ∧ d.hasDict = false ∧ d.showable = true ∧ d.depth ≤ 60 ∧ d.shown.length ≤ sizeLine ∧ Q (.str d.shown) H
/-- what can be shown -/
def canShow (d : PyData) : Prop := d.hasDict = false ∧ d.showable = true ∧ d.depth ≤ 60 ∧ d.shown.length ≤ sizeLine
def isSeq : PyData → Bool
  | .list _ => true
  | .tuple _ => true
  | _ => false
def dRepr : DF := fun xs Q => match xs with
  | [x] => okv x = true ∧ isSeq (vw x) = true ∧ canShow (vw x) ∧ Q (.str (vw x).shown)
  | _ => False
theorem rc_repr {K : PySem.W.Frag} : RCD K m (rRepr K) dRepr := ⟨fun {σ H ρ F T vs xs Q dQ} er vxs h k => by
  unfold dRepr at h
  split at h
  · obtain ⟨v, rfl, vx⟩ := vxs.one
    obtain ⟨ok, sq, ⟨h1, h2, h3, h4⟩, h⟩ := h
    have r := vx.read ok
    have hv : ∃ a, v = .ref a := by
      generalize vw _ = d at r sq
      cases r with
      | lst _ _ => exact ⟨_, rfl⟩
      | tup _ _ => exact ⟨_, rfl⟩
      | dic _ _ => exact ⟨_, rfl⟩
      | dct _ _ => exact ⟨_, rfl⟩
      | _ => exact nomatch (show false = true from sq)
    obtain ⟨a, rfl⟩ := hv
    exact ⟨a, _, rfl, Rep.dp _ _ h1 r, h1, h2, h3, h4, k H _ _ (Ext.refl _ _) er (.ofStr _) h⟩
  · exact h.elim⟩
theorem d_repr {k : Nat} (hr : Rm k X.A) (hg : Gl X "repr") (hm : X.mg "repr" = none) (ha : DPA X m [e] ua va) (he : starEach [e] X.env = (false, eval e X.env) :: starEach [] X.env := by rfl) (hpl : (backTo pos (starEach [] X.env)).any (·.1) = false := by rfl) :
    DPE X m (.Call (.Name "repr" p) [e] [] pos) (tCB (rRepr X.K) ua) (dCB dRepr va) := d_cb (call_repr hr) rc_repr (by decide +kernel) hg hm ha (by decide) (by decide) he hpl

/-! ### methods of texts -/
def dM0 (R : OV → (OV → Prop) → Prop) (dO : DE) : DE := fun ρ Q => dO ρ fun x => R x Q
def dM1 (R : OV → OV → (OV → Prop) → Prop) (dO de : DE) : DE := fun ρ Q => dO ρ fun x => match x with
  | .d (.str z) => de ρ fun y => R (.d (.str z)) y Q
  | _ => False
def dSplitR : OV → OV → (OV → Prop) → Prop := fun x y Q => match x, y with
  | .d (.str a), .d (.str b) => (b.length == 0) = false ∧ a.length + 2 ≤ sizeLine ∧ Q (.d (.list ((Txt.split a b).map PyData.str)))
  | _, _ => False
theorem RepAll.strs {K : PySem.W.Frag} {H : Hp} : ∀ ns : List Str, RepAll K H (ns.map V.str) (ns.map PyData.str)
  | [] => .nil
  | n :: ns => .cons (.str n) (RepAll.strs ns)
theorem d_split (hO : DPE X m o to dO) (h : DPE X m e te de) (hs : starEach [e] X.env = [(false, eval e X.env)] := by rfl) (hbase : attributeBase o "split" X.env (eval o X.env) = eval o X.env := by rfl) (hline : (apos.endLine == pos.line) = true := by rfl) :
    DPE X m (.Call (.Attribute o "split" apos) [e] [] pos) (tM1 (fun x xs H Q => ∃ a b, x = .str a ∧ xs = [.str b] ∧ (b.length == 0) = false ∧ a.length + 2 ≤ sizeLine ∧ rNewStrs (Txt.split a b) H Q) to te) (dM1 dSplitR dO de) :=
  ⟨pe_split hO.pe h.pe hs hbase hline, ⟨fun {σ H ρ F T Q dQ} er hq k => hO.re.run er hq fun H1 v x e1 er1 vx h1 => by
    split at h1
    · rename_i z
      rw [vx.str]
      refine ⟨⟨_, rfl⟩, h.re.run er1 h1 fun H2 u y e2 er2 vy h2 => ?_⟩
      unfold dSplitR at h2
      split at h2
      · rename_i a b ea
        obtain rfl : z = a := by
          injection ea with ea
          injection ea
        rw [vy.str]
        exact ⟨_, _, rfl, rfl, h2.1, h2.2.1, fun q hq => k _ _ _ ((e1.trans e2).trans (Ext.new hq)) (er2.new hq) (.newL er2 hq (RepAll.strs _)) h2.2.2⟩
      · exact h2.elim
    · exact h1.elim⟩⟩
def dJoinR : OV → OV → (OV → Prop) → Prop := fun x y Q => match x with
  | .d (.str a) => ∃ ys : List Str, asSeq y = some (ys.map PyData.str) ∧ (ys.map (·.length)).sum + ys.length * a.length ≤ 16777216 ∧ Q (.d (.str (Txt.join a ys)))
  | _ => False
theorem d_join (hO : DPE X m o to dO) (h : DPE X m e te de) (hs : starEach [e] X.env = [(false, eval e X.env)] := by rfl) (hbase : attributeBase o "join" X.env (eval o X.env) = eval o X.env := by rfl) (hline : (apos.endLine == pos.line) = true := by rfl) :
    DPE X m (.Call (.Attribute o "join" apos) [e] [] pos) (tM1 (fun x xs H Q => ∃ a p, ∃ ys : List Str, x = .str a ∧ xs = [.ref p] ∧ (SqL X.K H p (ys.map V.str) ∨ SqT X.K H p (ys.map V.str)) ∧ (ys.map (·.length)).sum + ys.length * a.length ≤ 16777216 ∧ Q (.str (Txt.join a ys)) H) to te) (dM1 dJoinR dO de) :=
  ⟨pe_join hO.pe h.pe hs hbase hline, ⟨fun {σ H ρ F T Q dQ} er hq k => hO.re.run er hq fun H1 v x e1 er1 vx h1 => by
    split at h1
    · rename_i z
      rw [vx.str]
      refine ⟨⟨_, rfl⟩, h.re.run er1 h1 fun H2 u y e2 er2 vy h2 => ?_⟩
      obtain ⟨ys, ey, hz, h2⟩ := h2
      obtain ⟨a, us, rfl, ha, ra⟩ := vy.seq ey
      rw [ra.to_strs] at ha
      exact ⟨_, a, ys, rfl, rfl, ha, hz, k H2 _ _ (e1.trans e2) er2 (.ofStr _) h2⟩
    · exact h1.elim⟩⟩
def dLowerR : OV → (OV → Prop) → Prop := fun x Q => match x with
  | .d (.str a) => a.length ≤ 5592405 ∧ Q (.d (.str (Txt.lower a)))
  | _ => False
theorem d_lower (hO : DPE X m o to dO) (hbase : attributeBase o "lower" X.env (eval o X.env) = eval o X.env := by rfl) (hline : (apos.endLine == pos.line) = true := by rfl) :
    DPE X m (.Call (.Attribute o "lower" apos) [] [] pos) (tM0 (fun x xs H Q => ∃ a, x = .str a ∧ xs = [] ∧ a.length ≤ 5592405 ∧ Q (.str (Txt.lower a)) H) to) (dM0 dLowerR dO) :=
  ⟨pe_lower hO.pe hbase hline, ⟨fun {σ H ρ F T Q dQ} er hq k => hO.re.run er hq fun H1 v x e1 er1 vx h1 => by
    unfold dLowerR at h1
    split at h1
    · rw [vx.str]
      exact ⟨⟨_, rfl⟩, _, rfl, rfl, h1.1, k H1 _ _ e1 er1 (.ofStr _) h1.2⟩
    · exact h1.elim⟩⟩
end
end DL

/-! ==== DLH ==== -/
set_option Elab.async false
set_option linter.all false
set_option maxRecDepth 100000
set_option maxHeartbeats 4000000
namespace DL
open PySem PySem.Spec PyProof.Rows L2

/-! ## data that stands in the module -/
mutual
def datB (K : PySem.W.Frag) : PyData → Value → Bool
  | .none, u => (match u with
    | .none => true
    | _ => false)
  | .bool b, u => He.relB (.bl b) u
  | .int i, u => He.relB (.int i) u
  | .str x, u => He.relB (.str x) u
  | _, _ => false
def datBs (K : PySem.W.Frag) : List PyData → List Value → Bool
  | [], us => us.isEmpty
  | d :: ds, us => (match us with
    | [] => false
    | u :: us => datB K d u && datBs K ds us)
end
def RepG (K : PySem.W.Frag) (u : Value) (d : PyData) : Prop := ∃ v, RelV v u ∧ ∀ H, Rep K H v d
def RepGs (K : PySem.W.Frag) (us : List Value) (ds : List PyData) : Prop := ∃ vs, Vals vs us ∧ ∀ H, RepAll K H vs ds
mutual
theorem datB_ok {K : PySem.W.Frag} : ∀ (d : PyData) (u : Value), datB K d u = true → RepG K u d
  | .none, u, h => by
    cases u <;> first | exact ⟨.non, rfl, fun _ => .non⟩ | exact nomatch h
  | .bool b, u, h => ⟨_, He.relB_ok (show He.relB (.bl b) u = true from h), fun _ => .bl b⟩
  | .int i, u, h => ⟨_, He.relB_ok (show He.relB (.int i) u = true from h), fun _ => .int i⟩
  | .str x, u, h => ⟨_, He.relB_ok (show He.relB (.str x) u = true from h), fun _ => .str x⟩
  | .tuple _, u, h => nomatch h
  | .list _, u, h => nomatch h
  | .dict _, u, h => nomatch h
theorem datBs_ok {K : PySem.W.Frag} : ∀ (ds : List PyData) (us : List Value), datBs K ds us = true → RepGs K us ds
  | [], us, h => by
    cases us with
    | nil => exact ⟨[], .nil, fun _ => .nil⟩
    | cons a b => exact nomatch h
  | d :: ds, us, h => by
    cases us with
    | nil => exact nomatch h
    | cons u us =>
      obtain ⟨h1, h2⟩ := He.ba (show (datB K d u && datBs K ds us) = true from h)
      obtain ⟨v, r1, r2⟩ := datB_ok d u h1
      obtain ⟨vs, s1, s2⟩ := datBs_ok ds us h2
      exact ⟨v :: vs, .cons r1 s1, fun H => .cons (r2 H) (s2 H)⟩
end
/-- the module's name x is this datum -/
def globB (x : Str) (d : PyData) (K : PySem.W.Frag) : Bool := match PySem.W.nsIn K mainGlobals x with
  | some (some u) => datB K d u
  | _ => false
def tabB (x : Str) (kvs : List (Str × PyData)) (K : PySem.W.Frag) : Bool := kvs.all fun q => match PySem.W.nsIn K (He.ga K x) q.1 with
  | some (some u) => datB K q.2 u
  | _ => false
structure GDic (K : PySem.W.Frag) (w : World) (a : Addr) (kvs : List (Str × PyData)) : Prop where
  kd : ∃ es n, L2.KDict K w a es n
  get : ∀ z : Str, ∃ r, PySem.W.nsIn K a z = some r ∧ match kvs.lookup z with
    | some d => ∃ u, r = some u ∧ RepG K u d
    | none => r = none
theorem find_miss {P : Params} {z : Str} : ∀ {l : List DictEntry} {ks : List Str}, l.map He.keyOf = He.keysIn P ks → z ∉ ks → l.find? (·.key.isStr z) = none ∧ l.any (·.refKey) = false
  | [], _, _, _ => ⟨rfl, rfl⟩
  | e :: r, [], h, _ => by cases h
  | e :: r, k :: ks, h, hz => by
    have h1 : He.keyOf e :: r.map He.keyOf = some (k, PyData.keyHash P k) :: He.keysIn P ks := h
    injection h1 with h2 h3
    obtain ⟨i1, i2⟩ := find_miss h3 (fun q => hz (List.mem_cons_of_mem _ q))
    unfold He.keyOf at h2
    split at h2
    · rename_i x t q
      obtain ⟨h5, _⟩ := Prod.mk.inj (Option.some.inj h2)
      have n1 : e.key.isStr z = false := by
        rw [q]
        show (x == z) = false
        rw [beq_eq_false_iff_ne, h5]
        exact fun y => hz (by rw [← y]; exact List.mem_cons_self)
      have n2 : e.refKey = false := by
        unfold DictEntry.refKey
        rw [q]
      exact ⟨by rw [List.find?_cons, n1]; exact i1, by rw [List.any_cons, n2, i2]; rfl⟩
    · cases h2
theorem dicW_es {K : PySem.W.Frag} {w : World} {a : Addr} {ks : List Str} (h : He.dicW K a = some (He.keysIn w.params ks)) : ∃ es n, L2.KDict K w a es n ∧ es.toList.map He.keyOf = He.keysIn w.params ks := by
  obtain ⟨es, n, kd⟩ := He.dicW_ok h
  refine ⟨es, n, kd, ?_⟩
  unfold He.dicW at h
  rw [kd.at_] at h
  have e3 := kd.low
  have h1 : (match decide ("dict" = ("dict" : String)) && ((#[] : Array (Option Value)).isEmpty && !(a == sysModules)) with
            | true => some (es.toList.map He.keyOf)
            | false => none) = some (He.keysIn w.params ks) := h
  rw [e3] at h1
  exact Option.some.inj h1
theorem gdic_of {K : PySem.W.Frag} {w : World} {x : Str} {kvs : List (Str × PyData)} (h : He.dicW K (He.ga K x) = some (He.keysIn w.params (kvs.map (·.1)))) (hv : tabB x kvs K = true) : GDic K w (He.ga K x) kvs := by
  obtain ⟨es, n, kd, hk⟩ := dicW_es h
  refine ⟨⟨es, n, kd⟩, fun z => ?_⟩
  cases e : kvs.lookup z with
  | some d =>
    have hm : (z, d) ∈ kvs := by
      clear hv h hk kd
      induction kvs with
      | nil => cases e
      | cons q r ih =>
        obtain ⟨k, v⟩ := q
        rw [List.lookup_cons] at e
        cases hb : z == k with
        | true =>
          rw [hb] at e
          cases e
          rw [eq_of_beq hb]
          exact List.mem_cons_self
        | false =>
          rw [hb] at e
          exact List.mem_cons_of_mem _ (ih e)
    have h2 := List.all_eq_true.mp hv (z, d) hm
    cases q : PySem.W.nsIn K (He.ga K x) z with
    | none =>
      rw [show ((z, d) : Str × PyData).1 = z from rfl, q] at h2
      cases h2
    | some r =>
      rw [show ((z, d) : Str × PyData).1 = z from rfl, q] at h2
      cases r with
      | none => cases h2
      | some u => exact ⟨_, rfl, u, rfl, datB_ok d u h2⟩
  | none =>
    have hz : z ∉ kvs.map (·.1) := by
      clear hv h hk kd
      induction kvs with
      | nil => exact fun y => nomatch y
      | cons q r ih =>
        obtain ⟨k, v⟩ := q
        rw [List.lookup_cons] at e
        cases hb : z == k with
        | true =>
          rw [hb] at e
          cases e
        | false =>
          rw [hb] at e
          intro y
          rcases List.mem_cons.mp y with y | y
          · rw [show z = k from y, beq_self_eq_true] at hb
            cases hb
          · exact ih e y
    obtain ⟨i1, i2⟩ := find_miss hk hz
    refine ⟨none, ?_, rfl⟩
    unfold PySem.W.nsIn
    rw [kd.at_]
    show (match es.toList.find? (·.key.isStr z) with
      | some e => some (some e.val)
      | none => if es.toList.any (·.refKey) then none else some none) = some none
    rw [i1, i2]
    rfl

/-! ## the Hook -/
abbrev AlX : Type := He.AlT × Bool
def obsX (fa : List He.Fa) (fn : List He.DefD) (ts : List He.Tab) (cs : List (PySem.W.Frag → Bool)) (K : PySem.W.Frag) : AlX := (He.obsT fa fn ts K, cs.all fun c => c K)
def valX (fn : List He.DefD) (ts : List He.Tab) (w : World) : AlX := (He.valT fn ts w, true)
def obsXG (n : Nat) (fa : List He.Fa) (fn : List He.DefD) (ts : List He.Tab) (cs : List (PySem.W.Frag → Bool)) (g : Addr → Option Obj) : AlX := obsX fa fn ts cs (He.frG g (He.asD g n))
def SaysX (fa : List He.Fa) (fn : List He.DefD) (ts : List He.Tab) (cs : List (PySem.W.Frag → Bool)) (w : World) (K : PySem.W.Frag) : Prop := obsX fa fn ts cs K = valX fn ts w
def hookX (n : Nat) (fa : List He.Fa) (fn : List He.DefD) (ts : List He.Tab) (cs : List (PySem.W.Frag → Bool)) : PySem.W.Hook where
  α := AlX
  obs := fun s => obsXG n fa fn ts cs s.heap.get?
  val := fun w => valX fn ts w
  says := fun w h => ∃ K : PySem.W.Frag, K.In h ∧ SaysX fa fn ts cs w K
  of := fun _ _ e => ⟨_, He.frG_in, e⟩
  keeps := fun _ _ _ ⟨K, hK, c⟩ k => ⟨K, PySem.W.Frag.In.keeps hK k, c⟩
theorem obsXG_eq {n : Nat} {fa : List He.Fa} {fn : List He.DefD} {ts : List He.Tab} {cs : List (PySem.W.Frag → Bool)} {g : Addr → Option Obj} {s : Shared} (h : ∀ a, g a = s.heap.get? a) : obsXG n fa fn ts cs g = (hookX n fa fn ts cs).obs s := by
  have e : g = s.heap.get? := funext h
  rw [e] <;> rfl
section
variable {fa : List He.Fa} {fn : List He.DefD} {ts : List He.Tab} {cs : List (PySem.W.Frag → Bool)} {w : World} {K : PySem.W.Frag}
theorem SaysX.t (c : SaysX fa fn ts cs w K) : He.SaysT fa fn ts w K := congrArg (fun z : AlX => z.1) c
theorem SaysX.d (c : SaysX fa fn ts cs w K) : He.SaysD fa fn K := c.t.d
theorem SaysX.chk (c : SaysX fa fn ts cs w K) (i : Nat) {f : PySem.W.Frag → Bool} (h : cs[i]? = some f := by rfl) : f K = true := List.all_eq_true.mp (congrArg (fun z : AlX => z.2) c : (cs.all fun c => c K) = true) f (List.mem_of_getElem? h)
theorem SaysX.gdic (c : SaysX fa fn ts cs w K) (i j : Nat) {x : Str} {kvs : List (Str × PyData)} (h : ts[i]? = some (fun K => He.ga K x, kvs.map (·.1)) := by rfl) (h' : cs[j]? = some (tabB x kvs) := by rfl) : GDic K w (He.ga K x) kvs := by
  have e : ts.map (fun t => He.dicW K (t.1 K)) = ts.map fun t => some (He.keysIn w.params t.2) := congrArg (fun z : He.AlT => z.2) c.t
  have e2 : (ts.map fun t => He.dicW K (t.1 K))[i]? = (ts.map fun t => some (He.keysIn w.params t.2))[i]? := by rw [e]
  rw [List.getElem?_map, List.getElem?_map, h] at e2
  exact gdic_of (Option.some.inj e2) (c.chk j h')
theorem SaysX.glob (c : SaysX fa fn ts cs w K) (j : Nat) {h : Heap} {mg : Str → Option Value} (X : K.In h) (G : h.Ns mainGlobals mg) {x : Str} {d : PyData} (h' : cs[j]? = some (globB x d) := by rfl) : ∃ u, mg x = some u ∧ RepG K u d := by
  have h2 := c.chk j h'
  unfold globB at h2
  cases q : PySem.W.nsIn K mainGlobals x with
  | none =>
    rw [q] at h2
    cases h2
  | some r =>
    rw [q] at h2
    cases r with
    | none => cases h2
    | some u => exact ⟨u, PySem.W.mg_of X G q, datB_ok d u h2⟩
end
section
variable {K : PySem.W.Frag} {x qual : Str} {st : Stmt} {f : Addr} {fd : FuncData}
theorem toFun (F : FunD K x qual (defArgs st) (defBody st) (defScope st) [] [] f fd) : L2.Fun K x qual st f fd := by
  obtain ⟨oc, od, dV, kV, doc, pm, an, cdv, ct, osl, h1, lk, hcd, hD, hK⟩ := F.ex
  rcases hD with ⟨_, rfl⟩ | ⟨e, _⟩
  · exact ⟨⟨oc, od, kV, doc, pm, an, cdv, ct, osl, h1, lk, hcd⟩, F.kp⟩
  · exact absurd rfl e
theorem kb_of {ps ks : List Str} {n : Nat} {π : List Nat} (F : FunD K x qual (defArgs st) (defBody st) (defScope st) [] [] f fd)
    (h : ∀ (kV doc pm : Value) (an : Option Addr) (cdv ct : Value) (us ws : List Value), us.length = n → ws.length = ks.length → bindArgs (PySem.W.fnOf x qual (defArgs st) (defBody st) (defScope st) .none kV doc pm an cdv ct) ⟨us, ks.zip ws⟩ = pure (ps.zip (permL π .none (us ++ ws)))) : KB K fd ps n ks π := by
  obtain ⟨oc, od, dV, kV, doc, pm, an, cdv, ct, osl, rfl, lk, hcd, hD, hK⟩ := F.ex
  rcases hD with ⟨_, rfl⟩ | ⟨e, _⟩
  · exact fun s us ws _ h1 h2 => .of_eq (h kV doc pm an cdv ct us ws h1 h2)
  · exact absurd rfl e
end

/-! ## rules -/
section
variable {X : Cx} {m : Am} {a b c e : Expr} {pos p : Pos} {te : TE} {de : DE}
theorem d_glob {x : Str} {d : PyData} (hg : Gl X x) (hm : ∃ u, X.mg x = some u ∧ RepG X.K u d) (hd : (x == ("__debug__" : Str)) = false := by decide) : ∃ t, DPE X m (.Name x pos) t (dC d) := by
  obtain ⟨u, e, v, r, h⟩ := hm
  exact ⟨tC v, pe_glob hg e r hd, re_c h⟩
def dGIn (kvs : List (Str × PyData)) (de : DE) : DE := fun ρ Q => de ρ fun x => match x with
  | .d (.str z) => Q (.d (.bool (kvs.lookup z).isSome))
  | _ => False
def dGNot (kvs : List (Str × PyData)) (de : DE) : DE := fun ρ Q => de ρ fun x => match x with
  | .d (.str z) => Q (.d (.bool (!(kvs.lookup z).isSome)))
  | _ => False
def dGGet (kvs : List (Str × PyData)) (de : DE) : DE := fun ρ Q => de ρ fun x => match x with
  | .d (.str z) => ∃ d, kvs.lookup z = some d ∧ Q (.d d)
  | _ => False
def rGIn (K : PySem.W.Frag) (D : Addr) : R2 := fun x y H Q => ∃ (z : Str) (r : Option Value), x = .str z ∧ y = .ref D ∧ PySem.W.nsIn K D z = some r ∧ Q (.bl r.isSome) H
def rGNot (K : PySem.W.Frag) (D : Addr) : R2 := fun x y H Q => ∃ (z : Str) (r : Option Value), x = .str z ∧ y = .ref D ∧ PySem.W.nsIn K D z = some r ∧ Q (.bl (!r.isSome)) H
theorem isSome_of {K : PySem.W.Frag} {z : Str} {kvs : List (Str × PyData)} {r : Option Value} (h : match kvs.lookup z with
    | some d => ∃ u, r = some u ∧ RepG K u d
    | none => r = none) : r.isSome = (kvs.lookup z).isSome := by
  split at h
  · rename_i q
    obtain ⟨u, rfl, _⟩ := h
    rw [q]
    rfl
  · rename_i q
    subst h
    rw [q]
    rfl
theorem d_gin {x : Str} {D : Addr} {kvs : List (Str × PyData)} (hg : Gl X x) (hm : X.mg x = some (.ref D)) (G : GDic X.K X.w D kvs) (he : DPE X m e te de) (hd : (x == ("__debug__" : Str)) = false := by decide) :
    DPE X m (.Compare e [.In] [.Name x p] pos) (tOp (rGIn X.K D) te (tC (.ref D))) (dGIn kvs de) := by
  obtain ⟨es, n, kd⟩ := G.kd
  refine ⟨pe_cmpR (op_in_kd kd) he.pe (pe_glob hg hm rfl hd) rfl, ⟨fun {σ H ρ F T Q dQ} er hq k => he.re.run er hq fun H1 v x e1 er1 vx h => ?_⟩⟩
  split at h
  · rename_i z
    obtain ⟨r, e2, hr⟩ := G.get z
    exact ⟨z, r, vx.str, rfl, e2, k H1 _ _ e1 er1 (.ofBool _) (by rw [isSome_of hr]; exact h)⟩
  · exact h.elim
theorem d_gni {x : Str} {D : Addr} {kvs : List (Str × PyData)} (hg : Gl X x) (hm : X.mg x = some (.ref D)) (G : GDic X.K X.w D kvs) (he : DPE X m e te de) (hd : (x == ("__debug__" : Str)) = false := by decide) :
    DPE X m (.Compare e [.NotIn] [.Name x p] pos) (tOp (rGNot X.K D) te (tC (.ref D))) (dGNot kvs de) := by
  obtain ⟨es, n, kd⟩ := G.kd
  refine ⟨pe_cmpR (op_notIn_kd kd) he.pe (pe_glob hg hm rfl hd) rfl, ⟨fun {σ H ρ F T Q dQ} er hq k => he.re.run er hq fun H1 v x e1 er1 vx h => ?_⟩⟩
  split at h
  · rename_i z
    obtain ⟨r, e2, hr⟩ := G.get z
    exact ⟨z, r, vx.str, rfl, e2, k H1 _ _ e1 er1 (.ofBool _) (by rw [isSome_of hr]; exact h)⟩
  · exact h.elim
theorem d_gget {x : Str} {D : Addr} {kvs : List (Str × PyData)} (hg : Gl X x) (hm : X.mg x = some (.ref D)) (G : GDic X.K X.w D kvs) (he : DPE X m e te de) (hs : PlainIx e) (hd : (x == ("__debug__" : Str)) = false := by decide) :
    DPE X m (.Subscript (.Name x p) e pos) (tOp (rIxD X.K X.w) (tC (.ref D)) te) (dGGet kvs de) := by
  obtain ⟨es, n, kd⟩ := G.kd
  refine ⟨pe_ix ix_kdict (pe_glob hg hm rfl hd) he.pe hs, ⟨fun {σ H ρ F T Q dQ} er hq k => he.re.run er hq fun H1 v x e1 er1 vx h => ?_⟩⟩
  split at h
  · rename_i z
    obtain ⟨d, e3, h⟩ := h
    obtain ⟨r, e2, hr⟩ := G.get z
    rw [e3] at hr
    obtain ⟨u, rfl, v0, rv, rp⟩ := hr
    exact ⟨D, z, v0, rfl, vx.str, ⟨es, n, u, kd.at_, kd.lit, e2, rv⟩, k H1 _ _ e1 er1 (.d (rp _)) h⟩
  · exact h.elim
/-! ### a < b < c -/
theorem d_chain {op op' : CmpOp} {r r' : R2} {dr dr' : D2} {ta tb tc : TE} {da db dc : DE} (ho : OpR X (compareOp op) r) (ho' : OpR X (compareOp op') r') (h1 : R2D X.K m r dr) (h2 : R2D X.K m r' dr') (ha : DPE X m a ta da) (hb : DPE X m b tb db) (hc : DPE X m c tc dc)
    (hm : lastMarks [op, op'] [b, c] = false := by with_unfolding_all rfl) : DPE X m (.Compare a [op, op'] [b, c] pos) (tChain r r' ta tb tc) (dChain dr dr' da db dc) := ⟨pe_chain ho ho' ha.pe hb.pe hc.pe hm, ⟨fun {σ H ρ F T Q dQ} er hq k =>
  ha.re.run er hq fun H1 v x e1 er1 vx hq => hb.re.run er1 hq fun H2 u y e2 er2 vy hq => h1.run er2 (vx.step er1 e2) vy hq fun H3 w z e3 er3 vz hq => by
    split at hq
    case h_2 => exact hq.elim
    rename_i kk
    refine ⟨kk, vz.bool, ?_⟩
    cases kk with
    | true =>
      rw [if_pos rfl] at hq ⊢
      exact hc.re.run er3 hq fun H4 w' z' e4 er4 vz' hq => h2.run er4 (vy.step er2 (e3.trans e4)) vz' hq fun H5 w5 z5 e5 er5 v5 hq => k H5 w5 z5 ((((e1.trans e2).trans e3).trans e4).trans e5) er5 v5 hq
    | false =>
      rw [if_neg (by simp)] at hq ⊢
      exact k H3 _ _ ((e1.trans e2).trans e3) er3 (.ofBool _) hq⟩⟩
end
end DL

/-! ==== DLP ==== -/
set_option Elab.async false
set_option linter.all false
set_option maxRecDepth 100000
set_option maxHeartbeats 4000000
namespace DL
open PySem PySem.Spec PyProof.Rows L2

/-! ## the pot of the laws k00 .. k18 -/
def Rdraw : DF := fun xs Q => ∃ n : Int, xs = [.pot, .d (.int n)] ∧ 1 ≤ n ∧ n < 1073741824 ∧ ∀ r : Int, 0 ≤ r → r < n → Q (.int r)
abbrev ixP (K : PySem.W.Frag) (i : Int) : TE := tOp (rIxL K) (tVar 0) (tC (.int i))
abbrev gP (i : Int) : TG := gSub (tVar 0) (tC (.int i)) rSetL
abbrev rDvm : List V → Hp → VK → Prop := fun xs H Q => ∃ i j, xs = [.int i, .int j] ∧ CDiv i j ∧ ∀ p, H p = none → Q (.ref p) (upd H p (.tup [.int (i / j), .int (i % j)]))
abbrev rInt1 : List V → Hp → VK → Prop := fun xs H Q => (∃ i, xs = [.int i] ∧ Q (.int i) H) ∨ ∃ k, xs = [.bl k] ∧ Q (.int (if k then 1 else 0)) H
abbrev rPl : R2 := rI0 fun i j => .int (i + j)
abbrev rTm : R2 := rI CMul fun i j => .int (i * j)
theorem cmulR (i j : Int) (h : 0 ≤ j ∧ j < 9223372036854775808) : CMul i j := .inr ⟨by omega, by omega⟩
theorem cmulL (i j : Int) (h : 0 ≤ i ∧ i < 9223372036854775808) : CMul i j := .inl ⟨by omega, by omega⟩
abbrev rMd : R2 := rI (fun _ j => j ≠ 0) fun i j => .int (i.fmod j)
abbrev rFd : R2 := rI CDivN fun i j => .int (i.fdiv j)
abbrev rGt : R2 := rI0 fun i j => .bl (decide (j < i))
abbrev tInt1 (t : TE) : TE := tCB rInt1 (tCons t tNil)
abbrev tI (i : Int) : TE := tC (.int i)
def t_draw (K : PySem.W.Frag) : TS :=
  tSeq (tIfS (tTest (tOp rGt (ixP K 0) (tI 0)))
    (tSeq (tAsg (tCB rDvm (tCons (ixP K 0) (tCons (tVar 1) tNil))) (gTup K 2 (gCons (gP 0) (gCons (gName 2) gNil)))) (tRet (tVar 2)))
    tNext)
  (tSeq (tAsg (tOp rPl (ixP K 2) (tI 1)) (gP 2))
  (tSeq (tAsg (tOp rMd (tInt1 (tOp rPl (tOp rPl (tOp rTm (ixP K 1) (tOp rPl (tI 44021) (tOp rTm (tI 6) (ixP K 2)))) (tI 60029)) (ixP K 2))) (tI 2147483477)) (gP 1))
  (tRet (tOp rMd (tInt1 (tOp rFd (ixP K 1) (tI 61))) (tVar 1)))))
theorem ixP_ok {K : PySem.W.Frag} {σ : L2.St} {H : Hp} {p : Addr} {xs : List V} {i : Int} {v : V} {Q : VK} (h0 : σ[0]? = some (some (.ref p))) (hp : H p = some (.lst xs)) (ha : atI xs i = some v) (q : Q v H) : ixP K i σ H Q :=
  ⟨_, h0, p, xs, i, v, rfl, rfl, SqL.of hp, ha, q⟩
theorem gP_ok {σ : L2.St} {H : Hp} {p : Addr} {xs : List V} {i : Int} {j : Nat} {v : V} {Q : L2.St → Hp → Prop} (h0 : σ[0]? = some (some (.ref p))) (hp : H p = some (.lst xs)) (hj : ixN xs.length i = some j) (q : Q σ (upd H p (.lst (xs.set j v)))) : gP i v σ H Q :=
  ⟨_, h0, p, xs, i, j, rfl, rfl, hp, hj, q⟩
theorem potOk_upd {P : Option Addr} {H : Hp} {p : Addr} {a b c : Int} (hp : P = some p) (i : PotI a b c) : PotOk P (upd H p (.lst [.int a, .int b, .int c])) := fun q hq => by
  rw [hp] at hq
  cases hq
  exact ⟨a, b, c, upd_same, i⟩
theorem ext_upd {P : Option Addr} {H H' : Hp} {p : Addr} {o : HO} (hp : P = some p) (e : Ext P H H') : Ext P H (upd H' p o) := fun a u hne ha => by
  rw [upd_ne (fun z => hne (by rw [hp, z]))]
  exact e a u hne ha
theorem pure_draw {K : PySem.W.Frag} (vs : List V) (H : Hp) (Q : VK) (E : XK) (h : dsp K Rdraw vs H Q E) : t_draw K { nx := fun _ H' => Q .non H', rt := Q } (L2.start ["p", "f", "d"] vs) H := by
  obtain ⟨m, xs, e0, hb, ha, Pq, ⟨n, rfl, h1, h2, hPq⟩, hQ⟩ := h
  subst e0
  cases ha with
  | pot hmp hrest =>
    rename_i p vs
    cases hrest with
    | d r hr2 =>
      cases hr2
      cases r
      obtain ⟨a, b, c, hp, ia, ib, ib2, ic⟩ := hb.pot p hmp
      have fin : ∀ (H' : Hp) (r : Int), 0 ≤ r → r < n → Ext m.P m.H0 H' → PotOk m.P H' → Q (.int r) H' := fun H' r q1 q2 e po => hQ (.int r) (hPq r q1 q2) H' (.int r) e po (.int r)
      refine ixP_ok rfl hp rfl ⟨a, 0, rfl, rfl, decide (0 < a), rfl, ?_⟩
      by_cases hpos : 0 < a
      · rw [show decide (0 < a) = true from decide_eq_true hpos]
        refine (if_pos rfl : (if true = true then _ else _) = _).mpr ?_
        refine ixP_ok rfl hp rfl ⟨_, rfl, ?_⟩
        refine ⟨a, n, rfl, ⟨by omega, by omega⟩, fun q hq => ?_⟩
        have npq : p ≠ q := fun z => by rw [z, hq] at hp; cases hp
        have hp' : upd m.H0 q (.tup [.int (a / n), .int (a % n)]) p = some (.lst [.int a, .int b, .int c]) := by rw [upd_ne npq]; exact hp
        refine ⟨q, _, rfl, SqT.of upd_same, rfl, _, _, rfl, gP_ok (j := 0) rfl hp' rfl ⟨_, _, rfl, rfl, ?_⟩⟩
        refine ⟨_, rfl, fin _ _ (Int.emod_nonneg _ (by omega)) (Int.emod_lt_of_pos _ (by omega)) (ext_upd hmp fun x o hne hx => ?_) (potOk_upd hmp ⟨Int.ediv_nonneg ia (by omega), ib, ib2, ic⟩)⟩
        rw [upd_ne (fun z => by rw [z, hq] at hx; cases hx)]
        exact hx
      · rw [show decide (0 < a) = false from decide_eq_false hpos]
        refine (if_neg (by simp) : (if false = true then _ else _) = _).mpr ?_
        refine ixP_ok rfl hp rfl ⟨_, _, rfl, rfl, gP_ok (j := 2) rfl hp rfl ?_⟩
        have e1 : upd m.H0 p (.lst [.int a, .int b, .int (c + 1)]) p = some (.lst [.int a, .int b, .int (c + 1)]) := upd_same
        have ec : ∀ {H1 : Hp} {a b c : Int}, upd H1 p (.lst [.int a, .int b, .int c]) p = some (.lst [.int a, .int b, .int c]) := upd_same
        refine ixP_ok rfl e1 rfl (ixP_ok rfl e1 rfl ⟨_, _, rfl, rfl, cmulL _ _ ⟨by decide, by decide⟩, _, _, rfl, rfl, _, _, rfl, rfl, cmulL _ _ ⟨ib, by omega⟩, _, _, rfl, rfl, ixP_ok rfl e1 rfl ⟨_, _, rfl, rfl, .inl ⟨_, rfl, _, _, rfl, rfl, (by decide : (2147483477 : Int) ≠ 0), gP_ok (j := 1) rfl e1 rfl ?_⟩⟩⟩)
        refine ixP_ok rfl ec rfl ⟨_, _, rfl, rfl, (⟨by decide, by decide⟩ : (61 : Int) ≠ 0 ∧ (61 : Int).natAbs < 1073741824), .inl ⟨_, rfl, ⟨_, rfl, _, _, rfl, rfl, by omega, ?_⟩⟩⟩
        have hfm : ∀ x : Int, 0 ≤ x.fmod 2147483477 ∧ x.fmod 2147483477 < 2147483477 := fun x => ⟨Int.fmod_nonneg_of_pos _ (by decide), Int.fmod_lt_of_pos _ (by decide)⟩
        exact fin _ _ (Int.fmod_nonneg_of_pos _ (by omega)) (Int.fmod_lt_of_pos _ (by omega)) (ext_upd hmp (ext_upd hmp fun x o _ hx => hx)) (potOk_upd hmp ⟨ia, (hfm _).1, (hfm _).2, by omega⟩)

/-! ### the pot itself -/
/-- what the law hands to the pot: the script, a turn below its length or not -/
def spPot (K : PySem.W.Frag) : Sp := fun vs H Q _ => ∃ (a : Addr) (ns : List Int) (t : Int), vs = [.ref a, .int t] ∧ SqL K H a (ns.map V.int) ∧ 0 ≤ t ∧
  ∀ H' p x y, Ex H H' → H p = none → H' p = some (.lst [.int x, .int y, .int 0]) → PotI x y 0 → Q (.ref p) H'
abbrev rSlA (K : PySem.W.Frag) := rSlL K
abbrev rMod1 (i : TE) (j : Int) : TE := tOp rMd i (tI j)
abbrev rAbs1 : List V → Hp → VK → Prop := rAbs
def t_pot (K : PySem.W.Frag) : TS :=
  tSeq (tAsg (tOp rPl (tI 733001) (tOp rTm (tI 4409) (tVar 1))) (gName 2))
  (tSeq (tFor (iList K (tSl (rSlL K) (tVar 0) tNoPart (tPart (tI 11)))) (gName 3)
    (tAsg (rMod1 (tInt1 (tOp rPl (tOp rPl (tOp rTm (tVar 2) (tI 50021)) (tOp rTm (rMod1 (tInt1 (tVar 3)) 1999999973) (tI 3))) (tI 17))) 2147483477) (gName 2)))
  (tSeq (tAsg (tIf (tTest (tOp (rI0 fun i j => .bl (decide (i < j))) (tVar 1) (tCB (rLen K) (tCons (tVar 0) tNil)))) (tInt1 (tOp (rIxL K) (tVar 0) (tVar 1))) (tI 0)) (gName 4))
  (tSeq (tAsg (tIf (tTest (tOp (rI0 fun i j => .bl (decide (j ≤ i))) (tCB rAbs (tCons (tVar 4) tNil)) (tOp (rI CPow fun i j => .int (i ^ j.toNat)) (tI 10) (tI 16)))) (tCB rAbs (tCons (tVar 4) tNil)) (tI 0)) (gName 5))
  (tRet (tLst (tCons (tVar 5) (tCons (rMod1 (tInt1 (tOp rPl (tOp rPl (tOp rTm (tVar 2) (tI 30011)) (rMod1 (tInt1 (tVar 4)) 1999999973)) (tI 7))) 2147483477) (tCons (tI 0) tNil))))))))
theorem ite_t {P Q : Prop} (h : P) : (if true = true then P else Q) := (if_pos rfl).mpr h
theorem ite_f {P Q : Prop} (h : Q) : (if false = true then P else Q) := (if_neg (by simp)).mpr h
theorem pure_pot {K : PySem.W.Frag} (vs : List V) (H : Hp) (Q : VK) (E : XK) (h : spPot K vs H Q E) : t_pot K { nx := fun _ H' => Q .non H', rt := Q } (L2.start ["s", "t", "u", "e", "c", "d"] vs) H := by
  obtain ⟨a, ns, t, rfl, hS, ht, hQ⟩ := h
  refine ⟨_, rfl, _, _, rfl, rfl, cmulL _ _ ⟨by decide, by decide⟩, _, _, rfl, rfl, ?_⟩
  refine ⟨_, rfl, _, rfl, a, _, rfl, hS, fun q hq => ⟨q, rfl, ⟨_, SqL.of upd_same⟩, ?_⟩⟩
  have hys : ∀ v ∈ cutV (ns.map V.int) none (some 11), ∃ i, v = .int i := fun v hv => by
    have h1 : v ∈ ns.map V.int := List.mem_of_mem_drop (List.mem_of_mem_take hv)
    obtain ⟨i, _, e⟩ := List.mem_map.mp h1
    exact ⟨i, e.symm⟩
  generalize hye : cutV (ns.map V.int) none (some 11) = ys at hys ⊢
  have hyq : ∀ {zs}, SqL K (upd H q (.lst ys)) q zs → SqL K (upd H q (.lst ys)) q zs := fun h => h
  have hEx : Ex H (upd H q (.lst ys)) := Ex.new hq
  refine ⟨fun i m σ H' => m = ys.length - i ∧ H' = upd H q (.lst ys) ∧ ∃ u x, σ = [some (.ref a), some (.int t), some (.int u), x, none, none], ⟨_, rfl, rfl, _, _, rfl⟩, ?_⟩
  rintro i m σ H' ⟨rfl, rfl, u, x, rfl⟩
  by_cases hlt : i < ys.length
  · refine .inr ⟨⟨_, _, SqL.of upd_same, List.getElem?_eq_getElem hlt⟩, fun σ' H' => H' = upd H q (.lst ys) ∧ ∃ u x, σ' = [some (.ref a), some (.int t), some (.int u), x, none, none], fun σ' H' ⟨e1, e2⟩ => ⟨ys.length - (i + 1), by omega, rfl, e1, e2⟩, fun v H2 hy => ?_⟩
    obtain ⟨rfl, hu⟩ := hy
    have e2 := hu ys (SqL.of upd_same)
    rw [List.getElem?_eq_getElem hlt] at e2
    cases e2
    obtain ⟨n, hn⟩ := hys ys[i] (List.getElem_mem hlt)
    rw [hn]
    exact ⟨_, rfl, _, _, rfl, rfl, cmulR _ _ ⟨by decide, by decide⟩, _, rfl, .inl ⟨_, rfl, _, _, rfl, rfl, (by decide : (1999999973 : Int) ≠ 0), _, _, rfl, rfl, cmulR _ _ ⟨by decide, by decide⟩, _, _, rfl, rfl, _, _, rfl, rfl, .inl ⟨_, rfl, _, _, rfl, rfl, (by decide : (2147483477 : Int) ≠ 0), rfl, _, _, rfl⟩⟩⟩
  · refine .inl ⟨⟨ys, SqL.of upd_same, by omega⟩, ?_⟩
    have hS' : SqL K (upd H q (.lst ys)) a (ns.map V.int) := hEx.sl hS
    have fin : ∀ c : Int, (tSeq (tAsg (tIf (tTest (tOp (rI0 fun i j => .bl (decide (j ≤ i))) (tCB rAbs (tCons (tVar 4) tNil)) (tOp (rI CPow fun i j => .int (i ^ j.toNat)) (tI 10) (tI 16)))) (tCB rAbs (tCons (tVar 4) tNil)) (tI 0)) (gName 5))
  (tRet (tLst (tCons (tVar 5) (tCons (rMod1 (tInt1 (tOp rPl (tOp rPl (tOp rTm (tVar 2) (tI 30011)) (rMod1 (tInt1 (tVar 4)) 1999999973)) (tI 7))) 2147483477) (tCons (tI 0) tNil)))))) { nx := fun _ H' => Q .non H', rt := Q } [some (.ref a), some (.int t), some (.int u), x, some (.int c), none] (upd H q (.lst ys)) := fun c => by
      have fin2 : ∀ dg : Int, 0 ≤ dg → (tRet (tLst (tCons (tVar 5) (tCons (rMod1 (tInt1 (tOp rPl (tOp rPl (tOp rTm (tVar 2) (tI 30011)) (rMod1 (tInt1 (tVar 4)) 1999999973)) (tI 7))) 2147483477) (tCons (tI 0) tNil))))) { nx := fun _ H' => Q .non H', rt := Q } [some (.ref a), some (.int t), some (.int u), x, some (.int c), some (.int dg)] (upd H q (.lst ys)) := fun dg hdg => by
        refine ⟨_, rfl, _, rfl, _, _, rfl, rfl, cmulR _ _ ⟨by decide, by decide⟩, _, rfl, .inl ⟨_, rfl, _, _, rfl, rfl, (by decide : (1999999973 : Int) ≠ 0), _, _, rfl, rfl, _, _, rfl, rfl, .inl ⟨_, rfl, _, _, rfl, rfl, (by decide : (2147483477 : Int) ≠ 0), ?_⟩⟩⟩
        refine ⟨by show (3 : Nat) ≤ sizeLine; decide, fun p hp => ?_⟩
        have hHp : H p = none := by
          cases z : H p with
          | none => rfl
          | some o =>
            have := hEx p o z
            rw [hp] at this
            cases this
        exact hQ _ p _ _ (Ex.trans hEx (Ex.new hp)) hHp upd_same ⟨hdg, Int.fmod_nonneg_of_pos _ (by decide), Int.fmod_lt_of_pos _ (by decide), Int.le_refl _⟩
      have ab : 0 ≤ (if c < 0 then -c else c) := by
        by_cases z : c < 0
        · rw [if_pos z]; omega
        · rw [if_neg z]; omega
      refine ⟨_, rfl, _, rfl, _, _, rfl, rfl, ⟨by decide, by decide, by decide⟩, _, _, rfl, rfl, _, rfl, ?_⟩
      by_cases hc : (10 : Int) ^ (16 : Int).toNat ≤ (if c < 0 then -c else c)
      · rw [decide_eq_true hc]
        exact ite_t ⟨_, rfl, _, rfl, fin2 _ ab⟩
      · rw [decide_eq_false hc]
        exact ite_f (fin2 0 (Int.le_refl _))
    refine ⟨_, rfl, _, rfl, _, _, rfl, .inl ⟨_, hS', rfl⟩, _, _, rfl, rfl, _, rfl, ?_⟩
    by_cases hc : t < ((ns.map V.int).length : Int)
    · rw [decide_eq_true hc]
      have hl : t.toNat < (ns.map V.int).length := by omega
      have hl2 : t.toNat < ns.length := by rw [List.length_map] at hl; exact hl
      have hat : atI (ns.map V.int) t = some (.int ns[t.toNat]) := by
        have h1 : ixN (ns.map V.int).length t = some t.toNat := by
          unfold ixN
          rw [if_pos ht, if_pos (by omega)]
        unfold atI
        rw [h1]
        show (ns.map V.int)[t.toNat]? = _
        rw [List.getElem?_map, List.getElem?_eq_getElem hl2]
        rfl
      exact ite_t ⟨_, rfl, _, rfl, a, _, t, _, rfl, rfl, hS', hat, .inl ⟨_, rfl, fin _⟩⟩
    · rw [decide_eq_false hc]
      exact ite_f (fin 0)

/-! ### the law: all([right(pot(script, turn)) for turn in range(max(lo, min(len(script), hi)))]) -/
def Rright : DF := fun xs Q => xs = [.pot] ∧ Q (.bool true)
def t_law (K : PySem.W.Frag) (lo hi : Int) : TS :=
  tRet (tCB (rAll K) (tCons (tLc (iRng1 (tCons (tCB (rII fun i j => if j > i then j else i) (tCons (tI lo) (tCons (tCB (rII fun i j => if j < i then j else i) (tCons (tCB (rLen K) (tCons (tVar 0) tNil)) (tCons (tI hi) tNil))) tNil))) tNil)) (gName 1) tYes
    (tCall (dsp K Rright) [] E0 (tCons (tCall (spPot K) [] E0 (tCons (tVar 0) (tCons (tVar 1) tNil))) tNil)) [1]) tNil))
def spLaw (K : PySem.W.Frag) : Sp := fun vs H Q _ => ∃ (a : Addr) (ns : List Int), vs = [.ref a] ∧ SqL K H a (ns.map V.int) ∧ ∀ H', Q (.bl true) H'
theorem tYes_t {σ : L2.St} {H : Hp} {A B : Hp → Prop} (h : A H) : tYes σ H (fun b H3 => if b = true then A H3 else B H3) := h
theorem pure_law {K : PySem.W.Frag} (lo hi : Int) (h1 : 0 ≤ lo ∧ lo ≤ 1000) (h2 : 0 ≤ hi ∧ hi ≤ 1000) (vs : List V) (H : Hp) (Q : VK) (E : XK) (h : spLaw K vs H Q E) : t_law K lo hi { nx := fun _ H' => Q .non H', rt := Q } (L2.start ["s", "t"] vs) H := by
  obtain ⟨a, ns, rfl, hS, hQ⟩ := h
  refine ⟨_, rfl, _, _, rfl, .inl ⟨_, hS, rfl⟩, _, _, rfl, _, _, rfl, ?_⟩
  generalize hc : (if (if hi < ((ns.map V.int).length : Int) then hi else ((ns.map V.int).length : Int)) > lo then (if hi < ((ns.map V.int).length : Int) then hi else ((ns.map V.int).length : Int)) else lo) = c
  have cb : 0 ≤ c ∧ c ≤ 1000 := by
    rw [← hc]
    split
    · split <;> omega
    · omega
  refine ⟨c, congrArg (fun z => [V.int z]) hc, by omega, by omega, fun D hD => ?_⟩
  have hEx : Ex H (upd H D (.lst [])) := Ex.new hD
  refine ⟨fun i m H' => m = c.toNat - i ∧ i ≤ c.toNat ∧ Ex H H' ∧ H' D = some (.lst (List.replicate i (.bl true))), ⟨_, rfl, Nat.zero_le _, hEx, upd_same⟩, ?_⟩
  rintro i m H' ⟨rfl, hi', e1, hDl⟩
  by_cases hlt : i < c.toNat
  · refine .inr ⟨hlt, fun H2 => Ex H H2 ∧ H2 D = some (.lst (List.replicate (i + 1) (.bl true))), fun H2 ⟨e2, e3⟩ => ⟨c.toNat - (i + 1), by omega, rfl, by omega, e2, e3⟩, fun v H2 hy => ?_⟩
    obtain ⟨rfl, rfl⟩ := hy
    have hS' : SqL K H2 a (ns.map V.int) := e1.sl hS
    refine ⟨rfl, ?_⟩
    refine tYes_t ?_
    refine ⟨_, rfl, _, rfl, ?_⟩
    refine ⟨a, ns, _, rfl, hS', by omega, fun H3 p x y e3 hp hpl hpi => ?_⟩
    refine ⟨⟨some p, fun b => decide (b = p), H3⟩, [.pot], rfl, ⟨fun _ _ _ z => z, fun q hq => ?_, fun q hq => ?_, fun b hb => ?_⟩, .pot rfl .nil, fun r => r = .bool true, ⟨rfl, rfl⟩, ?_⟩
    · cases hq
      exact ⟨x, y, 0, hpl, hpi⟩
    · cases hq
      exact decide_eq_true rfl
    · have hb' : b = p := of_decide_eq_true hb
      rw [hb']
      show H3 p ≠ none
      rw [hpl]
      exact fun z => nomatch z
    · rintro r rfl H4 v4 e4 _ r4
      cases r4
      have dp : some p ≠ some D := fun z => by
        cases z
        rw [hDl] at hp
        cases hp
      have hD4 : H4 D = some (.lst (List.replicate i (.bl true))) := e4 D _ dp (e3 D _ hDl)
      refine ⟨_, hD4, ?_, ?_, ?_⟩
      · rw [List.length_replicate]
        have : (1000 : Nat) < sizeLine := by decide
        omega
      · intro b o hb
        have hb2 := e3 b o (e1 b o hb)
        have nb : b ≠ D := fun z => by rw [z, hD] at hb; cases hb
        rw [upd_ne nb]
        refine e4 b o (fun z => ?_) hb2
        cases z
        have := e1 p o hb
        rw [hp] at this
        cases this
      · rw [upd_same, List.replicate_succ']
  · refine .inl ⟨by show c.toNat ≤ i; omega, D, List.replicate i true, rfl, ?_, ?_⟩
    · rw [List.map_replicate]
      exact SqL.of hDl
    · rw [show (List.replicate i true).all id = true from by
        rw [List.all_eq_true]
        intro b hb
        rw [List.eq_of_mem_replicate hb]
        rfl]
      exact hQ _
theorem FnG.dimp {P : Program} {w : World} {K : PySem.W.Frag} {mg : Str → Option Value} {base : Heap} {CX : CXT} {k : Nat} {f : Addr} {fd : FuncData} {ps : List Str} {R R' : DF} (G : FnG P w K mg base CX k f fd ps (dsp K R)) (h : ∀ xs Q, R' xs Q → R xs Q) : FnG P w K mg base CX k f fd ps (dsp K R') :=
  G.imp fun vs H Q E ⟨m, xs, e0, hb, ha, Pq, hR, hQ⟩ => ⟨m, xs, e0, hb, ha, Pq, h _ _ hR, hQ⟩
end DL

/-! ==== DLO ==== -/
set_option Elab.async false
set_option linter.all false
set_option maxRecDepth 100000
set_option maxHeartbeats 4000000
namespace DL
open PySem PySem.Spec PyProof.Rows L2

/-! ## arguments that may be new lists -/
structure RAo (K : PySem.W.Frag) (m : Am) (t : TA) (da : DA) : Prop where
  run : ∀ {σ : L2.St} {H : Hp} {ρ : DEnv} {F T : List Addr} {Q : List V → Hp → Prop} {dQ : List OV → Prop}, ER K m σ H ρ F T → da ρ dQ →
    (∀ H' vs xs fp, Ext m.P H H' → (∀ a ∈ fp, H a = none) → ER K m σ H' ρ F (T ++ fp) → OwnAll K m (Bh m (F ++ (T ++ fp)) H') H' vs xs fp → dQ xs → Q vs H') → t σ H Q
structure DPAo (X : Cx) (m : Am) (es : List Expr) (t : TA) (da : DA) : Prop where
  pa : PA X es t
  ra : RAo X.K m t da
def dConsO (de : DE) (da : DA) : DA := fun ρ Q => de ρ fun x => argOk x = true ∧ da ρ fun xs => Q (x :: xs)
def dConsN (dn : DN) (da : DA) : DA := fun ρ Q => dn ρ fun ys => da ρ fun xs => Q (.lst ys :: xs)
section
variable {X : Cx} {m : Am} {a b c e : Expr} {es : List Expr} {pos p : Pos} {te : TE} {de : DE} {dn : DN} {ua : TA} {va : DA}
theorem ao_nil : DPAo X m [] tNil dNil := ⟨pa_nil, ⟨fun {σ H ρ F T Q dQ} er hq k => k H [] [] [] (Ext.refl _ _) (fun a z => nomatch z) (by rw [List.append_nil]; exact er) .nil hq⟩⟩
theorem ao_d (h : DPE X m e te de) (h' : DPAo X m es ua va) (hs : starEach (e :: es) X.env = (false, eval e X.env) :: starEach es X.env := by rfl) : DPAo X m (e :: es) (tCons te ua) (dConsO de va) := ⟨pa_cons h.pe h'.pa hs, ⟨fun {σ H ρ F T Q dQ} er hq k =>
  h.re.run er hq fun H1 v x e1 er1 vx hq => h'.ra.run er1 hq.2 fun H2 vs xs fp e2 hf er2 ow hq2 => by
    refine k H2 (v :: vs) (x :: xs) fp (e1.trans e2) (fun a ha => Ext.back er1.base.pot e1 (hf a ha)) er2 ?_ hq2
    have vx2 : Own X.K m (Bh m (F ++ (T ++ fp)) H2) H2 v x [] := by
      have z : Ex (Bh m (F ++ T) H1) (Bh m (F ++ (T ++ fp)) H2) := Bh.go er1.base e2 fun a ha => by
        rw [← List.append_assoc] at ha
        rcases List.mem_append.mp ha with y | y
        · exact .inl y
        · exact .inr (hf a y)
      obtain ⟨fq, o, _⟩ := vx
      cases o with
      | d r => exact .d (Rep.mono z _ _ r)
      | pot hp => exact .pot hp
      | lst _ _ => exact nomatch hq.1
      | dic _ _ => exact nomatch hq.1
      | dct _ _ => exact nomatch hq.1
    exact OwnAll.cons (fp := []) vx2 ow⟩⟩
theorem ao_n (h : DPN X m e te dn) (h' : DPAo X m es ua va) (hs : starEach (e :: es) X.env = (false, eval e X.env) :: starEach es X.env := by rfl) : DPAo X m (e :: es) (tCons te ua) (dConsN dn va) := ⟨pa_cons h.pe h'.pa hs, ⟨fun {σ H ρ F T Q dQ} er hq k =>
  h.rn.run er hq fun H1 v ys fp e1 hf1 er1 ow1 hq => h'.ra.run er1 hq fun H2 vs xs fq e2 hf er2 ow hq2 => by
    have eT : (T ++ fp) ++ fq = T ++ (fp ++ fq) := List.append_assoc _ _ _
    rw [eT] at er2 ow
    refine k H2 (v :: vs) (.lst ys :: xs) (fp ++ fq) (e1.trans e2) (fun a ha => ?_) er2 (OwnAll.cons (Own.same (Bh.go er1.base e2 fun a ha => ?_) _ _ _ (fun a ha => er1.keepF e2 (List.mem_append_right _ (List.mem_append_right _ ha))) ow1) ow) hq2
    · rcases List.mem_append.mp ha with y | y
      · exact hf1 a y
      · exact Ext.back er1.base.pot e1 (hf a y)
    · rw [← eT, ← List.append_assoc] at ha
      rcases List.mem_append.mp ha with y | y
      · exact .inl y
      · exact .inr (hf a y)⟩⟩
def setsS (σ : L2.St) : List Nat → List V → L2.St
  | i :: is, v :: vs => setsS (σ.set i (some v)) is vs
  | _, _ => σ
def setsR (ρ : DEnv) : List Nat → List OV → DEnv
  | i :: is, v :: vs => setsR (ρ.set i (some v)) is vs
  | _, _ => ρ
theorem Slots.sets {K : PySem.W.Frag} {B H : Hp} : ∀ {vs : List V} {xs : List OV} {fp : List Addr} (is : List Nat) {σ : L2.St} {ρ : List (Option OV)} {F : List Addr}, OwnAll K m B H vs xs fp → Slots K m B H σ ρ F →
    ∃ F', Slots K m B H (setsS σ is vs) (setsR ρ is xs) F' ∧ (∀ a ∈ F', a ∈ F ++ fp) ∧ ((F ++ fp).Nodup → F'.Nodup)
  | [], _, _, [], σ, ρ, F, .nil, s => ⟨F, s, fun a ha => List.mem_append_left _ ha, fun h => by rw [List.append_nil] at h; exact h⟩
  | [], _, _, _ :: _, σ, ρ, F, .nil, s => ⟨F, s, fun a ha => List.mem_append_left _ ha, fun h => by rw [List.append_nil] at h; exact h⟩
  | v :: vs, x :: xs, _, [], σ, ρ, F, .cons _ _, s => ⟨F, s, fun a ha => List.mem_append_left _ ha, fun h => (List.nodup_append.mp h).1⟩
  | v :: vs, x :: xs, _, i :: is, σ, ρ, F, .cons (fp := f1) (fq := f2) o os, s => by
    obtain ⟨F1, s1, h1, n1⟩ := Slots.set o i s
    obtain ⟨F2, s2, h2, n2⟩ := Slots.sets is os s1
    refine ⟨F2, s2, fun a ha => ?_, fun nd => n2 ?_⟩
    · rw [← List.append_assoc]
      rcases List.mem_append.mp (h2 a ha) with z | z
      · exact List.mem_append_left _ (h1 a z)
      · exact List.mem_append_right _ z
    · rw [← List.append_assoc] at nd
      have nd1 := List.nodup_append.mp nd
      exact List.nodup_append.mpr ⟨n1 nd1.1, nd1.2.1, fun a ha b hb => nd1.2.2 a (h1 a ha) b hb⟩
theorem ER.sets {K : PySem.W.Frag} {σ : L2.St} {H : Hp} {ρ : DEnv} {F fp : List Addr} {vs : List V} {xs : List OV} (er : ER K m σ H ρ F ([] ++ fp)) (is : List Nat) (ow : OwnAll K m (Bh m (F ++ ([] ++ fp)) H) H vs xs fp) :
    ∃ F', ER K m (setsS σ is vs) H (setsR ρ is xs) F' [] ∧ ∀ a ∈ F', a ∈ F ++ fp := by
  obtain ⟨F', h1, h2, h3⟩ := Slots.sets is ow er.slots
  refine ⟨F', ⟨er.base, h1.same (Bh.sub fun a ha => ?_) fun _ _ => rfl, ?_, fun a ha => ?_⟩, h2⟩
  · rw [List.append_nil] at ha
    exact h2 a ha
  · rw [List.append_nil]
    exact h3 er.nd
  · rw [List.append_nil] at ha
    exact er.fresh a (h2 a ha)
def dParO (is : List Nat) (da : DA) : DS := fun D ρ => da ρ fun xs => xs.length = is.length ∧ D.nx (setsR ρ is xs)
theorem rs_parO {K : PySem.W.Frag} {D : Ends} {dD : DEnds} {σ : L2.St} {H : Hp} {ρ : DEnv} {F : List Addr} (is : List Nat) (ha : RAo K m ua va) (er : ER K m σ H ρ F []) (hq : dParO is va dD ρ) (o : EndsOk K m F H D dD) {Q : List V → Hp → Prop} (k : ∀ vs H1, vs.length = is.length → D.nx (setsS σ is vs) H1 → Q vs H1) : ua σ H Q :=
  ha.run er hq fun H' vs xs fp e1 hf er1 ow hx => by
    obtain ⟨F', er2, z⟩ := er1.sets is ow
    have hl : vs.length = xs.length := ow.len
    refine k _ _ (hl.trans hx.1) (o.nx _ H' _ F' er2 (Bh.go er.base e1 fun a ha => ?_) hx.2)
    rw [List.append_nil] at ha
    rcases List.mem_append.mp (z a ha) with y | y
    · exact .inl (List.mem_append_left _ y)
    · exact .inr (hf a y)
theorem s_parO {i j : Nat} {x y : Str} {a b : Expr} {px py pt : Pos} {kt k2 pt2} (hc : X.calm = true) (hN : X.N.Nodup) (hij : i ≠ j) (ha : DPAo X m [a, b] ua va)
    (hw : swappedStores [.Tuple [.Name x px, .Name y py] kt pt] (.Tuple [a, b] k2 pt2) X.env = pure (some [x, y]) := by rfl) (hi : X.N[i]? = some x := by rfl) (hj : X.N[j]? = some y := by rfl)
    (hx : X.env.scope.names.lookup x = some .local := by rfl) (hy : X.env.scope.names.lookup y = some .local := by rfl)
    (hs : swapsWithSole [.Tuple [.Name x px, .Name y py] kt pt] (.Tuple [a, b] k2 pt2) pos.line X.env = pure false := by rfl) :
    DPS X m (.Assign [.Tuple [.Name x px, .Name y py] kt pt] (.Tuple [a, b] k2 pt2) pos) (tPar i j ua) (dParO [i, j] va) := ⟨ps_par hc hN hi hj hij hx hy ha.pa hw hs, ⟨fun {σ H ρ F D dD} er hq o => by
  refine rs_parO [i, j] ha.ra er hq o fun vs H' hl h => ?_
  match vs, hl with
  | [v, u], _ => exact ⟨v, u, rfl, h⟩⟩⟩
theorem s_parO3 {i j l : Nat} {x y z : Str} {a b c : Expr} {px py pz pt : Pos} {kt k2 pt2} (hc : X.calm = true) (hN : X.N.Nodup) (hij : i ≠ j) (hil : i ≠ l) (hjl : j ≠ l) (ha : DPAo X m [a, b, c] ua va)
    (hw : swappedStores [.Tuple [.Name x px, .Name y py, .Name z pz] kt pt] (.Tuple [a, b, c] k2 pt2) X.env = pure (some [x, y, z]) := by rfl) (hi : X.N[i]? = some x := by rfl) (hj : X.N[j]? = some y := by rfl) (hl : X.N[l]? = some z := by rfl)
    (hx : X.env.scope.names.lookup x = some .local := by rfl) (hy : X.env.scope.names.lookup y = some .local := by rfl) (hz : X.env.scope.names.lookup z = some .local := by rfl)
    (hs : swapsWithSole [.Tuple [.Name x px, .Name y py, .Name z pz] kt pt] (.Tuple [a, b, c] k2 pt2) pos.line X.env = pure false := by rfl) :
    DPS X m (.Assign [.Tuple [.Name x px, .Name y py, .Name z pz] kt pt] (.Tuple [a, b, c] k2 pt2) pos) (tPar3 i j l ua) (dParO [i, j, l] va) := ⟨ps_par3 hc hN hi hj hl hij hil hjl hx hy hz ha.pa hw hs, ⟨fun {σ H ρ F D dD} er hq o => by
  refine rs_parO [i, j, l] ha.ra er hq o fun vs H' hl h => ?_
  match vs, hl with
  | [v, u, w], _ => exact ⟨v, u, w, rfl, h⟩⟩⟩
end
end DL

/-! ==== DLE ==== -/
set_option Elab.async false
set_option linter.all false
set_option maxRecDepth 100000
set_option maxHeartbeats 4000000
namespace DL
open PySem PySem.Spec PyProof.Rows L2

/-! ## what is settled: data readings that compute -/
abbrev CE := DEnv → Option OV
abbrev CN := DEnv → Option (List OV)
abbrev CT := DEnv → Option Bool
abbrev C2 := OV → OV → Option OV
abbrev CF := List OV → Option PyData
abbrev CI := DEnv → Option (List PyData)
abbrev CG := PyData → DEnv → Option DEnv
abbrev CGs := List PyData → DEnv → Option DEnv
abbrev CO := DEnv → Option (Option Int)
abbrev CRg := DEnv → Option (Int × Int)
inductive Out where
  | nx (ρ : DEnv)
  | rt (x : PyData)
  | bk (ρ : DEnv)
  | ct (ρ : DEnv)
def Out.go (D : DEnds) : Out → Prop
  | .nx ρ => D.nx ρ
  | .rt x => D.rt x
  | .bk ρ => D.bk ρ
  | .ct ρ => D.ct ρ
abbrev CS := DEnv → Option Out
class EvE (de : DE) (ce : outParam CE) : Prop where
  ev : ∀ {ρ x Q}, ce ρ = some x → Q x → de ρ Q
class EvN (dn : DN) (cn : outParam CN) : Prop where
  ev : ∀ {ρ x Q}, cn ρ = some x → Q x → dn ρ Q
class EvT (dt : DT) (ct : outParam CT) : Prop where
  ev : ∀ {ρ x Q}, ct ρ = some x → Q x → dt ρ Q
class EvA (da : DA) (ca : outParam CN) : Prop where
  ev : ∀ {ρ x Q}, ca ρ = some x → Q x → da ρ Q
class Ev2 (d : D2) (c : outParam C2) : Prop where
  ev : ∀ {x y z Q}, c x y = some z → Q z → d x y Q
class EvF (R : DF) (c : outParam CF) : Prop where
  ev : ∀ {xs r Q}, c xs = some r → Q r → R xs Q
class EvI (di : DI) (ci : outParam CI) : Prop where
  ev : ∀ {ρ x Q}, ci ρ = some x → Q x → di ρ Q
class EvG (dg : DG) (cg : outParam CG) : Prop where
  ev : ∀ {x ρ ρ' Q}, cg x ρ = some ρ' → Q ρ' → dg x ρ Q
class EvGs (dg : DGs) (cg : outParam CGs) : Prop where
  ev : ∀ {x ρ ρ' Q}, cg x ρ = some ρ' → Q ρ' → dg x ρ Q
class EvO (d : DEnv → (Option Int → Prop) → Prop) (c : outParam CO) : Prop where
  ev : ∀ {ρ x Q}, c ρ = some x → Q x → d ρ Q
class EvRg (d : DRg) (c : outParam CRg) : Prop where
  ev : ∀ {ρ x Q}, c ρ = some x → Q x.1 x.2 → d ρ Q
class EvS (ds : DS) (cs : outParam CS) : Prop where
  ev : ∀ {ρ o D}, cs ρ = some o → o.go D → ds D ρ
theorem ob {α β : Type} {x : Option α} {f : α → Option β} {b : β} (h : x.bind f = some b) : ∃ a, x = some a ∧ f a = some b := Option.bind_eq_some_iff.mp h
theorem om {α β : Type} {x : Option α} {f : α → β} {b : β} (h : x.map f = some b) : ∃ a, x = some a ∧ f a = b := Option.map_eq_some_iff.mp h
theorem oi {α : Type} {c : Prop} [Decidable c] {x : Option α} {b : α} (h : (if c then x else none) = some b) : c ∧ x = some b := by
  by_cases hc : c
  · rw [if_pos hc] at h
    exact ⟨hc, h⟩
  · rw [if_neg hc] at h
    cases h

/-! ### expressions -/
def cVar (i : Nat) : CE := fun ρ => (ρ[i]?).bind id
instance {i : Nat} : EvE (dVar i) (cVar i) := ⟨fun {ρ x Q} h q => by
  obtain ⟨a, e1, e2⟩ := ob h
  have e3 : a = some x := e2
  unfold dVar
  rw [e1, e3]
  exact q⟩
def cC (x : PyData) : CE := fun _ => some (.d x)
instance {x : PyData} : EvE (dC x) (cC x) := ⟨fun {ρ y Q} h q => by
  cases h
  exact q⟩
def cOp (c : C2) (a b : CE) : CE := fun ρ => (a ρ).bind fun x => (b ρ).bind fun y => c x y
instance {d : D2} {da db : DE} {c : C2} {ca cb : CE} [h : Ev2 d c] [ha : EvE da ca] [hb : EvE db cb] : EvE (dOp d da db) (cOp c ca cb) := ⟨fun {ρ x Q} e q => by
  obtain ⟨a, e1, e⟩ := ob e
  obtain ⟨b, e2, e⟩ := ob e
  exact ha.ev e1 (hb.ev e2 (h.ev e q))⟩
def cI0 (g : Int → Int → PyData) : C2 := fun x y => match x, y with
  | .d (.int i), .d (.int j) => some (.d (g i j))
  | _, _ => none
instance {g : Int → Int → PyData} : Ev2 (dI0 g) (cI0 g) := ⟨fun {x y z Q} e q => by
  unfold cI0 at e
  split at e
  · cases e
    exact q
  · cases e⟩
def cI2 (C : Int → Int → Prop) [∀ i j, Decidable (C i j)] (g : Int → Int → PyData) : C2 := fun x y => match x, y with
  | .d (.int i), .d (.int j) => if C i j then some (.d (g i j)) else none
  | _, _ => none
instance {C : Int → Int → Prop} [∀ i j, Decidable (C i j)] {g : Int → Int → PyData} : Ev2 (dI2 C g) (cI2 C g) := ⟨fun {x y z Q} e q => by
  unfold cI2 at e
  split at e
  · obtain ⟨h, e⟩ := oi e
    cases e
    exact ⟨h, q⟩
  · cases e⟩
instance {i j : Int} : Decidable (CMul i j) := by
  unfold CMul
  infer_instance
instance {i j : Int} : Decidable (CDivN i j) := by
  unfold CDivN
  infer_instance
instance {i j : Int} : Decidable (CPow i j) := by
  unfold CPow
  infer_instance
def cAdd : C2 := fun x y => match x, y with
  | .d (.int i), .d (.int j) => some (.d (.int (i + j)))
  | .d (.str i), .d (.str j) => if i.length + j.length ≤ sizeLine then some (.d (.str (i ++ j))) else none
  | .d (.tuple xs), .d (.tuple ys) => if xs.length + ys.length ≤ sizeLine then some (.d (.tuple (xs ++ ys))) else none
  | .d (.list xs), .d (.list ys) => if xs.length + ys.length ≤ sizeLine then some (.d (.list (xs ++ ys))) else none
  | _, _ => none
instance : Ev2 dAdd cAdd := ⟨fun {x y z Q} e q => by
  unfold cAdd at e
  split at e
  · cases e
    exact q
  · obtain ⟨h, e⟩ := oi e
    cases e
    exact ⟨h, q⟩
  · obtain ⟨h, e⟩ := oi e
    cases e
    exact ⟨h, q⟩
  · obtain ⟨h, e⟩ := oi e
    cases e
    exact ⟨_, _, rfl, rfl, h, q⟩
  · cases e⟩
abbrev cLt : C2 := cI0 fun i j => .bool (decide (i < j))
abbrev cLe : C2 := cI0 fun i j => .bool (decide (i ≤ j))
abbrev cGt : C2 := cI0 fun i j => .bool (decide (j < i))
abbrev cGe : C2 := cI0 fun i j => .bool (decide (j ≤ i))
def cEqG (g : Bool → Bool) : C2 := fun x y => match x, y with
  | .d (.int i), .d (.int j) => some (.d (.bool (g (decide (i = j)))))
  | .d (.str i), .d (.str j) => some (.d (.bool (g (decide (i = j)))))
  | .d (.bool i), .d (.bool j) => some (.d (.bool (g (decide (i = j)))))
  | x, y => if okv x = true ∧ okv y = true ∧ SeqAt.shaped (vw x) = true ∧ SeqAt.shaped (vw y) = true then some (.d (.bool (g (PyData.eqv (vw x) (vw y))))) else none
abbrev cEq : C2 := cEqG id
abbrev cNe : C2 := cEqG not
instance {g : Bool → Bool} : Ev2 (dEqG g) (cEqG g) := ⟨fun {x y z Q} e q => by
  unfold cEqG at e
  split at e
  · cases e
    exact q
  · cases e
    exact q
  · cases e
    exact q
  · rename_i n1 n2 n3
    obtain ⟨h, e⟩ := oi e
    cases e
    unfold dEqG
    split
    · exact absurd rfl (n1 _ _ rfl)
    · exact absurd rfl (n2 _ _ rfl)
    · exact absurd rfl (n3 _ _ rfl)
    · exact ⟨h.1, h.2.1, h.2.2.1, h.2.2.2, q⟩⟩
def cInG (g : Bool → Bool) : C2 := fun x y => match x, y with
  | .d (.str s), .d (.str z) => (match s.cps.toList with
    | [c] => some (.d (.bool (g (decide (c ∈ z.cps.toList)))))
    | _ => none)
  | .d x, .d (.tuple ys) => if flatD x = true ∧ ys.all flatD = true then some (.d (.bool (g (inD x ys)))) else none
  | .d x, .d (.list ys) => if flatD x = true ∧ ys.all flatD = true then some (.d (.bool (g (inD x ys)))) else none
  | _, _ => none
abbrev cIn : C2 := cInG id
abbrev cNotIn : C2 := cInG not
theorem str_one {s : Str} {c : Nat} (h : s.cps.toList = [c]) : s = ⟨#[c]⟩ := by
  obtain ⟨a⟩ := s
  obtain ⟨l⟩ := a
  have h2 : l = [c] := h
  rw [h2]
instance {g : Bool → Bool} : Ev2 (dInG g) (cInG g) := ⟨fun {x y z Q} e q => by
  unfold cInG at e
  split at e
  · split at e
    · cases e
      exact ⟨_, str_one ‹_›, q⟩
    · cases e
  · rename_i x ys
    obtain ⟨h, e⟩ := oi e
    cases e
    cases x <;> exact ⟨h.1, h.2, q⟩
  · rename_i x ys
    obtain ⟨h, e⟩ := oi e
    cases e
    cases x <;> exact ⟨_, rfl, h.1, h.2, q⟩
  · cases e⟩
def cIx : C2 := fun x y => match x, y with
  | .d (.list xs), .d (.int i) => (atI xs i).map .d
  | .d (.tuple xs), .d (.int i) => (atI xs i).map .d
  | .d (.str s), .d (.int i) => if s.length ≤ sizeLine then (atI s.cps.toList i).map fun c => .d (.str ⟨#[c]⟩) else none
  | .lst xs, .d (.int i) => atI xs i
  | _, _ => none
instance : Ev2 dIx cIx := ⟨fun {x y z Q} e q => by
  unfold cIx at e
  split at e
  · obtain ⟨a, e1, rfl⟩ := om e
    exact ⟨a, e1, q⟩
  · obtain ⟨a, e1, rfl⟩ := om e
    exact ⟨a, e1, q⟩
  · obtain ⟨h, e⟩ := oi e
    obtain ⟨a, e1, rfl⟩ := om e
    exact ⟨h, a, e1, q⟩
  · exact ⟨z, e, q⟩
  · cases e⟩
def cMul : C2 := fun x y => match x, y with
  | .d (.int i), .d (.int j) => if CMul i j then some (.d (.int (i * j))) else none
  | .d (.tuple xs), .d (.int k) => if -1000 ≤ k ∧ k ≤ 1000 ∧ xs.length ≤ 1000 then some (.d (.tuple (List.replicate k.toNat xs).flatten)) else none
  | .d (.list xs), .d (.int k) => if (-(2 ^ 63) ≤ k ∧ k < 2 ^ 63) ∧ xs.length * k.toNat ≤ sizeLine then some (.d (.list (List.replicate k.toNat xs).flatten)) else none
  | _, _ => none
instance : Ev2 dMul cMul := ⟨fun {x y z Q} e q => by
  unfold cMul at e
  split at e
  · obtain ⟨h, e⟩ := oi e
    cases e
    exact ⟨h, q⟩
  · obtain ⟨h, e⟩ := oi e
    cases e
    exact ⟨h, q⟩
  · obtain ⟨h, e⟩ := oi e
    cases e
    exact ⟨_, rfl, h.1, h.2, q⟩
  · cases e⟩
def cNot (a : CE) : CE := fun ρ => (a ρ).bind fun x => match x with
  | .d (.bool c) => some (.d (.bool (!c)))
  | _ => none
instance {da : DE} {ca : CE} [h : EvE da ca] : EvE (dNot da) (cNot ca) := ⟨fun {ρ x Q} e q => by
  obtain ⟨a, e1, e⟩ := ob e
  refine h.ev e1 ?_
  split at e
  · cases e
    exact q
  · cases e⟩
def cAnd (a b : CE) : CE := fun ρ => (a ρ).bind fun x => match x with
  | .d (.bool c) => if c = true then b ρ else some (.d (.bool false))
  | _ => none
def cOr (a b : CE) : CE := fun ρ => (a ρ).bind fun x => match x with
  | .d (.bool c) => if c = true then some (.d (.bool true)) else b ρ
  | _ => none
instance {da db : DE} {ca cb : CE} [h : EvE da ca] [h' : EvE db cb] : EvE (dAnd da db) (cAnd ca cb) := ⟨fun {ρ x Q} e q => by
  obtain ⟨a, e1, e⟩ := ob e
  refine h.ev e1 ?_
  split at e
  · rename_i c
    cases c with
    | true => exact ite_t (h'.ev e q)
    | false =>
      cases e
      exact ite_f q
  · cases e⟩
instance {da db : DE} {ca cb : CE} [h : EvE da ca] [h' : EvE db cb] : EvE (dOr da db) (cOr ca cb) := ⟨fun {ρ x Q} e q => by
  obtain ⟨a, e1, e⟩ := ob e
  refine h.ev e1 ?_
  split at e
  · rename_i c
    cases c with
    | true =>
      cases e
      exact ite_t q
    | false => exact ite_f (h'.ev e q)
  · cases e⟩
def cNeg (a : CE) : CE := fun ρ => (a ρ).bind fun x => match x with
  | .d (.int i) => some (.d (.int (-i)))
  | _ => none
instance {da : DE} {ca : CE} [h : EvE da ca] : EvE (dNeg da) (cNeg ca) := ⟨fun {ρ x Q} e q => by
  obtain ⟨a, e1, e⟩ := ob e
  refine h.ev e1 ?_
  split at e
  · cases e
    exact q
  · cases e⟩
def cIf (t : CT) (a b : CE) : CE := fun ρ => (t ρ).bind fun c => if c = true then a ρ else b ρ
instance {dt : DT} {da db : DE} {ct : CT} {ca cb : CE} [h : EvT dt ct] [h1 : EvE da ca] [h2 : EvE db cb] : EvE (dIf dt da db) (cIf ct ca cb) := ⟨fun {ρ x Q} e q => by
  obtain ⟨c, e1, e⟩ := ob e
  refine h.ev e1 ?_
  cases c with
  | true => exact ite_t (h1.ev e q)
  | false => exact ite_f (h2.ev e q)⟩
def cChain (c c' : C2) (a b d : CE) : CE := fun ρ => (a ρ).bind fun x => (b ρ).bind fun y => (c x y).bind fun z => match z with
  | .d (.bool k) => if k = true then (d ρ).bind fun w => c' y w else some (.d (.bool false))
  | _ => none
instance {d d' : D2} {c c' : C2} {da db dc : DE} {ca cb cc : CE} [h : Ev2 d c] [h' : Ev2 d' c'] [h1 : EvE da ca] [h2 : EvE db cb] [h3 : EvE dc cc] : EvE (dChain d d' da db dc) (cChain c c' ca cb cc) := ⟨fun {ρ x Q} e q => by
  obtain ⟨x1, e1, e⟩ := ob e
  obtain ⟨x2, e2, e⟩ := ob e
  obtain ⟨x3, e3, e⟩ := ob e
  refine h1.ev e1 (h2.ev e2 (h.ev e3 ?_))
  split at e
  · rename_i c
    cases c with
    | true =>
      obtain ⟨x4, e4, e⟩ := ob e
      exact ite_t (h3.ev e4 (h'.ev e q))
    | false =>
      cases e
      exact ite_f q
  · cases e⟩

/-! ### tests -/
def cTest (a : CE) : CT := fun ρ => (a ρ).bind fun x => match x with
  | .d (.bool b) => some b
  | _ => none
instance {da : DE} {ca : CE} [h : EvE da ca] : EvT (dTest da) (cTest ca) := ⟨fun {ρ x Q} e q => by
  obtain ⟨a, e1, e⟩ := ob e
  refine h.ev e1 ?_
  split at e
  · cases e
    exact q
  · cases e⟩
def cAndT (a b : CT) : CT := fun ρ => (a ρ).bind fun c => if c = true then b ρ else some false
def cOrT (a b : CT) : CT := fun ρ => (a ρ).bind fun c => if c = true then some true else b ρ
def cNotT (a : CT) : CT := fun ρ => (a ρ).map fun c => !c
def cYes : CT := fun _ => some true
instance : EvT dYes cYes := ⟨fun {ρ x Q} e q => by
  cases e
  exact q⟩
instance {da db : DT} {ca cb : CT} [h : EvT da ca] [h' : EvT db cb] : EvT (dAndT da db) (cAndT ca cb) := ⟨fun {ρ x Q} e q => by
  obtain ⟨c, e1, e⟩ := ob e
  refine h.ev e1 ?_
  cases c with
  | true => exact ite_t (h'.ev e q)
  | false =>
    cases e
    exact ite_f q⟩
instance {da db : DT} {ca cb : CT} [h : EvT da ca] [h' : EvT db cb] : EvT (dOrT da db) (cOrT ca cb) := ⟨fun {ρ x Q} e q => by
  obtain ⟨c, e1, e⟩ := ob e
  refine h.ev e1 ?_
  cases c with
  | true =>
    cases e
    exact ite_t q
  | false => exact ite_f (h'.ev e q)⟩
instance {da : DT} {ca : CT} [h : EvT da ca] : EvT (dNotT da) (cNotT ca) := ⟨fun {ρ x Q} e q => by
  obtain ⟨c, e1, rfl⟩ := om e
  exact h.ev e1 q⟩

/-! ### arguments, displays -/
def cNil : CN := fun _ => some []
def cCons (a : CE) (r : CN) : CN := fun ρ => (a ρ).bind fun x => (r ρ).map fun xs => x :: xs
instance : EvA dNil cNil := ⟨fun {ρ x Q} e q => by
  cases e
  exact q⟩
instance {da : DE} {dr : DA} {ca : CE} {cr : CN} [h : EvE da ca] [h' : EvA dr cr] : EvA (dCons da dr) (cCons ca cr) := ⟨fun {ρ x Q} e q => by
  obtain ⟨c, e1, e⟩ := ob e
  obtain ⟨r, e2, rfl⟩ := om e
  exact h.ev e1 (h'.ev e2 q)⟩
def cConsO (a : CE) (r : CN) : CN := fun ρ => (a ρ).bind fun x => if argOk x = true then (r ρ).map fun xs => x :: xs else none
instance {da : DE} {dr : DA} {ca : CE} {cr : CN} [h : EvE da ca] [h' : EvA dr cr] : EvA (dConsO da dr) (cConsO ca cr) := ⟨fun {ρ x Q} e q => by
  obtain ⟨c, e1, e⟩ := ob e
  obtain ⟨ok, e⟩ := oi e
  obtain ⟨r, e2, rfl⟩ := om e
  exact h.ev e1 ⟨ok, h'.ev e2 q⟩⟩
def cConsN (a : CN) (r : CN) : CN := fun ρ => (a ρ).bind fun x => (r ρ).map fun xs => .lst x :: xs
instance {da : DN} {dr : DA} {ca : CN} {cr : CN} [h : EvN da ca] [h' : EvA dr cr] : EvA (dConsN da dr) (cConsN ca cr) := ⟨fun {ρ x Q} e q => by
  obtain ⟨c, e1, e⟩ := ob e
  obtain ⟨r, e2, rfl⟩ := om e
  exact h.ev e1 (h'.ev e2 q)⟩
def cTup (a : CN) : CE := fun ρ => (a ρ).bind fun xs => (ovs xs).bind fun ds => if ds.length ≤ sizeLine then some (.d (.tuple ds)) else none
def cLst (a : CN) : CE := fun ρ => (a ρ).bind fun xs => (ovs xs).bind fun ds => if ds.length ≤ sizeLine then some (.d (.list ds)) else none
def cLstN (a : CN) : CN := fun ρ => (a ρ).bind fun xs => (ovs xs).bind fun ds => if ds.length ≤ sizeLine then some (ds.map OV.d) else none
instance {da : DA} {ca : CN} [h : EvA da ca] : EvE (dTup da) (cTup ca) := ⟨fun {ρ x Q} e q => by
  obtain ⟨xs, e1, e⟩ := ob e
  obtain ⟨ds, e2, e⟩ := ob e
  obtain ⟨hl, e⟩ := oi e
  cases e
  exact h.ev e1 ⟨ds, e2, hl, q⟩⟩
instance {da : DA} {ca : CN} [h : EvA da ca] : EvE (dLst da) (cLst ca) := ⟨fun {ρ x Q} e q => by
  obtain ⟨xs, e1, e⟩ := ob e
  obtain ⟨ds, e2, e⟩ := ob e
  obtain ⟨hl, e⟩ := oi e
  cases e
  exact h.ev e1 ⟨ds, e2, hl, q⟩⟩
instance {da : DA} {ca : CN} [h : EvA da ca] : EvN (dLstN da) (cLstN ca) := ⟨fun {ρ x Q} e q => by
  obtain ⟨xs, e1, e⟩ := ob e
  obtain ⟨ds, e2, e⟩ := ob e
  obtain ⟨hl, e⟩ := oi e
  cases e
  exact h.ev e1 ⟨ds, e2, hl, q⟩⟩
def cNE (n : CN) : CE := fun ρ => (n ρ).bind fun xs => if okvs xs = true then some (.d (.list (vws xs))) else none
instance {dn : DN} {cn : CN} [h : EvN dn cn] : EvE (dNE dn) (cNE cn) := ⟨fun {ρ x Q} e q => by
  obtain ⟨xs, e1, e⟩ := ob e
  obtain ⟨hl, e⟩ := oi e
  cases e
  exact h.ev e1 ⟨hl, q⟩⟩
def cRepN (a b : CE) : CN := fun ρ => (a ρ).bind fun x => (b ρ).bind fun y => match y with
  | .d (.int k) => (asList x).bind fun xs => if (-(2 ^ 63) ≤ k ∧ k < 2 ^ 63) ∧ xs.length * k.toNat ≤ sizeLine then some ((List.replicate k.toNat xs).flatten.map OV.d) else none
  | _ => none
instance {da db : DE} {ca cb : CE} [h : EvE da ca] [h' : EvE db cb] : EvN (dRepN da db) (cRepN ca cb) := ⟨fun {ρ x Q} e q => by
  obtain ⟨x1, e1, e⟩ := ob e
  obtain ⟨x2, e2, e⟩ := ob e
  refine h.ev e1 (h'.ev e2 ?_)
  split at e
  · obtain ⟨xs, e3, e⟩ := ob e
    obtain ⟨hl, e⟩ := oi e
    cases e
    exact ⟨xs, e3, hl.1, hl.2, q⟩
  · cases e⟩
def cCatN (a b : CE) : CN := fun ρ => (a ρ).bind fun x => (b ρ).bind fun y => (asList x).bind fun xs => (asList y).bind fun ys => if xs.length + ys.length ≤ sizeLine then some ((xs ++ ys).map OV.d) else none
instance {da db : DE} {ca cb : CE} [h : EvE da ca] [h' : EvE db cb] : EvN (dCatN da db) (cCatN ca cb) := ⟨fun {ρ x Q} e q => by
  obtain ⟨x1, e1, e⟩ := ob e
  obtain ⟨x2, e2, e⟩ := ob e
  obtain ⟨x3, e3, e⟩ := ob e
  obtain ⟨x4, e4, e⟩ := ob e
  obtain ⟨hl, e⟩ := oi e
  cases e
  exact h.ev e1 (h'.ev e2 ⟨x3, x4, e3, e4, hl, q⟩)⟩
/-! ### slices -/
def cNoPart : CO := fun _ => some none
def cPart (a : CE) : CO := fun ρ => (a ρ).bind fun x => match x with
  | .d (.int i) => some (some i)
  | _ => none
instance : EvO dNoPart cNoPart := ⟨fun {ρ x Q} e q => by
  cases e
  exact q⟩
instance {da : DE} {ca : CE} [h : EvE da ca] : EvO (dPart da) (cPart ca) := ⟨fun {ρ x Q} e q => by
  obtain ⟨a, e1, e⟩ := ob e
  refine h.ev e1 ?_
  split at e
  · cases e
    exact q
  · cases e⟩
def cSlV (x : OV) (lo hi : Option Int) : Option OV := match x with
  | .d (.str z) => if z.length ≤ sizeLine then some (.d (.str (cutS z lo hi))) else none
  | .d (.tuple xs) => some (.d (.tuple (cutD xs lo hi)))
  | .d (.list xs) => some (.d (.list (cutD xs lo hi)))
  | _ => none
def cSl (a : CE) (l h : CO) : CE := fun ρ => (a ρ).bind fun x => (l ρ).bind fun l => (h ρ).bind fun h => cSlV x l h
instance {da : DE} {dl dh : DEnv → (Option Int → Prop) → Prop} {ca : CE} {cl ch : CO} [h : EvE da ca] [h1 : EvO dl cl] [h2 : EvO dh ch] : EvE (dSl da dl dh) (cSl ca cl ch) := ⟨fun {ρ x Q} e q => by
  obtain ⟨x1, e1, e⟩ := ob e
  obtain ⟨x2, e2, e⟩ := ob e
  obtain ⟨x3, e3, e⟩ := ob e
  refine h.ev e1 (h1.ev e2 (h2.ev e3 ?_))
  unfold cSlV at e
  split at e
  · obtain ⟨hl, e⟩ := oi e
    cases e
    exact ⟨hl, q⟩
  · cases e
    exact q
  · cases e
    exact ⟨_, rfl, q⟩
  · cases e⟩

/-! ### calls -/
def cCB (c : CF) (a : CN) : CE := fun ρ => (a ρ).bind fun xs => (c xs).map .d
instance {R : DF} {c : CF} {da : DA} {ca : CN} [h : EvF R c] [h' : EvA da ca] : EvE (dCB R da) (cCB c ca) := ⟨fun {ρ x Q} e q => by
  obtain ⟨x1, e1, e⟩ := ob e
  obtain ⟨r, e2, rfl⟩ := om e
  exact h'.ev e1 (h.ev (Q := fun z => Q (.d z)) e2 q)⟩
def cCall (c : CF) (a : CN) : CE := fun ρ => (a ρ).bind fun xs => if xs.all argOk = true then (c xs).map .d else none
instance {R : DF} {c : CF} {da : DA} {ca : CN} [h : EvF R c] [h' : EvA da ca] : EvE (dCall R da) (cCall c ca) := ⟨fun {ρ x Q} e q => by
  obtain ⟨x1, e1, e⟩ := ob e
  obtain ⟨ok, e⟩ := oi e
  obtain ⟨r, e2, rfl⟩ := om e
  refine h'.ev e1 ⟨ok, fun z => z = r, h.ev e2 rfl, fun z hz => ?_⟩
  rw [hz]
  exact q⟩
def cCallX (c : CF) (n l : Nat) (π : List Nat) (a k : CN) : CE := fun ρ => (a ρ).bind fun xs => (k ρ).bind fun ys => if xs.length = n ∧ ys.length = l ∧ (permL π .pot (xs ++ ys)).all argOk = true then (c (permL π .pot (xs ++ ys))).map .d else none
instance {R : DF} {c : CF} {n l : Nat} {π : List Nat} {da dk : DA} {ca ck : CN} [h : EvF R c] [h' : EvA da ca] [h2 : EvA dk ck] : EvE (dCallX R n l π da dk) (cCallX c n l π ca ck) := ⟨fun {ρ x Q} e q => by
  obtain ⟨x1, e1, e⟩ := ob e
  obtain ⟨x2, e2, e⟩ := ob e
  obtain ⟨ok, e⟩ := oi e
  obtain ⟨r, e3, rfl⟩ := om e
  refine h'.ev e1 (h2.ev e2 ⟨ok.1, ok.2.1, ok.2.2, fun z => z = r, h.ev e3 rfl, fun z hz => ?_⟩)
  rw [hz]
  exact q⟩
def cLen : CF := fun xs => match xs with
  | [.d (.list ys)] => some (.int ys.length)
  | [.d (.tuple ys)] => some (.int ys.length)
  | [.d (.str z)] => if z.length ≤ sizeLine then some (.int z.length) else none
  | [.lst ys] => some (.int ys.length)
  | _ => none
instance : EvF dLen cLen := ⟨fun {xs r Q} e q => by
  unfold cLen at e
  split at e
  · cases e
    exact q
  · cases e
    exact q
  · obtain ⟨h, e⟩ := oi e
    cases e
    exact ⟨h, q⟩
  · cases e
    exact q
  · cases e⟩
def cInt : CF := fun xs => match xs with
  | [.d (.int i)] => some (.int i)
  | [.d (.bool b)] => some (.int (if b then 1 else 0))
  | [.d (.str z)] => if z.length ≤ 640 then (PySem.intText? z).map .int else none
  | _ => none
instance : EvF dInt cInt := ⟨fun {xs r Q} e q => by
  unfold cInt at e
  split at e
  · cases e
    exact q
  · cases e
    exact q
  · obtain ⟨h, e⟩ := oi e
    obtain ⟨n, e1, rfl⟩ := om e
    exact ⟨h, n, e1, q⟩
  · cases e⟩
def cStrI : CF := fun xs => match xs with
  | [.d (.int i)] => if i.natAbs.log2 < 1920 then some (.str (toString i)) else none
  | _ => none
instance : EvF dStrI cStrI := ⟨fun {xs r Q} e q => by
  unfold cStrI at e
  split at e
  · obtain ⟨h, e⟩ := oi e
    cases e
    exact ⟨h, q⟩
  · cases e⟩
def cI1 (C : Int → Prop) [∀ i, Decidable (C i)] (g : Int → Int) : CF := fun xs => match xs with
  | [.d (.int i)] => if C i then some (.int (g i)) else none
  | _ => none
instance {C : Int → Prop} [∀ i, Decidable (C i)] {g : Int → Int} : EvF (dI1 C g) (cI1 C g) := ⟨fun {xs r Q} e q => by
  unfold cI1 at e
  split at e
  · obtain ⟨h, e⟩ := oi e
    cases e
    exact ⟨h, q⟩
  · cases e⟩
def cII (g : Int → Int → Int) : CF := fun xs => match xs with
  | [.d (.int i), .d (.int j)] => some (.int (g i j))
  | _ => none
instance {g : Int → Int → Int} : EvF (dII g) (cII g) := ⟨fun {xs r Q} e q => by
  unfold cII at e
  split at e
  · cases e
    exact q
  · cases e⟩
def ints? : List PyData → Option (List Int)
  | [] => some []
  | .int i :: r => (ints? r).map (i :: ·)
  | _ => none
def bools? : List PyData → Option (List Bool)
  | [] => some []
  | .bool i :: r => (bools? r).map (i :: ·)
  | _ => none
def strs? : List PyData → Option (List Str)
  | [] => some []
  | .str i :: r => (strs? r).map (i :: ·)
  | _ => none
theorem ints_ok : ∀ {ys : List PyData} {ns : List Int}, ints? ys = some ns → ys = ns.map PyData.int
  | [], _, h => by
    cases h
    rfl
  | y :: r, ns, h => by
    cases y with
    | int i =>
      obtain ⟨a, e1, e2⟩ := om (show (ints? r).map (i :: ·) = some ns from h)
      rw [← e2, ints_ok e1]
      rfl
    | _ => exact nomatch h
theorem bools_ok : ∀ {ys : List PyData} {ns : List Bool}, bools? ys = some ns → ys = ns.map PyData.bool
  | [], _, h => by
    cases h
    rfl
  | y :: r, ns, h => by
    cases y with
    | bool i =>
      obtain ⟨a, e1, e2⟩ := om (show (bools? r).map (i :: ·) = some ns from h)
      rw [← e2, bools_ok e1]
      rfl
    | _ => exact nomatch h
theorem strs_ok : ∀ {ys : List PyData} {ns : List Str}, strs? ys = some ns → ys = ns.map PyData.str
  | [], _, h => by
    cases h
    rfl
  | y :: r, ns, h => by
    cases y with
    | str i =>
      obtain ⟨a, e1, e2⟩ := om (show (strs? r).map (i :: ·) = some ns from h)
      rw [← e2, strs_ok e1]
      rfl
    | _ => exact nomatch h
def cSum : CF := fun xs => match xs with
  | [x] => (asList x).bind fun ys => (ints? ys).map fun ns => .int ns.sum
  | _ => none
instance : EvF dSum cSum := ⟨fun {xs r Q} e q => by
  unfold cSum at e
  split at e
  · obtain ⟨ys, e1, e⟩ := ob e
    obtain ⟨ns, e2, rfl⟩ := om e
    rw [ints_ok e2] at e1
    exact ⟨ns, e1, q⟩
  · cases e⟩
def cBools (g : List Bool → Bool) : CF := fun xs => match xs with
  | [x] => (asList x).bind fun ys => (bools? ys).map fun ns => .bool (g ns)
  | _ => none
instance {g : List Bool → Bool} : EvF (dBools g) (cBools g) := ⟨fun {xs r Q} e q => by
  unfold cBools at e
  split at e
  · obtain ⟨ys, e1, e⟩ := ob e
    obtain ⟨ns, e2, rfl⟩ := om e
    rw [bools_ok e2] at e1
    exact ⟨ns, e1, q⟩
  · cases e⟩
abbrev cAll : CF := cBools fun bs => bs.all id
abbrev cAny : CF := cBools fun bs => bs.any id
def cTupC : CF := fun xs => match xs with
  | [.d (.tuple ys)] => some (.tuple ys)
  | [.d (.list ys)] => some (.tuple ys)
  | _ => none
instance : EvF dTupC cTupC := ⟨fun {xs r Q} e q => by
  unfold cTupC at e
  split at e
  · cases e
    exact q
  · cases e
    exact ⟨_, rfl, q⟩
  · cases e⟩
def cLstC : CF := fun xs => match xs with
  | [x] => (asSeq x).map .list
  | _ => none
instance : EvF dLstC cLstC := ⟨fun {xs r Q} e q => by
  unfold cLstC at e
  split at e
  · obtain ⟨ys, e1, rfl⟩ := om e
    exact ⟨ys, e1, q⟩
  · cases e⟩
def cLstCN (a : CN) : CN := fun ρ => (a ρ).bind fun xs => match xs with
  | [x] => (asSeq x).map fun ys => ys.map OV.d
  | _ => none
instance {da : DA} {ca : CN} [h : EvA da ca] : EvN (dLstCN da) (cLstCN ca) := ⟨fun {ρ x Q} e q => by
  obtain ⟨xs, e1, e⟩ := ob e
  refine h.ev e1 ?_
  split at e
  · obtain ⟨ys, e2, rfl⟩ := om e
    exact ⟨ys, e2, q⟩
  · cases e⟩
instance {d : PyData} : Decidable (canShow d) := by
  unfold canShow
  infer_instance
def cRepr : CF := fun xs => match xs with
  | [x] => if okv x = true ∧ isSeq (vw x) = true ∧ canShow (vw x) then some (.str (vw x).shown) else none
  | _ => none
instance : EvF dRepr cRepr := ⟨fun {xs r Q} e q => by
  unfold cRepr at e
  split at e
  · obtain ⟨h, e⟩ := oi e
    cases e
    exact ⟨h.1, h.2.1, h.2.2, q⟩
  · cases e⟩
def cIsi (T : String) (a : CE) : CE := fun ρ => (a ρ).bind fun x => if okv x = true then some (.d (.bool (isiB (tyN (vw x)) T))) else none
instance {T : String} {da : DE} {ca : CE} [h : EvE da ca] : EvE (dIsi T da) (cIsi T ca) := ⟨fun {ρ x Q} e q => by
  obtain ⟨a, e1, e⟩ := ob e
  obtain ⟨ok, e⟩ := oi e
  cases e
  exact h.ev e1 ⟨ok, q⟩⟩
/-! ### ranges -/
def cRg1 (a : CE) : CRg := fun ρ => (a ρ).bind fun x => match x with
  | .d (.int n) => some (0, n)
  | _ => none
def cRg2 (a b : CE) : CRg := fun ρ => (a ρ).bind fun x => (b ρ).bind fun y => match x, y with
  | .d (.int i), .d (.int j) => some (i, j)
  | _, _ => none
instance {da : DE} {ca : CE} [h : EvE da ca] : EvRg (dRg1 da) (cRg1 ca) := ⟨fun {ρ x Q} e q => by
  obtain ⟨a, e1, e⟩ := ob e
  refine h.ev e1 ?_
  split at e
  · cases e
    exact q
  · cases e⟩
instance {da db : DE} {ca cb : CE} [h : EvE da ca] [h' : EvE db cb] : EvRg (dRg2 da db) (cRg2 ca cb) := ⟨fun {ρ x Q} e q => by
  obtain ⟨a, e1, e⟩ := ob e
  obtain ⟨b, e2, e⟩ := ob e
  refine h.ev e1 (h'.ev e2 ?_)
  split at e
  · cases e
    exact q
  · cases e⟩
instance {i j : Int} : Decidable (RgOk i j) := by
  unfold RgOk
  infer_instance
def cLstRg (c : CRg) : CE := fun ρ => (c ρ).bind fun p => if RgOk p.1 p.2 then some (.d (.list (rngD p.1 (p.2 - p.1).toNat))) else none
def cTupRg (c : CRg) : CE := fun ρ => (c ρ).bind fun p => if RgOk p.1 p.2 then some (.d (.tuple (rngD p.1 (p.2 - p.1).toNat))) else none
def cStarRg (c : CRg) (a : CN) : CN := fun ρ => (c ρ).bind fun p => if RgOk p.1 p.2 then (a ρ).map fun ys => (rngD p.1 (p.2 - p.1).toNat).map OV.d ++ ys else none
instance {dr : DRg} {c : CRg} [h : EvRg dr c] : EvE (dLstRg dr) (cLstRg c) := ⟨fun {ρ x Q} e q => by
  obtain ⟨a, e1, e⟩ := ob e
  obtain ⟨ok, e⟩ := oi e
  cases e
  exact h.ev e1 ⟨ok, q⟩⟩
instance {dr : DRg} {c : CRg} [h : EvRg dr c] : EvE (dTupRg dr) (cTupRg c) := ⟨fun {ρ x Q} e q => by
  obtain ⟨a, e1, e⟩ := ob e
  obtain ⟨ok, e⟩ := oi e
  cases e
  exact h.ev e1 ⟨ok, q⟩⟩
instance {dr : DRg} {c : CRg} {da : DA} {ca : CN} [h : EvRg dr c] [h' : EvA da ca] : EvA (dStarRg dr da) (cStarRg c ca) := ⟨fun {ρ x Q} e q => by
  obtain ⟨a, e1, e⟩ := ob e
  obtain ⟨ok, e⟩ := oi e
  obtain ⟨ys, e2, rfl⟩ := om e
  exact h.ev e1 ⟨ok, h'.ev e2 q⟩⟩
/-! ### tables, text methods -/
def cGIn (kvs : List (Str × PyData)) (a : CE) : CE := fun ρ => (a ρ).bind fun x => match x with
  | .d (.str z) => some (.d (.bool (kvs.lookup z).isSome))
  | _ => none
def cGNot (kvs : List (Str × PyData)) (a : CE) : CE := fun ρ => (a ρ).bind fun x => match x with
  | .d (.str z) => some (.d (.bool (!(kvs.lookup z).isSome)))
  | _ => none
def cGGet (kvs : List (Str × PyData)) (a : CE) : CE := fun ρ => (a ρ).bind fun x => match x with
  | .d (.str z) => (kvs.lookup z).map .d
  | _ => none
instance {kvs : List (Str × PyData)} {da : DE} {ca : CE} [h : EvE da ca] : EvE (dGIn kvs da) (cGIn kvs ca) := ⟨fun {ρ x Q} e q => by
  obtain ⟨a, e1, e⟩ := ob e
  refine h.ev e1 ?_
  split at e
  · cases e
    exact q
  · cases e⟩
instance {kvs : List (Str × PyData)} {da : DE} {ca : CE} [h : EvE da ca] : EvE (dGNot kvs da) (cGNot kvs ca) := ⟨fun {ρ x Q} e q => by
  obtain ⟨a, e1, e⟩ := ob e
  refine h.ev e1 ?_
  split at e
  · cases e
    exact q
  · cases e⟩
instance {kvs : List (Str × PyData)} {da : DE} {ca : CE} [h : EvE da ca] : EvE (dGGet kvs da) (cGGet kvs ca) := ⟨fun {ρ x Q} e q => by
  obtain ⟨a, e1, e⟩ := ob e
  refine h.ev e1 ?_
  split at e
  · obtain ⟨d, e2, rfl⟩ := om e
    exact ⟨d, e2, q⟩
  · cases e⟩
class Ev1R (R : OV → (OV → Prop) → Prop) (c : outParam (OV → Option OV)) : Prop where
  ev : ∀ {x z Q}, c x = some z → Q z → R x Q
def cM0 (c : OV → Option OV) (a : CE) : CE := fun ρ => (a ρ).bind c
instance {R : OV → (OV → Prop) → Prop} {c : OV → Option OV} {da : DE} {ca : CE} [h : Ev1R R c] [h' : EvE da ca] : EvE (dM0 R da) (cM0 c ca) := ⟨fun {ρ x Q} e q => by
  obtain ⟨a, e1, e⟩ := ob e
  exact h'.ev e1 (h.ev e q)⟩
def cM1 (c : C2) (a b : CE) : CE := fun ρ => (a ρ).bind fun x => match x with
  | .d (.str z) => (b ρ).bind fun y => c (.d (.str z)) y
  | _ => none
instance {R : D2} {c : C2} {da db : DE} {ca cb : CE} [h : Ev2 R c] [h1 : EvE da ca] [h2 : EvE db cb] : EvE (dM1 R da db) (cM1 c ca cb) := ⟨fun {ρ x Q} e q => by
  obtain ⟨a, e1, e⟩ := ob e
  refine h1.ev e1 ?_
  split at e
  · obtain ⟨b, e2, e⟩ := ob e
    exact h2.ev e2 (h.ev e q)
  · cases e⟩
def cSplitR : C2 := fun x y => match x, y with
  | .d (.str a), .d (.str b) => if (b.length == 0) = false ∧ a.length + 2 ≤ sizeLine then some (.d (.list ((Txt.split a b).map PyData.str))) else none
  | _, _ => none
instance : Ev2 dSplitR cSplitR := ⟨fun {x y z Q} e q => by
  unfold cSplitR at e
  split at e
  · obtain ⟨h, e⟩ := oi e
    cases e
    exact ⟨h.1, h.2, q⟩
  · cases e⟩
def cJoinR : C2 := fun x y => match x with
  | .d (.str a) => (asSeq y).bind fun ds => (strs? ds).bind fun ys => if (ys.map (·.length)).sum + ys.length * a.length ≤ 16777216 then some (.d (.str (Txt.join a ys))) else none
  | _ => none
instance : Ev2 dJoinR cJoinR := ⟨fun {x y z Q} e q => by
  unfold cJoinR at e
  split at e
  · obtain ⟨ds, e1, e⟩ := ob e
    obtain ⟨ys, e2, e⟩ := ob e
    obtain ⟨h, e⟩ := oi e
    cases e
    rw [strs_ok e2] at e1
    exact ⟨ys, e1, h, q⟩
  · cases e⟩
def cLowerR : OV → Option OV := fun x => match x with
  | .d (.str a) => if a.length ≤ 5592405 then some (.d (.str (Txt.lower a))) else none
  | _ => none
instance : Ev1R dLowerR cLowerR := ⟨fun {x z Q} e q => by
  unfold cLowerR at e
  split at e
  · obtain ⟨h, e⟩ := oi e
    cases e
    exact ⟨h, q⟩
  · cases e⟩
end DL

/-! ==== DLF ==== -/
set_option Elab.async false
set_option linter.all false
set_option maxRecDepth 100000
set_option maxHeartbeats 4000000
namespace DL
open PySem PySem.Spec PyProof.Rows L2

/-! ### statements -/
def cNext : CS := fun ρ => some (.nx ρ)
instance : EvS dNext cNext := ⟨fun {ρ o D} e q => by
  cases e
  exact q⟩
def cSeq (a b : CS) : CS := fun ρ => (a ρ).bind fun o => match o with
  | .nx ρ' => b ρ'
  | o => some o
instance {da db : DS} {ca cb : CS} [h : EvS da ca] [h' : EvS db cb] : EvS (dSeq da db) (cSeq ca cb) := ⟨fun {ρ o D} e q => by
  obtain ⟨o1, e1, e⟩ := ob e
  refine h.ev e1 ?_
  split at e
  · exact h'.ev e q
  · rename_i n
    cases e
    cases o with
    | nx ρ' => exact (n ρ' rfl).elim
    | _ => exact q⟩
def cBreak : CS := fun ρ => some (.bk ρ)
def cCont : CS := fun ρ => some (.ct ρ)
def cNever : CS := fun _ => none
instance : EvS dBreak cBreak := ⟨fun {ρ o D} e q => by
  cases e
  exact q⟩
instance : EvS dCont cCont := ⟨fun {ρ o D} e q => by
  cases e
  exact q⟩
instance : EvS dNever cNever := ⟨fun {ρ o D} e q => by cases e⟩
def cRet (a : CE) : CS := fun ρ => (a ρ).bind fun x => if okv x = true then some (.rt (vw x)) else none
instance {da : DE} {ca : CE} [h : EvE da ca] : EvS (dRet da) (cRet ca) := ⟨fun {ρ o D} e q => by
  obtain ⟨x, e1, e⟩ := ob e
  obtain ⟨ok, e⟩ := oi e
  cases e
  exact h.ev e1 ⟨ok, q⟩⟩
def cRetN : CS := fun _ => some (.rt .none)
instance : EvS dRetN cRetN := ⟨fun {ρ o D} e q => by
  cases e
  exact q⟩
def cIfS (t : CT) (a b : CS) : CS := fun ρ => (t ρ).bind fun c => if c = true then a ρ else b ρ
instance {dt : DT} {da db : DS} {ct : CT} {ca cb : CS} [h : EvT dt ct] [h1 : EvS da ca] [h2 : EvS db cb] : EvS (dIfS dt da db) (cIfS ct ca cb) := ⟨fun {ρ o D} e q => by
  obtain ⟨c, e1, e⟩ := ob e
  refine h.ev e1 ?_
  cases c with
  | true => exact ite_t (h1.ev e q)
  | false => exact ite_f (h2.ev e q)⟩
def cDrop (a : CE) : CS := fun ρ => (a ρ).map fun _ => .nx ρ
instance {da : DE} {ca : CE} [h : EvE da ca] : EvS (dDrop da) (cDrop ca) := ⟨fun {ρ o D} e q => by
  obtain ⟨x, e1, rfl⟩ := om e
  exact h.ev e1 q⟩
def cSet (i : Nat) (a : CE) : CS := fun ρ => (a ρ).bind fun x => if argOk x = true then some (.nx (ρ.set i (some x))) else none
instance {i : Nat} {da : DE} {ca : CE} [h : EvE da ca] : EvS (dSet i da) (cSet i ca) := ⟨fun {ρ o D} e q => by
  obtain ⟨x, e1, e⟩ := ob e
  obtain ⟨ok, e⟩ := oi e
  cases e
  exact h.ev e1 ⟨ok, q⟩⟩
def cSetN (i : Nat) (a : CN) : CS := fun ρ => (a ρ).map fun xs => .nx (ρ.set i (some (.lst xs)))
instance {i : Nat} {dn : DN} {cn : CN} [h : EvN dn cn] : EvS (dSetN i dn) (cSetN i cn) := ⟨fun {ρ o D} e q => by
  obtain ⟨x, e1, rfl⟩ := om e
  exact h.ev e1 q⟩
def cPar (i j : Nat) (a : CN) : CS := fun ρ => (a ρ).bind fun xs => match xs with
  | [x, y] => if argOk x = true ∧ argOk y = true then some (.nx ((ρ.set i (some x)).set j (some y))) else none
  | _ => none
instance {i j : Nat} {da : DA} {ca : CN} [h : EvA da ca] : EvS (dPar i j da) (cPar i j ca) := ⟨fun {ρ o D} e q => by
  obtain ⟨x, e1, e⟩ := ob e
  refine h.ev e1 ?_
  split at e
  · obtain ⟨ok, e⟩ := oi e
    cases e
    exact ⟨ok.1, ok.2, q⟩
  · cases e⟩
def cPar3 (i j l : Nat) (a : CN) : CS := fun ρ => (a ρ).bind fun xs => match xs with
  | [x, y, z] => if argOk x = true ∧ argOk y = true ∧ argOk z = true then some (.nx (((ρ.set i (some x)).set j (some y)).set l (some z))) else none
  | _ => none
instance {i j l : Nat} {da : DA} {ca : CN} [h : EvA da ca] : EvS (dPar3 i j l da) (cPar3 i j l ca) := ⟨fun {ρ o D} e q => by
  obtain ⟨x, e1, e⟩ := ob e
  refine h.ev e1 ?_
  split at e
  · obtain ⟨ok, e⟩ := oi e
    cases e
    exact ⟨ok.1, ok.2.1, ok.2.2, q⟩
  · cases e⟩
def cParO (is : List Nat) (a : CN) : CS := fun ρ => (a ρ).bind fun xs => if xs.length = is.length then some (.nx (setsR ρ is xs)) else none
instance {is : List Nat} {da : DA} {ca : CN} [h : EvA da ca] : EvS (dParO is da) (cParO is ca) := ⟨fun {ρ o D} e q => by
  obtain ⟨x, e1, e⟩ := ob e
  obtain ⟨ok, e⟩ := oi e
  cases e
  exact h.ev e1 ⟨ok, q⟩⟩
/-! ### targets -/
def cgName (i : Nat) : CG := fun x ρ => some (ρ.set i (some (.d x)))
instance {i : Nat} : EvG (dgName i) (cgName i) := ⟨fun {x ρ ρ' Q} e q => by
  cases e
  exact q⟩
def cgNil : CGs := fun xs ρ => match xs with
  | [] => some ρ
  | _ => none
instance : EvGs dgNil cgNil := ⟨fun {x ρ ρ' Q} e q => by
  unfold cgNil at e
  split at e
  · cases e
    exact q
  · cases e⟩
def cgCons (g : CG) (gs : CGs) : CGs := fun xs ρ => match xs with
  | x :: r => (g x ρ).bind fun ρ' => gs r ρ'
  | [] => none
instance {dg : DG} {dgs : DGs} {cg : CG} {cgs : CGs} [h : EvG dg cg] [h' : EvGs dgs cgs] : EvGs (dgCons dg dgs) (cgCons cg cgs) := ⟨fun {x ρ ρ' Q} e q => by
  unfold cgCons at e
  split at e
  · obtain ⟨r, e1, e⟩ := ob e
    exact h.ev e1 (h'.ev e q)
  · cases e⟩
def cgTup (gs : CGs) : CG := fun x ρ => match x with
  | .tuple xs => gs xs ρ
  | _ => none
def cgUnl (gs : CGs) : CG := fun x ρ => match x with
  | .list xs => gs xs ρ
  | _ => none
instance {dgs : DGs} {cgs : CGs} [h : EvGs dgs cgs] : EvG (dgTup dgs) (cgTup cgs) := ⟨fun {x ρ ρ' Q} e q => by
  unfold cgTup at e
  split at e
  · exact h.ev e q
  · cases e⟩
instance {dgs : DGs} {cgs : CGs} [h : EvGs dgs cgs] : EvG (dgUnl dgs) (cgUnl cgs) := ⟨fun {x ρ ρ' Q} e q => by
  unfold cgUnl at e
  split at e
  · exact h.ev e q
  · cases e⟩
def cAsgG (a : CE) (g : CG) : CS := fun ρ => (a ρ).bind fun x => match x with
  | .d y => (g y ρ).map .nx
  | _ => none
instance {da : DE} {ca : CE} {dg : DG} {cg : CG} [h : EvE da ca] [h' : EvG dg cg] : EvS (dAsgG da dg) (cAsgG ca cg) := ⟨fun {ρ o D} e q => by
  obtain ⟨x, e1, e⟩ := ob e
  refine h.ev e1 ?_
  split at e
  · obtain ⟨r, e2, rfl⟩ := om e
    exact h'.ev e2 q
  · cases e⟩
/-! ### own lists -/
def cApp (i : Nat) (a : CE) : CS := fun ρ => (getL ρ i).bind fun xs => (a ρ).bind fun y => if argOk y = true ∧ xs.length < sizeLine then some (.nx (ρ.set i (some (.lst (xs ++ [y]))))) else none
instance {i : Nat} {da : DE} {ca : CE} [h : EvE da ca] : EvS (dApp i da) (cApp i ca) := ⟨fun {ρ o D} e q => by
  obtain ⟨xs, e1, e⟩ := ob e
  obtain ⟨y, e2, e⟩ := ob e
  obtain ⟨ok, e⟩ := oi e
  cases e
  unfold dApp
  rw [e1]
  exact h.ev e2 ⟨ok.1, ok.2, q⟩⟩
def cAppN (i : Nat) (a : CN) : CS := fun ρ => (getL ρ i).bind fun xs => (a ρ).bind fun ys => if xs.length < sizeLine then some (.nx (ρ.set i (some (.lst (xs ++ [.lst ys]))))) else none
instance {i : Nat} {da : DN} {ca : CN} [h : EvN da ca] : EvS (dAppN i da) (cAppN i ca) := ⟨fun {ρ o D} e q => by
  obtain ⟨xs, e1, e⟩ := ob e
  obtain ⟨y, e2, e⟩ := ob e
  obtain ⟨ok, e⟩ := oi e
  cases e
  unfold dAppN
  rw [e1]
  exact h.ev e2 ⟨ok, q⟩⟩
def cFrz (i : Nat) (a : CS) : CS := fun ρ => a (frzAt ρ i)
instance {i : Nat} {da : DS} {ca : CS} [h : EvS da ca] : EvS (dFrz i da) (cFrz i ca) := ⟨fun {ρ o D} e q => h.ev (show ca (frzAt ρ i) = some o from e) q⟩
def cSet1 (r : Nat) (a b : CE) : CS := fun ρ => (getL ρ r).bind fun xs => (a ρ).bind fun y => (b ρ).bind fun k => match k with
  | .d (.int i) => if argOk y = true then (ixN xs.length i).map fun j => .nx (ρ.set r (some (.lst (xs.set j y)))) else none
  | _ => none
instance {r : Nat} {da db : DE} {ca cb : CE} [h : EvE da ca] [h' : EvE db cb] : EvS (dSet1 r da db) (cSet1 r ca cb) := ⟨fun {ρ o D} e q => by
  obtain ⟨xs, e1, e⟩ := ob e
  obtain ⟨y, e2, e⟩ := ob e
  obtain ⟨k, e3, e⟩ := ob e
  unfold dSet1
  rw [e1]
  refine h.ev e2 (h'.ev e3 ?_)
  split at e
  · obtain ⟨ok, e⟩ := oi e
    obtain ⟨j, e4, rfl⟩ := om e
    exact ⟨ok, j, e4, q⟩
  · cases e⟩
def asL? : Option OV → Option (List OV)
  | some (.lst ys) => some ys
  | _ => none
theorem asL_ok {x : Option OV} {ys : List OV} (h : asL? x = some ys) : x = some (.lst ys) := by
  unfold asL? at h
  split at h
  · cases h
    rfl
  · cases h
def cSet2 (r : Nat) (a b d : CE) : CS := fun ρ => (getL ρ r).bind fun xs => (a ρ).bind fun y => (b ρ).bind fun k => match k with
  | .d (.int i) => (ixN xs.length i).bind fun n => (asL? xs[n]?).bind fun ys => (d ρ).bind fun l => match l with
    | .d (.int j) => if argOk y = true then (ixN ys.length j).map fun l => .nx (ρ.set r (some (.lst (xs.set n (.lst (ys.set l y)))))) else none
    | _ => none
  | _ => none
instance {r : Nat} {da db dd : DE} {ca cb cd : CE} [h : EvE da ca] [h' : EvE db cb] [h2 : EvE dd cd] : EvS (dSet2 r da db dd) (cSet2 r ca cb cd) := ⟨fun {ρ o D} e q => by
  obtain ⟨xs, e1, e⟩ := ob e
  obtain ⟨y, e2, e⟩ := ob e
  obtain ⟨k, e3, e⟩ := ob e
  unfold dSet2
  rw [e1]
  refine h.ev e2 (h'.ev e3 ?_)
  split at e
  · obtain ⟨n, e4, e⟩ := ob e
    obtain ⟨ys, e5, e⟩ := ob e
    obtain ⟨l, e6, e⟩ := ob e
    refine ⟨n, e4, ys, asL_ok e5, h2.ev e6 ?_⟩
    split at e
    · obtain ⟨ok, e⟩ := oi e
      obtain ⟨j, e7, rfl⟩ := om e
      exact ⟨ok, j, e7, q⟩
    · cases e
  · cases e⟩
/-! ### loops -/
def ciSeq (a : CE) : CI := fun ρ => (a ρ).bind fun x => match x with
  | .d (.list xs) => some xs
  | .d (.tuple xs) => some xs
  | _ => none
def ciList (a : CE) : CI := fun ρ => (a ρ).bind fun x => match x with
  | .d (.list xs) => some xs
  | _ => none
def ciTup (a : CE) : CI := fun ρ => (a ρ).bind fun x => match x with
  | .d (.tuple xs) => some xs
  | _ => none
instance {da : DE} {ca : CE} [h : EvE da ca] : EvI (diList da) (ciList ca) := ⟨fun {ρ x Q} e q => by
  obtain ⟨y, e1, e⟩ := ob e
  refine h.ev e1 ?_
  split at e
  · cases e
    exact q
  · cases e⟩
instance {da : DE} {ca : CE} [h : EvE da ca] : EvI (diTup da) (ciTup ca) := ⟨fun {ρ x Q} e q => by
  obtain ⟨y, e1, e⟩ := ob e
  refine h.ev e1 ?_
  split at e
  · cases e
    exact q
  · cases e⟩
def ciRng1 (a : CN) : CI := fun ρ => (a ρ).bind fun xs => match xs with
  | [.d (.int j)] => if -(2 ^ 62) ≤ j ∧ j < 2 ^ 62 then some (rngD 0 j.toNat) else none
  | _ => none
def ciRng2 (a : CN) : CI := fun ρ => (a ρ).bind fun xs => match xs with
  | [.d (.int i), .d (.int j)] => if -(2 ^ 62) ≤ i ∧ i < 2 ^ 62 ∧ -(2 ^ 62) ≤ j ∧ j < 2 ^ 62 then some (rngD i (j - i).toNat) else none
  | _ => none
instance {da : DA} {ca : CN} [h : EvA da ca] : EvI (diRng1 da) (ciRng1 ca) := ⟨fun {ρ x Q} e q => by
  obtain ⟨y, e1, e⟩ := ob e
  refine h.ev e1 ?_
  split at e
  · obtain ⟨ok, e⟩ := oi e
    cases e
    exact ⟨ok, q⟩
  · cases e⟩
instance {da : DA} {ca : CN} [h : EvA da ca] : EvI (diRng2 da) (ciRng2 ca) := ⟨fun {ρ x Q} e q => by
  obtain ⟨y, e1, e⟩ := ob e
  refine h.ev e1 ?_
  split at e
  · obtain ⟨ok, e⟩ := oi e
    cases e
    exact ⟨ok, q⟩
  · cases e⟩
def ciZip (a : CN) : CI := fun ρ => (a ρ).bind fun xs => match xs with
  | [.d (.tuple xs), .d (.tuple ys)] => some (zipD xs ys)
  | [.d (.list xs), .d (.list ys)] => some (zipD xs ys)
  | _ => none
instance {da : DA} {ca : CN} [h : EvA da ca] : EvI (diZip da) (ciZip ca) := ⟨fun {ρ x Q} e q => by
  obtain ⟨y, e1, e⟩ := ob e
  refine h.ev e1 ?_
  split at e
  · cases e
    exact q
  · cases e
    exact q
  · cases e⟩
def cLoop (g : CG) (body : CS) : List PyData → CS
  | [], ρ => some (.nx ρ)
  | x :: xs, ρ => (g x ρ).bind fun ρ' => (body ρ').bind fun o => match o with
    | .nx ρ2 => cLoop g body xs ρ2
    | .ct ρ2 => cLoop g body xs ρ2
    | .bk ρ2 => some (.nx ρ2)
    | .rt v => some (.rt v)
theorem loop_ev {dg : DG} {db : DS} {cg : CG} {cb : CS} [h : EvG dg cg] [h' : EvS db cb] : ∀ (xs : List PyData) {ρ : DEnv} {o : Out} {D : DEnds}, cLoop cg cb xs ρ = some o → o.go D → dLoop dg db xs D ρ
  | [], ρ, o, D, e, q => by
    cases e
    exact q
  | x :: xs, ρ, o, D, e, q => by
    obtain ⟨r, e1, e⟩ := ob e
    obtain ⟨p, e2, e⟩ := ob e
    refine h.ev e1 (h'.ev e2 ?_)
    cases p with
    | nx ρ2 => exact loop_ev xs e q
    | ct ρ2 => exact loop_ev xs e q
    | bk ρ2 =>
      cases e
      exact q
    | rt v =>
      cases e
      exact q
def cFor (i : CI) (g : CG) (body : CS) : CS := fun ρ => (i ρ).bind fun xs => cLoop g body xs ρ
instance {di : DI} {ci : CI} {dg : DG} {db : DS} {cg : CG} {cb : CS} [h0 : EvI di ci] [h : EvG dg cg] [h' : EvS db cb] : EvS (dFor di dg db) (cFor ci cg cb) := ⟨fun {ρ o D} e q => by
  obtain ⟨xs, e1, e⟩ := ob e
  exact h0.ev e1 (loop_ev xs e q)⟩
def cLcL (g : CG) (t : CT) (a : CE) (ρ0 : DEnv) : List PyData → List PyData → Option (List PyData)
  | [], acc => some acc
  | x :: xs, acc => (g x ρ0).bind fun ρ' => (t ρ').bind fun b => if b = true then (a ρ').bind fun y => match y with
      | .d y => if acc.length < sizeLine then cLcL g t a ρ0 xs (acc ++ [y]) else none
      | _ => none
    else cLcL g t a ρ0 xs acc
theorem lcl_ev {dg : DG} {dt : DT} {da : DE} {cg : CG} {ct : CT} {ca : CE} [h : EvG dg cg] [h1 : EvT dt ct] [h2 : EvE da ca] {ρ0 : DEnv} : ∀ (xs : List PyData) {acc ys : List PyData} {Q : List PyData → Prop}, cLcL cg ct ca ρ0 xs acc = some ys → Q ys → dLcL dg dt da ρ0 xs acc Q
  | [], acc, ys, Q, e, q => by
    cases e
    exact q
  | x :: xs, acc, ys, Q, e, q => by
    obtain ⟨r, e1, e⟩ := ob e
    obtain ⟨b, e2, e⟩ := ob e
    refine h.ev e1 (h1.ev e2 ?_)
    cases b with
    | true =>
      obtain ⟨y, e3, e⟩ := ob (show (ca r).bind _ = some ys from e)
      refine ite_t (h2.ev e3 ?_)
      split at e
      · obtain ⟨ok, e⟩ := oi e
        exact ⟨ok, lcl_ev xs e q⟩
      · cases e
    | false => exact ite_f (lcl_ev xs e q)
def cLc (i : CI) (g : CG) (t : CT) (a : CE) (vs : List Nat) : CN := fun ρ => (i ρ).bind fun xs => (cLcL g t a (wipeD ρ vs) xs []).map fun ys => ys.map OV.d
instance {di : DI} {ci : CI} {dg : DG} {dt : DT} {da : DE} {cg : CG} {ct : CT} {ca : CE} {vs : List Nat} [h0 : EvI di ci] [h : EvG dg cg] [h1 : EvT dt ct] [h2 : EvE da ca] : EvN (dLc di dg dt da vs) (cLc ci cg ct ca vs) := ⟨fun {ρ x Q} e q => by
  obtain ⟨xs, e1, e⟩ := ob e
  obtain ⟨ys, e2, rfl⟩ := om e
  exact h0.ev e1 (lcl_ev xs e2 q)⟩
def cLcNL (g : CG) (t : CT) (a : CN) (ρ0 : DEnv) : List PyData → List OV → Option (List OV)
  | [], acc => some acc
  | x :: xs, acc => (g x ρ0).bind fun ρ' => (t ρ').bind fun b => if b = true then (a ρ').bind fun ys => if acc.length < sizeLine then cLcNL g t a ρ0 xs (acc ++ [.lst ys]) else none
    else cLcNL g t a ρ0 xs acc
theorem lcnl_ev {dg : DG} {dt : DT} {da : DN} {cg : CG} {ct : CT} {ca : CN} [h : EvG dg cg] [h1 : EvT dt ct] [h2 : EvN da ca] {ρ0 : DEnv} : ∀ (xs : List PyData) {acc ys : List OV} {Q : List OV → Prop}, cLcNL cg ct ca ρ0 xs acc = some ys → Q ys → dLcNL dg dt da ρ0 xs acc Q
  | [], acc, ys, Q, e, q => by
    cases e
    exact q
  | x :: xs, acc, ys, Q, e, q => by
    obtain ⟨r, e1, e⟩ := ob e
    obtain ⟨b, e2, e⟩ := ob e
    refine h.ev e1 (h1.ev e2 ?_)
    cases b with
    | true =>
      obtain ⟨y, e3, e⟩ := ob (show (ca r).bind _ = some ys from e)
      refine ite_t (h2.ev e3 ?_)
      obtain ⟨ok, e⟩ := oi e
      exact ⟨ok, lcnl_ev xs e q⟩
    | false => exact ite_f (lcnl_ev xs e q)
def cLcN (i : CI) (g : CG) (t : CT) (a : CN) (vs : List Nat) : CN := fun ρ => (i ρ).bind fun xs => cLcNL g t a (wipeD ρ vs) xs []
instance {di : DI} {ci : CI} {dg : DG} {dt : DT} {da : DN} {cg : CG} {ct : CT} {ca : CN} {vs : List Nat} [h0 : EvI di ci] [h : EvG dg cg] [h1 : EvT dt ct] [h2 : EvN da ca] : EvN (dLcN di dg dt da vs) (cLcN ci cg ct ca vs) := ⟨fun {ρ x Q} e q => by
  obtain ⟨xs, e1, e⟩ := ob e
  exact h0.ev e1 (lcnl_ev xs e q)⟩
/-! ### a def -/
def Out.val : Out → Option PyData
  | .nx _ => some .none
  | .rt v => some v
  | _ => none
def cRof (N : List Str) (n : Nat) (c : CS) : CF := fun xs => if xs.length = n then (c (startD N xs)).bind Out.val else none
instance {N : List Str} {n : Nat} {ds : DS} {cs : CS} [h : EvS ds cs] : EvF (Rof N n ds) (cRof N n cs) := ⟨fun {xs r Q} e q => by
  obtain ⟨hl, e⟩ := oi e
  obtain ⟨o, e1, e⟩ := ob e
  refine ⟨hl, h.ev e1 ?_⟩
  cases o with
  | nx ρ =>
    cases e
    exact q
  | rt v =>
    cases e
    exact q
  | bk ρ => cases e
  | ct ρ => cases e⟩
end DL

/-! ==== DLK ==== -/
set_option Elab.async false
set_option linter.all false
set_option maxRecDepth 100000
set_option maxHeartbeats 4000000
namespace DL
open PySem PySem.Spec PyProof.Rows L2
/-! ## short words for the printed proofs -/
abbrev dSub : D2 := dI0 fun i j => .int (i - j)
abbrev cSub : C2 := cI0 fun i j => .int (i - j)
abbrev dMdo : D2 := dI2 (fun _ j => j ≠ 0) fun i j => .int (i.fmod j)
abbrev cMdo : C2 := cI2 (fun _ j => j ≠ 0) fun i j => .int (i.fmod j)
abbrev dFdv : D2 := dI2 CDivN fun i j => .int (i.fdiv j)
abbrev cFdv : C2 := cI2 CDivN fun i j => .int (i.fdiv j)
abbrev dPwr : D2 := dI2 CPow fun i j => .int (i ^ j.toNat)
abbrev cPwr : C2 := cI2 CPow fun i j => .int (i ^ j.toNat)
abbrev dAbs : DF := dI1 (fun _ => True) fun i => if i < 0 then -i else i
abbrev cAbs : CF := cI1 (fun _ => True) fun i => if i < 0 then -i else i
abbrev dMax2 : DF := dII fun i j => if j > i then j else i
abbrev cMax2 : CF := cII fun i j => if j > i then j else i
abbrev dMin2 : DF := dII fun i j => if j < i then j else i
abbrev cMin2 : CF := cII fun i j => if j < i then j else i
theorem len_nil : ∀ (xs : List PyData) (ρ : DEnv) (Q : DEnv → Prop), dgNil xs ρ Q → xs.length = 0
  | [], _, _, _ => rfl
  | _ :: _, _, _, h => h.elim
theorem len_cons {gs : DGs} {n i : Nat} (h : ∀ xs ρ Q, gs xs ρ Q → xs.length = n) : ∀ (xs : List PyData) (ρ : DEnv) (Q : DEnv → Prop), dgCons (dgName i) gs xs ρ Q → xs.length = n + 1
  | [], _, _, z => z.elim
  | _ :: r, ρ, Q, z => by
    have z' : gs r (ρ.set i (some (.d ‹PyData›))) Q := z
    rw [List.length_cons, h _ _ _ z']
theorem isTrue_chk : True := trivial
section
variable {X : Cx} {m : Am} {a b c e : Expr} {pos p : Pos} {te ta tb tc : TE} {de da db dc : DE}
theorem t_gin {x : Str} {D : Addr} {kvs : List (Str × PyData)} (hg : Gl X x) (hm : X.mg x = some (.ref D)) (G : GDic X.K X.w D kvs) (he : DPE X m e te de) (hd : (x == ("__debug__" : Str)) = false := by decide) :
    DPT X m (.Compare e [.In] [.Name x p] pos) (tTest (tOp (rGIn X.K D) te (tC (.ref D)))) (dTest (dGIn kvs de)) := by
  have h := d_gin (p := p) (pos := pos) hg hm G he hd
  obtain ⟨es, n, kd⟩ := G.kd
  exact ⟨pt_cmpR (op_in_kd kd) he.pe (pe_glob (v := .ref D) hg hm rfl hd) rfl, rt_test h.re⟩
theorem t_gni {x : Str} {D : Addr} {kvs : List (Str × PyData)} (hg : Gl X x) (hm : X.mg x = some (.ref D)) (G : GDic X.K X.w D kvs) (he : DPE X m e te de) (hd : (x == ("__debug__" : Str)) = false := by decide) :
    DPT X m (.Compare e [.NotIn] [.Name x p] pos) (tTest (tOp (rGNot X.K D) te (tC (.ref D)))) (dTest (dGNot kvs de)) := by
  have h := d_gni (p := p) (pos := pos) hg hm G he hd
  obtain ⟨es, n, kd⟩ := G.kd
  exact ⟨pt_cmpR (op_notIn_kd kd) he.pe (pe_glob (v := .ref D) hg hm rfl hd) rfl, rt_test h.re⟩
theorem t_chain {op op' : CmpOp} {r r' : R2} {dr dr' : D2} (ho : OpR X (compareOp op) r) (ho' : OpR X (compareOp op') r') (h1 : R2D X.K m r dr) (h2 : R2D X.K m r' dr') (ha : DPE X m a ta da) (hb : DPE X m b tb db) (hc : DPE X m c tc dc)
    (hm : lastMarks [op, op'] [b, c] = false := by with_unfolding_all rfl) : DPT X m (.Compare a [op, op'] [b, c] pos) (tTest (tChain r r' ta tb tc)) (dTest (dChain dr dr' da db dc)) :=
  ⟨pt_chain ho ho' ha.pe hb.pe hc.pe hm, rt_test (d_chain (pos := pos) ho ho' h1 h2 ha hb hc hm).re⟩
structure GV (K : PySem.W.Frag) (mg : Str → Option Value) (x : Str) (u : Value) (v : V) (d : PyData) : Prop where
  at_ : mg x = some u
  rel : RelV v u
  rep : ∀ H, Rep K H v d
theorem d_gl {x : Str} {u : Value} {v : V} {d : PyData} (hg : Gl X x) (hm : GV X.K X.mg x u v d) (hd : (x == ("__debug__" : Str)) = false := by decide) : DPE X m (.Name x pos) (tC v) (dC d) := ⟨pe_glob hg hm.at_ hm.rel hd, re_c hm.rep⟩
/-- {} -/
theorem d_dic0 : DPE X m (.Dict [] [] pos) tDNewK (dC (.dict [])) := ⟨pe_dnewK, ⟨fun {σ H ρ F T Q dQ} er hq k => fun q hq2 => k _ _ _ (Ext.new hq2) (er.new hq2) (.d (.dic (.inl (er.newB hq2)) .nil)) hq⟩⟩
end
end DL

/-! ==== DLD ==== -/
set_option Elab.async false
set_option linter.all false
set_option maxRecDepth 100000
set_option maxHeartbeats 4000000
namespace DL
open PySem PySem.Spec PyProof.Rows L2
/-! ## equality of data, decided -/
mutual
def eqD : PyData → PyData → Bool
  | .none, y => (match y with
    | .none => true
    | _ => false)
  | .bool a, y => (match y with
    | .bool b => a == b
    | _ => false)
  | .int a, y => (match y with
    | .int b => decide (a = b)
    | _ => false)
  | .str a, y => (match y with
    | .str b => decide (a = b)
    | _ => false)
  | .list a, y => (match y with
    | .list b => eqDs a b
    | _ => false)
  | .tuple a, y => (match y with
    | .tuple b => eqDs a b
    | _ => false)
  | _, _ => false
def eqDs : List PyData → List PyData → Bool
  | [], y => y.isEmpty
  | a :: as, y => (match y with
    | [] => false
    | b :: bs => eqD a b && eqDs as bs)
end
mutual
theorem eqD_ok : ∀ (a b : PyData), eqD a b = true → a = b
  | .none, b, h => by
    cases b <;> first | rfl | exact nomatch h
  | .bool a, b, h => by
    cases b with
    | bool c => rw [eq_of_beq (show (a == c) = true from h)]
    | _ => exact nomatch h
  | .int a, b, h => by
    cases b with
    | int c => rw [of_decide_eq_true (show decide (a = c) = true from h)]
    | _ => exact nomatch h
  | .str a, b, h => by
    cases b with
    | str c => rw [of_decide_eq_true (show decide (a = c) = true from h)]
    | _ => exact nomatch h
  | .list a, b, h => by
    cases b with
    | list c => rw [eqDs_ok a c h]
    | _ => exact nomatch h
  | .tuple a, b, h => by
    cases b with
    | tuple c => rw [eqDs_ok a c h]
    | _ => exact nomatch h
  | .dict a, b, h => nomatch h
theorem eqDs_ok : ∀ (a b : List PyData), eqDs a b = true → a = b
  | [], b, h => by
    cases b with
    | nil => rfl
    | cons x y => exact nomatch h
  | a :: as, b, h => by
    cases b with
    | nil => exact nomatch h
    | cons x y =>
      obtain ⟨h1, h2⟩ := He.ba (show (eqD a x && eqDs as y) = true from h)
      rw [eqD_ok a x h1, eqDs_ok as y h2]
end
end DL

/-! ==== DLR1 ==== -/
set_option Elab.async false
set_option linter.all false
set_option maxRecDepth 100000
set_option maxHeartbeats 4000000
namespace DLR
open PySem PySem.Spec PyProof.Rows L2
open AutoSeq1 (wpAny_loadPart')
/-! ## enumerate(v), one argument, v told by what iter makes -/
set_option maxHeartbeats 1000000 in
theorem meets_enum1 {v : Value} {o : Obj} {H : Heap → Prop} (B : Begins v o H) :
    Meets (Builtin.«enumerate.__new__» ⟨[.type "enumerate", v], []⟩) (fun _ R s => H s.heap ∧
      R (.ok (.ret (.ref (s.heap.push o).objs.size))) { s with heap := (s.heap.push o).push { cls := .type "enumerate", data := .fields #[.none, .bool false, .ref s.heap.objs.size, rawInt 0, .none, .none] } }) :=
  .of_wp fun prog w A R s h => by
    obtain ⟨hp, g, d, tk, os⟩ := s; obtain ⟨h1, h⟩ := h
    have hsub := sub_enumerate
    have q1 : ∀ {A' : Around} {E : Value → Shared → Prop} {Q : Value → Shared → Prop}, Q (.ref hp.objs.size) ⟨hp.push o, g, d, tk, os⟩ → wpAny (model prog w) A' (pyIter v) Q E ⟨hp, g, d, tk, os⟩ :=
      fun q => B.iter prog w _ _ ⟨hp, g, d, tk, os⟩ _ h1 q
    wp_walk using q1
    refine wpAny_stack_any fun st => wpAny_pure ?_
    split
    · rename_i c _ _ _ _ _
      cases (c == Value.type "enumerate")
      · wp_walk using q1
        exact ⟨_, rfl, h⟩
      · wp_walk using q1
        exact ⟨_, rfl, h⟩
    · wp_walk using q1
      exact ⟨_, rfl, h⟩
section
variable {prog : Program} {w : World} {A : Around} {E : Value → Shared → Prop} {s : Shared}
theorem call_enum1 {v : Value} {o : Obj} {H : Heap → Prop} {Q : Value → Shared → Prop} (B : Begins v o H) (h1 : H s.heap)
    (h : ∀ h', IsEnum h' (s.heap.objs.size + 1) s.heap.objs.size 0 .none → h'.get? s.heap.objs.size = some o → h'.objs.size = s.heap.objs.size + 2 →
      (∀ b o, s.heap.get? b = some o → h'.get? b = some o) → Q (.ref (s.heap.objs.size + 1)) { s with heap := h' }) :
    wpAny (model prog w) A (call (.type "enumerate") [v]) Q E s := by
  refine callType_new F.called_enumerate (by decide) (F.typeCall_enumerate_1 _) (F.newCall_enumerate_1 _) (fun obj => F.args_object_init_2 obj _) F.entry_enumerate_new
    (meets_enum1 B) ⟨h1, ?_⟩
  have hz : (s.heap.push o).objs.size = s.heap.objs.size + 1 := Heap.size_push ..
  show _ ∧ _
  rw [hz]
  have he : IsEnum ((s.heap.push o).push { cls := .type "enumerate", data := .fields #[.none, .bool false, .ref s.heap.objs.size, rawInt 0, .none, .none] }) (s.heap.objs.size + 1) s.heap.objs.size 0 .none := by
    have := Heap.get?_push_size (s.heap.push o) (o := { cls := .type "enumerate", data := .fields #[.none, .bool false, .ref s.heap.objs.size, rawInt 0, .none, .none] }) rfl
    rw [hz] at this; exact this
  refine ⟨⟨_, he, rfl⟩, h _ he (Heap.get?_push_of_some _ (Heap.get?_push_size _ B.free)) (by rw [Heap.size_push, hz]) fun b o x => Heap.get?_push_of_some _ (Heap.get?_push_of_some _ x)⟩
/-- next of an enumerate over a tuple, none left -/
theorem enumT_end {e it t : Addr} {i : Int} {j : Nat} {items : Array Value} {old : Value} {Q : Option Value → Shared → Prop} (hh : A.handled = none)
    (he : IsEnum s.heap e it i old) (hit : s.heap.IsTupleIter it t j) (hl : s.heap.IsTuple t items) (hx : items[j]? = none)
    (hQ : ∀ h', Heap.ExtBut it s.heap h' → Q none { s with heap := h' }) : wpAny (model prog w) A (pyNext (.ref e)) Q E s := by
  have hT : s.TypeIs (.ref e) "enumerate" := ⟨_, he, rfl⟩
  unfold pyNext
  refine wpAny_bind (wpAny_attempt (wpAny_callSpecial?_slot (name := Str.ofString "__next__") hT F.slot_enumerate_next
    (wpAny_call_entry F.slot_enumerate_next hT F.entry_enumerate_next ?_ (F.args_enumerate_next_1 _))))
  show wpAny _ _ (field (.ref e) 2 >>= _) _ _ _
  refine wpAny_bind (wpAny_field he rfl (x := .ref it) rfl ?_)
  refine wpAny_bind (wpAny_nextOf_tuple_end hh hit hl hx fun h' x he' hx' => ?_)
  obtain ⟨o, ho, hc⟩ := hx'
  refine wpAny_bind (wpAny_isInstance (T := "StopIteration") (b := true) ⟨o, ho, hc⟩ isSubtype_stop ?_)
  exact wpAny_pure (hQ _ he')
end
/-! ### enumerate(tuple) -/
def IteT (K : PySem.W.Frag) (a : Addr) : It :=
  ⟨fun i H => ∃ (xs : List V) (x : V), SqT K H a xs ∧ xs[i]? = some x, fun i H v H' => ∃ T x, v = .ref T ∧ H T = none ∧ H' = upd H T (.tup [.int (i : Nat), x]) ∧ ∀ xs, SqT K H a xs → xs[i]? = some x, fun i H => ∃ xs : List V, SqT K H a xs ∧ xs.length ≤ i⟩
theorem tupIter_ne {h : Heap} {it a : Addr} {i : Nat} {items : Array Value} (hit : h.IsTupleIter it a i) (p : h.IsTuple a items) : a ≠ it := by
  rintro rfl
  obtain ⟨o, ho, hc, _⟩ := hit
  obtain ⟨o', ho', hc', _⟩ := p
  rw [ho] at ho'
  cases ho'
  exact absurd (Value.type.inj (hc.symm.trans hc')) (by decide)
theorem enum_ne {h : Heap} {e it a : Addr} {i : Int} {old : Value} {items : Array Value} (he : IsEnum h e it i old) (p : h.IsTuple a items) : e ≠ a := by
  rintro rfl
  obtain ⟨o', ho', hc', _⟩ := p
  have he' : h.get? e = some _ := he
  rw [he'] at ho'
  cases ho'
  exact absurd (Value.type.inj hc') (by decide)
theorem turn_enumT {P : Program} {w : World} {K : PySem.W.Frag} {elts : List Expr} {kk : Nat} {tpos : Pos} (a e it : Addr) :
    Turn P w K (.Tuple elts kk tpos) (IteT K a) [e, it] e (fun i h => (∃ old, IsEnum h e it ((i : Nat) : Int) old) ∧ h.IsTupleIter it a i ∧ e ≠ it) where
  mem := by simp
  obj := fun i h st b hb => by
    obtain ⟨⟨old, he⟩, ⟨o, ho, hc, hd⟩, _⟩ := st
    have e' : b = e ∨ b = it := by simpa using hb
    rcases e' with z | z
    · rw [z]; exact ⟨_, he, fun v q => nomatch q⟩
    · rw [z]; exact ⟨o, ho, fun v q => by rw [hd] at q; cases q⟩
  keep := fun i h h' st k => let ⟨⟨old, he⟩, hi, hne⟩ := st; ⟨⟨old, k e (by simp) _ he⟩, hi.at fun o q => k it (by simp) o q, hne⟩
  item := by
    intro X hP hw hK hc i pins s σ H E I hf st hg
    subst hP hw hK
    obtain ⟨⟨old, he⟩, hit, hne⟩ := st
    obtain ⟨xs, x, hq, hx⟩ := hg
    obtain ⟨its, rv, p, hz⟩ := I.tuple hq
    obtain ⟨u, hu, ru⟩ := rv.get hx
    have hel : e < s.heap.objs.size := Heap.lt_size he
    have hil : it < s.heap.objs.size := by obtain ⟨_, q, _⟩ := hit; exact Heap.lt_size q
    have hlt : i < its.toArray.size := by
      obtain ⟨h1, _⟩ := List.getElem?_eq_some_iff.mp hu
      simpa using h1
    have pT : s.heap.IsTuple a its.toArray := p
    refine wpAny_pyNext_enum_itemD (Draws.tuple (A := X.A.in1) (I.ok.hd hc) it a (tupIter_ne hit pT) its.toArray) he ⟨hit, pT⟩ hlt hne (by
      intro z
      rcases List.mem_cons.mp z with z | z
      · exact hne z
      · exact enum_ne he pT (List.mem_singleton.mp z)) fun x' h' tk hP ho hst hT hsz hk => ?_
    obtain ⟨hit', _⟩ := hst
    have ex : x' = u := by
      have h1 : its.toArray[i]? = some u := by simpa using hu
      exact Option.some.inj (hP.symm.trans h1)
    subst ex
    refine ⟨_, rfl, wpAny_letOwnedTupleGo_enum (s := { s with heap := h', toks := tk + 1 }) ho fun h'' he' sb => ?_⟩
    have hT2 : h''.get? s.heap.objs.size = some { cls := .type "tuple", data := .seq #[.int i tk, x'] } := (sb.2 _ (Nat.ne_of_gt hel)).trans hT
    have new : ObjOk X.prog X.w (upd H s.heap.objs.size (.tup [.int (i : Nat), x])) h'' s.heap.objs.size (.tup [.int (i : Nat), x]) :=
      ⟨by show 2 ≤ sizeLine; decide, [.int i tk, x'], .cons ⟨_, rfl⟩ (.cons ru .nil), ⟨_, hT2, rfl, _, rfl⟩⟩
    have I1 : Inv X pins σ (upd H s.heap.objs.size (.tup [.int (i : Nat), x])) { s with heap := h'', toks := tk + 1 } :=
      I.turnedNew (ch := [e, it]) (fun b ob hb q => (sb.2 b (fun z => hb (by simp [z]))).trans (hk b ob (fun z => hb (by simp [z])) (fun z => hb (by simp [z])) q)) hf (Nat.le_refl _) new
    refine ⟨.ref s.heap.objs.size, _, I1, rfl, ⟨_, x, rfl, I.hok.fresh (Nat.le_refl _), rfl, fun ys hy => by rw [I.tuple_inj hy hq]; exact hx⟩, ⟨⟨x', ?_⟩, hit'.at fun o q => (sb.2 it (Ne.symm hne)).trans q, hne⟩, fun b hb => ?_⟩
    · have e1 : ((i + 1 : Nat) : Int) = (i : Int) + 1 := by omega
      rw [e1]; exact he'
    · have hb' : b < s.heap.objs.size := by
        have e' : b = e ∨ b = it := by simpa using hb
        rcases e' with z | z
        · rw [z]; exact hel
        · rw [z]; exact hil
      rw [upd_ne (Nat.ne_of_lt hb')]
      exact (hf b hb).1
  done := by
    intro X hP hw hK hc i pins s σ H E I hf st hg
    subst hP hw hK
    obtain ⟨⟨old, he⟩, hit, hne⟩ := st
    obtain ⟨xs, hq, hx⟩ := hg
    obtain ⟨its, rv, p, hz⟩ := I.tuple hq
    obtain ⟨f0, f1, f2, f3, f4, f5⟩ := hf it (by simp)
    have hl := rv.length
    exact enumT_end (A := X.A) (I.ok.hd hc) he hit (show s.heap.IsTuple a its.toArray from p) (by simp; omega) fun h' eb => ⟨rfl, I.turned (t' := s.toks) (fun b o hb q => eb b o hb q) f0 f1 f3 f4 f5⟩
  self := fun A i s Q E st h => let ⟨⟨_, he⟩, _⟩ := st; wpAny_pyIter_enum he h
def iEnumA (K : PySem.W.Frag) (ta : TA) : TI := fun σ H R => ta σ H fun vs H1 => ∃ a xs, vs = [.ref a] ∧ ((SqL K H1 a xs ∧ R (Ite K a) H1) ∨ (SqT K H1 a xs ∧ R (IteT K a) H1))
theorem pi_enumA {X : Cx} {e : Expr} {ta : TA} {p pos tpos : Pos} {elts : List Expr} {kk : Nat} (hg : Gl X "enumerate") (hm : X.mg "enumerate" = none) (ha : PA X [e] ta) (hs : starEach [e] X.env = [(false, eval e X.env)] := by rfl) :
    PI X (.Tuple elts kk tpos) (.Call (.Name "enumerate" p) [e] [] pos) (iEnumA X.K ta) := by
  refine ⟨fun pins s σ H R I h => ?_⟩
  refine Call_ (ld_blt I hg hm boot_enumerate (PyProof.Rows.callWith_type1 (thn (ha.run pos pins s σ H _ I h) fun us s1 ⟨vs, H1, I1, r1, q1⟩ => ?_) hs rfl))
  obtain ⟨a, xs, ex, q⟩ := q1
  subst ex
  cases r1 with
  | cons r rr =>
    cases rr
    cases r
    have fr : ∀ b, b ∈ [s1.heap.objs.size + 1, s1.heap.objs.size] → FpOk X pins H1 b := fun b hb => by
      have e' : b = s1.heap.objs.size + 1 ∨ b = s1.heap.objs.size := by simpa using hb
      have hle : s1.heap.objs.size ≤ b := by
        rcases e' with z | z
        · rw [z]; exact Nat.le_add_right _ _
        · rw [z]; exact Nat.le_refl _
      exact I1.fpOk hle (I1.hok.fresh hle)
    rcases q with ⟨hq, q⟩ | ⟨hq, q⟩
    · obtain ⟨its, rv, p', hz⟩ := I1.list hq
      refine call_enumerate_list p'.isList fun h' he hit hsz hk => wpAny_pyIter_enum he ?_
      have I2 : Inv X pins σ H1 { s1 with heap := h' } := I1.kept (t' := s1.toks) hk
      exact ⟨s1.heap.objs.size + 1, [s1.heap.objs.size + 1, s1.heap.objs.size], _, _, H1, rfl, I2, turn_enum a (s1.heap.objs.size + 1) s1.heap.objs.size, ⟨⟨.none, he⟩, hit, Nat.succ_ne_self _⟩, fr, q⟩
    · obtain ⟨its, rv, p', hz⟩ := I1.tuple hq
      refine call_enum1 (begins_tuple a its.toArray) (show s1.heap.IsTuple a its.toArray from p') fun h' he hit hsz hk => wpAny_pyIter_enum he ?_
      have I2 : Inv X pins σ H1 { s1 with heap := h' } := I1.kept (t' := s1.toks) hk
      exact ⟨s1.heap.objs.size + 1, [s1.heap.objs.size + 1, s1.heap.objs.size], _, _, H1, rfl, I2, turn_enumT a (s1.heap.objs.size + 1) s1.heap.objs.size, ⟨⟨.none, he⟩, ⟨_, hit, rfl, rfl⟩, Nat.succ_ne_self _⟩, fr, q⟩
end DLR
namespace DL
open PySem PySem.Spec PyProof.Rows L2 DLR
/-! ## data -/
def enumD : Nat → List PyData → List PyData
  | _, [] => []
  | i, x :: r => .tuple [.int (i : Nat), x] :: enumD (i + 1) r
theorem enumD_len : ∀ (i : Nat) (xs : List PyData), (enumD i xs).length = xs.length
  | _, [] => rfl
  | i, x :: r => congrArg (· + 1) (enumD_len (i + 1) r)
theorem enumD_get : ∀ {i j : Nat} {xs : List PyData} {z : PyData}, (enumD i xs)[j]? = some z → ∃ x, xs[j]? = some x ∧ z = .tuple [.int ((i + j : Nat) : Int), x]
  | i, _, [], z, h => by simp [enumD] at h
  | i, 0, x :: r, z, h => by
    cases h
    exact ⟨x, rfl, rfl⟩
  | i, j + 1, x :: r, z, h => by
    obtain ⟨y, h1, h2⟩ := enumD_get (i := i + 1) (j := j) (xs := r) h
    exact ⟨y, h1, by rw [h2]; congr 4; omega⟩
def diEnum (da : DA) : DI := fun ρ Q => da ρ fun xs => match xs with
  | [.d (.tuple xs)] => Q (enumD 0 xs)
  | [.d (.list xs)] => Q (enumD 0 xs)
  | _ => False
section
variable {X : Cx} {m : Am} {e : Expr} {p pos : Pos} {ua : TA} {va : DA}
theorem new_enum {K : PySem.W.Frag} {G : List Addr} {H : Hp} {q : Addr} {v : V} {i : Nat} {x : PyData} (hb : Base m H) (hf : ∀ a ∈ G, H a ≠ none) (hn : H q = none) (r1 : Rep K (Bh m G H) v x) :
    Rep K (Bh m G (upd H q (.tup [.int (i : Nat), v]))) (.ref q) (.tuple [.int (i : Nat), x]) := new_pair hb hf hn (.int _) r1
theorem ri_enum {K : PySem.W.Frag} (h : RA K m ua va) : RI K m (iEnumA K ua) (diEnum va) := ⟨fun {σ H ρ F T R dQ} er hq k => h.run er hq fun H' vs xs e1 er1 vxs hx => by
  split at hx
  · cases vxs with
    | cons v1 vr =>
      cases vr
      cases v1.rep with
      | tup hp ha =>
        rename_i a1 ws1
        refine ⟨a1, ws1, rfl, .inr ⟨Ex.ofBh.stt hp, k H' _ _ e1 er1 (fun G' H2 z hb hf i => ⟨fun hi => ⟨ws1, Ex.ofBh.stt (z _ _ hp), ?_⟩, fun x hx => ?_⟩) hx⟩⟩
        · rw [ha.length]
          rw [enumD_len] at hi
          exact hi
        · obtain ⟨x1, g1, rfl⟩ := enumD_get hx
          obtain ⟨w1, hw1, r1⟩ := ha.get g1
          refine ⟨⟨ws1, w1, Ex.ofBh.stt (z _ _ hp), hw1⟩, fun v H3 hy => ?_⟩
          obtain ⟨q, y1, rfl, hn, rfl, f1⟩ := hy
          have f1 := f1 ws1 (Ex.ofBh.stt (z _ _ hp))
          rw [hw1] at f1
          cases f1
          rw [Nat.zero_add]
          exact ⟨Ex.new hn, new_enum hb hf hn (Rep.mono z _ _ r1)⟩
  · cases vxs with
    | cons v1 vr =>
      cases vr
      cases v1.rep with
      | lst hp ha =>
        rename_i a1 ws1
        have q1 : ∀ {G' : List Addr} {H2 : Hp}, Ex (Bh m (F ++ T) H') (Bh m G' H2) → SqL K H2 a1 ws1 := fun z => SqL.of (hid_some.mp (z _ _ hp)).2
        refine ⟨a1, ws1, rfl, .inl ⟨SqL.of (hid_some.mp hp).2, k H' _ _ e1 er1 (fun G' H2 z hb hf i => ⟨fun hi => ⟨ws1, q1 z, ?_⟩, fun x hx => ?_⟩) hx⟩⟩
        · rw [ha.length]
          rw [enumD_len] at hi
          exact hi
        · obtain ⟨x1, g1, rfl⟩ := enumD_get hx
          obtain ⟨w1, hw1, r1⟩ := ha.get g1
          refine ⟨⟨ws1, w1, q1 z, hw1⟩, fun v H3 hy => ?_⟩
          obtain ⟨q, y1, rfl, hn, rfl, f1⟩ := hy
          have f1 := f1 ws1 (q1 z)
          rw [hw1] at f1
          cases f1
          rw [Nat.zero_add]
          exact ⟨Ex.new hn, new_enum hb hf hn (Rep.mono z _ _ r1)⟩
  · exact hx.elim⟩
theorem i_enum {tpos : Pos} {elts : List Expr} {kk : Nat} (hg : Gl X "enumerate") (hm : X.mg "enumerate" = none) (ha : DPA X m [e] ua va) (hs : starEach [e] X.env = [(false, eval e X.env)] := by rfl) :
    DPI X m (.Tuple elts kk tpos) (.Call (.Name "enumerate" p) [e] [] pos) (iEnumA X.K ua) (diEnum va) := ⟨pi_enumA hg hm ha.pa hs, ri_enum ha.ra⟩
def ciEnum (a : CN) : CI := fun ρ => (a ρ).bind fun xs => match xs with
  | [.d (.tuple xs)] => some (enumD 0 xs)
  | [.d (.list xs)] => some (enumD 0 xs)
  | _ => none
instance {da : DA} {ca : CN} [h : EvA da ca] : EvI (diEnum da) (ciEnum ca) := ⟨fun {ρ x Q} e q => by
  obtain ⟨xs, e1, e⟩ := ob e
  refine h.ev e1 ?_
  split at e
  · cases e
    exact q
  · cases e
    exact q
  · cases e⟩
end
end DL

/-! ==== DLR2 ==== -/
set_option Elab.async false
set_option linter.all false
set_option maxRecDepth 100000
set_option maxHeartbeats 4000000
/-! zip of two things, each a list or a tuple, of known lengths -/
namespace DLR
open PySem PySem.Spec PyProof.Rows L2
def IsB : Bool → Heap → Addr → Array Value → Prop
  | true, h, a, its => h.IsTuple a its
  | false, h, a, its => h.IsList a its
def ItB : Bool → Heap → Addr → Addr → Nat → Prop
  | true, h, it, a, i => h.IsTupleIter it a i
  | false, h, it, a, i => h.IsListIter it a i
def SqB : Bool → PySem.W.Frag → Hp → Addr → List V → Prop
  | true => SqT
  | false => SqL
def obB : Bool → Addr → Obj
  | true, a => { cls := .type "tuple_iterator", data := .fields #[.ref a, .int 0 0] }
  | false, a => { cls := .type "list_iterator", data := .fields #[.ref a, .int 0 0] }
theorem beginsB (b : Bool) (a : Addr) (its : Array Value) : Begins (.ref a) (obB b a) fun h => IsB b h a its := by
  cases b
  · exact begins_list a its
  · exact begins_tuple a its
theorem drawsB (b : Bool) {prog : Program} {w : World} {A : Around} (hh : A.handled = none) (it a : Addr) (hne : a ≠ it) (its : Array Value) :
    Draws prog w A it [it, a] its.size (fun i v => its[i]? = some v) (fun i h => ItB b h it a i ∧ IsB b h a its) := by
  cases b
  · exact Draws.list hh it a hne its
  · exact Draws.tuple hh it a hne its
theorem itB_ob {b : Bool} {h : Heap} {it a : Addr} {i : Nat} (x : ItB b h it a i) : ∃ o, h.get? it = some o ∧ ∀ v, o.data ≠ .cell v := by
  cases b
  · obtain ⟨o, h1, _, h3⟩ := (show h.IsListIter it a i from x)
    exact ⟨o, h1, fun v z => by rw [h3] at z; cases z⟩
  · obtain ⟨o, h1, _, h3⟩ := (show h.IsTupleIter it a i from x)
    exact ⟨o, h1, fun v z => by rw [h3] at z; cases z⟩
theorem itB_at {b : Bool} {h h' : Heap} {it a : Addr} {i : Nat} (x : ItB b h it a i) (k : ∀ o, h.get? it = some o → h'.get? it = some o) : ItB b h' it a i := by
  cases b
  · exact (show h.IsListIter it a i from x).at k
  · exact (show h.IsTupleIter it a i from x).at k
theorem itB_0 {b : Bool} {h : Heap} {it a : Addr} (x : h.get? it = some (obB b a)) : ItB b h it a 0 := by
  cases b
  · exact ⟨_, x, rfl, rfl⟩
  · exact ⟨_, x, rfl, rfl⟩
section
variable {X : Cx} {pins : List (Addr × Obj)} {σ : L2.St} {H : Hp} {s : Shared}
theorem inv_seqB {b : Bool} {a : Addr} {xs : List V} (I : Inv X pins σ H s) (q : SqB b X.K H a xs) : ∃ its, Vals xs its ∧ IsB b s.heap a its.toArray ∧ a < s.heap.objs.size := by
  cases b
  · obtain ⟨its, rv, p, _⟩ := I.list q
    exact ⟨its, rv, p.isList, p.lt⟩
  · obtain ⟨its, rv, p, _⟩ := I.tuple q
    obtain ⟨o, ho, _⟩ := id p
    exact ⟨its, rv, p, Heap.lt_size ho⟩
theorem injB {b : Bool} {a : Addr} {xs ys : List V} (I : Inv X pins σ H s) (q : SqB b X.K H a xs) (r : SqB b X.K H a ys) : ys = xs := by
  cases b
  · exact I.list_inj r q
  · exact I.tuple_inj r q
end
/-- n1, n2: the lengths -/
def ItzB (b1 b2 : Bool) (K : PySem.W.Frag) (a b : Addr) (n1 n2 : Nat) : It :=
  ⟨fun i H => ∃ (xs ys : List V) (x y : V), SqB b1 K H a xs ∧ SqB b2 K H b ys ∧ xs.length = n1 ∧ ys.length = n2 ∧ xs[i]? = some x ∧ ys[i]? = some y,
    fun i H v H' => ∃ T x y, v = .ref T ∧ H T = none ∧ H' = upd H T (.tup [x, y]) ∧ (∀ xs, SqB b1 K H a xs → xs[i]? = some x) ∧ ∀ ys, SqB b2 K H b ys → ys[i]? = some y,
    fun i H => ∃ xs ys : List V, SqB b1 K H a xs ∧ SqB b2 K H b ys ∧ xs.length = n1 ∧ ys.length = n2 ∧ (n1 ≤ i ∨ n2 ≤ i)⟩
theorem five {α : Type} {c z TI TO i1 i2 : α} (h : c ∈ [z, TI, TO, i1, i2]) : c = z ∨ c = TI ∨ c = TO ∨ c = i1 ∨ c = i2 := by simpa using h
theorem turn_zipB (b1 b2 : Bool) {P : Program} {w : World} {K : PySem.W.Frag} {elts : List Expr} {kk : Nat} {tpos : Pos} {a b z TI TO i1 i2 : Addr} {n1 n2 : Nat} (S : ZipSep2 z TI TO i1 i2 [i1, a] [i2, b]) (ha : a ≠ i1) (hb : b ≠ i2) :
    Turn P w K (.Tuple elts kk tpos) (ItzB b1 b2 K a b n1 n2) [z, TI, TO, i1, i2] z (fun i h => (IsZip h z TI TO .none ∧ IsTupOf2 h TI (.ref i1) (.ref i2) ∧ (∃ x y, IsTupOf2 h TO x y) ∧ ItB b1 h i1 a i ∧ ItB b2 h i2 b i) ∧ i ≤ n1 ∧ i ≤ n2) where
  mem := List.mem_cons_self
  obj := fun i h ⟨⟨g1, g2, ⟨_, _, g3⟩, g4, g5⟩, _⟩ c hc => by
    rcases five hc with rfl | rfl | rfl | rfl | rfl
    · exact ⟨_, g1, fun v q => nomatch q⟩
    · exact ⟨_, g2, fun v q => nomatch q⟩
    · exact ⟨_, g3, fun v q => nomatch q⟩
    · exact itB_ob g4
    · exact itB_ob g5
  keep := fun i h h' ⟨⟨g1, g2, ⟨x, y, g3⟩, g4, g5⟩, hl⟩ k =>
    ⟨⟨k z (by simp) _ g1, k TI (by simp) _ g2, ⟨x, y, k TO (by simp) _ g3⟩, itB_at g4 fun o q => k i1 (by simp) o q, itB_at g5 fun o q => k i2 (by simp) o q⟩, hl⟩
  item := by
    intro X hP hw hK hc i pins s σ H E I hf st hg
    subst hP hw hK
    obtain ⟨⟨g1, g2, ⟨x0, y0, g3⟩, g4, g5⟩, l1, l2⟩ := st
    obtain ⟨xs, ys, x, y, hqx, hqy, e1, e2, hx, hy⟩ := hg
    obtain ⟨its, rv, p1, la⟩ := inv_seqB I hqx
    obtain ⟨its2, rv2, p2, lb⟩ := inv_seqB I hqy
    obtain ⟨u, hu, ru⟩ := rv.get hx
    obtain ⟨u2, hu2, ru2⟩ := rv2.get hy
    have hu' : its.toArray[i]? = some u := by simpa using hu
    have hu2' : its2.toArray[i]? = some u2 := by simpa using hu2
    have lt1 : i < its.toArray.size := (Array.getElem?_eq_some_iff.mp hu').1
    have lt2 : i < its2.toArray.size := (Array.getElem?_eq_some_iff.mp hu2').1
    have m1 : its.toArray.size = n1 := by rw [List.size_toArray, ← rv.length, e1]
    have m2 : its2.toArray.size = n2 := by rw [List.size_toArray, ← rv2.length, e2]
    have hzl : z < s.heap.objs.size := Heap.lt_size g1
    refine wpAny_pyNext_zipD2_item S (drawsB b1 (A := X.A.in1) (I.ok.hd hc) i1 a ha its.toArray) (drawsB b2 (A := X.A.in1) (I.ok.hd hc) i2 b hb its2.toArray) g1 g2 g3 ⟨g4, p1⟩ ⟨g5, p2⟩ lt1 lt2 fun w1 w2 h' tk P1 P2 z' TO' s1 s2 hT hsz hk => ?_
    obtain rfl : u = w1 := Option.some.inj (hu'.symm.trans P1)
    obtain rfl : u2 = w2 := Option.some.inj (hu2'.symm.trans P2)
    refine ⟨_, rfl, wpAny_letOwnedTupleGo_zip (s := { s with heap := h', toks := tk }) z' fun h'' z'' sb => ?_⟩
    have hN : s.heap.objs.size ≠ z := Nat.ne_of_gt hzl
    have new : ObjOk X.prog X.w (upd H s.heap.objs.size (.tup [x, y])) h'' s.heap.objs.size (.tup [x, y]) := ⟨by show 2 ≤ sizeLine; decide, [u, u2], .cons ru (.cons ru2 .nil), ⟨_, (sb.2 _ hN).trans hT, rfl, _, rfl⟩⟩
    have I1 : Inv X pins σ (upd H s.heap.objs.size (.tup [x, y])) { s with heap := h'', toks := tk } :=
      I.turnedNew (ch := [z, TI, TO, i1, i2]) (fun c o hb q => by
        have no : ∀ d, d ∈ [z, TI, TO, i1, i2] → c ≠ d := fun d hd e => hb (by rw [e]; exact hd)
        exact (sb.2 c (no z (by simp))).trans (hk c o (no z (by simp)) (no TO (by simp)) (no i1 (by simp)) (no i2 (by simp)) q)) hf (Nat.le_refl _) new
    refine ⟨.ref s.heap.objs.size, _, I1, rfl, ⟨_, x, y, rfl, I.hok.fresh (Nat.le_refl _), rfl, fun l hl => by rw [injB I hqx hl]; exact hx, fun l hl => by rw [injB I hqy hl]; exact hy⟩, ⟨⟨z'', ?_, ⟨u, u2, ?_⟩, ?_, ?_⟩, by omega, by omega⟩, fun c hcm => ?_⟩
    · exact (sb.2 _ S.TIz).trans (hk _ _ S.TIz S.TITO S.TIi1 S.TIi2 g2)
    · exact (sb.2 _ S.TOz).trans TO'
    · exact itB_at s1.1 fun o q => (sb.2 _ (Ne.symm S.zi1)).trans q
    · exact itB_at s2.1 fun o q => (sb.2 _ (Ne.symm S.zi2)).trans q
    · have hlt : c < s.heap.objs.size := by
        rcases five hcm with rfl | rfl | rfl | rfl | rfl
        · exact hzl
        · exact Heap.lt_size g2
        · exact Heap.lt_size g3
        · obtain ⟨o, ho, _⟩ := itB_ob g4
          exact Heap.lt_size ho
        · obtain ⟨o, ho, _⟩ := itB_ob g5
          exact Heap.lt_size ho
      rw [upd_ne (Nat.ne_of_lt hlt)]
      exact (hf c hcm).1
  done := by
    intro X hP hw hK hc i pins s σ H E I hf st hg
    subst hP hw hK
    obtain ⟨⟨g1, g2, ⟨x0, y0, g3⟩, g4, g5⟩, l1, l2⟩ := st
    obtain ⟨xs, ys, hqx, hqy, e1, e2, hend⟩ := hg
    obtain ⟨its, rv, p1, la⟩ := inv_seqB I hqx
    obtain ⟨its2, rv2, p2, lb⟩ := inv_seqB I hqy
    have m1 : its.toArray.size = n1 := by rw [List.size_toArray, ← rv.length, e1]
    have m2 : its2.toArray.size = n2 := by rw [List.size_toArray, ← rv2.length, e2]
    refine wpAny_pyNext_zipD2_end S (drawsB b1 (A := X.A.in1) (I.ok.hd hc) i1 a ha its.toArray) (drawsB b2 (A := X.A.in1) (I.ok.hd hc) i2 b hb its2.toArray) g1 g2 g3 ⟨g4, p1⟩ ⟨g5, p2⟩ (by omega) (by omega) (by omega) fun h' tk hk => ⟨rfl, I.turnedL (t' := tk) (ch := [z, TI, TO, i1, i2]) (fun c o hb q => ?_) hf⟩
    have no : ∀ d, d ∈ [z, TI, TO, i1, i2] → c ≠ d := fun d hd e => hb (by rw [e]; exact hd)
    exact hk c o (no z (by simp)) (no TO (by simp)) (no i1 (by simp)) (no i2 (by simp)) q
  self := fun A i s Q E st h => wpAny_pyIter_zip st.1.1 h
def iZipB (K : PySem.W.Frag) (ta : TA) : TI := fun σ H R => ta σ H fun vs H1 => ∃ (b1 b2 : Bool) (a b : Addr) (xs ys : List V), vs = [.ref a, .ref b] ∧ SqB b1 K H1 a xs ∧ SqB b2 K H1 b ys ∧ R (ItzB b1 b2 K a b xs.length ys.length) H1
theorem pi_zipB {X : Cx} {e e2 : Expr} {ta : TA} {p pos tpos : Pos} {elts : List Expr} {kk : Nat} (hg : Gl X "zip") (hm : X.mg "zip" = none) (ha : PA X [e, e2] ta)
    (hs : starEach [e, e2] X.env = (false, eval e X.env) :: starEach [e2] X.env := by rfl) (hpl : (backTo pos (starEach [e2] X.env)).any (·.1) = false := by rfl) :
    PI X (.Tuple elts kk tpos) (.Call (.Name "zip" p) [e, e2] [] pos) (iZipB X.K ta) := by
  refine ⟨fun pins s σ H R I h => ?_⟩
  refine Call_ (ld_blt I hg hm PyProof.Rows.boot_zip (PyProof.Rows.callWith_type1 (thn (ha.run pos pins s σ H _ I h) fun us s1 ⟨vs, H1, I1, r1, q1⟩ => ?_) hs hpl))
  obtain ⟨b1, b2, a, b, xs, ys, rfl, hqx, hqy, q⟩ := q1
  obtain ⟨u1, u2, rfl, hu1, hu2⟩ := vals2 r1
  obtain rfl : u1 = Value.ref a := hu1
  obtain rfl : u2 = Value.ref b := hu2
  obtain ⟨its, rv, p1, la⟩ := inv_seqB I1 hqx
  obtain ⟨its2, rv2, p2, lb⟩ := inv_seqB I1 hqy
  have S := zip_sep2 (N := s1.heap.objs.size) (fp1 := [a]) (fp2 := [b]) (fun c hc => by rw [List.mem_singleton.mp hc]; exact la) (fun c hc => by rw [List.mem_singleton.mp hc]; exact lb)
  refine zip_begins2 (beginsB b1 a its.toArray) (beginsB b2 b its2.toArray) p1 p2 fun h' hz hTI hTO h1 h2 hsz hk => wpAny_pyIter_zip hz ?_
  have fresh : ∀ c, c ∈ [s1.heap.objs.size + 4, s1.heap.objs.size + 2, s1.heap.objs.size + 3, s1.heap.objs.size, s1.heap.objs.size + 1] → FpOk X pins H1 c := fun c hc => by
    have hle : s1.heap.objs.size ≤ c := by rcases five hc with z | z | z | z | z <;> omega
    exact I1.fpOk hle (I1.hok.fresh hle)
  have I2 : Inv X pins σ H1 { s1 with heap := h' } := I1.kept (t' := s1.toks) hk
  exact ⟨s1.heap.objs.size + 4, _, _, _, H1, rfl, I2, turn_zipB b1 b2 S (Nat.ne_of_lt la) (Nat.ne_of_lt (Nat.lt_succ_of_lt lb)), ⟨⟨hz, hTI, ⟨_, _, hTO⟩, itB_0 h1, itB_0 h2⟩, Nat.zero_le _, Nat.zero_le _⟩, fresh, q⟩
end DLR
namespace DL
open PySem PySem.Spec PyProof.Rows L2 DLR
/-- a list, a tuple: its items -/
def sqD : PyData → Option (List PyData)
  | .list xs => some xs
  | .tuple xs => some xs
  | _ => none
def diZipM (da : DA) : DI := fun ρ Q => da ρ fun xs => match xs with
  | [.d x, .d y] => ∃ us ws, sqD x = some us ∧ sqD y = some ws ∧ Q (zipD us ws)
  | _ => False
section
variable {X : Cx} {m : Am} {e e2 : Expr} {p pos : Pos} {ua : TA} {va : DA}
theorem Rep.sqB {K : PySem.W.Frag} {B : Hp} {v : V} {x : PyData} {us : List PyData} (r : Rep K B v x) (h : sqD x = some us) : ∃ (b : Bool) (a : Addr) (vs : List V), v = .ref a ∧ RepAll K B vs us ∧ ∀ H', Ex B H' → SqB b K H' a vs := by
  cases r with
  | lst hp ha =>
    cases h
    exact ⟨false, _, _, rfl, ha, fun H' e => SqL.of (e _ _ hp)⟩
  | tup hp ha =>
    cases h
    exact ⟨true, _, _, rfl, ha, fun H' e => SqT.of (e _ _ hp)⟩
  | _ => cases h
theorem ri_zipM {K : PySem.W.Frag} (h : RA K m ua va) : RI K m (iZipB K ua) (diZipM va) := ⟨fun {σ H ρ F T R dQ} er hq k => h.run er hq fun H' vs xs e1 er1 vxs hx => by
  split at hx
  · rename_i x y
    obtain ⟨us, ws, hu, hw, hx⟩ := hx
    cases vxs with
    | cons v1 vr =>
      cases vr with
      | cons v2 vr =>
        cases vr
        obtain ⟨b1, a1, vs1, rfl, ha1, s1⟩ := Rep.sqB v1.rep hu
        obtain ⟨b2, a2, vs2, rfl, ha2, s2⟩ := Rep.sqB v2.rep hw
        refine ⟨b1, b2, a1, a2, vs1, vs2, rfl, s1 _ Ex.ofBh, s2 _ Ex.ofBh, k H' _ _ e1 er1 (fun G' H2 z hb hf i => ?_) hx⟩
        have t1 := s1 _ (Ex.trans z Ex.ofBh)
        have t2 := s2 _ (Ex.trans z Ex.ofBh)
        refine ⟨fun hi => ⟨vs1, vs2, t1, t2, rfl, rfl, ?_⟩, fun x hx => ?_⟩
        · rw [ha1.length, ha2.length]
          exact zipD_len _ _ _ hi
        · obtain ⟨x1, x2, g1, g2, rfl⟩ := zipD_get hx
          obtain ⟨w1, hw1, r1⟩ := ha1.get g1
          obtain ⟨w2, hw2, r2⟩ := ha2.get g2
          refine ⟨⟨vs1, vs2, w1, w2, t1, t2, rfl, rfl, hw1, hw2⟩, fun v H3 hy => ?_⟩
          obtain ⟨q, y1, y2, rfl, hn, rfl, f1, f2⟩ := hy
          obtain rfl : w1 = y1 := Option.some.inj (hw1.symm.trans (f1 vs1 t1))
          obtain rfl : w2 = y2 := Option.some.inj (hw2.symm.trans (f2 vs2 t2))
          exact ⟨Ex.new hn, new_pair hb hf hn (Rep.mono z _ _ r1) (Rep.mono z _ _ r2)⟩
  · exact hx.elim⟩
theorem i_zipM {tpos : Pos} {elts : List Expr} {kk : Nat} (hg : Gl X "zip") (hm : X.mg "zip" = none) (ha : DPA X m [e, e2] ua va) (hs : starEach [e, e2] X.env = (false, eval e X.env) :: starEach [e2] X.env := by rfl) (hpl : (backTo pos (starEach [e2] X.env)).any (·.1) = false := by rfl) :
    DPI X m (.Tuple elts kk tpos) (.Call (.Name "zip" p) [e, e2] [] pos) (iZipB X.K ua) (diZipM va) := ⟨pi_zipB hg hm ha.pa hs hpl, ri_zipM ha.ra⟩
def ciZipM (a : CN) : CI := fun ρ => (a ρ).bind fun xs => match xs with
  | [.d x, .d y] => (sqD x).bind fun us => (sqD y).map fun ws => zipD us ws
  | _ => none
instance {da : DA} {ca : CN} [h : EvA da ca] : EvI (diZipM da) (ciZipM ca) := ⟨fun {ρ x Q} e q => by
  obtain ⟨xs, e1, e⟩ := ob e
  refine h.ev e1 ?_
  split at e
  · obtain ⟨us, e2, e⟩ := ob e
    obtain ⟨ws, e3, rfl⟩ := om e
    exact ⟨us, ws, e2, e3, q⟩
  · cases e⟩
end
end DL

/-! ==== DLR3 ==== -/
set_option Elab.async false
set_option linter.all false
set_option maxRecDepth 100000
set_option maxHeartbeats 4000000
/-! own dicts -/
namespace DL
open PySem PySem.Spec PyProof.Rows L2
theorem eqD_kD (a b : Key) : eqD (kD a) (kD b) = decide (a = b) := by
  cases a with
  | inl i =>
    cases b with
    | inl j =>
      show decide (i = j) = _
      by_cases e : i = j
      · subst e
        rw [decide_eq_true rfl, decide_eq_true rfl]
      · rw [decide_eq_false e, decide_eq_false fun z => e (Sum.inl.inj z)]
    | inr y => exact (decide_eq_false (fun z => nomatch z)).symm
  | inr x =>
    cases b with
    | inl j => exact (decide_eq_false (fun z => nomatch z)).symm
    | inr y =>
      show decide (x = y) = _
      by_cases e : x = y
      · subst e
        rw [decide_eq_true rfl, decide_eq_true rfl]
      · rw [decide_eq_false e, decide_eq_false fun z => e (Sum.inr.inj z)]
theorem eqDs_kD : ∀ (a b : List Key), eqDs (a.map kD) (b.map kD) = decide (a = b)
  | [], [] => rfl
  | [], _ :: _ => rfl
  | _ :: _, [] => rfl
  | x :: a, y :: b => by
    show (eqD (kD x) (kD y) && eqDs (a.map kD) (b.map kD)) = _
    rw [eqD_kD, eqDs_kD a b]
    by_cases e : x = y
    · by_cases e2 : a = b
      · subst e e2
        rw [decide_eq_true rfl, decide_eq_true rfl, decide_eq_true rfl]
        rfl
      · rw [decide_eq_false e2, Bool.and_false, decide_eq_false fun z => e2 (List.cons.inj z).2]
    · rw [decide_eq_false e, Bool.false_and, decide_eq_false fun z => e (List.cons.inj z).1]
def kT (ks : List Key) : PyData := .tuple (ks.map kD)
theorem eqD_kT (a b : List Key) : eqD (kT a) (kT b) = decide (a = b) := eqDs_kD a b
/-- what stands at a key, a pair put -/
def dgetD (ds : List (PyData × PyData)) (k : PyData) : Option PyData := (ds.find? fun p => eqD p.1 k).map (·.2)
def dhasD (ds : List (PyData × PyData)) (k : PyData) : Bool := ds.any fun p => eqD p.1 k
def dputD (ds : List (PyData × PyData)) (k v : PyData) : List (PyData × PyData) := if dhasD ds k = true then ds.map fun p => if eqD p.1 k = true then (p.1, v) else p else ds ++ [(k, v)]
theorem dget_isSome (ds : List (PyData × PyData)) (k : PyData) : (dgetD ds k).isSome = dhasD ds k := by
  unfold dgetD dhasD
  rw [Option.isSome_map]
  induction ds with
  | nil => rfl
  | cons p r ih =>
    rw [List.find?_cons, List.any_cons]
    cases eqD p.1 k with
    | true => rfl
    | false => exact ih
inductive RK {κ : Type} (kd : κ → PyData) (K : PySem.W.Frag) (H : Hp) : List (κ × V) → List (PyData × PyData) → Prop
  | nil : RK kd K H [] []
  | cons {k : κ} {v : V} {vs : List (κ × V)} {d : PyData} {ds : List (PyData × PyData)} : Rep K H v d → RK kd K H vs ds → RK kd K H ((k, v) :: vs) ((kd k, d) :: ds)
def RelD (K : PySem.W.Frag) (H : Hp) : Option V → Option PyData → Prop
  | some v, some x => Rep K H v x
  | none, none => True
  | _, _ => False
section
variable {K : PySem.W.Frag} {H : Hp}
theorem RK.ofV : ∀ {kvs : List (Key × V)} {ds : List (PyData × PyData)}, RepKV K H kvs ds → RK kD K H kvs ds
  | _, _, .nil => .nil
  | _, _, .cons r t => .cons r (RK.ofV t)
theorem RK.toV : ∀ {kvs : List (Key × V)} {ds : List (PyData × PyData)}, RK kD K H kvs ds → RepKV K H kvs ds
  | _, _, .nil => .nil
  | _, _, .cons r t => .cons r (RK.toV t)
theorem RK.ofT : ∀ {kvs : List (List Key × V)} {ds : List (PyData × PyData)}, RepKT K H kvs ds → RK kT K H kvs ds
  | _, _, .nil => .nil
  | _, _, .cons r t => .cons r (RK.ofT t)
theorem RK.toT : ∀ {kvs : List (List Key × V)} {ds : List (PyData × PyData)}, RK kT K H kvs ds → RepKT K H kvs ds
  | _, _, .nil => .nil
  | _, _, .cons r t => .cons r (RK.toT t)
variable {κ : Type} [DecidableEq κ] {kd : κ → PyData}
theorem RK.get (he : ∀ a b, eqD (kd a) (kd b) = decide (a = b)) (k : κ) : ∀ {kvs : List (κ × V)} {ds : List (PyData × PyData)}, RK kd K H kvs ds → RelD K H (valV kvs k) (dgetD ds (kd k))
  | _, _, .nil => trivial
  | _, _, .cons (k := j) (vs := kvs) (ds := ds) r t => by
    have ih := RK.get he k t
    unfold valV dgetD at ih ⊢
    rw [List.find?_cons, List.find?_cons]
    show RelD K H (Option.map _ (match decide (j = k) with | true => _ | false => _)) (Option.map _ (match eqD (kd j) (kd k) with | true => _ | false => _))
    rw [he]
    cases decide (j = k) with
    | true => exact r
    | false => exact ih
theorem RK.len : ∀ {kvs : List (κ × V)} {ds : List (PyData × PyData)}, RK kd K H kvs ds → kvs.length = ds.length
  | _, _, .nil => rfl
  | _, _, .cons _ t => congrArg (· + 1) t.len
theorem RK.any (he : ∀ a b, eqD (kd a) (kd b) = decide (a = b)) (k : κ) : ∀ {kvs : List (κ × V)} {ds : List (PyData × PyData)}, RK kd K H kvs ds → (kvs.any fun kv => decide (kv.1 = k)) = dhasD ds (kd k)
  | _, _, .nil => rfl
  | _, _, .cons r t => by
    have ih := RK.any he k t
    unfold dhasD at ih ⊢
    rw [List.any_cons, List.any_cons, ih, he]
theorem RK.snoc {k : κ} {v : V} {d : PyData} (rv : Rep K H v d) : ∀ {kvs : List (κ × V)} {ds : List (PyData × PyData)}, RK kd K H kvs ds → RK kd K H (kvs ++ [(k, v)]) (ds ++ [(kd k, d)])
  | _, _, .nil => .cons rv .nil
  | _, _, .cons r t => .cons r (RK.snoc rv t)
theorem RK.repl (he : ∀ a b, eqD (kd a) (kd b) = decide (a = b)) {k : κ} {v : V} {d : PyData} (rv : Rep K H v d) : ∀ {kvs : List (κ × V)} {ds : List (PyData × PyData)}, RK kd K H kvs ds →
    RK kd K H (kvs.map fun kv => if kv.1 = k then (kv.1, v) else kv) (ds.map fun p => if eqD p.1 (kd k) = true then (p.1, d) else p)
  | _, _, .nil => .nil
  | _, _, .cons (k := j) r t => by
    rw [List.map_cons, List.map_cons]
    show RK kd K H ((if j = k then _ else _) :: _) ((if eqD (kd j) (kd k) = true then _ else _) :: _)
    rw [he]
    by_cases e : j = k
    · rw [if_pos e, if_pos (decide_eq_true e)]
      exact .cons rv (RK.repl he rv t)
    · rw [if_neg e, if_neg (by rw [decide_eq_false e]; exact Bool.false_ne_true)]
      exact .cons r (RK.repl he rv t)
theorem RK.put (he : ∀ a b, eqD (kd a) (kd b) = decide (a = b)) {k : κ} {v : V} {d : PyData} {kvs : List (κ × V)} {ds : List (PyData × PyData)} (h : RK kd K H kvs ds) (rv : Rep K H v d) : RK kd K H (putK kvs k v) (dputD ds (kd k) d) := by
  unfold putK dputD
  rw [h.any he k]
  split
  · exact h.repl he rv
  · exact h.snoc rv
end
/-! ### a slot's dict -/
def getC (ρ : DEnv) (r : Nat) : Option (Bool × List (PyData × PyData)) := match ρ[r]? with
  | some (some (.dic ds)) => some (false, ds)
  | some (some (.dct ds)) => some (true, ds)
  | _ => none
def mkC : Bool → List (PyData × PyData) → OV
  | false, ds => .dic ds
  | true, ds => .dct ds
theorem getC_at {ρ : DEnv} {r : Nat} {b : Bool} {ds : List (PyData × PyData)} (h : getC ρ r = some (b, ds)) : ρ[r]? = some (some (mkC b ds)) := by
  unfold getC at h
  split at h
  · cases h
    assumption
  · cases h
    assumption
  · cases h
def keyF : PyData → Option Key
  | .int i => some (.inl i)
  | .str x => some (.inr x)
  | _ => none
theorem keyF_ok {d : PyData} {k : Key} (h : keyF d = some k) : d = kD k := by
  unfold keyF at h
  split at h
  · cases h
    rfl
  · cases h
    rfl
  · cases h
def keyFs : List PyData → Option (List Key)
  | [] => some []
  | d :: r => (keyF d).bind fun k => (keyFs r).map (k :: ·)
theorem keyFs_ok : ∀ {ds : List PyData} {ks : List Key}, keyFs ds = some ks → ds = ks.map kD
  | [], _, h => by
    cases h
    rfl
  | d :: r, _, h => by
    obtain ⟨k, e1, h⟩ := ob h
    obtain ⟨ks, e2, rfl⟩ := om h
    rw [List.map_cons, ← keyF_ok e1, ← keyFs_ok e2]
/-- keys that fit: ints and texts; tuples of such -/
def keyOk : Bool → PyData → Bool
  | false, d => (keyF d).isSome
  | true, .tuple xs => (keyFs xs).isSome
  | _, _ => false
theorem Rep.kV {K : PySem.W.Frag} {H : Hp} {v : V} : ∀ {k : Key}, Rep K H v (kD k) → v = kV k
  | .inl i, h => by
    cases h
    rfl
  | .inr x, h => by
    cases h
    rfl
theorem RepAll.kVs {K : PySem.W.Frag} {H : Hp} : ∀ {ks : List Key} {vs : List V}, RepAll K H vs (ks.map kD) → vs = ks.map L2.kV
  | [], _, h => by
    cases h
    rfl
  | k :: ks, _, h => by
    cases h with
    | cons h1 h2 => rw [Rep.kV h1, RepAll.kVs h2, List.map_cons]
section
variable {K : PySem.W.Frag} {m : Am} {σ : L2.St} {H : Hp} {ρ : DEnv} {F T : List Addr}
theorem dict_at (er : ER K m σ H ρ F T) {r : Nat} {b : Bool} {ds : List (PyData × PyData)} (hx : getC ρ r = some (b, ds)) : ∃ p, σ[r]? = some (some (.ref p)) ∧
    ∀ {w : V} {k : PyData}, keyOk b k = true → Rep K (Bh m (F ++ T) H) w k → ∃ o, DGet H p w o ∧ RelD K (Bh m (F ++ T) H) o (dgetD ds k) := by
  obtain ⟨v, fp, h1, h2, _⟩ := er.slots.get (getC_at hx)
  cases b with
  | false =>
    cases h2 with
    | dic hp ha =>
      refine ⟨_, h1, fun {w k} hk rk => ?_⟩
      obtain ⟨j, ej⟩ := Option.isSome_iff_exists.mp (show (keyF k).isSome = true from hk)
      have ek := keyF_ok ej
      subst ek
      rw [rk.kV]
      exact ⟨_, DGet.k hp, (RK.ofV ha).get eqD_kD j⟩
  | true =>
    cases h2 with
    | dct hp ha =>
      refine ⟨_, h1, fun {w k} hk rk => ?_⟩
      cases k with
      | tuple xs =>
        obtain ⟨js, ej⟩ := Option.isSome_iff_exists.mp (show (keyFs xs).isSome = true from hk)
        have ek := keyFs_ok ej
        subst ek
        cases rk with
        | tup ht hts =>
          rw [hts.kVs] at ht
          exact ⟨_, DGet.t hp (Ex.ofBh _ _ ht), (RK.ofT ha).get eqD_kT js⟩
      | _ => cases hk
end
section
variable {X : Cx} {m : Am} {e k v : Expr} {pos p px : Pos} {te tk tv : TE} {de dk dv : DE} {x : Str} {r n : Nat}
/-- d[k] -/
def dDGet (r : Nat) (dk : DE) : DE := fun ρ Q => match getC ρ r with
  | some (b, ds) => dk ρ fun y => (match y with
    | .d k => keyOk b k = true ∧ ∃ z, dgetD ds k = some z ∧ Q (.d z)
    | _ => False)
  | none => False
theorem d_dget (hr : Rm n X.A) (h : DPE X m k tk dk) (hN : X.N[r]? = some x := by rfl) (hv : Vis X.env.scope x := by first | exact Or.inl rfl | exact Or.inr (Or.inl rfl) | exact Or.inr (Or.inr rfl)) (hs : NoSl k := by exact fun _ _ => rfl)
    (hd : (x == ("__debug__" : Str)) = false := by decide) (hcd : (x == ("__classdict__" : Str)) = false := by decide) : DPE X m (.Subscript (.Name x px) k pos) (tDGet (tVar r) tk) (dDGet r dk) :=
  ⟨pe_dget (hu_of hr.room) (pe_var hN hv hd hcd) h.pe hs, ⟨fun {σ H ρ F T Q dQ} er hq kk => by
    unfold dDGet at hq
    split at hq
    · rename_i b ds hx
      obtain ⟨q, h1, _⟩ := dict_at er hx
      refine ⟨.ref q, h1, h.re.run er hq fun H2 w y e2 er2 vy hy => ?_⟩
      obtain ⟨q2, h2, g⟩ := dict_at er2 hx
      obtain rfl : q = q2 := V.ref.inj (Option.some.inj (Option.some.inj (h1.symm.trans h2)))
      split at hy
      · obtain ⟨hk, z, ez, hy⟩ := hy
        obtain ⟨o, hg, rel⟩ := g hk vy.rep
        rw [ez] at rel
        cases o with
        | none => exact rel.elim
        | some u => exact ⟨q, u, rfl, hg, kk _ _ _ e2 er2 (.d rel) hy⟩
      · exact hy.elim
    · exact hq.elim⟩⟩
/-- k in d, k not in d -/
def dDIn (g : Bool → Bool) (r : Nat) (dk : DE) : DE := fun ρ Q => match getC ρ r with
  | some (b, ds) => dk ρ fun y => (match y with
    | .d k => keyOk b k = true ∧ Q (.d (.bool (g (dhasD ds k))))
    | _ => False)
  | none => False
theorem rel_some {K : PySem.W.Frag} {H : Hp} {o : Option V} {d : Option PyData} (h : RelD K H o d) : o.isSome = d.isSome := by
  cases o <;> cases d <;> first | rfl | exact h.elim
theorem re_din (h : RE X.K m tk dk) : RE X.K m (tDIn tk (tVar r)) (dDIn id r dk) := ⟨fun {σ H ρ F T Q dQ} er hq kk => by
  unfold dDIn at hq
  split at hq
  · rename_i b ds hx
    refine h.run er hq fun H2 w y e2 er2 vy hy => ?_
    obtain ⟨q2, h2, g⟩ := dict_at er2 hx
    refine ⟨.ref q2, h2, ?_⟩
    split at hy
    · obtain ⟨hk, hy⟩ := hy
      obtain ⟨o, hg, rel⟩ := g hk vy.rep
      refine ⟨q2, o, rfl, hg, ?_⟩
      rw [rel_some rel, dget_isSome]
      exact kk _ _ _ e2 er2 (.ofBool _) hy
    · exact hy.elim
  · exact hq.elim⟩
theorem re_dni (h : RE X.K m tk dk) : RE X.K m (tDNotIn tk (tVar r)) (dDIn not r dk) := ⟨fun {σ H ρ F T Q dQ} er hq kk => by
  unfold dDIn at hq
  split at hq
  · rename_i b ds hx
    refine h.run er hq fun H2 w y e2 er2 vy hy => ?_
    obtain ⟨q2, h2, g⟩ := dict_at er2 hx
    refine ⟨.ref q2, h2, ?_⟩
    split at hy
    · obtain ⟨hk, hy⟩ := hy
      obtain ⟨o, hg, rel⟩ := g hk vy.rep
      refine ⟨q2, o, rfl, hg, ?_⟩
      rw [rel_some rel, dget_isSome]
      exact kk _ _ _ e2 er2 (.ofBool _) hy
    · exact hy.elim
  · exact hq.elim⟩
theorem d_din (hr : Rm n X.A) (h : DPE X m k tk dk) (hN : X.N[r]? = some x := by rfl) (hv : Vis X.env.scope x := by first | exact Or.inl rfl | exact Or.inr (Or.inl rfl) | exact Or.inr (Or.inr rfl)) (hd : (x == ("__debug__" : Str)) = false := by decide) (hcd : (x == ("__classdict__" : Str)) = false := by decide) :
    DPE X m (.Compare k [.In] [.Name x px] pos) (tDIn tk (tVar r)) (dDIn id r dk) := ⟨pe_cmp (pc_din (hu_of hr.room) h.pe (pe_var hN hv hd hcd)), re_din h.re⟩
theorem d_dni (hr : Rm n X.A) (h : DPE X m k tk dk) (hN : X.N[r]? = some x := by rfl) (hv : Vis X.env.scope x := by first | exact Or.inl rfl | exact Or.inr (Or.inl rfl) | exact Or.inr (Or.inr rfl)) (hd : (x == ("__debug__" : Str)) = false := by decide) (hcd : (x == ("__classdict__" : Str)) = false := by decide) :
    DPE X m (.Compare k [.NotIn] [.Name x px] pos) (tDNotIn tk (tVar r)) (dDIn not r dk) := ⟨pe_cmp (pc_dnotin (hu_of hr.room) h.pe (pe_var hN hv hd hcd)), re_dni h.re⟩
theorem t_din (hr : Rm n X.A) (h : DPE X m k tk dk) (hN : X.N[r]? = some x := by rfl) (hv : Vis X.env.scope x := by first | exact Or.inl rfl | exact Or.inr (Or.inl rfl) | exact Or.inr (Or.inr rfl)) (hd : (x == ("__debug__" : Str)) = false := by decide) (hcd : (x == ("__classdict__" : Str)) = false := by decide) :
    DPT X m (.Compare k [.In] [.Name x px] pos) (tB (tDIn tk (tVar r))) (dTest (dDIn id r dk)) := ⟨pt_cmp (pc_din (hu_of hr.room) h.pe (pe_var hN hv hd hcd)), ⟨(rt_test (re_din h.re)).run⟩⟩
theorem t_dni (hr : Rm n X.A) (h : DPE X m k tk dk) (hN : X.N[r]? = some x := by rfl) (hv : Vis X.env.scope x := by first | exact Or.inl rfl | exact Or.inr (Or.inl rfl) | exact Or.inr (Or.inr rfl)) (hd : (x == ("__debug__" : Str)) = false := by decide) (hcd : (x == ("__classdict__" : Str)) = false := by decide) :
    DPT X m (.Compare k [.NotIn] [.Name x px] pos) (tB (tDNotIn tk (tVar r))) (dTest (dDIn not r dk)) := ⟨pt_cmp (pc_dnotin (hu_of hr.room) h.pe (pe_var hN hv hd hcd)), ⟨(rt_test (re_dni h.re)).run⟩⟩
/-- d[k] = v -/
def dDPut (r : Nat) (dk dv : DE) : DS := fun D ρ => dv ρ fun y => match y with
  | .d z => (match getC ρ r with
    | some (b, ds) => dk ρ fun w => (match w with
      | .d k => keyOk b k = true ∧ ds.length < sizeLine ∧ D.nx (ρ.set r (some (mkC b (dputD ds k z))))
      | _ => False)
    | none => False)
  | _ => False
theorem rs_dput {K : PySem.W.Frag} (hk : RE K m tk dk) (hv : RE K m tv dv) : RS K m (sDPut (tVar r) tk tv) (dDPut r dk dv) := ⟨fun {σ H ρ F D dD} er hq o => hv.run er hq fun H1 v y e1 er1 vy hy => by
  split at hy
  · rename_i z
    split at hy
    · rename_i b ds hx
      obtain ⟨q, h1, _⟩ := dict_at er1 hx
      refine ⟨.ref q, h1, hk.run er1 hy fun H3 w y e2 er3 vk hy => ?_⟩
      split at hy
      · rename_i k
        obtain ⟨ok, hl, hy⟩ := hy
        have vz := (vy.step er1 e2).rep
        obtain ⟨u, fp, h2, ow, hsub, nd, kk⟩ := er3.chg (getC_at hx)
        obtain rfl : V.ref q = u := Option.some.inj (Option.some.inj (h1.symm.trans h2))
        have z2 := Bh.ex (G := F ++ []) er.base (e1.trans e2)
        cases b with
        | false =>
          cases ow with
          | dic hp ha =>
            obtain ⟨j, ej⟩ := Option.isSome_iff_exists.mp (show (keyF k).isSome = true from ok)
            have ek := keyF_ok ej
            subst ek
            rename_i kvs
            obtain ⟨F', er4, z4⟩ := kk q (.dK (putK kvs j v)) (.dic (dputD ds (kD j) z)) [q] List.mem_cons_self (fun a ha => .inl ha) nd fun B' eB =>
              .dic upd_same (((RK.ofV (RepKV.mono eB _ _ ha)).put eqD_kD (Rep.mono eB _ _ vz)).toV)
            refine ⟨q, _, rfl, ?_, o.nx _ _ _ F' er4 (Ex.trans z2 z4) hy⟩
            rw [vk.rep.kV]
            exact DPut.k hp (by rw [(RK.ofV ha).len]; exact hl)
        | true =>
          cases ow with
          | dct hp ha =>
            cases k with
            | tuple xs =>
              obtain ⟨js, ej⟩ := Option.isSome_iff_exists.mp (show (keyFs xs).isSome = true from ok)
              have ek := keyFs_ok ej
              subst ek
              rename_i kvs
              obtain ⟨F', er4, z4⟩ := kk q (.dT (putK kvs js v)) (.dct (dputD ds (kT js) z)) [q] List.mem_cons_self (fun a ha => .inl ha) nd fun B' eB =>
                .dct upd_same (((RK.ofT (RepKT.mono eB _ _ ha)).put eqD_kT (Rep.mono eB _ _ vz)).toT)
              cases vk.rep with
              | tup ht hts =>
                rw [hts.kVs] at ht
                exact ⟨q, _, rfl, DPut.t hp (Ex.ofBh _ _ ht) (by rw [(RK.ofT ha).len]; exact hl), o.nx _ _ _ F' er4 (Ex.trans z2 z4) hy⟩
            | _ => cases ok
      · exact hy.elim
    · exact hy.elim
  · exact hy.elim⟩
theorem s_dput (hr : Rm n X.A) (h : DPE X m v tv dv) (hk : DPE X m k tk dk) (hN : X.N[r]? = some x := by rfl) (hv : Vis X.env.scope x := by first | exact Or.inl rfl | exact Or.inr (Or.inl rfl) | exact Or.inr (Or.inr rfl)) (hd : (x == ("__debug__" : Str)) = false := by decide) (hcd : (x == ("__classdict__" : Str)) = false := by decide)
    (hs : swapsWith v (some (.Subscript (.Name x px) k p)) pos.line X.env = pure false := by rfl) :
    DPS X m (.Assign [.Subscript (.Name x px) k p] v pos) (sDPut (tVar r) tk tv) (dDPut r dk dv) := ⟨ps_dput (hu_of hr.room) (pe_var hN hv hd hcd) hk.pe h.pe hs, rs_dput hk.re h.re⟩
end
/-! ### they compute -/
def cDGet (r : Nat) (a : CE) : CE := fun ρ => match getC ρ r with
  | some (b, ds) => (a ρ).bind fun y => (match y with
    | .d k => if keyOk b k = true then (dgetD ds k).map .d else none
    | _ => none)
  | none => none
instance {r : Nat} {da : DE} {ca : CE} [h : EvE da ca] : EvE (dDGet r da) (cDGet r ca) := ⟨fun {ρ x Q} e q => by
  unfold cDGet at e
  unfold dDGet
  split at e
  · rename_i b ds hx
    obtain ⟨y, e1, e⟩ := ob e
    refine h.ev e1 ?_
    split at e
    · obtain ⟨ok, e⟩ := oi e
      obtain ⟨z, e2, rfl⟩ := om e
      exact ⟨ok, z, e2, q⟩
    · cases e
  · cases e⟩
def cDIn (g : Bool → Bool) (r : Nat) (a : CE) : CE := fun ρ => match getC ρ r with
  | some (b, ds) => (a ρ).bind fun y => (match y with
    | .d k => if keyOk b k = true then some (.d (.bool (g (dhasD ds k)))) else none
    | _ => none)
  | none => none
instance {g : Bool → Bool} {r : Nat} {da : DE} {ca : CE} [h : EvE da ca] : EvE (dDIn g r da) (cDIn g r ca) := ⟨fun {ρ x Q} e q => by
  unfold cDIn at e
  unfold dDIn
  split at e
  · rename_i b ds hx
    obtain ⟨y, e1, e⟩ := ob e
    refine h.ev e1 ?_
    split at e
    · obtain ⟨ok, e⟩ := oi e
      cases e
      exact ⟨ok, q⟩
    · cases e
  · cases e⟩
def cDPut (r : Nat) (a b : CE) : CS := fun ρ => (b ρ).bind fun y => match y with
  | .d z => (match getC ρ r with
    | some (f, ds) => (a ρ).bind fun w => (match w with
      | .d k => if keyOk f k = true ∧ ds.length < sizeLine then some (.nx (ρ.set r (some (mkC f (dputD ds k z))))) else none
      | _ => none)
    | none => none)
  | _ => none
instance {r : Nat} {da db : DE} {ca cb : CE} [h : EvE da ca] [h' : EvE db cb] : EvS (dDPut r da db) (cDPut r ca cb) := ⟨fun {ρ o D} e q => by
  obtain ⟨y, e1, e⟩ := ob e
  refine h'.ev e1 ?_
  split at e
  · split at e
    · rename_i b ds hx
      obtain ⟨w, e2, e⟩ := ob e
      refine h.ev e2 ?_
      split at e
      · obtain ⟨ok, e⟩ := oi e
        cases e
        exact ⟨ok.1, ok.2, q⟩
      · cases e
    · cases e
  · cases e⟩
end DL

/-! ==== DLR4 ==== -/
set_option Elab.async false
set_option linter.all false
set_option maxRecDepth 100000
set_option maxHeartbeats 4000000
/-! new own values, tuples of them assigned, pop, calls that hand out a new list -/
namespace DL
open PySem PySem.Spec PyProof.Rows L2
/-- a new thing, the value's own -/
structure RX (K : PySem.W.Frag) (m : Am) (t : TE) (dx : DE) : Prop where
  run : ∀ {σ : L2.St} {H : Hp} {ρ : DEnv} {F T : List Addr} {Q : VK} {dQ : OV → Prop}, ER K m σ H ρ F T → dx ρ dQ →
    (∀ H' v x fp, Ext m.P H H' → (∀ a ∈ fp, H a = none) → ER K m σ H' ρ F (T ++ fp) → Own K m (Bh m (F ++ (T ++ fp)) H') H' v x fp → dQ x → Q v H') → t σ H Q
structure DPX (X : Cx) (m : Am) (e : Expr) (t : TE) (dx : DE) : Prop where
  pe : PE X e t
  rx : RX X.K m t dx
def dXN (dn : DN) : DE := fun ρ Q => dn ρ fun xs => Q (.lst xs)
def dXC (b : Bool) : DE := fun _ Q => Q (mkC b [])
def dXC1 (dk dv : DE) : DE := fun ρ Q => dk ρ fun x => dv ρ fun y => match x, y with
  | .d k, .d v => keyOk false k = true ∧ Q (.dic [(k, v)])
  | _, _ => False
section
variable {X : Cx} {m : Am} {a b c e k v : Expr} {es : List Expr} {pos p : Pos} {te tk tv : TE} {de dk dv dx : DE} {dn : DN} {ua : TA} {va : DA}
theorem x_n (h : DPN X m e te dn) : DPX X m e te (dXN dn) := ⟨h.pe, ⟨fun {σ H ρ F T Q dQ} er hq kk => h.rn.run er hq fun H' v xs fp e1 hf er1 ow hx => kk H' v _ fp e1 hf er1 ow hx⟩⟩
theorem x_dK : DPX X m (.Dict [] [] pos) tDNewK (dXC false) := ⟨pe_dnewK, ⟨fun {σ H ρ F T Q dQ} er hq kk => fun q hn => kk _ _ _ [q] (Ext.new hn) (fun a ha => by rw [List.mem_singleton.mp ha]; exact hn) (er.own hn) (.dic upd_same .nil) hq⟩⟩
theorem x_dT : DPX X m (.Dict [] [] pos) tDNewT (dXC true) := ⟨pe_dnewT, ⟨fun {σ H ρ F T Q dQ} er hq kk => fun q hn => kk _ _ _ [q] (Ext.new hn) (fun a ha => by rw [List.mem_singleton.mp ha]; exact hn) (er.own hn) (.dct upd_same .nil) hq⟩⟩
theorem x_d1 (hk : DPE X m k tk dk) (hv : DPE X m v tv dv) : DPX X m (.Dict [some k] [v] pos) (tDisp [(tk, tv)]) (dXC1 dk dv) := ⟨pe_disp (pps_cons hk.pe hv.pe pps_nil) rfl rfl (by simp) (by show 1 ≤ 15; decide), ⟨fun {σ H ρ F T Q dQ} er hq kk => fun q hn => by
  have er0 := er.own (o := .dK []) hn
  refine hk.re.run er0 hq fun H1 w x e1 er1 vk h1 => hv.re.run er1 h1 fun H2 u y e2 er2 vv h2 => ?_
  split at h2
  · rename_i kx vx
    obtain ⟨ok, h2⟩ := h2
    obtain ⟨j, ej⟩ := Option.isSome_iff_exists.mp (show (keyF kx).isSome = true from ok)
    have ek := keyF_ok ej
    subst ek
    have e12 := e1.trans e2
    have q0 : upd H q (.dK []) q = some (.dK []) := upd_same
    have qT : q ∈ F ++ (T ++ [q]) := List.mem_append_right _ (List.mem_append_right _ (List.mem_singleton.mpr rfl))
    have hq2 : H2 q = some (.dK []) := (er0.keepF e12 qT).trans q0
    refine ⟨hq2, [(j, u)], by rw [(vk.rep).kV]; rfl, by show 1 ≤ 15; decide, ?_⟩
    have er3 := er2.wr (o := .dK (mergeK [] [(j, u)])) (List.mem_append_right T (List.mem_singleton.mpr rfl))
    have e3 : Ext m.P H (upd H2 q (.dK (mergeK [] [(j, u)]))) := fun a o n ha => by
      rw [upd_ne (ne_of_none ha hn)]
      refine e12 a o n ?_
      rw [upd_ne (ne_of_none ha hn)]
      exact ha
    refine kk _ _ (.dic [(kD j, vx)]) [q] e3 (fun a ha => by rw [List.mem_singleton.mp ha]; exact hn) er3 (.dic upd_same (.cons (Rep.mono (Bh.chg (fun a ha => .inl ha) fun a ha _ => upd_ne fun z => ha (by rw [z]; exact qT)) _ _ vv.rep) .nil)) h2
  · exact h2.elim⟩⟩
def dConsX (dx : DE) (da : DA) : DA := fun ρ Q => dx ρ fun y => da ρ fun xs => Q (y :: xs)
theorem ao_x (h : DPX X m e te dx) (h' : DPAo X m es ua va) (hs : starEach (e :: es) X.env = (false, eval e X.env) :: starEach es X.env := by rfl) : DPAo X m (e :: es) (tCons te ua) (dConsX dx va) := ⟨pa_cons h.pe h'.pa hs, ⟨fun {σ H ρ F T Q dQ} er hq k =>
  h.rx.run er hq fun H1 v y fp e1 hf1 er1 ow1 hq => h'.ra.run er1 hq fun H2 vs xs fq e2 hf er2 ow hq2 => by
    have eT : (T ++ fp) ++ fq = T ++ (fp ++ fq) := List.append_assoc _ _ _
    rw [eT] at er2 ow
    refine k H2 (v :: vs) (y :: xs) (fp ++ fq) (e1.trans e2) (fun a ha => ?_) er2 (OwnAll.cons (Own.same (Bh.go er1.base e2 fun a ha => ?_) _ _ _ (fun a ha => er1.keepF e2 (List.mem_append_right _ (List.mem_append_right _ ha))) ow1) ow) hq2
    · rcases List.mem_append.mp ha with y | y
      · exact hf1 a y
      · exact Ext.back er1.base.pot e1 (hf a y)
    · rw [← eT, ← List.append_assoc] at ha
      rcases List.mem_append.mp ha with y | y
      · exact .inl y
      · exact .inr (hf a y)⟩⟩
def dSetX (i : Nat) (dx : DE) : DS := fun D ρ => dx ρ fun x => D.nx (ρ.set i (some x))
theorem rs_setX {K : PySem.W.Frag} {i : Nat} (h : RX K m te dx) : RS K m (tAsg te (gName i)) (dSetX i dx) := ⟨fun {σ H ρ F D dD} er hq o => h.run er hq fun H' v x fp e1 hf er1 ow hx => by
  have nd : fp.Nodup := by
    have h := er1.nd
    rw [List.nodup_append] at h
    exact h.2.1
  obtain ⟨F', er2, z⟩ := er1.setD i ow (fun a ha => ha) nd
  refine o.nx _ H' _ F' er2 (Bh.go er.base e1 fun a ha => ?_) hx
  rw [List.append_nil] at ha
  rcases List.mem_append.mp (z a ha) with z | z
  · exact .inl (List.mem_append_left _ z)
  · exact .inr (hf a z)⟩
theorem s_setX {i : Nat} {x : Str} {pos' : Pos} (hN : X.N.Nodup) (h : DPX X m e te dx) (hi : X.N[i]? = some x := by rfl) (hx : Loc X.env.scope x := by first | exact Or.inl rfl | exact Or.inr rfl) (hs : swapsWith e (some (.Name x pos')) pos.line X.env = pure false := by rfl)
    (hf : X.fn x = true ∨ X.env.scope.names.lookup x = some .local := by first | exact .inl rfl | exact .inr rfl | assumption) : DPS X m (.Assign [.Name x pos'] e pos) (tAsg te (gName i)) (dSetX i dx) := ⟨ps_set hN hi hx h.pe hs hf, rs_setX h.rx⟩
/-! ### a, b, c, d = e1, e2, e3, e4 by a tuple -/
def gNs : List Nat → TGs
  | [] => gNil
  | i :: is => gCons (gName i) (gNs is)
theorem gNs_ok : ∀ {is : List Nat} {vs : List V} {σ : L2.St} {H : Hp} {Q : L2.St → Hp → Prop}, vs.length = is.length → Q (setsS σ is vs) H → gNs is vs σ H Q
  | [], [], _, _, _, _, q => ⟨rfl, q⟩
  | _ :: is, v :: vs, σ, H, Q, hl, q => ⟨v, vs, rfl, gNs_ok (is := is) (vs := vs) (Nat.succ.inj hl) q⟩
theorem s_parT {is : List Nat} {n k2 kt : Nat} {ts : List Expr} {pt pt2 : Pos} (hc : X.calm = true) (ha : DPAo X m es ua va) (hg : PGs X ts (gNs is)) (hn : is.length = n) (hsz : decide (n ≤ sizeLine) = true := by rfl)
    (hn2 : (assignEach ts X.env).length = n := by rfl) (hst : (assignEach ts X.env).findIdx? (·.1) = none := by rfl) (hs : swapsWithSole [.Tuple ts kt pt] (.Tuple es k2 pt2) pos.line X.env = pure false := by rfl)
    (hw : swappedStores [.Tuple ts kt pt] (.Tuple es k2 pt2) X.env = pure none := by rfl) (h1 : (assignEach [.Tuple ts kt pt] X.env).map (·.2) = [assign (.Tuple ts kt pt) X.env] := by rfl) :
    DPS X m (.Assign [.Tuple ts kt pt] (.Tuple es k2 pt2) pos) (tAsg (tTup ua) (gTup X.K n (gNs is))) (dParO is va) := ⟨ps_asg (pe_tup ha.pa) (pg_tup hc hg hn2 hst) hs hw h1, ⟨fun {σ H ρ F D dD} er hq o => ha.ra.run er hq fun H' vs xs fp e1 hf er1 ow hx => by
  have hl : vs.length = is.length := ow.len.trans hx.1
  refine ⟨by rw [hl, hn]; exact of_decide_eq_true hsz, fun q hq2 => ⟨q, vs, rfl, SqT.of upd_same, hl.trans hn, gNs_ok hl ?_⟩⟩
  have er1' := er1.new (o := .tup vs) hq2
  have ow' := OwnAll.same (H' := upd H' q (.tup vs)) (Bh.ex (G := F ++ ([] ++ fp)) (H' := upd H' q (.tup vs)) er1.base (Ext.new hq2)) _ _ _ (fun a ha => upd_ne fun z => (er1.fresh a (List.mem_append_right _ ha)).2 (by rw [z]; exact hq2)) ow
  obtain ⟨F', er2, z⟩ := er1'.sets is ow'
  refine o.nx _ _ _ F' er2 (Bh.go er.base (e1.trans (Ext.new hq2)) fun a ha => ?_) hx.2
  rw [List.append_nil] at ha
  rcases List.mem_append.mp (z a ha) with y | y
  · exact .inl (List.mem_append_left _ y)
  · exact .inr (hf a y)⟩⟩
/-! ### x = y.pop() -/
def dPop (i r : Nat) : DS := fun D ρ => match getL ρ r with
  | some xs => ∃ y, xs[xs.length - 1]? = some (.d y) ∧ D.nx ((ρ.set r (some (.lst xs.dropLast))).set i (some (.d y)))
  | none => False
theorem OwnAll.dropLast {K : PySem.W.Frag} {B H : Hp} : ∀ {vs : List V} {xs : List OV} {fp : List Addr}, OwnAll K m B H vs xs fp → ∃ fp', OwnAll K m B H vs.dropLast xs.dropLast fp' ∧ List.Sublist fp' fp
  | _, _, _, .nil => ⟨[], .nil, List.Sublist.refl _⟩
  | [_], [_], _, .cons _ .nil => ⟨[], .nil, List.nil_sublist _⟩
  | _ :: _ :: _, _ :: _ :: _, _, .cons (fp := f1) o (.cons o2 t) => by
    obtain ⟨fp', h1, h2⟩ := OwnAll.dropLast (.cons o2 t)
    exact ⟨f1 ++ fp', .cons o h1, (List.Sublist.refl f1).append h2⟩
theorem s_pop {i r : Nat} {x y : Str} {xpos ypos apos cpos : Pos} (hN : X.N.Nodup) (hi : X.N[i]? = some x := by rfl) (hx : Loc X.env.scope x := by first | exact Or.inl rfl | exact Or.inr rfl) (hr : X.N[r]? = some y := by rfl)
    (hv : Vis X.env.scope y := by first | exact Or.inl rfl | exact Or.inr (Or.inl rfl) | exact Or.inr (Or.inr rfl)) (hd : (y == ("__debug__" : Str)) = false := by decide) (hcd : (y == ("__classdict__" : Str)) = false := by decide)
    (hbase : attributeBase (.Name y ypos) "pop" X.env (eval (.Name y ypos) X.env) = eval (.Name y ypos) X.env := by rfl) (hline : (apos.endLine == cpos.line) = true := by rfl)
    (hs : swapsWith (.Call (.Attribute (.Name y ypos) "pop" apos) [] [] cpos) (some (.Name x xpos)) pos.line X.env = pure false := by rfl)
    (hf : X.fn x = true ∨ X.env.scope.names.lookup x = some .local := by first | exact .inl rfl | exact .inr rfl | assumption) :
    DPS X m (.Assign [.Name x xpos] (.Call (.Attribute (.Name y ypos) "pop" apos) [] [] cpos) pos) (tAsg (tBM0 X.K "list" rPop (tVar r)) (gName i)) (dPop i r) :=
  ⟨ps_set hN hi hx (pe_bm0 PySem.F.plainAttrs_list PySem.F.slot_list_pop PySem.F.type_list_pop mt_pop (pe_var hr hv hd hcd) hbase hline) hs hf, ⟨fun {σ H ρ F D dD} er hq o => by
    unfold dPop at hq
    split at hq
    · rename_i xs hx
      obtain ⟨z, hz, hq⟩ := hq
      obtain ⟨u, fp, e1, ow, hfp, nd, kk⟩ := er.chg (getL_at hx)
      obtain ⟨q, vs, fq, rfl, rfl, hp, ha⟩ := ow.lst_inv
      obtain ⟨w, fw, hw, oww, _⟩ := ha.get hz
      cases oww with
      | d rz =>
        obtain ⟨fq', ha', hsub⟩ := ha.dropLast
        have qn : q ∉ fq := (List.nodup_cons.mp nd).1
        obtain ⟨F', er2, z2⟩ := kk q (.lst vs.dropLast) (.lst xs.dropLast) (q :: fq') List.mem_cons_self (fun a ha => by
          rcases List.mem_cons.mp ha with y | y
          · exact .inl (by rw [y]; exact List.mem_cons_self)
          · exact .inl (List.mem_cons_of_mem _ (hsub.subset y))) (List.nodup_cons.mpr ⟨fun y => qn (hsub.subset y), (List.nodup_cons.mp nd).2.sublist hsub⟩) fun B' eB =>
            .lst upd_same (OwnAll.same eB _ _ _ (fun a ha => upd_ne fun y => qn (by rw [← y]; exact hsub.subset ha)) ha')
        have rz2 := Rep.mono z2 _ _ rz
        obtain ⟨F3, er3, z3⟩ := er2.put i (x := .d z) rfl (.d rz2)
        refine ⟨.ref q, e1, Or.inl ⟨rfl, _, SqL.of hp⟩, q, vs, w, rfl, rfl, hp, ?_, o.nx _ _ _ F3 er3 (Ex.trans z2 z3) hq⟩
        rw [ha.len]
        exact hw
    · exact hq.elim⟩⟩
end
/-! ### a def that hands out a new list -/
abbrev DFN := List OV → (List PyData → Prop) → Prop
def dspN (K : PySem.W.Frag) (R : DFN) : Sp := fun vs H Q _ => ∃ (m : Am) (xs : List OV), m.H0 = H ∧ Base m H ∧ ArgsR K m (hid H m.S) vs xs ∧
  ∃ Pq : List PyData → Prop, R xs Pq ∧ ∀ ys, Pq ys → ∀ H' p us, Ext m.P H H' → PotOk m.P H' → H p = none → H' p = some (.lst us) → RepAll K (hid H' fun a => m.S a || decide (a = p)) us ys → Q (.ref p) H'
def RofN (N : List Str) (n : Nat) (dn : DN) : DFN := fun xs Q => xs.length = n ∧ dn (startD N xs) fun ys => ∃ ds, ovs ys = some ds ∧ Q ds
theorem FnG.dokN {P : Program} {w : World} {K : PySem.W.Frag} {mg : Str → Option Value} {base : Heap} {x qual : Str} {st : Stmt} {f : Addr} {fd : FuncData} {N ps : List Str} {k : Nat} {dn : DN} {e : Expr} {pos : Pos} (F : L2.Fun K x qual st f fd) (S : FnScope N ps (defScope st))
    (hbody : defBody st = [.Return (some e) pos])
    (hb : ∀ (m : Am) (cdv : Value) (A : Around) (outer : List Env) (s : Shared) (H : Hp) (E : XK), Rm k (A.deeper (envOfC qual (defScope st) s.heap.objs.size f cdv)) → ∃ t, DPN ((cxOf CX0 P w K mg base N qual (defScope st) f cdv A outer s H E).nox) m e t dn) :
    FnG P w K mg base CX0 (k + 1) f fd ps (dspN K (RofN N ps.length dn)) := by
  refine g_def F S (fun vs H Q E h => ?_) (fun cdv A outer s H vs Q E hr hgd h => ?_)
  · obtain ⟨m, xs, _, _, ha, Pq, hR, _⟩ := h
    rw [ha.length]
    exact hR.1
  · obtain ⟨m, xs, e0, hbs, ha, Pq, ⟨hlen, hds⟩, hQ⟩ := h
    obtain ⟨t, ht⟩ := hb m cdv A outer s H E ⟨hr, hgd⟩
    have er : ER K m (L2.start N vs) H (startD N xs) [] [] := by
      refine ⟨hbs, ?_, List.nodup_nil, fun a z => (nomatch z)⟩
      unfold L2.start startD
      rw [ha.length]
      exact Slots.start (fun a o q => by
        obtain ⟨h1, h2⟩ := hid_some.mp q
        exact hid_some.mpr ⟨hS_false.mpr ⟨h1, fun z => nomatch z⟩, h2⟩) _ ha
    have hp : PSs ((cxOf CX0 P w K mg base N qual (defScope st) f cdv A outer s H E).nox) (defBody st) (tRet t) := by
      rw [hbody]
      exact pss_one (ps_ret ht.pe)
    refine ⟨tRet t, hp.nox, ht.rn.run er hds fun H' v ys fp e1 hf er1 ow hy => ?_⟩
    obtain ⟨ds, ed, hq⟩ := hy
    obtain ⟨q, us, fq, rfl, rfl, hpq, hall⟩ := ow.lst_inv
    obtain ⟨ra, efq⟩ := OwnAll.ovs hall ed
    subst efq
    refine hQ ds hq H' q us (by rw [← e0] at e1 ⊢; exact e1) er1.base.pot (hf q List.mem_cons_self) hpq (RepAll.mono (fun a o z => ?_) _ _ ra)
    obtain ⟨z1, z2⟩ := hid_some.mp z
    have z3 := hS_false.mp z1
    refine hid_some.mpr ⟨?_, z2⟩
    rw [z3.1, Bool.false_or]
    exact decide_eq_false fun y => z3.2 (by rw [y]; exact List.mem_cons_self)
theorem ER.add {K : PySem.W.Frag} {m : Am} {σ : L2.St} {H H' : Hp} {ρ : DEnv} {F T : List Addr} (er : ER K m σ H ρ F T) (e : Ext m.P H H') (hp : PotOk m.P H') {p : Addr} (hn : H p = none) (hs : H' p ≠ none) : ER K m σ H' ρ F (T ++ [p]) := by
  have er2 := er.step e hp
  have hpn : p ∉ F ++ T := fun z => (er.fresh p z).2 hn
  refine ⟨er2.base, er.slots.same (Bh.go er.base e fun a ha => ?_) (fun a ha => er.keepF e (List.mem_append_left _ ha)), ?_, fun a ha => ?_⟩
  · rw [← List.append_assoc] at ha
    rcases List.mem_append.mp ha with z | z
    · exact .inl z
    · exact .inr (by rw [List.mem_singleton.mp z]; exact hn)
  · rw [← List.append_assoc]
    exact List.nodup_append.mpr ⟨er.nd, List.nodup_cons.mpr ⟨List.not_mem_nil, List.nodup_nil⟩, fun a ha b hb e => hpn (by rw [← List.mem_singleton.mp hb, ← e]; exact ha)⟩
  · rw [← List.append_assoc] at ha
    rcases List.mem_append.mp ha with z | z
    · exact er2.fresh a z
    · rw [List.mem_singleton.mp z]
      exact ⟨er.base.h0 hn, hs⟩
def dCallN (R : DFN) (da : DA) : DN := fun ρ Q => da ρ fun xs => xs.all argOk = true ∧ ∃ Pq : List PyData → Prop, R xs Pq ∧ ∀ ys, Pq ys → Q (ys.map OV.d)
section
variable {X : Cx} {m : Am} {e : Expr} {es : List Expr} {pos p : Pos} {ua : TA} {va : DA}
theorem n_call {k : Nat} {f : Addr} {fd : FuncData} {ps : List Str} {R : DFN} {x : Str} (G : FnG X.prog X.w X.K X.mg X.base CX0 k f fd ps (dspN X.K R)) (hr : Rm k X.A) (hg : Gl X x) (hm : X.mg x = some (.ref f)) (hk : PySem.W.keepIn X.K (.ref f) = true) (hb : Binds X.K fd ps [])
    (ha : DPA X m (e :: es) ua va) (hdb : (x == ("__debug__" : Str)) = false := by decide) (he : starEach (e :: es) X.env = (false, eval e X.env) :: starEach es X.env := by rfl) (hpl : (backTo pos (starEach es X.env)).any (·.1) = false := by rfl) :
    DPN X m (.Call (.Name x p) (e :: es) [] pos) (tCall (dspN X.K R) [] E0 ua) (dCallN R va) := ⟨g_call G hr.room hr.gd hg hm hk hb .nil pass0 ha.pa hdb he hpl, ⟨fun {σ H ρ F T Q dQ} er hq kk => ha.ra.run er hq fun H1 vs xs e1 er1 vxs h1 => by
  rw [List.append_nil]
  obtain ⟨ok, Pq, h, hp⟩ := h1
  refine ⟨⟨m.P, hS m (F ++ T), H1⟩, xs, rfl, er1.callee, ArgsR.ofVRs vxs ok, Pq, h, fun ys hy H2 q us e2 po hn hs ra => ?_⟩
  have er2 := er1.add e2 po hn (by rw [hs]; exact fun z => nomatch z)
  refine kk H2 (.ref q) _ [q] (e1.trans e2) (fun a ha => by rw [List.mem_singleton.mp ha]; exact Ext.back er1.base.pot e1 hn) er2 (.lst hs (OwnAll.plain (RepAll.mono (fun a o z => ?_) _ _ ra))) (hp ys hy)
  obtain ⟨z1, z2⟩ := hid_some.mp z
  have z1' : ((m.S a || decide (a ∈ F ++ T)) || decide (a = q)) = false := z1
  rw [Bool.or_eq_false_iff, Bool.or_eq_false_iff] at z1'
  refine hid_some.mpr ⟨hS_false.mpr ⟨z1'.1.1, fun y => ?_⟩, z2⟩
  rw [← List.append_assoc] at y
  rcases List.mem_append.mp y with y | y
  · exact of_decide_eq_false z1'.1.2 y
  · exact of_decide_eq_false z1'.2 (List.mem_singleton.mp y)⟩⟩
end
/-! ### they compute -/
class EvFN (R : DFN) (c : outParam (List OV → Option (List PyData))) : Prop where
  ev : ∀ {xs r Q}, c xs = some r → Q r → R xs Q
def cXN (a : CN) : CE := fun ρ => (a ρ).map .lst
instance {dn : DN} {cn : CN} [h : EvN dn cn] : EvE (dXN dn) (cXN cn) := ⟨fun {ρ x Q} e q => by
  obtain ⟨xs, e1, rfl⟩ := om e
  exact h.ev e1 q⟩
def cXC (b : Bool) : CE := fun _ => some (mkC b [])
instance {b : Bool} : EvE (dXC b) (cXC b) := ⟨fun {ρ x Q} e q => by
  cases e
  exact q⟩
def cXC1 (a b : CE) : CE := fun ρ => (a ρ).bind fun x => (b ρ).bind fun y => match x, y with
  | .d k, .d v => if keyOk false k = true then some (.dic [(k, v)]) else none
  | _, _ => none
instance {da db : DE} {ca cb : CE} [h : EvE da ca] [h' : EvE db cb] : EvE (dXC1 da db) (cXC1 ca cb) := ⟨fun {ρ x Q} e q => by
  obtain ⟨x1, e1, e⟩ := ob e
  obtain ⟨x2, e2, e⟩ := ob e
  refine h.ev e1 (h'.ev e2 ?_)
  split at e
  · obtain ⟨ok, e⟩ := oi e
    cases e
    exact ⟨ok, q⟩
  · cases e⟩
def cConsX (a : CE) (r : CN) : CN := fun ρ => (a ρ).bind fun x => (r ρ).map fun xs => x :: xs
instance {da : DE} {dr : DA} {ca : CE} {cr : CN} [h : EvE da ca] [h' : EvA dr cr] : EvA (dConsX da dr) (cConsX ca cr) := ⟨fun {ρ x Q} e q => by
  obtain ⟨c, e1, e⟩ := ob e
  obtain ⟨r, e2, rfl⟩ := om e
  exact h.ev e1 (h'.ev e2 q)⟩
def cSetX (i : Nat) (a : CE) : CS := fun ρ => (a ρ).map fun x => .nx (ρ.set i (some x))
instance {i : Nat} {da : DE} {ca : CE} [h : EvE da ca] : EvS (dSetX i da) (cSetX i ca) := ⟨fun {ρ o D} e q => by
  obtain ⟨x, e1, rfl⟩ := om e
  exact h.ev e1 q⟩
def cPop (i r : Nat) : CS := fun ρ => match getL ρ r with
  | some xs => (match xs[xs.length - 1]? with
    | some (.d y) => some (.nx ((ρ.set r (some (.lst xs.dropLast))).set i (some (.d y))))
    | _ => none)
  | none => none
instance {i r : Nat} : EvS (dPop i r) (cPop i r) := ⟨fun {ρ o D} e q => by
  unfold cPop at e
  unfold dPop
  split at e
  · split at e
    · cases e
      exact ⟨_, ‹_›, q⟩
    · cases e
  · cases e⟩
def cRofN (N : List Str) (n : Nat) (cn : CN) : List OV → Option (List PyData) := fun xs => if xs.length = n then (cn (startD N xs)).bind ovs else none
instance {N : List Str} {n : Nat} {dn : DN} {cn : CN} [h : EvN dn cn] : EvFN (RofN N n dn) (cRofN N n cn) := ⟨fun {xs r Q} e q => by
  obtain ⟨hl, e⟩ := oi e
  obtain ⟨ys, e1, e2⟩ := ob e
  exact ⟨hl, h.ev e1 ⟨r, e2, q⟩⟩⟩
def cCallN (c : List OV → Option (List PyData)) (a : CN) : CN := fun ρ => (a ρ).bind fun xs => if xs.all argOk = true then (c xs).map fun ys => ys.map OV.d else none
instance {R : DFN} {c : List OV → Option (List PyData)} {da : DA} {ca : CN} [h : EvFN R c] [h' : EvA da ca] : EvN (dCallN R da) (cCallN c ca) := ⟨fun {ρ x Q} e q => by
  obtain ⟨xs, e1, e⟩ := ob e
  obtain ⟨ok, e⟩ := oi e
  obtain ⟨ys, e2, rfl⟩ := om e
  exact h'.ev e1 ⟨ok, fun zs => zs = ys, h.ev e2 rfl, fun zs ez => by rw [ez]; exact q⟩⟩
end DL

/-! ==== DLR5 ==== -/
set_option Elab.async false
set_option linter.all false
set_option maxRecDepth 100000
set_option maxHeartbeats 4000000
/-! sorted, min -/
namespace DL
open PySem PySem.Spec PyProof.Rows L2
/-! ### order of rows of ints -/
def lexI : List Int → List Int → Bool
  | _, [] => false
  | [], _ :: _ => true
  | x :: xs, y :: ys => if x = y then lexI xs ys else decide (x < y)
theorem lexI_eq : ∀ xs ys : List Int, lexI xs ys = decide (xs < ys)
  | [], [] => by simp [lexI]
  | _ :: _, [] => by simp [lexI]
  | [], _ :: _ => by simp [lexI]
  | x :: xs, y :: ys => by
    show (if x = y then lexI xs ys else decide (x < y)) = _
    rw [lexI_eq xs ys]
    by_cases e : x = y
    · subst e
      simp
    · simp [e, List.cons_lt_cons_iff]
def intsOf : List PyData → Option (List Int)
  | [] => some []
  | .int i :: r => (intsOf r).map (i :: ·)
  | _ :: _ => none
theorem intsOf_ok : ∀ {ds : List PyData} {ns : List Int}, intsOf ds = some ns → ds = ns.map PyData.int
  | [], _, h => by
    cases h
    rfl
  | .int i :: r, _, h => by
    obtain ⟨ns, e, rfl⟩ := om h
    rw [intsOf_ok e]
    rfl
  | .none :: _, _, h => nomatch h
  | .bool _ :: _, _, h => nomatch h
  | .str _ :: _, _, h => nomatch h
  | .list _ :: _, _, h => nomatch h
  | .tuple _ :: _, _, h => nomatch h
  | .dict _ :: _, _, h => nomatch h
theorem intsOf_map : ∀ ns : List Int, intsOf (ns.map PyData.int) = some ns
  | [] => rfl
  | n :: ns => by
    show (intsOf (ns.map PyData.int)).map (n :: ·) = _
    rw [intsOf_map ns]
    rfl
/-- the key of what may be sorted: 0 ints, 1 tuples of ints (not empty), 2 pairs of an int and a tuple of ints -/
def keyI : Nat → PyData → Option (List Int)
  | 0, .int i => some [i]
  | 1, .tuple (.int i :: r) => (intsOf r).map (i :: ·)
  | 2, .tuple [.int i, .tuple r] => (intsOf r).map (i :: ·)
  | _, _ => none
theorem alike_ints2 (xs ys : List Int) : PySem.W.alikeAll (xs.map .int) (ys.map .int) = true := PySem.W.alike_ints xs ys
theorem keyI_1 {d : PyData} {ks : List Int} (h : keyI 1 d = some ks) : ∃ i r, d = .tuple (.int i :: r.map .int) ∧ ks = i :: r := by
  unfold keyI at h
  split at h
  · rename_i e
    cases e
  · obtain ⟨ns, e, rfl⟩ := om h
    exact ⟨_, ns, by rw [intsOf_ok e], rfl⟩
  · rename_i e
    cases e
  · cases h
theorem keyI_2 {d : PyData} {ks : List Int} (h : keyI 2 d = some ks) : ∃ i r, d = .tuple [.int i, .tuple (r.map .int)] ∧ ks = i :: r := by
  unfold keyI at h
  split at h
  · rename_i e
    cases e
  · rename_i e
    cases e
  · obtain ⟨ns, e, rfl⟩ := om h
    exact ⟨_, ns, by rw [intsOf_ok e], rfl⟩
  · cases h
theorem keyI_0 {d : PyData} {ks : List Int} (h : keyI 0 d = some ks) : ∃ i, d = .int i ∧ ks = [i] := by
  unfold keyI at h
  split at h
  · cases h
    exact ⟨_, rfl, rfl⟩
  · rename_i e
    cases e
  · rename_i e
    cases e
  · cases h
theorem keyI_k {k : Nat} {d : PyData} {ks : List Int} (h : keyI k d = some ks) : k = 0 ∨ k = 1 ∨ k = 2 := by
  unfold keyI at h
  split at h
  · exact .inl rfl
  · exact .inr (.inl rfl)
  · exact .inr (.inr rfl)
  · cases h
theorem eqv_int (x y : Int) : PyData.eqv (.int x) (.int y) = decide (x = y) := by
  simp only [PyData.eqv]
  by_cases e : x = y
  · subst e
    simp
  · simp [e]
theorem eqvAll_ints : ∀ xs ys : List Int, PyData.eqvAll (xs.map .int) (ys.map .int) = decide (xs = ys)
  | [], [] => by simp [PyData.eqvAll]
  | [], _ :: _ => by simp [PyData.eqvAll]
  | _ :: _, [] => by simp [PyData.eqvAll]
  | x :: xs, y :: ys => by
    rw [List.map_cons, List.map_cons, PyData.eqvAll, eqv_int, eqvAll_ints xs ys]
    by_cases e : x = y
    · subst e
      by_cases e2 : xs = ys
      · subst e2
        simp
      · simp [e2]
    · simp [e]
theorem eqv_tints (xs ys : List Int) : PyData.eqv (.tuple (xs.map .int)) (.tuple (ys.map .int)) = decide (xs = ys) := by
  simp only [PyData.eqv]
  exact eqvAll_ints xs ys
theorem lexI_irr : ∀ xs : List Int, lexI xs xs = false
  | [] => rfl
  | x :: xs => by
    show (if x = x then lexI xs xs else decide (x < x)) = false
    rw [if_pos rfl]
    exact lexI_irr xs
theorem lt_kinds {k : Nat} {d e : PyData} {ks ls : List Int} (h1 : keyI k d = some ks) (h2 : keyI k e = some ls) : PySem.W.alike d e = true ∧ PySem.W.dataLt d e = lexI ks ls := by
  rcases keyI_k h1 with rfl | rfl | rfl
  · obtain ⟨i, rfl, rfl⟩ := keyI_0 h1
    obtain ⟨j, rfl, rfl⟩ := keyI_0 h2
    refine ⟨by simp only [PySem.W.alike], ?_⟩
    rw [PySem.W.dataLt_int]
    show _ = (if i = j then false else decide (i < j))
    by_cases c : i = j
    · subst c
      simp
    · simp [c]
  · obtain ⟨i, r, rfl, rfl⟩ := keyI_1 h1
    obtain ⟨j, t, rfl, rfl⟩ := keyI_1 h2
    refine ⟨?_, ?_⟩
    · have q := alike_ints2 (i :: r) (j :: t)
      simp only [PySem.W.alike]
      exact q
    · rw [PySem.W.dataLt_tuple]
      have q := PySem.W.dataLt_ints (i :: r) (j :: t)
      unfold PySem.W.rowLt at q
      rw [lexI_eq]
      exact q
  · obtain ⟨i, r, rfl, rfl⟩ := keyI_2 h1
    obtain ⟨j, t, rfl, rfl⟩ := keyI_2 h2
    have a1 : PySem.W.alike (.int i) (.int j) = true := by simp only [PySem.W.alike]
    have a2 : PySem.W.alike (.tuple (r.map .int)) (.tuple (t.map .int)) = true := by
      have q := alike_ints2 r t
      simp only [PySem.W.alike]
      exact q
    refine ⟨by simp only [PySem.W.alike, PySem.W.alikeAll, Bool.and_true, Bool.true_and]; exact alike_ints2 r t, ?_⟩
    rw [PySem.W.dataLt_pair a1 a2, eqv_int, eqv_tints, PySem.W.dataLt_int, PySem.W.dataLt_tuple]
    have q := PySem.W.dataLt_ints r t
    unfold PySem.W.rowLt at q
    rw [q, ← lexI_eq]
    show _ = (if i = j then lexI r t else decide (i < j))
    by_cases c : i = j
    · rw [if_pos (decide_eq_true c), if_pos c]
      by_cases c2 : r = t
      · subst c2
        rw [if_pos (decide_eq_true rfl), lexI_irr]
      · rw [if_neg (by simp [c2])]
    · rw [if_neg (by simp [c]), if_neg c]
/-! ### insertion -/
section
variable {α : Type} (le : α → α → Bool)
def insS (a : α) : List α → List α
  | [] => [a]
  | b :: r => if le a b = true then a :: b :: r else b :: insS a r
def isortS : List α → List α
  | [] => []
  | a :: r => insS le a (isortS r)
theorem insS_at (a : α) : ∀ (l₁ l₂ : List α), (∀ b ∈ l₁, le a b = false) → (∀ b ∈ l₂, le a b = true) → insS le a (l₁ ++ l₂) = l₁ ++ a :: l₂
  | [], [], _, _ => rfl
  | [], b :: r, _, h => by
    show (if le a b = true then a :: b :: r else b :: insS le a r) = _
    rw [if_pos (h b List.mem_cons_self)]
    rfl
  | b :: l₁, l₂, h1, h2 => by
    show (if le a b = true then a :: b :: (l₁ ++ l₂) else b :: insS le a (l₁ ++ l₂)) = _
    rw [if_neg (by rw [h1 b List.mem_cons_self]; exact Bool.false_ne_true), insS_at a l₁ l₂ (fun c hc => h1 c (List.mem_cons_of_mem _ hc)) h2]
    rfl
theorem msort_isort (tr : ∀ a b c, le a b = true → le b c = true → le a c = true) (to : ∀ a b, (le a b || le b a) = true) : ∀ l : List α, l.mergeSort le = isortS le l
  | [] => by simp [isortS]
  | a :: l => by
    obtain ⟨l₁, l₂, e1, e2, h1⟩ := List.mergeSort_cons (le := le) tr to a l
    have s := List.pairwise_mergeSort (le := le) tr to (a :: l)
    rw [e1] at s
    have h2 : ∀ b ∈ l₂, le a b = true := fun b hb => (List.pairwise_cons.mp (List.pairwise_append.mp s).2.1).1 b hb
    rw [e1]
    show _ = insS le a (isortS le l)
    rw [← msort_isort tr to l, e2, insS_at le a l₁ l₂ (fun b hb => by have := h1 b hb; simpa using this) h2]
theorem perm_insS (a : α) : ∀ l : List α, (insS le a l).Perm (a :: l)
  | [] => List.Perm.refl _
  | b :: r => by
    show (if le a b = true then a :: b :: r else b :: insS le a r).Perm _
    split
    · exact List.Perm.refl _
    · exact ((perm_insS a r).cons b).trans (List.Perm.swap a b r)
theorem perm_isortS : ∀ l : List α, (isortS le l).Perm l
  | [] => List.Perm.refl _
  | a :: l => (perm_insS le a _).trans ((perm_isortS l).cons a)
end
/-- not above -/
def leD (k : Nat) (d e : PyData) : Bool := !lexI ((keyI k e).getD []) ((keyI k d).getD [])
theorem leI_tr (xs ys zs : List Int) (h1 : lexI ys xs = false) (h2 : lexI zs ys = false) : lexI zs xs = false := by
  rw [lexI_eq, decide_eq_false_iff_not, List.not_lt] at *
  exact List.le_trans h1 h2
theorem leI_to (xs ys : List Int) : lexI ys xs = false ∨ lexI xs ys = false := by
  rw [lexI_eq, lexI_eq, decide_eq_false_iff_not, decide_eq_false_iff_not, List.not_lt, List.not_lt]
  exact List.le_total xs ys
def sortD (k : Nat) (ds : List PyData) : List PyData := isortS (leD k) ds
theorem sortD_eq {k : Nat} {ds : List PyData} (h : ∀ d ∈ ds, (keyI k d).isSome = true) : ds.mergeSort (PySem.W.dataLe false id) = sortD k ds := by
  have e : ds.mergeSort (PySem.W.dataLe false id) = ds.mergeSort (leD k) := PySem.W.sort_congr fun a ha b hb => by
    obtain ⟨ks, e1⟩ := Option.isSome_iff_exists.mp (h a ha)
    obtain ⟨ls, e2⟩ := Option.isSome_iff_exists.mp (h b hb)
    show (!PySem.W.dataLt b a) = !lexI ((keyI k b).getD []) ((keyI k a).getD [])
    rw [(lt_kinds e2 e1).2, e1, e2]
    rfl
  rw [e]
  exact msort_isort _ (fun a b c h1 h2 => by
    unfold leD at *
    rw [Bool.not_eq_true'] at *
    exact leI_tr _ _ _ h1 h2) (fun a b => by
    unfold leD
    rcases leI_to ((keyI k a).getD []) ((keyI k b).getD []) with z | z
    · rw [z]
      rfl
    · rw [z, Bool.not_false, Bool.or_true]) ds
/-! ### sorted(a list) -/
def rSortA (K : PySem.W.Frag) : List V → Hp → VK → Prop := fun vs H Q => ∃ (a : Addr) (zs : List (V × PyData)), vs = [V.ref a] ∧ SqL K H a (zs.map (·.1)) ∧ (∀ z ∈ zs, Dp K H z.1 z.2) ∧
  PySem.W.AllAlike (zs.map (·.2)) ∧ PySem.W.Sortable (zs.map (·.2)) ∧ (∀ z ∈ zs, z.2.depth ≤ 8) ∧ ∀ p, H p = none → Q (.ref p) (upd H p (.lst ((zs.mergeSort (PySem.W.dataLe false (·.2))).map (·.1))))
theorem vals_each : ∀ {vs : List V} {us : List Value}, Vals vs us → ∀ {zs : List (V × PyData)}, zs.map (·.1) = vs → PySem.W.EachIs (fun u (z : V × PyData) => RelV z.1 u) us zs
  | _, _, .nil, [], _ => .nil
  | _, _, .cons r t, z :: zs, e => by
    have e1 := List.cons.inj e
    have e0 : z.1 = _ := e1.1
    exact .cons (by rw [e0]; exact r) (vals_each t e1.2)
  | _, _, .cons _ _, [], e => nomatch e
  | _, _, .nil, _ :: _, e => nomatch e
theorem each_vals : ∀ {us : List Value} {zs : List (V × PyData)}, PySem.W.EachIs (fun u (z : V × PyData) => RelV z.1 u) us zs → Vals (zs.map (·.1)) us
  | _, _, .nil => .nil
  | _, _, .cons r t => .cons r (each_vals t)
theorem each_mem {R R' : Value → (V × PyData) → Prop} : ∀ {us : List Value} {zs : List (V × PyData)}, PySem.W.EachIs R us zs → (∀ u z, z ∈ zs → R u z → R' u z) → PySem.W.EachIs R' us zs
  | _, _, .nil, _ => .nil
  | _, _, .cons r t, h => .cons (h _ _ List.mem_cons_self r) (each_mem t fun u z hz => h u z (List.mem_cons_of_mem _ hz))
theorem cr_sortA {X : Cx} {n : Nat} (hr : Rm n X.A) : CallR X (.builtin "sorted") (rSortA X.K) := by
  intro pins s σ H vs us Q I r h
  obtain ⟨a, zs, rfl, hs, hd, hal, hk, hdp, q⟩ := h
  obtain ⟨its, rv, hl, hz⟩ := I.list hs
  rw [Vals.ref1 r]
  have e := vals_each rv rfl
  have er : PySem.W.EachIs (fun v (z : V × PyData) => ∃ as, Reads s.heap v z.2 as) its zs := each_mem e fun u z hm ru => Dp.reads I z.2 z.1 u (hd z hm) ru
  have hu := hr.room.units
  refine PySem.W.sorted_data (enc := fun z : V × PyData => z.2) hl.isList e er hal hk (by rw [List.length_map] at hz; exact hz) (fun z hm => by have := hdp z hm; show X.A.units + 2 + z.2.depth < cLine; omega) fun out hlen hout => ?_
  obtain ⟨ep, he'⟩ := PyProof.Rows.sortedAll_at s.heap its out.toArray
  refine ⟨.ref _, upd H (s.heap.objs.size + 1) (.lst ((zs.mergeSort (PySem.W.dataLe false fun z : V × PyData => z.2)).map (·.1))), I.laid (t' := s.toks) (fun _ _ => PyProof.Rows.sortedAll_old) (Nat.le_succ _) ⟨?_, out, ep, each_vals hout, he'⟩, rfl, q _ (I.hok.fresh (Nat.le_succ _))⟩
  rw [List.length_map, List.length_mergeSort]
  rw [List.length_map] at hz
  exact hz
def sortOk (k : Nat) (ds : List PyData) : Bool := ds.all fun d => (keyI k d).isSome
def dSorted : DF := fun xs Q => match xs with
  | [x] => ∃ k ds, asList x = some ds ∧ sortOk k ds = true ∧ Q (.list (sortD k ds))
  | _ => False
theorem key_has {k : Nat} {d : PyData} (h : (keyI k d).isSome = true) : d.hasDict = false ∧ d.depth ≤ 8 := by
  obtain ⟨ks, e⟩ := Option.isSome_iff_exists.mp h
  have hi : ∀ ns : List Int, PyData.hasDictAll (ns.map .int) = false := fun ns => by
    induction ns with
    | nil => simp [PyData.hasDictAll]
    | cons n ns ih => simp [PyData.hasDictAll, PyData.hasDict, ih]
  have hd : ∀ ns : List Int, PyData.depthAll (ns.map .int) = 0 := PySem.W.depth_ints
  rcases keyI_k e with rfl | rfl | rfl
  · obtain ⟨i, rfl, rfl⟩ := keyI_0 e
    exact ⟨by simp [PyData.hasDict], by simp [PyData.depth]⟩
  · obtain ⟨i, r, rfl, rfl⟩ := keyI_1 e
    have h1 := hi (i :: r)
    have h2 := hd (i :: r)
    rw [List.map_cons] at h1 h2
    exact ⟨by simp only [PyData.hasDict]; exact h1, by simp only [PyData.depth, h2]; decide⟩
  · obtain ⟨i, r, rfl, rfl⟩ := keyI_2 e
    exact ⟨by simp [PyData.hasDict, PyData.hasDictAll, hi], by simp [PyData.depth, PyData.depthAll, hd]⟩
theorem zip_fst {α β : Type} : ∀ (xs : List α) (ys : List β), xs.length = ys.length → (xs.zip ys).map (·.1) = xs
  | [], [], _ => rfl
  | x :: xs, y :: ys, h => by
    rw [List.zip_cons_cons, List.map_cons, zip_fst xs ys (Nat.succ.inj h)]
  | [], _ :: _, h => nomatch h
  | _ :: _, [], h => nomatch h
theorem zip_snd {α β : Type} : ∀ (xs : List α) (ys : List β), xs.length = ys.length → (xs.zip ys).map (·.2) = ys
  | [], [], _ => rfl
  | x :: xs, y :: ys, h => by
    rw [List.zip_cons_cons, List.map_cons, zip_snd xs ys (Nat.succ.inj h)]
  | [], _ :: _, h => nomatch h
  | _ :: _, [], h => nomatch h
theorem RepAll.zip {K : PySem.W.Frag} {B : Hp} : ∀ {vs : List V} {ds : List PyData}, RepAll K B vs ds → ∀ z ∈ vs.zip ds, Rep K B z.1 z.2
  | _, _, .nil, _, h => nomatch h
  | _, _, .cons r t, z, h => by
    rw [List.zip_cons_cons] at h
    rcases List.mem_cons.mp h with e | h
    · rw [e]
      exact r
    · exact RepAll.zip t z h
theorem RepAll.unzip {K : PySem.W.Frag} {B : Hp} : ∀ {zs : List (V × PyData)}, (∀ z ∈ zs, Rep K B z.1 z.2) → RepAll K B (zs.map (·.1)) (zs.map (·.2))
  | [], _ => .nil
  | z :: zs, h => .cons (h z List.mem_cons_self) (RepAll.unzip fun y hy => h y (List.mem_cons_of_mem _ hy))
section
variable {m : Am}
theorem rc_sorted {K : PySem.W.Frag} : RCD K m (rSortA K) dSorted := ⟨fun {σ H ρ F T vs xs Q dQ} er vxs h kk => by
  unfold dSorted at h
  split at h
  · obtain ⟨v, rfl, vx⟩ := vxs.one
    obtain ⟨k, ds, ea, ok, h⟩ := h
    obtain ⟨a, us, rfl, ha, ra⟩ := vx.list ea
    have ok' : ∀ d ∈ ds, (keyI k d).isSome = true := List.all_eq_true.mp ok
    have l := ra.length
    have z1 := zip_fst us ds l
    have z2 := zip_snd us ds l
    have hz := ra.zip
    have md : ∀ z ∈ us.zip ds, z.2 ∈ ds := fun z hm => by
      rw [← z2]
      exact List.mem_map_of_mem hm
    refine ⟨a, us.zip ds, rfl, by rw [z1]; exact SqL.of ha, fun z hm => Rep.dp _ _ (key_has (ok' _ (md z hm))).1 (Rep.mono Ex.ofBh _ _ (hz z hm)), ?_, ?_, fun z hm => (key_has (ok' _ (md z hm))).2, fun p hp => ?_⟩
    · rw [z2]
      intro d hd e he
      obtain ⟨ks, e1⟩ := Option.isSome_iff_exists.mp (ok' d hd)
      obtain ⟨ls, e2⟩ := Option.isSome_iff_exists.mp (ok' e he)
      exact (lt_kinds e1 e2).1
    · rw [z2]
      cases ds with
      | nil => exact .inl fun d hd => nomatch hd
      | cons d0 dr =>
        obtain ⟨k0, e0⟩ := Option.isSome_iff_exists.mp (ok' d0 List.mem_cons_self)
        rcases keyI_k e0 with rfl | rfl | rfl
        · refine .inr fun d hd => ?_
          obtain ⟨ks, e1⟩ := Option.isSome_iff_exists.mp (ok' d hd)
          obtain ⟨i, rfl, _⟩ := keyI_0 e1
          exact ⟨(fun z => nomatch z), (fun _ z => nomatch z)⟩
        · refine .inl fun d hd => ?_
          obtain ⟨ks, e1⟩ := Option.isSome_iff_exists.mp (ok' d hd)
          obtain ⟨i, r, rfl, _⟩ := keyI_1 e1
          exact ⟨_, _, rfl⟩
        · refine .inl fun d hd => ?_
          obtain ⟨ks, e1⟩ := Option.isSome_iff_exists.mp (ok' d hd)
          obtain ⟨i, r, rfl, _⟩ := keyI_2 e1
          exact ⟨_, _, rfl⟩
    · have e : ((us.zip ds).mergeSort (PySem.W.dataLe false (·.2))).map (·.2) = sortD k ds := by
        have q := PySem.W.sort_maps (r := PySem.W.dataLe false fun z : V × PyData => z.2) (s := PySem.W.dataLe false (id : PyData → PyData)) (fun z : V × PyData => z.2) (l := us.zip ds) (fun a _ b _ => rfl)
        rw [z2] at q
        exact q.trans (sortD_eq ok')
      have hz' : ∀ z ∈ (us.zip ds).mergeSort (PySem.W.dataLe false (·.2)), Rep K (Bh m (F ++ T) H) z.1 z.2 := fun z hm => hz z (List.mem_mergeSort.mp hm)
      have ru := RepAll.unzip hz'
      rw [e] at ru
      exact kk _ _ _ (Ext.new hp) (er.new hp) (.newL er hp ru) h
  · exact h.elim⟩
section
variable {X : Cx} {e : Expr} {p pos : Pos} {ua : TA} {va : DA}
theorem d_sorted {n : Nat} (hr : Rm n X.A) (hg : Gl X "sorted") (hm : X.mg "sorted" = none) (ha : DPA X m [e] ua va) (he : starEach [e] X.env = (false, eval e X.env) :: starEach [] X.env := by rfl) (hpl : (backTo pos (starEach [] X.env)).any (·.1) = false := by rfl) :
    DPE X m (.Call (.Name "sorted" p) [e] [] pos) (tCB (rSortA X.K) ua) (dCB dSorted va) := d_cb (cr_sortA hr) rc_sorted (by decide +kernel) hg hm ha (by decide) (by decide) he hpl
end
/-! ### sorted(a dict with int keys) -/
def keysI : List (PyData × PyData) → Option (List Int)
  | [] => some []
  | (.int i, _) :: r => (keysI r).map (i :: ·)
  | _ :: _ => none
def rSortDI : List V → Hp → VK → Prop := fun xs H Q => ∃ (a : Addr) (kvs : List (Key × V)) (ks : List Int), xs = [.ref a] ∧ Rd H a (.dK kvs) ∧ kvs.map (·.1) = ks.map Sum.inl ∧ ks.length < 64 ∧
    ∀ (ys : List Int) (p : Addr), ys.Perm ks → ys.Pairwise (· ≤ ·) → H p = none → Q (.ref p) (upd H p (.lst (ys.map V.int)))
def dSortDI : DF := fun xs Q => match xs with
  | [.dic ds] => ∃ ks, keysI ds = some ks ∧ ks.length < 64 ∧ Q (.list ((isortS (fun a b => decide (a ≤ b)) ks).map .int))
  | _ => False
theorem isort_uniq {ys ks : List Int} (h1 : ys.Perm ks) (h2 : ys.Pairwise (· ≤ ·)) : ys = isortS (fun a b => decide (a ≤ b)) ks := by
  have e := msort_isort (fun a b : Int => decide (a ≤ b)) (fun a b c x y => by simp at *; omega) (fun a b => by simp; omega) ks
  rw [← e]
  have s := List.pairwise_mergeSort (le := fun a b : Int => decide (a ≤ b)) (fun a b c x y => by simp at *; omega) (fun a b => by simp; omega) ks
  refine List.Perm.eq_of_pairwise (le := fun a b : Int => a ≤ b) (fun a b _ _ x y => Int.le_antisymm x y) h2 (s.imp fun h => of_decide_eq_true h) (h1.trans (List.mergeSort_perm _ _).symm)
theorem keysI_ok {K : PySem.W.Frag} {B : Hp} : ∀ {kvs : List (Key × V)} {ds : List (PyData × PyData)} {ks : List Int}, RepKV K B kvs ds → keysI ds = some ks → kvs.map (·.1) = ks.map Sum.inl
  | _, _, _, .nil, h => by
    cases h
    rfl
  | _, _, ks, .cons (k := .inl i) r t, h => by
    obtain ⟨ns, e, rfl⟩ := om (show (keysI _).map (i :: ·) = some ks from h)
    rw [List.map_cons, List.map_cons, keysI_ok t e]
  | _, _, _, .cons (k := .inr x) r t, h => nomatch h
theorem rc_sortDI {K : PySem.W.Frag} : RCD K m rSortDI dSortDI := ⟨fun {σ H ρ F T vs xs Q dQ} er vxs h kk => by
  unfold dSortDI at h
  split at h
  · obtain ⟨v, rfl, vx⟩ := vxs.one
    obtain ⟨ks, ek, hl, h⟩ := h
    obtain ⟨fp, ow, _⟩ := vx
    cases ow with
    | dic hp ha =>
      refine ⟨_, _, ks, rfl, .inl hp, keysI_ok ha ek, hl, fun ys p h1 h2 hn => ?_⟩
      rw [isort_uniq h1 h2]
      exact kk _ _ _ (Ext.new hn) (er.new hn) (.newL er hn (RepAll.ints _)) h
  · exact h.elim⟩
section
variable {X : Cx} {e : Expr} {p pos : Pos} {ua : TA} {va : DA}
theorem d_sortDI (hc : X.calm = true) (hg : Gl X "sorted") (hm : X.mg "sorted" = none) (ha : DPA X m [e] ua va) (he : starEach [e] X.env = (false, eval e X.env) :: starEach [] X.env := by rfl) (hpl : (backTo pos (starEach [] X.env)).any (·.1) = false := by rfl) :
    DPE X m (.Call (.Name "sorted" p) [e] [] pos) (tCB rSortDI ua) (dCB dSortDI va) := d_cb (call_sortedDI hc) rc_sortDI (by decide +kernel) hg hm ha (by decide) (by decide) he hpl
end
/-! ### min(a tuple of ints) -/
def rMinT (K : PySem.W.Frag) : List V → Hp → VK → Prop := fun vs H Q => ∃ (a : Addr) (ns : List Int), vs = [V.ref a] ∧ SqT K H a (ns.map V.int) ∧ ns ≠ [] ∧ ∀ z, z ∈ ns → (∀ y, y ∈ ns → z ≤ y) → Q (.int z) H
theorem cr_minT {X : Cx} (hc : X.calm = true) : CallR X (.builtin "min") (rMinT X.K) := by
  intro pins s σ H vs us Q I r h
  obtain ⟨a, ns, rfl, hs, hne, q⟩ := h
  obtain ⟨its, rv, hT, _⟩ := I.tuple hs
  rw [Vals.ref1 r]
  have pT : s.heap.IsTuple a its.toArray := hT
  have hlt : a < s.heap.objs.size := by
    obtain ⟨o, ho, _⟩ := id hT
    exact Heap.lt_size ho
  have hi : IntsAre its ns := rv.ints
  have hsz : its.toArray.size = ns.length := by rw [List.size_toArray]; exact hi.length
  have hpos : 0 < ns.length := List.length_pos_iff.mpr hne
  refine call_min_walk (wpAny_pyIter_tuple pT ⟨_, _, _, _, _, _, _, rfl, Walks.tuple (A := X.A.in1) (I.ok.hd hc) s.heap.objs.size a (Nat.ne_of_lt hlt) its.toArray, ⟨⟨_, Heap.get?_push_size _ rfl, rfl, rfl⟩, pT.push _⟩, fun b hb => ?_, by rw [hsz]; exact hpos,
    CmpOf.ints_lt (fun i => ns.getD i 0) (fun i v hv => PyProof.Rows.IntsAre.int_at hi i v (by simpa using hv)), fun v h' tk hP hk => ?_⟩)
  · show b < (s.heap.push _).objs.size
    rw [Heap.size_push]
    rcases List.mem_cons.mp hb with e | hb
    · rw [e]
      exact Nat.lt_succ_self _
    · rw [List.mem_singleton.mp hb]
      exact Nat.lt_succ_of_lt hlt
  · obtain ⟨t, ev⟩ := PyProof.Rows.IntsAre.int_at hi _ v (by rw [← List.getElem?_toArray]; exact hP)
    obtain ⟨b1, b2⟩ := argBest_lt (fun i => ns.getD i 0) (its.toArray.size - 1)
    have hb : argBest (fun i j => decide (ns.getD i 0 < ns.getD j 0)) (its.toArray.size - 1) < ns.length := by omega
    refine ⟨.int _, H, I.kept (t' := tk) fun b u e => hk b u (fun hmem => ?_) (Heap.get?_push_of_some _ e), ⟨t, ev⟩, q _ ?_ fun j hj => ?_⟩
    · have e1 : b = s.heap.objs.size := List.mem_singleton.mp hmem
      rw [e1] at e
      exact absurd (Heap.lt_size e) (Nat.lt_irrefl _)
    · rw [List.getD_eq_getElem?_getD, List.getElem?_eq_getElem hb]
      exact List.getElem_mem hb
    · obtain ⟨i, hi2, e⟩ := List.mem_iff_getElem.mp hj
      have e2 : ns.getD i 0 = j := by rw [List.getD_eq_getElem?_getD, List.getElem?_eq_getElem hi2, ← e] <;> rfl
      rw [← e2]
      exact b2 i (by omega)
def minI : List Int → Int
  | [] => 0
  | [a] => a
  | a :: r => min a (minI r)
theorem minI_mem : ∀ {ns : List Int}, ns ≠ [] → minI ns ∈ ns ∧ ∀ y ∈ ns, minI ns ≤ y
  | [], h => absurd rfl h
  | [a], _ => ⟨List.mem_cons_self, fun y hy => by rw [List.mem_singleton.mp hy]; exact Int.le_refl _⟩
  | a :: b :: r, _ => by
    obtain ⟨h1, h2⟩ := minI_mem (ns := b :: r) (by simp)
    show min a (minI (b :: r)) ∈ _ ∧ ∀ y ∈ _, min a (minI (b :: r)) ≤ y
    refine ⟨?_, fun y hy => ?_⟩
    · by_cases c : a ≤ minI (b :: r)
      · rw [Int.min_eq_left c]
        exact List.mem_cons_self
      · rw [Int.min_eq_right (by omega)]
        exact List.mem_cons_of_mem _ h1
    · rcases List.mem_cons.mp hy with e | hy
      · rw [e]
        exact Int.min_le_left _ _
      · exact Int.le_trans (Int.min_le_right _ _) (h2 y hy)
def dMinT : DF := fun xs Q => match xs with
  | [.d (.tuple ys)] => ∃ ns, ys = ns.map .int ∧ ns ≠ [] ∧ Q (.int (minI ns))
  | _ => False
theorem rc_minT {K : PySem.W.Frag} : RCD K m (rMinT K) dMinT := ⟨fun {σ H ρ F T vs xs Q dQ} er vxs h kk => by
  unfold dMinT at h
  split at h
  · obtain ⟨v, rfl, vx⟩ := vxs.one
    obtain ⟨ns, rfl, hne, h⟩ := h
    obtain ⟨a, us, rfl, ha, ra⟩ := vx.tuple
    rw [RepAll.to_ints ra] at ha
    refine ⟨a, ns, rfl, ha, hne, fun z hz hl => ?_⟩
    obtain ⟨h1, h2⟩ := minI_mem hne
    have e : z = minI ns := Int.le_antisymm (hl _ h1) (h2 _ hz)
    rw [e]
    exact kk _ _ _ (Ext.refl _ _) er (.ofInt _) h
  · exact h.elim⟩
section
variable {X : Cx} {e : Expr} {p pos : Pos} {ua : TA} {va : DA}
theorem d_minT (hc : X.calm = true) (hg : Gl X "min") (hm : X.mg "min" = none) (ha : DPA X m [e] ua va) (he : starEach [e] X.env = (false, eval e X.env) :: starEach [] X.env := by rfl) (hpl : (backTo pos (starEach [] X.env)).any (·.1) = false := by rfl) :
    DPE X m (.Call (.Name "min" p) [e] [] pos) (tCB (rMinT X.K) ua) (dCB dMinT va) := d_cb (cr_minT hc) rc_minT (by decide +kernel) hg hm ha (by decide) (by decide) he hpl
end
end
/-! ### they compute -/
def cSorted : CF := fun xs => match xs with
  | [x] => (asList x).bind fun ds => if sortOk 0 ds = true then some (.list (sortD 0 ds)) else if sortOk 1 ds = true then some (.list (sortD 1 ds)) else if sortOk 2 ds = true then some (.list (sortD 2 ds)) else none
  | _ => none
instance : EvF dSorted cSorted := ⟨fun {xs r Q} e q => by
  unfold cSorted at e
  split at e
  · obtain ⟨ds, e1, e⟩ := ob e
    split at e
    · cases e
      exact ⟨0, ds, e1, ‹_›, q⟩
    · split at e
      · cases e
        exact ⟨1, ds, e1, ‹_›, q⟩
      · split at e
        · cases e
          exact ⟨2, ds, e1, ‹_›, q⟩
        · cases e
  · cases e⟩
def cSortDI : CF := fun xs => match xs with
  | [.dic ds] => (keysI ds).bind fun ks => if ks.length < 64 then some (.list ((isortS (fun a b => decide (a ≤ b)) ks).map .int)) else none
  | _ => none
instance : EvF dSortDI cSortDI := ⟨fun {xs r Q} e q => by
  unfold cSortDI at e
  split at e
  · obtain ⟨ks, e1, e⟩ := ob e
    obtain ⟨h, e⟩ := oi e
    cases e
    exact ⟨ks, e1, h, q⟩
  · cases e⟩
def cMinT : CF := fun xs => match xs with
  | [.d (.tuple ys)] => (intsOf ys).bind fun ns => if ns ≠ [] then some (.int (minI ns)) else none
  | _ => none
instance : EvF dMinT cMinT := ⟨fun {xs r Q} e q => by
  unfold cMinT at e
  split at e
  · obtain ⟨ns, e1, e⟩ := ob e
    obtain ⟨h, e⟩ := oi e
    cases e
    exact ⟨ns, intsOf_ok e1, h, q⟩
  · cases e⟩
end DL

/-! ==== DLR6 ==== -/
set_option Elab.async false
set_option linter.all false
set_option maxRecDepth 100000
set_option maxHeartbeats 4000000
/-! set(a list of ints), sorted of it -/
namespace DLR
open PySem PySem.Spec PyProof.Rows L2
section
variable {P : Program} {w : World} {A : Around} {E : Value → Shared → Prop} {s : Shared}
/-- the set as it is made: nothing in it -/
abbrev set0 (w : World) : Obj := { cls := .type "set", dict := none, data := .set #[] 0 (.fresh 0 0 (!w.params.followText "set-order")) }
abbrev liI (h : Heap) (w : World) (l : Addr) : Heap := (h.push (set0 w)).push { cls := .type "list_iterator", data := .fields #[.ref l, .int 0 0] }
set_option maxHeartbeats 3200000 in
/-- what the set's own init does with a list of ints -/
theorem set_init_list {l : Addr} {items : Array Value} (ns : List Int) {R : Result → Shared → Prop} (hh : A.handled = none) (hl : s.heap.IsList l items) (hit : IntsAre items.toList ns) (hb : ns.length + 1 < scanBound)
    (h : ∀ (h' : Heap) (tk c : Nat), SetR w h' s.heap.objs.size (fun j => decide (j ∈ ns)) c → c ≤ ns.length → (∀ b o, s.heap.get? b = some o → h'.get? b = some o) → R (.ok (.ret .none)) { s with heap := h', toks := tk }) :
    codeAny (model P w) A (.call (.builtin "set.__init__") ⟨[.ref s.heap.objs.size, .ref l], []⟩) R { s with heap := s.heap.push (set0 w) } := by
  have n0 : items.size = ns.length := (Array.length_toList ..).symm.trans (IntsAre.length hit)
  have g0 : (s.heap.push (set0 w)).get? s.heap.objs.size = some (set0 w) := Heap.get?_push_size _ rfl
  have sz1 : (s.heap.push (set0 w)).objs.size = s.heap.objs.size + 1 := Heap.size_push ..
  have hT : Shared.TypeIs { s with heap := s.heap.push (set0 w) } (.ref s.heap.objs.size) "set" := ⟨_, g0, rfl⟩
  refine codeAny_call_builtin F.called_set.init.plain F.entry_set_init (check_set_init_1 hT ?_)
  obtain ⟨⟨oc, od, dt, osl⟩, hol, hcl, nl, hdl⟩ := hl
  cases (show oc = _ from hcl)
  cases (show dt = _ from hdl)
  have hlS : l < s.heap.objs.size := Heap.lt_size hol
  have hol' : (s.heap.push (set0 w)).get? l = some { cls := .type "list", dict := od, data := .seq items nl, slots := osl } := Heap.get?_push_of_some _ hol
  have isL : (s.heap.push (set0 w)).IsList l items := ⟨_, hol', rfl, nl, rfl⟩
  have f1 := F.sub_list_set
  have f2 := F.sub_list_frozenset
  have f3 : (Value.type "list" == Value.type "dict") = false := by decide
  unfold Builtin.«set.__init__» noKeywords Builtin.Frozenset.updateFrom
  generalize hPI : pyIter = PI
  wp_walk
  subst hPI
  refine wpAny_pyIter_list isL (wpAny_bind (wpAny_runValue ?_))
  have nI : l ≠ (s.heap.push (set0 w)).objs.size := by rw [sz1]; exact Nat.ne_of_lt (Nat.lt_succ_of_lt hlS)
  have vals : ∀ (i : Nat) (v : Value), items[i]? = some v → ∃ k t, ns[i]? = some k ∧ v = .int k t := fun i v hv => by
    have hi : i < ns.length := by rw [← n0]; exact (Array.getElem?_eq_some_iff.mp hv).1
    obtain ⟨t, e⟩ := PyProof.Rows.IntsAre.int_at hit i v (by rw [Array.getElem?_toList]; exact hv)
    exact ⟨ns[i], t, List.getElem?_eq_getElem hi, by rw [e, List.getD_eq_getElem?_getD, List.getElem?_eq_getElem hi] <;> rfl⟩
  have apart : s.heap.objs.size ∉ [(s.heap.push (set0 w)).objs.size, l] := by
    rw [sz1]
    intro z
    rcases List.mem_cons.mp z with z | z
    · exact Nat.ne_of_lt (Nat.lt_succ_self _) z
    · exact Nat.ne_of_gt hlS (List.mem_singleton.mp z)
  refine set_update_ints ((Walks.list (show A.in1.in1.handled = none by simp [hh]) _ l nI items).toS) s.heap.objs.size apart ns n0 hb vals (items.size - 0) 0 _ (by omega) (Nat.zero_le _)
    ⟨⟨_, Heap.get?_push_size _ rfl, rfl, rfl⟩, isL.push _⟩ ⟨0, Nat.le_refl 0, setR_new_at (show (liI s.heap w l).get? s.heap.objs.size = some (set0 w) from Heap.get?_push_of_some _ g0)⟩ ?_
  rintro ⟨h', g2, d', tk', os'⟩ c' hm hc' hS'
  obtain rfl : g2 = s.gens := hm.gens
  obtain rfl : d' = s.drawn := hm.drawn
  obtain rfl : os' = s.os := hm.os
  show wpAny _ _ _ _ _ _
  refine wpAny_pure ?_
  show wpAny _ _ (ret Value.none) _ _ _
  refine wpAny_pure (h h' tk' c' hS' (by omega) fun b o e => hm.heap b o ?_ (Heap.get?_push_of_some _ (Heap.get?_push_of_some _ e)))
  have hb0 := Heap.lt_size e
  rw [sz1]
  intro z
  rcases List.mem_cons.mp z with z | z
  · exact Nat.ne_of_lt hb0 z
  · exact Nat.ne_of_lt (Nat.lt_succ_of_lt hb0) (List.mem_singleton.mp z)
set_option maxHeartbeats 3200000 in
theorem call_set_listI {l : Addr} {items : Array Value} (ns : List Int) {Q : Value → Shared → Prop} (hh : A.handled = none) (hl : s.heap.IsList l items) (hit : IntsAre items.toList ns) (hb : ns.length + 1 < scanBound)
    (h : ∀ (h' : Heap) (tk c : Nat), SetR w h' s.heap.objs.size (fun j => decide (j ∈ ns)) c → c ≤ ns.length → (∀ b o, s.heap.get? b = some o → h'.get? b = some o) → Q (.ref s.heap.objs.size) { s with heap := h', toks := tk }) :
    wpAny (model P w) A (call (.type "set") [.ref l]) Q E s := by
  obtain ⟨c, tl, m1⟩ := F.called_set.mro
  have m2 := F.called_set.made
  have m3 := F.called_set.sub
  have m4 := F.called_set.notType
  have m5 := F.called_set.canCreate
  have m6 := F.typeCall_set_1 (.ref l)
  refine wpAny_call (codeAny_of_tree ?_)
  show wpAny _ _ (callAny (.type "set") _) _ _ _
  refine wpAny_pure ⟨Code.quiet_builtin _ (by decide +kernel), codeAny_builtin F.entry_type_call ?_⟩
  rw [Around.under_plain (weight_type_call_type "set" [.ref l] []) rfl]
  repeat (any_goals (first | assumption | wp_step))
  refine codeAny_mono (code_set_led1 (.ref l) (E := E) (Q₁ := fun obj s₁ => obj = .ref s.heap.objs.size ∧ s₁ = { s with heap := s.heap.push (set0 w) }) ⟨rfl, rfl⟩) fun r s₁ hr => ?_
  cases r with
  | error e => exact hr
  | ok fl =>
    cases fl with
    | ret obj =>
      obtain ⟨rfl, rfl⟩ := hr
      have g0 : (s.heap.push (set0 w)).get? s.heap.objs.size = some (set0 w) := Heap.get?_push_size _ rfl
      have hT : Shared.TypeIs { s with heap := s.heap.push (set0 w) } (.ref s.heap.objs.size) "set" := ⟨_, g0, rfl⟩
      have n1 := F.called_set.init.lookup
      have n2 := F.called_set.init.bind (.ref s.heap.objs.size)
      repeat (any_goals (first | assumption | wp_step))
      refine codeAny_mono (set_init_list (R := fun r s₂ => r = .ok (.ret .none) ∧ ∃ h' tk c, s₂ = { s with heap := h', toks := tk } ∧ SetR w h' s.heap.objs.size (fun j => decide (j ∈ ns)) c ∧ c ≤ ns.length ∧ ∀ b o, s.heap.get? b = some o → h'.get? b = some o) ns (by simp [hh]) hl hit hb fun h' tk c a1 a2 a3 => ⟨rfl, h', tk, c, rfl, a1, a2, a3⟩) fun r₂ s₂ hr₂ => ?_
      obtain ⟨rfl, h', tk, c, rfl, a1, a2, a3⟩ := hr₂
      repeat (any_goals (first | assumption | wp_step))
      exact h h' tk c a1 a2 a3
    | _ => exact hr.elim
end
end DLR

/-! ==== DLR7 ==== -/
set_option Elab.async false
set_option linter.all false
set_option maxRecDepth 100000
set_option maxHeartbeats 4000000
/-! sorted(set(xs)), xs a list of ints -/
namespace DL
open PySem PySem.Spec PyProof.Rows L2 DLR
def rSetI (K : PySem.W.Frag) (w : World) : List V → Hp → VK → Prop := fun vs H Q => ∃ (a : Addr) (ns : List Int), vs = [V.ref a] ∧ SqL K H a (ns.map V.int) ∧ ns.length < 60 ∧
  ∀ p c, c ≤ ns.length → H p = none → Q (.ref p) (upd H p (SetO w p (fun j => decide (j ∈ ns)) c))
theorem cr_setI {X : Cx} (hc : X.calm = true) : CallR X (.type "set") (rSetI X.K X.w) := by
  intro pins s σ H vs us Q I r h
  obtain ⟨a, ns, rfl, hs, hl, q⟩ := h
  obtain ⟨its, rv, pl, _⟩ := I.list hs
  rw [Vals.ref1 r]
  refine call_set_listI (P := X.prog) ns (I.ok.hd hc) pl.isList (by simpa using rv.ints) (by unfold scanBound; omega) fun h' tk c R hcl hk => ?_
  have hn : H s.heap.objs.size = none := I.hok.fresh (Nat.le_refl _)
  exact ⟨.ref s.heap.objs.size, upd H s.heap.objs.size (SetO X.w s.heap.objs.size (fun j => decide (j ∈ ns)) c), I.laid (t' := tk) hk (Nat.le_refl _) (setO_new R), rfl, q _ c hcl hn⟩
def insU (a : Int) : List Int → List Int
  | [] => [a]
  | b :: r => if a < b then a :: b :: r else if a = b then b :: r else b :: insU a r
def sortU : List Int → List Int
  | [] => []
  | a :: r => insU a (sortU r)
theorem insU_mem (a : Int) : ∀ (l : List Int) (k : Int), k ∈ insU a l ↔ k = a ∨ k ∈ l
  | [], k => by simp [insU]
  | b :: r, k => by
    show k ∈ (if a < b then a :: b :: r else if a = b then b :: r else b :: insU a r) ↔ _
    split
    · simp
    · split
      · rename_i e
        subst e
        simp
      · rw [List.mem_cons, insU_mem a r k, List.mem_cons]
        constructor
        · rintro (h | h | h)
          · exact .inr (.inl h)
          · exact .inl h
          · exact .inr (.inr h)
        · rintro (h | h | h)
          · exact .inr (.inl h)
          · exact .inl h
          · exact .inr (.inr h)
theorem insU_asc (a : Int) : ∀ (l : List Int), l.Pairwise (· < ·) → (insU a l).Pairwise (· < ·)
  | [], _ => List.pairwise_singleton _ _
  | b :: r, h => by
    have hb := List.pairwise_cons.mp h
    show (if a < b then a :: b :: r else if a = b then b :: r else b :: insU a r).Pairwise _
    split
    · rename_i c
      refine List.pairwise_cons.mpr ⟨fun y hy => ?_, h⟩
      rcases List.mem_cons.mp hy with e | hy
      · rw [e]
        exact c
      · exact Int.lt_trans c (hb.1 y hy)
    · split
      · exact h
      · rename_i c1 c2
        refine List.pairwise_cons.mpr ⟨fun y hy => ?_, insU_asc a r hb.2⟩
        rcases (insU_mem a r y).mp hy with e | hy
        · rw [e]
          omega
        · exact hb.1 y hy
theorem sortU_mem : ∀ (l : List Int) (k : Int), k ∈ sortU l ↔ k ∈ l
  | [], k => Iff.rfl
  | a :: r, k => by
    show k ∈ insU a (sortU r) ↔ _
    rw [insU_mem, sortU_mem r k, List.mem_cons]
theorem sortU_asc : ∀ l : List Int, (sortU l).Pairwise (· < ·)
  | [] => List.Pairwise.nil
  | a :: r => insU_asc a _ (sortU_asc r)
theorem asc_uniq {l m : List Int} (h1 : l.Pairwise (· < ·)) (h2 : m.Pairwise (· < ·)) (h : ∀ k, k ∈ l ↔ k ∈ m) : l = m := by
  have nd : ∀ {l : List Int}, l.Pairwise (· < ·) → l.Nodup := fun h => h.imp fun z => Int.ne_of_lt z
  exact List.Perm.eq_of_pairwise (le := fun a b : Int => a < b) (fun a b _ _ x y => absurd x (by omega)) h1 h2 ((List.perm_ext_iff_of_nodup (nd h1) (nd h2)).mpr h)
def dSortSet (de : DE) : DE := fun ρ Q => de ρ fun x => ∃ ns : List Int, asList x = some (ns.map .int) ∧ ns.length < 60 ∧ Q (.d (.list ((sortU ns).map .int)))
section
variable {X : Cx} {m : Am} {e : Expr} {p p2 pos pos2 : Pos} {te : TE} {de : DE}
theorem d_sortSet (hc : X.calm = true) (hg : Gl X "sorted") (hm : X.mg "sorted" = none) (hg2 : Gl X "set") (hm2 : X.mg "set" = none) (h : DPE X m e te de)
    (he : starEach [e] X.env = (false, eval e X.env) :: starEach [] X.env := by rfl) (hpl : (backTo pos2 (starEach [] X.env)).any (·.1) = false := by rfl)
    (he2 : starEach [.Call (.Name "set" p2) [e] [] pos2] X.env = (false, eval (.Call (.Name "set" p2) [e] [] pos2) X.env) :: starEach [] X.env := by rfl) (hpl2 : (backTo pos (starEach [] X.env)).any (·.1) = false := by rfl) :
    DPE X m (.Call (.Name "sorted" p) [.Call (.Name "set" p2) [e] [] pos2] [] pos) (tCB (rSortedSet X.w) (tCons (tCB (rSetI X.K X.w) (tCons te tNil)) tNil)) (dSortSet de) :=
  ⟨pe_callB (cr_sortedSet hc) hg hm (by decide +kernel) (pa_cons (pe_callTy (cr_setI hc) hg2 hm2 (by decide +kernel) (pa_cons h.pe pa_nil he) (by decide) (by decide) he hpl) pa_nil he2) (by decide) (by decide) he2 hpl2, ⟨fun {σ H ρ F T Q dQ} er hq kk => h.re.run er hq fun H1 v x e1 er1 vx hx => by
    obtain ⟨ns, ea, hl, hx⟩ := hx
    obtain ⟨a, us, rfl, ha, ra⟩ := vx.list ea
    rw [RepAll.to_ints ra] at ha
    refine ⟨a, ns, rfl, SqL.of ha, hl, fun q c hcl hn => ⟨q, _, c, rfl, upd_same, by omega, fun ms p2 h1 h2 h3 hn2 => ?_⟩⟩
    have eu : ms = sortU ns := asc_uniq h1 (sortU_asc ns) fun k => by
      rw [h2, sortU_mem]
      exact decide_eq_true_iff
    subst eu
    have er2 := er1.new (o := SetO X.w q (fun j => decide (j ∈ ns)) c) hn
    exact kk _ _ _ ((e1.trans (Ext.new hn)).trans (Ext.new hn2)) (er2.new hn2) (.newL er2 hn2 (RepAll.ints _)) hx⟩⟩
end
def cSortSet (a : CE) : CE := fun ρ => (a ρ).bind fun x => (asList x).bind fun ds => (intsOf ds).bind fun ns => if ns.length < 60 then some (.d (.list ((sortU ns).map .int))) else none
instance {da : DE} {ca : CE} [h : EvE da ca] : EvE (dSortSet da) (cSortSet ca) := ⟨fun {ρ x Q} e q => by
  obtain ⟨y, e1, e⟩ := ob e
  obtain ⟨ds, e2, e⟩ := ob e
  obtain ⟨ns, e3, e⟩ := ob e
  obtain ⟨hl, e⟩ := oi e
  cases e
  exact h.ev e1 ⟨ns, by rw [e2, intsOf_ok e3], hl, q⟩⟩
end DL

/-! ==== DLR8 ==== -/
set_option Elab.async false
set_option linter.all false
set_option maxRecDepth 100000
set_option maxHeartbeats 4000000
namespace DL
open PySem PySem.Spec PyProof.Rows L2
/-! list(range(..)), own -/
def dLstRgN (dr : DRg) : DN := fun ρ Q => dr ρ fun i j => RgOk i j ∧ Q ((rngD i (j - i).toNat).map OV.d)
section
variable {X : Cx} {m : Am} {e : Expr} {p pos : Pos} {tr : TRg} {dr : DRg}
theorem n_lstRg (hc : X.calm = true) (hg : Gl X "list") (hm : X.mg "list" = none) (he : DPRg X m e tr dr) (na : starEach [e] X.env = (false, eval e X.env) :: starEach [] X.env := by rfl) : DPN X m (.Call (.Name "list" p) [e] [] pos) (tLstRg tr) (dLstRgN dr) := ⟨pe_listRg hc hg hm he.prg na, ⟨fun {σ H ρ F T Q dQ} er hq k => he.rr.run er hq fun H1 i j e1 er1 h =>
  ⟨h.1, fun l hl => k _ _ _ [l] (e1.trans (Ext.new hl)) (fun a ha => by rw [List.mem_singleton.mp ha]; exact Ext.back er1.base.pot e1 hl) (er1.own hl) (own_new er1 hl (rep_rg i j)) h.2⟩⟩⟩
end
def cLstRgN (c : CRg) : CN := fun ρ => (c ρ).bind fun p => if RgOk p.1 p.2 then some ((rngD p.1 (p.2 - p.1).toNat).map OV.d) else none
instance {dr : DRg} {c : CRg} [h : EvRg dr c] : EvN (dLstRgN dr) (cLstRgN c) := ⟨fun {ρ x Q} e q => by
  obtain ⟨a, e1, e⟩ := ob e
  obtain ⟨ok, e⟩ := oi e
  cases e
  exact h.ev e1 ⟨ok, q⟩⟩
end DL

/-! ==== DLR9 ==== -/
set_option Elab.async false
set_option linter.all false
set_option maxRecDepth 100000
set_option maxHeartbeats 4000000
namespace DL
open PySem PySem.Spec PyProof.Rows L2
/-! ## for x in y, y an own list that the body leaves where it stands -/
def Keeps (r : Nat) (t : TS) : Prop := ∀ (D : Ends) (σ : L2.St) (H : Hp) (v : Option (Option V)), σ[r]? = v → t D σ H → t { D with nx := fun σ' H' => σ'[r]? = v ∧ D.nx σ' H', ct := fun σ' H' => σ'[r]? = v ∧ D.ct σ' H' } σ H
def MonoE (te : TE) : Prop := ∀ (σ : L2.St) (H : Hp) (Q Q' : VK), (∀ v H', Q v H' → Q' v H') → te σ H Q → te σ H Q'
theorem mono_var {i : Nat} : MonoE (tVar i) := fun σ H Q Q' h ⟨v, e, q⟩ => ⟨v, e, h v H q⟩
theorem mono_c {v : V} : MonoE (tC v) := fun σ H Q Q' h q => h v H q
theorem keeps_dput {r : Nat} {a b c : TE} (ha : MonoE a) (hb : MonoE b) (hc : MonoE c) : Keeps r (sDPut a b c) := fun D σ H v e h => by
  refine hc σ H _ _ (fun v1 H1 h1 => ?_) h
  refine ha σ H1 _ _ (fun v2 H2 h2 => ?_) h1
  refine hb σ H2 _ _ (fun v3 H3 h3 => ?_) h2
  obtain ⟨q, H4, h4, h5, h6⟩ := h3
  exact ⟨q, H4, h4, h5, e, h6⟩
def dLoopL (r i : Nat) (body : DS) : Nat → Nat → DS
  | 0, j, D, ρ => ∃ xs, getL ρ r = some xs ∧ xs.length ≤ j ∧ D.nx ρ
  | k + 1, j, D, ρ => ∃ xs x, getL ρ r = some xs ∧ xs[j]? = some (.d x) ∧ body { nx := fun ρ2 => dLoopL r i body k (j + 1) D ρ2, ct := fun ρ2 => dLoopL r i body k (j + 1) D ρ2, bk := D.nx, rt := D.rt } (ρ.set i (some (.d x)))
def dForL (r i : Nat) (body : DS) : DS := fun D ρ => ∃ xs, getL ρ r = some xs ∧ dLoopL r i body xs.length 0 D ρ
theorem rs_forL {K : PySem.W.Frag} {r i : Nat} {t : TS} {ds : DS} (hne : i ≠ r) (hk : Keeps r t) (hb : RS K m t ds) : RS K m (tFor (iList K (tVar r)) (gName i) t) (dForL r i ds) := ⟨fun {σ H ρ F D dD} er hq o => by
  obtain ⟨xs0, hx0, hl0⟩ := hq
  obtain ⟨v, fp, e1, ow, _, _, _⟩ := er.chg (getL_at hx0)
  obtain ⟨q, vs, fq, rfl, rfl, hp, ha⟩ := ow.lst_inv
  refine ⟨.ref q, e1, q, rfl, ⟨vs, SqL.of hp⟩, ?_⟩
  refine ⟨fun j n σ' H' => ∃ ρ' F', ER K m σ' H' ρ' F' [] ∧ Fz m F H F' H' ∧ σ'[r]? = some (some (.ref q)) ∧ dLoopL r i ds n j dD ρ', ⟨xs0.length, ρ, F, er, Ex.refl _, e1, hl0⟩, ?_⟩
  rintro j n σ' H' ⟨ρ', F', er', z, es, hl⟩
  cases n with
  | zero =>
    obtain ⟨xs, hx, hle, hn⟩ := hl
    obtain ⟨v2, fp2, e2, ow2, _, _, _⟩ := er'.chg (getL_at hx)
    obtain ⟨q2, vs2, fq2, rfl, rfl, hp2, ha2⟩ := ow2.lst_inv
    obtain rfl : q = q2 := by
      rw [e2] at es
      exact (V.ref.inj (Option.some.inj (Option.some.inj es))).symm
    exact .inl ⟨⟨vs2, SqL.of hp2, by rw [ha2.len]; exact hle⟩, o.nx σ' H' ρ' F' er' z hn⟩
  | succ k =>
    obtain ⟨xs, x, hx, hj, hl⟩ := hl
    obtain ⟨v2, fp2, e2, ow2, _, _, _⟩ := er'.chg (getL_at hx)
    obtain ⟨q2, vs2, fq2, rfl, rfl, hp2, ha2⟩ := ow2.lst_inv
    obtain rfl : q = q2 := by
      rw [e2] at es
      exact (V.ref.inj (Option.some.inj (Option.some.inj es))).symm
    obtain ⟨w, gq, hw, ox, _⟩ := ha2.get hj
    refine .inr ⟨⟨vs2, w, SqL.of hp2, hw⟩, fun σ2 H2 => σ2[r]? = some (some (.ref q)) ∧ ∃ ρ2 F2, ER K m σ2 H2 ρ2 F2 [] ∧ Fz m F H F2 H2 ∧ dLoopL r i ds k (j + 1) dD ρ2, fun σ2 H2 ⟨h0, ρ2, F2, h1, h2, h3⟩ => ⟨k, by omega, ρ2, F2, h1, h2, h0, h3⟩, fun u H2 hy => ?_⟩
    obtain ⟨rfl, hu⟩ := hy
    have eu := hu vs2 (SqL.of hp2)
    rw [hw] at eu
    cases eu
    have rw' : Rep K (Bh m (F' ++ []) H2) w x := by
      cases ox with
      | d r => exact r
    have es3 : (σ'.set i (some w))[r]? = some (some (.ref q)) := by
      rw [List.getElem?_set_ne hne]
      exact es
    obtain ⟨F3, T3, er3, s3⟩ := er'.setP i rw'
    have z3 : Fz m F H F3 H2 := Ex.trans z (Bh.sub fun a ha => by
      rw [List.append_nil] at ha
      exact s3.mem_iff.mp (List.mem_append_left _ ha))
    have o1 := o
    have hb3 := hb.run (D := { D with nx := fun σ4 H4 => ∃ ρ2 F2, ER K m σ4 H4 ρ2 F2 [] ∧ Fz m F H F2 H4 ∧ dLoopL r i ds k (j + 1) dD ρ2, ct := fun σ4 H4 => ∃ ρ2 F2, ER K m σ4 H4 ρ2 F2 [] ∧ Fz m F H F2 H4 ∧ dLoopL r i ds k (j + 1) dD ρ2, bk := D.nx }) (er3.free (List.nil_sublist _)) hl
      ⟨fun σ4 H4 ρ4 F4 er4 z4 h4 => ⟨ρ4, F4, er4, Ex.trans z3 z4, h4⟩, fun σ4 H4 ρ4 F4 er4 z4 h4 => o1.nx σ4 H4 ρ4 F4 er4 (Ex.trans z3 z4) h4, fun σ4 H4 ρ4 F4 er4 z4 h4 => ⟨ρ4, F4, er4, Ex.trans z3 z4, h4⟩, o1.rt⟩
    exact hk _ _ _ _ es3 hb3⟩
section
variable {X : Cx} {m : Am} {body : List Stmt} {pos xpos ypos : Pos} {t : TS} {ds : DS} {r i : Nat} {x y : Str}
theorem s_forL (hp : PassesOwn (model X.prog X.w) X.A X.env X.xe) (hc : X.calm = true) (hne : i ≠ r) (hk : Keeps r t) (hb : DPSs X m body t ds) (hN : X.N.Nodup) (hr : X.N[r]? = some y := by rfl) (hi : X.N[i]? = some x := by rfl)
    (hv : Vis X.env.scope y := by first | exact Or.inl rfl | exact Or.inr (Or.inl rfl) | exact Or.inr (Or.inr rfl)) (hd : (y == ("__debug__" : Str)) = false := by decide) (hcd : (y == ("__classdict__" : Str)) = false := by decide)
    (hx : Loc X.env.scope x := by first | exact Or.inl rfl | exact Or.inr rfl) (hf : X.fn x = true ∨ X.env.scope.names.lookup x = some .local := by first | exact .inl rfl | exact .inr rfl | assumption) :
    DPS X m (.For (.Name x xpos) (.Name y ypos) body [] pos) (tFor (iList X.K (tVar r)) (gName i) t) (dForL r i ds) := ⟨ps_for hp hc (pi_list (pe_var hr hv hd hcd)) (pg_name hN hi hx hf) hb.ps (by intro _; rfl), rs_forL hne hk hb.rs⟩
end
def cLoopL (r i : Nat) (b : CS) : Nat → Nat → CS
  | 0, j, ρ => (getL ρ r).bind fun xs => if xs.length ≤ j then some (.nx ρ) else none
  | k + 1, j, ρ => (getL ρ r).bind fun xs => match xs[j]? with
    | some (.d x) => (b (ρ.set i (some (.d x)))).bind fun o => (match o with
      | .nx ρ2 => cLoopL r i b k (j + 1) ρ2
      | .ct ρ2 => cLoopL r i b k (j + 1) ρ2
      | .bk ρ2 => some (.nx ρ2)
      | .rt v => some (.rt v))
    | _ => none
def cForL (r i : Nat) (b : CS) : CS := fun ρ => (getL ρ r).bind fun xs => cLoopL r i b xs.length 0 ρ
theorem loopL_ev {r i : Nat} {db : DS} {cb : CS} [h' : EvS db cb] : ∀ (k j : Nat) {ρ : DEnv} {o : Out} {D : DEnds}, cLoopL r i cb k j ρ = some o → o.go D → dLoopL r i db k j D ρ
  | 0, j, ρ, o, D, e, q => by
    obtain ⟨xs, e1, e⟩ := ob e
    obtain ⟨hl, e⟩ := oi e
    cases e
    exact ⟨xs, e1, hl, q⟩
  | k + 1, j, ρ, o, D, e, q => by
    obtain ⟨xs, e1, e⟩ := ob e
    split at e
    · rename_i x hx
      obtain ⟨p, e2, e⟩ := ob e
      refine ⟨xs, x, e1, hx, h'.ev e2 ?_⟩
      cases p with
      | nx ρ2 => exact loopL_ev k (j + 1) e q
      | ct ρ2 => exact loopL_ev k (j + 1) e q
      | bk ρ2 =>
        cases e
        exact q
      | rt v =>
        cases e
        exact q
    · cases e
instance {r i : Nat} {db : DS} {cb : CS} [h' : EvS db cb] : EvS (dForL r i db) (cForL r i cb) := ⟨fun {ρ o D} e q => by
  obtain ⟨xs, e1, e⟩ := ob e
  exact ⟨xs, e1, loopL_ev _ _ e q⟩⟩
/-! ### sum of a list or a tuple of ints -/
theorem sum_rawT {P : Program} {w : World} {A : Around} {E : Value → Shared → Prop} {s : Shared} {l : Addr} {its : List Value} {ns : List Int} {Q : Value → Shared → Prop} (hh : A.handled = none) (hl : s.heap.IsTuple l its.toArray) (hi : IntsAre its ns)
    (h : ∀ h' tk t', (∀ b o, s.heap.get? b = some o → h'.get? b = some o) → Q (.int ns.sum t') { s with heap := h', toks := tk }) : wpAny (model P w) A (call (.builtin "sum") [.ref l]) Q E s := by
  obtain ⟨xs, e⟩ := hi.allInts.items
  have hn : numsOf (intItems xs).toList = ns := by rw [← e]; exact hi.numsOf
  rw [nums_intItems] at hn
  rw [e] at hl
  refine PySem.W.ktm_sumG hh hl fun h' tk t' hk => ?_
  have k := h h' tk t' hk
  rw [preSum_eq, List.take_of_length_le (by simp), hn]
  exact k
def rSumA (K : PySem.W.Frag) : List V → Hp → VK → Prop := fun vs H Q => (∃ (a : Addr) (ns : List Int), vs = [V.ref a] ∧ SqT K H a (ns.map V.int) ∧ Q (.int ns.sum) H) ∨ rSum K vs H Q
theorem cr_sumA {X : Cx} (hc : X.calm = true) : CallR X (.builtin "sum") (rSumA X.K) := by
  intro pins s σ H vs us Q I r h
  rcases h with ⟨a, ns, rfl, hs, q⟩ | h
  · obtain ⟨its, rv, hT, _⟩ := I.tuple hs
    rw [Vals.ref1 r]
    exact sum_rawT (I.ok.hd hc) hT rv.ints fun h' tk t' hk => ⟨.int _, H, I.kept hk, ⟨_, rfl⟩, q⟩
  · exact cr_sum hc pins s σ H vs us Q I r h
def dSumA : DF := fun xs Q => match xs with
  | [.d (.tuple ys)] => ∃ ns : List Int, ys = ns.map .int ∧ Q (.int ns.sum)
  | xs => dSum xs Q
theorem rc_sumA {m : Am} {K : PySem.W.Frag} : RCD K m (rSumA K) dSumA := ⟨fun {σ H ρ F T vs xs Q dQ} er vxs h kk => by
  unfold dSumA at h
  split at h
  · obtain ⟨v, rfl, vx⟩ := vxs.one
    obtain ⟨ns, rfl, h⟩ := h
    obtain ⟨a, us, rfl, ha, ra⟩ := vx.tuple
    rw [RepAll.to_ints ra] at ha
    exact .inl ⟨a, ns, rfl, ha, kk H _ _ (Ext.refl _ _) er (.ofInt _) h⟩
  · exact .inr (rc_sum.run er vxs h kk)⟩
section
variable {X : Cx} {m : Am} {e : Expr} {p pos : Pos} {ua : TA} {va : DA}
theorem d_sumA (hc : X.calm = true) (hg : Gl X "sum") (hm : X.mg "sum" = none) (ha : DPA X m [e] ua va) (he : starEach [e] X.env = (false, eval e X.env) :: starEach [] X.env := by rfl) (hpl : (backTo pos (starEach [] X.env)).any (·.1) = false := by rfl) :
    DPE X m (.Call (.Name "sum" p) [e] [] pos) (tCB (rSumA X.K) ua) (dCB dSumA va) := d_cb (cr_sumA hc) rc_sumA (by decide +kernel) hg hm ha (by decide) (by decide) he hpl
end
def cSumA : CF := fun xs => match xs with
  | [.d (.tuple ys)] => (ints? ys).map fun ns => .int ns.sum
  | xs => cSum xs
instance : EvF dSumA cSumA := ⟨fun {xs r Q} e q => by
  unfold cSumA at e
  unfold dSumA
  split at e
  · obtain ⟨ns, e1, rfl⟩ := om e
    exact ⟨ns, ints_ok e1, q⟩
  · exact EvF.ev (R := dSum) e q⟩
end DL

/-! ==== DLQ ==== -/
set_option Elab.async false
set_option linter.all false
set_option maxRecDepth 100000
set_option maxHeartbeats 4000000
namespace DL
open PySem PySem.Spec PyProof.Rows L2 DLR
/-! the rules whose terms name the fragment, with the fragment named apart (printed by mkprime.py) -/
section
variable {X : Cx} {m : Am} {tg a b c e o elt iter : Expr} {es ifs : List Expr} {pos pos2 p p2 apos sp_ tpos : Pos} {t u ti to : TE} {tl th : TO} {dl dh : DEnv → (Option Int → Prop) → Prop} {ta tb tc te : TE} {da db dc de dO : DE} {tt tu : TT} {dt du : DT} {ua ub : TA} {va vb : DA} {dn : DN} {wi : TI} {di : DI} {g : TG} {dg : DG} {js : List Nat} {ts : List Expr} {gs : TGs} {dgs : DGs} {rest : List Expr} {lo hi : Option Expr} {e2 k v : Expr} {tk tv : TE} {dk dv : DE}
theorem d_add' {K' : PySem.W.Frag} (ha : DPE X m a ta da) (hb : DPE X m b tb db) (hK : X.K = K' := by rfl) : DPE X m (.BinOp a .Add b pos) (tOp (rAddA K') ta tb) (dOp dAdd da db) := by
  subst hK
  exact d_add (ha := ha) (hb := hb)
theorem d_eq' {K' : PySem.W.Frag} {k : Nat} (hr : Rm k X.A) (ha : DPE X m a ta da) (hb : DPE X m b tb db) (hK : X.K = K' := by rfl) : DPE X m (.Compare a [.Eq] [b] pos) (tOp (rEqA K') ta tb) (dOp dEq da db) := by
  subst hK
  exact d_eq (hr := hr) (ha := ha) (hb := hb)
theorem d_ne' {K' : PySem.W.Frag} {k : Nat} (hr : Rm k X.A) (ha : DPE X m a ta da) (hb : DPE X m b tb db) (hK : X.K = K' := by rfl) : DPE X m (.Compare a [.NotEq] [b] pos) (tOp (rNeA K') ta tb) (dOp dNe da db) := by
  subst hK
  exact d_ne (hr := hr) (ha := ha) (hb := hb)
theorem d_in' {K' : PySem.W.Frag} (ha : DPE X m a ta da) (hb : DPE X m b tb db) (hm : behindInMarks .In b = false) (hK : X.K = K' := by rfl) : DPE X m (.Compare a [.In] [b] pos) (tOp (rInA K' false) ta tb) (dOp dIn da db) := by
  subst hK
  exact d_in (ha := ha) (hb := hb) (hm := hm)
theorem d_ni' {K' : PySem.W.Frag} (ha : DPE X m a ta da) (hb : DPE X m b tb db) (hm : behindInMarks .NotIn b = false) (hK : X.K = K' := by rfl) : DPE X m (.Compare a [.NotIn] [b] pos) (tOp (rInA K' true) ta tb) (dOp dNotIn da db) := by
  subst hK
  exact d_ni (ha := ha) (hb := hb) (hm := hm)
theorem d_at' {K' : PySem.W.Frag} (ha : DPE X m a ta da) (hb : DPE X m b tb db) (hs : PlainIx b := by exact fun _ _ => rfl) (hK : X.K = K' := by rfl) : DPE X m (.Subscript a b pos) (tOp (rIx K') ta tb) (dOp dIx da db) := by
  subst hK
  exact d_at (ha := ha) (hb := hb) (hs := hs)
theorem t_eq' {K' : PySem.W.Frag} {k : Nat} (hr : Rm k X.A) (ha : DPE X m a ta da) (hb : DPE X m b tb db) (hK : X.K = K' := by rfl) : DPT X m (.Compare a [.Eq] [b] pos) (tTest (tOp (rEqA K') ta tb)) (dTest (dOp dEq da db)) := by
  subst hK
  exact t_eq (hr := hr) (ha := ha) (hb := hb)
theorem t_ne' {K' : PySem.W.Frag} {k : Nat} (hr : Rm k X.A) (ha : DPE X m a ta da) (hb : DPE X m b tb db) (hK : X.K = K' := by rfl) : DPT X m (.Compare a [.NotEq] [b] pos) (tTest (tOp (rNeA K') ta tb)) (dTest (dOp dNe da db)) := by
  subst hK
  exact t_ne (hr := hr) (ha := ha) (hb := hb)
theorem t_in' {K' : PySem.W.Frag} (ha : DPE X m a ta da) (hb : DPE X m b tb db) (hm : behindInMarks .In b = false) (hK : X.K = K' := by rfl) : DPT X m (.Compare a [.In] [b] pos) (tTest (tOp (rInA K' false) ta tb)) (dTest (dOp dIn da db)) := by
  subst hK
  exact t_in (ha := ha) (hb := hb) (hm := hm)
theorem t_ni' {K' : PySem.W.Frag} (ha : DPE X m a ta da) (hb : DPE X m b tb db) (hm : behindInMarks .NotIn b = false) (hK : X.K = K' := by rfl) : DPT X m (.Compare a [.NotIn] [b] pos) (tTest (tOp (rInA K' true) ta tb)) (dTest (dOp dNotIn da db)) := by
  subst hK
  exact t_ni (ha := ha) (hb := hb) (hm := hm)
theorem d_call' {K' : PySem.W.Frag} {k : Nat} {f : Addr} {fd : FuncData} {ps : List Str} {R : DF} {x : Str} (G : FnG X.prog X.w X.K X.mg X.base CX0 k f fd ps (dsp X.K R)) (hr : Rm k X.A) (hg : Gl X x) (hm : X.mg x = some (.ref f)) (hk : PySem.W.keepIn X.K (.ref f) = true) (hb : Binds X.K fd ps [])
    (ha : DPA X m (e :: es) ua va) (hdb : (x == ("__debug__" : Str)) = false := by decide) (he : starEach (e :: es) X.env = (false, eval e X.env) :: starEach es X.env := by rfl) (hpl : (backTo pos (starEach es X.env)).any (·.1) = false := by rfl)  (hK : X.K = K' := by rfl) :     DPE X m (.Call (.Name x p) (e :: es) [] pos) (tCall (dsp K' R) [] E0 ua) (dCall R va) := by
  subst hK
  exact d_call (G := G) (hr := hr) (hg := hg) (hm := hm) (hk := hk) (hb := hb) (ha := ha) (hdb := hdb) (he := he) (hpl := hpl)
theorem d_call0' {K' : PySem.W.Frag} {k : Nat} {f : Addr} {fd : FuncData} {ps : List Str} {R : DF} {x : Str} (G : FnG X.prog X.w X.K X.mg X.base CX0 k f fd ps (dsp X.K R)) (hr : Rm k X.A) (hg : Gl X x) (hm : X.mg x = some (.ref f)) (hk : PySem.W.keepIn X.K (.ref f) = true) (hb : Binds X.K fd ps [])
    (hdb : (x == ("__debug__" : Str)) = false := by decide) (hK : X.K = K' := by rfl) : DPE X m (.Call (.Name x p) [] [] pos) (tCall (dsp K' R) [] E0 tNil) (dCall R dNil) := by
  subst hK
  exact d_call0 (G := G) (hr := hr) (hg := hg) (hm := hm) (hk := hk) (hb := hb) (hdb := hdb)
theorem d_callX' {K' : PySem.W.Frag} {k n : Nat} {f : Addr} {fd : FuncData} {ps ks : List Str} {π : List Nat} {R : DF} {x : Str} {kws : List Keyword} {uk : TA} {vk : DA} (G : FnG X.prog X.w X.K X.mg X.base CX0 k f fd ps (dsp X.K R)) (hr : Rm k X.A) (hg : Gl X x) (hm : X.mg x = some (.ref f)) (hk : PySem.W.keepIn X.K (.ref f) = true) (hb : KB X.K fd ps n ks π)
    (ha : DPA X m (e :: es) ua va) (hkw : DPK X m kws uk vk) (hπ : ∀ i ∈ π, i < n + ks.length := by decide) (hall : (backToKw pos (keywordEach kws X.env)).all (·.1.isSome) = true := by rfl) (hks : (backToKw pos (keywordEach kws X.env)).filterMap (·.1) = ks := by rfl)
    (hdb : (x == ("__debug__" : Str)) = false := by decide) (he : starEach (e :: es) X.env = (false, eval e X.env) :: starEach es X.env := by rfl)
    (hpl : ((backTo pos (starEach (e :: es) X.env)).any (·.1) || (backToKw pos (keywordEach kws X.env)).any (·.1.isNone)) = false := by rfl)  (hK : X.K = K' := by rfl) :     DPE X m (.Call (.Name x p) (e :: es) kws pos) (tCallX n ks π (dsp K' R) E0 ua uk) (dCallX R n ks.length π va vk) := by
  subst hK
  exact d_callX (G := G) (hr := hr) (hg := hg) (hm := hm) (hk := hk) (hb := hb) (ha := ha) (hkw := hkw) (hπ := hπ) (hall := hall) (hks := hks) (hdb := hdb) (he := he) (hpl := hpl)
theorem d_callX0' {K' : PySem.W.Frag} {k : Nat} {f : Addr} {fd : FuncData} {ps ks : List Str} {π : List Nat} {R : DF} {x : Str} {kws : List Keyword} {uk : TA} {vk : DA} (G : FnG X.prog X.w X.K X.mg X.base CX0 k f fd ps (dsp X.K R)) (hr : Rm k X.A) (hg : Gl X x) (hm : X.mg x = some (.ref f)) (hk : PySem.W.keepIn X.K (.ref f) = true) (hb : KB X.K fd ps 0 ks π)
    (hkw : DPK X m kws uk vk) (hπ : ∀ i ∈ π, i < 0 + ks.length := by decide) (hall : (backToKw pos (keywordEach kws X.env)).all (·.1.isSome) = true := by rfl) (hks : (backToKw pos (keywordEach kws X.env)).filterMap (·.1) = ks := by rfl)
    (hdb : (x == ("__debug__" : Str)) = false := by decide) (hpl : ((backTo pos (starEach [] X.env)).any (·.1) || (backToKw pos (keywordEach kws X.env)).any (·.1.isNone)) = false := by rfl)  (hK : X.K = K' := by rfl) :     DPE X m (.Call (.Name x p) [] kws pos) (tCallX 0 ks π (dsp K' R) E0 tNil uk) (dCallX R 0 ks.length π dNil vk) := by
  subst hK
  exact d_callX0 (G := G) (hr := hr) (hg := hg) (hm := hm) (hk := hk) (hb := hb) (hkw := hkw) (hπ := hπ) (hall := hall) (hks := hks) (hdb := hdb) (hpl := hpl)
theorem g_tup' {K' : PySem.W.Frag} {k n : Nat} (hc : X.calm = true) (h : DPGs X m ts gs dgs js) (hlen : ∀ xs ρ Q, dgs xs ρ Q → xs.length = n) (hn : (assignEach ts X.env).length = n := by rfl) (hst : (assignEach ts X.env).findIdx? (·.1) = none := by rfl)  (hK : X.K = K' := by rfl) :     DPG X m (.Tuple ts k pos) (gTup K' n gs) (dgTup dgs) js := by
  subst hK
  exact g_tup (hc := hc) (h := h) (hlen := hlen) (hn := hn) (hst := hst)
theorem g_unl' {K' : PySem.W.Frag} {k n : Nat} (hc : X.calm = true) (h : DPGs X m ts gs dgs js) (hlen : ∀ xs ρ Q, dgs xs ρ Q → xs.length = n) (hn : (assignEach ts X.env).length = n := by rfl) (hst : (assignEach ts X.env).findIdx? (·.1) = none := by rfl)  (hK : X.K = K' := by rfl) :     DPG X m (.Tuple ts k pos) (gUnl K' n gs) (dgUnl dgs) js := by
  subst hK
  exact g_unl (hc := hc) (h := h) (hlen := hlen) (hn := hn) (hst := hst)
theorem i_list' {K' : PySem.W.Frag} (h : DPE X m e te de) (hK : X.K = K' := by rfl) : DPI X m tg e (iList K' te) (diList de) := by
  subst hK
  exact i_list (h := h)
theorem i_tup' {K' : PySem.W.Frag} (h : DPE X m e te de) (hK : X.K = K' := by rfl) : DPI X m tg e (iTup K' te) (diTup de) := by
  subst hK
  exact i_tup (h := h)
theorem i_zip' {K' : PySem.W.Frag} {e e2 : Expr} {tpos : Pos} {elts : List Expr} {kk : Nat} (hg : Gl X "zip") (hm : X.mg "zip" = none) (ha : DPA X m [e, e2] ua va) (hs : starEach [e, e2] X.env = (false, eval e X.env) :: starEach [e2] X.env := by rfl) (hpl : (backTo pos (starEach [e2] X.env)).any (·.1) = false := by rfl)  (hK : X.K = K' := by rfl) :     DPI X m (.Tuple elts kk tpos) (.Call (.Name "zip" p) [e, e2] [] pos) (RZ.iZipA K' ua) (diZip va) := by
  subst hK
  exact i_zip (hg := hg) (hm := hm) (ha := ha) (hs := hs) (hpl := hpl)
theorem d_mul' {K' : PySem.W.Frag} (ha : DPE X m a ta da) (hb : DPE X m b tb db) (hK : X.K = K' := by rfl) : DPE X m (.BinOp a .Mult b pos) (tOp (rMulA K') ta tb) (dOp dMul da db) := by
  subst hK
  exact d_mul (ha := ha) (hb := hb)
theorem d_sl' {K' : PySem.W.Frag} (h : DPE X m e te de) (hl : DPO X m lo tl dl) (hh : DPO X m hi th dh) (hK : X.K = K' := by rfl) : DPE X m (.Subscript e (.Slice lo hi none p2) pos) (tSl (rSlAll K') te tl th) (dSl de dl dh) := by
  subst hK
  exact d_sl (h := h) (hl := hl) (hh := hh)
theorem d_len' {K' : PySem.W.Frag} (hg : Gl X "len") (hm : X.mg "len" = none) (ha : DPA X m [e] ua va) (he : starEach [e] X.env = (false, eval e X.env) :: starEach [] X.env := by rfl) (hpl : (backTo pos (starEach [] X.env)).any (·.1) = false := by rfl)  (hK : X.K = K' := by rfl) :     DPE X m (.Call (.Name "len" p) [e] [] pos) (tCB (rLenA K') ua) (dCB dLen va) := by
  subst hK
  exact d_len (hg := hg) (hm := hm) (ha := ha) (he := he) (hpl := hpl)
theorem d_sum' {K' : PySem.W.Frag} (hc : X.calm = true) (hg : Gl X "sum") (hm : X.mg "sum" = none) (ha : DPA X m [e] ua va) (he : starEach [e] X.env = (false, eval e X.env) :: starEach [] X.env := by rfl) (hpl : (backTo pos (starEach [] X.env)).any (·.1) = false := by rfl)  (hK : X.K = K' := by rfl) :     DPE X m (.Call (.Name "sum" p) [e] [] pos) (tCB (rSum K') ua) (dCB dSum va) := by
  subst hK
  exact d_sum (hc := hc) (hg := hg) (hm := hm) (ha := ha) (he := he) (hpl := hpl)
theorem d_all' {K' : PySem.W.Frag} (hc : X.calm = true) (hg : Gl X "all") (hm : X.mg "all" = none) (ha : DPA X m [e] ua va) (he : starEach [e] X.env = (false, eval e X.env) :: starEach [] X.env := by rfl) (hpl : (backTo pos (starEach [] X.env)).any (·.1) = false := by rfl)  (hK : X.K = K' := by rfl) :     DPE X m (.Call (.Name "all" p) [e] [] pos) (tCB (rAll K') ua) (dCB dAll va) := by
  subst hK
  exact d_all (hc := hc) (hg := hg) (hm := hm) (ha := ha) (he := he) (hpl := hpl)
theorem d_any' {K' : PySem.W.Frag} (hc : X.calm = true) (hg : Gl X "any") (hm : X.mg "any" = none) (ha : DPA X m [e] ua va) (he : starEach [e] X.env = (false, eval e X.env) :: starEach [] X.env := by rfl) (hpl : (backTo pos (starEach [] X.env)).any (·.1) = false := by rfl)  (hK : X.K = K' := by rfl) :     DPE X m (.Call (.Name "any" p) [e] [] pos) (tCB (rAny K') ua) (dCB dAny va) := by
  subst hK
  exact d_any (hc := hc) (hg := hg) (hm := hm) (ha := ha) (he := he) (hpl := hpl)
theorem d_tupC' {K' : PySem.W.Frag} (hg : Gl X "tuple") (hm : X.mg "tuple" = none) (ha : DPA X m [e] ua va) (he : starEach [e] X.env = (false, eval e X.env) :: starEach [] X.env := by rfl) (hpl : (backTo pos (starEach [] X.env)).any (·.1) = false := by rfl)  (hK : X.K = K' := by rfl) :     DPE X m (.Call (.Name "tuple" p) [e] [] pos) (tCB (rTupC K') ua) (dCB dTupC va) := by
  subst hK
  exact d_tupC (hg := hg) (hm := hm) (ha := ha) (he := he) (hpl := hpl)
theorem d_lstC' {K' : PySem.W.Frag} (hg : Gl X "list") (hm : X.mg "list" = none) (ha : DPA X m [e] ua va) (he : starEach [e] X.env = (false, eval e X.env) :: starEach [] X.env := by rfl) (hpl : (backTo pos (starEach [] X.env)).any (·.1) = false := by rfl)  (hK : X.K = K' := by rfl) :     DPE X m (.Call (.Name "list" p) [e] [] pos) (tCB (rLstC K') ua) (dCB dLstC va) := by
  subst hK
  exact d_lstC (hg := hg) (hm := hm) (ha := ha) (he := he) (hpl := hpl)
theorem n_lstC' {K' : PySem.W.Frag} (hg : Gl X "list") (hm : X.mg "list" = none) (ha : DPA X m [e] ua va) (he : starEach [e] X.env = (false, eval e X.env) :: starEach [] X.env := by rfl) (hpl : (backTo pos (starEach [] X.env)).any (·.1) = false := by rfl)  (hK : X.K = K' := by rfl) :     DPN X m (.Call (.Name "list" p) [e] [] pos) (tCB (rLstC K') ua) (dLstCN va) := by
  subst hK
  exact n_lstC (hg := hg) (hm := hm) (ha := ha) (he := he) (hpl := hpl)
theorem d_isi' {K' : PySem.W.Frag} {T : String} {x : Str} {tp : Pos} (hT : T ∈ ["bool", "int", "str", "list", "tuple", "dict"]) (hgi : Gl X "isinstance") (hmi : X.mg "isinstance" = none) (hg : Gl X x) (hm : X.mg x = none) (hv : bootBuiltins x = some (.type T)) (h : DPE X m e te de) (hn : x ≠ "__name__" := by decide) (hd : (x == ("__debug__" : Str)) = false := by decide)
    (hs : starEach [e, .Name x tp] X.env = (false, eval e X.env) :: starEach [.Name x tp] X.env := by rfl) (hs2 : starEach [.Name x tp] X.env = (false, eval (.Name x tp) X.env) :: starEach [] X.env := by rfl) (hpl : (backTo pos (starEach [.Name x tp] X.env)).any (·.1) = false := by rfl)  (hK : X.K = K' := by rfl) :     DPE X m (.Call (.Name "isinstance" p) [e, .Name x tp] [] pos) (tCB (rIsi K') (tCons te (tCons (tC (.ty T)) tNil))) (dIsi T de) := by
  subst hK
  exact d_isi (hT := hT) (hgi := hgi) (hmi := hmi) (hg := hg) (hm := hm) (hv := hv) (h := h) (hn := hn) (hd := hd) (hs := hs) (hs2 := hs2) (hpl := hpl)
theorem d_repr' {K' : PySem.W.Frag} {k : Nat} (hr : Rm k X.A) (hg : Gl X "repr") (hm : X.mg "repr" = none) (ha : DPA X m [e] ua va) (he : starEach [e] X.env = (false, eval e X.env) :: starEach [] X.env := by rfl) (hpl : (backTo pos (starEach [] X.env)).any (·.1) = false := by rfl)  (hK : X.K = K' := by rfl) :     DPE X m (.Call (.Name "repr" p) [e] [] pos) (tCB (rRepr K') ua) (dCB dRepr va) := by
  subst hK
  exact d_repr (hr := hr) (hg := hg) (hm := hm) (ha := ha) (he := he) (hpl := hpl)
theorem d_join' {K' : PySem.W.Frag} (hO : DPE X m o to dO) (h : DPE X m e te de) (hs : starEach [e] X.env = [(false, eval e X.env)] := by rfl) (hbase : attributeBase o "join" X.env (eval o X.env) = eval o X.env := by rfl) (hline : (apos.endLine == pos.line) = true := by rfl)  (hK : X.K = K' := by rfl) :     DPE X m (.Call (.Attribute o "join" apos) [e] [] pos) (tM1 (fun x xs H Q => ∃ a p, ∃ ys : List Str, x = .str a ∧ xs = [.ref p] ∧ (SqL K' H p (ys.map V.str) ∨ SqT K' H p (ys.map V.str)) ∧ (ys.map (·.length)).sum + ys.length * a.length ≤ 16777216 ∧ Q (.str (Txt.join a ys)) H) to te) (dM1 dJoinR dO de) := by
  subst hK
  exact d_join (hO := hO) (h := h) (hs := hs) (hbase := hbase) (hline := hline)
theorem d_gin' {K' : PySem.W.Frag} {x : Str} {D : Addr} {kvs : List (Str × PyData)} (hg : Gl X x) (hm : X.mg x = some (.ref D)) (G : GDic X.K X.w D kvs) (he : DPE X m e te de) (hd : (x == ("__debug__" : Str)) = false := by decide)  (hK : X.K = K' := by rfl) :     DPE X m (.Compare e [.In] [.Name x p] pos) (tOp (rGIn K' D) te (tC (.ref D))) (dGIn kvs de) := by
  subst hK
  exact d_gin (hg := hg) (hm := hm) (G := G) (he := he) (hd := hd)
theorem d_gni' {K' : PySem.W.Frag} {x : Str} {D : Addr} {kvs : List (Str × PyData)} (hg : Gl X x) (hm : X.mg x = some (.ref D)) (G : GDic X.K X.w D kvs) (he : DPE X m e te de) (hd : (x == ("__debug__" : Str)) = false := by decide)  (hK : X.K = K' := by rfl) :     DPE X m (.Compare e [.NotIn] [.Name x p] pos) (tOp (rGNot K' D) te (tC (.ref D))) (dGNot kvs de) := by
  subst hK
  exact d_gni (hg := hg) (hm := hm) (G := G) (he := he) (hd := hd)
theorem d_gget' {K' : PySem.W.Frag} {x : Str} {D : Addr} {kvs : List (Str × PyData)} (hg : Gl X x) (hm : X.mg x = some (.ref D)) (G : GDic X.K X.w D kvs) (he : DPE X m e te de) (hs : PlainIx e) (hd : (x == ("__debug__" : Str)) = false := by decide)  (hK : X.K = K' := by rfl) :     DPE X m (.Subscript (.Name x p) e pos) (tOp (rIxD K' X.w) (tC (.ref D)) te) (dGGet kvs de) := by
  subst hK
  exact d_gget (hg := hg) (hm := hm) (G := G) (he := he) (hs := hs) (hd := hd)
theorem t_gin' {K' : PySem.W.Frag} {x : Str} {D : Addr} {kvs : List (Str × PyData)} (hg : Gl X x) (hm : X.mg x = some (.ref D)) (G : GDic X.K X.w D kvs) (he : DPE X m e te de) (hd : (x == ("__debug__" : Str)) = false := by decide)  (hK : X.K = K' := by rfl) :     DPT X m (.Compare e [.In] [.Name x p] pos) (tTest (tOp (rGIn K' D) te (tC (.ref D)))) (dTest (dGIn kvs de)) := by
  subst hK
  exact t_gin (hg := hg) (hm := hm) (G := G) (he := he) (hd := hd)
theorem t_gni' {K' : PySem.W.Frag} {x : Str} {D : Addr} {kvs : List (Str × PyData)} (hg : Gl X x) (hm : X.mg x = some (.ref D)) (G : GDic X.K X.w D kvs) (he : DPE X m e te de) (hd : (x == ("__debug__" : Str)) = false := by decide)  (hK : X.K = K' := by rfl) :     DPT X m (.Compare e [.NotIn] [.Name x p] pos) (tTest (tOp (rGNot K' D) te (tC (.ref D)))) (dTest (dGNot kvs de)) := by
  subst hK
  exact t_gni (hg := hg) (hm := hm) (G := G) (he := he) (hd := hd)
theorem i_enum' {K' : PySem.W.Frag} {tpos : Pos} {elts : List Expr} {kk : Nat} (hg : Gl X "enumerate") (hm : X.mg "enumerate" = none) (ha : DPA X m [e] ua va) (hs : starEach [e] X.env = [(false, eval e X.env)] := by rfl)  (hK : X.K = K' := by rfl) :     DPI X m (.Tuple elts kk tpos) (.Call (.Name "enumerate" p) [e] [] pos) (iEnumA K' ua) (diEnum va) := by
  subst hK
  exact i_enum (hg := hg) (hm := hm) (ha := ha) (hs := hs)
theorem i_zipM' {K' : PySem.W.Frag} {tpos : Pos} {elts : List Expr} {kk : Nat} (hg : Gl X "zip") (hm : X.mg "zip" = none) (ha : DPA X m [e, e2] ua va) (hs : starEach [e, e2] X.env = (false, eval e X.env) :: starEach [e2] X.env := by rfl) (hpl : (backTo pos (starEach [e2] X.env)).any (·.1) = false := by rfl)  (hK : X.K = K' := by rfl) :     DPI X m (.Tuple elts kk tpos) (.Call (.Name "zip" p) [e, e2] [] pos) (iZipB K' ua) (diZipM va) := by
  subst hK
  exact i_zipM (hg := hg) (hm := hm) (ha := ha) (hs := hs) (hpl := hpl)
theorem n_call' {K' : PySem.W.Frag} {k : Nat} {f : Addr} {fd : FuncData} {ps : List Str} {R : DFN} {x : Str} (G : FnG X.prog X.w X.K X.mg X.base CX0 k f fd ps (dspN X.K R)) (hr : Rm k X.A) (hg : Gl X x) (hm : X.mg x = some (.ref f)) (hk : PySem.W.keepIn X.K (.ref f) = true) (hb : Binds X.K fd ps [])
    (ha : DPA X m (e :: es) ua va) (hdb : (x == ("__debug__" : Str)) = false := by decide) (he : starEach (e :: es) X.env = (false, eval e X.env) :: starEach es X.env := by rfl) (hpl : (backTo pos (starEach es X.env)).any (·.1) = false := by rfl)  (hK : X.K = K' := by rfl) :     DPN X m (.Call (.Name x p) (e :: es) [] pos) (tCall (dspN K' R) [] E0 ua) (dCallN R va) := by
  subst hK
  exact n_call (G := G) (hr := hr) (hg := hg) (hm := hm) (hk := hk) (hb := hb) (ha := ha) (hdb := hdb) (he := he) (hpl := hpl)
theorem d_sorted' {K' : PySem.W.Frag} {n : Nat} (hr : Rm n X.A) (hg : Gl X "sorted") (hm : X.mg "sorted" = none) (ha : DPA X m [e] ua va) (he : starEach [e] X.env = (false, eval e X.env) :: starEach [] X.env := by rfl) (hpl : (backTo pos (starEach [] X.env)).any (·.1) = false := by rfl)  (hK : X.K = K' := by rfl) :     DPE X m (.Call (.Name "sorted" p) [e] [] pos) (tCB (rSortA K') ua) (dCB dSorted va) := by
  subst hK
  exact d_sorted (hr := hr) (hg := hg) (hm := hm) (ha := ha) (he := he) (hpl := hpl)
theorem d_minT' {K' : PySem.W.Frag} (hc : X.calm = true) (hg : Gl X "min") (hm : X.mg "min" = none) (ha : DPA X m [e] ua va) (he : starEach [e] X.env = (false, eval e X.env) :: starEach [] X.env := by rfl) (hpl : (backTo pos (starEach [] X.env)).any (·.1) = false := by rfl)  (hK : X.K = K' := by rfl) :     DPE X m (.Call (.Name "min" p) [e] [] pos) (tCB (rMinT K') ua) (dCB dMinT va) := by
  subst hK
  exact d_minT (hc := hc) (hg := hg) (hm := hm) (ha := ha) (he := he) (hpl := hpl)
theorem d_sortSet' {K' : PySem.W.Frag} (hc : X.calm = true) (hg : Gl X "sorted") (hm : X.mg "sorted" = none) (hg2 : Gl X "set") (hm2 : X.mg "set" = none) (h : DPE X m e te de)
    (he : starEach [e] X.env = (false, eval e X.env) :: starEach [] X.env := by rfl) (hpl : (backTo pos2 (starEach [] X.env)).any (·.1) = false := by rfl)
    (he2 : starEach [.Call (.Name "set" p2) [e] [] pos2] X.env = (false, eval (.Call (.Name "set" p2) [e] [] pos2) X.env) :: starEach [] X.env := by rfl) (hpl2 : (backTo pos (starEach [] X.env)).any (·.1) = false := by rfl)  (hK : X.K = K' := by rfl) :     DPE X m (.Call (.Name "sorted" p) [.Call (.Name "set" p2) [e] [] pos2] [] pos) (tCB (rSortedSet X.w) (tCons (tCB (rSetI K' X.w) (tCons te tNil)) tNil)) (dSortSet de) := by
  subst hK
  exact d_sortSet (hc := hc) (hg := hg) (hm := hm) (hg2 := hg2) (hm2 := hm2) (h := h) (he := he) (hpl := hpl) (he2 := he2) (hpl2 := hpl2)
theorem d_sumA' {K' : PySem.W.Frag} (hc : X.calm = true) (hg : Gl X "sum") (hm : X.mg "sum" = none) (ha : DPA X m [e] ua va) (he : starEach [e] X.env = (false, eval e X.env) :: starEach [] X.env := by rfl) (hpl : (backTo pos (starEach [] X.env)).any (·.1) = false := by rfl)  (hK : X.K = K' := by rfl) :     DPE X m (.Call (.Name "sum" p) [e] [] pos) (tCB (rSumA K') ua) (dCB dSumA va) := by
  subst hK
  exact d_sumA (hc := hc) (hg := hg) (hm := hm) (ha := ha) (he := he) (hpl := hpl)
end
end DL

/-! ==== W02 ==== -/
set_option Elab.async false
set_option linter.all false
set_option maxRecDepth 100000
set_option maxHeartbeats 0
set_option synthInstance.maxHeartbeats 0
set_option synthInstance.maxSize 1000000
namespace LW
open PySem PySem.Spec PyProof.Rows L2 DL
abbrev top (i : Nat) : Stmt := PySem.Challenge.pw_weylweights_k02_matrices_of_anything_and.main.body.getD i (.Pass ⟨0, 0, 0, 0⟩)
abbrev s_is_whole : Stmt := top 1
abbrev s_is_row_of : Stmt := top 4
abbrev s_is_cartan : Stmt := top 5
abbrev s_joined_to : Stmt := top 6
abbrev s_all_parts : Stmt := top 7
abbrev s_dot : Stmt := top 8
abbrev s_product_by : Stmt := top 9
abbrev s_check_matrix : Stmt := top 15
abbrev s_check_vector : Stmt := top 16
abbrev s_is_matrix : Stmt := top 18
abbrev s_parts_of : Stmt := top 19
abbrev s_times_vector : Stmt := top 20
abbrev s__law_pot : Stmt := top 22
abbrev s__law_draw : Stmt := top 23
abbrev s__law_pick : Stmt := top 24
abbrev s__law_mixed : Stmt := top 25
abbrev s__law_gcd : Stmt := top 26
abbrev s__law_is_whole : Stmt := top 27
abbrev s__law_is_row : Stmt := top 28
abbrev s__law_is_cartan : Stmt := top 29
abbrev s__law_odd : Stmt := top 30
abbrev s__law_names : Stmt := top 31
abbrev s__law_single : Stmt := top 32
abbrev s__law_blocks : Stmt := top 33
abbrev s__law_type : Stmt := top 34
abbrev s__law_led_nodes : Stmt := top 35
abbrev s__law_matrix : Stmt := top 36
abbrev s__law_parts : Stmt := top 37
abbrev s__law_reflected : Stmt := top 38
abbrev s__law_simple : Stmt := top 39
abbrev s__law_positive : Stmt := top 40
abbrev s__law_lean : Stmt := top 41
abbrev s__law_symmetrizer : Stmt := top 42
abbrev s__law_form : Stmt := top 43
abbrev s__law_number : Stmt := top 44
abbrev s__law_vector : Stmt := top 45
abbrev s__law_wild : Stmt := top 46
abbrev s__law_longer : Stmt := top 47
abbrev s__law_put_together : Stmt := top 48
abbrev s__law_any_cartan : Stmt := top 49
abbrev s__law_bent : Stmt := top 50
abbrev s__law_right : Stmt := top 51
abbrev s_law : Stmt := top 52
def N__law_draw : List Str := ["_law_pot_here", "_law_few", "_law_digit"]
theorem sc__law_draw : FnScope N__law_draw ["_law_pot_here", "_law_few"] (defScope s__law_draw) := ⟨rfl, rfl, rfl, by decide +kernel, rfl, by decide +kernel, by decide +kernel⟩
/-! ### is_whole -/
def N_is_whole : List Str := ["value"]
theorem sc_is_whole : FnScope N_is_whole ["value"] (defScope s_is_whole) := ⟨rfl, rfl, rfl, by decide +kernel, rfl, by decide +kernel, by decide +kernel⟩
def ds_is_whole : DS := (dRet (dAnd (dIsi "int" (dVar 0)) (dNot (dIsi "bool" (dVar 0)))))
def R_is_whole : DF := Rof N_is_whole 1 ds_is_whole
def cs_is_whole : CS := (cRet (cAnd (cIsi "int" (cVar 0)) (cNot (cIsi "bool" (cVar 0)))))
instance ev_is_whole : EvS ds_is_whole cs_is_whole := by
  unfold ds_is_whole cs_is_whole
  infer_instance
def c_is_whole : CF := cRof N_is_whole 1 cs_is_whole
instance evf_is_whole : EvF R_is_whole c_is_whole := by
  unfold R_is_whole c_is_whole
  infer_instance
/-! ### is_row_of -/
def N_is_row_of : List Str := ["value", "many", "each"]
theorem sc_is_row_of : FnScope N_is_row_of ["value", "many"] (defScope s_is_row_of) := ⟨rfl, rfl, rfl, by decide +kernel, rfl, by decide +kernel, by decide +kernel⟩
def ds_is_row_of : DS := (dRet (dAnd (dIsi "tuple" (dVar 0)) (dAnd (dOp dEq (dCB dLen (dCons (dVar 0) dNil)) (dVar 1)) (dCB dAll (dCons (dNE (dLc (diTup (dVar 0)) (dgName 2) dYes (dCall R_is_whole (dCons (dVar 2) dNil)) [2])) dNil)))))
def R_is_row_of : DF := Rof N_is_row_of 2 ds_is_row_of
def cs_is_row_of : CS := (cRet (cAnd (cIsi "tuple" (cVar 0)) (cAnd (cOp cEq (cCB cLen (cCons (cVar 0) cNil)) (cVar 1)) (cCB cAll (cCons (cNE (cLc (ciTup (cVar 0)) (cgName 2) cYes (cCall c_is_whole (cCons (cVar 2) cNil)) [2])) cNil)))))
instance ev_is_row_of : EvS ds_is_row_of cs_is_row_of := by
  unfold ds_is_row_of cs_is_row_of
  infer_instance
def c_is_row_of : CF := cRof N_is_row_of 2 cs_is_row_of
instance evf_is_row_of : EvF R_is_row_of c_is_row_of := by
  unfold R_is_row_of c_is_row_of
  infer_instance
/-! ### is_cartan -/
def N_is_cartan : List Str := ["value", "at", "row", "to", "number"]
theorem sc_is_cartan : FnScope N_is_cartan ["value"] (defScope s_is_cartan) := ⟨rfl, rfl, rfl, by decide +kernel, rfl, by decide +kernel, by decide +kernel⟩
def ds_is_cartan : DS := (dSeq (dIfS (dOrT (dNotT (dTest (dIsi "tuple" (dVar 0)))) (dNotT (dTest (dChain dLe dLe (dC (.int 1)) (dCB dLen (dCons (dVar 0) dNil)) (dC (.int 8)))))) (dRet (dC (.bool false))) dNext) (dSeq (dIfS (dNotT (dTest (dCB dAll (dCons (dNE (dLc (diTup (dVar 0)) (dgName 2) dYes (dCall R_is_row_of (dCons (dVar 2) (dCons (dCB dLen (dCons (dVar 0) dNil)) dNil))) [2])) dNil)))) (dRet (dC (.bool false))) dNext) (dSeq (dFor (diEnum (dCons (dVar 0) dNil)) (dgTup (dgCons (dgName 1) (dgCons (dgName 2) dgNil))) (dFor (diEnum (dCons (dVar 2) dNil)) (dgTup (dgCons (dgName 3) (dgCons (dgName 4) dgNil))) (dIfS (dOrT (dAndT (dTest (dOp dEq (dVar 1) (dVar 3))) (dTest (dOp dNe (dVar 4) (dC (.int 2))))) (dAndT (dTest (dOp dNe (dVar 1) (dVar 3))) (dOrT (dTest (dOp dGt (dVar 4) (dC (.int 0)))) (dTest (dOp dNe (dOp dEq (dVar 4) (dC (.int 0))) (dOp dEq (dOp dIx (dOp dIx (dVar 0) (dVar 3)) (dVar 1)) (dC (.int 0)))))))) (dRet (dC (.bool false))) dNext))) (dRet (dC (.bool true))))))
def R_is_cartan : DF := Rof N_is_cartan 1 ds_is_cartan
def cs_is_cartan : CS := (cSeq (cIfS (cOrT (cNotT (cTest (cIsi "tuple" (cVar 0)))) (cNotT (cTest (cChain cLe cLe (cC (.int 1)) (cCB cLen (cCons (cVar 0) cNil)) (cC (.int 8)))))) (cRet (cC (.bool false))) cNext) (cSeq (cIfS (cNotT (cTest (cCB cAll (cCons (cNE (cLc (ciTup (cVar 0)) (cgName 2) cYes (cCall c_is_row_of (cCons (cVar 2) (cCons (cCB cLen (cCons (cVar 0) cNil)) cNil))) [2])) cNil)))) (cRet (cC (.bool false))) cNext) (cSeq (cFor (ciEnum (cCons (cVar 0) cNil)) (cgTup (cgCons (cgName 1) (cgCons (cgName 2) cgNil))) (cFor (ciEnum (cCons (cVar 2) cNil)) (cgTup (cgCons (cgName 3) (cgCons (cgName 4) cgNil))) (cIfS (cOrT (cAndT (cTest (cOp cEq (cVar 1) (cVar 3))) (cTest (cOp cNe (cVar 4) (cC (.int 2))))) (cAndT (cTest (cOp cNe (cVar 1) (cVar 3))) (cOrT (cTest (cOp cGt (cVar 4) (cC (.int 0)))) (cTest (cOp cNe (cOp cEq (cVar 4) (cC (.int 0))) (cOp cEq (cOp cIx (cOp cIx (cVar 0) (cVar 3)) (cVar 1)) (cC (.int 0)))))))) (cRet (cC (.bool false))) cNext))) (cRet (cC (.bool true))))))
instance ev_is_cartan : EvS ds_is_cartan cs_is_cartan := by
  unfold ds_is_cartan cs_is_cartan
  infer_instance
def c_is_cartan : CF := cRof N_is_cartan 1 cs_is_cartan
instance evf_is_cartan : EvF R_is_cartan c_is_cartan := by
  unfold R_is_cartan c_is_cartan
  infer_instance
/-! ### joined_to -/
def N_joined_to : List Str := ["matrix", "node", "found", "left", "here", "other", "number"]
theorem sc_joined_to : FnScope N_joined_to ["matrix", "node"] (defScope s_joined_to) := ⟨rfl, rfl, rfl, by decide +kernel, rfl, by decide +kernel, by decide +kernel⟩
def ds_joined_to : DS := (dSeq (dParO [2, 3] (dConsX (dXC1 (dVar 1) (dC (.bool true))) (dConsN (dLstN (dCons (dVar 1) dNil)) dNil))) (dSeq (dWhile (dTest (dOp dNe (dVar 3) (dLst dNil))) (dSeq (dPop 4 3) (dFor (diEnum (dCons (dOp dIx (dVar 0) (dVar 4)) dNil)) (dgTup (dgCons (dgName 5) (dgCons (dgName 6) dgNil))) (dIfS (dAndT (dTest (dOp dNe (dVar 6) (dC (.int 0)))) (dTest (dDIn not 2 (dVar 5)))) (dSeq (dDPut 2 (dVar 5) (dC (.bool true))) (dApp 3 (dVar 5))) dNext)))) (dRet (dCB dTupC (dCons (dCB dSortDI (dCons (dVar 2) dNil)) dNil)))))
def R_joined_to : DF := Rof N_joined_to 2 ds_joined_to
/-! ### all_parts -/
def N_all_parts : List Str := ["matrix", "found", "node", "part"]
theorem sc_all_parts : FnScope N_all_parts ["matrix"] (defScope s_all_parts) := ⟨rfl, rfl, rfl, by decide +kernel, rfl, by decide +kernel, by decide +kernel⟩
def ds_all_parts : DS := (dSeq (dSetN 1 (dLstN dNil)) (dSeq (dFor (diRng1 (dCons (dCB dLen (dCons (dVar 0) dNil)) dNil)) (dgName 2) (dSeq (dSet 3 (dCall R_joined_to (dCons (dVar 0) (dCons (dVar 2) dNil)))) (dIfS (dTest (dOp dEq (dOp dIx (dVar 3) (dC (.int 0))) (dVar 2))) (dApp 1 (dVar 3)) dNext))) (dFrz 1 (dRet (dCB dTupC (dCons (dVar 1) dNil))))))
def R_all_parts : DF := Rof N_all_parts 1 ds_all_parts
/-! ### dot -/
def N_dot : List Str := ["row", "vector", "one", "two"]
theorem sc_dot : FnScope N_dot ["row", "vector"] (defScope s_dot) := ⟨rfl, rfl, rfl, by decide +kernel, rfl, by decide +kernel, by decide +kernel⟩
def ds_dot : DS := (dRet (dCB dSumA (dCons (dNE (dLc (diZipM (dCons (dVar 0) (dCons (dVar 1) dNil))) (dgTup (dgCons (dgName 2) (dgCons (dgName 3) dgNil))) dYes (dOp dMul (dVar 2) (dVar 3)) [2, 3])) dNil)))
def R_dot : DF := Rof N_dot 2 ds_dot
def cs_dot : CS := (cRet (cCB cSumA (cCons (cNE (cLc (ciZipM (cCons (cVar 0) (cCons (cVar 1) cNil))) (cgTup (cgCons (cgName 2) (cgCons (cgName 3) cgNil))) cYes (cOp cMul (cVar 2) (cVar 3)) [2, 3])) cNil)))
instance ev_dot : EvS ds_dot cs_dot := by
  unfold ds_dot cs_dot
  infer_instance
def c_dot : CF := cRof N_dot 2 cs_dot
instance evf_dot : EvF R_dot c_dot := by
  unfold R_dot c_dot
  infer_instance
/-! ### product_by -/
def N_product_by : List Str := ["matrix", "vector", "row"]
theorem sc_product_by : FnScope N_product_by ["matrix", "vector"] (defScope s_product_by) := ⟨rfl, rfl, rfl, by decide +kernel, rfl, by decide +kernel, by decide +kernel⟩
def ds_product_by : DS := (dRet (dCB dTupC (dCons (dNE (dLc (diTup (dVar 0)) (dgName 2) dYes (dCall R_dot (dCons (dVar 2) (dCons (dVar 1) dNil))) [2])) dNil)))
def R_product_by : DF := Rof N_product_by 2 ds_product_by
def cs_product_by : CS := (cRet (cCB cTupC (cCons (cNE (cLc (ciTup (cVar 0)) (cgName 2) cYes (cCall c_dot (cCons (cVar 2) (cCons (cVar 1) cNil))) [2])) cNil)))
instance ev_product_by : EvS ds_product_by cs_product_by := by
  unfold ds_product_by cs_product_by
  infer_instance
def c_product_by : CF := cRof N_product_by 2 cs_product_by
instance evf_product_by : EvF R_product_by c_product_by := by
  unfold R_product_by c_product_by
  infer_instance
/-! ### check_matrix -/
def N_check_matrix : List Str := ["value"]
theorem sc_check_matrix : FnScope N_check_matrix ["value"] (defScope s_check_matrix) := ⟨rfl, rfl, rfl, by decide +kernel, rfl, by decide +kernel, by decide +kernel⟩
def ds_check_matrix : DS := (dIfS (dNotT (dTest (dCall R_is_cartan (dCons (dVar 0) dNil)))) dNever dNext)
def R_check_matrix : DF := Rof N_check_matrix 1 ds_check_matrix
def cs_check_matrix : CS := (cIfS (cNotT (cTest (cCall c_is_cartan (cCons (cVar 0) cNil)))) cNever cNext)
instance ev_check_matrix : EvS ds_check_matrix cs_check_matrix := by
  unfold ds_check_matrix cs_check_matrix
  infer_instance
def c_check_matrix : CF := cRof N_check_matrix 1 cs_check_matrix
instance evf_check_matrix : EvF R_check_matrix c_check_matrix := by
  unfold R_check_matrix c_check_matrix
  infer_instance
/-! ### check_vector -/
def N_check_vector : List Str := ["matrix", "value"]
theorem sc_check_vector : FnScope N_check_vector ["matrix", "value"] (defScope s_check_vector) := ⟨rfl, rfl, rfl, by decide +kernel, rfl, by decide +kernel, by decide +kernel⟩
def ds_check_vector : DS := (dIfS (dNotT (dTest (dCall R_is_row_of (dCons (dVar 1) (dCons (dCB dLen (dCons (dVar 0) dNil)) dNil))))) dNever dNext)
def R_check_vector : DF := Rof N_check_vector 2 ds_check_vector
def cs_check_vector : CS := (cIfS (cNotT (cTest (cCall c_is_row_of (cCons (cVar 1) (cCons (cCB cLen (cCons (cVar 0) cNil)) cNil))))) cNever cNext)
instance ev_check_vector : EvS ds_check_vector cs_check_vector := by
  unfold ds_check_vector cs_check_vector
  infer_instance
def c_check_vector : CF := cRof N_check_vector 2 cs_check_vector
instance evf_check_vector : EvF R_check_vector c_check_vector := by
  unfold R_check_vector c_check_vector
  infer_instance
/-! ### is_matrix -/
def N_is_matrix : List Str := ["value"]
theorem sc_is_matrix : FnScope N_is_matrix ["value"] (defScope s_is_matrix) := ⟨rfl, rfl, rfl, by decide +kernel, rfl, by decide +kernel, by decide +kernel⟩
def ds_is_matrix : DS := (dRet (dCall R_is_cartan (dCons (dVar 0) dNil)))
def R_is_matrix : DF := Rof N_is_matrix 1 ds_is_matrix
def cs_is_matrix : CS := (cRet (cCall c_is_cartan (cCons (cVar 0) cNil)))
instance ev_is_matrix : EvS ds_is_matrix cs_is_matrix := by
  unfold ds_is_matrix cs_is_matrix
  infer_instance
def c_is_matrix : CF := cRof N_is_matrix 1 cs_is_matrix
instance evf_is_matrix : EvF R_is_matrix c_is_matrix := by
  unfold R_is_matrix c_is_matrix
  infer_instance
/-! ### parts_of -/
def N_parts_of : List Str := ["matrix"]
theorem sc_parts_of : FnScope N_parts_of ["matrix"] (defScope s_parts_of) := ⟨rfl, rfl, rfl, by decide +kernel, rfl, by decide +kernel, by decide +kernel⟩
def ds_parts_of : DS := (dSeq (dDrop (dCall R_check_matrix (dCons (dVar 0) dNil))) (dRet (dCall R_all_parts (dCons (dVar 0) dNil))))
def R_parts_of : DF := Rof N_parts_of 1 ds_parts_of
/-! ### times_vector -/
def N_times_vector : List Str := ["matrix", "vector"]
theorem sc_times_vector : FnScope N_times_vector ["matrix", "vector"] (defScope s_times_vector) := ⟨rfl, rfl, rfl, by decide +kernel, rfl, by decide +kernel, by decide +kernel⟩
def ds_times_vector : DS := (dSeq (dDrop (dCall R_check_matrix (dCons (dVar 0) dNil))) (dSeq (dDrop (dCall R_check_vector (dCons (dVar 0) (dCons (dVar 1) dNil)))) (dRet (dCall R_product_by (dCons (dVar 0) (dCons (dVar 1) dNil))))))
def R_times_vector : DF := Rof N_times_vector 2 ds_times_vector
def cs_times_vector : CS := (cSeq (cDrop (cCall c_check_matrix (cCons (cVar 0) cNil))) (cSeq (cDrop (cCall c_check_vector (cCons (cVar 0) (cCons (cVar 1) cNil)))) (cRet (cCall c_product_by (cCons (cVar 0) (cCons (cVar 1) cNil))))))
instance ev_times_vector : EvS ds_times_vector cs_times_vector := by
  unfold ds_times_vector cs_times_vector
  infer_instance
def c_times_vector : CF := cRof N_times_vector 2 cs_times_vector
instance evf_times_vector : EvF R_times_vector c_times_vector := by
  unfold R_times_vector c_times_vector
  infer_instance
/-! ### _law_pick -/
def N__law_pick : List Str := ["_law_pot_here", "_law_some"]
theorem sc__law_pick : FnScope N__law_pick ["_law_pot_here", "_law_some"] (defScope s__law_pick) := ⟨rfl, rfl, rfl, by decide +kernel, rfl, by decide +kernel, by decide +kernel⟩
def ds__law_pick : DS := (dRet (dOp dIx (dVar 1) (dCall Rdraw (dCons (dVar 0) (dCons (dCB dLen (dCons (dVar 1) dNil)) dNil)))))
def R__law_pick : DF := Rof N__law_pick 2 ds__law_pick
/-! ### _law_mixed -/
def N__law_mixed : List Str := ["_law_pot_here", "_law_some", "_law_left", "_law_found", "_law_turn", "_law_at"]
theorem sc__law_mixed : FnScope N__law_mixed ["_law_pot_here", "_law_some"] (defScope s__law_mixed) := ⟨rfl, rfl, rfl, by decide +kernel, rfl, by decide +kernel, by decide +kernel⟩
def ds__law_mixed : DS := (dSeq (dParO [2, 3] (dConsO (dCB dLstC (dCons (dVar 1) dNil)) (dConsN (dLstN dNil) dNil))) (dSeq (dFor (diRng1 (dCons (dCB dLen (dCons (dVar 1) dNil)) dNil)) (dgName 4) (dSeq (dSet 5 (dCall Rdraw (dCons (dVar 0) (dCons (dCB dLen (dCons (dVar 2) dNil)) dNil)))) (dSeq (dApp 3 (dOp dIx (dVar 2) (dVar 5))) (dSet 2 (dOp dAdd (dSl (dVar 2) dNoPart (dPart (dVar 5))) (dSl (dVar 2) (dPart (dOp dAdd (dVar 5) (dC (.int 1)))) dNoPart)))))) (dRet (dVar 3))))
def R__law_mixed : DF := Rof N__law_mixed 2 ds__law_mixed
/-! ### _law_gcd -/
def N__law_gcd : List Str := ["_law_one", "_law_two", "_law_high", "_law_low", "_law_turn"]
theorem sc__law_gcd : FnScope N__law_gcd ["_law_one", "_law_two"] (defScope s__law_gcd) := ⟨rfl, rfl, rfl, by decide +kernel, rfl, by decide +kernel, by decide +kernel⟩
def ds__law_gcd : DS := (dSeq (dPar 2 3 (dCons (dCB dAbs (dCons (dVar 0) dNil)) (dCons (dCB dAbs (dCons (dVar 1) dNil)) dNil))) (dSeq (dFor (diRng1 (dCons (dC (.int 9000)) dNil)) (dgName 4) (dSeq (dIfS (dTest (dOp dEq (dVar 3) (dC (.int 0)))) dBreak dNext) (dPar 2 3 (dCons (dVar 3) (dCons (dOp dMdo (dCB dInt (dCons (dVar 2) dNil)) (dVar 3)) dNil))))) (dRet (dVar 2))))
def R__law_gcd : DF := Rof N__law_gcd 2 ds__law_gcd
def cs__law_gcd : CS := (cSeq (cPar 2 3 (cCons (cCB cAbs (cCons (cVar 0) cNil)) (cCons (cCB cAbs (cCons (cVar 1) cNil)) cNil))) (cSeq (cFor (ciRng1 (cCons (cC (.int 9000)) cNil)) (cgName 4) (cSeq (cIfS (cTest (cOp cEq (cVar 3) (cC (.int 0)))) cBreak cNext) (cPar 2 3 (cCons (cVar 3) (cCons (cOp cMdo (cCB cInt (cCons (cVar 2) cNil)) (cVar 3)) cNil))))) (cRet (cVar 2))))
instance ev__law_gcd : EvS ds__law_gcd cs__law_gcd := by
  unfold ds__law_gcd cs__law_gcd
  infer_instance
def c__law_gcd : CF := cRof N__law_gcd 2 cs__law_gcd
instance evf__law_gcd : EvF R__law_gcd c__law_gcd := by
  unfold R__law_gcd c__law_gcd
  infer_instance
/-! ### _law_is_whole -/
def N__law_is_whole : List Str := ["_law_value"]
theorem sc__law_is_whole : FnScope N__law_is_whole ["_law_value"] (defScope s__law_is_whole) := ⟨rfl, rfl, rfl, by decide +kernel, rfl, by decide +kernel, by decide +kernel⟩
def ds__law_is_whole : DS := (dRet (dAnd (dIsi "int" (dVar 0)) (dNot (dIsi "bool" (dVar 0)))))
def R__law_is_whole : DF := Rof N__law_is_whole 1 ds__law_is_whole
def cs__law_is_whole : CS := (cRet (cAnd (cIsi "int" (cVar 0)) (cNot (cIsi "bool" (cVar 0)))))
instance ev__law_is_whole : EvS ds__law_is_whole cs__law_is_whole := by
  unfold ds__law_is_whole cs__law_is_whole
  infer_instance
def c__law_is_whole : CF := cRof N__law_is_whole 1 cs__law_is_whole
instance evf__law_is_whole : EvF R__law_is_whole c__law_is_whole := by
  unfold R__law_is_whole c__law_is_whole
  infer_instance
/-! ### _law_is_row -/
def N__law_is_row : List Str := ["_law_value", "_law_many", "_law_each"]
theorem sc__law_is_row : FnScope N__law_is_row ["_law_value", "_law_many"] (defScope s__law_is_row) := ⟨rfl, rfl, rfl, by decide +kernel, rfl, by decide +kernel, by decide +kernel⟩
def ds__law_is_row : DS := (dRet (dAnd (dIsi "tuple" (dVar 0)) (dAnd (dOp dEq (dCB dLen (dCons (dVar 0) dNil)) (dVar 1)) (dCB dAll (dCons (dNE (dLc (diTup (dVar 0)) (dgName 2) dYes (dCall R__law_is_whole (dCons (dVar 2) dNil)) [2])) dNil)))))
def R__law_is_row : DF := Rof N__law_is_row 2 ds__law_is_row
def cs__law_is_row : CS := (cRet (cAnd (cIsi "tuple" (cVar 0)) (cAnd (cOp cEq (cCB cLen (cCons (cVar 0) cNil)) (cVar 1)) (cCB cAll (cCons (cNE (cLc (ciTup (cVar 0)) (cgName 2) cYes (cCall c__law_is_whole (cCons (cVar 2) cNil)) [2])) cNil)))))
instance ev__law_is_row : EvS ds__law_is_row cs__law_is_row := by
  unfold ds__law_is_row cs__law_is_row
  infer_instance
def c__law_is_row : CF := cRof N__law_is_row 2 cs__law_is_row
instance evf__law_is_row : EvF R__law_is_row c__law_is_row := by
  unfold R__law_is_row c__law_is_row
  infer_instance
/-! ### _law_is_cartan -/
def N__law_is_cartan : List Str := ["_law_value", "_law_many", "_law_i", "_law_j", "_law_row"]
theorem sc__law_is_cartan : FnScope N__law_is_cartan ["_law_value"] (defScope s__law_is_cartan) := ⟨rfl, rfl, rfl, by decide +kernel, rfl, by decide +kernel, by decide +kernel⟩
def ds__law_is_cartan : DS := (dSeq (dIfS (dOrT (dNotT (dTest (dIsi "tuple" (dVar 0)))) (dNotT (dTest (dChain dLe dLe (dC (.int 1)) (dCB dLen (dCons (dVar 0) dNil)) (dC (.int 8)))))) (dRet (dC (.bool false))) dNext) (dSeq (dSet 1 (dCB dLen (dCons (dVar 0) dNil))) (dSeq (dIfS (dNotT (dTest (dCB dAll (dCons (dNE (dLc (diTup (dVar 0)) (dgName 4) dYes (dCall R__law_is_row (dCons (dVar 4) (dCons (dVar 1) dNil))) [4])) dNil)))) (dRet (dC (.bool false))) dNext) (dSeq (dFor (diRng1 (dCons (dVar 1) dNil)) (dgName 2) (dFor (diRng1 (dCons (dVar 1) dNil)) (dgName 3) (dSeq (dIfS (dOrT (dAndT (dTest (dOp dEq (dVar 2) (dVar 3))) (dTest (dOp dNe (dOp dIx (dOp dIx (dVar 0) (dVar 2)) (dVar 3)) (dC (.int 2))))) (dAndT (dTest (dOp dNe (dVar 2) (dVar 3))) (dTest (dOp dGt (dOp dIx (dOp dIx (dVar 0) (dVar 2)) (dVar 3)) (dC (.int 0)))))) (dRet (dC (.bool false))) dNext) (dIfS (dTest (dOp dNe (dOp dEq (dOp dIx (dOp dIx (dVar 0) (dVar 2)) (dVar 3)) (dC (.int 0))) (dOp dEq (dOp dIx (dOp dIx (dVar 0) (dVar 3)) (dVar 2)) (dC (.int 0))))) (dRet (dC (.bool false))) dNext)))) (dRet (dC (.bool true)))))))
def R__law_is_cartan : DF := Rof N__law_is_cartan 1 ds__law_is_cartan
def cs__law_is_cartan : CS := (cSeq (cIfS (cOrT (cNotT (cTest (cIsi "tuple" (cVar 0)))) (cNotT (cTest (cChain cLe cLe (cC (.int 1)) (cCB cLen (cCons (cVar 0) cNil)) (cC (.int 8)))))) (cRet (cC (.bool false))) cNext) (cSeq (cSet 1 (cCB cLen (cCons (cVar 0) cNil))) (cSeq (cIfS (cNotT (cTest (cCB cAll (cCons (cNE (cLc (ciTup (cVar 0)) (cgName 4) cYes (cCall c__law_is_row (cCons (cVar 4) (cCons (cVar 1) cNil))) [4])) cNil)))) (cRet (cC (.bool false))) cNext) (cSeq (cFor (ciRng1 (cCons (cVar 1) cNil)) (cgName 2) (cFor (ciRng1 (cCons (cVar 1) cNil)) (cgName 3) (cSeq (cIfS (cOrT (cAndT (cTest (cOp cEq (cVar 2) (cVar 3))) (cTest (cOp cNe (cOp cIx (cOp cIx (cVar 0) (cVar 2)) (cVar 3)) (cC (.int 2))))) (cAndT (cTest (cOp cNe (cVar 2) (cVar 3))) (cTest (cOp cGt (cOp cIx (cOp cIx (cVar 0) (cVar 2)) (cVar 3)) (cC (.int 0)))))) (cRet (cC (.bool false))) cNext) (cIfS (cTest (cOp cNe (cOp cEq (cOp cIx (cOp cIx (cVar 0) (cVar 2)) (cVar 3)) (cC (.int 0))) (cOp cEq (cOp cIx (cOp cIx (cVar 0) (cVar 3)) (cVar 2)) (cC (.int 0))))) (cRet (cC (.bool false))) cNext)))) (cRet (cC (.bool true)))))))
instance ev__law_is_cartan : EvS ds__law_is_cartan cs__law_is_cartan := by
  unfold ds__law_is_cartan cs__law_is_cartan
  infer_instance
def c__law_is_cartan : CF := cRof N__law_is_cartan 1 cs__law_is_cartan
instance evf__law_is_cartan : EvF R__law_is_cartan c__law_is_cartan := by
  unfold R__law_is_cartan c__law_is_cartan
  infer_instance
/-! ### _law_odd -/
def N__law_odd : List Str := ["_law_pot_here", "_law_some", "_law_more"]
theorem sc__law_odd : FnScope N__law_odd ["_law_pot_here"] (defScope s__law_odd) := ⟨rfl, rfl, rfl, by decide +kernel, rfl, by decide +kernel, by decide +kernel⟩
def ds__law_odd : DS := (dSeq (dSet 1 (dLst (dCons (dC .none) (dCons (dC (.bool true)) (dCons (dC (.bool false)) (dCons (dC (.int 0)) (dCons (dC (.int 1)) (dCons (dNeg (dC (.int 1))) (dCons (dC (.int 2)) (dCons (dOp dPwr (dC (.int 10)) (dC (.int 30))) (dCons (dC (.str "")) (dCons (dC (.str "A2")) (dCons (dC (.str "x")) (dCons (dTup dNil) (dCons (dTup (dCons (dC (.int 2)) dNil)) (dCons (dTup (dCons (dTup (dCons (dC (.int 2)) dNil)) dNil)) (dCons (dTup (dCons (dTup (dCons (dC (.int 2)) (dCons (dC (.int 0)) dNil))) (dCons (dTup (dCons (dC (.int 0)) (dCons (dC (.int 2)) dNil))) dNil))) (dCons (dTup (dCons (dC (.int 0)) (dCons (dC (.int 1)) dNil))) (dCons (dTup (dCons (dC (.int 1)) (dCons (dC (.int 0)) dNil))) dNil))))))))))))))))))) (dSeq (dSet 2 (dLst (dCons (dLst dNil) (dCons (dLst (dCons (dLst (dCons (dC (.int 2)) dNil)) dNil)) (dCons (dC (.dict [])) (dCons (dTup (dCons (dTup (dCons (dC (.int 2)) (dCons (dNeg (dC (.int 1))) dNil))) (dCons (dTup (dCons (dNeg (dC (.int 1))) dNil)) dNil))) (dCons (dTup (dCons (dTup (dCons (dC (.bool true)) dNil)) dNil)) (dCons (dTup (dCons (dC .none) dNil)) (dCons (dTup (dCons (dC (.str "0")) dNil)) (dCons (dTup (dCons (dTup (dCons (dC (.int 1)) (dCons (dC (.int 2)) dNil))) (dCons (dC (.int 3)) dNil))) (dCons (dTup (dCons (dC (.int 0)) (dCons (dC (.int 0)) dNil))) (dCons (dTup (dCons (dNeg (dC (.int 1))) (dCons (dC (.int 0)) dNil))) (dCons (dTup (dCons (dC (.int 1)) (dCons (dC (.int 1)) (dCons (dC (.int 1)) dNil)))) (dCons (dTup (dCons (dC (.bool true)) (dCons (dC (.int 0)) dNil))) dNil)))))))))))))) (dRet (dCall R__law_pick (dCons (dVar 0) (dCons (dOp dAdd (dVar 1) (dVar 2)) dNil))))))
def R__law_odd : DF := Rof N__law_odd 1 ds__law_odd
/-! ### _law_names -/
def N__law_names : List Str := ["_law_many", "_law_found", "_law_letter"]
theorem sc__law_names : FnScope N__law_names ["_law_many"] (defScope s__law_names) := ⟨rfl, rfl, rfl, by decide +kernel, rfl, by decide +kernel, by decide +kernel⟩
def ds__law_names : DS := (dSeq (dSet 1 (dOp dAdd (dOp dAdd (dOp dAdd (dLst (dCons (dC (.str "A")) dNil)) (dIf (dTest (dOp dGt (dVar 0) (dC (.int 1)))) (dLst (dCons (dC (.str "B")) dNil)) (dLst dNil))) (dIf (dTest (dOp dGt (dVar 0) (dC (.int 2)))) (dLst (dCons (dC (.str "C")) dNil)) (dLst dNil))) (dIf (dTest (dOp dGt (dVar 0) (dC (.int 3)))) (dLst (dCons (dC (.str "D")) dNil)) (dLst dNil)))) (dSeq (dSet 1 (dOp dAdd (dOp dAdd (dOp dAdd (dVar 1) (dIf (dTest (dOp dIn (dVar 0) (dTup (dCons (dC (.int 6)) (dCons (dC (.int 7)) (dCons (dC (.int 8)) dNil)))))) (dLst (dCons (dC (.str "E")) dNil)) (dLst dNil))) (dIf (dTest (dOp dEq (dVar 0) (dC (.int 4)))) (dLst (dCons (dC (.str "F")) dNil)) (dLst dNil))) (dIf (dTest (dOp dEq (dVar 0) (dC (.int 2)))) (dLst (dCons (dC (.str "G")) dNil)) (dLst dNil)))) (dRet (dNE (dLc (diList (dVar 1)) (dgName 2) dYes (dOp dAdd (dVar 2) (dCB dStrI (dCons (dVar 0) dNil))) [2])))))
def R__law_names : DF := Rof N__law_names 1 ds__law_names
def cs__law_names : CS := (cSeq (cSet 1 (cOp cAdd (cOp cAdd (cOp cAdd (cLst (cCons (cC (.str "A")) cNil)) (cIf (cTest (cOp cGt (cVar 0) (cC (.int 1)))) (cLst (cCons (cC (.str "B")) cNil)) (cLst cNil))) (cIf (cTest (cOp cGt (cVar 0) (cC (.int 2)))) (cLst (cCons (cC (.str "C")) cNil)) (cLst cNil))) (cIf (cTest (cOp cGt (cVar 0) (cC (.int 3)))) (cLst (cCons (cC (.str "D")) cNil)) (cLst cNil)))) (cSeq (cSet 1 (cOp cAdd (cOp cAdd (cOp cAdd (cVar 1) (cIf (cTest (cOp cIn (cVar 0) (cTup (cCons (cC (.int 6)) (cCons (cC (.int 7)) (cCons (cC (.int 8)) cNil)))))) (cLst (cCons (cC (.str "E")) cNil)) (cLst cNil))) (cIf (cTest (cOp cEq (cVar 0) (cC (.int 4)))) (cLst (cCons (cC (.str "F")) cNil)) (cLst cNil))) (cIf (cTest (cOp cEq (cVar 0) (cC (.int 2)))) (cLst (cCons (cC (.str "G")) cNil)) (cLst cNil)))) (cRet (cNE (cLc (ciList (cVar 1)) (cgName 2) cYes (cOp cAdd (cVar 2) (cCB cStrI (cCons (cVar 0) cNil))) [2])))))
instance ev__law_names : EvS ds__law_names cs__law_names := by
  unfold ds__law_names cs__law_names
  infer_instance
def c__law_names : CF := cRof N__law_names 1 cs__law_names
instance evf__law_names : EvF R__law_names c__law_names := by
  unfold R__law_names c__law_names
  infer_instance
/-! ### _law_single -/
def N__law_single : List Str := ["_law_name", "_law_letter", "_law_many", "_law_bonds", "_law_rows", "_law_i", "_law_j", "_law_here", "_law_there", "_law_row"]
theorem sc__law_single : FnScope N__law_single ["_law_name"] (defScope s__law_single) := ⟨rfl, rfl, rfl, by decide +kernel, rfl, by decide +kernel, by decide +kernel⟩
def ds__law_single : DS := (dSeq (dAsgG (dTup (dCons (dOp dIx (dVar 0) (dC (.int 0))) (dCons (dCB dInt (dCons (dSl (dVar 0) (dPart (dC (.int 1))) dNoPart) dNil)) dNil))) (dgTup (dgCons (dgName 1) (dgCons (dgName 2) dgNil)))) (dSeq (dSet 3 (dNE (dLc (diRng1 (dCons (dOp dSub (dVar 2) (dC (.int 1))) dNil)) (dgName 5) dYes (dTup (dCons (dVar 5) (dCons (dOp dAdd (dVar 5) (dC (.int 1))) (dCons (dNeg (dC (.int 1))) (dCons (dNeg (dC (.int 1))) dNil))))) [5]))) (dSeq (dIfS (dTest (dOp dEq (dVar 1) (dC (.str "B")))) (dSet 3 (dOp dAdd (dSl (dVar 3) dNoPart (dPart (dNeg (dC (.int 1))))) (dLst (dCons (dTup (dCons (dOp dSub (dVar 2) (dC (.int 2))) (dCons (dOp dSub (dVar 2) (dC (.int 1))) (dCons (dNeg (dC (.int 1))) (dCons (dNeg (dC (.int 2))) dNil))))) dNil)))) dNext) (dSeq (dIfS (dTest (dOp dEq (dVar 1) (dC (.str "C")))) (dSet 3 (dOp dAdd (dSl (dVar 3) dNoPart (dPart (dNeg (dC (.int 1))))) (dLst (dCons (dTup (dCons (dOp dSub (dVar 2) (dC (.int 2))) (dCons (dOp dSub (dVar 2) (dC (.int 1))) (dCons (dNeg (dC (.int 2))) (dCons (dNeg (dC (.int 1))) dNil))))) dNil)))) dNext) (dSeq (dIfS (dTest (dOp dEq (dVar 1) (dC (.str "D")))) (dSet 3 (dOp dAdd (dSl (dVar 3) dNoPart (dPart (dNeg (dC (.int 1))))) (dLst (dCons (dTup (dCons (dOp dSub (dVar 2) (dC (.int 3))) (dCons (dOp dSub (dVar 2) (dC (.int 1))) (dCons (dNeg (dC (.int 1))) (dCons (dNeg (dC (.int 1))) dNil))))) dNil)))) dNext) (dSeq (dIfS (dTest (dOp dEq (dVar 1) (dC (.str "E")))) (dSet 3 (dOp dAdd (dLst (dCons (dTup (dCons (dC (.int 0)) (dCons (dC (.int 2)) (dCons (dNeg (dC (.int 1))) (dCons (dNeg (dC (.int 1))) dNil))))) (dCons (dTup (dCons (dC (.int 1)) (dCons (dC (.int 3)) (dCons (dNeg (dC (.int 1))) (dCons (dNeg (dC (.int 1))) dNil))))) dNil))) (dSl (dVar 3) (dPart (dC (.int 2))) dNoPart))) dNext) (dSeq (dIfS (dTest (dOp dEq (dVar 1) (dC (.str "F")))) (dSet 3 (dLst (dCons (dTup (dCons (dC (.int 0)) (dCons (dC (.int 1)) (dCons (dNeg (dC (.int 1))) (dCons (dNeg (dC (.int 1))) dNil))))) (dCons (dTup (dCons (dC (.int 1)) (dCons (dC (.int 2)) (dCons (dNeg (dC (.int 1))) (dCons (dNeg (dC (.int 2))) dNil))))) (dCons (dTup (dCons (dC (.int 2)) (dCons (dC (.int 3)) (dCons (dNeg (dC (.int 1))) (dCons (dNeg (dC (.int 1))) dNil))))) dNil))))) dNext) (dSeq (dIfS (dTest (dOp dEq (dVar 1) (dC (.str "G")))) (dSet 3 (dLst (dCons (dTup (dCons (dC (.int 0)) (dCons (dC (.int 1)) (dCons (dNeg (dC (.int 3))) (dCons (dNeg (dC (.int 1))) dNil))))) dNil))) dNext) (dSeq (dSetN 4 (dLcN (diRng1 (dCons (dVar 2) dNil)) (dgName 5) dYes (dLc (diRng1 (dCons (dVar 2) dNil)) (dgName 6) dYes (dIf (dTest (dOp dEq (dVar 5) (dVar 6))) (dC (.int 2)) (dC (.int 0))) [6]) [5])) (dSeq (dFor (diList (dVar 3)) (dgTup (dgCons (dgName 5) (dgCons (dgName 6) (dgCons (dgName 7) (dgCons (dgName 8) dgNil))))) (dSeq (dSet2 4 (dVar 7) (dVar 5) (dVar 6)) (dSet2 4 (dVar 8) (dVar 6) (dVar 5)))) (dFrz 4 (dRet (dCB dTupC (dCons (dNE (dLc (diList (dVar 4)) (dgName 9) dYes (dCB dTupC (dCons (dVar 9) dNil)) [9])) dNil))))))))))))))
def R__law_single : DF := Rof N__law_single 1 ds__law_single
def cs__law_single : CS := (cSeq (cAsgG (cTup (cCons (cOp cIx (cVar 0) (cC (.int 0))) (cCons (cCB cInt (cCons (cSl (cVar 0) (cPart (cC (.int 1))) cNoPart) cNil)) cNil))) (cgTup (cgCons (cgName 1) (cgCons (cgName 2) cgNil)))) (cSeq (cSet 3 (cNE (cLc (ciRng1 (cCons (cOp cSub (cVar 2) (cC (.int 1))) cNil)) (cgName 5) cYes (cTup (cCons (cVar 5) (cCons (cOp cAdd (cVar 5) (cC (.int 1))) (cCons (cNeg (cC (.int 1))) (cCons (cNeg (cC (.int 1))) cNil))))) [5]))) (cSeq (cIfS (cTest (cOp cEq (cVar 1) (cC (.str "B")))) (cSet 3 (cOp cAdd (cSl (cVar 3) cNoPart (cPart (cNeg (cC (.int 1))))) (cLst (cCons (cTup (cCons (cOp cSub (cVar 2) (cC (.int 2))) (cCons (cOp cSub (cVar 2) (cC (.int 1))) (cCons (cNeg (cC (.int 1))) (cCons (cNeg (cC (.int 2))) cNil))))) cNil)))) cNext) (cSeq (cIfS (cTest (cOp cEq (cVar 1) (cC (.str "C")))) (cSet 3 (cOp cAdd (cSl (cVar 3) cNoPart (cPart (cNeg (cC (.int 1))))) (cLst (cCons (cTup (cCons (cOp cSub (cVar 2) (cC (.int 2))) (cCons (cOp cSub (cVar 2) (cC (.int 1))) (cCons (cNeg (cC (.int 2))) (cCons (cNeg (cC (.int 1))) cNil))))) cNil)))) cNext) (cSeq (cIfS (cTest (cOp cEq (cVar 1) (cC (.str "D")))) (cSet 3 (cOp cAdd (cSl (cVar 3) cNoPart (cPart (cNeg (cC (.int 1))))) (cLst (cCons (cTup (cCons (cOp cSub (cVar 2) (cC (.int 3))) (cCons (cOp cSub (cVar 2) (cC (.int 1))) (cCons (cNeg (cC (.int 1))) (cCons (cNeg (cC (.int 1))) cNil))))) cNil)))) cNext) (cSeq (cIfS (cTest (cOp cEq (cVar 1) (cC (.str "E")))) (cSet 3 (cOp cAdd (cLst (cCons (cTup (cCons (cC (.int 0)) (cCons (cC (.int 2)) (cCons (cNeg (cC (.int 1))) (cCons (cNeg (cC (.int 1))) cNil))))) (cCons (cTup (cCons (cC (.int 1)) (cCons (cC (.int 3)) (cCons (cNeg (cC (.int 1))) (cCons (cNeg (cC (.int 1))) cNil))))) cNil))) (cSl (cVar 3) (cPart (cC (.int 2))) cNoPart))) cNext) (cSeq (cIfS (cTest (cOp cEq (cVar 1) (cC (.str "F")))) (cSet 3 (cLst (cCons (cTup (cCons (cC (.int 0)) (cCons (cC (.int 1)) (cCons (cNeg (cC (.int 1))) (cCons (cNeg (cC (.int 1))) cNil))))) (cCons (cTup (cCons (cC (.int 1)) (cCons (cC (.int 2)) (cCons (cNeg (cC (.int 1))) (cCons (cNeg (cC (.int 2))) cNil))))) (cCons (cTup (cCons (cC (.int 2)) (cCons (cC (.int 3)) (cCons (cNeg (cC (.int 1))) (cCons (cNeg (cC (.int 1))) cNil))))) cNil))))) cNext) (cSeq (cIfS (cTest (cOp cEq (cVar 1) (cC (.str "G")))) (cSet 3 (cLst (cCons (cTup (cCons (cC (.int 0)) (cCons (cC (.int 1)) (cCons (cNeg (cC (.int 3))) (cCons (cNeg (cC (.int 1))) cNil))))) cNil))) cNext) (cSeq (cSetN 4 (cLcN (ciRng1 (cCons (cVar 2) cNil)) (cgName 5) cYes (cLc (ciRng1 (cCons (cVar 2) cNil)) (cgName 6) cYes (cIf (cTest (cOp cEq (cVar 5) (cVar 6))) (cC (.int 2)) (cC (.int 0))) [6]) [5])) (cSeq (cFor (ciList (cVar 3)) (cgTup (cgCons (cgName 5) (cgCons (cgName 6) (cgCons (cgName 7) (cgCons (cgName 8) cgNil))))) (cSeq (cSet2 4 (cVar 7) (cVar 5) (cVar 6)) (cSet2 4 (cVar 8) (cVar 6) (cVar 5)))) (cFrz 4 (cRet (cCB cTupC (cCons (cNE (cLc (ciList (cVar 4)) (cgName 9) cYes (cCB cTupC (cCons (cVar 9) cNil)) [9])) cNil))))))))))))))
instance ev__law_single : EvS ds__law_single cs__law_single := by
  unfold ds__law_single cs__law_single
  infer_instance
def c__law_single : CF := cRof N__law_single 1 cs__law_single
instance evf__law_single : EvF R__law_single c__law_single := by
  unfold R__law_single c__law_single
  infer_instance
/-! ### _law_blocks -/
def N__law_blocks : List Str := ["_law_name", "_law_singles", "_law_found", "_law_ahead", "_law_many", "_law_single_here", "_law_row", "_law_word"]
theorem sc__law_blocks : FnScope N__law_blocks ["_law_name"] (defScope s__law_blocks) := ⟨rfl, rfl, rfl, by decide +kernel, rfl, by decide +kernel, by decide +kernel⟩
def ds__law_blocks : DS := (dSeq (dParO [1, 2, 3] (dConsO (dNE (dLc (diList (dM1 dSplitR (dVar 0) (dC (.str " ")))) (dgName 7) dYes (dCall R__law_single (dCons (dVar 7) dNil)) [7])) (dConsN (dLstN dNil) (dConsO (dC (.int 0)) dNil)))) (dSeq (dSet 4 (dCB dSumA (dCons (dNE (dLc (diList (dVar 1)) (dgName 5) dYes (dCB dLen (dCons (dVar 5) dNil)) [5])) dNil))) (dSeq (dFor (diList (dVar 1)) (dgName 5) (dSeq (dFor (diTup (dVar 5)) (dgName 6) (dApp 2 (dOp dAdd (dOp dAdd (dOp dMul (dTup (dCons (dC (.int 0)) dNil)) (dVar 3)) (dVar 6)) (dOp dMul (dTup (dCons (dC (.int 0)) dNil)) (dOp dSub (dOp dSub (dVar 4) (dVar 3)) (dCB dLen (dCons (dVar 5) dNil))))))) (dSet 3 (dOp dAdd (dVar 3) (dCB dLen (dCons (dVar 5) dNil)))))) (dFrz 2 (dRet (dCB dTupC (dCons (dVar 2) dNil)))))))
def R__law_blocks : DF := Rof N__law_blocks 1 ds__law_blocks
def cs__law_blocks : CS := (cSeq (cParO [1, 2, 3] (cConsO (cNE (cLc (ciList (cM1 cSplitR (cVar 0) (cC (.str " ")))) (cgName 7) cYes (cCall c__law_single (cCons (cVar 7) cNil)) [7])) (cConsN (cLstN cNil) (cConsO (cC (.int 0)) cNil)))) (cSeq (cSet 4 (cCB cSumA (cCons (cNE (cLc (ciList (cVar 1)) (cgName 5) cYes (cCB cLen (cCons (cVar 5) cNil)) [5])) cNil))) (cSeq (cFor (ciList (cVar 1)) (cgName 5) (cSeq (cFor (ciTup (cVar 5)) (cgName 6) (cApp 2 (cOp cAdd (cOp cAdd (cOp cMul (cTup (cCons (cC (.int 0)) cNil)) (cVar 3)) (cVar 6)) (cOp cMul (cTup (cCons (cC (.int 0)) cNil)) (cOp cSub (cOp cSub (cVar 4) (cVar 3)) (cCB cLen (cCons (cVar 5) cNil))))))) (cSet 3 (cOp cAdd (cVar 3) (cCB cLen (cCons (cVar 5) cNil)))))) (cFrz 2 (cRet (cCB cTupC (cCons (cVar 2) cNil)))))))
instance ev__law_blocks : EvS ds__law_blocks cs__law_blocks := by
  unfold ds__law_blocks cs__law_blocks
  infer_instance
def c__law_blocks : CF := cRof N__law_blocks 1 cs__law_blocks
instance evf__law_blocks : EvF R__law_blocks c__law_blocks := by
  unfold R__law_blocks c__law_blocks
  infer_instance
/-! ### _law_type -/
def N__law_type : List Str := ["_law_pot_here", "_law_most", "_law_left", "_law_words", "_law_turn", "_law_many"]
theorem sc__law_type : FnScope N__law_type ["_law_pot_here", "_law_most"] (defScope s__law_type) := ⟨rfl, rfl, rfl, by decide +kernel, rfl, by decide +kernel, by decide +kernel⟩
def ds__law_type : DS := (dSeq (dParO [2, 3] (dConsO (dOp dAdd (dC (.int 1)) (dCall Rdraw (dCons (dVar 0) (dCons (dVar 1) dNil)))) (dConsN (dLstN dNil) dNil))) (dSeq (dFor (diRng1 (dCons (dC (.int 8)) dNil)) (dgName 4) (dIfS (dTest (dOp dGt (dVar 2) (dC (.int 0)))) (dSeq (dSet 5 (dIf (dTest (dOp dGt (dCall Rdraw (dCons (dVar 0) (dCons (dC (.int 3)) dNil))) (dC (.int 0)))) (dVar 2) (dOp dAdd (dC (.int 1)) (dCall Rdraw (dCons (dVar 0) (dCons (dVar 2) dNil)))))) (dSeq (dApp 3 (dCall R__law_pick (dCons (dVar 0) (dCons (dCall R__law_names (dCons (dVar 5) dNil)) dNil)))) (dSet 2 (dOp dSub (dVar 2) (dVar 5))))) dNext)) (dFrz 3 (dRet (dM1 dJoinR (dC (.str " ")) (dVar 3))))))
def R__law_type : DF := Rof N__law_type 2 ds__law_type
/-! ### _law_led_nodes -/
def N__law_led_nodes : List Str := ["_law_matrix_here", "_law_order", "_law_i", "_law_j"]
theorem sc__law_led_nodes : FnScope N__law_led_nodes ["_law_matrix_here", "_law_order"] (defScope s__law_led_nodes) := ⟨rfl, rfl, rfl, by decide +kernel, rfl, by decide +kernel, by decide +kernel⟩
def ds__law_led_nodes : DS := (dRet (dCB dTupC (dCons (dNE (dLc (diList (dVar 1)) (dgName 2) dYes (dCB dTupC (dCons (dNE (dLc (diList (dVar 1)) (dgName 3) dYes (dOp dIx (dOp dIx (dVar 0) (dVar 2)) (dVar 3)) [3])) dNil)) [2])) dNil)))
def R__law_led_nodes : DF := Rof N__law_led_nodes 2 ds__law_led_nodes
def cs__law_led_nodes : CS := (cRet (cCB cTupC (cCons (cNE (cLc (ciList (cVar 1)) (cgName 2) cYes (cCB cTupC (cCons (cNE (cLc (ciList (cVar 1)) (cgName 3) cYes (cOp cIx (cOp cIx (cVar 0) (cVar 2)) (cVar 3)) [3])) cNil)) [2])) cNil)))
instance ev__law_led_nodes : EvS ds__law_led_nodes cs__law_led_nodes := by
  unfold ds__law_led_nodes cs__law_led_nodes
  infer_instance
def c__law_led_nodes : CF := cRof N__law_led_nodes 2 cs__law_led_nodes
instance evf__law_led_nodes : EvF R__law_led_nodes c__law_led_nodes := by
  unfold R__law_led_nodes c__law_led_nodes
  infer_instance
/-! ### _law_matrix -/
def N__law_matrix : List Str := ["_law_pot_here", "_law_most", "_law_matrix_here"]
theorem sc__law_matrix : FnScope N__law_matrix ["_law_pot_here", "_law_most"] (defScope s__law_matrix) := ⟨rfl, rfl, rfl, by decide +kernel, rfl, by decide +kernel, by decide +kernel⟩
def ds__law_matrix : DS := (dSeq (dSet 2 (dCall R__law_blocks (dCons (dCall R__law_type (dCons (dVar 0) (dCons (dVar 1) dNil))) dNil))) (dRet (dIf (dTest (dOp dEq (dCall Rdraw (dCons (dVar 0) (dCons (dC (.int 2)) dNil))) (dC (.int 0)))) (dCall R__law_led_nodes (dCons (dVar 2) (dCons (dCall R__law_mixed (dCons (dVar 0) (dCons (dLstRg (dRg1 (dCB dLen (dCons (dVar 2) dNil)))) dNil))) dNil))) (dVar 2))))
def R__law_matrix : DF := Rof N__law_matrix 2 ds__law_matrix
/-! ### _law_parts -/
def N__law_parts : List Str := ["_law_matrix_here", "_law_many", "_law_marks", "_law_turn", "_law_i", "_law_j", "_law_low", "_law_found", "_law_mark"]
theorem sc__law_parts : FnScope N__law_parts ["_law_matrix_here"] (defScope s__law_parts) := ⟨rfl, rfl, rfl, by decide +kernel, rfl, by decide +kernel, by decide +kernel⟩
def ds__law_parts : DS := (dSeq (dSet 1 (dCB dLen (dCons (dVar 0) dNil))) (dSeq (dSetN 2 (dLstRgN (dRg1 (dVar 1)))) (dSeq (dFor (diRng1 (dCons (dVar 1) dNil)) (dgName 3) (dFor (diRng1 (dCons (dVar 1) dNil)) (dgName 4) (dFor (diRng1 (dCons (dVar 1) dNil)) (dgName 5) (dIfS (dAndT (dTest (dOp dNe (dOp dIx (dOp dIx (dVar 0) (dVar 4)) (dVar 5)) (dC (.int 0)))) (dTest (dOp dNe (dOp dIx (dVar 2) (dVar 4)) (dOp dIx (dVar 2) (dVar 5))))) (dSeq (dSet 6 (dCB dMin2 (dCons (dOp dIx (dVar 2) (dVar 4)) (dCons (dOp dIx (dVar 2) (dVar 5)) dNil)))) (dSeq (dSet1 2 (dVar 6) (dVar 4)) (dSet1 2 (dVar 6) (dVar 5)))) dNext)))) (dSeq (dFrz 2 (dSet 7 (dNE (dLc (diList (dSortSet (dVar 2))) (dgName 8) dYes (dCB dTupC (dCons (dNE (dLc (diRng1 (dCons (dVar 1) dNil)) (dgName 4) (dTest (dOp dEq (dOp dIx (dVar 2) (dVar 4)) (dVar 8))) (dVar 4) [4])) dNil)) [8])))) (dRet (dCB dTupC (dCons (dVar 7) dNil)))))))
def R__law_parts : DF := Rof N__law_parts 1 ds__law_parts
def cs__law_parts : CS := (cSeq (cSet 1 (cCB cLen (cCons (cVar 0) cNil))) (cSeq (cSetN 2 (cLstRgN (cRg1 (cVar 1)))) (cSeq (cFor (ciRng1 (cCons (cVar 1) cNil)) (cgName 3) (cFor (ciRng1 (cCons (cVar 1) cNil)) (cgName 4) (cFor (ciRng1 (cCons (cVar 1) cNil)) (cgName 5) (cIfS (cAndT (cTest (cOp cNe (cOp cIx (cOp cIx (cVar 0) (cVar 4)) (cVar 5)) (cC (.int 0)))) (cTest (cOp cNe (cOp cIx (cVar 2) (cVar 4)) (cOp cIx (cVar 2) (cVar 5))))) (cSeq (cSet 6 (cCB cMin2 (cCons (cOp cIx (cVar 2) (cVar 4)) (cCons (cOp cIx (cVar 2) (cVar 5)) cNil)))) (cSeq (cSet1 2 (cVar 6) (cVar 4)) (cSet1 2 (cVar 6) (cVar 5)))) cNext)))) (cSeq (cFrz 2 (cSet 7 (cNE (cLc (ciList (cSortSet (cVar 2))) (cgName 8) cYes (cCB cTupC (cCons (cNE (cLc (ciRng1 (cCons (cVar 1) cNil)) (cgName 4) (cTest (cOp cEq (cOp cIx (cVar 2) (cVar 4)) (cVar 8))) (cVar 4) [4])) cNil)) [8])))) (cRet (cCB cTupC (cCons (cVar 7) cNil)))))))
instance ev__law_parts : EvS ds__law_parts cs__law_parts := by
  unfold ds__law_parts cs__law_parts
  infer_instance
def c__law_parts : CF := cRof N__law_parts 1 cs__law_parts
instance evf__law_parts : EvF R__law_parts c__law_parts := by
  unfold R__law_parts c__law_parts
  infer_instance
/-! ### _law_reflected -/
def N__law_reflected : List Str := ["_law_matrix_here", "_law_node", "_law_vector_here", "_law_value", "_law_j"]
theorem sc__law_reflected : FnScope N__law_reflected ["_law_matrix_here", "_law_node", "_law_vector_here"] (defScope s__law_reflected) := ⟨rfl, rfl, rfl, by decide +kernel, rfl, by decide +kernel, by decide +kernel⟩
def ds__law_reflected : DS := (dSeq (dSet 3 (dCB dSumA (dCons (dNE (dLc (diRng1 (dCons (dCB dLen (dCons (dVar 0) dNil)) dNil)) (dgName 4) dYes (dOp dMul (dOp dIx (dOp dIx (dVar 0) (dVar 1)) (dVar 4)) (dOp dIx (dVar 2) (dVar 4))) [4])) dNil))) (dRet (dOp dAdd (dOp dAdd (dSl (dVar 2) dNoPart (dPart (dVar 1))) (dTup (dCons (dOp dSub (dOp dIx (dVar 2) (dVar 1)) (dVar 3)) dNil))) (dSl (dVar 2) (dPart (dOp dAdd (dVar 1) (dC (.int 1)))) dNoPart))))
def R__law_reflected : DF := Rof N__law_reflected 3 ds__law_reflected
def cs__law_reflected : CS := (cSeq (cSet 3 (cCB cSumA (cCons (cNE (cLc (ciRng1 (cCons (cCB cLen (cCons (cVar 0) cNil)) cNil)) (cgName 4) cYes (cOp cMul (cOp cIx (cOp cIx (cVar 0) (cVar 1)) (cVar 4)) (cOp cIx (cVar 2) (cVar 4))) [4])) cNil))) (cRet (cOp cAdd (cOp cAdd (cSl (cVar 2) cNoPart (cPart (cVar 1))) (cTup (cCons (cOp cSub (cOp cIx (cVar 2) (cVar 1)) (cVar 3)) cNil))) (cSl (cVar 2) (cPart (cOp cAdd (cVar 1) (cC (.int 1)))) cNoPart))))
instance ev__law_reflected : EvS ds__law_reflected cs__law_reflected := by
  unfold ds__law_reflected cs__law_reflected
  infer_instance
def c__law_reflected : CF := cRof N__law_reflected 3 cs__law_reflected
instance evf__law_reflected : EvF R__law_reflected c__law_reflected := by
  unfold R__law_reflected c__law_reflected
  infer_instance
/-! ### _law_simple -/
def N__law_simple : List Str := ["_law_many", "_law_i", "_law_j"]
theorem sc__law_simple : FnScope N__law_simple ["_law_many"] (defScope s__law_simple) := ⟨rfl, rfl, rfl, by decide +kernel, rfl, by decide +kernel, by decide +kernel⟩
def dn__law_simple : DN := (dLc (diRng1 (dCons (dVar 0) dNil)) (dgName 1) dYes (dCB dTupC (dCons (dNE (dLc (diRng1 (dCons (dVar 0) dNil)) (dgName 2) dYes (dIf (dTest (dOp dEq (dVar 1) (dVar 2))) (dC (.int 1)) (dC (.int 0))) [2])) dNil)) [1])
def RN__law_simple : DFN := RofN N__law_simple 1 dn__law_simple
def cn__law_simple : CN := (cLc (ciRng1 (cCons (cVar 0) cNil)) (cgName 1) cYes (cCB cTupC (cCons (cNE (cLc (ciRng1 (cCons (cVar 0) cNil)) (cgName 2) cYes (cIf (cTest (cOp cEq (cVar 1) (cVar 2))) (cC (.int 1)) (cC (.int 0))) [2])) cNil)) [1])
instance evn__law_simple : EvN dn__law_simple cn__law_simple := by
  unfold dn__law_simple cn__law_simple
  infer_instance
def cN__law_simple : List OV → Option (List PyData) := cRofN N__law_simple 1 cn__law_simple
instance evfn__law_simple : EvFN RN__law_simple cN__law_simple := by
  unfold RN__law_simple cN__law_simple
  infer_instance
def ds__law_simple : DS := (dRet (dNE (dLc (diRng1 (dCons (dVar 0) dNil)) (dgName 1) dYes (dCB dTupC (dCons (dNE (dLc (diRng1 (dCons (dVar 0) dNil)) (dgName 2) dYes (dIf (dTest (dOp dEq (dVar 1) (dVar 2))) (dC (.int 1)) (dC (.int 0))) [2])) dNil)) [1])))
def R__law_simple : DF := Rof N__law_simple 1 ds__law_simple
def cs__law_simple : CS := (cRet (cNE (cLc (ciRng1 (cCons (cVar 0) cNil)) (cgName 1) cYes (cCB cTupC (cCons (cNE (cLc (ciRng1 (cCons (cVar 0) cNil)) (cgName 2) cYes (cIf (cTest (cOp cEq (cVar 1) (cVar 2))) (cC (.int 1)) (cC (.int 0))) [2])) cNil)) [1])))
instance ev__law_simple : EvS ds__law_simple cs__law_simple := by
  unfold ds__law_simple cs__law_simple
  infer_instance
def c__law_simple : CF := cRof N__law_simple 1 cs__law_simple
instance evf__law_simple : EvF R__law_simple c__law_simple := by
  unfold R__law_simple c__law_simple
  infer_instance
/-! ### _law_positive -/
def N__law_positive : List Str := ["_law_matrix_here", "_law_most", "_law_many", "_law_found", "_law_at", "_law_known", "_law_each", "_law_turn", "_law_node", "_law_come", "_law_vector_here", "_law_height"]
theorem sc__law_positive : FnScope N__law_positive ["_law_matrix_here", "_law_most"] (defScope s__law_positive) := ⟨rfl, rfl, rfl, by decide +kernel, rfl, by decide +kernel, by decide +kernel⟩
def ds__law_positive : DS := (dSeq (dSet 2 (dCB dLen (dCons (dVar 0) dNil))) (dSeq (dParO [3, 4] (dConsN (dCallN RN__law_simple (dCons (dVar 2) dNil)) (dConsO (dC (.int 0)) dNil))) (dSeq (dSetX 5 (dXC true)) (dSeq (dForL 3 6 (dDPut 5 (dVar 6) (dC (.int 1)))) (dSeq (dFor (diRng1 (dCons (dOp dAdd (dVar 1) (dC (.int 1))) dNil)) (dgName 7) (dIfS (dTest (dChain dLt dLe (dVar 4) (dCB dLen (dCons (dVar 3) dNil)) (dVar 1))) (dSeq (dFor (diRng1 (dCons (dVar 2) dNil)) (dgName 8) (dSeq (dSet 9 (dCall R__law_reflected (dCons (dVar 0) (dCons (dVar 8) (dCons (dOp dIx (dVar 3) (dVar 4)) dNil))))) (dIfS (dAndT (dTest (dOp dGe (dCB dMinT (dCons (dVar 9) dNil)) (dC (.int 0)))) (dTest (dDIn not 5 (dVar 9)))) (dSeq (dDPut 5 (dVar 9) (dC (.int 1))) (dApp 3 (dVar 9))) dNext))) (dSet 4 (dOp dAdd (dVar 4) (dC (.int 1))))) dNext)) (dSeq (dIfS (dTest (dOp dGt (dCB dLen (dCons (dVar 3) dNil)) (dVar 1))) (dRet (dC .none)) dNext) (dFrz 3 (dRet (dCB dTupC (dCons (dNE (dLc (diList (dCB dSorted (dCons (dNE (dLc (diList (dVar 3)) (dgName 10) dYes (dTup (dCons (dCB dSumA (dCons (dVar 10) dNil)) (dCons (dVar 10) dNil))) [10])) dNil))) (dgTup (dgCons (dgName 11) (dgCons (dgName 6) dgNil))) dYes (dVar 6) [11, 6])) dNil))))))))))
def R__law_positive : DF := Rof N__law_positive 2 ds__law_positive
def cs__law_positive : CS := (cSeq (cSet 2 (cCB cLen (cCons (cVar 0) cNil))) (cSeq (cParO [3, 4] (cConsN (cCallN cN__law_simple (cCons (cVar 2) cNil)) (cConsO (cC (.int 0)) cNil))) (cSeq (cSetX 5 (cXC true)) (cSeq (cForL 3 6 (cDPut 5 (cVar 6) (cC (.int 1)))) (cSeq (cFor (ciRng1 (cCons (cOp cAdd (cVar 1) (cC (.int 1))) cNil)) (cgName 7) (cIfS (cTest (cChain cLt cLe (cVar 4) (cCB cLen (cCons (cVar 3) cNil)) (cVar 1))) (cSeq (cFor (ciRng1 (cCons (cVar 2) cNil)) (cgName 8) (cSeq (cSet 9 (cCall c__law_reflected (cCons (cVar 0) (cCons (cVar 8) (cCons (cOp cIx (cVar 3) (cVar 4)) cNil))))) (cIfS (cAndT (cTest (cOp cGe (cCB cMinT (cCons (cVar 9) cNil)) (cC (.int 0)))) (cTest (cDIn not 5 (cVar 9)))) (cSeq (cDPut 5 (cVar 9) (cC (.int 1))) (cApp 3 (cVar 9))) cNext))) (cSet 4 (cOp cAdd (cVar 4) (cC (.int 1))))) cNext)) (cSeq (cIfS (cTest (cOp cGt (cCB cLen (cCons (cVar 3) cNil)) (cVar 1))) (cRet (cC .none)) cNext) (cFrz 3 (cRet (cCB cTupC (cCons (cNE (cLc (ciList (cCB cSorted (cCons (cNE (cLc (ciList (cVar 3)) (cgName 10) cYes (cTup (cCons (cCB cSumA (cCons (cVar 10) cNil)) (cCons (cVar 10) cNil))) [10])) cNil))) (cgTup (cgCons (cgName 11) (cgCons (cgName 6) cgNil))) cYes (cVar 6) [11, 6])) cNil))))))))))
instance ev__law_positive : EvS ds__law_positive cs__law_positive := by
  unfold ds__law_positive cs__law_positive
  infer_instance
def c__law_positive : CF := cRof N__law_positive 2 cs__law_positive
instance evf__law_positive : EvF R__law_positive c__law_positive := by
  unfold R__law_positive c__law_positive
  infer_instance
/-! ### _law_lean -/
def N__law_lean : List Str := ["_law_top", "_law_base", "_law_by"]
theorem sc__law_lean : FnScope N__law_lean ["_law_top", "_law_base"] (defScope s__law_lean) := ⟨rfl, rfl, rfl, by decide +kernel, rfl, by decide +kernel, by decide +kernel⟩
def ds__law_lean : DS := (dSeq (dSet 2 (dCall R__law_gcd (dCons (dVar 0) (dCons (dVar 1) dNil)))) (dRet (dTup (dCons (dOp dFdv (dVar 0) (dVar 2)) (dCons (dOp dFdv (dVar 1) (dVar 2)) dNil)))))
def R__law_lean : DF := Rof N__law_lean 2 ds__law_lean
def cs__law_lean : CS := (cSeq (cSet 2 (cCall c__law_gcd (cCons (cVar 0) (cCons (cVar 1) cNil)))) (cRet (cTup (cCons (cOp cFdv (cVar 0) (cVar 2)) (cCons (cOp cFdv (cVar 1) (cVar 2)) cNil)))))
instance ev__law_lean : EvS ds__law_lean cs__law_lean := by
  unfold ds__law_lean cs__law_lean
  infer_instance
def c__law_lean : CF := cRof N__law_lean 2 cs__law_lean
instance evf__law_lean : EvF R__law_lean c__law_lean := by
  unfold R__law_lean c__law_lean
  infer_instance
/-! ### _law_symmetrizer -/
def N__law_symmetrizer : List Str := ["_law_matrix_here", "_law_many", "_law_found", "_law_part", "_law_told", "_law_turn", "_law_i", "_law_j", "_law_base", "_law_numbers", "_law_by", "_law_number_here"]
theorem sc__law_symmetrizer : FnScope N__law_symmetrizer ["_law_matrix_here"] (defScope s__law_symmetrizer) := ⟨rfl, rfl, rfl, by decide +kernel, rfl, by decide +kernel, by decide +kernel⟩
def ds__law_symmetrizer : DS := (dSeq (dParO [1, 2] (dConsO (dCB dLen (dCons (dVar 0) dNil)) (dConsN (dRepN (dLst (dCons (dC (.int 0)) dNil)) (dCB dLen (dCons (dVar 0) dNil))) dNil))) (dSeq (dFor (diTup (dCall R__law_parts (dCons (dVar 0) dNil))) (dgName 3) (dSeq (dSetX 4 (dXC false)) (dSeq (dDPut 4 (dOp dIx (dVar 3) (dC (.int 0))) (dTup (dCons (dC (.int 1)) (dCons (dC (.int 1)) dNil)))) (dSeq (dFor (diRng1 (dCons (dCB dLen (dCons (dVar 3) dNil)) dNil)) (dgName 5) (dFor (diTup (dVar 3)) (dgName 6) (dFor (diTup (dVar 3)) (dgName 7) (dIfS (dAndT (dTest (dDIn id 4 (dVar 6))) (dAndT (dTest (dDIn not 4 (dVar 7))) (dTest (dOp dNe (dOp dIx (dOp dIx (dVar 0) (dVar 6)) (dVar 7)) (dC (.int 0)))))) (dDPut 4 (dVar 7) (dCall R__law_lean (dCons (dOp dMul (dOp dIx (dDGet 4 (dVar 6)) (dC (.int 0))) (dCB dAbs (dCons (dOp dIx (dOp dIx (dVar 0) (dVar 6)) (dVar 7)) dNil))) (dCons (dOp dMul (dOp dIx (dDGet 4 (dVar 6)) (dC (.int 1))) (dCB dAbs (dCons (dOp dIx (dOp dIx (dVar 0) (dVar 7)) (dVar 6)) dNil))) dNil)))) dNext)))) (dSeq (dSet 8 (dC (.int 1))) (dSeq (dFor (diTup (dVar 3)) (dgName 6) (dSet 8 (dOp dMul (dOp dFdv (dVar 8) (dCall R__law_gcd (dCons (dVar 8) (dCons (dOp dIx (dDGet 4 (dVar 6)) (dC (.int 1))) dNil)))) (dOp dIx (dDGet 4 (dVar 6)) (dC (.int 1)))))) (dSeq (dSet 9 (dNE (dLc (diTup (dVar 3)) (dgName 6) dYes (dOp dMul (dOp dIx (dDGet 4 (dVar 6)) (dC (.int 0))) (dOp dFdv (dVar 8) (dOp dIx (dDGet 4 (dVar 6)) (dC (.int 1))))) [6]))) (dSeq (dSet 10 (dC (.int 0))) (dSeq (dFor (diList (dVar 9)) (dgName 11) (dSet 10 (dCall R__law_gcd (dCons (dVar 10) (dCons (dVar 11) dNil))))) (dFor (diZipM (dCons (dVar 3) (dCons (dVar 9) dNil))) (dgTup (dgCons (dgName 6) (dgCons (dgName 11) dgNil))) (dSet1 2 (dOp dFdv (dVar 11) (dVar 10)) (dVar 6)))))))))))) (dSeq (dFrz 2 (dFor (diRng1 (dCons (dVar 1) dNil)) (dgName 6) (dFor (diRng1 (dCons (dVar 1) dNil)) (dgName 7) (dIfS (dTest (dOp dNe (dOp dMul (dOp dIx (dVar 2) (dVar 6)) (dOp dIx (dOp dIx (dVar 0) (dVar 6)) (dVar 7))) (dOp dMul (dOp dIx (dVar 2) (dVar 7)) (dOp dIx (dOp dIx (dVar 0) (dVar 7)) (dVar 6))))) (dRet (dLst dNil)) dNext)))) (dRet (dLst (dCons (dCB dTupC (dCons (dVar 2) dNil)) dNil))))))
def R__law_symmetrizer : DF := Rof N__law_symmetrizer 1 ds__law_symmetrizer
def cs__law_symmetrizer : CS := (cSeq (cParO [1, 2] (cConsO (cCB cLen (cCons (cVar 0) cNil)) (cConsN (cRepN (cLst (cCons (cC (.int 0)) cNil)) (cCB cLen (cCons (cVar 0) cNil))) cNil))) (cSeq (cFor (ciTup (cCall c__law_parts (cCons (cVar 0) cNil))) (cgName 3) (cSeq (cSetX 4 (cXC false)) (cSeq (cDPut 4 (cOp cIx (cVar 3) (cC (.int 0))) (cTup (cCons (cC (.int 1)) (cCons (cC (.int 1)) cNil)))) (cSeq (cFor (ciRng1 (cCons (cCB cLen (cCons (cVar 3) cNil)) cNil)) (cgName 5) (cFor (ciTup (cVar 3)) (cgName 6) (cFor (ciTup (cVar 3)) (cgName 7) (cIfS (cAndT (cTest (cDIn id 4 (cVar 6))) (cAndT (cTest (cDIn not 4 (cVar 7))) (cTest (cOp cNe (cOp cIx (cOp cIx (cVar 0) (cVar 6)) (cVar 7)) (cC (.int 0)))))) (cDPut 4 (cVar 7) (cCall c__law_lean (cCons (cOp cMul (cOp cIx (cDGet 4 (cVar 6)) (cC (.int 0))) (cCB cAbs (cCons (cOp cIx (cOp cIx (cVar 0) (cVar 6)) (cVar 7)) cNil))) (cCons (cOp cMul (cOp cIx (cDGet 4 (cVar 6)) (cC (.int 1))) (cCB cAbs (cCons (cOp cIx (cOp cIx (cVar 0) (cVar 7)) (cVar 6)) cNil))) cNil)))) cNext)))) (cSeq (cSet 8 (cC (.int 1))) (cSeq (cFor (ciTup (cVar 3)) (cgName 6) (cSet 8 (cOp cMul (cOp cFdv (cVar 8) (cCall c__law_gcd (cCons (cVar 8) (cCons (cOp cIx (cDGet 4 (cVar 6)) (cC (.int 1))) cNil)))) (cOp cIx (cDGet 4 (cVar 6)) (cC (.int 1)))))) (cSeq (cSet 9 (cNE (cLc (ciTup (cVar 3)) (cgName 6) cYes (cOp cMul (cOp cIx (cDGet 4 (cVar 6)) (cC (.int 0))) (cOp cFdv (cVar 8) (cOp cIx (cDGet 4 (cVar 6)) (cC (.int 1))))) [6]))) (cSeq (cSet 10 (cC (.int 0))) (cSeq (cFor (ciList (cVar 9)) (cgName 11) (cSet 10 (cCall c__law_gcd (cCons (cVar 10) (cCons (cVar 11) cNil))))) (cFor (ciZipM (cCons (cVar 3) (cCons (cVar 9) cNil))) (cgTup (cgCons (cgName 6) (cgCons (cgName 11) cgNil))) (cSet1 2 (cOp cFdv (cVar 11) (cVar 10)) (cVar 6)))))))))))) (cSeq (cFrz 2 (cFor (ciRng1 (cCons (cVar 1) cNil)) (cgName 6) (cFor (ciRng1 (cCons (cVar 1) cNil)) (cgName 7) (cIfS (cTest (cOp cNe (cOp cMul (cOp cIx (cVar 2) (cVar 6)) (cOp cIx (cOp cIx (cVar 0) (cVar 6)) (cVar 7))) (cOp cMul (cOp cIx (cVar 2) (cVar 7)) (cOp cIx (cOp cIx (cVar 0) (cVar 7)) (cVar 6))))) (cRet (cLst cNil)) cNext)))) (cRet (cLst (cCons (cCB cTupC (cCons (cVar 2) cNil)) cNil))))))
instance ev__law_symmetrizer : EvS ds__law_symmetrizer cs__law_symmetrizer := by
  unfold ds__law_symmetrizer cs__law_symmetrizer
  infer_instance
def c__law_symmetrizer : CF := cRof N__law_symmetrizer 1 cs__law_symmetrizer
instance evf__law_symmetrizer : EvF R__law_symmetrizer c__law_symmetrizer := by
  unfold R__law_symmetrizer c__law_symmetrizer
  infer_instance
/-! ### _law_form -/
def N__law_form : List Str := ["_law_matrix_here", "_law_scale", "_law_one", "_law_two", "_law_many", "_law_found", "_law_i", "_law_j"]
theorem sc__law_form : FnScope N__law_form ["_law_matrix_here", "_law_scale", "_law_one", "_law_two"] (defScope s__law_form) := ⟨rfl, rfl, rfl, by decide +kernel, rfl, by decide +kernel, by decide +kernel⟩
def ds__law_form : DS := (dSeq (dPar 4 5 (dCons (dCB dLen (dCons (dVar 0) dNil)) (dCons (dC (.int 0)) dNil))) (dSeq (dFor (diRng1 (dCons (dVar 4) dNil)) (dgName 6) (dSet 5 (dOp dAdd (dVar 5) (dOp dMul (dOp dMul (dOp dIx (dVar 2) (dVar 6)) (dOp dIx (dVar 1) (dVar 6))) (dCB dSumA (dCons (dNE (dLc (diRng1 (dCons (dVar 4) dNil)) (dgName 7) dYes (dOp dMul (dOp dIx (dOp dIx (dVar 0) (dVar 6)) (dVar 7)) (dOp dIx (dVar 3) (dVar 7))) [7])) dNil)))))) (dRet (dVar 5))))
def R__law_form : DF := Rof N__law_form 4 ds__law_form
def cs__law_form : CS := (cSeq (cPar 4 5 (cCons (cCB cLen (cCons (cVar 0) cNil)) (cCons (cC (.int 0)) cNil))) (cSeq (cFor (ciRng1 (cCons (cVar 4) cNil)) (cgName 6) (cSet 5 (cOp cAdd (cVar 5) (cOp cMul (cOp cMul (cOp cIx (cVar 2) (cVar 6)) (cOp cIx (cVar 1) (cVar 6))) (cCB cSumA (cCons (cNE (cLc (ciRng1 (cCons (cVar 4) cNil)) (cgName 7) cYes (cOp cMul (cOp cIx (cOp cIx (cVar 0) (cVar 6)) (cVar 7)) (cOp cIx (cVar 3) (cVar 7))) [7])) cNil)))))) (cRet (cVar 5))))
instance ev__law_form : EvS ds__law_form cs__law_form := by
  unfold ds__law_form cs__law_form
  infer_instance
def c__law_form : CF := cRof N__law_form 4 cs__law_form
instance evf__law_form : EvF R__law_form c__law_form := by
  unfold R__law_form c__law_form
  infer_instance
/-! ### _law_number -/
def N__law_number : List Str := ["_law_pot_here", "_law_size", "_law_far", "_law_number_here"]
theorem sc__law_number : FnScope N__law_number ["_law_pot_here", "_law_size"] (defScope s__law_number) := ⟨rfl, rfl, rfl, by decide +kernel, rfl, by decide +kernel, by decide +kernel⟩
def ds__law_number : DS := (dSeq (dSet 2 (dCall R__law_pick (dCons (dVar 0) (dCons (dLst (dCons (dC (.int 0)) (dCons (dC (.int 0)) (dCons (dC (.int 0)) (dCons (dC (.int 0)) (dCons (dC (.int 0)) (dCons (dC (.int 0)) (dCons (dC (.int 0)) (dCons (dC (.int 0)) (dCons (dOp dPwr (dC (.int 10)) (dC (.int 6))) (dCons (dOp dPwr (dC (.int 10)) (dC (.int 30))) dNil))))))))))) dNil)))) (dSeq (dSet 3 (dOp dAdd (dCall Rdraw (dCons (dVar 0) (dCons (dOp dAdd (dVar 1) (dC (.int 1))) dNil))) (dOp dMul (dVar 2) (dCall Rdraw (dCons (dVar 0) (dCons (dC (.int 7)) dNil)))))) (dRet (dIf (dTest (dOp dEq (dCall Rdraw (dCons (dVar 0) (dCons (dC (.int 2)) dNil))) (dC (.int 0)))) (dVar 3) (dOp dSub (dC (.int 0)) (dVar 3))))))
def R__law_number : DF := Rof N__law_number 2 ds__law_number
/-! ### _law_vector -/
def N__law_vector : List Str := ["_law_pot_here", "_law_many", "_law_size", "_law_found", "_law_turn"]
theorem sc__law_vector : FnScope N__law_vector ["_law_pot_here", "_law_many", "_law_size"] (defScope s__law_vector) := ⟨rfl, rfl, rfl, by decide +kernel, rfl, by decide +kernel, by decide +kernel⟩
def ds__law_vector : DS := (dSeq (dSetN 3 (dLstN dNil)) (dSeq (dFor (diRng1 (dCons (dVar 1) dNil)) (dgName 4) (dApp 3 (dCall R__law_number (dCons (dVar 0) (dCons (dVar 2) dNil))))) (dFrz 3 (dRet (dCB dTupC (dCons (dVar 3) dNil))))))
def R__law_vector : DF := Rof N__law_vector 3 ds__law_vector
/-! ### _law_wild -/
def N__law_wild : List Str := ["_law_pot_here", "_law_most", "_law_size", "_law_many", "_law_rows", "_law_loose", "_law_i", "_law_j", "_law_row"]
theorem sc__law_wild : FnScope N__law_wild ["_law_pot_here", "_law_most", "_law_size"] (defScope s__law_wild) := ⟨rfl, rfl, rfl, by decide +kernel, rfl, by decide +kernel, by decide +kernel⟩
def ds__law_wild : DS := (dSeq (dSet 3 (dOp dAdd (dC (.int 1)) (dCall Rdraw (dCons (dVar 0) (dCons (dVar 1) dNil))))) (dSeq (dSetN 4 (dLcN (diRng1 (dCons (dVar 3) dNil)) (dgName 6) dYes (dLc (diRng1 (dCons (dVar 3) dNil)) (dgName 7) dYes (dIf (dTest (dOp dEq (dVar 6) (dVar 7))) (dC (.int 2)) (dC (.int 0))) [7]) [6])) (dSeq (dSet 5 (dCall Rdraw (dCons (dVar 0) (dCons (dC (.int 3)) dNil)))) (dSeq (dFor (diRng1 (dCons (dVar 3) dNil)) (dgName 6) (dFor (diRng1 (dCons (dVar 6) dNil)) (dgName 7) (dIfS (dOrT (dTest (dOp dGt (dCall Rdraw (dCons (dVar 0) (dCons (dC (.int 3)) dNil))) (dVar 5))) (dAndT (dTest (dOp dEq (dVar 7) (dOp dSub (dVar 6) (dC (.int 1))))) (dTest (dOp dLt (dVar 5) (dC (.int 2)))))) (dSeq (dSet2 4 (dOp dSub (dC (.int 0)) (dCall R__law_pick (dCons (dVar 0) (dCons (dLst (dCons (dC (.int 1)) (dCons (dC (.int 1)) (dCons (dC (.int 1)) (dCons (dC (.int 1)) (dCons (dC (.int 2)) (dCons (dC (.int 2)) (dCons (dC (.int 3)) (dCons (dC (.int 4)) (dCons (dOp dAdd (dC (.int 1)) (dCall Rdraw (dCons (dVar 0) (dCons (dVar 2) dNil)))) dNil)))))))))) dNil)))) (dVar 6) (dVar 7)) (dSet2 4 (dOp dSub (dC (.int 0)) (dCall R__law_pick (dCons (dVar 0) (dCons (dLst (dCons (dC (.int 1)) (dCons (dC (.int 1)) (dCons (dC (.int 1)) (dCons (dC (.int 1)) (dCons (dC (.int 1)) (dCons (dC (.int 2)) (dCons (dC (.int 3)) (dCons (dC (.int 4)) (dCons (dOp dAdd (dC (.int 1)) (dCall Rdraw (dCons (dVar 0) (dCons (dVar 2) dNil)))) dNil)))))))))) dNil)))) (dVar 7) (dVar 6))) dNext))) (dFrz 4 (dRet (dCB dTupC (dCons (dNE (dLc (diList (dVar 4)) (dgName 8) dYes (dCB dTupC (dCons (dVar 8) dNil)) [8])) dNil))))))))
def R__law_wild : DF := Rof N__law_wild 3 ds__law_wild
/-! ### _law_longer -/
def N__law_longer : List Str := ["_law_pot_here", "_law_matrix_here", "_law_many", "_law_scale", "_law_top", "_law_size", "_law_rows", "_law_i", "_law_j", "_law_each"]
theorem sc__law_longer : FnScope N__law_longer ["_law_pot_here", "_law_matrix_here"] (defScope s__law_longer) := ⟨rfl, rfl, rfl, by decide +kernel, rfl, by decide +kernel, by decide +kernel⟩
def ds__law_longer : DS := (dSeq (dAsgG (dTup (dCons (dCB dLen (dCons (dVar 1) dNil)) (dCons (dOp dIx (dCall R__law_symmetrizer (dCons (dVar 1) dNil)) (dC (.int 0))) dNil))) (dgTup (dgCons (dgName 2) (dgCons (dgName 3) dgNil)))) (dSeq (dSet 4 (dOp dIx (dCall R__law_positive (dCons (dVar 1) (dCons (dC (.int 200)) dNil))) (dNeg (dC (.int 1))))) (dSeq (dParO [5, 6] (dConsO (dCall R__law_form (dCons (dVar 1) (dCons (dVar 3) (dCons (dVar 4) (dCons (dVar 4) dNil))))) (dConsN (dLstN dNil) dNil))) (dSeq (dFor (diRng1 (dCons (dVar 2) dNil)) (dgName 7) (dApp 6 (dOp dAdd (dOp dIx (dVar 1) (dVar 7)) (dTup (dCons (dOp dSub (dC (.int 0)) (dCB dSumA (dCons (dNE (dLc (diRng1 (dCons (dVar 2) dNil)) (dgName 8) dYes (dOp dMul (dOp dIx (dOp dIx (dVar 1) (dVar 7)) (dVar 8)) (dOp dIx (dVar 4) (dVar 8))) [8])) dNil))) dNil))))) (dSeq (dApp 6 (dOp dAdd (dCB dTupC (dCons (dNE (dLc (diList (dCall R__law_simple (dCons (dVar 2) dNil))) (dgName 9) dYes (dOp dSub (dC (.int 0)) (dOp dFdv (dOp dMul (dC (.int 2)) (dCall R__law_form (dCons (dVar 1) (dCons (dVar 3) (dCons (dVar 4) (dCons (dVar 9) dNil)))))) (dVar 5))) [9])) dNil)) (dTup (dCons (dC (.int 2)) dNil)))) (dSeq (dIfS (dTest (dOp dEq (dCall Rdraw (dCons (dVar 0) (dCons (dC (.int 2)) dNil))) (dC (.int 0)))) (dSetN 6 (dLc (diRng1 (dCons (dOp dAdd (dVar 2) (dC (.int 1))) dNil)) (dgName 7) dYes (dCB dTupC (dCons (dNE (dLc (diRng1 (dCons (dOp dAdd (dVar 2) (dC (.int 1))) dNil)) (dgName 8) dYes (dOp dIx (dOp dIx (dVar 6) (dVar 8)) (dVar 7)) [8])) dNil)) [7])) dNext) (dFrz 6 (dRet (dCB dTupC (dCons (dVar 6) dNil))))))))))
def R__law_longer : DF := Rof N__law_longer 2 ds__law_longer
/-! ### _law_put_together -/
def N__law_put_together : List Str := ["_law_one", "_law_two", "_law_ahead", "_law_behind", "_law_row"]
theorem sc__law_put_together : FnScope N__law_put_together ["_law_one", "_law_two"] (defScope s__law_put_together) := ⟨rfl, rfl, rfl, by decide +kernel, rfl, by decide +kernel, by decide +kernel⟩
def ds__law_put_together : DS := (dSeq (dAsgG (dTup (dCons (dOp dMul (dTup (dCons (dC (.int 0)) dNil)) (dCB dLen (dCons (dVar 0) dNil))) (dCons (dOp dMul (dTup (dCons (dC (.int 0)) dNil)) (dCB dLen (dCons (dVar 1) dNil))) dNil))) (dgTup (dgCons (dgName 2) (dgCons (dgName 3) dgNil)))) (dRet (dCB dTupC (dCons (dOp dAdd (dNE (dLc (diTup (dVar 0)) (dgName 4) dYes (dOp dAdd (dVar 4) (dVar 3)) [4])) (dNE (dLc (diTup (dVar 1)) (dgName 4) dYes (dOp dAdd (dVar 2) (dVar 4)) [4]))) dNil))))
def R__law_put_together : DF := Rof N__law_put_together 2 ds__law_put_together
def cs__law_put_together : CS := (cSeq (cAsgG (cTup (cCons (cOp cMul (cTup (cCons (cC (.int 0)) cNil)) (cCB cLen (cCons (cVar 0) cNil))) (cCons (cOp cMul (cTup (cCons (cC (.int 0)) cNil)) (cCB cLen (cCons (cVar 1) cNil))) cNil))) (cgTup (cgCons (cgName 2) (cgCons (cgName 3) cgNil)))) (cRet (cCB cTupC (cCons (cOp cAdd (cNE (cLc (ciTup (cVar 0)) (cgName 4) cYes (cOp cAdd (cVar 4) (cVar 3)) [4])) (cNE (cLc (ciTup (cVar 1)) (cgName 4) cYes (cOp cAdd (cVar 2) (cVar 4)) [4]))) cNil))))
instance ev__law_put_together : EvS ds__law_put_together cs__law_put_together := by
  unfold ds__law_put_together cs__law_put_together
  infer_instance
def c__law_put_together : CF := cRof N__law_put_together 2 cs__law_put_together
instance evf__law_put_together : EvF R__law_put_together c__law_put_together := by
  unfold R__law_put_together c__law_put_together
  infer_instance
/-! ### _law_any_cartan -/
def N__law_any_cartan : List Str := ["_law_pot_here", "_law_most", "_law_size", "_law_way", "_law_half", "_law_found", "_law_small"]
theorem sc__law_any_cartan : FnScope N__law_any_cartan ["_law_pot_here", "_law_most", "_law_size"] (defScope s__law_any_cartan) := ⟨rfl, rfl, rfl, by decide +kernel, rfl, by decide +kernel, by decide +kernel⟩
def ds__law_any_cartan : DS := (dSeq (dPar 3 4 (dCons (dCall Rdraw (dCons (dVar 0) (dCons (dC (.int 6)) dNil))) (dCons (dOp dFdv (dVar 1) (dC (.int 2))) dNil))) (dSeq (dIfS (dTest (dOp dEq (dVar 3) (dC (.int 0)))) (dSet 5 (dCall R__law_matrix (dCons (dVar 0) (dCons (dVar 1) dNil)))) (dIfS (dTest (dOp dEq (dVar 3) (dC (.int 1)))) (dSet 5 (dCall R__law_longer (dCons (dVar 0) (dCons (dCall R__law_single (dCons (dCall R__law_pick (dCons (dVar 0) (dCons (dCall R__law_names (dCons (dOp dAdd (dC (.int 1)) (dCall Rdraw (dCons (dVar 0) (dCons (dOp dSub (dVar 1) (dC (.int 1))) dNil)))) dNil)) dNil))) dNil)) dNil)))) (dIfS (dTest (dOp dEq (dVar 3) (dC (.int 2)))) (dSet 5 (dCall R__law_put_together (dCons (dCall R__law_wild (dCons (dVar 0) (dCons (dVar 4) (dCons (dVar 2) dNil)))) (dCons (dCall R__law_wild (dCons (dVar 0) (dCons (dVar 4) (dCons (dVar 2) dNil)))) dNil)))) (dIfS (dTest (dOp dEq (dVar 3) (dC (.int 3)))) (dSeq (dSet 6 (dCall R__law_single (dCons (dCall R__law_pick (dCons (dVar 0) (dCons (dCall R__law_names (dCons (dOp dAdd (dC (.int 1)) (dCall Rdraw (dCons (dVar 0) (dCons (dOp dSub (dVar 4) (dC (.int 1))) dNil)))) dNil)) dNil))) dNil))) (dSet 5 (dCall R__law_put_together (dCons (dCall R__law_longer (dCons (dVar 0) (dCons (dVar 6) dNil))) (dCons (dCall R__law_matrix (dCons (dVar 0) (dCons (dVar 4) dNil))) dNil))))) (dSet 5 (dCall R__law_wild (dCons (dVar 0) (dCons (dVar 1) (dCons (dVar 2) dNil))))))))) (dRet (dCall R__law_led_nodes (dCons (dVar 5) (dCons (dCall R__law_mixed (dCons (dVar 0) (dCons (dLstRg (dRg1 (dCB dLen (dCons (dVar 5) dNil)))) dNil))) dNil))))))
def R__law_any_cartan : DF := Rof N__law_any_cartan 3 ds__law_any_cartan
/-! ### _law_bent -/
def N__law_bent : List Str := ["_law_pot_here", "_law_matrix_here", "_law_many", "_law_i", "_law_j", "_law_rows", "_law_way", "_law_number_here", "_law_here", "_law_there", "_law_row"]
theorem sc__law_bent : FnScope N__law_bent ["_law_pot_here", "_law_matrix_here"] (defScope s__law_bent) := ⟨rfl, rfl, rfl, by decide +kernel, rfl, by decide +kernel, by decide +kernel⟩
def ds__law_bent : DS := (dSeq (dSet 2 (dCB dLen (dCons (dVar 1) dNil))) (dSeq (dParO [3, 4, 5, 6] (dConsO (dCall Rdraw (dCons (dVar 0) (dCons (dVar 2) dNil))) (dConsO (dCall Rdraw (dCons (dVar 0) (dCons (dVar 2) dNil))) (dConsN (dLstCN (dCons (dVar 1) dNil)) (dConsO (dCall Rdraw (dCons (dVar 0) (dCons (dC (.int 13)) dNil))) dNil))))) (dSeq (dIfS (dTest (dOp dLt (dVar 6) (dC (.int 5)))) (dSeq (dSet 7 (dCall R__law_pick (dCons (dVar 0) (dCons (dLst (dCons (dOp dAdd (dOp dIx (dOp dIx (dVar 1) (dVar 3)) (dVar 4)) (dC (.int 1))) (dCons (dOp dSub (dOp dIx (dOp dIx (dVar 1) (dVar 3)) (dVar 4)) (dC (.int 1))) (dCons (dC (.int 0)) (dCons (dC (.bool true)) (dCons (dC .none) (dCons (dOp dSub (dC (.int 0)) (dOp dIx (dOp dIx (dVar 1) (dVar 3)) (dVar 4))) (dCons (dC (.int 2)) (dCons (dC (.str "0")) dNil))))))))) dNil)))) (dSet1 5 (dOp dAdd (dOp dAdd (dSl (dOp dIx (dVar 5) (dVar 3)) dNoPart (dPart (dVar 4))) (dTup (dCons (dVar 7) dNil))) (dSl (dOp dIx (dVar 5) (dVar 3)) (dPart (dOp dAdd (dVar 4) (dC (.int 1)))) dNoPart)) (dVar 3))) (dIfS (dTest (dOp dEq (dVar 6) (dC (.int 5)))) (dSet1 5 (dCall R__law_pick (dCons (dVar 0) (dCons (dLst (dCons (dCB dLstC (dCons (dOp dIx (dVar 5) (dVar 3)) dNil)) (dCons (dSl (dOp dIx (dVar 5) (dVar 3)) dNoPart (dPart (dNeg (dC (.int 1))))) (dCons (dOp dAdd (dOp dIx (dVar 5) (dVar 3)) (dTup (dCons (dC (.int 0)) dNil))) (dCons (dTup dNil) (dCons (dC .none) dNil)))))) dNil))) (dVar 3)) (dIfS (dTest (dOp dEq (dVar 6) (dC (.int 6)))) (dFrz 5 (dSetN 5 (dCatN (dSl (dVar 5) dNoPart (dPart (dVar 3))) (dSl (dVar 5) (dPart (dOp dAdd (dVar 3) (dC (.int 1)))) dNoPart)))) (dIfS (dTest (dOp dEq (dVar 6) (dC (.int 7)))) (dSetN 5 (dCatN (dVar 5) (dLst (dCons (dOp dIx (dVar 5) (dVar 3)) dNil)))) (dIfS (dTest (dOp dEq (dVar 6) (dC (.int 8)))) (dFrz 5 (dSetN 5 (dLc (diList (dVar 5)) (dgName 10) dYes (dOp dAdd (dSl (dVar 10) dNoPart (dPart (dVar 4))) (dSl (dVar 10) (dPart (dOp dAdd (dVar 4) (dC (.int 1)))) dNoPart)) [10]))) (dIfS (dAndT (dTest (dOp dGt (dVar 6) (dC (.int 9)))) (dTest (dOp dNe (dVar 3) (dVar 4)))) (dSeq (dAsgG (dCall R__law_pick (dCons (dVar 0) (dCons (dLst (dCons (dTup (dCons (dC (.int 1)) (dCons (dC (.int 1)) dNil))) (dCons (dTup (dCons (dC (.int 1)) (dCons (dNeg (dC (.int 1))) dNil))) (dCons (dTup (dCons (dNeg (dC (.int 1))) (dCons (dC (.int 0)) dNil))) (dCons (dTup (dCons (dC (.int 2)) (dCons (dC (.int 1)) dNil))) (dCons (dTup (dCons (dC (.int 0)) (dCons (dC (.int 0)) dNil))) (dCons (dTup (dCons (dNeg (dC (.int 2))) (dCons (dNeg (dC (.int 3))) dNil))) dNil))))))) dNil))) (dgTup (dgCons (dgName 8) (dgCons (dgName 9) dgNil)))) (dSeq (dSet1 5 (dOp dAdd (dOp dAdd (dSl (dOp dIx (dVar 5) (dVar 3)) dNoPart (dPart (dVar 4))) (dTup (dCons (dVar 8) dNil))) (dSl (dOp dIx (dVar 5) (dVar 3)) (dPart (dOp dAdd (dVar 4) (dC (.int 1)))) dNoPart)) (dVar 3)) (dSet1 5 (dOp dAdd (dOp dAdd (dSl (dOp dIx (dVar 5) (dVar 4)) dNoPart (dPart (dVar 3))) (dTup (dCons (dVar 9) dNil))) (dSl (dOp dIx (dVar 5) (dVar 4)) (dPart (dOp dAdd (dVar 3) (dC (.int 1)))) dNoPart)) (dVar 4)))) dNext)))))) (dFrz 5 (dRet (dIf (dTest (dOp dEq (dVar 6) (dC (.int 9)))) (dVar 5) (dCB dTupC (dCons (dVar 5) dNil))))))))
def R__law_bent : DF := Rof N__law_bent 2 ds__law_bent
/-! ### _law_right -/
def N__law_right : List Str := ["_law_pot_here", "_law_thing", "_law_way", "_law_due", "_law_found", "_law_vector_here", "_law_sums", "_law_row", "_law_x", "_law_y"]
theorem sc__law_right : FnScope N__law_right ["_law_pot_here"] (defScope s__law_right) := ⟨rfl, rfl, rfl, by decide +kernel, rfl, by decide +kernel, by decide +kernel⟩
def ds__law_right : DS := (dSeq (dSet 1 (dCall R__law_any_cartan (dCons (dVar 0) (dCons (dC (.int 8)) (dCons (dC (.int 20)) dNil))))) (dSeq (dIfS (dTest (dOp dEq (dCall Rdraw (dCons (dVar 0) (dCons (dC (.int 12)) dNil))) (dC (.int 0)))) (dSet 1 (dCall R__law_put_together (dCons (dVar 1) (dCons (dTup (dCons (dTup (dCons (dC (.int 2)) dNil)) dNil)) dNil)))) dNext) (dSeq (dSet 2 (dCall Rdraw (dCons (dVar 0) (dCons (dC (.int 5)) dNil)))) (dSeq (dSet 1 (dIf (dTest (dOp dEq (dVar 2) (dC (.int 0)))) (dCall R__law_odd (dCons (dVar 0) dNil)) (dIf (dTest (dOp dLt (dVar 2) (dC (.int 3)))) (dCall R__law_bent (dCons (dVar 0) (dCons (dVar 1) dNil))) (dVar 1)))) (dSeq (dSet 3 (dCall R__law_is_cartan (dCons (dVar 1) dNil))) (dSeq (dIfS (dTest (dOp dNe (dCB dRepr (dCons (dLst (dCons (dCall R_is_matrix (dCons (dVar 1) dNil)) (dCons (dCallX R_is_matrix 0 1 [0] dNil (dCons (dVar 1) dNil)) dNil))) dNil)) (dCB dRepr (dCons (dLst (dCons (dVar 3) (dCons (dVar 3) dNil))) dNil)))) (dRet (dC (.bool false))) dNext) (dSeq (dIfS (dNotT (dTest (dVar 3))) (dRet (dC (.bool true))) dNext) (dSeq (dSet 4 (dCall R__law_parts (dCons (dVar 1) dNil))) (dSeq (dIfS (dTest (dOp dNe (dCB dRepr (dCons (dLst (dCons (dCall R_parts_of (dCons (dVar 1) dNil)) (dCons (dCallX R_parts_of 0 1 [0] dNil (dCons (dVar 1) dNil)) dNil))) dNil)) (dCB dRepr (dCons (dLst (dCons (dVar 4) (dCons (dVar 4) dNil))) dNil)))) (dRet (dC (.bool false))) dNext) (dSeq (dSet 5 (dCall R__law_vector (dCons (dVar 0) (dCons (dCB dLen (dCons (dVar 1) dNil)) (dCons (dC (.int 9)) dNil))))) (dSeq (dSet 6 (dCB dTupC (dCons (dNE (dLc (diTup (dVar 1)) (dgName 7) dYes (dCB dSumA (dCons (dNE (dLc (diZipM (dCons (dVar 7) (dCons (dVar 5) dNil))) (dgTup (dgCons (dgName 8) (dgCons (dgName 9) dgNil))) dYes (dOp dMul (dVar 8) (dVar 9)) [8, 9])) dNil)) [7])) dNil))) (dRet (dOp dEq (dCB dRepr (dCons (dLst (dCons (dCall R_times_vector (dCons (dVar 1) (dCons (dVar 5) dNil))) (dCons (dCallX R_times_vector 0 2 [1, 0] dNil (dCons (dVar 5) (dCons (dVar 1) dNil))) dNil))) dNil)) (dCB dRepr (dCons (dLst (dCons (dVar 6) (dCons (dVar 6) dNil))) dNil)))))))))))))))
def R__law_right : DF := Rof N__law_right 1 ds__law_right
/-! ### facts -/
structure Fds where
  fd_is_whole : FuncData
  fd_is_row_of : FuncData
  fd_is_cartan : FuncData
  fd_joined_to : FuncData
  fd_all_parts : FuncData
  fd_dot : FuncData
  fd_product_by : FuncData
  fd_check_matrix : FuncData
  fd_check_vector : FuncData
  fd_is_matrix : FuncData
  fd_parts_of : FuncData
  fd_times_vector : FuncData
  fd__law_pot : FuncData
  fd__law_draw : FuncData
  fd__law_pick : FuncData
  fd__law_mixed : FuncData
  fd__law_gcd : FuncData
  fd__law_is_whole : FuncData
  fd__law_is_row : FuncData
  fd__law_is_cartan : FuncData
  fd__law_odd : FuncData
  fd__law_names : FuncData
  fd__law_single : FuncData
  fd__law_blocks : FuncData
  fd__law_type : FuncData
  fd__law_led_nodes : FuncData
  fd__law_matrix : FuncData
  fd__law_parts : FuncData
  fd__law_reflected : FuncData
  fd__law_simple : FuncData
  fd__law_positive : FuncData
  fd__law_lean : FuncData
  fd__law_symmetrizer : FuncData
  fd__law_form : FuncData
  fd__law_number : FuncData
  fd__law_vector : FuncData
  fd__law_wild : FuncData
  fd__law_longer : FuncData
  fd__law_put_together : FuncData
  fd__law_any_cartan : FuncData
  fd__law_bent : FuncData
  fd__law_right : FuncData
  fd_law : FuncData
  u_MOST_NODES : Value
  v_MOST_NODES : V
structure T (D : Fds) (w : World) (K : PySem.W.Frag) (mg : Str → Option Value) : Prop where
  F_is_whole : FunD K "is_whole" "is_whole" (defArgs s_is_whole) (defBody s_is_whole) (defScope s_is_whole) [] [] (He.ga K "is_whole") D.fd_is_whole
  g_is_whole : mg "is_whole" = some (.ref (He.ga K "is_whole"))
  F_is_row_of : FunD K "is_row_of" "is_row_of" (defArgs s_is_row_of) (defBody s_is_row_of) (defScope s_is_row_of) [] [] (He.ga K "is_row_of") D.fd_is_row_of
  g_is_row_of : mg "is_row_of" = some (.ref (He.ga K "is_row_of"))
  F_is_cartan : FunD K "is_cartan" "is_cartan" (defArgs s_is_cartan) (defBody s_is_cartan) (defScope s_is_cartan) [] [] (He.ga K "is_cartan") D.fd_is_cartan
  g_is_cartan : mg "is_cartan" = some (.ref (He.ga K "is_cartan"))
  F_joined_to : FunD K "joined_to" "joined_to" (defArgs s_joined_to) (defBody s_joined_to) (defScope s_joined_to) [] [] (He.ga K "joined_to") D.fd_joined_to
  g_joined_to : mg "joined_to" = some (.ref (He.ga K "joined_to"))
  F_all_parts : FunD K "all_parts" "all_parts" (defArgs s_all_parts) (defBody s_all_parts) (defScope s_all_parts) [] [] (He.ga K "all_parts") D.fd_all_parts
  g_all_parts : mg "all_parts" = some (.ref (He.ga K "all_parts"))
  F_dot : FunD K "dot" "dot" (defArgs s_dot) (defBody s_dot) (defScope s_dot) [] [] (He.ga K "dot") D.fd_dot
  g_dot : mg "dot" = some (.ref (He.ga K "dot"))
  F_product_by : FunD K "product_by" "product_by" (defArgs s_product_by) (defBody s_product_by) (defScope s_product_by) [] [] (He.ga K "product_by") D.fd_product_by
  g_product_by : mg "product_by" = some (.ref (He.ga K "product_by"))
  F_check_matrix : FunD K "check_matrix" "check_matrix" (defArgs s_check_matrix) (defBody s_check_matrix) (defScope s_check_matrix) [] [] (He.ga K "check_matrix") D.fd_check_matrix
  g_check_matrix : mg "check_matrix" = some (.ref (He.ga K "check_matrix"))
  F_check_vector : FunD K "check_vector" "check_vector" (defArgs s_check_vector) (defBody s_check_vector) (defScope s_check_vector) [] [] (He.ga K "check_vector") D.fd_check_vector
  g_check_vector : mg "check_vector" = some (.ref (He.ga K "check_vector"))
  F_is_matrix : FunD K "is_matrix" "is_matrix" (defArgs s_is_matrix) (defBody s_is_matrix) (defScope s_is_matrix) [] [] (He.ga K "is_matrix") D.fd_is_matrix
  g_is_matrix : mg "is_matrix" = some (.ref (He.ga K "is_matrix"))
  F_parts_of : FunD K "parts_of" "parts_of" (defArgs s_parts_of) (defBody s_parts_of) (defScope s_parts_of) [] [] (He.ga K "parts_of") D.fd_parts_of
  g_parts_of : mg "parts_of" = some (.ref (He.ga K "parts_of"))
  F_times_vector : FunD K "times_vector" "times_vector" (defArgs s_times_vector) (defBody s_times_vector) (defScope s_times_vector) [] [] (He.ga K "times_vector") D.fd_times_vector
  g_times_vector : mg "times_vector" = some (.ref (He.ga K "times_vector"))
  F__law_pot : FunD K "_law_pot" "_law_pot" (defArgs s__law_pot) (defBody s__law_pot) (defScope s__law_pot) [] [] (He.ga K "_law_pot") D.fd__law_pot
  g__law_pot : mg "_law_pot" = some (.ref (He.ga K "_law_pot"))
  F__law_draw : FunD K "_law_draw" "_law_draw" (defArgs s__law_draw) (defBody s__law_draw) (defScope s__law_draw) [] [] (He.ga K "_law_draw") D.fd__law_draw
  g__law_draw : mg "_law_draw" = some (.ref (He.ga K "_law_draw"))
  F__law_pick : FunD K "_law_pick" "_law_pick" (defArgs s__law_pick) (defBody s__law_pick) (defScope s__law_pick) [] [] (He.ga K "_law_pick") D.fd__law_pick
  g__law_pick : mg "_law_pick" = some (.ref (He.ga K "_law_pick"))
  F__law_mixed : FunD K "_law_mixed" "_law_mixed" (defArgs s__law_mixed) (defBody s__law_mixed) (defScope s__law_mixed) [] [] (He.ga K "_law_mixed") D.fd__law_mixed
  g__law_mixed : mg "_law_mixed" = some (.ref (He.ga K "_law_mixed"))
  F__law_gcd : FunD K "_law_gcd" "_law_gcd" (defArgs s__law_gcd) (defBody s__law_gcd) (defScope s__law_gcd) [] [] (He.ga K "_law_gcd") D.fd__law_gcd
  g__law_gcd : mg "_law_gcd" = some (.ref (He.ga K "_law_gcd"))
  F__law_is_whole : FunD K "_law_is_whole" "_law_is_whole" (defArgs s__law_is_whole) (defBody s__law_is_whole) (defScope s__law_is_whole) [] [] (He.ga K "_law_is_whole") D.fd__law_is_whole
  g__law_is_whole : mg "_law_is_whole" = some (.ref (He.ga K "_law_is_whole"))
  F__law_is_row : FunD K "_law_is_row" "_law_is_row" (defArgs s__law_is_row) (defBody s__law_is_row) (defScope s__law_is_row) [] [] (He.ga K "_law_is_row") D.fd__law_is_row
  g__law_is_row : mg "_law_is_row" = some (.ref (He.ga K "_law_is_row"))
  F__law_is_cartan : FunD K "_law_is_cartan" "_law_is_cartan" (defArgs s__law_is_cartan) (defBody s__law_is_cartan) (defScope s__law_is_cartan) [] [] (He.ga K "_law_is_cartan") D.fd__law_is_cartan
  g__law_is_cartan : mg "_law_is_cartan" = some (.ref (He.ga K "_law_is_cartan"))
  F__law_odd : FunD K "_law_odd" "_law_odd" (defArgs s__law_odd) (defBody s__law_odd) (defScope s__law_odd) [] [] (He.ga K "_law_odd") D.fd__law_odd
  g__law_odd : mg "_law_odd" = some (.ref (He.ga K "_law_odd"))
  F__law_names : FunD K "_law_names" "_law_names" (defArgs s__law_names) (defBody s__law_names) (defScope s__law_names) [] [] (He.ga K "_law_names") D.fd__law_names
  g__law_names : mg "_law_names" = some (.ref (He.ga K "_law_names"))
  F__law_single : FunD K "_law_single" "_law_single" (defArgs s__law_single) (defBody s__law_single) (defScope s__law_single) [] [] (He.ga K "_law_single") D.fd__law_single
  g__law_single : mg "_law_single" = some (.ref (He.ga K "_law_single"))
  F__law_blocks : FunD K "_law_blocks" "_law_blocks" (defArgs s__law_blocks) (defBody s__law_blocks) (defScope s__law_blocks) [] [] (He.ga K "_law_blocks") D.fd__law_blocks
  g__law_blocks : mg "_law_blocks" = some (.ref (He.ga K "_law_blocks"))
  F__law_type : FunD K "_law_type" "_law_type" (defArgs s__law_type) (defBody s__law_type) (defScope s__law_type) [] [] (He.ga K "_law_type") D.fd__law_type
  g__law_type : mg "_law_type" = some (.ref (He.ga K "_law_type"))
  F__law_led_nodes : FunD K "_law_led_nodes" "_law_led_nodes" (defArgs s__law_led_nodes) (defBody s__law_led_nodes) (defScope s__law_led_nodes) [] [] (He.ga K "_law_led_nodes") D.fd__law_led_nodes
  g__law_led_nodes : mg "_law_led_nodes" = some (.ref (He.ga K "_law_led_nodes"))
  F__law_matrix : FunD K "_law_matrix" "_law_matrix" (defArgs s__law_matrix) (defBody s__law_matrix) (defScope s__law_matrix) [] [] (He.ga K "_law_matrix") D.fd__law_matrix
  g__law_matrix : mg "_law_matrix" = some (.ref (He.ga K "_law_matrix"))
  F__law_parts : FunD K "_law_parts" "_law_parts" (defArgs s__law_parts) (defBody s__law_parts) (defScope s__law_parts) [] [] (He.ga K "_law_parts") D.fd__law_parts
  g__law_parts : mg "_law_parts" = some (.ref (He.ga K "_law_parts"))
  F__law_reflected : FunD K "_law_reflected" "_law_reflected" (defArgs s__law_reflected) (defBody s__law_reflected) (defScope s__law_reflected) [] [] (He.ga K "_law_reflected") D.fd__law_reflected
  g__law_reflected : mg "_law_reflected" = some (.ref (He.ga K "_law_reflected"))
  F__law_simple : FunD K "_law_simple" "_law_simple" (defArgs s__law_simple) (defBody s__law_simple) (defScope s__law_simple) [] [] (He.ga K "_law_simple") D.fd__law_simple
  g__law_simple : mg "_law_simple" = some (.ref (He.ga K "_law_simple"))
  F__law_positive : FunD K "_law_positive" "_law_positive" (defArgs s__law_positive) (defBody s__law_positive) (defScope s__law_positive) [] [] (He.ga K "_law_positive") D.fd__law_positive
  g__law_positive : mg "_law_positive" = some (.ref (He.ga K "_law_positive"))
  F__law_lean : FunD K "_law_lean" "_law_lean" (defArgs s__law_lean) (defBody s__law_lean) (defScope s__law_lean) [] [] (He.ga K "_law_lean") D.fd__law_lean
  g__law_lean : mg "_law_lean" = some (.ref (He.ga K "_law_lean"))
  F__law_symmetrizer : FunD K "_law_symmetrizer" "_law_symmetrizer" (defArgs s__law_symmetrizer) (defBody s__law_symmetrizer) (defScope s__law_symmetrizer) [] [] (He.ga K "_law_symmetrizer") D.fd__law_symmetrizer
  g__law_symmetrizer : mg "_law_symmetrizer" = some (.ref (He.ga K "_law_symmetrizer"))
  F__law_form : FunD K "_law_form" "_law_form" (defArgs s__law_form) (defBody s__law_form) (defScope s__law_form) [] [] (He.ga K "_law_form") D.fd__law_form
  g__law_form : mg "_law_form" = some (.ref (He.ga K "_law_form"))
  F__law_number : FunD K "_law_number" "_law_number" (defArgs s__law_number) (defBody s__law_number) (defScope s__law_number) [] [] (He.ga K "_law_number") D.fd__law_number
  g__law_number : mg "_law_number" = some (.ref (He.ga K "_law_number"))
  F__law_vector : FunD K "_law_vector" "_law_vector" (defArgs s__law_vector) (defBody s__law_vector) (defScope s__law_vector) [] [] (He.ga K "_law_vector") D.fd__law_vector
  g__law_vector : mg "_law_vector" = some (.ref (He.ga K "_law_vector"))
  F__law_wild : FunD K "_law_wild" "_law_wild" (defArgs s__law_wild) (defBody s__law_wild) (defScope s__law_wild) [] [] (He.ga K "_law_wild") D.fd__law_wild
  g__law_wild : mg "_law_wild" = some (.ref (He.ga K "_law_wild"))
  F__law_longer : FunD K "_law_longer" "_law_longer" (defArgs s__law_longer) (defBody s__law_longer) (defScope s__law_longer) [] [] (He.ga K "_law_longer") D.fd__law_longer
  g__law_longer : mg "_law_longer" = some (.ref (He.ga K "_law_longer"))
  F__law_put_together : FunD K "_law_put_together" "_law_put_together" (defArgs s__law_put_together) (defBody s__law_put_together) (defScope s__law_put_together) [] [] (He.ga K "_law_put_together") D.fd__law_put_together
  g__law_put_together : mg "_law_put_together" = some (.ref (He.ga K "_law_put_together"))
  F__law_any_cartan : FunD K "_law_any_cartan" "_law_any_cartan" (defArgs s__law_any_cartan) (defBody s__law_any_cartan) (defScope s__law_any_cartan) [] [] (He.ga K "_law_any_cartan") D.fd__law_any_cartan
  g__law_any_cartan : mg "_law_any_cartan" = some (.ref (He.ga K "_law_any_cartan"))
  F__law_bent : FunD K "_law_bent" "_law_bent" (defArgs s__law_bent) (defBody s__law_bent) (defScope s__law_bent) [] [] (He.ga K "_law_bent") D.fd__law_bent
  g__law_bent : mg "_law_bent" = some (.ref (He.ga K "_law_bent"))
  F__law_right : FunD K "_law_right" "_law_right" (defArgs s__law_right) (defBody s__law_right) (defScope s__law_right) [] [] (He.ga K "_law_right") D.fd__law_right
  g__law_right : mg "_law_right" = some (.ref (He.ga K "_law_right"))
  F_law : FunD K "law" "law" (defArgs s_law) (defBody s_law) (defScope s_law) [] [] (He.ga K "law") D.fd_law
  g_law : mg "law" = some (.ref (He.ga K "law"))
  free_abs : mg "abs" = none
  free_all : mg "all" = none
  free_bool : mg "bool" = none
  free_divmod : mg "divmod" = none
  free_enumerate : mg "enumerate" = none
  free_int : mg "int" = none
  free_isinstance : mg "isinstance" = none
  free_len : mg "len" = none
  free_list : mg "list" = none
  free_max : mg "max" = none
  free_min : mg "min" = none
  free_range : mg "range" = none
  free_repr : mg "repr" = none
  free_set : mg "set" = none
  free_sorted : mg "sorted" = none
  free_str : mg "str" = none
  free_sum : mg "sum" = none
  free_tuple : mg "tuple" = none
  free_zip : mg "zip" = none
  G_MOST_NODES : GV K mg "MOST_NODES" D.u_MOST_NODES D.v_MOST_NODES (.int 8)
section
variable {P : Program} {D : Fds} {w : World} {K : PySem.W.Frag} {mg : Str → Option Value} {base : Heap}
theorem b_is_whole (t : T D w K mg) : Binds K D.fd_is_whole ["value"] [] := t.F_is_whole.bindsN fun _ _ _ _ _ _ us hl => match us, hl with | [_], _ => rfl
theorem b_is_row_of (t : T D w K mg) : Binds K D.fd_is_row_of ["value", "many"] [] := t.F_is_row_of.bindsN fun _ _ _ _ _ _ us hl => match us, hl with | [_, _], _ => rfl
theorem b_is_cartan (t : T D w K mg) : Binds K D.fd_is_cartan ["value"] [] := t.F_is_cartan.bindsN fun _ _ _ _ _ _ us hl => match us, hl with | [_], _ => rfl
theorem b_joined_to (t : T D w K mg) : Binds K D.fd_joined_to ["matrix", "node"] [] := t.F_joined_to.bindsN fun _ _ _ _ _ _ us hl => match us, hl with | [_, _], _ => rfl
theorem b_all_parts (t : T D w K mg) : Binds K D.fd_all_parts ["matrix"] [] := t.F_all_parts.bindsN fun _ _ _ _ _ _ us hl => match us, hl with | [_], _ => rfl
theorem b_dot (t : T D w K mg) : Binds K D.fd_dot ["row", "vector"] [] := t.F_dot.bindsN fun _ _ _ _ _ _ us hl => match us, hl with | [_, _], _ => rfl
theorem b_product_by (t : T D w K mg) : Binds K D.fd_product_by ["matrix", "vector"] [] := t.F_product_by.bindsN fun _ _ _ _ _ _ us hl => match us, hl with | [_, _], _ => rfl
theorem b_check_matrix (t : T D w K mg) : Binds K D.fd_check_matrix ["value"] [] := t.F_check_matrix.bindsN fun _ _ _ _ _ _ us hl => match us, hl with | [_], _ => rfl
theorem b_check_vector (t : T D w K mg) : Binds K D.fd_check_vector ["matrix", "value"] [] := t.F_check_vector.bindsN fun _ _ _ _ _ _ us hl => match us, hl with | [_, _], _ => rfl
theorem b_is_matrix (t : T D w K mg) : Binds K D.fd_is_matrix ["value"] [] := t.F_is_matrix.bindsN fun _ _ _ _ _ _ us hl => match us, hl with | [_], _ => rfl
theorem b_parts_of (t : T D w K mg) : Binds K D.fd_parts_of ["matrix"] [] := t.F_parts_of.bindsN fun _ _ _ _ _ _ us hl => match us, hl with | [_], _ => rfl
theorem b_times_vector (t : T D w K mg) : Binds K D.fd_times_vector ["matrix", "vector"] [] := t.F_times_vector.bindsN fun _ _ _ _ _ _ us hl => match us, hl with | [_, _], _ => rfl
theorem b__law_pot (t : T D w K mg) : Binds K D.fd__law_pot ["_law_script", "_law_turn"] [] := t.F__law_pot.bindsN fun _ _ _ _ _ _ us hl => match us, hl with | [_, _], _ => rfl
theorem b__law_draw (t : T D w K mg) : Binds K D.fd__law_draw ["_law_pot_here", "_law_few"] [] := t.F__law_draw.bindsN fun _ _ _ _ _ _ us hl => match us, hl with | [_, _], _ => rfl
theorem b__law_pick (t : T D w K mg) : Binds K D.fd__law_pick ["_law_pot_here", "_law_some"] [] := t.F__law_pick.bindsN fun _ _ _ _ _ _ us hl => match us, hl with | [_, _], _ => rfl
theorem b__law_mixed (t : T D w K mg) : Binds K D.fd__law_mixed ["_law_pot_here", "_law_some"] [] := t.F__law_mixed.bindsN fun _ _ _ _ _ _ us hl => match us, hl with | [_, _], _ => rfl
theorem b__law_gcd (t : T D w K mg) : Binds K D.fd__law_gcd ["_law_one", "_law_two"] [] := t.F__law_gcd.bindsN fun _ _ _ _ _ _ us hl => match us, hl with | [_, _], _ => rfl
theorem b__law_is_whole (t : T D w K mg) : Binds K D.fd__law_is_whole ["_law_value"] [] := t.F__law_is_whole.bindsN fun _ _ _ _ _ _ us hl => match us, hl with | [_], _ => rfl
theorem b__law_is_row (t : T D w K mg) : Binds K D.fd__law_is_row ["_law_value", "_law_many"] [] := t.F__law_is_row.bindsN fun _ _ _ _ _ _ us hl => match us, hl with | [_, _], _ => rfl
theorem b__law_is_cartan (t : T D w K mg) : Binds K D.fd__law_is_cartan ["_law_value"] [] := t.F__law_is_cartan.bindsN fun _ _ _ _ _ _ us hl => match us, hl with | [_], _ => rfl
theorem b__law_odd (t : T D w K mg) : Binds K D.fd__law_odd ["_law_pot_here"] [] := t.F__law_odd.bindsN fun _ _ _ _ _ _ us hl => match us, hl with | [_], _ => rfl
theorem b__law_names (t : T D w K mg) : Binds K D.fd__law_names ["_law_many"] [] := t.F__law_names.bindsN fun _ _ _ _ _ _ us hl => match us, hl with | [_], _ => rfl
theorem b__law_single (t : T D w K mg) : Binds K D.fd__law_single ["_law_name"] [] := t.F__law_single.bindsN fun _ _ _ _ _ _ us hl => match us, hl with | [_], _ => rfl
theorem b__law_blocks (t : T D w K mg) : Binds K D.fd__law_blocks ["_law_name"] [] := t.F__law_blocks.bindsN fun _ _ _ _ _ _ us hl => match us, hl with | [_], _ => rfl
theorem b__law_type (t : T D w K mg) : Binds K D.fd__law_type ["_law_pot_here", "_law_most"] [] := t.F__law_type.bindsN fun _ _ _ _ _ _ us hl => match us, hl with | [_, _], _ => rfl
theorem b__law_led_nodes (t : T D w K mg) : Binds K D.fd__law_led_nodes ["_law_matrix_here", "_law_order"] [] := t.F__law_led_nodes.bindsN fun _ _ _ _ _ _ us hl => match us, hl with | [_, _], _ => rfl
theorem b__law_matrix (t : T D w K mg) : Binds K D.fd__law_matrix ["_law_pot_here", "_law_most"] [] := t.F__law_matrix.bindsN fun _ _ _ _ _ _ us hl => match us, hl with | [_, _], _ => rfl
theorem b__law_parts (t : T D w K mg) : Binds K D.fd__law_parts ["_law_matrix_here"] [] := t.F__law_parts.bindsN fun _ _ _ _ _ _ us hl => match us, hl with | [_], _ => rfl
theorem b__law_reflected (t : T D w K mg) : Binds K D.fd__law_reflected ["_law_matrix_here", "_law_node", "_law_vector_here"] [] := t.F__law_reflected.bindsN fun _ _ _ _ _ _ us hl => match us, hl with | [_, _, _], _ => rfl
theorem b__law_simple (t : T D w K mg) : Binds K D.fd__law_simple ["_law_many"] [] := t.F__law_simple.bindsN fun _ _ _ _ _ _ us hl => match us, hl with | [_], _ => rfl
theorem b__law_positive (t : T D w K mg) : Binds K D.fd__law_positive ["_law_matrix_here", "_law_most"] [] := t.F__law_positive.bindsN fun _ _ _ _ _ _ us hl => match us, hl with | [_, _], _ => rfl
theorem b__law_lean (t : T D w K mg) : Binds K D.fd__law_lean ["_law_top", "_law_base"] [] := t.F__law_lean.bindsN fun _ _ _ _ _ _ us hl => match us, hl with | [_, _], _ => rfl
theorem b__law_symmetrizer (t : T D w K mg) : Binds K D.fd__law_symmetrizer ["_law_matrix_here"] [] := t.F__law_symmetrizer.bindsN fun _ _ _ _ _ _ us hl => match us, hl with | [_], _ => rfl
theorem b__law_form (t : T D w K mg) : Binds K D.fd__law_form ["_law_matrix_here", "_law_scale", "_law_one", "_law_two"] [] := t.F__law_form.bindsN fun _ _ _ _ _ _ us hl => match us, hl with | [_, _, _, _], _ => rfl
theorem b__law_number (t : T D w K mg) : Binds K D.fd__law_number ["_law_pot_here", "_law_size"] [] := t.F__law_number.bindsN fun _ _ _ _ _ _ us hl => match us, hl with | [_, _], _ => rfl
theorem b__law_vector (t : T D w K mg) : Binds K D.fd__law_vector ["_law_pot_here", "_law_many", "_law_size"] [] := t.F__law_vector.bindsN fun _ _ _ _ _ _ us hl => match us, hl with | [_, _, _], _ => rfl
theorem b__law_wild (t : T D w K mg) : Binds K D.fd__law_wild ["_law_pot_here", "_law_most", "_law_size"] [] := t.F__law_wild.bindsN fun _ _ _ _ _ _ us hl => match us, hl with | [_, _, _], _ => rfl
theorem b__law_longer (t : T D w K mg) : Binds K D.fd__law_longer ["_law_pot_here", "_law_matrix_here"] [] := t.F__law_longer.bindsN fun _ _ _ _ _ _ us hl => match us, hl with | [_, _], _ => rfl
theorem b__law_put_together (t : T D w K mg) : Binds K D.fd__law_put_together ["_law_one", "_law_two"] [] := t.F__law_put_together.bindsN fun _ _ _ _ _ _ us hl => match us, hl with | [_, _], _ => rfl
theorem b__law_any_cartan (t : T D w K mg) : Binds K D.fd__law_any_cartan ["_law_pot_here", "_law_most", "_law_size"] [] := t.F__law_any_cartan.bindsN fun _ _ _ _ _ _ us hl => match us, hl with | [_, _, _], _ => rfl
theorem b__law_bent (t : T D w K mg) : Binds K D.fd__law_bent ["_law_pot_here", "_law_matrix_here"] [] := t.F__law_bent.bindsN fun _ _ _ _ _ _ us hl => match us, hl with | [_, _], _ => rfl
theorem b__law_right (t : T D w K mg) : Binds K D.fd__law_right ["_law_pot_here"] [] := t.F__law_right.bindsN fun _ _ _ _ _ _ us hl => match us, hl with | [_], _ => rfl
theorem kb_is_matrix_0_value (t : T D w K mg) : KB K D.fd_is_matrix ["value"] 0 ["value"] [0] := kb_of t.F_is_matrix fun _ _ _ _ _ _ us ws h1 h2 => match us, ws, h1, h2 with | [], [_], _, _ => rfl
theorem kb_parts_of_0_matrix (t : T D w K mg) : KB K D.fd_parts_of ["matrix"] 0 ["matrix"] [0] := kb_of t.F_parts_of fun _ _ _ _ _ _ us ws h1 h2 => match us, ws, h1, h2 with | [], [_], _, _ => rfl
theorem kb_times_vector_0_vector_matrix (t : T D w K mg) : KB K D.fd_times_vector ["matrix", "vector"] 0 ["vector", "matrix"] [1, 0] := kb_of t.F_times_vector fun _ _ _ _ _ _ us ws h1 h2 => match us, ws, h1, h2 with | [], [_, _], _, _ => rfl
theorem ok__law_draw (t : T D w K mg) : FnG P w K mg base CX0 1 (He.ga K "_law_draw") D.fd__law_draw ["_law_pot_here", "_law_few"] (dsp K Rdraw) := by
  refine g_def (N := N__law_draw) (toFun t.F__law_draw) sc__law_draw (fun vs H Q E h => ?_) (fun cdv A outer s H vs Q E hr hgd h => ⟨t_draw K, PSs.nox ?_, pure_draw vs H Q E h⟩)
  · obtain ⟨m, xs, _, _, ha, Pq, ⟨n, e, _⟩, _⟩ := h
    rw [ha.length, e]
    rfl
  · exact pss_cons (ps_if (pt_cmpR op_gt (pe_ix ix_list (pe_var rfl (Or.inl rfl)) pe_int fun _ _ => rfl) pe_int rfl)
      (pss_cons (ps_asg (pe_callB call_divmod rfl t.free_divmod (by decide +kernel) (pa_cons (pe_ix ix_list (pe_var rfl (Or.inl rfl)) pe_int fun _ _ => rfl) (pa_cons (pe_var rfl (Or.inl rfl)) pa_nil)))
        (pg_tup rfl (pgs_cons (pg_sub (pe_var rfl (Or.inl rfl)) pe_int set_list) (pgs_cons (pg_name sc__law_draw.nd rfl (Or.inl rfl)) pgs_nil))))
        (pss_one (ps_ret (pe_var rfl (Or.inl rfl))))) pss_nil)
      (pss_cons (ps_asg (pe_op op_add (pe_ix ix_list (pe_var rfl (Or.inl rfl)) pe_int fun _ _ => rfl) pe_int) (pg_sub (pe_var rfl (Or.inl rfl)) pe_int set_list))
      (pss_cons (ps_asg (pe_op op_modN (pe_callTy call_int1 rfl t.free_int (by decide +kernel) (pa_cons (pe_op op_add (pe_op op_add (pe_op op_mul (pe_ix ix_list (pe_var rfl (Or.inl rfl)) pe_int fun _ _ => rfl) (pe_op op_add pe_int (pe_op op_mul pe_int (pe_ix ix_list (pe_var rfl (Or.inl rfl)) pe_int fun _ _ => rfl)))) pe_int) (pe_ix ix_list (pe_var rfl (Or.inl rfl)) pe_int fun _ _ => rfl)) pa_nil)) pe_int) (pg_sub (pe_var rfl (Or.inl rfl)) pe_int set_list))
      (pss_one (ps_ret (pe_op op_modN (pe_callTy call_int1 rfl t.free_int (by decide +kernel) (pa_cons (pe_op op_fdivN (pe_ix ix_list (pe_var rfl (Or.inl rfl)) pe_int fun _ _ => rfl) pe_int) pa_nil)) (pe_var rfl (Or.inl rfl)))))))

def N__law_pot : List Str := ["_law_script", "_law_turn", "_law_stirred", "_law_each", "_law_cell", "_law_digits"]
theorem sc__law_pot : FnScope N__law_pot ["_law_script", "_law_turn"] (defScope s__law_pot) := ⟨rfl, rfl, rfl, by decide +kernel, rfl, by decide +kernel, by decide +kernel⟩
theorem ok__law_pot (t : T D w K mg) : FnG P w K mg base CX0 1 (He.ga K "_law_pot") D.fd__law_pot ["_law_script", "_law_turn"] (spPot K) := by
  refine g_def (N := N__law_pot) (toFun t.F__law_pot) sc__law_pot (fun vs H Q E h => ?_) (fun cdv A outer s H vs Q E hr hgd h => ⟨t_pot K, PSs.nox ?_, pure_pot vs H Q E h⟩)
  · obtain ⟨_, _, _, rfl, _⟩ := h
    rfl
  · exact pss_cons (ps_set (i := 2) sc__law_pot.nd rfl (Or.inl rfl) (pe_op op_add pe_int (pe_op op_mul pe_int (pe_var rfl (Or.inl rfl)))))
      (pss_cons (ps_for PassesOwn.never rfl (pi_list (pe_slice sl_list (pe_var rfl (Or.inl rfl)) po_none (po_some pe_int))) (pg_name (i := 3) sc__law_pot.nd rfl (Or.inl rfl))
        (pss_one (ps_set (i := 2) sc__law_pot.nd rfl (Or.inl rfl) (pe_op op_modN (pe_callTy call_int1 rfl t.free_int (by decide +kernel) (pa_cons (pe_op op_add (pe_op op_add (pe_op op_mul (pe_var rfl (Or.inl rfl)) pe_int) (pe_op op_mul (pe_op op_modN (pe_callTy call_int1 rfl t.free_int (by decide +kernel) (pa_cons (pe_var rfl (Or.inl rfl)) pa_nil)) pe_int) pe_int)) pe_int) pa_nil)) pe_int))))
      (pss_cons (ps_set (i := 4) sc__law_pot.nd rfl (Or.inl rfl) (pe_ifExp (pt_cmpR op_lt (pe_var rfl (Or.inl rfl)) (pe_callB call_len rfl t.free_len (by decide +kernel) (pa_cons (pe_var rfl (Or.inl rfl)) pa_nil)) rfl) (pe_callTy call_int1 rfl t.free_int (by decide +kernel) (pa_cons (pe_ix ix_list (pe_var rfl (Or.inl rfl)) (pe_var rfl (Or.inl rfl)) fun _ _ => rfl) pa_nil)) pe_int))
      (pss_cons (ps_set (i := 5) sc__law_pot.nd rfl (Or.inl rfl) (pe_ifExp (pt_cmpR op_ge (pe_callB call_abs rfl t.free_abs (by decide +kernel) (pa_cons (pe_var rfl (Or.inl rfl)) pa_nil)) (pe_op op_pow pe_int pe_int) rfl) (pe_callB call_abs rfl t.free_abs (by decide +kernel) (pa_cons (pe_var rfl (Or.inl rfl)) pa_nil)) pe_int))
      (pss_one (ps_ret (pe_lst (pa_cons (pe_var rfl (Or.inl rfl)) (pa_cons (pe_op op_modN (pe_callTy call_int1 rfl t.free_int (by decide +kernel) (pa_cons (pe_op op_add (pe_op op_add (pe_op op_mul (pe_var rfl (Or.inl rfl)) pe_int) (pe_op op_modN (pe_callTy call_int1 rfl t.free_int (by decide +kernel) (pa_cons (pe_var rfl (Or.inl rfl)) pa_nil)) pe_int)) pe_int) pa_nil)) pe_int) (pa_cons pe_int pa_nil)))))))))

theorem ok_is_whole (t : T D w K mg) : FnG P w K mg base CX0 1 (He.ga K "is_whole") D.fd_is_whole ["value"] (dsp K R_is_whole) := Fun.dok (ds := ds_is_whole) (toFun t.F_is_whole) sc_is_whole fun m cdv A outer s H E hr => ⟨_, (ss_one (s_ret (d_and (d_isi' (K' := K) (T := "int") (by decide) rfl t.free_isinstance rfl t.free_int (by decide +kernel) (dv 0)) (d_one (d_not (d_isi' (K' := K) (T := "bool") (by decide) rfl t.free_isinstance rfl t.free_bool (by decide +kernel) (dv 0)))))))⟩
theorem ok_is_row_of (t : T D w K mg) : FnG P w K mg base CX0 2 (He.ga K "is_row_of") D.fd_is_row_of ["value", "many"] (dsp K R_is_row_of) := Fun.dok (ds := ds_is_row_of) (toFun t.F_is_row_of) sc_is_row_of fun m cdv A outer s H E hr => ⟨_, (ss_one (s_ret (d_and (d_isi' (K' := K) (T := "tuple") (by decide) rfl t.free_isinstance rfl t.free_tuple (by decide +kernel) (dv 0)) (d_and (d_eq' (K' := K) hr (d_len' (K' := K) rfl t.free_len (a_cons (dv 0) a_nil)) (dv 1)) (d_one (d_all' (K' := K) rfl rfl t.free_all (a_cons (d_new (n_lc (own := [("each", 2)]) rfl sc_is_row_of.nd (i_tup' (K' := K) (dv 0)) (blkOk_by (N := N_is_row_of) (sc := defScope s_is_row_of) (by decide +kernel)) (fun _ _ _ _ _ => (g_name sc_is_row_of.nd)) (fun _ _ _ _ _ => ts_nil) (fun _ _ _ _ _ => (d_call' (K' := K) (ok_is_whole t) (hr.mono (by decide)) rfl t.g_is_whole t.F_is_whole.kp (b_is_whole t) (a_cons (dv 2) a_nil))))) a_nil)))))))⟩
theorem ok_is_cartan (t : T D w K mg) : FnG P w K mg base CX0 3 (He.ga K "is_cartan") D.fd_is_cartan ["value"] (dsp K R_is_cartan) := Fun.dok (ds := ds_is_cartan) (toFun t.F_is_cartan) sc_is_cartan fun m cdv A outer s H E hr => ⟨_, (ss_cons (s_if (t_pw (w_or (t_not (t_val (d_isi' (K' := K) (T := "tuple") (by decide) rfl t.free_isinstance rfl t.free_tuple (by decide +kernel) (dv 0)))) (w_or1 (t_not (t_chain op_le op_le r2_B0 r2_B0 d_int (d_len' (K' := K) rfl t.free_len (a_cons (dv 0) a_nil)) (d_gl rfl t.G_MOST_NODES)))))) (ss_one (s_ret d_bl)) ss_nil) (ss_cons (s_if (t_not (t_val (d_all' (K' := K) rfl rfl t.free_all (a_cons (d_new (n_lc (own := [("row", 2)]) rfl sc_is_cartan.nd (i_tup' (K' := K) (dv 0)) (blkOk_by (N := N_is_cartan) (sc := defScope s_is_cartan) (by decide +kernel)) (fun _ _ _ _ _ => (g_name sc_is_cartan.nd)) (fun _ _ _ _ _ => ts_nil) (fun _ _ _ _ _ => (d_call' (K' := K) (ok_is_row_of t) (hr.mono (by decide)) rfl t.g_is_row_of t.F_is_row_of.kp (b_is_row_of t) (a_cons (dv 2) (a_cons (d_len' (K' := K) rfl t.free_len (a_cons (dv 0) a_nil)) a_nil)))))) a_nil)))) (ss_one (s_ret d_bl)) ss_nil) (ss_cons (s_for PassesOwn.never rfl (i_enum' (K' := K) rfl t.free_enumerate (a_cons (dv 0) a_nil)) (g_tup' (K' := K) rfl (gs_cons (g_name sc_is_cartan.nd) (gs_cons (g_name sc_is_cartan.nd) gs_nil)) (len_cons (len_cons len_nil))) (ss_one (s_for PassesOwn.never rfl (i_enum' (K' := K) rfl t.free_enumerate (a_cons (dv 2) a_nil)) (g_tup' (K' := K) rfl (gs_cons (g_name sc_is_cartan.nd) (gs_cons (g_name sc_is_cartan.nd) gs_nil)) (len_cons (len_cons len_nil))) (ss_one (s_if (t_pw (w_or (t_pw (w_and (t_eq' (K' := K) hr (dv 1) (dv 3)) (w_and1 (t_ne' (K' := K) hr (dv 4) d_int)))) (w_or1 (t_pw (w_and (t_ne' (K' := K) hr (dv 1) (dv 3)) (w_and1 (t_pw (w_or (t_gt (dv 4) d_int) (w_or1 (t_ne' (K' := K) hr (d_eq' (K' := K) hr (dv 4) d_int) (d_eq' (K' := K) hr (d_at' (K' := K) (d_at' (K' := K) (dv 0) (dv 3)) (dv 1)) d_int))))))))))) (ss_one (s_ret d_bl)) ss_nil))))) (ss_one (s_ret d_bl)))))⟩
theorem ok_joined_to (t : T D w K mg) : FnG P w K mg base CX0 1 (He.ga K "joined_to") D.fd_joined_to ["matrix", "node"] (dsp K R_joined_to) := Fun.dok (ds := ds_joined_to) (toFun t.F_joined_to) sc_joined_to fun m cdv A outer s H E hr => ⟨_, (ss_cons (s_parO (i := 2) (j := 3) rfl sc_joined_to.nd (by decide) (ao_x (x_d1 (dv 1) d_bl) (ao_n (n_lst (a_cons (dv 1) a_nil)) ao_nil))) (ss_cons (s_while PassesOwn.never (t_ne' (K' := K) hr (dv 3) (d_lst a_nil)) (ss_cons (s_pop (i := 4) (r := 3) sc_joined_to.nd) (ss_one (s_for PassesOwn.never rfl (i_enum' (K' := K) rfl t.free_enumerate (a_cons (d_at' (K' := K) (dv 0) (dv 4)) a_nil)) (g_tup' (K' := K) rfl (gs_cons (g_name sc_joined_to.nd) (gs_cons (g_name sc_joined_to.nd) gs_nil)) (len_cons (len_cons len_nil))) (ss_one (s_if (t_pw (w_and (t_ne' (K' := K) hr (dv 6) d_int) (w_and1 (t_dni (r := 2) hr (dv 5))))) (ss_cons (s_dput (r := 2) hr d_bl (dv 5)) (ss_one (s_app (i := 3) (dv 5)))) ss_nil)))))) (ss_one (s_ret (d_tupC' (K' := K) rfl t.free_tuple (a_cons (d_sortDI rfl rfl t.free_sorted (a_cons (dv 2) a_nil)) a_nil))))))⟩
theorem ok_all_parts (t : T D w K mg) : FnG P w K mg base CX0 2 (He.ga K "all_parts") D.fd_all_parts ["matrix"] (dsp K R_all_parts) := Fun.dok (ds := ds_all_parts) (toFun t.F_all_parts) sc_all_parts fun m cdv A outer s H E hr => ⟨_, (ss_cons (s_setN (i := 1) sc_all_parts.nd (n_lst a_nil)) (ss_cons (s_for PassesOwn.never rfl (i_rng1 rfl t.free_range (a_cons (d_len' (K' := K) rfl t.free_len (a_cons (dv 0) a_nil)) a_nil)) (g_name sc_all_parts.nd) (ss_cons (s_set (i := 3) sc_all_parts.nd (d_call' (K' := K) (ok_joined_to t) (hr.mono (by decide)) rfl t.g_joined_to t.F_joined_to.kp (b_joined_to t) (a_cons (dv 0) (a_cons (dv 2) a_nil)))) (ss_one (s_if (t_eq' (K' := K) hr (d_at' (K' := K) (dv 3) d_int) (dv 2)) (ss_one (s_app (i := 1) (dv 3))) ss_nil)))) (ss_one (s_frz 1 (s_ret (d_tupC' (K' := K) rfl t.free_tuple (a_cons (dv 1) a_nil)))))))⟩
theorem ok_dot (t : T D w K mg) : FnG P w K mg base CX0 1 (He.ga K "dot") D.fd_dot ["row", "vector"] (dsp K R_dot) := Fun.dok (ds := ds_dot) (toFun t.F_dot) sc_dot fun m cdv A outer s H E hr => ⟨_, (ss_one (s_ret (d_sumA' (K' := K) rfl rfl t.free_sum (a_cons (d_new (n_lc (own := [("one", 2), ("two", 3)]) rfl sc_dot.nd (i_zipM' (K' := K) rfl t.free_zip (a_cons (dv 0) (a_cons (dv 1) a_nil))) (blkOk_by (N := N_dot) (sc := defScope s_dot) (by decide +kernel)) (fun _ _ _ _ _ => (g_tup' (K' := K) rfl (gs_cons (g_name sc_dot.nd) (gs_cons (g_name sc_dot.nd) gs_nil)) (len_cons (len_cons len_nil)))) (fun _ _ _ _ _ => ts_nil) (fun _ _ _ _ _ => (d_mul' (K' := K) (dv 2) (dv 3))))) a_nil))))⟩
theorem ok_product_by (t : T D w K mg) : FnG P w K mg base CX0 2 (He.ga K "product_by") D.fd_product_by ["matrix", "vector"] (dsp K R_product_by) := Fun.dok (ds := ds_product_by) (toFun t.F_product_by) sc_product_by fun m cdv A outer s H E hr => ⟨_, (ss_one (s_ret (d_tupC' (K' := K) rfl t.free_tuple (a_cons (d_new (n_lc (own := [("row", 2)]) rfl sc_product_by.nd (i_tup' (K' := K) (dv 0)) (blkOk_by (N := N_product_by) (sc := defScope s_product_by) (by decide +kernel)) (fun _ _ _ _ _ => (g_name sc_product_by.nd)) (fun _ _ _ _ _ => ts_nil) (fun _ _ _ _ _ => (d_call' (K' := K) (ok_dot t) (hr.mono (by decide)) rfl t.g_dot t.F_dot.kp (b_dot t) (a_cons (dv 2) (a_cons (dv 1) a_nil)))))) a_nil))))⟩
theorem ok_check_matrix (t : T D w K mg) : FnG P w K mg base CX0 4 (He.ga K "check_matrix") D.fd_check_matrix ["value"] (dsp K R_check_matrix) := Fun.dok (ds := ds_check_matrix) (toFun t.F_check_matrix) sc_check_matrix fun m cdv A outer s H E hr => ⟨_, (ss_one (s_if (t_not (t_val (d_call' (K' := K) (ok_is_cartan t) (hr.mono (by decide)) rfl t.g_is_cartan t.F_is_cartan.kp (b_is_cartan t) (a_cons (dv 0) a_nil)))) (ss_one s_never) ss_nil))⟩
theorem ok_check_vector (t : T D w K mg) : FnG P w K mg base CX0 3 (He.ga K "check_vector") D.fd_check_vector ["matrix", "value"] (dsp K R_check_vector) := Fun.dok (ds := ds_check_vector) (toFun t.F_check_vector) sc_check_vector fun m cdv A outer s H E hr => ⟨_, (ss_one (s_if (t_not (t_val (d_call' (K' := K) (ok_is_row_of t) (hr.mono (by decide)) rfl t.g_is_row_of t.F_is_row_of.kp (b_is_row_of t) (a_cons (dv 1) (a_cons (d_len' (K' := K) rfl t.free_len (a_cons (dv 0) a_nil)) a_nil))))) (ss_one s_never) ss_nil))⟩
theorem ok_is_matrix (t : T D w K mg) : FnG P w K mg base CX0 4 (He.ga K "is_matrix") D.fd_is_matrix ["value"] (dsp K R_is_matrix) := Fun.dok (ds := ds_is_matrix) (toFun t.F_is_matrix) sc_is_matrix fun m cdv A outer s H E hr => ⟨_, (ss_one (s_ret (d_call' (K' := K) (ok_is_cartan t) (hr.mono (by decide)) rfl t.g_is_cartan t.F_is_cartan.kp (b_is_cartan t) (a_cons (dv 0) a_nil))))⟩
theorem ok_parts_of (t : T D w K mg) : FnG P w K mg base CX0 5 (He.ga K "parts_of") D.fd_parts_of ["matrix"] (dsp K R_parts_of) := Fun.dok (ds := ds_parts_of) (toFun t.F_parts_of) sc_parts_of fun m cdv A outer s H E hr => ⟨_, (ss_cons (s_expr (d_call' (K' := K) (ok_check_matrix t) (hr.mono (by decide)) rfl t.g_check_matrix t.F_check_matrix.kp (b_check_matrix t) (a_cons (dv 0) a_nil))) (ss_one (s_ret (d_call' (K' := K) (ok_all_parts t) (hr.mono (by decide)) rfl t.g_all_parts t.F_all_parts.kp (b_all_parts t) (a_cons (dv 0) a_nil)))))⟩
theorem ok_times_vector (t : T D w K mg) : FnG P w K mg base CX0 5 (He.ga K "times_vector") D.fd_times_vector ["matrix", "vector"] (dsp K R_times_vector) := Fun.dok (ds := ds_times_vector) (toFun t.F_times_vector) sc_times_vector fun m cdv A outer s H E hr => ⟨_, (ss_cons (s_expr (d_call' (K' := K) (ok_check_matrix t) (hr.mono (by decide)) rfl t.g_check_matrix t.F_check_matrix.kp (b_check_matrix t) (a_cons (dv 0) a_nil))) (ss_cons (s_expr (d_call' (K' := K) (ok_check_vector t) (hr.mono (by decide)) rfl t.g_check_vector t.F_check_vector.kp (b_check_vector t) (a_cons (dv 0) (a_cons (dv 1) a_nil)))) (ss_one (s_ret (d_call' (K' := K) (ok_product_by t) (hr.mono (by decide)) rfl t.g_product_by t.F_product_by.kp (b_product_by t) (a_cons (dv 0) (a_cons (dv 1) a_nil)))))))⟩
theorem ok__law_pick (t : T D w K mg) : FnG P w K mg base CX0 2 (He.ga K "_law_pick") D.fd__law_pick ["_law_pot_here", "_law_some"] (dsp K R__law_pick) := Fun.dok (ds := ds__law_pick) (toFun t.F__law_pick) sc__law_pick fun m cdv A outer s H E hr => ⟨_, (ss_one (s_ret (d_at' (K' := K) (dv 1) (d_call' (K' := K) (ok__law_draw t) (hr.mono (by decide)) rfl t.g__law_draw t.F__law_draw.kp (b__law_draw t) (a_cons (dv 0) (a_cons (d_len' (K' := K) rfl t.free_len (a_cons (dv 1) a_nil)) a_nil))))))⟩
theorem ok__law_mixed (t : T D w K mg) : FnG P w K mg base CX0 2 (He.ga K "_law_mixed") D.fd__law_mixed ["_law_pot_here", "_law_some"] (dsp K R__law_mixed) := Fun.dok (ds := ds__law_mixed) (toFun t.F__law_mixed) sc__law_mixed fun m cdv A outer s H E hr => ⟨_, (ss_cons (s_parO (i := 2) (j := 3) rfl sc__law_mixed.nd (by decide) (ao_d (d_lstC' (K' := K) rfl t.free_list (a_cons (dv 1) a_nil)) (ao_n (n_lst a_nil) ao_nil))) (ss_cons (s_for PassesOwn.never rfl (i_rng1 rfl t.free_range (a_cons (d_len' (K' := K) rfl t.free_len (a_cons (dv 1) a_nil)) a_nil)) (g_name sc__law_mixed.nd) (ss_cons (s_set (i := 5) sc__law_mixed.nd (d_call' (K' := K) (ok__law_draw t) (hr.mono (by decide)) rfl t.g__law_draw t.F__law_draw.kp (b__law_draw t) (a_cons (dv 0) (a_cons (d_len' (K' := K) rfl t.free_len (a_cons (dv 2) a_nil)) a_nil)))) (ss_cons (s_app (i := 3) (d_at' (K' := K) (dv 2) (dv 5))) (ss_one (s_set (i := 2) sc__law_mixed.nd (d_add' (K' := K) (d_sl' (K' := K) (dv 2) o_none (o_some (dv 5))) (d_sl' (K' := K) (dv 2) (o_some (d_add' (K' := K) (dv 5) d_int)) o_none))))))) (ss_one (s_ret (dv 3)))))⟩
theorem ok__law_gcd (t : T D w K mg) : FnG P w K mg base CX0 1 (He.ga K "_law_gcd") D.fd__law_gcd ["_law_one", "_law_two"] (dsp K R__law_gcd) := Fun.dok (ds := ds__law_gcd) (toFun t.F__law_gcd) sc__law_gcd fun m cdv A outer s H E hr => ⟨_, (ss_cons (s_par (i := 2) (j := 3) rfl sc__law_gcd.nd (by decide) (a_cons (d_abs rfl t.free_abs (a_cons (dv 0) a_nil)) (a_cons (d_abs rfl t.free_abs (a_cons (dv 1) a_nil)) a_nil))) (ss_cons (s_for PassesOwn.never rfl (i_rng1 rfl t.free_range (a_cons d_int a_nil)) (g_name sc__law_gcd.nd) (ss_cons (s_if (t_eq' (K' := K) hr (dv 3) d_int) (ss_one s_break) ss_nil) (ss_one (s_par (i := 2) (j := 3) rfl sc__law_gcd.nd (by decide) (a_cons (dv 3) (a_cons (d_mod (d_toint rfl t.free_int (a_cons (dv 2) a_nil)) (dv 3)) a_nil)))))) (ss_one (s_ret (dv 2)))))⟩
theorem ok__law_is_whole (t : T D w K mg) : FnG P w K mg base CX0 1 (He.ga K "_law_is_whole") D.fd__law_is_whole ["_law_value"] (dsp K R__law_is_whole) := Fun.dok (ds := ds__law_is_whole) (toFun t.F__law_is_whole) sc__law_is_whole fun m cdv A outer s H E hr => ⟨_, (ss_one (s_ret (d_and (d_isi' (K' := K) (T := "int") (by decide) rfl t.free_isinstance rfl t.free_int (by decide +kernel) (dv 0)) (d_one (d_not (d_isi' (K' := K) (T := "bool") (by decide) rfl t.free_isinstance rfl t.free_bool (by decide +kernel) (dv 0)))))))⟩
theorem ok__law_is_row (t : T D w K mg) : FnG P w K mg base CX0 2 (He.ga K "_law_is_row") D.fd__law_is_row ["_law_value", "_law_many"] (dsp K R__law_is_row) := Fun.dok (ds := ds__law_is_row) (toFun t.F__law_is_row) sc__law_is_row fun m cdv A outer s H E hr => ⟨_, (ss_one (s_ret (d_and (d_isi' (K' := K) (T := "tuple") (by decide) rfl t.free_isinstance rfl t.free_tuple (by decide +kernel) (dv 0)) (d_and (d_eq' (K' := K) hr (d_len' (K' := K) rfl t.free_len (a_cons (dv 0) a_nil)) (dv 1)) (d_one (d_all' (K' := K) rfl rfl t.free_all (a_cons (d_new (n_lc (own := [("_law_each", 2)]) rfl sc__law_is_row.nd (i_tup' (K' := K) (dv 0)) (blkOk_by (N := N__law_is_row) (sc := defScope s__law_is_row) (by decide +kernel)) (fun _ _ _ _ _ => (g_name sc__law_is_row.nd)) (fun _ _ _ _ _ => ts_nil) (fun _ _ _ _ _ => (d_call' (K' := K) (ok__law_is_whole t) (hr.mono (by decide)) rfl t.g__law_is_whole t.F__law_is_whole.kp (b__law_is_whole t) (a_cons (dv 2) a_nil))))) a_nil)))))))⟩
theorem ok__law_is_cartan (t : T D w K mg) : FnG P w K mg base CX0 3 (He.ga K "_law_is_cartan") D.fd__law_is_cartan ["_law_value"] (dsp K R__law_is_cartan) := Fun.dok (ds := ds__law_is_cartan) (toFun t.F__law_is_cartan) sc__law_is_cartan fun m cdv A outer s H E hr => ⟨_, (ss_cons (s_if (t_pw (w_or (t_not (t_val (d_isi' (K' := K) (T := "tuple") (by decide) rfl t.free_isinstance rfl t.free_tuple (by decide +kernel) (dv 0)))) (w_or1 (t_not (t_chain op_le op_le r2_B0 r2_B0 d_int (d_len' (K' := K) rfl t.free_len (a_cons (dv 0) a_nil)) d_int))))) (ss_one (s_ret d_bl)) ss_nil) (ss_cons (s_set (i := 1) sc__law_is_cartan.nd (d_len' (K' := K) rfl t.free_len (a_cons (dv 0) a_nil))) (ss_cons (s_if (t_not (t_val (d_all' (K' := K) rfl rfl t.free_all (a_cons (d_new (n_lc (own := [("_law_row", 4)]) rfl sc__law_is_cartan.nd (i_tup' (K' := K) (dv 0)) (blkOk_by (N := N__law_is_cartan) (sc := defScope s__law_is_cartan) (by decide +kernel)) (fun _ _ _ _ _ => (g_name sc__law_is_cartan.nd)) (fun _ _ _ _ _ => ts_nil) (fun _ _ _ _ _ => (d_call' (K' := K) (ok__law_is_row t) (hr.mono (by decide)) rfl t.g__law_is_row t.F__law_is_row.kp (b__law_is_row t) (a_cons (dv 4) (a_cons (dv 1) a_nil)))))) a_nil)))) (ss_one (s_ret d_bl)) ss_nil) (ss_cons (s_for PassesOwn.never rfl (i_rng1 rfl t.free_range (a_cons (dv 1) a_nil)) (g_name sc__law_is_cartan.nd) (ss_one (s_for PassesOwn.never rfl (i_rng1 rfl t.free_range (a_cons (dv 1) a_nil)) (g_name sc__law_is_cartan.nd) (ss_cons (s_if (t_pw (w_or (t_pw (w_and (t_eq' (K' := K) hr (dv 2) (dv 3)) (w_and1 (t_ne' (K' := K) hr (d_at' (K' := K) (d_at' (K' := K) (dv 0) (dv 2)) (dv 3)) d_int)))) (w_or1 (t_pw (w_and (t_ne' (K' := K) hr (dv 2) (dv 3)) (w_and1 (t_gt (d_at' (K' := K) (d_at' (K' := K) (dv 0) (dv 2)) (dv 3)) d_int))))))) (ss_one (s_ret d_bl)) ss_nil) (ss_one (s_if (t_ne' (K' := K) hr (d_eq' (K' := K) hr (d_at' (K' := K) (d_at' (K' := K) (dv 0) (dv 2)) (dv 3)) d_int) (d_eq' (K' := K) hr (d_at' (K' := K) (d_at' (K' := K) (dv 0) (dv 3)) (dv 2)) d_int)) (ss_one (s_ret d_bl)) ss_nil)))))) (ss_one (s_ret d_bl))))))⟩
theorem ok__law_odd (t : T D w K mg) : FnG P w K mg base CX0 3 (He.ga K "_law_odd") D.fd__law_odd ["_law_pot_here"] (dsp K R__law_odd) := Fun.dok (ds := ds__law_odd) (toFun t.F__law_odd) sc__law_odd fun m cdv A outer s H E hr => ⟨_, (ss_cons (s_set (i := 1) sc__law_odd.nd (d_lst (a_cons d_non (a_cons d_bl (a_cons d_bl (a_cons d_int (a_cons d_int (a_cons (d_neg d_int) (a_cons d_int (a_cons (d_pow d_int d_int) (a_cons d_str (a_cons d_str (a_cons d_str (a_cons (d_tup a_nil) (a_cons (d_tup (a_cons d_int a_nil)) (a_cons (d_tup (a_cons (d_tup (a_cons d_int a_nil)) a_nil)) (a_cons (d_tup (a_cons (d_tup (a_cons d_int (a_cons d_int a_nil))) (a_cons (d_tup (a_cons d_int (a_cons d_int a_nil))) a_nil))) (a_cons (d_tup (a_cons d_int (a_cons d_int a_nil))) (a_cons (d_tup (a_cons d_int (a_cons d_int a_nil))) a_nil))))))))))))))))))) (ss_cons (s_set (i := 2) sc__law_odd.nd (d_lst (a_cons (d_lst a_nil) (a_cons (d_lst (a_cons (d_lst (a_cons d_int a_nil)) a_nil)) (a_cons d_dic0 (a_cons (d_tup (a_cons (d_tup (a_cons d_int (a_cons (d_neg d_int) a_nil))) (a_cons (d_tup (a_cons (d_neg d_int) a_nil)) a_nil))) (a_cons (d_tup (a_cons (d_tup (a_cons d_bl a_nil)) a_nil)) (a_cons (d_tup (a_cons d_non a_nil)) (a_cons (d_tup (a_cons d_str a_nil)) (a_cons (d_tup (a_cons (d_tup (a_cons d_int (a_cons d_int a_nil))) (a_cons d_int a_nil))) (a_cons (d_tup (a_cons d_int (a_cons d_int a_nil))) (a_cons (d_tup (a_cons (d_neg d_int) (a_cons d_int a_nil))) (a_cons (d_tup (a_cons d_int (a_cons d_int (a_cons d_int a_nil)))) (a_cons (d_tup (a_cons d_bl (a_cons d_int a_nil))) a_nil)))))))))))))) (ss_one (s_ret (d_call' (K' := K) (ok__law_pick t) (hr.mono (by decide)) rfl t.g__law_pick t.F__law_pick.kp (b__law_pick t) (a_cons (dv 0) (a_cons (d_add' (K' := K) (dv 1) (dv 2)) a_nil)))))))⟩
theorem ok__law_names (t : T D w K mg) : FnG P w K mg base CX0 1 (He.ga K "_law_names") D.fd__law_names ["_law_many"] (dsp K R__law_names) := Fun.dok (ds := ds__law_names) (toFun t.F__law_names) sc__law_names fun m cdv A outer s H E hr => ⟨_, (ss_cons (s_set (i := 1) sc__law_names.nd (d_add' (K' := K) (d_add' (K' := K) (d_add' (K' := K) (d_lst (a_cons d_str a_nil)) (d_if (t_gt (dv 0) d_int) (d_lst (a_cons d_str a_nil)) (d_lst a_nil))) (d_if (t_gt (dv 0) d_int) (d_lst (a_cons d_str a_nil)) (d_lst a_nil))) (d_if (t_gt (dv 0) d_int) (d_lst (a_cons d_str a_nil)) (d_lst a_nil)))) (ss_cons (s_set (i := 1) sc__law_names.nd (d_add' (K' := K) (d_add' (K' := K) (d_add' (K' := K) (dv 1) (d_if (t_in' (K' := K) (dv 0) (d_tup (a_cons d_int (a_cons d_int (a_cons d_int a_nil)))) rfl) (d_lst (a_cons d_str a_nil)) (d_lst a_nil))) (d_if (t_eq' (K' := K) hr (dv 0) d_int) (d_lst (a_cons d_str a_nil)) (d_lst a_nil))) (d_if (t_eq' (K' := K) hr (dv 0) d_int) (d_lst (a_cons d_str a_nil)) (d_lst a_nil)))) (ss_one (s_ret (d_new (n_lc (own := [("_law_letter", 2)]) rfl sc__law_names.nd (i_list' (K' := K) (dv 1)) (blkOk_by (N := N__law_names) (sc := defScope s__law_names) (by decide +kernel)) (fun _ _ _ _ _ => (g_name sc__law_names.nd)) (fun _ _ _ _ _ => ts_nil) (fun _ _ _ _ _ => (d_add' (K' := K) (dv 2) (d_strI rfl t.free_str (a_cons (dv 0) a_nil))))))))))⟩
theorem ok__law_single (t : T D w K mg) : FnG P w K mg base CX0 1 (He.ga K "_law_single") D.fd__law_single ["_law_name"] (dsp K R__law_single) := Fun.dok (ds := ds__law_single) (toFun t.F__law_single) sc__law_single fun m cdv A outer s H E hr => ⟨_, (ss_cons (s_asgG (d_tup (a_cons (d_at' (K' := K) (dv 0) d_int) (a_cons (d_toint rfl t.free_int (a_cons (d_sl' (K' := K) (dv 0) (o_some d_int) o_none) a_nil)) a_nil))) (g_tup' (K' := K) rfl (gs_cons (g_name sc__law_single.nd) (gs_cons (g_name sc__law_single.nd) gs_nil)) (len_cons (len_cons len_nil)))) (ss_cons (s_setLc (own := [("_law_i", 5)]) rfl sc__law_single.nd (i_rng1 rfl t.free_range (a_cons (d_sub (dv 2) d_int) a_nil)) (blkOk_by (N := N__law_single) (sc := defScope s__law_single) (by decide +kernel)) (fun _ _ _ _ _ => (g_name sc__law_single.nd)) (fun _ _ _ _ _ => ts_nil) (fun _ _ _ _ _ => (d_tup (a_cons (dv 5) (a_cons (d_add' (K' := K) (dv 5) d_int) (a_cons (d_neg d_int) (a_cons (d_neg d_int) a_nil)))))) (i := 3)) (ss_cons (s_if (t_eq' (K' := K) hr (dv 1) d_str) (ss_one (s_set (i := 3) sc__law_single.nd (d_add' (K' := K) (d_sl' (K' := K) (dv 3) o_none (o_some (d_neg d_int))) (d_lst (a_cons (d_tup (a_cons (d_sub (dv 2) d_int) (a_cons (d_sub (dv 2) d_int) (a_cons (d_neg d_int) (a_cons (d_neg d_int) a_nil))))) a_nil))))) ss_nil) (ss_cons (s_if (t_eq' (K' := K) hr (dv 1) d_str) (ss_one (s_set (i := 3) sc__law_single.nd (d_add' (K' := K) (d_sl' (K' := K) (dv 3) o_none (o_some (d_neg d_int))) (d_lst (a_cons (d_tup (a_cons (d_sub (dv 2) d_int) (a_cons (d_sub (dv 2) d_int) (a_cons (d_neg d_int) (a_cons (d_neg d_int) a_nil))))) a_nil))))) ss_nil) (ss_cons (s_if (t_eq' (K' := K) hr (dv 1) d_str) (ss_one (s_set (i := 3) sc__law_single.nd (d_add' (K' := K) (d_sl' (K' := K) (dv 3) o_none (o_some (d_neg d_int))) (d_lst (a_cons (d_tup (a_cons (d_sub (dv 2) d_int) (a_cons (d_sub (dv 2) d_int) (a_cons (d_neg d_int) (a_cons (d_neg d_int) a_nil))))) a_nil))))) ss_nil) (ss_cons (s_if (t_eq' (K' := K) hr (dv 1) d_str) (ss_one (s_set (i := 3) sc__law_single.nd (d_add' (K' := K) (d_lst (a_cons (d_tup (a_cons d_int (a_cons d_int (a_cons (d_neg d_int) (a_cons (d_neg d_int) a_nil))))) (a_cons (d_tup (a_cons d_int (a_cons d_int (a_cons (d_neg d_int) (a_cons (d_neg d_int) a_nil))))) a_nil))) (d_sl' (K' := K) (dv 3) (o_some d_int) o_none)))) ss_nil) (ss_cons (s_if (t_eq' (K' := K) hr (dv 1) d_str) (ss_one (s_set (i := 3) sc__law_single.nd (d_lst (a_cons (d_tup (a_cons d_int (a_cons d_int (a_cons (d_neg d_int) (a_cons (d_neg d_int) a_nil))))) (a_cons (d_tup (a_cons d_int (a_cons d_int (a_cons (d_neg d_int) (a_cons (d_neg d_int) a_nil))))) (a_cons (d_tup (a_cons d_int (a_cons d_int (a_cons (d_neg d_int) (a_cons (d_neg d_int) a_nil))))) a_nil)))))) ss_nil) (ss_cons (s_if (t_eq' (K' := K) hr (dv 1) d_str) (ss_one (s_set (i := 3) sc__law_single.nd (d_lst (a_cons (d_tup (a_cons d_int (a_cons d_int (a_cons (d_neg d_int) (a_cons (d_neg d_int) a_nil))))) a_nil)))) ss_nil) (ss_cons (s_setLcNN (own := [("_law_i", 5)]) rfl sc__law_single.nd (i_rng1 rfl t.free_range (a_cons (dv 2) a_nil)) (blkOk_by (N := N__law_single) (sc := defScope s__law_single) (by decide +kernel)) (fun _ _ _ _ _ => (g_name sc__law_single.nd)) (fun _ _ _ _ _ => ts_nil) (fun _ _ _ _ _ => (n_lc (own := [("_law_j", 6)]) rfl sc__law_single.nd (i_rng1 rfl t.free_range (a_cons (dv 2) a_nil)) (blkOk_by (by rfl)) (fun _ _ _ _ _ => (g_name sc__law_single.nd)) (fun _ _ _ _ _ => ts_nil) (fun _ _ _ _ _ => (d_if (t_eq' (K' := K) hr (dv 5) (dv 6)) d_int d_int)))) (i := 4)) (ss_cons (s_for PassesOwn.never rfl (i_list' (K' := K) (dv 3)) (g_tup' (K' := K) rfl (gs_cons (g_name sc__law_single.nd) (gs_cons (g_name sc__law_single.nd) (gs_cons (g_name sc__law_single.nd) (gs_cons (g_name sc__law_single.nd) gs_nil)))) (len_cons (len_cons (len_cons (len_cons len_nil))))) (ss_cons (s_set2 (r := 4) (dv 7) (dv 5) (dv 6)) (ss_one (s_set2 (r := 4) (dv 8) (dv 6) (dv 5))))) (ss_one (s_frz 4 (s_ret (d_tupC' (K' := K) rfl t.free_tuple (a_cons (d_new (n_lc (own := [("_law_row", 9)]) rfl sc__law_single.nd (i_list' (K' := K) (dv 4)) (blkOk_by (N := N__law_single) (sc := defScope s__law_single) (by decide +kernel)) (fun _ _ _ _ _ => (g_name sc__law_single.nd)) (fun _ _ _ _ _ => ts_nil) (fun _ _ _ _ _ => (d_tupC' (K' := K) rfl t.free_tuple (a_cons (dv 9) a_nil))))) a_nil)))))))))))))))⟩
theorem ok__law_blocks (t : T D w K mg) : FnG P w K mg base CX0 2 (He.ga K "_law_blocks") D.fd__law_blocks ["_law_name"] (dsp K R__law_blocks) := Fun.dok (ds := ds__law_blocks) (toFun t.F__law_blocks) sc__law_blocks fun m cdv A outer s H E hr => ⟨_, (ss_cons (s_parO3 (i := 1) (j := 2) (l := 3) rfl sc__law_blocks.nd (by decide) (by decide) (by decide) (ao_d (d_new (n_lc (own := [("_law_word", 7)]) rfl sc__law_blocks.nd (i_list' (K' := K) (d_split (dv 0) d_str)) (blkOk_by (N := N__law_blocks) (sc := defScope s__law_blocks) (by decide +kernel)) (fun _ _ _ _ _ => (g_name sc__law_blocks.nd)) (fun _ _ _ _ _ => ts_nil) (fun _ _ _ _ _ => (d_call' (K' := K) (ok__law_single t) (hr.mono (by decide)) rfl t.g__law_single t.F__law_single.kp (b__law_single t) (a_cons (dv 7) a_nil))))) (ao_n (n_lst a_nil) (ao_d d_int ao_nil)))) (ss_cons (s_set (i := 4) sc__law_blocks.nd (d_sumA' (K' := K) rfl rfl t.free_sum (a_cons (d_new (n_lc (own := [("_law_single_here", 5)]) rfl sc__law_blocks.nd (i_list' (K' := K) (dv 1)) (blkOk_by (N := N__law_blocks) (sc := defScope s__law_blocks) (by decide +kernel)) (fun _ _ _ _ _ => (g_name sc__law_blocks.nd)) (fun _ _ _ _ _ => ts_nil) (fun _ _ _ _ _ => (d_len' (K' := K) rfl t.free_len (a_cons (dv 5) a_nil))))) a_nil))) (ss_cons (s_for PassesOwn.never rfl (i_list' (K' := K) (dv 1)) (g_name sc__law_blocks.nd) (ss_cons (s_for PassesOwn.never rfl (i_tup' (K' := K) (dv 5)) (g_name sc__law_blocks.nd) (ss_one (s_app (i := 2) (d_add' (K' := K) (d_add' (K' := K) (d_mul' (K' := K) (d_tup (a_cons d_int a_nil)) (dv 3)) (dv 6)) (d_mul' (K' := K) (d_tup (a_cons d_int a_nil)) (d_sub (d_sub (dv 4) (dv 3)) (d_len' (K' := K) rfl t.free_len (a_cons (dv 5) a_nil)))))))) (ss_one (s_set (i := 3) sc__law_blocks.nd (d_add' (K' := K) (dv 3) (d_len' (K' := K) rfl t.free_len (a_cons (dv 5) a_nil))))))) (ss_one (s_frz 2 (s_ret (d_tupC' (K' := K) rfl t.free_tuple (a_cons (dv 2) a_nil))))))))⟩
theorem ok__law_type (t : T D w K mg) : FnG P w K mg base CX0 3 (He.ga K "_law_type") D.fd__law_type ["_law_pot_here", "_law_most"] (dsp K R__law_type) := Fun.dok (ds := ds__law_type) (toFun t.F__law_type) sc__law_type fun m cdv A outer s H E hr => ⟨_, (ss_cons (s_parO (i := 2) (j := 3) rfl sc__law_type.nd (by decide) (ao_d (d_add' (K' := K) d_int (d_call' (K' := K) (ok__law_draw t) (hr.mono (by decide)) rfl t.g__law_draw t.F__law_draw.kp (b__law_draw t) (a_cons (dv 0) (a_cons (dv 1) a_nil)))) (ao_n (n_lst a_nil) ao_nil))) (ss_cons (s_for PassesOwn.never rfl (i_rng1 rfl t.free_range (a_cons d_int a_nil)) (g_name sc__law_type.nd) (ss_one (s_if (t_gt (dv 2) d_int) (ss_cons (s_set (i := 5) sc__law_type.nd (d_if (t_gt (d_call' (K' := K) (ok__law_draw t) (hr.mono (by decide)) rfl t.g__law_draw t.F__law_draw.kp (b__law_draw t) (a_cons (dv 0) (a_cons d_int a_nil))) d_int) (dv 2) (d_add' (K' := K) d_int (d_call' (K' := K) (ok__law_draw t) (hr.mono (by decide)) rfl t.g__law_draw t.F__law_draw.kp (b__law_draw t) (a_cons (dv 0) (a_cons (dv 2) a_nil)))))) (ss_cons (s_app (i := 3) (d_call' (K' := K) (ok__law_pick t) (hr.mono (by decide)) rfl t.g__law_pick t.F__law_pick.kp (b__law_pick t) (a_cons (dv 0) (a_cons (d_call' (K' := K) (ok__law_names t) (hr.mono (by decide)) rfl t.g__law_names t.F__law_names.kp (b__law_names t) (a_cons (dv 5) a_nil)) a_nil)))) (ss_one (s_set (i := 2) sc__law_type.nd (d_sub (dv 2) (dv 5)))))) ss_nil))) (ss_one (s_frz 3 (s_ret (d_join' (K' := K) d_str (dv 3)))))))⟩
theorem ok__law_led_nodes (t : T D w K mg) : FnG P w K mg base CX0 1 (He.ga K "_law_led_nodes") D.fd__law_led_nodes ["_law_matrix_here", "_law_order"] (dsp K R__law_led_nodes) := Fun.dok (ds := ds__law_led_nodes) (toFun t.F__law_led_nodes) sc__law_led_nodes fun m cdv A outer s H E hr => ⟨_, (ss_one (s_ret (d_tupC' (K' := K) rfl t.free_tuple (a_cons (d_new (n_lc (own := [("_law_i", 2)]) rfl sc__law_led_nodes.nd (i_list' (K' := K) (dv 1)) (blkOk_by (N := N__law_led_nodes) (sc := defScope s__law_led_nodes) (by decide +kernel)) (fun _ _ _ _ _ => (g_name sc__law_led_nodes.nd)) (fun _ _ _ _ _ => ts_nil) (fun _ _ _ _ _ => (d_tupC' (K' := K) rfl t.free_tuple (a_cons (d_new (n_lc (own := [("_law_j", 3)]) rfl sc__law_led_nodes.nd (i_list' (K' := K) (dv 1)) (blkOk_by (by rfl)) (fun _ _ _ _ _ => (g_name sc__law_led_nodes.nd)) (fun _ _ _ _ _ => ts_nil) (fun _ _ _ _ _ => (d_at' (K' := K) (d_at' (K' := K) (dv 0) (dv 2)) (dv 3))))) a_nil))))) a_nil))))⟩
theorem ok__law_matrix (t : T D w K mg) : FnG P w K mg base CX0 4 (He.ga K "_law_matrix") D.fd__law_matrix ["_law_pot_here", "_law_most"] (dsp K R__law_matrix) := Fun.dok (ds := ds__law_matrix) (toFun t.F__law_matrix) sc__law_matrix fun m cdv A outer s H E hr => ⟨_, (ss_cons (s_set (i := 2) sc__law_matrix.nd (d_call' (K' := K) (ok__law_blocks t) (hr.mono (by decide)) rfl t.g__law_blocks t.F__law_blocks.kp (b__law_blocks t) (a_cons (d_call' (K' := K) (ok__law_type t) (hr.mono (by decide)) rfl t.g__law_type t.F__law_type.kp (b__law_type t) (a_cons (dv 0) (a_cons (dv 1) a_nil))) a_nil))) (ss_one (s_ret (d_if (t_eq' (K' := K) hr (d_call' (K' := K) (ok__law_draw t) (hr.mono (by decide)) rfl t.g__law_draw t.F__law_draw.kp (b__law_draw t) (a_cons (dv 0) (a_cons d_int a_nil))) d_int) (d_call' (K' := K) (ok__law_led_nodes t) (hr.mono (by decide)) rfl t.g__law_led_nodes t.F__law_led_nodes.kp (b__law_led_nodes t) (a_cons (dv 2) (a_cons (d_call' (K' := K) (ok__law_mixed t) (hr.mono (by decide)) rfl t.g__law_mixed t.F__law_mixed.kp (b__law_mixed t) (a_cons (dv 0) (a_cons (d_lstRg rfl rfl t.free_list (rg_1 rfl t.free_range (d_len' (K' := K) rfl t.free_len (a_cons (dv 2) a_nil)))) a_nil))) a_nil))) (dv 2)))))⟩
theorem ok__law_parts (t : T D w K mg) : FnG P w K mg base CX0 1 (He.ga K "_law_parts") D.fd__law_parts ["_law_matrix_here"] (dsp K R__law_parts) := Fun.dok (ds := ds__law_parts) (toFun t.F__law_parts) sc__law_parts fun m cdv A outer s H E hr => ⟨_, (ss_cons (s_set (i := 1) sc__law_parts.nd (d_len' (K' := K) rfl t.free_len (a_cons (dv 0) a_nil))) (ss_cons (s_setN (i := 2) sc__law_parts.nd (n_lstRg rfl rfl t.free_list (rg_1 rfl t.free_range (dv 1)))) (ss_cons (s_for PassesOwn.never rfl (i_rng1 rfl t.free_range (a_cons (dv 1) a_nil)) (g_name sc__law_parts.nd) (ss_one (s_for PassesOwn.never rfl (i_rng1 rfl t.free_range (a_cons (dv 1) a_nil)) (g_name sc__law_parts.nd) (ss_one (s_for PassesOwn.never rfl (i_rng1 rfl t.free_range (a_cons (dv 1) a_nil)) (g_name sc__law_parts.nd) (ss_one (s_if (t_pw (w_and (t_ne' (K' := K) hr (d_at' (K' := K) (d_at' (K' := K) (dv 0) (dv 4)) (dv 5)) d_int) (w_and1 (t_ne' (K' := K) hr (d_at' (K' := K) (dv 2) (dv 4)) (d_at' (K' := K) (dv 2) (dv 5)))))) (ss_cons (s_set (i := 6) sc__law_parts.nd (d_min2 rfl rfl t.free_min (a_cons (d_at' (K' := K) (dv 2) (dv 4)) (a_cons (d_at' (K' := K) (dv 2) (dv 5)) a_nil)))) (ss_cons (s_set1 (r := 2) (dv 6) (dv 4)) (ss_one (s_set1 (r := 2) (dv 6) (dv 5))))) ss_nil))))))) (ss_cons (s_frz 2 (s_setLc (own := [("_law_mark", 8)]) rfl sc__law_parts.nd (i_list' (K' := K) (d_sortSet' (K' := K) rfl rfl t.free_sorted rfl t.free_set (dv 2))) (blkOk_by (N := N__law_parts) (sc := defScope s__law_parts) (by decide +kernel)) (fun _ _ _ _ _ => (g_name sc__law_parts.nd)) (fun _ _ _ _ _ => ts_nil) (fun _ _ _ _ _ => (d_tupC' (K' := K) rfl t.free_tuple (a_cons (d_new (n_lc (own := [("_law_i", 4)]) rfl sc__law_parts.nd (i_rng1 rfl t.free_range (a_cons (dv 1) a_nil)) (blkOk_by (by rfl)) (fun _ _ _ _ _ => (g_name sc__law_parts.nd)) (fun _ _ _ _ _ => (ts_one (t_eq' (K' := K) hr (d_at' (K' := K) (dv 2) (dv 4)) (dv 8)))) (fun _ _ _ _ _ => (dv 4)))) a_nil))) (i := 7))) (ss_one (s_ret (d_tupC' (K' := K) rfl t.free_tuple (a_cons (dv 7) a_nil))))))))⟩
theorem ok__law_reflected (t : T D w K mg) : FnG P w K mg base CX0 1 (He.ga K "_law_reflected") D.fd__law_reflected ["_law_matrix_here", "_law_node", "_law_vector_here"] (dsp K R__law_reflected) := Fun.dok (ds := ds__law_reflected) (toFun t.F__law_reflected) sc__law_reflected fun m cdv A outer s H E hr => ⟨_, (ss_cons (s_set (i := 3) sc__law_reflected.nd (d_sumA' (K' := K) rfl rfl t.free_sum (a_cons (d_new (n_lc (own := [("_law_j", 4)]) rfl sc__law_reflected.nd (i_rng1 rfl t.free_range (a_cons (d_len' (K' := K) rfl t.free_len (a_cons (dv 0) a_nil)) a_nil)) (blkOk_by (N := N__law_reflected) (sc := defScope s__law_reflected) (by decide +kernel)) (fun _ _ _ _ _ => (g_name sc__law_reflected.nd)) (fun _ _ _ _ _ => ts_nil) (fun _ _ _ _ _ => (d_mul' (K' := K) (d_at' (K' := K) (d_at' (K' := K) (dv 0) (dv 1)) (dv 4)) (d_at' (K' := K) (dv 2) (dv 4)))))) a_nil))) (ss_one (s_ret (d_add' (K' := K) (d_add' (K' := K) (d_sl' (K' := K) (dv 2) o_none (o_some (dv 1))) (d_tup (a_cons (d_sub (d_at' (K' := K) (dv 2) (dv 1)) (dv 3)) a_nil))) (d_sl' (K' := K) (dv 2) (o_some (d_add' (K' := K) (dv 1) d_int)) o_none)))))⟩
theorem okN__law_simple (t : T D w K mg) : FnG P w K mg base CX0 1 (He.ga K "_law_simple") D.fd__law_simple ["_law_many"] (dspN K RN__law_simple) := FnG.dokN (dn := dn__law_simple) (toFun t.F__law_simple) sc__law_simple rfl fun m cdv A outer s H E hr => ⟨_, (n_lc (own := [("_law_i", 1)]) rfl sc__law_simple.nd (i_rng1 rfl t.free_range (a_cons (dv 0) a_nil)) (blkOk_by (N := N__law_simple) (sc := defScope s__law_simple) (by decide +kernel)) (fun _ _ _ _ _ => (g_name sc__law_simple.nd)) (fun _ _ _ _ _ => ts_nil) (fun _ _ _ _ _ => (d_tupC' (K' := K) rfl t.free_tuple (a_cons (d_new (n_lc (own := [("_law_j", 2)]) rfl sc__law_simple.nd (i_rng1 rfl t.free_range (a_cons (dv 0) a_nil)) (blkOk_by (by rfl)) (fun _ _ _ _ _ => (g_name sc__law_simple.nd)) (fun _ _ _ _ _ => ts_nil) (fun _ _ _ _ _ => (d_if (t_eq' (K' := K) hr (dv 1) (dv 2)) d_int d_int)))) a_nil))))⟩
theorem ok__law_simple (t : T D w K mg) : FnG P w K mg base CX0 1 (He.ga K "_law_simple") D.fd__law_simple ["_law_many"] (dsp K R__law_simple) := Fun.dok (ds := ds__law_simple) (toFun t.F__law_simple) sc__law_simple fun m cdv A outer s H E hr => ⟨_, (ss_one (s_ret (d_new (n_lc (own := [("_law_i", 1)]) rfl sc__law_simple.nd (i_rng1 rfl t.free_range (a_cons (dv 0) a_nil)) (blkOk_by (N := N__law_simple) (sc := defScope s__law_simple) (by decide +kernel)) (fun _ _ _ _ _ => (g_name sc__law_simple.nd)) (fun _ _ _ _ _ => ts_nil) (fun _ _ _ _ _ => (d_tupC' (K' := K) rfl t.free_tuple (a_cons (d_new (n_lc (own := [("_law_j", 2)]) rfl sc__law_simple.nd (i_rng1 rfl t.free_range (a_cons (dv 0) a_nil)) (blkOk_by (by rfl)) (fun _ _ _ _ _ => (g_name sc__law_simple.nd)) (fun _ _ _ _ _ => ts_nil) (fun _ _ _ _ _ => (d_if (t_eq' (K' := K) hr (dv 1) (dv 2)) d_int d_int)))) a_nil)))))))⟩
theorem ok__law_positive (t : T D w K mg) : FnG P w K mg base CX0 2 (He.ga K "_law_positive") D.fd__law_positive ["_law_matrix_here", "_law_most"] (dsp K R__law_positive) := Fun.dok (ds := ds__law_positive) (toFun t.F__law_positive) sc__law_positive fun m cdv A outer s H E hr => ⟨_, (ss_cons (s_set (i := 2) sc__law_positive.nd (d_len' (K' := K) rfl t.free_len (a_cons (dv 0) a_nil))) (ss_cons (s_parO (i := 3) (j := 4) rfl sc__law_positive.nd (by decide) (ao_n (n_call' (K' := K) (okN__law_simple t) (hr.mono (by decide)) rfl t.g__law_simple t.F__law_simple.kp (b__law_simple t) (a_cons (dv 2) a_nil)) (ao_d d_int ao_nil))) (ss_cons (s_setX (i := 5) sc__law_positive.nd x_dT) (ss_cons (s_forL (r := 3) (i := 6) PassesOwn.never rfl (by decide) (by exact keeps_dput mono_var mono_var mono_c) (ss_one (s_dput (r := 5) hr d_int (dv 6))) sc__law_positive.nd) (ss_cons (s_for PassesOwn.never rfl (i_rng1 rfl t.free_range (a_cons (d_add' (K' := K) (dv 1) d_int) a_nil)) (g_name sc__law_positive.nd) (ss_one (s_if (t_chain op_lt op_le r2_B0 r2_B0 (dv 4) (d_len' (K' := K) rfl t.free_len (a_cons (dv 3) a_nil)) (dv 1)) (ss_cons (s_for PassesOwn.never rfl (i_rng1 rfl t.free_range (a_cons (dv 2) a_nil)) (g_name sc__law_positive.nd) (ss_cons (s_set (i := 9) sc__law_positive.nd (d_call' (K' := K) (ok__law_reflected t) (hr.mono (by decide)) rfl t.g__law_reflected t.F__law_reflected.kp (b__law_reflected t) (a_cons (dv 0) (a_cons (dv 8) (a_cons (d_at' (K' := K) (dv 3) (dv 4)) a_nil))))) (ss_one (s_if (t_pw (w_and (t_ge (d_minT' (K' := K) rfl rfl t.free_min (a_cons (dv 9) a_nil)) d_int) (w_and1 (t_dni (r := 5) hr (dv 9))))) (ss_cons (s_dput (r := 5) hr d_int (dv 9)) (ss_one (s_app (i := 3) (dv 9)))) ss_nil)))) (ss_one (s_set (i := 4) sc__law_positive.nd (d_add' (K' := K) (dv 4) d_int)))) ss_nil))) (ss_cons (s_if (t_gt (d_len' (K' := K) rfl t.free_len (a_cons (dv 3) a_nil)) (dv 1)) (ss_one (s_ret d_non)) ss_nil) (ss_one (s_frz 3 (s_ret (d_tupC' (K' := K) rfl t.free_tuple (a_cons (d_new (n_lc (own := [("_law_height", 11), ("_law_each", 6)]) rfl sc__law_positive.nd (i_list' (K' := K) (d_sorted' (K' := K) hr rfl t.free_sorted (a_cons (d_new (n_lc (own := [("_law_vector_here", 10)]) rfl sc__law_positive.nd (i_list' (K' := K) (dv 3)) (blkOk_by (N := N__law_positive) (sc := defScope s__law_positive) (by decide +kernel)) (fun _ _ _ _ _ => (g_name sc__law_positive.nd)) (fun _ _ _ _ _ => ts_nil) (fun _ _ _ _ _ => (d_tup (a_cons (d_sumA' (K' := K) rfl rfl t.free_sum (a_cons (dv 10) a_nil)) (a_cons (dv 10) a_nil)))))) a_nil))) (blkOk_by (N := N__law_positive) (sc := defScope s__law_positive) (by decide +kernel)) (fun _ _ _ _ _ => (g_tup' (K' := K) rfl (gs_cons (g_name sc__law_positive.nd) (gs_cons (g_name sc__law_positive.nd) gs_nil)) (len_cons (len_cons len_nil)))) (fun _ _ _ _ _ => ts_nil) (fun _ _ _ _ _ => (dv 6)))) a_nil)))))))))))⟩
theorem ok__law_lean (t : T D w K mg) : FnG P w K mg base CX0 2 (He.ga K "_law_lean") D.fd__law_lean ["_law_top", "_law_base"] (dsp K R__law_lean) := Fun.dok (ds := ds__law_lean) (toFun t.F__law_lean) sc__law_lean fun m cdv A outer s H E hr => ⟨_, (ss_cons (s_set (i := 2) sc__law_lean.nd (d_call' (K' := K) (ok__law_gcd t) (hr.mono (by decide)) rfl t.g__law_gcd t.F__law_gcd.kp (b__law_gcd t) (a_cons (dv 0) (a_cons (dv 1) a_nil)))) (ss_one (s_ret (d_tup (a_cons (d_fdiv (dv 0) (dv 2)) (a_cons (d_fdiv (dv 1) (dv 2)) a_nil))))))⟩
theorem ok__law_symmetrizer (t : T D w K mg) : FnG P w K mg base CX0 3 (He.ga K "_law_symmetrizer") D.fd__law_symmetrizer ["_law_matrix_here"] (dsp K R__law_symmetrizer) := Fun.dok (ds := ds__law_symmetrizer) (toFun t.F__law_symmetrizer) sc__law_symmetrizer fun m cdv A outer s H E hr => ⟨_, (ss_cons (s_parO (i := 1) (j := 2) rfl sc__law_symmetrizer.nd (by decide) (ao_d (d_len' (K' := K) rfl t.free_len (a_cons (dv 0) a_nil)) (ao_n (n_rep (d_lst (a_cons d_int a_nil)) (d_len' (K' := K) rfl t.free_len (a_cons (dv 0) a_nil))) ao_nil))) (ss_cons (s_for PassesOwn.never rfl (i_tup' (K' := K) (d_call' (K' := K) (ok__law_parts t) (hr.mono (by decide)) rfl t.g__law_parts t.F__law_parts.kp (b__law_parts t) (a_cons (dv 0) a_nil))) (g_name sc__law_symmetrizer.nd) (ss_cons (s_setX (i := 4) sc__law_symmetrizer.nd x_dK) (ss_cons (s_dput (r := 4) hr (d_tup (a_cons d_int (a_cons d_int a_nil))) (d_at' (K' := K) (dv 3) d_int)) (ss_cons (s_for PassesOwn.never rfl (i_rng1 rfl t.free_range (a_cons (d_len' (K' := K) rfl t.free_len (a_cons (dv 3) a_nil)) a_nil)) (g_name sc__law_symmetrizer.nd) (ss_one (s_for PassesOwn.never rfl (i_tup' (K' := K) (dv 3)) (g_name sc__law_symmetrizer.nd) (ss_one (s_for PassesOwn.never rfl (i_tup' (K' := K) (dv 3)) (g_name sc__law_symmetrizer.nd) (ss_one (s_if (t_pw (w_and (t_din (r := 4) hr (dv 6)) (w_and (t_dni (r := 4) hr (dv 7)) (w_and1 (t_ne' (K' := K) hr (d_at' (K' := K) (d_at' (K' := K) (dv 0) (dv 6)) (dv 7)) d_int))))) (ss_one (s_dput (r := 4) hr (d_call' (K' := K) (ok__law_lean t) (hr.mono (by decide)) rfl t.g__law_lean t.F__law_lean.kp (b__law_lean t) (a_cons (d_mul' (K' := K) (d_at' (K' := K) (d_dget (r := 4) hr (dv 6)) d_int) (d_abs rfl t.free_abs (a_cons (d_at' (K' := K) (d_at' (K' := K) (dv 0) (dv 6)) (dv 7)) a_nil))) (a_cons (d_mul' (K' := K) (d_at' (K' := K) (d_dget (r := 4) hr (dv 6)) d_int) (d_abs rfl t.free_abs (a_cons (d_at' (K' := K) (d_at' (K' := K) (dv 0) (dv 7)) (dv 6)) a_nil))) a_nil))) (dv 7))) ss_nil))))))) (ss_cons (s_set (i := 8) sc__law_symmetrizer.nd d_int) (ss_cons (s_for PassesOwn.never rfl (i_tup' (K' := K) (dv 3)) (g_name sc__law_symmetrizer.nd) (ss_one (s_set (i := 8) sc__law_symmetrizer.nd (d_mul' (K' := K) (d_fdiv (dv 8) (d_call' (K' := K) (ok__law_gcd t) (hr.mono (by decide)) rfl t.g__law_gcd t.F__law_gcd.kp (b__law_gcd t) (a_cons (dv 8) (a_cons (d_at' (K' := K) (d_dget (r := 4) hr (dv 6)) d_int) a_nil)))) (d_at' (K' := K) (d_dget (r := 4) hr (dv 6)) d_int))))) (ss_cons (s_setLc (own := [("_law_i", 6)]) rfl sc__law_symmetrizer.nd (i_tup' (K' := K) (dv 3)) (blkOk_by (N := N__law_symmetrizer) (sc := defScope s__law_symmetrizer) (by decide +kernel)) (fun _ _ _ _ _ => (g_name sc__law_symmetrizer.nd)) (fun _ _ _ _ _ => ts_nil) (fun _ _ _ _ _ => (d_mul' (K' := K) (d_at' (K' := K) (d_dget (r := 4) hr (dv 6)) d_int) (d_fdiv (dv 8) (d_at' (K' := K) (d_dget (r := 4) hr (dv 6)) d_int)))) (i := 9)) (ss_cons (s_set (i := 10) sc__law_symmetrizer.nd d_int) (ss_cons (s_for PassesOwn.never rfl (i_list' (K' := K) (dv 9)) (g_name sc__law_symmetrizer.nd) (ss_one (s_set (i := 10) sc__law_symmetrizer.nd (d_call' (K' := K) (ok__law_gcd t) (hr.mono (by decide)) rfl t.g__law_gcd t.F__law_gcd.kp (b__law_gcd t) (a_cons (dv 10) (a_cons (dv 11) a_nil)))))) (ss_one (s_for PassesOwn.never rfl (i_zipM' (K' := K) rfl t.free_zip (a_cons (dv 3) (a_cons (dv 9) a_nil))) (g_tup' (K' := K) rfl (gs_cons (g_name sc__law_symmetrizer.nd) (gs_cons (g_name sc__law_symmetrizer.nd) gs_nil)) (len_cons (len_cons len_nil))) (ss_one (s_set1 (r := 2) (d_fdiv (dv 11) (dv 10)) (dv 6)))))))))))))) (ss_cons (s_frz 2 (s_for PassesOwn.never rfl (i_rng1 rfl t.free_range (a_cons (dv 1) a_nil)) (g_name sc__law_symmetrizer.nd) (ss_one (s_for PassesOwn.never rfl (i_rng1 rfl t.free_range (a_cons (dv 1) a_nil)) (g_name sc__law_symmetrizer.nd) (ss_one (s_if (t_ne' (K' := K) hr (d_mul' (K' := K) (d_at' (K' := K) (dv 2) (dv 6)) (d_at' (K' := K) (d_at' (K' := K) (dv 0) (dv 6)) (dv 7))) (d_mul' (K' := K) (d_at' (K' := K) (dv 2) (dv 7)) (d_at' (K' := K) (d_at' (K' := K) (dv 0) (dv 7)) (dv 6)))) (ss_one (s_ret (d_lst a_nil))) ss_nil)))))) (ss_one (s_ret (d_lst (a_cons (d_tupC' (K' := K) rfl t.free_tuple (a_cons (dv 2) a_nil)) a_nil)))))))⟩
theorem ok__law_form (t : T D w K mg) : FnG P w K mg base CX0 1 (He.ga K "_law_form") D.fd__law_form ["_law_matrix_here", "_law_scale", "_law_one", "_law_two"] (dsp K R__law_form) := Fun.dok (ds := ds__law_form) (toFun t.F__law_form) sc__law_form fun m cdv A outer s H E hr => ⟨_, (ss_cons (s_par (i := 4) (j := 5) rfl sc__law_form.nd (by decide) (a_cons (d_len' (K' := K) rfl t.free_len (a_cons (dv 0) a_nil)) (a_cons d_int a_nil))) (ss_cons (s_for PassesOwn.never rfl (i_rng1 rfl t.free_range (a_cons (dv 4) a_nil)) (g_name sc__law_form.nd) (ss_one (s_set (i := 5) sc__law_form.nd (d_add' (K' := K) (dv 5) (d_mul' (K' := K) (d_mul' (K' := K) (d_at' (K' := K) (dv 2) (dv 6)) (d_at' (K' := K) (dv 1) (dv 6))) (d_sumA' (K' := K) rfl rfl t.free_sum (a_cons (d_new (n_lc (own := [("_law_j", 7)]) rfl sc__law_form.nd (i_rng1 rfl t.free_range (a_cons (dv 4) a_nil)) (blkOk_by (N := N__law_form) (sc := defScope s__law_form) (by decide +kernel)) (fun _ _ _ _ _ => (g_name sc__law_form.nd)) (fun _ _ _ _ _ => ts_nil) (fun _ _ _ _ _ => (d_mul' (K' := K) (d_at' (K' := K) (d_at' (K' := K) (dv 0) (dv 6)) (dv 7)) (d_at' (K' := K) (dv 3) (dv 7)))))) a_nil))))))) (ss_one (s_ret (dv 5)))))⟩
theorem ok__law_number (t : T D w K mg) : FnG P w K mg base CX0 3 (He.ga K "_law_number") D.fd__law_number ["_law_pot_here", "_law_size"] (dsp K R__law_number) := Fun.dok (ds := ds__law_number) (toFun t.F__law_number) sc__law_number fun m cdv A outer s H E hr => ⟨_, (ss_cons (s_set (i := 2) sc__law_number.nd (d_call' (K' := K) (ok__law_pick t) (hr.mono (by decide)) rfl t.g__law_pick t.F__law_pick.kp (b__law_pick t) (a_cons (dv 0) (a_cons (d_lst (a_cons d_int (a_cons d_int (a_cons d_int (a_cons d_int (a_cons d_int (a_cons d_int (a_cons d_int (a_cons d_int (a_cons (d_pow d_int d_int) (a_cons (d_pow d_int d_int) a_nil))))))))))) a_nil)))) (ss_cons (s_set (i := 3) sc__law_number.nd (d_add' (K' := K) (d_call' (K' := K) (ok__law_draw t) (hr.mono (by decide)) rfl t.g__law_draw t.F__law_draw.kp (b__law_draw t) (a_cons (dv 0) (a_cons (d_add' (K' := K) (dv 1) d_int) a_nil))) (d_mul' (K' := K) (dv 2) (d_call' (K' := K) (ok__law_draw t) (hr.mono (by decide)) rfl t.g__law_draw t.F__law_draw.kp (b__law_draw t) (a_cons (dv 0) (a_cons d_int a_nil)))))) (ss_one (s_ret (d_if (t_eq' (K' := K) hr (d_call' (K' := K) (ok__law_draw t) (hr.mono (by decide)) rfl t.g__law_draw t.F__law_draw.kp (b__law_draw t) (a_cons (dv 0) (a_cons d_int a_nil))) d_int) (dv 3) (d_sub d_int (dv 3)))))))⟩
theorem ok__law_vector (t : T D w K mg) : FnG P w K mg base CX0 4 (He.ga K "_law_vector") D.fd__law_vector ["_law_pot_here", "_law_many", "_law_size"] (dsp K R__law_vector) := Fun.dok (ds := ds__law_vector) (toFun t.F__law_vector) sc__law_vector fun m cdv A outer s H E hr => ⟨_, (ss_cons (s_setN (i := 3) sc__law_vector.nd (n_lst a_nil)) (ss_cons (s_for PassesOwn.never rfl (i_rng1 rfl t.free_range (a_cons (dv 1) a_nil)) (g_name sc__law_vector.nd) (ss_one (s_app (i := 3) (d_call' (K' := K) (ok__law_number t) (hr.mono (by decide)) rfl t.g__law_number t.F__law_number.kp (b__law_number t) (a_cons (dv 0) (a_cons (dv 2) a_nil)))))) (ss_one (s_frz 3 (s_ret (d_tupC' (K' := K) rfl t.free_tuple (a_cons (dv 3) a_nil)))))))⟩
theorem ok__law_wild (t : T D w K mg) : FnG P w K mg base CX0 3 (He.ga K "_law_wild") D.fd__law_wild ["_law_pot_here", "_law_most", "_law_size"] (dsp K R__law_wild) := Fun.dok (ds := ds__law_wild) (toFun t.F__law_wild) sc__law_wild fun m cdv A outer s H E hr => ⟨_, (ss_cons (s_set (i := 3) sc__law_wild.nd (d_add' (K' := K) d_int (d_call' (K' := K) (ok__law_draw t) (hr.mono (by decide)) rfl t.g__law_draw t.F__law_draw.kp (b__law_draw t) (a_cons (dv 0) (a_cons (dv 1) a_nil))))) (ss_cons (s_setLcNN (own := [("_law_i", 6)]) rfl sc__law_wild.nd (i_rng1 rfl t.free_range (a_cons (dv 3) a_nil)) (blkOk_by (N := N__law_wild) (sc := defScope s__law_wild) (by decide +kernel)) (fun _ _ _ _ _ => (g_name sc__law_wild.nd)) (fun _ _ _ _ _ => ts_nil) (fun _ _ _ _ _ => (n_lc (own := [("_law_j", 7)]) rfl sc__law_wild.nd (i_rng1 rfl t.free_range (a_cons (dv 3) a_nil)) (blkOk_by (by rfl)) (fun _ _ _ _ _ => (g_name sc__law_wild.nd)) (fun _ _ _ _ _ => ts_nil) (fun _ _ _ _ _ => (d_if (t_eq' (K' := K) hr (dv 6) (dv 7)) d_int d_int)))) (i := 4)) (ss_cons (s_set (i := 5) sc__law_wild.nd (d_call' (K' := K) (ok__law_draw t) (hr.mono (by decide)) rfl t.g__law_draw t.F__law_draw.kp (b__law_draw t) (a_cons (dv 0) (a_cons d_int a_nil)))) (ss_cons (s_for PassesOwn.never rfl (i_rng1 rfl t.free_range (a_cons (dv 3) a_nil)) (g_name sc__law_wild.nd) (ss_one (s_for PassesOwn.never rfl (i_rng1 rfl t.free_range (a_cons (dv 6) a_nil)) (g_name sc__law_wild.nd) (ss_one (s_if (t_pw (w_or (t_gt (d_call' (K' := K) (ok__law_draw t) (hr.mono (by decide)) rfl t.g__law_draw t.F__law_draw.kp (b__law_draw t) (a_cons (dv 0) (a_cons d_int a_nil))) (dv 5)) (w_or1 (t_pw (w_and (t_eq' (K' := K) hr (dv 7) (d_sub (dv 6) d_int)) (w_and1 (t_lt (dv 5) d_int))))))) (ss_cons (s_set2 (r := 4) (d_sub d_int (d_call' (K' := K) (ok__law_pick t) (hr.mono (by decide)) rfl t.g__law_pick t.F__law_pick.kp (b__law_pick t) (a_cons (dv 0) (a_cons (d_lst (a_cons d_int (a_cons d_int (a_cons d_int (a_cons d_int (a_cons d_int (a_cons d_int (a_cons d_int (a_cons d_int (a_cons (d_add' (K' := K) d_int (d_call' (K' := K) (ok__law_draw t) (hr.mono (by decide)) rfl t.g__law_draw t.F__law_draw.kp (b__law_draw t) (a_cons (dv 0) (a_cons (dv 2) a_nil)))) a_nil)))))))))) a_nil)))) (dv 6) (dv 7)) (ss_one (s_set2 (r := 4) (d_sub d_int (d_call' (K' := K) (ok__law_pick t) (hr.mono (by decide)) rfl t.g__law_pick t.F__law_pick.kp (b__law_pick t) (a_cons (dv 0) (a_cons (d_lst (a_cons d_int (a_cons d_int (a_cons d_int (a_cons d_int (a_cons d_int (a_cons d_int (a_cons d_int (a_cons d_int (a_cons (d_add' (K' := K) d_int (d_call' (K' := K) (ok__law_draw t) (hr.mono (by decide)) rfl t.g__law_draw t.F__law_draw.kp (b__law_draw t) (a_cons (dv 0) (a_cons (dv 2) a_nil)))) a_nil)))))))))) a_nil)))) (dv 7) (dv 6)))) ss_nil))))) (ss_one (s_frz 4 (s_ret (d_tupC' (K' := K) rfl t.free_tuple (a_cons (d_new (n_lc (own := [("_law_row", 8)]) rfl sc__law_wild.nd (i_list' (K' := K) (dv 4)) (blkOk_by (N := N__law_wild) (sc := defScope s__law_wild) (by decide +kernel)) (fun _ _ _ _ _ => (g_name sc__law_wild.nd)) (fun _ _ _ _ _ => ts_nil) (fun _ _ _ _ _ => (d_tupC' (K' := K) rfl t.free_tuple (a_cons (dv 8) a_nil))))) a_nil)))))))))⟩
theorem ok__law_longer (t : T D w K mg) : FnG P w K mg base CX0 4 (He.ga K "_law_longer") D.fd__law_longer ["_law_pot_here", "_law_matrix_here"] (dsp K R__law_longer) := Fun.dok (ds := ds__law_longer) (toFun t.F__law_longer) sc__law_longer fun m cdv A outer s H E hr => ⟨_, (ss_cons (s_asgG (d_tup (a_cons (d_len' (K' := K) rfl t.free_len (a_cons (dv 1) a_nil)) (a_cons (d_at' (K' := K) (d_call' (K' := K) (ok__law_symmetrizer t) (hr.mono (by decide)) rfl t.g__law_symmetrizer t.F__law_symmetrizer.kp (b__law_symmetrizer t) (a_cons (dv 1) a_nil)) d_int) a_nil))) (g_tup' (K' := K) rfl (gs_cons (g_name sc__law_longer.nd) (gs_cons (g_name sc__law_longer.nd) gs_nil)) (len_cons (len_cons len_nil)))) (ss_cons (s_set (i := 4) sc__law_longer.nd (d_at' (K' := K) (d_call' (K' := K) (ok__law_positive t) (hr.mono (by decide)) rfl t.g__law_positive t.F__law_positive.kp (b__law_positive t) (a_cons (dv 1) (a_cons d_int a_nil))) (d_neg d_int))) (ss_cons (s_parT (is := [5, 6]) rfl (ao_d (d_call' (K' := K) (ok__law_form t) (hr.mono (by decide)) rfl t.g__law_form t.F__law_form.kp (b__law_form t) (a_cons (dv 1) (a_cons (dv 3) (a_cons (dv 4) (a_cons (dv 4) a_nil))))) (ao_n (n_lst a_nil) ao_nil)) (pgs_cons (pg_name (i := 5) sc__law_longer.nd rfl (by first | exact Or.inl rfl | exact Or.inr rfl)) (pgs_cons (pg_name (i := 6) sc__law_longer.nd rfl (by first | exact Or.inl rfl | exact Or.inr rfl)) pgs_nil)) rfl) (ss_cons (s_for PassesOwn.never rfl (i_rng1 rfl t.free_range (a_cons (dv 2) a_nil)) (g_name sc__law_longer.nd) (ss_one (s_app (i := 6) (d_add' (K' := K) (d_at' (K' := K) (dv 1) (dv 7)) (d_tup (a_cons (d_sub d_int (d_sumA' (K' := K) rfl rfl t.free_sum (a_cons (d_new (n_lc (own := [("_law_j", 8)]) rfl sc__law_longer.nd (i_rng1 rfl t.free_range (a_cons (dv 2) a_nil)) (blkOk_by (N := N__law_longer) (sc := defScope s__law_longer) (by decide +kernel)) (fun _ _ _ _ _ => (g_name sc__law_longer.nd)) (fun _ _ _ _ _ => ts_nil) (fun _ _ _ _ _ => (d_mul' (K' := K) (d_at' (K' := K) (d_at' (K' := K) (dv 1) (dv 7)) (dv 8)) (d_at' (K' := K) (dv 4) (dv 8)))))) a_nil))) a_nil)))))) (ss_cons (s_app (i := 6) (d_add' (K' := K) (d_tupC' (K' := K) rfl t.free_tuple (a_cons (d_new (n_lc (own := [("_law_each", 9)]) rfl sc__law_longer.nd (i_list' (K' := K) (d_call' (K' := K) (ok__law_simple t) (hr.mono (by decide)) rfl t.g__law_simple t.F__law_simple.kp (b__law_simple t) (a_cons (dv 2) a_nil))) (blkOk_by (N := N__law_longer) (sc := defScope s__law_longer) (by decide +kernel)) (fun _ _ _ _ _ => (g_name sc__law_longer.nd)) (fun _ _ _ _ _ => ts_nil) (fun _ _ _ _ _ => (d_sub d_int (d_fdiv (d_mul' (K' := K) d_int (d_call' (K' := K) (ok__law_form t) (hr.mono (by decide)) rfl t.g__law_form t.F__law_form.kp (b__law_form t) (a_cons (dv 1) (a_cons (dv 3) (a_cons (dv 4) (a_cons (dv 9) a_nil)))))) (dv 5)))))) a_nil)) (d_tup (a_cons d_int a_nil)))) (ss_cons (s_if (t_eq' (K' := K) hr (d_call' (K' := K) (ok__law_draw t) (hr.mono (by decide)) rfl t.g__law_draw t.F__law_draw.kp (b__law_draw t) (a_cons (dv 0) (a_cons d_int a_nil))) d_int) (ss_one (s_setN (i := 6) sc__law_longer.nd (n_lc (own := [("_law_i", 7)]) rfl sc__law_longer.nd (i_rng1 rfl t.free_range (a_cons (d_add' (K' := K) (dv 2) d_int) a_nil)) (blkOk_by (N := N__law_longer) (sc := defScope s__law_longer) (by decide +kernel)) (fun _ _ _ _ _ => (g_name sc__law_longer.nd)) (fun _ _ _ _ _ => ts_nil) (fun _ _ _ _ _ => (d_tupC' (K' := K) rfl t.free_tuple (a_cons (d_new (n_lc (own := [("_law_j", 8)]) rfl sc__law_longer.nd (i_rng1 rfl t.free_range (a_cons (d_add' (K' := K) (dv 2) d_int) a_nil)) (blkOk_by (by rfl)) (fun _ _ _ _ _ => (g_name sc__law_longer.nd)) (fun _ _ _ _ _ => ts_nil) (fun _ _ _ _ _ => (d_at' (K' := K) (d_at' (K' := K) (dv 6) (dv 8)) (dv 7))))) a_nil)))))) ss_nil) (ss_one (s_frz 6 (s_ret (d_tupC' (K' := K) rfl t.free_tuple (a_cons (dv 6) a_nil)))))))))))⟩
theorem ok__law_put_together (t : T D w K mg) : FnG P w K mg base CX0 1 (He.ga K "_law_put_together") D.fd__law_put_together ["_law_one", "_law_two"] (dsp K R__law_put_together) := Fun.dok (ds := ds__law_put_together) (toFun t.F__law_put_together) sc__law_put_together fun m cdv A outer s H E hr => ⟨_, (ss_cons (s_asgG (d_tup (a_cons (d_mul' (K' := K) (d_tup (a_cons d_int a_nil)) (d_len' (K' := K) rfl t.free_len (a_cons (dv 0) a_nil))) (a_cons (d_mul' (K' := K) (d_tup (a_cons d_int a_nil)) (d_len' (K' := K) rfl t.free_len (a_cons (dv 1) a_nil))) a_nil))) (g_tup' (K' := K) rfl (gs_cons (g_name sc__law_put_together.nd) (gs_cons (g_name sc__law_put_together.nd) gs_nil)) (len_cons (len_cons len_nil)))) (ss_one (s_ret (d_tupC' (K' := K) rfl t.free_tuple (a_cons (d_add' (K' := K) (d_new (n_lc (own := [("_law_row", 4)]) rfl sc__law_put_together.nd (i_tup' (K' := K) (dv 0)) (blkOk_by (N := N__law_put_together) (sc := defScope s__law_put_together) (by decide +kernel)) (fun _ _ _ _ _ => (g_name sc__law_put_together.nd)) (fun _ _ _ _ _ => ts_nil) (fun _ _ _ _ _ => (d_add' (K' := K) (dv 4) (dv 3))))) (d_new (n_lc (own := [("_law_row", 4)]) rfl sc__law_put_together.nd (i_tup' (K' := K) (dv 1)) (blkOk_by (N := N__law_put_together) (sc := defScope s__law_put_together) (by decide +kernel)) (fun _ _ _ _ _ => (g_name sc__law_put_together.nd)) (fun _ _ _ _ _ => ts_nil) (fun _ _ _ _ _ => (d_add' (K' := K) (dv 2) (dv 4)))))) a_nil)))))⟩
theorem ok__law_any_cartan (t : T D w K mg) : FnG P w K mg base CX0 5 (He.ga K "_law_any_cartan") D.fd__law_any_cartan ["_law_pot_here", "_law_most", "_law_size"] (dsp K R__law_any_cartan) := Fun.dok (ds := ds__law_any_cartan) (toFun t.F__law_any_cartan) sc__law_any_cartan fun m cdv A outer s H E hr => ⟨_, (ss_cons (s_par (i := 3) (j := 4) rfl sc__law_any_cartan.nd (by decide) (a_cons (d_call' (K' := K) (ok__law_draw t) (hr.mono (by decide)) rfl t.g__law_draw t.F__law_draw.kp (b__law_draw t) (a_cons (dv 0) (a_cons d_int a_nil))) (a_cons (d_fdiv (dv 1) d_int) a_nil))) (ss_cons (s_if (t_eq' (K' := K) hr (dv 3) d_int) (ss_one (s_set (i := 5) sc__law_any_cartan.nd (d_call' (K' := K) (ok__law_matrix t) (hr.mono (by decide)) rfl t.g__law_matrix t.F__law_matrix.kp (b__law_matrix t) (a_cons (dv 0) (a_cons (dv 1) a_nil))))) (ss_one (s_if (t_eq' (K' := K) hr (dv 3) d_int) (ss_one (s_set (i := 5) sc__law_any_cartan.nd (d_call' (K' := K) (ok__law_longer t) (hr.mono (by decide)) rfl t.g__law_longer t.F__law_longer.kp (b__law_longer t) (a_cons (dv 0) (a_cons (d_call' (K' := K) (ok__law_single t) (hr.mono (by decide)) rfl t.g__law_single t.F__law_single.kp (b__law_single t) (a_cons (d_call' (K' := K) (ok__law_pick t) (hr.mono (by decide)) rfl t.g__law_pick t.F__law_pick.kp (b__law_pick t) (a_cons (dv 0) (a_cons (d_call' (K' := K) (ok__law_names t) (hr.mono (by decide)) rfl t.g__law_names t.F__law_names.kp (b__law_names t) (a_cons (d_add' (K' := K) d_int (d_call' (K' := K) (ok__law_draw t) (hr.mono (by decide)) rfl t.g__law_draw t.F__law_draw.kp (b__law_draw t) (a_cons (dv 0) (a_cons (d_sub (dv 1) d_int) a_nil)))) a_nil)) a_nil))) a_nil)) a_nil))))) (ss_one (s_if (t_eq' (K' := K) hr (dv 3) d_int) (ss_one (s_set (i := 5) sc__law_any_cartan.nd (d_call' (K' := K) (ok__law_put_together t) (hr.mono (by decide)) rfl t.g__law_put_together t.F__law_put_together.kp (b__law_put_together t) (a_cons (d_call' (K' := K) (ok__law_wild t) (hr.mono (by decide)) rfl t.g__law_wild t.F__law_wild.kp (b__law_wild t) (a_cons (dv 0) (a_cons (dv 4) (a_cons (dv 2) a_nil)))) (a_cons (d_call' (K' := K) (ok__law_wild t) (hr.mono (by decide)) rfl t.g__law_wild t.F__law_wild.kp (b__law_wild t) (a_cons (dv 0) (a_cons (dv 4) (a_cons (dv 2) a_nil)))) a_nil))))) (ss_one (s_if (t_eq' (K' := K) hr (dv 3) d_int) (ss_cons (s_set (i := 6) sc__law_any_cartan.nd (d_call' (K' := K) (ok__law_single t) (hr.mono (by decide)) rfl t.g__law_single t.F__law_single.kp (b__law_single t) (a_cons (d_call' (K' := K) (ok__law_pick t) (hr.mono (by decide)) rfl t.g__law_pick t.F__law_pick.kp (b__law_pick t) (a_cons (dv 0) (a_cons (d_call' (K' := K) (ok__law_names t) (hr.mono (by decide)) rfl t.g__law_names t.F__law_names.kp (b__law_names t) (a_cons (d_add' (K' := K) d_int (d_call' (K' := K) (ok__law_draw t) (hr.mono (by decide)) rfl t.g__law_draw t.F__law_draw.kp (b__law_draw t) (a_cons (dv 0) (a_cons (d_sub (dv 4) d_int) a_nil)))) a_nil)) a_nil))) a_nil))) (ss_one (s_set (i := 5) sc__law_any_cartan.nd (d_call' (K' := K) (ok__law_put_together t) (hr.mono (by decide)) rfl t.g__law_put_together t.F__law_put_together.kp (b__law_put_together t) (a_cons (d_call' (K' := K) (ok__law_longer t) (hr.mono (by decide)) rfl t.g__law_longer t.F__law_longer.kp (b__law_longer t) (a_cons (dv 0) (a_cons (dv 6) a_nil))) (a_cons (d_call' (K' := K) (ok__law_matrix t) (hr.mono (by decide)) rfl t.g__law_matrix t.F__law_matrix.kp (b__law_matrix t) (a_cons (dv 0) (a_cons (dv 4) a_nil))) a_nil)))))) (ss_one (s_set (i := 5) sc__law_any_cartan.nd (d_call' (K' := K) (ok__law_wild t) (hr.mono (by decide)) rfl t.g__law_wild t.F__law_wild.kp (b__law_wild t) (a_cons (dv 0) (a_cons (dv 1) (a_cons (dv 2) a_nil))))))))))))) (ss_one (s_ret (d_call' (K' := K) (ok__law_led_nodes t) (hr.mono (by decide)) rfl t.g__law_led_nodes t.F__law_led_nodes.kp (b__law_led_nodes t) (a_cons (dv 5) (a_cons (d_call' (K' := K) (ok__law_mixed t) (hr.mono (by decide)) rfl t.g__law_mixed t.F__law_mixed.kp (b__law_mixed t) (a_cons (dv 0) (a_cons (d_lstRg rfl rfl t.free_list (rg_1 rfl t.free_range (d_len' (K' := K) rfl t.free_len (a_cons (dv 5) a_nil)))) a_nil))) a_nil)))))))⟩
theorem ok__law_bent (t : T D w K mg) : FnG P w K mg base CX0 3 (He.ga K "_law_bent") D.fd__law_bent ["_law_pot_here", "_law_matrix_here"] (dsp K R__law_bent) := Fun.dok (ds := ds__law_bent) (toFun t.F__law_bent) sc__law_bent fun m cdv A outer s H E hr => ⟨_, (ss_cons (s_set (i := 2) sc__law_bent.nd (d_len' (K' := K) rfl t.free_len (a_cons (dv 1) a_nil))) (ss_cons (s_parT (is := [3, 4, 5, 6]) rfl (ao_d (d_call' (K' := K) (ok__law_draw t) (hr.mono (by decide)) rfl t.g__law_draw t.F__law_draw.kp (b__law_draw t) (a_cons (dv 0) (a_cons (dv 2) a_nil))) (ao_d (d_call' (K' := K) (ok__law_draw t) (hr.mono (by decide)) rfl t.g__law_draw t.F__law_draw.kp (b__law_draw t) (a_cons (dv 0) (a_cons (dv 2) a_nil))) (ao_n (n_lstC' (K' := K) rfl t.free_list (a_cons (dv 1) a_nil)) (ao_d (d_call' (K' := K) (ok__law_draw t) (hr.mono (by decide)) rfl t.g__law_draw t.F__law_draw.kp (b__law_draw t) (a_cons (dv 0) (a_cons d_int a_nil))) ao_nil)))) (pgs_cons (pg_name (i := 3) sc__law_bent.nd rfl (by first | exact Or.inl rfl | exact Or.inr rfl)) (pgs_cons (pg_name (i := 4) sc__law_bent.nd rfl (by first | exact Or.inl rfl | exact Or.inr rfl)) (pgs_cons (pg_name (i := 5) sc__law_bent.nd rfl (by first | exact Or.inl rfl | exact Or.inr rfl)) (pgs_cons (pg_name (i := 6) sc__law_bent.nd rfl (by first | exact Or.inl rfl | exact Or.inr rfl)) pgs_nil)))) rfl) (ss_cons (s_if (t_lt (dv 6) d_int) (ss_cons (s_set (i := 7) sc__law_bent.nd (d_call' (K' := K) (ok__law_pick t) (hr.mono (by decide)) rfl t.g__law_pick t.F__law_pick.kp (b__law_pick t) (a_cons (dv 0) (a_cons (d_lst (a_cons (d_add' (K' := K) (d_at' (K' := K) (d_at' (K' := K) (dv 1) (dv 3)) (dv 4)) d_int) (a_cons (d_sub (d_at' (K' := K) (d_at' (K' := K) (dv 1) (dv 3)) (dv 4)) d_int) (a_cons d_int (a_cons d_bl (a_cons d_non (a_cons (d_sub d_int (d_at' (K' := K) (d_at' (K' := K) (dv 1) (dv 3)) (dv 4))) (a_cons d_int (a_cons d_str a_nil))))))))) a_nil)))) (ss_one (s_set1 (r := 5) (d_add' (K' := K) (d_add' (K' := K) (d_sl' (K' := K) (d_at' (K' := K) (dv 5) (dv 3)) o_none (o_some (dv 4))) (d_tup (a_cons (dv 7) a_nil))) (d_sl' (K' := K) (d_at' (K' := K) (dv 5) (dv 3)) (o_some (d_add' (K' := K) (dv 4) d_int)) o_none)) (dv 3)))) (ss_one (s_if (t_eq' (K' := K) hr (dv 6) d_int) (ss_one (s_set1 (r := 5) (d_call' (K' := K) (ok__law_pick t) (hr.mono (by decide)) rfl t.g__law_pick t.F__law_pick.kp (b__law_pick t) (a_cons (dv 0) (a_cons (d_lst (a_cons (d_lstC' (K' := K) rfl t.free_list (a_cons (d_at' (K' := K) (dv 5) (dv 3)) a_nil)) (a_cons (d_sl' (K' := K) (d_at' (K' := K) (dv 5) (dv 3)) o_none (o_some (d_neg d_int))) (a_cons (d_add' (K' := K) (d_at' (K' := K) (dv 5) (dv 3)) (d_tup (a_cons d_int a_nil))) (a_cons (d_tup a_nil) (a_cons d_non a_nil)))))) a_nil))) (dv 3))) (ss_one (s_if (t_eq' (K' := K) hr (dv 6) d_int) (ss_one (s_frz 5 (s_setN (i := 5) sc__law_bent.nd (n_cat (d_sl' (K' := K) (dv 5) o_none (o_some (dv 3))) (d_sl' (K' := K) (dv 5) (o_some (d_add' (K' := K) (dv 3) d_int)) o_none))))) (ss_one (s_if (t_eq' (K' := K) hr (dv 6) d_int) (ss_one (s_setN (i := 5) sc__law_bent.nd (n_cat (dv 5) (d_lst (a_cons (d_at' (K' := K) (dv 5) (dv 3)) a_nil))))) (ss_one (s_if (t_eq' (K' := K) hr (dv 6) d_int) (ss_one (s_frz 5 (s_setLcN (own := [("_law_row", 10)]) rfl sc__law_bent.nd (i_list' (K' := K) (dv 5)) (blkOk_by (N := N__law_bent) (sc := defScope s__law_bent) (by decide +kernel)) (fun _ _ _ _ _ => (g_name sc__law_bent.nd)) (fun _ _ _ _ _ => ts_nil) (fun _ _ _ _ _ => (d_add' (K' := K) (d_sl' (K' := K) (dv 10) o_none (o_some (dv 4))) (d_sl' (K' := K) (dv 10) (o_some (d_add' (K' := K) (dv 4) d_int)) o_none))) (i := 5)))) (ss_one (s_if (t_pw (w_and (t_gt (dv 6) d_int) (w_and1 (t_ne' (K' := K) hr (dv 3) (dv 4))))) (ss_cons (s_asgG (d_call' (K' := K) (ok__law_pick t) (hr.mono (by decide)) rfl t.g__law_pick t.F__law_pick.kp (b__law_pick t) (a_cons (dv 0) (a_cons (d_lst (a_cons (d_tup (a_cons d_int (a_cons d_int a_nil))) (a_cons (d_tup (a_cons d_int (a_cons (d_neg d_int) a_nil))) (a_cons (d_tup (a_cons (d_neg d_int) (a_cons d_int a_nil))) (a_cons (d_tup (a_cons d_int (a_cons d_int a_nil))) (a_cons (d_tup (a_cons d_int (a_cons d_int a_nil))) (a_cons (d_tup (a_cons (d_neg d_int) (a_cons (d_neg d_int) a_nil))) a_nil))))))) a_nil))) (g_tup' (K' := K) rfl (gs_cons (g_name sc__law_bent.nd) (gs_cons (g_name sc__law_bent.nd) gs_nil)) (len_cons (len_cons len_nil)))) (ss_cons (s_set1 (r := 5) (d_add' (K' := K) (d_add' (K' := K) (d_sl' (K' := K) (d_at' (K' := K) (dv 5) (dv 3)) o_none (o_some (dv 4))) (d_tup (a_cons (dv 8) a_nil))) (d_sl' (K' := K) (d_at' (K' := K) (dv 5) (dv 3)) (o_some (d_add' (K' := K) (dv 4) d_int)) o_none)) (dv 3)) (ss_one (s_set1 (r := 5) (d_add' (K' := K) (d_add' (K' := K) (d_sl' (K' := K) (d_at' (K' := K) (dv 5) (dv 4)) o_none (o_some (dv 3))) (d_tup (a_cons (dv 9) a_nil))) (d_sl' (K' := K) (d_at' (K' := K) (dv 5) (dv 4)) (o_some (d_add' (K' := K) (dv 3) d_int)) o_none)) (dv 4))))) ss_nil))))))))))) (ss_one (s_frz 5 (s_ret (d_if (t_eq' (K' := K) hr (dv 6) d_int) (dv 5) (d_tupC' (K' := K) rfl t.free_tuple (a_cons (dv 5) a_nil)))))))))⟩
theorem ok__law_right (t : T D w K mg) : FnG P w K mg base CX0 6 (He.ga K "_law_right") D.fd__law_right ["_law_pot_here"] (dsp K R__law_right) := Fun.dok (ds := ds__law_right) (toFun t.F__law_right) sc__law_right fun m cdv A outer s H E hr => ⟨_, (ss_cons (s_set (i := 1) sc__law_right.nd (d_call' (K' := K) (ok__law_any_cartan t) (hr.mono (by decide)) rfl t.g__law_any_cartan t.F__law_any_cartan.kp (b__law_any_cartan t) (a_cons (dv 0) (a_cons d_int (a_cons d_int a_nil))))) (ss_cons (s_if (t_eq' (K' := K) hr (d_call' (K' := K) (ok__law_draw t) (hr.mono (by decide)) rfl t.g__law_draw t.F__law_draw.kp (b__law_draw t) (a_cons (dv 0) (a_cons d_int a_nil))) d_int) (ss_one (s_set (i := 1) sc__law_right.nd (d_call' (K' := K) (ok__law_put_together t) (hr.mono (by decide)) rfl t.g__law_put_together t.F__law_put_together.kp (b__law_put_together t) (a_cons (dv 1) (a_cons (d_tup (a_cons (d_tup (a_cons d_int a_nil)) a_nil)) a_nil))))) ss_nil) (ss_cons (s_set (i := 2) sc__law_right.nd (d_call' (K' := K) (ok__law_draw t) (hr.mono (by decide)) rfl t.g__law_draw t.F__law_draw.kp (b__law_draw t) (a_cons (dv 0) (a_cons d_int a_nil)))) (ss_cons (s_set (i := 1) sc__law_right.nd (d_if (t_eq' (K' := K) hr (dv 2) d_int) (d_call' (K' := K) (ok__law_odd t) (hr.mono (by decide)) rfl t.g__law_odd t.F__law_odd.kp (b__law_odd t) (a_cons (dv 0) a_nil)) (d_if (t_lt (dv 2) d_int) (d_call' (K' := K) (ok__law_bent t) (hr.mono (by decide)) rfl t.g__law_bent t.F__law_bent.kp (b__law_bent t) (a_cons (dv 0) (a_cons (dv 1) a_nil))) (dv 1)))) (ss_cons (s_set (i := 3) sc__law_right.nd (d_call' (K' := K) (ok__law_is_cartan t) (hr.mono (by decide)) rfl t.g__law_is_cartan t.F__law_is_cartan.kp (b__law_is_cartan t) (a_cons (dv 1) a_nil))) (ss_cons (s_if (t_ne' (K' := K) hr (d_repr' (K' := K) hr rfl t.free_repr (a_cons (d_lst (a_cons (d_call' (K' := K) (ok_is_matrix t) (hr.mono (by decide)) rfl t.g_is_matrix t.F_is_matrix.kp (b_is_matrix t) (a_cons (dv 1) a_nil)) (a_cons (d_callX0' (K' := K) (ks := ["value"]) (π := [0]) (ok_is_matrix t) (hr.mono (by decide)) rfl t.g_is_matrix t.F_is_matrix.kp (kb_is_matrix_0_value t) (k_cons (dv 1) k_nil)) a_nil))) a_nil)) (d_repr' (K' := K) hr rfl t.free_repr (a_cons (d_lst (a_cons (dv 3) (a_cons (dv 3) a_nil))) a_nil))) (ss_one (s_ret d_bl)) ss_nil) (ss_cons (s_if (t_not (t_val (dv 3))) (ss_one (s_ret d_bl)) ss_nil) (ss_cons (s_set (i := 4) sc__law_right.nd (d_call' (K' := K) (ok__law_parts t) (hr.mono (by decide)) rfl t.g__law_parts t.F__law_parts.kp (b__law_parts t) (a_cons (dv 1) a_nil))) (ss_cons (s_if (t_ne' (K' := K) hr (d_repr' (K' := K) hr rfl t.free_repr (a_cons (d_lst (a_cons (d_call' (K' := K) (ok_parts_of t) (hr.mono (by decide)) rfl t.g_parts_of t.F_parts_of.kp (b_parts_of t) (a_cons (dv 1) a_nil)) (a_cons (d_callX0' (K' := K) (ks := ["matrix"]) (π := [0]) (ok_parts_of t) (hr.mono (by decide)) rfl t.g_parts_of t.F_parts_of.kp (kb_parts_of_0_matrix t) (k_cons (dv 1) k_nil)) a_nil))) a_nil)) (d_repr' (K' := K) hr rfl t.free_repr (a_cons (d_lst (a_cons (dv 4) (a_cons (dv 4) a_nil))) a_nil))) (ss_one (s_ret d_bl)) ss_nil) (ss_cons (s_set (i := 5) sc__law_right.nd (d_call' (K' := K) (ok__law_vector t) (hr.mono (by decide)) rfl t.g__law_vector t.F__law_vector.kp (b__law_vector t) (a_cons (dv 0) (a_cons (d_len' (K' := K) rfl t.free_len (a_cons (dv 1) a_nil)) (a_cons d_int a_nil))))) (ss_cons (s_set (i := 6) sc__law_right.nd (d_tupC' (K' := K) rfl t.free_tuple (a_cons (d_new (n_lc (own := [("_law_row", 7)]) rfl sc__law_right.nd (i_tup' (K' := K) (dv 1)) (blkOk_by (N := N__law_right) (sc := defScope s__law_right) (by decide +kernel)) (fun _ _ _ _ _ => (g_name sc__law_right.nd)) (fun _ _ _ _ _ => ts_nil) (fun _ _ _ _ _ => (d_sumA' (K' := K) rfl rfl t.free_sum (a_cons (d_new (n_lc (own := [("_law_x", 8), ("_law_y", 9)]) rfl sc__law_right.nd (i_zipM' (K' := K) rfl t.free_zip (a_cons (dv 7) (a_cons (dv 5) a_nil))) (blkOk_by (by rfl)) (fun _ _ _ _ _ => (g_tup' (K' := K) rfl (gs_cons (g_name sc__law_right.nd) (gs_cons (g_name sc__law_right.nd) gs_nil)) (len_cons (len_cons len_nil)))) (fun _ _ _ _ _ => ts_nil) (fun _ _ _ _ _ => (d_mul' (K' := K) (dv 8) (dv 9))))) a_nil))))) a_nil))) (ss_one (s_ret (d_eq' (K' := K) hr (d_repr' (K' := K) hr rfl t.free_repr (a_cons (d_lst (a_cons (d_call' (K' := K) (ok_times_vector t) (hr.mono (by decide)) rfl t.g_times_vector t.F_times_vector.kp (b_times_vector t) (a_cons (dv 1) (a_cons (dv 5) a_nil))) (a_cons (d_callX0' (K' := K) (ks := ["vector", "matrix"]) (π := [1, 0]) (ok_times_vector t) (hr.mono (by decide)) rfl t.g_times_vector t.F_times_vector.kp (kb_times_vector_0_vector_matrix t) (k_cons (dv 5) (k_cons (dv 1) k_nil))) a_nil))) a_nil)) (d_repr' (K' := K) hr rfl t.free_repr (a_cons (d_lst (a_cons (dv 6) (a_cons (dv 6) a_nil))) a_nil))))))))))))))))⟩
def N_law : List Str := ["_law_script", "_law_turn"]
theorem sc_law : FnScope N_law ["_law_script"] (defScope s_law) := ⟨rfl, rfl, rfl, by decide +kernel, rfl, by decide +kernel, by decide +kernel⟩
theorem ok_law (t : T D w K mg) (hR : ∀ xs Q, Rright xs Q → R__law_right xs Q) : FnG P w K mg base CX0 7 (He.ga K "law") D.fd_law ["_law_script"] (spLaw K) := by
  refine g_def (N := N_law) (toFun t.F_law) sc_law (fun vs H Q E h => ?_) (fun cdv A outer s H vs Q E hr hgd h => ⟨t_law K 2 8, PSs.nox ?_, pure_law 2 8 (by decide) (by decide) vs H Q E h⟩)
  · obtain ⟨_, _, rfl, _⟩ := h
    rfl
  · exact pss_one (ps_ret (pe_callB (cr_all rfl) rfl t.free_all (by decide +kernel) (pa_cons (pe_lc (own := [("_law_turn", 1)]) rfl sc_law.nd
      (pi_range1 rfl t.free_range (pa_cons (pe_callB (call_max2 rfl) rfl t.free_max (by decide +kernel) (pa_cons pe_int (pa_cons (pe_callB (call_min2 rfl) rfl t.free_min (by decide +kernel) (pa_cons (pe_callB call_len rfl t.free_len (by decide +kernel) (pa_cons (pe_var rfl (Or.inr (Or.inl rfl))) pa_nil)) (pa_cons pe_int pa_nil))) pa_nil))) pa_nil))
      (blkOk_by (N := N_law) (sc := defScope s_law) (by decide +kernel)) (fun _ _ _ _ _ => pg_name sc_law.nd rfl (Or.inl rfl)) (fun _ _ _ _ _ => pts_nil)
      (fun _ _ _ _ _ => g_call ((ok__law_right t).dimp hR) (hr.mono (by decide)) hgd rfl t.g__law_right t.F__law_right.kp (b__law_right t) .nil pass0
        (pa_cons (g_call (ok__law_pot t) (hr.mono (by decide)) hgd rfl t.g__law_pot t.F__law_pot.kp (b__law_pot t) .nil pass0 (pa_cons (pe_var rfl (Or.inr (Or.inl rfl))) (pa_cons (pe_var rfl (Or.inl rfl)) pa_nil))) pa_nil))) pa_nil)))

end
end LW

/-! ==== PL0 ==== -/
set_option Elab.async false
set_option linter.all false
set_option maxRecDepth 100000
set_option maxHeartbeats 4000000
/-! ## plain tools for any law -/
namespace LQ
open PySem PySem.Spec PyProof.Rows L2 DL
/-! ### loops that compute -/
theorem cLoop_inv {g : CG} {b : CS} (J : Nat → DEnv → Prop) : ∀ (xs : List PyData) (k : Nat) (ρ : DEnv), J k ρ →
    (∀ j x ρ, xs[j]? = some x → J (k + j) ρ → ∃ ρ' ρ2, g x ρ = some ρ' ∧ b ρ' = some (.nx ρ2) ∧ J (k + j + 1) ρ2) → ∃ ρ', cLoop g b xs ρ = some (.nx ρ') ∧ J (k + xs.length) ρ'
  | [], k, ρ, h, _ => ⟨ρ, rfl, h⟩
  | x :: xs, k, ρ, h, st => by
    obtain ⟨ρ', ρ2, e1, e2, h2⟩ := st 0 x ρ rfl h
    obtain ⟨ρ3, e3, h3⟩ := cLoop_inv J xs (k + 1) ρ2 h2 fun j y ρ' hy hj => by
      have := st (j + 1) y ρ' hy (by rw [← Nat.add_assoc, Nat.add_right_comm]; exact hj)
      rw [← Nat.add_assoc, Nat.add_right_comm k j 1] at this
      exact this
    refine ⟨ρ3, ?_, by rw [List.length_cons, ← Nat.add_assoc, Nat.add_right_comm]; exact h3⟩
    show (g x ρ).bind _ = _
    rw [e1, Option.bind_some, e2, Option.bind_some]
    exact e3
/-- a loop that goes on where P holds, and returns r where it does not -/
theorem cLoop_ret {g : CG} {b : CS} {r : PyData} (J : DEnv → Prop) (P : PyData → Bool) : ∀ (xs : List PyData) (ρ : DEnv), J ρ →
    (∀ x ∈ xs, ∀ ρ, J ρ → ∃ ρ', g x ρ = some ρ' ∧ (if P x = true then ∃ ρ2, b ρ' = some (.nx ρ2) ∧ J ρ2 else b ρ' = some (.rt r))) →
    (if xs.all P = true then ∃ ρ', cLoop g b xs ρ = some (.nx ρ') ∧ J ρ' else cLoop g b xs ρ = some (.rt r))
  | [], ρ, h, _ => by
    rw [if_pos (show ([] : List PyData).all P = true from rfl)]
    exact ⟨ρ, rfl, h⟩
  | x :: xs, ρ, h, st => by
    obtain ⟨ρ', e1, e2⟩ := st x List.mem_cons_self ρ h
    rw [List.all_cons]
    cases hp : P x with
    | false =>
      rw [if_neg (by rw [hp]; exact Bool.false_ne_true)] at e2
      rw [Bool.false_and, if_neg Bool.false_ne_true]
      show (g x ρ).bind _ = _
      rw [e1, Option.bind_some, e2, Option.bind_some]
    | true =>
      rw [if_pos hp] at e2
      obtain ⟨ρ2, e2, h2⟩ := e2
      have ih := cLoop_ret J P xs ρ2 h2 fun y hy => st y (List.mem_cons_of_mem _ hy)
      have eq : cLoop g b (x :: xs) ρ = cLoop g b xs ρ2 := by
        show (g x ρ).bind _ = _
        rw [e1, Option.bind_some, e2, Option.bind_some]
      rw [Bool.true_and, eq]
      exact ih
/-- the same, by the place -/
theorem cLoop_retI {g : CG} {b : CS} {r : PyData} (J : DEnv → Prop) (P : Nat → Bool) : ∀ (xs : List PyData) (k : Nat) (ρ : DEnv), J ρ →
    (∀ j x ρ, xs[j]? = some x → J ρ → ∃ ρ', g x ρ = some ρ' ∧ (if P (k + j) = true then ∃ ρ2, b ρ' = some (.nx ρ2) ∧ J ρ2 else b ρ' = some (.rt r))) →
    (if ((List.range xs.length).all fun j => P (k + j)) = true then ∃ ρ', cLoop g b xs ρ = some (.nx ρ') ∧ J ρ' else cLoop g b xs ρ = some (.rt r))
  | [], k, ρ, h, _ => by
    rw [if_pos (by rfl)]
    exact ⟨ρ, rfl, h⟩
  | x :: xs, k, ρ, h, st => by
    obtain ⟨ρ', e1, e2⟩ := st 0 x ρ rfl h
    have er : ((List.range (x :: xs).length).all fun j => P (k + j)) = (P (k + 0) && (List.range xs.length).all fun j => P (k + 1 + j)) := by
      rw [List.length_cons, List.range_succ_eq_map, List.all_cons, List.all_map]
      congr 1
      congr 1
      funext j
      show P (k + (j + 1)) = P (k + 1 + j)
      congr 1
      omega
    rw [er]
    cases hp : P (k + 0) with
    | false =>
      rw [if_neg (by rw [hp]; exact Bool.false_ne_true)] at e2
      rw [Bool.false_and, if_neg Bool.false_ne_true]
      show (g x ρ).bind _ = _
      rw [e1, Option.bind_some, e2, Option.bind_some]
    | true =>
      rw [if_pos hp] at e2
      obtain ⟨ρ2, e2, h2⟩ := e2
      have ih := cLoop_retI J P xs (k + 1) ρ2 h2 fun j y ρ hy hj => by
        have := st (j + 1) y ρ hy hj
        rw [show k + (j + 1) = k + 1 + j by omega] at this
        exact this
      have eq : cLoop g b (x :: xs) ρ = cLoop g b xs ρ2 := by
        show (g x ρ).bind _ = _
        rw [e1, Option.bind_some, e2, Option.bind_some]
      rw [Bool.true_and, eq]
      exact ih
/-! ### comprehensions -/
theorem lcl_gen {α : Type} {g : CG} {ca : CE} {ρ0 : DEnv} (u : α → PyData) (f : α → PyData) : ∀ (xs : List α) (acc : List PyData), (∀ x ∈ xs, ∃ ρ', g (u x) ρ0 = some ρ' ∧ ca ρ' = some (.d (f x))) → acc.length + xs.length ≤ sizeLine →
    cLcL g cYes ca ρ0 (xs.map u) acc = some (acc ++ xs.map f)
  | [], acc, _, _ => by simp [cLcL]
  | x :: xs, acc, h, hl => by
    obtain ⟨ρ', e1, e2⟩ := h x List.mem_cons_self
    have hl' : acc.length < sizeLine := by simp only [List.length_cons] at hl; omega
    show (g (u x) ρ0).bind _ = _
    rw [e1, Option.bind_some]
    show (some true).bind _ = _
    rw [Option.bind_some, if_pos rfl, e2, Option.bind_some]
    show (if acc.length < sizeLine then _ else none) = _
    rw [if_pos hl', lcl_gen u f xs (acc ++ [f x]) (fun y hy => h y (List.mem_cons_of_mem _ hy)) (by simp only [List.length_append, List.length_cons, List.length_nil] at hl ⊢; omega)]
    simp
/-- [e for x in xs], settled -/
theorem lc_gen {α : Type} {g : CG} {ci : CI} {ca : CE} {ρ : DEnv} {vs : List Nat} (u : α → PyData) (f : α → PyData) (xs : List α) (hi : ci ρ = some (xs.map u)) (h : ∀ x ∈ xs, ∃ ρ', g (u x) (wipeD ρ vs) = some ρ' ∧ ca ρ' = some (.d (f x))) (hl : xs.length ≤ sizeLine) :
    cNE (cLc ci g cYes ca vs) ρ = some (.d (.list (xs.map f))) := by
  unfold cNE cLc
  rw [hi]
  simp only [Option.bind_some]
  rw [lcl_gen u f xs [] h (by simpa using hl)]
  simp only [Option.map_some, Option.bind_some, List.nil_append, okvs_d, if_true, vws_d]
/-- with a test -/
theorem lcl_if {α : Type} {g : CG} {ct : CT} {ca : CE} {ρ0 : DEnv} (u : α → PyData) (p : α → Bool) (f : α → PyData) : ∀ (xs : List α) (acc : List PyData), (∀ x ∈ xs, ∃ ρ', g (u x) ρ0 = some ρ' ∧ ct ρ' = some (p x) ∧ (p x = true → ca ρ' = some (.d (f x)))) → acc.length + xs.length ≤ sizeLine →
    cLcL g ct ca ρ0 (xs.map u) acc = some (acc ++ (xs.filter p).map f)
  | [], acc, _, _ => by simp [cLcL]
  | x :: xs, acc, h, hl => by
    obtain ⟨ρ', e1, e2, e3⟩ := h x List.mem_cons_self
    have hl' : acc.length < sizeLine := by simp only [List.length_cons] at hl; omega
    show (g (u x) ρ0).bind _ = _
    rw [e1, Option.bind_some, e2, Option.bind_some]
    cases hp : p x with
    | true =>
      rw [if_pos rfl, e3 hp, Option.bind_some]
      show (if acc.length < sizeLine then _ else none) = _
      rw [if_pos hl', lcl_if u p f xs (acc ++ [f x]) (fun y hy => h y (List.mem_cons_of_mem _ hy)) (by simp only [List.length_append, List.length_cons, List.length_nil] at hl ⊢; omega)]
      simp [List.filter_cons, hp]
    | false =>
      rw [if_neg Bool.false_ne_true, lcl_if u p f xs acc (fun y hy => h y (List.mem_cons_of_mem _ hy)) (by simp only [List.length_cons] at hl; omega)]
      simp [List.filter_cons, hp]
theorem lc_if {α : Type} {g : CG} {ci : CI} {ct : CT} {ca : CE} {ρ : DEnv} {vs : List Nat} (u : α → PyData) (p : α → Bool) (f : α → PyData) (xs : List α) (hi : ci ρ = some (xs.map u)) (h : ∀ x ∈ xs, ∃ ρ', g (u x) (wipeD ρ vs) = some ρ' ∧ ct ρ' = some (p x) ∧ (p x = true → ca ρ' = some (.d (f x)))) (hl : xs.length ≤ sizeLine) :
    cNE (cLc ci g ct ca vs) ρ = some (.d (.list ((xs.filter p).map f))) := by
  unfold cNE cLc
  rw [hi]
  simp only [Option.bind_some]
  rw [lcl_if u p f xs [] h (by simpa using hl)]
  simp only [Option.map_some, Option.bind_some, List.nil_append, okvs_d, if_true, vws_d]
/-! ### small steps -/
theorem seq_ok {a b : CS} {ρ ρ' : DEnv} (h : a ρ = some (.nx ρ')) : cSeq a b ρ = b ρ' := by
  unfold cSeq
  rw [h]
  rfl
theorem seq_rt {a b : CS} {ρ : DEnv} {v : PyData} (h : a ρ = some (.rt v)) : cSeq a b ρ = some (.rt v) := by
  unfold cSeq
  rw [h]
  rfl
theorem atI_nat {α : Type} (xs : List α) (i : Nat) : atI xs (i : Int) = xs[i]? := by
  unfold atI ixN
  rw [if_pos (Int.natCast_nonneg i)]
  by_cases h : (i : Int) < xs.length
  · rw [if_pos h]
    simp
  · rw [if_neg h]
    simp at h
    simp [h]
theorem rng1_j {a : CE} {ρ : DEnv} {j : Int} (ha : a ρ = some (.d (.int j))) (g : -(2 ^ 62) ≤ j ∧ j < 2 ^ 62) : ciRng1 (cCons a cNil) ρ = some (rngD 0 j.toNat) := by
  unfold ciRng1 cCons cNil
  rw [ha]
  show (if -(2 ^ 62) ≤ j ∧ j < 2 ^ 62 then some (rngD 0 j.toNat) else none) = _
  rw [if_pos g]
theorem rngD_eq (n : Nat) : rngD 0 n = (List.range n).map fun i => PyData.int (i : Nat) := by
  unfold rngD
  refine List.map_congr_left fun i _ => ?_
  rw [Int.zero_add]
theorem rng1_ok {a : CE} {ρ : DEnv} {n : Nat} (ha : a ρ = some (.d (.int n))) (h2 : n ≤ 1000000) : ciRng1 (cCons a cNil) ρ = some ((List.range n).map fun i => PyData.int (i : Nat)) := by
  have g : ∀ j : Int, 0 ≤ j → j ≤ 1000000 → -(2 ^ 62) ≤ j ∧ j < 2 ^ 62 := fun j h1 h2 => ⟨by omega, by omega⟩
  rw [rng1_j ha (g n (Int.natCast_nonneg n) (by omega)), rngD_eq]
  simp
theorem cb_ok {c : CF} {a : CE} {ρ : DEnv} {x : OV} {r : PyData} (ha : a ρ = some x) (hc : c [x] = some r) : cCB c (cCons a cNil) ρ = some (.d r) := by
  unfold cCB cCons cNil
  rw [ha]
  show (c [x]).map _ = _
  rw [hc]
  rfl
theorem ret_ok {a : CE} {ρ : DEnv} {x : OV} (ha : a ρ = some x) (ok : okv x = true) : cRet a ρ = some (.rt (vw x)) := by
  unfold cRet
  rw [ha]
  show (if okv x = true then _ else none) = _
  rw [if_pos ok]
theorem bools_map {α : Type} (f : α → Bool) : ∀ l : List α, bools? (l.map fun a => PyData.bool (f a)) = some (l.map f)
  | [] => rfl
  | a :: l => by
    show (bools? (l.map fun a => PyData.bool (f a))).map (f a :: ·) = _
    rw [bools_map f l]
    rfl
theorem ints_map {α : Type} (f : α → Int) : ∀ l : List α, ints? (l.map fun a => PyData.int (f a)) = some (l.map f)
  | [] => rfl
  | a :: l => by
    show (ints? (l.map fun a => PyData.int (f a))).map (f a :: ·) = _
    rw [ints_map f l]
    rfl
/-- all([..]) of settled truths -/
theorem all_ok {α : Type} {a : CE} {ρ : DEnv} (f : α → Bool) (xs : List α) (h : a ρ = some (.d (.list (xs.map fun x => .bool (f x))))) : cCB cAll (cCons a cNil) ρ = some (.d (.bool (xs.all f))) := by
  refine cb_ok h ?_
  show (bools? _).map _ = _
  rw [bools_map f xs, Option.map_some]
  show some (PyData.bool ((xs.map f).all id)) = _
  rw [List.all_map]
  rfl
/-! ### what is drawn, by readings -/
theorem call_draw {ρ : DEnv} {Q : OV → Prop} {e : DE} {n : Int} (h0 : ρ[0]? = some (some .pot)) (he : ∀ Q' : OV → Prop, Q' (.d (.int n)) → e ρ Q') (h1 : 1 ≤ n) (h2 : n < 1073741824) (h : ∀ r : Int, 0 ≤ r → r < n → Q (.d (.int r))) : dCall Rdraw (dCons (dVar 0) (dCons e dNil)) ρ Q := by
  unfold dCall dCons dVar
  rw [h0]
  refine he _ ⟨rfl, fun z => ∃ r : Int, z = .int r ∧ 0 ≤ r ∧ r < n, ⟨n, rfl, h1, h2, fun r a b => ⟨r, rfl, a, b⟩⟩, ?_⟩
  rintro z ⟨r, rfl, a, b⟩
  exact h r a b
/-- a loop by an invariant -/
theorem dLoop_inv {g : DG} {b : DS} {D : DEnds} (J : Nat → DEnv → Prop) : ∀ (xs : List PyData) (k : Nat) (ρ : DEnv), J k ρ →
    (∀ j x ρ (D' : DEnds), xs[j]? = some x → J (k + j) ρ → (∀ ρ2, J (k + j + 1) ρ2 → D'.nx ρ2) → (∀ ρ2, J (k + j + 1) ρ2 → D'.ct ρ2) → D'.bk = D.nx → D'.rt = D.rt → g x ρ (b D')) → (∀ ρ, J (k + xs.length) ρ → D.nx ρ) → dLoop g b xs D ρ
  | [], k, ρ, h, _, e => e ρ h
  | x :: xs, k, ρ, h, st, e => by
    have ih : ∀ ρ2, J (k + 1) ρ2 → dLoop g b xs D ρ2 := fun ρ2 h2 => dLoop_inv J xs (k + 1) ρ2 h2 (fun j y ρ' D' hy hj => by
      have := st (j + 1) y ρ' D' hy (by rw [← Nat.add_assoc, Nat.add_right_comm]; exact hj)
      rw [← Nat.add_assoc, Nat.add_right_comm k j 1] at this
      exact this) fun ρ' h' => e ρ' (by rw [List.length_cons, ← Nat.add_assoc, Nat.add_right_comm]; exact h')
    exact st 0 x ρ { nx := fun ρ2 => dLoop g b xs D ρ2, ct := fun ρ2 => dLoop g b xs D ρ2, bk := D.nx, rt := D.rt } rfl h ih ih rfl rfl
end LQ

/-! ==== PA02 ==== -/
set_option Elab.async false
set_option linter.all false
set_option maxRecDepth 100000
set_option maxHeartbeats 4000000
/-! ## what a Cartan matrix is: the program's look and the law's are one -/
namespace LQ
open PySem PySem.Spec PyProof.Rows L2 DL LW
/-! ### settled steps -/
theorem op_ok {c : C2} {a b : CE} {ρ : DEnv} {x y : OV} {z : Option OV} (ha : a ρ = some x) (hb : b ρ = some y) (h : c x y = z) : cOp c a b ρ = z := by
  unfold cOp
  rw [ha, Option.bind_some, hb, Option.bind_some, h]
theorem ix_ok {a b : CE} {ρ : DEnv} {xs : List PyData} {i : Nat} {x : PyData} (ha : a ρ = some (.d (.tuple xs))) (hb : b ρ = some (.d (.int (i : Nat)))) (h : xs[i]? = some x) : cOp cIx a b ρ = some (.d x) := by
  refine op_ok ha hb ?_
  show (atI xs (i : Nat)).map OV.d = _
  rw [atI_nat, h]
  rfl
theorem test_ok {a : CE} {ρ : DEnv} {b : Bool} (h : a ρ = some (.d (.bool b))) : cTest a ρ = some b := by
  unfold cTest
  rw [h]
  rfl
theorem or_ok {a b : CT} {ρ : DEnv} {x y : Bool} (h1 : a ρ = some x) (h2 : b ρ = some y) : cOrT a b ρ = some (x || y) := by
  unfold cOrT
  rw [h1, Option.bind_some, h2]
  cases x <;> rfl
theorem and_ok {a b : CT} {ρ : DEnv} {x y : Bool} (h1 : a ρ = some x) (h2 : b ρ = some y) : cAndT a b ρ = some (x && y) := by
  unfold cAndT
  rw [h1, Option.bind_some, h2]
  cases x <;> rfl
theorem not_ok {a : CT} {ρ : DEnv} {x : Bool} (h1 : a ρ = some x) : cNotT a ρ = some (!x) := by
  unfold cNotT
  rw [h1]
  rfl
theorem andE_ok {a b : CE} {ρ : DEnv} {c d : Bool} (h1 : a ρ = some (.d (.bool c))) (h2 : c = true → b ρ = some (.d (.bool d))) : cAnd a b ρ = some (.d (.bool (c && d))) := by
  unfold cAnd
  rw [h1, Option.bind_some]
  cases c with
  | true => exact h2 rfl
  | false => rfl
theorem if_t {t : CT} {a b : CS} {ρ : DEnv} (h : t ρ = some true) : cIfS t a b ρ = a ρ := by
  unfold cIfS
  rw [h]
  rfl
theorem if_f {t : CT} {a b : CS} {ρ : DEnv} (h : t ρ = some false) : cIfS t a b ρ = b ρ := by
  unfold cIfS
  rw [h]
  rfl
theorem call_ok {c : CF} {a : CN} {ρ : DEnv} {xs : List OV} {r : PyData} (h1 : a ρ = some xs) (ok : xs.all argOk = true) (h2 : c xs = some r) : cCall c a ρ = some (.d r) := by
  unfold cCall
  rw [h1, Option.bind_some, if_pos ok, h2]
  rfl
theorem sl_big {n : Nat} (h : n ≤ 1000000) : n ≤ sizeLine := by
  unfold sizeLine
  omega
/-! ### what the look is -/
def isW : PyData → Bool
  | .int _ => true
  | _ => false
def isRow (n : Int) : PyData → Bool
  | .tuple xs => decide ((xs.length : Int) = n) && xs.all isW
  | _ => false
def rowD (r : List Int) : PyData := .tuple (r.map .int)
def matD (M : List (List Int)) : PyData := .tuple (M.map rowD)
def ent (M : List (List Int)) (i j : Nat) : Int := (M.getD i []).getD j 0
def gd (i j : Nat) (a b : Int) : Bool := !((decide (i = j) && !decide (a = 2)) || (!decide (i = j) && (decide (0 < a) || !decide (decide (a = 0) = decide (b = 0)))))
def goodM (n : Nat) (M : List (List Int)) : Bool := (List.range n).all fun i => (List.range n).all fun j => gd i j (ent M i j) (ent M j i)
def rowI : PyData → List Int
  | .tuple xs => xs.filterMap fun x => match x with
    | .int i => some i
    | _ => none
  | _ => []
def cart : PyData → Bool
  | .tuple rs => decide (1 ≤ rs.length) && decide (rs.length ≤ 8) && rs.all (isRow rs.length) && goodM rs.length (rs.map rowI)
  | _ => false
theorem whole_ok (x : PyData) : c_is_whole [.d x] = some (.bool (isW x)) := by cases x <;> rfl
theorem lwhole_ok (x : PyData) : c__law_is_whole [.d x] = some (.bool (isW x)) := by cases x <;> rfl
theorem isW_int : ∀ {xs : List PyData}, xs.all isW = true → ∃ r : List Int, xs = r.map .int
  | [], _ => ⟨[], rfl⟩
  | x :: xs, h => by
    rw [List.all_cons, Bool.and_eq_true] at h
    obtain ⟨r, e⟩ := isW_int h.2
    cases x with
    | int i => exact ⟨i :: r, by rw [e]; rfl⟩
    | _ => exact nomatch h.1
theorem rowI_row (r : List Int) : rowI (rowD r) = r := by
  show (r.map PyData.int).filterMap _ = r
  rw [List.filterMap_map]
  induction r with
  | nil => rfl
  | cons a r ih => simpa using ih
theorem isRow_row {n : Int} {x : PyData} (h : isRow n x = true) : ∃ r : List Int, x = rowD r ∧ (r.length : Int) = n := by
  cases x with
  | tuple xs =>
    have h : (decide ((xs.length : Int) = n) && xs.all isW) = true := h
    rw [Bool.and_eq_true] at h
    obtain ⟨r, e⟩ := isW_int h.2
    refine ⟨r, by rw [e]; rfl, ?_⟩
    have := of_decide_eq_true h.1
    rw [e, List.length_map] at this
    exact this
  | _ => exact nomatch h
theorem isRows_mat {n : Int} : ∀ {rs : List PyData}, rs.all (isRow n) = true → ∃ M : List (List Int), rs = M.map rowD ∧ ∀ r ∈ M, (r.length : Int) = n
  | [], _ => ⟨[], rfl, nofun⟩
  | x :: xs, h => by
    rw [List.all_cons, Bool.and_eq_true] at h
    obtain ⟨M, e, hM⟩ := isRows_mat h.2
    obtain ⟨r, er, hr⟩ := isRow_row h.1
    refine ⟨r :: M, by rw [e, er]; rfl, fun z hz => ?_⟩
    rcases List.mem_cons.mp hz with rfl | hz
    · exact hr
    · exact hM z hz
theorem row_ok (x : PyData) (n : Int) (hn : n ≤ 1000) : c_is_row_of [.d x, .d (.int n)] = some (.bool (isRow n x)) := by
  cases x with
  | tuple xs =>
    show (cs_is_row_of [some (.d (.tuple xs)), some (.d (.int n)), none]).bind Out.val = _
    refine congrArg (Option.bind · Out.val) (ret_ok (x := .d (.bool (isRow n (.tuple xs)))) ?_ rfl) |>.trans rfl
    refine (andE_ok (c := true) (d := isRow n (.tuple xs)) rfl fun _ => ?_)
    refine andE_ok (c := decide ((xs.length : Int) = n)) (d := xs.all isW) rfl fun h => ?_
    have hl : (xs.length : Int) = n := of_decide_eq_true h
    refine all_ok isW xs ?_
    have e := lc_gen (ci := ciTup (cVar 0)) (g := cgName 2) (ca := cCall c_is_whole (cCons (cVar 2) cNil)) (ρ := [some (.d (.tuple xs)), some (.d (.int n)), none]) (vs := [2]) id (fun x => .bool (isW x)) xs (by rw [List.map_id]; rfl)
      (fun x hx => ⟨_, rfl, call_ok (xs := [.d x]) rfl rfl (whole_ok x)⟩) (sl_big (by omega))
    exact e
  | _ => rfl
theorem lrow_ok (x : PyData) (n : Int) (hn : n ≤ 1000) : c__law_is_row [.d x, .d (.int n)] = some (.bool (isRow n x)) := by
  cases x with
  | tuple xs =>
    show (cs__law_is_row [some (.d (.tuple xs)), some (.d (.int n)), none]).bind Out.val = _
    refine congrArg (Option.bind · Out.val) (ret_ok (x := .d (.bool (isRow n (.tuple xs)))) ?_ rfl) |>.trans rfl
    refine (andE_ok (c := true) (d := isRow n (.tuple xs)) rfl fun _ => ?_)
    refine andE_ok (c := decide ((xs.length : Int) = n)) (d := xs.all isW) rfl fun h => ?_
    have hl : (xs.length : Int) = n := of_decide_eq_true h
    refine all_ok isW xs ?_
    have e := lc_gen (ci := ciTup (cVar 0)) (g := cgName 2) (ca := cCall c__law_is_whole (cCons (cVar 2) cNil)) (ρ := [some (.d (.tuple xs)), some (.d (.int n)), none]) (vs := [2]) id (fun x => .bool (isW x)) xs (by rw [List.map_id]; rfl)
      (fun x hx => ⟨_, rfl, call_ok (xs := [.d x]) rfl rfl (lwhole_ok x)⟩) (sl_big (by omega))
    exact e
  | _ => rfl
/-! ### the program's look -/
def pT : CT := cOrT (cAndT (cTest (cOp cEq (cVar 1) (cVar 3))) (cTest (cOp cNe (cVar 4) (cC (.int 2))))) (cAndT (cTest (cOp cNe (cVar 1) (cVar 3))) (cOrT (cTest (cOp cGt (cVar 4) (cC (.int 0)))) (cTest (cOp cNe (cOp cEq (cVar 4) (cC (.int 0))) (cOp cEq (cOp cIx (cOp cIx (cVar 0) (cVar 3)) (cVar 1)) (cC (.int 0)))))))
def pB : CS := cFor (ciEnum (cCons (cVar 2) cNil)) (cgTup (cgCons (cgName 3) (cgCons (cgName 4) cgNil))) (cIfS pT (cRet (cC (.bool false))) cNext)
def pF : CS := cFor (ciEnum (cCons (cVar 0) cNil)) (cgTup (cgCons (cgName 1) (cgCons (cgName 2) cgNil))) pB
def hT1 : CT := cOrT (cNotT (cTest (cIsi "tuple" (cVar 0)))) (cNotT (cTest (cChain cLe cLe (cC (.int 1)) (cCB cLen (cCons (cVar 0) cNil)) (cC (.int 8)))))
def pT2 : CT := cNotT (cTest (cCB cAll (cCons (cNE (cLc (ciTup (cVar 0)) (cgName 2) cYes (cCall c_is_row_of (cCons (cVar 2) (cCons (cCB cLen (cCons (cVar 0) cNil)) cNil))) [2])) cNil)))
theorem p_eq : cs_is_cartan = cSeq (cIfS hT1 (cRet (cC (.bool false))) cNext) (cSeq (cIfS pT2 (cRet (cC (.bool false))) cNext) (cSeq pF (cRet (cC (.bool true))))) := rfl
def EP (rs : List PyData) (x1 x2 x3 x4 : Option OV) : DEnv := [some (.d (.tuple rs)), x1, x2, x3, x4]
theorem t1_ok (rs : List PyData) (x1 x2 x3 x4 : Option OV) : hT1 (EP rs x1 x2 x3 x4) = some (!(decide (1 ≤ rs.length) && decide (rs.length ≤ 8))) := by
  refine (or_ok (x := false) (y := !(decide (1 ≤ rs.length) && decide (rs.length ≤ 8))) rfl (not_ok (test_ok ?_))).trans rfl
  show (if decide ((1 : Int) ≤ (rs.length : Nat)) = true then some (OV.d (.bool (decide (((rs.length : Nat) : Int) ≤ 8)))) else some (.d (.bool false))) = _
  by_cases h : 1 ≤ rs.length
  · rw [if_pos (decide_eq_true (by omega)), decide_eq_true h, Bool.true_and]
    congr 3
    exact decide_eq_decide.mpr (by omega)
  · rw [if_neg (by simp; omega), decide_eq_false h]
    rfl
theorem pt2_ok (rs : List PyData) (x1 x2 x3 x4 : Option OV) (h8 : rs.length ≤ 8) : pT2 (EP rs x1 x2 x3 x4) = some (!rs.all (isRow rs.length)) := by
  refine not_ok (test_ok (all_ok (isRow rs.length) rs ?_))
  exact lc_gen (ci := ciTup (cVar 0)) (g := cgName 2) (ca := cCall c_is_row_of (cCons (cVar 2) (cCons (cCB cLen (cCons (cVar 0) cNil)) cNil))) (ρ := EP rs x1 x2 x3 x4) (vs := [2]) id (fun x => .bool (isRow rs.length x)) rs (by rw [List.map_id]; rfl)
    (fun x hx => ⟨_, rfl, call_ok (xs := [.d x, .d (.int rs.length)]) rfl rfl (row_ok x _ (by omega))⟩) (sl_big (by omega))
end LQ

/-! ==== PB02 ==== -/
set_option Elab.async false
set_option linter.all false
set_option maxRecDepth 100000
set_option maxHeartbeats 4000000
namespace LQ
open PySem PySem.Spec PyProof.Rows L2 DL LW
/-! ## the loops of the look -/
theorem enumD_map {α : Type} (f : α → PyData) : ∀ (k : Nat) (M : List α) (j : Nat) (x : PyData), (enumD k (M.map f))[j]? = some x → ∃ r, M[j]? = some r ∧ x = .tuple [.int ((k + j : Nat) : Int), f r]
  | k, M, j, x, h => by
    obtain ⟨y, h1, h2⟩ := enumD_get h
    rw [List.getElem?_map] at h1
    obtain ⟨r, h3, h4⟩ := om h1
    exact ⟨r, h3, by rw [h2, h4]⟩
theorem ent_of {M : List (List Int)} {i j : Nat} {r : List Int} {a : Int} (h1 : M[i]? = some r) (h2 : r[j]? = some a) : ent M i j = a := by
  unfold ent
  have e : M.getD i [] = r := by
    rw [List.getD_eq_getElem?_getD, h1]
    rfl
  rw [e, List.getD_eq_getElem?_getD, h2]
  rfl
def Sq (n : Nat) (M : List (List Int)) : Prop := M.length = n ∧ ∀ r ∈ M, r.length = n
theorem Sq.row {n : Nat} {M : List (List Int)} (h : Sq n M) {i : Nat} (hi : i < n) : ∃ r, M[i]? = some r ∧ r.length = n := by
  have hl : i < M.length := by rw [h.1]; exact hi
  exact ⟨M[i], List.getElem?_eq_getElem hl, h.2 _ (List.getElem_mem hl)⟩
theorem Sq.at {n : Nat} {M : List (List Int)} (h : Sq n M) {i j : Nat} (hi : i < n) (hj : j < n) : ∃ r, M[i]? = some r ∧ r[j]? = some (ent M i j) ∧ r.length = n := by
  obtain ⟨r, h1, h2⟩ := h.row hi
  have hl : j < r.length := by rw [h2]; exact hj
  refine ⟨r, h1, ?_, h2⟩
  rw [List.getElem?_eq_getElem hl, ent_of h1 (List.getElem?_eq_getElem hl)]
theorem row_get {r : List Int} {j : Nat} {a : Int} (h : r[j]? = some a) : (r.map PyData.int)[j]? = some (.int a) := by
  rw [List.getElem?_map, h]
  rfl
theorem mat_get {M : List (List Int)} {i : Nat} {r : List Int} (h : M[i]? = some r) : (M.map rowD)[i]? = some (rowD r) := by
  rw [List.getElem?_map, h]
  rfl
/-- v[i][j] -/
theorem ent_ok {n : Nat} {M : List (List Int)} (h : Sq n M) {i j : Nat} (hi : i < n) (hj : j < n) {a b c : CE} {ρ : DEnv} (ha : a ρ = some (.d (matD M))) (hb : b ρ = some (.d (.int (i : Nat)))) (hc : c ρ = some (.d (.int (j : Nat)))) :
    cOp cIx (cOp cIx a b) c ρ = some (.d (.int (ent M i j))) := by
  obtain ⟨r, h1, h2, _⟩ := h.at hi hj
  exact ix_ok (xs := r.map .int) (ix_ok (xs := M.map rowD) ha hb (mat_get h1)) hc (row_get h2)
theorem natD (i j : Nat) : decide ((i : Int) = (j : Int)) = decide (i = j) := decide_eq_decide.mpr Int.ofNat_inj
theorem pT_ok {n : Nat} {M : List (List Int)} (h : Sq n M) {i j : Nat} (hi : i < n) (hj : j < n) (x2 : Option OV) : pT [some (.d (matD M)), some (.d (.int (i : Nat))), x2, some (.d (.int (j : Nat))), some (.d (.int (ent M i j)))] = some (!gd i j (ent M i j) (ent M j i)) := by
  have e : cOp cIx (cOp cIx (cVar 0) (cVar 3)) (cVar 1) [some (.d (matD M)), some (.d (.int (i : Nat))), x2, some (.d (.int (j : Nat))), some (.d (.int (ent M i j)))] = some (.d (.int (ent M j i))) := ent_ok h hj hi rfl rfl rfl
  refine (or_ok (and_ok (test_ok (b := decide ((i : Int) = (j : Int))) rfl) (test_ok (b := !decide (ent M i j = 2)) rfl)) (and_ok (test_ok (b := !decide ((i : Int) = (j : Int))) rfl) (or_ok (test_ok (b := decide (0 < ent M i j)) rfl) (test_ok (b := !decide (decide (ent M i j = 0) = decide (ent M j i = 0))) ?_)))).trans ?_
  · exact op_ok (x := .d (.bool (decide (ent M i j = 0)))) (y := .d (.bool (decide (ent M j i = 0)))) rfl (op_ok e rfl rfl) rfl
  · unfold gd
    rw [natD, Bool.not_not]
theorem pB_ok {n : Nat} {M : List (List Int)} (h : Sq n M) {i : Nat} (hi : i < n) {r : List Int} (hr : M[i]? = some r) (x3 x4 : Option OV) :
    (if ((List.range n).all fun j => gd i j (ent M i j) (ent M j i)) = true then ∃ y3 y4, pB [some (.d (matD M)), some (.d (.int (i : Nat))), some (.d (rowD r)), x3, x4] = some (.nx [some (.d (matD M)), some (.d (.int (i : Nat))), some (.d (rowD r)), y3, y4])
      else pB [some (.d (matD M)), some (.d (.int (i : Nat))), some (.d (rowD r)), x3, x4] = some (.rt (.bool false))) := by
  have hl : r.length = n := h.2 r (List.mem_of_getElem? hr)
  have k := cLoop_retI (g := cgTup (cgCons (cgName 3) (cgCons (cgName 4) cgNil))) (b := cIfS pT (cRet (cC (.bool false))) cNext) (r := .bool false)
    (fun ρ => ∃ y3 y4, ρ = [some (.d (matD M)), some (.d (.int (i : Nat))), some (.d (rowD r)), y3, y4]) (fun j => gd i j (ent M i j) (ent M j i)) (enumD 0 (r.map .int)) 0
    [some (.d (matD M)), some (.d (.int (i : Nat))), some (.d (rowD r)), x3, x4] ⟨x3, x4, rfl⟩ (fun j x ρ hx hρ => by
      obtain ⟨y3, y4, rfl⟩ := hρ
      obtain ⟨a, h1, rfl⟩ := enumD_map _ _ _ _ _ hx
      have hj : j < n := by
        rw [← hl]
        exact (List.getElem?_eq_some_iff.mp h1).1
      have ea : ent M i j = a := ent_of hr h1
      rw [Nat.zero_add]
      refine ⟨[some (.d (matD M)), some (.d (.int (i : Nat))), some (.d (rowD r)), some (.d (.int (j : Nat))), some (.d (.int a))], rfl, ?_⟩
      have e := pT_ok h hi hj (some (.d (rowD r)))
      rw [← ea]
      cases hg : gd i j (ent M i j) (ent M j i) with
      | true =>
        rw [if_pos rfl]
        rw [hg] at e
        exact ⟨_, if_f e, _, _, rfl⟩
      | false =>
        rw [if_neg Bool.false_ne_true]
        rw [hg] at e
        exact if_t e)
  rw [enumD_len, List.length_map, hl] at k
  have e0 : ∀ x3 x4, pB [some (.d (matD M)), some (.d (.int (i : Nat))), some (.d (rowD r)), x3, x4] = cLoop (cgTup (cgCons (cgName 3) (cgCons (cgName 4) cgNil))) (cIfS pT (cRet (cC (.bool false))) cNext) (enumD 0 (r.map .int)) [some (.d (matD M)), some (.d (.int (i : Nat))), some (.d (rowD r)), x3, x4] := fun _ _ => rfl
  rw [e0]
  simp only [Nat.zero_add] at k
  split
  · rename_i hg
    rw [if_pos hg] at k
    obtain ⟨ρ', k1, y3, y4, rfl⟩ := k
    exact ⟨y3, y4, k1⟩
  · rename_i hg
    rw [if_neg hg] at k
    exact k
theorem pF_ok {n : Nat} {M : List (List Int)} (h : Sq n M) (x1 x2 x3 x4 : Option OV) :
    (if goodM n M = true then ∃ y1 y2 y3 y4, pF [some (.d (matD M)), x1, x2, x3, x4] = some (.nx [some (.d (matD M)), y1, y2, y3, y4]) else pF [some (.d (matD M)), x1, x2, x3, x4] = some (.rt (.bool false))) := by
  have k := cLoop_retI (g := cgTup (cgCons (cgName 1) (cgCons (cgName 2) cgNil))) (b := pB) (r := .bool false)
    (fun ρ => ∃ y1 y2 y3 y4, ρ = [some (.d (matD M)), y1, y2, y3, y4]) (fun i => (List.range n).all fun j => gd i j (ent M i j) (ent M j i)) (enumD 0 (M.map rowD)) 0
    [some (.d (matD M)), x1, x2, x3, x4] ⟨x1, x2, x3, x4, rfl⟩ (fun i x ρ hx hρ => by
      obtain ⟨y1, y2, y3, y4, rfl⟩ := hρ
      obtain ⟨r, h1, rfl⟩ := enumD_map _ _ _ _ _ hx
      have hi : i < n := by
        rw [← h.1]
        exact (List.getElem?_eq_some_iff.mp h1).1
      rw [Nat.zero_add]
      refine ⟨[some (.d (matD M)), some (.d (.int (i : Nat))), some (.d (rowD r)), y3, y4], rfl, ?_⟩
      have e := pB_ok h hi h1 y3 y4
      split
      · rename_i hg
        rw [if_pos hg] at e
        obtain ⟨z3, z4, e⟩ := e
        exact ⟨_, e, _, _, _, _, rfl⟩
      · rename_i hg
        rw [if_neg hg] at e
        exact e)
  rw [enumD_len, List.length_map, h.1] at k
  have e0 : pF [some (.d (matD M)), x1, x2, x3, x4] = cLoop (cgTup (cgCons (cgName 1) (cgCons (cgName 2) cgNil))) pB (enumD 0 (M.map rowD)) [some (.d (matD M)), x1, x2, x3, x4] := rfl
  rw [e0]
  simp only [Nat.zero_add] at k
  unfold goodM
  split
  · rename_i hg
    rw [if_pos hg] at k
    obtain ⟨ρ', k1, y1, y2, y3, y4, rfl⟩ := k
    exact ⟨y1, y2, y3, y4, k1⟩
  · rename_i hg
    rw [if_neg hg] at k
    exact k
end LQ

/-! ==== PC02 ==== -/
set_option Elab.async false
set_option linter.all false
set_option maxRecDepth 100000
set_option maxHeartbeats 4000000
namespace LQ
open PySem PySem.Spec PyProof.Rows L2 DL LW
/-! ## both looks are `cart` -/
def lT2 : CT := cNotT (cTest (cCB cAll (cCons (cNE (cLc (ciTup (cVar 0)) (cgName 4) cYes (cCall c__law_is_row (cCons (cVar 4) (cCons (cVar 1) cNil))) [4])) cNil)))
def lA : CT := cOrT (cAndT (cTest (cOp cEq (cVar 2) (cVar 3))) (cTest (cOp cNe (cOp cIx (cOp cIx (cVar 0) (cVar 2)) (cVar 3)) (cC (.int 2))))) (cAndT (cTest (cOp cNe (cVar 2) (cVar 3))) (cTest (cOp cGt (cOp cIx (cOp cIx (cVar 0) (cVar 2)) (cVar 3)) (cC (.int 0)))))
def lB : CT := cTest (cOp cNe (cOp cEq (cOp cIx (cOp cIx (cVar 0) (cVar 2)) (cVar 3)) (cC (.int 0))) (cOp cEq (cOp cIx (cOp cIx (cVar 0) (cVar 3)) (cVar 2)) (cC (.int 0))))
def lH : CS := cSeq (cIfS lA (cRet (cC (.bool false))) cNext) (cIfS lB (cRet (cC (.bool false))) cNext)
def lG : CS := cFor (ciRng1 (cCons (cVar 1) cNil)) (cgName 3) lH
def lF : CS := cFor (ciRng1 (cCons (cVar 1) cNil)) (cgName 2) lG
theorem l_eq : cs__law_is_cartan = cSeq (cIfS hT1 (cRet (cC (.bool false))) cNext) (cSeq (cSet 1 (cCB cLen (cCons (cVar 0) cNil))) (cSeq (cIfS lT2 (cRet (cC (.bool false))) cNext) (cSeq lF (cRet (cC (.bool true)))))) := rfl
theorem lt2_ok (rs : List PyData) (x2 x3 x4 : Option OV) (h8 : rs.length ≤ 8) : lT2 [some (.d (.tuple rs)), some (.d (.int rs.length)), x2, x3, x4] = some (!rs.all (isRow rs.length)) := by
  refine not_ok (test_ok (all_ok (isRow rs.length) rs ?_))
  exact lc_gen (ci := ciTup (cVar 0)) (g := cgName 4) (ca := cCall c__law_is_row (cCons (cVar 4) (cCons (cVar 1) cNil))) (ρ := [some (.d (.tuple rs)), some (.d (.int rs.length)), x2, x3, x4]) (vs := [4]) id (fun x => .bool (isRow rs.length x)) rs (by rw [List.map_id]; rfl)
    (fun x hx => ⟨_, rfl, call_ok (xs := [.d x, .d (.int rs.length)]) rfl rfl (lrow_ok x _ (by omega))⟩) (sl_big (by omega))
def EL (n : Nat) (M : List (List Int)) (x2 x3 x4 : Option OV) : DEnv := [some (.d (matD M)), some (.d (.int (n : Nat))), x2, x3, x4]
def gA (i j : Nat) (a : Int) : Bool := (decide (i = j) && !decide (a = 2)) || (!decide (i = j) && decide (0 < a))
def gB (a b : Int) : Bool := !decide (decide (a = 0) = decide (b = 0))
theorem gd_two (M : List (List Int)) (i j : Nat) : gd i j (ent M i j) (ent M j i) = (!gA i j (ent M i j) && !gB (ent M i j) (ent M j i)) := by
  unfold gd gA gB
  by_cases h : i = j
  · subst h
    simp
  · simp only [decide_eq_false h]
    cases decide (0 < ent M i j) <;> cases (decide (decide (ent M i j = 0) = decide (ent M j i = 0))) <;> rfl
theorem lH_ok {n : Nat} {M : List (List Int)} (h : Sq n M) {i j : Nat} (hi : i < n) (hj : j < n) (x4 : Option OV) :
    lH (EL n M (some (.d (.int (i : Nat)))) (some (.d (.int (j : Nat)))) x4) = (if gd i j (ent M i j) (ent M j i) = true then some (.nx (EL n M (some (.d (.int (i : Nat)))) (some (.d (.int (j : Nat)))) x4)) else some (.rt (.bool false))) := by
  have e1 : cOp cIx (cOp cIx (cVar 0) (cVar 2)) (cVar 3) (EL n M (some (.d (.int (i : Nat)))) (some (.d (.int (j : Nat)))) x4) = some (.d (.int (ent M i j))) := ent_ok h hi hj rfl rfl rfl
  have e2 : cOp cIx (cOp cIx (cVar 0) (cVar 3)) (cVar 2) (EL n M (some (.d (.int (i : Nat)))) (some (.d (.int (j : Nat)))) x4) = some (.d (.int (ent M j i))) := ent_ok h hj hi rfl rfl rfl
  have a : lA (EL n M (some (.d (.int (i : Nat)))) (some (.d (.int (j : Nat)))) x4) = some (gA i j (ent M i j)) := by
    refine (or_ok (and_ok (test_ok (b := decide ((i : Int) = (j : Int))) rfl) (test_ok (b := !decide (ent M i j = 2)) (op_ok e1 rfl rfl))) (and_ok (test_ok (b := !decide ((i : Int) = (j : Int))) rfl) (test_ok (b := decide (0 < ent M i j)) (op_ok e1 rfl rfl)))).trans ?_
    unfold gA
    rw [natD]
  have b : lB (EL n M (some (.d (.int (i : Nat)))) (some (.d (.int (j : Nat)))) x4) = some (gB (ent M i j) (ent M j i)) :=
    test_ok (op_ok (x := .d (.bool (decide (ent M i j = 0)))) (y := .d (.bool (decide (ent M j i = 0)))) (op_ok e1 rfl rfl) (op_ok e2 rfl rfl) rfl)
  rw [gd_two]
  unfold lH
  cases ha : gA i j (ent M i j) with
  | true =>
    rw [ha] at a
    rw [seq_rt (v := .bool false) (by rw [if_t a]; rfl)]
    rfl
  | false =>
    rw [ha] at a
    rw [seq_ok (ρ' := EL n M (some (.d (.int (i : Nat)))) (some (.d (.int (j : Nat)))) x4) (by rw [if_f a]; rfl)]
    cases hb : gB (ent M i j) (ent M j i) with
    | true =>
      rw [hb] at b
      rw [if_t b]
      rfl
    | false =>
      rw [hb] at b
      rw [if_f b]
      rfl
theorem rng_EL {n : Nat} {M : List (List Int)} (h8 : n ≤ 1000) (x2 x3 x4 : Option OV) : ciRng1 (cCons (cVar 1) cNil) (EL n M x2 x3 x4) = some ((List.range n).map fun i => PyData.int (i : Nat)) :=
  rng1_ok (a := cVar 1) (ρ := EL n M x2 x3 x4) (n := n) rfl (Nat.le_trans h8 (by decide))
theorem for_eq {i : CI} {g : CG} {b : CS} {ρ : DEnv} {xs : List PyData} (h : i ρ = some xs) : cFor i g b ρ = cLoop g b xs ρ := by
  unfold cFor
  rw [h]
  rfl
theorem rng_get {n j : Nat} {x : PyData} (h : ((List.range n).map fun i => PyData.int (i : Nat))[j]? = some x) : j < n ∧ x = .int (j : Nat) := by
  rw [List.getElem?_map] at h
  obtain ⟨a, h1, h2⟩ := om h
  obtain ⟨h3, h4⟩ := List.getElem?_eq_some_iff.mp h1
  rw [List.length_range] at h3
  rw [List.getElem_range] at h4
  exact ⟨h3, by rw [← h2, h4]⟩
theorem lG_ok {n : Nat} {M : List (List Int)} (h : Sq n M) (h8 : n ≤ 1000) {i : Nat} (hi : i < n) (x3 x4 : Option OV) :
    (if ((List.range n).all fun j => gd i j (ent M i j) (ent M j i)) = true then ∃ y3, lG (EL n M (some (.d (.int (i : Nat)))) x3 x4) = some (.nx (EL n M (some (.d (.int (i : Nat)))) y3 x4))
      else lG (EL n M (some (.d (.int (i : Nat)))) x3 x4) = some (.rt (.bool false))) := by
  have k := cLoop_retI (g := cgName 3) (b := lH) (r := .bool false)
    (fun ρ => ∃ y3, ρ = EL n M (some (.d (.int (i : Nat)))) y3 x4) (fun j => gd i j (ent M i j) (ent M j i)) ((List.range n).map fun i => PyData.int (i : Nat)) 0
    (EL n M (some (.d (.int (i : Nat)))) x3 x4) ⟨x3, rfl⟩ (fun j x ρ hx hρ => by
      obtain ⟨y3, rfl⟩ := hρ
      obtain ⟨hj, rfl⟩ := rng_get hx
      refine ⟨EL n M (some (.d (.int (i : Nat)))) (some (.d (.int (j : Nat)))) x4, rfl, ?_⟩
      rw [Nat.zero_add, lH_ok h hi hj]
      split
      · exact ⟨_, rfl, _, rfl⟩
      · rfl)
  rw [List.length_map, List.length_range] at k
  have e0 : lG (EL n M (some (.d (.int (i : Nat)))) x3 x4) = cLoop (cgName 3) lH ((List.range n).map fun i => PyData.int (i : Nat)) (EL n M (some (.d (.int (i : Nat)))) x3 x4) := for_eq (rng_EL h8 _ _ _)
  rw [e0]
  simp only [Nat.zero_add] at k
  split
  · rename_i hg
    rw [if_pos hg] at k
    obtain ⟨ρ', k1, y3, rfl⟩ := k
    exact ⟨y3, k1⟩
  · rename_i hg
    rw [if_neg hg] at k
    exact k
theorem lF_ok {n : Nat} {M : List (List Int)} (h : Sq n M) (h8 : n ≤ 1000) (x2 x3 x4 : Option OV) :
    (if goodM n M = true then ∃ y2 y3, lF (EL n M x2 x3 x4) = some (.nx (EL n M y2 y3 x4)) else lF (EL n M x2 x3 x4) = some (.rt (.bool false))) := by
  have k := cLoop_retI (g := cgName 2) (b := lG) (r := .bool false)
    (fun ρ => ∃ y2 y3, ρ = EL n M y2 y3 x4) (fun i => (List.range n).all fun j => gd i j (ent M i j) (ent M j i)) ((List.range n).map fun i => PyData.int (i : Nat)) 0
    (EL n M x2 x3 x4) ⟨x2, x3, rfl⟩ (fun i x ρ hx hρ => by
      obtain ⟨y2, y3, rfl⟩ := hρ
      obtain ⟨hi, rfl⟩ := rng_get hx
      refine ⟨EL n M (some (.d (.int (i : Nat)))) y3 x4, rfl, ?_⟩
      rw [Nat.zero_add]
      have e := lG_ok h h8 hi y3 x4
      split
      · rename_i hg
        rw [if_pos hg] at e
        obtain ⟨z3, e⟩ := e
        exact ⟨_, e, _, _, rfl⟩
      · rename_i hg
        rw [if_neg hg] at e
        exact e)
  rw [List.length_map, List.length_range] at k
  have e0 : lF (EL n M x2 x3 x4) = cLoop (cgName 2) lG ((List.range n).map fun i => PyData.int (i : Nat)) (EL n M x2 x3 x4) := for_eq (rng_EL h8 _ _ _)
  rw [e0]
  simp only [Nat.zero_add] at k
  unfold goodM
  split
  · rename_i hg
    rw [if_pos hg] at k
    obtain ⟨ρ', k1, y2, y3, rfl⟩ := k
    exact ⟨y2, y3, k1⟩
  · rename_i hg
    rw [if_neg hg] at k
    exact k
theorem rowI_rows (M : List (List Int)) : (M.map rowD).map rowI = M := by
  rw [List.map_map]
  conv => rhs; rw [← List.map_id M]
  exact List.map_congr_left fun r _ => rowI_row r
theorem rows_sq {rs : List PyData} (h : rs.all (isRow rs.length) = true) : ∃ M, rs = M.map rowD ∧ Sq rs.length M := by
  obtain ⟨M, e, hM⟩ := isRows_mat h
  refine ⟨M, e, by rw [e, List.length_map], fun r hr => ?_⟩
  have := hM r hr
  omega
theorem cart_ok (v : PyData) : c_is_cartan [.d v] = some (.bool (cart v)) := by
  cases v with
  | tuple rs =>
    show (cs_is_cartan (EP rs none none none none)).bind Out.val = some (.bool (decide (1 ≤ rs.length) && decide (rs.length ≤ 8) && rs.all (isRow rs.length) && goodM rs.length (rs.map rowI)))
    rw [p_eq]
    have e1 := t1_ok rs none none none none
    cases h1 : (decide (1 ≤ rs.length) && decide (rs.length ≤ 8)) with
    | false =>
      rw [h1] at e1
      rw [seq_rt (v := .bool false) (by rw [if_t e1]; rfl)]
      rfl
    | true =>
      rw [h1] at e1
      rw [seq_ok (ρ' := EP rs none none none none) (by rw [if_f e1]; rfl)]
      rw [Bool.and_eq_true, decide_eq_true_iff, decide_eq_true_iff] at h1
      have e2 := pt2_ok rs none none none none h1.2
      cases h2 : rs.all (isRow rs.length) with
      | false =>
        rw [h2] at e2
        rw [seq_rt (v := .bool false) (by rw [if_t e2]; rfl)]
        rfl
      | true =>
        rw [h2] at e2
        rw [seq_ok (ρ' := EP rs none none none none) (by rw [if_f e2]; rfl)]
        obtain ⟨M, e, sq⟩ := rows_sq h2
        have k := pF_ok sq none none none none
        generalize hn : rs.length = n at *
        subst e
        rw [rowI_rows]
        show (cSeq pF (cRet (cC (.bool true))) [some (.d (matD M)), none, none, none, none]).bind Out.val = _
        cases h3 : goodM n M with
        | false =>
          rw [if_neg (by rw [h3]; exact Bool.false_ne_true)] at k
          rw [seq_rt (v := .bool false) k]
          rfl
        | true =>
          rw [if_pos h3] at k
          obtain ⟨y1, y2, y3, y4, k⟩ := k
          rw [seq_ok k]
          rfl
  | _ => rfl
theorem lcart_ok (v : PyData) : c__law_is_cartan [.d v] = some (.bool (cart v)) := by
  cases v with
  | tuple rs =>
    show (cs__law_is_cartan (EP rs none none none none)).bind Out.val = some (.bool (decide (1 ≤ rs.length) && decide (rs.length ≤ 8) && rs.all (isRow rs.length) && goodM rs.length (rs.map rowI)))
    rw [l_eq]
    have e1 := t1_ok rs none none none none
    cases h1 : (decide (1 ≤ rs.length) && decide (rs.length ≤ 8)) with
    | false =>
      rw [h1] at e1
      rw [seq_rt (v := .bool false) (by rw [if_t e1]; rfl)]
      rfl
    | true =>
      rw [h1] at e1
      rw [seq_ok (ρ' := EP rs none none none none) (by rw [if_f e1]; rfl)]
      rw [Bool.and_eq_true, decide_eq_true_iff, decide_eq_true_iff] at h1
      rw [seq_ok (ρ' := [some (.d (.tuple rs)), some (.d (.int rs.length)), none, none, none]) rfl]
      have e2 := lt2_ok rs none none none h1.2
      cases h2 : rs.all (isRow rs.length) with
      | false =>
        rw [h2] at e2
        rw [seq_rt (v := .bool false) (by rw [if_t e2]; rfl)]
        rfl
      | true =>
        rw [h2] at e2
        rw [seq_ok (ρ' := [some (.d (.tuple rs)), some (.d (.int rs.length)), none, none, none]) (by rw [if_f e2]; rfl)]
        obtain ⟨M, e, sq⟩ := rows_sq h2
        have k := lF_ok sq (by omega) none none none
        generalize hn : rs.length = n at *
        subst e
        rw [rowI_rows]
        show (cSeq lF (cRet (cC (.bool true))) (EL n M none none none)).bind Out.val = _
        cases h3 : goodM n M with
        | false =>
          rw [if_neg (by rw [h3]; exact Bool.false_ne_true)] at k
          rw [seq_rt (v := .bool false) k]
          rfl
        | true =>
          rw [if_pos h3] at k
          obtain ⟨y1, y2, k⟩ := k
          rw [seq_ok k]
          rfl
  | _ => rfl
theorem cart_mat {v : PyData} (h : cart v = true) : ∃ n M, v = matD M ∧ Sq n M ∧ 1 ≤ n ∧ n ≤ 8 ∧ goodM n M = true := by
  cases v with
  | tuple rs =>
    have h : (decide (1 ≤ rs.length) && decide (rs.length ≤ 8) && rs.all (isRow rs.length) && goodM rs.length (rs.map rowI)) = true := h
    rw [Bool.and_eq_true, Bool.and_eq_true, Bool.and_eq_true, decide_eq_true_iff, decide_eq_true_iff] at h
    obtain ⟨⟨⟨h1, h2⟩, h3⟩, h4⟩ := h
    obtain ⟨M, e, sq⟩ := rows_sq h3
    refine ⟨rs.length, M, by rw [e]; rfl, sq, h1, h2, ?_⟩
    rw [e, rowI_rows] at h4
    rw [e]
    exact h4
  | _ => exact nomatch h
end LQ

/-! ==== PT02 ==== -/
set_option Elab.async false
set_option linter.all false
set_option maxRecDepth 100000
set_option maxHeartbeats 4000000
/-! ## what is drawn: readings that hold of all draws -/
namespace LQ
open PySem PySem.Spec PyProof.Rows L2 DL LW
def HE (e : DE) (ρ : DEnv) (P : OV → Prop) : Prop := ∀ Q : OV → Prop, (∀ x, P x → Q x) → e ρ Q
def HA (a : DA) (ρ : DEnv) (P : List OV → Prop) : Prop := ∀ Q : List OV → Prop, (∀ x, P x → Q x) → a ρ Q
def HT (t : DT) (ρ : DEnv) (P : Bool → Prop) : Prop := ∀ Q : Bool → Prop, (∀ b, P b → Q b) → t ρ Q
/-- an int between -/
def TI (l h : Int) : OV → Prop := fun x => ∃ i : Int, x = .d (.int i) ∧ l ≤ i ∧ i ≤ h
theorem he_imp {e : DE} {ρ : DEnv} {P P' : OV → Prop} (h : HE e ρ P) (i : ∀ x, P x → P' x) : HE e ρ P' := fun Q q => h Q fun x p => q x (i x p)
theorem he_ev {de : DE} {ce : CE} {ρ : DEnv} {x : OV} [h : EvE de ce] (e : ce ρ = some x) : HE de ρ (· = x) := fun Q q => h.ev e (q x rfl)
theorem he_var {i : Nat} {ρ : DEnv} {x : OV} (h : ρ[i]? = some (some x)) : HE (dVar i) ρ (· = x) := fun Q q => by
  unfold dVar
  rw [h]
  exact q x rfl
theorem he_c {x : PyData} {ρ : DEnv} : HE (dC x) ρ (· = .d x) := fun Q q => q _ rfl
theorem he_vi {i : Nat} {ρ : DEnv} {z l h : Int} (e : ρ[i]? = some (some (.d (.int z)))) (h1 : l ≤ z) (h2 : z ≤ h) : HE (dVar i) ρ (TI l h) := fun Q q => by
  unfold dVar
  rw [e]
  exact q _ ⟨z, rfl, h1, h2⟩
theorem he_ci {z : Int} {ρ : DEnv} : HE (dC (.int z)) ρ (TI z z) := fun Q q => q _ ⟨z, rfl, Int.le_refl _, Int.le_refl _⟩
/-- one of 0 .. n - 1 -/
theorem he_draw {e : DE} {ρ : DEnv} {n : Int} (he : HE e ρ (· = .d (.int n))) (h1 : 1 ≤ n) (h2 : n < 1073741824) (h0 : ρ[0]? = some (some .pot) := by rfl) : HE (dCall Rdraw (dCons (dVar 0) (dCons e dNil))) ρ (TI 0 (n - 1)) := fun Q q =>
  call_draw h0 (fun Q' q' => he Q' fun x hx => by rw [hx]; exact q') h1 h2 fun r a b => q _ ⟨r, rfl, a, by omega⟩
theorem he_drawc {ρ : DEnv} {n : Int} (h1 : 1 ≤ n) (h2 : n < 1073741824) (h0 : ρ[0]? = some (some .pot) := by rfl) : HE (dCall Rdraw (dCons (dVar 0) (dCons (dC (.int n)) dNil))) ρ (TI 0 (n - 1)) := he_draw he_c h1 h2 h0
theorem he_op {d : D2} {a b : DE} {ρ : DEnv} {P1 P2 P : OV → Prop} (ha : HE a ρ P1) (hb : HE b ρ P2) (h : ∀ x y, P1 x → P2 y → ∀ Q : OV → Prop, (∀ z, P z → Q z) → d x y Q) : HE (dOp d a b) ρ P := fun Q q =>
  ha _ fun x p1 => hb _ fun y p2 => h x y p1 p2 Q q
theorem he_add {a b : DE} {ρ : DEnv} {l h l' h' : Int} (ha : HE a ρ (TI l h)) (hb : HE b ρ (TI l' h')) : HE (dOp dAdd a b) ρ (TI (l + l') (h + h')) := he_op ha hb fun x y ⟨i, e1, a1, b1⟩ ⟨j, e2, a2, b2⟩ Q q => by
  subst e1 e2
  exact q _ ⟨i + j, rfl, by omega, by omega⟩
theorem he_sub {a b : DE} {ρ : DEnv} {l h l' h' : Int} (ha : HE a ρ (TI l h)) (hb : HE b ρ (TI l' h')) : HE (dOp (dI0 fun i j => .int (i - j)) a b) ρ (TI (l - h') (h - l')) := he_op ha hb fun x y ⟨i, e1, a1, b1⟩ ⟨j, e2, a2, b2⟩ Q q => by
  subst e1 e2
  exact q _ ⟨i - j, rfl, by omega, by omega⟩
theorem he_if {t : DT} {a b : DE} {ρ : DEnv} {PB : Bool → Prop} {P : OV → Prop} (ht : HT t ρ PB) (ha : PB true → HE a ρ P) (hb : PB false → HE b ρ P) : HE (dIf t a b) ρ P := fun Q q => ht _ fun c hc => by
  cases c with
  | true => exact ite_t (ha hc Q q)
  | false => exact ite_f (hb hc Q q)
theorem ht_ev {dt : DT} {ct : CT} {ρ : DEnv} {b : Bool} [h : EvT dt ct] (e : ct ρ = some b) : HT dt ρ (· = b) := fun Q q => h.ev e (q b rfl)
theorem ht_test {e : DE} {ρ : DEnv} {P : OV → Prop} {PB : Bool → Prop} (h : HE e ρ P) (k : ∀ x, P x → ∃ b, x = .d (.bool b) ∧ PB b) : HT (dTest e) ρ PB := fun Q q => h _ fun x p => by
  obtain ⟨b, rfl, pb⟩ := k x p
  exact q b pb
/-- a test of two ints, of which nothing is said -/
theorem ht_cmp {g : Int → Int → Bool} {a b : DE} {ρ : DEnv} {l h l' h' : Int} (ha : HE a ρ (TI l h)) (hb : HE b ρ (TI l' h')) : HT (dTest (dOp (dI0 fun i j => .bool (g i j)) a b)) ρ fun c => ∃ i j, l ≤ i ∧ i ≤ h ∧ l' ≤ j ∧ j ≤ h' ∧ c = g i j := fun Q q => ha _ fun x ⟨i, e1, a1, b1⟩ => hb _ fun y ⟨j, e2, a2, b2⟩ => by
  subst e1 e2
  exact q _ ⟨i, j, a1, b1, a2, b2, rfl⟩
theorem ht_eqG {g : Bool → Bool} {a b : DE} {ρ : DEnv} {l h l' h' : Int} (ha : HE a ρ (TI l h)) (hb : HE b ρ (TI l' h')) : HT (dTest (dOp (dEqG g) a b)) ρ fun c => ∃ i j, l ≤ i ∧ i ≤ h ∧ l' ≤ j ∧ j ≤ h' ∧ c = g (decide (i = j)) := fun Q q => ha _ fun x ⟨i, e1, a1, b1⟩ => hb _ fun y ⟨j, e2, a2, b2⟩ => by
  subst e1 e2
  exact q _ ⟨i, j, a1, b1, a2, b2, rfl⟩
theorem ht_or {s t : DT} {ρ : DEnv} {P1 P2 : Bool → Prop} (h1 : HT s ρ P1) (h2 : HT t ρ P2) : HT (dOrT s t) ρ fun _ => True := fun Q q => h1 _ fun c _ => by
  cases c with
  | true => exact ite_t (q _ trivial)
  | false => exact ite_f (h2 _ fun b _ => q _ trivial)
/-- draw(n) == k : of the answer nothing is said -/
theorem ht_any {g : Bool → Bool} {e : DE} {k : Int} {ρ : DEnv} {l h : Int} (he : HE e ρ (TI l h)) : HT (dTest (dOp (dEqG g) e (dC (.int k)))) ρ fun _ => True := fun Q q => ht_eqG he he_ci Q fun b _ => q b trivial
theorem ht_anyc {g : Int → Int → Bool} {e f : DE} {ρ : DEnv} {l h l' h' : Int} (he : HE e ρ (TI l h)) (hf : HE f ρ (TI l' h')) : HT (dTest (dOp (dI0 fun i j => .bool (g i j)) e f)) ρ fun _ => True := fun Q q => ht_cmp he hf Q fun b _ => q b trivial
/-! ### arguments -/
theorem ha_nil {ρ : DEnv} : HA dNil ρ (· = []) := fun Q q => q _ rfl
theorem ha_cons {a : DE} {r : DA} {ρ : DEnv} {P : OV → Prop} {PR : List OV → Prop} (h : HE a ρ P) (h' : HA r ρ PR) : HA (dCons a r) ρ fun xs => ∃ x ys, xs = x :: ys ∧ P x ∧ PR ys := fun Q q => h _ fun x p => h' _ fun ys pr => q _ ⟨x, ys, rfl, p, pr⟩
theorem he_call {R : DF} {a : DA} {ρ : DEnv} {PA : List OV → Prop} {Pr : PyData → Prop} (ha : HA a ρ PA) (h : ∀ xs, PA xs → xs.all argOk = true ∧ R xs Pr) : HE (dCall R a) ρ fun x => ∃ r, x = .d r ∧ Pr r := fun Q q => ha _ fun xs p => by
  obtain ⟨ok, hr⟩ := h xs p
  exact ⟨ok, Pr, hr, fun r pr => q _ ⟨r, rfl, pr⟩⟩
/-- all of some plain things, of each the same is said -/
def HL (P : PyData → Prop) (n : Nat) (a : DA) (ρ : DEnv) : Prop := HA a ρ fun xs => ∃ ds, ovs xs = some ds ∧ ds.length = n ∧ ∀ d ∈ ds, P d
theorem hl_nil {P : PyData → Prop} {ρ : DEnv} : HL P 0 dNil ρ := fun Q q => q _ ⟨[], rfl, rfl, nofun⟩
theorem hl_cons {P : PyData → Prop} {n : Nat} {a : DE} {r : DA} {ρ : DEnv} (h : HE a ρ fun x => ∃ d, x = .d d ∧ P d) (h' : HL P n r ρ) : HL P (n + 1) (dCons a r) ρ := fun Q q => h _ fun x ⟨d, e, p⟩ => h' _ fun ys ⟨ds, e1, e2, e3⟩ => q _ ⟨d :: ds, by
  subst e
  show (ovs ys).map (d :: ·) = _
  rw [e1]
  rfl, by rw [List.length_cons, e2], fun z hz => by
  rcases List.mem_cons.mp hz with e | hz
  · rw [e]
    exact p
  · exact e3 z hz⟩
theorem he_lst {P : PyData → Prop} {n : Nat} {a : DA} {ρ : DEnv} (h : HL P n a ρ) (hn : n ≤ 1000) : HE (dLst a) ρ fun x => ∃ ds, x = .d (.list ds) ∧ ds.length = n ∧ ∀ d ∈ ds, P d := fun Q q => h _ fun xs ⟨ds, e1, e2, e3⟩ => ⟨ds, e1, sl_big (by omega), q _ ⟨ds, rfl, e2, e3⟩⟩
/-! ### statements -/
theorem st_set {i : Nat} {e : DE} {rest : DS} {D : DEnds} {ρ : DEnv} {P : OV → Prop} (h : HE e ρ P) (ok : ∀ x, P x → argOk x = true) (k : ∀ x, P x → rest D (ρ.set i (some x))) : dSeq (dSet i e) rest D ρ := h _ fun x p => ⟨ok x p, k x p⟩
theorem st_setI {i : Nat} {e : DE} {rest : DS} {D : DEnds} {ρ : DEnv} {l h : Int} (he : HE e ρ (TI l h)) (k : ∀ z : Int, l ≤ z → z ≤ h → rest D (ρ.set i (some (.d (.int z))))) : dSeq (dSet i e) rest D ρ := he _ fun x ⟨z, e, a, b⟩ => by
  subst e
  exact ⟨rfl, k z a b⟩
theorem st_setD {i : Nat} {e : DE} {rest : DS} {D : DEnds} {ρ : DEnv} {P : PyData → Prop} (he : HE e ρ fun x => ∃ d, x = .d d ∧ P d) (k : ∀ d, P d → rest D (ρ.set i (some (.d d)))) : dSeq (dSet i e) rest D ρ := he _ fun x ⟨d, e, p⟩ => by
  subst e
  exact ⟨rfl, k d p⟩
theorem st_ret {e : DE} {D : DEnds} {ρ : DEnv} {P : PyData → Prop} (he : HE e ρ fun x => ∃ d, x = .d d ∧ P d) (k : ∀ d, P d → D.rt d) : dRet e D ρ := he _ fun x ⟨d, e, p⟩ => by
  subst e
  exact ⟨rfl, k d p⟩
theorem st_ev {ds : DS} {cs : CS} {rest : DS} {D : DEnds} {ρ ρ' : DEnv} [h : EvS ds cs] (e : cs ρ = some (.nx ρ')) (k : rest D ρ') : dSeq ds rest D ρ := h.ev (D := { D with nx := fun ρ' => rest D ρ' }) e k
theorem st_if {t : DT} {a b rest : DS} {D : DEnds} {ρ : DEnv} {PB : Bool → Prop} (ht : HT t ρ PB) (ha : PB true → dSeq a rest D ρ) (hb : PB false → dSeq b rest D ρ) : dSeq (dIfS t a b) rest D ρ := ht _ fun c hc => by
  cases c with
  | true => exact ite_t (ha hc)
  | false => exact ite_f (hb hc)
theorem st_if0 {t : DT} {a b : DS} {D : DEnds} {ρ : DEnv} {PB : Bool → Prop} (ht : HT t ρ PB) (ha : PB true → a D ρ) (hb : PB false → b D ρ) : dIfS t a b D ρ := ht _ fun c hc => by
  cases c with
  | true => exact ite_t (ha hc)
  | false => exact ite_f (hb hc)
theorem st_for {di : DI} {g : DG} {b rest : DS} {D : DEnds} {ρ : DEnv} {ci : CI} {xs : List PyData} [h : EvI di ci] (e : ci ρ = some xs) (k : dLoop g b xs { D with nx := fun ρ' => rest D ρ' } ρ) : dSeq (dFor di g b) rest D ρ := h.ev e k
theorem st_for0 {di : DI} {g : DG} {b : DS} {D : DEnds} {ρ : DEnv} {ci : CI} {xs : List PyData} [h : EvI di ci] (e : ci ρ = some xs) (k : dLoop g b xs D ρ) : dFor di g b D ρ := h.ev e k
/-! ### one of some -/
theorem atI_in {α : Type} {xs : List α} {i : Int} (h0 : 0 ≤ i) (h1 : i < xs.length) : ∃ x, x ∈ xs ∧ atI xs i = some x := by
  have hn : i.toNat < xs.length := by omega
  refine ⟨xs[i.toNat], List.getElem_mem hn, ?_⟩
  unfold atI ixN
  rw [if_pos h0, if_pos h1]
  exact List.getElem?_eq_getElem hn
theorem pick_list {ys : List PyData} {Q : PyData → Prop} (h0 : 1 ≤ ys.length) (h1 : ys.length ≤ 100000) (h : ∀ y ∈ ys, Q y) : R__law_pick [.pot, .d (.list ys)] Q := by
  refine ⟨rfl, ?_⟩
  refine (show dOp dIx (dVar 1) (dCall Rdraw (dCons (dVar 0) (dCons (dCB dLen (dCons (dVar 1) dNil)) dNil))) [some .pot, some (.d (.list ys))] (fun x => okv x = true ∧ Q (vw x)) from ?_)
  refine (show dCall Rdraw (dCons (dVar 0) (dCons (dCB dLen (dCons (dVar 1) dNil)) dNil)) [some .pot, some (.d (.list ys))] (fun y => dIx (.d (.list ys)) y fun x => okv x = true ∧ Q (vw x)) from ?_)
  refine call_draw (n := ys.length) rfl (fun Q' q => q) (by omega) (by omega) fun r a b => ?_
  obtain ⟨x, hx, e⟩ := atI_in a b
  exact ⟨x, e, rfl, h x hx⟩
theorem he_pick {e : DE} {ρ : DEnv} {P : PyData → Prop} (he : HE e ρ fun x => ∃ ds, x = .d (.list ds) ∧ (1 ≤ ds.length ∧ ds.length ≤ 100000) ∧ ∀ d ∈ ds, P d) (h0 : ρ[0]? = some (some .pot) := by rfl) : HE (dCall R__law_pick (dCons (dVar 0) (dCons e dNil))) ρ fun x => ∃ d, x = .d d ∧ P d :=
  he_imp (he_call (ha_cons (he_var h0) (ha_cons he ha_nil)) fun xs ⟨x, ys, e1, e2, y, zs, e3, ⟨ds, e4, l, p⟩, e5⟩ => by
    subst e1 e2 e3 e4 e5
    exact ⟨rfl, pick_list l.1 l.2 p⟩) fun x h => h
theorem he_pickL {a : DA} {ρ : DEnv} {P : PyData → Prop} {n : Nat} (h : HL P (n + 1) a ρ) (hn : n ≤ 500) (h0 : ρ[0]? = some (some .pot) := by rfl) : HE (dCall R__law_pick (dCons (dVar 0) (dCons (dLst a) dNil))) ρ fun x => ∃ d, x = .d d ∧ P d :=
  he_pick (he_imp (he_lst h (by omega)) fun x ⟨ds, e, l, p⟩ => ⟨ds, e, ⟨by omega, by omega⟩, p⟩) h0
end LQ

/-! ==== PU02 ==== -/
set_option Elab.async false
set_option linter.all false
set_option maxRecDepth 100000
set_option maxHeartbeats 4000000
/-! ## numbers, vectors, orders -/
namespace LQ
open PySem PySem.Spec PyProof.Rows L2 DL LW
def PI (l h : Int) : PyData → Prop := fun d => ∃ i : Int, d = .int i ∧ l ≤ i ∧ i ≤ h
theorem he_pi {e : DE} {ρ : DEnv} {l h : Int} (he : HE e ρ (TI l h)) {l' h' : Int} (h1 : l' ≤ l) (h2 : h ≤ h') : HE e ρ fun x => ∃ d, x = .d d ∧ PI l' h' d := he_imp he fun x ⟨i, e, a, b⟩ => ⟨.int i, e, i, rfl, by omega, by omega⟩
theorem he_ti {e : DE} {ρ : DEnv} {l h : Int} (he : HE e ρ fun x => ∃ d, x = .d d ∧ PI l h d) : HE e ρ (TI l h) := he_imp he fun x ⟨d, e, i, e2, a, b⟩ => ⟨i, by rw [e, e2], a, b⟩
theorem he_wide {e : DE} {ρ : DEnv} {l h : Int} (he : HE e ρ (TI l h)) {l' h' : Int} (h1 : l' ≤ l) (h2 : h ≤ h') : HE e ρ (TI l' h') := he_imp he fun x ⟨i, e, a, b⟩ => ⟨i, e, by omega, by omega⟩
theorem he_mul {a b : DE} {ρ : DEnv} {h h' : Int} (ha : HE a ρ (TI 0 h)) (hb : HE b ρ (TI 0 h')) (hh : h' < 9223372036854775808) : HE (dOp dMul a b) ρ (TI 0 (h * h')) := he_op ha hb fun x y ⟨i, e1, a1, b1⟩ ⟨j, e2, a2, b2⟩ Q q => by
  subst e1 e2
  exact ⟨cmulR i j ⟨a2, by omega⟩, q _ ⟨i * j, rfl, Int.mul_nonneg a1 a2, Int.mul_le_mul b1 b2 a2 (Int.le_trans a1 b1)⟩⟩
def big : Int := 1000000000000000000000000000000
theorem far_ok (ρ : DEnv) : HL (PI 0 big) 10 (dCons (dC (.int 0)) (dCons (dC (.int 0)) (dCons (dC (.int 0)) (dCons (dC (.int 0)) (dCons (dC (.int 0)) (dCons (dC (.int 0)) (dCons (dC (.int 0)) (dCons (dC (.int 0)) (dCons (dOp dPwr (dC (.int 10)) (dC (.int 6))) (dCons (dOp dPwr (dC (.int 10)) (dC (.int 30))) dNil)))))))))) ρ := by
  have z : HE (dC (.int 0)) ρ fun x => ∃ d, x = .d d ∧ PI 0 big d := he_pi he_ci (by decide) (by decide)
  have p1 : HE (dOp dPwr (dC (.int 10)) (dC (.int 6))) ρ fun x => ∃ d, x = .d d ∧ PI 0 big d := he_imp (he_ev (x := .d (.int 1000000)) (by kernel_rfl)) fun x e => ⟨_, e, 1000000, rfl, by decide, by decide⟩
  have p2 : HE (dOp dPwr (dC (.int 10)) (dC (.int 30))) ρ fun x => ∃ d, x = .d d ∧ PI 0 big d := he_imp (he_ev (x := .d (.int big)) (by kernel_rfl)) fun x e => ⟨_, e, big, rfl, by decide, by decide⟩
  exact hl_cons z (hl_cons z (hl_cons z (hl_cons z (hl_cons z (hl_cons z (hl_cons z (hl_cons z (hl_cons p1 (hl_cons p2 hl_nil)))))))))
def huge : Int := 10000000000000000000000000000000
theorem number_ok {s : Int} (h1 : 0 ≤ s) (h2 : s ≤ 1000) {Q : PyData → Prop} (h : ∀ i : Int, -huge ≤ i → i ≤ huge → Q (.int i)) : R__law_number [.pot, .d (.int s)] Q := by
  refine ⟨rfl, ?_⟩
  refine st_setI (he_ti (he_pickL (far_ok _) (by decide))) fun far a b => ?_
  have d1 : HE (dCall Rdraw (dCons (dVar 0) (dCons (dOp dAdd (dVar 1) (dC (.int 1))) dNil))) ((startD N__law_number [.pot, .d (.int s)]).set 2 (some (.d (.int far)))) (TI 0 (s + 1 - 1)) := he_draw (fun Q' q => q _ rfl) (by omega) (by omega)
  have d2 : HE (dCall Rdraw (dCons (dVar 0) (dCons (dC (.int 7)) dNil))) ((startD N__law_number [.pot, .d (.int s)]).set 2 (some (.d (.int far)))) (TI 0 (7 - 1)) := he_drawc (by decide) (by decide)
  have d3 := he_add d1 (he_mul (he_vi (i := 2) rfl a b) d2 (by decide))
  refine st_setI (he_wide d3 (l' := 0) (h' := huge) (by decide) (by unfold huge big; omega)) fun z za zb => ?_
  refine st_ret (P := PI (-huge) huge) (he_pi (he_if (PB := fun _ => True) (ht_any (he_drawc (by decide) (by decide))) (fun _ => he_vi (l := -huge) (h := huge) rfl (by unfold huge at *; omega) zb) fun _ => he_wide (he_sub he_ci (he_vi rfl za zb)) (by omega) (by unfold huge at *; omega)) (Int.le_refl _) (Int.le_refl _)) ?_
  rintro d ⟨i, rfl, a, b⟩
  exact h i a b
end LQ

/-! ==== PV02 ==== -/
set_option Elab.async false
set_option linter.all false
set_option maxRecDepth 100000
set_option maxHeartbeats 4000000
namespace LQ
open PySem PySem.Spec PyProof.Rows L2 DL LW
def intO (xs : List Int) : List OV := (xs.map PyData.int).map OV.d
theorem frz_d {ρ : DEnv} {i : Nat} {ds : List PyData} (h : ρ[i]? = some (some (.lst (ds.map OV.d)))) : frzAt ρ i = ρ.set i (some (.d (.list ds))) := by
  unfold frzAt
  rw [h]
  show (if okvs (ds.map OV.d) = true then ρ.set i (some (.d (.list (vws (ds.map OV.d))))) else ρ) = _
  rw [if_pos (okvs_d _), vws_d]
theorem st_frz {i : Nat} {s : DS} {D : DEnds} {ρ : DEnv} {ds : List PyData} (h : ρ[i]? = some (some (.lst (ds.map OV.d)))) (k : s D (ρ.set i (some (.d (.list ds))))) : dFrz i s D ρ := by
  unfold dFrz
  rw [frz_d h]
  exact k
theorem st_app {i : Nat} {e : DE} {D : DEnds} {ρ : DEnv} {ds : List PyData} {P : PyData → Prop} (hg : ρ[i]? = some (some (.lst (ds.map OV.d)))) (hl : ds.length ≤ 100000) (he : HE e ρ fun x => ∃ d, x = .d d ∧ P d) (k : ∀ d, P d → D.nx (ρ.set i (some (.lst ((ds ++ [d]).map OV.d))))) : dApp i e D ρ := by
  unfold dApp getL
  rw [hg]
  refine he _ fun x ⟨d, e, p⟩ => ?_
  subst e
  refine ⟨rfl, ?_, ?_⟩
  · rw [List.length_map]
    have e' : sizeLine = 16777216 := rfl
    omega
  · have := k d p
    rw [List.map_append] at this
    exact this
/-! ### a vector -/
def VE (n : Nat) (xs : List Int) (x4 : Option OV) : DEnv := [some .pot, some (.d (.int n)), some (.d (.int 9)), some (.lst (intO xs)), x4]
theorem vector_ok {n : Nat} (hn : n ≤ 1000) {Q : PyData → Prop} (h : ∀ xs : List Int, xs.length = n → (∀ x ∈ xs, -huge ≤ x ∧ x ≤ huge) → Q (.tuple (xs.map .int))) : R__law_vector [.pot, .d (.int n), .d (.int 9)] Q := by
  refine ⟨rfl, ?_⟩
  refine st_ev (ρ' := VE n [] none) rfl ?_
  refine st_for (rng1_ok (a := cVar 1) (ρ := VE n [] none) (n := n) rfl (by omega)) ?_
  refine dLoop_inv (fun k ρ => ∃ xs x4, ρ = VE n xs x4 ∧ xs.length = k ∧ ∀ x ∈ xs, -huge ≤ x ∧ x ≤ huge) _ 0 _ ⟨[], none, rfl, rfl, nofun⟩ ?_ ?_
  · rintro j x ρ D' hx ⟨xs, x4, rfl, hl, hb⟩ nx _ _ _
    obtain ⟨hj, rfl⟩ := rng_get hx
    refine (show dApp 3 _ D' (VE n xs (some (.d (.int (j : Nat))))) from ?_)
    refine st_app (ds := xs.map .int) (P := PI (-huge) huge) rfl (by rw [List.length_map]; omega) ?_ fun d hd => ?_
    · refine he_imp (he_call (PA := fun ys => ys = [.pot, .d (.int 9)]) (Pr := PI (-huge) huge) (fun Q q => q _ rfl) fun ys e => ?_) fun x h => h
      subst e
      exact ⟨rfl, number_ok (by decide) (by decide) fun i a b => ⟨i, rfl, a, b⟩⟩
    · obtain ⟨i, rfl, a, b⟩ := hd
      refine nx _ ⟨xs ++ [i], some (.d (.int (j : Nat))), ?_, by rw [List.length_append, hl]; rfl, fun y hy => ?_⟩
      · show (VE n xs (some (.d (.int (j : Nat))))).set 3 _ = VE n (xs ++ [i]) _
        unfold VE intO
        rw [List.map_append (f := PyData.int)]
        rfl
      · rcases List.mem_append.mp hy with z | z
        · exact hb y z
        · rw [List.mem_singleton.mp z]
          exact ⟨a, b⟩
  · rintro ρ ⟨xs, x4, rfl, hl, hb⟩
    rw [List.length_map, List.length_range, Nat.zero_add] at hl
    refine (show dFrz 3 (dRet (dCB dTupC (dCons (dVar 3) dNil))) { nx := fun _ => Q .none, rt := Q } (VE n xs x4) from st_frz (ds := xs.map .int) rfl ?_)
    exact st_ret (P := fun d => d = .tuple (xs.map .int)) (he_imp (he_ev (x := .d (.tuple (xs.map .int))) rfl) fun x e => ⟨_, e, rfl⟩) fun d e => by
      rw [e]
      exact h xs hl hb
/-! ### some things in a drawn order -/
def ME (xs left found : List PyData) (x4 x5 : Option OV) : DEnv := [some .pot, some (.d (.list xs)), some (.d (.list left)), some (.lst (found.map OV.d)), x4, x5]
theorem cut_lo (xs : List PyData) (r : Nat) (h : r ≤ xs.length) : DL.cutD xs none (some (r : Int)) = xs.take r := by
  unfold DL.cutD
  rw [HT.sIx_nat, HT.sIx_none, List.drop_zero, Nat.sub_zero, Nat.min_eq_left h]
theorem cut_hi (xs : List PyData) (r : Nat) (h : r ≤ xs.length) : DL.cutD xs (some (r : Int)) none = xs.drop r := by
  unfold DL.cutD
  rw [HT.sIx_nat, HT.sIx_none, Nat.min_eq_left h]
  exact List.take_of_length_le (by rw [List.length_drop]; exact Nat.le_refl _)
theorem he_slL {a : DE} {ρ : DEnv} {xs : List PyData} {r : Nat} {b : DE} {cb : CE} [hb : EvE b cb] (ha : HE a ρ (· = .d (.list xs))) (e : cb ρ = some (.d (.int (r : Nat)))) (h : r ≤ xs.length) : HE (dSl a dNoPart (dPart b)) ρ (· = .d (.list (xs.take r))) := fun Q q => ha _ fun x ex => by
  subst ex
  refine hb.ev e ?_
  refine ⟨xs, rfl, ?_⟩
  rw [cut_lo xs r h]
  exact q _ rfl
theorem he_slR {a : DE} {ρ : DEnv} {xs : List PyData} {r : Nat} {b : DE} {cb : CE} [hb : EvE b cb] (ha : HE a ρ (· = .d (.list xs))) (e : cb ρ = some (.d (.int (r : Nat)))) (h : r ≤ xs.length) : HE (dSl a (dPart b) dNoPart) ρ (· = .d (.list (xs.drop r))) := fun Q q => ha _ fun x ex => by
  subst ex
  refine hb.ev e ?_
  refine ⟨xs, rfl, ?_⟩
  rw [cut_hi xs r h]
  exact q _ rfl
theorem he_slLt {a : DE} {ρ : DEnv} {xs : List PyData} {r : Nat} {b : DE} {cb : CE} [hb : EvE b cb] (ha : HE a ρ (· = .d (.tuple xs))) (e : cb ρ = some (.d (.int (r : Nat)))) (h : r ≤ xs.length) : HE (dSl a dNoPart (dPart b)) ρ (· = .d (.tuple (xs.take r))) := fun Q q => ha _ fun x ex => by
  subst ex
  refine hb.ev e ?_
  show Q (.d (.tuple (DL.cutD xs none (some (r : Int)))))
  rw [cut_lo xs r h]
  exact q _ rfl
theorem he_slRt {a : DE} {ρ : DEnv} {xs : List PyData} {r : Nat} {b : DE} {cb : CE} [hb : EvE b cb] (ha : HE a ρ (· = .d (.tuple xs))) (e : cb ρ = some (.d (.int (r : Nat)))) (h : r ≤ xs.length) : HE (dSl a (dPart b) dNoPart) ρ (· = .d (.tuple (xs.drop r))) := fun Q q => ha _ fun x ex => by
  subst ex
  refine hb.ev e ?_
  show Q (.d (.tuple (DL.cutD xs (some (r : Int)) none)))
  rw [cut_hi xs r h]
  exact q _ rfl
theorem he_catL {a b : DE} {ρ : DEnv} {xs ys : List PyData} (ha : HE a ρ (· = .d (.list xs))) (hb : HE b ρ (· = .d (.list ys))) (hl : xs.length + ys.length ≤ 1000000) : HE (dOp dAdd a b) ρ (· = .d (.list (xs ++ ys))) := he_op ha hb fun x y e1 e2 Q q => by
  subst e1 e2
  exact ⟨xs, ys, rfl, rfl, sl_big hl, q _ rfl⟩
theorem he_catT {a b : DE} {ρ : DEnv} {xs ys : List PyData} (ha : HE a ρ (· = .d (.tuple xs))) (hb : HE b ρ (· = .d (.tuple ys))) (hl : xs.length + ys.length ≤ 1000000) : HE (dOp dAdd a b) ρ (· = .d (.tuple (xs ++ ys))) := he_op ha hb fun x y e1 e2 Q q => by
  subst e1 e2
  exact ⟨sl_big hl, q _ rfl⟩
def mB : DS := dSeq (dSet 5 (dCall Rdraw (dCons (dVar 0) (dCons (dCB dLen (dCons (dVar 2) dNil)) dNil)))) (dSeq (dApp 3 (dOp dIx (dVar 2) (dVar 5))) (dSet 2 (dOp dAdd (dSl (dVar 2) dNoPart (dPart (dVar 5))) (dSl (dVar 2) (dPart (dOp dAdd (dVar 5) (dC (.int 1)))) dNoPart))))
theorem mB_ok (xs left found : List PyData) (x4 x5 : Option OV) (D : DEnds) (h1 : 1 ≤ left.length) (h2 : left.length ≤ 1000) (h3 : found.length ≤ 1000) (k : ∀ (z : PyData) (left' : List PyData) (x5' : Option OV), z ∈ left → (∀ y ∈ left', y ∈ left) → left'.length + 1 = left.length → D.nx (ME xs left' (found ++ [z]) x4 x5')) : mB D (ME xs left found x4 x5) := by
  refine st_setI (l := 0) (h := (left.length : Int) - 1) (he_draw (n := left.length) (he_ev (x := .d (.int left.length)) rfl) (by omega) (by omega)) fun r a b => ?_
  obtain ⟨n, rfl⟩ : ∃ n : Nat, r = n := ⟨r.toNat, by omega⟩
  have hn : n < left.length := by omega
  refine (show dApp 3 (dOp dIx (dVar 2) (dVar 5)) _ (ME xs left found x4 (some (.d (.int n)))) from ?_)
  refine st_app (ds := found) (P := fun d => d = left[n]) rfl (by omega) (he_imp (he_ev (x := .d left[n]) ?_) fun x e => ⟨_, e, rfl⟩) fun d e => ?_
  · refine op_ok rfl rfl ?_
    show (atI left (n : Int)).map OV.d = _
    rw [atI_nat, List.getElem?_eq_getElem hn]
    rfl
  · subst e
    refine (show dOp dAdd (dSl (dVar 2) dNoPart (dPart (dVar 5))) (dSl (dVar 2) (dPart (dOp dAdd (dVar 5) (dC (.int 1)))) dNoPart) (ME xs left (found ++ [left[n]]) x4 (some (.d (.int n)))) (fun x => argOk x = true ∧ D.nx ((ME xs left (found ++ [left[n]]) x4 (some (.d (.int n)))).set 2 (some x))) from ?_)
    refine (he_catL (he_slL (r := n) (he_var (i := 2) rfl) rfl (by omega)) (he_slR (r := n + 1) (he_var (i := 2) rfl) rfl (by omega)) (by rw [List.length_take, List.length_drop]; omega)) _ fun x e => ?_
    subst e
    refine ⟨rfl, k left[n] (left.take n ++ left.drop (n + 1)) (some (.d (.int n))) (List.getElem_mem hn) (fun y hy => ?_) (by rw [List.length_append, List.length_take, List.length_drop]; omega)⟩
    rcases List.mem_append.mp hy with z | z
    · exact List.mem_of_mem_take z
    · exact List.mem_of_mem_drop z
theorem mixed_ok {xs : List PyData} (hn : xs.length ≤ 1000) {Q : PyData → Prop} (h : ∀ ys : List PyData, ys.length = xs.length → (∀ y ∈ ys, y ∈ xs) → Q (.list ys)) : R__law_mixed [.pot, .d (.list xs)] Q := by
  refine ⟨rfl, ?_⟩
  refine st_ev (ρ' := ME xs xs [] none none) rfl ?_
  refine st_for (rng1_ok (a := cCB cLen (cCons (cVar 1) cNil)) (ρ := ME xs xs [] none none) (n := xs.length) rfl (by omega)) ?_
  refine dLoop_inv (fun k ρ => ∃ left found x4 x5, ρ = ME xs left found x4 x5 ∧ left.length + k = xs.length ∧ found.length = k ∧ (∀ y ∈ left, y ∈ xs) ∧ ∀ y ∈ found, y ∈ xs) _ 0 _ ⟨xs, [], none, none, rfl, rfl, rfl, fun _ z => z, nofun⟩ ?_ ?_
  · rintro j x ρ D' hx ⟨left, found, x4, x5, rfl, hl, hf, h1, h2⟩ nx _ _ _
    obtain ⟨hj, rfl⟩ := rng_get hx
    refine (show mB D' (ME xs left found (some (.d (.int (j : Nat)))) x5) from mB_ok xs left found _ _ D' (by omega) (by omega) (by omega) fun z left' x5' z1 z2 z3 => nx _ ⟨left', found ++ [z], _, x5', rfl, by omega, by rw [List.length_append, hf]; rfl, fun y hy => h1 y (z2 y hy), fun y hy => ?_⟩)
    rcases List.mem_append.mp hy with q | q
    · exact h2 y q
    · rw [List.mem_singleton.mp q]
      exact h1 z z1
  · rintro ρ ⟨left, found, x4, x5, rfl, hl, hf, h1, h2⟩
    rw [List.length_map, List.length_range, Nat.zero_add] at hf
    refine (show okvs (found.map OV.d) = true ∧ Q (.list (vws (found.map OV.d))) from ⟨okvs_d _, ?_⟩)
    rw [vws_d]
    exact h found hf h2
end LQ

/-! ==== PN02 ==== -/
set_option Elab.async false
set_option linter.all false
set_option maxRecDepth 100000
set_option maxHeartbeats 0
/-! ## types without parts, the matrices of types -/
namespace LB
open PySem PySem.Spec PyProof.Rows L2 DL LW LQ
def KN : List Str := [⟨#[65, 49]⟩, ⟨#[65, 50]⟩, ⟨#[65, 51]⟩, ⟨#[65, 52]⟩, ⟨#[65, 53]⟩, ⟨#[65, 54]⟩, ⟨#[65, 55]⟩, ⟨#[65, 56]⟩, ⟨#[66, 50]⟩, ⟨#[66, 51]⟩, ⟨#[66, 52]⟩, ⟨#[66, 53]⟩, ⟨#[66, 54]⟩, ⟨#[66, 55]⟩, ⟨#[66, 56]⟩,
  ⟨#[67, 51]⟩, ⟨#[67, 52]⟩, ⟨#[67, 53]⟩, ⟨#[67, 54]⟩, ⟨#[67, 55]⟩, ⟨#[67, 56]⟩, ⟨#[68, 52]⟩, ⟨#[68, 53]⟩, ⟨#[68, 54]⟩, ⟨#[68, 55]⟩, ⟨#[68, 56]⟩, ⟨#[69, 54]⟩, ⟨#[69, 55]⟩, ⟨#[69, 56]⟩, ⟨#[70, 52]⟩, ⟨#[71, 50]⟩]
def dgN (w : Str) : Nat := (w.cps.toList[1]?).getD 48 - 48
def KT : List (Str × List (Nat × Nat × Int × Int) × List (List Int)) := [
  (⟨#[65, 49]⟩, [], [[2]]),
  (⟨#[65, 50]⟩, [(0, 1, (-1), (-1))], [[2, (-1)], [(-1), 2]]),
  (⟨#[65, 51]⟩, [(0, 1, (-1), (-1)), (1, 2, (-1), (-1))], [[2, (-1), 0], [(-1), 2, (-1)], [0, (-1), 2]]),
  (⟨#[65, 52]⟩, [(0, 1, (-1), (-1)), (1, 2, (-1), (-1)), (2, 3, (-1), (-1))], [[2, (-1), 0, 0], [(-1), 2, (-1), 0], [0, (-1), 2, (-1)], [0, 0, (-1), 2]]),
  (⟨#[65, 53]⟩, [(0, 1, (-1), (-1)), (1, 2, (-1), (-1)), (2, 3, (-1), (-1)), (3, 4, (-1), (-1))], [[2, (-1), 0, 0, 0], [(-1), 2, (-1), 0, 0], [0, (-1), 2, (-1), 0], [0, 0, (-1), 2, (-1)], [0, 0, 0, (-1), 2]]),
  (⟨#[65, 54]⟩, [(0, 1, (-1), (-1)), (1, 2, (-1), (-1)), (2, 3, (-1), (-1)), (3, 4, (-1), (-1)), (4, 5, (-1), (-1))], [[2, (-1), 0, 0, 0, 0], [(-1), 2, (-1), 0, 0, 0], [0, (-1), 2, (-1), 0, 0], [0, 0, (-1), 2, (-1), 0], [0, 0, 0, (-1), 2, (-1)], [0, 0, 0, 0, (-1), 2]]),
  (⟨#[65, 55]⟩, [(0, 1, (-1), (-1)), (1, 2, (-1), (-1)), (2, 3, (-1), (-1)), (3, 4, (-1), (-1)), (4, 5, (-1), (-1)), (5, 6, (-1), (-1))], [[2, (-1), 0, 0, 0, 0, 0], [(-1), 2, (-1), 0, 0, 0, 0], [0, (-1), 2, (-1), 0, 0, 0], [0, 0, (-1), 2, (-1), 0, 0], [0, 0, 0, (-1), 2, (-1), 0], [0, 0, 0, 0, (-1), 2, (-1)], [0, 0, 0, 0, 0, (-1), 2]]),
  (⟨#[65, 56]⟩, [(0, 1, (-1), (-1)), (1, 2, (-1), (-1)), (2, 3, (-1), (-1)), (3, 4, (-1), (-1)), (4, 5, (-1), (-1)), (5, 6, (-1), (-1)), (6, 7, (-1), (-1))], [[2, (-1), 0, 0, 0, 0, 0, 0], [(-1), 2, (-1), 0, 0, 0, 0, 0], [0, (-1), 2, (-1), 0, 0, 0, 0], [0, 0, (-1), 2, (-1), 0, 0, 0], [0, 0, 0, (-1), 2, (-1), 0, 0], [0, 0, 0, 0, (-1), 2, (-1), 0], [0, 0, 0, 0, 0, (-1), 2, (-1)], [0, 0, 0, 0, 0, 0, (-1), 2]]),
  (⟨#[66, 50]⟩, [(0, 1, (-1), (-2))], [[2, (-1)], [(-2), 2]]),
  (⟨#[66, 51]⟩, [(0, 1, (-1), (-1)), (1, 2, (-1), (-2))], [[2, (-1), 0], [(-1), 2, (-1)], [0, (-2), 2]]),
  (⟨#[66, 52]⟩, [(0, 1, (-1), (-1)), (1, 2, (-1), (-1)), (2, 3, (-1), (-2))], [[2, (-1), 0, 0], [(-1), 2, (-1), 0], [0, (-1), 2, (-1)], [0, 0, (-2), 2]]),
  (⟨#[66, 53]⟩, [(0, 1, (-1), (-1)), (1, 2, (-1), (-1)), (2, 3, (-1), (-1)), (3, 4, (-1), (-2))], [[2, (-1), 0, 0, 0], [(-1), 2, (-1), 0, 0], [0, (-1), 2, (-1), 0], [0, 0, (-1), 2, (-1)], [0, 0, 0, (-2), 2]]),
  (⟨#[66, 54]⟩, [(0, 1, (-1), (-1)), (1, 2, (-1), (-1)), (2, 3, (-1), (-1)), (3, 4, (-1), (-1)), (4, 5, (-1), (-2))], [[2, (-1), 0, 0, 0, 0], [(-1), 2, (-1), 0, 0, 0], [0, (-1), 2, (-1), 0, 0], [0, 0, (-1), 2, (-1), 0], [0, 0, 0, (-1), 2, (-1)], [0, 0, 0, 0, (-2), 2]]),
  (⟨#[66, 55]⟩, [(0, 1, (-1), (-1)), (1, 2, (-1), (-1)), (2, 3, (-1), (-1)), (3, 4, (-1), (-1)), (4, 5, (-1), (-1)), (5, 6, (-1), (-2))], [[2, (-1), 0, 0, 0, 0, 0], [(-1), 2, (-1), 0, 0, 0, 0], [0, (-1), 2, (-1), 0, 0, 0], [0, 0, (-1), 2, (-1), 0, 0], [0, 0, 0, (-1), 2, (-1), 0], [0, 0, 0, 0, (-1), 2, (-1)], [0, 0, 0, 0, 0, (-2), 2]]),
  (⟨#[66, 56]⟩, [(0, 1, (-1), (-1)), (1, 2, (-1), (-1)), (2, 3, (-1), (-1)), (3, 4, (-1), (-1)), (4, 5, (-1), (-1)), (5, 6, (-1), (-1)), (6, 7, (-1), (-2))], [[2, (-1), 0, 0, 0, 0, 0, 0], [(-1), 2, (-1), 0, 0, 0, 0, 0], [0, (-1), 2, (-1), 0, 0, 0, 0], [0, 0, (-1), 2, (-1), 0, 0, 0], [0, 0, 0, (-1), 2, (-1), 0, 0], [0, 0, 0, 0, (-1), 2, (-1), 0], [0, 0, 0, 0, 0, (-1), 2, (-1)], [0, 0, 0, 0, 0, 0, (-2), 2]]),
  (⟨#[67, 51]⟩, [(0, 1, (-1), (-1)), (1, 2, (-2), (-1))], [[2, (-1), 0], [(-1), 2, (-2)], [0, (-1), 2]]),
  (⟨#[67, 52]⟩, [(0, 1, (-1), (-1)), (1, 2, (-1), (-1)), (2, 3, (-2), (-1))], [[2, (-1), 0, 0], [(-1), 2, (-1), 0], [0, (-1), 2, (-2)], [0, 0, (-1), 2]]),
  (⟨#[67, 53]⟩, [(0, 1, (-1), (-1)), (1, 2, (-1), (-1)), (2, 3, (-1), (-1)), (3, 4, (-2), (-1))], [[2, (-1), 0, 0, 0], [(-1), 2, (-1), 0, 0], [0, (-1), 2, (-1), 0], [0, 0, (-1), 2, (-2)], [0, 0, 0, (-1), 2]]),
  (⟨#[67, 54]⟩, [(0, 1, (-1), (-1)), (1, 2, (-1), (-1)), (2, 3, (-1), (-1)), (3, 4, (-1), (-1)), (4, 5, (-2), (-1))], [[2, (-1), 0, 0, 0, 0], [(-1), 2, (-1), 0, 0, 0], [0, (-1), 2, (-1), 0, 0], [0, 0, (-1), 2, (-1), 0], [0, 0, 0, (-1), 2, (-2)], [0, 0, 0, 0, (-1), 2]]),
  (⟨#[67, 55]⟩, [(0, 1, (-1), (-1)), (1, 2, (-1), (-1)), (2, 3, (-1), (-1)), (3, 4, (-1), (-1)), (4, 5, (-1), (-1)), (5, 6, (-2), (-1))], [[2, (-1), 0, 0, 0, 0, 0], [(-1), 2, (-1), 0, 0, 0, 0], [0, (-1), 2, (-1), 0, 0, 0], [0, 0, (-1), 2, (-1), 0, 0], [0, 0, 0, (-1), 2, (-1), 0], [0, 0, 0, 0, (-1), 2, (-2)], [0, 0, 0, 0, 0, (-1), 2]]),
  (⟨#[67, 56]⟩, [(0, 1, (-1), (-1)), (1, 2, (-1), (-1)), (2, 3, (-1), (-1)), (3, 4, (-1), (-1)), (4, 5, (-1), (-1)), (5, 6, (-1), (-1)), (6, 7, (-2), (-1))], [[2, (-1), 0, 0, 0, 0, 0, 0], [(-1), 2, (-1), 0, 0, 0, 0, 0], [0, (-1), 2, (-1), 0, 0, 0, 0], [0, 0, (-1), 2, (-1), 0, 0, 0], [0, 0, 0, (-1), 2, (-1), 0, 0], [0, 0, 0, 0, (-1), 2, (-1), 0], [0, 0, 0, 0, 0, (-1), 2, (-2)], [0, 0, 0, 0, 0, 0, (-1), 2]]),
  (⟨#[68, 52]⟩, [(0, 1, (-1), (-1)), (1, 2, (-1), (-1)), (1, 3, (-1), (-1))], [[2, (-1), 0, 0], [(-1), 2, (-1), (-1)], [0, (-1), 2, 0], [0, (-1), 0, 2]]),
  (⟨#[68, 53]⟩, [(0, 1, (-1), (-1)), (1, 2, (-1), (-1)), (2, 3, (-1), (-1)), (2, 4, (-1), (-1))], [[2, (-1), 0, 0, 0], [(-1), 2, (-1), 0, 0], [0, (-1), 2, (-1), (-1)], [0, 0, (-1), 2, 0], [0, 0, (-1), 0, 2]]),
  (⟨#[68, 54]⟩, [(0, 1, (-1), (-1)), (1, 2, (-1), (-1)), (2, 3, (-1), (-1)), (3, 4, (-1), (-1)), (3, 5, (-1), (-1))], [[2, (-1), 0, 0, 0, 0], [(-1), 2, (-1), 0, 0, 0], [0, (-1), 2, (-1), 0, 0], [0, 0, (-1), 2, (-1), (-1)], [0, 0, 0, (-1), 2, 0], [0, 0, 0, (-1), 0, 2]]),
  (⟨#[68, 55]⟩, [(0, 1, (-1), (-1)), (1, 2, (-1), (-1)), (2, 3, (-1), (-1)), (3, 4, (-1), (-1)), (4, 5, (-1), (-1)), (4, 6, (-1), (-1))], [[2, (-1), 0, 0, 0, 0, 0], [(-1), 2, (-1), 0, 0, 0, 0], [0, (-1), 2, (-1), 0, 0, 0], [0, 0, (-1), 2, (-1), 0, 0], [0, 0, 0, (-1), 2, (-1), (-1)], [0, 0, 0, 0, (-1), 2, 0], [0, 0, 0, 0, (-1), 0, 2]]),
  (⟨#[68, 56]⟩, [(0, 1, (-1), (-1)), (1, 2, (-1), (-1)), (2, 3, (-1), (-1)), (3, 4, (-1), (-1)), (4, 5, (-1), (-1)), (5, 6, (-1), (-1)), (5, 7, (-1), (-1))], [[2, (-1), 0, 0, 0, 0, 0, 0], [(-1), 2, (-1), 0, 0, 0, 0, 0], [0, (-1), 2, (-1), 0, 0, 0, 0], [0, 0, (-1), 2, (-1), 0, 0, 0], [0, 0, 0, (-1), 2, (-1), 0, 0], [0, 0, 0, 0, (-1), 2, (-1), (-1)], [0, 0, 0, 0, 0, (-1), 2, 0], [0, 0, 0, 0, 0, (-1), 0, 2]]),
  (⟨#[69, 54]⟩, [(0, 2, (-1), (-1)), (2, 3, (-1), (-1)), (3, 4, (-1), (-1)), (4, 5, (-1), (-1)), (1, 3, (-1), (-1))], [[2, 0, (-1), 0, 0, 0], [0, 2, 0, (-1), 0, 0], [(-1), 0, 2, (-1), 0, 0], [0, (-1), (-1), 2, (-1), 0], [0, 0, 0, (-1), 2, (-1)], [0, 0, 0, 0, (-1), 2]]),
  (⟨#[69, 55]⟩, [(0, 2, (-1), (-1)), (2, 3, (-1), (-1)), (3, 4, (-1), (-1)), (4, 5, (-1), (-1)), (5, 6, (-1), (-1)), (1, 3, (-1), (-1))], [[2, 0, (-1), 0, 0, 0, 0], [0, 2, 0, (-1), 0, 0, 0], [(-1), 0, 2, (-1), 0, 0, 0], [0, (-1), (-1), 2, (-1), 0, 0], [0, 0, 0, (-1), 2, (-1), 0], [0, 0, 0, 0, (-1), 2, (-1)], [0, 0, 0, 0, 0, (-1), 2]]),
  (⟨#[69, 56]⟩, [(0, 2, (-1), (-1)), (2, 3, (-1), (-1)), (3, 4, (-1), (-1)), (4, 5, (-1), (-1)), (5, 6, (-1), (-1)), (6, 7, (-1), (-1)), (1, 3, (-1), (-1))], [[2, 0, (-1), 0, 0, 0, 0, 0], [0, 2, 0, (-1), 0, 0, 0, 0], [(-1), 0, 2, (-1), 0, 0, 0, 0], [0, (-1), (-1), 2, (-1), 0, 0, 0], [0, 0, 0, (-1), 2, (-1), 0, 0], [0, 0, 0, 0, (-1), 2, (-1), 0], [0, 0, 0, 0, 0, (-1), 2, (-1)], [0, 0, 0, 0, 0, 0, (-1), 2]]),
  (⟨#[70, 52]⟩, [(0, 1, (-1), (-1)), (1, 2, (-1), (-2)), (2, 3, (-1), (-1))], [[2, (-1), 0, 0], [(-1), 2, (-1), 0], [0, (-2), 2, (-1)], [0, 0, (-1), 2]]),
  (⟨#[71, 50]⟩, [(0, 1, (-3), (-1))], [[2, (-3)], [(-1), 2]])]
def jt (w : Str) : List (Nat × Nat × Int × Int) := ((KT.lookup w).map (·.1)).getD []
def bk (w : Str) : List (List Int) := ((KT.lookup w).map (·.2)).getD []
theorem f_bk : ∀ w ∈ KN, (match c__law_single [.d (.str w)] with
    | some d => eqD d (.tuple ((bk w).map rowD))
    | none => false) = true := by decide +kernel
theorem f_sh : ∀ w ∈ KN, (bk w).length = dgN w ∧ ∀ r ∈ bk w, r.length = dgN w := by decide +kernel
theorem single_ok {w : Str} (h : w ∈ KN) : c__law_single [.d (.str w)] = some (.tuple ((bk w).map rowD)) := by
  have k := f_bk w h
  split at k
  · rename_i d e
    rw [e, eqD_ok _ _ k]
  · cases k
theorem str_ext {a b : Str} (h : a.cps.toList = b.cps.toList) : a = b := by
  obtain ⟨⟨a⟩⟩ := a
  obtain ⟨⟨b⟩⟩ := b
  have h2 : a = b := h
  rw [h2]
def sp : Str := " "
theorem sp_one : sp.cps.size = 1 := by decide +kernel
theorem join_le (y : Str) : ∀ (ws : List Str) (w : Str), w ∈ ws → w.cps.size ≤ (Str.join y ws).cps.size
  | [a], w, h => by
    rw [List.mem_singleton.mp h]
    exact Nat.le_refl _
  | a :: b :: r, w, h => by
    have e : (Str.join y (a :: b :: r)).cps.size = a.cps.size + y.cps.size + (Str.join y (b :: r)).cps.size := by
      show (a.cps ++ y.cps ++ (Str.join y (b :: r)).cps).size = _
      rw [Array.size_append, Array.size_append]
    rw [e]
    rcases List.mem_cons.mp h with z | z
    · rw [z]; omega
    · have := join_le y (b :: r) w z
      omega
theorem join_len (y : Str) (hy : y.cps.size = 1) : ∀ (ws : List Str), ws.length ≤ (Str.join y ws).cps.size + 1
  | [] => Nat.zero_le _
  | [a] => by simp
  | a :: b :: r => by
    have e : (Str.join y (a :: b :: r)).cps.size = a.cps.size + y.cps.size + (Str.join y (b :: r)).cps.size := by
      show (a.cps ++ y.cps ++ (Str.join y (b :: r)).cps).size = _
      rw [Array.size_append, Array.size_append]
    have := join_len y hy (b :: r)
    rw [e]
    simp only [List.length_cons] at this ⊢
    omega
abbrev wd (s : Str) : List Str := Txt.split s sp
theorem wd_join (s : Str) : Str.join sp (wd s) = s := PySem.StrLaws.join_split s sp
theorem wd_le (s w : Str) (h : w ∈ wd s) : w.cps.size ≤ s.cps.size := by
  have := join_le sp (wd s) w h
  rw [wd_join] at this
  exact this
theorem wd_len (s : Str) : (wd s).length ≤ s.cps.size + 1 := by
  have := join_len sp sp_one (wd s)
  rw [wd_join] at this
  exact this
theorem kn_pos : ∀ w ∈ KN, 1 ≤ dgN w := by decide +kernel
theorem sum_ge : ∀ ws : List Str, (∀ w ∈ ws, w ∈ KN) → (ws.length : Int) ≤ (ws.map fun w => (dgN w : Int)).sum
  | [], _ => by simp
  | a :: r, h => by
    have i := sum_ge r fun w hw => h w (List.mem_cons_of_mem _ hw)
    have k := kn_pos a (h a List.mem_cons_self)
    simp only [List.map_cons, List.sum_cons, List.length_cons]
    omega
theorem wd_empty : wd ⟨#[]⟩ ≠ [] := by decide +kernel
theorem wd_ne (s : Str) : wd s ≠ [] := fun h => by
  have e := wd_join s
  rw [h] at e
  have e2 : s = ⟨#[]⟩ := e.symm
  rw [e2] at h
  exact wd_empty h
def sumN (ws : List Str) : Nat := (ws.map dgN).sum
theorem sumN_int : ∀ ws : List Str, (ws.map fun w => (dgN w : Int)).sum = (sumN ws : Int)
  | [] => rfl
  | w :: ws => by
    rw [List.map_cons, List.sum_cons, sumN_int ws]
    show (dgN w : Int) + (sumN ws : Int) = ((dgN w + sumN ws : Nat) : Int)
    omega
def padR (st e : Nat) (r : List Int) : List Int := List.replicate st 0 ++ r ++ List.replicate e 0
def pad (st e : Nat) (M : List (List Int)) : List (List Int) := M.map (padR st e)
def rowsOf (m : Nat) : Nat → List Str → List (List Int)
  | _, [] => []
  | st, w :: ws => pad st (m - st - dgN w) (bk w) ++ rowsOf m (st + dgN w) ws
theorem dg_le : ∀ w ∈ KN, dgN w ≤ 8 := by decide +kernel
theorem lc_strs {i : Nat} {ci : CI} {ca : CE} {ρ : DEnv} {vs : List Nat} {f : Str → PyData} (ws : List Str) (hi : ci ρ = some (ws.map .str)) (h : ∀ w ∈ ws, ca ((wipeD ρ vs).set i (some (.d (.str w)))) = some (.d (f w))) (hl : ws.length ≤ sizeLine) :
    cNE (cLc ci (cgName i) cYes ca vs) ρ = some (.d (.list (ws.map f))) := by
  have key : ∀ (xs : List Str) (acc : List PyData), (∀ w ∈ xs, ca ((wipeD ρ vs).set i (some (.d (.str w)))) = some (.d (f w))) → acc.length + xs.length ≤ sizeLine → cLcL (cgName i) cYes ca (wipeD ρ vs) (xs.map .str) acc = some (acc ++ xs.map f) := by
    intro xs
    induction xs with
    | nil => intro acc _ _; simp [cLcL]
    | cons x xs ih =>
      intro acc h hl
      have h1 := h x List.mem_cons_self
      have hl' : acc.length < sizeLine := by simp only [List.length_cons] at hl; omega
      show (some ((wipeD ρ vs).set i (some (.d (.str x))))).bind _ = _
      simp only [Option.bind_some, cYes, if_true, h1, hl']
      rw [ih (acc ++ [f x]) (fun y hy => h y (List.mem_cons_of_mem _ hy)) (by simp only [List.length_append, List.length_cons, List.length_nil] at hl ⊢; omega)]
      simp
  unfold cNE cLc
  rw [hi]
  simp only [Option.bind_some]
  rw [key ws [] h (by simpa using hl)]
  simp only [Option.map_some, Option.bind_some, List.nil_append, okvs_d, if_true, vws_d]
theorem sp_cps : ((Str.ofString " ").cps = #[]) = False := by
  have : (Str.ofString " ").cps = #[32] := by decide +kernel
  rw [this]
  simp
theorem split_wd (s : Str) : Txt.split s (Str.ofString " ") = wd s := rfl
theorem lcl_map {i : Nat} {ca : CE} {ρ0 : DEnv} {f : PyData → PyData} : ∀ (xs acc : List PyData), (∀ x ∈ xs, ca (ρ0.set i (some (.d x))) = some (.d (f x))) → acc.length + xs.length ≤ sizeLine → cLcL (cgName i) cYes ca ρ0 xs acc = some (acc ++ xs.map f)
  | [], acc, _, _ => by simp [cLcL]
  | x :: xs, acc, h, hl => by
    have h1 := h x List.mem_cons_self
    have hl' : acc.length < sizeLine := by simp only [List.length_cons] at hl; omega
    show (some (ρ0.set i (some (.d x)))).bind _ = _
    simp only [Option.bind_some, cYes, if_true, h1, hl']
    rw [lcl_map xs (acc ++ [f x]) (fun y hy => h y (List.mem_cons_of_mem _ hy)) (by simp only [List.length_append, List.length_cons, List.length_nil] at hl ⊢; omega)]
    simp
theorem lc_any {i : Nat} {ci : CI} {ca : CE} {ρ : DEnv} {vs : List Nat} {f : PyData → PyData} (xs : List PyData) (hi : ci ρ = some xs) (h : ∀ x ∈ xs, ca ((wipeD ρ vs).set i (some (.d x))) = some (.d (f x))) (hl : xs.length ≤ sizeLine) :
    cNE (cLc ci (cgName i) cYes ca vs) ρ = some (.d (.list (xs.map f))) := by
  unfold cNE cLc
  rw [hi]
  simp only [Option.bind_some]
  rw [lcl_map xs [] h (by simpa using hl)]
  simp only [Option.map_some, Option.bind_some, List.nil_append, okvs_d, if_true, vws_d]
theorem rep_flat (m : Nat) (x : PyData) : (List.replicate m [x]).flatten = List.replicate m x := by
  induction m with
  | zero => rfl
  | succ m ih => rw [List.replicate_succ, List.flatten_cons, ih]; rfl
def od (P : List (List Int)) : List OV := P.map fun r => OV.d (rowD r)
def G (s : Str) (sg : List PyData) (P : List (List Int)) (st m : Nat) (x5 x6 : Option OV) : DEnv :=
  [some (.d (.str s)), some (.d (.list sg)), some (.lst (od P)), some (.d (.int st)), some (.d (.int m)), x5, x6, none]
def sgD (w : Str) : PyData := .tuple ((bk w).map rowD)
def cZ (k : CE) : CE := cOp cMul (cTup (cCons (cC (.int 0)) cNil)) k
def cRx : CE := cOp cAdd (cOp cAdd (cZ (cVar 3)) (cVar 6)) (cZ (cOp cSub (cOp cSub (cVar 4) (cVar 3)) (cCB cLen (cCons (cVar 5) cNil))))
def cRo : CS := cApp 2 cRx
def cRl : CS := cFor (ciTup (cVar 5)) (cgName 6) cRo
def cBl : CS := cSeq cRl (cSet 3 (cOp cAdd (cVar 3) (cCB cLen (cCons (cVar 5) cNil))))
theorem z_j {k : CE} {ρ : DEnv} {j : Int} (h : k ρ = some (.d (.int j))) (hj : -1000 ≤ j ∧ j ≤ 1000 ∧ [PyData.int 0].length ≤ 1000) : cZ k ρ = some (.d (.tuple (List.replicate j.toNat [PyData.int 0]).flatten)) := by
  have t : cTup (cCons (cC (.int 0)) cNil) ρ = some (.d (.tuple [.int 0])) := by
    unfold cTup
    show (if [PyData.int 0].length ≤ sizeLine then some (OV.d (.tuple [.int 0])) else none) = _
    rw [if_pos (show [PyData.int 0].length ≤ sizeLine from by decide)]
  unfold cZ cOp
  rw [t, Option.bind_some, h, Option.bind_some]
  show (if -1000 ≤ j ∧ j ≤ 1000 ∧ [PyData.int 0].length ≤ 1000 then _ else none) = _
  rw [if_pos hj]
theorem z_ok {k : CE} {ρ : DEnv} {n : Nat} (h : k ρ = some (.d (.int n))) (hn : n ≤ 1000) : cZ k ρ = some (.d (.tuple ((List.replicate n (0 : Int)).map .int))) := by
  rw [z_j h ⟨by omega, by omega, by decide⟩, Int.toNat_natCast, rep_flat, List.map_replicate]
theorem add_tup {a b : CE} {ρ : DEnv} {x y : List Int} (ha : a ρ = some (.d (.tuple (x.map .int)))) (hb : b ρ = some (.d (.tuple (y.map .int)))) (hl : x.length + y.length ≤ sizeLine) : cOp cAdd a b ρ = some (.d (.tuple ((x ++ y).map .int))) := by
  unfold cOp
  rw [ha, Option.bind_some, hb, Option.bind_some]
  show (if (x.map PyData.int).length + (y.map PyData.int).length ≤ sizeLine then some (OV.d (.tuple (x.map PyData.int ++ y.map PyData.int))) else none) = _
  rw [if_pos (by rw [List.length_map, List.length_map]; exact hl), List.map_append]
theorem sub_ok {a b : CE} {ρ : DEnv} {i j k : Nat} (ha : a ρ = some (.d (.int i))) (hb : b ρ = some (.d (.int j))) (h : j + k = i) : cOp cSub a b ρ = some (.d (.int k)) := by
  unfold cOp
  rw [ha, Option.bind_some, hb, Option.bind_some]
  show some (OV.d (.int ((i : Int) - j))) = _
  rw [show (i : Int) - j = (k : Int) by omega]
theorem len_sg (s : Str) (sg : List PyData) (P : List (List Int)) (st m : Nat) (w : Str) (x6 : Option OV) (h : w ∈ KN) : cCB cLen (cCons (cVar 5) cNil) (G s sg P st m (some (.d (sgD w))) x6) = some (.d (.int (dgN w))) := by
  rw [cb_ok (x := .d (sgD w)) (r := .int (dgN w)) rfl ?_]
  show some (PyData.int (((bk w).map rowD).length : Nat)) = _
  rw [List.length_map, (f_sh w h).1]
theorem app_ok {a : CE} {ρ : DEnv} {i : Nat} {xs : List OV} {d : PyData} (hg : getL ρ i = some xs) (ha : a ρ = some (.d d)) (hl : xs.length < sizeLine) : cApp i a ρ = some (.nx (ρ.set i (some (.lst (xs ++ [.d d]))))) := by
  unfold cApp
  rw [hg, Option.bind_some, ha, Option.bind_some, if_pos ⟨rfl, hl⟩]
theorem row_ok (s : Str) (sg : List PyData) (P : List (List Int)) (st m : Nat) (w : Str) (r : List Int) (h : w ∈ KN) (hr : r.length = dgN w) (hm : m ≤ 1000) (hst : st + dgN w ≤ m) : cRx (G s sg P st m (some (.d (sgD w))) (some (.d (rowD r)))) = some (.d (rowD (padR st (m - st - dgN w) r))) := by
  have a1 := z_ok (k := cVar 3) (ρ := G s sg P st m (some (.d (sgD w))) (some (.d (rowD r)))) (n := st) rfl (by omega)
  have a2 := add_tup (y := r) a1 (b := cVar 6) rfl (by rw [List.length_replicate]; have e' : sizeLine = 16777216 := rfl; omega)
  have a3 := sub_ok (a := cVar 4) (b := cVar 3) (ρ := G s sg P st m (some (.d (sgD w))) (some (.d (rowD r)))) (i := m) (j := st) (k := m - st) rfl rfl (by omega)
  have a4 := sub_ok a3 (len_sg s sg P st m w _ h) (k := m - st - dgN w) (by omega)
  have a5 := z_ok a4 (by omega)
  exact add_tup a2 a5 (by rw [List.length_append, List.length_replicate, List.length_replicate]; have e' : sizeLine = 16777216 := rfl; omega)
theorem od_app (P : List (List Int)) (r : List Int) : od P ++ [.d (rowD r)] = od (P ++ [r]) := by
  unfold od
  rw [List.map_append]
  rfl
theorem rows_loop (s : Str) (sg : List PyData) (st m : Nat) (w : Str) (h : w ∈ KN) (hm : m ≤ 1000) (hst : st + dgN w ≤ m) : ∀ (rs : List (List Int)) (P : List (List Int)) (x6 : Option OV), (∀ r ∈ rs, r.length = dgN w) → P.length + rs.length ≤ 2000 →
    ∃ y6, cLoop (cgName 6) cRo (rs.map rowD) (G s sg P st m (some (.d (sgD w))) x6) = some (.nx (G s sg (P ++ pad st (m - st - dgN w) rs) st m (some (.d (sgD w))) y6))
  | [], P, x6, _, _ => ⟨x6, by show some _ = some _; unfold pad; rw [List.map_nil, List.append_nil]⟩
  | r :: rs, P, x6, hr, hl => by
    rw [List.length_cons] at hl
    obtain ⟨y6, ih⟩ := rows_loop s sg st m w h hm hst rs (P ++ [padR st (m - st - dgN w) r]) (some (.d (rowD r))) (fun y hy => hr y (List.mem_cons_of_mem _ hy)) (by rw [List.length_append, List.length_singleton]; omega)
    refine ⟨y6, ?_⟩
    have b : cRo (G s sg P st m (some (.d (sgD w))) (some (.d (rowD r)))) = some (.nx (G s sg (P ++ [padR st (m - st - dgN w) r]) st m (some (.d (sgD w))) (some (.d (rowD r))))) := by
      unfold cRo
      rw [app_ok (xs := od P) rfl (row_ok s sg P st m w r h (hr r List.mem_cons_self) hm hst) (by unfold od; rw [List.length_map]; have e' : sizeLine = 16777216 := rfl; omega), od_app]
      rfl
    show (some (G s sg P st m (some (.d (sgD w))) (some (.d (rowD r))))).bind _ = _
    rw [Option.bind_some, b, Option.bind_some]
    show cLoop (cgName 6) cRo (rs.map rowD) _ = _
    rw [ih]
    unfold pad
    rw [List.map_cons, List.append_assoc]
    rfl
theorem bl_ok (s : Str) (sg : List PyData) (P : List (List Int)) (st m : Nat) (w : Str) (x6 : Option OV) (h : w ∈ KN) (hm : m ≤ 1000) (hst : st + dgN w ≤ m) (hP : P.length ≤ 1000) :
    ∃ y6, cBl (G s sg P st m (some (.d (sgD w))) x6) = some (.nx (G s sg (P ++ pad st (m - st - dgN w) (bk w)) (st + dgN w) m (some (.d (sgD w))) y6)) := by
  obtain ⟨f1, f2⟩ := f_sh w h
  obtain ⟨y6, e⟩ := rows_loop s sg st m w h hm hst (bk w) P x6 f2 (by have := dg_le w h; omega)
  refine ⟨y6, ?_⟩
  have e1 : cRl (G s sg P st m (some (.d (sgD w))) x6) = some (.nx (G s sg (P ++ pad st (m - st - dgN w) (bk w)) st m (some (.d (sgD w))) y6)) := e
  unfold cBl
  rw [seq_ok e1]
  have l := len_sg s sg (P ++ pad st (m - st - dgN w) (bk w)) st m w y6 h
  have e3 : ((st + dgN w : Nat) : Int) = (st : Int) + dgN w := by omega
  have a : cOp cAdd (cVar 3) (cCB cLen (cCons (cVar 5) cNil)) (G s sg (P ++ pad st (m - st - dgN w) (bk w)) st m (some (.d (sgD w))) y6) = some (.d (.int ((st + dgN w : Nat) : Int))) := by
    unfold cOp
    rw [l, e3]
    rfl
  unfold cSet
  rw [a, Option.bind_some, if_pos (show argOk (OV.d (PyData.int ((st + dgN w : Nat) : Int))) = true from rfl)]
  rfl
theorem bl_loop (s : Str) (sg : List PyData) (m : Nat) (hm : m ≤ 1000) : ∀ (ws : List Str) (P : List (List Int)) (st : Nat) (x5 x6 : Option OV), (∀ w ∈ ws, w ∈ KN) → P.length = st → st + sumN ws = m →
    ∃ y5 y6, cLoop (cgName 5) cBl (ws.map sgD) (G s sg P st m x5 x6) = some (.nx (G s sg (P ++ rowsOf m st ws) m m y5 y6))
  | [], P, st, x5, x6, _, hP, hs => by
    have e0 : sumN [] = 0 := rfl
    have : st = m := by rw [e0] at hs; omega
    subst this
    refine ⟨x5, x6, ?_⟩
    show some _ = some _
    rw [show rowsOf st st [] = [] from rfl, List.append_nil]
  | w :: ws, P, st, x5, x6, h, hP, hs => by
    have es : sumN (w :: ws) = dgN w + sumN ws := rfl
    rw [es] at hs
    have hw := h w List.mem_cons_self
    obtain ⟨y6, b⟩ := bl_ok s sg P st m w x6 hw hm (by omega) (by omega)
    obtain ⟨z5, z6, ih⟩ := bl_loop s sg m hm ws (P ++ pad st (m - st - dgN w) (bk w)) (st + dgN w) (some (.d (sgD w))) y6 (fun y hy => h y (List.mem_cons_of_mem _ hy))
      (by rw [List.length_append, hP]; unfold pad; rw [List.length_map, (f_sh w hw).1]) (by omega)
    refine ⟨z5, z6, ?_⟩
    show (some (G s sg P st m (some (.d (sgD w))) x6)).bind _ = _
    rw [Option.bind_some, b, Option.bind_some]
    show cLoop (cgName 5) cBl (ws.map sgD) _ = _
    rw [ih, show rowsOf m st (w :: ws) = pad st (m - st - dgN w) (bk w) ++ rowsOf m (st + dgN w) ws from rfl, List.append_assoc]
def cA1 : CS := cParO [1, 2, 3] (cConsO (cNE (cLc (ciList (cM1 cSplitR (cVar 0) (cC (.str " ")))) (cgName 7) cYes (cCall c__law_single (cCons (cVar 7) cNil)) [7])) (cConsN (cLstN cNil) (cConsO (cC (.int 0)) cNil)))
def cA2 : CS := cSet 4 (cCB cSumA (cCons (cNE (cLc (ciList (cVar 1)) (cgName 5) cYes (cCB cLen (cCons (cVar 5) cNil)) [5])) cNil))
def cA3 : CS := cFor (ciList (cVar 1)) (cgName 5) cBl
def cA4 : CS := cFrz 2 (cRet (cCB cTupC (cCons (cVar 2) cNil)))
theorem lb_eq : cs__law_blocks = cSeq cA1 (cSeq cA2 (cSeq cA3 cA4)) := rfl
theorem vws_od : ∀ P : List (List Int), vws (od P) = P.map rowD
  | [] => rfl
  | r :: P => by
    show rowD r :: vws (od P) = _
    rw [vws_od P]
    rfl
theorem okvs_od : ∀ P : List (List Int), okvs (od P) = true
  | [] => rfl
  | r :: P => by
    show (true && okvs (od P)) = true
    rw [okvs_od P]
    rfl
theorem blocks_ok (s : Str) (hs : s.cps.size ≤ 100) (ha : ∀ w ∈ wd s, w ∈ KN) (hm : sumN (wd s) ≤ 1000) : c__law_blocks [.d (.str s)] = some (.tuple ((rowsOf (sumN (wd s)) 0 (wd s)).map rowD)) := by
  have lw : (wd s).length ≤ sizeLine := by
    have := wd_len s
    have e : sizeLine = 16777216 := rfl
    omega
  have e0 : cNE (cLc (ciList (cM1 cSplitR (cVar 0) (cC (.str " ")))) (cgName 7) cYes (cCall c__law_single (cCons (cVar 7) cNil)) [7]) (startD N__law_blocks [.d (.str s)]) = some (.d (.list ((wd s).map sgD))) :=
    lc_strs (wd s) (by simp [ciList, cM1, cVar, startD, N__law_blocks, cC, cSplitR, sp_cps, split_wd, Str.length, sizeLine, show s.cps.size ≤ 16777214 by omega]) (fun w hw => by
      have := single_ok (ha w hw)
      simp [cCall, cCons, cVar, cNil, wipeD, argOk, this, startD, N__law_blocks, sgD]) lw
  have e1 : cA1 (startD N__law_blocks [.d (.str s)]) = some (.nx [some (.d (.str s)), some (.d (.list ((wd s).map sgD))), some (.lst []), some (.d (.int 0)), none, none, none, none]) := by
    simp [cA1, cParO, cConsO, cConsN, e0, argOk, cLstN, cNil, ovs, sizeLine, cC, setsR]
    simp [startD, N__law_blocks]
  have e2a : cNE (cLc (ciList (cVar 1)) (cgName 5) cYes (cCB cLen (cCons (cVar 5) cNil)) [5]) [some (.d (.str s)), some (.d (.list ((wd s).map sgD))), some (.lst []), some (.d (.int 0)), none, none, none, none] = some (.d (.list ((wd s).map fun w => .int (dgN w)))) := by
    have h := lc_any (i := 5) (ci := ciList (cVar 1)) (ca := cCB cLen (cCons (cVar 5) cNil)) (vs := [5]) (f := fun x => match x with
      | .tuple ys => .int ys.length
      | x => x) (ρ := [some (.d (.str s)), some (.d (.list ((wd s).map sgD))), some (.lst []), some (.d (.int 0)), none, none, none, none]) ((wd s).map sgD) rfl (fun x hx => by
        obtain ⟨w, _, e⟩ := List.mem_map.mp hx
        subst e
        rfl) (by rw [List.length_map]; exact lw)
    rw [h, List.map_map]
    congr 3
    refine List.map_congr_left fun w hw => ?_
    show PyData.int (((bk w).map rowD).length : Nat) = _
    rw [List.length_map, (f_sh w (ha w hw)).1]
  have e2 : cA2 [some (.d (.str s)), some (.d (.list ((wd s).map sgD))), some (.lst []), some (.d (.int 0)), none, none, none, none] = some (.nx (G s ((wd s).map sgD) [] 0 (sumN (wd s)) none none)) := by
    have q : cCB cSumA (cCons (cNE (cLc (ciList (cVar 1)) (cgName 5) cYes (cCB cLen (cCons (cVar 5) cNil)) [5])) cNil) [some (.d (.str s)), some (.d (.list ((wd s).map sgD))), some (.lst []), some (.d (.int 0)), none, none, none, none] = some (.d (.int (sumN (wd s)))) := by
      refine cb_ok e2a ?_
      show ((ints? ((wd s).map fun w => PyData.int (dgN w))).map fun ns => PyData.int ns.sum) = _
      rw [LQ.ints_map, Option.map_some, sumN_int]
    unfold cA2 cSet
    rw [q]
    rfl
  obtain ⟨y5, y6, e3⟩ := bl_loop s ((wd s).map sgD) (sumN (wd s)) hm (wd s) [] 0 none none ha rfl (by omega)
  have e3' : cA3 (G s ((wd s).map sgD) [] 0 (sumN (wd s)) none none) = some (.nx (G s ((wd s).map sgD) (rowsOf (sumN (wd s)) 0 (wd s)) (sumN (wd s)) (sumN (wd s)) y5 y6)) := e3
  generalize rowsOf (sumN (wd s)) 0 (wd s) = R at e3' ⊢
  have e4 : cA4 (G s ((wd s).map sgD) R (sumN (wd s)) (sumN (wd s)) y5 y6) = some (.rt (.tuple (R.map rowD))) := by
    have f1 : frzAt (G s ((wd s).map sgD) R (sumN (wd s)) (sumN (wd s)) y5 y6) 2 = (G s ((wd s).map sgD) R (sumN (wd s)) (sumN (wd s)) y5 y6).set 2 (some (.d (.list (R.map rowD)))) := by
      show (if okvs (od R) = true then (G s ((wd s).map sgD) R (sumN (wd s)) (sumN (wd s)) y5 y6).set 2 (some (.d (.list (vws (od R))))) else _) = _
      rw [if_pos (okvs_od R), vws_od]
    unfold cA4 cFrz
    rw [f1]
    exact ret_ok (cb_ok (x := .d (.list (R.map rowD))) rfl rfl) rfl
  unfold c__law_blocks cRof
  rw [if_pos (show [OV.d (PyData.str s)].length = 1 from rfl), lb_eq, seq_ok e1, seq_ok e2, seq_ok e3', e4]
  rfl
theorem strs_map : ∀ ws : List Str, DL.strs? (ws.map PyData.str) = some ws
  | [] => rfl
  | w :: ws => by
    show (DL.strs? (ws.map PyData.str)).map (w :: ·) = _
    rw [strs_map ws]
    rfl
end LB

/-! ==== PO02 ==== -/
set_option Elab.async false
set_option linter.all false
set_option maxRecDepth 100000
set_option maxHeartbeats 4000000
/-! ## a drawn type, its matrix -/
namespace LB
open PySem PySem.Spec PyProof.Rows L2 DL LW LQ
def Mx (n : Nat) (M : List (List Int)) : Prop := Sq n M ∧ ∀ r ∈ M, ∀ x ∈ r, -100 ≤ x ∧ x ≤ 100
theorem bk_small : ∀ w ∈ KN, ∀ r ∈ bk w, ∀ x ∈ r, -100 ≤ x ∧ x ≤ 100 := by decide +kernel
theorem rowsOf_mx (m : Nat) : ∀ (ws : List Str) (st : Nat), (∀ w ∈ ws, w ∈ KN) → st + sumN ws = m → (rowsOf m st ws).length = sumN ws ∧ (∀ r ∈ rowsOf m st ws, r.length = m) ∧ ∀ r ∈ rowsOf m st ws, ∀ x ∈ r, -100 ≤ x ∧ x ≤ 100
  | [], _, _, _ => ⟨rfl, nofun, nofun⟩
  | w :: ws, st, h, hs => by
    have es : sumN (w :: ws) = dgN w + sumN ws := rfl
    rw [es] at hs ⊢
    have hw := h w List.mem_cons_self
    obtain ⟨i1, i2, i3⟩ := rowsOf_mx m ws (st + dgN w) (fun y hy => h y (List.mem_cons_of_mem _ hy)) (by omega)
    have er : rowsOf m st (w :: ws) = pad st (m - st - dgN w) (bk w) ++ rowsOf m (st + dgN w) ws := rfl
    rw [er]
    refine ⟨?_, fun r hr => ?_, fun r hr x hx => ?_⟩
    · rw [List.length_append, i1]
      unfold pad
      rw [List.length_map, (f_sh w hw).1]
    · rcases List.mem_append.mp hr with z | z
      · obtain ⟨r0, h0, e0⟩ := List.mem_map.mp z
        rw [← e0]
        unfold padR
        rw [List.length_append, List.length_append, List.length_replicate, List.length_replicate, (f_sh w hw).2 r0 h0]
        omega
      · exact i2 r z
    · rcases List.mem_append.mp hr with z | z
      · obtain ⟨r0, h0, e0⟩ := List.mem_map.mp z
        rw [← e0] at hx
        unfold padR at hx
        rcases List.mem_append.mp hx with hx | hx
        · rcases List.mem_append.mp hx with hx | hx
          · rw [List.eq_of_mem_replicate hx]; decide
          · exact bk_small w hw r0 h0 x hx
        · rw [List.eq_of_mem_replicate hx]; decide
      · exact i3 r z x hx
theorem kn_size : ∀ w ∈ KN, w.cps.size = 2 := by decide +kernel
theorem names_all : ∀ k ∈ List.range 9, k = 0 ∨ (match c__law_names [.d (.int (k : Nat))] with
    | some (.list ys) => ((ys.all fun y => match y with
      | .str w => decide (w ∈ KN) && decide (dgN w = k)
      | _ => false) && decide (1 ≤ ys.length ∧ ys.length ≤ 10))
    | _ => false) = true := by decide +kernel
theorem names_ok (k : Nat) (h1 : 1 ≤ k) (h2 : k ≤ 8) : ∃ ys : List PyData, c__law_names [.d (.int k)] = some (.list ys) ∧ (1 ≤ ys.length ∧ ys.length ≤ 10) ∧ ∀ y ∈ ys, ∃ w : Str, y = .str w ∧ w ∈ KN ∧ dgN w = k := by
  rcases names_all k (List.mem_range.mpr (by omega)) with h | h
  · omega
  · split at h
    · rename_i ys e
      obtain ⟨a, b⟩ := He.ba h
      have b' := of_decide_eq_true b
      refine ⟨ys, e, b', fun y hy => ?_⟩
      have c := List.all_eq_true.mp a y hy
      split at c
      · obtain ⟨c1, c2⟩ := He.ba c
        exact ⟨_, rfl, of_decide_eq_true c1, of_decide_eq_true c2⟩
      · cases c
    · cases h
/-- a drawn name of so many nodes -/
theorem he_name {e : DE} {ρ : DEnv} {P : OV → Prop} (lo hi : Nat) (he : HE e ρ P) (hp : ∀ x, P x → ∃ k : Nat, x = .d (.int k) ∧ lo ≤ k ∧ k ≤ hi) (h1 : 1 ≤ lo) (h2 : hi ≤ 8) (h0 : ρ[0]? = some (some .pot) := by rfl) : HE (dCall R__law_pick (dCons (dVar 0) (dCons (dCall R__law_names (dCons e dNil)) dNil))) ρ fun x => ∃ d, x = .d d ∧ ∃ w : Str, d = .str w ∧ w ∈ KN ∧ lo ≤ dgN w ∧ dgN w ≤ hi := by
  refine he_pick ?_ h0
  refine he_imp (he_call (Pr := fun r => ∃ ds, r = .list ds ∧ (1 ≤ ds.length ∧ ds.length ≤ 100000) ∧ ∀ d ∈ ds, ∃ w : Str, d = .str w ∧ w ∈ KN ∧ lo ≤ dgN w ∧ dgN w ≤ hi) (ha_cons he ha_nil) fun xs ⟨x, ys, e1, e2, e3⟩ => ?_) fun x ⟨r, e, ds, e2, p⟩ => ⟨ds, by rw [e, e2], p⟩
  subst e1 e3
  obtain ⟨k, rfl, k1, k2⟩ := hp x e2
  obtain ⟨ys, e, l, p⟩ := names_ok k (by omega) (by omega)
  exact ⟨rfl, EvF.ev e ⟨ys, rfl, ⟨l.1, by omega⟩, fun d hd => by
    obtain ⟨w, q1, q2, q3⟩ := p d hd
    exact ⟨w, q1, q2, by omega, by omega⟩⟩⟩
def tyB : DS := (dIfS (dTest (dOp dGt (dVar 2) (dC (.int 0)))) (dSeq (dSet 5 (dIf (dTest (dOp dGt (dCall Rdraw (dCons (dVar 0) (dCons (dC (.int 3)) dNil))) (dC (.int 0)))) (dVar 2) (dOp dAdd (dC (.int 1)) (dCall Rdraw (dCons (dVar 0) (dCons (dVar 2) dNil)))))) (dSeq (dApp 3 (dCall R__law_pick (dCons (dVar 0) (dCons (dCall R__law_names (dCons (dVar 5) dNil)) dNil)))) (dSet 2 (dOp dSub (dVar 2) (dVar 5))))) dNext)
def TE2 (most left : Nat) (ws : List Str) (x4 x5 : Option OV) : DEnv := [some .pot, some (.d (.int most)), some (.d (.int left)), some (.lst ((ws.map PyData.str).map OV.d)), x4, x5]
theorem ty_turn (most left : Nat) (ws : List Str) (x4 x5 : Option OV) (D : DEnds) (h8 : left ≤ 8) (hl : ws.length ≤ 100)
    (h0 : left = 0 → D.nx (TE2 most left ws x4 x5)) (h1 : ∀ (w : Str) (x5' : Option OV), w ∈ KN → 1 ≤ dgN w → dgN w ≤ left → D.nx (TE2 most (left - dgN w) (ws ++ [w]) x4 x5')) : tyB D (TE2 most left ws x4 x5) := by
  refine st_if0 (PB := fun c => c = decide (0 < (left : Int))) (fun Q q => q _ rfl) (fun hc => ?_) fun hc => h0 (by have := of_decide_eq_false hc.symm; omega)
  have hp : 0 < left := by have := of_decide_eq_true hc.symm; omega
  have m1 : HE (dIf (dTest (dOp dGt (dCall Rdraw (dCons (dVar 0) (dCons (dC (.int 3)) dNil))) (dC (.int 0)))) (dVar 2) (dOp dAdd (dC (.int 1)) (dCall Rdraw (dCons (dVar 0) (dCons (dVar 2) dNil))))) (TE2 most left ws x4 x5) (TI 1 left) :=
    he_if (PB := fun _ => True) (ht_anyc (he_drawc (by decide) (by decide)) he_ci) (fun _ => he_vi (i := 2) rfl (by omega) (Int.le_refl _)) fun _ => he_wide (he_add he_ci (he_draw (n := left) (he_var (i := 2) rfl) (by omega) (by omega))) (by omega) (by omega)
  refine st_setI m1 fun z za zb => ?_
  obtain ⟨k, rfl⟩ : ∃ k : Nat, z = k := ⟨z.toNat, by omega⟩
  refine (show dApp 3 _ { D with nx := fun ρ' => dSet 2 (dOp dSub (dVar 2) (dVar 5)) D ρ' } (TE2 most left ws x4 (some (.d (.int k)))) from ?_)
  refine st_app (ds := ws.map .str) rfl (by rw [List.length_map]; omega) (he_name k k (he_var (i := 5) rfl) (fun x e => ⟨k, e, Nat.le_refl _, Nat.le_refl _⟩) (by omega) (by omega)) fun d hd => ?_
  obtain ⟨w, rfl, hw, w1, w2⟩ := hd
  have ek : dgN w = k := by omega
  refine ⟨rfl, ?_⟩
  have := h1 w (some (.d (.int k))) hw (by omega) (by omega)
  unfold TE2 at this
  rw [List.map_append, ek, show ((left - k : Nat) : Int) = (left : Int) - k by omega] at this
  exact this
theorem type_ok {most : Nat} (hm1 : 1 ≤ most) (hm2 : most ≤ 8) {Q : PyData → Prop} (h : ∀ ws : List Str, ws ≠ [] → (∀ w ∈ ws, w ∈ KN) → sumN ws ≤ most → ws.length ≤ 8 → Q (.str (Str.join sp ws))) : R__law_type [.pot, .d (.int most)] Q := by
  refine ⟨rfl, ?_⟩
  refine (show dCall Rdraw (dCons (dVar 0) (dCons (dVar 1) dNil)) (startD N__law_type [.pot, .d (.int most)]) (fun y => dAdd (.d (.int 1)) y _) from ?_)
  refine call_draw (n := most) rfl (fun Q' q => q) (by omega) (by omega) fun r a b => ?_
  obtain ⟨k, rfl⟩ : ∃ k : Nat, r = k := ⟨r.toNat, by omega⟩
  refine ⟨rfl, [], rfl, by decide, rfl, ⟨by decide, by decide⟩, ?_⟩
  refine (show dLoop (dgName 4) tyB (rngD 0 8) { nx := fun ρ' => dFrz 3 (dRet (dM1 dJoinR (dC (.str " ")) (dVar 3))) { nx := fun _ => Q .none, rt := Q } ρ', rt := Q } [some .pot, some (.d (.int most)), some (.d (.int (1 + (k : Int)))), some (.lst []), none, none] from ?_)
  rw [show (1 : Int) + (k : Int) = ((1 + k : Nat) : Int) by omega]
  refine dLoop_inv (fun j ρ => ∃ left ws x4 x5, ρ = TE2 most left ws x4 x5 ∧ left + sumN ws = 1 + k ∧ (∀ w ∈ ws, w ∈ KN) ∧ ws.length ≤ j ∧ (1 ≤ j → ws ≠ [])) _ 0 _ ⟨1 + k, [], none, none, rfl, rfl, nofun, Nat.le_refl _, fun z => absurd z (by decide)⟩ ?_ ?_
  · rintro j x ρ D' hx ⟨left, ws, x4, x5, rfl, hs, hw, hl, hj⟩ nx _ _ _
    have hj8 : j < 8 := by
      have := (List.getElem?_eq_some_iff.mp hx).1
      rw [rngD_len] at this
      exact this
    refine (show tyB D' (TE2 most left ws (some (.d x)) x5) from ty_turn most left ws _ x5 D' (by omega) (by omega) (fun e0 => nx _ ⟨left, ws, _, x5, rfl, hs, hw, by omega, fun _ => ?_⟩) fun w x5' w1 w2 w3 => nx _ ⟨left - dgN w, ws ++ [w], _, x5', rfl, ?_, fun y hy => ?_, by rw [List.length_append, List.length_singleton]; omega, fun _ => by simp⟩)
    · intro e
      rw [e] at hs
      have : sumN [] = 0 := rfl
      omega
    · unfold sumN at hs ⊢
      rw [List.map_append, List.sum_append]
      show left - dgN w + ((ws.map dgN).sum + (dgN w + 0)) = 1 + k
      omega
    · rcases List.mem_append.mp hy with z | z
      · exact hw y z
      · rw [List.mem_singleton.mp z]
        exact w1
  · rintro ρ ⟨left, ws, x4, x5, rfl, hs, hw, hl, hj⟩
    rw [rngD_len] at hl hj
    have hn := hj (by decide)
    have e : cM1 cJoinR (cC (.str " ")) (cVar 3) [some .pot, some (.d (.int most)), some (.d (.int left)), some (.d (.list (ws.map .str))), x4, x5] = some (.d (.str (Str.join sp ws))) := by
      show cJoinR (.d (.str sp)) (.d (.list (ws.map PyData.str))) = _
      show (DL.strs? (ws.map PyData.str)).bind _ = _
      rw [strs_map, Option.bind_some]
      have s2 : ∀ us : List Str, (∀ w ∈ us, w ∈ KN) → (us.map (·.length)).sum ≤ 2 * us.length := fun us => by
        induction us with
        | nil => exact fun _ => Nat.le_refl _
        | cons w us ih =>
          intro hu
          have := ih fun y hy => hu y (List.mem_cons_of_mem _ hy)
          have k2 := kn_size w (hu w List.mem_cons_self)
          rw [List.map_cons, List.sum_cons, List.length_cons]
          have : w.length = w.cps.size := rfl
          omega
      have s3 := s2 ws hw
      rw [if_pos (by have : sp.length = 1 := sp_one; rw [this]; omega)]
      show some (OV.d (.str (Txt.join sp ws))) = _
      rw [show Txt.join sp ws = Str.join sp ws from PySem.StrLaws.glued_eq_join sp ws]
    refine (show dFrz 3 (dRet (dM1 dJoinR (dC (.str " ")) (dVar 3))) { nx := fun _ => Q .none, rt := Q } (TE2 most left ws x4 x5) from st_frz (ds := ws.map .str) rfl ?_)
    refine st_ret (P := fun d => d = .str (Str.join sp ws)) (he_imp (he_ev e) fun x e => ⟨_, e, rfl⟩) fun d e => ?_
    rw [e]
    exact h ws hn hw (by omega) hl
end LB

/-! ==== PQ02 ==== -/
set_option Elab.async false
set_option linter.all false
set_option maxRecDepth 100000
set_option maxHeartbeats 4000000
/-! ## nodes in another order; two as one; the matrix of a drawn type -/
namespace LB
open PySem PySem.Spec PyProof.Rows L2 DL LW LQ
def natD' (os : List Nat) : List PyData := os.map fun i => PyData.int (i : Nat)
theorem nats_of {n : Nat} : ∀ {ys : List PyData}, (∀ y ∈ ys, y ∈ rngD 0 n) → ∃ os : List Nat, ys = natD' os ∧ ∀ o ∈ os, o < n
  | [], _ => ⟨[], rfl, nofun⟩
  | y :: ys, h => by
    obtain ⟨os, e, ho⟩ := nats_of (ys := ys) fun z hz => h z (List.mem_cons_of_mem _ hz)
    have h1 := h y List.mem_cons_self
    rw [rngD_eq] at h1
    obtain ⟨i, hi, ei⟩ := List.mem_map.mp h1
    refine ⟨i :: os, by rw [e, ← ei]; rfl, fun o ho' => ?_⟩
    rcases List.mem_cons.mp ho' with e2 | e2
    · rw [e2]
      exact List.mem_range.mp hi
    · exact ho o e2
def led (M : List (List Int)) (os : List Nat) : List (List Int) := os.map fun i => os.map fun j => ent M i j
theorem ent_mem {n : Nat} {M : List (List Int)} (h : Mx n M) {i j : Nat} (hi : i < n) (hj : j < n) : -100 ≤ ent M i j ∧ ent M i j ≤ 100 := by
  obtain ⟨r, h1, h2, _⟩ := h.1.at hi hj
  exact h.2 r (List.mem_of_getElem? h1) _ (List.mem_of_getElem? h2)
theorem led_mx {n : Nat} {M : List (List Int)} (h : Mx n M) {os : List Nat} (ho : ∀ o ∈ os, o < n) : Mx os.length (led M os) := by
  refine ⟨⟨by unfold led; rw [List.length_map], fun r hr => ?_⟩, fun r hr x hx => ?_⟩
  · obtain ⟨i, _, rfl⟩ := List.mem_map.mp hr
    rw [List.length_map]
  · obtain ⟨i, hi, rfl⟩ := List.mem_map.mp hr
    obtain ⟨j, hj, rfl⟩ := List.mem_map.mp hx
    exact ent_mem h (ho i hi) (ho j hj)
theorem tup_list {a : CE} {ρ : DEnv} {ds : List PyData} (h : a ρ = some (.d (.list ds))) : cCB cTupC (cCons a cNil) ρ = some (.d (.tuple ds)) := LQ.cb_ok h rfl
theorem led_ok {n : Nat} {M : List (List Int)} (h : Sq n M) {os : List Nat} (ho : ∀ o ∈ os, o < n) (hl : os.length ≤ 1000) : c__law_led_nodes [.d (matD M), .d (.list (natD' os))] = some (matD (led M os)) := by
  show (cs__law_led_nodes [some (.d (matD M)), some (.d (.list (natD' os))), none, none]).bind Out.val = _
  refine congrArg (Option.bind · Out.val) (LQ.ret_ok (x := .d (matD (led M os))) ?_ rfl) |>.trans rfl
  have inner : ∀ i ∈ os, cCB cTupC (cCons (cNE (cLc (ciList (cVar 1)) (cgName 3) cYes (cOp cIx (cOp cIx (cVar 0) (cVar 2)) (cVar 3)) [3])) cNil) [some (.d (matD M)), some (.d (.list (natD' os))), some (.d (.int (i : Nat))), none] = some (.d (rowD (os.map fun j => ent M i j))) := fun i hi => by
    refine tup_list (ds := (os.map fun j => ent M i j).map .int) ?_
    rw [List.map_map]
    exact lc_gen (fun j : Nat => PyData.int j) (fun j => PyData.int (ent M i j)) os rfl (fun j hj => ⟨_, rfl, ent_ok h (ho i hi) (ho j hj) rfl rfl rfl⟩) (sl_big (by omega))
  have e : led M os = os.map fun i => os.map fun j => ent M i j := rfl
  refine tup_list (ds := (led M os).map rowD) ?_
  rw [e, List.map_map]
  exact lc_gen (fun i : Nat => PyData.int i) (fun i => rowD (os.map fun j => ent M i j)) os rfl (fun i hi => ⟨_, rfl, inner i hi⟩) (sl_big (by omega))
/-- drawn: the nodes in another order -/
theorem he_led {n : Nat} {M : List (List Int)} {i : Nat} {ρ : DEnv} (h : Mx n M) (hn : n ≤ 1000) (hi : ρ[i]? = some (some (.d (matD M)))) (h0 : ρ[0]? = some (some .pot) := by rfl) :
    HE (dCall R__law_led_nodes (dCons (dVar i) (dCons (dCall R__law_mixed (dCons (dVar 0) (dCons (dLstRg (dRg1 (dCB dLen (dCons (dVar i) dNil)))) dNil))) dNil))) ρ fun x => ∃ d, x = .d d ∧ ∃ N, d = matD N ∧ Mx n N := by
  have r1 : HE (dLstRg (dRg1 (dCB dLen (dCons (dVar i) dNil)))) ρ (· = .d (.list (rngD 0 n))) := he_ev (ce := cLstRg (cRg1 (cCB cLen (cCons (cVar i) cNil)))) (by
    have e1 : cCB cLen (cCons (cVar i) cNil) ρ = some (.d (.int n)) := by
      refine LQ.cb_ok (x := .d (matD M)) (by unfold cVar; rw [hi]; rfl) ?_
      show some (PyData.int ((M.map rowD).length : Nat)) = _
      rw [List.length_map, h.1.1]
    show (cRg1 _ ρ).bind _ = _
    have e2 : cRg1 (cCB cLen (cCons (cVar i) cNil)) ρ = some (0, (n : Int)) := by
      unfold cRg1
      rw [e1]
      rfl
    rw [e2, Option.bind_some, if_pos (show RgOk (0 : Int) (n : Int) from by unfold RgOk; omega)]
    show some (OV.d (.list (rngD 0 ((n : Int) - 0).toNat))) = _
    rw [show ((n : Int) - 0).toNat = n by omega])
  have r2 := he_call (R := R__law_mixed) (Pr := fun r => ∃ os : List Nat, r = .list (natD' os) ∧ os.length = n ∧ ∀ o ∈ os, o < n) (ha_cons (he_var h0) (ha_cons r1 ha_nil)) fun xs ⟨x, ys, e1, e2, y, zs, e3, e4, e5⟩ => by
    subst e1 e2 e3 e4 e5
    refine ⟨rfl, mixed_ok (by rw [rngD_len]; exact hn) fun ys hl hy => ?_⟩
    obtain ⟨os, e, ho⟩ := nats_of hy
    refine ⟨os, by rw [e], ?_, ho⟩
    rw [e] at hl
    unfold natD' at hl
    rw [List.length_map, rngD_len] at hl
    exact hl
  refine he_call (R := R__law_led_nodes) (Pr := fun d => ∃ N, d = matD N ∧ Mx n N) (ha_cons (he_var hi) (ha_cons r2 ha_nil)) fun xs ⟨x, ys, e1, e2, y, zs, e3, ⟨r, e4, os, e6, e7, e8⟩, e5⟩ => ?_
  subst e1 e2 e3 e4 e5 e6
  refine ⟨rfl, EvF.ev (led_ok h.1 e8 (by omega)) ⟨_, rfl, ?_⟩⟩
  have := led_mx h e8
  rw [e7] at this
  exact this
theorem cons_ok {a : CE} {r : CN} {ρ : DEnv} {x : OV} {xs : List OV} (ha : a ρ = some x) (hr : r ρ = some xs) : cCons a r ρ = some (x :: xs) := by
  unfold cCons
  rw [ha, Option.bind_some, hr]
  rfl
theorem tup_ok {a : CN} {ρ : DEnv} {xs : List OV} {ds : List PyData} (ha : a ρ = some xs) (h : ovs xs = some ds) (hl : ds.length ≤ sizeLine) : cTup a ρ = some (.d (.tuple ds)) := by
  unfold cTup
  rw [ha, Option.bind_some, h, Option.bind_some, if_pos hl]
theorem lst_ok {a : CN} {ρ : DEnv} {xs : List OV} {ds : List PyData} (ha : a ρ = some xs) (h : ovs xs = some ds) (hl : ds.length ≤ sizeLine) : cLst a ρ = some (.d (.list ds)) := by
  unfold cLst
  rw [ha, Option.bind_some, h, Option.bind_some, if_pos hl]
def put2 (A B : List (List Int)) : List (List Int) := A.map (fun r => r ++ List.replicate B.length 0) ++ B.map fun r => List.replicate A.length 0 ++ r
theorem put_mx {a b : Nat} {A B : List (List Int)} (hA : Mx a A) (hB : Mx b B) : Mx (a + b) (put2 A B) := by
  refine ⟨⟨by unfold put2; rw [List.length_append, List.length_map, List.length_map, hA.1.1, hB.1.1], fun r hr => ?_⟩, fun r hr x hx => ?_⟩
  · rcases List.mem_append.mp hr with z | z
    · obtain ⟨r0, h0, rfl⟩ := List.mem_map.mp z
      rw [List.length_append, List.length_replicate, hA.1.2 r0 h0, hB.1.1]
    · obtain ⟨r0, h0, rfl⟩ := List.mem_map.mp z
      rw [List.length_append, List.length_replicate, hB.1.2 r0 h0, hA.1.1]
  · rcases List.mem_append.mp hr with z | z
    · obtain ⟨r0, h0, rfl⟩ := List.mem_map.mp z
      rcases List.mem_append.mp hx with q | q
      · exact hA.2 r0 h0 x q
      · rw [List.eq_of_mem_replicate q]
        decide
    · obtain ⟨r0, h0, rfl⟩ := List.mem_map.mp z
      rcases List.mem_append.mp hx with q | q
      · rw [List.eq_of_mem_replicate q]
        decide
      · exact hB.2 r0 h0 x q
theorem add_lists {a b : CE} {ρ : DEnv} {xs ys : List PyData} (ha : a ρ = some (.d (.list xs))) (hb : b ρ = some (.d (.list ys))) (hl : xs.length + ys.length ≤ sizeLine) : cOp cAdd a b ρ = some (.d (.list (xs ++ ys))) := by
  refine op_ok ha hb ?_
  show (if xs.length + ys.length ≤ sizeLine then _ else none) = _
  rw [if_pos hl]
theorem put_ok {a b : Nat} {A B : List (List Int)} (hA : Sq a A) (hB : Sq b B) (ha : a ≤ 500) (hb : b ≤ 500) : c__law_put_together [.d (matD A), .d (matD B)] = some (matD (put2 A B)) := by
  have e0 : cs__law_put_together = cSeq (cAsgG (cTup (cCons (cZ (cCB cLen (cCons (cVar 0) cNil))) (cCons (cZ (cCB cLen (cCons (cVar 1) cNil))) cNil))) (cgTup (cgCons (cgName 2) (cgCons (cgName 3) cgNil)))) (cRet (cCB cTupC (cCons (cOp cAdd (cNE (cLc (ciTup (cVar 0)) (cgName 4) cYes (cOp cAdd (cVar 4) (cVar 3)) [4])) (cNE (cLc (ciTup (cVar 1)) (cgName 4) cYes (cOp cAdd (cVar 2) (cVar 4)) [4]))) cNil))) := rfl
  show (cs__law_put_together [some (.d (matD A)), some (.d (matD B)), none, none, none]).bind Out.val = _
  have l1 : cCB cLen (cCons (cVar 0) cNil) [some (.d (matD A)), some (.d (matD B)), none, none, none] = some (.d (.int a)) := by
    refine LQ.cb_ok (x := .d (matD A)) rfl ?_
    show some (PyData.int ((A.map rowD).length : Nat)) = _
    rw [List.length_map, hA.1]
  have l2 : cCB cLen (cCons (cVar 1) cNil) [some (.d (matD A)), some (.d (matD B)), none, none, none] = some (.d (.int b)) := by
    refine LQ.cb_ok (x := .d (matD B)) rfl ?_
    show some (PyData.int ((B.map rowD).length : Nat)) = _
    rw [List.length_map, hB.1]
  have z1 := z_ok l1 (by omega)
  have z2 := z_ok l2 (by omega)
  have e1 : cAsgG (cTup (cCons (cZ (cCB cLen (cCons (cVar 0) cNil))) (cCons (cZ (cCB cLen (cCons (cVar 1) cNil))) cNil))) (cgTup (cgCons (cgName 2) (cgCons (cgName 3) cgNil))) [some (.d (matD A)), some (.d (matD B)), none, none, none] =
      some (.nx [some (.d (matD A)), some (.d (matD B)), some (.d (rowD (List.replicate a 0))), some (.d (rowD (List.replicate b 0))), none]) := by
    have t : cTup (cCons (cZ (cCB cLen (cCons (cVar 0) cNil))) (cCons (cZ (cCB cLen (cCons (cVar 1) cNil))) cNil)) [some (.d (matD A)), some (.d (matD B)), none, none, none] = some (.d (.tuple [rowD (List.replicate a 0), rowD (List.replicate b 0)])) := by
      exact tup_ok (cons_ok z1 (cons_ok z2 rfl)) rfl (by show 2 ≤ sizeLine; decide)
    unfold cAsgG
    rw [t]
    rfl
  rw [e0, LQ.seq_ok e1]
  refine congrArg (Option.bind · Out.val) (LQ.ret_ok (x := .d (matD (put2 A B))) ?_ rfl) |>.trans rfl
  refine tup_list (ds := (put2 A B).map rowD) ?_
  have e : (put2 A B).map rowD = (A.map fun r => rowD (r ++ List.replicate b 0)) ++ B.map fun r => rowD (List.replicate a 0 ++ r) := by
    unfold put2
    rw [List.map_append, List.map_map, List.map_map, hA.1, hB.1]
    rfl
  rw [e]
  have big : sizeLine = 16777216 := rfl
  refine add_lists ?_ ?_ (by rw [List.length_map, List.length_map, hA.1, hB.1]; omega)
  · exact lc_gen rowD (fun r => rowD (r ++ List.replicate b 0)) A rfl (fun r hr => ⟨_, rfl, add_tup (x := r) (y := List.replicate b 0) rfl rfl (by rw [List.length_replicate, hA.2 r hr]; omega)⟩) (sl_big (by rw [hA.1]; omega))
  · exact lc_gen rowD (fun r => rowD (List.replicate a 0 ++ r)) B rfl (fun r hr => ⟨_, rfl, add_tup (x := List.replicate a 0) (y := r) rfl rfl (by rw [List.length_replicate, hB.2 r hr]; omega)⟩) (sl_big (by rw [hB.1]; omega))
end LB

/-! ==== PR02 ==== -/
set_option Elab.async false
set_option linter.all false
set_option maxRecDepth 100000
set_option maxHeartbeats 4000000
namespace LB
open PySem PySem.Spec PyProof.Rows L2 DL LW LQ
/-! ## the matrix of a drawn type; any matrix -/
theorem kn_nosp : ∀ w ∈ KN, 32 ∉ w.cps.toList := by decide +kernel
theorem wd_joinK {ws : List Str} (hne : ws ≠ []) (h : ∀ w ∈ ws, w ∈ KN) : wd (Str.join sp ws) = ws := by
  have e := TL.split_join (y := sp) (s := 32) (S := []) (by decide +kernel) (by decide +kernel) hne fun p hp => kn_nosp p (h p hp)
  rw [show Txt.join sp ws = Str.join sp ws from PySem.StrLaws.glued_eq_join sp ws] at e
  exact e
theorem strs_len : ∀ ws : List Str, (∀ w ∈ ws, w ∈ KN) → ws ≠ [] → (Str.join sp ws).cps.size + 1 = 3 * ws.length
  | [a], h, _ => by
    have := kn_size a (h a List.mem_cons_self)
    show a.cps.size + 1 = 3
    omega
  | a :: b :: r, h, _ => by
    have e : (Str.join sp (a :: b :: r)).cps.size = a.cps.size + sp.cps.size + (Str.join sp (b :: r)).cps.size := by
      show (a.cps ++ sp.cps ++ (Str.join sp (b :: r)).cps).size = _
      rw [Array.size_append, Array.size_append]
    have i := strs_len (b :: r) (fun w hw => h w (List.mem_cons_of_mem _ hw)) (List.cons_ne_nil _ _)
    have k := kn_size a (h a List.mem_cons_self)
    rw [e, sp_one]
    simp only [List.length_cons] at i ⊢
    omega
def dTy : DE := dCall R__law_type (dCons (dVar 0) (dCons (dVar 1) dNil))
theorem he_type {most : Nat} {ρ : DEnv} (hm1 : 1 ≤ most) (hm2 : most ≤ 8) (h0 : ρ[0]? = some (some .pot)) (h1 : ρ[1]? = some (some (.d (.int most)))) : HE dTy ρ fun x => ∃ r, x = .d r ∧ ∃ ws : List Str, r = .str (Str.join sp ws) ∧ ws ≠ [] ∧ (∀ w ∈ ws, w ∈ KN) ∧ sumN ws ≤ most ∧ ws.length ≤ 8 :=
  he_call (R := R__law_type) (ha_cons (he_var h0) (ha_cons (he_var h1) ha_nil)) fun xs ⟨x, ys, e1, e2, y, zs, e3, e4, e5⟩ => by
    subst e1 e2 e3 e4 e5
    exact ⟨rfl, type_ok hm1 hm2 fun ws a b c d => ⟨ws, rfl, a, b, c, d⟩⟩
def IsMx (most : Nat) (d : PyData) : Prop := ∃ (n : Nat) (M : List (List Int)), d = matD M ∧ 1 ≤ n ∧ n ≤ most ∧ Mx n M
theorem he_blocks {most : Nat} {ρ : DEnv} (hm1 : 1 ≤ most) (hm2 : most ≤ 8) (h0 : ρ[0]? = some (some .pot)) (h1 : ρ[1]? = some (some (.d (.int most)))) : HE (dCall R__law_blocks (dCons dTy dNil)) ρ fun x => ∃ r, x = .d r ∧ IsMx most r :=
  he_call (R := R__law_blocks) (ha_cons (he_type hm1 hm2 h0 h1) ha_nil) fun xs ⟨x, ys, e1, ⟨r, e2, ws, e3, hne, hk, hs, hl⟩, e4⟩ => by
    subst e1 e2 e3 e4
    have ew := wd_joinK hne hk
    have el := strs_len ws hk hne
    have hb := blocks_ok (Str.join sp ws) (by omega) (by rw [ew]; exact hk) (by rw [ew]; omega)
    rw [ew] at hb
    obtain ⟨r1, r2, r3⟩ := rowsOf_mx (sumN ws) ws 0 hk (by omega)
    refine ⟨rfl, EvF.ev hb ⟨sumN ws, rowsOf (sumN ws) 0 ws, rfl, ?_, hs, ⟨⟨r1, r2⟩, r3⟩⟩⟩
    cases ws with
    | nil => exact absurd rfl hne
    | cons w ws =>
      have := kn_pos w (hk w List.mem_cons_self)
      show 1 ≤ dgN w + sumN ws
      omega
def dMt : DS := dRet (dIf (dTest (dOp dEq (dCall Rdraw (dCons (dVar 0) (dCons (dC (.int 2)) dNil))) (dC (.int 0)))) (dCall R__law_led_nodes (dCons (dVar 2) (dCons (dCall R__law_mixed (dCons (dVar 0) (dCons (dLstRg (dRg1 (dCB dLen (dCons (dVar 2) dNil)))) dNil))) dNil))) (dVar 2))
theorem mat_eq : ds__law_matrix = dSeq (dSet 2 (dCall R__law_blocks (dCons dTy dNil))) dMt := rfl
theorem matrix_ok {most : Nat} (hm1 : 1 ≤ most) (hm2 : most ≤ 8) {Q : PyData → Prop} (h : ∀ (n : Nat) (M : List (List Int)), 1 ≤ n → n ≤ most → Mx n M → Q (matD M)) : R__law_matrix [.pot, .d (.int most)] Q := by
  refine ⟨rfl, ?_⟩
  rw [mat_eq]
  refine st_setD (he_blocks hm1 hm2 rfl rfl) ?_
  rintro d ⟨n, M, rfl, n1, n2, hM⟩
  refine (show dMt { nx := fun _ => Q .none, rt := Q } [some .pot, some (.d (.int most)), some (.d (matD M))] from ?_)
  refine st_ret (P := fun d => ∃ N, d = matD N ∧ Mx n N) (he_if (PB := fun _ => True) (ht_any (he_drawc (by decide) (by decide))) (fun _ => he_led hM (by omega) rfl) fun _ => he_imp (he_var (i := 2) rfl) fun x e => ⟨matD M, e, M, rfl, hM⟩) ?_
  rintro d ⟨N, rfl, hN⟩
  exact h n N n1 n2 hN
/-! ### any matrix -/
def ovR (r : List Int) : OV := .lst (r.map fun x => .d (.int x))
def ov (R : List (List Int)) : List OV := R.map ovR
def set2 (R : List (List Int)) (i j : Nat) (v : Int) : List (List Int) := match R[i]? with
  | some r => R.set i (r.set j v)
  | none => R
theorem ov_len (R : List (List Int)) : (ov R).length = R.length := by
  unfold ov
  rw [List.length_map]
theorem set2_mx {n : Nat} {R : List (List Int)} (h : Mx n R) (i j : Nat) {v : Int} (hv : -100 ≤ v ∧ v ≤ 100) : Mx n (set2 R i j v) := by
  unfold set2
  split
  · rename_i r hr
    have hm := List.mem_of_getElem? hr
    refine ⟨⟨by rw [List.length_set]; exact h.1.1, fun s hs => ?_⟩, fun s hs x hx => ?_⟩
    · rcases List.mem_or_eq_of_mem_set hs with z | z
      · exact h.1.2 s z
      · rw [z, List.length_set]
        exact h.1.2 r hm
    · rcases List.mem_or_eq_of_mem_set hs with z | z
      · exact h.2 s z x hx
      · rw [z] at hx
        rcases List.mem_or_eq_of_mem_set hx with y | y
        · exact h.2 r hm x y
        · rw [y]
          exact hv
  · exact h
theorem ixN_lt {n i : Nat} (h : i < n) : ixN n (i : Int) = some i := by
  unfold ixN
  rw [if_pos (Int.natCast_nonneg i), if_pos (by omega)]
  rfl
theorem st_set2 {r : Nat} {a b c : DE} {D : DEnds} {ρ : DEnv} {n i j : Nat} {R : List (List Int)} (hg : ρ[r]? = some (some (.lst (ov R)))) (h : Mx n R) (ha : HE a ρ (TI (-100) 100)) (hb : HE b ρ (· = .d (.int (i : Nat)))) (hc : HE c ρ (· = .d (.int (j : Nat)))) (hi : i < n) (hj : j < n)
    (k : ∀ R', Mx n R' → D.nx (ρ.set r (some (.lst (ov R'))))) : dSet2 r a b c D ρ := by
  unfold dSet2 getL
  rw [hg]
  refine ha _ fun x ⟨v, e, v1, v2⟩ => hb _ fun y ey => ?_
  subst e ey
  obtain ⟨row, h1, h2⟩ := h.1.row hi
  refine ⟨i, by rw [ov_len, h.1.1]; exact ixN_lt hi, row.map fun x => .d (.int x), by unfold ov; rw [List.getElem?_map, h1]; rfl, hc _ fun z ez => ?_⟩
  subst ez
  refine ⟨rfl, j, by rw [List.length_map, h2]; exact ixN_lt hj, ?_⟩
  have e : (ov R).set i (.lst ((row.map fun x => OV.d (.int x)).set j (.d (.int v)))) = ov (set2 R i j v) := by
    unfold ov set2
    rw [h1]
    simp only
    rw [List.map_set]
    congr 1
    unfold ovR
    rw [List.map_set]
  rw [e]
  exact k _ (set2_mx h i j ⟨v1, v2⟩)
def dia (n : Nat) : List (List Int) := (List.range n).map fun i => (List.range n).map fun j => if i = j then 2 else 0
theorem dia_mx (n : Nat) : Mx n (dia n) := by
  refine ⟨⟨by unfold dia; rw [List.length_map, List.length_range], fun r hr => ?_⟩, fun r hr x hx => ?_⟩
  · obtain ⟨i, _, rfl⟩ := List.mem_map.mp hr
    rw [List.length_map, List.length_range]
  · obtain ⟨i, _, rfl⟩ := List.mem_map.mp hr
    obtain ⟨j, _, rfl⟩ := List.mem_map.mp hx
    split <;> decide
def wR : DN := dLcN (diRng1 (dCons (dVar 3) dNil)) (dgName 6) dYes (dLc (diRng1 (dCons (dVar 3) dNil)) (dgName 7) dYes (dIf (dTest (dOp dEq (dVar 6) (dVar 7))) (dC (.int 2)) (dC (.int 0))) [7]) [6]
def wRc : CN := cLcN (ciRng1 (cCons (cVar 3) cNil)) (cgName 6) cYes (cLc (ciRng1 (cCons (cVar 3) cNil)) (cgName 7) cYes (cIf (cTest (cOp cEq (cVar 6) (cVar 7))) (cC (.int 2)) (cC (.int 0))) [7]) [6]
instance : EvN wR wRc := by
  unfold wR wRc
  infer_instance
theorem wR_ok (a b : Option OV) (n : Nat) (h : n ≤ 8) : wRc [some .pot, a, b, some (.d (.int (n : Nat))), none, none, none, none, none] = some (ov (dia n)) := by
  match n, h with
  | 0, _ => kernel_rfl
  | 1, _ => kernel_rfl
  | 2, _ => kernel_rfl
  | 3, _ => kernel_rfl
  | 4, _ => kernel_rfl
  | 5, _ => kernel_rfl
  | 6, _ => kernel_rfl
  | 7, _ => kernel_rfl
  | 8, _ => kernel_rfl
def WE (most size n l : Nat) (R : List (List Int)) (x6 x7 : Option OV) : DEnv := [some .pot, some (.d (.int most)), some (.d (.int size)), some (.d (.int n)), some (.lst (ov R)), some (.d (.int l)), x6, x7, none]
def wP (v : Nat) : DE := dOp dSub (dC (.int 0)) (dCall R__law_pick (dCons (dVar 0) (dCons (dLst (dCons (dC (.int 1)) (dCons (dC (.int 1)) (dCons (dC (.int 1)) (dCons (dC (.int 1)) (dCons (dC (.int v)) (dCons (dC (.int 2)) (dCons (dC (.int 3)) (dCons (dC (.int 4)) (dCons (dOp dAdd (dC (.int 1)) (dCall Rdraw (dCons (dVar 0) (dCons (dVar 2) dNil)))) dNil)))))))))) dNil)))
theorem wP_ok {v : Nat} {ρ : DEnv} {size : Nat} (hv : 1 ≤ v ∧ v ≤ 4) (h0 : ρ[0]? = some (some .pot)) (h2 : ρ[2]? = some (some (.d (.int size)))) (hs : 1 ≤ size ∧ size ≤ 90) : HE (wP v) ρ (TI (-100) 100) := by
  have c : ∀ z : Int, 1 ≤ z → z ≤ 100 → HE (dC (.int z)) ρ fun x => ∃ d, x = .d d ∧ PI 1 100 d := fun z a b => he_pi he_ci a b
  refine he_wide (he_sub he_ci (he_ti (he_pickL (n := 8) (P := PI 1 100) (hl_cons (c 1 (by decide) (by decide)) (hl_cons (c 1 (by decide) (by decide)) (hl_cons (c 1 (by decide) (by decide)) (hl_cons (c 1 (by decide) (by decide)) (hl_cons (c v (by omega) (by omega)) (hl_cons (c 2 (by decide) (by decide)) (hl_cons (c 3 (by decide) (by decide)) (hl_cons (c 4 (by decide) (by decide)) (hl_cons ?_ hl_nil))))))))) (by decide) h0))) (by decide) (by decide)
  exact he_pi (he_add he_ci (he_draw (n := size) (he_var h2) (by omega) (by omega) h0)) (by decide) (by omega)
end LB

/-! ==== PS02 ==== -/
set_option Elab.async false
set_option linter.all false
set_option maxRecDepth 100000
set_option maxHeartbeats 4000000
namespace LB
open PySem PySem.Spec PyProof.Rows L2 DL LW LQ
/-! ## any matrix -/
def wT : DT := dOrT (dTest (dOp dGt (dCall Rdraw (dCons (dVar 0) (dCons (dC (.int 3)) dNil))) (dVar 5))) (dAndT (dTest (dOp dEq (dVar 7) (dOp dSub (dVar 6) (dC (.int 1))))) (dTest (dOp dLt (dVar 5) (dC (.int 2)))))
def wB : DS := dIfS wT (dSeq (dSet2 4 (wP 2) (dVar 6) (dVar 7)) (dSet2 4 (wP 1) (dVar 7) (dVar 6))) dNext
theorem ht_and {s t : DT} {ρ : DEnv} {P1 P2 : Bool → Prop} (h1 : HT s ρ P1) (h2 : HT t ρ P2) : HT (dAndT s t) ρ fun _ => True := fun Q q => h1 _ fun c _ => by
  cases c with
  | true => exact ite_t (h2 _ fun b _ => q _ trivial)
  | false => exact ite_f (q _ trivial)
theorem wB_ok {most size n l : Nat} {R : List (List Int)} {i j : Nat} (h : Mx n R) (hs : 1 ≤ size ∧ size ≤ 90) (hi : i < n) (hj : j < n) (D : DEnds) (k : ∀ R', Mx n R' → D.nx (WE most size n l R' (some (.d (.int (i : Nat)))) (some (.d (.int (j : Nat)))))) : wB D (WE most size n l R (some (.d (.int (i : Nat)))) (some (.d (.int (j : Nat))))) := by
  refine st_if0 (PB := fun _ => True) (ht_or (ht_anyc (he_drawc (by decide) (by decide)) (he_vi (i := 5) rfl (Int.le_refl _) (Int.le_refl _))) (ht_and (ht_eqG (he_vi (i := 7) rfl (Int.le_refl _) (Int.le_refl _)) (he_sub (he_vi (i := 6) rfl (Int.le_refl _) (Int.le_refl _)) he_ci)) (ht_anyc (he_vi (i := 5) rfl (Int.le_refl _) (Int.le_refl _)) he_ci))) (fun _ => ?_) fun _ => k R h
  refine (show dSet2 4 (wP 2) (dVar 6) (dVar 7) { D with nx := fun ρ' => dSet2 4 (wP 1) (dVar 7) (dVar 6) D ρ' } (WE most size n l R (some (.d (.int (i : Nat)))) (some (.d (.int (j : Nat))))) from ?_)
  refine st_set2 (i := i) (j := j) rfl h (wP_ok (by decide) rfl rfl hs) (he_var rfl) (he_var rfl) hi hj fun R1 h1 => ?_
  refine (show dSet2 4 (wP 1) (dVar 7) (dVar 6) D (WE most size n l R1 (some (.d (.int (i : Nat)))) (some (.d (.int (j : Nat))))) from ?_)
  exact st_set2 (i := j) (j := i) rfl h1 (wP_ok (by decide) rfl rfl hs) (he_var rfl) (he_var rfl) hj hi fun R2 h2 => k R2 h2
def wI : DS := dFor (diRng1 (dCons (dVar 6) dNil)) (dgName 7) wB
def wE : DS := dFrz 4 (dRet (dCB dTupC (dCons (dNE (dLc (diList (dVar 4)) (dgName 8) dYes (dCB dTupC (dCons (dVar 8) dNil)) [8])) dNil)))
def dWN : DE := dOp dAdd (dC (.int 1)) (dCall Rdraw (dCons (dVar 0) (dCons (dVar 1) dNil)))
def dWL : DE := dCall Rdraw (dCons (dVar 0) (dCons (dC (.int 3)) dNil))
theorem wild_eq : ds__law_wild = dSeq (dSet 3 dWN) (dSeq (dSetN 4 wR) (dSeq (dSet 5 dWL) (dSeq (dFor (diRng1 (dCons (dVar 3) dNil)) (dgName 6) wI) wE))) := rfl
theorem vws_ov : ∀ R : List (List Int), vws (ov R) = R.map fun r => PyData.list (r.map .int)
  | [] => rfl
  | r :: R => by
    have h := vws_ov R
    show vw (ovR r) :: vws (ov R) = _
    rw [h, List.map_cons]
    congr 1
    show PyData.list (vws (r.map fun x => OV.d (.int x))) = _
    have := vws_d (r.map PyData.int)
    rw [List.map_map] at this
    exact congrArg PyData.list this
theorem okvs_ov : ∀ R : List (List Int), okvs (ov R) = true
  | [] => rfl
  | r :: R => by
    show (okv (ovR r) && okvs (ov R)) = true
    rw [okvs_ov R]
    have := okvs_d (r.map PyData.int)
    rw [List.map_map] at this
    rw [Bool.and_true]
    exact this
theorem wild_end {most size n l : Nat} {R : List (List Int)} {x6 x7 : Option OV} (h : Mx n R) (hn : n ≤ 1000) {D : DEnds} (k : D.rt (matD R)) : wE D (WE most size n l R x6 x7) := by
  have f : frzAt (WE most size n l R x6 x7) 4 = [some .pot, some (.d (.int most)), some (.d (.int size)), some (.d (.int n)), some (.d (.list (R.map fun r => PyData.list (r.map .int)))), some (.d (.int l)), x6, x7, none] := by
    show (if okvs (ov R) = true then (WE most size n l R x6 x7).set 4 (some (.d (.list (vws (ov R))))) else _) = _
    rw [if_pos (okvs_ov R), vws_ov]
    rfl
  unfold wE dFrz
  rw [f]
  refine st_ret (P := fun d => d = matD R) (he_imp (he_ev (x := .d (matD R)) ?_) fun x e => ⟨_, e, rfl⟩) fun d e => by
    rw [e]
    exact k
  refine tup_list (ds := R.map rowD) ?_
  exact lc_gen (fun r : List Int => PyData.list (r.map .int)) rowD R rfl (fun r hr => ⟨_, rfl, rfl⟩) (sl_big (by rw [h.1.1]; omega))
theorem wild_ok {most size : Nat} (hm1 : 1 ≤ most) (hm2 : most ≤ 8) (hs : 1 ≤ size ∧ size ≤ 90) {Q : PyData → Prop} (h : ∀ (n : Nat) (M : List (List Int)), 1 ≤ n → n ≤ most → Mx n M → Q (matD M)) : R__law_wild [.pot, .d (.int most), .d (.int size)] Q := by
  refine ⟨rfl, ?_⟩
  rw [wild_eq]
  have m1 : HE dWN (startD N__law_wild [.pot, .d (.int most), .d (.int size)]) (TI 1 most) := he_wide (he_add he_ci (he_draw (n := most) (he_var (i := 1) rfl) (by omega) (by omega))) (by decide) (by omega)
  refine st_setI m1 fun z za zb => ?_
  obtain ⟨n, rfl⟩ : ∃ n : Nat, z = n := ⟨z.toNat, by omega⟩
  refine (show dSeq (dSetN 4 wR) _ _ [some .pot, some (.d (.int most)), some (.d (.int size)), some (.d (.int n)), none, none, none, none, none] from ?_)
  refine st_ev (ρ' := [some .pot, some (.d (.int most)), some (.d (.int size)), some (.d (.int n)), some (.lst (ov (dia n))), none, none, none, none]) ?_ ?_
  · unfold cSetN
    rw [wR_ok _ _ n (by omega)]
    rfl
  refine st_setI (he_drawc (n := 3) (by decide) (by decide)) fun l la lb => ?_
  obtain ⟨l, rfl⟩ : ∃ n : Nat, l = n := ⟨l.toNat, by omega⟩
  refine (show dSeq (dFor (diRng1 (dCons (dVar 3) dNil)) (dgName 6) wI) wE _ (WE most size n l (dia n) none none) from ?_)
  refine st_for (rng1_ok (a := cVar 3) (ρ := WE most size n l (dia n) none none) (n := n) rfl (by omega)) ?_
  refine dLoop_inv (fun k ρ => ∃ R x6 x7, ρ = WE most size n l R x6 x7 ∧ Mx n R) _ 0 _ ⟨dia n, none, none, rfl, dia_mx n⟩ ?_ ?_
  · rintro i x ρ D' hx ⟨R, x6, x7, rfl, hR⟩ nx _ _ _
    obtain ⟨hi, rfl⟩ := rng_get hx
    refine (show wI D' (WE most size n l R (some (.d (.int (i : Nat)))) x7) from ?_)
    refine st_for0 (rng1_ok (a := cVar 6) (ρ := WE most size n l R (some (.d (.int (i : Nat)))) x7) (n := i) rfl (by omega)) ?_
    refine dLoop_inv (fun k ρ => ∃ R x7, ρ = WE most size n l R (some (.d (.int (i : Nat)))) x7 ∧ Mx n R) _ 0 _ ⟨R, x7, rfl, hR⟩ ?_ ?_
    · rintro j x ρ D2 hx2 ⟨R, x7, rfl, hR⟩ nx2 _ _ _
      obtain ⟨hj, rfl⟩ := rng_get hx2
      exact wB_ok hR hs hi (by omega) D2 fun R' h' => nx2 _ ⟨R', _, rfl, h'⟩
    · rintro ρ ⟨R, x7, rfl, hR⟩
      exact nx _ ⟨R, _, _, rfl, hR⟩
  · rintro ρ ⟨R, x6, x7, rfl, hR⟩
    exact wild_end hR (by omega) (h n R (by omega) (by omega) hR)
end LB

/-! ==== PX02 ==== -/
set_option Elab.async false
set_option linter.all false
set_option maxRecDepth 100000
set_option maxHeartbeats 4000000
set_option synthInstance.maxHeartbeats 0
set_option synthInstance.maxSize 1000000
namespace LB
open PySem PySem.Spec PyProof.Rows L2 DL LW LQ
/-! ## one node more -/
def dsL : DS := (dSeq (dAsgG (dTup (dCons (dCB dLen (dCons (dVar 1) dNil)) (dCons (dOp dIx (dCall R__law_symmetrizer (dCons (dVar 1) dNil)) (dC (.int 0))) dNil))) (dgTup (dgCons (dgName 2) (dgCons (dgName 3) dgNil)))) (dSeq (dSet 4 (dOp dIx (dCall R__law_positive (dCons (dVar 1) (dCons (dC (.int 200)) dNil))) (dNeg (dC (.int 1))))) (dSeq (dParO [5, 6] (dConsO (dCall R__law_form (dCons (dVar 1) (dCons (dVar 3) (dCons (dVar 4) (dCons (dVar 4) dNil))))) (dConsN (dLstN dNil) dNil))) (dSeq (dFor (diRng1 (dCons (dVar 2) dNil)) (dgName 7) (dApp 6 (dOp dAdd (dOp dIx (dVar 1) (dVar 7)) (dTup (dCons (dOp dSub (dC (.int 0)) (dCB dSumA (dCons (dNE (dLc (diRng1 (dCons (dVar 2) dNil)) (dgName 8) dYes (dOp dMul (dOp dIx (dOp dIx (dVar 1) (dVar 7)) (dVar 8)) (dOp dIx (dVar 4) (dVar 8))) [8])) dNil))) dNil))))) (dApp 6 (dOp dAdd (dCB dTupC (dCons (dNE (dLc (diList (dCall R__law_simple (dCons (dVar 2) dNil))) (dgName 9) dYes (dOp dSub (dC (.int 0)) (dOp dFdv (dOp dMul (dC (.int 2)) (dCall R__law_form (dCons (dVar 1) (dCons (dVar 3) (dCons (dVar 4) (dCons (dVar 9) dNil)))))) (dVar 5))) [9])) dNil)) (dTup (dCons (dC (.int 2)) dNil))))))))
def csL : CS := (cSeq (cAsgG (cTup (cCons (cCB cLen (cCons (cVar 1) cNil)) (cCons (cOp cIx (cCall c__law_symmetrizer (cCons (cVar 1) cNil)) (cC (.int 0))) cNil))) (cgTup (cgCons (cgName 2) (cgCons (cgName 3) cgNil)))) (cSeq (cSet 4 (cOp cIx (cCall c__law_positive (cCons (cVar 1) (cCons (cC (.int 200)) cNil))) (cNeg (cC (.int 1))))) (cSeq (cParO [5, 6] (cConsO (cCall c__law_form (cCons (cVar 1) (cCons (cVar 3) (cCons (cVar 4) (cCons (cVar 4) cNil))))) (cConsN (cLstN cNil) cNil))) (cSeq (cFor (ciRng1 (cCons (cVar 2) cNil)) (cgName 7) (cApp 6 (cOp cAdd (cOp cIx (cVar 1) (cVar 7)) (cTup (cCons (cOp cSub (cC (.int 0)) (cCB cSumA (cCons (cNE (cLc (ciRng1 (cCons (cVar 2) cNil)) (cgName 8) cYes (cOp cMul (cOp cIx (cOp cIx (cVar 1) (cVar 7)) (cVar 8)) (cOp cIx (cVar 4) (cVar 8))) [8])) cNil))) cNil))))) (cApp 6 (cOp cAdd (cCB cTupC (cCons (cNE (cLc (ciList (cCall c__law_simple (cCons (cVar 2) cNil))) (cgName 9) cYes (cOp cSub (cC (.int 0)) (cOp cFdv (cOp cMul (cC (.int 2)) (cCall c__law_form (cCons (cVar 1) (cCons (cVar 3) (cCons (cVar 4) (cCons (cVar 9) cNil)))))) (cVar 5))) [9])) cNil)) (cTup (cCons (cC (.int 2)) cNil))))))))
instance evL : EvS dsL csL := by
  unfold dsL csL
  infer_instance
def dsT : DS := (dSetN 6 (dLc (diRng1 (dCons (dOp dAdd (dVar 2) (dC (.int 1))) dNil)) (dgName 7) dYes (dCB dTupC (dCons (dNE (dLc (diRng1 (dCons (dOp dAdd (dVar 2) (dC (.int 1))) dNil)) (dgName 8) dYes (dOp dIx (dOp dIx (dVar 6) (dVar 8)) (dVar 7)) [8])) dNil)) [7]))
def csT : CS := (cSetN 6 (cLc (ciRng1 (cCons (cOp cAdd (cVar 2) (cC (.int 1))) cNil)) (cgName 7) cYes (cCB cTupC (cCons (cNE (cLc (ciRng1 (cCons (cOp cAdd (cVar 2) (cC (.int 1))) cNil)) (cgName 8) cYes (cOp cIx (cOp cIx (cVar 6) (cVar 8)) (cVar 7)) [8])) cNil)) [7]))
instance evT : EvS dsT csT := by
  unfold dsT csT
  infer_instance
def dsE : DS := (dFrz 6 (dRet (dCB dTupC (dCons (dVar 6) dNil))))
def dsC : DT := (dTest (dOp dEq (dCall Rdraw (dCons (dVar 0) (dCons (dC (.int 2)) dNil))) (dC (.int 0))))
theorem long_eq (D : DEnds) (ρ : DEnv) : dSeq dsL (dSeq (dIfS dsC dsT dNext) dsE) D ρ → ds__law_longer D ρ := id
def small : PyData → Bool
  | .tuple xs => xs.all fun x => match x with
    | .int i => decide (-100 ≤ i) && decide (i ≤ 100)
    | _ => false
  | _ => false
def okRows (k : Nat) (rows : List OV) : Bool := decide (rows.length = k) && rows.all fun x => match x with
  | .d d => isRow k d && small d
  | _ => false
theorem okRows_mx {k : Nat} {rows : List OV} (h : okRows k rows = true) : ∃ N : List (List Int), rows = (N.map rowD).map OV.d ∧ Mx k N := by
  unfold okRows at h
  rw [Bool.and_eq_true, decide_eq_true_iff] at h
  have : ∀ rows : List OV, (rows.all fun x => match x with
      | .d d => isRow k d && small d
      | _ => false) = true → ∃ N : List (List Int), rows = (N.map rowD).map OV.d ∧ ∀ r ∈ N, r.length = k ∧ ∀ x ∈ r, -100 ≤ x ∧ x ≤ 100 := fun rows => by
    induction rows with
    | nil => exact fun _ => ⟨[], rfl, nofun⟩
    | cons x rows ih =>
      intro h
      rw [List.all_cons, Bool.and_eq_true] at h
      obtain ⟨N, e, hN⟩ := ih h.2
      have h1 := h.1
      split at h1
      · rename_i d
        rw [Bool.and_eq_true] at h1
        obtain ⟨r, er, hr⟩ := isRow_row h1.1
        refine ⟨r :: N, by rw [e, er]; rfl, fun z hz => ?_⟩
        rcases List.mem_cons.mp hz with ez | hz
        · rw [ez]
          refine ⟨by omega, fun x hx => ?_⟩
          have h2 := h1.2
          rw [er] at h2
          have h3 : ((r.map PyData.int).all fun x => match x with
            | .int i => decide (-100 ≤ i) && decide (i ≤ 100)
            | _ => false) = true := h2
          rw [List.all_map, List.all_eq_true] at h3
          have h4 := h3 x hx
          have h5 : (decide (-100 ≤ x) && decide (x ≤ 100)) = true := h4
          rw [Bool.and_eq_true, decide_eq_true_iff, decide_eq_true_iff] at h5
          exact h5
        · exact hN z hz
      · cases h1
  obtain ⟨N, e, hN⟩ := this rows h.2
  refine ⟨N, e, ⟨?_, fun r hr => (hN r hr).1⟩, fun r hr => (hN r hr).2⟩
  have := h.1
  rw [e, List.length_map, List.length_map] at this
  exact this
def okT (k : Nat) : Option Out → Bool
  | some (.nx [_, _, _, _, _, _, some (.lst rows), _, _, _]) => okRows k rows
  | _ => false
def okLM (n : Nat) (d : PyData) : Bool := match csL [some .pot, some (.d d), none, none, none, none, none, none, none, none] with
  | some (.nx [some .pot, a1, a2, a3, a4, a5, some (.lst rows), a7, a8, a9]) => okRows (n + 1) rows && okT (n + 1) (csT [some .pot, a1, a2, a3, a4, a5, some (.lst rows), a7, a8, a9])
  | _ => false
def okL (w : Str) : Bool := okLM (dgN w) (matD (bk w))
end LB

/-! ==== PY02 ==== -/
set_option Elab.async false
set_option linter.all false
set_option maxRecDepth 100000
set_option maxHeartbeats 0
namespace LB
open PySem PySem.Spec PyProof.Rows L2 DL LW LQ
theorem l_A1 : okLM 1 (.tuple [.tuple [.int 2]]) = true := by decide +kernel
theorem l_A2 : okLM 2 (.tuple [.tuple [.int 2, .int (-1)], .tuple [.int (-1), .int 2]]) = true := by decide +kernel
theorem l_A3 : okLM 3 (.tuple [.tuple [.int 2, .int (-1), .int 0], .tuple [.int (-1), .int 2, .int (-1)], .tuple [.int 0, .int (-1), .int 2]]) = true := by decide +kernel
theorem l_A4 : okLM 4 (.tuple [.tuple [.int 2, .int (-1), .int 0, .int 0], .tuple [.int (-1), .int 2, .int (-1), .int 0], .tuple [.int 0, .int (-1), .int 2, .int (-1)], .tuple [.int 0, .int 0, .int (-1), .int 2]]) = true := by decide +kernel
theorem l_A5 : okLM 5 (.tuple [.tuple [.int 2, .int (-1), .int 0, .int 0, .int 0], .tuple [.int (-1), .int 2, .int (-1), .int 0, .int 0], .tuple [.int 0, .int (-1), .int 2, .int (-1), .int 0], .tuple [.int 0, .int 0, .int (-1), .int 2, .int (-1)], .tuple [.int 0, .int 0, .int 0, .int (-1), .int 2]]) = true := by decide +kernel
theorem l_A6 : okLM 6 (.tuple [.tuple [.int 2, .int (-1), .int 0, .int 0, .int 0, .int 0], .tuple [.int (-1), .int 2, .int (-1), .int 0, .int 0, .int 0], .tuple [.int 0, .int (-1), .int 2, .int (-1), .int 0, .int 0], .tuple [.int 0, .int 0, .int (-1), .int 2, .int (-1), .int 0], .tuple [.int 0, .int 0, .int 0, .int (-1), .int 2, .int (-1)], .tuple [.int 0, .int 0, .int 0, .int 0, .int (-1), .int 2]]) = true := by decide +kernel
theorem l_A7 : okLM 7 (.tuple [.tuple [.int 2, .int (-1), .int 0, .int 0, .int 0, .int 0, .int 0], .tuple [.int (-1), .int 2, .int (-1), .int 0, .int 0, .int 0, .int 0], .tuple [.int 0, .int (-1), .int 2, .int (-1), .int 0, .int 0, .int 0], .tuple [.int 0, .int 0, .int (-1), .int 2, .int (-1), .int 0, .int 0], .tuple [.int 0, .int 0, .int 0, .int (-1), .int 2, .int (-1), .int 0], .tuple [.int 0, .int 0, .int 0, .int 0, .int (-1), .int 2, .int (-1)], .tuple [.int 0, .int 0, .int 0, .int 0, .int 0, .int (-1), .int 2]]) = true := by decide +kernel
theorem l_B2 : okLM 2 (.tuple [.tuple [.int 2, .int (-1)], .tuple [.int (-2), .int 2]]) = true := by decide +kernel
theorem l_B3 : okLM 3 (.tuple [.tuple [.int 2, .int (-1), .int 0], .tuple [.int (-1), .int 2, .int (-1)], .tuple [.int 0, .int (-2), .int 2]]) = true := by decide +kernel
theorem l_B4 : okLM 4 (.tuple [.tuple [.int 2, .int (-1), .int 0, .int 0], .tuple [.int (-1), .int 2, .int (-1), .int 0], .tuple [.int 0, .int (-1), .int 2, .int (-1)], .tuple [.int 0, .int 0, .int (-2), .int 2]]) = true := by decide +kernel
theorem l_B5 : okLM 5 (.tuple [.tuple [.int 2, .int (-1), .int 0, .int 0, .int 0], .tuple [.int (-1), .int 2, .int (-1), .int 0, .int 0], .tuple [.int 0, .int (-1), .int 2, .int (-1), .int 0], .tuple [.int 0, .int 0, .int (-1), .int 2, .int (-1)], .tuple [.int 0, .int 0, .int 0, .int (-2), .int 2]]) = true := by decide +kernel
theorem l_B6 : okLM 6 (.tuple [.tuple [.int 2, .int (-1), .int 0, .int 0, .int 0, .int 0], .tuple [.int (-1), .int 2, .int (-1), .int 0, .int 0, .int 0], .tuple [.int 0, .int (-1), .int 2, .int (-1), .int 0, .int 0], .tuple [.int 0, .int 0, .int (-1), .int 2, .int (-1), .int 0], .tuple [.int 0, .int 0, .int 0, .int (-1), .int 2, .int (-1)], .tuple [.int 0, .int 0, .int 0, .int 0, .int (-2), .int 2]]) = true := by decide +kernel
theorem l_B7 : okLM 7 (.tuple [.tuple [.int 2, .int (-1), .int 0, .int 0, .int 0, .int 0, .int 0], .tuple [.int (-1), .int 2, .int (-1), .int 0, .int 0, .int 0, .int 0], .tuple [.int 0, .int (-1), .int 2, .int (-1), .int 0, .int 0, .int 0], .tuple [.int 0, .int 0, .int (-1), .int 2, .int (-1), .int 0, .int 0], .tuple [.int 0, .int 0, .int 0, .int (-1), .int 2, .int (-1), .int 0], .tuple [.int 0, .int 0, .int 0, .int 0, .int (-1), .int 2, .int (-1)], .tuple [.int 0, .int 0, .int 0, .int 0, .int 0, .int (-2), .int 2]]) = true := by decide +kernel
theorem l_C3 : okLM 3 (.tuple [.tuple [.int 2, .int (-1), .int 0], .tuple [.int (-1), .int 2, .int (-2)], .tuple [.int 0, .int (-1), .int 2]]) = true := by decide +kernel
theorem l_C4 : okLM 4 (.tuple [.tuple [.int 2, .int (-1), .int 0, .int 0], .tuple [.int (-1), .int 2, .int (-1), .int 0], .tuple [.int 0, .int (-1), .int 2, .int (-2)], .tuple [.int 0, .int 0, .int (-1), .int 2]]) = true := by decide +kernel
theorem l_C5 : okLM 5 (.tuple [.tuple [.int 2, .int (-1), .int 0, .int 0, .int 0], .tuple [.int (-1), .int 2, .int (-1), .int 0, .int 0], .tuple [.int 0, .int (-1), .int 2, .int (-1), .int 0], .tuple [.int 0, .int 0, .int (-1), .int 2, .int (-2)], .tuple [.int 0, .int 0, .int 0, .int (-1), .int 2]]) = true := by decide +kernel
theorem l_C6 : okLM 6 (.tuple [.tuple [.int 2, .int (-1), .int 0, .int 0, .int 0, .int 0], .tuple [.int (-1), .int 2, .int (-1), .int 0, .int 0, .int 0], .tuple [.int 0, .int (-1), .int 2, .int (-1), .int 0, .int 0], .tuple [.int 0, .int 0, .int (-1), .int 2, .int (-1), .int 0], .tuple [.int 0, .int 0, .int 0, .int (-1), .int 2, .int (-2)], .tuple [.int 0, .int 0, .int 0, .int 0, .int (-1), .int 2]]) = true := by decide +kernel
theorem l_C7 : okLM 7 (.tuple [.tuple [.int 2, .int (-1), .int 0, .int 0, .int 0, .int 0, .int 0], .tuple [.int (-1), .int 2, .int (-1), .int 0, .int 0, .int 0, .int 0], .tuple [.int 0, .int (-1), .int 2, .int (-1), .int 0, .int 0, .int 0], .tuple [.int 0, .int 0, .int (-1), .int 2, .int (-1), .int 0, .int 0], .tuple [.int 0, .int 0, .int 0, .int (-1), .int 2, .int (-1), .int 0], .tuple [.int 0, .int 0, .int 0, .int 0, .int (-1), .int 2, .int (-2)], .tuple [.int 0, .int 0, .int 0, .int 0, .int 0, .int (-1), .int 2]]) = true := by decide +kernel
theorem l_D4 : okLM 4 (.tuple [.tuple [.int 2, .int (-1), .int 0, .int 0], .tuple [.int (-1), .int 2, .int (-1), .int (-1)], .tuple [.int 0, .int (-1), .int 2, .int 0], .tuple [.int 0, .int (-1), .int 0, .int 2]]) = true := by decide +kernel
theorem l_D5 : okLM 5 (.tuple [.tuple [.int 2, .int (-1), .int 0, .int 0, .int 0], .tuple [.int (-1), .int 2, .int (-1), .int 0, .int 0], .tuple [.int 0, .int (-1), .int 2, .int (-1), .int (-1)], .tuple [.int 0, .int 0, .int (-1), .int 2, .int 0], .tuple [.int 0, .int 0, .int (-1), .int 0, .int 2]]) = true := by decide +kernel
theorem l_D6 : okLM 6 (.tuple [.tuple [.int 2, .int (-1), .int 0, .int 0, .int 0, .int 0], .tuple [.int (-1), .int 2, .int (-1), .int 0, .int 0, .int 0], .tuple [.int 0, .int (-1), .int 2, .int (-1), .int 0, .int 0], .tuple [.int 0, .int 0, .int (-1), .int 2, .int (-1), .int (-1)], .tuple [.int 0, .int 0, .int 0, .int (-1), .int 2, .int 0], .tuple [.int 0, .int 0, .int 0, .int (-1), .int 0, .int 2]]) = true := by decide +kernel
theorem l_D7 : okLM 7 (.tuple [.tuple [.int 2, .int (-1), .int 0, .int 0, .int 0, .int 0, .int 0], .tuple [.int (-1), .int 2, .int (-1), .int 0, .int 0, .int 0, .int 0], .tuple [.int 0, .int (-1), .int 2, .int (-1), .int 0, .int 0, .int 0], .tuple [.int 0, .int 0, .int (-1), .int 2, .int (-1), .int 0, .int 0], .tuple [.int 0, .int 0, .int 0, .int (-1), .int 2, .int (-1), .int (-1)], .tuple [.int 0, .int 0, .int 0, .int 0, .int (-1), .int 2, .int 0], .tuple [.int 0, .int 0, .int 0, .int 0, .int (-1), .int 0, .int 2]]) = true := by decide +kernel
theorem l_E6 : okLM 6 (.tuple [.tuple [.int 2, .int 0, .int (-1), .int 0, .int 0, .int 0], .tuple [.int 0, .int 2, .int 0, .int (-1), .int 0, .int 0], .tuple [.int (-1), .int 0, .int 2, .int (-1), .int 0, .int 0], .tuple [.int 0, .int (-1), .int (-1), .int 2, .int (-1), .int 0], .tuple [.int 0, .int 0, .int 0, .int (-1), .int 2, .int (-1)], .tuple [.int 0, .int 0, .int 0, .int 0, .int (-1), .int 2]]) = true := by decide +kernel
theorem l_E7 : okLM 7 (.tuple [.tuple [.int 2, .int 0, .int (-1), .int 0, .int 0, .int 0, .int 0], .tuple [.int 0, .int 2, .int 0, .int (-1), .int 0, .int 0, .int 0], .tuple [.int (-1), .int 0, .int 2, .int (-1), .int 0, .int 0, .int 0], .tuple [.int 0, .int (-1), .int (-1), .int 2, .int (-1), .int 0, .int 0], .tuple [.int 0, .int 0, .int 0, .int (-1), .int 2, .int (-1), .int 0], .tuple [.int 0, .int 0, .int 0, .int 0, .int (-1), .int 2, .int (-1)], .tuple [.int 0, .int 0, .int 0, .int 0, .int 0, .int (-1), .int 2]]) = true := by decide +kernel
theorem l_F4 : okLM 4 (.tuple [.tuple [.int 2, .int (-1), .int 0, .int 0], .tuple [.int (-1), .int 2, .int (-1), .int 0], .tuple [.int 0, .int (-2), .int 2, .int (-1)], .tuple [.int 0, .int 0, .int (-1), .int 2]]) = true := by decide +kernel
theorem l_G2 : okLM 2 (.tuple [.tuple [.int 2, .int (-3)], .tuple [.int (-1), .int 2]]) = true := by decide +kernel
theorem long_all (w : Str) (hw : w ∈ KN) (h7 : dgN w ≤ 7) : okL w = true := by
  simp only [KN, List.mem_cons, List.not_mem_nil, or_false] at hw
  rcases hw with rfl | rfl | rfl | rfl | rfl | rfl | rfl | rfl | rfl | rfl | rfl | rfl | rfl | rfl | rfl | rfl | rfl | rfl | rfl | rfl | rfl | rfl | rfl | rfl | rfl | rfl | rfl | rfl | rfl | rfl | rfl
  · exact l_A1
  · exact l_A2
  · exact l_A3
  · exact l_A4
  · exact l_A5
  · exact l_A6
  · exact l_A7
  · exact absurd h7 (by decide +kernel)
  · exact l_B2
  · exact l_B3
  · exact l_B4
  · exact l_B5
  · exact l_B6
  · exact l_B7
  · exact absurd h7 (by decide +kernel)
  · exact l_C3
  · exact l_C4
  · exact l_C5
  · exact l_C6
  · exact l_C7
  · exact absurd h7 (by decide +kernel)
  · exact l_D4
  · exact l_D5
  · exact l_D6
  · exact l_D7
  · exact absurd h7 (by decide +kernel)
  · exact l_E6
  · exact l_E7
  · exact absurd h7 (by decide +kernel)
  · exact l_F4
  · exact l_G2
end LB

/-! ==== PZ02 ==== -/
set_option Elab.async false
set_option linter.all false
set_option maxRecDepth 100000
set_option maxHeartbeats 4000000
set_option synthInstance.maxHeartbeats 0
set_option synthInstance.maxSize 1000000
namespace LB
open PySem PySem.Spec PyProof.Rows L2 DL LW LQ
/-! ## one node more; any Cartan matrix -/
theorem long_end {k : Nat} {a1 a2 a3 a4 a5 a7 a8 a9 : Option OV} {rows : List OV} (h : okRows k rows = true) {Q : PyData → Prop} (q : ∀ N, Mx k N → Q (matD N)) : dsE { nx := fun _ => Q .none, rt := Q } [some .pot, a1, a2, a3, a4, a5, some (.lst rows), a7, a8, a9] := by
  obtain ⟨N, rfl, hN⟩ := okRows_mx h
  unfold dsE
  refine st_frz (ds := N.map rowD) rfl ?_
  exact st_ret (P := fun d => d = matD N) (he_imp (he_ev (x := .d (matD N)) rfl) fun x e => ⟨_, e, rfl⟩) fun d e => by
    rw [e]
    exact q N hN
theorem csT_0 {a0 a1 a2 a3 a4 a5 a6 a7 a8 a9 b0 b1 b2 b3 b4 b5 b6 b7 b8 b9 : Option OV} (e : csT [a0, a1, a2, a3, a4, a5, a6, a7, a8, a9] = some (.nx [b0, b1, b2, b3, b4, b5, b6, b7, b8, b9])) : b0 = a0 := by
  unfold csT cSetN at e
  obtain ⟨xs, _, e2⟩ := om e
  have e3 := Out.nx.inj e2
  have e4 := congrArg (fun l : DEnv => l[0]?) e3
  exact (Option.some.inj e4).symm
theorem okLM_out {n : Nat} {d : PyData} (h : okLM n d = true) : ∃ a1 a2 a3 a4 a5 rows a7 a8 a9, csL [some .pot, some (.d d), none, none, none, none, none, none, none, none] = some (.nx [some .pot, a1, a2, a3, a4, a5, some (.lst rows), a7, a8, a9]) ∧ okRows (n + 1) rows = true ∧ okT (n + 1) (csT [some .pot, a1, a2, a3, a4, a5, some (.lst rows), a7, a8, a9]) = true := by
  unfold okLM at h
  generalize csL [some .pot, some (.d d), none, none, none, none, none, none, none, none] = o at h ⊢
  split at h
  · rw [Bool.and_eq_true] at h
    exact ⟨_, _, _, _, _, _, _, _, _, rfl, h.1, h.2⟩
  · cases h
theorem okT_out {k : Nat} {o : Option Out} (h : okT k o = true) : ∃ b0 b1 b2 b3 b4 b5 rows b7 b8 b9, o = some (.nx [b0, b1, b2, b3, b4, b5, some (.lst rows), b7, b8, b9]) ∧ okRows k rows = true := by
  unfold okT at h
  split at h
  · exact ⟨_, _, _, _, _, _, _, _, _, _, rfl, h⟩
  · cases h
theorem long_go {D : DEnds} {ρ ρ' : DEnv} {rest : DS} (e : csL ρ = some (.nx ρ')) (k : rest D ρ') : dSeq dsL rest D ρ := st_ev e k
theorem long_tr {D : DEnds} {ρ ρ' : DEnv} {rest : DS} (e : csT ρ = some (.nx ρ')) (k : rest D ρ') : dSeq dsT rest D ρ := st_ev e k
theorem long_in (d : PyData) : startD N__law_longer [.pot, .d d] = [some .pot, some (.d d), none, none, none, none, none, none, none, none] := rfl
theorem long_rof {d : PyData} {Q : PyData → Prop} (h : dSeq dsL (dSeq (dIfS dsC dsT dNext) dsE) { nx := fun _ => Q .none, rt := Q } [some .pot, some (.d d), none, none, none, none, none, none, none, none]) : R__law_longer [.pot, .d d] Q := ⟨rfl, long_eq _ _ h⟩
theorem longer_ok {w : Str} (hw : w ∈ KN) (h7 : dgN w ≤ 7) {Q : PyData → Prop} (q : ∀ N, Mx (dgN w + 1) N → Q (matD N)) : R__law_longer [.pot, .d (matD (bk w))] Q := by
  obtain ⟨a1, a2, a3, a4, a5, rows, a7, a8, a9, e, h1, h2⟩ := okLM_out (show okLM (dgN w) (matD (bk w)) = true from long_all w hw h7)
  refine long_rof (long_go e ?_)
  refine st_if (PB := fun _ => True) (show HT dsC _ _ from ht_any (he_drawc (by decide) (by decide))) (fun _ => ?_) fun _ => long_end h1 q
  obtain ⟨b0, b1, b2, b3, b4, b5, rows2, b7, b8, b9, e2, h3⟩ := okT_out h2
  have hb := csT_0 e2
  refine long_tr e2 ?_
  rw [hb]
  exact long_end h3 q
theorem he_single {e : DE} {ρ : DEnv} {lo hi : Nat} (he : HE e ρ fun x => ∃ d, x = .d d ∧ ∃ w : Str, d = .str w ∧ w ∈ KN ∧ lo ≤ dgN w ∧ dgN w ≤ hi) : HE (dCall R__law_single (dCons e dNil)) ρ fun x => ∃ d, x = .d d ∧ ∃ w : Str, d = matD (bk w) ∧ w ∈ KN ∧ lo ≤ dgN w ∧ dgN w ≤ hi :=
  he_call (R := R__law_single) (ha_cons he ha_nil) fun xs ⟨x, ys, e1, ⟨d, e2, w, e3, p1, p2, p3⟩, e4⟩ => by
    subst e1 e2 e3 e4
    exact ⟨rfl, EvF.ev (single_ok p1) ⟨w, rfl, p1, p2, p3⟩⟩
theorem he_longer {e : DE} {ρ : DEnv} {lo hi : Nat} (he : HE e ρ fun x => ∃ d, x = .d d ∧ ∃ w : Str, d = matD (bk w) ∧ w ∈ KN ∧ lo ≤ dgN w ∧ dgN w ≤ hi) (h7 : hi ≤ 7) (h0 : ρ[0]? = some (some .pot) := by rfl) : HE (dCall R__law_longer (dCons (dVar 0) (dCons e dNil))) ρ fun x => ∃ d, x = .d d ∧ IsMx (hi + 1) d :=
  he_call (R := R__law_longer) (ha_cons (he_var h0) (ha_cons he ha_nil)) fun xs ⟨x, ys, e1, e2, y, zs, e3, ⟨d, e4, w, e6, p1, p2, p3⟩, e5⟩ => by
    subst e1 e2 e3 e4 e5 e6
    exact ⟨rfl, longer_ok p1 (by omega) fun N hN => ⟨dgN w + 1, N, rfl, by omega, by omega, hN⟩⟩
theorem he_matrix {e : DE} {ρ : DEnv} {most : Nat} (he : HE e ρ (· = .d (.int (most : Nat)))) (h1 : 1 ≤ most) (h2 : most ≤ 8) (h0 : ρ[0]? = some (some .pot) := by rfl) : HE (dCall R__law_matrix (dCons (dVar 0) (dCons e dNil))) ρ fun x => ∃ d, x = .d d ∧ IsMx most d :=
  he_call (R := R__law_matrix) (ha_cons (he_var h0) (ha_cons he ha_nil)) fun xs ⟨x, ys, e1, e2, y, zs, e3, e4, e5⟩ => by
    subst e1 e2 e3 e4 e5
    exact ⟨rfl, matrix_ok h1 h2 fun n M a b c => ⟨n, M, rfl, a, b, c⟩⟩
theorem he_wild {e f : DE} {ρ : DEnv} {most size : Nat} (he : HE e ρ (· = .d (.int (most : Nat)))) (hf : HE f ρ (· = .d (.int (size : Nat)))) (h1 : 1 ≤ most) (h2 : most ≤ 8) (hs : 1 ≤ size ∧ size ≤ 90) (h0 : ρ[0]? = some (some .pot) := by rfl) : HE (dCall R__law_wild (dCons (dVar 0) (dCons e (dCons f dNil)))) ρ fun x => ∃ d, x = .d d ∧ IsMx most d :=
  he_call (R := R__law_wild) (ha_cons (he_var h0) (ha_cons he (ha_cons hf ha_nil))) fun xs ⟨x, ys, e1, e2, y, zs, e3, e4, z, us, e5, e6, e7⟩ => by
    subst e1 e2 e3 e4 e5 e6 e7
    exact ⟨rfl, wild_ok h1 h2 hs fun n M a b c => ⟨n, M, rfl, a, b, c⟩⟩
theorem he_put {e f : DE} {ρ : DEnv} {a b : Nat} (he : HE e ρ fun x => ∃ d, x = .d d ∧ IsMx a d) (hf : HE f ρ fun x => ∃ d, x = .d d ∧ IsMx b d) (ha : a ≤ 500) (hb : b ≤ 500) : HE (dCall R__law_put_together (dCons e (dCons f dNil))) ρ fun x => ∃ d, x = .d d ∧ IsMx (a + b) d :=
  he_call (R := R__law_put_together) (ha_cons he (ha_cons hf ha_nil)) fun xs ⟨x, ys, e1, ⟨d, e2, n, M, e6, n1, n2, hM⟩, y, zs, e3, ⟨d', e4, k, N, e7, k1, k2, hN⟩, e5⟩ => by
    subst e1 e2 e3 e4 e5 e6 e7
    exact ⟨rfl, EvF.ev (put_ok hM.1 hN.1 (by omega) (by omega)) ⟨n + k, _, rfl, by omega, by omega, put_mx hM hN⟩⟩
theorem he_name1 {e : DE} {ρ : DEnv} {k : Nat} {z : Int} (he : HE e ρ (· = .d (.int z))) (hz : z = k) (h1 : 1 ≤ k) (h2 : k ≤ 8) (h0 : ρ[0]? = some (some .pot) := by rfl) : HE (dCall R__law_pick (dCons (dVar 0) (dCons (dCall R__law_names (dCons (dOp dAdd (dC (.int 1)) (dCall Rdraw (dCons (dVar 0) (dCons e dNil)))) dNil)) dNil))) ρ fun x => ∃ d, x = .d d ∧ ∃ w : Str, d = .str w ∧ w ∈ KN ∧ 1 ≤ dgN w ∧ dgN w ≤ k :=
  he_name 1 k (he_add he_ci (he_draw (n := z) he (by omega) (by omega) h0)) (fun x ⟨i, e, a, b⟩ => ⟨i.toNat, by rw [e]; congr 2; omega, by omega, by omega⟩) (Nat.le_refl _) h2 h0
def aE : DS := dRet (dCall R__law_led_nodes (dCons (dVar 5) (dCons (dCall R__law_mixed (dCons (dVar 0) (dCons (dLstRg (dRg1 (dCB dLen (dCons (dVar 5) dNil)))) dNil))) dNil)))
theorem any_end {d : PyData} {ρ : DEnv} {most : Nat} (h : IsMx most d) (hm : most ≤ 1000) (h0 : ρ[0]? = some (some .pot)) (h5 : ρ[5]? = some (some (.d d))) {Q : PyData → Prop} (q : ∀ d, IsMx most d → Q d) : aE { nx := fun _ => Q .none, rt := Q } ρ := by
  obtain ⟨n, M, rfl, n1, n2, hM⟩ := h
  refine st_ret (P := fun d => ∃ N, d = matD N ∧ Mx n N) (he_led hM (by omega) h5 h0) ?_
  rintro d ⟨N, rfl, hN⟩
  exact q _ ⟨n, N, rfl, n1, n2, hN⟩
end LB

/-! ==== QA02 ==== -/
set_option Elab.async false
set_option linter.all false
set_option maxRecDepth 100000
set_option maxHeartbeats 4000000
/-! ## the parts of a matrix: the graph -/
namespace LQ
open PySem PySem.Spec PyProof.Rows L2 DL LW
section
variable (n : Nat) (M : List (List Int))
def Ed (i j : Nat) : Prop := i < n ∧ j < n ∧ ent M i j ≠ 0
instance (i j : Nat) : Decidable (Ed n M i j) := by
  unfold Ed
  infer_instance
inductive Rc (i : Nat) : Nat → Prop
  | refl : Rc i i
  | step {j k : Nat} : Rc i j → Ed n M j k → Rc i k
end
section
variable {n : Nat} {M : List (List Int)}
def Sym (n : Nat) (M : List (List Int)) : Prop := ∀ i j, Ed n M i j → Ed n M j i
theorem good_sym (h : goodM n M = true) : Sym n M := fun i j ⟨hi, hj, he⟩ => by
  refine ⟨hj, hi, fun e0 => he ?_⟩
  have h1 := List.all_eq_true.mp h i (List.mem_range.mpr hi)
  have h2 := List.all_eq_true.mp h1 j (List.mem_range.mpr hj)
  unfold gd at h2
  by_cases e : i = j
  · rw [e] at e0 ⊢
    exact e0
  · rw [decide_eq_false e, e0] at h2
    by_cases z : ent M i j = 0
    · exact z
    · rw [decide_eq_false z] at h2
      simp at h2
theorem Rc.trans {i j k : Nat} (h : Rc n M i j) (h' : Rc n M j k) : Rc n M i k := by
  induction h' with
  | refl => exact h
  | step _ e ih => exact .step ih e
theorem Rc.sym (s : Sym n M) {i j : Nat} (h : Rc n M i j) : Rc n M j i := by
  induction h with
  | refl => exact .refl
  | step _ e ih => exact Rc.trans (.step .refl (s _ _ e)) ih
theorem Rc.lt {i j : Nat} (hi : i < n) (h : Rc n M i j) : j < n := by
  cases h with
  | refl => exact hi
  | step _ e => exact e.2.1
theorem least_ex (i : Nat) : ∃ m, Rc n M i m ∧ ∀ j, Rc n M i j → m ≤ j := by
  have : ∀ k, (∃ j, j ≤ k ∧ Rc n M i j) → ∃ m, Rc n M i m ∧ ∀ j, Rc n M i j → m ≤ j := fun k => by
    induction k with
    | zero => exact fun ⟨j, h1, h2⟩ => ⟨j, h2, fun z _ => by omega⟩
    | succ k ih =>
      rintro ⟨j, h1, h2⟩
      by_cases h : ∃ j, j ≤ k ∧ Rc n M i j
      · exact ih h
      · refine ⟨j, h2, fun z hz => ?_⟩
        by_cases hk : z ≤ k
        · exact absurd ⟨z, hk, hz⟩ h
        · omega
  exact this i ⟨i, Nat.le_refl _, .refl⟩
variable (n M) in
noncomputable def lo (i : Nat) : Nat := Classical.choose (least_ex (n := n) (M := M) i)
theorem lo_rc (i : Nat) : Rc n M i (lo n M i) := (Classical.choose_spec (least_ex (n := n) (M := M) i)).1
theorem lo_le {i j : Nat} (h : Rc n M i j) : lo n M i ≤ j := (Classical.choose_spec (least_ex (n := n) (M := M) i)).2 j h
theorem lo_self (i : Nat) : lo n M i ≤ i := lo_le .refl
theorem lo_eq (s : Sym n M) {i j : Nat} (h : Rc n M i j) : lo n M i = lo n M j := Nat.le_antisymm (lo_le (h.trans (lo_rc j))) (lo_le ((h.sym s).trans (lo_rc i)))
theorem lo_lo (s : Sym n M) (i : Nat) : lo n M (lo n M i) = lo n M i := (lo_eq s (lo_rc i)).symm
theorem lo_lt {i : Nat} (h : i < n) : lo n M i < n := Nat.lt_of_le_of_lt (lo_self i) h
theorem lo_iff (s : Sym n M) {i j : Nat} : lo n M i = lo n M j ↔ Rc n M i j := ⟨fun h => (lo_rc i).trans (by rw [h]; exact (lo_rc j).sym s), lo_eq s⟩
/-! ### marks that joined nodes share -/
def mk (ms : List Nat) (i : Nat) : Nat := ms.getD i 0
variable (M) in
def stepM (i : Nat) (ms : List Nat) (j : Nat) : List Nat := if ent M i j ≠ 0 ∧ mk ms i ≠ mk ms j then (ms.set i (min (mk ms i) (mk ms j))).set j (min (mk ms i) (mk ms j)) else ms
variable (n M) in
def sweepI (ms : List Nat) (i : Nat) : List Nat := (List.range n).foldl (stepM M i) ms
variable (n M) in
def sweep (ms : List Nat) (_ : Nat) : List Nat := (List.range n).foldl (sweepI n M) ms
theorem mk_set {ms : List Nat} {i k v : Nat} (hi : i < ms.length) : mk (ms.set i v) k = if k = i then v else mk ms k := by
  unfold mk
  rw [List.getD_eq_getElem?_getD, List.getD_eq_getElem?_getD, List.getElem?_set]
  by_cases h : i = k
  · rw [if_pos h, if_pos h.symm, if_pos hi]
    rfl
  · rw [if_neg h, if_neg fun z => h z.symm]
variable (n M) in
structure Inv (ms : List Nat) : Prop where
  len : ms.length = n
  rc : ∀ k, k < n → Rc n M k (mk ms k)
  le : ∀ k, k < n → mk ms k ≤ k
theorem stepM_len (i j : Nat) (ms : List Nat) : (stepM M i ms j).length = ms.length := by
  unfold stepM
  split
  · rw [List.length_set, List.length_set]
  · rfl
theorem stepM_mk {ms : List Nat} {i j : Nat} (hi : i < ms.length) (hj : j < ms.length) (k : Nat) : mk (stepM M i ms j) k = if (ent M i j ≠ 0 ∧ mk ms i ≠ mk ms j) ∧ (k = i ∨ k = j) then min (mk ms i) (mk ms j) else mk ms k := by
  unfold stepM
  by_cases h : ent M i j ≠ 0 ∧ mk ms i ≠ mk ms j
  · rw [if_pos h, mk_set (by rw [List.length_set]; exact hj), mk_set hi]
    by_cases h1 : k = j
    · rw [if_pos h1, if_pos ⟨h, .inr h1⟩]
    · rw [if_neg h1]
      by_cases h2 : k = i
      · rw [if_pos h2, if_pos ⟨h, .inl h2⟩]
      · rw [if_neg h2, if_neg fun z => z.2.elim h2 h1]
  · rw [if_neg h, if_neg fun z => h z.1]
theorem inv_step (s : Sym n M) {ms : List Nat} (h : Inv n M ms) {i j : Nat} (hi : i < n) (hj : j < n) : Inv n M (stepM M i ms j) := by
  have li : i < ms.length := by rw [h.len]; exact hi
  have lj : j < ms.length := by rw [h.len]; exact hj
  refine ⟨by rw [stepM_len, h.len], fun k hk => ?_, fun k hk => ?_⟩
  · rw [stepM_mk li lj]
    split
    · rename_i c
      have e : Ed n M i j := ⟨hi, hj, c.1.1⟩
      have rij : Rc n M i j := .step .refl e
      have rji : Rc n M j i := rij.sym s
      rcases c.2 with rfl | rfl
      · rcases Nat.le_total (mk ms k) (mk ms j) with z | z
        · rw [Nat.min_eq_left z]
          exact h.rc k hk
        · rw [Nat.min_eq_right z]
          exact rij.trans (h.rc j hj)
      · rcases Nat.le_total (mk ms i) (mk ms k) with z | z
        · rw [Nat.min_eq_left z]
          exact rji.trans (h.rc i hi)
        · rw [Nat.min_eq_right z]
          exact h.rc k hk
    · exact h.rc k hk
  · rw [stepM_mk li lj]
    split
    · rename_i c
      have h1 := h.le i hi
      have h2 := h.le j hj
      rcases c.2 with rfl | rfl
      · exact Nat.le_trans (Nat.min_le_left _ _) h1
      · exact Nat.le_trans (Nat.min_le_right _ _) h2
    · exact h.le k hk
def Gd (n : Nat) (M : List (List Int)) (ms : List Nat) (k : Nat) : Prop := mk ms k = lo n M k
theorem good_keep (s : Sym n M) {ms : List Nat} (h : Inv n M ms) {i j k : Nat} (hi : i < n) (hj : j < n) (hk : k < n) (g : Gd n M ms k) : Gd n M (stepM M i ms j) k := by
  have li : i < ms.length := by rw [h.len]; exact hi
  have lj : j < ms.length := by rw [h.len]; exact hj
  unfold Gd at g ⊢
  have h' := inv_step s h hi hj
  have l1 : lo n M k ≤ mk (stepM M i ms j) k := lo_le (h'.rc k hk)
  refine Nat.le_antisymm ?_ l1
  rw [stepM_mk li lj]
  split
  · rename_i c
    rcases c.2 with rfl | rfl
    · rw [g]
      exact Nat.min_le_left _ _
    · rw [g]
      exact Nat.min_le_right _ _
  · rw [g]
    exact Nat.le_refl _
theorem good_edge (s : Sym n M) {ms : List Nat} (h : Inv n M ms) {i j : Nat} (e : Ed n M i j) (g : Gd n M ms i ∨ Gd n M ms j) : Gd n M (stepM M i ms j) i ∧ Gd n M (stepM M i ms j) j := by
  have hi := e.1
  have hj := e.2.1
  have li : i < ms.length := by rw [h.len]; exact hi
  have lj : j < ms.length := by rw [h.len]; exact hj
  have el : lo n M i = lo n M j := lo_eq s (.step .refl e)
  have a1 : lo n M i ≤ mk ms i := lo_le (h.rc i hi)
  have a2 : lo n M j ≤ mk ms j := lo_le (h.rc j hj)
  unfold Gd at g ⊢
  rw [stepM_mk li lj, stepM_mk li lj]
  by_cases c : mk ms i = mk ms j
  · rw [if_neg fun z => z.1.2 c, if_neg fun z => z.1.2 c]
    rcases g with g | g <;> omega
  · rw [if_pos ⟨⟨e.2.2, c⟩, .inl rfl⟩, if_pos ⟨⟨e.2.2, c⟩, .inr rfl⟩]
    rcases g with g | g
    · rw [Nat.min_eq_left (by omega)]
      omega
    · rw [Nat.min_eq_right (by omega)]
      omega
theorem fold_row (s : Sym n M) {i : Nat} (hi : i < n) : ∀ (js : List Nat) (ms : List Nat), (∀ j ∈ js, j < n) → Inv n M ms → Inv n M (js.foldl (stepM M i) ms) ∧ (∀ k, k < n → Gd n M ms k → Gd n M (js.foldl (stepM M i) ms) k) ∧ ∀ j ∈ js, Ed n M i j → (Gd n M ms i ∨ Gd n M ms j) → Gd n M (js.foldl (stepM M i) ms) i ∧ Gd n M (js.foldl (stepM M i) ms) j
  | [], ms, _, h => ⟨h, fun _ _ g => g, nofun⟩
  | j :: js, ms, hj, h => by
    have hj0 := hj j List.mem_cons_self
    have h1 := inv_step s h hi hj0
    obtain ⟨i1, i2, i3⟩ := fold_row s hi js (stepM M i ms j) (fun z hz => hj z (List.mem_cons_of_mem _ hz)) h1
    refine ⟨i1, fun k hk g => i2 k hk (good_keep s h hi hj0 hk g), fun z hz e g => ?_⟩
    rcases List.mem_cons.mp hz with rfl | hz
    · obtain ⟨g1, g2⟩ := good_edge s h e g
      exact ⟨i2 i hi g1, i2 z hj0 g2⟩
    · exact i3 z hz e (g.imp (good_keep s h hi hj0 hi) (good_keep s h hi hj0 e.2.1))
theorem fold_all (s : Sym n M) : ∀ (is : List Nat) (ms : List Nat), (∀ i ∈ is, i < n) → Inv n M ms → Inv n M (is.foldl (sweepI n M) ms) ∧ (∀ k, k < n → Gd n M ms k → Gd n M (is.foldl (sweepI n M) ms) k) ∧ ∀ i ∈ is, ∀ j, Ed n M i j → (Gd n M ms i ∨ Gd n M ms j) → Gd n M (is.foldl (sweepI n M) ms) i ∧ Gd n M (is.foldl (sweepI n M) ms) j
  | [], ms, _, h => ⟨h, fun _ _ g => g, nofun⟩
  | i :: is, ms, hi, h => by
    have hi0 := hi i List.mem_cons_self
    obtain ⟨r1, r2, r3⟩ := fold_row s hi0 (List.range n) ms (fun j hj => List.mem_range.mp hj) h
    obtain ⟨i1, i2, i3⟩ := fold_all s is (sweepI n M ms i) (fun z hz => hi z (List.mem_cons_of_mem _ hz)) r1
    refine ⟨i1, fun k hk g => i2 k hk (r2 k hk g), fun z hz j e g => ?_⟩
    rcases List.mem_cons.mp hz with rfl | hz
    · obtain ⟨g1, g2⟩ := r3 j (List.mem_range.mpr e.2.1) e g
      exact ⟨i2 z e.1 g1, i2 j e.2.1 g2⟩
    · exact i3 z hz j e (g.imp (r2 z e.1) (r2 j e.2.1))
theorem path_edge {P : Nat → Prop} {a b : Nat} (h : Rc n M a b) (ha : P a) (hb : ¬ P b) : ∃ u v, Ed n M u v ∧ P u ∧ ¬ P v := by
  induction h with
  | refl => exact absurd ha hb
  | step h e ih =>
    rename_i j k
    by_cases hj : P j
    · exact ⟨j, k, e, hj, hb⟩
    · exact ih hj
theorem countP_less {p q : Nat → Bool} : ∀ {l : List Nat}, (∀ x ∈ l, q x = true → p x = true) → (∃ x ∈ l, p x = true ∧ q x = false) → l.countP q < l.countP p
  | [], _, ⟨x, hx, _⟩ => nomatch hx
  | y :: l, h, ⟨x, hx, h1, h2⟩ => by
    rw [List.countP_cons, List.countP_cons]
    have hle : l.countP q ≤ l.countP p := List.countP_mono_left fun z hz => h z (List.mem_cons_of_mem _ hz)
    have hy := h y List.mem_cons_self
    rcases List.mem_cons.mp hx with rfl | hx
    · rw [h1, h2]
      simp
      omega
    · have := countP_less (fun z hz => h z (List.mem_cons_of_mem _ hz)) ⟨x, hx, h1, h2⟩
      by_cases hq : q y = true
      · rw [if_pos hq, if_pos (hy hq)]
        omega
      · rw [if_neg hq]
        split <;> omega
open Classical in
variable (n M) in
noncomputable def bad (ms : List Nat) : Nat := (List.range n).countP fun k => !decide (mk ms k = lo n M k)
theorem sweep_less (s : Sym n M) {ms : List Nat} (h : Inv n M ms) (t : Nat) : Inv n M (sweep n M ms t) ∧ (bad n M (sweep n M ms t) = 0 ∨ bad n M (sweep n M ms t) < bad n M ms) := by
  obtain ⟨a1, a2, a3⟩ := fold_all s (List.range n) ms (fun j hj => List.mem_range.mp hj) h
  refine ⟨a1, ?_⟩
  by_cases hb : ∃ k, k < n ∧ ¬ Gd n M ms k
  · obtain ⟨k, hk, hn⟩ := hb
    have g0 : Gd n M ms (lo n M k) := by
      have hl := lo_lt (M := M) hk
      have := lo_le (h.rc _ hl)
      rw [lo_lo s] at this
      unfold Gd
      rw [lo_lo s]
      exact Nat.le_antisymm (h.le _ hl) this
    obtain ⟨u, v, e, gu, gv⟩ := path_edge ((lo_rc k).sym s) g0 hn
    have gv' := (a3 u (List.mem_range.mpr e.1) v e (.inl gu)).2
    refine .inr (countP_less (fun x hx q => ?_) ⟨v, List.mem_range.mpr e.2.1, ?_, ?_⟩)
    · have hx := List.mem_range.mp hx
      by_cases c : mk ms x = lo n M x
      · have : mk (sweep n M ms t) x = lo n M x := a2 x hx c
        rw [decide_eq_true this] at q
        exact absurd q (by decide)
      · rw [decide_eq_false c]
        rfl
    · have gv0 : ¬ mk ms v = lo n M v := gv
      rw [decide_eq_false gv0]
      rfl
    · have gv2 : mk (sweep n M ms t) v = lo n M v := gv'
      rw [decide_eq_true gv2]
      rfl
  · refine .inl ?_
    unfold bad
    rw [List.countP_eq_zero]
    intro k hk
    have hk := List.mem_range.mp hk
    have g : Gd n M ms k := Classical.byContradiction fun z => hb ⟨k, hk, z⟩
    have : mk (sweep n M ms t) k = lo n M k := a2 k hk g
    rw [decide_eq_true this]
    exact Bool.false_ne_true
theorem sweeps (s : Sym n M) : ∀ (ts : List Nat) (ms : List Nat), Inv n M ms → Inv n M (ts.foldl (sweep n M) ms) ∧ (bad n M (ts.foldl (sweep n M) ms) = 0 ∨ bad n M (ts.foldl (sweep n M) ms) + ts.length ≤ bad n M ms)
  | [], ms, h => ⟨h, .inr (Nat.le_refl _)⟩
  | t :: ts, ms, h => by
    obtain ⟨h1, h2⟩ := sweep_less s h t
    obtain ⟨i1, i2⟩ := sweeps s ts (sweep n M ms t) h1
    refine ⟨i1, ?_⟩
    rcases i2 with i2 | i2
    · exact .inl i2
    · rcases h2 with h2 | h2
      · exact .inl (by show bad n M (ts.foldl (sweep n M) (sweep n M ms t)) = 0; omega)
      · exact .inr (by rw [List.length_cons]; show bad n M (ts.foldl (sweep n M) (sweep n M ms t)) + _ ≤ _; omega)
theorem mk_range {k : Nat} (h : k < n) : mk (List.range n) k = k := by
  unfold mk
  rw [List.getD_eq_getElem?_getD, List.getElem?_range h]
  rfl
theorem inv_start : Inv n M (List.range n) := ⟨List.length_range, fun k hk => by rw [mk_range hk]; exact .refl, fun k hk => by rw [mk_range hk]; exact Nat.le_refl _⟩
/-- at the end each mark is the least node of its part -/
theorem marks_end (s : Sym n M) : (List.range n).foldl (sweep n M) (List.range n) = (List.range n).map (lo n M) := by
  obtain ⟨h, hb⟩ := sweeps s (List.range n) (List.range n) inv_start
  have h0 : bad n M ((List.range n).foldl (sweep n M) (List.range n)) = 0 := by
    rcases hb with hb | hb
    · exact hb
    · have : bad n M (List.range n) ≤ n := by
        have := List.countP_le_length (p := fun k => !decide (mk (List.range n) k = lo n M k)) (l := List.range n)
        rw [List.length_range] at this
        exact this
      rw [List.length_range] at hb
      omega
  generalize (List.range n).foldl (sweep n M) (List.range n) = ms at h h0
  refine List.ext_getElem? fun k => ?_
  by_cases hk : k < n
  · have g : mk ms k = lo n M k := by
      unfold bad at h0
      rw [List.countP_eq_zero] at h0
      have := h0 k (List.mem_range.mpr hk)
      by_cases c : mk ms k = lo n M k
      · exact c
      · rw [decide_eq_false c] at this
        exact absurd rfl this
    rw [List.getElem?_map, List.getElem?_range hk]
    have hl : k < ms.length := by rw [h.len]; exact hk
    unfold mk at g
    rw [List.getD_eq_getElem?_getD, List.getElem?_eq_getElem hl] at g
    rw [List.getElem?_eq_getElem hl]
    exact congrArg some g
  · rw [List.getElem?_eq_none (by rw [h.len]; omega), List.getElem?_eq_none (by rw [List.length_map, List.length_range]; omega)]
end
end LQ

/-! ==== QB02 ==== -/
set_option Elab.async false
set_option linter.all false
set_option maxRecDepth 100000
set_option maxHeartbeats 4000000
/-! ## the law's parts -/
namespace LQ
open PySem PySem.Spec PyProof.Rows L2 DL LW
noncomputable def comp (n : Nat) (M : List (List Int)) (c : Nat) : List Nat := (List.range n).filter fun i => decide (lo n M i = c)
noncomputable def reps (n : Nat) (M : List (List Int)) : List Nat := (List.range n).filter fun c => decide (lo n M c = c)
def natL (ks : List Nat) : List PyData := ks.map fun i => PyData.int (i : Nat)
noncomputable def partsL (n : Nat) (M : List (List Int)) : List PyData := (reps n M).map fun c => .tuple (natL (comp n M c))
theorem cLoop_fold {α S : Type} {g : CG} {b : CS} (u : α → PyData) (f : S → α → S) (J : S → DEnv → Prop) : ∀ (xs : List α) (s : S) (ρ : DEnv), J s ρ →
    (∀ x ∈ xs, ∀ s ρ, J s ρ → ∃ ρ' ρ2, g (u x) ρ = some ρ' ∧ b ρ' = some (.nx ρ2) ∧ J (f s x) ρ2) → ∃ ρ', cLoop g b (xs.map u) ρ = some (.nx ρ') ∧ J (xs.foldl f s) ρ'
  | [], s, ρ, h, _ => ⟨ρ, rfl, h⟩
  | x :: xs, s, ρ, h, st => by
    obtain ⟨ρ', ρ2, e1, e2, h2⟩ := st x List.mem_cons_self s ρ h
    obtain ⟨ρ3, e3, h3⟩ := cLoop_fold u f J xs (f s x) ρ2 h2 fun y hy => st y (List.mem_cons_of_mem _ hy)
    refine ⟨ρ3, ?_, h3⟩
    show (g (u x) ρ).bind _ = _
    rw [e1, Option.bind_some, e2, Option.bind_some]
    exact e3
def natO (ms : List Nat) : List OV := ms.map fun k => .d (.int (k : Nat))
def LE (M : List (List Int)) (n : Nat) (ms : List Nat) (x3 x4 x5 x6 : Option OV) : DEnv := [some (.d (matD M)), some (.d (.int n)), some (.lst (natO ms)), x3, x4, x5, x6, none, none]
theorem mk_get {ms : List Nat} {i : Nat} (h : i < ms.length) : (natO ms)[i]? = some (.d (.int (mk ms i))) := by
  unfold natO mk
  rw [List.getElem?_map, List.getElem?_eq_getElem h, List.getD_eq_getElem?_getD, List.getElem?_eq_getElem h]
  rfl
theorem ixl_ok {a b : CE} {ρ : DEnv} {xs : List OV} {i : Nat} {x : OV} (ha : a ρ = some (.lst xs)) (hb : b ρ = some (.d (.int (i : Nat)))) (h : xs[i]? = some x) : cOp cIx a b ρ = some x := by
  refine op_ok ha hb ?_
  show atI xs (i : Nat) = _
  rw [atI_nat, h]
theorem set1_ok {r i : Nat} {a b : CE} {ρ : DEnv} {xs : List OV} {y : PyData} (hg : ρ[r]? = some (some (.lst xs))) (ha : a ρ = some (.d y)) (hb : b ρ = some (.d (.int (i : Nat)))) (hi : i < xs.length) : cSet1 r a b ρ = some (.nx (ρ.set r (some (.lst (xs.set i (.d y)))))) := by
  have e : ixN xs.length (i : Int) = some i := by
    unfold ixN
    rw [if_pos (Int.natCast_nonneg i), if_pos (by omega)]
    rfl
  unfold cSet1 getL
  rw [hg]
  simp only [Option.bind_some]
  rw [ha, Option.bind_some, hb, Option.bind_some]
  simp only
  rw [e]
  rfl
theorem natO_set (ms : List Nat) (i v : Nat) : (natO ms).set i (.d (.int (v : Nat))) = natO (ms.set i v) := by
  unfold natO
  rw [List.map_set]
def lpT : CT := cAndT (cTest (cOp cNe (cOp cIx (cOp cIx (cVar 0) (cVar 4)) (cVar 5)) (cC (.int 0)))) (cTest (cOp cNe (cOp cIx (cVar 2) (cVar 4)) (cOp cIx (cVar 2) (cVar 5))))
def lpS : CS := cSeq (cSet 6 (cCB cMin2 (cCons (cOp cIx (cVar 2) (cVar 4)) (cCons (cOp cIx (cVar 2) (cVar 5)) cNil)))) (cSeq (cSet1 2 (cVar 6) (cVar 4)) (cSet1 2 (cVar 6) (cVar 5)))
def lpB : CS := cIfS lpT lpS cNext
def lp5 : CS := cFor (ciRng1 (cCons (cVar 1) cNil)) (cgName 5) lpB
def lp4 : CS := cFor (ciRng1 (cCons (cVar 1) cNil)) (cgName 4) lp5
def lpF : CS := cFor (ciRng1 (cCons (cVar 1) cNil)) (cgName 3) lp4
theorem min_int (a b : Nat) : (if (b : Int) < (a : Int) then (b : Int) else (a : Int)) = ((min a b : Nat) : Int) := by
  by_cases h : b < a
  · rw [if_pos (by omega), Nat.min_eq_right (by omega)]
  · rw [if_neg (by omega), Nat.min_eq_left (by omega)]
theorem lpB_ok {n : Nat} {M : List (List Int)} (h : Sq n M) {ms : List Nat} (hl : ms.length = n) {i j : Nat} (hi : i < n) (hj : j < n) (x3 x6 : Option OV) :
    ∃ y6, lpB (LE M n ms x3 (some (.d (.int (i : Nat)))) (some (.d (.int (j : Nat)))) x6) = some (.nx (LE M n (stepM M i ms j) x3 (some (.d (.int (i : Nat)))) (some (.d (.int (j : Nat)))) y6)) := by
  have gi : ∀ x6, cOp cIx (cVar 2) (cVar 4) (LE M n ms x3 (some (.d (.int (i : Nat)))) (some (.d (.int (j : Nat)))) x6) = some (.d (.int (mk ms i))) := fun x6 => ixl_ok (xs := natO ms) (i := i) rfl rfl (mk_get (by omega))
  have gj : ∀ x6, cOp cIx (cVar 2) (cVar 5) (LE M n ms x3 (some (.d (.int (i : Nat)))) (some (.d (.int (j : Nat)))) x6) = some (.d (.int (mk ms j))) := fun x6 => ixl_ok (xs := natO ms) (i := j) rfl rfl (mk_get (by omega))
  have t : lpT (LE M n ms x3 (some (.d (.int (i : Nat)))) (some (.d (.int (j : Nat)))) x6) = some (!decide (ent M i j = 0) && !decide ((mk ms i : Int) = (mk ms j : Int))) :=
    and_ok (test_ok (op_ok (ent_ok h hi hj rfl rfl rfl) rfl rfl)) (test_ok (op_ok (gi _) (gj _) rfl))
  rw [natD] at t
  unfold lpB
  by_cases c : ent M i j ≠ 0 ∧ mk ms i ≠ mk ms j
  · rw [decide_eq_false c.1, decide_eq_false c.2] at t
    rw [if_t t]
    have e6 : cSet 6 (cCB cMin2 (cCons (cOp cIx (cVar 2) (cVar 4)) (cCons (cOp cIx (cVar 2) (cVar 5)) cNil))) (LE M n ms x3 (some (.d (.int (i : Nat)))) (some (.d (.int (j : Nat)))) x6) = some (.nx (LE M n ms x3 (some (.d (.int (i : Nat)))) (some (.d (.int (j : Nat)))) (some (.d (.int (min (mk ms i) (mk ms j) : Nat)))))) := by
      have q : cCB cMin2 (cCons (cOp cIx (cVar 2) (cVar 4)) (cCons (cOp cIx (cVar 2) (cVar 5)) cNil)) (LE M n ms x3 (some (.d (.int (i : Nat)))) (some (.d (.int (j : Nat)))) x6) = some (.d (.int (min (mk ms i) (mk ms j) : Nat))) := by
        unfold cCB cCons
        rw [gi, Option.bind_some, gj]
        show some (OV.d (.int (if (mk ms j : Int) < (mk ms i : Int) then (mk ms j : Int) else (mk ms i : Int)))) = _
        rw [min_int]
      unfold cSet
      rw [q]
      rfl
    refine ⟨some (.d (.int (min (mk ms i) (mk ms j) : Nat))), ?_⟩
    unfold lpS
    rw [seq_ok e6]
    have s1 := set1_ok (r := 2) (i := i) (a := cVar 6) (b := cVar 4) (ρ := LE M n ms x3 (some (.d (.int (i : Nat)))) (some (.d (.int (j : Nat)))) (some (.d (.int (min (mk ms i) (mk ms j) : Nat))))) (xs := natO ms) rfl rfl rfl (by unfold natO; rw [List.length_map]; omega)
    rw [natO_set] at s1
    rw [seq_ok s1]
    have s2 := set1_ok (r := 2) (i := j) (a := cVar 6) (b := cVar 5) (ρ := LE M n (ms.set i (min (mk ms i) (mk ms j))) x3 (some (.d (.int (i : Nat)))) (some (.d (.int (j : Nat)))) (some (.d (.int (min (mk ms i) (mk ms j) : Nat))))) (xs := natO (ms.set i (min (mk ms i) (mk ms j)))) rfl rfl rfl (by unfold natO; rw [List.length_map, List.length_set]; omega)
    rw [natO_set] at s2
    unfold stepM
    rw [if_pos c]
    exact s2
  · have t' : (!decide (ent M i j = 0) && !decide (mk ms i = mk ms j)) = false := by
      by_cases c1 : ent M i j = 0
      · rw [decide_eq_true c1]
        rfl
      · by_cases c2 : mk ms i = mk ms j
        · rw [decide_eq_true c2]
          cases decide (ent M i j = 0) <;> rfl
        · exact absurd ⟨c1, c2⟩ c
    rw [t'] at t
    rw [if_f t]
    unfold stepM
    rw [if_neg c]
    exact ⟨x6, rfl⟩
theorem rng_LE {M : List (List Int)} {n : Nat} (h8 : n ≤ 1000) (ms : List Nat) (x3 x4 x5 x6 : Option OV) : ciRng1 (cCons (cVar 1) cNil) (LE M n ms x3 x4 x5 x6) = some ((List.range n).map fun i => PyData.int (i : Nat)) :=
  rng1_ok (a := cVar 1) (ρ := LE M n ms x3 x4 x5 x6) (n := n) rfl (Nat.le_trans h8 (by decide))
theorem lp5_ok {n : Nat} {M : List (List Int)} (h : Sq n M) (h8 : n ≤ 1000) {ms : List Nat} (hl : ms.length = n) {i : Nat} (hi : i < n) (x3 x5 x6 : Option OV) :
    ∃ y5 y6, lp5 (LE M n ms x3 (some (.d (.int (i : Nat)))) x5 x6) = some (.nx (LE M n (sweepI n M ms i) x3 (some (.d (.int (i : Nat)))) y5 y6)) ∧ (sweepI n M ms i).length = n := by
  obtain ⟨ρ', e, hl', y5, y6, rfl⟩ := cLoop_fold (g := cgName 5) (b := lpB) (fun k : Nat => PyData.int k) (stepM M i) (fun ms ρ => ms.length = n ∧ ∃ x5 x6, ρ = LE M n ms x3 (some (.d (.int (i : Nat)))) x5 x6) (List.range n) ms (LE M n ms x3 (some (.d (.int (i : Nat)))) x5 x6) ⟨hl, x5, x6, rfl⟩ (fun j hj ms ρ ⟨hl, x5, x6, e⟩ => by
    subst e
    obtain ⟨y6, e⟩ := lpB_ok h hl hi (List.mem_range.mp hj) x3 x6
    exact ⟨_, _, rfl, e, by rw [stepM_len]; exact hl, _, _, rfl⟩)
  exact ⟨y5, y6, (for_eq (rng_LE h8 _ _ _ _ _)).trans e, hl'⟩
theorem lp4_ok {n : Nat} {M : List (List Int)} (h : Sq n M) (h8 : n ≤ 1000) {ms : List Nat} (hl : ms.length = n) (t : Nat) (x3 x4 x5 x6 : Option OV) :
    ∃ y4 y5 y6, lp4 (LE M n ms x3 x4 x5 x6) = some (.nx (LE M n (sweep n M ms t) x3 y4 y5 y6)) ∧ (sweep n M ms t).length = n := by
  obtain ⟨ρ', e, hl', y4, y5, y6, rfl⟩ := cLoop_fold (g := cgName 4) (b := lp5) (fun k : Nat => PyData.int k) (sweepI n M) (fun ms ρ => ms.length = n ∧ ∃ x4 x5 x6, ρ = LE M n ms x3 x4 x5 x6) (List.range n) ms (LE M n ms x3 x4 x5 x6) ⟨hl, x4, x5, x6, rfl⟩ (fun j hj ms ρ ⟨hl, x4, x5, x6, e⟩ => by
    subst e
    obtain ⟨y5, y6, e, hl'⟩ := lp5_ok h h8 hl (List.mem_range.mp hj) x3 x5 x6
    exact ⟨_, _, rfl, e, hl', _, _, _, rfl⟩)
  exact ⟨y4, y5, y6, (for_eq (rng_LE h8 _ _ _ _ _)).trans e, hl'⟩
theorem lpF_ok {n : Nat} {M : List (List Int)} (h : Sq n M) (s : Sym n M) (h8 : n ≤ 1000) (x3 x4 x5 x6 : Option OV) :
    ∃ y3 y4 y5 y6, lpF (LE M n (List.range n) x3 x4 x5 x6) = some (.nx (LE M n ((List.range n).map (lo n M)) y3 y4 y5 y6)) := by
  obtain ⟨ρ', e, hl', y3, y4, y5, y6, rfl⟩ := cLoop_fold (g := cgName 3) (b := lp4) (fun k : Nat => PyData.int k) (sweep n M) (fun ms ρ => ms.length = n ∧ ∃ x3 x4 x5 x6, ρ = LE M n ms x3 x4 x5 x6) (List.range n) (List.range n) (LE M n (List.range n) x3 x4 x5 x6) ⟨List.length_range, x3, x4, x5, x6, rfl⟩ (fun t hj ms ρ ⟨hl, x3, x4, x5, x6, e⟩ => by
    subst e
    obtain ⟨y4, y5, y6, e, hl'⟩ := lp4_ok h h8 hl t (some (.d (.int (t : Nat)))) x4 x5 x6
    exact ⟨_, _, rfl, e, hl', _, _, _, _, rfl⟩)
  rw [marks_end s] at e
  exact ⟨y3, y4, y5, y6, (for_eq (rng_LE h8 _ _ _ _ _)).trans e⟩
end LQ

/-! ==== QC02 ==== -/
set_option Elab.async false
set_option linter.all false
set_option maxRecDepth 100000
set_option maxHeartbeats 4000000
/-! ## the law's parts, to the end -/
namespace LQ
open PySem PySem.Spec PyProof.Rows L2 DL LW
theorem asc_range {p : Nat → Bool} (n : Nat) : (((List.range n).filter p).map fun k : Nat => (k : Int)).Pairwise (· < ·) := by
  rw [List.pairwise_map]
  exact (List.Pairwise.filter p List.pairwise_lt_range).imp fun h => by omega
theorem natL_int (ks : List Nat) : natL ks = (ks.map fun k : Nat => (k : Int)).map PyData.int := by
  unfold natL
  rw [List.map_map]
  rfl
theorem natO_d (ms : List Nat) : natO ms = (natL ms).map OV.d := by
  unfold natO natL
  rw [List.map_map]
  rfl
theorem sortU_reps {n : Nat} {M : List (List Int)} (s : Sym n M) : sortU (((List.range n).map (lo n M)).map fun k : Nat => (k : Int)) = (reps n M).map fun k : Nat => (k : Int) := by
  refine asc_uniq (sortU_asc _) (asc_range n) fun k => ?_
  rw [sortU_mem]
  constructor
  · intro h
    obtain ⟨a, ha, rfl⟩ := List.mem_map.mp h
    obtain ⟨i, hi, rfl⟩ := List.mem_map.mp ha
    have hi := List.mem_range.mp hi
    exact List.mem_map.mpr ⟨lo n M i, List.mem_filter.mpr ⟨List.mem_range.mpr (lo_lt hi), decide_eq_true (lo_lo s i)⟩, rfl⟩
  · intro h
    obtain ⟨a, ha, rfl⟩ := List.mem_map.mp h
    obtain ⟨h1, h2⟩ := List.mem_filter.mp ha
    refine List.mem_map.mpr ⟨a, List.mem_map.mpr ⟨a, h1, of_decide_eq_true h2⟩, rfl⟩
def lpX : CE := cNE (cLc (ciList (cSortSet (cVar 2))) (cgName 8) cYes (cCB cTupC (cCons (cNE (cLc (ciRng1 (cCons (cVar 1) cNil)) (cgName 4) (cTest (cOp cEq (cOp cIx (cVar 2) (cVar 4)) (cVar 8))) (cVar 4) [4])) cNil)) [8])
theorem lp_eq : cs__law_parts = cSeq (cSet 1 (cCB cLen (cCons (cVar 0) cNil))) (cSeq (cSetN 2 (cLstRgN (cRg1 (cVar 1)))) (cSeq lpF (cSeq (cFrz 2 (cSet 7 lpX)) (cRet (cCB cTupC (cCons (cVar 7) cNil)))))) := rfl
def LZ (M : List (List Int)) (n : Nat) (ms : List Nat) (x3 x4 x5 x6 x7 x8 : Option OV) : DEnv := [some (.d (matD M)), some (.d (.int n)), some (.d (.list (natL ms))), x3, x4, x5, x6, x7, x8]
theorem lpX_ok {n : Nat} {M : List (List Int)} (s : Sym n M) (h8 : n ≤ 50) (x3 x4 x5 x6 x7 x8 : Option OV) : lpX (LZ M n ((List.range n).map (lo n M)) x3 x4 x5 x6 x7 x8) = some (.d (.list (partsL n M))) := by
  have e1 : ciList (cSortSet (cVar 2)) (LZ M n ((List.range n).map (lo n M)) x3 x4 x5 x6 x7 x8) = some ((reps n M).map fun k : Nat => PyData.int k) := by
    have q : cSortSet (cVar 2) (LZ M n ((List.range n).map (lo n M)) x3 x4 x5 x6 x7 x8) = some (.d (.list ((reps n M).map fun k : Nat => PyData.int k))) := by
      show (intsOf (natL ((List.range n).map (lo n M)))).bind _ = _
      rw [natL_int, intsOf_map, Option.bind_some, if_pos (by rw [List.length_map, List.length_map, List.length_range]; omega), sortU_reps s, List.map_map]
      rfl
    unfold ciList
    rw [q]
    rfl
  refine lc_gen (fun k : Nat => PyData.int k) (fun c => PyData.tuple (natL (comp n M c))) (reps n M) e1 (fun c hc => ⟨_, rfl, ?_⟩) (sl_big ?_)
  · refine LQ.cb_ok (x := .d (.list (natL (comp n M c)))) ?_ rfl
    have r1 : ciRng1 (cCons (cVar 1) cNil) (LZ M n ((List.range n).map (lo n M)) x3 x4 x5 x6 x7 (some (.d (.int (c : Nat))))) = some ((List.range n).map fun i => PyData.int (i : Nat)) := rng1_ok (a := cVar 1) (ρ := LZ M n ((List.range n).map (lo n M)) x3 x4 x5 x6 x7 (some (.d (.int (c : Nat))))) (n := n) rfl (by omega)
    refine lc_if (ρ := LZ M n ((List.range n).map (lo n M)) x3 x4 x5 x6 x7 (some (.d (.int (c : Nat))))) (fun k : Nat => PyData.int k) (fun i => decide (lo n M i = c)) (fun k : Nat => PyData.int k) (List.range n) r1 (fun i hi => ⟨LZ M n ((List.range n).map (lo n M)) x3 (some (.d (.int (i : Nat)))) x5 x6 x7 (some (.d (.int (c : Nat)))), rfl, ?_, fun _ => rfl⟩) (sl_big (by rw [List.length_range]; omega))
    have hi := List.mem_range.mp hi
    have g : cOp cIx (cVar 2) (cVar 4) (LZ M n ((List.range n).map (lo n M)) x3 (some (.d (.int (i : Nat)))) x5 x6 x7 (some (.d (.int (c : Nat))))) = some (.d (.int (lo n M i : Nat))) := by
      refine op_ok (x := .d (.list (natL ((List.range n).map (lo n M))))) (y := .d (.int (i : Nat))) rfl rfl ?_
      show (atI (natL ((List.range n).map (lo n M))) (i : Nat)).map OV.d = _
      rw [atI_nat]
      unfold natL
      rw [List.getElem?_map, List.getElem?_map, List.getElem?_range hi]
      rfl
    refine (test_ok (op_ok g rfl rfl)).trans ?_
    show some (decide ((lo n M i : Int) = (c : Int))) = _
    rw [natD]
  · have := List.length_filter_le (fun c => decide (lo n M c = c)) (List.range n)
    rw [List.length_range] at this
    unfold reps
    omega
theorem lparts_ok {n : Nat} {M : List (List Int)} (h : Sq n M) (s : Sym n M) (h8 : n ≤ 50) : c__law_parts [.d (matD M)] = some (.tuple (partsL n M)) := by
  show (cs__law_parts [some (.d (matD M)), none, none, none, none, none, none, none, none]).bind Out.val = _
  rw [lp_eq]
  have e1 : cSet 1 (cCB cLen (cCons (cVar 0) cNil)) [some (.d (matD M)), none, none, none, none, none, none, none, none] = some (.nx [some (.d (matD M)), some (.d (.int n)), none, none, none, none, none, none, none]) := by
    have q : cCB cLen (cCons (cVar 0) cNil) [some (.d (matD M)), none, none, none, none, none, none, none, none] = some (.d (.int n)) := by
      refine LQ.cb_ok (x := .d (matD M)) rfl ?_
      show some (PyData.int ((M.map rowD).length : Nat)) = _
      rw [List.length_map, h.1]
    unfold cSet
    rw [q]
    rfl
  have e2 : cSetN 2 (cLstRgN (cRg1 (cVar 1))) [some (.d (matD M)), some (.d (.int n)), none, none, none, none, none, none, none] = some (.nx (LE M n (List.range n) none none none none)) := by
    have q : cLstRgN (cRg1 (cVar 1)) [some (.d (matD M)), some (.d (.int n)), none, none, none, none, none, none, none] = some (natO (List.range n)) := by
      have e2 : cRg1 (cVar 1) [some (.d (matD M)), some (.d (.int n)), none, none, none, none, none, none, none] = some ((0 : Int), (n : Int)) := rfl
      unfold cLstRgN
      rw [e2, Option.bind_some, if_pos (show RgOk (0 : Int) (n : Int) from by unfold RgOk; omega)]
      show some ((rngD 0 ((n : Int) - 0).toNat).map OV.d) = _
      rw [show ((n : Int) - 0).toNat = n by omega, rngD_eq, natO_d]
      rfl
    unfold cSetN
    rw [q]
    rfl
  rw [seq_ok e1, seq_ok e2]
  obtain ⟨y3, y4, y5, y6, e3⟩ := lpF_ok h s (by omega) none none none none
  rw [seq_ok e3]
  have e4 : cFrz 2 (cSet 7 lpX) (LE M n ((List.range n).map (lo n M)) y3 y4 y5 y6) = some (.nx (LZ M n ((List.range n).map (lo n M)) y3 y4 y5 y6 (some (.d (.list (partsL n M)))) none)) := by
    have f : frzAt (LE M n ((List.range n).map (lo n M)) y3 y4 y5 y6) 2 = LZ M n ((List.range n).map (lo n M)) y3 y4 y5 y6 none none := by
      rw [frz_d (ds := natL ((List.range n).map (lo n M))) (by show some (some (OV.lst (natO _))) = _; rw [natO_d])]
      rfl
    unfold cFrz cSet
    rw [f, lpX_ok s h8]
    rfl
  rw [seq_ok e4]
  rfl
end LQ

/-! ==== QD02 ==== -/
set_option Elab.async false
set_option linter.all false
set_option maxRecDepth 100000
set_option maxHeartbeats 4000000
/-! ## the program's parts: what is joined to a node -/
namespace LQ
open PySem PySem.Spec PyProof.Rows L2 DL LW
def dicN (fs : List Nat) : List (PyData × PyData) := fs.map fun k => (PyData.int (k : Nat), PyData.bool true)
theorem dhas_dicN (fs : List Nat) (j : Nat) : dhasD (dicN fs) (.int (j : Nat)) = decide (j ∈ fs) := by
  induction fs with
  | nil => rfl
  | cons a fs ih =>
    have e : dhasD (dicN (a :: fs)) (.int (j : Nat)) = (decide ((a : Int) = (j : Int)) || dhasD (dicN fs) (.int (j : Nat))) := rfl
    rw [e, ih, natD]
    by_cases h1 : a = j
    · rw [decide_eq_true h1, decide_eq_true (show j ∈ a :: fs from by rw [h1]; exact List.mem_cons_self)]
      rfl
    · rw [decide_eq_false h1, Bool.false_or]
      refine decide_eq_decide.mpr ⟨fun h => List.mem_cons_of_mem _ h, fun h => ?_⟩
      rcases List.mem_cons.mp h with e | h
      · exact absurd e.symm h1
      · exact h
theorem dput_dicN {fs : List Nat} {j : Nat} (h : j ∉ fs) : dputD (dicN fs) (.int (j : Nat)) (.bool true) = dicN (fs ++ [j]) := by
  unfold dputD
  rw [dhas_dicN, decide_eq_false h]
  unfold dicN
  rw [List.map_append]
  rfl
theorem keys_dicN (fs : List Nat) : keysI (dicN fs) = some (fs.map fun k : Nat => (k : Int)) := by
  induction fs with
  | nil => rfl
  | cons a fs ih =>
    show (keysI (dicN fs)).map ((a : Int) :: ·) = _
    rw [ih]
    rfl
def JE (M : List (List Int)) (node : Nat) (fs ls : List Nat) (x4 x5 x6 : Option OV) : DEnv := [some (.d (matD M)), some (.d (.int (node : Nat))), some (.dic (dicN fs)), some (.lst (natO ls)), x4, x5, x6]
def cnt (n : Nat) (fs : List Nat) : Nat := (List.range n).countP fun k => !decide (k ∈ fs)
theorem cnt_add {n : Nat} {fs : List Nat} {j : Nat} (hj : j < n) (h : j ∉ fs) : cnt n (fs ++ [j]) < cnt n fs := by
  refine countP_less (fun x hx q => ?_) ⟨j, List.mem_range.mpr hj, ?_, ?_⟩
  · by_cases c : x ∈ fs
    · rw [decide_eq_true (show x ∈ fs ++ [j] from List.mem_append_left _ c)] at q
      exact absurd q (by decide)
    · rw [decide_eq_false c]
      rfl
  · rw [decide_eq_false h]
    rfl
  · rw [decide_eq_true (show j ∈ fs ++ [j] from List.mem_append_right _ List.mem_cons_self)]
    rfl
/-- what is known while nodes are left; here: the one that is looked at, seen up to k -/
structure JI (n : Nat) (M : List (List Int)) (node : Nat) (fs ls : List Nat) (here : Option Nat) (k : Nat) : Prop where
  nd : fs.Nodup
  lt : ∀ a ∈ fs, a < n
  rc : ∀ a ∈ fs, Rc n M node a
  nin : node ∈ fs
  sub : ∀ a ∈ ls, a ∈ fs
  cl : ∀ a ∈ fs, a ∉ ls → some a ≠ here → ∀ j, Ed n M a j → j ∈ fs
  dn : ∀ a, here = some a → a ∈ fs ∧ ∀ j, j < k → Ed n M a j → j ∈ fs
  sz : fs.length + cnt n fs ≤ n
theorem JI.add {n : Nat} {M : List (List Int)} {node : Nat} {fs ls : List Nat} {a k : Nat} (h : JI n M node fs ls (some a) k) (e : Ed n M a k) (hk : k ∉ fs) : JI n M node (fs ++ [k]) (ls ++ [k]) (some a) (k + 1) := by
  have ha := (h.dn a rfl).1
  have c := cnt_add e.2.1 hk
  refine ⟨?_, fun b hb => ?_, fun b hb => ?_, List.mem_append_left _ h.nin, fun b hb => ?_, fun b hb hl hn j ej => ?_, fun b eb => ?_, ?_⟩
  · rw [List.nodup_append]
    refine ⟨h.nd, by simp, fun x hx y hy => ?_⟩
    rw [List.mem_singleton.mp hy]
    intro z
    rw [z] at hx
    exact hk hx
  · rcases List.mem_append.mp hb with z | z
    · exact h.lt b z
    · rw [List.mem_singleton.mp z]
      exact e.2.1
  · rcases List.mem_append.mp hb with z | z
    · exact h.rc b z
    · rw [List.mem_singleton.mp z]
      exact .step (h.rc a ha) e
  · rcases List.mem_append.mp hb with z | z
    · exact List.mem_append_left _ (h.sub b z)
    · exact List.mem_append_right _ z
  · rcases List.mem_append.mp hb with z | z
    · exact List.mem_append_left _ (h.cl b z (fun q => hl (List.mem_append_left _ q)) hn j ej)
    · exact absurd (List.mem_append_right _ z) hl
  · cases eb
    refine ⟨List.mem_append_left _ ha, fun j hj ej => ?_⟩
    by_cases hjk : j < k
    · exact List.mem_append_left _ ((h.dn a rfl).2 j hjk ej)
    · have : j = k := by omega
      rw [this]
      exact List.mem_append_right _ List.mem_cons_self
  · rw [List.length_append, List.length_singleton]
    have := h.sz
    omega
theorem JI.skip {n : Nat} {M : List (List Int)} {node : Nat} {fs ls : List Nat} {a k : Nat} (h : JI n M node fs ls (some a) k) (hk : Ed n M a k → k ∈ fs) : JI n M node fs ls (some a) (k + 1) := by
  refine ⟨h.nd, h.lt, h.rc, h.nin, h.sub, h.cl, fun b eb => ⟨(h.dn b eb).1, fun j hj ej => ?_⟩, h.sz⟩
  by_cases hjk : j < k
  · exact (h.dn b eb).2 j hjk ej
  · have e1 : j = k := by omega
    cases eb
    rw [e1] at ej ⊢
    exact hk ej
def jT : CT := cAndT (cTest (cOp cNe (cVar 6) (cC (.int 0)))) (cTest (cDIn not 2 (cVar 5)))
def jB : CS := cIfS jT (cSeq (cDPut 2 (cVar 5) (cC (.bool true))) (cApp 3 (cVar 5))) cNext
theorem natO_len (ls : List Nat) : (natO ls).length = ls.length := by
  unfold natO
  rw [List.length_map]
theorem natO_app (ls : List Nat) (k : Nat) : natO (ls ++ [k]) = natO ls ++ [.d (.int (k : Nat))] := by
  unfold natO
  rw [List.map_append]
  rfl
theorem jB_ok {n : Nat} {M : List (List Int)} (h8 : n ≤ 1000) {node : Nat} {fs ls : List Nat} {a k : Nat} (h : JI n M node fs ls (some a) k) (ha : a < n) (hk : k < n) (hls : ls.length ≤ 2000) (x4 : Option OV) :
    ∃ fs' ls', jB (JE M node fs ls x4 (some (.d (.int (k : Nat)))) (some (.d (.int (ent M a k))))) = some (.nx (JE M node fs' ls' x4 (some (.d (.int (k : Nat)))) (some (.d (.int (ent M a k)))))) ∧ JI n M node fs' ls' (some a) (k + 1) ∧ 2 * cnt n fs' + ls'.length ≤ 2 * cnt n fs + ls.length := by
  have t : jT (JE M node fs ls x4 (some (.d (.int (k : Nat)))) (some (.d (.int (ent M a k))))) = some (!decide (ent M a k = 0) && !decide (k ∈ fs)) := by
    refine and_ok (test_ok rfl) (test_ok ?_)
    show some (OV.d (.bool (not (dhasD (dicN fs) (.int (k : Nat)))))) = _
    rw [dhas_dicN]
  unfold jB
  by_cases c1 : ent M a k = 0
  · rw [decide_eq_true c1] at t
    rw [if_f t]
    exact ⟨fs, ls, rfl, h.skip fun e => absurd c1 e.2.2, Nat.le_refl _⟩
  · by_cases c2 : k ∈ fs
    · rw [decide_eq_true c2, decide_eq_false c1] at t
      rw [if_f t]
      exact ⟨fs, ls, rfl, h.skip fun _ => c2, Nat.le_refl _⟩
    · rw [decide_eq_false c2, decide_eq_false c1] at t
      rw [if_t t]
      have big : sizeLine = 16777216 := rfl
      have hf : fs.length < sizeLine := by
        have := h.sz
        omega
      have e1 : cDPut 2 (cVar 5) (cC (.bool true)) (JE M node fs ls x4 (some (.d (.int (k : Nat)))) (some (.d (.int (ent M a k))))) = some (.nx (JE M node (fs ++ [k]) ls x4 (some (.d (.int (k : Nat)))) (some (.d (.int (ent M a k)))))) := by
        show (if keyOk false (.int (k : Nat)) = true ∧ (dicN fs).length < sizeLine then some (Out.nx ((JE M node fs ls x4 (some (.d (.int (k : Nat)))) (some (.d (.int (ent M a k))))).set 2 (some (.dic (dputD (dicN fs) (.int (k : Nat)) (.bool true)))))) else none) = _
        rw [if_pos ⟨rfl, by unfold dicN; rw [List.length_map]; exact hf⟩, dput_dicN c2]
        rfl
      have e2 : cApp 3 (cVar 5) (JE M node (fs ++ [k]) ls x4 (some (.d (.int (k : Nat)))) (some (.d (.int (ent M a k))))) = some (.nx (JE M node (fs ++ [k]) (ls ++ [k]) x4 (some (.d (.int (k : Nat)))) (some (.d (.int (ent M a k)))))) := by
        show (if argOk (.d (.int (k : Nat))) = true ∧ (natO ls).length < sizeLine then some (Out.nx ((JE M node (fs ++ [k]) ls x4 (some (.d (.int (k : Nat)))) (some (.d (.int (ent M a k))))).set 3 (some (.lst (natO ls ++ [.d (.int (k : Nat))]))))) else none) = _
        rw [if_pos ⟨rfl, by rw [natO_len]; omega⟩, ← natO_app]
        rfl
      have cc := cnt_add hk c2
      exact ⟨fs ++ [k], ls ++ [k], by rw [seq_ok e1, e2], h.add ⟨ha, hk, c1⟩ c2, by rw [List.length_append, List.length_singleton]; omega⟩
def jF : CS := cFor (ciEnum (cCons (cOp cIx (cVar 0) (cVar 4)) cNil)) (cgTup (cgCons (cgName 5) (cgCons (cgName 6) cgNil))) jB
theorem jF_ok {n : Nat} {M : List (List Int)} (sq : Sq n M) (h8 : n ≤ 1000) {node : Nat} {fs ls : List Nat} {a : Nat} (h : JI n M node fs ls (some a) 0) (ha : a < n) (hls : 2 * cnt n fs + ls.length ≤ 2000) (x5 x6 : Option OV) :
    ∃ fs' ls' y5 y6, jF (JE M node fs ls (some (.d (.int (a : Nat)))) x5 x6) = some (.nx (JE M node fs' ls' (some (.d (.int (a : Nat)))) y5 y6)) ∧ JI n M node fs' ls' (some a) n ∧ 2 * cnt n fs' + ls'.length ≤ 2 * cnt n fs + ls.length := by
  obtain ⟨r, hr, hl⟩ := sq.row ha
  have e0 : ciEnum (cCons (cOp cIx (cVar 0) (cVar 4)) cNil) (JE M node fs ls (some (.d (.int (a : Nat)))) x5 x6) = some (enumD 0 (r.map .int)) := by
    have q : cOp cIx (cVar 0) (cVar 4) (JE M node fs ls (some (.d (.int (a : Nat)))) x5 x6) = some (.d (rowD r)) := ix_ok (xs := M.map rowD) (i := a) rfl rfl (mat_get hr)
    unfold ciEnum cCons
    rw [q]
    rfl
  obtain ⟨ρ', e, fs', ls', y5, y6, rfl, h1, h2⟩ := cLoop_inv (g := cgTup (cgCons (cgName 5) (cgCons (cgName 6) cgNil))) (b := jB) (fun k ρ => ∃ fs' ls' x5 x6, ρ = JE M node fs' ls' (some (.d (.int (a : Nat)))) x5 x6 ∧ JI n M node fs' ls' (some a) k ∧ 2 * cnt n fs' + ls'.length ≤ 2 * cnt n fs + ls.length) (enumD 0 (r.map .int)) 0 (JE M node fs ls (some (.d (.int (a : Nat)))) x5 x6) ⟨fs, ls, x5, x6, rfl, h, Nat.le_refl _⟩ (fun k x ρ hx ⟨fs1, ls1, x5, x6, e, h1, h2⟩ => by
    subst e
    rw [Nat.zero_add] at h1 ⊢
    obtain ⟨v, hv, rfl⟩ := enumD_map _ _ _ _ _ hx
    have hk : k < n := by
      rw [← hl]
      exact (List.getElem?_eq_some_iff.mp hv).1
    rw [← ent_of hr hv, Nat.zero_add]
    obtain ⟨fs2, ls2, e2, h3, h4⟩ := jB_ok h8 h1 ha hk (by omega) (some (.d (.int (a : Nat))))
    exact ⟨JE M node fs1 ls1 (some (.d (.int (a : Nat)))) (some (.d (.int (k : Nat)))) (some (.d (.int (ent M a k)))), _, rfl, e2, fs2, ls2, _, _, rfl, h3, by omega⟩)
  rw [enumD_len, List.length_map, hl, Nat.zero_add] at h1
  exact ⟨fs', ls', y5, y6, (for_eq e0).trans e, h1, h2⟩
def jW : CS := cSeq (cPop 4 3) jF
theorem pop_ok {r i : Nat} {ρ : DEnv} {ks : List Nat} {a : Nat} (h : ρ[r]? = some (some (.lst (natO (ks ++ [a]))))) : cPop i r ρ = some (.nx ((ρ.set r (some (.lst (natO ks)))).set i (some (.d (.int (a : Nat)))))) := by
  have e : natO (ks ++ [a]) = natO ks ++ [.d (.int (a : Nat))] := by
    unfold natO
    rw [List.map_append]
    rfl
  unfold cPop getL
  rw [h, e]
  simp
theorem jW_ok {n : Nat} {M : List (List Int)} (sq : Sq n M) (h8 : n ≤ 500) {node : Nat} {fs ls : List Nat} (h : JI n M node fs ls none 0) (hne : ls ≠ []) (hls : 2 * cnt n fs + ls.length ≤ 2000) (x4 x5 x6 : Option OV) :
    ∃ fs' ls' y4 y5 y6, jW (JE M node fs ls x4 x5 x6) = some (.nx (JE M node fs' ls' y4 y5 y6)) ∧ JI n M node fs' ls' none 0 ∧ 2 * cnt n fs' + ls'.length < 2 * cnt n fs + ls.length := by
  rcases List.eq_nil_or_concat ls with e | ⟨ks, a, e⟩
  · exact absurd e hne
  · rw [List.concat_eq_append] at e
    subst e
    have haf : a ∈ fs := h.sub a (List.mem_append_right _ List.mem_cons_self)
    have ha : a < n := h.lt a haf
    have e1 : cPop 4 3 (JE M node fs (ks ++ [a]) x4 x5 x6) = some (.nx (JE M node fs ks (some (.d (.int (a : Nat)))) x5 x6)) := pop_ok rfl
    have h1 : JI n M node fs ks (some a) 0 := ⟨h.nd, h.lt, h.rc, h.nin, fun b hb => h.sub b (List.mem_append_left _ hb), fun b hb hl hn j ej => h.cl b hb (fun z => by
      rcases List.mem_append.mp z with z | z
      · exact hl z
      · exact hn (by rw [List.mem_singleton.mp z])) nofun j ej, fun b eb => by
      cases eb
      exact ⟨haf, fun j hj => absurd hj (Nat.not_lt_zero _)⟩, h.sz⟩
    rw [List.length_append, List.length_singleton] at hls
    obtain ⟨fs', ls', y5, y6, e2, h2, h3⟩ := jF_ok sq (by omega) h1 ha (by omega) x5 x6
    refine ⟨fs', ls', some (.d (.int (a : Nat))), y5, y6, by unfold jW; rw [seq_ok e1, e2], ⟨h2.nd, h2.lt, h2.rc, h2.nin, h2.sub, fun b hb hl _ j ej => ?_, nofun, h2.sz⟩, by rw [List.length_append, List.length_singleton]; omega⟩
    by_cases hb2 : some b = some a
    · cases hb2
      exact (h2.dn a rfl).2 j ej.2.1 ej
    · exact h2.cl b hb hl hb2 j ej
end LQ

/-! ==== QE02 ==== -/
set_option Elab.async false
set_option linter.all false
set_option maxRecDepth 100000
set_option maxHeartbeats 4000000
/-! ## the program's parts are the law's -/
namespace LQ
open PySem PySem.Spec PyProof.Rows L2 DL LW
theorem isort_asc {ks : List Int} (nd : ks.Nodup) : (isortS (fun a b => decide (a ≤ b)) ks).Pairwise (· < ·) := by
  have p := perm_isortS (fun a b : Int => decide (a ≤ b)) ks
  have nd' : (isortS (fun a b => decide (a ≤ b)) ks).Nodup := p.symm.nodup nd
  have e := msort_isort (fun a b : Int => decide (a ≤ b)) (fun a b c x y => by simp at *; omega) (fun a b => by simp; omega) ks
  have s := List.pairwise_mergeSort (le := fun a b : Int => decide (a ≤ b)) (fun a b c x y => by simp at *; omega) (fun a b => by simp; omega) ks
  rw [e] at s
  have s2 : (isortS (fun a b => decide (a ≤ b)) ks).Pairwise (· ≤ ·) := s.imp fun h => of_decide_eq_true h
  exact (s2.and nd').imp fun ⟨h1, h2⟩ => by omega
theorem found_all {n : Nat} {M : List (List Int)} {node : Nat} {fs : List Nat} (h : JI n M node fs [] none 0) {k : Nat} (r : Rc n M node k) : k ∈ fs := by
  induction r with
  | refl => exact h.nin
  | step _ e ih => exact h.cl _ ih nofun nofun _ e
theorem sort_comp {n : Nat} {M : List (List Int)} (s : Sym n M) {node : Nat} {fs : List Nat} (h : JI n M node fs [] none 0) : isortS (fun a b => decide (a ≤ b)) (fs.map fun k : Nat => (k : Int)) = (comp n M (lo n M node)).map fun k : Nat => (k : Int) := by
  have nd : (fs.map fun k : Nat => (k : Int)).Nodup := by
    unfold List.Nodup
    rw [List.pairwise_map]
    exact h.nd.imp fun z e => z (by omega)
  refine asc_uniq (isort_asc nd) (asc_range n) fun k => ?_
  rw [(perm_isortS (fun a b : Int => decide (a ≤ b)) _).mem_iff]
  constructor
  · intro hk
    obtain ⟨a, ha, rfl⟩ := List.mem_map.mp hk
    exact List.mem_map.mpr ⟨a, List.mem_filter.mpr ⟨List.mem_range.mpr (h.lt a ha), decide_eq_true (lo_eq s (h.rc a ha)).symm⟩, rfl⟩
  · intro hk
    obtain ⟨a, ha, rfl⟩ := List.mem_map.mp hk
    obtain ⟨h1, h2⟩ := List.mem_filter.mp ha
    exact List.mem_map.mpr ⟨a, found_all h ((lo_iff s).mp (of_decide_eq_true h2).symm), rfl⟩
theorem shaped_natL (ls : List Nat) : SeqAt.shaped (.list (natL ls)) = true := by
  have h1 : ∀ ls : List Nat, PyData.canLayAll0 (natL ls) = true := fun ls => by
    induction ls with
    | nil => rfl
    | cons a ls ih => exact ih
  have h2 : ∀ ls : List Nat, PyData.depthAll (natL ls) = 0 := fun ls => by
    induction ls with
    | nil => rfl
    | cons a ls ih =>
      show max (PyData.depth (.int (a : Nat))) (PyData.depthAll (natL ls)) = 0
      rw [ih]
      rfl
  unfold SeqAt.shaped
  rw [show PyData.canLay0 (.list (natL ls)) = PyData.canLayAll0 (natL ls) from rfl, h1, show PyData.depth (.list (natL ls)) = PyData.depthAll (natL ls) + 1 from rfl, h2]
  rfl
def dWT : DT := dTest (dOp dNe (dVar 3) (dLst dNil))
def cWT : CT := cTest (cOp cNe (cVar 3) (cLst cNil))
instance : EvT dWT cWT := by
  unfold dWT cWT
  infer_instance
theorem wt_ok (M : List (List Int)) (node : Nat) (fs ls : List Nat) (x4 x5 x6 : Option OV) : cWT (JE M node fs ls x4 x5 x6) = some (decide (ls ≠ [])) := by
  refine test_ok (op_ok (x := .lst (natO ls)) (y := .d (.list [])) rfl rfl ?_)
  show (if okv (.lst (natO ls)) = true ∧ okv (.d (.list [])) = true ∧ SeqAt.shaped (vw (.lst (natO ls))) = true ∧ SeqAt.shaped (.list []) = true then some (OV.d (.bool (not (PyData.eqv (vw (.lst (natO ls))) (.list []))))) else none) = _
  have e1 : vw (.lst (natO ls)) = .list (natL ls) := by
    show PyData.list (vws (natO ls)) = _
    rw [natO_d, vws_d]
  have e2 : okv (.lst (natO ls)) = true := by
    show okvs (natO ls) = true
    rw [natO_d]
    exact okvs_d _
  rw [e1, if_pos ⟨e2, rfl, shaped_natL ls, rfl⟩]
  cases ls with
  | nil => rfl
  | cons a ls => rfl
def dJW : DS := dSeq (dPop 4 3) (dFor (diEnum (dCons (dOp dIx (dVar 0) (dVar 4)) dNil)) (dgTup (dgCons (dgName 5) (dgCons (dgName 6) dgNil))) (dIfS (dAndT (dTest (dOp dNe (dVar 6) (dC (.int 0)))) (dTest (dDIn not 2 (dVar 5)))) (dSeq (dDPut 2 (dVar 5) (dC (.bool true))) (dApp 3 (dVar 5))) dNext))
instance : EvS dJW jW := by
  unfold dJW jW jF jB jT
  infer_instance
def dJ0 : DS := dParO [2, 3] (dConsX (dXC1 (dVar 1) (dC (.bool true))) (dConsN (dLstN (dCons (dVar 1) dNil)) dNil))
def cJ0 : CS := cParO [2, 3] (cConsX (cXC1 (cVar 1) (cC (.bool true))) (cConsN (cLstN (cCons (cVar 1) cNil)) cNil))
instance : EvS dJ0 cJ0 := by
  unfold dJ0 cJ0
  infer_instance
def dJE : DS := dRet (dCB dTupC (dCons (dCB dSortDI (dCons (dVar 2) dNil)) dNil))
theorem j_eq : ds_joined_to = dSeq dJ0 (dSeq (dWhile dWT dJW) dJE) := rfl
theorem cnt_one {n : Nat} {a : Nat} (ha : a < n) : cnt n [a] + 1 ≤ n := by
  have h := cnt_add (fs := []) ha (by simp)
  have h2 : cnt n [] ≤ n := by
    have := List.countP_le_length (p := fun k => !decide (k ∈ ([] : List Nat))) (l := List.range n)
    rw [List.length_range] at this
    exact this
  have h3 : cnt n ([] ++ [a]) = cnt n [a] := rfl
  omega
theorem joined_ok {n : Nat} {M : List (List Int)} (sq : Sq n M) (s : Sym n M) (h8 : n ≤ 50) {node : Nat} (hn : node < n) {Q : PyData → Prop} (q : Q (.tuple (natL (comp n M (lo n M node))))) : R_joined_to [.d (matD M), .d (.int (node : Nat))] Q := by
  refine ⟨rfl, ?_⟩
  rw [j_eq]
  refine st_ev (ρ' := JE M node [node] [node] none none none) rfl ?_
  have c1 := cnt_one hn
  have i0 : JI n M node [node] [node] none 0 := ⟨by simp, fun a ha => by rw [List.mem_singleton.mp ha]; exact hn, fun a ha => by rw [List.mem_singleton.mp ha]; exact .refl, List.mem_cons_self, fun a ha => ha, fun a ha hl => absurd ha hl, nofun, by show 1 + cnt n [node] ≤ n; omega⟩
  refine ⟨fun m ρ => ∃ fs ls x4 x5 x6, ρ = JE M node fs ls x4 x5 x6 ∧ JI n M node fs ls none 0 ∧ 2 * cnt n fs + ls.length = m ∧ m ≤ 2 * n, ⟨_, [node], [node], none, none, none, rfl, i0, rfl, by show 2 * cnt n [node] + 1 ≤ 2 * n; omega⟩, ?_⟩
  rintro m ρ ⟨fs, ls, x4, x5, x6, rfl, h, hm, hm2⟩
  refine EvT.ev (wt_ok M node fs ls x4 x5 x6) ?_
  by_cases hl : ls = []
  · rw [show decide (ls ≠ []) = false from decide_eq_false fun z => z hl]
    refine ite_f ?_
    subst hl
    have e1 : cCB cSortDI (cCons (cVar 2) cNil) (JE M node fs [] x4 x5 x6) = some (.d (.list (natL (comp n M (lo n M node))))) := by
      refine LQ.cb_ok (x := .dic (dicN fs)) rfl ?_
      show (keysI (dicN fs)).bind _ = _
      rw [keys_dicN, Option.bind_some, if_pos (by rw [List.length_map]; have := h.sz; omega), sort_comp s h, natL_int]
    refine (show dJE { nx := fun _ => Q .none, rt := Q } (JE M node fs [] x4 x5 x6) from ?_)
    exact st_ret (P := fun d => d = .tuple (natL (comp n M (lo n M node)))) (he_imp (he_ev (ce := cCB cTupC (cCons (cCB cSortDI (cCons (cVar 2) cNil)) cNil)) (x := .d (.tuple (natL (comp n M (lo n M node))))) (LQ.cb_ok e1 rfl)) fun x e => ⟨_, e, rfl⟩) fun d e => by
      rw [e]
      exact q
  · rw [show decide (ls ≠ []) = true from decide_eq_true hl]
    refine ite_t ?_
    obtain ⟨fs', ls', y4, y5, y6, e, h2, h3⟩ := jW_ok sq (by omega) h hl (by omega) x4 x5 x6
    refine EvS.ev (ds := dJW) e ?_
    exact ⟨2 * cnt n fs' + ls'.length, by omega, fs', ls', y4, y5, y6, rfl, h2, rfl, by omega⟩
/-! ### all parts -/
theorem comp_head {n : Nat} {M : List (List Int)} (s : Sym n M) {c : Nat} (hc : c < n) (e : lo n M c = c) : ∃ r, comp n M c = c :: r := by
  have hm : c ∈ comp n M c := List.mem_filter.mpr ⟨List.mem_range.mpr hc, decide_eq_true e⟩
  have hp : (comp n M c).Pairwise (· < ·) := List.Pairwise.filter _ List.pairwise_lt_range
  have hge : ∀ a ∈ comp n M c, c ≤ a := fun a ha => by
    have := of_decide_eq_true (List.mem_filter.mp ha).2
    rw [← this]
    exact lo_self a
  cases hcm : comp n M c with
  | nil =>
    rw [hcm] at hm
    exact nomatch hm
  | cons a r =>
    rw [hcm] at hm hp hge
    have h1 := hge a List.mem_cons_self
    rcases List.mem_cons.mp hm with e2 | e2
    · exact ⟨r, by rw [← e2]⟩
    · have := (List.pairwise_cons.mp hp).1 c e2
      omega
def AE (M : List (List Int)) (ds : List PyData) (x2 x3 : Option OV) : DEnv := [some (.d (matD M)), some (.lst (ds.map OV.d)), x2, x3]
noncomputable def partK (n : Nat) (M : List (List Int)) (k : Nat) : List PyData := ((List.range k).filter fun c => decide (lo n M c = c)).map fun c => .tuple (natL (comp n M c))
def dAB : DS := dSeq (dSet 3 (dCall R_joined_to (dCons (dVar 0) (dCons (dVar 2) dNil)))) (dIfS (dTest (dOp dEq (dOp dIx (dVar 3) (dC (.int 0))) (dVar 2))) (dApp 1 (dVar 3)) dNext)
theorem partK_len (n : Nat) (M : List (List Int)) (k : Nat) : (partK n M k).length ≤ k := by
  unfold partK
  rw [List.length_map]
  have := List.length_filter_le (fun c => decide (lo n M c = c)) (List.range k)
  rw [List.length_range] at this
  exact this
theorem partK_succ (n : Nat) (M : List (List Int)) (k : Nat) : partK n M (k + 1) = if lo n M k = k then partK n M k ++ [.tuple (natL (comp n M k))] else partK n M k := by
  unfold partK
  rw [List.range_succ, List.filter_append]
  by_cases h : lo n M k = k
  · rw [if_pos h, List.filter_cons_of_pos (by simpa using h), List.filter_nil, List.map_append]
    rfl
  · rw [if_neg h, List.filter_cons_of_neg (by simpa using h), List.filter_nil, List.append_nil]
theorem dAB_ok {n : Nat} {M : List (List Int)} (sq : Sq n M) (s : Sym n M) (h8 : n ≤ 50) {k : Nat} (hk : k < n) (x3 : Option OV) (D : DEnds) (nx : ∀ x3, D.nx (AE M (partK n M (k + 1)) (some (.d (.int (k : Nat)))) x3)) : dAB D (AE M (partK n M k) (some (.d (.int (k : Nat)))) x3) := by
  have hl := lo_lt (M := M) hk
  obtain ⟨r, er⟩ := comp_head s hl (lo_lo s k)
  refine st_setD (P := fun d => d = .tuple (natL (comp n M (lo n M k)))) (he_call (ha_cons (he_var (i := 0) rfl) (ha_cons (he_var (i := 2) rfl) ha_nil)) fun xs ⟨x, ys, e1, e2, y, zs, e3, e4, e5⟩ => ?_) fun d e => ?_
  · subst e1 e2 e3 e4 e5
    exact ⟨rfl, joined_ok sq s h8 hk rfl⟩
  · subst e
    refine (show dIfS (dTest (dOp dEq (dOp dIx (dVar 3) (dC (.int 0))) (dVar 2))) (dApp 1 (dVar 3)) dNext D (AE M (partK n M k) (some (.d (.int (k : Nat)))) (some (.d (.tuple (natL (comp n M (lo n M k))))))) from ?_)
    have g : cOp cIx (cVar 3) (cC (.int 0)) (AE M (partK n M k) (some (.d (.int (k : Nat)))) (some (.d (.tuple (natL (comp n M (lo n M k))))))) = some (.d (.int (lo n M k : Nat))) := by
      rw [er]
      exact ix_ok (xs := natL (lo n M k :: r)) (i := 0) rfl rfl rfl
    have t : cTest (cOp cEq (cOp cIx (cVar 3) (cC (.int 0))) (cVar 2)) (AE M (partK n M k) (some (.d (.int (k : Nat)))) (some (.d (.tuple (natL (comp n M (lo n M k))))))) = some (decide (lo n M k = k)) := by
      refine (test_ok (op_ok g rfl rfl)).trans ?_
      show some (decide ((lo n M k : Int) = (k : Int))) = _
      rw [natD]
    have hs := partK_succ n M k
    refine st_if0 (PB := fun b => b = decide (lo n M k = k)) (ht_ev t) (fun eb => ?_) fun eb => ?_
    · have c : lo n M k = k := of_decide_eq_true eb.symm
      rw [if_pos c] at hs
      refine st_app (ds := partK n M k) (P := fun d => d = .tuple (natL (comp n M (lo n M k)))) rfl (by have := partK_len n M k; omega) (he_imp (he_var (i := 3) rfl) fun x e => ⟨_, e, rfl⟩) fun d e => ?_
      subst e
      rw [c, ← hs]
      exact nx _
    · have c : ¬ lo n M k = k := of_decide_eq_false eb.symm
      rw [if_neg c] at hs
      have := nx (some (.d (.tuple (natL (comp n M (lo n M k))))))
      rw [hs] at this
      exact this
theorem all_parts_ok {n : Nat} {M : List (List Int)} (sq : Sq n M) (s : Sym n M) (h8 : n ≤ 50) {Q : PyData → Prop} (q : Q (.tuple (partsL n M))) : R_all_parts [.d (matD M)] Q := by
  refine ⟨rfl, ?_⟩
  refine st_ev (ρ' := AE M [] none none) rfl ?_
  have e0 : ciRng1 (cCons (cCB cLen (cCons (cVar 0) cNil)) cNil) (AE M [] none none) = some ((List.range n).map fun i => PyData.int (i : Nat)) := by
    refine rng1_ok (n := n) (LQ.cb_ok (x := .d (matD M)) rfl ?_) (by omega)
    show some (PyData.int ((M.map rowD).length : Nat)) = _
    rw [List.length_map, sq.1]
  refine st_for e0 ?_
  refine dLoop_inv (fun k ρ => ∃ x2 x3, ρ = AE M (partK n M k) x2 x3) _ 0 _ ⟨none, none, rfl⟩ ?_ ?_
  · rintro k x ρ D' hx ⟨x2, x3, rfl⟩ nx _ _ _
    obtain ⟨hk, rfl⟩ := rng_get hx
    rw [Nat.zero_add] at nx ⊢
    exact dAB_ok sq s h8 hk x3 D' fun x3 => nx _ ⟨_, x3, rfl⟩
  · rintro ρ ⟨x2, x3, rfl⟩
    rw [List.length_map, List.length_range, Nat.zero_add]
    refine (show dFrz 1 (dRet (dCB dTupC (dCons (dVar 1) dNil))) { nx := fun _ => Q .none, rt := Q } (AE M (partK n M n) x2 x3) from st_frz (ds := partK n M n) rfl ?_)
    exact st_ret (P := fun d => d = .tuple (partsL n M)) (he_imp (he_ev (x := .d (.tuple (partsL n M))) rfl) fun x e => ⟨_, e, rfl⟩) fun d e => by
      rw [e]
      exact q
end LQ

/-! ==== RA02 ==== -/
set_option Elab.async false
set_option linter.all false
set_option maxRecDepth 100000
set_option maxHeartbeats 4000000
namespace LB
open PySem PySem.Spec PyProof.Rows L2 DL LW LQ
/-! ## any Cartan matrix -/
theorem st_par {i j : Nat} {a b : DE} {rest : DS} {D : DEnds} {ρ : DEnv} {P1 P2 : PyData → Prop} (ha : HE a ρ fun x => ∃ d, x = .d d ∧ P1 d) (hb : HE b ρ fun x => ∃ d, x = .d d ∧ P2 d) (k : ∀ d e, P1 d → P2 e → rest D ((ρ.set i (some (.d d))).set j (some (.d e)))) : dSeq (dPar i j (dCons a (dCons b dNil))) rest D ρ := ha _ fun x ⟨d, e1, p1⟩ => hb _ fun y ⟨e, e2, p2⟩ => by
  subst e1 e2
  exact ⟨rfl, rfl, k d e p1 p2⟩
theorem st_setD0 {i : Nat} {e : DE} {D : DEnds} {ρ : DEnv} {P : PyData → Prop} (he : HE e ρ fun x => ∃ d, x = .d d ∧ P d) (k : ∀ d, P d → D.nx (ρ.set i (some (.d d)))) : dSet i e D ρ := he _ fun x ⟨d, e, p⟩ => by
  subst e
  exact ⟨rfl, k d p⟩
def aW (k : Int) : DT := dTest (dOp dEq (dVar 3) (dC (.int k)))
def aP : DS := dPar 3 4 (dCons (dCall Rdraw (dCons (dVar 0) (dCons (dC (.int 6)) dNil))) (dCons (dOp dFdv (dVar 1) (dC (.int 2))) dNil))
def aN (e : DE) : DE := dCall R__law_single (dCons (dCall R__law_pick (dCons (dVar 0) (dCons (dCall R__law_names (dCons (dOp dAdd (dC (.int 1)) (dCall Rdraw (dCons (dVar 0) (dCons e dNil)))) dNil)) dNil))) dNil)
def a0 : DE := dCall R__law_matrix (dCons (dVar 0) (dCons (dVar 1) dNil))
def a1 : DE := dCall R__law_longer (dCons (dVar 0) (dCons (aN (dOp dSub (dVar 1) (dC (.int 1)))) dNil))
def aw (k : Nat) : DE := dCall R__law_wild (dCons (dVar 0) (dCons (dVar k) (dCons (dVar 2) dNil)))
def a2 : DE := dCall R__law_put_together (dCons (aw 4) (dCons (aw 4) dNil))
def a3 : DE := dCall R__law_put_together (dCons (dCall R__law_longer (dCons (dVar 0) (dCons (dVar 6) dNil))) (dCons (dCall R__law_matrix (dCons (dVar 0) (dCons (dVar 4) dNil))) dNil))
theorem any_eq : ds__law_any_cartan = dSeq aP (dSeq (dIfS (aW 0) (dSet 5 a0) (dIfS (aW 1) (dSet 5 a1) (dIfS (aW 2) (dSet 5 a2) (dIfS (aW 3) (dSeq (dSet 6 (aN (dOp dSub (dVar 4) (dC (.int 1))))) (dSet 5 a3)) (dSet 5 (aw 1)))))) aE) := rfl
def AN (z : Int) (x5 x6 : Option OV) : DEnv := [some .pot, some (.d (.int 8)), some (.d (.int 20)), some (.d (.int z)), some (.d (.int 4)), x5, x6]
theorem ht_aW {z k : Int} {x5 x6 : Option OV} : HT (aW k) (AN z x5 x6) fun _ => True := ht_any (he_vi (i := 3) (l := z) (h := z) rfl (Int.le_refl _) (Int.le_refl _))
theorem any_cartan_ok {Q : PyData → Prop} (q : ∀ d, IsMx 8 d → Q d) : R__law_any_cartan [.pot, .d (.int 8), .d (.int 20)] Q := by
  refine ⟨rfl, ?_⟩
  rw [any_eq]
  refine st_par (P1 := PI 0 5) (P2 := fun d => d = .int 4) (he_pi (he_drawc (n := 6) (by decide) (by decide)) (by decide) (by decide)) (he_imp (he_ev (ce := cOp cFdv (cVar 1) (cC (.int 2))) (x := .d (.int 4)) (by kernel_rfl)) fun x e => ⟨_, e, rfl⟩) fun d e hd he => ?_
  obtain ⟨z, rfl, _, _⟩ := hd
  subst he
  refine (show dSeq (dIfS (aW 0) (dSet 5 a0) (dIfS (aW 1) (dSet 5 a1) (dIfS (aW 2) (dSet 5 a2) (dIfS (aW 3) (dSeq (dSet 6 (aN (dOp dSub (dVar 4) (dC (.int 1))))) (dSet 5 a3)) (dSet 5 (aw 1)))))) aE { nx := fun _ => Q .none, rt := Q } (AN z none none) from ?_)
  have fin : ∀ (d : PyData) (x6 : Option OV), IsMx 8 d → aE { nx := fun _ => Q .none, rt := Q } (AN z (some (.d d)) x6) := fun d x6 h => any_end h (by decide) rfl rfl q
  refine st_if ht_aW (fun _ => ?_) fun _ => st_if ht_aW (fun _ => ?_) fun _ => st_if ht_aW (fun _ => ?_) fun _ => st_if ht_aW (fun _ => ?_) fun _ => ?_
  · exact st_setD (he_matrix (most := 8) (he_var (i := 1) rfl) (by decide) (by decide)) fun d h => fin d none h
  · exact st_setD (he_longer (lo := 1) (hi := 7) (he_single (he_name1 (k := 7) (z := 7) (he_ev (x := .d (.int 7)) rfl) rfl (by decide) (by decide))) (by decide)) fun d h => fin d none h
  · exact st_setD (he_put (a := 4) (b := 4) (he_wild (most := 4) (size := 20) (he_var (i := 4) rfl) (he_var (i := 2) rfl) (by decide) (by decide) (by decide)) (he_wild (most := 4) (size := 20) (he_var (i := 4) rfl) (he_var (i := 2) rfl) (by decide) (by decide) (by decide)) (by decide) (by decide)) fun d h => fin d none h
  · refine (show dSeq (dSet 6 (aN (dOp dSub (dVar 4) (dC (.int 1))))) (dSet 5 a3) { nx := fun ρ' => aE { nx := fun _ => Q .none, rt := Q } ρ', rt := Q } (AN z none none) from ?_)
    refine st_setD (he_single (lo := 1) (hi := 3) (he_name1 (k := 3) (z := 3) (he_ev (x := .d (.int 3)) rfl) rfl (by decide) (by decide))) fun d h => ?_
    refine (show dSet 5 a3 { nx := fun ρ' => aE { nx := fun _ => Q .none, rt := Q } ρ', rt := Q } (AN z none (some (.d d))) from ?_)
    exact st_setD0 (he_put (a := 4) (b := 4) (he_longer (lo := 1) (hi := 3) (he_imp (he_var (i := 6) rfl) fun x e => ⟨d, e, h⟩) (by decide)) (he_matrix (most := 4) (he_var (i := 4) rfl) (by decide) (by decide)) (by decide) (by decide)) fun d2 h2 => fin d2 _ h2
  · exact st_setD (he_wild (most := 8) (size := 20) (he_var (i := 1) rfl) (he_var (i := 2) rfl) (by decide) (by decide) (by decide)) fun d h => fin d none h
end LB

/-! ==== RB02 ==== -/
set_option Elab.async false
set_option linter.all false
set_option maxRecDepth 100000
set_option maxHeartbeats 4000000
namespace LB
open PySem PySem.Spec PyProof.Rows L2 DL LW LQ
/-! ## a matrix with something changed -/
def BV (d : PyData) : Prop := ∀ i : Int, d = .int i → -200 ≤ i ∧ i ≤ 200
def BR (d : PyData) : Prop := ∀ xs, d = .tuple xs → ∀ x ∈ xs, BV x
def BT (d : PyData) : Prop := ∀ rs, d = .tuple rs → ∀ r ∈ rs, BR r
def RW (n : Nat) (d : PyData) : Prop := ∃ xs, d = .tuple xs ∧ xs.length = n ∧ ∀ x ∈ xs, BV x
theorem RW.br {n : Nat} {d : PyData} (h : RW n d) : BR d := fun xs e x hx => by
  obtain ⟨ys, e2, _, h⟩ := h
  rw [e2] at e
  cases e
  exact h x hx
theorem bv_int {i : Int} (h1 : -200 ≤ i) (h2 : i ≤ 200) : BV (.int i) := fun j e => by
  cases e
  exact ⟨h1, h2⟩
theorem rw_row {n : Nat} {M : List (List Int)} (h : Mx n M) {r : List Int} (hr : r ∈ M) : RW n (rowD r) := ⟨r.map .int, rfl, by rw [List.length_map]; exact h.1.2 r hr, fun x hx => by
  obtain ⟨i, hi, rfl⟩ := List.mem_map.mp hx
  have := h.2 r hr i hi
  exact bv_int (by omega) (by omega)⟩
def BE (M : List (List Int)) (n i j : Nat) (rs : List PyData) (w : Int) (x7 x8 x9 x10 : Option OV) : DEnv := [some .pot, some (.d (matD M)), some (.d (.int n)), some (.d (.int i)), some (.d (.int j)), some (.lst (rs.map OV.d)), some (.d (.int w)), x7, x8, x9, x10]
theorem he_ix5 {ρ : DEnv} {rs : List PyData} {i s : Nat} {r : PyData} (h5 : ρ[5]? = some (some (.lst (rs.map OV.d)))) (hs : ρ[s]? = some (some (.d (.int (i : Nat))))) (hi : rs[i]? = some r) : HE (dOp dIx (dVar 5) (dVar s)) ρ (· = .d r) := he_ev (ce := cOp cIx (cVar 5) (cVar s)) (ixl_ok (xs := rs.map OV.d) (i := i) (by unfold cVar; rw [h5]; rfl) (by unfold cVar; rw [hs]; rfl) (by rw [List.getElem?_map, hi]; rfl))
def bN (s t u : Nat) : DE := dOp dAdd (dOp dAdd (dSl (dOp dIx (dVar 5) (dVar s)) dNoPart (dPart (dVar t))) (dTup (dCons (dVar u) dNil))) (dSl (dOp dIx (dVar 5) (dVar s)) (dPart (dOp dAdd (dVar t) (dC (.int 1)))) dNoPart)
theorem he_tup1 {e : DE} {ρ : DEnv} {d : PyData} (h : HE e ρ (· = .d d)) : HE (dTup (dCons e dNil)) ρ (· = .d (.tuple [d])) := fun Q q => h _ fun x ex => by
  subst ex
  exact ⟨[d], rfl, by show 1 ≤ sizeLine; decide, q _ rfl⟩
theorem he_new {ρ : DEnv} {rs : List PyData} {i j s t u n : Nat} {r d : PyData} (h5 : ρ[5]? = some (some (.lst (rs.map OV.d)))) (hs : ρ[s]? = some (some (.d (.int (i : Nat))))) (ht : ρ[t]? = some (some (.d (.int (j : Nat))))) (hu : ρ[u]? = some (some (.d d))) (hi : rs[i]? = some r) (hr : RW n r) (hj : j < n) (hn : n ≤ 1000) (hd : BV d) : HE (bN s t u) ρ fun x => ∃ e, x = .d e ∧ RW n e := by
  obtain ⟨xs, rfl, hl, hb⟩ := hr
  have e1 : cVar t ρ = some (.d (.int (j : Nat))) := by
    unfold cVar
    rw [ht]
    rfl
  have e2 : cOp cAdd (cVar t) (cC (.int 1)) ρ = some (.d (.int ((j + 1 : Nat) : Int))) := op_ok e1 rfl rfl
  have a := he_catT (he_catT (he_slLt (b := dVar t) (he_ix5 h5 hs hi) e1 (by omega)) (he_tup1 (he_var hu)) (by rw [List.length_take]; simp; omega)) (he_slRt (b := dOp dAdd (dVar t) (dC (.int 1))) (he_ix5 h5 hs hi) e2 (by omega)) (by rw [List.length_append, List.length_take, List.length_drop]; simp; omega)
  refine he_imp a fun x e => ⟨_, e, _, rfl, ?_, fun y hy => ?_⟩
  · rw [List.length_append, List.length_append, List.length_take, List.length_drop]
    simp
    omega
  · rcases List.mem_append.mp hy with hy | hy
    · rcases List.mem_append.mp hy with hy | hy
      · exact hb y (List.mem_of_mem_take hy)
      · rw [List.mem_singleton.mp hy]
        exact hd
    · exact hb y (List.mem_of_mem_drop hy)
theorem st_set1 {a : DE} {s i : Nat} {D : DEnds} {ρ : DEnv} {rs : List PyData} {P : PyData → Prop} (h5 : ρ[5]? = some (some (.lst (rs.map OV.d)))) (ha : HE a ρ fun x => ∃ e, x = .d e ∧ P e) (hs : ρ[s]? = some (some (.d (.int (i : Nat))))) (hi : i < rs.length) (k : ∀ e, P e → D.nx (ρ.set 5 (some (.lst ((rs.set i e).map OV.d))))) : dSet1 5 a (dVar s) D ρ := by
  unfold dSet1 getL
  rw [h5]
  refine ha _ fun x ⟨e, ex, p⟩ => ?_
  subst ex
  unfold dVar
  rw [hs]
  refine ⟨rfl, i, by rw [List.length_map]; exact ixN_lt hi, ?_⟩
  have := k e p
  rw [List.map_set] at this
  exact this
def bE : DS := dFrz 5 (dRet (dIf (dTest (dOp dEq (dVar 6) (dC (.int 9)))) (dVar 5) (dCB dTupC (dCons (dVar 5) dNil))))
theorem bent_end {M : List (List Int)} {n i j : Nat} {rs : List PyData} {w : Int} {x7 x8 x9 x10 : Option OV} (h : ∀ r ∈ rs, BR r) {Q : PyData → Prop} (q : ∀ d, BT d → Q d) : bE { nx := fun _ => Q .none, rt := Q } (BE M n i j rs w x7 x8 x9 x10) := by
  refine st_frz (ds := rs) rfl ?_
  refine (show dRet (dIf (dTest (dOp dEq (dVar 6) (dC (.int 9)))) (dVar 5) (dCB dTupC (dCons (dVar 5) dNil))) { nx := fun _ => Q .none, rt := Q } [some .pot, some (.d (matD M)), some (.d (.int n)), some (.d (.int i)), some (.d (.int j)), some (.d (.list rs)), some (.d (.int w)), x7, x8, x9, x10] from ?_)
  refine st_ret (P := BT) (he_if (PB := fun _ => True) (ht_any (he_vi (i := 6) rfl (Int.le_refl _) (Int.le_refl _))) (fun _ => he_imp (he_var (i := 5) rfl) fun x e => ⟨.list rs, e, fun _ z => nomatch z⟩) fun _ => he_imp (he_ev (x := .d (.tuple rs)) rfl) fun x e => ⟨.tuple rs, e, fun zs z => by cases z; exact h⟩) q
/-! ### the ways -/
def b0N : DE := dOp dIx (dOp dIx (dVar 1) (dVar 3)) (dVar 4)
def b0L : DA := dCons (dOp dAdd b0N (dC (.int 1))) (dCons (dOp dSub b0N (dC (.int 1))) (dCons (dC (.int 0)) (dCons (dC (.bool true)) (dCons (dC .none) (dCons (dOp dSub (dC (.int 0)) b0N) (dCons (dC (.int 2)) (dCons (dC (.str "0")) dNil)))))))
def b0 : DS := dSeq (dSet 7 (dCall R__law_pick (dCons (dVar 0) (dCons (dLst b0L) dNil)))) (dSet1 5 (bN 3 4 7) (dVar 3))
def b5L : DA := dCons (dCB dLstC (dCons (dOp dIx (dVar 5) (dVar 3)) dNil)) (dCons (dSl (dOp dIx (dVar 5) (dVar 3)) dNoPart (dPart (dNeg (dC (.int 1))))) (dCons (dOp dAdd (dOp dIx (dVar 5) (dVar 3)) (dTup (dCons (dC (.int 0)) dNil))) (dCons (dTup dNil) (dCons (dC .none) dNil))))
def b5 : DS := dSet1 5 (dCall R__law_pick (dCons (dVar 0) (dCons (dLst b5L) dNil))) (dVar 3)
def b6 : DS := dFrz 5 (dSetN 5 (dCatN (dSl (dVar 5) dNoPart (dPart (dVar 3))) (dSl (dVar 5) (dPart (dOp dAdd (dVar 3) (dC (.int 1)))) dNoPart)))
def b7 : DS := dSetN 5 (dCatN (dVar 5) (dLst (dCons (dOp dIx (dVar 5) (dVar 3)) dNil)))
def b8E : DE := dOp dAdd (dSl (dVar 10) dNoPart (dPart (dVar 4))) (dSl (dVar 10) (dPart (dOp dAdd (dVar 4) (dC (.int 1)))) dNoPart)
def b8 : DS := dFrz 5 (dSetN 5 (dLc (diList (dVar 5)) (dgName 10) dYes b8E [10]))
def b9P (a b : Int) : DE := dTup (dCons (if a < 0 then dNeg (dC (.int (-a))) else dC (.int a)) (dCons (if b < 0 then dNeg (dC (.int (-b))) else dC (.int b)) dNil))
def b9L : DA := dCons (dTup (dCons (dC (.int 1)) (dCons (dC (.int 1)) dNil))) (dCons (dTup (dCons (dC (.int 1)) (dCons (dNeg (dC (.int 1))) dNil))) (dCons (dTup (dCons (dNeg (dC (.int 1))) (dCons (dC (.int 0)) dNil))) (dCons (dTup (dCons (dC (.int 2)) (dCons (dC (.int 1)) dNil))) (dCons (dTup (dCons (dC (.int 0)) (dCons (dC (.int 0)) dNil))) (dCons (dTup (dCons (dNeg (dC (.int 2))) (dCons (dNeg (dC (.int 3))) dNil))) dNil)))))
def b9A : DS := dAsgG (dCall R__law_pick (dCons (dVar 0) (dCons (dLst b9L) dNil))) (dgTup (dgCons (dgName 8) (dgCons (dgName 9) dgNil)))
def b9 : DS := dSeq b9A (dSeq (dSet1 5 (bN 3 4 8) (dVar 3)) (dSet1 5 (bN 4 3 9) (dVar 4)))
def bD : DE := dCall Rdraw (dCons (dVar 0) (dCons (dVar 2) dNil))
def bP : DS := dParO [3, 4, 5, 6] (dConsO bD (dConsO bD (dConsN (dLstCN (dCons (dVar 1) dNil)) (dConsO (dCall Rdraw (dCons (dVar 0) (dCons (dC (.int 13)) dNil))) dNil))))
def bT (k : Int) : DT := dTest (dOp dEq (dVar 6) (dC (.int k)))
def bL : DT := dTest (dOp dLt (dVar 6) (dC (.int 5)))
def bT9 : DT := dAndT (dTest (dOp dGt (dVar 6) (dC (.int 9)))) (dTest (dOp dNe (dVar 3) (dVar 4)))
theorem bent_eq : ds__law_bent = dSeq (dSet 2 (dCB dLen (dCons (dVar 1) dNil))) (dSeq bP (dSeq (dIfS bL b0 (dIfS (bT 5) b5 (dIfS (bT 6) b6 (dIfS (bT 7) b7 (dIfS (bT 8) b8 (dIfS bT9 b9 dNext)))))) bE)) := rfl
end LB

/-! ==== RC02 ==== -/
set_option Elab.async false
set_option linter.all false
set_option maxRecDepth 100000
set_option maxHeartbeats 4000000
namespace LB
open PySem PySem.Spec PyProof.Rows L2 DL LW LQ
theorem bv_none {d : PyData} (h : ∀ i : Int, d ≠ .int i) : BV d := fun i e => absurd e (h i)
theorem he_bv {e : DE} {ρ : DEnv} {l h : Int} (he : HE e ρ (TI l h)) (h1 : -200 ≤ l) (h2 : h ≤ 200) : HE e ρ fun x => ∃ d, x = .d d ∧ BV d := he_imp he fun x ⟨i, e, a, b⟩ => ⟨.int i, e, bv_int (by omega) (by omega)⟩
theorem he_bc {d : PyData} {ρ : DEnv} (h : BV d) : HE (dC d) ρ fun x => ∃ d, x = .d d ∧ BV d := he_imp he_c fun x e => ⟨d, e, h⟩
section
variable {M : List (List Int)} {n i j : Nat} {w : Int} {x7 x8 x9 x10 : Option OV}
theorem b0L_ok (hM : Mx n M) (hi : i < n) (hj : j < n) : HL BV 8 b0L (BE M n i j (M.map rowD) w x7 x8 x9 x10) := by
  have g : HE b0N (BE M n i j (M.map rowD) w x7 x8 x9 x10) (TI (-100) 100) := he_imp (he_ev (de := b0N) (ce := cOp cIx (cOp cIx (cVar 1) (cVar 3)) (cVar 4)) (h := by unfold b0N; infer_instance) (ent_ok hM.1 hi hj rfl rfl rfl)) fun x e => by
    have := ent_mem hM hi hj
    exact ⟨ent M i j, e, this.1, this.2⟩
  exact hl_cons (he_bv (he_add g he_ci) (by decide) (by decide)) (hl_cons (he_bv (he_sub g he_ci) (by decide) (by decide)) (hl_cons (he_bc (bv_int (by decide) (by decide))) (hl_cons (he_bc (bv_none nofun)) (hl_cons (he_bc (bv_none nofun)) (hl_cons (he_bv (he_sub he_ci g) (by decide) (by decide)) (hl_cons (he_bc (bv_int (by decide) (by decide))) (hl_cons (he_bc (bv_none nofun)) hl_nil)))))))
theorem row_at (hM : Mx n M) (hi : i < n) : ∃ r, (M.map rowD)[i]? = some r ∧ RW n r := by
  obtain ⟨r, h1, h2⟩ := hM.1.row hi
  exact ⟨rowD r, mat_get h1, rw_row hM (List.mem_of_getElem? h1)⟩
theorem rows_br (hM : Mx n M) : ∀ r ∈ M.map rowD, RW n r := fun r hr => by
  obtain ⟨s, hs, rfl⟩ := List.mem_map.mp hr
  exact rw_row hM hs
theorem set_br {rs : List PyData} {P : PyData → Prop} (h : ∀ r ∈ rs, P r) {e : PyData} (he : P e) (k : Nat) : ∀ r ∈ rs.set k e, P r := fun r hr => by
  rcases List.mem_or_eq_of_mem_set hr with z | z
  · exact h r z
  · rw [z]
    exact he
theorem seq_as {a b c : DS} {D : DEnds} {ρ : DEnv} (h : dSeq a (dSeq b c) D ρ) : dSeq (dSeq a b) c D ρ := h
theorem seq_set1 {a : DE} {s i : Nat} {rest : DS} {D : DEnds} {ρ : DEnv} {rs : List PyData} {P : PyData → Prop} (h5 : ρ[5]? = some (some (.lst (rs.map OV.d)))) (ha : HE a ρ fun x => ∃ e, x = .d e ∧ P e) (hs : ρ[s]? = some (some (.d (.int (i : Nat))))) (hi : i < rs.length) (k : ∀ e, P e → rest D (ρ.set 5 (some (.lst ((rs.set i e).map OV.d))))) : dSeq (dSet1 5 a (dVar s)) rest D ρ := st_set1 (D := { D with nx := fun ρ' => rest D ρ' }) h5 ha hs hi k
theorem be_7 (rs : List PyData) (y : Option OV) : (BE M n i j rs w x7 x8 x9 x10).set 7 y = BE M n i j rs w y x8 x9 x10 := rfl
theorem be_5 (rs ss : List PyData) : (BE M n i j rs w x7 x8 x9 x10).set 5 (some (.lst (ss.map OV.d))) = BE M n i j ss w x7 x8 x9 x10 := rfl
theorem be5 (rs : List PyData) : (BE M n i j rs w x7 x8 x9 x10)[5]? = some (some (.lst (rs.map OV.d))) := rfl
theorem be3 (rs : List PyData) : (BE M n i j rs w x7 x8 x9 x10)[3]? = some (some (.d (.int (i : Nat)))) := rfl
theorem be4 (rs : List PyData) : (BE M n i j rs w x7 x8 x9 x10)[4]? = some (some (.d (.int (j : Nat)))) := rfl
theorem be7 (rs : List PyData) (d : PyData) : (BE M n i j rs w (some (.d d)) x8 x9 x10)[7]? = some (some (.d d)) := rfl
theorem be0 (rs : List PyData) : (BE M n i j rs w x7 x8 x9 x10)[0]? = some (some .pot) := rfl
theorem b0_ok (hM : Mx n M) (hi : i < n) (hj : j < n) (hn : n ≤ 1000) {rest : DS} {D : DEnds} (k : ∀ rs x7, (∀ r ∈ rs, BR r) → rest D (BE M n i j rs w x7 x8 x9 x10)) : dSeq b0 rest D (BE M n i j (M.map rowD) w x7 x8 x9 x10) := by
  obtain ⟨r, h1, h2⟩ := row_at hM hi
  unfold b0
  refine seq_as (st_setD (he_pickL (b0L_ok hM hi hj) (by decide) (be0 _)) fun d hd => ?_)
  rw [be_7]
  refine seq_set1 (i := i) (be5 _) (he_new (i := i) (j := j) (be5 _) (be3 _) (be4 _) (be7 _ d) h1 h2 hj hn hd) (be3 _) (by rw [List.length_map, hM.1.1]; exact hi) fun e he => ?_
  rw [be_5]
  exact k ((M.map rowD).set i e) (some (.d d)) (set_br (fun r hr => (rows_br hM r hr).br) he.br i)
theorem br_other {d : PyData} (h : ∀ xs, d ≠ .tuple xs) : BR d := fun xs e => absurd e (h xs)
theorem cut_mem {xs : List PyData} {lo hi : Option Int} {x : PyData} (h : x ∈ DL.cutD xs lo hi) : x ∈ xs := List.mem_of_mem_drop (List.mem_of_mem_take h)
theorem b5L_ok (hM : Mx n M) (hi : i < n) (hn : n ≤ 1000) : HL BR 5 b5L (BE M n i j (M.map rowD) w x7 x8 x9 x10) := by
  obtain ⟨r, h1, h2⟩ := row_at hM hi
  obtain ⟨xs, rfl, hl, hb⟩ := h2
  have g := he_ix5 (ρ := BE M n i j (M.map rowD) w x7 x8 x9 x10) (s := 3) (i := i) rfl rfl h1
  refine hl_cons ?_ (hl_cons ?_ (hl_cons ?_ (hl_cons ?_ (hl_cons ?_ hl_nil))))
  · exact fun Q q => g _ fun x e => by
      subst e
      exact ⟨xs, rfl, q _ ⟨.list xs, rfl, br_other nofun⟩⟩
  · exact fun Q q => g _ fun x e => by
      subst e
      refine (show Q (.d (.tuple (DL.cutD xs none (some (-1))))) from q _ ⟨_, rfl, fun ys e x hx => ?_⟩)
      cases e
      exact hb x (cut_mem hx)
  · refine he_imp (he_catT (xs := xs) (ys := [.int 0]) g (he_tup1 he_c) (by simp; omega)) fun x e => ⟨_, e, fun ys e x hx => ?_⟩
    cases e
    rcases List.mem_append.mp hx with z | z
    · exact hb x z
    · rw [List.mem_singleton.mp z]
      exact bv_int (by decide) (by decide)
  · exact fun Q q => ⟨[], rfl, by show 0 ≤ sizeLine; decide, q _ ⟨.tuple [], rfl, fun ys e x hx => by cases e; cases hx⟩⟩
  · exact he_imp he_c fun x e => ⟨.none, e, br_other nofun⟩
theorem b5_ok (hM : Mx n M) (hi : i < n) (hn : n ≤ 1000) {rest : DS} {D : DEnds} (k : ∀ rs x7, (∀ r ∈ rs, BR r) → rest D (BE M n i j rs w x7 x8 x9 x10)) : dSeq b5 rest D (BE M n i j (M.map rowD) w x7 x8 x9 x10) := by
  unfold b5
  refine seq_set1 (i := i) (be5 _) (he_pickL (b5L_ok hM hi hn) (by decide) (be0 _)) (be3 _) (by rw [List.length_map, hM.1.1]; exact hi) fun e he => ?_
  rw [be_5]
  exact k ((M.map rowD).set i e) x7 (set_br (fun r hr => (rows_br hM r hr).br) he i)
def BF (M : List (List Int)) (n i j : Nat) (rs : List PyData) (w : Int) (x7 x8 x9 x10 : Option OV) : DEnv := [some .pot, some (.d (matD M)), some (.d (.int n)), some (.d (.int i)), some (.d (.int j)), some (.d (.list rs)), some (.d (.int w)), x7, x8, x9, x10]
theorem bf5 (rs : List PyData) : (BF M n i j rs w x7 x8 x9 x10)[5]? = some (some (.d (.list rs))) := rfl
theorem be_f (rs : List PyData) : (BE M n i j rs w x7 x8 x9 x10).set 5 (some (.d (.list rs))) = BF M n i j rs w x7 x8 x9 x10 := rfl
theorem bf_5 (rs ss : List PyData) : (BF M n i j rs w x7 x8 x9 x10).set 5 (some (.lst (ss.map OV.d))) = BE M n i j ss w x7 x8 x9 x10 := rfl
theorem seq_frzN {dn : DN} {rest : DS} {D : DEnds} {ρ : DEnv} {rs : List PyData} (h5 : ρ[5]? = some (some (.lst (rs.map OV.d)))) (k : dn (ρ.set 5 (some (.d (.list rs)))) fun xs => rest D ((ρ.set 5 (some (.d (.list rs)))).set 5 (some (.lst xs)))) : dSeq (dFrz 5 (dSetN 5 dn)) rest D ρ := st_frz (s := dSetN 5 dn) (D := { D with nx := fun ρ' => rest D ρ' }) h5 k
theorem cat_n {a b : DE} {ρ : DEnv} {xs ys : List PyData} {Q : List OV → Prop} (ha : HE a ρ (· = .d (.list xs))) (hb : HE b ρ (· = .d (.list ys))) (hl : xs.length + ys.length ≤ 1000000) (q : Q ((xs ++ ys).map OV.d)) : dCatN a b ρ Q := ha _ fun x e1 => hb _ fun y e2 => by
  subst e1 e2
  exact ⟨xs, ys, rfl, rfl, sl_big hl, q⟩
theorem b6_ok (hM : Mx n M) (hi : i < n) (hn : n ≤ 1000) {rest : DS} {D : DEnds} (k : ∀ rs x7, (∀ r ∈ rs, BR r) → rest D (BE M n i j rs w x7 x8 x9 x10)) : dSeq b6 rest D (BE M n i j (M.map rowD) w x7 x8 x9 x10) := by
  have hl : (M.map rowD).length = n := by rw [List.length_map, hM.1.1]
  unfold b6
  refine seq_frzN (be5 _) ?_
  rw [be_f]
  have e1 : cVar 3 (BF M n i j (M.map rowD) w x7 x8 x9 x10) = some (.d (.int (i : Nat))) := rfl
  have e2 : cOp cAdd (cVar 3) (cC (.int 1)) (BF M n i j (M.map rowD) w x7 x8 x9 x10) = some (.d (.int ((i + 1 : Nat) : Int))) := op_ok e1 rfl rfl
  refine cat_n (he_slL (b := dVar 3) (he_var (bf5 _)) e1 (by omega)) (he_slR (b := dOp dAdd (dVar 3) (dC (.int 1))) (he_var (bf5 _)) e2 (by omega)) (by rw [List.length_take, List.length_drop]; omega) ?_
  rw [bf_5]
  refine k _ x7 fun r hr => ?_
  rcases List.mem_append.mp hr with z | z
  · exact (rows_br hM r (List.mem_of_mem_take z)).br
  · exact (rows_br hM r (List.mem_of_mem_drop z)).br
theorem seq_setN {dn : DN} {rest : DS} {D : DEnds} {ρ : DEnv} (k : dn ρ fun xs => rest D (ρ.set 5 (some (.lst xs)))) : dSeq (dSetN 5 dn) rest D ρ := k
theorem catO_n {b : DE} {ρ : DEnv} {xs ys : List PyData} {Q : List OV → Prop} (h5 : ρ[5]? = some (some (.lst (xs.map OV.d)))) (hb : HE b ρ (· = .d (.list ys))) (hl : xs.length + ys.length ≤ 1000000) (q : Q ((xs ++ ys).map OV.d)) : dCatN (dVar 5) b ρ Q := by
  unfold dCatN dVar
  rw [h5]
  exact hb _ fun y e2 => by
    subst e2
    exact ⟨xs, ys, ovs_d _, rfl, sl_big hl, q⟩
theorem he_lst1 {e : DE} {ρ : DEnv} {d : PyData} (h : HE e ρ (· = .d d)) : HE (dLst (dCons e dNil)) ρ (· = .d (.list [d])) := fun Q q => h _ fun x ex => by
  subst ex
  exact ⟨[d], rfl, by show 1 ≤ sizeLine; decide, q _ rfl⟩
theorem b7_ok (hM : Mx n M) (hi : i < n) (hn : n ≤ 1000) {rest : DS} {D : DEnds} (k : ∀ rs x7, (∀ r ∈ rs, BR r) → rest D (BE M n i j rs w x7 x8 x9 x10)) : dSeq b7 rest D (BE M n i j (M.map rowD) w x7 x8 x9 x10) := by
  have hl : (M.map rowD).length = n := by rw [List.length_map, hM.1.1]
  obtain ⟨r, h1, h2⟩ := row_at hM hi
  unfold b7
  refine seq_setN (catO_n (be5 _) (he_lst1 (he_ix5 (be5 _) (be3 _) h1)) (by show (M.map rowD).length + 1 ≤ 1000000; omega) ?_)
  rw [be_5]
  refine k _ x7 fun s hs => ?_
  rcases List.mem_append.mp hs with z | z
  · exact (rows_br hM s z).br
  · rw [List.mem_singleton.mp z]
    exact h2.br
theorem lc_raw {α : Type} {g : CG} {ci : CI} {ca : CE} {ρ : DEnv} {vs : List Nat} (u f : α → PyData) (xs : List α) (hi : ci ρ = some (xs.map u)) (h : ∀ x ∈ xs, ∃ ρ', g (u x) (wipeD ρ vs) = some ρ' ∧ ca ρ' = some (.d (f x))) (hl : xs.length ≤ sizeLine) : cLc ci g cYes ca vs ρ = some ((xs.map f).map OV.d) := by
  unfold cLc
  rw [hi]
  simp only [Option.bind_some]
  rw [lcl_gen u f xs [] h (by simpa using hl)]
  rfl
def c8E : CE := cOp cAdd (cSl (cVar 10) cNoPart (cPart (cVar 4))) (cSl (cVar 10) (cPart (cOp cAdd (cVar 4) (cC (.int 1)))) cNoPart)
instance ev8 : EvN (dLc (diList (dVar 5)) (dgName 10) dYes b8E [10]) (cLc (ciList (cVar 5)) (cgName 10) cYes c8E [10]) := by
  unfold b8E c8E
  infer_instance
theorem sl_lo {a b : CE} {ρ : DEnv} {xs : List PyData} {r : Nat} (ha : a ρ = some (.d (.tuple xs))) (hb : b ρ = some (.d (.int (r : Nat)))) (h : r ≤ xs.length) : cSl a cNoPart (cPart b) ρ = some (.d (.tuple (xs.take r))) := by
  unfold cSl cNoPart cPart
  rw [ha, Option.bind_some, Option.bind_some, hb]
  show some (OV.d (.tuple (DL.cutD xs none (some (r : Int))))) = _
  rw [cut_lo xs r h]
theorem sl_hi {a b : CE} {ρ : DEnv} {xs : List PyData} {r : Nat} (ha : a ρ = some (.d (.tuple xs))) (hb : b ρ = some (.d (.int (r : Nat)))) (h : r ≤ xs.length) : cSl a (cPart b) cNoPart ρ = some (.d (.tuple (xs.drop r))) := by
  unfold cSl cNoPart cPart
  rw [ha, Option.bind_some, hb]
  show some (OV.d (.tuple (DL.cutD xs (some (r : Int)) none))) = _
  rw [cut_hi xs r h]
theorem b8_ok (hM : Mx n M) (hj : j < n) (hn : n ≤ 1000) {rest : DS} {D : DEnds} (k : ∀ rs x7, (∀ r ∈ rs, BR r) → rest D (BE M n i j rs w x7 x8 x9 x10)) : dSeq b8 rest D (BE M n i j (M.map rowD) w x7 x8 x9 x10) := by
  unfold b8
  refine seq_frzN (be5 _) ?_
  rw [be_f]
  have e := lc_raw (g := cgName 10) (ci := ciList (cVar 5)) (ca := c8E) (ρ := BF M n i j (M.map rowD) w x7 x8 x9 x10) (vs := [10]) rowD (fun r => PyData.tuple ((r.map PyData.int).take j ++ (r.map PyData.int).drop (j + 1))) M rfl (fun r hr => ⟨BF M n i j (M.map rowD) w x7 x8 x9 (some (.d (rowD r))), rfl, by
    have hl : (r.map PyData.int).length = n := by rw [List.length_map]; exact hM.1.2 r hr
    have e1 : cVar 4 (BF M n i j (M.map rowD) w x7 x8 x9 (some (.d (rowD r)))) = some (.d (.int (j : Nat))) := rfl
    have e2 : cOp cAdd (cVar 4) (cC (.int 1)) (BF M n i j (M.map rowD) w x7 x8 x9 (some (.d (rowD r)))) = some (.d (.int ((j + 1 : Nat) : Int))) := op_ok e1 rfl rfl
    refine op_ok (sl_lo (xs := r.map PyData.int) rfl e1 (by omega)) (sl_hi (xs := r.map PyData.int) rfl e2 (by omega)) ?_
    show (if ((r.map PyData.int).take j).length + ((r.map PyData.int).drop (j + 1)).length ≤ sizeLine then _ else none) = _
    rw [if_pos (sl_big (by rw [List.length_take, List.length_drop]; omega))]⟩) (sl_big (by rw [hM.1.1]; omega))
  refine ev8.ev e ?_
  rw [bf_5]
  refine k _ x7 fun s hs => ?_
  obtain ⟨r, hr, rfl⟩ := List.mem_map.mp hs
  refine fun ys ey y hy => ?_
  cases ey
  have hb : ∀ y ∈ r.map PyData.int, BV y := fun y hy => by
    obtain ⟨z, hz, rfl⟩ := List.mem_map.mp hy
    have := hM.2 r hr z hz
    exact bv_int (by omega) (by omega)
  rcases List.mem_append.mp hy with z | z
  · exact hb y (List.mem_of_mem_take z)
  · exact hb y (List.mem_of_mem_drop z)
end
end LB

/-! ==== RD02 ==== -/
set_option Elab.async false
set_option linter.all false
set_option maxRecDepth 100000
set_option maxHeartbeats 4000000
namespace LB
open PySem PySem.Spec PyProof.Rows L2 DL LW LQ
def PP (d : PyData) : Prop := ∃ a b : Int, d = .tuple [.int a, .int b] ∧ BV (.int a) ∧ BV (.int b)
theorem seq_asgG {e : DE} {rest : DS} {D : DEnds} {ρ : DEnv} (he : HE e ρ fun x => ∃ d, x = .d d ∧ PP d) (k : ∀ a b : Int, BV (.int a) → BV (.int b) → rest D ((ρ.set 8 (some (.d (.int a)))).set 9 (some (.d (.int b))))) : dSeq (dAsgG e (dgTup (dgCons (dgName 8) (dgCons (dgName 9) dgNil)))) rest D ρ := he _ fun x ⟨d, e, a, b, e2, h1, h2⟩ => by
  subst e e2
  exact k a b h1 h2
theorem he_pp {a b : DE} {ρ : DEnv} {i j : Int} (ha : HE a ρ (· = .d (.int i))) (hb : HE b ρ (· = .d (.int j))) (h1 : -200 ≤ i ∧ i ≤ 200) (h2 : -200 ≤ j ∧ j ≤ 200) : HE (dTup (dCons a (dCons b dNil))) ρ fun x => ∃ d, x = .d d ∧ PP d := fun Q q => ha _ fun x ex => hb _ fun y ey => by
  subst ex ey
  exact ⟨[.int i, .int j], rfl, by show 2 ≤ sizeLine; decide, q _ ⟨_, rfl, i, j, rfl, bv_int h1.1 h1.2, bv_int h2.1 h2.2⟩⟩
theorem he_neg {i : Int} {ρ : DEnv} : HE (dNeg (dC (.int i))) ρ (· = .d (.int (-i))) := fun Q q => q _ rfl
section
variable {M : List (List Int)} {n i j : Nat} {w : Int} {x7 x8 x9 x10 : Option OV}
theorem b9L_ok (ρ : DEnv) : HL PP 6 b9L ρ := by
  exact hl_cons (he_pp he_c he_c (by decide) (by decide)) (hl_cons (he_pp he_c he_neg (by decide) (by decide)) (hl_cons (he_pp he_neg he_c (by decide) (by decide)) (hl_cons (he_pp he_c he_c (by decide) (by decide)) (hl_cons (he_pp he_c he_c (by decide) (by decide)) (hl_cons (he_pp he_neg he_neg (by decide) (by decide)) hl_nil)))))
theorem be_89 (rs : List PyData) (y z : Option OV) : ((BE M n i j rs w x7 x8 x9 x10).set 8 y).set 9 z = BE M n i j rs w x7 y z x10 := rfl
theorem be8 (rs : List PyData) (d : PyData) : (BE M n i j rs w x7 (some (.d d)) x9 x10)[8]? = some (some (.d d)) := rfl
theorem be9 (rs : List PyData) (d : PyData) : (BE M n i j rs w x7 x8 (some (.d d)) x10)[9]? = some (some (.d d)) := rfl
theorem b9_ok (hM : Mx n M) (hi : i < n) (hj : j < n) (hn : n ≤ 1000) {rest : DS} {D : DEnds} (k : ∀ rs x8 x9, (∀ r ∈ rs, BR r) → rest D (BE M n i j rs w x7 x8 x9 x10)) : dSeq b9 rest D (BE M n i j (M.map rowD) w x7 x8 x9 x10) := by
  obtain ⟨r, h1, h2⟩ := row_at hM hi
  have hl : (M.map rowD).length = n := by rw [List.length_map, hM.1.1]
  unfold b9 b9A
  refine seq_as (seq_asgG (he_pickL (b9L_ok _) (by decide) (be0 _)) fun a b ha hb => ?_)
  rw [be_89]
  refine seq_as (seq_set1 (i := i) (be5 _) (he_new (i := i) (j := j) (be5 _) (be3 _) (be4 _) (be8 _ _) h1 h2 hj hn ha) (be3 _) (by omega) fun e he => ?_)
  rw [be_5]
  have hl2 : ((M.map rowD).set i e).length = n := by rw [List.length_set, hl]
  have hr2 : ∀ r ∈ (M.map rowD).set i e, RW n r := set_br (rows_br hM) he i
  have hj2 : j < ((M.map rowD).set i e).length := by omega
  have g2 := List.getElem?_eq_getElem hj2
  have r2 := hr2 _ (List.getElem_mem hj2)
  refine seq_set1 (i := j) (be5 _) (he_new (i := j) (j := i) (be5 _) (be4 _) (be3 _) (be9 _ _) g2 r2 hi hn hb) (be4 _) hj2 fun e2 he2 => ?_
  rw [be_5]
  exact k _ _ _ (set_br (fun r hr => (hr2 r hr).br) he2.br j)
end
theorem he_parO {ρ : DEnv} {n : Nat} {M : List (List Int)} {D : DEnds} {rest : DS} (h0 : ρ[0]? = some (some .pot)) (h1 : ρ[1]? = some (some (.d (matD M)))) (h2 : ρ[2]? = some (some (.d (.int n)))) (hn : 1 ≤ n ∧ n ≤ 1000) (k : ∀ (i j : Nat) (w : Int), i < n → j < n → rest D (setsR ρ [3, 4, 5, 6] [.d (.int i), .d (.int j), .lst ((M.map rowD).map OV.d), .d (.int w)])) : dSeq bP rest D ρ := by
  have d1 : HE bD ρ (TI 0 ((n : Int) - 1)) := he_draw (n := n) (he_var h2) (by omega) (by omega) h0
  have d2 : HE (dCall Rdraw (dCons (dVar 0) (dCons (dC (.int 13)) dNil))) ρ (TI 0 (13 - 1)) := he_drawc (by decide) (by decide) h0
  refine (show bD ρ (fun x => argOk x = true ∧ bD ρ fun y => argOk y = true ∧ dVar 1 ρ fun m => ∃ ys, asSeq m = some ys ∧ dCall Rdraw (dCons (dVar 0) (dCons (dC (.int 13)) dNil)) ρ fun z => argOk z = true ∧ ([x, y, .lst (ys.map OV.d), z].length = [3, 4, 5, 6].length ∧ rest D (setsR ρ [3, 4, 5, 6] [x, y, .lst (ys.map OV.d), z]))) from ?_)
  refine d1 _ fun x ⟨i, e, a, b⟩ => ?_
  subst e
  refine ⟨rfl, d1 _ fun y ⟨j, e, c, d⟩ => ?_⟩
  subst e
  refine ⟨rfl, ?_⟩
  unfold dVar
  rw [h1]
  refine ⟨M.map rowD, rfl, ?_⟩
  refine d2 _ fun z ⟨w, e, _, _⟩ => ?_
  subst e
  refine ⟨rfl, rfl, ?_⟩
  have := k i.toNat j.toNat w (by omega) (by omega)
  rw [show ((i.toNat : Nat) : Int) = i by omega, show ((j.toNat : Nat) : Int) = j by omega] at this
  exact this
theorem bent_ok {n : Nat} {M : List (List Int)} (hM : Mx n M) (hn1 : 1 ≤ n) (hn : n ≤ 1000) {Q : PyData → Prop} (q : ∀ d, BT d → Q d) : R__law_bent [.pot, .d (matD M)] Q := by
  refine ⟨rfl, ?_⟩
  rw [bent_eq]
  have e1 : cSet 2 (cCB cLen (cCons (cVar 1) cNil)) (startD N__law_bent [.pot, .d (matD M)]) = some (.nx [some .pot, some (.d (matD M)), some (.d (.int n)), none, none, none, none, none, none, none, none]) := by
    have z : cCB cLen (cCons (cVar 1) cNil) (startD N__law_bent [.pot, .d (matD M)]) = some (.d (.int n)) := by
      refine LQ.cb_ok (x := .d (matD M)) rfl ?_
      show some (PyData.int ((M.map rowD).length : Nat)) = _
      rw [List.length_map, hM.1.1]
    unfold cSet
    rw [z]
    rfl
  refine st_ev e1 ?_
  refine he_parO (n := n) (M := M) rfl rfl rfl ⟨hn1, hn⟩ fun i j w hi hj => ?_
  refine (show dSeq (dIfS bL b0 (dIfS (bT 5) b5 (dIfS (bT 6) b6 (dIfS (bT 7) b7 (dIfS (bT 8) b8 (dIfS bT9 b9 dNext)))))) bE { nx := fun _ => Q .none, rt := Q } (BE M n i j (M.map rowD) w none none none none) from ?_)
  have v6 : HE (dVar 6) (BE M n i j (M.map rowD) w none none none none) (TI w w) := he_vi (z := w) rfl (Int.le_refl _) (Int.le_refl _)
  have tk : ∀ k, HT (bT k) (BE M n i j (M.map rowD) w none none none none) fun _ => True := fun k => ht_any v6
  have t9 : HT bT9 (BE M n i j (M.map rowD) w none none none none) fun _ => True := ht_and (ht_anyc v6 he_ci) (ht_eqG (he_vi (i := 3) (z := i) rfl (Int.le_refl _) (Int.le_refl _)) (he_vi (i := 4) (z := j) rfl (Int.le_refl _) (Int.le_refl _)))
  have fin : ∀ rs x7 x8 x9, (∀ r ∈ rs, BR r) → bE { nx := fun _ => Q .none, rt := Q } (BE M n i j rs w x7 x8 x9 none) := fun rs x7 x8 x9 h => bent_end h q
  refine st_if (PB := fun _ => True) (ht_anyc v6 he_ci) (fun _ => b0_ok hM hi hj hn fun rs x7 h => fin rs x7 _ _ h) fun _ => ?_
  refine st_if (tk 5) (fun _ => b5_ok hM hi hn fun rs x7 h => fin rs x7 _ _ h) fun _ => ?_
  refine st_if (tk 6) (fun _ => b6_ok hM hi hn fun rs x7 h => fin rs x7 _ _ h) fun _ => ?_
  refine st_if (tk 7) (fun _ => b7_ok hM hi hn fun rs x7 h => fin rs x7 _ _ h) fun _ => ?_
  refine st_if (tk 8) (fun _ => b8_ok hM hj hn fun rs x7 h => fin rs x7 _ _ h) fun _ => ?_
  refine st_if t9 (fun _ => b9_ok hM hi hj hn fun rs x8 x9 h => fin rs none x8 x9 h) fun _ => ?_
  exact fin (M.map rowD) none none none fun r hr => (rows_br hM r hr).br
end LB

/-! ==== SA02 ==== -/
set_option Elab.async false
set_option linter.all false
set_option maxRecDepth 100000
set_option maxHeartbeats 4000000
/-! ## sums; what repr may show -/
namespace LB
open PySem PySem.Spec PyProof.Rows L2 DL LW LQ
def dotZ (r v : List Int) : Int := ((r.zip v).map fun p => p.1 * p.2).sum
def sums (M : List (List Int)) (v : List Int) : List Int := M.map fun r => dotZ r v
theorem zipD_zip : ∀ r v : List Int, zipD (r.map .int) (v.map .int) = (r.zip v).map fun p => PyData.tuple [.int p.1, .int p.2]
  | [], _ => rfl
  | _ :: _, [] => rfl
  | a :: r, b :: v => by
    show PyData.tuple [.int a, .int b] :: zipD (r.map .int) (v.map .int) = _
    rw [zipD_zip r v]
    rfl
theorem sumA_ok {a : CE} {ρ : DEnv} {α : Type} (f : α → Int) (xs : List α) (h : a ρ = some (.d (.list (xs.map fun x => .int (f x))))) : cCB cSumA (cCons a cNil) ρ = some (.d (.int (xs.map f).sum)) := by
  refine LQ.cb_ok h ?_
  show ((ints? (xs.map fun x => PyData.int (f x))).map fun ns => PyData.int ns.sum) = _
  rw [LQ.ints_map]
  rfl
theorem mul_ok {a b : CE} {ρ : DEnv} {i j : Int} (ha : a ρ = some (.d (.int i))) (hb : b ρ = some (.d (.int j))) (h : -200 ≤ i ∧ i ≤ 200) : cOp cMul a b ρ = some (.d (.int (i * j))) := by
  refine op_ok ha hb ?_
  show (if CMul i j then some (OV.d (.int (i * j))) else none) = _
  rw [if_pos (.inl ⟨by omega, by omega⟩)]
theorem dot_ok {r v : List Int} (hr : ∀ x ∈ r, -200 ≤ x ∧ x ≤ 200) (hl : r.length ≤ 1000) : c_dot [.d (rowD r), .d (rowD v)] = some (.int (dotZ r v)) := by
  show (cs_dot [some (.d (rowD r)), some (.d (rowD v)), none, none]).bind Out.val = _
  refine congrArg (Option.bind · Out.val) (LQ.ret_ok (x := .d (.int (dotZ r v))) ?_ rfl) |>.trans rfl
  have e : ciZipM (cCons (cVar 0) (cCons (cVar 1) cNil)) [some (.d (rowD r)), some (.d (rowD v)), none, none] = some ((r.zip v).map fun p => PyData.tuple [.int p.1, .int p.2]) := by
    show some (zipD (r.map .int) (v.map .int)) = _
    rw [zipD_zip]
  refine sumA_ok (fun p : Int × Int => p.1 * p.2) (r.zip v) ?_
  refine lc_gen (fun p : Int × Int => PyData.tuple [.int p.1, .int p.2]) (fun p : Int × Int => PyData.int (p.1 * p.2)) (r.zip v) e (fun p hp => ⟨[some (.d (rowD r)), some (.d (rowD v)), some (.d (.int p.1)), some (.d (.int p.2))], rfl, mul_ok rfl rfl (hr p.1 (List.of_mem_zip hp).1)⟩) (sl_big ?_)
  have := List.length_zip (l₁ := r) (l₂ := v)
  omega
theorem product_ok {M : List (List Int)} {v : List Int} (hM : ∀ r ∈ M, r.length ≤ 1000 ∧ ∀ x ∈ r, -200 ≤ x ∧ x ≤ 200) (hl : M.length ≤ 1000) : c_product_by [.d (matD M), .d (rowD v)] = some (rowD (sums M v)) := by
  show (cs_product_by [some (.d (matD M)), some (.d (rowD v)), none]).bind Out.val = _
  refine congrArg (Option.bind · Out.val) (LQ.ret_ok (x := .d (rowD (sums M v))) ?_ rfl) |>.trans rfl
  refine tup_list (ds := (sums M v).map .int) ?_
  unfold sums
  rw [List.map_map]
  exact lc_gen rowD (fun r => PyData.int (dotZ r v)) M rfl (fun r hr => ⟨[some (.d (matD M)), some (.d (rowD v)), some (.d (rowD r))], rfl, LQ.call_ok (xs := [.d (rowD r), .d (rowD v)]) rfl rfl (dot_ok (hM r hr).2 (hM r hr).1)⟩) (sl_big (by omega))
theorem chk_m {d : PyData} (h : cart d = true) : c_check_matrix [.d d] = some .none := by
  have e : cCall c_is_cartan (cCons (cVar 0) cNil) [some (.d d)] = some (.d (.bool (cart d))) := LQ.call_ok (xs := [.d d]) rfl rfl (cart_ok d)
  show (cs_check_matrix [some (.d d)]).bind Out.val = _
  unfold cs_check_matrix
  rw [h] at e
  rw [if_f (not_ok (test_ok e))]
  rfl
theorem chk_v {n : Nat} {M : List (List Int)} {v : List Int} (hM : M.length = n) (hv : v.length = n) (hn : n ≤ 1000) : c_check_vector [.d (matD M), .d (rowD v)] = some .none := by
  have e0 : cCB cLen (cCons (cVar 0) cNil) [some (.d (matD M)), some (.d (rowD v))] = some (.d (.int n)) := by
    refine LQ.cb_ok (x := .d (matD M)) rfl ?_
    show some (PyData.int ((M.map rowD).length : Nat)) = _
    rw [List.length_map, hM]
  have hr : isRow n (rowD v) = true := by
    show (decide (((v.map PyData.int).length : Int) = n) && (v.map PyData.int).all isW) = true
    rw [List.length_map, hv, decide_eq_true rfl, List.all_map]
    exact List.all_eq_true.mpr fun x _ => rfl
  have e : cCall c_is_row_of (cCons (cVar 1) (cCons (cCB cLen (cCons (cVar 0) cNil)) cNil)) [some (.d (matD M)), some (.d (rowD v))] = some (.d (.bool true)) := by
    have := LQ.row_ok (rowD v) n (by omega)
    rw [hr] at this
    exact LQ.call_ok (xs := [.d (rowD v), .d (.int n)]) (cons_ok rfl (cons_ok e0 rfl)) rfl this
  show (cs_check_vector [some (.d (matD M)), some (.d (rowD v))]).bind Out.val = _
  unfold cs_check_vector
  rw [if_f (not_ok (test_ok e))]
  rfl
theorem drop_ok {a : CE} {b : CS} {ρ : DEnv} {x : OV} (h : a ρ = some x) : cSeq (cDrop a) b ρ = b ρ := LQ.seq_ok (by unfold cDrop; rw [h]; rfl)
theorem times_ok {n : Nat} {M : List (List Int)} {v : List Int} (hc : cart (matD M) = true) (sq : Sq n M) (hn : n ≤ 1000) (hb : ∀ r ∈ M, ∀ x ∈ r, -200 ≤ x ∧ x ≤ 200) (hv : v.length = n) : c_times_vector [.d (matD M), .d (rowD v)] = some (rowD (sums M v)) := by
  show (cs_times_vector [some (.d (matD M)), some (.d (rowD v))]).bind Out.val = _
  unfold cs_times_vector
  rw [drop_ok (LQ.call_ok (xs := [.d (matD M)]) rfl rfl (chk_m hc)), drop_ok (LQ.call_ok (xs := [.d (matD M), .d (rowD v)]) rfl rfl (chk_v sq.1 hv hn))]
  refine congrArg (Option.bind · Out.val) (LQ.ret_ok (x := .d (rowD (sums M v))) ?_ rfl) |>.trans rfl
  exact LQ.call_ok (xs := [.d (matD M), .d (rowD v)]) rfl rfl (product_ok (fun r hr => ⟨by rw [sq.2 r hr]; exact hn, hb r hr⟩) (by rw [sq.1]; exact hn))
/-! ### bounds -/
theorem sum_abs (B : Nat) : ∀ l : List Int, (∀ x ∈ l, x.natAbs ≤ B) → l.sum.natAbs ≤ l.length * B
  | [], _ => Nat.zero_le _
  | a :: l, h => by
    have h1 := h a List.mem_cons_self
    have h2 := sum_abs B l fun x hx => h x (List.mem_cons_of_mem _ hx)
    rw [List.sum_cons, List.length_cons, Nat.succ_mul]
    have h3 := Int.natAbs_add_le a l.sum
    omega
def hugeN : Nat := 10000000000000000000000000000000
theorem dot_abs {r v : List Int} (hr : ∀ x ∈ r, -200 ≤ x ∧ x ≤ 200) (hv : ∀ x ∈ v, -huge ≤ x ∧ x ≤ huge) (hl : r.length ≤ 8) : (dotZ r v).natAbs < 10 ^ 60 := by
  have h := sum_abs (200 * hugeN) ((r.zip v).map fun p => p.1 * p.2) fun x hx => by
    obtain ⟨p, hp, rfl⟩ := List.mem_map.mp hx
    have h1 := hr p.1 (List.of_mem_zip hp).1
    have h2 := hv p.2 (List.of_mem_zip hp).2
    rw [Int.natAbs_mul]
    refine Nat.mul_le_mul (by omega) ?_
    unfold huge at h2
    unfold hugeN
    omega
  rw [List.length_map, List.length_zip] at h
  have h3 : min r.length v.length ≤ 8 := by omega
  have h4 : min r.length v.length * (200 * hugeN) ≤ 8 * (200 * hugeN) := Nat.mul_le_mul_right _ h3
  have h5 : 8 * (200 * hugeN) < 10 ^ 60 := by decide
  exact Nat.lt_of_le_of_lt (Nat.le_trans h h4) h5
/-! ### shows -/
def SI (x : Int) : Prop := x.natAbs < 10 ^ 60
theorem si_ok {x : Int} (h : SI x) : PyData.leavesShort 61 (.int x) = true ∧ PyData.showable (.int x) = true := by
  constructor
  · show decide ((PyData.shown (.int x)).length ≤ 61) = true
    have e := int_text_length_le10 (k := 60) (by decide) h
    refine decide_eq_true ?_
    show (Str.ofString (toString x)).length ≤ 61
    rw [PySem.ofString_length]
    exact e
  · show decide (x.natAbs.log2 < 1920) = true
    refine decide_eq_true ?_
    by_cases h0 : x.natAbs = 0
    · rw [h0]
      decide
    · refine (Nat.log2_lt h0).mpr ?_
      have : (10 : Nat) ^ 60 < 2 ^ 200 := by decide
      have h2 : (2 : Nat) ^ 200 ≤ 2 ^ 1920 := Nat.pow_le_pow_right (by decide) (by decide)
      exact Nat.lt_of_lt_of_le (Nat.lt_trans h this) h2
theorem row_show : ∀ r : List Int, (∀ x ∈ r, SI x) → PyData.leavesShortAll 61 (r.map .int) = true ∧ PyData.showableAll (r.map .int) = true ∧ PyData.hasDictAll (r.map .int) = false ∧ PyData.depthAll (r.map .int) = 0 ∧ PyData.bulkAll (r.map .int) = r.length
  | [], _ => ⟨rfl, rfl, rfl, rfl, rfl⟩
  | x :: r, h => by
    obtain ⟨a, b, c, d, e⟩ := row_show r fun y hy => h y (List.mem_cons_of_mem _ hy)
    obtain ⟨p, q⟩ := si_ok (h x List.mem_cons_self)
    refine ⟨?_, ?_, ?_, ?_, ?_⟩
    · show (PyData.leavesShort 61 (.int x) && PyData.leavesShortAll 61 (r.map .int)) = true
      rw [p, a]; rfl
    · show (PyData.showable (.int x) && PyData.showableAll (r.map .int)) = true
      rw [q, b]; rfl
    · show (PyData.hasDict (.int x) || PyData.hasDictAll (r.map .int)) = false
      rw [c]; rfl
    · show max (PyData.depth (.int x)) (PyData.depthAll (r.map .int)) = 0
      rw [d]; rfl
    · show PyData.bulk (.int x) + 1 + PyData.bulkAll (r.map .int) = r.length + 1
      rw [e]
      show 0 + 1 + r.length = r.length + 1
      omega
def GoodR (R : List (List Int)) : Prop := ∀ r ∈ R, r.length ≤ 8 ∧ ∀ x ∈ r, SI x
theorem rows_show : ∀ R : List (List Int), GoodR R → PyData.leavesShortAll 61 (R.map rowD) = true ∧ PyData.showableAll (R.map rowD) = true ∧ PyData.hasDictAll (R.map rowD) = false ∧ PyData.depthAll (R.map rowD) ≤ 1 ∧ PyData.bulkAll (R.map rowD) ≤ 9 * R.length
  | [], _ => ⟨rfl, rfl, rfl, Nat.zero_le _, Nat.le_refl _⟩
  | r :: R, h => by
    obtain ⟨a, b, c, d, e⟩ := rows_show R fun y hy => h y (List.mem_cons_of_mem _ hy)
    obtain ⟨hl, hv⟩ := h r List.mem_cons_self
    obtain ⟨a', b', c', d', e'⟩ := row_show r hv
    refine ⟨?_, ?_, ?_, ?_, ?_⟩
    · show (PyData.leavesShortAll 61 (r.map .int) && PyData.leavesShortAll 61 (R.map rowD)) = true
      rw [a', a]; rfl
    · show (PyData.showableAll (r.map .int) && PyData.showableAll (R.map rowD)) = true
      rw [b', b]; rfl
    · show (PyData.hasDictAll (r.map .int) || PyData.hasDictAll (R.map rowD)) = false
      rw [c', c]; rfl
    · show max (PyData.depthAll (r.map .int) + 1) (PyData.depthAll (R.map rowD)) ≤ 1
      rw [d']
      omega
    · show PyData.bulkAll (r.map .int) + 1 + PyData.bulkAll (R.map rowD) ≤ 9 * (R.length + 1)
      rw [e']
      omega
theorem fits {d : PyData} (h1 : d.leavesShort 61 = true) (h2 : d.bulk ≤ 1000) : d.shown.length ≤ sizeLine := by
  have h := PyData.shown_le_bulk 61 (by decide) d h1
  have e : sizeLine = 16777216 := rfl
  omega
theorem mat_show (R : List (List Int)) (h : GoodR R) (hl : R.length ≤ 8) : canShow (.list [.tuple (R.map rowD), .tuple (R.map rowD)]) := by
  obtain ⟨a, b, c, d, e⟩ := rows_show R h
  refine ⟨?_, ?_, ?_, fits ?_ ?_⟩
  · show (PyData.hasDictAll (R.map rowD) || (PyData.hasDictAll (R.map rowD) || false)) = false
    rw [c]; rfl
  · show (PyData.showableAll (R.map rowD) && (PyData.showableAll (R.map rowD) && true)) = true
    rw [b]; rfl
  · show max (PyData.depthAll (R.map rowD) + 1) (max (PyData.depthAll (R.map rowD) + 1) 0) + 1 ≤ 60
    omega
  · show (PyData.leavesShortAll 61 (R.map rowD) && (PyData.leavesShortAll 61 (R.map rowD) && true)) = true
    rw [a]; rfl
  · show PyData.bulkAll (R.map rowD) + 1 + (PyData.bulkAll (R.map rowD) + 1 + 0) ≤ 1000
    omega
theorem row_show2 (r : List Int) (h : ∀ x ∈ r, SI x) (hl : r.length ≤ 8) : canShow (.list [rowD r, rowD r]) := by
  obtain ⟨a, b, c, d, e⟩ := row_show r h
  refine ⟨?_, ?_, ?_, fits ?_ ?_⟩
  · show (PyData.hasDictAll (r.map .int) || (PyData.hasDictAll (r.map .int) || false)) = false
    rw [c]; rfl
  · show (PyData.showableAll (r.map .int) && (PyData.showableAll (r.map .int) && true)) = true
    rw [b]; rfl
  · show max (PyData.depthAll (r.map .int) + 1) (max (PyData.depthAll (r.map .int) + 1) 0) + 1 ≤ 60
    rw [d]
    decide
  · show (PyData.leavesShortAll 61 (r.map .int) && (PyData.leavesShortAll 61 (r.map .int) && true)) = true
    rw [a]; rfl
  · show PyData.bulkAll (r.map .int) + 1 + (PyData.bulkAll (r.map .int) + 1 + 0) ≤ 1000
    omega
theorem bl_show (b : Bool) : canShow (.list [.bool b, .bool b]) := by cases b <;> decide +kernel
theorem parts_rows (n : Nat) (M : List (List Int)) : partsL n M = ((reps n M).map fun c => (comp n M c).map fun k : Nat => (k : Int)).map rowD := by
  unfold partsL
  rw [List.map_map]
  refine List.map_congr_left fun c _ => ?_
  show PyData.tuple (natL (comp n M c)) = .tuple _
  rw [natL_int]
theorem parts_show {n : Nat} (M : List (List Int)) (hn : n ≤ 8) : canShow (.list [.tuple (partsL n M), .tuple (partsL n M)]) := by
  rw [parts_rows]
  have lf : ∀ p : Nat → Bool, ((List.range n).filter p).length ≤ 8 := fun p => by
    have := List.length_filter_le p (List.range n)
    rw [List.length_range] at this
    omega
  refine mat_show _ (fun r hr => ?_) (by rw [List.length_map]; exact lf _)
  obtain ⟨c, _, rfl⟩ := List.mem_map.mp hr
  refine ⟨by rw [List.length_map]; exact lf _, fun x hx => ?_⟩
  obtain ⟨k, hk, rfl⟩ := List.mem_map.mp hx
  have hk := List.mem_range.mp (List.mem_filter.mp hk).1
  unfold SI
  have : (k : Int).natAbs = k := Int.natAbs_natCast k
  rw [this]
  have : (8 : Nat) < 10 ^ 60 := by decide
  exact Nat.lt_trans (by omega) this
end LB

/-! ==== TA02 ==== -/
set_option Elab.async false
set_option linter.all false
set_option maxRecDepth 100000
set_option maxHeartbeats 4000000
set_option synthInstance.maxHeartbeats 0
set_option synthInstance.maxSize 1000000
namespace LB
open PySem PySem.Spec PyProof.Rows L2 DL LW LQ
/-! ## the odd things -/
def O1 : List PyData := [.none, .bool true, .bool false, .int 0, .int 1, .int (-1), .int 2, .int 1000000000000000000000000000000, .str "", .str "A2", .str "x", .tuple [], .tuple [.int 2], .tuple [.tuple [.int 2]], .tuple [.tuple [.int 2, .int 0], .tuple [.int 0, .int 2]], .tuple [.int 0, .int 1], .tuple [.int 1, .int 0]]
def O2 : List PyData := [.list [], .list [.list [.int 2]], .dict [], .tuple [.tuple [.int 2, .int (-1)], .tuple [.int (-1)]], .tuple [.tuple [.bool true]], .tuple [.none], .tuple [.str "0"], .tuple [.tuple [.int 1, .int 2], .int 3], .tuple [.int 0, .int 0], .tuple [.int (-1), .int 0], .tuple [.int 1, .int 1, .int 1], .tuple [.bool true, .int 0]]
def dE1 : DE := (dLst (dCons (dC .none) (dCons (dC (.bool true)) (dCons (dC (.bool false)) (dCons (dC (.int 0)) (dCons (dC (.int 1)) (dCons (dNeg (dC (.int 1))) (dCons (dC (.int 2)) (dCons (dOp dPwr (dC (.int 10)) (dC (.int 30))) (dCons (dC (.str "")) (dCons (dC (.str "A2")) (dCons (dC (.str "x")) (dCons (dTup dNil) (dCons (dTup (dCons (dC (.int 2)) dNil)) (dCons (dTup (dCons (dTup (dCons (dC (.int 2)) dNil)) dNil)) (dCons (dTup (dCons (dTup (dCons (dC (.int 2)) (dCons (dC (.int 0)) dNil))) (dCons (dTup (dCons (dC (.int 0)) (dCons (dC (.int 2)) dNil))) dNil))) (dCons (dTup (dCons (dC (.int 0)) (dCons (dC (.int 1)) dNil))) (dCons (dTup (dCons (dC (.int 1)) (dCons (dC (.int 0)) dNil))) dNil))))))))))))))))))
def dE2 : DE := (dLst (dCons (dLst dNil) (dCons (dLst (dCons (dLst (dCons (dC (.int 2)) dNil)) dNil)) (dCons (dC (.dict [])) (dCons (dTup (dCons (dTup (dCons (dC (.int 2)) (dCons (dNeg (dC (.int 1))) dNil))) (dCons (dTup (dCons (dNeg (dC (.int 1))) dNil)) dNil))) (dCons (dTup (dCons (dTup (dCons (dC (.bool true)) dNil)) dNil)) (dCons (dTup (dCons (dC .none) dNil)) (dCons (dTup (dCons (dC (.str "0")) dNil)) (dCons (dTup (dCons (dTup (dCons (dC (.int 1)) (dCons (dC (.int 2)) dNil))) (dCons (dC (.int 3)) dNil))) (dCons (dTup (dCons (dC (.int 0)) (dCons (dC (.int 0)) dNil))) (dCons (dTup (dCons (dNeg (dC (.int 1))) (dCons (dC (.int 0)) dNil))) (dCons (dTup (dCons (dC (.int 1)) (dCons (dC (.int 1)) (dCons (dC (.int 1)) dNil)))) (dCons (dTup (dCons (dC (.bool true)) (dCons (dC (.int 0)) dNil))) dNil)))))))))))))
def cE1 : CE := (cLst (cCons (cC .none) (cCons (cC (.bool true)) (cCons (cC (.bool false)) (cCons (cC (.int 0)) (cCons (cC (.int 1)) (cCons (cNeg (cC (.int 1))) (cCons (cC (.int 2)) (cCons (cOp cPwr (cC (.int 10)) (cC (.int 30))) (cCons (cC (.str "")) (cCons (cC (.str "A2")) (cCons (cC (.str "x")) (cCons (cTup cNil) (cCons (cTup (cCons (cC (.int 2)) cNil)) (cCons (cTup (cCons (cTup (cCons (cC (.int 2)) cNil)) cNil)) (cCons (cTup (cCons (cTup (cCons (cC (.int 2)) (cCons (cC (.int 0)) cNil))) (cCons (cTup (cCons (cC (.int 0)) (cCons (cC (.int 2)) cNil))) cNil))) (cCons (cTup (cCons (cC (.int 0)) (cCons (cC (.int 1)) cNil))) (cCons (cTup (cCons (cC (.int 1)) (cCons (cC (.int 0)) cNil))) cNil))))))))))))))))))
def cE2 : CE := (cLst (cCons (cLst cNil) (cCons (cLst (cCons (cLst (cCons (cC (.int 2)) cNil)) cNil)) (cCons (cC (.dict [])) (cCons (cTup (cCons (cTup (cCons (cC (.int 2)) (cCons (cNeg (cC (.int 1))) cNil))) (cCons (cTup (cCons (cNeg (cC (.int 1))) cNil)) cNil))) (cCons (cTup (cCons (cTup (cCons (cC (.bool true)) cNil)) cNil)) (cCons (cTup (cCons (cC .none) cNil)) (cCons (cTup (cCons (cC (.str "0")) cNil)) (cCons (cTup (cCons (cTup (cCons (cC (.int 1)) (cCons (cC (.int 2)) cNil))) (cCons (cC (.int 3)) cNil))) (cCons (cTup (cCons (cC (.int 0)) (cCons (cC (.int 0)) cNil))) (cCons (cTup (cCons (cNeg (cC (.int 1))) (cCons (cC (.int 0)) cNil))) (cCons (cTup (cCons (cC (.int 1)) (cCons (cC (.int 1)) (cCons (cC (.int 1)) cNil)))) (cCons (cTup (cCons (cC (.bool true)) (cCons (cC (.int 0)) cNil))) cNil)))))))))))))
instance ev_E1 : EvE dE1 cE1 := by
  unfold dE1 cE1
  infer_instance
instance ev_E2 : EvE dE2 cE2 := by
  unfold dE2 cE2
  infer_instance
theorem e1_ok (ρ : DEnv) : cE1 ρ = some (.d (.list O1)) := by kernel_rfl
theorem e2_ok (ρ : DEnv) : cE2 ρ = some (.d (.list O2)) := by kernel_rfl
theorem odd_eq : ds__law_odd = dSeq (dSet 1 dE1) (dSeq (dSet 2 dE2) (dRet (dCall R__law_pick (dCons (dVar 0) (dCons (dOp dAdd (dVar 1) (dVar 2)) dNil))))) := rfl
def bvB : PyData → Bool
  | .int i => decide (-200 ≤ i) && decide (i ≤ 200)
  | _ => true
def brB : PyData → Bool
  | .tuple xs => xs.all bvB
  | _ => true
def btB : PyData → Bool
  | .tuple xs => xs.all brB
  | _ => true
theorem bv_of {d : PyData} (h : bvB d = true) : BV d := fun i e => by
  subst e
  have h : (decide (-200 ≤ i) && decide (i ≤ 200)) = true := h
  rw [Bool.and_eq_true, decide_eq_true_iff, decide_eq_true_iff] at h
  exact h
theorem br_of {d : PyData} (h : brB d = true) : BR d := fun xs e x hx => by
  subst e
  exact bv_of (List.all_eq_true.mp h x hx)
theorem bt_of {d : PyData} (h : btB d = true) : BT d := fun xs e x hx => by
  subst e
  exact br_of (List.all_eq_true.mp h x hx)
theorem odd_bt : ∀ d ∈ O1 ++ O2, btB d = true := by decide +kernel
theorem odd_ok {Q : PyData → Prop} (h : ∀ d, BT d → Q d) : R__law_odd [.pot] Q := by
  refine ⟨rfl, ?_⟩
  rw [odd_eq]
  refine st_setD (P := fun d => d = .list O1) (he_imp (he_ev (e1_ok _)) fun x e => ⟨_, e, rfl⟩) fun d e => ?_
  subst e
  refine st_setD (P := fun d => d = .list O2) (he_imp (he_ev (e2_ok _)) fun x e => ⟨_, e, rfl⟩) fun d e => ?_
  subst e
  refine st_ret (P := BT) (he_pick (he_imp (he_catL (xs := O1) (ys := O2) (he_var (i := 1) rfl) (he_var (i := 2) rfl) (by decide +kernel)) fun x e => ⟨O1 ++ O2, e, ⟨by decide +kernel, by decide +kernel⟩, fun d hd => bt_of (odd_bt d hd)⟩)) h
/-! ## a turn -/
def rA : DE := (dCall R__law_any_cartan (dCons (dVar 0) (dCons (dC (.int 8)) (dCons (dC (.int 20)) dNil))))
def rB : DS := (dIfS (dTest (dOp dEq (dCall Rdraw (dCons (dVar 0) (dCons (dC (.int 12)) dNil))) (dC (.int 0)))) (dSet 1 (dCall R__law_put_together (dCons (dVar 1) (dCons (dTup (dCons (dTup (dCons (dC (.int 2)) dNil)) dNil)) dNil)))) dNext)
def rW : DE := (dCall Rdraw (dCons (dVar 0) (dCons (dC (.int 5)) dNil)))
def rE : DE := (dIf (dTest (dOp dEq (dVar 2) (dC (.int 0)))) (dCall R__law_odd (dCons (dVar 0) dNil)) (dIf (dTest (dOp dLt (dVar 2) (dC (.int 3)))) (dCall R__law_bent (dCons (dVar 0) (dCons (dVar 1) dNil))) (dVar 1)))
def rC : DE := dCall R__law_is_cartan (dCons (dVar 1) dNil)
def rI : DS := (dIfS (dTest (dOp dNe (dCB dRepr (dCons (dLst (dCons (dCall R_is_matrix (dCons (dVar 1) dNil)) (dCons (dCallX R_is_matrix 0 1 [0] dNil (dCons (dVar 1) dNil)) dNil))) dNil)) (dCB dRepr (dCons (dLst (dCons (dVar 3) (dCons (dVar 3) dNil))) dNil)))) (dRet (dC (.bool false))) dNext)
def rN : DS := (dIfS (dNotT (dTest (dVar 3))) (dRet (dC (.bool true))) dNext)
def rP : DE := (dCall R__law_parts (dCons (dVar 1) dNil))
def rQ : DS := (dIfS (dTest (dOp dNe (dCB dRepr (dCons (dLst (dCons (dCall R_parts_of (dCons (dVar 1) dNil)) (dCons (dCallX R_parts_of 0 1 [0] dNil (dCons (dVar 1) dNil)) dNil))) dNil)) (dCB dRepr (dCons (dLst (dCons (dVar 4) (dCons (dVar 4) dNil))) dNil)))) (dRet (dC (.bool false))) dNext)
def rV : DE := (dCall R__law_vector (dCons (dVar 0) (dCons (dCB dLen (dCons (dVar 1) dNil)) (dCons (dC (.int 9)) dNil))))
def rS : DE := (dCB dTupC (dCons (dNE (dLc (diTup (dVar 1)) (dgName 7) dYes (dCB dSumA (dCons (dNE (dLc (diZipM (dCons (dVar 7) (dCons (dVar 5) dNil))) (dgTup (dgCons (dgName 8) (dgCons (dgName 9) dgNil))) dYes (dOp dMul (dVar 8) (dVar 9)) [8, 9])) dNil)) [7])) dNil))
def rR : DS := (dRet (dOp dEq (dCB dRepr (dCons (dLst (dCons (dCall R_times_vector (dCons (dVar 1) (dCons (dVar 5) dNil))) (dCons (dCallX R_times_vector 0 2 [1, 0] dNil (dCons (dVar 5) (dCons (dVar 1) dNil))) dNil))) dNil)) (dCB dRepr (dCons (dLst (dCons (dVar 6) (dCons (dVar 6) dNil))) dNil))))
theorem right_eq : ds__law_right = dSeq (dSet 1 rA) (dSeq rB (dSeq (dSet 2 rW) (dSeq (dSet 1 rE) (dSeq (dSet 3 rC) (dSeq rI (dSeq rN (dSeq (dSet 4 rP) (dSeq rQ (dSeq (dSet 5 rV) (dSeq (dSet 6 rS) rR)))))))))) := rfl
end LB

/-! ==== UA02 ==== -/
set_option Elab.async false
set_option linter.all false
set_option maxRecDepth 100000
set_option maxHeartbeats 4000000
set_option synthInstance.maxHeartbeats 0
set_option synthInstance.maxSize 1000000
namespace LB
open PySem PySem.Spec PyProof.Rows L2 DL LW LQ
/-! ## a turn is right -/
theorem he_rep2 {a b : DE} {ρ : DEnv} {x y : PyData} (ha : HE a ρ (· = .d x)) (hb : HE b ρ (· = .d y)) (h : canShow (.list [x, y])) : HE (dCB dRepr (dCons (dLst (dCons a (dCons b dNil))) dNil)) ρ (· = .d (.str (PyData.list [x, y]).shown)) := fun Q q => ha _ fun u eu => hb _ fun v ev => by
  subst eu ev
  exact ⟨[x, y], rfl, by show 2 ≤ sizeLine; decide, rfl, rfl, h, q _ rfl⟩
theorem he_call1 {R : DF} {e : DE} {ρ : DEnv} {d r : PyData} (he : HE e ρ (· = .d d)) (h : R [.d d] (· = r)) : HE (dCall R (dCons e dNil)) ρ (· = .d r) := fun Q q => he _ fun x ex => by
  subst ex
  exact ⟨rfl, (· = r), h, fun z ez => by rw [ez]; exact q _ rfl⟩
theorem he_callX1 {R : DF} {e : DE} {ρ : DEnv} {d r : PyData} (he : HE e ρ (· = .d d)) (h : R [.d d] (· = r)) : HE (dCallX R 0 1 [0] dNil (dCons e dNil)) ρ (· = .d r) := fun Q q => he _ fun x ex => by
  subst ex
  exact ⟨rfl, rfl, rfl, (· = r), h, fun z ez => by rw [ez]; exact q _ rfl⟩
theorem he_call2 {R : DF} {e f : DE} {ρ : DEnv} {d d' r : PyData} (he : HE e ρ (· = .d d)) (hf : HE f ρ (· = .d d')) (h : R [.d d, .d d'] (· = r)) : HE (dCall R (dCons e (dCons f dNil))) ρ (· = .d r) := fun Q q => he _ fun x ex => hf _ fun y ey => by
  subst ex ey
  exact ⟨rfl, (· = r), h, fun z ez => by rw [ez]; exact q _ rfl⟩
theorem he_callX2 {R : DF} {e f : DE} {ρ : DEnv} {d d' r : PyData} (he : HE e ρ (· = .d d)) (hf : HE f ρ (· = .d d')) (h : R [.d d, .d d'] (· = r)) : HE (dCallX R 0 2 [1, 0] dNil (dCons f (dCons e dNil))) ρ (· = .d r) := fun Q q => hf _ fun y ey => he _ fun x ex => by
  subst ex ey
  exact ⟨rfl, rfl, rfl, (· = r), h, fun z ez => by rw [ez]; exact q _ rfl⟩
theorem ht_same {a b : DE} {ρ : DEnv} {z : Str} (ha : HE a ρ (· = .d (.str z))) (hb : HE b ρ (· = .d (.str z))) : HT (dTest (dOp dNe a b)) ρ (· = false) := fun Q q => ha _ fun x ex => hb _ fun y ey => by
  subst ex ey
  refine (show Q (not (decide (z = z))) from ?_)
  rw [decide_eq_true rfl]
  exact q _ rfl
theorem he_same {a b : DE} {ρ : DEnv} {z : Str} (ha : HE a ρ (· = .d (.str z))) (hb : HE b ρ (· = .d (.str z))) : HE (dOp dEq a b) ρ (· = .d (.bool true)) := fun Q q => ha _ fun x ex => hb _ fun y ey => by
  subst ex ey
  refine (show Q (.d (.bool (id (decide (z = z))))) from ?_)
  rw [decide_eq_true rfl]
  exact q _ rfl
theorem ism_ok (d : PyData) : R_is_matrix [.d d] (· = .bool (cart d)) := by
  have e : c_is_matrix [.d d] = some (.bool (cart d)) := by
    have e1 : cCall c_is_cartan (cCons (cVar 0) cNil) [some (.d d)] = some (.d (.bool (cart d))) := LQ.call_ok (xs := [.d d]) rfl rfl (cart_ok d)
    show (cs_is_matrix [some (.d d)]).bind Out.val = _
    unfold cs_is_matrix
    rw [LQ.ret_ok e1 rfl]
    rfl
  exact EvF.ev e rfl
theorem parts_of_ok {n : Nat} {M : List (List Int)} (hc : cart (matD M) = true) (sq : Sq n M) (s : Sym n M) (h8 : n ≤ 50) : R_parts_of [.d (matD M)] (· = .tuple (partsL n M)) := by
  refine ⟨rfl, ?_⟩
  have e : cDrop (cCall c_check_matrix (cCons (cVar 0) cNil)) (startD N_parts_of [.d (matD M)]) = some (.nx [some (.d (matD M))]) := by
    have e1 : cCall c_check_matrix (cCons (cVar 0) cNil) (startD N_parts_of [.d (matD M)]) = some (.d .none) := LQ.call_ok (xs := [.d (matD M)]) rfl rfl (chk_m hc)
    unfold cDrop
    rw [e1]
    rfl
  refine st_ev e ?_
  exact st_ret (P := fun r => r = .tuple (partsL n M)) (he_imp (he_call1 (he_var (i := 0) rfl) (all_parts_ok sq s h8 rfl)) fun x e => ⟨_, e, rfl⟩) fun d e => e
def RE (d : PyData) (w : Int) (x3 x4 x5 x6 : Option OV) : DEnv := [some .pot, some (.d d), some (.d (.int w)), x3, x4, x5, x6, none, none, none]
theorem bt_rows {M : List (List Int)} (h : BT (matD M)) : ∀ r ∈ M, ∀ x ∈ r, -200 ≤ x ∧ x ≤ 200 := fun r hr x hx => h _ rfl (rowD r) (List.mem_map.mpr ⟨r, hr, rfl⟩) _ rfl (.int x) (List.mem_map.mpr ⟨x, hx, rfl⟩) x rfl
def rT : DS := dSeq (dSet 3 rC) (dSeq rI (dSeq rN (dSeq (dSet 4 rP) (dSeq rQ (dSeq (dSet 5 rV) (dSeq (dSet 6 rS) rR))))))
def cS : CE := cCB cTupC (cCons (cNE (cLc (ciTup (cVar 1)) (cgName 7) cYes (cCB cSumA (cCons (cNE (cLc (ciZipM (cCons (cVar 7) (cCons (cVar 5) cNil))) (cgTup (cgCons (cgName 8) (cgCons (cgName 9) cgNil))) cYes (cOp cMul (cVar 8) (cVar 9)) [8, 9])) cNil)) [7])) cNil)
instance evS : EvE rS cS := by
  unfold rS cS
  infer_instance
theorem cS_ok {M : List (List Int)} {v : List Int} {w : Int} {x3 x4 : Option OV} (hb : ∀ r ∈ M, r.length ≤ 1000 ∧ ∀ x ∈ r, -200 ≤ x ∧ x ≤ 200) (hl : M.length ≤ 1000) : cS (RE (matD M) w x3 x4 (some (.d (rowD v))) none) = some (.d (rowD (sums M v))) := by
  refine tup_list (ds := (sums M v).map .int) ?_
  unfold sums
  rw [List.map_map]
  refine lc_gen rowD (fun r => PyData.int (dotZ r v)) M rfl (fun r hr => ⟨[some .pot, some (.d (matD M)), some (.d (.int w)), x3, x4, some (.d (rowD v)), none, some (.d (rowD r)), none, none], rfl, ?_⟩) (sl_big (by omega))
  have e : ciZipM (cCons (cVar 7) (cCons (cVar 5) cNil)) [some .pot, some (.d (matD M)), some (.d (.int w)), x3, x4, some (.d (rowD v)), none, some (.d (rowD r)), none, none] = some ((r.zip v).map fun p => PyData.tuple [.int p.1, .int p.2]) := by
    show some (zipD (r.map .int) (v.map .int)) = _
    rw [zipD_zip]
  refine sumA_ok (fun p : Int × Int => p.1 * p.2) (r.zip v) ?_
  refine lc_gen (fun p : Int × Int => PyData.tuple [.int p.1, .int p.2]) (fun p : Int × Int => PyData.int (p.1 * p.2)) (r.zip v) e (fun p hp => ⟨[some .pot, some (.d (matD M)), some (.d (.int w)), x3, x4, some (.d (rowD v)), none, some (.d (rowD r)), some (.d (.int p.1)), some (.d (.int p.2))], rfl, mul_ok rfl rfl ((hb r hr).2 p.1 (List.of_mem_zip hp).1)⟩) (sl_big ?_)
  have := List.length_zip (l₁ := r) (l₂ := v)
  have := (hb r hr).1
  omega
theorem tail_ok {d : PyData} (h : BT d) (w : Int) {Q : PyData → Prop} (q : Q (.bool true)) : rT { nx := fun _ => Q .none, rt := Q } (RE d w none none none none) := by
  unfold rT
  refine st_setD (P := fun r => r = .bool (cart d)) (he_imp (he_call1 (he_var (i := 1) rfl) (EvF.ev (lcart_ok d) rfl)) fun x e => ⟨_, e, rfl⟩) fun r er => ?_
  subst er
  refine (show dSeq rI _ _ (RE d w (some (.d (.bool (cart d)))) none none none) from ?_)
  unfold rI
  have hm := he_rep2 (he_call1 (R := R_is_matrix) (he_var (i := 1) (ρ := RE d w (some (.d (.bool (cart d)))) none none none) rfl) (ism_ok d)) (he_callX1 (he_var (i := 1) rfl) (ism_ok d)) (bl_show (cart d))
  have hd := he_rep2 (he_var (i := 3) (ρ := RE d w (some (.d (.bool (cart d)))) none none none) rfl) (he_var (i := 3) rfl) (bl_show (cart d))
  refine st_if (ht_same hm hd) (fun z => nomatch z) fun _ => ?_
  refine (show dSeq rN (dSeq (dSet 4 rP) (dSeq rQ (dSeq (dSet 5 rV) (dSeq (dSet 6 rS) rR)))) { nx := fun _ => Q .none, rt := Q } (RE d w (some (.d (.bool (cart d)))) none none none) from ?_)
  unfold rN
  refine st_if (PB := fun b => b = !cart d) (fun Q' q' => q' _ rfl) (fun _ => ⟨rfl, q⟩) fun hb => ?_
  have hc : cart d = true := by
    cases e : cart d with
    | true => rfl
    | false =>
      rw [e] at hb
      cases hb
  obtain ⟨n, M, rfl, sq, n1, n8, hg⟩ := cart_mat hc
  have s := good_sym hg
  have hrow := bt_rows h
  have hrow2 : ∀ r ∈ M, r.length ≤ 1000 ∧ ∀ x ∈ r, -200 ≤ x ∧ x ≤ 200 := fun r hr => ⟨by rw [sq.2 r hr]; omega, hrow r hr⟩
  refine (show dSeq (dSet 4 rP) (dSeq rQ (dSeq (dSet 5 rV) (dSeq (dSet 6 rS) rR))) { nx := fun _ => Q .none, rt := Q } (RE (matD M) w (some (.d (.bool (cart (matD M))))) none none none) from ?_)
  refine st_setD (P := fun r => r = .tuple (partsL n M)) (he_imp (he_call1 (he_var (i := 1) rfl) (EvF.ev (lparts_ok sq s (by omega)) rfl)) fun x e => ⟨_, e, rfl⟩) fun r er => ?_
  subst er
  refine (show dSeq rQ (dSeq (dSet 5 rV) (dSeq (dSet 6 rS) rR)) { nx := fun _ => Q .none, rt := Q } (RE (matD M) w (some (.d (.bool (cart (matD M))))) (some (.d (.tuple (partsL n M)))) none none) from ?_)
  unfold rQ
  have hp := parts_of_ok hc sq s (by omega)
  have sp := parts_show M n8
  have hm2 := he_rep2 (he_call1 (R := R_parts_of) (he_var (i := 1) (ρ := RE (matD M) w (some (.d (.bool (cart (matD M))))) (some (.d (.tuple (partsL n M)))) none none) rfl) hp) (he_callX1 (he_var (i := 1) rfl) hp) sp
  have hd2 := he_rep2 (he_var (i := 4) (ρ := RE (matD M) w (some (.d (.bool (cart (matD M))))) (some (.d (.tuple (partsL n M)))) none none) rfl) (he_var (i := 4) rfl) sp
  refine st_if (ht_same hm2 hd2) (fun z => nomatch z) fun _ => ?_
  refine (show dSeq (dSet 5 rV) (dSeq (dSet 6 rS) rR) { nx := fun _ => Q .none, rt := Q } (RE (matD M) w (some (.d (.bool (cart (matD M))))) (some (.d (.tuple (partsL n M)))) none none) from ?_)
  have hlen : HE (dCB dLen (dCons (dVar 1) dNil)) (RE (matD M) w (some (.d (.bool (cart (matD M))))) (some (.d (.tuple (partsL n M)))) none none) (· = .d (.int n)) := he_ev (ce := cCB cLen (cCons (cVar 1) cNil)) (by
    refine LQ.cb_ok (x := .d (matD M)) rfl ?_
    show some (PyData.int ((M.map rowD).length : Nat)) = _
    rw [List.length_map, sq.1])
  refine st_setD (P := fun r => ∃ v : List Int, r = rowD v ∧ v.length = n ∧ ∀ x ∈ v, -huge ≤ x ∧ x ≤ huge) (he_call (R := R__law_vector) (ha_cons (he_var (i := 0) rfl) (ha_cons hlen (ha_cons he_c ha_nil))) fun xs ⟨x, ys, e1, e2, y, zs, e3, e4, z, us, e5, e6, e7⟩ => ?_) fun r hr => ?_
  · subst e1 e2 e3 e4 e5 e6 e7
    exact ⟨rfl, vector_ok (by omega) fun v a b => ⟨v, rfl, a, b⟩⟩
  obtain ⟨v, rfl, hv, hvb⟩ := hr
  refine (show dSeq (dSet 6 rS) rR { nx := fun _ => Q .none, rt := Q } (RE (matD M) w (some (.d (.bool (cart (matD M))))) (some (.d (.tuple (partsL n M)))) (some (.d (rowD v))) none) from ?_)
  refine st_setD (P := fun r => r = rowD (sums M v)) (he_imp (he_ev (cS_ok hrow2 (by rw [sq.1]; omega))) fun x e => ⟨_, e, rfl⟩) fun r er => ?_
  subst er
  refine (show rR { nx := fun _ => Q .none, rt := Q } (RE (matD M) w (some (.d (.bool (cart (matD M))))) (some (.d (.tuple (partsL n M)))) (some (.d (rowD v))) (some (.d (rowD (sums M v))))) from ?_)
  have ht : R_times_vector [.d (matD M), .d (rowD v)] (· = rowD (sums M v)) := EvF.ev (times_ok hc sq (by omega) hrow hv) rfl
  have ss : canShow (.list [rowD (sums M v), rowD (sums M v)]) := row_show2 (sums M v) (fun x hx => by
    obtain ⟨r, hr, rfl⟩ := List.mem_map.mp hx
    exact dot_abs (hrow r hr) hvb (by rw [sq.2 r hr]; exact n8)) (by unfold sums; rw [List.length_map, sq.1]; exact n8)
  have hm3 := he_rep2 (he_call2 (R := R_times_vector) (he_var (i := 1) (ρ := RE (matD M) w (some (.d (.bool (cart (matD M))))) (some (.d (.tuple (partsL n M)))) (some (.d (rowD v))) (some (.d (rowD (sums M v))))) rfl) (he_var (i := 5) rfl) ht) (he_callX2 (he_var (i := 1) rfl) (he_var (i := 5) rfl) ht) ss
  have hd3 := he_rep2 (he_var (i := 6) (ρ := RE (matD M) w (some (.d (.bool (cart (matD M))))) (some (.d (.tuple (partsL n M)))) (some (.d (rowD v))) (some (.d (rowD (sums M v))))) rfl) (he_var (i := 6) rfl) ss
  unfold rR
  exact st_ret (P := fun r => r = .bool true) (he_imp (he_same hm3 hd3) fun x e => ⟨_, e, rfl⟩) fun r er => by
    subst er
    exact q
theorem right_tail : ds__law_right = dSeq (dSet 1 rA) (dSeq rB (dSeq (dSet 2 rW) (dSeq (dSet 1 rE) rT))) := rfl
theorem one_ok (ρ : DEnv) : HE (dTup (dCons (dTup (dCons (dC (.int 2)) dNil)) dNil)) ρ fun x => ∃ d, x = .d d ∧ IsMx 1 d := he_imp (he_ev (x := .d (.tuple [.tuple [.int 2]])) rfl) fun x e => ⟨_, e, 1, [[2]], rfl, Nat.le_refl _, Nat.le_refl _, by refine ⟨⟨rfl, ?_⟩, ?_⟩ <;> decide⟩
theorem mx_bt {k : Nat} {d : PyData} (h : IsMx k d) : BT d := by
  obtain ⟨n, M, rfl, _, _, hM⟩ := h
  intro rs e r hr
  cases e
  exact (rows_br hM r hr).br
theorem right_ok : ∀ xs Q, Rright xs Q → R__law_right xs Q := by
  rintro xs Q ⟨rfl, hQ⟩
  refine ⟨rfl, ?_⟩
  rw [right_tail]
  refine st_setD (P := IsMx 8) (he_call (R := R__law_any_cartan) (ha_cons (he_var (i := 0) rfl) (ha_cons he_c (ha_cons he_c ha_nil))) fun xs ⟨x, ys, e1, e2, y, zs, e3, e4, z, us, e5, e6, e7⟩ => ?_) fun d hd => ?_
  · subst e1 e2 e3 e4 e5 e6 e7
    exact ⟨rfl, any_cartan_ok fun d h => h⟩
  have go : ∀ d : PyData, IsMx 9 d → dSeq (dSet 2 rW) (dSeq (dSet 1 rE) rT) { nx := fun _ => Q .none, rt := Q } [some .pot, some (.d d), none, none, none, none, none, none, none, none] := fun d hd => by
    refine st_setI (he_drawc (n := 5) (by decide) (by decide)) fun w _ _ => ?_
    refine (show dSeq (dSet 1 rE) rT { nx := fun _ => Q .none, rt := Q } (RE d w none none none none) from ?_)
    have v2 : HE (dVar 2) (RE d w none none none none) (TI w w) := he_vi (z := w) rfl (Int.le_refl _) (Int.le_refl _)
    have hE : HE rE (RE d w none none none none) fun x => ∃ d, x = .d d ∧ BT d := by
      refine he_if (PB := fun _ => True) (ht_any v2) (fun _ => ?_) fun _ => he_if (PB := fun _ => True) (ht_anyc v2 he_ci) (fun _ => ?_) fun _ => he_imp (he_var (i := 1) rfl) fun x e => ⟨d, e, mx_bt hd⟩
      · exact he_call (R := R__law_odd) (ha_cons (he_var (i := 0) rfl) ha_nil) fun xs ⟨x, ys, e1, e2, e3⟩ => by
          subst e1 e2 e3
          exact ⟨rfl, odd_ok fun d h => h⟩
      · exact he_call (R := R__law_bent) (ha_cons (he_var (i := 0) rfl) (ha_cons (he_var (i := 1) rfl) ha_nil)) fun xs ⟨x, ys, e1, e2, y, zs, e3, e4, e5⟩ => by
          subst e1 e2 e3 e4 e5
          obtain ⟨n, M, rfl, n1, n2, hM⟩ := hd
          exact ⟨rfl, bent_ok hM n1 (by omega) fun d h => h⟩
    exact st_setD hE fun d h => tail_ok h w hQ
  refine (show dSeq rB (dSeq (dSet 2 rW) (dSeq (dSet 1 rE) rT)) { nx := fun _ => Q .none, rt := Q } [some .pot, some (.d d), none, none, none, none, none, none, none, none] from ?_)
  unfold rB
  refine st_if (PB := fun _ => True) (ht_any (he_drawc (by decide) (by decide))) (fun _ => ?_) fun _ => go d ?_
  · exact st_setD (he_put (a := 8) (b := 1) (he_imp (he_var (i := 1) rfl) fun x e => ⟨d, e, hd⟩) (one_ok _) (by decide) (by decide)) fun d h => go d h
  · obtain ⟨n, M, e, n1, n2, hM⟩ := hd
    exact ⟨n, M, e, n1, by omega, hM⟩
end LB

/-! ==== HD02 ==== -/
set_option Elab.async false
set_option linter.all false
set_option maxRecDepth 100000
set_option maxHeartbeats 0
namespace LH
open PySem PySem.Spec PyProof.Rows L2 DL LW
def d_is_whole : He.DefD := ⟨("is_whole", none), "is_whole", "is_whole", defArgs s_is_whole, defBody s_is_whole, defScope s_is_whole, [], []⟩
def d_is_row_of : He.DefD := ⟨("is_row_of", none), "is_row_of", "is_row_of", defArgs s_is_row_of, defBody s_is_row_of, defScope s_is_row_of, [], []⟩
def d_is_cartan : He.DefD := ⟨("is_cartan", none), "is_cartan", "is_cartan", defArgs s_is_cartan, defBody s_is_cartan, defScope s_is_cartan, [], []⟩
def d_joined_to : He.DefD := ⟨("joined_to", none), "joined_to", "joined_to", defArgs s_joined_to, defBody s_joined_to, defScope s_joined_to, [], []⟩
def d_all_parts : He.DefD := ⟨("all_parts", none), "all_parts", "all_parts", defArgs s_all_parts, defBody s_all_parts, defScope s_all_parts, [], []⟩
def d_dot : He.DefD := ⟨("dot", none), "dot", "dot", defArgs s_dot, defBody s_dot, defScope s_dot, [], []⟩
def d_product_by : He.DefD := ⟨("product_by", none), "product_by", "product_by", defArgs s_product_by, defBody s_product_by, defScope s_product_by, [], []⟩
def d_check_matrix : He.DefD := ⟨("check_matrix", none), "check_matrix", "check_matrix", defArgs s_check_matrix, defBody s_check_matrix, defScope s_check_matrix, [], []⟩
def d_check_vector : He.DefD := ⟨("check_vector", none), "check_vector", "check_vector", defArgs s_check_vector, defBody s_check_vector, defScope s_check_vector, [], []⟩
def d_is_matrix : He.DefD := ⟨("is_matrix", none), "is_matrix", "is_matrix", defArgs s_is_matrix, defBody s_is_matrix, defScope s_is_matrix, [], []⟩
def d_parts_of : He.DefD := ⟨("parts_of", none), "parts_of", "parts_of", defArgs s_parts_of, defBody s_parts_of, defScope s_parts_of, [], []⟩
def d_times_vector : He.DefD := ⟨("times_vector", none), "times_vector", "times_vector", defArgs s_times_vector, defBody s_times_vector, defScope s_times_vector, [], []⟩
def d__law_pot : He.DefD := ⟨("_law_pot", none), "_law_pot", "_law_pot", defArgs s__law_pot, defBody s__law_pot, defScope s__law_pot, [], []⟩
def d__law_draw : He.DefD := ⟨("_law_draw", none), "_law_draw", "_law_draw", defArgs s__law_draw, defBody s__law_draw, defScope s__law_draw, [], []⟩
def d__law_pick : He.DefD := ⟨("_law_pick", none), "_law_pick", "_law_pick", defArgs s__law_pick, defBody s__law_pick, defScope s__law_pick, [], []⟩
def d__law_mixed : He.DefD := ⟨("_law_mixed", none), "_law_mixed", "_law_mixed", defArgs s__law_mixed, defBody s__law_mixed, defScope s__law_mixed, [], []⟩
def d__law_gcd : He.DefD := ⟨("_law_gcd", none), "_law_gcd", "_law_gcd", defArgs s__law_gcd, defBody s__law_gcd, defScope s__law_gcd, [], []⟩
def d__law_is_whole : He.DefD := ⟨("_law_is_whole", none), "_law_is_whole", "_law_is_whole", defArgs s__law_is_whole, defBody s__law_is_whole, defScope s__law_is_whole, [], []⟩
def d__law_is_row : He.DefD := ⟨("_law_is_row", none), "_law_is_row", "_law_is_row", defArgs s__law_is_row, defBody s__law_is_row, defScope s__law_is_row, [], []⟩
def d__law_is_cartan : He.DefD := ⟨("_law_is_cartan", none), "_law_is_cartan", "_law_is_cartan", defArgs s__law_is_cartan, defBody s__law_is_cartan, defScope s__law_is_cartan, [], []⟩
def d__law_odd : He.DefD := ⟨("_law_odd", none), "_law_odd", "_law_odd", defArgs s__law_odd, defBody s__law_odd, defScope s__law_odd, [], []⟩
def d__law_names : He.DefD := ⟨("_law_names", none), "_law_names", "_law_names", defArgs s__law_names, defBody s__law_names, defScope s__law_names, [], []⟩
def d__law_single : He.DefD := ⟨("_law_single", none), "_law_single", "_law_single", defArgs s__law_single, defBody s__law_single, defScope s__law_single, [], []⟩
def d__law_blocks : He.DefD := ⟨("_law_blocks", none), "_law_blocks", "_law_blocks", defArgs s__law_blocks, defBody s__law_blocks, defScope s__law_blocks, [], []⟩
def d__law_type : He.DefD := ⟨("_law_type", none), "_law_type", "_law_type", defArgs s__law_type, defBody s__law_type, defScope s__law_type, [], []⟩
def d__law_led_nodes : He.DefD := ⟨("_law_led_nodes", none), "_law_led_nodes", "_law_led_nodes", defArgs s__law_led_nodes, defBody s__law_led_nodes, defScope s__law_led_nodes, [], []⟩
def d__law_matrix : He.DefD := ⟨("_law_matrix", none), "_law_matrix", "_law_matrix", defArgs s__law_matrix, defBody s__law_matrix, defScope s__law_matrix, [], []⟩
def d__law_parts : He.DefD := ⟨("_law_parts", none), "_law_parts", "_law_parts", defArgs s__law_parts, defBody s__law_parts, defScope s__law_parts, [], []⟩
def d__law_reflected : He.DefD := ⟨("_law_reflected", none), "_law_reflected", "_law_reflected", defArgs s__law_reflected, defBody s__law_reflected, defScope s__law_reflected, [], []⟩
def d__law_simple : He.DefD := ⟨("_law_simple", none), "_law_simple", "_law_simple", defArgs s__law_simple, defBody s__law_simple, defScope s__law_simple, [], []⟩
def d__law_positive : He.DefD := ⟨("_law_positive", none), "_law_positive", "_law_positive", defArgs s__law_positive, defBody s__law_positive, defScope s__law_positive, [], []⟩
def d__law_lean : He.DefD := ⟨("_law_lean", none), "_law_lean", "_law_lean", defArgs s__law_lean, defBody s__law_lean, defScope s__law_lean, [], []⟩
def d__law_symmetrizer : He.DefD := ⟨("_law_symmetrizer", none), "_law_symmetrizer", "_law_symmetrizer", defArgs s__law_symmetrizer, defBody s__law_symmetrizer, defScope s__law_symmetrizer, [], []⟩
def d__law_form : He.DefD := ⟨("_law_form", none), "_law_form", "_law_form", defArgs s__law_form, defBody s__law_form, defScope s__law_form, [], []⟩
def d__law_number : He.DefD := ⟨("_law_number", none), "_law_number", "_law_number", defArgs s__law_number, defBody s__law_number, defScope s__law_number, [], []⟩
def d__law_vector : He.DefD := ⟨("_law_vector", none), "_law_vector", "_law_vector", defArgs s__law_vector, defBody s__law_vector, defScope s__law_vector, [], []⟩
def d__law_wild : He.DefD := ⟨("_law_wild", none), "_law_wild", "_law_wild", defArgs s__law_wild, defBody s__law_wild, defScope s__law_wild, [], []⟩
def d__law_longer : He.DefD := ⟨("_law_longer", none), "_law_longer", "_law_longer", defArgs s__law_longer, defBody s__law_longer, defScope s__law_longer, [], []⟩
def d__law_put_together : He.DefD := ⟨("_law_put_together", none), "_law_put_together", "_law_put_together", defArgs s__law_put_together, defBody s__law_put_together, defScope s__law_put_together, [], []⟩
def d__law_any_cartan : He.DefD := ⟨("_law_any_cartan", none), "_law_any_cartan", "_law_any_cartan", defArgs s__law_any_cartan, defBody s__law_any_cartan, defScope s__law_any_cartan, [], []⟩
def d__law_bent : He.DefD := ⟨("_law_bent", none), "_law_bent", "_law_bent", defArgs s__law_bent, defBody s__law_bent, defScope s__law_bent, [], []⟩
def d__law_right : He.DefD := ⟨("_law_right", none), "_law_right", "_law_right", defArgs s__law_right, defBody s__law_right, defScope s__law_right, [], []⟩
def d_law : He.DefD := ⟨("law", none), "law", "law", defArgs s_law, defBody s_law, defScope s_law, [], []⟩
def fn : List He.DefD := [d_is_whole, d_is_row_of, d_is_cartan, d_joined_to, d_all_parts, d_dot, d_product_by, d_check_matrix, d_check_vector, d_is_matrix, d_parts_of, d_times_vector, d__law_pot, d__law_draw, d__law_pick, d__law_mixed, d__law_gcd, d__law_is_whole, d__law_is_row, d__law_is_cartan, d__law_odd, d__law_names, d__law_single, d__law_blocks, d__law_type, d__law_led_nodes, d__law_matrix, d__law_parts, d__law_reflected, d__law_simple, d__law_positive, d__law_lean, d__law_symmetrizer, d__law_form, d__law_number, d__law_vector, d__law_wild, d__law_longer, d__law_put_together, d__law_any_cartan, d__law_bent, d__law_right, d_law]
def fa : List He.Fa := [.glo "is_whole", .glo "is_row_of", .glo "is_cartan", .glo "joined_to", .glo "all_parts", .glo "dot", .glo "product_by", .glo "check_matrix", .glo "check_vector", .glo "is_matrix", .glo "parts_of", .glo "times_vector", .glo "_law_pot", .glo "_law_draw", .glo "_law_pick", .glo "_law_mixed", .glo "_law_gcd", .glo "_law_is_whole", .glo "_law_is_row", .glo "_law_is_cartan", .glo "_law_odd", .glo "_law_names", .glo "_law_single", .glo "_law_blocks", .glo "_law_type", .glo "_law_led_nodes", .glo "_law_matrix", .glo "_law_parts", .glo "_law_reflected", .glo "_law_simple", .glo "_law_positive", .glo "_law_lean", .glo "_law_symmetrizer", .glo "_law_form", .glo "_law_number", .glo "_law_vector", .glo "_law_wild", .glo "_law_longer", .glo "_law_put_together", .glo "_law_any_cartan", .glo "_law_bent", .glo "_law_right", .glo "law", .free "abs", .free "all", .free "bool", .free "divmod", .free "enumerate", .free "int", .free "isinstance", .free "len", .free "list", .free "max", .free "min", .free "range", .free "repr", .free "set", .free "sorted", .free "str", .free "sum", .free "tuple", .free "zip"]
def ts : List He.Tab := []
def cs : List (PySem.W.Frag → Bool) := [globB "MOST_NODES" (.int 8)]
abbrev R : PySem.W.OpenRow := PySem.W.OpenLaw.row PySem.Challenge.rw_weylweights_k02_matrices_of_anything_and
abbrev hk : PySem.W.Hook := hookX 4 fa fn ts cs
def ob (s : PySem.W.SharedT) : AlX := obsXG 4 fa fn ts cs (HandSHeadRun.getT s)
theorem ob_eq (s : PySem.W.SharedT) : ob s = hk.obs s.abs := obsXG_eq (HandSHeadRun.getT_eq s)
def loose : List PySem.Str := "is_whole" :: "MOST_NODES" :: "is_row_of" :: "is_cartan" :: "joined_to" :: "all_parts" :: "dot" :: "product_by" :: "WeylError" :: "InvalidMatrix" :: "InvalidVector" :: "check_matrix" :: "check_vector" :: "is_matrix" :: "parts_of" :: "times_vector" :: "_law_pot" :: "_law_draw" :: "_law_pick" :: "_law_mixed" :: "_law_gcd" :: "_law_is_whole" :: "_law_is_row" :: "_law_is_cartan" :: "_law_odd" :: "_law_names" :: "_law_single" :: "_law_blocks" :: "_law_type" :: "_law_led_nodes" :: "_law_matrix" :: "_law_parts" :: "_law_reflected" :: "_law_simple" :: "_law_positive" :: "_law_lean" :: "_law_symmetrizer" :: "_law_form" :: "_law_number" :: "_law_vector" :: "_law_wild" :: "_law_longer" :: "_law_put_together" :: "_law_any_cartan" :: "_law_bent" :: "_law_right" :: []
theorem run (w : World) : HandSHeadRun.RunEq R (PySem.W.view R.prog [52]) hk ob 4000 loose w := by
  refine PySem.W.byRow2 "special-get-raises" (P := fun w => HandSHeadRun.RunEq R (PySem.W.view R.prog [52]) hk ob 4000 loose w) (fun w => ?_) (fun w => ?_) w
  · intro os
    kernel_rfl
  · intro os
    kernel_rfl
theorem facts {P : Program} {w : World} {K : PySem.W.Frag} {h : Heap} {mg : Str → Option Value} {f : Addr} (X : K.In h) (G : h.Ns mainGlobals mg) (hfa : mg ("law" : Str) = some (.ref f)) (c : SaysX fa fn ts cs w K) (hR : ∀ xs Q, Rright xs Q → R__law_right xs Q) :
    ∃ fd : FuncData, (∀ (s : Shared) (v : Value), BindsTo s fd ⟨[v], []⟩ [("_law_script", v)]) ∧ ∀ base : Heap, K.In base → base.Ns mainGlobals mg → FnG P w K mg base CX0 7 f fd ["_law_script"] (spLaw K) := by
  obtain ⟨fd0, F0⟩ := c.d.def_ 0 (d := d_is_whole) rfl
  obtain ⟨fd1, F1⟩ := c.d.def_ 1 (d := d_is_row_of) rfl
  obtain ⟨fd2, F2⟩ := c.d.def_ 2 (d := d_is_cartan) rfl
  obtain ⟨fd3, F3⟩ := c.d.def_ 3 (d := d_joined_to) rfl
  obtain ⟨fd4, F4⟩ := c.d.def_ 4 (d := d_all_parts) rfl
  obtain ⟨fd5, F5⟩ := c.d.def_ 5 (d := d_dot) rfl
  obtain ⟨fd6, F6⟩ := c.d.def_ 6 (d := d_product_by) rfl
  obtain ⟨fd7, F7⟩ := c.d.def_ 7 (d := d_check_matrix) rfl
  obtain ⟨fd8, F8⟩ := c.d.def_ 8 (d := d_check_vector) rfl
  obtain ⟨fd9, F9⟩ := c.d.def_ 9 (d := d_is_matrix) rfl
  obtain ⟨fd10, F10⟩ := c.d.def_ 10 (d := d_parts_of) rfl
  obtain ⟨fd11, F11⟩ := c.d.def_ 11 (d := d_times_vector) rfl
  obtain ⟨fd12, F12⟩ := c.d.def_ 12 (d := d__law_pot) rfl
  obtain ⟨fd13, F13⟩ := c.d.def_ 13 (d := d__law_draw) rfl
  obtain ⟨fd14, F14⟩ := c.d.def_ 14 (d := d__law_pick) rfl
  obtain ⟨fd15, F15⟩ := c.d.def_ 15 (d := d__law_mixed) rfl
  obtain ⟨fd16, F16⟩ := c.d.def_ 16 (d := d__law_gcd) rfl
  obtain ⟨fd17, F17⟩ := c.d.def_ 17 (d := d__law_is_whole) rfl
  obtain ⟨fd18, F18⟩ := c.d.def_ 18 (d := d__law_is_row) rfl
  obtain ⟨fd19, F19⟩ := c.d.def_ 19 (d := d__law_is_cartan) rfl
  obtain ⟨fd20, F20⟩ := c.d.def_ 20 (d := d__law_odd) rfl
  obtain ⟨fd21, F21⟩ := c.d.def_ 21 (d := d__law_names) rfl
  obtain ⟨fd22, F22⟩ := c.d.def_ 22 (d := d__law_single) rfl
  obtain ⟨fd23, F23⟩ := c.d.def_ 23 (d := d__law_blocks) rfl
  obtain ⟨fd24, F24⟩ := c.d.def_ 24 (d := d__law_type) rfl
  obtain ⟨fd25, F25⟩ := c.d.def_ 25 (d := d__law_led_nodes) rfl
  obtain ⟨fd26, F26⟩ := c.d.def_ 26 (d := d__law_matrix) rfl
  obtain ⟨fd27, F27⟩ := c.d.def_ 27 (d := d__law_parts) rfl
  obtain ⟨fd28, F28⟩ := c.d.def_ 28 (d := d__law_reflected) rfl
  obtain ⟨fd29, F29⟩ := c.d.def_ 29 (d := d__law_simple) rfl
  obtain ⟨fd30, F30⟩ := c.d.def_ 30 (d := d__law_positive) rfl
  obtain ⟨fd31, F31⟩ := c.d.def_ 31 (d := d__law_lean) rfl
  obtain ⟨fd32, F32⟩ := c.d.def_ 32 (d := d__law_symmetrizer) rfl
  obtain ⟨fd33, F33⟩ := c.d.def_ 33 (d := d__law_form) rfl
  obtain ⟨fd34, F34⟩ := c.d.def_ 34 (d := d__law_number) rfl
  obtain ⟨fd35, F35⟩ := c.d.def_ 35 (d := d__law_vector) rfl
  obtain ⟨fd36, F36⟩ := c.d.def_ 36 (d := d__law_wild) rfl
  obtain ⟨fd37, F37⟩ := c.d.def_ 37 (d := d__law_longer) rfl
  obtain ⟨fd38, F38⟩ := c.d.def_ 38 (d := d__law_put_together) rfl
  obtain ⟨fd39, F39⟩ := c.d.def_ 39 (d := d__law_any_cartan) rfl
  obtain ⟨fd40, F40⟩ := c.d.def_ 40 (d := d__law_bent) rfl
  obtain ⟨fd41, F41⟩ := c.d.def_ 41 (d := d__law_right) rfl
  obtain ⟨fd42, F42⟩ := c.d.def_ 42 (d := d_law) rfl
  obtain ⟨u0, eu0, v0, rv0, rp0⟩ := c.glob 0 X G (x := "MOST_NODES") (d := (.int 8)) rfl
  let D : Fds := ⟨fd0, fd1, fd2, fd3, fd4, fd5, fd6, fd7, fd8, fd9, fd10, fd11, fd12, fd13, fd14, fd15, fd16, fd17, fd18, fd19, fd20, fd21, fd22, fd23, fd24, fd25, fd26, fd27, fd28, fd29, fd30, fd31, fd32, fd33, fd34, fd35, fd36, fd37, fd38, fd39, fd40, fd41, fd42, u0, v0⟩
  have t : T D w K mg := ⟨F0,
    He.glo_ok X G (c.d.fact 0 (f := .glo "is_whole") rfl),
    F1,
    He.glo_ok X G (c.d.fact 1 (f := .glo "is_row_of") rfl),
    F2,
    He.glo_ok X G (c.d.fact 2 (f := .glo "is_cartan") rfl),
    F3,
    He.glo_ok X G (c.d.fact 3 (f := .glo "joined_to") rfl),
    F4,
    He.glo_ok X G (c.d.fact 4 (f := .glo "all_parts") rfl),
    F5,
    He.glo_ok X G (c.d.fact 5 (f := .glo "dot") rfl),
    F6,
    He.glo_ok X G (c.d.fact 6 (f := .glo "product_by") rfl),
    F7,
    He.glo_ok X G (c.d.fact 7 (f := .glo "check_matrix") rfl),
    F8,
    He.glo_ok X G (c.d.fact 8 (f := .glo "check_vector") rfl),
    F9,
    He.glo_ok X G (c.d.fact 9 (f := .glo "is_matrix") rfl),
    F10,
    He.glo_ok X G (c.d.fact 10 (f := .glo "parts_of") rfl),
    F11,
    He.glo_ok X G (c.d.fact 11 (f := .glo "times_vector") rfl),
    F12,
    He.glo_ok X G (c.d.fact 12 (f := .glo "_law_pot") rfl),
    F13,
    He.glo_ok X G (c.d.fact 13 (f := .glo "_law_draw") rfl),
    F14,
    He.glo_ok X G (c.d.fact 14 (f := .glo "_law_pick") rfl),
    F15,
    He.glo_ok X G (c.d.fact 15 (f := .glo "_law_mixed") rfl),
    F16,
    He.glo_ok X G (c.d.fact 16 (f := .glo "_law_gcd") rfl),
    F17,
    He.glo_ok X G (c.d.fact 17 (f := .glo "_law_is_whole") rfl),
    F18,
    He.glo_ok X G (c.d.fact 18 (f := .glo "_law_is_row") rfl),
    F19,
    He.glo_ok X G (c.d.fact 19 (f := .glo "_law_is_cartan") rfl),
    F20,
    He.glo_ok X G (c.d.fact 20 (f := .glo "_law_odd") rfl),
    F21,
    He.glo_ok X G (c.d.fact 21 (f := .glo "_law_names") rfl),
    F22,
    He.glo_ok X G (c.d.fact 22 (f := .glo "_law_single") rfl),
    F23,
    He.glo_ok X G (c.d.fact 23 (f := .glo "_law_blocks") rfl),
    F24,
    He.glo_ok X G (c.d.fact 24 (f := .glo "_law_type") rfl),
    F25,
    He.glo_ok X G (c.d.fact 25 (f := .glo "_law_led_nodes") rfl),
    F26,
    He.glo_ok X G (c.d.fact 26 (f := .glo "_law_matrix") rfl),
    F27,
    He.glo_ok X G (c.d.fact 27 (f := .glo "_law_parts") rfl),
    F28,
    He.glo_ok X G (c.d.fact 28 (f := .glo "_law_reflected") rfl),
    F29,
    He.glo_ok X G (c.d.fact 29 (f := .glo "_law_simple") rfl),
    F30,
    He.glo_ok X G (c.d.fact 30 (f := .glo "_law_positive") rfl),
    F31,
    He.glo_ok X G (c.d.fact 31 (f := .glo "_law_lean") rfl),
    F32,
    He.glo_ok X G (c.d.fact 32 (f := .glo "_law_symmetrizer") rfl),
    F33,
    He.glo_ok X G (c.d.fact 33 (f := .glo "_law_form") rfl),
    F34,
    He.glo_ok X G (c.d.fact 34 (f := .glo "_law_number") rfl),
    F35,
    He.glo_ok X G (c.d.fact 35 (f := .glo "_law_vector") rfl),
    F36,
    He.glo_ok X G (c.d.fact 36 (f := .glo "_law_wild") rfl),
    F37,
    He.glo_ok X G (c.d.fact 37 (f := .glo "_law_longer") rfl),
    F38,
    He.glo_ok X G (c.d.fact 38 (f := .glo "_law_put_together") rfl),
    F39,
    He.glo_ok X G (c.d.fact 39 (f := .glo "_law_any_cartan") rfl),
    F40,
    He.glo_ok X G (c.d.fact 40 (f := .glo "_law_bent") rfl),
    F41,
    He.glo_ok X G (c.d.fact 41 (f := .glo "_law_right") rfl),
    F42,
    He.glo_ok X G (c.d.fact 42 (f := .glo "law") rfl),
    He.free_ok X G (c.d.fact 43 (f := .free "abs") rfl),
    He.free_ok X G (c.d.fact 44 (f := .free "all") rfl),
    He.free_ok X G (c.d.fact 45 (f := .free "bool") rfl),
    He.free_ok X G (c.d.fact 46 (f := .free "divmod") rfl),
    He.free_ok X G (c.d.fact 47 (f := .free "enumerate") rfl),
    He.free_ok X G (c.d.fact 48 (f := .free "int") rfl),
    He.free_ok X G (c.d.fact 49 (f := .free "isinstance") rfl),
    He.free_ok X G (c.d.fact 50 (f := .free "len") rfl),
    He.free_ok X G (c.d.fact 51 (f := .free "list") rfl),
    He.free_ok X G (c.d.fact 52 (f := .free "max") rfl),
    He.free_ok X G (c.d.fact 53 (f := .free "min") rfl),
    He.free_ok X G (c.d.fact 54 (f := .free "range") rfl),
    He.free_ok X G (c.d.fact 55 (f := .free "repr") rfl),
    He.free_ok X G (c.d.fact 56 (f := .free "set") rfl),
    He.free_ok X G (c.d.fact 57 (f := .free "sorted") rfl),
    He.free_ok X G (c.d.fact 58 (f := .free "str") rfl),
    He.free_ok X G (c.d.fact 59 (f := .free "sum") rfl),
    He.free_ok X G (c.d.fact 60 (f := .free "tuple") rfl),
    He.free_ok X G (c.d.fact 61 (f := .free "zip") rfl),
    ⟨eu0, rv0, rp0⟩⟩
  have e := hfa.symm.trans t.g_law
  cases e
  have b := FunD.bindsA (ps := ["_law_script"]) F42 fun _ _ _ _ _ _ us hl => match us, hl with | [_], _ => rfl
  exact ⟨_, fun s v => b s [v] rfl, fun base _ _ => ok_law t hR⟩
end LH
section
open PySem PySem.W PySem.Calls PyProof.Rows
theorem law_from (hR : ∀ xs Q, DL.Rright xs Q → LW.R__law_right xs Q) : PySem.Challenge.rw_weylweights_k02_matrices_of_anything_and.Holds := by
  w_on; o_law
  refine HandSHeadRun.head_any (r := OpenLaw.row PySem.Challenge.rw_weylweights_k02_matrices_of_anything_and) (q := view (OpenLaw.row PySem.Challenge.rw_weylweights_k02_matrices_of_anything_and).prog [52]) (H := LH.hk) (ob := LH.ob) (M := 4000) (loose := LH.loose) (d := HandSHeadRun.topDef (OpenLaw.row PySem.Challenge.rw_weylweights_k02_matrices_of_anything_and).prog 52) (kwd := []) LH.ob_eq
    (by kernel_rfl) (fun s => by kernel_rfl) LH.run (by kernel_rfl) (by kernel_rfl) (by kernel_rfl) (by rfl) (by first | assumption | decide +kernel) (by decide +kernel) ⟨rfl, rfl, rfl, rfl, rfl, by decide +kernel⟩ ?hw ?hc
  case hw => w_witness2
  case hc =>
    refine DL.g_walk (l := PySem.Challenge.rw_weylweights_k02_matrices_of_anything_and) (n := 63) (k := 7) (x := "_law_script") (CX := L2.CX0) rfl (by decide) (by kernel_rfl) ⟨rfl, by decide, by decide⟩ ?F (fun _ _ _ _ z => z)
    intro w mg fa h Y G hmg0
    obtain ⟨K, KX, c⟩ := Y
    have hmg : mg ("law" : PySem.Str) = some (.ref fa) := by
      have e : (HandSHeadRun.topDef (OpenLaw.row PySem.Challenge.rw_weylweights_k02_matrices_of_anything_and).prog 52).name = ("law" : PySem.Str) := by kernel_rfl
      rw [← e]
      exact hmg0
    obtain ⟨fd, hb, hF⟩ := LH.facts (P := (PySem.Challenge.rw_weylweights_k02_matrices_of_anything_and).prog) (w := w) KX G hmg c hR
    exact ⟨K, fd, DL.spLaw K, KX, hb, fun H a ns hl _ hS _ => ⟨a, ns, rfl, hS, fun _ => rfl⟩, hF⟩
end

/-! ==== ZA02 ==== -/
theorem PySem.Challenge.cw_weylweights_k02_matrices_of_anything_and_holds : PySem.Challenge.rw_weylweights_k02_matrices_of_anything_and.Holds :=
  law_from LB.right_ok
