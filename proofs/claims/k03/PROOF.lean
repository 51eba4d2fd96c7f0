import PyProof.Rows.All
import Wide.All
import OpenK.AllK
import Wide.FinOn
import HandS.ForMost
import HandS.Wide
import HandS.IsInst
import HandS.Style
import HandS.FStr
import PyProof.ReprRoads
import PyProof.MeetsSeq
import KE.KIntText
import PyProof.Rows.ReprOcc
import PyProof.ReprText
import HandS.SetFor
import PySem.Challenge.RW_allspeeds_k03_sums_products_quotients
set_option Elab.async false
set_option linter.all false
set_option maxRecDepth 100000
set_option maxHeartbeats 4000000
/-! B0: the layer with «no repr is under way» (guards), data with dicts, repr, own operators. -/
namespace AS
open PySem PySem.Spec PyProof.Rows L2

/-! ### room, no repr under way -/
structure RmG (k : Nat) (A : Around) : Prop where
  r : Room k A
  g : A.guards = some []
theorem RmG.mono {j k : Nat} {A : Around} (h : RmG k A) (e : j ≤ k) : RmG j A := ⟨h.r.mono e, h.g⟩
theorem RmG.deep {k : Nat} {A : Around} (h : RmG (k + 1) A) (env : Env) : RmG k (A.deeper env) := ⟨h.r.deeper env, h.g⟩
theorem RmG.un {k : Nat} {A : Around} (h : RmG k A) : A.units + 64 < cLine := h.r.units
theorem RmG.u1 {k : Nat} {A : Around} (h : RmG k A) : A.units + 1 < cLine := hu_of h.r

/-- what a def promises, called where no repr is under way -/
structure FnG (P : Program) (w : World) (K : PySem.W.Frag) (mg : Str → Option Value) (base : Heap) (CX : CXT) (k : Nat) (f : Addr) (fd : FuncData) (ps : List Str) (sp : Sp) : Prop where
  n : ∀ vs H Q E, sp vs H Q E → vs.length = ps.length
  go : ∀ (A : Around) (out : List Env) (s : Shared) (H : Hp) (as : Args) (us : List Value) (vs : List V) (Q : VK) (E : XK), RmG k A →
    Env0 P w K mg base A out s H → BindsTo s fd as (ps.zip us) → Vals vs us → sp vs H Q E → codeAny (model P w) A (.call (.ref f) as) (CR CX out P w H s Q E) s
section
variable {P : Program} {w : World} {K : PySem.W.Frag} {mg : Str → Option Value} {base : Heap}
theorem FnG.mono {CX : CXT} {j k : Nat} {f : Addr} {fd : FuncData} {ps : List Str} {sp : Sp} (F : FnG P w K mg base CX j f fd ps sp) (h : j ≤ k) : FnG P w K mg base CX k f fd ps sp :=
  ⟨F.n, fun A o s H as us vs Q E r => F.go A o s H as us vs Q E (r.mono h)⟩
/-- a def by its body: as Fun.ok, with RmG -/
theorem okG {x qual : Str} {st : Stmt} {f : Addr} {fd : FuncData} {N ps : List Str} {k : Nat} {sp : Sp} (F : Fun K x qual st f fd) (S : FnScope N ps (defScope st))
    (n : ∀ vs H Q E, sp vs H Q E → vs.length = ps.length)
    (body : ∀ (cdv : Value) (A : Around) (out : List Env) (s : Shared) (H : Hp) (vs : List V) (Q : VK) (E : XK), RmG k (A.deeper (envOfC qual (defScope st) s.heap.objs.size f cdv)) → sp vs H Q E →
      ∃ t, PSs (cxOf CX0 P w K mg base N qual (defScope st) f cdv A out s H E).nox (defBody st) t ∧ t { nx := fun _ H' => Q .non H', rt := Q } (start N vs) H) : FnG P w K mg base CX0 (k + 1) f fd ps sp := by
  obtain ⟨oc, od, kV, doc, pm, an, cdv, ct, osl, rfl, lk, hcd⟩ := F.ex
  refine ⟨n, fun A out s H as us vs Q E hr e0 hb rv hsp => ?_⟩
  have kin : K.In s.heap := e0.mod.kin.keeps fun b o e => (e0.bs b o e).1
  have nol : s.heap.NoLimit := e0.mod.nolimit.keeps fun b o e => (e0.bs b o e).1
  have kinds : ∀ y ∈ ps.zip us, (defScope st).names.lookup y.1 = some .local ∨ ((defScope st).names.lookup y.1 = some .cell ∧ ((cellsFrom (s.heap.objs.size + 1) (defScope st).names []).lookup y.1).isSome = true) := by
    rintro ⟨m, v⟩ hy
    rcases S.par m (List.of_mem_zip hy).1 with q | q
    · exact .inl q
    · exact .inr ⟨q, PySem.W.cellsFrom_some _ _ _ (.inl q)⟩
  refine codeAny_call_function hr.r.depth (kin _ _ lk) rfl S.co S.gen rfl (PySem.W.codeRec_of kin hcd) (hb _ _ _ _ ?_)
  refine wpAny_newFunctionEnv_cells S.kind kinds fun env he s1 x1 => ?_
  subst he
  refine ⟨nol.keeps x1.toInCall.keep, codeAny_func ?_⟩
  obtain ⟨t, ht, hq⟩ := body cdv A out s H vs Q E (hr.deep _) hsp
  have I0 : Inv (cxOf CX0 P w K mg base N qual (defScope st) f cdv A out s H E) [] (start N vs) H s1 := inv_start S hr.r.hd e0 (n _ _ _ _ hsp) rv x1
  refine wpAny_mono (ht.nox.run [] s1 (start N vs) H _ I0 hq) (fun fl s' hs => ?_) fun e s' hs => hs
  cases fl with
  | ret u => exact hs.elim fun v ⟨σ', H', J, r1, q⟩ => ⟨v, H', J.os, J.bare, J.base, J.hok, r1, q⟩
  | next => exact hs.elim fun σ' ⟨H', J, q⟩ => ⟨V.non, H', J.os, J.bare, J.base, J.hok, rfl, q⟩
  | brk => exact hs.elim fun _ ⟨_, _, q⟩ => False.elim q
  | cont => exact hs.elim fun _ ⟨_, _, q⟩ => False.elim q
end

/-! ### calls -/
section
variable {X : Cx} {k : Nat} {f : Addr} {fd : FuncData} {ps ks : List Str} {sp : Sp} {x : Str} {p pos : Pos} {e : Expr} {es : List Expr} {t tk : TA} {kws : List Keyword}
theorem runG {pins : List (Addr × Obj)} {σ : L2.St} {H : Hp} {s : Shared} {Q : VK} {as : Args} {us : List Value} {vs : List V} (F : FnG X.prog X.w X.K X.mg X.base CX0 k f fd ps sp) (hr : RmG k X.A) (hb : us.length = ps.length → BindsTo s fd as (ps.zip us))
    (I : Inv X pins σ H s) (r : Vals vs us) (h : sp vs H Q E0) : codeAny (model X.prog X.w) X.A (.call (.ref f) as) (fun r s' => match r with | .ok (.ret u) => EP X pins σ Q u s' | _ => False) s := by
  refine codeAny_mono (F.go X.A X.stack s H as us vs Q E0 hr I.env0 (hb (by rw [← r.length]; exact F.n _ _ _ _ h)) r h) fun r s' hq => ?_
  cases r with
  | error er => exact False.elim hq
  | ok fl =>
    cases fl with
    | ret u => exact I.after hq
    | next => exact hq
    | brk => exact hq
    | cont => exact hq
theorem callG {pins : List (Addr × Obj)} {σ : L2.St} {H : Hp} {s : Shared} {Q : VK} {as us : List Value} {kw : List (Str × Value)} {vs : List V} (F : FnG X.prog X.w X.K X.mg X.base CX0 k f fd ps sp) (hr : RmG k X.A) (hb : us.length = ps.length → BindsTo s fd ⟨as, kw⟩ (ps.zip us))
    (I : Inv X pins σ H s) (r : Vals vs us) (h : sp vs H Q E0) : wpAny (model X.prog X.w) X.A (call (.ref f) as kw) (EP X pins σ Q) X.xe s := by
  refine wpAny_call (codeAny_mono (runG F hr hb I r h) fun r s' hq => ?_)
  cases r with
  | error er => exact False.elim hq
  | ok fl =>
    cases fl with
    | ret u => exact hq
    | next => exact False.elim hq
    | brk => exact False.elim hq
    | cont => exact False.elim hq

/-- a def of the module, as its callers see it -/
structure DefG (P : Program) (w : World) (K : PySem.W.Frag) (mg : Str → Option Value) (base : Heap) (k : Nat) (x : Str) (st : Stmt) (ps : List Str) (sp : Sp) : Prop where
  ex : ∃ (f : Addr) (fd : FuncData), FnG P w K mg base CX0 k f fd ps sp ∧ Fun K x x st f fd ∧ mg x = some (.ref f)

/-- how positional values bind -/
def BindP (x : Str) (st : Stmt) (ps : List Str) : Prop := ∀ (kV doc pm : Value) (an : Option Addr) (cdv ct : Value) (us : List Value), us.length = ps.length → bindArgs (PySem.W.fnOf x x (defArgs st) (defBody st) (defScope st) .none kV doc pm an cdv ct) ⟨us, []⟩ = pure (ps.zip us)
/-- how keywords bind: n positional values, then keywords ks; g puts the values in the parameters' order -/
def BindK (x : Str) (st : Stmt) (ps ks : List Str) (g : {α : Type} → List α → List α → List α) : Prop := ∀ (kV doc pm : Value) (an : Option Addr) (cdv ct : Value) (us ws : List Value), (g us ws).length = ps.length → bindArgs (PySem.W.fnOf x x (defArgs st) (defBody st) (defScope st) .none kV doc pm an cdv ct) ⟨us, ks.zip ws⟩ = pure (ps.zip (g us ws))
structure GRel (g : {α : Type} → List α → List α → List α) : Prop where
  rel : ∀ {vs : List V} {us : List Value} {zs : List V} {ws : List Value}, Vals vs us → Vals zs ws → Vals (g vs zs) (g us ws)

def tCl (sp : Sp) (t : TA) : TE := fun σ H Q => t σ H fun vs H1 => sp vs H1 Q E0
def tClK (sp : Sp) (g : List V → List V → List V) (t tk : TA) : TE := fun σ H Q => t σ H fun vs H1 => tk σ H1 fun zs H2 => sp (g vs zs) H2 Q E0
variable {st : Stmt} {j : Nat}
/-- f(a, ..) -/
theorem pc (D : DefG X.prog X.w X.K X.mg X.base j x st ps sp) (B : BindP x st ps) (hr : RmG k X.A) (hj : j ≤ k) (ha : PA X (e :: es) t) (hg : Gl X x := by rfl) (hdb : (x == ("__debug__" : Str)) = false := by decide)
    (he : starEach (e :: es) X.env = (false, eval e X.env) :: starEach es X.env := by rfl) (hpl : (backTo pos (starEach es X.env)).any (·.1) = false := by rfl) : PE X (.Call (.Name x p) (e :: es) [] pos) (tCl sp t) := by
  obtain ⟨f, fd, F, U, hm⟩ := D.ex
  refine ⟨fun pins s σ H Q I h => wpAny_Call_Name_kw (ld_glob I hg hm ?_ hdb)⟩
  refine PySem.W.callWith_K (h₀ := X.base) I.ok.mod.kin U.kp (thn (ha.run pos pins s σ H _ I h) fun us s1 ⟨vs, H1, I1, r, q⟩ => ⟨I1.kIn, ?_⟩) he hpl
  refine callG F (hr.mono hj) (fun hl => ?_) I1 r q
  obtain ⟨oc, od, kV, doc, pm, an, cdv, ct, osl, rfl, lk, hcd⟩ := U.ex
  exact .of_eq (B kV doc pm an cdv ct us hl)
/-- f() -/
theorem pc0 (D : DefG X.prog X.w X.K X.mg X.base j x st [] sp) (B : BindP x st []) (hr : RmG k X.A) (hj : j ≤ k) (hg : Gl X x := by rfl) (hdb : (x == ("__debug__" : Str)) = false := by decide) : PE X (.Call (.Name x p) [] [] pos) (tCl sp tNil) := by
  obtain ⟨f, fd, F, U, hm⟩ := D.ex
  refine ⟨fun pins s σ H Q I h => wpAny_Call_Name_kw (ld_glob I hg hm ?_ hdb)⟩
  refine PySem.W.callWith_K0 I.kIn U.kp (callG F (hr.mono hj) (us := []) (fun hl => ?_) I .nil h)
  obtain ⟨oc, od, kV, doc, pm, an, cdv, ct, osl, rfl, lk, hcd⟩ := U.ex
  exact .of_eq (B kV doc pm an cdv ct [] hl)
/-- f(k = v, ..) -/
theorem pcK0 {g : {α : Type} → List α → List α → List α} (D : DefG X.prog X.w X.K X.mg X.base j x st ps sp) (B : BindK x st ps ks g) (R : GRel g) (hr : RmG k X.A) (hj : j ≤ k) (hkw : PK X kws tk) (hall : (backToKw pos (keywordEach kws X.env)).all (·.1.isSome) = true := by rfl)
    (hks : (backToKw pos (keywordEach kws X.env)).filterMap (·.1) = ks := by rfl) (hg : Gl X x := by rfl) (hdb : (x == ("__debug__" : Str)) = false := by decide) (hpl : ((backTo pos (starEach [] X.env)).any (·.1) || (backToKw pos (keywordEach kws X.env)).any (·.1.isNone)) = false := by rfl) :
    PE X (.Call (.Name x p) [] kws pos) (tClK sp g tNil tk) := by
  obtain ⟨f, fd, F, U, hm⟩ := D.ex
  refine ⟨fun pins s σ H Q I h => wpAny_Call_Name_kw (ld_glob I hg hm ?_ hdb)⟩
  refine PySem.W.callWith_KW0 (h₀ := X.base) I.ok.mod.kin U.kp hall (thn (hkw.run pos pins s σ H _ I h) fun ws s2 ⟨zs, H2, I2, rz, q2⟩ => ⟨I2.kIn, ?_⟩) hpl
  rw [hks]
  refine callG F (hr.mono hj) (fun hl => ?_) I2 (R.rel .nil rz) q2
  obtain ⟨oc, od, kV, doc, pm, an, cdv, ct, osl, rfl, lk, hcd⟩ := U.ex
  exact .of_eq (B kV doc pm an cdv ct [] ws hl)
/-- f(a, .., k = v, ..) -/
theorem pcK {g : {α : Type} → List α → List α → List α} (D : DefG X.prog X.w X.K X.mg X.base j x st ps sp) (B : BindK x st ps ks g) (R : GRel g) (hr : RmG k X.A) (hj : j ≤ k) (ha : PA X (e :: es) t) (hkw : PK X kws tk) (hall : (backToKw pos (keywordEach kws X.env)).all (·.1.isSome) = true := by rfl)
    (hks : (backToKw pos (keywordEach kws X.env)).filterMap (·.1) = ks := by rfl) (hg : Gl X x := by rfl) (hdb : (x == ("__debug__" : Str)) = false := by decide) (he : starEach (e :: es) X.env = (false, eval e X.env) :: starEach es X.env := by rfl)
    (hpl : ((backTo pos (starEach (e :: es) X.env)).any (·.1) || (backToKw pos (keywordEach kws X.env)).any (·.1.isNone)) = false := by rfl) : PE X (.Call (.Name x p) (e :: es) kws pos) (tClK sp g t tk) := by
  obtain ⟨f, fd, F, U, hm⟩ := D.ex
  refine ⟨fun pins s σ H Q I h => wpAny_Call_Name_kw (ld_glob I hg hm ?_ hdb)⟩
  refine PySem.W.callWith_KW (h₀ := X.base) I.ok.mod.kin U.kp hall (thn (ha.run pos pins s σ H _ I h) fun us s1 ⟨vs, H1, I1, r, q⟩ => ?_) hpl he
  refine thn (hkw.run pos pins s1 σ H1 _ I1 q) fun ws s2 ⟨zs, H2, I2, rz, q2⟩ => ⟨I2.kIn, ?_⟩
  rw [hks]
  refine callG F (hr.mono hj) (fun hl => ?_) I2 (R.rel r rz) q2
  obtain ⟨oc, od, kV, doc, pm, an, cdv, ct, osl, rfl, lk, hcd⟩ := U.ex
  exact .of_eq (B kV doc pm an cdv ct us ws hl)
end

/-! ### data: with dicts -/
def kD : Key → PyData
  | .inl i => .int i
  | .inr x => .str x
mutual
inductive Dq (K : PySem.W.Frag) (H : Hp) : V → PyData → Prop
  | non : Dq K H .non .none
  | bl (b : Bool) : Dq K H (.bl b) (.bool b)
  | int (i : Int) : Dq K H (.int i) (.int i)
  | str (x : Str) : Dq K H (.str x) (.str x)
  | lst {a : Addr} {xs : List V} {ds : List PyData} : H a = some (.lst xs) → DqL K H xs ds → Dq K H (.ref a) (.list ds)
  | tup {a : Addr} {xs : List V} {ds : List PyData} : H a = some (.tup xs) → DqL K H xs ds → Dq K H (.ref a) (.tuple ds)
  | dct {a : Addr} {kvs : List (Key × V)} {ds : List PyData} : H a = some (.dK kvs) → DqL K H (kvs.map (·.2)) ds → Dq K H (.ref a) (.dict ((kvs.map fun p => kD p.1).zip ds))
inductive DqL (K : PySem.W.Frag) (H : Hp) : List V → List PyData → Prop
  | nil : DqL K H [] []
  | cons {v : V} {vs : List V} {d : PyData} {ds : List PyData} : Dq K H v d → DqL K H vs ds → DqL K H (v :: vs) (d :: ds)
end
theorem DqL.length {K : PySem.W.Frag} {H : Hp} : ∀ {vs : List V} {ds : List PyData}, DqL K H vs ds → vs.length = ds.length
  | _, _, .nil => rfl
  | _, _, .cons _ t => congrArg (· + 1) (DqL.length t)

section
variable {X : Cx} {pins : List (Addr × Obj)} {σ : L2.St} {H : Hp} {s : Shared}
theorem rd_keys : ∀ {es : List DictEntry} {kvs : List (Key × Value)}, Pairs (mixKind X.prog X.w) es kvs → ReadsAll s.heap (es.map (·.key)) (kvs.map fun p => kD p.1) []
  | _, _, .nil => .nil
  | _, _, .cons (kv := kv) h _ t => by
    obtain ⟨k, v⟩ := kv
    rcases keyIs_shape (k := k) h with ⟨i, u, e1, e2⟩ | ⟨x, u, e1, e2⟩
    · subst e1
      rw [List.map_cons, e2]
      exact ReadsAll.cons (as := []) (bs := []) (Reads.int i u) (rd_keys t)
    · subst e1
      rw [List.map_cons, e2]
      exact ReadsAll.cons (as := []) (bs := []) (Reads.str x u) (rd_keys t)
theorem rd_vals : ∀ {es : List DictEntry} {kvs : List (Key × Value)}, Pairs (mixKind X.prog X.w) es kvs → es.map (·.val) = kvs.map (·.2)
  | _, _, .nil => rfl
  | _, _, .cons _ e t => by rw [List.map_cons, List.map_cons, e, rd_vals t]
theorem kv_keys {α : Type} (f : Key → α) : ∀ {ks : List (Key × V)} {vs : List (Key × Value)}, KV ks vs → ks.map (fun p => f p.1) = vs.map fun p => f p.1
  | _, _, .nil => rfl
  | _, _, .cons r t => by rw [List.map_cons, List.map_cons, r.1, kv_keys f t]
theorem kv_vals : ∀ {ks : List (Key × V)} {vs : List (Key × Value)}, KV ks vs → Vals (ks.map (·.2)) (vs.map (·.2))
  | _, _, .nil => .nil
  | _, _, .cons r t => .cons r.2 (kv_vals t)
theorem zip_fst {α β γ : Type} (f : α → β) : ∀ (l : List α) (ds : List γ), l.length = ds.length → ((l.map f).zip ds).map (·.1) = l.map f
  | [], [], _ => rfl
  | a :: l, d :: ds, h => by simpa using zip_fst f l ds (by simpa using h)
theorem zip_snd {α β γ : Type} (f : α → β) : ∀ (l : List α) (ds : List γ), l.length = ds.length → ((l.map f).zip ds).map (·.2) = ds
  | [], [], _ => rfl
  | a :: l, d :: ds, h => by simpa using zip_snd f l ds (by simpa using h)
mutual
theorem Dq.reads (I : Inv X pins σ H s) (hB : ∃ o, X.base.get? sysModules = some o) : ∀ {v : V} {d : PyData} {u : Value}, Dq X.K H v d → RelV v u → ∃ as, Reads s.heap u d as ∧ sysModules ∉ as
  | _, _, _, .non, r => by cases r; exact ⟨_, Reads.none, by simp⟩
  | _, _, _, .bl b, r => by cases r; exact ⟨_, Reads.bool b, by simp⟩
  | _, _, _, .int i, r => by obtain ⟨t, rfl⟩ := r; exact ⟨_, Reads.int i t, by simp⟩
  | _, _, _, .str x, r => by obtain ⟨t, rfl⟩ := r; exact ⟨_, Reads.str x t, by simp⟩
  | _, _, _, .lst (a := a) ha hd, r => by
    cases r
    obtain ⟨its, rv, ⟨o, n, ho, hc, hdn, hdt⟩, _⟩ := I.list (.inl (.inl ha))
    obtain ⟨as, q, nq⟩ := DqL.readsAll I hB hd rv
    refine ⟨_, Reads.list ho hc hdt q, ?_⟩
    intro hm
    rcases List.mem_cons.mp hm with e | hm
    · obtain ⟨ob, hob⟩ := hB
      rw [← e, (I.bs _ _ hob).2] at ha
      cases ha
    · exact nq hm
  | _, _, _, .tup (a := a) ha hd, r => by
    cases r
    obtain ⟨its, rv, ⟨o, ho, hc, n, hdt⟩, _⟩ := I.tuple (.inl (.inl ha))
    obtain ⟨as, q, nq⟩ := DqL.readsAll I hB hd rv
    exact ⟨_, Reads.tuple ho hc hdt q, nq⟩
  | _, _, _, .dct (a := a) (kvs := kvs) (ds := ds) ha hd, r => by
    cases r
    obtain ⟨_, hs, vs, kv, o, es, ep, ho, hex, hdt, hk, hp, _⟩ := I.hok a _ ha
    obtain ⟨as, q, nq⟩ := DqL.readsAll I hB hd (kv_vals kv)
    have hl : kvs.length = ds.length := by have := hd.length; simpa using this
    refine ⟨_, Reads.dict (as := []) (bs := as) (kvs := (kvs.map fun p => kD p.1).zip ds) ho hex.1 hdt ?_ ?_, ?_⟩
    · rw [zip_fst _ kvs ds hl, show (kvs.map fun p => kD p.1) = _ from kv_keys (fun k => match k with | .inl i => PyData.int i | .inr x => PyData.str x) kv]
      exact rd_keys hp
    · rw [zip_snd _ kvs ds hl, rd_vals hp]
      exact q
    · intro hm
      rcases List.mem_cons.mp hm with e | hm
      · rw [e] at hs
        simp at hs
      · exact nq (by simpa using hm)
theorem DqL.readsAll (I : Inv X pins σ H s) (hB : ∃ o, X.base.get? sysModules = some o) : ∀ {vs : List V} {ds : List PyData} {us : List Value}, DqL X.K H vs ds → Vals vs us → ∃ as, ReadsAll s.heap us ds as ∧ sysModules ∉ as
  | _, _, _, .nil, r => by cases r; exact ⟨_, ReadsAll.nil, by simp⟩
  | _, _, _, .cons h t, r => by
    cases r with
    | cons r1 r2 =>
      obtain ⟨as, q1, n1⟩ := Dq.reads I hB h r1
      obtain ⟨bs, q2, n2⟩ := DqL.readsAll I hB t r2
      exact ⟨_, ReadsAll.cons q1 q2, by simp [n1, n2]⟩
end
end

/-! ### repr -/
section
variable {X : Cx}
def rRepr (K : PySem.W.Frag) : List V → Hp → VK → Prop := fun xs H Q => ∃ v d, xs = [v] ∧ Dq K H v d ∧ d.showable = true ∧ d.depth ≤ 32 ∧ d.shown.length ≤ sizeLine ∧ Q (.str d.shown) H
theorem call_reprG {k : Nat} (hr : RmG k X.A) (hB : ∃ o, X.base.get? sysModules = some o) : CallR X (.builtin "repr") (rRepr X.K) := by
  intro pins s σ H xs us Q I r h
  obtain ⟨v, d, rfl, hd, h1, h2, h3, q⟩ := h
  obtain ⟨u, rfl, ru⟩ := vals1 r
  obtain ⟨as, hq, ns⟩ := hd.reads I hB ru
  have un := hr.un
  have ofRef : ∀ a, u = .ref a → wpAny (model X.prog X.w) X.A (call (.builtin "repr") [u]) (EP X pins σ Q) X.xe s := by
    intro a e
    subst e
    exact repr_of_reads' hq h1 (fun _ => ns) hr.g (by omega) (fun _ _ e => e) (fun h' t tk hk => ⟨.str d.shown, H, I.kept hk, ⟨t, rfl⟩, q⟩) h3
  cases hd with
  | non => cases ru; exact PySem.P.repr_of_none ⟨.str _, H, I.tok _, ⟨_, rfl⟩, by simpa only [PyData.shown] using q⟩
  | bl b => cases ru; exact PySem.P.repr_of_bool ⟨.str _, H, I.tok _, ⟨_, rfl⟩, by simpa only [PyData.shown] using q⟩
  | int i => obtain ⟨t, rfl⟩ := ru; exact PySem.P.repr_of_int (by simpa [PyData.showable] using h1) ⟨.str _, H, I.tok _, ⟨_, rfl⟩, by simpa only [PyData.shown] using q⟩
  | str x => obtain ⟨t, rfl⟩ := ru; exact PySem.P.repr_of_str ⟨.str _, H, I.tok _, ⟨_, rfl⟩, by simpa only [PyData.shown] using q⟩ (by simpa only [PyData.shown] using h3)
  | lst _ _ => exact ofRef _ ru
  | tup _ _ => exact ofRef _ ru
  | dct _ _ => exact ofRef _ ru
end

/-! ### // by a divisor that is not 0 -/
section
variable {X : Cx}
def CDivX (_ j : Int) : Prop := j ≠ 0 ∧ j.natAbs < 2 ^ 8000
theorem op_fdivX : OpR X (binaryOp .FloorDiv) (rI CDivX fun i j => .int (i.fdiv j)) := opI fun i j _ _ _ _ _ hc q =>
  floordiv_int hc.1 q (.inl (PyProof.noPylong_of_log2 (Nat.lt_of_lt_of_le (PySem.Flt.log2_lt_of (by decide) hc.2) (by decide))))
/-- * of two ints below 2 ^ 4000 -/
def CMulX (i j : Int) : Prop := i.natAbs < 2 ^ 8000 ∧ j.natAbs < 2 ^ 8000
theorem op_mulX : OpR X (binaryOp .Mult) (rI CMulX fun i j => .int (i * j)) := opI fun _ _ _ _ _ _ _ hc q => mul_int q (CMulW.ok (wide_mul hc.1 hc.2 (by decide) (by decide) (by decide)))
end

/-! ### the end of a law's row -/
/-- the law's call: its def's promise, at the heap behind the top -/
theorem lawG {P : Program} {w : World} {K : PySem.W.Frag} {mg mb : Str → Option Value} {k : Nat} {fa a : Addr} {fd : FuncData} {x : Str} {sp : Sp} {s1 : Shared} {vs : List Value} {ns : List Int} {ob : Obj}
    (kin : K.In s1.heap) (hg : s1.heap.Ns mainGlobals mg) (hb : s1.heap.Ns builtinsNs mb) (hbb : ∀ x : Str, x ≠ "__name__" → mb x = bootBuiltins x) (nol : s1.heap.NoLimit) (hm : s1.heap.get? sysModules = some ob) (hmd : ∃ es n, ob.data = .dict es n) (h0 : s1.gens = #[])
    (ha : s1.heap.get? a = some { cls := .type "list", data := .seq vs.toArray }) (hi : IntsAre vs ns) (hl : ns.length ≤ sizeLine) (hr : Room k callerA)
    (F : ∀ base : Heap, K.In base → base.Ns mainGlobals mg → (∃ o, base.get? sysModules = some o) → FnG P w K mg base CX0 k fa fd [x] sp) (bind : ∀ (s : Shared) (u : Value), BindsTo s fd ⟨[u], []⟩ [(x, u)])
    (hsp : ∀ H : Hp, SqL K H a (ns.map V.int) → (∀ b o, H b = some o → ∃ o' xs, o = .frz o' (.lst xs)) → sp [.ref a] H (fun v _ => v = .bl true) E0) :
    codeAny (model P w) callerA (.call (.ref fa) ⟨[.ref a], []⟩) (fun r s' => r = .ok (.ret (.bool true)) ∧ OldK s1.heap s'.heap ∧ s'.os = s1.os ∧ AllBare s'.gens) s1 := by
  have rv := vals_ints hi
  have lv := hi.length
  -- whatever is tracked is the script, known to the object
  have core : ∀ H : Hp, SqL K H a (ns.map V.int) → HOk P w H s1.heap → (∀ b o, H b = some o → b = a ∧ ∃ o' xs, o = .frz o' (.lst xs)) → (H a ≠ none → K.lookup a = none) →
      codeAny (model P w) callerA (.call (.ref fa) ⟨[.ref a], []⟩) (fun r s' => r = .ok (.ret (.bool true)) ∧ OldK s1.heap s'.heap ∧ s'.os = s1.os ∧ AllBare s'.gens) s1 := by
    intro H hS ok only notK
    have free : ∀ {b : Addr} {o : Obj}, s1.heap.get? b = some o → (∃ es n, o.data = .dict es n) → H b = none := by
      rintro b o e ⟨es, n, d⟩
      cases q : H b with
      | none => rfl
      | some u =>
        obtain ⟨rfl, _⟩ := only b u q
        rw [ha] at e
        cases e
        cases d
    have ns_ : ∀ {b : Addr} {m : Str → Option Value}, s1.heap.Ns b m → (hidT s1.heap H).Ns b m := by
      rintro b m ⟨o, es, ep, e, d, r⟩
      exact ⟨o, es, ep, hidT_get e (free e ⟨es, ep, d⟩), d, r⟩
    have kb : K.In (hidT s1.heap H) := by
      intro b o e
      refine hidT_get (kin b o e) ?_
      cases q : H b with
      | none => rfl
      | some u =>
        obtain ⟨rfl, _⟩ := only b u q
        rw [notK (by rw [q]; simp)] at e
        cases e
    have M : Mod K mg (hidT s1.heap H) := ⟨kb, ns_ hg, ⟨mb, ns_ hb, hbb⟩, nol.elim fun mc h => ⟨mc, ns_ h.1, h.2⟩⟩
    have e0 : Env0 P w K mg (hidT s1.heap H) callerA [] s1 H := ⟨rfl, M, fun b o e => of_hidT e, Nat.le_of_eq (hidT_size _ _), trivial, fun b z => absurd (show b ∈ ([] : List Addr) from z) (by simp), ok, .of_eq h0⟩
    refine codeAny_mono ((F _ kb (ns_ hg) ⟨ob, hidT_get hm (free hm hmd)⟩).go callerA [] s1 H ⟨[.ref a], []⟩ [.ref a] [.ref a] _ E0 ⟨hr, rfl⟩ e0 (bind s1 (.ref a)) (.cons rfl .nil) (hsp H hS fun b o e => (only b o e).2)) fun r s' h => ?_
    match r, h with
    | .error er, h => exact False.elim h
    | .ok .next, h => exact False.elim h
    | .ok .brk, h => exact False.elim h
    | .ok .cont, h => exact False.elim h
    | .ok (.ret u), ⟨v, H', os, bare, un, ok', r', (q : v = .bl true)⟩ =>
      subst q
      obtain rfl : u = Value.bool true := r'
      refine ⟨rfl, OldK.of_keep fun b o e => ?_, os, bare⟩
      cases q : H b with
      | none => exact un.keep b o e q (fun z => absurd (show b ∈ ([] : List Addr) from z) (by simp)) (by simp)
      | some u =>
        obtain ⟨_, o', xs, rfl⟩ := only b u q
        have e1 := (ok b _ q).1
        have e2 := (ok' b _ (un.frzs b o' _ q)).1
        rw [e] at e1
        cases e1
        exact e2
  cases hk : K.lookup a with
  | some o =>
    have e := kin a o hk
    rw [ha] at e
    cases e
    exact core (fun _ => none) (.inr ⟨_, vs.toArray, _, hk, rfl, rfl, rfl, by rw [List.size_toArray, lv]; exact hl, by simpa using rv⟩) (fun b u z => by cases z) (fun b o z => by cases z) fun z => absurd rfl z
  | none =>
    refine core (fun b => if b = a then some (.frz { cls := .type "list", data := .seq vs.toArray } (.lst (ns.map V.int))) else none) (.inl (.inr ⟨{ cls := .type "list", data := .seq vs.toArray }, if_pos rfl⟩)) (fun b u z => ?_) (fun b o z => ?_) fun _ => hk
    · replace z : (if b = a then some (HO.frz { cls := .type "list", data := .seq vs.toArray } (.lst (ns.map V.int))) else none) = some u := z
      split at z
      · rename_i e
        cases z
        subst e
        exact ⟨ha, by rw [List.length_map]; exact hl, vs, _, rv, ha⟩
      · cases z
    · replace z : (if b = a then some (HO.frz { cls := .type "list", data := .seq vs.toArray } (.lst (ns.map V.int))) else none) = some o := z
      split at z
      · rename_i e
        cases z
        exact ⟨e, _, _, rfl⟩
      · cases z
theorem walkG {l : PySem.W.OpenLaw} {n k : Nat} {q : Program} {loose : List Str} {XP : (Str → Option Value) → Heap → Prop} {YP : World → Heap → Prop} {d : DefRec} {K : Params → PySem.W.Frag} {sp : PySem.W.Frag → Sp} {x : Str}
    (hn : l.most = some n) (hn2 : n ≤ sizeLine) (hdf : d.params.defaults = []) (hr : Room k callerA) (himp : importsNone q = true)
    (hY : ∀ (w : World) (h : Heap), YP w h → (K w.params).In h)
    (F : ∀ (w : World) (mg : Str → Option Value) (fa : Addr) (h : Heap), (K w.params).In h → h.Ns mainGlobals mg → mg d.name = some (.ref fa) →
      ∃ fd : FuncData, (∀ (s : Shared) (u : Value), BindsTo s fd ⟨[u], []⟩ [(x, u)]) ∧
        ∀ base : Heap, (K w.params).In base → base.Ns mainGlobals mg → (∃ o, base.get? sysModules = some o) → FnG l.prog w (K w.params) mg base CX0 k fa fd [x] (sp (K w.params)))
    (hsp : ∀ (K : PySem.W.Frag) (H : Hp) (a : Addr) (ns : List Int), ns.length ≤ n → SqL K H a (ns.map V.int) → (∀ b o, H b = some o → ∃ o' xs, o = .frz o' (.lst xs)) → sp K [.ref a] H (fun v _ => v = .bl true) E0) :
    PySem.W.WalkO q loose XP YP l.row.toRowW d [] (fun f vs => PySem.call f vs) := by
  refine Att.attach_call hn hdf fun w s0 s1 mg mb fa o pm cd doc a vs ns G Y ho hd hcd hmg hobj hints hlen hg => ?_
  have kin := hY w _ Y
  obtain ⟨fd, hb, hF⟩ := F w mg fa _ kin G.T.g hmg
  obtain ⟨mm, ⟨om, es, ep, hom, hod, _⟩, _⟩ := (G.T.seer himp).mods
  exact lawG kin G.T.g G.T.b G.T.builtins G.T.nolimit hom ⟨es, ep, hod⟩ hg hobj hints (Nat.le_trans hlen hn2) hr hF hb fun H hS hO => hsp (K w.params) H a ns hlen hS hO
end AS
namespace AS
/-- a number: an integer, or a fraction -/
inductive Nm where
  | i (n : Int) | f (a b : Int)
  deriving DecidableEq
def Nm.t : Nm → Int
  | .i n => n
  | .f a _ => a
def Nm.b : Nm → Int
  | .i _ => 1
  | .f _ b => b
def Nm.Ok : Nm → Prop
  | .i _ => True
  | .f a b => 1 < b ∧ Int.gcd a b = 1
def gcdI (a b : Int) : Int := (Int.gcd a b : Int)
def mkN (a b : Int) : Nm :=
  if b = (if b < 0 then -gcdI a b else gcdI a b) then .i (a.fdiv (if b < 0 then -gcdI a b else gcdI a b))
  else .f (a.fdiv (if b < 0 then -gcdI a b else gcdI a b)) (b.fdiv (if b < 0 then -gcdI a b else gcdI a b))
theorem dvd_cop {a b d : Int} (h : b ∣ a * d) (g : Int.gcd a b = 1) : b ∣ d := by
  have h1 : b.natAbs ∣ a.natAbs * d.natAbs := by rw [← Int.natAbs_mul]; exact Int.natAbs_dvd_natAbs.mpr h
  have h2 : Nat.Coprime b.natAbs a.natAbs := by
    have : Nat.gcd a.natAbs b.natAbs = 1 := g
    exact (Nat.gcd_comm _ _).trans this
  exact Int.natAbs_dvd_natAbs.mp (h2.dvd_of_dvd_mul_left h1)
theorem Nm.Ok.pos {q : Nm} (h : q.Ok) : 0 < q.b := by
  cases q with
  | i n => exact Int.one_pos
  | f a b => have := h.1; show 0 < b; omega
/-- the same value, the same number -/
theorem Nm.eq_of {p q : Nm} (hp : p.Ok) (hq : q.Ok) (h : p.t * q.b = q.t * p.b) : p = q := by
  have key : ∀ a b c d : Int, 0 < b → 0 < d → Int.gcd a b = 1 → Int.gcd c d = 1 → a * d = c * b → a = c ∧ b = d := by
    intro a b c d hb hd h1 h2 e
    have d1 : b ∣ d := by
      have : b ∣ a * d := ⟨c, by rw [e, Int.mul_comm]⟩
      exact dvd_cop this h1
    have d2 : d ∣ b := by
      have : d ∣ c * b := ⟨a, by rw [← e, Int.mul_comm]⟩
      exact dvd_cop this h2
    have e2 : b = d := Int.le_antisymm (Int.le_of_dvd hd d1) (Int.le_of_dvd hb d2)
    subst e2
    exact ⟨Int.eq_of_mul_eq_mul_right (by omega) e, rfl⟩
  cases p with
  | i n =>
    cases q with
    | i m =>
      have : n = m := by simpa [Nm.t, Nm.b] using h
      rw [this]
    | f c d =>
      have := key n 1 c d Int.one_pos (by have := hq.1; omega) (by simp) hq.2 (by simpa [Nm.t, Nm.b] using h)
      have := hq.1; omega
  | f a b =>
    cases q with
    | i m =>
      have := key a b m 1 (by have := hp.1; omega) Int.one_pos hp.2 (by simp) (by simpa [Nm.t, Nm.b] using h)
      have := hp.1; omega
    | f c d =>
      obtain ⟨e1, e2⟩ := key a b c d (by have := hp.1; omega) (by have := hq.1; omega) hp.2 hq.2 h
      rw [e1, e2]
theorem mkN_ok {a b : Int} (h : b ≠ 0) : (mkN a b).Ok ∧ (mkN a b).t * b = a * (mkN a b).b := by
  obtain ⟨g, hg⟩ : ∃ g, g = (if b < 0 then -gcdI a b else gcdI a b) := ⟨_, rfl⟩
  have hgp : 0 < gcdI a b := by
    have : 0 < Int.gcd a b := Int.gcd_pos_of_ne_zero_right a h
    unfold gcdI; omega
  have g0 : g ≠ 0 := by rw [hg]; split <;> omega
  have ga : g ∣ a := by
    rw [hg]; split
    · exact Int.neg_dvd.mpr (Int.gcd_dvd_left ..)
    · exact Int.gcd_dvd_left ..
  have gb : g ∣ b := by
    rw [hg]; split
    · exact Int.neg_dvd.mpr (Int.gcd_dvd_right ..)
    · exact Int.gcd_dvd_right ..
  obtain ⟨x, hx⟩ := ga
  obtain ⟨y, hy⟩ := gb
  have fa : a.fdiv g = x := by rw [hx]; exact Int.mul_fdiv_cancel_left _ g0
  have fb : b.fdiv g = y := by rw [hy]; exact Int.mul_fdiv_cancel_left _ g0
  have hy0 : 0 < y := by
    rcases Int.lt_or_gt_of_ne h with hb | hb
    · have : g < 0 := by rw [hg, if_pos hb]; omega
      rw [hy] at hb
      exact Int.pos_of_mul_neg_left (by rw [Int.mul_comm]; exact hb) this
    · have : 0 < g := by rw [hg, if_neg (by omega)]; omega
      rw [hy] at hb
      exact Int.pos_of_mul_pos_left (by rw [Int.mul_comm]; omega) (by omega)
  have hgg : Int.gcd x y = 1 := by
    have e1 : Int.gcd a b = g.natAbs * Int.gcd x y := by rw [hx, hy, Int.gcd_mul_left]
    have e2 : g.natAbs = Int.gcd a b := by
      rw [hg]; unfold gcdI; split <;> simp
    rw [e2] at e1
    have : 0 < Int.gcd a b := Int.gcd_pos_of_ne_zero_right a h
    exact Nat.eq_of_mul_eq_mul_left this (by rw [← e1]; omega)
  unfold mkN
  rw [← hg]
  by_cases hc : b = g
  · rw [if_pos hc, fa]
    refine ⟨trivial, ?_⟩
    show x * b = a * 1
    rw [hx, hc]; grind
  · rw [if_neg hc, fa, fb]
    refine ⟨⟨?_, hgg⟩, ?_⟩
    · have : y ≠ 1 := fun e => hc (by rw [hy, e, Int.mul_one])
      omega
    · show x * b = a * y
      rw [hx, hy]; grind
end AS
namespace AS
open PySem PySem.Spec PyProof.Rows L2
/-! ### defs as the top has left them -/
structure DefAt (K : PySem.W.Frag) (x : Str) (st : Stmt) : Prop where
  ex : ∃ (f : Addr) (fd : FuncData), PySem.W.nsIn K mainGlobals x = some (some (.ref f)) ∧ Fun K x x st f fd
theorem defAt_mk {K : PySem.W.Frag} {x : Str} {st : Stmt} {f : Addr} {oc : Value} {od an : Option Addr} {osl : Array (Option Value)} {kV doc pm cdv ct : Value} (a : PySem.W.nsIn K mainGlobals x = some (some (.ref f)))
    (l : K.lookup f = some ⟨oc, od, .func (PySem.W.fnOf x x (defArgs st) (defBody st) (defScope st) .none kV doc pm an cdv ct), osl⟩) (c : PySem.W.codeIn K cdv x = true) (k : PySem.W.keepIn K (.ref f) = true) : DefAt K x st := ⟨⟨f, _, a, fun_mk l c k⟩⟩
theorem vals_uncons {vs : List V} {us : List Value} {n : Nat} (r : Vals vs us) (h : us.length = n + 1) : ∃ v vs' u us', RelV v u ∧ Vals vs' us' ∧ vs = v :: vs' ∧ us = u :: us' := by
  cases r with
  | nil => cases h
  | cons a b => exact ⟨_, _, _, _, a, b, rfl, rfl⟩
theorem vals_unnil {vs : List V} {us : List Value} (r : Vals vs us) (h : us.length = 0) : vs = [] ∧ us = [] := by
  cases r with
  | nil => exact ⟨rfl, rfl⟩
  | cons a b => cases h

/-! ### what is kept -/
/-- all that was tracked is as it was -/
structure Sm (H H' : Hp) : Prop where
  at' : ∀ b o, H b = some o → H' b = some o
theorem Sm.refl (H : Hp) : Sm H H := ⟨fun _ _ h => h⟩
theorem Sm.trans {H H1 H2 : Hp} (a : Sm H H1) (b : Sm H1 H2) : Sm H H2 := ⟨fun c o h => b.at' c o (a.at' c o h)⟩
theorem Sm.new {H H1 : Hp} {q : Addr} {o : HO} (a : Sm H H1) (h : H1 q = none) : Sm H (upd H1 q o) := ⟨fun b u e => by
  have e1 := a.at' b u e
  rw [upd_ne (ne_of_none e1 h)]
  exact e1⟩
theorem Sm.at {H H' : Hp} {b : Addr} {o : HO} (a : Sm H H') (h : H b = some o) : H' b = some o := a.at' b o h
theorem Sm.free {H H' : Hp} {b : Addr} (a : Sm H H') (h : H' b = none) : H b = none := by
  cases e : H b with
  | none => rfl
  | some o => rw [a.at' b o e] at h; cases h
/-- all but the lists p and l -/
structure Kp (p l : Addr) (H H' : Hp) : Prop where
  at' : ∀ b o, H b = some o → b ≠ p → b ≠ l → H' b = some o
  nl : ∀ b o, H b = some o → (∀ xs, o ≠ .lst xs) → H' b = some o
theorem Kp.refl (p l : Addr) (H : Hp) : Kp p l H H := ⟨fun _ _ h _ _ => h, fun _ _ h _ => h⟩
theorem Kp.trans {p l : Addr} {H H1 H2 : Hp} (a : Kp p l H H1) (b : Kp p l H1 H2) : Kp p l H H2 := ⟨fun c o h h1 h2 => b.at' c o (a.at' c o h h1 h2) h1 h2, fun c o h n => b.nl c o (a.nl c o h n) n⟩
theorem Sm.kp {p l : Addr} {H H' : Hp} (a : Sm H H') : Kp p l H H' := ⟨fun b o h _ _ => a.at' b o h, fun b o h _ => a.at' b o h⟩
theorem Kp.sm {p l : Addr} {H H1 H2 : Hp} (a : Kp p l H H1) (b : Sm H1 H2) : Kp p l H H2 := a.trans b.kp
theorem Kp.new {p l : Addr} {H H1 : Hp} {q : Addr} {o : HO} (a : Kp p l H H1) (h : H1 q = none) : Kp p l H (upd H1 q o) := a.sm ((Sm.refl H1).new h)
theorem Kp.at {p l : Addr} {H H' : Hp} {b : Addr} {o : HO} (a : Kp p l H H') (h : H b = some o) (h1 : b ≠ p) (h2 : b ≠ l) : H' b = some o := a.at' b o h h1 h2
theorem Kp.tup {p l : Addr} {H H' : Hp} {b : Addr} {xs : List V} (a : Kp p l H H') (h : H b = some (.tup xs)) : H' b = some (.tup xs) := a.nl b _ h fun _ e => by cases e
theorem Kp.dct {p l : Addr} {H H' : Hp} {b : Addr} {xs : List (Key × V)} (a : Kp p l H H') (h : H b = some (.dK xs)) : H' b = some (.dK xs) := a.nl b _ h fun _ e => by cases e

/-! ### the stock: at p the list [cells, stirred, count], its cells at l; at most c were taken -/
structure Stk (H : Hp) (p l : Addr) (c : Int) : Prop where
  ex : ∃ (s n : Int) (ns : List Int), H p = some (.lst [.ref l, .int s, .int n]) ∧ H l = some (.lst (ns.map V.int)) ∧ ns.length ≤ 61 ∧ 0 ≤ n ∧ n ≤ c
  ne : p ≠ l
theorem Stk.le {H : Hp} {p l : Addr} {c c' : Int} (h : Stk H p l c) (e : c ≤ c') : Stk H p l c' := by
  obtain ⟨⟨s, n, ns, h1, h2, h3, h4, h5⟩, ne⟩ := h
  exact ⟨⟨s, n, ns, h1, h2, h3, h4, Int.le_trans h5 e⟩, ne⟩
theorem Stk.sm {H H' : Hp} {p l : Addr} {c : Int} (h : Stk H p l c) (a : Sm H H') : Stk H' p l c := by
  obtain ⟨⟨s, n, ns, h1, h2, h3, h4, h5⟩, ne⟩ := h
  exact ⟨⟨s, n, ns, a.at h1, a.at h2, h3, h4, h5⟩, ne⟩
theorem Stk.new {H : Hp} {p l q : Addr} {c : Int} {o : HO} (h : Stk H p l c) (a : H q = none) : Stk (upd H q o) p l c := h.sm ((Sm.refl H).new a)
/-- a list that stands beside the stock is neither of its lists -/
theorem Stk.hp {H : Hp} {p l : Addr} {c : Int} (h : Stk H p l c) : ∃ xs, H p = some (.lst xs) := let ⟨⟨_, _, _, h1, _⟩, _⟩ := h; ⟨_, h1⟩
theorem Stk.hl {H : Hp} {p l : Addr} {c : Int} (h : Stk H p l c) : ∃ xs, H l = some (.lst xs) := let ⟨⟨_, _, _, _, h2, _⟩, _⟩ := h; ⟨_, h2⟩
theorem Stk.nep {H : Hp} {p l q : Addr} {c : Int} (h : Stk H p l c) (a : H q = none) : q ≠ p := fun e => by
  obtain ⟨xs, e1⟩ := h.hp
  rw [e, e1] at a
  cases a
theorem Stk.nel {H : Hp} {p l q : Addr} {c : Int} (h : Stk H p l c) (a : H q = none) : q ≠ l := fun e => by
  obtain ⟨xs, e1⟩ := h.hl
  rw [e, e1] at a
  cases a

theorem Kp.setp {p l : Addr} {H H1 : Hp} {xs : List V} (a : Kp p l H H1) (e : ∃ ys, H p = some (.lst ys)) : Kp p l H (upd H1 p (.lst xs)) := by
  refine ⟨fun b o h h1 h2 => by rw [upd_ne h1]; exact a.at' b o h h1 h2, fun b o h n => ?_⟩
  have : b ≠ p := fun z => by
    obtain ⟨ys, e⟩ := e
    rw [z, e] at h
    exact n ys (Option.some.inj h).symm
  rw [upd_ne this]
  exact a.nl b o h n
theorem Kp.setl {p l : Addr} {H H1 : Hp} {xs : List V} (a : Kp p l H H1) (e : ∃ ys, H l = some (.lst ys)) : Kp p l H (upd H1 l (.lst xs)) := by
  refine ⟨fun b o h h1 h2 => by rw [upd_ne h2]; exact a.at' b o h h1 h2, fun b o h n => ?_⟩
  have : b ≠ l := fun z => by
    obtain ⟨ys, e⟩ := e
    rw [z, e] at h
    exact n ys (Option.some.inj h).symm
  rw [upd_ne this]
  exact a.nl b o h n

/-! ### sizes -/
theorem bg {x : Int} (h1 : -(10 ^ 250) < x) (h2 : x < 10 ^ 250) : x.natAbs < 2 ^ 8000 := by
  have h : x.natAbs < 10 ^ 250 := by omega
  exact Nat.lt_of_lt_of_le h (by decide)
theorem len_ok {xs : List V} (h : xs.length ≤ 100000) : xs.length ≤ sizeLine := Nat.le_trans h (by decide)
theorem op_fdivP {X : Cx} : OpR X (binaryOp .FloorDiv) (rI (fun _ j => 0 < j ∧ j.natAbs < 2 ^ 8000) fun i j => .int (i / j)) := opI fun i j _ _ _ _ _ hc q =>
  floordiv_int (by omega) (by rw [Int.fdiv_eq_ediv_of_nonneg i (by omega)]; exact q) (.inl (PyProof.noPylong_of_log2 (Nat.lt_of_lt_of_le (PySem.Flt.log2_lt_of (by decide) hc.2) (by decide))))
theorem log_lt {i : Int} {n : Nat} (h : i.natAbs < 2 ^ n) (h0 : 0 < n) (h2 : n ≤ 1920) : i.natAbs.log2 < 1920 := Nat.lt_of_lt_of_le (PySem.Flt.log2_lt_of h0 h) h2

/-! ### data under what is kept -/
mutual
theorem Dq.sm {K : PySem.W.Frag} {H H' : Hp} (a : Sm H H') : ∀ {v : V} {d : PyData}, Dq K H v d → Dq K H' v d
  | _, _, .non => .non
  | _, _, .bl b => .bl b
  | _, _, .int i => .int i
  | _, _, .str x => .str x
  | _, _, .lst h t => .lst (a.at h) (DqL.sm a t)
  | _, _, .tup h t => .tup (a.at h) (DqL.sm a t)
  | _, _, .dct h t => .dct (a.at h) (DqL.sm a t)
theorem DqL.sm {K : PySem.W.Frag} {H H' : Hp} (a : Sm H H') : ∀ {vs : List V} {ds : List PyData}, DqL K H vs ds → DqL K H' vs ds
  | _, _, .nil => .nil
  | _, _, .cons h t => .cons (Dq.sm a h) (DqL.sm a t)
end
/-! ### types of data -/
def tyD : PyData → String
  | .none => "NoneType" | .bool _ => "bool" | .int _ => "int" | .str _ => "str" | .list _ => "list" | .tuple _ => "tuple" | .dict _ => "dict"
theorem Dq.ty {K : PySem.W.Frag} {H : Hp} {v : V} {d : PyData} (h : Dq K H v d) : TyX K H v (.type (tyD d)) := by
  cases h with
  | non => exact .base .non
  | bl b => exact .base (.bl b)
  | int i => exact .base (.int i)
  | str x => exact .base (.str x)
  | lst h _ => exact .base (.lst h)
  | tup h _ => exact .base (.tup h)
  | dct h _ => exact .base (.dK h)
def isIntD : PyData → Bool
  | .int _ => true
  | _ => false
def isBoolD : PyData → Bool
  | .bool _ => true
  | _ => false
def isTupD : PyData → Bool
  | .tuple _ => true
  | _ => false
def isStrD : PyData → Bool
  | .str _ => true
  | _ => false
def isListD : PyData → Bool
  | .list _ => true
  | _ => false
theorem kit_int (d : PyData) : kitB (tyD d) "int" = some (isIntD d || isBoolD d) := by cases d <;> (simp only [tyD, isIntD, isBoolD, isTupD, isStrD, isListD, Bool.or_false, Bool.false_or, Bool.or_self]; decide +kernel)
theorem kit_bool (d : PyData) : kitB (tyD d) "bool" = some (isBoolD d) := by cases d <;> (simp only [tyD, isIntD, isBoolD, isTupD, isStrD, isListD, Bool.or_false, Bool.false_or, Bool.or_self]; decide +kernel)
theorem kit_tuple (d : PyData) : kitB (tyD d) "tuple" = some (isTupD d) := by cases d <;> (simp only [tyD, isIntD, isBoolD, isTupD, isStrD, isListD, Bool.or_false, Bool.false_or, Bool.or_self]; decide +kernel)
theorem kit_str (d : PyData) : kitB (tyD d) "str" = some (isStrD d) := by cases d <;> (simp only [tyD, isIntD, isBoolD, isTupD, isStrD, isListD, Bool.or_false, Bool.false_or, Bool.or_self]; decide +kernel)
theorem kit_list (d : PyData) : kitB (tyD d) "list" = some (isListD d) := by cases d <;> (simp only [tyD, isIntD, isBoolD, isTupD, isStrD, isListD, Bool.or_false, Bool.false_or, Bool.or_self]; decide +kernel)
theorem if2 {c : Bool} {A B : Prop} (h1 : c = true → A) (h2 : c = false → B) : if c = true then A else B := by
  cases c with
  | true => exact h1 rfl
  | false => exact h2 rfl
theorem ifT {c : Bool} {A B : Prop} (h : c = true) (h1 : A) : if c = true then A else B := by rw [if_pos h]; exact h1
theorem ifF {c : Bool} {A B : Prop} (h : c = false) (h1 : B) : if c = true then A else B := by rw [if_neg (by rw [h]; exact Bool.false_ne_true)]; exact h1
theorem dI {i j : Int} : decide (V.int i = V.int j) = decide (i = j) := by
  by_cases e : i = j
  · subst e; simp
  · rw [decide_eq_false e, decide_eq_false fun z => e (V.int.inj z)]
theorem mono_cmp {r : R2} {i : Nat} {c : V} (hr : ∀ x H (Q Q' : VK), (∀ v H1, Q v H1 → Q' v H1) → r x c H Q → r x c H Q') : ∀ (σ : L2.St) (H : Hp) (Q Q' : Bool → Hp → Prop), (∀ b H1, Q b H1 → Q' b H1) → tTest (tOp r (tVar i) (tC c)) σ H Q → tTest (tOp r (tVar i) (tC c)) σ H Q' :=
  fun σ H Q Q' m h => let ⟨v, e, q⟩ := h; ⟨v, e, hr v H _ _ (fun _ _ ⟨k, e2, q2⟩ => ⟨k, e2, m _ _ q2⟩) q⟩
theorem mono_ne {i : Nat} {c : V} : ∀ (σ : L2.St) (H : Hp) (Q Q' : Bool → Hp → Prop), (∀ b H1, Q b H1 → Q' b H1) → tTest (tOp rNe (tVar i) (tC c)) σ H Q → tTest (tOp rNe (tVar i) (tC c)) σ H Q' :=
  mono_cmp fun _ _ _ _ m h => ⟨h.1, m _ _ h.2⟩
/-! ### loops whose words no step looks into -/
inductive Bx (P : Prop) : Prop
  | mk (h : P) : Bx P
  | no (h : False) : Bx P
theorem Bx.out {P : Prop} : Bx P → P
  | .mk h => h
  | .no h => h.elim
theorem while_bx {c : TT} {tb : TS} {D : Ends} {σ : L2.St} {H : Hp} (Pv : L2.St → Hp → Prop) (μ : L2.St → Hp → Nat) (h0 : Pv σ H)
    (hs : ∀ σ H, Pv σ H → c σ H fun b H1 => if b = true then tb { D with nx := fun σ' H' => Bx (Pv σ' H' ∧ μ σ' H' < μ σ H), ct := fun σ' H' => Bx (Pv σ' H' ∧ μ σ' H' < μ σ H), bk := D.nx } σ H1 else D.nx σ H1)
    (mono : ∀ σ H Q Q', (∀ b H1, Q b H1 → Q' b H1) → c σ H Q → c σ H Q') : tWhile c tb D σ H := by
  refine ⟨fun m σ H => m = μ σ H ∧ Pv σ H, ⟨_, rfl, h0⟩, ?_⟩
  rintro m σ H ⟨rfl, p⟩
  refine mono σ H _ _ (fun b H1 q => ?_) (hs σ H p)
  cases b with
  | true => exact ⟨_, fun σ' H' h => ⟨_, h.out.2, rfl, h.out.1⟩, q⟩
  | false => exact q
theorem range_bx {lo : Int} {n : Nat} {g : TG} {tb : TS} {D : Ends} {σ : L2.St} {H : Hp} (Pv : Nat → L2.St → Hp → Prop) (h0 : Pv 0 σ H)
    (hs : ∀ i σ H, i < n → Pv i σ H → g (.int (lo + i)) σ H fun σ2 H2 => tb { D with nx := fun σ' H' => Bx (Pv (i + 1) σ' H'), ct := fun σ' H' => Bx (Pv (i + 1) σ' H'), bk := D.nx } σ2 H2) (hd : ∀ σ H, Pv n σ H → D.nx σ H) :
    ∃ W : Nat → Nat → L2.St → Hp → Prop, (∃ m, W 0 m σ H) ∧ ∀ i m σ H, W i m σ H →
      ((Itr lo n).stop i H ∧ D.nx σ H) ∨ ((Itr lo n).go i H ∧ ∃ N : L2.St → Hp → Prop, (∀ σ' H', N σ' H' → ∃ m', m' < m ∧ W (i + 1) m' σ' H') ∧ ∀ x H', (Itr lo n).yld i H x H' → g x σ H' fun σ2 H2 => tb { D with nx := N, ct := N, bk := D.nx } σ2 H2) :=
  for_range (lo := lo) (n := n) (D := D) (fun i σ H => Bx (Pv i σ H)) (.mk h0) (fun i σ H hi p => hs i σ H hi p.out) fun σ H p => hd σ H p.out
theorem list_bx {K : PySem.W.Frag} {a : Addr} {xs : List V} {g : TG} {tb : TS} {D : Ends} {σ : L2.St} {H : Hp} (Pv : Nat → L2.St → Hp → Prop) (h0 : Pv 0 σ H) (hl : ∀ i σ H, i ≤ xs.length → Pv i σ H → SqL K H a xs)
    (hs : ∀ i x σ H, xs[i]? = some x → Pv i σ H → g x σ H fun σ2 H2 => tb { D with nx := fun σ' H' => Bx (Pv (i + 1) σ' H'), ct := fun σ' H' => Bx (Pv (i + 1) σ' H'), bk := D.nx } σ2 H2) (hd : ∀ σ H, Pv xs.length σ H → D.nx σ H) :
    ∃ W : Nat → Nat → L2.St → Hp → Prop, (∃ m, W 0 m σ H) ∧ ∀ i m σ H, W i m σ H →
      ((Itl K a).stop i H ∧ D.nx σ H) ∨ ((Itl K a).go i H ∧ ∃ N : L2.St → Hp → Prop, (∀ σ' H', N σ' H' → ∃ m', m' < m ∧ W (i + 1) m' σ' H') ∧ ∀ x H', (Itl K a).yld i H x H' → g x σ H' fun σ2 H2 => tb { D with nx := N, ct := N, bk := D.nx } σ2 H2) :=
  for_list (K := K) (a := a) (xs := xs) (D := D) (fun i σ H => Bx (Pv i σ H)) (.mk h0) (fun i σ H hi p => hl i σ H hi p.out) (fun i x σ H hx p => hs i x σ H hx p.out) fun σ H p => hd σ H p.out
/-! ### new objects: the heap behind is a letter -/
/-- a new object o: its address and the heap behind are told -/
def New (H : Hp) (o : HO) (Q : VK) : Prop := ∀ (p : Addr) (H1 : Hp), H p = none → Sm H H1 → H1 p = some o → Q (.ref p) H1
theorem newI {H : Hp} {o : HO} {Q : VK} (h : ∀ (p : Addr) (H1 : Hp), H p = none → Sm H H1 → H1 p = some o → Q (.ref p) H1) : New H o Q := h
theorem New.go {H : Hp} {o : HO} {Q : VK} (h : New H o Q) (p : Addr) (n : H p = none) : Q (.ref p) (upd H p o) := h p _ n ((Sm.refl H).new n) upd_same
/-- a reading, closed under what is wanted more -/
def ClA (t : TA) : TA := fun σ H R => ∃ Q, t σ H Q ∧ ∀ vs H1, Q vs H1 → R vs H1
def ClE (t : TE) : TE := fun σ H R => ∃ Q, t σ H Q ∧ ∀ v H1, Q v H1 → R v H1
section
variable {X : Cx} {e : Expr} {es : List Expr} {t : TA} {te te' : TE} {pos : Pos}
theorem _root_.L2.PA.cl (h : PA X es t) : PA X es (ClA t) := ⟨fun pos pins s σ H R I ⟨Q, q, m⟩ => thn (h.run pos pins s σ H Q I q) fun us s1 ⟨vs, H1, I1, r1, q1⟩ => ⟨vs, H1, I1, r1, m vs H1 q1⟩⟩
theorem _root_.L2.PE.cl (h : PE X e te) : PE X e (ClE te) := ⟨fun pins s σ H R I ⟨Q, q, m⟩ => thn (h.run pins s σ H Q I q) fun u s1 ⟨v, H1, I1, r1, q1⟩ => ⟨v, H1, I1, r1, m v H1 q1⟩⟩
theorem _root_.L2.PE.of (h : PE X e te) (m : ∀ σ H Q, te' σ H Q → te σ H Q) : PE X e te' := ⟨fun pins s σ H Q I q => h.run pins s σ H Q I (m σ H Q q)⟩
theorem OpR.of {f : Value → Value → Sem Value} {r r' : R2} (h : OpR X f r) (m : ∀ x y H Q, r' x y H Q → r x y H Q) : OpR X f r' := fun pins s σ H x y v u Q I rx ry q => h pins s σ H x y v u Q I rx ry (m x y H Q q)
theorem CallR.of {f : Value} {r r' : List V → Hp → VK → Prop} (h : CallR X f r) (m : ∀ xs H Q, r' xs H Q → r xs H Q) : CallR X f r' := fun pins s σ H xs us Q I rx q => h pins s σ H xs us Q I rx (m xs H Q q)
theorem SlR.of {r r' : V → Option Int → Option Int → Hp → VK → Prop} (h : SlR X r) (m : ∀ x l u H Q, r' x l u H Q → r x l u H Q) : SlR X r' := fun pins s σ H x v vl vu lo hi sl Q I rx a b c q => h pins s σ H x v vl vu lo hi sl Q I rx a b c (m x lo hi H Q q)
def tTupS (t : TA) : TE := fun σ H Q => t σ H fun xs H1 => xs.length ≤ sizeLine ∧ New H1 (.tup xs) Q
def tLstS (t : TA) : TE := fun σ H Q => t σ H fun xs H1 => xs.length ≤ sizeLine ∧ New H1 (.lst xs) Q
theorem pe_tupS {x1} (h : PA X es t) : PE X (.Tuple es x1 pos) (tTupS t) := (pe_tup h.cl).of fun _ _ _ q => ⟨_, q, fun _ _ ⟨z, n⟩ => ⟨z, n.go⟩⟩
theorem pe_lstS (h : PA X es t) : PE X (.List es pos) (tLstS t) := (pe_lst h.cl).of fun _ _ _ q => ⟨_, q, fun _ _ ⟨z, n⟩ => ⟨z, n.go⟩⟩
def tDNewS : TE := fun _ H Q => True ∧ New H (.dK []) Q
theorem pe_dnewS : PE X (.Dict [] [] pos) tDNewS := pe_dnewK.of fun _ _ _ q => q.2.go
def tRevS (K : PySem.W.Frag) (te : TE) : TE := fun σ H Q => te σ H fun x H1 => ∃ a xs, x = .ref a ∧ SqL K H1 a xs ∧ New H1 (.lst xs.reverse) Q
theorem pe_revS {k : Nat} {p1 p2 p3 : Pos} (he : PE X e te) : PE X (.Subscript e (.Slice none none (some (.UnaryOp .USub (.Constant (.int 1) k p1) p2)) p3) pos) (tRevS X.K te) :=
  (pe_revL he.cl).of fun _ _ _ q => ⟨_, q, fun _ _ ⟨a, xs, e, s, n⟩ => ⟨a, xs, e, s, n.go⟩⟩
def rSlLS (K : PySem.W.Frag) : V → Option Int → Option Int → Hp → VK → Prop := fun x lo hi H Q => ∃ a xs, x = .ref a ∧ SqL K H a xs ∧ New H (.lst (cutV xs lo hi)) Q
theorem sl_listS : SlR X (rSlLS X.K) := SlR.of sl_list fun _ _ _ _ _ ⟨a, xs, e, s, n⟩ => ⟨a, xs, e, s, n.go⟩
theorem call_list_ofS : CallR X (.type "list") (fun xs H Q => ∃ p ys, xs = [.ref p] ∧ (SqL X.K H p ys ∨ SqT X.K H p ys) ∧ New H (.lst ys) Q) := CallR.of call_list_of fun _ _ _ ⟨p, ys, e, s, n⟩ => ⟨p, ys, e, s, n.go⟩
def rCatS : R2 := fun x y H Q => ∃ l b xs zs, x = .ref l ∧ y = .ref b ∧ H l = some (.lst xs) ∧ H b = some (.lst zs) ∧ xs.length + zs.length ≤ sizeLine ∧ New H (.lst (xs ++ zs)) Q
theorem op_catS : OpR X (binaryOp .Add) rCatS := OpR.of op_cat fun _ _ _ _ ⟨l, b, xs, zs, e1, e2, h1, h2, z, n⟩ => ⟨l, b, xs, zs, e1, e2, h1, h2, z, n.go⟩
end
/-! ### rules that name the written part, with its name told (blocks have the same) -/
section
variable {X : Cx} (K : PySem.W.Frag) {e : Expr} {te : TE} {tg : Expr}
theorem kc_isi (h : X.K = K := by rfl) : CallR X (.builtin "isinstance") (rIsi K) := h ▸ call_isi
theorem kc_isiT (h : X.K = K := by rfl) : CallR X (.builtin "isinstance") (rIsiT K) := h ▸ call_isiT
theorem kc_repr {k : Nat} (hr : RmG k X.A) (hB : ∃ o, X.base.get? sysModules = some o) (h : X.K = K := by rfl) : CallR X (.builtin "repr") (rRepr K) := h ▸ call_reprG hr hB
def rLenK (K : PySem.W.Frag) : List V → Hp → VK → Prop := fun xs H Q => ∃ x n, xs = [x] ∧ LenV K x H n ∧ Q (.int n) H
theorem kc_len (h : X.K = K := by rfl) : CallR X (.builtin "len") (rLenK K) := h ▸ call_len
def rListK (K : PySem.W.Frag) : List V → Hp → VK → Prop := fun xs H Q => ∃ p ys, xs = [.ref p] ∧ (SqL K H p ys ∨ SqT K H p ys) ∧ New H (.lst ys) Q
theorem kc_list (h : X.K = K := by rfl) : CallR X (.type "list") (rListK K) := h ▸ call_list_ofS
theorem kx_seq (h : X.K = K := by rfl) : IxR X (rIx K) := h ▸ ix_seq
theorem ks_list (h : X.K = K := by rfl) : SlR X (rSlLS K) := h ▸ sl_listS
theorem ko_eqD (hu : X.A.units + 64 < cLine) (h : X.K = K := by rfl) : OpR X (compareOp .Eq) (rEqD K) := h ▸ op_eqD hu
theorem ko_neD (hu : X.A.units + 64 < cLine) (h : X.K = K := by rfl) : OpR X (compareOp .NotEq) (rNeD K) := h ▸ op_neD hu
theorem ko_in (h : X.K = K := by rfl) : OpR X (compareOp .In) (rIn K false) := h ▸ op_in_seq
theorem ko_nin (h : X.K = K := by rfl) : OpR X (compareOp .NotIn) (rIn K true) := h ▸ op_notIn_seq
theorem kp_list (hl : PE X e te) (h : X.K = K := by rfl) : PI X tg e (iList K te) := h ▸ pi_list hl
theorem kp_tup (hl : PE X e te) (h : X.K = K := by rfl) : PI X tg e (iTup K te) := h ▸ pi_tup hl
theorem kp_revS {k : Nat} {p1 p2 p3 pos : Pos} (he : PE X e te) (h : X.K = K := by rfl) : PE X (.Subscript e (.Slice none none (some (.UnaryOp .USub (.Constant (.int 1) k p1) p2)) p3) pos) (tRevS K te) := h ▸ pe_revS he
end
/-- xs[i] at an open place that lies in it -/
theorem rIx_l {K : PySem.W.Frag} {H : Hp} {q : Addr} {xs : List V} {i : Int} {Q : VK} (h : H q = some (.lst xs)) (h0 : 0 ≤ i) (h1 : i < xs.length) (k : ∀ v, v ∈ xs → xs[i.toNat]? = some v → Q v H) : rIx K (.ref q) (.int i) H Q := by
  obtain ⟨j, rfl⟩ := Int.eq_ofNat_of_zero_le h0
  have hj : j < xs.length := by omega
  refine .inl ⟨q, xs, j, xs[j], rfl, rfl, SqL.of h, ?_, k _ (List.getElem_mem hj) (by simp)⟩
  unfold atI ixN
  rw [if_pos (by omega), if_pos (by omega)]
  simp
end AS
/-! T0: texts of data: length, signs, what they tell. -/
namespace AS
open PySem
open PyProof.Rows hiding St
/-! ### how long a text is at most -/
mutual
def lenD : PyData → Nat
  | .none => 4
  | .bool _ => 5
  | .int i => i.natAbs.log2 + 2
  | .str x => (reprText x).length
  | .list xs => 2 + lenL xs
  | .tuple xs => 3 + lenL xs
  | .dict kvs => 2 + lenK kvs
def lenL : List PyData → Nat
  | [] => 0
  | x :: xs => lenD x + 2 + lenL xs
def lenK : List (PyData × PyData) → Nat
  | [] => 0
  | (k, v) :: r => lenD k + lenD v + 4 + lenK r
end
theorem join_len : ∀ ts : List Str, (Str.join ", " ts).length ≤ (ts.map fun t => t.length + 2).sum
  | [] => Nat.zero_le _
  | [x] => by show x.length ≤ _; simp
  | x :: y :: r => by
    show (x ++ ", " ++ Str.join ", " (y :: r)).length ≤ _
    have := join_len (y :: r)
    rw [strLen_append, strLen_append, List.map_cons, List.sum_cons]
    have e : ((", " : String) : Str).length = 2 := rfl
    omega
mutual
theorem shown_len : ∀ d : PyData, d.shown.length ≤ lenD d
  | .none => by rw [PyData.shown_none, lenD]; decide +kernel
  | .bool b => by rw [PyData.shown_bool, lenD]; cases b <;> decide +kernel
  | .int i => by
    rw [PyData.shown_int, lenD]
    have h := int_text_length_le (a := i) (k := i.natAbs.log2 + 1) (by omega) (by omega)
    rw [PySem.ofString_length]
    exact h
  | .str x => by rw [PyData.shown_str, lenD]; exact Nat.le_refl _
  | .list xs => by
    rw [PyData.shown_list, lenD, strLen_append, strLen_append]
    have h1 := join_len (PyData.shownAll xs)
    have h2 := shown_lenL xs
    have e1 : (("[" : String) : Str).length = 1 := rfl
    have e2 : (("]" : String) : Str).length = 1 := rfl
    omega
  | .tuple xs => by
    rw [PyData.shown_tuple, lenD, strLen_append, strLen_append]
    have h1 := join_len (PyData.shownAll xs)
    have h2 := shown_lenL xs
    have e1 : (("(" : String) : Str).length = 1 := rfl
    have e2 : (((if xs.length == 1 then ",)" else ")" : String) : Str)).length ≤ 2 := by split <;> decide +kernel
    omega
  | .dict kvs => by
    rw [PyData.shown_dict, lenD, strLen_append, strLen_append]
    have h1 := join_len (PyData.shownKv kvs)
    have h2 := shown_lenK kvs
    have e1 : (("{" : String) : Str).length = 1 := rfl
    have e2 : (("}" : String) : Str).length = 1 := rfl
    omega
theorem shown_lenL : ∀ xs : List PyData, ((PyData.shownAll xs).map fun t => t.length + 2).sum ≤ lenL xs
  | [] => by rw [PyData.shownAll_nil, lenL]; exact Nat.le_refl _
  | x :: xs => by
    rw [PyData.shownAll_cons, lenL, List.map_cons, List.sum_cons]
    have h1 := shown_len x
    have h2 := shown_lenL xs
    omega
theorem shown_lenK : ∀ xs : List (PyData × PyData), ((PyData.shownKv xs).map fun t => t.length + 2).sum ≤ lenK xs
  | [] => by rw [PyData.shownKv_nil, lenK]; exact Nat.le_refl _
  | (k, v) :: xs => by
    rw [PyData.shownKv_cons, lenK, List.map_cons, List.sum_cons, strLen_append, strLen_append]
    have h1 := shown_len k
    have h2 := shown_len v
    have h3 := shown_lenK xs
    have e1 : ((": " : String) : Str).length = 2 := rfl
    omega
end
/-! ### its signs are signs -/
mutual
def okD : PyData → Bool
  | .none | .bool _ | .int _ => true
  | .str x => PyData.strOk (reprText x)
  | .list xs | .tuple xs => okL xs
  | .dict kvs => okK kvs
def okL : List PyData → Bool
  | [] => true
  | x :: xs => okD x && okL xs
def okK : List (PyData × PyData) → Bool
  | [] => true
  | (k, v) :: r => okD k && okD v && okK r
end
theorem strOk_app {a b : Str} (h1 : PyData.strOk a = true) (h2 : PyData.strOk b = true) : PyData.strOk (a ++ b) = true := by
  show (a.cps ++ b.cps).all _ = true
  rw [Array.all_append]
  exact Bool.and_eq_true_iff.mpr ⟨h1, h2⟩
theorem strOk_join {ts : List Str} (h : ∀ t ∈ ts, PyData.strOk t = true) : PyData.strOk (Str.join ", " ts) = true := by
  induction ts with
  | nil => decide +kernel
  | cons x r ih =>
    cases r with
    | nil => exact h x List.mem_cons_self
    | cons y r =>
      show PyData.strOk (x ++ ", " ++ Str.join ", " (y :: r)) = true
      exact strOk_app (strOk_app (h x List.mem_cons_self) (by decide +kernel)) (ih fun t ht => h t (List.mem_cons_of_mem _ ht))
theorem strOk_int (i : Int) : PyData.strOk ((toString i : String) : Str) = true := by
  unfold PyData.strOk
  rw [Array.all_eq_true']
  intro c hc
  have h := int_text_free' c
  by_cases hk : c ≠ 45 ∧ (c < 48 ∨ 57 < c)
  · exact absurd (by simpa using hc) (h hk i)
  · simp only [decide_eq_true_eq]
    omega
mutual
theorem strOk_shown : ∀ d : PyData, okD d = true → PyData.strOk d.shown = true
  | .none, _ => by rw [PyData.shown_none]; decide +kernel
  | .bool b, _ => by rw [PyData.shown_bool]; cases b <;> decide +kernel
  | .int i, _ => by rw [PyData.shown_int]; exact strOk_int i
  | .str x, h => by rw [PyData.shown_str]; simpa [okD] using h
  | .list xs, h => by
    rw [PyData.shown_list]
    exact strOk_app (strOk_app (by decide +kernel) (strOk_join (strOk_shownL xs (by simpa [okD] using h)))) (by decide +kernel)
  | .tuple xs, h => by
    rw [PyData.shown_tuple]
    exact strOk_app (strOk_app (by decide +kernel) (strOk_join (strOk_shownL xs (by simpa [okD] using h)))) (by split <;> decide +kernel)
  | .dict kvs, h => by
    rw [PyData.shown_dict]
    exact strOk_app (strOk_app (by decide +kernel) (strOk_join (strOk_shownK kvs (by simpa [okD] using h)))) (by decide +kernel)
theorem strOk_shownL : ∀ xs : List PyData, okL xs = true → ∀ t ∈ PyData.shownAll xs, PyData.strOk t = true
  | [], _, t, ht => by rw [PyData.shownAll_nil] at ht; cases ht
  | x :: xs, h, t, ht => by
    rw [okL, Bool.and_eq_true] at h
    rw [PyData.shownAll_cons] at ht
    rcases List.mem_cons.mp ht with rfl | ht
    · exact strOk_shown x h.1
    · exact strOk_shownL xs h.2 t ht
theorem strOk_shownK : ∀ xs : List (PyData × PyData), okK xs = true → ∀ t ∈ PyData.shownKv xs, PyData.strOk t = true
  | [], _, t, ht => by rw [PyData.shownKv_nil] at ht; cases ht
  | (k, v) :: xs, h, t, ht => by
    rw [okK, Bool.and_eq_true, Bool.and_eq_true] at h
    rw [PyData.shownKv_cons] at ht
    rcases List.mem_cons.mp ht with rfl | ht
    · exact strOk_app (strOk_app (strOk_shown k h.1.1) (by decide +kernel)) (strOk_shown v h.1.2)
    · exact strOk_shownK xs h.2 t ht
end
/-! ### what texts of numbers tell -/
theorem signs_app (a b : Str) : (a ++ b).cps.toList = a.cps.toList ++ b.cps.toList := by
  show (a.cps ++ b.cps).toList = _
  rw [Array.toList_append]
theorem char_inj {a b : Char} (h : a.toNat = b.toNat) : a = b := Char.ext (UInt32.toNat_inj.mp h)
theorem map_char_inj : ∀ {a b : List Char}, a.map Char.toNat = b.map Char.toNat → a = b
  | [], [], _ => rfl
  | [], _ :: _, h => by cases h
  | _ :: _, [], h => by cases h
  | x :: a, y :: b, h => by
    rw [List.map_cons, List.map_cons] at h
    injection h with h1 h2
    rw [char_inj h1, map_char_inj h2]
theorem int_text_inj {a b : Int} (h : ((toString a : String) : Str) = ((toString b : String) : Str)) : a = b := by
  have h1 := congrArg (fun z : Str => z.cps.toList) h
  simp only [signs_ofString] at h1
  have h2 := map_char_inj h1
  have h3 : toString a = toString b := String.toList_inj.mp h2
  rw [Int.toString_eq_repr, Int.toString_eq_repr] at h3
  exact Int.repr_inj.mp h3
theorem split_at {k : Nat} : ∀ {xs ys as bs : List Nat}, k ∉ xs → k ∉ ys → xs ++ k :: as = ys ++ k :: bs → xs = ys ∧ as = bs
  | [], [], _, _, _, _, h => ⟨rfl, by injection h⟩
  | [], y :: ys, _, _, _, n, h => by
    injection h with h1 _
    exact absurd (by rw [h1]; exact List.mem_cons_self) n
  | x :: xs, [], _, _, n, _, h => by
    injection h with h1 _
    exact absurd (by rw [← h1]; exact List.mem_cons_self) n
  | x :: xs, y :: ys, as, bs, n1, n2, h => by
    injection h with h1 h2
    obtain ⟨e1, e2⟩ := split_at (fun z => n1 (List.mem_cons_of_mem _ z)) (fun z => n2 (List.mem_cons_of_mem _ z)) h2
    exact ⟨by rw [h1, e1], e2⟩
theorem nd_of_pair (a b : Int) : (PyData.tuple [.int a, .int b]).shown.cps.toList = 40 :: (((toString a : String) : Str).cps.toList ++ 44 :: 32 :: (((toString b : String) : Str).cps.toList ++ [41])) := by
  rw [PyData.shown_tuple, PyData.shownAll_cons, PyData.shownAll_cons, PyData.shownAll_nil, PyData.shown_int, PyData.shown_int]
  show ((("(" : String) : Str) ++ (((toString a : String) : Str) ++ ((", " : String) : Str) ++ ((toString b : String) : Str)) ++ ((")" : String) : Str)).cps.toList = _
  rw [signs_app, signs_app, signs_app, signs_app]
  have e1 : ((("(" : String) : Str)).cps.toList = [40] := by decide +kernel
  have e2 : (((")" : String) : Str)).cps.toList = [41] := by decide +kernel
  have e3 : (((", " : String) : Str)).cps.toList = [44, 32] := by decide +kernel
  rw [e1, e2, e3]
  simp
theorem pair_text_inj {a b c d : Int} (h : (PyData.tuple [.int a, .int b]).shown = (PyData.tuple [.int c, .int d]).shown) : a = c ∧ b = d := by
  have h1 := congrArg (fun z : Str => z.cps.toList) h
  simp only [nd_of_pair] at h1
  injection h1 with _ h2
  obtain ⟨e1, e2⟩ := split_at (int_text_free' 44 ⟨by decide, by decide⟩ a) (int_text_free' 44 ⟨by decide, by decide⟩ c) h2
  injection e2 with _ e3
  have e4 : ((toString b : String) : Str).cps.toList = ((toString d : String) : Str).cps.toList := List.append_cancel_right e3
  exact ⟨int_text_inj (ext_toList e1), int_text_inj (ext_toList e4)⟩
theorem int_pair_text {n a b : Int} (h : (PyData.int n).shown = (PyData.tuple [.int a, .int b]).shown) : False := by
  have h1 := congrArg (fun z : Str => z.cps.toList) h
  simp only [nd_of_pair, PyData.shown_int] at h1
  have h2 : 40 ∈ ((toString n : String) : Str).cps.toList := by rw [h1]; exact List.mem_cons_self
  exact int_text_free' 40 ⟨by decide, by decide⟩ n h2
end AS
/-! C1: comprehensions by what each item gives. -/
namespace AS
open PySem PySem.Spec L2
open PyProof.Rows hiding St
theorem Sm.mut {H H' : Hp} {D : Addr} {o : HO} (a : Sm H H') (n : H D = none) : Sm H (upd H' D o) := ⟨fun b u e => by
  rw [upd_ne (ne_of_none e n)]
  exact a.at' b u e⟩
theorem Kp.mut {p l : Addr} {H H' : Hp} {D : Addr} {o : HO} (a : Kp p l H H') (n : H D = none) : Kp p l H (upd H' D o) :=
  ⟨fun b u e h1 h2 => by rw [upd_ne (ne_of_none e n)]; exact a.at' b u e h1 h2, fun b u e h => by rw [upd_ne (ne_of_none e n)]; exact a.nl b u e h⟩
theorem Stk.mut {H : Hp} {p l D : Addr} {c : Int} {o : HO} (S : Stk H p l c) (h1 : D ≠ p) (h2 : D ≠ l) : Stk (upd H D o) p l c := by
  obtain ⟨⟨s, n, ns, e1, e2, e3, e4, e5⟩, ne⟩ := S
  exact ⟨⟨s, n, ns, by rw [upd_ne (Ne.symm h1)]; exact e1, by rw [upd_ne (Ne.symm h2)]; exact e2, e3, e4, e5⟩, ne⟩
/-- [e for x in xs], x in slot j, the list at D: Iv holds between the turns, each item x gives a y with Rel x y -/
structure LcW (te : TE) (ρ : L2.St) (j : Nat) (D : Addr) (xs : List V) (Iv : Nat → Hp → Prop) (Rel : V → V → Hp → Prop) : Prop where
  ins : ∀ i H' zs ys, Iv i H' → H' D = some (.lst zs) → Iv i (upd H' D (.lst ys))
  rel : ∀ x y H' zs ys, Rel x y H' → H' D = some (.lst zs) → Rel x y (upd H' D (.lst ys))
  turn : ∀ i x H' ys, xs[i]? = some x → Iv i H' → H' D = some (.lst ys) → te (ρ.set j (some x)) H' fun y H'' => Bx (Iv (i + 1) H'' ∧ H'' D = some (.lst ys) ∧ Rel x y H'' ∧ ∀ x' y', Rel x' y' H' → Rel x' y' H'')
section
variable {K : PySem.W.Frag} {te : TE} {σ : L2.St} {H1 : Hp} {D : Addr} {Qd : Hp → Prop} {j : Nat} {a : Addr} {xs : List V} {Iv : Nat → Hp → Prop} {Rel : V → V → Hp → Prop}
def LcP (D : Addr) (xs : List V) (Iv : Nat → Hp → Prop) (Rel : V → V → Hp → Prop) (i : Nat) (H' : Hp) : Prop := ∃ ys, Iv i H' ∧ H' D = some (.lst ys) ∧ Paired (fun x y => Rel x y H') (xs.take i) ys
theorem lc_start (h0 : Iv 0 (upd H1 D (.lst []))) : LcP D xs Iv Rel 0 (upd H1 D (.lst [])) := ⟨[], h0, upd_same, .nil⟩
theorem lc_step (W : LcW te (wipe σ [j]) j D xs Iv Rel) (hz : xs.length < 100000) (i : Nat) (x : V) (H' : Hp) (hx : xs[i]? = some x) (p : LcP D xs Iv Rel i H') :
    gName j x (wipe σ [j]) H' fun σ2 H2 => wipe σ2 [j] = wipe σ [j] ∧ tYes σ2 H2 fun b H3 => if b = true then ClE te σ2 H3 fun y H4 => ∃ acc, H4 D = some (.lst acc) ∧ acc.length < sizeLine ∧ LcP D xs Iv Rel (i + 1) (upd H4 D (.lst (acc ++ [y]))) else LcP D xs Iv Rel (i + 1) H3 := by
  obtain ⟨ys, iv, hD, hp⟩ := p
  refine ⟨?_, ?_⟩
  · show ((wipe σ []).set j none |>.set j (some x)).set j none = _
    rw [List.set_set, List.set_set]
    rfl
  · refine ⟨_, W.turn i x H' ys hx iv hD, fun y H4 hb => ?_⟩
    obtain ⟨iv4, hD4, r4, mono⟩ := hb.out
    have hl := hp.length
    have hil : i < xs.length := (List.getElem?_eq_some_iff.mp hx).1
    rw [List.length_take] at hl
    refine ⟨ys, hD4, Nat.lt_of_lt_of_le (show ys.length < 100000 by omega) (by decide), ys ++ [y], W.ins _ _ _ _ iv4 hD4, upd_same, ?_⟩
    rw [List.take_add_one, hx]
    exact (hp.mono fun u v r => W.rel _ _ _ _ _ (mono u v r) hD4).snoc (W.rel _ _ _ _ _ r4 hD4)
theorem lc_done (hd : ∀ ys H', Iv xs.length H' → H' D = some (.lst ys) → Paired (fun x y => Rel x y H') xs ys → Qd H') (H' : Hp) (p : LcP D xs Iv Rel xs.length H') : Qd H' := by
  obtain ⟨ys, iv, hD, hp⟩ := p
  rw [List.take_length] at hp
  exact hd ys H' iv hD hp
theorem lcT_bx (hs : ∀ i H', Iv i H' → SqT K H' a xs) (W : LcW te (wipe σ [j]) j D xs Iv Rel) (h0 : Iv 0 (upd H1 D (.lst []))) (hz : xs.length < 100000)
    (hd : ∀ ys H', Iv xs.length H' → H' D = some (.lst ys) → Paired (fun x y => Rel x y H') xs ys → Qd H') :
    ∃ W : Nat → Nat → Hp → Prop, (∃ m, W 0 m (upd H1 D (.lst []))) ∧ ∀ i m H, W i m H →
      ((Itt K a).stop i H ∧ Qd H) ∨ ((Itt K a).go i H ∧ ∃ Nx : Hp → Prop, (∀ H', Nx H' → ∃ m', m' < m ∧ W (i + 1) m' H') ∧ ∀ x H', (Itt K a).yld i H x H' → gName j x (wipe σ [j]) H' fun σ2 H2 => wipe σ2 [j] = wipe σ [j] ∧ tYes σ2 H2 fun b H3 =>
        if b = true then ClE te σ2 H3 fun y H4 => ∃ acc, H4 D = some (.lst acc) ∧ acc.length < sizeLine ∧ Nx (upd H4 D (.lst (acc ++ [y]))) else Nx H3) :=
  lc_tup (g := gName j) (tt := tYes) (te := ClE te) (vs := [j]) (xs := xs) (LcP D xs Iv Rel) (lc_start h0) (fun i H' _ ⟨_, iv, _⟩ => hs i H' iv) (fun i x H' hx p => lc_step W hz i x H' hx p) (lc_done hd)
theorem lcL_bx (hs : ∀ i H', Iv i H' → SqL K H' a xs) (W : LcW te (wipe σ [j]) j D xs Iv Rel) (h0 : Iv 0 (upd H1 D (.lst []))) (hz : xs.length < 100000)
    (hd : ∀ ys H', Iv xs.length H' → H' D = some (.lst ys) → Paired (fun x y => Rel x y H') xs ys → Qd H') :
    ∃ W : Nat → Nat → Hp → Prop, (∃ m, W 0 m (upd H1 D (.lst []))) ∧ ∀ i m H, W i m H →
      ((Itl K a).stop i H ∧ Qd H) ∨ ((Itl K a).go i H ∧ ∃ Nx : Hp → Prop, (∀ H', Nx H' → ∃ m', m' < m ∧ W (i + 1) m' H') ∧ ∀ x H', (Itl K a).yld i H x H' → gName j x (wipe σ [j]) H' fun σ2 H2 => wipe σ2 [j] = wipe σ [j] ∧ tYes σ2 H2 fun b H3 =>
        if b = true then ClE te σ2 H3 fun y H4 => ∃ acc, H4 D = some (.lst acc) ∧ acc.length < sizeLine ∧ Nx (upd H4 D (.lst (acc ++ [y]))) else Nx H3) :=
  lc_list (g := gName j) (tt := tYes) (te := ClE te) (vs := [j]) (xs := xs) (LcP D xs Iv Rel) (lc_start h0) (fun i H' _ ⟨_, iv, _⟩ => hs i H' iv) (fun i x H' hx p => lc_step W hz i x H' hx p) (lc_done hd)
def rngV (n : Nat) : List V := (List.range n).map fun i : Nat => V.int (i : Int)
theorem lcR_bx {n : Nat} (W : LcW te (wipe σ [j]) j D (rngV n) Iv Rel) (h0 : Iv 0 (upd H1 D (.lst []))) (hz : n < 100000)
    (hd : ∀ ys H', Iv n H' → H' D = some (.lst ys) → Paired (fun x y => Rel x y H') (rngV n) ys → Qd H') :
    ∃ W : Nat → Nat → Hp → Prop, (∃ m, W 0 m (upd H1 D (.lst []))) ∧ ∀ i m H, W i m H →
      ((Itr 0 n).stop i H ∧ Qd H) ∨ ((Itr 0 n).go i H ∧ ∃ Nx : Hp → Prop, (∀ H', Nx H' → ∃ m', m' < m ∧ W (i + 1) m' H') ∧ ∀ x H', (Itr 0 n).yld i H x H' → gName j x (wipe σ [j]) H' fun σ2 H2 => wipe σ2 [j] = wipe σ [j] ∧ tYes σ2 H2 fun b H3 =>
        if b = true then ClE te σ2 H3 fun y H4 => ∃ acc, H4 D = some (.lst acc) ∧ acc.length < sizeLine ∧ Nx (upd H4 D (.lst (acc ++ [y]))) else Nx H3) := by
  have hl : (rngV n).length = n := by simp [rngV]
  refine lc_range (lo := 0) (g := gName j) (tt := tYes) (te := ClE te) (vs := [j]) (LcP D (rngV n) Iv Rel) (lc_start h0) (fun i H' hi p => ?_) fun H' p => ?_
  · have e : (0 : Int) + (i : Int) = (i : Int) := Int.zero_add _
    rw [e]
    exact lc_step W (by omega) i _ H' (by simp [rngV, hi]) p
  · exact lc_done (xs := rngV n) (fun ys H' iv => hd ys H' (by rw [hl] at iv; exact iv)) H' (by rw [hl]; exact p)
end
/-! ### xs.count(True) of bools -/
def isB (k : Bool) : Value → Bool
  | .bool b => b == k
  | _ => false
theorem isB_vals {k : Bool} : ∀ {bs : List Bool} {us : List Value}, Vals (bs.map V.bl) us → (∀ y ∈ us, ∃ b, y = Value.bool b) ∧ us.countP (isB k) = bs.count k
  | [], _, .nil => ⟨by simp, rfl⟩
  | b :: bs, _, .cons r t => by
    obtain ⟨h1, h2⟩ := isB_vals (k := k) t
    obtain rfl : _ = Value.bool b := r
    refine ⟨fun y hy => (List.mem_cons.mp hy).elim (fun e => ⟨b, e⟩) (h1 y), ?_⟩
    rw [List.countP_cons, List.count_cons, h2]
    rfl
def rCntB (K : PySem.W.Frag) : V → List V → Hp → VK → Prop := fun x xs H Q => ∃ (p : Addr) (bs : List Bool) (k : Bool), x = .ref p ∧ xs = [.bl k] ∧ SqL K H p (bs.map V.bl) ∧ Q (.int (bs.count k : Nat)) H
theorem mt_countB {X : Cx} (K : PySem.W.Frag) (hK : X.K = K := by rfl) : MtR X "list.count" (rCntB K) := by
  subst hK
  intro pins s σ H x xs v us Q I rx rxs h
  obtain ⟨p, bs, k, rfl, rfl, hs, q⟩ := h
  cases rx
  obtain ⟨u, rfl, ru⟩ := rxs.one
  obtain rfl : u = Value.bool k := ru
  obtain ⟨its, rv, ⟨⟨cls, dd, data, sl⟩, n, ho, hc, hdn, hd⟩, hlen⟩ := I.list hs
  simp only at hc hd
  subst hc hd
  obtain ⟨hb, hcnt⟩ := isB_vals (k := k) rv
  refine call_meets PySem.F.slot_list_count ⟨_, ho, rfl⟩ PySem.F.entry_list_count (PySem.F.args_list_count_2 _ _) (SeqAt.list_countAt p its.toArray n dd sl (.bool k) (isB k)) ⟨ho, fun y hy => ?_, .int (bs.count k : Nat), H, I.tok _, ⟨s.toks, ?_⟩, q⟩
  · obtain ⟨b, rfl⟩ := hb y (by simpa using hy)
    exact SeqAt.EqAt.bool_bool b k
  · show Value.int ((its.toArray.toList.countP (isB k) : Nat) : Int) s.toks = _
    rw [show its.toArray.toList.countP (isB k) = bs.count k from hcnt]
end AS
/-! N1: numbers as values, data whose texts can be told, values of the laws. -/
namespace AS
open PySem PySem.Spec L2
open PyProof.Rows hiding St
theorem gcdI_step {x y : Int} (h : y ≠ 0) : gcdI y (x.fmod y) = gcdI x y := by
  have e : Int.gcd y (x.fmod y) = Int.gcd x y := by
    have h1 : x.fmod y = x - y * x.fdiv y := by have := Int.mul_fdiv_add_fmod x y; omega
    rw [h1, Int.gcd_comm x y]
    have := Int.gcd_sub_mul_left_right y x (x.fdiv y)
    exact this
  unfold gcdI
  rw [e]
theorem fmod_less {x y : Int} (h : y ≠ 0) : (x.fmod y).natAbs < y.natAbs := by
  rcases Int.lt_or_gt_of_ne h with g | g
  · have e : x.fmod y = -((-x).fmod (-y)) := by rw [Int.neg_fmod_neg, Int.neg_neg]
    have h1 := Int.fmod_nonneg_of_pos (-x) (show 0 < -y by omega)
    have h2 := Int.fmod_lt_of_pos (-x) (show 0 < -y by omega)
    rw [e]
    omega
  · have h1 := Int.fmod_nonneg_of_pos x g
    have h2 := Int.fmod_lt_of_pos x g
    omega
theorem gcdI_zero (x : Int) : gcdI x 0 = if x < 0 then -x else x := by
  unfold gcdI
  rw [Int.gcd_zero_right]
  split <;> omega
/-- a number as a value -/
inductive NmAt (H : Hp) : V → Nm → Prop
  | i (n : Int) : NmAt H (.int n) (.i n)
  | f {t : Addr} {a b : Int} (h : H t = some (.tup [.int a, .int b])) : NmAt H (.ref t) (.f a b)
def Nm.d : Nm → PyData
  | .i n => .int n
  | .f a b => .tuple [.int a, .int b]
theorem NmAt.dq {K : PySem.W.Frag} {H : Hp} {v : V} {q : Nm} (h : NmAt H v q) : Dq K H v q.d := by
  cases h with
  | i n => exact .int n
  | f h => exact .tup h (.cons (.int _) (.cons (.int _) .nil))
theorem NmAt.sm {H H' : Hp} {v : V} {q : Nm} (h : NmAt H v q) (a : Sm H H') : NmAt H' v q := by
  cases h with
  | i n => exact .i n
  | f h => exact .f (a.at h)
theorem NmAt.kp {p l : Addr} {H H' : Hp} {v : V} {q : Nm} (h : NmAt H v q) (a : Kp p l H H') : NmAt H' v q := by
  cases h with
  | i n => exact .i n
  | f h => exact .f (a.tup h)
/-- a number whose integers lie below 10 ^ e -/
def Nm.Lt (q : Nm) (e : Nat) : Prop := q.t.natAbs < 10 ^ e ∧ q.b.natAbs < 10 ^ e
theorem bgN {x : Int} {e : Nat} (h : x.natAbs < 10 ^ e) (he : e ≤ 250) : x.natAbs < 2 ^ 8000 := Nat.lt_of_lt_of_le (Nat.lt_of_lt_of_le h (Nat.pow_le_pow_right (by decide) he)) (by decide)
/-- the divisor that makes a number of two integers -/
def dv (a b : Int) : Int := if b < 0 then -gcdI a b else gcdI a b
theorem mkN_dv (a b : Int) : mkN a b = if b = dv a b then .i (a.fdiv (dv a b)) else .f (a.fdiv (dv a b)) (b.fdiv (dv a b)) := rfl
theorem gcdI_pos {a b : Int} (h : b ≠ 0) : 0 < gcdI a b := by
  have := Int.gcd_pos_of_ne_zero_right a h
  unfold gcdI
  omega
theorem gcdI_le {a b : Int} (h : b ≠ 0) : (gcdI a b).natAbs ≤ b.natAbs := by
  have h1 : Int.gcd a b ∣ b.natAbs := Nat.gcd_dvd_right _ _
  have h2 : 0 < b.natAbs := by omega
  have := Nat.le_of_dvd h2 h1
  unfold gcdI
  omega
theorem dv_ok {a b : Int} (h : b ≠ 0) (z : b.natAbs < 2 ^ 8000) : CDivX a (dv a b) ∧ CDivX b (dv a b) := by
  have h1 := gcdI_pos (a := a) h
  have h2 := gcdI_le (a := a) h
  have h3 : dv a b ≠ 0 ∧ (dv a b).natAbs < 2 ^ 8000 := by
    refine ⟨?_, Nat.lt_of_le_of_lt ?_ z⟩
    · unfold dv
      split <;> omega
    · unfold dv
      split <;> omega
  exact ⟨h3, h3⟩
def isNumD : PyData → Bool
  | .int _ => true
  | .tuple [.int a, .int b] => decide (1 < b) && decide (gcdI a b = 1)
  | _ => false
theorem isNumD_no {d : PyData} (h : isTupD d = false) : isIntD d = isNumD d := by
  cases d <;> first | rfl | cases h
def Nm.lt (p q : Nm) : Bool := decide (p.t * q.b < q.t * p.b)
def bigC : Int := 10 ^ 15
theorem dqInts {K : PySem.W.Frag} {H : Hp} : ∀ ns : List Int, DpAll K H (ns.map V.int) (ns.map PyData.int)
  | [] => .nil
  | n :: ns => .cons (.int n) (dqInts ns)
theorem layInts : ∀ ns : List Int, PyData.canLayAll0 (ns.map PyData.int) = true
  | [] => by simp [PyData.canLayAll0]
  | n :: ns => by simp [PyData.canLayAll0, PyData.canLay0, layInts ns]
theorem depInts : ∀ ns : List Int, PyData.depthAll (ns.map PyData.int) ≤ 1
  | [] => by simp [PyData.depthAll]
  | n :: ns => by
    have := depInts ns
    simp [PyData.depthAll, PyData.depth]
    omega
theorem shInts (ns : List Int) : SeqAt.shaped (.list (ns.map PyData.int)) = true := by
  have h1 := layInts ns
  have h2 := depInts ns
  have h3 : (PyData.list (ns.map PyData.int)).depth ≤ 64 := by
    rw [PyData.depth]
    omega
  unfold SeqAt.shaped
  rw [Bool.and_eq_true]
  exact ⟨by rw [PyData.canLay0]; exact h1, decide_eq_true h3⟩
theorem eqv_lnil : ∀ ds : List PyData, PyData.eqv (.list ds) (.list []) = ds.isEmpty
  | [] => by simp [PyData.eqv, PyData.eqvAll]
  | d :: ds => by simp [PyData.eqv, PyData.eqvAll]
theorem cut_take (xs : List V) (n : Nat) : cutV xs none (some (n : Int)) = xs.take n := by
  unfold cutV
  rw [HT.sIx_none, HT.sIx_nat, List.drop_zero, Nat.sub_zero, ← List.take_take, List.take_length]
/-- a datum whose text can be told -/
structure Sh (d : PyData) : Prop where
  sh : d.showable = true
  dp : d.depth ≤ 30
  ln : lenD d ≤ 100000
  ok : okD d = true
theorem Sh.r {d : PyData} (h : Sh d) : d.showable = true ∧ d.depth ≤ 32 ∧ d.shown.length ≤ sizeLine := ⟨h.sh, Nat.le_trans h.dp (by decide), Nat.le_trans (shown_len d) (Nat.le_trans h.ln (by decide))⟩
theorem log_mono {a b : Nat} (h : a ≤ b) : a.log2 ≤ b.log2 := by
  by_cases h0 : a = 0
  · subst h0
    exact Nat.zero_le _
  · exact (Nat.le_log2 (by omega)).mpr (Nat.le_trans (Nat.log2_self_le h0) h)
theorem int_sh {i : Int} (h : i.natAbs < 2 ^ 1900) : i.natAbs.log2 < 1900 := PySem.Flt.log2_lt_of (by decide) h
theorem Sh.int {i : Int} (h : i.natAbs < 2 ^ 1900) : Sh (.int i) := by
  have z := int_sh h
  exact ⟨by simp [PyData.showable]; omega, by simp [PyData.depth], by rw [lenD]; omega, rfl⟩
theorem Sh.pair {a b : Int} (h1 : a.natAbs < 2 ^ 1900) (h2 : b.natAbs < 2 ^ 1900) : Sh (.tuple [.int a, .int b]) := by
  have z1 := int_sh h1
  have z2 := int_sh h2
  refine ⟨?_, ?_, ?_, rfl⟩
  · simp [PyData.showable, PyData.showableAll]; omega
  · simp [PyData.depth, PyData.depthAll]
  · rw [lenD, lenL, lenL, lenL, lenD, lenD]; omega
theorem fdiv_le {a g : Int} (h : g ∣ a) (g0 : g ≠ 0) : (a.fdiv g).natAbs ≤ a.natAbs := by
  obtain ⟨x, rfl⟩ := h
  rw [Int.mul_fdiv_cancel_left _ g0, Int.natAbs_mul]
  exact Nat.le_mul_of_pos_left _ (by omega)
theorem dv_dvd (a b : Int) : dv a b ∣ a ∧ dv a b ∣ b := by
  unfold dv gcdI
  split
  · exact ⟨Int.neg_dvd.mpr (Int.gcd_dvd_left ..), Int.neg_dvd.mpr (Int.gcd_dvd_right ..)⟩
  · exact ⟨Int.gcd_dvd_left .., Int.gcd_dvd_right ..⟩
theorem dv_ne {a b : Int} (h : b ≠ 0) : dv a b ≠ 0 := by
  have := gcdI_pos (a := a) h
  unfold dv
  split <;> omega
theorem Sh.mkN {a b : Int} (h : b ≠ 0) (h1 : a.natAbs < 2 ^ 1900) (h2 : b.natAbs < 2 ^ 1900) : Sh (mkN a b).d := by
  have e1 := fdiv_le (dv_dvd a b).1 (dv_ne h)
  have e2 := fdiv_le (dv_dvd a b).2 (dv_ne (a := a) h)
  rw [mkN_dv]
  split
  · exact Sh.int (Nat.lt_of_le_of_lt e1 h1)
  · exact Sh.pair (Nat.lt_of_le_of_lt e1 h1) (Nat.lt_of_le_of_lt e2 h2)
theorem num_text {a b : Int} (h : 1 < b) : decide (V.str (mkN a b).d.shown = V.str (PyData.tuple [.int a, .int b]).shown) = decide (gcdI a b = 1) := by
  have b0 : b ≠ 0 := by omega
  by_cases g : gcdI a b = 1
  · have e : dv a b = 1 := by unfold dv; rw [if_neg (by omega), g]
    rw [mkN_dv, e, if_neg (by omega), decide_eq_true g]
    simp [Nm.d]
  · rw [decide_eq_false g]
    refine decide_eq_false fun z => ?_
    have z' := V.str.inj z
    have g0 := gcdI_pos (a := a) b0
    have e : dv a b = gcdI a b := by unfold dv; rw [if_neg (by omega)]
    rw [mkN_dv, e] at z'
    split at z'
    · exact int_pair_text z'
    · obtain ⟨_, e2⟩ := pair_text_inj z'
      obtain ⟨x, hx⟩ := (dv_dvd a b).2
      rw [e] at hx
      obtain ⟨gg, hgg⟩ : ∃ gg, gg = gcdI a b := ⟨_, rfl⟩
      rw [← hgg] at hx e2 g0 g
      have e3 : b.fdiv gg = x := by rw [hx]; exact Int.mul_fdiv_cancel_left _ (by omega)
      rw [e3] at e2
      have h7 : gg * b = 1 * b := by rw [← e2]; omega
      exact g (Int.eq_of_mul_eq_mul_right b0 h7)
/-- the ints of a pair are not too large -/
def PairLt (d : PyData) : Prop := ∀ a b, d = .tuple [.int a, .int b] → a.natAbs < 2 ^ 1900 ∧ b.natAbs < 2 ^ 1900
theorem bgS {x : Int} (h1 : -(10 ^ 250) < x) (h2 : x < 10 ^ 250) : x.natAbs < 2 ^ 1900 := Nat.lt_of_lt_of_le (show x.natAbs < 10 ^ 250 by omega) (by decide)
/-- a value whose data can be told -/
def GoodV (K : PySem.W.Frag) (H : Hp) (v : V) : Prop := ∃ d, Dq K H v d ∧ Sh d ∧ PairLt d
theorem Sh.ints {l : List Int} (h : ∀ i ∈ l, i.natAbs < 2 ^ 1900) (hl : l.length ≤ 10) : PyData.showableAll (l.map .int) = true ∧ PyData.depthAll (l.map .int) ≤ 1 ∧ lenL (l.map .int) ≤ 1910 * l.length ∧ okL (l.map .int) = true := by
  clear hl
  induction l with
  | nil => exact ⟨by simp [PyData.showableAll], by simp [PyData.depthAll], by simp [lenL], by simp [okL]⟩
  | cons i l ih =>
    obtain ⟨h1, h2, h3, h4⟩ := ih fun j hj => h j (List.mem_cons_of_mem _ hj)
    have z := int_sh (h i List.mem_cons_self)
    refine ⟨?_, ?_, ?_, ?_⟩
    · simp [PyData.showableAll, PyData.showable, h1]; omega
    · simp [PyData.depthAll, PyData.depth]; omega
    · rw [List.map_cons, lenL, lenD, List.length_cons]; omega
    · simp [okL, okD, h4]
theorem Sh.tupI {l : List Int} (h : ∀ i ∈ l, i.natAbs < 2 ^ 1900) (hl : l.length ≤ 10) : Sh (.tuple (l.map .int)) := by
  obtain ⟨h1, h2, h3, h4⟩ := Sh.ints h hl
  exact ⟨by simpa [PyData.showable] using h1, by rw [PyData.depth]; omega, by rw [lenD]; omega, by simpa [okD] using h4⟩
theorem Sh.lstI {l : List Int} (h : ∀ i ∈ l, i.natAbs < 2 ^ 1900) (hl : l.length ≤ 10) : Sh (.list (l.map .int)) := by
  obtain ⟨h1, h2, h3, h4⟩ := Sh.ints h hl
  exact ⟨by simpa [PyData.showable] using h1, by rw [PyData.depth]; omega, by rw [lenD]; omega, by simpa [okD] using h4⟩
theorem dqlInts {K : PySem.W.Frag} {H : Hp} : ∀ ns : List Int, DqL K H (ns.map V.int) (ns.map PyData.int)
  | [] => .nil
  | n :: ns => .cons (.int n) (dqlInts ns)
theorem GoodV.int {K : PySem.W.Frag} {H : Hp} {i : Int} (h : i.natAbs < 2 ^ 1900) : GoodV K H (.int i) := ⟨_, .int i, Sh.int h, fun _ _ e => by cases e⟩
theorem GoodV.tup {K : PySem.W.Frag} {H : Hp} {q : Addr} (l : List Int) (hq : H q = some (.tup (l.map .int))) (hl : l.length ≤ 10) (h : ∀ i ∈ l, i.natAbs < 2 ^ 1900) : GoodV K H (.ref q) :=
  ⟨_, .tup hq (dqlInts l), Sh.tupI h hl, fun a b e => by
    have e' := PyData.tuple.inj e
    have e2 : l = [a, b] := by
      match l, e' with
      | [x, y], e' => simpa using e'
    subst e2
    exact ⟨h a (by simp), h b (by simp)⟩⟩
theorem GoodV.lst {K : PySem.W.Frag} {H : Hp} {q : Addr} (l : List Int) (hq : H q = some (.lst (l.map .int))) (hl : l.length ≤ 10) (h : ∀ i ∈ l, i.natAbs < 2 ^ 1900) : GoodV K H (.ref q) :=
  ⟨_, .lst hq (dqlInts l), Sh.lstI h hl, fun a b e => by cases e⟩

theorem GoodV.shut {K : PySem.W.Frag} {H : Hp} {v : V} (d : PyData) (h : Dq K H v d) (s : Sh d) (n : ∀ a b, d ≠ .tuple [.int a, .int b]) : GoodV K H v := ⟨d, h, s, fun a b e => absurd e (n a b)⟩
theorem absB {y : Int} (h0 : -(10 ^ 45) < y) (h1 : y < 10 ^ 45) : 0 ≤ (if y < 0 then -y else y) ∧ (if y < 0 then -y else y) < 10 ^ 45 := by
  split <;> omega
theorem in1 {P : Int → Prop} {a : Int} (h : P a) : ∀ i ∈ [a], P i := by simpa using h
theorem in2 {P : Int → Prop} {a b : Int} (h : P a) (h2 : P b) : ∀ i ∈ [a, b], P i := by simp [h, h2]
theorem in3 {P : Int → Prop} {a b c : Int} (h : P a) (h2 : P b) (h3 : P c) : ∀ i ∈ [a, b, c], P i := by simp [h, h2, h3]
theorem mkN_le {a b : Int} (h : b ≠ 0) : (mkN a b).t.natAbs ≤ a.natAbs ∧ (mkN a b).b.natAbs ≤ b.natAbs := by
  have e1 := fdiv_le (dv_dvd a b).1 (dv_ne h)
  have e2 := fdiv_le (dv_dvd a b).2 (dv_ne (a := a) h)
  rw [mkN_dv]
  split
  · exact ⟨e1, by show 1 ≤ _; omega⟩
  · exact ⟨e1, e2⟩
theorem Sh.bl (b : Bool) : Sh (.bool b) := by cases b <;> exact ⟨by decide +kernel, by decide +kernel, by decide +kernel, by decide +kernel⟩
theorem Sh.non : Sh .none := ⟨by decide +kernel, by decide +kernel, by decide +kernel, by decide +kernel⟩
theorem rRepr_go {K : PySem.W.Frag} {H : Hp} {v : V} {d : PyData} {Q : VK} (h : Dq K H v d) (s : Sh d) (k : Q (.str d.shown) H) : rRepr K [v] H Q := ⟨v, d, rfl, h, s.r.1, s.r.2.1, s.r.2.2, k⟩
theorem Sh.txt {d : PyData} (h : Sh d) : PyData.strOk d.shown = true := strOk_shown d h.ok
/-- lists of texts, compared -/
theorem dpTexts {K : PySem.W.Frag} {H : Hp} : ∀ ss : List Str, DpAll K H (ss.map V.str) (ss.map PyData.str)
  | [] => .nil
  | s :: ss => .cons (.str s) (dpTexts ss)
theorem shTexts (ss : List Str) (h : ∀ s ∈ ss, PyData.strOk s = true) : SeqAt.shaped (.list (ss.map PyData.str)) = true := by
  have h1 : PyData.canLayAll0 (ss.map PyData.str) = true := by
    induction ss with
    | nil => simp [PyData.canLayAll0]
    | cons s ss ih => simp [PyData.canLayAll0, PyData.canLay0, h s List.mem_cons_self, ih fun t ht => h t (List.mem_cons_of_mem _ ht)]
  have h2 : PyData.depthAll (ss.map PyData.str) ≤ 0 := by
    clear h h1
    induction ss with
    | nil => simp [PyData.depthAll]
    | cons s ss ih => simp [PyData.depthAll, PyData.depth] at ih ⊢; exact ih
  have h3 : (PyData.list (ss.map PyData.str)).depth ≤ 64 := by
    rw [PyData.depth]
    omega
  unfold SeqAt.shaped
  rw [Bool.and_eq_true]
  exact ⟨by rw [PyData.canLay0]; exact h1, decide_eq_true h3⟩
theorem rNeD_texts {K : PySem.W.Frag} {H : Hp} {p q : Addr} {Q : VK} (ss : List Str) (h1 : H p = some (.lst (ss.map V.str))) (h2 : H q = some (.lst (ss.map V.str))) (ok : ∀ s ∈ ss, PyData.strOk s = true) (k : Q (.bl false) H) : rNeD K (.ref p) (.ref q) H Q := by
  refine ⟨_, _, .lst (SqL.of h1) (dpTexts ss), .lst (SqL.of h2) (dpTexts ss), shTexts ss ok, shTexts ss ok, ?_⟩
  rw [SeqAt.eqv_refl]
  · exact k
  all_goals first | exact shTexts ss ok | exact SeqAt.canLay_of_shaped (shTexts ss ok)
theorem Sh.bls2 (b c : Bool) : Sh (.list [.bool b, .bool c]) := by cases b <;> cases c <;> exact ⟨by decide +kernel, by decide +kernel, by decide +kernel, by decide +kernel⟩
/-- == of two numbers -/
theorem eqv_nm (p q : Nm) : PyData.eqv p.d q.d = decide (p = q) := by
  cases p with
  | i n =>
    cases q with
    | i m => simp [Nm.d, PyData.eqv]; by_cases e : n = m <;> simp [e]
    | f c d => simp [Nm.d, PyData.eqv]
  | f a b =>
    cases q with
    | i m => simp [Nm.d, PyData.eqv]
    | f c d => simp [Nm.d, PyData.eqv, PyData.eqvAll]; by_cases e : a = c <;> by_cases e2 : b = d <;> simp [e, e2]
theorem NmAt.dp {K : PySem.W.Frag} {H : Hp} {v : V} {q : Nm} (h : NmAt H v q) : Dp K H v q.d := by
  cases h with
  | i n => exact .int n
  | f h => exact .tup (SqT.of h) (.cons (.int _) (.cons (.int _) .nil))
theorem shNm (q : Nm) : SeqAt.shaped q.d = true := by
  cases q with
  | i n => simp [SeqAt.shaped, Nm.d, PyData.canLay0, PyData.depth]
  | f a b => simp [SeqAt.shaped, Nm.d, PyData.canLay0, PyData.canLayAll0, PyData.depth, PyData.depthAll]
theorem rEqD_nm {K : PySem.W.Frag} {H : Hp} {v u : V} {p q : Nm} {Q : VK} (hp : NmAt H v p) (hq : NmAt H u q) (k : Q (.bl (decide (p = q))) H) : rEqD K v u H Q := by
  refine ⟨_, _, hp.dp, hq.dp, shNm p, shNm q, ?_⟩
  rw [eqv_nm]
  exact k
theorem one_of {p q : Nm} (hp : p.Ok) (hq : q.Ok) : [p.lt q, q.lt p, decide (p = q)].count true = 1 := by
  unfold Nm.lt
  by_cases e : p = q
  · subst e
    simp
  · have ne : p.t * q.b ≠ q.t * p.b := fun h => e (Nm.eq_of hp hq h)
    rcases Int.lt_or_gt_of_ne ne with h | h
    · have h2 : ¬ q.t * p.b < p.t * q.b := by omega
      simp [e, h, h2]
    · have h2 : ¬ p.t * q.b < q.t * p.b := by omega
      have h' : q.t * p.b < p.t * q.b := h
      simp [e, h', h2]
/-- a number that the laws draw -/
def NumV (H : Hp) (v : V) : Prop := ∃ q, NmAt H v q ∧ q.Ok ∧ q.Lt 200
theorem NumV.sm {H H' : Hp} {v : V} (h : NumV H v) (s : Sm H H') : NumV H' v := let ⟨q, a, b⟩ := h; ⟨q, a.sm s, b⟩
theorem NumV.kp {p l : Addr} {H H' : Hp} {v : V} (h : NumV H v) (s : Kp p l H H') : NumV H' v := let ⟨q, a, b⟩ := h; ⟨q, a.kp s, b⟩
theorem NumV.mut {H : Hp} {v : V} {D : Addr} {zs ys : List V} (h : NumV H v) (e : H D = some (.lst zs)) : NumV (upd H D (.lst ys)) v := by
  obtain ⟨q, a, b⟩ := h
  cases a with
  | i n => exact ⟨_, .i n, b⟩
  | f ht => exact ⟨_, .f (by rw [upd_ne (ne_of ht e (by intro z; cases z))]; exact ht), b⟩
end AS
/-! N2: sums and products of numbers. -/
namespace AS
open PySem PySem.Spec L2
/-! ### sums, products, quotients of numbers -/
def plusN (p q : Nm) : Nm := mkN (p.t * q.b + q.t * p.b) (p.b * q.b)
def timesN (p q : Nm) : Nm := mkN (p.t * q.t) (p.b * q.b)
def overN (p q : Nm) : Nm := mkN (p.t * q.b) (p.b * q.t)
theorem mkN_one (x : Int) : mkN x 1 = .i x := by
  have g : gcdI x 1 = 1 := by unfold gcdI; rw [Int.gcd_one_right]; rfl
  unfold mkN
  rw [if_neg (by decide : ¬ (1 : Int) < 0), g, if_pos rfl, Int.fdiv_one]
theorem plusN_i (a b : Int) : plusN (.i a) (.i b) = .i (a + b) := by
  show mkN (a * 1 + b * 1) (1 * 1) = _
  rw [Int.mul_one, Int.mul_one, Int.mul_one, mkN_one]
theorem timesN_i (a b : Int) : timesN (.i a) (.i b) = .i (a * b) := by
  show mkN (a * b) (1 * 1) = _
  rw [Int.mul_one, mkN_one]
/-- p is the number x / y -/
def Is (p : Nm) (x y : Int) : Prop := p.Ok ∧ y ≠ 0 ∧ p.t * y = x * p.b
theorem Nm.Ok.ne {q : Nm} (h : q.Ok) : q.b ≠ 0 := by have := h.pos; omega
theorem Is.self {p : Nm} (h : p.Ok) : Is p p.t p.b := ⟨h, h.ne, rfl⟩
theorem Is.mk {a b : Int} (h : b ≠ 0) : Is (mkN a b) a b := ⟨(mkN_ok h).1, h, (mkN_ok h).2⟩
theorem Is.eq {p q : Nm} {x y z w : Int} (h : Is p x y) (k : Is q z w) (e : x * w = z * y) : p = q := by
  obtain ⟨hp, hy, h⟩ := h
  obtain ⟨hq, hw, k⟩ := k
  refine Nm.eq_of hp hq ?_
  have n : y * w ≠ 0 := Int.mul_ne_zero hy hw
  refine Int.eq_of_mul_eq_mul_right n ?_
  have e1 : p.t * q.b * (y * w) = (p.t * y) * (q.b * w) := by grind
  have e2 : q.t * p.b * (y * w) = (q.t * w) * (p.b * y) := by grind
  rw [e1, e2, h, k]
  have e3 : x * p.b * (q.b * w) = (x * w) * (p.b * q.b) := by grind
  have e4 : z * q.b * (p.b * y) = (z * y) * (p.b * q.b) := by grind
  rw [e3, e4, e]
theorem Is.plus {p q : Nm} {x y z w : Int} (h : Is p x y) (k : Is q z w) : Is (plusN p q) (x * w + z * y) (y * w) := by
  obtain ⟨hp, hy, h⟩ := h
  obtain ⟨hq, hw, k⟩ := k
  have n : p.b * q.b ≠ 0 := Int.mul_ne_zero hp.ne hq.ne
  obtain ⟨o, e⟩ := mkN_ok (a := p.t * q.b + q.t * p.b) n
  refine ⟨o, Int.mul_ne_zero hy hw, Int.eq_of_mul_eq_mul_right n ?_⟩
  show (plusN p q).t * (y * w) * (p.b * q.b) = (x * w + z * y) * (plusN p q).b * (p.b * q.b)
  have e' : (plusN p q).t * (p.b * q.b) = (p.t * q.b + q.t * p.b) * (plusN p q).b := e
  have e1 : (plusN p q).t * (y * w) * (p.b * q.b) = ((plusN p q).t * (p.b * q.b)) * (y * w) := by grind
  have e2 : (p.t * q.b + q.t * p.b) * (plusN p q).b * (y * w) = ((p.t * y) * (q.b * w) + (q.t * w) * (p.b * y)) * (plusN p q).b := by grind
  rw [e1, e', e2, h, k]
  grind
theorem Is.times {p q : Nm} {x y z w : Int} (h : Is p x y) (k : Is q z w) : Is (timesN p q) (x * z) (y * w) := by
  obtain ⟨hp, hy, h⟩ := h
  obtain ⟨hq, hw, k⟩ := k
  have n : p.b * q.b ≠ 0 := Int.mul_ne_zero hp.ne hq.ne
  obtain ⟨o, e⟩ := mkN_ok (a := p.t * q.t) n
  refine ⟨o, Int.mul_ne_zero hy hw, Int.eq_of_mul_eq_mul_right n ?_⟩
  show (timesN p q).t * (y * w) * (p.b * q.b) = x * z * (timesN p q).b * (p.b * q.b)
  have e' : (timesN p q).t * (p.b * q.b) = (p.t * q.t) * (timesN p q).b := e
  have e1 : (timesN p q).t * (y * w) * (p.b * q.b) = ((timesN p q).t * (p.b * q.b)) * (y * w) := by grind
  have e2 : (p.t * q.t) * (timesN p q).b * (y * w) = (p.t * y) * (q.t * w) * (timesN p q).b := by grind
  rw [e1, e', e2, h, k]
  grind
theorem Is.tne {q : Nm} {z w : Int} (k : Is q z w) (hz : z ≠ 0) : q.t ≠ 0 := by
  obtain ⟨hq, hw, k⟩ := k
  intro e
  rw [e, Int.zero_mul] at k
  exact Int.mul_ne_zero hz hq.ne k.symm
theorem Is.over {p q : Nm} {x y z w : Int} (h : Is p x y) (k : Is q z w) (hz : z ≠ 0) : Is (overN p q) (x * w) (y * z) := by
  have tn := k.tne hz
  obtain ⟨hp, hy, h⟩ := h
  obtain ⟨hq, hw, k⟩ := k
  have n : p.b * q.t ≠ 0 := Int.mul_ne_zero hp.ne tn
  obtain ⟨o, e⟩ := mkN_ok (a := p.t * q.b) n
  have n2 : p.b * q.t * (q.b * w) ≠ 0 := Int.mul_ne_zero n (Int.mul_ne_zero hq.ne hw)
  refine ⟨o, Int.mul_ne_zero hy hz, Int.eq_of_mul_eq_mul_right n2 ?_⟩
  show (overN p q).t * (y * z) * (p.b * q.t * (q.b * w)) = x * w * (overN p q).b * (p.b * q.t * (q.b * w))
  have e' : (overN p q).t * (p.b * q.t) = (p.t * q.b) * (overN p q).b := e
  have e1 : (overN p q).t * (y * z) * (p.b * q.t * (q.b * w)) = ((overN p q).t * (p.b * q.t)) * (y * w * (z * q.b)) := by grind
  have e2 : (p.t * q.b) * (overN p q).b * (y * w * (z * q.b)) = (p.t * y) * (z * q.b) * (overN p q).b * w * q.b := by grind
  have e3 : x * w * (overN p q).b * (p.b * q.t * (q.b * w)) = x * p.b * (q.t * w) * (overN p q).b * w * q.b := by grind
  rw [e1, e', e2, e3, h, k]
/-- a number as it is kept, its integers below 10 ^ e -/
def B (e : Nat) (q : Nm) : Prop := q.Ok ∧ q.Lt e
theorem B.up {e f : Nat} {q : Nm} (h : B e q) (l : e ≤ f) : B f q :=
  ⟨h.1, Nat.lt_of_lt_of_le h.2.1 (Nat.pow_le_pow_right (by decide) l), Nat.lt_of_lt_of_le h.2.2 (Nat.pow_le_pow_right (by decide) l)⟩
theorem B.mkN {e : Nat} {a b : Int} (h : b ≠ 0) (h1 : a.natAbs < 10 ^ e) (h2 : b.natAbs < 10 ^ e) : B e (mkN a b) :=
  ⟨(mkN_ok h).1, Nat.lt_of_le_of_lt (mkN_le h).1 h1, Nat.lt_of_le_of_lt (mkN_le h).2 h2⟩
theorem mul_lt {x y : Int} {a b : Nat} (h : x.natAbs < 10 ^ a) (k : y.natAbs < 10 ^ b) : (x * y).natAbs < 10 ^ (a + b) := by
  rw [Int.natAbs_mul, Nat.pow_add]
  exact Nat.mul_lt_mul'' h k
theorem B.times {a b : Nat} {p q : Nm} (h : B a p) (k : B b q) : B (a + b) (timesN p q) :=
  B.mkN (Int.mul_ne_zero h.1.ne k.1.ne) (mul_lt h.2.1 k.2.1) (mul_lt h.2.2 k.2.2)
theorem B.over {a b : Nat} {p q : Nm} (h : B a p) (k : B b q) (n : q.t ≠ 0) : B (a + b) (overN p q) :=
  B.mkN (Int.mul_ne_zero h.1.ne n) (mul_lt h.2.1 k.2.2) (mul_lt h.2.2 k.2.1)
theorem add_lt {x y : Int} {e : Nat} (h : x.natAbs < 10 ^ e) (k : y.natAbs < 10 ^ e) : (x + y).natAbs < 10 ^ (e + 1) := by
  rw [Nat.pow_succ]
  omega
theorem B.plus {a b : Nat} {p q : Nm} (h : B a p) (k : B b q) : B (a + b + 1) (plusN p q) := by
  refine B.mkN (Int.mul_ne_zero h.1.ne k.1.ne) (add_lt (mul_lt h.2.1 k.2.2) ?_) (Nat.lt_of_lt_of_le (mul_lt h.2.2 k.2.2) (Nat.pow_le_pow_right (by decide) (by omega)))
  rw [Nat.add_comm a b]
  exact mul_lt k.2.1 h.2.2
theorem B.int {i : Int} {e : Nat} (h : i.natAbs < 10 ^ (e + 1)) : B (e + 1) (.i i) :=
  ⟨trivial, h, Nat.lt_of_lt_of_le (show (1 : Int).natAbs < 10 ^ 1 by decide) (Nat.pow_le_pow_right (by decide) (by omega))⟩
theorem tne {q : Nm} (h : q.Ok) (n : q ≠ .i 0) : q.t ≠ 0 := by
  cases q with
  | i m => intro e; exact n (by rw [show m = 0 from e])
  | f a b =>
    intro e
    obtain ⟨h1, h2⟩ := h
    rw [show a = 0 from e, Int.gcd_zero_left] at h2
    omega
/-! ### what one adds the other takes away -/
abbrev negN (q : Nm) : Nm := timesN (.i (-1)) q
theorem Is.one (i : Int) : Is (.i i) i 1 := ⟨trivial, by decide, rfl⟩
theorem id_back {p q : Nm} (hp : p.Ok) (hq : q.Ok) : plusN (plusN p q) (negN q) = p :=
  (((Is.self hp).plus (Is.self hq)).plus ((Is.one (-1)).times (Is.self hq))).eq (Is.self hp) (by grind)
theorem id_forth {p q : Nm} (hp : p.Ok) (hq : q.Ok) : plusN (plusN p (negN q)) q = p :=
  (((Is.self hp).plus ((Is.one (-1)).times (Is.self hq))).plus (Is.self hq)).eq (Is.self hp) (by grind)
theorem id_tcomm {p q : Nm} (hp : p.Ok) (hq : q.Ok) : timesN q p = timesN p q :=
  ((Is.self hq).times (Is.self hp)).eq ((Is.self hp).times (Is.self hq)) (by grind)
theorem id_pcomm {p q : Nm} (hp : p.Ok) (hq : q.Ok) : plusN q p = plusN p q :=
  ((Is.self hq).plus (Is.self hp)).eq ((Is.self hp).plus (Is.self hq)) (by grind)
theorem id_share {p q : Nm} (hp : p.Ok) (hq : q.Ok) (n : q.t ≠ 0) : overN (timesN p q) q = p :=
  (((Is.self hp).times (Is.self hq)).over (Is.self hq) n).eq (Is.self hp) (by grind)
theorem id_whole {p q : Nm} (hp : p.Ok) (hq : q.Ok) (n : q.t ≠ 0) : timesN (overN p q) q = p :=
  (((Is.self hp).over (Is.self hq) n).times (Is.self hq)).eq (Is.self hp) (by grind)
theorem id_assoc {p q r : Nm} (hp : p.Ok) (hq : q.Ok) (hr : r.Ok) : plusN p (plusN q r) = plusN (plusN r p) q :=
  ((Is.self hp).plus ((Is.self hq).plus (Is.self hr))).eq (((Is.self hr).plus (Is.self hp)).plus (Is.self hq)) (by grind)
theorem id_part {p q r : Nm} (hp : p.Ok) (hq : q.Ok) (hr : r.Ok) : timesN r (plusN p q) = plusN (timesN p r) (timesN q r) :=
  ((Is.self hr).times ((Is.self hp).plus (Is.self hq))).eq (((Is.self hp).times (Is.self hr)).plus ((Is.self hq).times (Is.self hr))) (by grind)
/-! ### numbers as data -/
theorem B.big {e : Nat} {q : Nm} (h : B e q) (l : e ≤ 250) : q.t.natAbs < 2 ^ 1900 ∧ q.b.natAbs < 2 ^ 1900 := by
  have k := h.up l
  exact ⟨Nat.lt_of_lt_of_le k.2.1 (by decide), Nat.lt_of_lt_of_le k.2.2 (by decide)⟩
theorem B.shd {e : Nat} {q : Nm} (h : B e q) (l : e ≤ 250) : Sh q.d ∧ lenD q.d ≤ 4000 ∧ q.d.depth ≤ 1 := by
  obtain ⟨h1, h2⟩ := h.big l
  cases q with
  | i n =>
    have z := int_sh h1
    exact ⟨Sh.int h1, by show lenD (.int n) ≤ 4000; rw [lenD]; simp only [Nm.t] at z; omega, by simp [Nm.d, PyData.depth]⟩
  | f a b =>
    have z := int_sh h1
    have z2 := int_sh h2
    exact ⟨Sh.pair h1 h2, by show lenD (.tuple [.int a, .int b]) ≤ 4000; rw [lenD, lenL, lenL, lenL, lenD, lenD]; simp only [Nm.t, Nm.b] at z z2; omega, by simp [Nm.d, PyData.depth, PyData.depthAll]⟩
theorem Sh.nms : ∀ {qs : List Nm}, (∀ q ∈ qs, B 250 q) → PyData.showableAll (qs.map Nm.d) = true ∧ PyData.depthAll (qs.map Nm.d) ≤ 1 ∧ lenL (qs.map Nm.d) ≤ 4002 * qs.length ∧ okL (qs.map Nm.d) = true
  | [], _ => ⟨by simp [PyData.showableAll], by simp [PyData.depthAll], by simp [lenL], by simp [okL]⟩
  | q :: qs, h => by
    obtain ⟨h1, h2, h3, h4⟩ := Sh.nms (qs := qs) fun x hx => h x (List.mem_cons_of_mem _ hx)
    obtain ⟨s, z, d⟩ := (h q List.mem_cons_self).shd (Nat.le_refl _)
    refine ⟨?_, ?_, ?_, ?_⟩
    · rw [List.map_cons, PyData.showableAll, s.sh, h1]; rfl
    · rw [List.map_cons, PyData.depthAll]; omega
    · rw [List.map_cons, lenL, List.length_cons]; omega
    · rw [List.map_cons, okL, s.ok, h4]; rfl
theorem Sh.nmL {qs : List Nm} (h : ∀ q ∈ qs, B 250 q) (hl : qs.length ≤ 10) : Sh (.list (qs.map Nm.d)) := by
  obtain ⟨h1, h2, h3, h4⟩ := Sh.nms h
  exact ⟨by simpa [PyData.showable] using h1, by rw [PyData.depth]; omega, by rw [lenD]; omega, by simpa [okD] using h4⟩
inductive NmAts (H : Hp) : List V → List Nm → Prop
  | nil : NmAts H [] []
  | cons {v : V} {q : Nm} {vs : List V} {qs : List Nm} (h : NmAt H v q) (t : NmAts H vs qs) : NmAts H (v :: vs) (q :: qs)
theorem NmAts.dql {K : PySem.W.Frag} {H : Hp} {vs : List V} {qs : List Nm} (h : NmAts H vs qs) : DqL K H vs (qs.map Nm.d) := by
  induction h with
  | nil => exact .nil
  | cons h _ ih => exact .cons h.dq ih
/-- the text of a list of numbers -/
def nmText (qs : List Nm) : Str := (PyData.list (qs.map Nm.d)).shown
theorem rRepr_nms {K : PySem.W.Frag} {H : Hp} {a : Addr} {vs : List V} {Q : VK} (qs : List Nm) (h : H a = some (.lst vs)) (n : NmAts H vs qs) (b : ∀ q ∈ qs, B 250 q) (l : qs.length ≤ 10) (k : Q (.str (nmText qs)) H) : rRepr K [.ref a] H Q :=
  rRepr_go (.lst h n.dql) (Sh.nmL b l) k
theorem rRepr_nm {K : PySem.W.Frag} {H : Hp} {v : V} {q : Nm} {Q : VK} (h : NmAt H v q) (b : B 250 q) (k : Q (.str q.d.shown) H) : rRepr K [v] H Q :=
  rRepr_go h.dq (b.shd (Nat.le_refl _)).1 k
theorem rNeD_nm {K : PySem.W.Frag} {H : Hp} {v u : V} {p q : Nm} {Q : VK} (hp : NmAt H v p) (hq : NmAt H u q) (k : Q (.bl (!decide (p = q))) H) : rNeD K v u H Q := by
  refine ⟨_, _, hp.dp, hq.dp, shNm p, shNm q, ?_⟩
  rw [eqv_nm]
  exact k
theorem rEqD_texts {K : PySem.W.Frag} {H : Hp} {p q : Addr} {Q : VK} (ss : List Str) (h1 : H p = some (.lst (ss.map V.str))) (h2 : H q = some (.lst (ss.map V.str))) (ok : ∀ s ∈ ss, PyData.strOk s = true) (k : Q (.bl true) H) : rEqD K (.ref p) (.ref q) H Q := by
  refine ⟨_, _, .lst (SqL.of h1) (dpTexts ss), .lst (SqL.of h2) (dpTexts ss), shTexts ss ok, shTexts ss ok, ?_⟩
  rw [SeqAt.eqv_refl]
  · exact k
  all_goals first | exact shTexts ss ok | exact SeqAt.canLay_of_shaped (shTexts ss ok)
theorem ball_nil {e : Nat} : ∀ q ∈ ([] : List Nm), B e q := fun q h => absurd h List.not_mem_nil
theorem ball_cons {e : Nat} {q : Nm} {qs : List Nm} (h : B e q) (t : ∀ x ∈ qs, B e x) : ∀ x ∈ q :: qs, B e x := fun x hx => (List.mem_cons.mp hx).elim (fun e => e ▸ h) (t x)
theorem tNil_in {σ : L2.St} {H : Hp} {Q : List V → Hp → Prop} (h : Q [] H) : tNil σ H Q := h
theorem tC_in {v : V} {σ : L2.St} {H : Hp} {Q : VK} (h : Q v H) : tC v σ H Q := h
end AS
namespace AS
open PySem PySem.Spec L2
open PyProof.Rows hiding St
local macro_rules | `(tactic| walk_at "hp") => `(tactic| first | assumption | exact upd_same | (refine' Eq.trans (upd_ne ?ne) ?rest; (case ne => walk_at "ne"); (case rest => walk_at "hp")) | (refine' Sm.at ?kp ?hh; (case kp => assumption); (case hh => walk_at "hp")) | (refine' Kp.tup ?kp ?hh; (case kp => assumption); (case hh => walk_at "hp")) | (refine' Kp.dct ?kp ?hh; (case kp => assumption); (case hh => walk_at "hp")) | (refine' Kp.at ?kp ?hh ?n1 ?n2; (case kp => assumption); (case hh => walk_at "hp"); (case n1 => walk_at "ne"); (case n2 => walk_at "ne")))
local macro_rules | `(tactic| walk_at "ne") => `(tactic| first | assumption | (refine Ne.symm ?x; (case x => assumption)) | (refine' ne_of_none ?a ?b; (case b => assumption); (case a => walk_at "hp")) | (refine' Ne.symm (ne_of_none ?a ?b); (case b => assumption); (case a => walk_at "hp")) | (refine' Stk.nep ?a ?b; (case b => assumption); (case a => walk_at "stk")) | (refine' Stk.nel ?a ?b; (case b => assumption); (case a => walk_at "stk")))
local macro_rules | `(tactic| walk_at "stk") => `(tactic| first | assumption | (refine' Stk.new ?a ?b; (case b => assumption); (case a => walk_at "stk")) | (refine' Stk.sm ?a ?b; (case b => assumption); (case a => walk_at "stk")))
local macro_rules | `(tactic| walk_at "sm") => `(tactic| first | assumption | exact Sm.refl _ | (refine' Sm.new ?a ?b; (case b => assumption); (case a => walk_at "sm")) | (refine' Sm.trans ?a ?b; (case b => assumption); (case a => walk_at "sm")))
local macro_rules | `(tactic| walk_at "kp") => `(tactic| first | assumption | exact Kp.refl _ _ _ | (refine' Kp.new ?a ?b; (case b => assumption); (case a => walk_at "kp")) | (refine' Kp.trans ?a ?b; (case b => assumption); (case a => walk_at "kp")) | (refine' Kp.sm ?a ?b; (case b => assumption); (case a => walk_at "kp")))
local macro_rules | `(tactic| walk_at "bg") => `(tactic| first | assumption | exact bg (by omega) (by omega) | decide)
local macro_rules | `(tactic| walk_at "cond") => `(tactic| first | decide | omega | exact len_ok (by simp) | (refine And.intro ?a ?b; (case a => walk_at "bg"); (case b => walk_at "bg")) | (refine And.intro ?a ?b; (case a => omega); (case b => walk_at "bg")) | exact ⟨by decide, by decide, by decide⟩)
local macro_rules | `(tactic| walk_at "st") => `(tactic| first
  | refine ⟨_, rfl, ?_⟩
  | refine ⟨_, _, rfl, rfl, ?_⟩
  | refine ⟨_, _, rfl, ?_⟩
  | refine ⟨_, _, _, rfl, ?_⟩
  | refine ⟨rfl, ?_⟩
  | (refine And.intro ?c ?k; (case c => walk_at "cond"))
  | (refine newI ?_; intro q H1 hq hs hv)
  | refine (fun H1 hs => ?_ : ∀ (H1 : Hp), Sm _ H1 → _)
  | (refine' Exists.intro _ (Exists.intro _ ⟨rfl, ?h, ?s, ?z, ?y, ?k⟩); (case h => walk_at "dq"); (case s => exact Sh.sh (by walk_at "sh")); (case z => exact (Sh.r (by walk_at "sh")).2.1); (case y => exact (Sh.r (by walk_at "sh")).2.2))
  | (refine' Exists.intro _ (Exists.intro _ (Exists.intro _ (Exists.intro _ ⟨rfl, rfl, ?h, ?a, ?z, ?k⟩))); (case h => walk_at "hp"); (case a => walk_at "hp"); (case z => exact Nat.le_trans (by simp : _ ≤ 100000) (by decide)))
  | refine (fun q hq => ?_ : ∀ q : Addr, _ = none → _)
  | (refine' Or.inl (Exists.intro _ (Exists.intro _ (Exists.intro _ (Exists.intro _ ⟨rfl, rfl, SqL.of ?h, ?a, ?k⟩)))); (case h => walk_at "hp"); (case a => rfl))
  | (refine' Or.inr (Or.inl (Exists.intro _ (Exists.intro _ (Exists.intro _ (Exists.intro _ ⟨rfl, rfl, SqT.of ?h, ?a, ?k⟩))))); (case h => walk_at "hp"); (case a => rfl))
  | (refine' Exists.intro _ (Exists.intro _ ⟨rfl, ?h, ?k⟩); (case h => first | walk_at "sq" | omega | walk_at "dq"))
  | (refine' Exists.intro _ (Exists.intro _ (Exists.intro _ (Exists.intro _ ⟨rfl, rfl, ?h, ?a, ?k⟩))); (case h => walk_at "hp"); (case a => rfl))
  | (refine' Exists.intro _ (Exists.intro _ (Exists.intro _ (Exists.intro _ (Exists.intro _ ⟨rfl, ClsV.ty _, Dq.ty ?h, kit_ty ?e, ?k⟩)))); (case h => walk_at "dq"); (case e => first | exact kit_int _ | exact kit_bool _ | exact kit_tuple _ | exact kit_str _ | exact kit_list _))
  | (refine' Exists.intro _ (Exists.intro _ ⟨rfl, Or.inr ⟨_, SqT.of ?h, ?e⟩, ?k⟩); (case h => walk_at "hp"); (case e => rfl))
  | (refine' Exists.intro _ (Exists.intro _ ⟨rfl, Or.inl ⟨_, SqL.of ?h, ?e⟩, ?k⟩); (case h => walk_at "hp"); (case e => rfl))
  | (refine' Exists.intro _ (Exists.intro _ (Exists.intro _ (Exists.intro _ ⟨rfl, ?S, ?c, ?w, ?z, ?k⟩))); (case S => walk_at "stk"); (case c => omega); (case w => first | decide | omega); (case z => first | decide | omega))
  | (refine' Exists.intro _ (Exists.intro _ (Exists.intro _ (Exists.intro _ (Exists.intro _ ⟨rfl, ?S, ?c, ?b, ?n, ?m, ?w, ?z, ?k⟩)))); (case S => walk_at "stk"); (case c => omega); (case b => walk_at "hp"); (case n => walk_at "ne"); (case m => walk_at "ne"); (case w => simp); (case z => simp))
  | (refine' Exists.intro _ (Exists.intro _ (Exists.intro _ ⟨rfl, ?S, ?c, ?k⟩)); (case S => walk_at "stk"); (case c => omega))
  | refine (fun r H1 r0 r1 S1 K1 => ?_ : ∀ (r : Int) (H1 : Hp), _ → _ → Stk H1 _ _ _ → Kp _ _ _ H1 → _)
  | refine (fun i v H1 hi S1 K1 => ?_ : ∀ (i : Nat) (v : V) (H1 : Hp), _ = some v → Stk H1 _ _ _ → Kp _ _ _ H1 → _)
  | refine (fun v H1 hv hs => ?_ : ∀ (v : V) (H1 : Hp), NmAt H1 v _ → Sm _ H1 → _))
local macro_rules | `(tactic| walk_at "ty") => `(tactic| first | assumption | exact TyOf.int _ | exact TyOf.bl _ | exact TyOf.non | exact TyOf.str _ | (refine' TyOf.tup ?h; (case h => walk_at "hp")) | (refine' TyOf.lst ?h; (case h => walk_at "hp")))
local macro_rules | `(tactic| walk_at "sts") => `(tactic| repeat walk_at "st")
local macro_rules | `(tactic| walk_at "dq") => `(tactic| first | assumption | exact Dq.int _ | exact Dq.bl _ | exact Dq.non | exact Dq.str _ | (refine' Dq.tup ?h ?k; (case h => walk_at "hp"); (case k => walk_at "dql")) | (refine' Dq.lst ?h ?k; (case h => walk_at "hp"); (case k => walk_at "dql")) | (refine' Dq.sm ?a ?h; (case a => assumption); (case h => walk_at "dq")))
local macro_rules | `(tactic| walk_at "dql") => `(tactic| first | assumption | exact DqL.nil | (refine' DqL.cons ?h ?k; (case h => walk_at "dq"); (case k => walk_at "dql")) | (refine' DqL.sm ?a ?h; (case a => assumption); (case h => walk_at "dql")))
local macro_rules | `(tactic| walk_at "ty") => `(tactic| first | assumption | exact TyOf.int _ | exact TyOf.bl _ | exact TyOf.non | exact TyOf.str _ | (refine' TyOf.tup ?h; (case h => walk_at "hp")) | (refine' TyOf.lst ?h; (case h => walk_at "hp")))
local macro_rules | `(tactic| walk_at "sts") => `(tactic| repeat walk_at "st")
local macro_rules | `(tactic| walk_at "cb") => `(tactic| first | rfl | assumption | (simp [dI]; done) | (simp [dI]; omega) | (simp_all [dI]; done))
local macro_rules | `(tactic| walk_at "it") => `(tactic| (refine' ifT ?c ?k; (case c => walk_at "cb")))
local macro_rules | `(tactic| walk_at "ie") => `(tactic| (refine' ifF ?c ?k; (case c => walk_at "cb")))
local macro_rules | `(tactic| walk_at "sq") => `(tactic| first | (refine' SqL.of ?h; (case h => walk_at "hp")) | (refine' SqT.of ?h; (case h => walk_at "hp")) | (refine' Or.inl (SqL.of ?h); (case h => walk_at "hp")) | (refine' Or.inr (SqT.of ?h); (case h => walk_at "hp")) | assumption | (refine Or.inl ?h; (case h => assumption)) | (refine Or.inr ?h; (case h => assumption)))
local macro_rules | `(tactic| walk_at "sh") => `(tactic| first | assumption | exact Sh.bl _ | exact Sh.non | exact Sh.bls2 _ _)
local macro_rules | `(tactic| walk_at "st") => `(tactic| first
  | (refine' Exists.intro _ (Exists.intro _ ⟨rfl, (?h : NmAt _ _ _), ?k⟩); (case h => walk_at "nm"))
  | (refine' Exists.intro _ (Exists.intro _ (Exists.intro _ (Exists.intro _ ⟨rfl, (?h : NmAt _ _ _), (?s : NmAt _ _ _), (?b : B _ _), (?c : B _ _), ?k⟩))); (case h => walk_at "nm"); (case s => walk_at "nm"); (case b => walk_at "nb"); (case c => walk_at "nb"))
  | refine (fun q v H1 hv hb S1 K1 => ?_ : ∀ (q : Nm) (v : V) (H1 : Hp), NmAt H1 v q → B _ q → Stk H1 _ _ _ → Kp _ _ _ H1 → _)
  | (refine' And.intro (?c : B _ _) ?k; (case c => walk_at "nb"))
  | (refine' tNil_in (rRepr_nms _ ?h ?n ?b ?l ?k); (case h => walk_at "hp"); (case n => walk_at "nms"); (case b => walk_at "nbs"); (case l => exact Nat.le_of_ble_eq_true rfl))
  | (refine' tNil_in (rRepr_nm ?h ?b ?k); (case h => walk_at "nm"); (case b => walk_at "nb")))
local macro_rules | `(tactic| walk_at "nm") => `(tactic| first | assumption | exact NmAt.i _ | (refine' NmAt.sm ?h ?s; (case s => assumption); (case h => walk_at "nm")) | (refine' NmAt.kp ?h ?s; (case s => assumption); (case h => walk_at "nm")) | (refine' NmAt.f ?h; (case h => walk_at "hp")))
local macro_rules | `(tactic| walk_at "nb") => `(tactic| (refine' B.up ?h ?e; (case h => walk_at "nb0"); (case e => decide)))
local macro_rules | `(tactic| walk_at "nb0") => `(tactic| first | assumption | exact B.int (e := 0) (by decide) | (refine' B.plus ?a ?b; (case a => walk_at "nb0"); (case b => walk_at "nb0")) | (refine' B.times ?a ?b; (case a => walk_at "nb0"); (case b => walk_at "nb0")) | (refine' B.over ?a ?b ?n; (case a => walk_at "nb0"); (case b => walk_at "nb0"); (case n => assumption)))
local macro_rules | `(tactic| walk_at "nms") => `(tactic| first | exact NmAts.nil | (refine' NmAts.cons ?h ?t; (case h => walk_at "nm"); (case t => walk_at "nms")))
local macro_rules | `(tactic| walk_at "nbs") => `(tactic| first | exact ball_nil | (refine' ball_cons ?h ?t; (case h => walk_at "nb"); (case t => walk_at "nbs")))
def top (i : Nat) : Stmt := PySem.Challenge.pw_allspeeds_k03_sums_products_quotients.main.body.getD i (.Pass ⟨0, 0, 0, 0⟩)
abbrev s_common_divisor : Stmt := top 1
abbrev N_common_divisor : List Str := ["one", "other"]
theorem sc_common_divisor : FnScope N_common_divisor ["one", "other"] (defScope s_common_divisor) := ⟨rfl, rfl, rfl, by decide +kernel, rfl, by decide +kernel, by decide +kernel⟩
theorem b_common_divisor : BindP "common_divisor" s_common_divisor ["one", "other"] := fun _ _ _ _ _ _ us hl => match us, hl with | [_, _], _ => rfl
abbrev s_top_of : Stmt := top 2
abbrev N_top_of : List Str := ["number"]
theorem sc_top_of : FnScope N_top_of ["number"] (defScope s_top_of) := ⟨rfl, rfl, rfl, by decide +kernel, rfl, by decide +kernel, by decide +kernel⟩
theorem b_top_of : BindP "top_of" s_top_of ["number"] := fun _ _ _ _ _ _ us hl => match us, hl with | [_], _ => rfl
abbrev s_bottom_of : Stmt := top 3
abbrev N_bottom_of : List Str := ["number"]
theorem sc_bottom_of : FnScope N_bottom_of ["number"] (defScope s_bottom_of) := ⟨rfl, rfl, rfl, by decide +kernel, rfl, by decide +kernel, by decide +kernel⟩
theorem b_bottom_of : BindP "bottom_of" s_bottom_of ["number"] := fun _ _ _ _ _ _ us hl => match us, hl with | [_], _ => rfl
abbrev s_number_of : Stmt := top 4
abbrev N_number_of : List Str := ["top", "bottom", "divisor"]
theorem sc_number_of : FnScope N_number_of ["top", "bottom"] (defScope s_number_of) := ⟨rfl, rfl, rfl, by decide +kernel, rfl, by decide +kernel, by decide +kernel⟩
theorem b_number_of : BindP "number_of" s_number_of ["top", "bottom"] := fun _ _ _ _ _ _ us hl => match us, hl with | [_, _], _ => rfl
abbrev s_plus : Stmt := top 5
abbrev N_plus : List Str := ["one", "other", "below", "more"]
theorem sc_plus : FnScope N_plus ["one", "other"] (defScope s_plus) := ⟨rfl, rfl, rfl, by decide +kernel, rfl, by decide +kernel, by decide +kernel⟩
theorem b_plus : BindP "plus" s_plus ["one", "other"] := fun _ _ _ _ _ _ us hl => match us, hl with | [_, _], _ => rfl
abbrev s_times : Stmt := top 6
abbrev N_times : List Str := ["one", "other"]
theorem sc_times : FnScope N_times ["one", "other"] (defScope s_times) := ⟨rfl, rfl, rfl, by decide +kernel, rfl, by decide +kernel, by decide +kernel⟩
theorem b_times : BindP "times" s_times ["one", "other"] := fun _ _ _ _ _ _ us hl => match us, hl with | [_, _], _ => rfl
abbrev s_minus : Stmt := top 7
abbrev N_minus : List Str := ["one", "other"]
theorem sc_minus : FnScope N_minus ["one", "other"] (defScope s_minus) := ⟨rfl, rfl, rfl, by decide +kernel, rfl, by decide +kernel, by decide +kernel⟩
theorem b_minus : BindP "minus" s_minus ["one", "other"] := fun _ _ _ _ _ _ us hl => match us, hl with | [_, _], _ => rfl
abbrev s_over : Stmt := top 8
abbrev N_over : List Str := ["one", "other"]
theorem sc_over : FnScope N_over ["one", "other"] (defScope s_over) := ⟨rfl, rfl, rfl, by decide +kernel, rfl, by decide +kernel, by decide +kernel⟩
theorem b_over : BindP "over" s_over ["one", "other"] := fun _ _ _ _ _ _ us hl => match us, hl with | [_, _], _ => rfl
abbrev s_show_number : Stmt := top 9
abbrev N_show_number : List Str := ["number"]
theorem sc_show_number : FnScope N_show_number ["number"] (defScope s_show_number) := ⟨rfl, rfl, rfl, by decide +kernel, rfl, by decide +kernel, by decide +kernel⟩
theorem b_show_number : BindP "show_number" s_show_number ["number"] := fun _ _ _ _ _ _ us hl => match us, hl with | [_], _ => rfl
abbrev s__law_begin : Stmt := top 11
abbrev N__law_begin : List Str := ["_law_script", "_law_cells", "_law_stirred", "_law_cell"]
theorem sc__law_begin : FnScope N__law_begin ["_law_script"] (defScope s__law_begin) := ⟨rfl, rfl, rfl, by decide +kernel, rfl, by decide +kernel, by decide +kernel⟩
theorem b__law_begin : BindP "_law_begin" s__law_begin ["_law_script"] := fun _ _ _ _ _ _ us hl => match us, hl with | [_], _ => rfl
abbrev s__law_take : Stmt := top 12
abbrev N__law_take : List Str := ["_law_stock", "_law_ways", "_law_drawn", "_law_cell"]
theorem sc__law_take : FnScope N__law_take ["_law_stock", "_law_ways"] (defScope s__law_take) := ⟨rfl, rfl, rfl, by decide +kernel, rfl, by decide +kernel, by decide +kernel⟩
theorem b__law_take : BindP "_law_take" s__law_take ["_law_stock", "_law_ways"] := fun _ _ _ _ _ _ us hl => match us, hl with | [_, _], _ => rfl
abbrev s__law_pick : Stmt := top 13
abbrev N__law_pick : List Str := ["_law_stock", "_law_some"]
theorem sc__law_pick : FnScope N__law_pick ["_law_stock", "_law_some"] (defScope s__law_pick) := ⟨rfl, rfl, rfl, by decide +kernel, rfl, by decide +kernel, by decide +kernel⟩
theorem b__law_pick : BindP "_law_pick" s__law_pick ["_law_stock", "_law_some"] := fun _ _ _ _ _ _ us hl => match us, hl with | [_, _], _ => rfl
abbrev s__law_lowest : Stmt := top 14
abbrev N__law_lowest : List Str := ["_law_top_here", "_law_bottom_here", "_law_high", "_law_low", "_law_size"]
theorem sc__law_lowest : FnScope N__law_lowest ["_law_top_here", "_law_bottom_here"] (defScope s__law_lowest) := ⟨rfl, rfl, rfl, by decide +kernel, rfl, by decide +kernel, by decide +kernel⟩
theorem b__law_lowest : BindP "_law_lowest" s__law_lowest ["_law_top_here", "_law_bottom_here"] := fun _ _ _ _ _ _ us hl => match us, hl with | [_, _], _ => rfl
abbrev s__law_top : Stmt := top 15
abbrev N__law_top : List Str := ["_law_figure"]
theorem sc__law_top : FnScope N__law_top ["_law_figure"] (defScope s__law_top) := ⟨rfl, rfl, rfl, by decide +kernel, rfl, by decide +kernel, by decide +kernel⟩
theorem b__law_top : BindP "_law_top" s__law_top ["_law_figure"] := fun _ _ _ _ _ _ us hl => match us, hl with | [_], _ => rfl
abbrev s__law_bottom : Stmt := top 16
abbrev N__law_bottom : List Str := ["_law_figure"]
theorem sc__law_bottom : FnScope N__law_bottom ["_law_figure"] (defScope s__law_bottom) := ⟨rfl, rfl, rfl, by decide +kernel, rfl, by decide +kernel, by decide +kernel⟩
theorem b__law_bottom : BindP "_law_bottom" s__law_bottom ["_law_figure"] := fun _ _ _ _ _ _ us hl => match us, hl with | [_], _ => rfl
abbrev s__law_plus : Stmt := top 17
abbrev N__law_plus : List Str := ["_law_mine", "_law_theirs", "_law_below", "_law_more"]
theorem sc__law_plus : FnScope N__law_plus ["_law_mine", "_law_theirs"] (defScope s__law_plus) := ⟨rfl, rfl, rfl, by decide +kernel, rfl, by decide +kernel, by decide +kernel⟩
theorem b__law_plus : BindP "_law_plus" s__law_plus ["_law_mine", "_law_theirs"] := fun _ _ _ _ _ _ us hl => match us, hl with | [_, _], _ => rfl
abbrev s__law_times : Stmt := top 18
abbrev N__law_times : List Str := ["_law_mine", "_law_theirs"]
theorem sc__law_times : FnScope N__law_times ["_law_mine", "_law_theirs"] (defScope s__law_times) := ⟨rfl, rfl, rfl, by decide +kernel, rfl, by decide +kernel, by decide +kernel⟩
theorem b__law_times : BindP "_law_times" s__law_times ["_law_mine", "_law_theirs"] := fun _ _ _ _ _ _ us hl => match us, hl with | [_, _], _ => rfl
abbrev s__law_number : Stmt := top 19
abbrev N__law_number : List Str := ["_law_stock", "_law_way", "_law_top_here"]
theorem sc__law_number : FnScope N__law_number ["_law_stock", "_law_way"] (defScope s__law_number) := ⟨rfl, rfl, rfl, by decide +kernel, rfl, by decide +kernel, by decide +kernel⟩
theorem b__law_number : BindP "_law_number" s__law_number ["_law_stock", "_law_way"] := fun _ _ _ _ _ _ us hl => match us, hl with | [_, _], _ => rfl
abbrev s__law_second : Stmt := top 20
abbrev N__law_second : List Str := ["_law_stock", "_law_mine", "_law_way"]
theorem sc__law_second : FnScope N__law_second ["_law_stock", "_law_mine"] (defScope s__law_second) := ⟨rfl, rfl, rfl, by decide +kernel, rfl, by decide +kernel, by decide +kernel⟩
theorem b__law_second : BindP "_law_second" s__law_second ["_law_stock", "_law_mine"] := fun _ _ _ _ _ _ us hl => match us, hl with | [_, _], _ => rfl
abbrev s__law_over : Stmt := top 21
abbrev N__law_over : List Str := ["_law_mine", "_law_theirs"]
theorem sc__law_over : FnScope N__law_over ["_law_mine", "_law_theirs"] (defScope s__law_over) := ⟨rfl, rfl, rfl, by decide +kernel, rfl, by decide +kernel, by decide +kernel⟩
theorem b__law_over : BindP "_law_over" s__law_over ["_law_mine", "_law_theirs"] := fun _ _ _ _ _ _ us hl => match us, hl with | [_, _], _ => rfl
abbrev s__law_text : Stmt := top 22
abbrev N__law_text : List Str := ["_law_figure"]
theorem sc__law_text : FnScope N__law_text ["_law_figure"] (defScope s__law_text) := ⟨rfl, rfl, rfl, by decide +kernel, rfl, by decide +kernel, by decide +kernel⟩
theorem b__law_text : BindP "_law_text" s__law_text ["_law_figure"] := fun _ _ _ _ _ _ us hl => match us, hl with | [_], _ => rfl
abbrev s__law_right : Stmt := top 23
abbrev N__law_right : List Str := ["_law_mine", "_law_theirs", "_law_due", "_law_share"]
theorem sc__law_right : FnScope N__law_right ["_law_mine", "_law_theirs"] (defScope s__law_right) := ⟨rfl, rfl, rfl, by decide +kernel, rfl, by decide +kernel, by decide +kernel⟩
theorem b__law_right : BindP "_law_right" s__law_right ["_law_mine", "_law_theirs"] := fun _ _ _ _ _ _ us hl => match us, hl with | [_, _], _ => rfl
abbrev s_law : Stmt := top 24
abbrev N_law : List Str := ["_law_script", "_law_stock", "_law_turn", "_law_mine", "_law_theirs", "_law_third", "_law_kept"]
theorem sc_law : FnScope N_law ["_law_script"] (defScope s_law) := ⟨rfl, rfl, rfl, by decide +kernel, rfl, by decide +kernel, by decide +kernel⟩
theorem b_law : BindP "law" s_law ["_law_script"] := fun _ _ _ _ _ _ us hl => match us, hl with | [_], _ => rfl
def gk0 {α : Type} (us ws : List α) : List α := match us, ws with
  | [], [w0] => [w0]
  | _, _ => []
theorem gk0_len {α : Type} {us ws : List α} (h : (gk0 us ws).length = 1) : ∃ w0, us = [] ∧ ws = [w0] := by
  unfold gk0 at h
  split at h
  · exact ⟨_, rfl, rfl⟩
  · cases h
theorem bk0 : BindK "show_number" s_show_number ["number"] ["number"] gk0 := fun _ _ _ _ _ _ us ws hl => by
  obtain ⟨w0, rfl, rfl⟩ := gk0_len hl
  rfl
theorem gk0_go {vs : List V} {us : List Value} {zs : List V} {ws : List Value} (r1 : Vals vs us) (r2 : Vals zs ws) (h1 : us.length = 0) (h2 : ws.length = 1) : Vals (gk0 vs zs) (gk0 us ws) := by
  obtain ⟨rfl, rfl⟩ := vals_unnil r1 h1
  obtain ⟨z0, zs0, w0, ws0, c0, q0, rfl, rfl⟩ := vals_uncons r2 h2
  have j0 : ws0.length = 0 := by simpa using h2
  obtain ⟨rfl, rfl⟩ := vals_unnil q0 j0
  exact (.cons c0 .nil)
theorem gk0_no {vs : List V} {us : List Value} {zs : List V} {ws : List Value} (l1 : vs.length = us.length) (l2 : zs.length = ws.length) (h : ¬ (us.length = 0 ∧ ws.length = 1)) : Vals (gk0 vs zs) (gk0 us ws) := by
  have e1 : gk0 us ws = [] := by
    unfold gk0
    split
    · exact absurd ⟨rfl, rfl⟩ h
    · rfl
  have e2 : gk0 vs zs = [] := by
    unfold gk0
    split
    · exact absurd ⟨l1.symm, l2.symm⟩ h
    · rfl
  rw [e1, e2]
  exact .nil
theorem gk0_rel : GRel gk0 := ⟨fun {vs us zs ws} r1 r2 => by
  have l1 := r1.length
  have l2 := r2.length
  by_cases h : us.length = 0 ∧ ws.length = 1
  · exact gk0_go r1 r2 h.1 h.2
  · exact gk0_no l1 l2 h⟩
def gk1 {α : Type} (us ws : List α) : List α := match us, ws with
  | [], [w0, w1] => [w1, w0]
  | _, _ => []
theorem gk1_len {α : Type} {us ws : List α} (h : (gk1 us ws).length = 2) : ∃ w0 w1, us = [] ∧ ws = [w0, w1] := by
  unfold gk1 at h
  split at h
  · exact ⟨_, _, rfl, rfl⟩
  · cases h
theorem bk1 : BindK "plus" s_plus ["one", "other"] ["other", "one"] gk1 := fun _ _ _ _ _ _ us ws hl => by
  obtain ⟨w0, w1, rfl, rfl⟩ := gk1_len hl
  rfl
theorem gk1_go {vs : List V} {us : List Value} {zs : List V} {ws : List Value} (r1 : Vals vs us) (r2 : Vals zs ws) (h1 : us.length = 0) (h2 : ws.length = 2) : Vals (gk1 vs zs) (gk1 us ws) := by
  obtain ⟨rfl, rfl⟩ := vals_unnil r1 h1
  obtain ⟨z0, zs0, w0, ws0, c0, q0, rfl, rfl⟩ := vals_uncons r2 h2
  have j0 : ws0.length = 1 := by simpa using h2
  obtain ⟨z1, zs1, w1, ws1, c1, q1, rfl, rfl⟩ := vals_uncons q0 j0
  have j1 : ws1.length = 0 := by simpa using j0
  obtain ⟨rfl, rfl⟩ := vals_unnil q1 j1
  exact (.cons c1 (.cons c0 .nil))
theorem gk1_no {vs : List V} {us : List Value} {zs : List V} {ws : List Value} (l1 : vs.length = us.length) (l2 : zs.length = ws.length) (h : ¬ (us.length = 0 ∧ ws.length = 2)) : Vals (gk1 vs zs) (gk1 us ws) := by
  have e1 : gk1 us ws = [] := by
    unfold gk1
    split
    · exact absurd ⟨rfl, rfl⟩ h
    · rfl
  have e2 : gk1 vs zs = [] := by
    unfold gk1
    split
    · exact absurd ⟨l1.symm, l2.symm⟩ h
    · rfl
  rw [e1, e2]
  exact .nil
theorem gk1_rel : GRel gk1 := ⟨fun {vs us zs ws} r1 r2 => by
  have l1 := r1.length
  have l2 := r2.length
  by_cases h : us.length = 0 ∧ ws.length = 2
  · exact gk1_go r1 r2 h.1 h.2
  · exact gk1_no l1 l2 h⟩
def gk2 {α : Type} (us ws : List α) : List α := match us, ws with
  | [], [w0, w1] => [w1, w0]
  | _, _ => []
theorem gk2_len {α : Type} {us ws : List α} (h : (gk2 us ws).length = 2) : ∃ w0 w1, us = [] ∧ ws = [w0, w1] := by
  unfold gk2 at h
  split at h
  · exact ⟨_, _, rfl, rfl⟩
  · cases h
theorem bk2 : BindK "minus" s_minus ["one", "other"] ["other", "one"] gk2 := fun _ _ _ _ _ _ us ws hl => by
  obtain ⟨w0, w1, rfl, rfl⟩ := gk2_len hl
  rfl
theorem gk2_go {vs : List V} {us : List Value} {zs : List V} {ws : List Value} (r1 : Vals vs us) (r2 : Vals zs ws) (h1 : us.length = 0) (h2 : ws.length = 2) : Vals (gk2 vs zs) (gk2 us ws) := by
  obtain ⟨rfl, rfl⟩ := vals_unnil r1 h1
  obtain ⟨z0, zs0, w0, ws0, c0, q0, rfl, rfl⟩ := vals_uncons r2 h2
  have j0 : ws0.length = 1 := by simpa using h2
  obtain ⟨z1, zs1, w1, ws1, c1, q1, rfl, rfl⟩ := vals_uncons q0 j0
  have j1 : ws1.length = 0 := by simpa using j0
  obtain ⟨rfl, rfl⟩ := vals_unnil q1 j1
  exact (.cons c1 (.cons c0 .nil))
theorem gk2_no {vs : List V} {us : List Value} {zs : List V} {ws : List Value} (l1 : vs.length = us.length) (l2 : zs.length = ws.length) (h : ¬ (us.length = 0 ∧ ws.length = 2)) : Vals (gk2 vs zs) (gk2 us ws) := by
  have e1 : gk2 us ws = [] := by
    unfold gk2
    split
    · exact absurd ⟨rfl, rfl⟩ h
    · rfl
  have e2 : gk2 vs zs = [] := by
    unfold gk2
    split
    · exact absurd ⟨l1.symm, l2.symm⟩ h
    · rfl
  rw [e1, e2]
  exact .nil
theorem gk2_rel : GRel gk2 := ⟨fun {vs us zs ws} r1 r2 => by
  have l1 := r1.length
  have l2 := r2.length
  by_cases h : us.length = 0 ∧ ws.length = 2
  · exact gk2_go r1 r2 h.1 h.2
  · exact gk2_no l1 l2 h⟩
def gk3 {α : Type} (us ws : List α) : List α := match us, ws with
  | [], [w0, w1] => [w1, w0]
  | _, _ => []
theorem gk3_len {α : Type} {us ws : List α} (h : (gk3 us ws).length = 2) : ∃ w0 w1, us = [] ∧ ws = [w0, w1] := by
  unfold gk3 at h
  split at h
  · exact ⟨_, _, rfl, rfl⟩
  · cases h
theorem bk3 : BindK "times" s_times ["one", "other"] ["other", "one"] gk3 := fun _ _ _ _ _ _ us ws hl => by
  obtain ⟨w0, w1, rfl, rfl⟩ := gk3_len hl
  rfl
theorem gk3_go {vs : List V} {us : List Value} {zs : List V} {ws : List Value} (r1 : Vals vs us) (r2 : Vals zs ws) (h1 : us.length = 0) (h2 : ws.length = 2) : Vals (gk3 vs zs) (gk3 us ws) := by
  obtain ⟨rfl, rfl⟩ := vals_unnil r1 h1
  obtain ⟨z0, zs0, w0, ws0, c0, q0, rfl, rfl⟩ := vals_uncons r2 h2
  have j0 : ws0.length = 1 := by simpa using h2
  obtain ⟨z1, zs1, w1, ws1, c1, q1, rfl, rfl⟩ := vals_uncons q0 j0
  have j1 : ws1.length = 0 := by simpa using j0
  obtain ⟨rfl, rfl⟩ := vals_unnil q1 j1
  exact (.cons c1 (.cons c0 .nil))
theorem gk3_no {vs : List V} {us : List Value} {zs : List V} {ws : List Value} (l1 : vs.length = us.length) (l2 : zs.length = ws.length) (h : ¬ (us.length = 0 ∧ ws.length = 2)) : Vals (gk3 vs zs) (gk3 us ws) := by
  have e1 : gk3 us ws = [] := by
    unfold gk3
    split
    · exact absurd ⟨rfl, rfl⟩ h
    · rfl
  have e2 : gk3 vs zs = [] := by
    unfold gk3
    split
    · exact absurd ⟨l1.symm, l2.symm⟩ h
    · rfl
  rw [e1, e2]
  exact .nil
theorem gk3_rel : GRel gk3 := ⟨fun {vs us zs ws} r1 r2 => by
  have l1 := r1.length
  have l2 := r2.length
  by_cases h : us.length = 0 ∧ ws.length = 2
  · exact gk3_go r1 r2 h.1 h.2
  · exact gk3_no l1 l2 h⟩
def gk4 {α : Type} (us ws : List α) : List α := match us, ws with
  | [], [w0, w1] => [w1, w0]
  | _, _ => []
theorem gk4_len {α : Type} {us ws : List α} (h : (gk4 us ws).length = 2) : ∃ w0 w1, us = [] ∧ ws = [w0, w1] := by
  unfold gk4 at h
  split at h
  · exact ⟨_, _, rfl, rfl⟩
  · cases h
theorem bk4 : BindK "over" s_over ["one", "other"] ["other", "one"] gk4 := fun _ _ _ _ _ _ us ws hl => by
  obtain ⟨w0, w1, rfl, rfl⟩ := gk4_len hl
  rfl
theorem gk4_go {vs : List V} {us : List Value} {zs : List V} {ws : List Value} (r1 : Vals vs us) (r2 : Vals zs ws) (h1 : us.length = 0) (h2 : ws.length = 2) : Vals (gk4 vs zs) (gk4 us ws) := by
  obtain ⟨rfl, rfl⟩ := vals_unnil r1 h1
  obtain ⟨z0, zs0, w0, ws0, c0, q0, rfl, rfl⟩ := vals_uncons r2 h2
  have j0 : ws0.length = 1 := by simpa using h2
  obtain ⟨z1, zs1, w1, ws1, c1, q1, rfl, rfl⟩ := vals_uncons q0 j0
  have j1 : ws1.length = 0 := by simpa using j0
  obtain ⟨rfl, rfl⟩ := vals_unnil q1 j1
  exact (.cons c1 (.cons c0 .nil))
theorem gk4_no {vs : List V} {us : List Value} {zs : List V} {ws : List Value} (l1 : vs.length = us.length) (l2 : zs.length = ws.length) (h : ¬ (us.length = 0 ∧ ws.length = 2)) : Vals (gk4 vs zs) (gk4 us ws) := by
  have e1 : gk4 us ws = [] := by
    unfold gk4
    split
    · exact absurd ⟨rfl, rfl⟩ h
    · rfl
  have e2 : gk4 vs zs = [] := by
    unfold gk4
    split
    · exact absurd ⟨l1.symm, l2.symm⟩ h
    · rfl
  rw [e1, e2]
  exact .nil
theorem gk4_rel : GRel gk4 := ⟨fun {vs us zs ws} r1 r2 => by
  have l1 := r1.length
  have l2 := r2.length
  by_cases h : us.length = 0 ∧ ws.length = 2
  · exact gk4_go r1 r2 h.1 h.2
  · exact gk4_no l1 l2 h⟩
structure Txt (mg : Str → Option Value) : Prop where
  z_abs : mg "abs" = none
  z_int : mg "int" = none
  z_isinstance : mg "isinstance" = none
  z_len : mg "len" = none
  z_list : mg "list" = none
  z_range : mg "range" = none
  z_repr : mg "repr" = none
  z_str : mg "str" = none
  z_tuple : mg "tuple" = none
/-! ### ratios -/
def sp_common_divisor (_ : PySem.W.Frag) : Sp := fun vs H Q _ => ∃ a b : Int, vs = [.int a, .int b] ∧ Q (.int (gcdI a b)) H
theorem ok_common_divisor {P : Program} {w : World} {K : PySem.W.Frag} {mg : Str → Option Value} {base : Heap} {f : Addr} {fd : FuncData} (F : Fun K "common_divisor" "common_divisor" s_common_divisor f fd) (T : Txt mg) (hB : ∃ o, base.get? sysModules = some o) :
    FnG P w K mg base CX0 1 f fd ["one", "other"] (sp_common_divisor K) := by
  refine okG F sc_common_divisor (fun vs H Q E h => ?_) (fun cdv A out s H vs Q E hr h => ?_)
  · obtain ⟨a, b, rfl, _⟩ := h; rfl
  · obtain ⟨a, b, rfl, k⟩ := h
    refine ⟨_, (pss_cons (ps_while PassesOwn.never (pt_cmpR op_ne (pv 1) pe_int (nomark _))
      (pss_one (ps_par (i := 0) (j := 1) (by rfl) sc_common_divisor.nd rfl rfl (by decide) rfl rfl (pa_cons (pv 1) (pa_cons (pe_op op_modN (pv 0) (pv 1)) pa_nil)) (by rfl))))
      (pss_one (ps_ret (pe_callB call_abs (by rfl) T.z_abs (by decide +kernel) (pa_cons (pv 0) pa_nil))))), ?_⟩
    refine while_bx (fun σ H' => H' = H ∧ ∃ x y : Int, σ = [some (.int x), some (.int y)] ∧ gcdI x y = gcdI a b) (fun σ _ => match σ with | [_, some (.int y)] => y.natAbs | _ => 0) ⟨rfl, a, b, rfl, rfl⟩ ?_ mono_ne
    rintro σ H' ⟨rfl, x, y, rfl, e⟩
    walk_at "sts"
    refine if2 (fun h => ?_) (fun h => ?_)
    · have hy : y ≠ 0 := by simpa [dI] using h
      walk_at "sts"
      exact Bx.mk ⟨⟨rfl, y, _, rfl, (gcdI_step hy).trans e⟩, fmod_less hy⟩
    · have hy : y = 0 := by simpa [dI] using h
      subst hy
      walk_at "sts"
      rw [← gcdI_zero, e]
      exact k
def sp_is_integer (K : PySem.W.Frag) : Sp := fun vs H Q _ => ∃ v d, vs = [v] ∧ Dq K H v d ∧ Q (.bl (isIntD d)) H
def sp_is_number (K : PySem.W.Frag) : Sp := fun vs H Q _ => ∃ v d, vs = [v] ∧ Dq K H v d ∧ Q (.bl (isNumD d)) H
/-! ### the two integers of a number -/
def sp_top_of (_ : PySem.W.Frag) : Sp := fun vs H Q _ => ∃ v q, vs = [v] ∧ NmAt H v q ∧ Q (.int q.t) H
theorem ok_top_of {P : Program} {w : World} {K : PySem.W.Frag} {mg : Str → Option Value} {base : Heap} {f : Addr} {fd : FuncData} (F : Fun K "top_of" "top_of" s_top_of f fd) (T : Txt mg) (hB : ∃ o, base.get? sysModules = some o) :
    FnG P w K mg base CX0 1 f fd ["number"] (sp_top_of K) := by
  refine okG F sc_top_of (fun vs H Q E h => ?_) (fun cdv A out s H vs Q E hr h => ?_)
  · obtain ⟨v, d, rfl, _⟩ := h; rfl
  · obtain ⟨v, q, rfl, hq, k⟩ := h
    refine ⟨_, (pss_one (ps_ret (pe_ifExp (pt_val (pe_callB (kc_isi K) (by rfl) T.z_isinstance (by decide +kernel) (pa_cons (pv 0) (pa_cons (pe_bltn (v := .ty "tuple") (by rfl) T.z_tuple (by decide +kernel) rfl) pa_nil)))) (pe_ix (kx_seq K) (pv 0) pe_int (fun _ _ => rfl)) (pv 0)))), ?_⟩
    cases hq with
    | i n => walk_at "sts"; exact k
    | f h => walk_at "sts"; exact k
def sp_bottom_of (_ : PySem.W.Frag) : Sp := fun vs H Q _ => ∃ v q, vs = [v] ∧ NmAt H v q ∧ Q (.int q.b) H
theorem ok_bottom_of {P : Program} {w : World} {K : PySem.W.Frag} {mg : Str → Option Value} {base : Heap} {f : Addr} {fd : FuncData} (F : Fun K "bottom_of" "bottom_of" s_bottom_of f fd) (T : Txt mg) (hB : ∃ o, base.get? sysModules = some o) :
    FnG P w K mg base CX0 1 f fd ["number"] (sp_bottom_of K) := by
  refine okG F sc_bottom_of (fun vs H Q E h => ?_) (fun cdv A out s H vs Q E hr h => ?_)
  · obtain ⟨v, d, rfl, _⟩ := h; rfl
  · obtain ⟨v, q, rfl, hq, k⟩ := h
    refine ⟨_, (pss_one (ps_ret (pe_ifExp (pt_val (pe_callB (kc_isi K) (by rfl) T.z_isinstance (by decide +kernel) (pa_cons (pv 0) (pa_cons (pe_bltn (v := .ty "tuple") (by rfl) T.z_tuple (by decide +kernel) rfl) pa_nil)))) (pe_ix (kx_seq K) (pv 0) pe_int (fun _ _ => rfl)) pe_int))), ?_⟩
    cases hq with
    | i n => walk_at "sts"; exact k
    | f h => walk_at "sts"; exact k
def sp_is_less (_ : PySem.W.Frag) : Sp := fun vs H Q _ => ∃ v u p q, vs = [v, u] ∧ NmAt H v p ∧ NmAt H u q ∧ p.Lt 200 ∧ q.Lt 200 ∧ Q (.bl (p.lt q)) H
/-! ### sums, products, quotients: the program's and the law's -/
def sp_number_of (_ : PySem.W.Frag) : Sp := fun vs H Q _ => ∃ a b : Int, vs = [.int a, .int b] ∧ b ≠ 0 ∧ b.natAbs < 2 ^ 8000 ∧ ∀ v H', NmAt H' v (mkN a b) → Sm H H' → Q v H'
theorem ok_number_of {P : Program} {w : World} {K : PySem.W.Frag} {mg : Str → Option Value} {base : Heap} {f : Addr} {fd : FuncData} (F : Fun K "number_of" "number_of" s_number_of f fd) (T : Txt mg) (hB : ∃ o, base.get? sysModules = some o)
    (d_common_divisor : DefG P w K mg base 1 "common_divisor" s_common_divisor ["one", "other"] (sp_common_divisor K)) :
    FnG P w K mg base CX0 2 f fd ["top", "bottom"] (sp_number_of K) := by
  refine okG F sc_number_of (fun vs H Q E h => ?_) (fun cdv A out s H vs Q E hr h => ?_)
  · obtain ⟨a, b, rfl, _⟩ := h; rfl
  · obtain ⟨a, b, rfl, b0, bz, k⟩ := h
    obtain ⟨c1, c2⟩ := dv_ok (a := a) b0 bz
    refine ⟨_, (pss_cons (ps_set (i := 2) sc_number_of.nd rfl (Or.inl rfl) (pc d_common_divisor b_common_divisor hr (by decide) (pa_cons (pv 0) (pa_cons (pv 1) pa_nil))))
      (pss_cons (ps_if (pt_cmpR op_lt (pv 1) pe_int (nomark _))
      (pss_one (ps_set (i := 2) sc_number_of.nd rfl (Or.inl rfl) (pe_un un_neg (pv 2))))
      pss_nil)
      (pss_cons (ps_if (pt_cmpR op_eq (pv 1) (pv 2) (nomark _))
      (pss_one (ps_ret (pe_op op_fdivX (pv 0) (pv 2))))
      pss_nil)
      (pss_one (ps_ret (pe_tup (pa_cons (pe_op op_fdivX (pv 0) (pv 2)) (pa_cons (pe_op op_fdivX (pv 1) (pv 2)) pa_nil)))))))), ?_⟩
    walk_at "sts"
    refine if2 (fun h => ?_) (fun h => ?_)
    · have hb : b < 0 := by simpa using h
      have ed : -gcdI a b = dv a b := by
        unfold dv
        rw [if_pos hb]
      have ed' : (fun i : Int => V.int (-i)) (gcdI a b) = V.int (dv a b) := by
        show V.int (-gcdI a b) = _
        rw [ed]
      walk_at "sts"
      rw [ed']
      refine if2 (fun h => ?_) (fun h => ?_)
      · have hb : b = dv a b := by simpa [dI] using h
        walk_at "sts"
        refine k _ _ ?_ (Sm.refl _)
        rw [mkN_dv, if_pos hb]
        exact .i _
      · have hb : b ≠ dv a b := by simpa [dI] using h
        walk_at "sts"
        refine k _ _ ?_ (by walk_at "sm")
        rw [mkN_dv, if_neg hb]
        exact .f upd_same
    · have hb : ¬ b < 0 := by simpa using h
      have ed : gcdI a b = dv a b := by
        unfold dv
        rw [if_neg hb]
      walk_at "sts"
      rw [ed]
      refine if2 (fun h => ?_) (fun h => ?_)
      · have hb : b = dv a b := by simpa [dI] using h
        walk_at "sts"
        refine k _ _ ?_ (Sm.refl _)
        rw [mkN_dv, if_pos hb]
        exact .i _
      · have hb : b ≠ dv a b := by simpa [dI] using h
        walk_at "sts"
        refine k _ _ ?_ (by walk_at "sm")
        rw [mkN_dv, if_neg hb]
        exact .f upd_same
theorem nz2 {p q : Nm} (bp : B 120 p) (bq : B 120 q) : p.b * q.b ≠ 0 ∧ (p.b * q.b).natAbs < 2 ^ 8000 :=
  ⟨Int.mul_ne_zero bp.1.ne bq.1.ne, Nat.lt_of_lt_of_le (mul_lt bp.2.2 bq.2.2) (by decide)⟩
theorem nz3 {p q : Nm} (bp : B 120 p) (bq : B 120 q) (n : q.t ≠ 0) : p.b * q.t ≠ 0 ∧ (p.b * q.t).natAbs < 2 ^ 8000 :=
  ⟨Int.mul_ne_zero bp.1.ne n, Nat.lt_of_lt_of_le (mul_lt bp.2.2 bq.2.1) (by decide)⟩
def sp_plus (_ : PySem.W.Frag) : Sp := fun vs H Q _ => ∃ v u p q, vs = [v, u] ∧ NmAt H v p ∧ NmAt H u q ∧ B 120 p ∧ B 120 q ∧ ∀ w H', NmAt H' w (plusN p q) → Sm H H' → Q w H'
theorem ok_plus {P : Program} {w : World} {K : PySem.W.Frag} {mg : Str → Option Value} {base : Heap} {f : Addr} {fd : FuncData} (F : Fun K "plus" "plus" s_plus f fd) (T : Txt mg) (hB : ∃ o, base.get? sysModules = some o)
    (d_number_of : DefG P w K mg base 2 "number_of" s_number_of ["top", "bottom"] (sp_number_of K))
    (d_bottom_of : DefG P w K mg base 1 "bottom_of" s_bottom_of ["number"] (sp_bottom_of K))
    (d_top_of : DefG P w K mg base 1 "top_of" s_top_of ["number"] (sp_top_of K)) :
    FnG P w K mg base CX0 3 f fd ["one", "other"] (sp_plus K) := by
  refine okG F sc_plus (fun vs H Q E h => ?_) (fun cdv A out s H vs Q E hr h => ?_)
  · obtain ⟨v, u, p, q, rfl, _⟩ := h; rfl
  · obtain ⟨v, u, p, q, rfl, hp, hq, bp, bq, k⟩ := h
    have c1 := bgN bp.2.1 (by decide)
    have c2 := bgN bp.2.2 (by decide)
    have c3 := bgN bq.2.1 (by decide)
    have c4 := bgN bq.2.2 (by decide)
    have nz := nz2 bp bq
    refine ⟨_, (pss_cons (ps_if (PW.pt (pw_and (pt_val (pe_callB (kc_isi K) (by rfl) T.z_isinstance (by decide +kernel) (pa_cons (pv 0) (pa_cons (pe_bltn (v := .ty "int") (by rfl) T.z_int (by decide +kernel) rfl) pa_nil)))) (pw_and1 (pt_val (pe_callB (kc_isi K) (by rfl) T.z_isinstance (by decide +kernel) (pa_cons (pv 1) (pa_cons (pe_bltn (v := .ty "int") (by rfl) T.z_int (by decide +kernel) rfl) pa_nil)))))))
      (pss_one (ps_ret (pe_op op_add (pv 0) (pv 1))))
      pss_nil)
      (pss_cons (ps_par (i := 2) (j := 3) (by rfl) sc_plus.nd rfl rfl (by decide) rfl rfl (pa_cons (pc d_bottom_of b_bottom_of hr (by decide) (pa_cons (pv 0) pa_nil)) (pa_cons (pc d_bottom_of b_bottom_of hr (by decide) (pa_cons (pv 1) pa_nil)) pa_nil)) (by rfl))
      (pss_one (ps_ret (pc d_number_of b_number_of hr (by decide) (pa_cons (pe_op op_add (pe_op op_mulX (pc d_top_of b_top_of hr (by decide) (pa_cons (pv 0) pa_nil)) (pv 3)) (pe_op op_mulX (pc d_top_of b_top_of hr (by decide) (pa_cons (pv 1) pa_nil)) (pv 2))) (pa_cons (pe_op op_mulX (pv 2) (pv 3)) pa_nil))))))), ?_⟩
    cases hp with
    | i a =>
      cases hq with
      | i b =>
        walk_at "sts"
        refine k _ _ ?_ (Sm.refl _)
        rw [plusN_i]
        exact .i _
      | f hq =>
        walk_at "sts"
        first
        | exact k _ _ (by assumption) (by walk_at "sm")
        | exact ⟨_, _, rfl, nz.1, nz.2, fun w H' hw hs => k w H' hw hs⟩
    | f hp =>
      cases hq with
      | i b =>
        walk_at "sts"
        first
          | exact k _ _ (by assumption) (by walk_at "sm")
          | exact ⟨_, _, rfl, nz.1, nz.2, fun w H' hw hs => k w H' hw hs⟩
      | f hq =>
        walk_at "sts"

        first
          | exact k _ _ (by assumption) (by walk_at "sm")
          | exact ⟨_, _, rfl, nz.1, nz.2, fun w H' hw hs => k w H' hw hs⟩
def sp_times (_ : PySem.W.Frag) : Sp := fun vs H Q _ => ∃ v u p q, vs = [v, u] ∧ NmAt H v p ∧ NmAt H u q ∧ B 120 p ∧ B 120 q ∧ ∀ w H', NmAt H' w (timesN p q) → Sm H H' → Q w H'
theorem ok_times {P : Program} {w : World} {K : PySem.W.Frag} {mg : Str → Option Value} {base : Heap} {f : Addr} {fd : FuncData} (F : Fun K "times" "times" s_times f fd) (T : Txt mg) (hB : ∃ o, base.get? sysModules = some o)
    (d_number_of : DefG P w K mg base 2 "number_of" s_number_of ["top", "bottom"] (sp_number_of K))
    (d_top_of : DefG P w K mg base 1 "top_of" s_top_of ["number"] (sp_top_of K))
    (d_bottom_of : DefG P w K mg base 1 "bottom_of" s_bottom_of ["number"] (sp_bottom_of K)) :
    FnG P w K mg base CX0 3 f fd ["one", "other"] (sp_times K) := by
  refine okG F sc_times (fun vs H Q E h => ?_) (fun cdv A out s H vs Q E hr h => ?_)
  · obtain ⟨v, u, p, q, rfl, _⟩ := h; rfl
  · obtain ⟨v, u, p, q, rfl, hp, hq, bp, bq, k⟩ := h
    have c1 := bgN bp.2.1 (by decide)
    have c2 := bgN bp.2.2 (by decide)
    have c3 := bgN bq.2.1 (by decide)
    have c4 := bgN bq.2.2 (by decide)
    have nz := nz2 bp bq
    refine ⟨_, (pss_cons (ps_if (PW.pt (pw_and (pt_val (pe_callB (kc_isi K) (by rfl) T.z_isinstance (by decide +kernel) (pa_cons (pv 0) (pa_cons (pe_bltn (v := .ty "int") (by rfl) T.z_int (by decide +kernel) rfl) pa_nil)))) (pw_and1 (pt_val (pe_callB (kc_isi K) (by rfl) T.z_isinstance (by decide +kernel) (pa_cons (pv 1) (pa_cons (pe_bltn (v := .ty "int") (by rfl) T.z_int (by decide +kernel) rfl) pa_nil)))))))
      (pss_one (ps_ret (pe_op op_mulX (pv 0) (pv 1))))
      pss_nil)
      (pss_one (ps_ret (pc d_number_of b_number_of hr (by decide) (pa_cons (pe_op op_mulX (pc d_top_of b_top_of hr (by decide) (pa_cons (pv 0) pa_nil)) (pc d_top_of b_top_of hr (by decide) (pa_cons (pv 1) pa_nil))) (pa_cons (pe_op op_mulX (pc d_bottom_of b_bottom_of hr (by decide) (pa_cons (pv 0) pa_nil)) (pc d_bottom_of b_bottom_of hr (by decide) (pa_cons (pv 1) pa_nil))) pa_nil)))))), ?_⟩
    cases hp with
    | i a =>
      cases hq with
      | i b =>
        walk_at "sts"
        refine k _ _ ?_ (Sm.refl _)
        rw [timesN_i]
        exact .i _
      | f hq =>
        walk_at "sts"
        first
        | exact k _ _ (by assumption) (by walk_at "sm")
        | exact ⟨_, _, rfl, nz.1, nz.2, fun w H' hw hs => k w H' hw hs⟩
    | f hp =>
      cases hq with
      | i b =>
        walk_at "sts"
        first
          | exact k _ _ (by assumption) (by walk_at "sm")
          | exact ⟨_, _, rfl, nz.1, nz.2, fun w H' hw hs => k w H' hw hs⟩
      | f hq =>
        walk_at "sts"

        first
          | exact k _ _ (by assumption) (by walk_at "sm")
          | exact ⟨_, _, rfl, nz.1, nz.2, fun w H' hw hs => k w H' hw hs⟩
def sp_minus (_ : PySem.W.Frag) : Sp := fun vs H Q _ => ∃ v u p q, vs = [v, u] ∧ NmAt H v p ∧ NmAt H u q ∧ B 110 p ∧ B 110 q ∧ ∀ w H', NmAt H' w (plusN p (negN q)) → Sm H H' → Q w H'
theorem ok_minus {P : Program} {w : World} {K : PySem.W.Frag} {mg : Str → Option Value} {base : Heap} {f : Addr} {fd : FuncData} (F : Fun K "minus" "minus" s_minus f fd) (T : Txt mg) (hB : ∃ o, base.get? sysModules = some o)
    (d_plus : DefG P w K mg base 3 "plus" s_plus ["one", "other"] (sp_plus K))
    (d_times : DefG P w K mg base 3 "times" s_times ["one", "other"] (sp_times K)) :
    FnG P w K mg base CX0 4 f fd ["one", "other"] (sp_minus K) := by
  refine okG F sc_minus (fun vs H Q E h => ?_) (fun cdv A out s H vs Q E hr h => ?_)
  · obtain ⟨v, u, p, q, rfl, _⟩ := h; rfl
  · obtain ⟨v, u, p, q, rfl, hp, hq, bp, bq, k⟩ := h
    refine ⟨_, (pss_one (ps_ret (pc d_plus b_plus hr (by decide) (pa_cons (pv 0) (pa_cons (pc d_times b_times hr (by decide) (pa_cons (pe_un un_neg pe_int) (pa_cons (pv 1) pa_nil))) pa_nil))))), ?_⟩
    walk_at "sts"
    exact k _ _ (by assumption) (by walk_at "sm")
def sp_over (_ : PySem.W.Frag) : Sp := fun vs H Q _ => ∃ v u p q, vs = [v, u] ∧ NmAt H v p ∧ NmAt H u q ∧ B 120 p ∧ B 120 q ∧ q.t ≠ 0 ∧ ∀ w H', NmAt H' w (overN p q) → Sm H H' → Q w H'
theorem ok_over {P : Program} {w : World} {K : PySem.W.Frag} {mg : Str → Option Value} {base : Heap} {f : Addr} {fd : FuncData} (F : Fun K "over" "over" s_over f fd) (T : Txt mg) (hB : ∃ o, base.get? sysModules = some o)
    (d_number_of : DefG P w K mg base 2 "number_of" s_number_of ["top", "bottom"] (sp_number_of K))
    (d_top_of : DefG P w K mg base 1 "top_of" s_top_of ["number"] (sp_top_of K))
    (d_bottom_of : DefG P w K mg base 1 "bottom_of" s_bottom_of ["number"] (sp_bottom_of K)) :
    FnG P w K mg base CX0 3 f fd ["one", "other"] (sp_over K) := by
  refine okG F sc_over (fun vs H Q E h => ?_) (fun cdv A out s H vs Q E hr h => ?_)
  · obtain ⟨v, u, p, q, rfl, _⟩ := h; rfl
  · obtain ⟨v, u, p, q, rfl, hp, hq, bp, bq, n, k⟩ := h
    have c1 := bgN bp.2.1 (by decide)
    have c2 := bgN bp.2.2 (by decide)
    have c3 := bgN bq.2.1 (by decide)
    have c4 := bgN bq.2.2 (by decide)
    have nz := nz3 bp bq n
    refine ⟨_, (pss_one (ps_ret (pc d_number_of b_number_of hr (by decide) (pa_cons (pe_op op_mulX (pc d_top_of b_top_of hr (by decide) (pa_cons (pv 0) pa_nil)) (pc d_bottom_of b_bottom_of hr (by decide) (pa_cons (pv 1) pa_nil))) (pa_cons (pe_op op_mulX (pc d_bottom_of b_bottom_of hr (by decide) (pa_cons (pv 0) pa_nil)) (pc d_top_of b_top_of hr (by decide) (pa_cons (pv 1) pa_nil))) pa_nil))))), ?_⟩
    walk_at "sts"
    first
        | exact k _ _ (by assumption) (by walk_at "sm")
        | exact ⟨_, _, rfl, nz.1, nz.2, fun w H' hw hs => k w H' hw hs⟩
def numText : Nm → Str
  | .i n => Str.ofString (toString n)
  | .f a b => Str.ofString (toString a) ++ Str.ofString "/" ++ Str.ofString (toString b)
theorem itxt {i : Int} (h : i.natAbs < 2 ^ 1900) : (Str.ofString (toString i)).length ≤ 2000 := by
  have h1 := shown_len (.int i)
  rw [PyData.shown_int, lenD] at h1
  have h2 := int_sh h
  exact Nat.le_trans h1 (by omega)
theorem siz {n : Nat} (h : n ≤ 5000) : n ≤ sizeLine := Nat.le_trans h (by decide)
theorem numText_ok : ∀ q : Nm, PyData.strOk (numText q) = true
  | .i n => strOk_int n
  | .f a b => strOk_app (strOk_app (strOk_int a) (by decide +kernel)) (strOk_int b)
def sp_show_number (_ : PySem.W.Frag) : Sp := fun vs H Q _ => ∃ v q, vs = [v] ∧ NmAt H v q ∧ B 200 q ∧ Q (.str (numText q)) H
theorem ok_show_number {P : Program} {w : World} {K : PySem.W.Frag} {mg : Str → Option Value} {base : Heap} {f : Addr} {fd : FuncData} (F : Fun K "show_number" "show_number" s_show_number f fd) (T : Txt mg) (hB : ∃ o, base.get? sysModules = some o) :
    FnG P w K mg base CX0 1 f fd ["number"] (sp_show_number K) := by
  refine okG F sc_show_number (fun vs H Q E h => ?_) (fun cdv A out s H vs Q E hr h => ?_)
  · obtain ⟨v, q, rfl, _⟩ := h; rfl
  · obtain ⟨v, q, rfl, hq, b, k⟩ := h
    refine ⟨_, (pss_cons (ps_if (pt_val (pe_callB (kc_isi K) (by rfl) T.z_isinstance (by decide +kernel) (pa_cons (pv 0) (pa_cons (pe_bltn (v := .ty "tuple") (by rfl) T.z_tuple (by decide +kernel) rfl) pa_nil))))
      (pss_one (ps_ret (pe_joined (PJ.cons (pe_fmt (pe_ix (kx_seq K) (pv 0) pe_int (fun _ _ => rfl))) (PJ.cons pe_str (PJ.cons (pe_fmt (pe_ix (kx_seq K) (pv 0) pe_int (fun _ _ => rfl))) PJ.nil))))))
      pss_nil)
      (pss_one (ps_ret (pe_callTy call_str_int (by rfl) T.z_str (by decide +kernel) (pa_cons (pv 0) pa_nil))))), ?_⟩
    cases hq with
    | i n =>
      walk_at "sts"
      exact ⟨show n.natAbs.log2 < 1920 from Nat.lt_trans (int_sh (b.big (by decide)).1) (by decide), k⟩
    | f h =>
      have z1 : _ := int_sh (b.big (by decide)).1
      have z2 : _ := int_sh (b.big (by decide)).2
      have l1 := itxt (b.big (by decide)).1
      have l2 := itxt (b.big (by decide)).2
      simp only [Nm.t, Nm.b] at z1 z2 l1 l2
      walk_at "sts"
      refine .inr ⟨_, rfl, Nat.lt_trans z1 (by decide), _, rfl, ?_, ?_⟩
      · rw [Str.empty_append]; exact siz (by omega)
      rw [Str.empty_append]
      refine ⟨_, rfl, ?_, ?_⟩
      · rw [Str.length_append]; exact siz (Nat.le_trans (Nat.add_le_add l1 (by decide : (Str.ofString "/").length ≤ 1)) (by decide))
      walk_at "sts"
      refine .inr ⟨_, rfl, Nat.lt_trans z2 (by decide), _, rfl, ?_, k⟩
      rw [Str.length_append, Str.length_append]
      exact siz (Nat.le_trans (Nat.add_le_add (Nat.add_le_add l1 (by decide : (Str.ofString "/").length ≤ 1)) l2) (by decide))
/-! ### the stock -/
def sp__law_take (_ : PySem.W.Frag) : Sp := fun vs H Q _ => ∃ (p l : Addr) (c ways : Int), vs = [.ref p, .int ways] ∧ Stk H p l c ∧ c < bigC ∧ 0 < ways ∧ ways < 10 ^ 100 ∧
  ∀ r H', 0 ≤ r → r < ways → Stk H' p l (c + 1) → Kp p l H H' → Q (.int r) H'
theorem ok__law_take {P : Program} {w : World} {K : PySem.W.Frag} {mg : Str → Option Value} {base : Heap} {f : Addr} {fd : FuncData} (F : Fun K "_law_take" "_law_take" s__law_take f fd) (T : Txt mg) (hB : ∃ o, base.get? sysModules = some o) :
    FnG P w K mg base CX0 1 f fd ["_law_stock", "_law_ways"] (sp__law_take K) := by
  refine okG F sc__law_take (fun vs H Q E h => ?_) (fun cdv A out s H vs Q E hr h => ?_)
  · obtain ⟨p, l, c, ways, rfl, _⟩ := h; rfl
  · obtain ⟨p, l, c, ways, rfl, S, hc, w0, w1, k⟩ := h
    obtain ⟨⟨s0, n, ns, h1, h2, h3, h4, h5⟩, ne⟩ := id S
    have hc' : c < 10 ^ 15 := hc
    have ne' := Ne.symm ne
    refine ⟨_, (pss_cons (ps_asg (pe_op op_add (pe_ix (kx_seq K) (pv 0) pe_int (fun _ _ => rfl)) pe_int) (pg_sub (pv 0) pe_int set_list))
      (pss_cons (ps_set (i := 2) sc__law_take.nd rfl (Or.inl rfl) (pe_op op_add (pe_ix (kx_seq K) (pv 0) pe_int (fun _ _ => rfl)) (pe_op op_mulX (pe_op op_mulX pe_int (pe_ix (kx_seq K) (pv 0) pe_int (fun _ _ => rfl))) (pe_ix (kx_seq K) (pv 0) pe_int (fun _ _ => rfl)))))
      (pss_cons (ps_if (pt_cmpR (ko_neD K hr.un) (pe_ix (kx_seq K) (pv 0) pe_int (fun _ _ => rfl)) (pe_lst pa_nil) (nomark _))
      (pss_cons (ps_set (i := 3) sc__law_take.nd rfl (Or.inl rfl) (pe_bm0 PySem.F.plainAttrs_list PySem.F.slot_list_pop PySem.F.type_list_pop mt_pop (pe_ix (kx_seq K) (pv 0) pe_int (fun _ _ => rfl))))
      (pss_cons (ps_if (pt_cmpR op_ge (pv 3) (pe_op op_pow pe_int pe_int) (nomark _))
      (pss_cons (ps_expr (pe_bm PySem.F.plainAttrs_list PySem.F.slot_list_append PySem.F.type_list_append mt_append (pe_ix (kx_seq K) (pv 0) pe_int (fun _ _ => rfl)) (pa_cons (pe_op op_fdivP (pv 3) (pv 1)) pa_nil)))
      (pss_one (ps_ret (pe_op op_mod (pv 3) (pv 1)))))
      pss_nil)
      (pss_one (ps_set (i := 2) sc__law_take.nd rfl (Or.inl rfl) (pe_op op_add (pv 2) (pv 3))))))
      pss_nil)
      (pss_cons (ps_set (i := 2) sc__law_take.nd rfl (Or.inl rfl) (pe_op op_mod (pe_op op_mulX (pe_op op_mod (pv 2) pe_int) pe_int) pe_int))
      (pss_cons (ps_set (i := 2) sc__law_take.nd rfl (Or.inl rfl) (pe_op op_mod (pe_op op_add (pe_op op_add (pe_op op_mulX (pv 2) (pv 2)) (pe_op op_mulX pe_int (pv 2))) pe_int) pe_int))
      (pss_one (ps_ret (pe_op op_mod (pe_op op_fdivP (pe_op op_mod (pe_op op_mulX (pv 2) pe_int) pe_int) pe_int) (pv 1))))))))), ?_⟩
    walk_at "sts"
    rename_i q hq
    refine ⟨_, .list [], Dp.lst (SqL.of (by walk_at "hp")) (dqInts ns), Dp.lst (SqL.of upd_same) .nil, shInts ns, rfl, ?_⟩
    have ql : q ≠ l := by walk_at "ne"
    have qp : q ≠ p := fun e => by
      rw [e, upd_same] at hq
      cases hq
    have K1 : Kp p l H (upd H p (.lst [.ref l, .int s0, .int (n + 1)])) := (Kp.refl p l H).setp ⟨_, h1⟩
    have K2 : Kp p l H (upd (upd H p (.lst [.ref l, .int s0, .int (n + 1)])) q (.lst [])) := K1.new hq
    walk_at "sts"
    rcases List.eq_nil_or_concat ns with rfl | ⟨ms, z, rfl⟩
    · walk_at "ie"
      walk_at "sts"
      exact k _ _ (Int.emod_nonneg _ (by omega)) (Int.emod_lt_of_pos _ w0) ⟨⟨s0, n + 1, [], by walk_at "hp", by walk_at "hp", h3, by omega, by omega⟩, ne⟩ K2
    · have e0 : (PyData.list ((ms.concat z).map PyData.int)).eqv (.list []) = false := by
        rw [eqv_lnil]
        simp
      refine ifT (by rw [e0]; rfl) ?_
      simp only [List.concat_eq_append, List.map_append, List.map_cons, List.map_nil] at h2
      walk_at "sts"
      refine ⟨.inl ⟨rfl, _, SqL.of (by walk_at "hp")⟩, l, ms.map V.int ++ [.int z], .int z, rfl, rfl, by walk_at "hp", by simp, ?_⟩
      rw [List.dropLast_concat]
      have K3 := K2.setl (xs := ms.map V.int) ⟨_, h2⟩
      have h3' : ms.length + 1 ≤ 61 := by simpa using h3
      walk_at "sts"
      refine if2 (fun h => ?_) (fun h => ?_)
      · walk_at "sts"
        refine ⟨.inl ⟨rfl, _, SqL.of upd_same⟩, ?_⟩
        walk_at "sts"
        refine ⟨l, ms.map V.int, _, rfl, rfl, upd_same, small1000 (by rw [List.length_map]; omega), ?_⟩
        walk_at "sts"
        exact k _ _ (Int.emod_nonneg _ (by omega)) (Int.emod_lt_of_pos _ w0) ⟨⟨s0, n + 1, ms ++ [z / ways], by walk_at "hp", by rw [upd_same]; simp, by simp; omega, by omega, by omega⟩, ne⟩ (K3.setl ⟨_, h2⟩)
      · walk_at "sts"
        exact k _ _ (Int.emod_nonneg _ (by omega)) (Int.emod_lt_of_pos _ w0) ⟨⟨s0, n + 1, ms, by walk_at "hp", upd_same, by omega, by omega, by omega⟩, ne⟩ K3
def sp__law_begin (K : PySem.W.Frag) : Sp := fun vs H Q _ => ∃ (a : Addr) (ns : List Int), vs = [.ref a] ∧ SqL K H a (ns.map V.int) ∧ ∀ p l H', H p = none → H l = none → Stk H' p l 0 → Sm H H' → Q (.ref p) H'
theorem ok__law_begin {P : Program} {w : World} {K : PySem.W.Frag} {mg : Str → Option Value} {base : Heap} {f : Addr} {fd : FuncData} (F : Fun K "_law_begin" "_law_begin" s__law_begin f fd) (T : Txt mg) (hB : ∃ o, base.get? sysModules = some o) :
    FnG P w K mg base CX0 1 f fd ["_law_script"] (sp__law_begin K) := by
  refine okG F sc__law_begin (fun vs H Q E h => ?_) (fun cdv A out s H vs Q E hr h => ?_)
  · obtain ⟨a, ns, rfl, _⟩ := h; rfl
  · obtain ⟨a, ns, rfl, hs, k⟩ := h
    refine ⟨_, (pss_cons (ps_par (i := 1) (j := 2) (by rfl) sc__law_begin.nd rfl rfl (by decide) rfl rfl (pa_cons (pe_callTy call_list_of (by rfl) T.z_list (by decide +kernel) (pa_cons (pe_slice sl_list (pv 0) po_none (po_some pe_int)) pa_nil)) (pa_cons pe_int pa_nil)) (by rfl))
      (pss_cons (ps_for PassesOwn.never rfl (kp_list K (pv 1)) (pg_name (i := 3) sc__law_begin.nd rfl (Or.inl rfl))
      (pss_one (ps_set (i := 2) sc__law_begin.nd rfl (Or.inl rfl) (pe_op op_mod (pe_op op_add (pe_op op_add (pe_op op_mulX (pv 2) pe_int) (pe_op op_mod (pv 3) pe_int)) pe_int) pe_int))))
      (pss_one (ps_ret (pe_lst (pa_cons (pe_revL (pv 1)) (pa_cons (pv 2) (pa_cons pe_int pa_nil)))))))), ?_⟩
    walk_at "sts"
    rename_i q1 n1 q2 n2
    have ec : cutV (ns.map V.int) none (some 61) = (ns.take 61).map V.int := (cut_take _ 61).trans (List.map_take ..).symm
    rw [ec] at n2 ⊢
    have M : Sm H (upd (upd H q1 (.lst ((ns.take 61).map V.int))) q2 (.lst ((ns.take 61).map V.int))) := ((Sm.refl H).new n1).new n2
    refine ⟨⟨_, SqL.of upd_same⟩, list_bx (xs := (ns.take 61).map V.int) (fun i σ H' => H' = upd (upd H q1 (.lst ((ns.take 61).map V.int))) q2 (.lst ((ns.take 61).map V.int)) ∧ ∃ (s : Int) (v : Option V), σ = [some (.ref a), some (.ref q2), some (.int s), v] ∧ 0 ≤ s ∧ s < 10 ^ 12) ⟨rfl, _, _, rfl, by decide, by decide⟩ (fun i σ H' _ ⟨e, _⟩ => by rw [e]; exact SqL.of upd_same) ?_ ?_⟩
    · rintro i x σ H' hx ⟨rfl, s, v, rfl, b0, b1⟩
      obtain ⟨z, _, rfl⟩ : ∃ z, z ∈ ns.take 61 ∧ V.int z = x := List.mem_map.mp (List.mem_of_getElem? hx)
      walk_at "sts"
      exact .mk ⟨rfl, _, _, rfl, by omega, by omega⟩
    · rintro σ H' ⟨rfl, s, v, rfl, b0, b1⟩
      walk_at "sts"
      rename_i l nl p np
      have h1 : H l = none := M.free nl
      have M2 := M.new (o := .lst ((ns.take 61).map V.int).reverse) nl
      refine k p l _ (M2.free np) h1 ⟨⟨s, 0, (ns.take 61).reverse, upd_same, ?_, ?_, by decide, by decide⟩, ?_⟩ (M2.new np)
      · rw [List.map_reverse]
        walk_at "hp"
      · simp
        omega
      · intro e
        rw [e, upd_same] at np
        cases np
def sp__law_pick (K : PySem.W.Frag) : Sp := fun vs H Q _ => ∃ (p l b : Addr) (c : Int) (xs : List V), vs = [.ref p, .ref b] ∧ Stk H p l c ∧ c < bigC ∧ H b = some (.lst xs) ∧ b ≠ p ∧ b ≠ l ∧ 0 < xs.length ∧ xs.length < 1000 ∧
  ∀ (i : Nat) (v : V) (H' : Hp), xs[i]? = some v → Stk H' p l (c + 1) → Kp p l H H' → Q v H'
theorem ok__law_pick {P : Program} {w : World} {K : PySem.W.Frag} {mg : Str → Option Value} {base : Heap} {f : Addr} {fd : FuncData} (F : Fun K "_law_pick" "_law_pick" s__law_pick f fd) (T : Txt mg) (hB : ∃ o, base.get? sysModules = some o)
    (d__law_take : DefG P w K mg base 1 "_law_take" s__law_take ["_law_stock", "_law_ways"] (sp__law_take K)) :
    FnG P w K mg base CX0 2 f fd ["_law_stock", "_law_some"] (sp__law_pick K) := by
  refine okG F sc__law_pick (fun vs H Q E h => ?_) (fun cdv A out s H vs Q E hr h => ?_)
  · obtain ⟨p, l, b, c, xs, rfl, _⟩ := h; rfl
  · obtain ⟨p, l, b, c, xs, rfl, S, hc, hb, n1, n2, z1, z2, k⟩ := h
    refine ⟨_, (pss_one (ps_ret (pe_ix (kx_seq K) (pv 1) (pc d__law_take b__law_take hr (by decide) (pa_cons (pv 0) (pa_cons (pe_callB (kc_len K) (by rfl) T.z_len PySem.boot_len (pa_cons (pv 1) pa_nil)) pa_nil))) (fun _ _ => rfl)))), ?_⟩
    walk_at "sts"
    rename_i r H' r0 r1 S' K'
    obtain ⟨i, rfl⟩ := Int.eq_ofNat_of_zero_le r0
    have hi : i < xs.length := by omega
    refine .inl ⟨b, xs, i, xs[i], rfl, rfl, SqL.of (by walk_at "hp"), ?_, ?_⟩
    · unfold atI ixN
      rw [if_pos (by omega), if_pos (by omega)]
      simp
    · exact k i _ H' (by simp) S' K'
def sp__law_lowest (_ : PySem.W.Frag) : Sp := fun vs H Q _ => ∃ a b : Int, vs = [.int a, .int b] ∧ b ≠ 0 ∧ b.natAbs < 2 ^ 8000 ∧ ∀ v H', NmAt H' v (mkN a b) → Sm H H' → Q v H'
theorem ok__law_lowest {P : Program} {w : World} {K : PySem.W.Frag} {mg : Str → Option Value} {base : Heap} {f : Addr} {fd : FuncData} (F : Fun K "_law_lowest" "_law_lowest" s__law_lowest f fd) (T : Txt mg) (hB : ∃ o, base.get? sysModules = some o) :
    FnG P w K mg base CX0 1 f fd ["_law_top_here", "_law_bottom_here"] (sp__law_lowest K) := by
  refine okG F sc__law_lowest (fun vs H Q E h => ?_) (fun cdv A out s H vs Q E hr h => ?_)
  · obtain ⟨a, b, rfl, _⟩ := h; rfl
  · obtain ⟨a, b, rfl, b0, bz, k⟩ := h
    obtain ⟨c1, c2⟩ := dv_ok (a := a) b0 bz
    refine ⟨_, (pss_cons (ps_par (i := 2) (j := 3) (by rfl) sc__law_lowest.nd rfl rfl (by decide) rfl rfl (pa_cons (pv 0) (pa_cons (pv 1) pa_nil)) (by rfl))
      (pss_cons (ps_while PassesOwn.never (pt_cmpR op_ne (pv 3) pe_int (nomark _))
      (pss_one (ps_par (i := 2) (j := 3) (by rfl) sc__law_lowest.nd rfl rfl (by decide) rfl rfl (pa_cons (pv 3) (pa_cons (pe_op op_modN (pv 2) (pv 3)) pa_nil)) (by rfl))))
      (pss_cons (ps_set (i := 4) sc__law_lowest.nd rfl (Or.inl rfl) (pe_ifExp (pt_cmpR op_gt (pv 1) pe_int (nomark _)) (pe_callB call_abs (by rfl) T.z_abs (by decide +kernel) (pa_cons (pv 2) pa_nil)) (pe_op op_sub pe_int (pe_callB call_abs (by rfl) T.z_abs (by decide +kernel) (pa_cons (pv 2) pa_nil)))))
      (pss_one (ps_ret (pe_ifExp (pt_cmpR op_eq (pv 1) (pv 4) (nomark _)) (pe_op op_fdivX (pv 0) (pv 4)) (pe_tup (pa_cons (pe_op op_fdivX (pv 0) (pv 4)) (pa_cons (pe_op op_fdivX (pv 1) (pv 4)) pa_nil))))))))), ?_⟩
    walk_at "sts"
    refine while_bx (fun σ H' => H' = H ∧ ∃ x y : Int, σ = [some (.int a), some (.int b), some (.int x), some (.int y), none] ∧ gcdI x y = gcdI a b) (fun σ _ => match σ with | [_, _, _, some (.int y), _] => y.natAbs | _ => 0) ⟨rfl, a, b, rfl, rfl⟩ ?_ mono_ne
    rintro σ H' ⟨rfl, x, y, rfl, e⟩
    walk_at "sts"
    refine if2 (fun h => ?_) (fun h => ?_)
    · have hy : y ≠ 0 := by simpa [dI] using h
      walk_at "sts"
      exact .mk ⟨⟨rfl, y, _, rfl, (gcdI_step hy).trans e⟩, fmod_less hy⟩
    · have hy : y = 0 := by simpa [dI] using h
      subst hy
      have e1 : (if x < 0 then -x else x) = gcdI a b := by rw [← gcdI_zero, e]
      walk_at "sts"
      refine if2 (fun h => ?_) (fun h => ?_)
      · have hb : 0 < b := by simpa using h
        have ed : gcdI a b = dv a b := by
          unfold dv
          rw [if_neg (by omega)]
        walk_at "sts"
        rw [e1, ed]
        refine if2 (fun h => ?_) (fun h => ?_)
        · have hb : b = dv a b := by simpa [dI] using h
          walk_at "sts"
          refine k _ _ ?_ (Sm.refl _)
          rw [mkN_dv, if_pos hb]
          exact .i _
        · have hb : b ≠ dv a b := by simpa [dI] using h
          walk_at "sts"
          refine k _ _ ?_ (by walk_at "sm")
          rw [mkN_dv, if_neg hb]
          exact .f upd_same
      · have hb : ¬ 0 < b := by simpa using h
        have ed : 0 - gcdI a b = dv a b := by
          unfold dv
          rw [if_pos (by omega)]
          omega
        have ed' : (fun i j : Int => V.int (i - j)) 0 (gcdI a b) = V.int (dv a b) := by
          show V.int (0 - gcdI a b) = _
          rw [ed]
        walk_at "sts"
        rw [e1, ed']
        refine if2 (fun h => ?_) (fun h => ?_)
        · have hb : b = dv a b := by simpa [dI] using h
          walk_at "sts"
          refine k _ _ ?_ (Sm.refl _)
          rw [mkN_dv, if_pos hb]
          exact .i _
        · have hb : b ≠ dv a b := by simpa [dI] using h
          walk_at "sts"
          refine k _ _ ?_ (by walk_at "sm")
          rw [mkN_dv, if_neg hb]
          exact .f upd_same
def sp__law_top (K : PySem.W.Frag) : Sp := sp_top_of K
theorem ok__law_top {P : Program} {w : World} {K : PySem.W.Frag} {mg : Str → Option Value} {base : Heap} {f : Addr} {fd : FuncData} (F : Fun K "_law_top" "_law_top" s__law_top f fd) (T : Txt mg) (hB : ∃ o, base.get? sysModules = some o) :
    FnG P w K mg base CX0 1 f fd ["_law_figure"] (sp__law_top K) := by
  refine okG F sc__law_top (fun vs H Q E h => ?_) (fun cdv A out s H vs Q E hr h => ?_)
  · obtain ⟨v, q, rfl, _⟩ := h; rfl
  · obtain ⟨v, q, rfl, hq, k⟩ := h
    refine ⟨_, (pss_one (ps_ret (pe_ifExp (pt_val (pe_callB (kc_isi K) (by rfl) T.z_isinstance (by decide +kernel) (pa_cons (pv 0) (pa_cons (pe_bltn (v := .ty "tuple") (by rfl) T.z_tuple (by decide +kernel) rfl) pa_nil)))) (pe_ix (kx_seq K) (pv 0) pe_int (fun _ _ => rfl)) (pv 0)))), ?_⟩
    cases hq with
    | i n => walk_at "sts"; exact k
    | f h => walk_at "sts"; exact k
def sp__law_bottom (K : PySem.W.Frag) : Sp := sp_bottom_of K
theorem ok__law_bottom {P : Program} {w : World} {K : PySem.W.Frag} {mg : Str → Option Value} {base : Heap} {f : Addr} {fd : FuncData} (F : Fun K "_law_bottom" "_law_bottom" s__law_bottom f fd) (T : Txt mg) (hB : ∃ o, base.get? sysModules = some o) :
    FnG P w K mg base CX0 1 f fd ["_law_figure"] (sp__law_bottom K) := by
  refine okG F sc__law_bottom (fun vs H Q E h => ?_) (fun cdv A out s H vs Q E hr h => ?_)
  · obtain ⟨v, q, rfl, _⟩ := h; rfl
  · obtain ⟨v, q, rfl, hq, k⟩ := h
    refine ⟨_, (pss_one (ps_ret (pe_ifExp (pt_val (pe_callB (kc_isi K) (by rfl) T.z_isinstance (by decide +kernel) (pa_cons (pv 0) (pa_cons (pe_bltn (v := .ty "tuple") (by rfl) T.z_tuple (by decide +kernel) rfl) pa_nil)))) (pe_ix (kx_seq K) (pv 0) pe_int (fun _ _ => rfl)) pe_int))), ?_⟩
    cases hq with
    | i n => walk_at "sts"; exact k
    | f h => walk_at "sts"; exact k
def sp__law_plus (K : PySem.W.Frag) : Sp := sp_plus K
theorem ok__law_plus {P : Program} {w : World} {K : PySem.W.Frag} {mg : Str → Option Value} {base : Heap} {f : Addr} {fd : FuncData} (F : Fun K "_law_plus" "_law_plus" s__law_plus f fd) (T : Txt mg) (hB : ∃ o, base.get? sysModules = some o)
    (d__law_lowest : DefG P w K mg base 1 "_law_lowest" s__law_lowest ["_law_top_here", "_law_bottom_here"] (sp__law_lowest K))
    (d__law_bottom : DefG P w K mg base 1 "_law_bottom" s__law_bottom ["_law_figure"] (sp__law_bottom K))
    (d__law_top : DefG P w K mg base 1 "_law_top" s__law_top ["_law_figure"] (sp__law_top K)) :
    FnG P w K mg base CX0 2 f fd ["_law_mine", "_law_theirs"] (sp__law_plus K) := by
  refine okG F sc__law_plus (fun vs H Q E h => ?_) (fun cdv A out s H vs Q E hr h => ?_)
  · obtain ⟨v, u, p, q, rfl, _⟩ := h; rfl
  · obtain ⟨v, u, p, q, rfl, hp, hq, bp, bq, k⟩ := h
    have c1 := bgN bp.2.1 (by decide)
    have c2 := bgN bp.2.2 (by decide)
    have c3 := bgN bq.2.1 (by decide)
    have c4 := bgN bq.2.2 (by decide)
    have nz := nz2 bp bq
    refine ⟨_, (pss_cons (ps_par (i := 2) (j := 3) (by rfl) sc__law_plus.nd rfl rfl (by decide) rfl rfl (pa_cons (pc d__law_bottom b__law_bottom hr (by decide) (pa_cons (pv 0) pa_nil)) (pa_cons (pc d__law_bottom b__law_bottom hr (by decide) (pa_cons (pv 1) pa_nil)) pa_nil)) (by rfl))
      (pss_one (ps_ret (pc d__law_lowest b__law_lowest hr (by decide) (pa_cons (pe_op op_add (pe_op op_mulX (pc d__law_top b__law_top hr (by decide) (pa_cons (pv 0) pa_nil)) (pv 3)) (pe_op op_mulX (pc d__law_top b__law_top hr (by decide) (pa_cons (pv 1) pa_nil)) (pv 2))) (pa_cons (pe_op op_mulX (pv 2) (pv 3)) pa_nil)))))), ?_⟩
    walk_at "sts"
    first
      | exact k _ _ (by assumption) (by walk_at "sm")
      | exact ⟨_, _, rfl, nz.1, nz.2, fun w H' hw hs => k w H' hw hs⟩
def sp__law_times (K : PySem.W.Frag) : Sp := sp_times K
theorem ok__law_times {P : Program} {w : World} {K : PySem.W.Frag} {mg : Str → Option Value} {base : Heap} {f : Addr} {fd : FuncData} (F : Fun K "_law_times" "_law_times" s__law_times f fd) (T : Txt mg) (hB : ∃ o, base.get? sysModules = some o)
    (d__law_lowest : DefG P w K mg base 1 "_law_lowest" s__law_lowest ["_law_top_here", "_law_bottom_here"] (sp__law_lowest K))
    (d__law_top : DefG P w K mg base 1 "_law_top" s__law_top ["_law_figure"] (sp__law_top K))
    (d__law_bottom : DefG P w K mg base 1 "_law_bottom" s__law_bottom ["_law_figure"] (sp__law_bottom K)) :
    FnG P w K mg base CX0 2 f fd ["_law_mine", "_law_theirs"] (sp__law_times K) := by
  refine okG F sc__law_times (fun vs H Q E h => ?_) (fun cdv A out s H vs Q E hr h => ?_)
  · obtain ⟨v, u, p, q, rfl, _⟩ := h; rfl
  · obtain ⟨v, u, p, q, rfl, hp, hq, bp, bq, k⟩ := h
    have c1 := bgN bp.2.1 (by decide)
    have c2 := bgN bp.2.2 (by decide)
    have c3 := bgN bq.2.1 (by decide)
    have c4 := bgN bq.2.2 (by decide)
    have nz := nz2 bp bq
    refine ⟨_, (pss_one (ps_ret (pc d__law_lowest b__law_lowest hr (by decide) (pa_cons (pe_op op_mulX (pc d__law_top b__law_top hr (by decide) (pa_cons (pv 0) pa_nil)) (pc d__law_top b__law_top hr (by decide) (pa_cons (pv 1) pa_nil))) (pa_cons (pe_op op_mulX (pc d__law_bottom b__law_bottom hr (by decide) (pa_cons (pv 0) pa_nil)) (pc d__law_bottom b__law_bottom hr (by decide) (pa_cons (pv 1) pa_nil))) pa_nil))))), ?_⟩
    walk_at "sts"
    first
      | exact k _ _ (by assumption) (by walk_at "sm")
      | exact ⟨_, _, rfl, nz.1, nz.2, fun w H' hw hs => k w H' hw hs⟩
def sp__law_over (K : PySem.W.Frag) : Sp := sp_over K
theorem ok__law_over {P : Program} {w : World} {K : PySem.W.Frag} {mg : Str → Option Value} {base : Heap} {f : Addr} {fd : FuncData} (F : Fun K "_law_over" "_law_over" s__law_over f fd) (T : Txt mg) (hB : ∃ o, base.get? sysModules = some o)
    (d__law_lowest : DefG P w K mg base 1 "_law_lowest" s__law_lowest ["_law_top_here", "_law_bottom_here"] (sp__law_lowest K))
    (d__law_top : DefG P w K mg base 1 "_law_top" s__law_top ["_law_figure"] (sp__law_top K))
    (d__law_bottom : DefG P w K mg base 1 "_law_bottom" s__law_bottom ["_law_figure"] (sp__law_bottom K)) :
    FnG P w K mg base CX0 2 f fd ["_law_mine", "_law_theirs"] (sp__law_over K) := by
  refine okG F sc__law_over (fun vs H Q E h => ?_) (fun cdv A out s H vs Q E hr h => ?_)
  · obtain ⟨v, u, p, q, rfl, _⟩ := h; rfl
  · obtain ⟨v, u, p, q, rfl, hp, hq, bp, bq, n, k⟩ := h
    have c1 := bgN bp.2.1 (by decide)
    have c2 := bgN bp.2.2 (by decide)
    have c3 := bgN bq.2.1 (by decide)
    have c4 := bgN bq.2.2 (by decide)
    have nz := nz3 bp bq n
    refine ⟨_, (pss_one (ps_ret (pc d__law_lowest b__law_lowest hr (by decide) (pa_cons (pe_op op_mulX (pc d__law_top b__law_top hr (by decide) (pa_cons (pv 0) pa_nil)) (pc d__law_bottom b__law_bottom hr (by decide) (pa_cons (pv 1) pa_nil))) (pa_cons (pe_op op_mulX (pc d__law_bottom b__law_bottom hr (by decide) (pa_cons (pv 0) pa_nil)) (pc d__law_top b__law_top hr (by decide) (pa_cons (pv 1) pa_nil))) pa_nil))))), ?_⟩
    walk_at "sts"
    first
      | exact k _ _ (by assumption) (by walk_at "sm")
      | exact ⟨_, _, rfl, nz.1, nz.2, fun w H' hw hs => k w H' hw hs⟩
def sp__law_text (K : PySem.W.Frag) : Sp := sp_show_number K
theorem ok__law_text {P : Program} {w : World} {K : PySem.W.Frag} {mg : Str → Option Value} {base : Heap} {f : Addr} {fd : FuncData} (F : Fun K "_law_text" "_law_text" s__law_text f fd) (T : Txt mg) (hB : ∃ o, base.get? sysModules = some o) :
    FnG P w K mg base CX0 1 f fd ["_law_figure"] (sp__law_text K) := by
  refine okG F sc__law_text (fun vs H Q E h => ?_) (fun cdv A out s H vs Q E hr h => ?_)
  · obtain ⟨v, q, rfl, _⟩ := h; rfl
  · obtain ⟨v, q, rfl, hq, b, k⟩ := h
    refine ⟨_, (pss_one (ps_ret (pe_ifExp (pt_val (pe_callB (kc_isi K) (by rfl) T.z_isinstance (by decide +kernel) (pa_cons (pv 0) (pa_cons (pe_bltn (v := .ty "tuple") (by rfl) T.z_tuple (by decide +kernel) rfl) pa_nil)))) (pe_op op_add_str (pe_op op_add_str (pe_callTy call_str_int (by rfl) T.z_str (by decide +kernel) (pa_cons (pe_ix (kx_seq K) (pv 0) pe_int (fun _ _ => rfl)) pa_nil)) pe_str) (pe_callTy call_str_int (by rfl) T.z_str (by decide +kernel) (pa_cons (pe_ix (kx_seq K) (pv 0) pe_int (fun _ _ => rfl)) pa_nil))) (pe_callTy call_str_int (by rfl) T.z_str (by decide +kernel) (pa_cons (pv 0) pa_nil))))), ?_⟩
    cases hq with
    | i n =>
      walk_at "sts"
      exact ⟨show n.natAbs.log2 < 1920 from Nat.lt_trans (int_sh (b.big (by decide)).1) (by decide), k⟩
    | f h =>
      have z1 : _ := int_sh (b.big (by decide)).1
      have z2 : _ := int_sh (b.big (by decide)).2
      have l1 := itxt (b.big (by decide)).1
      have l2 := itxt (b.big (by decide)).2
      simp only [Nm.t, Nm.b] at z1 z2 l1 l2
      walk_at "sts"
      refine ⟨siz (Nat.le_trans (Nat.add_le_add l1 (by decide : (Str.ofString "/").length ≤ 1)) (by decide)), ?_⟩
      walk_at "sts"
      refine ⟨siz ?_, k⟩
      rw [Str.length_append]
      exact Nat.le_trans (Nat.add_le_add (Nat.add_le_add l1 (by decide : (Str.ofString "/").length ≤ 1)) l2) (by decide)
/-! ### what the law draws -/
theorem bI {i : Int} (h : i.natAbs < 10 ^ 41) : B 41 (.i i) := B.int (e := 40) h
theorem bM {a b : Int} (h : b ≠ 0) (h1 : a.natAbs < 10 ^ 41) (h2 : b.natAbs < 10 ^ 41) : B 41 (mkN a b) := B.mkN h h1 h2
def sp__law_number (_ : PySem.W.Frag) : Sp := fun vs H Q _ => ∃ (p l : Addr) (c w : Int), vs = [.ref p, .int w] ∧ Stk H p l c ∧ c + 6 < bigC ∧
  ∀ q v H', NmAt H' v q → B 41 q → Stk H' p l (c + 6) → Kp p l H H' → Q v H'
theorem ok__law_number {P : Program} {w : World} {K : PySem.W.Frag} {mg : Str → Option Value} {base : Heap} {f : Addr} {fd : FuncData} (F : Fun K "_law_number" "_law_number" s__law_number f fd) (T : Txt mg) (hB : ∃ o, base.get? sysModules = some o)
    (d__law_take : DefG P w K mg base 1 "_law_take" s__law_take ["_law_stock", "_law_ways"] (sp__law_take K))
    (d__law_lowest : DefG P w K mg base 1 "_law_lowest" s__law_lowest ["_law_top_here", "_law_bottom_here"] (sp__law_lowest K))
    (d__law_pick : DefG P w K mg base 2 "_law_pick" s__law_pick ["_law_stock", "_law_some"] (sp__law_pick K)) :
    FnG P w K mg base CX0 3 f fd ["_law_stock", "_law_way"] (sp__law_number K) := by
  refine okG F sc__law_number (fun vs H Q E h => ?_) (fun cdv A out s H vs Q E hr h => ?_)
  · obtain ⟨p, l, c, w, rfl, _⟩ := h; rfl
  · obtain ⟨p, l, c, w, rfl, S, hc, k⟩ := h
    refine ⟨_, (pss_cons (ps_if (pt_cmpR op_eq (pv 1) pe_int (nomark _))
      (pss_one (ps_set (i := 1) sc__law_number.nd rfl (Or.inl rfl) (pc d__law_take b__law_take hr (by decide) (pa_cons (pv 0) (pa_cons pe_int pa_nil)))))
      pss_nil)
      (pss_cons (ps_if (pt_cmpR op_eq (pv 1) pe_int (nomark _))
      (pss_one (ps_ret (pe_op op_sub (pc d__law_take b__law_take hr (by decide) (pa_cons (pv 0) (pa_cons pe_int pa_nil))) pe_int)))
      pss_nil)
      (pss_cons (ps_if (pt_cmpR op_eq (pv 1) pe_int (nomark _))
      (pss_one (ps_ret (pc d__law_lowest b__law_lowest hr (by decide) (pa_cons (pe_op op_sub (pc d__law_take b__law_take hr (by decide) (pa_cons (pv 0) (pa_cons pe_int pa_nil))) pe_int) (pa_cons (pe_op op_add pe_int (pc d__law_take b__law_take hr (by decide) (pa_cons (pv 0) (pa_cons pe_int pa_nil)))) pa_nil)))))
      pss_nil)
      (pss_cons (ps_if (pt_cmpR op_eq (pv 1) pe_int (nomark _))
      (pss_cons (ps_set (i := 2) sc__law_number.nd rfl (Or.inl rfl) (pe_op op_add (pe_op op_mulX (pc d__law_take b__law_take hr (by decide) (pa_cons (pv 0) (pa_cons (pe_op op_pow pe_int pe_int) pa_nil))) (pe_op op_pow pe_int pe_int)) (pc d__law_take b__law_take hr (by decide) (pa_cons (pv 0) (pa_cons (pe_op op_pow pe_int pe_int) pa_nil)))))
      (pss_one (ps_ret (pc d__law_lowest b__law_lowest hr (by decide) (pa_cons (pc d__law_pick b__law_pick hr (by decide) (pa_cons (pv 0) (pa_cons (pe_lstS (pa_cons (pv 2) (pa_cons (pe_op op_sub pe_int (pv 2)) pa_nil))) pa_nil))) (pa_cons (pe_op op_add pe_int (pe_op op_mulX (pc d__law_take b__law_take hr (by decide) (pa_cons (pv 0) (pa_cons (pe_op op_pow pe_int pe_int) pa_nil))) (pe_op op_pow pe_int pe_int))) pa_nil))))))
      pss_nil)
      (pss_one (ps_ret (pe_op op_sub (pc d__law_take b__law_take hr (by decide) (pa_cons (pv 0) (pa_cons pe_int pa_nil))) pe_int))))))), ?_⟩
    walk_at "sts"
    refine if2 (fun h => ?_) (fun h => ?_)
    all_goals
      walk_at "sts"
      refine if2 (fun h => ?_) (fun h => ?_)
      · walk_at "sts"
        refine k _ _ _ (.i _) (bI (by omega)) (Stk.le (by walk_at "stk") (by omega)) (by walk_at "kp")
      walk_at "sts"
      refine if2 (fun h => ?_) (fun h => ?_)
      · walk_at "sts"
        refine k _ _ _ (by walk_at "nm") (bM (by omega) (by omega) (by omega)) (Stk.le (by walk_at "stk") (by omega)) (by walk_at "kp")
      walk_at "sts"
      refine if2 (fun h => ?_) (fun h => ?_)
      · walk_at "sts"
        rename_i r1 H1 a0 a1 S1 K1
        have a1 : r1 < 10 ^ 20 := a1
        walk_at "sts"
        rename_i r2 H2 b0 b1 S2 K2 q H5 n5 s5 e5 i v H3 hi S3 K3 r3 H4 c0 c1 S4 K4
        have b1 : r2 < 10 ^ 20 := b1
        have c1 : r3 < 10 ^ 20 := c1
        have e20 : (10 : Int) ^ Int.toNat 20 = 10 ^ 20 := by decide
        obtain ⟨x, rfl, x0⟩ : ∃ x : Int, v = .int x ∧ x.natAbs < 10 ^ 41 := by
          rcases i with _ | _ | i
          · cases hi; exact ⟨_, rfl, by rw [e20]; omega⟩
          · cases hi; exact ⟨_, rfl, by rw [e20]; omega⟩
          · cases hi
        clear e20
        walk_at "sts"
        have e19 : (10 : Int) ^ Int.toNat 19 = 10 ^ 19 := by decide
        have m0 : 1 + r3 * 10 ^ Int.toNat 19 ≠ 0 ∧ (1 + r3 * 10 ^ Int.toNat 19).natAbs < 10 ^ 41 := by rw [e19]; omega
        refine ⟨m0.1, bgN m0.2 (by decide), fun w H6 hw s6 => ?_⟩
        refine k _ _ _ hw (bM m0.1 x0 m0.2) (Stk.le (by walk_at "stk") (by omega)) (by walk_at "kp")
      walk_at "sts"
      refine k _ _ _ (.i _) (bI (by omega)) (Stk.le (by walk_at "stk") (by omega)) (by walk_at "kp")
def sp__law_second (_ : PySem.W.Frag) : Sp := fun vs H Q _ => ∃ (p l : Addr) (c : Int) (v : V) (q : Nm), vs = [.ref p, v] ∧ Stk H p l c ∧ c + 8 < bigC ∧ NmAt H v q ∧ B 41 q ∧
  ∀ q' v' H', NmAt H' v' q' → B 42 q' → Stk H' p l (c + 8) → Kp p l H H' → Q v' H'
theorem ok__law_second {P : Program} {w : World} {K : PySem.W.Frag} {mg : Str → Option Value} {base : Heap} {f : Addr} {fd : FuncData} (F : Fun K "_law_second" "_law_second" s__law_second f fd) (T : Txt mg) (hB : ∃ o, base.get? sysModules = some o)
    (d__law_take : DefG P w K mg base 1 "_law_take" s__law_take ["_law_stock", "_law_ways"] (sp__law_take K))
    (d__law_number : DefG P w K mg base 3 "_law_number" s__law_number ["_law_stock", "_law_way"] (sp__law_number K))
    (d__law_times : DefG P w K mg base 2 "_law_times" s__law_times ["_law_mine", "_law_theirs"] (sp__law_times K))
    (d__law_lowest : DefG P w K mg base 1 "_law_lowest" s__law_lowest ["_law_top_here", "_law_bottom_here"] (sp__law_lowest K))
    (d__law_bottom : DefG P w K mg base 1 "_law_bottom" s__law_bottom ["_law_figure"] (sp__law_bottom K))
    (d__law_top : DefG P w K mg base 1 "_law_top" s__law_top ["_law_figure"] (sp__law_top K)) :
    FnG P w K mg base CX0 4 f fd ["_law_stock", "_law_mine"] (sp__law_second K) := by
  refine okG F sc__law_second (fun vs H Q E h => ?_) (fun cdv A out s H vs Q E hr h => ?_)
  · obtain ⟨p, l, c, v, q, rfl, _⟩ := h; rfl
  · obtain ⟨p, l, c, v, q, rfl, S, hc, hq, bq, k⟩ := h
    refine ⟨_, (pss_cons (ps_set (i := 2) sc__law_second.nd rfl (Or.inl rfl) (pc d__law_take b__law_take hr (by decide) (pa_cons (pv 0) (pa_cons pe_int pa_nil))))
      (pss_cons (ps_if (pt_cmpR op_eq (pv 2) pe_int (nomark _))
      (pss_one (ps_ret (pv 1)))
      pss_nil)
      (pss_cons (ps_if (pt_cmpR op_eq (pv 2) pe_int (nomark _))
      (pss_one (ps_ret (pc d__law_times b__law_times hr (by decide) (pa_cons (pe_un un_neg pe_int) (pa_cons (pv 1) pa_nil)))))
      pss_nil)
      (pss_cons (ps_if (PW.pt (pw_and (pt_cmpR op_eq (pv 2) pe_int (nomark _)) (pw_and1 (pt_cmpR (ko_neD K hr.un) (pv 1) pe_int (nomark _)))))
      (pss_one (ps_ret (pc d__law_lowest b__law_lowest hr (by decide) (pa_cons (pc d__law_bottom b__law_bottom hr (by decide) (pa_cons (pv 1) pa_nil)) (pa_cons (pc d__law_top b__law_top hr (by decide) (pa_cons (pv 1) pa_nil)) pa_nil)))))
      pss_nil)
      (pss_one (ps_ret (pc d__law_number b__law_number hr (by decide) (pa_cons (pv 0) (pa_cons (pe_op op_mod (pv 2) pe_int) pa_nil))))))))), ?_⟩
    walk_at "sts"
    rename_i w H1 w0 w1 S1 K1
    refine if2 (fun h => ?_) (fun h => ?_)
    · walk_at "sts"
      exact k _ _ _ (hq.kp K1) (bq.up (by decide)) (Stk.le (by walk_at "stk") (by omega)) (by walk_at "kp")
    walk_at "sts"
    refine if2 (fun h => ?_) (fun h => ?_)
    · walk_at "sts"
      exact k _ _ _ (by assumption) (by walk_at "nb") (Stk.le (by walk_at "stk") (by omega)) (by walk_at "kp")
    walk_at "sts"
    refine if2 (fun h => ?_) (fun h => ?_)
    · walk_at "sts"
      refine tC_in (rNeD_nm (hq.kp K1) (.i 0) ?_)
      walk_at "sts"
      refine if2 (fun h => ?_) (fun h => ?_)
      · have n := tne bq.1 (by simpa using h)
        walk_at "sts"
        refine ⟨bgN bq.2.1 (by decide), fun w H6 hw s6 => ?_⟩
        exact k _ _ _ hw (B.mkN n (Nat.lt_trans bq.2.2 (by decide)) (Nat.lt_trans bq.2.1 (by decide))) (Stk.le (by walk_at "stk") (by omega)) (by walk_at "kp")
      · walk_at "sts"
        refine ⟨_, _, _, _, rfl, S1, by omega, fun q' v' H2 h2 b2 S2 K2 => ?_⟩
        exact k _ _ _ h2 (b2.up (by decide)) (Stk.le (by walk_at "stk") (by omega)) (by walk_at "kp")
    · walk_at "sts"
      refine ⟨_, _, _, _, rfl, S1, by omega, fun q' v' H2 h2 b2 S2 K2 => ?_⟩
      exact k _ _ _ h2 (b2.up (by decide)) (Stk.le (by walk_at "stk") (by omega)) (by walk_at "kp")
def sp__law_right (_ : PySem.W.Frag) : Sp := fun vs H Q _ => ∃ v u p q, vs = [v, u] ∧ NmAt H v p ∧ NmAt H u q ∧ B 42 p ∧ B 42 q ∧ ∀ H', Sm H H' → Q (.bl true) H'
theorem ok__law_right {P : Program} {w : World} {K : PySem.W.Frag} {mg : Str → Option Value} {base : Heap} {f : Addr} {fd : FuncData} (F : Fun K "_law_right" "_law_right" s__law_right f fd) (T : Txt mg) (hB : ∃ o, base.get? sysModules = some o)
    (d__law_plus : DefG P w K mg base 2 "_law_plus" s__law_plus ["_law_mine", "_law_theirs"] (sp__law_plus K))
    (d__law_times : DefG P w K mg base 2 "_law_times" s__law_times ["_law_mine", "_law_theirs"] (sp__law_times K))
    (d__law_over : DefG P w K mg base 2 "_law_over" s__law_over ["_law_mine", "_law_theirs"] (sp__law_over K))
    (d_show_number : DefG P w K mg base 1 "show_number" s_show_number ["number"] (sp_show_number K))
    (d__law_text : DefG P w K mg base 1 "_law_text" s__law_text ["_law_figure"] (sp__law_text K))
    (d_plus : DefG P w K mg base 3 "plus" s_plus ["one", "other"] (sp_plus K))
    (d_minus : DefG P w K mg base 4 "minus" s_minus ["one", "other"] (sp_minus K))
    (d_times : DefG P w K mg base 3 "times" s_times ["one", "other"] (sp_times K))
    (d_over : DefG P w K mg base 3 "over" s_over ["one", "other"] (sp_over K)) :
    FnG P w K mg base CX0 5 f fd ["_law_mine", "_law_theirs"] (sp__law_right K) := by
  refine okG F sc__law_right (fun vs H Q E h => ?_) (fun cdv A out s H vs Q E hr h => ?_)
  · obtain ⟨v, u, p, q, rfl, _⟩ := h; rfl
  · obtain ⟨v, u, p, q, rfl, hp, hq, bp, bq, k⟩ := h
    refine ⟨_, (pss_cons (ps_set (i := 2) sc__law_right.nd rfl (Or.inl rfl) (pe_lstS (pa_cons (pc d__law_plus b__law_plus hr (by decide) (pa_cons (pv 0) (pa_cons (pv 1) pa_nil))) (pa_cons (pc d__law_plus b__law_plus hr (by decide) (pa_cons (pv 0) (pa_cons (pc d__law_times b__law_times hr (by decide) (pa_cons (pe_un un_neg pe_int) (pa_cons (pv 1) pa_nil))) pa_nil))) (pa_cons (pc d__law_times b__law_times hr (by decide) (pa_cons (pv 0) (pa_cons (pv 1) pa_nil))) pa_nil)))))
      (pss_cons (ps_if (pt_cmpR op_ne (pe_callB (kc_repr K hr hB) (by rfl) T.z_repr (by decide +kernel) (pa_cons (pe_lstS (pa_cons (pc d_plus b_plus hr (by decide) (pa_cons (pv 0) (pa_cons (pv 1) pa_nil))) (pa_cons (pc d_minus b_minus hr (by decide) (pa_cons (pv 0) (pa_cons (pv 1) pa_nil))) (pa_cons (pc d_times b_times hr (by decide) (pa_cons (pv 0) (pa_cons (pv 1) pa_nil))) pa_nil)))) pa_nil)) (pe_callB (kc_repr K hr hB) (by rfl) T.z_repr (by decide +kernel) (pa_cons (pv 2) pa_nil)) (nomark _))
      (pss_one (ps_ret pe_bl))
      pss_nil)
      (pss_cons (ps_if (pt_cmpR op_ne (pe_callB (kc_repr K hr hB) (by rfl) T.z_repr (by decide +kernel) (pa_cons (pe_lstS (pa_cons (pcK0 d_plus bk1 gk1_rel hr (by decide) (pk_cons (pv 1) (pk_cons (pv 0) pk_nil))) (pa_cons (pcK0 d_minus bk2 gk2_rel hr (by decide) (pk_cons (pv 1) (pk_cons (pv 0) pk_nil))) pa_nil))) pa_nil)) (pe_callB (kc_repr K hr hB) (by rfl) T.z_repr (by decide +kernel) (pa_cons (pe_slice (ks_list K) (pv 2) po_none (po_some pe_int)) pa_nil)) (nomark _))
      (pss_one (ps_ret pe_bl))
      pss_nil)
      (pss_cons (ps_if (pt_cmpR op_ne (pe_callB (kc_repr K hr hB) (by rfl) T.z_repr (by decide +kernel) (pa_cons (pe_lstS (pa_cons (pc d_minus b_minus hr (by decide) (pa_cons (pe_ix (kx_seq K) (pv 2) pe_int (fun _ _ => rfl)) (pa_cons (pv 1) pa_nil))) (pa_cons (pc d_plus b_plus hr (by decide) (pa_cons (pe_ix (kx_seq K) (pv 2) pe_int (fun _ _ => rfl)) (pa_cons (pv 1) pa_nil))) (pa_cons (pcK0 d_times bk3 gk3_rel hr (by decide) (pk_cons (pv 1) (pk_cons (pv 0) pk_nil))) pa_nil)))) pa_nil)) (pe_callB (kc_repr K hr hB) (by rfl) T.z_repr (by decide +kernel) (pa_cons (pe_lstS (pa_cons (pv 0) (pa_cons (pv 0) (pa_cons (pe_ix (kx_seq K) (pv 2) pe_int (fun _ _ => rfl)) pa_nil)))) pa_nil)) (nomark _))
      (pss_one (ps_ret pe_bl))
      pss_nil)
      (pss_cons (ps_if (pt_cmpR (ko_neD K hr.un) (pv 1) pe_int (nomark _))
      (pss_cons (ps_set (i := 3) sc__law_right.nd rfl (Or.inl rfl) (pe_callB (kc_repr K hr hB) (by rfl) T.z_repr (by decide +kernel) (pa_cons (pc d__law_over b__law_over hr (by decide) (pa_cons (pv 0) (pa_cons (pv 1) pa_nil))) pa_nil)))
      (pss_cons (ps_if (pt_cmpR (ko_neD K hr.un) (pe_lstS (pa_cons (pe_callB (kc_repr K hr hB) (by rfl) T.z_repr (by decide +kernel) (pa_cons (pc d_over b_over hr (by decide) (pa_cons (pv 0) (pa_cons (pv 1) pa_nil))) pa_nil)) (pa_cons (pe_callB (kc_repr K hr hB) (by rfl) T.z_repr (by decide +kernel) (pa_cons (pcK0 d_over bk4 gk4_rel hr (by decide) (pk_cons (pv 1) (pk_cons (pv 0) pk_nil))) pa_nil)) pa_nil))) (pe_lstS (pa_cons (pv 3) (pa_cons (pv 3) pa_nil))) (nomark _))
      (pss_one (ps_ret pe_bl))
      pss_nil)
      (pss_one (ps_if (pt_cmpR op_ne (pe_callB (kc_repr K hr hB) (by rfl) T.z_repr (by decide +kernel) (pa_cons (pe_lstS (pa_cons (pc d_over b_over hr (by decide) (pa_cons (pe_ix (kx_seq K) (pv 2) pe_int (fun _ _ => rfl)) (pa_cons (pv 1) pa_nil))) (pa_cons (pc d_times b_times hr (by decide) (pa_cons (pc d_over b_over hr (by decide) (pa_cons (pv 0) (pa_cons (pv 1) pa_nil))) (pa_cons (pv 1) pa_nil))) pa_nil))) pa_nil)) (pe_callB (kc_repr K hr hB) (by rfl) T.z_repr (by decide +kernel) (pa_cons (pe_lstS (pa_cons (pv 0) (pa_cons (pv 0) pa_nil))) pa_nil)) (nomark _))
      (pss_one (ps_ret pe_bl))
      pss_nil))))
      pss_nil)
      (pss_one (ps_ret (pe_cmpR (ko_eqD K hr.un) (pe_lstS (pa_cons (pc d_show_number b_show_number hr (by decide) (pa_cons (pv 0) pa_nil)) (pa_cons (pcK0 d_show_number bk0 gk0_rel hr (by decide) (pk_cons (pv 1) pk_nil)) pa_nil))) (pe_lstS (pa_cons (pc d__law_text b__law_text hr (by decide) (pa_cons (pv 0) pa_nil)) (pa_cons (pc d__law_text b__law_text hr (by decide) (pa_cons (pv 1) pa_nil)) pa_nil))) (nomark _))))))))), ?_⟩
    have e1 := id_back bp.1 bq.1
    have e2 := id_forth bp.1 bq.1
    walk_at "sts"
    walk_at "ie"
    walk_at "sts"
    walk_at "ie"
    walk_at "sts"
    rw [e1, e2]
    walk_at "ie"
    walk_at "sts"
    refine tC_in (rNeD_nm (q := .i 0) (by walk_at "nm") (.i 0) ?_)
    walk_at "sts"
    refine if2 (fun h => ?_) (fun h => ?_)
    · have n := tne bq.1 (by simpa using h)
      have e3 := id_share bp.1 bq.1 n
      have e4 := id_whole bp.1 bq.1 n
      have o1 := ((bp.over bq n).shd (by decide)).1.txt
      walk_at "sts"
      refine rNeD_texts [(overN p q).d.shown, (overN p q).d.shown] (by walk_at "hp") (by walk_at "hp") ?_ ?_
      · simp only [List.mem_cons, List.not_mem_nil, or_false]
        rintro t (rfl | rfl)
        · exact o1
        · exact o1
      walk_at "sts"
      rw [e3, e4]
      walk_at "ie"
      walk_at "sts"
      refine rEqD_texts [numText p, numText q] (by walk_at "hp") (by walk_at "hp") ?_ (k _ (by walk_at "sm"))
      simp only [List.mem_cons, List.not_mem_nil, or_false]
      rintro t (rfl | rfl)
      · exact numText_ok p
      · exact numText_ok q
    · walk_at "sts"
      refine rEqD_texts [numText p, numText q] (by walk_at "hp") (by walk_at "hp") ?_ (k _ (by walk_at "sm"))
      simp only [List.mem_cons, List.not_mem_nil, or_false]
      rintro t (rfl | rfl)
      · exact numText_ok p
      · exact numText_ok q
def sp_law (K : PySem.W.Frag) : Sp := fun vs H Q _ => ∃ (a : Addr) (ns : List Int), vs = [.ref a] ∧ SqL K H a (ns.map V.int) ∧ ∀ H', Q (.bl true) H'
theorem ok_law {P : Program} {w : World} {K : PySem.W.Frag} {mg : Str → Option Value} {base : Heap} {f : Addr} {fd : FuncData} (F : Fun K "law" "law" s_law f fd) (T : Txt mg) (hB : ∃ o, base.get? sysModules = some o)
    (d__law_begin : DefG P w K mg base 1 "_law_begin" s__law_begin ["_law_script"] (sp__law_begin K))
    (d__law_number : DefG P w K mg base 3 "_law_number" s__law_number ["_law_stock", "_law_way"] (sp__law_number K))
    (d__law_second : DefG P w K mg base 4 "_law_second" s__law_second ["_law_stock", "_law_mine"] (sp__law_second K))
    (d_plus : DefG P w K mg base 3 "plus" s_plus ["one", "other"] (sp_plus K))
    (d_times : DefG P w K mg base 3 "times" s_times ["one", "other"] (sp_times K))
    (d__law_right : DefG P w K mg base 5 "_law_right" s__law_right ["_law_mine", "_law_theirs"] (sp__law_right K)) :
    FnG P w K mg base CX0 6 f fd ["_law_script"] (sp_law K) := by
  refine okG F sc_law (fun vs H Q E h => ?_) (fun cdv A out s H vs Q E hr h => ?_)
  · obtain ⟨a, ns, rfl, _⟩ := h; rfl
  · obtain ⟨a, ns, rfl, hs, k⟩ := h
    refine ⟨_, (pss_cons (ps_set (i := 1) sc_law.nd rfl (Or.inl rfl) (pc d__law_begin b__law_begin hr (by decide) (pa_cons (pv 0) pa_nil)))
      (pss_cons (ps_for PassesOwn.never rfl (pi_range1 (by rfl) T.z_range (pa_cons pe_int pa_nil)) (pg_name (i := 2) sc_law.nd rfl (Or.inl rfl))
      (pss_cons (ps_set (i := 3) sc_law.nd rfl (Or.inl rfl) (pc d__law_number b__law_number hr (by decide) (pa_cons (pv 1) (pa_cons pe_int pa_nil))))
      (pss_cons (ps_par (i := 4) (j := 5) (by rfl) sc_law.nd rfl rfl (by decide) rfl rfl (pa_cons (pc d__law_second b__law_second hr (by decide) (pa_cons (pv 1) (pa_cons (pv 3) pa_nil))) (pa_cons (pc d__law_number b__law_number hr (by decide) (pa_cons (pv 1) (pa_cons pe_int pa_nil))) pa_nil)) (by rfl))
      (pss_cons (ps_set (i := 6) sc_law.nd rfl (Or.inl rfl) (pe_callB (kc_repr K hr hB) (by rfl) T.z_repr (by decide +kernel) (pa_cons (pe_lstS (pa_cons (pv 3) (pa_cons (pv 4) (pa_cons (pv 5) pa_nil)))) pa_nil)))
      (pss_cons (ps_if (PW.pt (pw_or (pt_not (pt_val (pc d__law_right b__law_right hr (by decide) (pa_cons (pv 3) (pa_cons (pv 4) pa_nil))))) (pw_or1 (pt_not (pt_val (pc d__law_right b__law_right hr (by decide) (pa_cons (pv 4) (pa_cons (pv 3) pa_nil))))))))
      (pss_one (ps_ret pe_bl))
      pss_nil)
      (pss_cons (ps_if (pt_cmpR (ko_neD K hr.un) (pc d_plus b_plus hr (by decide) (pa_cons (pv 3) (pa_cons (pc d_plus b_plus hr (by decide) (pa_cons (pv 4) (pa_cons (pv 5) pa_nil))) pa_nil))) (pc d_plus b_plus hr (by decide) (pa_cons (pc d_plus b_plus hr (by decide) (pa_cons (pv 5) (pa_cons (pv 3) pa_nil))) (pa_cons (pv 4) pa_nil))) (nomark _))
      (pss_one (ps_ret pe_bl))
      pss_nil)
      (pss_cons (ps_if (pt_cmpR (ko_neD K hr.un) (pc d_times b_times hr (by decide) (pa_cons (pv 5) (pa_cons (pc d_plus b_plus hr (by decide) (pa_cons (pv 3) (pa_cons (pv 4) pa_nil))) pa_nil))) (pc d_plus b_plus hr (by decide) (pa_cons (pc d_times b_times hr (by decide) (pa_cons (pv 3) (pa_cons (pv 5) pa_nil))) (pa_cons (pc d_times b_times hr (by decide) (pa_cons (pv 4) (pa_cons (pv 5) pa_nil))) pa_nil))) (nomark _))
      (pss_one (ps_ret pe_bl))
      pss_nil)
      (pss_one (ps_if (pt_cmpR op_ne (pe_callB (kc_repr K hr hB) (by rfl) T.z_repr (by decide +kernel) (pa_cons (pe_lstS (pa_cons (pv 3) (pa_cons (pv 4) (pa_cons (pv 5) pa_nil)))) pa_nil)) (pv 6) (nomark _))
      (pss_one (ps_ret pe_bl))
      pss_nil)))))))))
      (pss_one (ps_ret pe_bl)))), ?_⟩
    walk_at "sts"
    intro p l H1 np nl S1 s1
    walk_at "sts"
    refine range_bx (n := 20) (fun i σ H' => (∃ v2 v3 v4 v5 v6, σ = [some (.ref a), some (.ref p), v2, v3, v4, v5, v6]) ∧ Stk H' p l (20 * i)) ⟨⟨_, _, _, _, _, rfl⟩, S1.le (by omega)⟩ ?_ ?_
    · rintro i σ H2 hi ⟨⟨v2, v3, v4, v5, v6, rfl⟩, S2⟩
      have hc : 20 * (i : Int) + 20 < bigC := by unfold bigC; omega
      walk_at "sts"
      refine ⟨_, _, _, _, rfl, S2, by omega, fun m v H3 hm bm S3 K3 => ?_⟩
      walk_at "sts"
      refine ⟨_, _, _, _, _, rfl, S3, by omega, hm, bm, fun t u H4 ht bt S4 K4 => ?_⟩
      walk_at "sts"
      refine ⟨_, _, _, _, rfl, S4, by omega, fun r w H5 hr' br S5 K5 => ?_⟩
      have hm := (hm.kp K4).kp K5
      have ht := ht.kp K5
      have bm := bm.up (show 41 ≤ 42 by decide)
      walk_at "sts"
      refine rNeD_nm (by walk_at "nm") (by walk_at "nm") ?_
      rw [id_assoc bm.1 bt.1 br.1]
      walk_at "sts"
      walk_at "ie"
      walk_at "sts"
      refine rNeD_nm (by walk_at "nm") (by walk_at "nm") ?_
      rw [id_part bm.1 bt.1 br.1]
      walk_at "sts"
      walk_at "ie"
      walk_at "sts"
      walk_at "ie"
      walk_at "sts"
      exact .mk ⟨⟨_, _, _, _, _, rfl⟩, Stk.le (by walk_at "stk") (by omega)⟩
    · rintro σ H2 ⟨⟨v2, v3, v4, v5, v6, rfl⟩, S2⟩
      exact k _
theorem law_sp (K : PySem.W.Frag) (H : Hp) (a : Addr) (ns : List Int) (h : ns.length ≤ 63) (hs : SqL K H a (ns.map V.int)) (_ : ∀ b o, H b = some o → ∃ o' xs, o = .frz o' (.lst xs)) : sp_law K [.ref a] H (fun v _ => v = .bl true) E0 :=
  ⟨a, ns, rfl, hs, fun _ => rfl⟩
theorem all_mk {l : PySem.W.OpenLaw} {w : World} {K : PySem.W.Frag} {h : Heap} {mg : Str → Option Value} {fa : Addr} (X : K.In h) (G : h.Ns mainGlobals mg) (hfa : mg "law" = some (.ref fa))
    (a__law_begin : DefAt K "_law_begin" s__law_begin)
    (a__law_take : DefAt K "_law_take" s__law_take)
    (a__law_lowest : DefAt K "_law_lowest" s__law_lowest)
    (a__law_pick : DefAt K "_law_pick" s__law_pick)
    (a__law_number : DefAt K "_law_number" s__law_number)
    (a__law_top : DefAt K "_law_top" s__law_top)
    (a__law_bottom : DefAt K "_law_bottom" s__law_bottom)
    (a__law_times : DefAt K "_law_times" s__law_times)
    (a__law_second : DefAt K "_law_second" s__law_second)
    (a_common_divisor : DefAt K "common_divisor" s_common_divisor)
    (a_number_of : DefAt K "number_of" s_number_of)
    (a_bottom_of : DefAt K "bottom_of" s_bottom_of)
    (a_top_of : DefAt K "top_of" s_top_of)
    (a_plus : DefAt K "plus" s_plus)
    (a_times : DefAt K "times" s_times)
    (a__law_plus : DefAt K "_law_plus" s__law_plus)
    (a__law_over : DefAt K "_law_over" s__law_over)
    (a_show_number : DefAt K "show_number" s_show_number)
    (a__law_text : DefAt K "_law_text" s__law_text)
    (a_minus : DefAt K "minus" s_minus)
    (a_over : DefAt K "over" s_over)
    (a__law_right : DefAt K "_law_right" s__law_right)
    (a_law : DefAt K "law" s_law)
    (z_abs : PySem.W.nsIn K mainGlobals "abs" = some none)
    (z_int : PySem.W.nsIn K mainGlobals "int" = some none)
    (z_isinstance : PySem.W.nsIn K mainGlobals "isinstance" = some none)
    (z_len : PySem.W.nsIn K mainGlobals "len" = some none)
    (z_list : PySem.W.nsIn K mainGlobals "list" = some none)
    (z_range : PySem.W.nsIn K mainGlobals "range" = some none)
    (z_repr : PySem.W.nsIn K mainGlobals "repr" = some none)
    (z_str : PySem.W.nsIn K mainGlobals "str" = some none)
    (z_tuple : PySem.W.nsIn K mainGlobals "tuple" = some none)
    : ∃ fd : FuncData, (∀ (s : Shared) (v : Value), BindsTo s fd ⟨[v], []⟩ [("_law_script", v)]) ∧ ∀ base : Heap, K.In base → base.Ns mainGlobals mg → (∃ o, base.get? sysModules = some o) → FnG l.prog w K mg base CX0 6 fa fd ["_law_script"] (sp_law K) := by
  have T : Txt mg := ⟨PySem.W.mg_none_of X G z_abs, PySem.W.mg_none_of X G z_int, PySem.W.mg_none_of X G z_isinstance, PySem.W.mg_none_of X G z_len, PySem.W.mg_none_of X G z_list, PySem.W.mg_none_of X G z_range, PySem.W.mg_none_of X G z_repr, PySem.W.mg_none_of X G z_str, PySem.W.mg_none_of X G z_tuple⟩
  obtain ⟨f__law_begin, fd__law_begin, n__law_begin, U__law_begin⟩ := a__law_begin.ex
  obtain ⟨f__law_take, fd__law_take, n__law_take, U__law_take⟩ := a__law_take.ex
  obtain ⟨f__law_lowest, fd__law_lowest, n__law_lowest, U__law_lowest⟩ := a__law_lowest.ex
  obtain ⟨f__law_pick, fd__law_pick, n__law_pick, U__law_pick⟩ := a__law_pick.ex
  obtain ⟨f__law_number, fd__law_number, n__law_number, U__law_number⟩ := a__law_number.ex
  obtain ⟨f__law_top, fd__law_top, n__law_top, U__law_top⟩ := a__law_top.ex
  obtain ⟨f__law_bottom, fd__law_bottom, n__law_bottom, U__law_bottom⟩ := a__law_bottom.ex
  obtain ⟨f__law_times, fd__law_times, n__law_times, U__law_times⟩ := a__law_times.ex
  obtain ⟨f__law_second, fd__law_second, n__law_second, U__law_second⟩ := a__law_second.ex
  obtain ⟨f_common_divisor, fd_common_divisor, n_common_divisor, U_common_divisor⟩ := a_common_divisor.ex
  obtain ⟨f_number_of, fd_number_of, n_number_of, U_number_of⟩ := a_number_of.ex
  obtain ⟨f_bottom_of, fd_bottom_of, n_bottom_of, U_bottom_of⟩ := a_bottom_of.ex
  obtain ⟨f_top_of, fd_top_of, n_top_of, U_top_of⟩ := a_top_of.ex
  obtain ⟨f_plus, fd_plus, n_plus, U_plus⟩ := a_plus.ex
  obtain ⟨f_times, fd_times, n_times, U_times⟩ := a_times.ex
  obtain ⟨f__law_plus, fd__law_plus, n__law_plus, U__law_plus⟩ := a__law_plus.ex
  obtain ⟨f__law_over, fd__law_over, n__law_over, U__law_over⟩ := a__law_over.ex
  obtain ⟨f_show_number, fd_show_number, n_show_number, U_show_number⟩ := a_show_number.ex
  obtain ⟨f__law_text, fd__law_text, n__law_text, U__law_text⟩ := a__law_text.ex
  obtain ⟨f_minus, fd_minus, n_minus, U_minus⟩ := a_minus.ex
  obtain ⟨f_over, fd_over, n_over, U_over⟩ := a_over.ex
  obtain ⟨f__law_right, fd__law_right, n__law_right, U__law_right⟩ := a__law_right.ex
  obtain ⟨f_law, fd_law, n_law, U_law⟩ := a_law.ex
  have e := hfa.symm.trans (PySem.W.mg_of X G n_law)
  cases e
  refine ⟨fd_law, fun s v => ?_, fun base kb nb hB => ?_⟩
  · obtain ⟨oc, od, kV, doc, pm, an, cdv, ct, osl, rfl, lk, hcd⟩ := U_law.ex
    exact .of_eq (b_law kV doc pm an cdv ct [v] rfl)
  · have D__law_begin : DefG l.prog w K mg base 1 "_law_begin" s__law_begin ["_law_script"] (sp__law_begin K) := ⟨f__law_begin, fd__law_begin, ok__law_begin U__law_begin T hB , U__law_begin, PySem.W.mg_of X G n__law_begin⟩
    have D__law_take : DefG l.prog w K mg base 1 "_law_take" s__law_take ["_law_stock", "_law_ways"] (sp__law_take K) := ⟨f__law_take, fd__law_take, ok__law_take U__law_take T hB , U__law_take, PySem.W.mg_of X G n__law_take⟩
    have D__law_lowest : DefG l.prog w K mg base 1 "_law_lowest" s__law_lowest ["_law_top_here", "_law_bottom_here"] (sp__law_lowest K) := ⟨f__law_lowest, fd__law_lowest, ok__law_lowest U__law_lowest T hB , U__law_lowest, PySem.W.mg_of X G n__law_lowest⟩
    have D__law_pick : DefG l.prog w K mg base 2 "_law_pick" s__law_pick ["_law_stock", "_law_some"] (sp__law_pick K) := ⟨f__law_pick, fd__law_pick, ok__law_pick U__law_pick T hB D__law_take, U__law_pick, PySem.W.mg_of X G n__law_pick⟩
    have D__law_number : DefG l.prog w K mg base 3 "_law_number" s__law_number ["_law_stock", "_law_way"] (sp__law_number K) := ⟨f__law_number, fd__law_number, ok__law_number U__law_number T hB D__law_take D__law_lowest D__law_pick, U__law_number, PySem.W.mg_of X G n__law_number⟩
    have D__law_top : DefG l.prog w K mg base 1 "_law_top" s__law_top ["_law_figure"] (sp__law_top K) := ⟨f__law_top, fd__law_top, ok__law_top U__law_top T hB , U__law_top, PySem.W.mg_of X G n__law_top⟩
    have D__law_bottom : DefG l.prog w K mg base 1 "_law_bottom" s__law_bottom ["_law_figure"] (sp__law_bottom K) := ⟨f__law_bottom, fd__law_bottom, ok__law_bottom U__law_bottom T hB , U__law_bottom, PySem.W.mg_of X G n__law_bottom⟩
    have D__law_times : DefG l.prog w K mg base 2 "_law_times" s__law_times ["_law_mine", "_law_theirs"] (sp__law_times K) := ⟨f__law_times, fd__law_times, ok__law_times U__law_times T hB D__law_lowest D__law_top D__law_bottom, U__law_times, PySem.W.mg_of X G n__law_times⟩
    have D__law_second : DefG l.prog w K mg base 4 "_law_second" s__law_second ["_law_stock", "_law_mine"] (sp__law_second K) := ⟨f__law_second, fd__law_second, ok__law_second U__law_second T hB D__law_take D__law_number D__law_times D__law_lowest D__law_bottom D__law_top, U__law_second, PySem.W.mg_of X G n__law_second⟩
    have D_common_divisor : DefG l.prog w K mg base 1 "common_divisor" s_common_divisor ["one", "other"] (sp_common_divisor K) := ⟨f_common_divisor, fd_common_divisor, ok_common_divisor U_common_divisor T hB , U_common_divisor, PySem.W.mg_of X G n_common_divisor⟩
    have D_number_of : DefG l.prog w K mg base 2 "number_of" s_number_of ["top", "bottom"] (sp_number_of K) := ⟨f_number_of, fd_number_of, ok_number_of U_number_of T hB D_common_divisor, U_number_of, PySem.W.mg_of X G n_number_of⟩
    have D_bottom_of : DefG l.prog w K mg base 1 "bottom_of" s_bottom_of ["number"] (sp_bottom_of K) := ⟨f_bottom_of, fd_bottom_of, ok_bottom_of U_bottom_of T hB , U_bottom_of, PySem.W.mg_of X G n_bottom_of⟩
    have D_top_of : DefG l.prog w K mg base 1 "top_of" s_top_of ["number"] (sp_top_of K) := ⟨f_top_of, fd_top_of, ok_top_of U_top_of T hB , U_top_of, PySem.W.mg_of X G n_top_of⟩
    have D_plus : DefG l.prog w K mg base 3 "plus" s_plus ["one", "other"] (sp_plus K) := ⟨f_plus, fd_plus, ok_plus U_plus T hB D_number_of D_bottom_of D_top_of, U_plus, PySem.W.mg_of X G n_plus⟩
    have D_times : DefG l.prog w K mg base 3 "times" s_times ["one", "other"] (sp_times K) := ⟨f_times, fd_times, ok_times U_times T hB D_number_of D_top_of D_bottom_of, U_times, PySem.W.mg_of X G n_times⟩
    have D__law_plus : DefG l.prog w K mg base 2 "_law_plus" s__law_plus ["_law_mine", "_law_theirs"] (sp__law_plus K) := ⟨f__law_plus, fd__law_plus, ok__law_plus U__law_plus T hB D__law_lowest D__law_bottom D__law_top, U__law_plus, PySem.W.mg_of X G n__law_plus⟩
    have D__law_over : DefG l.prog w K mg base 2 "_law_over" s__law_over ["_law_mine", "_law_theirs"] (sp__law_over K) := ⟨f__law_over, fd__law_over, ok__law_over U__law_over T hB D__law_lowest D__law_top D__law_bottom, U__law_over, PySem.W.mg_of X G n__law_over⟩
    have D_show_number : DefG l.prog w K mg base 1 "show_number" s_show_number ["number"] (sp_show_number K) := ⟨f_show_number, fd_show_number, ok_show_number U_show_number T hB , U_show_number, PySem.W.mg_of X G n_show_number⟩
    have D__law_text : DefG l.prog w K mg base 1 "_law_text" s__law_text ["_law_figure"] (sp__law_text K) := ⟨f__law_text, fd__law_text, ok__law_text U__law_text T hB , U__law_text, PySem.W.mg_of X G n__law_text⟩
    have D_minus : DefG l.prog w K mg base 4 "minus" s_minus ["one", "other"] (sp_minus K) := ⟨f_minus, fd_minus, ok_minus U_minus T hB D_plus D_times, U_minus, PySem.W.mg_of X G n_minus⟩
    have D_over : DefG l.prog w K mg base 3 "over" s_over ["one", "other"] (sp_over K) := ⟨f_over, fd_over, ok_over U_over T hB D_number_of D_top_of D_bottom_of, U_over, PySem.W.mg_of X G n_over⟩
    have D__law_right : DefG l.prog w K mg base 5 "_law_right" s__law_right ["_law_mine", "_law_theirs"] (sp__law_right K) := ⟨f__law_right, fd__law_right, ok__law_right U__law_right T hB D__law_plus D__law_times D__law_over D_show_number D__law_text D_plus D_minus D_times D_over, U__law_right, PySem.W.mg_of X G n__law_right⟩
    exact ok_law U_law T hB D__law_begin D__law_number D__law_second D_plus D_times D__law_right
theorem walk {l : PySem.W.OpenLaw} {q : Program} {loose : List Str} {XP : (Str → Option Value) → Heap → Prop} {YP : World → Heap → Prop} {d : DefRec} {K : Params → PySem.W.Frag} (hn : l.most = some 63) (hdf : d.params.defaults = []) (himp : importsNone q = true)
    (hY : ∀ (w : World) (h : Heap), YP w h → (K w.params).In h)
    (F : ∀ (w : World) (mg : Str → Option Value) (fa : Addr) (h : Heap), (K w.params).In h → h.Ns mainGlobals mg → mg d.name = some (.ref fa) →
      ∃ fd : FuncData, (∀ (s : Shared) (u : Value), BindsTo s fd ⟨[u], []⟩ [("_law_script", u)]) ∧ ∀ base : Heap, (K w.params).In base → base.Ns mainGlobals mg → (∃ o, base.get? sysModules = some o) → FnG l.prog w (K w.params) mg base CX0 6 fa fd ["_law_script"] (sp_law (K w.params))) :
    PySem.W.WalkO q loose XP YP l.row.toRowW d [] (fun f vs => PySem.call f vs) :=
  walkG (n := 63) (sp := sp_law) hn (by decide) hdf ⟨rfl, by decide, by decide⟩ himp hY F law_sp
end AS
open PySem PySem.W PyProof.Rows
set_option maxRecDepth 100000 in
set_option maxHeartbeats 0 in
theorem PySem.Challenge.cw_allspeeds_k03_sums_products_quotients_holds : PySem.Challenge.rw_allspeeds_k03_sums_products_quotients.Holds := by
  w_on; o_law; k_head; (case hw => w_witness2)
  k_fill
  refine AS.walk (l := PySem.Challenge.rw_allspeeds_k03_sums_products_quotients) rfl rfl (by decide +kernel) (fun w h Y => PySem.W.kIn_of Y) ?F
  case F =>
    intro w mg fa h KX G hmg
    refine' AS.all_mk KX G hmg (AS.defAt_mk ?a0 ?l0 ?c0 ?k0) (AS.defAt_mk ?a1 ?l1 ?c1 ?k1) (AS.defAt_mk ?a2 ?l2 ?c2 ?k2) (AS.defAt_mk ?a3 ?l3 ?c3 ?k3) (AS.defAt_mk ?a4 ?l4 ?c4 ?k4) (AS.defAt_mk ?a5 ?l5 ?c5 ?k5) (AS.defAt_mk ?a6 ?l6 ?c6 ?k6) (AS.defAt_mk ?a7 ?l7 ?c7 ?k7) (AS.defAt_mk ?a8 ?l8 ?c8 ?k8) (AS.defAt_mk ?a9 ?l9 ?c9 ?k9) (AS.defAt_mk ?a10 ?l10 ?c10 ?k10) (AS.defAt_mk ?a11 ?l11 ?c11 ?k11) (AS.defAt_mk ?a12 ?l12 ?c12 ?k12) (AS.defAt_mk ?a13 ?l13 ?c13 ?k13) (AS.defAt_mk ?a14 ?l14 ?c14 ?k14) (AS.defAt_mk ?a15 ?l15 ?c15 ?k15) (AS.defAt_mk ?a16 ?l16 ?c16 ?k16) (AS.defAt_mk ?a17 ?l17 ?c17 ?k17) (AS.defAt_mk ?a18 ?l18 ?c18 ?k18) (AS.defAt_mk ?a19 ?l19 ?c19 ?k19) (AS.defAt_mk ?a20 ?l20 ?c20 ?k20) (AS.defAt_mk ?a21 ?l21 ?c21 ?k21) (AS.defAt_mk ?a22 ?l22 ?c22 ?k22) ?z0 ?z1 ?z2 ?z3 ?z4 ?z5 ?z6 ?z7 ?z8
    (case a0 => k_is); (case l0 => k_is); (case c0 => k_is); (case k0 => k_is)
    (case a1 => k_is); (case l1 => k_is); (case c1 => k_is); (case k1 => k_is)
    (case a2 => k_is); (case l2 => k_is); (case c2 => k_is); (case k2 => k_is)
    (case a3 => k_is); (case l3 => k_is); (case c3 => k_is); (case k3 => k_is)
    (case a4 => k_is); (case l4 => k_is); (case c4 => k_is); (case k4 => k_is)
    (case a5 => k_is); (case l5 => k_is); (case c5 => k_is); (case k5 => k_is)
    (case a6 => k_is); (case l6 => k_is); (case c6 => k_is); (case k6 => k_is)
    (case a7 => k_is); (case l7 => k_is); (case c7 => k_is); (case k7 => k_is)
    (case a8 => k_is); (case l8 => k_is); (case c8 => k_is); (case k8 => k_is)
    (case a9 => k_is); (case l9 => k_is); (case c9 => k_is); (case k9 => k_is)
    (case a10 => k_is); (case l10 => k_is); (case c10 => k_is); (case k10 => k_is)
    (case a11 => k_is); (case l11 => k_is); (case c11 => k_is); (case k11 => k_is)
    (case a12 => k_is); (case l12 => k_is); (case c12 => k_is); (case k12 => k_is)
    (case a13 => k_is); (case l13 => k_is); (case c13 => k_is); (case k13 => k_is)
    (case a14 => k_is); (case l14 => k_is); (case c14 => k_is); (case k14 => k_is)
    (case a15 => k_is); (case l15 => k_is); (case c15 => k_is); (case k15 => k_is)
    (case a16 => k_is); (case l16 => k_is); (case c16 => k_is); (case k16 => k_is)
    (case a17 => k_is); (case l17 => k_is); (case c17 => k_is); (case k17 => k_is)
    (case a18 => k_is); (case l18 => k_is); (case c18 => k_is); (case k18 => k_is)
    (case a19 => k_is); (case l19 => k_is); (case c19 => k_is); (case k19 => k_is)
    (case a20 => k_is); (case l20 => k_is); (case c20 => k_is); (case k20 => k_is)
    (case a21 => k_is); (case l21 => k_is); (case c21 => k_is); (case k21 => k_is)
    (case a22 => k_is); (case l22 => k_is); (case c22 => k_is); (case k22 => k_is)
    (case z0 => k_is)
    (case z1 => k_is)
    (case z2 => k_is)
    (case z3 => k_is)
    (case z4 => k_is)
    (case z5 => k_is)
    (case z6 => k_is)
    (case z7 => k_is)
    (case z8 => k_is)
#print axioms PySem.Challenge.cw_allspeeds_k03_sums_products_quotients_holds
