import PyProof.Rows.All
import Wide.All
import OpenK.AllK
import Wide.FinOn
import KE.KStateDown
import KE.KEqNest
import PyProof.ReprRoads
import PyProof.RowDictHeap
import Lean
import HandS.ForMost
import HandS.Exc
import HandS.Defaults
import HandS.MakeKw
import HandS.MakeKwOnly
import HandS.IsInst
import HandS.OwnEq
import HandS.Style
import HandS.Head0
import HandS.Head1
import HandS.Head2
import HandS.HeadEnd
import HandS.HeadHook1
import HandS.HeadHook2
import PySem.Challenge.RW_seenmodels_k90_classes_made_by_hand
import HandS.TryOnly
set_option Elab.async false
set_option linter.all false
set_option maxRecDepth 100000
set_option maxHeartbeats 0
namespace Sn
open PySem PySem.Spec PyProof.Rows L2

/-! ## data in the abstract heap -/
mutual
inductive Rp (H : Hp) : V → PyData → Prop
  | non : Rp H .non .none
  | bl (b : Bool) : Rp H (.bl b) (.bool b)
  | int (i : Int) : Rp H (.int i) (.int i)
  | str (x : Str) : Rp H (.str x) (.str x)
  | lst {a : Addr} {xs : List V} {ds : List PyData} :
      H a = some (.lst xs) → Rps H xs ds → Rp H (.ref a) (.list ds)
  | tup {a : Addr} {xs : List V} {ds : List PyData} :
      H a = some (.tup xs) → Rps H xs ds → Rp H (.ref a) (.tuple ds)
  | dct {a : Addr} {k : Str} {i : Int} :
      H a = some (.dK [(.inr k, .int i)]) → Rp H (.ref a) (.dict [(.str k, .int i)])
inductive Rps (H : Hp) : List V → List PyData → Prop
  | nil : Rps H [] []
  | cons {v : V} {vs : List V} {d : PyData} {ds : List PyData} :
      Rp H v d → Rps H vs ds → Rps H (v :: vs) (d :: ds)
end
mutual
theorem Rp.ext {H H' : Hp} (e : Ext H H') : ∀ {v d}, Rp H v d → Rp H' v d
  | _, _, .non => .non
  | _, _, .bl b => .bl b
  | _, _, .int i => .int i
  | _, _, .str x => .str x
  | _, _, .lst h r => .lst (e _ _ h) (r.ext e)
  | _, _, .tup h r => .tup (e _ _ h) (r.ext e)
  | _, _, .dct h => .dct (e _ _ h)
theorem Rps.ext {H H' : Hp} (e : Ext H H') : ∀ {v d}, Rps H v d → Rps H' v d
  | _, _, .nil => .nil
  | _, _, .cons r s => .cons (r.ext e) (s.ext e)
end

section
variable {X : Cx} {pins : List (Addr × Obj)} {σ : L2.St} {H : Hp} {s : Shared}
/-- the module table stands as a dict in the written part -/
def SysD (K : PySem.W.Frag) : Prop :=
  ∃ o, K.lookup sysModules = some o ∧ o.cls = .type "dict"
mutual
theorem Rp.reads (I : Inv X pins σ H s) (S : SysD X.K) : ∀ {v : V} {d : PyData} {u : Value},
    Rp H v d → RelV v u → ∃ as, Reads s.heap u d as ∧ sysModules ∉ as
  | _, _, u, .non, r => by cases (show u = .none from r); exact ⟨[], .none, by simp⟩
  | _, _, u, .bl b, r => by cases (show u = .bool b from r); exact ⟨[], .bool b, by simp⟩
  | _, _, u, .int i, r => by
    obtain ⟨t, e⟩ : ∃ t, u = .int i t := r
    subst e; exact ⟨[], .int i t, by simp⟩
  | _, _, u, .str x, r => by
    obtain ⟨t, e⟩ : ∃ t, u = .str x t := r
    subst e; exact ⟨[], .str x t, by simp⟩
  | _, _, u, .lst (a := a) (xs := xs) h q, r => by
    cases (show u = .ref a from r)
    obtain ⟨_, its, n, rv, e⟩ := (show ObjOk X.prog X.w H s.heap a (.lst xs) from I.hok a _ h)
    obtain ⟨as, ra, no⟩ := q.reads I S rv
    refine ⟨a :: as, .list e rfl rfl (by simpa using ra), ?_⟩
    intro hm
    rcases List.mem_cons.mp hm with z | z
    · obtain ⟨o, lo, co⟩ := S
      have e2 := I.kIn _ _ lo
      rw [z] at e2
      rw [e] at e2
      cases e2
      have co' : Value.type "list" = Value.type "dict" := co
      injection co' with z2
      exact absurd z2 (by decide)
    · exact no z
  | _, _, u, .tup (a := a) (xs := xs) h q, r => by
    cases (show u = .ref a from r)
    obtain ⟨_, its, rv, o, e, c, n, dd⟩ := (show ObjOk X.prog X.w H s.heap a (.tup xs) from I.hok a _ h)
    obtain ⟨as, ra, no⟩ := q.reads I S rv
    exact ⟨as, .tuple e c dd (by simpa using ra), no⟩
  | _, _, u, .dct (a := a) (k := k) (i := i) h, r => by
    cases (show u = .ref a from r)
    obtain ⟨_, hn, vs, kv, dd⟩ := (show ObjOk X.prog X.w H s.heap a (.dK _) from I.hok a _ h)
    cases kv with
    | cons p t =>
      cases t
      rename_i q
      obtain ⟨qk, qv⟩ := q
      obtain ⟨p1, p2⟩ := p
      obtain ⟨tk, ev⟩ : ∃ t, qv = .int i t := p2
      have ek : Sum.inr k = qk := p1
      subst ek ev
      refine ⟨[a], PyProof.V.reads_dictOf (enc := fun k => match k with | .inl i => .int i | .inr x => .str x) (fun k key hk => ?_) dd (.cons (.int i tk) .nil), ?_⟩
      · rcases keyIs_shape hk with ⟨i, t, rfl, rfl⟩ | ⟨x, t, rfl, rfl⟩
        · exact .int i t
        · exact .str x t
      · intro hm
        have z : sysModules = a := by simpa using hm
        rw [← z] at hn
        simp at hn
theorem Rps.reads (I : Inv X pins σ H s) (S : SysD X.K) : ∀ {vs : List V} {ds : List PyData} {us : List Value},
    Rps H vs ds → Vals vs us → ∃ as, ReadsAll s.heap us ds as ∧ sysModules ∉ as
  | _, _, _, .nil, .nil => ⟨[], .nil, by simp⟩
  | _, _, _, .cons q t, .cons r rr => by
    obtain ⟨as, ra, na⟩ := q.reads I S r
    obtain ⟨bs, rb, nb⟩ := t.reads I S rr
    exact ⟨as ++ bs, .cons ra rb, by simp [na, nb]⟩
end

/-- repr of data that is a list, a tuple, a dict -/
def rRepr (K : PySem.W.Frag) : List V → Hp → VK → Prop := fun xs H Q =>
  ∃ v d, xs = [v] ∧ Rp H v d ∧ d.showable = true ∧ d.depth ≤ 20 ∧ d.shown.length ≤ 5000 ∧ Q (.str d.shown) H
theorem call_repr (S : SysD X.K) (hg : X.A.guards = some []) (hu : X.A.units + 64 < cLine) :
    CallR X (.builtin "repr") (rRepr X.K) := by
  intro pins s σ H xs us Q I r h
  obtain ⟨v, d, rfl, q, hs, hd, hl, k⟩ := h
  obtain ⟨u, rfl, rx⟩ := vals1 r
  have hz : d.shown.length ≤ sizeLine := by rw [sizeLine_eq]; omega
  have fin : ∀ h' u' tk, (∀ b o, s.heap.get? b = some o → h'.get? b = some o) →
      EP X pins σ Q (.str d.shown u') { s with heap := h', toks := tk } := fun h' u' tk kp =>
    ⟨.str d.shown, H, I.kept kp, ⟨_, rfl⟩, k⟩
  cases q with
  | non =>
    cases (show u = .none from rx)
    exact P.repr_of_none (fin s.heap _ _ fun _ _ e => e)
  | bl b =>
    cases (show u = .bool b from rx)
    refine P.repr_of_bool ?_
    have := fin s.heap s.toks (s.toks + 1) fun _ _ e => e
    simpa [PyData.shown] using this
  | int i =>
    obtain ⟨t, e⟩ : ∃ t, u = .int i t := rx
    subst e
    exact P.repr_of_int (by simpa [PyData.showable] using hs) (fin s.heap _ _ fun _ _ e => e)
  | str x =>
    obtain ⟨t, e⟩ : ∃ t, u = .str x t := rx
    subst e
    refine P.repr_of_str ?_ (by simpa [PyData.shown] using hz)
    have := fin s.heap s.toks (s.toks + 1) fun _ _ e => e
    simpa [PyData.shown] using this
  | lst h q =>
    rename_i a xs ds
    cases (show u = .ref a from rx)
    obtain ⟨as, ra, no⟩ := (Rp.lst h q).reads I S rx
    exact repr_of_reads' ra hs (fun _ => no) hg (by omega) (fun _ _ e => e) fin hz
  | tup h q =>
    rename_i a xs ds
    cases (show u = .ref a from rx)
    obtain ⟨as, ra, no⟩ := (Rp.tup h q).reads I S rx
    exact repr_of_reads' ra hs (fun _ => no) hg (by omega) (fun _ _ e => e) fin hz
  | dct h =>
    rename_i a k' i'
    cases (show u = .ref a from rx)
    obtain ⟨as, ra, no⟩ := (Rp.dct h).reads I S rx
    exact repr_of_reads' ra hs (fun _ => no) hg (by omega) (fun _ _ e => e) fin hz
end
end Sn

namespace Sn
open PySem PySem.Spec PyProof.Rows L2

/-! ## comparisons by own methods -/
/-- x op y by the method m of x's class -/
def rOwn (X : Cx) (m : Str) (n : Nat) : R2 := fun x y H Q =>
  ∃ (a b C D dx dy f : Addr) (fs gs : List (Str × V)) (fd : FuncData) (sp : Sp),
    x = .ref a ∧ y = .ref b ∧ H a = some (.ins C dx fs) ∧ H b = some (.ins D dy gs) ∧
    PySem.W.notFirst X.K C (.ref D) = true ∧
    PySem.W.findIn X.K (.ref C) m = some (some (.ref f)) ∧ PySem.W.isFn X.K (.ref f) = true ∧
    Binds X.K fd ["self", "other"] [] ∧
    FnOk X.prog X.w X.K X.mg X.base CX0 n f fd ["self", "other"] sp ∧
    sp [x, y] H (fun v H' => ∃ k, v = .bl k ∧ Q (.bl k) H') E0
theorem op_own {X : Cx} {op : CmpOp} {m : Str} {n : Nat} (hm : (cmpInfo op).2.1 = m)
    (hq : ∀ v u, compareOp op v u = richCompare op v u) (hr : Room n X.A) :
    OpR X (compareOp op) (rOwn X m n) := by
  intro pins s σ H x y v u Q I rx ry h
  obtain ⟨a, b, C, D, dx, dy, f, fs, gs, fd, sp, ex, ey, ha, hb, nf, hf, fn, bd, F, hs⟩ := h
  rw [hq]
  subst ex ey
  cases (show v = .ref a from rx)
  cases (show u = .ref b from ry)
  obtain ⟨mA, J, _⟩ := ins_get I.hok ha
  obtain ⟨mB, J2, _⟩ := ins_get I.hok hb
  obtain ⟨oa, J, _⟩ := J.look
  obtain ⟨ob, J2, _⟩ := J2.look
  obtain ⟨mm, hF⟩ := I.fr
  refine PySem.W.cmp_K (tb := .ref D) hr.units0 hF I.ok.mod.kin J J2.type nf (hm ▸ hf) fn ?_
  have rr : Vals [V.ref a, V.ref b] [Value.ref a, Value.ref b] := .cons rfl (.cons rfl .nil)
  have hbt := bd s [.ref a, .ref b] I.kIn rfl
  simp only [List.append_nil] at hbt
  refine wpAny_call (codeAny_mono (F.run X.A X.stack s H ⟨[.ref a, .ref b], []⟩ _ _ _ E0 hr
    I.env0 hbt rr hs) fun r s' hq' => ?_)
  cases r with
  | error e => exact False.elim hq'
  | ok fl =>
    cases fl with
    | ret w =>
      obtain ⟨z, H', I', rz, k, ez, q⟩ := I.after hq'
      subst ez
      cases (show w = .bool k from rz)
      exact ⟨.bl k, H', I', rfl, q⟩
    | next => exact False.elim hq'
    | brk => exact False.elim hq'
    | cont => exact False.elim hq'

/-! ## equality of fields -/
def D0 : Eqv := fun x y _ => x = y ∧ (flatV x = true ∨ ∃ a, x = .ref a)
theorem eqV_self {x : V} (h : flatV x = true) : eqV x x = true := by
  cases x <;> simp [eqV, flatV] at h ⊢
theorem mon0 : Mon D0 := fun _ _ _ _ _ d => d
theorem eqG0 {X : Cx} : EqG X 0 D0 := by
  intro A pins s σ H x y u v sb I rx ry d
  obtain ⟨e, f | ⟨a, f⟩⟩ := d
  · subst e
    exact eqG_flat A pins s σ H x x u v sb I rx ry ⟨f, f, eqV_self f⟩
  · subst e f
    cases (show u = .ref a from rx)
    cases (show v = .ref a from ry)
    exact SeqAt.EqAt.same (A := A) (s := s) (.ref a) X.prog X.w X.xe _ ⟨rfl, H, I, Ext.rfl'⟩
abbrev D1 (K : PySem.W.Frag) : Eqv := fun x y H => D0 x y H ∨ DTup K D0 x y H
theorem mon1 {K : PySem.W.Frag} : Mon (D1 K) := mon0.or (mon_tup mon0)
theorem eqG1 {X : Cx} : EqG X 1 (D1 X.K) := (eqG0.mono (by omega)).or (eqG_tup mon0 eqG0)

/-- one dict of one text, an int, with itself -/
def rDct : R2 := fun x y H Q => ∃ a k i, x = .ref a ∧ y = .ref a ∧ H a = some (.dK [(.inr k, .int i)]) ∧ Q (.bl true) H
theorem op_dct {X : Cx} (hu : X.A.units + 1 < cLine) : OpR X (compareOp .Eq) rDct := by
  intro pins s σ H x y v u Q I rx ry h
  obtain ⟨a, k, i, ex, ey, ha, q⟩ := h
  subst ex ey
  cases (show v = .ref a from rx)
  cases (show u = .ref a from ry)
  obtain ⟨_, hn, vs, kv, dd⟩ := (show ObjOk X.prog X.w H s.heap a (.dK _) from I.hok a _ ha)
  cases kv with
  | cons p t =>
    cases t
    rename_i q'
    obtain ⟨qk, qv⟩ := q'
    have hit : PySem.W.KeqHitsIn X.prog X.w X.A.in1 s [(qk, qv)] [(qk, qv)] (true && true) :=
      .hit (by simp [valueAt]) ((SeqAt.EqAt.same (A := X.A.in1) (s := s) qv).inModel X.prog X.w) .nil
    exact PySem.W.keq_eqIn hn hn dd dd (by omega) (fun _ => hit) ⟨.bl true, H, I, rfl, q⟩

/-- x == y for fields: the answer b -/
def FEq (K : PySem.W.Frag) (x y : V) (H : Hp) (b : Bool) : Prop :=
  (scal x y = true ∧ b = decide (x = y)) ∨ (b = true ∧ DTup K (D1 K) x y H) ∨
  (b = true ∧ ∃ a k i, x = .ref a ∧ y = .ref a ∧ H a = some (.dK [(.inr k, .int i)])) ∨
  ∃ d e, Dp K H x d ∧ Dp K H y e ∧ SeqAt.shaped d = true ∧ SeqAt.shaped e = true ∧ b = PyData.eqv d e
def rFEq (K : PySem.W.Frag) : R2 := fun x y H Q => ∃ b, FEq K x y H b ∧ ∀ H', Ext H H' → Q (.bl b) H'
theorem op_feq {X : Cx} (hr : Room 2 X.A) : OpR X (compareOp .Eq) (rFEq X.K) := by
  intro pins s σ H x y v u Q I rx ry h
  obtain ⟨b, f, k⟩ := h
  have k0 := k H Ext.rfl'
  rcases f with ⟨e1, e2⟩ | ⟨e1, e2⟩ | ⟨e1, a, kk, i, e2, e3, e4⟩ | ⟨d, e, h1, h2, h3, h4, e5⟩
  · subst e2
    exact op_eq pins s σ H x y v u Q I rx ry ⟨e1, k0⟩
  · subst e1
    exact op_eqG (rcG_tup mon1 eqG1) hr pins s σ H x y v u Q I rx ry ⟨e2, k⟩
  · subst e1
    exact op_dct (hu_of hr) pins s σ H x y v u Q I rx ry ⟨a, kk, i, e2, e3, e4, k0⟩
  · subst e5
    exact op_eqD hr.units pins s σ H x y v u Q I rx ry ⟨d, e, h1, h2, h3, h4, k0⟩

/-! ## keywords without defaults -/
section
variable {K : PySem.W.Frag} {x qual : Str} {params : Arguments} {body : List Stmt} {scope : Scope} {f : Addr} {fd : FuncData} {ps : List Str}
theorem kbn_of (F : FunD K x qual params body scope [] [] f fd) (n : Nat) (ks : List Str)
    (g : {α : Type} → List α → List α → List α)
    (hrel : ∀ {vs zs : List V} {us ws : List Value}, Vals vs us → Vals zs ws → Vals (g vs zs) (g us ws))
    (h : ∀ (kV doc pm : Value) (an : Option Addr) (cdv ct : Value) (us ws : List Value), us.length = n → ws.length = ks.length →
      bindArgs (PySem.W.fnOf x qual params body scope .none kV doc pm an cdv ct) ⟨us, ks.zip ws⟩ = pure (ps.zip (g us ws))) :
    KBn K fd ps n ks (fun us ws => g us ws) (fun vs zs => g vs zs) := by
  obtain ⟨oc, od, dV, kV, doc, pm, an, cdv, ct, osl, e, lk, hcd, hD, hK⟩ := F.ex
  subst e
  rcases hD with ⟨_, e⟩ | ⟨e, _⟩
  · subst e
    exact ⟨fun s us ws _ l1 l2 => .of_eq (h kV doc pm an cdv ct us ws l1 l2), fun r1 r2 => hrel r1 r2⟩
  · exact absurd rfl e
end

/-! ## the law at the caller -/
section
variable {P : Program} {w : World} {K : PySem.W.Frag} {mg : Str → Option Value}
/-- a def called at the claim's caller -/
def AtCaller (P : Program) (w : World) (K : PySem.W.Frag) (mg : Str → Option Value) (base : Heap)
    (f : Addr) (fd : FuncData) (ps : List Str) (sp : Sp) : Prop :=
  ∀ (s : Shared) (H : Hp) (us : List Value) (vs : List V) (Q : VK),
    Env0 P w K mg base callerA [] s H → BindsTo s fd ⟨us, []⟩ (ps.zip us) → Vals vs us → sp vs H Q E0 →
    codeAny (model P w) callerA (.call (.ref f) ⟨us, []⟩) (CR CX0 [] P w H s Q E0) s
theorem atCaller {base : Heap} {x qual : Str} {params : Arguments} {body : List Stmt} {scope : Scope}
    {f : Addr} {fd : FuncData} {N ps : List Str} {sp : Sp} {k : Nat}
    (F : FunD K x qual params body scope [] [] f fd) (S : FnScope N ps scope)
    (len : ∀ vs H Q E, sp vs H Q E → vs.length = ps.length) (hr : Room (k + 1) callerA)
    (hb : ∀ (cdv : Value) (s : Shared) (H : Hp) (vs : List V) (Q : VK),
      Room k (callerA.deeper (envOfC qual scope s.heap.objs.size f cdv)) → sp vs H Q E0 →
      ∃ t, PSs (cxOf CX0 P w K mg base N qual scope f cdv callerA [] s H E0).nox body t ∧
        t { nx := fun _ H' => Q .non H', rt := Q } (start N vs) H) : AtCaller P w K mg base f fd ps sp := by
  obtain ⟨oc, od, dV, kV, doc, pm, an, cdv, ct, osl, e, lk, hcd, _, _⟩ := F.ex
  subst e
  intro s H us vs Q e0 hbd r hsp
  have hl := len _ _ _ _ hsp
  have keep : ∀ b o, base.get? b = some o → s.heap.get? b = some o := fun b o e => (e0.bs b o e).1
  have KX : K.In s.heap := e0.mod.kin.keeps keep
  have lim : s.heap.NoLimit := e0.mod.nolimit.keeps keep
  have kinds : ∀ y ∈ ps.zip us, scope.names.lookup y.1 = some .local ∨
      (scope.names.lookup y.1 = some .cell ∧
        ((cellsFrom (s.heap.objs.size + 1) scope.names []).lookup y.1).isSome = true) := by
    intro y hy
    rcases S.par y.1 (List.of_mem_zip hy).1 with q | q
    · exact .inl q
    · exact .inr ⟨q, PySem.W.cellsFrom_some _ _ _ (.inl q)⟩
  refine codeAny_call_function hr.depth (KX _ _ lk) rfl S.co S.gen rfl
    (PySem.W.codeRec_of KX hcd) (hbd _ _ _ _ ?_)
  refine wpAny_newFunctionEnv_cells S.kind kinds fun env he s1 x => ?_
  subst he
  refine ⟨lim.keeps x.toInCall.keep, codeAny_func ?_⟩
  obtain ⟨t, ht, hq⟩ := hb cdv s H vs Q (hr.deeper _) hsp
  have I := inv_start (CX := CX0) (E := E0) S hr.hd e0 hl r x
  refine wpAny_mono (ht.nox.run [] s1 _ H _ I hq) (fun fl s' hs => ?_) fun e s' hs => hs
  cases fl with
  | ret u =>
    obtain ⟨v, σ', H', J, rv, q⟩ := hs
    exact ⟨v, H', J.os, J.bare, J.base, J.hok, rv, q⟩
  | next =>
    obtain ⟨σ', H', J, q⟩ := hs
    exact ⟨V.non, H', J.os, J.bare, J.base, J.hok, rfl, q⟩
  | brk =>
    obtain ⟨_, _, _, q⟩ := hs
    exact False.elim q
  | cont =>
    obtain ⟨_, _, _, q⟩ := hs
    exact False.elim q
/-- the law's call from a promise that holds at the caller -/
theorem callLaw {mb : Str → Option Value} {fa a : Addr} {fd : FuncData} {x : Str} {sp : Sp} {s₁ : Shared}
    {vs : List Value} {ns : List Int} (KX : K.In s₁.heap) (hns : s₁.heap.Ns mainGlobals mg)
    (hb : s₁.heap.Ns builtinsNs mb) (hbb : ∀ x : Str, x ≠ "__name__" → mb x = bootBuiltins x)
    (hlim : s₁.heap.NoLimit) (hg : s₁.gens = #[])
    (ha : s₁.heap.get? a = some { cls := .type "list", data := .seq vs.toArray }) (hi : IntsAre vs ns)
    (hl : ns.length ≤ sizeLine)
    (F : ∀ base : Heap, K.In base → base.Ns mainGlobals mg → AtCaller P w K mg base fa fd [x] sp)
    (hbind : ∀ (s : Shared) (u : Value), BindsTo s fd ⟨[u], []⟩ [(x, u)])
    (hsp : ∀ H : Hp, Only H → SqL K H a (ns.map V.int) → sp [.ref a] H (fun v _ => v = .bl true) E0) :
    codeAny (model P w) callerA (.call (.ref fa) ⟨[.ref a], []⟩)
      (fun r s' => r = .ok (.ret (.bool true)) ∧ OldK s₁.heap s'.heap ∧ s'.os = s₁.os ∧ AllBare s'.gens) s₁ := by
  have rv := vals_ints hi
  have core : ∀ H : Hp, Only H → SqL K H a (ns.map V.int) → HOk P w H s₁.heap → (∀ b, b ≠ a → H b = none) →
      (H a ≠ none → K.lookup a = none) → codeAny (model P w) callerA (.call (.ref fa) ⟨[.ref a], []⟩)
      (fun r s' => r = .ok (.ret (.bool true)) ∧ OldK s₁.heap s'.heap ∧ s'.os = s₁.os ∧ AllBare s'.gens) s₁ := by
    intro H hO hS hok hA hK
    have free : ∀ {b : Addr} {o : Obj}, s₁.heap.get? b = some o → (∀ its n, o.data ≠ .seq its n) → H b = none := by
      intro b o e d
      by_cases hba : b = a
      · subst hba
        rw [ha] at e
        cases e
        exact absurd rfl (d _ _)
      · exact hA b hba
    have nsK : ∀ {b : Addr} {m : Str → Option Value}, s₁.heap.Ns b m → (hidT s₁.heap H).Ns b m := by
      intro b m ⟨o, es, ep, e, d, r⟩
      exact ⟨o, es, ep, hidT_get e (free e fun its n z => by rw [d] at z; cases z), d, r⟩
    have hKb : K.In (hidT s₁.heap H) := by
      intro b o e
      refine hidT_get (KX b o e) ?_
      by_cases hba : b = a
      · subst hba
        cases q : H b with
        | none => rfl
        | some u =>
          rw [hK (by rw [q]; simp)] at e
          cases e
      · exact hA b hba
    obtain ⟨mc, l1, l2⟩ := hlim
    have hM : Mod K mg (hidT s₁.heap H) := ⟨hKb, nsK hns, ⟨mb, nsK hb, hbb⟩, ⟨mc, nsK l1, l2⟩⟩
    have e0 : Env0 P w K mg (hidT s₁.heap H) callerA [] s₁ H :=
      ⟨rfl, hM, fun b o e => of_hidT e, Nat.le_of_eq (hidT_size _ _), trivial,
        fun b hb => (nomatch (show b ∈ ([] : List Addr) from hb)), hok, .of_eq hg⟩
    refine codeAny_mono (F _ hKb (nsK hns) s₁ H [.ref a] [.ref a] _ e0 (hbind s₁ (.ref a))
      (.cons rfl .nil) (hsp H hO hS)) fun r s' h => ?_
    cases r with
    | error e => exact False.elim h
    | ok fl =>
      cases fl with
      | next => exact False.elim h
      | brk => exact False.elim h
      | cont => exact False.elim h
      | ret u =>
        obtain ⟨v, H', os, bare, un, hok', r', q⟩ := h
        have q' : v = .bl true := q
        subst q'
        cases (show u = Value.bool true from r')
        refine ⟨rfl, OldK.of_keep fun b o e => ?_, os, bare⟩
        have nil : ∀ b : Addr, b ∉ frs [] := fun b z => (nomatch (show b ∈ ([] : List Addr) from z))
        cases q : H b with
        | none => exact un.keep b o e q (nil b) (by simp)
        | some u =>
          rcases hO b with z | ⟨ob, xs, z⟩
          · rw [q] at z; cases z
          · obtain ⟨e1, _⟩ := hok b _ z
            obtain ⟨e2, _⟩ := hok' b _ (un.frzs b ob _ z)
            rw [e] at e1; cases e1
            exact e2
  cases hk : K.lookup a with
  | some o =>
    have e := KX a o hk
    rw [ha] at e
    cases e
    refine core (fun _ => none) (fun _ => .inl rfl) (.inr ⟨_, vs.toArray, _, hk, rfl, rfl, rfl, ?_, by simpa using rv⟩)
      (fun b u z => by cases z) (fun _ _ => rfl) fun z => absurd rfl z
    rw [List.size_toArray, hi.length]
    exact hl
  | none =>
    let u : HO := .frz { cls := .type "list", data := .seq vs.toArray } (.lst (ns.map V.int))
    have at_ : upd (fun _ => none) a u a = some u := upd_same
    have off : ∀ b, b ≠ a → upd (fun _ => none) a u b = none := fun b hb => upd_ne hb
    refine core (upd (fun _ => none) a u) (fun b => ?_) (.inl (.inr ⟨_, at_⟩)) (fun b o z => ?_) off fun _ => hk
    · by_cases hb : b = a
      · subst hb; exact .inr ⟨_, _, at_⟩
      · exact .inl (off b hb)
    · by_cases hb : b = a
      · subst hb
        rw [at_] at z
        cases z
        exact ⟨ha, by rw [List.length_map]; exact hl, vs, _, rv, ha⟩
      · rw [off b hb] at z
        cases z
/-- what the head leaves, by a promise at the caller -/
theorem walkLaw {l : PySem.W.OpenLaw} {n : Nat} {q : Program} {loose : List Str} {XP : (Str → Option Value) → Heap → Prop}
    {YP : World → Heap → Prop} {d : DefRec} {x : Str} (hn : l.most = some n) (hn2 : n ≤ sizeLine) (hdf : d.params.defaults = [])
    (F : ∀ (w : World) (mg : Str → Option Value) (fa : Addr) (h : Heap), YP w h → h.Ns mainGlobals mg → mg d.name = some (.ref fa) →
      ∃ (K : PySem.W.Frag) (fd : FuncData) (sp : Sp), K.In h ∧ (∀ (s : Shared) (u : Value), BindsTo s fd ⟨[u], []⟩ [(x, u)]) ∧
        (∀ (H : Hp) (a : Addr) (ns : List Int), ns.length ≤ n → Only H → SqL K H a (ns.map V.int) → sp [.ref a] H (fun v _ => v = .bl true) E0) ∧
        ∀ base : Heap, K.In base → base.Ns mainGlobals mg → AtCaller l.prog w K mg base fa fd [x] sp) :
    PySem.W.WalkO q loose XP YP l.row.toRowW d [] (fun f vs => PySem.call f vs) := by
  refine Att.attach_call hn hdf fun w s₀ s₁ mg mb fa o pm cd doc a vs ns G Y ho hd hcd hmg hobj hints hlen hg => ?_
  obtain ⟨K, fd, sp, KX, hb, hsp, hF⟩ := F w mg fa _ Y G.T.g hmg
  exact callLaw KX G.T.g G.T.b G.T.builtins G.T.nolimit hg hobj hints (Nat.le_trans hlen hn2) hF hb
    fun H hO hS => hsp H a ns hlen hO hS
end
end Sn

namespace Sn
open PySem PySem.Spec PyProof.Rows L2
/-! ## the text -/
abbrev prog : Program := PySem.Challenge.pw_seenmodels_k90_classes_made_by_hand
def topS (i : Nat) : Stmt := prog.main.body.getD i (.Pass ⟨0, 0, 0, 0⟩)
/-- the defs of a text: of the top, of its classes -/
def defsAt : Stmt → List He.DefD
  | .FunctionDef n a b _ _ _ sc _ _ _ => [⟨(n, none), n, n, a, b, sc, [], []⟩]
  | .ClassDef c _ _ body _ _ _ _ _ _ _ => body.flatMap fun s => match s with
    | .FunctionDef n a b _ _ _ sc _ _ _ => [⟨(c, some n), n, c ++ "." ++ n, a, b, sc, [], []⟩]
    | _ => []
  | _ => []
def fn : List He.DefD := prog.main.body.flatMap defsAt
def cls : List Str := ["Shows", "Hidden", "Hiding", "Formula", "NoFormula", "Relation", "NoRelation", "Model", "Paper"]
def fieldsOf : List (Str × List Str) := [("Shows", ["shares"]), ("Hidden", ["field"]), ("Hiding", ["number", "order"]),
  ("Formula", ["top", "bottom"]), ("NoFormula", ["relations", "places"]), ("Relation", ["poly"]), ("NoRelation", ["places"]),
  ("Model", ["states", "numbers", "changes", "measured", "asks"]), ("Paper", ["places", "rows", "closing", "place", "asked"])]
def defNames : List Str := ["copied", "model_key", "paper_key", "_law_pen", "_law_draw", "_law_pick", "_law_value", "_law_copy", "_law_fields", "_law_rows", "law"]
def bltNames : List Str := ["isinstance", "tuple", "list", "int", "len", "range", "repr"]
def fa : List He.Fa := defNames.map .glo ++ bltNames.map .free ++
  (fieldsOf.flatMap fun c => [.glo c.1, .cls c.1, .mkr c.1, .meth c.1 "__eq__", .meth c.1 "__ne__"] ++ c.2.map fun f => .noat c.1 f)
def insB (K : PySem.W.Frag) (c : Str) : Bool :=
  He.eqO (PySem.W.findIn K (.ref (He.ga K c)) "__class__") (some (some (.builtin "object.__class__"))) &&
    decide (PySem.W.mroIn K (He.ga K c) (.type "object") = some true)
def pairB (K : PySem.W.Frag) (c d : Str) : Bool :=
  decide (PySem.W.kitOne K (.ref (He.ga K c)) (.ref (He.ga K d)) = some (c == d)) &&
    PySem.W.notFirst K (He.ga K c) (.ref (He.ga K d))
def sysB (K : PySem.W.Frag) : Bool := match K.lookup sysModules with
  | some o => (match o.cls with | .type t => t == "dict" | _ => false)
  | none => false
def exB (K : PySem.W.Frag) : Bool := sysB K &&
  (He.eqO (PySem.W.specialIn K (.builtin "object.__class__") "__get__") (some (some (.builtin "getset_descriptor.__get__"))) &&
  (decide (PySem.W.takesIn K (.builtin "object.__class__") = some true) &&
  (cls.all (insB K) && cls.all fun c => cls.all (pairB K c))))
/-! ## the hook -/
def obsK (K : PySem.W.Frag) : He.AlD := ((fa.all fun f => f.ok K) && ((fn.all fun d => d.ok K) && exB K), fn.map fun d => He.fnW K d.at_)
def valK : He.AlD := (true, fn.map He.DefD.val)
def obsKG (g : Addr → Option Obj) : He.AlD := obsK (He.frG g (sysModules :: He.asD g 5))
def hookK : PySem.W.Hook where
  α := He.AlD
  obs := fun s => obsKG s.heap.get?
  val := fun _ => valK
  says := fun _ h => ∃ K : PySem.W.Frag, K.In h ∧ obsK K = valK
  of := fun _ _ e => ⟨_, He.frG_in, e⟩
  keeps := fun _ _ _ ⟨K, hK, c⟩ k => ⟨K, PySem.W.Frag.In.keeps hK k, c⟩
theorem obsKG_eq {g : Addr → Option Obj} {s : Shared} (h : ∀ a, g a = s.heap.get? a) : obsKG g = hookK.obs s := by
  have e : g = s.heap.get? := funext h
  rw [e]
  rfl
def obK (s : PySem.W.SharedT) : He.AlD := obsKG (HandSHeadRun.getT s)
theorem obK_eq (s : PySem.W.SharedT) : obK s = hookK.obs s.abs := obsKG_eq (HandSHeadRun.getT_eq s)
abbrev RR : PySem.W.OpenRow := PySem.W.OpenLaw.row PySem.Challenge.rw_seenmodels_k90_classes_made_by_hand
def looseN : List Str := (prog.main.scope.names.map (·.1)).filter (fun x => x != "law" && x != "__name__")
/-- what is known of the written part -/
structure Kn (K : PySem.W.Frag) : Prop where
  fact : ∀ f ∈ fa, f.ok K = true
  dfs : ∀ d ∈ fn, ∃ fd, FunD K d.name d.qual d.params d.body d.scope (d.dvs K) (d.kws K) (He.fAd K d.at_) fd
  sys : SysD K
  spc : PySem.W.specialIn K (.builtin "object.__class__") "__get__" = some (some (.builtin "getset_descriptor.__get__"))
  tks : PySem.W.takesIn K (.builtin "object.__class__") = some true
  ins : ∀ c ∈ cls, PySem.W.findIn K (.ref (He.ga K c)) "__class__" = some (some (.builtin "object.__class__")) ∧
    PySem.W.mroIn K (He.ga K c) (.type "object") = some true
  two : ∀ c ∈ cls, ∀ d ∈ cls, PySem.W.kitOne K (.ref (He.ga K c)) (.ref (He.ga K d)) = some (c == d) ∧
    PySem.W.notFirst K (He.ga K c) (.ref (He.ga K d)) = true
theorem kn_of {K : PySem.W.Frag} (c : obsK K = valK) : Kn K := by
  have c1 : ((fa.all fun f => f.ok K) && ((fn.all fun d => d.ok K) && exB K)) = true := congrArg (fun z : He.AlD => z.1) c
  have c2 : fn.map (fun d => He.fnW K d.at_) = fn.map He.DefD.val := congrArg (fun z : He.AlD => z.2) c
  obtain ⟨a1, a2⟩ := He.ba c1
  obtain ⟨a2, a3⟩ := He.ba a2
  obtain ⟨b1, b2⟩ := He.ba (show (sysB K && _) = true from a3)
  obtain ⟨b2, b3⟩ := He.ba b2
  obtain ⟨b3, b4⟩ := He.ba b3
  obtain ⟨b4, b5⟩ := He.ba b4
  refine ⟨fun f hf => List.all_eq_true.mp a1 f hf, fun d hd => ?_, ?_, He.eqO_ok b2, of_decide_eq_true b3, fun c hc => ?_, fun c hc d hd => ?_⟩
  · obtain ⟨i, hi⟩ := List.getElem?_of_mem hd
    have e : (fn.map fun d => He.fnW K d.at_)[i]? = (fn.map He.DefD.val)[i]? := by rw [c2]
    rw [List.getElem?_map, List.getElem?_map, hi] at e
    exact He.DefD.funD (Option.some.inj e) (List.all_eq_true.mp a2 d hd)
  · unfold sysB at b1
    cases q : K.lookup sysModules with
    | none => rw [q] at b1; cases b1
    | some o =>
      rw [q] at b1
      obtain ⟨oc, od, dt, sl⟩ := o
      cases oc with
      | type t =>
        have e : t = "dict" := by simpa using b1
        exact ⟨_, q, by rw [e]⟩
      | _ => cases b1
  · obtain ⟨z1, z2⟩ := He.ba (List.all_eq_true.mp b4 c hc)
    exact ⟨He.eqO_ok z1, of_decide_eq_true z2⟩
  · obtain ⟨z1, z2⟩ := He.ba (List.all_eq_true.mp (List.all_eq_true.mp b5 c hc) d hd)
    exact ⟨of_decide_eq_true z1, z2⟩
end Sn

namespace Sn
open PySem PySem.W PySem.Calls PyProof.Rows
theorem run (w : World) : HandSHeadRun.RunEq RR (PySem.W.view RR.prog [24]) hookK obK 4000 looseN w := by
  intro os
  kernel_rfl
end Sn

namespace Sn
open PySem PySem.Spec PyProof.Rows L2
/-! ## what the defs lean on -/
structure Tx (K : PySem.W.Frag) (mg : Str → Option Value) : Prop where
  kn : Kn K
  glo : ∀ x ∈ defNames ++ cls, mg x = some (.ref (He.ga K x))
  free : ∀ x ∈ bltNames, mg x = none
theorem tx_of {K : PySem.W.Frag} {h : Heap} {mg : Str → Option Value} (X : K.In h) (G : h.Ns mainGlobals mg) (k : Kn K) : Tx K mg := by
  refine ⟨k, fun x hx => He.glo_ok X G (k.fact _ ?_), fun x hx => He.free_ok X G (k.fact _ ?_)⟩
  · rcases List.mem_append.mp hx with z | z
    · exact List.mem_append_left _ (List.mem_append_left _ (List.mem_map_of_mem z))
    · refine List.mem_append_right _ (List.mem_flatMap.mpr ?_)
      have e : cls = fieldsOf.map (·.1) := rfl
      rw [e] at z
      obtain ⟨c, hc, ec⟩ := List.mem_map.mp z
      exact ⟨c, hc, by rw [← ec]; simp⟩
  · exact List.mem_append_left _ (List.mem_append_right _ (List.mem_map_of_mem hx))
theorem Kn.df {K : PySem.W.Frag} (k : Kn K) (i : Nat) {d : He.DefD} (h : fn[i]? = some d) :
    ∃ fd, FunD K d.name d.qual d.params d.body d.scope (d.dvs K) (d.kws K) (He.fAd K d.at_) fd := k.dfs d (List.mem_of_getElem? h)

/-! ## copies -/
def NL (H : Hp) (v : V) : Prop := v = .non ∨ (∃ b, v = .bl b) ∨ (∃ i, v = .int i) ∨ (∃ x, v = .str x) ∨
  (∃ a xs, v = .ref a ∧ H a = some (.tup xs)) ∨ ∃ a k i, v = .ref a ∧ H a = some (.dK [(.inr k, .int i)])
def IsL (H : Hp) (v : V) : Prop := ∃ a xs, v = .ref a ∧ H a = some (.lst xs)
def CpV (H : Hp) (v v' : V) : Prop := (NL H v ∧ v' = v) ∨
  ∃ a xs b, v = .ref a ∧ H a = some (.lst xs) ∧ v' = .ref b ∧ H b = some (.tup xs)
theorem NL.ext {H H' : Hp} (e : Ext H H') {v : V} (h : NL H v) : NL H' v := by
  rcases h with h | h | h | h | ⟨a, xs, h, q⟩ | ⟨a, k, i, h, q⟩
  · exact .inl h
  · exact .inr (.inl h)
  · exact .inr (.inr (.inl h))
  · exact .inr (.inr (.inr (.inl h)))
  · exact .inr (.inr (.inr (.inr (.inl ⟨a, xs, h, e _ _ q⟩))))
  · exact .inr (.inr (.inr (.inr (.inr ⟨a, k, i, h, e _ _ q⟩))))
theorem IsL.ext {H H' : Hp} (e : Ext H H') {v : V} (h : IsL H v) : IsL H' v :=
  let ⟨a, xs, h, q⟩ := h; ⟨a, xs, h, e _ _ q⟩
theorem CpV.ext {H H' : Hp} (e : Ext H H') {v v' : V} (h : CpV H v v') : CpV H' v v' := by
  rcases h with ⟨h, q⟩ | ⟨a, xs, b, h1, h2, h3, h4⟩
  · exact .inl ⟨h.ext e, q⟩
  · exact .inr ⟨a, xs, b, h1, e _ _ h2, h3, e _ _ h4⟩
def spCopied : Sp := fun vs H Q _ => ∃ v, vs = [v] ∧ (NL H v ∨ IsL H v) ∧ ∀ v' H', Ext H H' → CpV H' v v' → Q v' H'
/-- isinstance(v, list) for such a value -/
theorem isi_list {K : PySem.W.Frag} {H : Hp} {v : V} (h : NL H v ∨ IsL H v) {Q : VK}
    (h1 : NL H v → Q (.bl false) H) (h2 : IsL H v → Q (.bl true) H) : rIsi K [v, .ty "list"] H Q := by
  rcases h with h | h
  · have q := h1 h
    rcases h with rfl | ⟨b, rfl⟩ | ⟨i, rfl⟩ | ⟨x, rfl⟩ | ⟨a, xs, rfl, e⟩ | ⟨a, k, i, rfl, e⟩
    · exact ⟨_, _, _, _, _, rfl, .ty _, .base .non, kit_ty (by decide +kernel), q⟩
    · exact ⟨_, _, _, _, _, rfl, .ty _, .base (.bl b), kit_ty (by decide +kernel), q⟩
    · exact ⟨_, _, _, _, _, rfl, .ty _, .base (.int i), kit_ty (by decide +kernel), q⟩
    · exact ⟨_, _, _, _, _, rfl, .ty _, .base (.str x), kit_ty (by decide +kernel), q⟩
    · exact ⟨_, _, _, _, _, rfl, .ty _, .base (.tup e), kit_ty (by decide +kernel), q⟩
    · exact ⟨_, _, _, _, _, rfl, .ty _, .base (.dK e), kit_ty (by decide +kernel), q⟩
  · have q := h2 h
    obtain ⟨a, xs, rfl, e⟩ := h
    exact ⟨_, _, _, _, _, rfl, .ty _, .base (.lst e), kit_ty (by decide +kernel), q⟩
section
variable {P : Program} {w : World} {K : PySem.W.Frag} {mg : Str → Option Value} {base : Heap} {f : Addr} {fd : FuncData}
abbrev FnP (K : PySem.W.Frag) (x q : Str) (st : Stmt) (f : Addr) (fd : FuncData) : Prop := FunD K x q (defArgs st) (defBody st) (defScope st) [] [] f fd
theorem sc1 : FnScope ["value"] ["value"] (defScope (topS 1)) := ⟨rfl, rfl, rfl, by decide +kernel, rfl, by decide +kernel, by decide +kernel⟩
theorem sc21 : FnScope ["value"] ["value"] (defScope (topS 21)) := ⟨rfl, rfl, rfl, by decide +kernel, rfl, by decide +kernel, by decide +kernel⟩
/-- `a if isinstance(v, list) else b` -/
theorem rd_isiIf {σ : L2.St} {H : Hp} {v : V} {Q : VK} {i : Nat} {ta tb : TE} (h0 : σ[i]? = some (some v)) (hv : NL H v ∨ IsL H v)
    (h1 : NL H v → tb σ H Q) (h2 : IsL H v → ta σ H Q) :
    tIf (tB (tCB (rIsi K) (tCons (tVar i) (tCons (tC (.ty "list")) tNil)))) ta tb σ H Q :=
  ⟨v, h0, isi_list (K := K) (Q := fun x H1 => ∃ c, x = V.bl c ∧ if c = true then ta σ H1 Q else tb σ H1 Q) hv
    (fun h => ⟨false, rfl, iteF (h1 h)⟩) fun h => ⟨true, rfl, iteT (h2 h)⟩⟩
theorem rd_copied {σ : L2.St} {H : Hp} {v : V} {Q : VK} (h0 : σ[0]? = some (some v)) (hv : NL H v ∨ IsL H v) (k : ∀ v' H', Ext H H' → CpV H' v v' → Q v' H') :
    tIf (tB (tCB (rIsi K) (tCons (tVar 0) (tCons (tC (.ty "list")) tNil))))
      (tCB (fun xs H Q => ∃ p ys, xs = [.ref p] ∧ ((SqL K H p ys ∧ ∀ l, H l = none → Q (.ref l) (upd H l (.tup ys))) ∨ (SqT K H p ys ∧ Q (.ref p) H))) (tCons (tVar 0) tNil)) (tVar 0) σ H Q := by
  refine rd_isiIf h0 hv (fun h => ⟨v, h0, k v H Ext.rfl' (.inl ⟨h, rfl⟩)⟩) fun h => ?_
  obtain ⟨a, xs, e, q⟩ := h
  subst e
  exact ⟨_, h0, a, xs, rfl, .inl ⟨SqL.of q, fun l hl => k _ _ (Ext.upd hl) (.inr ⟨a, xs, l, rfl, Ext.upd hl _ _ q, rfl, upd_same⟩)⟩⟩
theorem ok_copied (F : FnP K "copied" "copied" (topS 1) f fd) (T : Tx K mg) : FnOk P w K mg base CX0 1 f fd ["value"] spCopied := by
  refine F.ok sc1 (fun vs H Q E h => ?_) (fun cdv A outer s H vs Q E hr h => ?_)
  · obtain ⟨v, rfl, _⟩ := h
    rfl
  · obtain ⟨v, rfl, hv, k⟩ := h
    refine ⟨_, PSs.nox (pss_one (ps_ret (pe_ifExp (pt_val (pe_callB call_isi (by rfl) (T.free _ (by decide)) boot_isinstance (pa_cons (pv 0) (pa_cons (pe_bltn (v := .ty "list") (by rfl) (T.free _ (by decide)) boot_list rfl) pa_nil))))
      (pe_callTy call_tuple_of (by rfl) (T.free _ (by decide)) boot_tuple (pa_cons (pv 0) pa_nil)) (pv 0)))), ?_⟩
    exact rd_copied (σ := start ["value"] [v]) rfl hv k
theorem ok_copy (F : FnP K "_law_copy" "_law_copy" (topS 21) f fd) (T : Tx K mg) : FnOk P w K mg base CX0 1 f fd ["value"] spCopied := by
  refine F.ok sc21 (fun vs H Q E h => ?_) (fun cdv A outer s H vs Q E hr h => ?_)
  · obtain ⟨v, rfl, _⟩ := h
    rfl
  · obtain ⟨v, rfl, hv, k⟩ := h
    refine ⟨_, PSs.nox (pss_one (ps_ret (pe_ifExp (pt_val (pe_callB call_isi (by rfl) (T.free _ (by decide)) boot_isinstance (pa_cons (pv 0) (pa_cons (pe_bltn (v := .ty "list") (by rfl) (T.free _ (by decide)) boot_list rfl) pa_nil))))
      (pe_callTy call_tuple_of (by rfl) (T.free _ (by decide)) boot_tuple (pa_cons (pv 0) pa_nil)) (pv 0)))), ?_⟩
    exact rd_copied (σ := start ["value"] [v]) rfl hv k
end
end Sn

namespace Sn
open PySem PySem.Spec PyProof.Rows L2
/-! ## instances made -/
def Off (p : Addr) (H H' : Hp) : Prop := ∀ b o, b ≠ p → H b = some o → H' b = some o
abbrev Cps (H : Hp) : List V → List V → Prop := Paired (CpV H)
theorem NL.off {p : Addr} {H H' : Hp} (e : Off p H H') {C dx : Addr} {fs : List (Str × V)} (hp : H p = some (.ins C dx fs)) {v : V} (h : NL H v) : NL H' v := by
  have go : ∀ b o, H b = some o → o ≠ .ins C dx fs → H' b = some o := fun b o e1 n => e b o (fun z => by
    subst z
    rw [hp] at e1
    exact n (Option.some.inj e1).symm) e1
  rcases h with h | h | h | h | ⟨a, xs, h, q⟩ | ⟨a, k, i, h, q⟩
  · exact .inl h
  · exact .inr (.inl h)
  · exact .inr (.inr (.inl h))
  · exact .inr (.inr (.inr (.inl h)))
  · exact .inr (.inr (.inr (.inr (.inl ⟨a, xs, h, go _ _ q (by simp)⟩))))
  · exact .inr (.inr (.inr (.inr (.inr ⟨a, k, i, h, go _ _ q (by simp)⟩))))
theorem IsL.off {p : Addr} {H H' : Hp} (e : Off p H H') {C dx : Addr} {fs : List (Str × V)} (hp : H p = some (.ins C dx fs)) {v : V} (h : IsL H v) : IsL H' v := by
  obtain ⟨a, xs, h, q⟩ := h
  exact ⟨a, xs, h, e _ _ (fun z => by subst z; rw [hp] at q; cases q) q⟩
theorem CpV.off {p : Addr} {H H' : Hp} (e : Off p H H') {C dx : Addr} {fs : List (Str × V)} (hp : H p = some (.ins C dx fs)) {v v' : V} (h : CpV H v v') : CpV H' v v' := by
  rcases h with ⟨h, q⟩ | ⟨a, xs, b, h1, h2, h3, h4⟩
  · exact .inl ⟨h.off e hp, q⟩
  · exact .inr ⟨a, xs, b, h1, e _ _ (fun z => by subst z; rw [hp] at h2; cases h2) h2, h3, e _ _ (fun z => by subst z; rw [hp] at h4; cases h4) h4⟩
theorem Cps.off {p : Addr} {H H' : Hp} (e : Off p H H') {C dx : Addr} {fs : List (Str × V)} (hp : H p = some (.ins C dx fs)) : ∀ {vs vs' : List V}, Cps H vs vs' → Cps H' vs vs'
  | _, _, .nil => .nil
  | _, _, .cons r t => .cons (r.off e hp) (Cps.off e hp t)
theorem Cps.ext {H H' : Hp} (e : Ext H H') : ∀ {vs vs' : List V}, Cps H vs vs' → Cps H' vs vs'
  | _, _, .nil => .nil
  | _, _, .cons r t => .cons (r.ext e) (Cps.ext e t)
theorem Cps.snoc {H : Hp} {v v' : V} (h : CpV H v v') : ∀ {vs vs' : List V}, Cps H vs vs' → Cps H (vs ++ [v]) (vs' ++ [v'])
  | _, _, .nil => .cons h .nil
  | _, _, .cons r t => .cons r (Cps.snoc h t)
theorem putF_new {f : Str} {v : V} : ∀ {ns : List Str} {vs : List V}, f ∉ ns → ns.length = vs.length → putF f v (ns.zip vs) = (ns ++ [f]).zip (vs ++ [v])
  | [], [], _, _ => rfl
  | n :: ns, u :: vs, h, e => by
    have h1 : ¬ n = f := fun z => h (z ▸ List.mem_cons_self)
    have h2 : f ∉ ns := fun z => h (List.mem_cons_of_mem _ z)
    show (if n = f then _ else (n, u) :: putF f v (ns.zip vs)) = _
    rw [if_neg h1, putF_new h2 (by simpa using e)]
    rfl
  | [], _ :: _, _, e => by simp at e
  | _ :: _, [], _, e => by simp at e
section
variable {K : PySem.W.Frag}
def fldTS (K : PySem.W.Frag) (i : Nat) (f : Str) : TS := sFld K (tVar 0) (tCall spCopied [] E0 (tCons (tVar i) tNil)) f
def initTS (K : PySem.W.Frag) : Nat → List Str → TS
  | _, [] => tNext
  | i, f :: r => tSeq (fldTS K i f) (initTS K (i + 1) r)
theorem fld_step {C p dx : Addr} {fs : List (Str × V)} {f : Str} {v : V} {i : Nat} {D : Ends} {σ : L2.St} {H : Hp}
    (h0 : σ[0]? = some (some (.ref p))) (hi : σ[i]? = some (some v)) (hp : H p = some (.ins C dx fs)) (cl : Cls K C) (na : NoAttr K C f)
    (hl : fs.length < 1000) (hv : NL H v ∨ IsL H v)
    (k : ∀ v' H', Off p H H' → CpV H' v v' → H' p = some (.ins C dx (putF f v' fs)) → D.nx σ H') : fldTS K i f D σ H := by
  refine ⟨v, hi, v, rfl, hv, fun v' H1 e1 c1 => ?_⟩
  have hp1 := e1 _ _ hp
  have off1 : Off p H1 (upd H1 p (.ins C dx (putF f v' fs))) := fun b o hb e => by rw [upd_ne hb]; exact e
  refine ⟨_, h0, p, C, dx, fs, rfl, hp1, cl, na, hl, ?_⟩
  exact k v' _ (fun b o hb e => off1 b o hb (e1 _ _ e)) (c1.off off1 hp1) upd_same
theorem rd_init {C p dx : Addr} (cl : Cls K C) {D : Ends} {σ : L2.St} (h0 : σ[0]? = some (some (.ref p))) :
    ∀ (r : List Str) (i : Nat) (ns : List Str) (args vs' rest : List V) (H : Hp),
      (∀ j v, rest[j]? = some v → σ[i + j]? = some (some v)) → rest.length = r.length → H p = some (.ins C dx (ns.zip vs')) → ns.length = vs'.length →
      ns.length + r.length < 900 → (ns ++ r).Nodup → (∀ f ∈ r, NoAttr K C f) → Cps H args vs' → (∀ v ∈ rest, NL H v ∨ IsL H v) →
      (∀ vs'' H', Off p H H' → H' p = some (.ins C dx ((ns ++ r).zip (vs' ++ vs''))) → Cps H' (args ++ rest) (vs' ++ vs'') → D.nx σ H') → initTS K i r D σ H
  | [], i, ns, args, vs', rest, H, hr, hl, hp, hn, _, _, _, hc, hv, k => by
    have e : rest = [] := List.eq_nil_of_length_eq_zero hl
    subst e
    exact k [] H (fun _ _ _ e => e) (by simpa using hp) (by simpa using hc)
  | f :: r, i, ns, args, vs', [], H, hr, hl, hp, hn, _, _, _, hc, hv, k => by simp at hl
  | f :: r, i, ns, args, vs', v :: rest, H, hr, hl, hp, hn, hz, nd, na, hc, hv, k => by
    have nf : f ∉ ns := fun z => (List.nodup_append.mp nd).2.2 f z f (List.mem_cons_self) rfl
    refine fld_step (D := { D with nx := initTS K (i + 1) r D }) h0 (by simpa using hr 0 v rfl) hp cl (na f List.mem_cons_self) ?_ (hv v List.mem_cons_self) fun v' H1 o1 c1 hp1 => ?_
    · have e1 := List.length_zip (l₁ := ns) (l₂ := vs')
      have e2 : ns.length + (r.length + 1) < 900 := hz
      omega
    · rw [putF_new nf hn] at hp1
      have e2 : ns.length + (r.length + 1) < 900 := hz
      refine rd_init cl h0 r (i + 1) (ns ++ [f]) (args ++ [v]) (vs' ++ [v']) rest H1 (fun j u hj => ?_) (by simpa using hl) hp1 (by simp [hn]) (by simp; omega) (by simpa using nd) (fun g hg => na g (List.mem_cons_of_mem _ hg))
        (Cps.snoc c1 (Cps.off o1 hp hc)) (fun u hu => ?_) fun vs'' H' o' hp' hc' => ?_
      · have := hr (j + 1) u (by simpa using hj)
        rw [show i + 1 + j = i + (j + 1) by omega]
        exact this
      · rcases hv u (List.mem_cons_of_mem _ hu) with z | z
        · exact .inl (z.off o1 hp)
        · exact .inr (z.off o1 hp)
      · exact k (v' :: vs'') H' (fun b o hb e => o' b o hb (o1 b o hb e)) (by simpa using hp') (by simpa using hc')
def spInit (C : Addr) (ns : List Str) : Sp := fun vs H Q _ => ∃ p dx args, vs = .ref p :: args ∧ args.length = ns.length ∧ H p = some (.ins C dx []) ∧
  (∀ v ∈ args, NL H v ∨ IsL H v) ∧ ∀ vs' H', Off p H H' → H' p = some (.ins C dx (ns.zip vs')) → Cps H' args vs' → Q .non H'
end
section
variable {P : Program} {w : World} {K : PySem.W.Frag} {mg : Str → Option Value} {base : Heap} {f : Addr} {fd : FuncData}
/-- the classes, each with its fields -/
structure CF (K : PySem.W.Frag) (c : Str) (ns : List Str) : Prop where
  cl : Cls K (He.ga K c)
  na : ∀ f ∈ ns, NoAttr K (He.ga K c) f
  mkr : Mk K (He.ga K c) (He.ma K (He.ga K c) "__init__")
  eq : Meth K (He.ga K c) "__eq__" (He.ma K (He.ga K c) "__eq__")
  ne : Meth K (He.ga K c) "__ne__" (He.ma K (He.ga K c) "__ne__")
theorem cf_of (k : Kn K) {c : Str} {ns : List Str} (h : (c, ns) ∈ fieldsOf) : CF K c ns := by
  have m : ∀ f, f ∈ ([.glo c, .cls c, .mkr c, .meth c "__eq__", .meth c "__ne__"] ++ ns.map fun f => .noat c f : List He.Fa) → f.ok K = true := fun f hf =>
    k.fact f (List.mem_append_right _ (List.mem_flatMap.mpr ⟨(c, ns), h, hf⟩))
  exact ⟨He.cls_ok (m _ (by simp)), fun f hf => He.noat_ok (m _ (List.mem_append_right _ (List.mem_map_of_mem hf))), He.mkr_ok (m _ (by simp)), He.meth_ok (m _ (by simp)), He.meth_ok (m _ (by simp))⟩
theorem g_copied (T : Tx K mg) : ∃ fd, FnOk P w K mg base CX0 1 (He.ga K "copied") fd ["value"] spCopied ∧ PySem.W.keepIn K (.ref (He.ga K "copied")) = true ∧ Binds K fd ["value"] [] := by
  obtain ⟨fd, F⟩ := T.kn.df 0 rfl
  exact ⟨fd, ok_copied F T, F.kp, F.bindsN fun _ _ _ _ _ _ us hl => match us, hl with | [_], _ => rfl⟩

theorem sci_Shows : FnScope ["self", "shares"] ["self", "shares"] (defScope (inClass (topS 3) 0)) := ⟨rfl, rfl, rfl, by decide +kernel, rfl, by decide +kernel, by decide +kernel⟩
theorem init_Shows (F : FnP K "__init__" "Shows.__init__" (inClass (topS 3) 0) f fd) (T : Tx K mg) : FnOk P w K mg base CX0 2 f fd ["self", "shares"] (spInit (He.ga K "Shows") ["shares"]) := by
  obtain ⟨fdc, GC, kp, bc⟩ := g_copied (P := P) (w := w) (base := base) T
  have M := cf_of T.kn (c := "Shows") (ns := ["shares"]) (by simp [fieldsOf])
  refine F.ok sci_Shows (fun vs H Q E h => ?_) (fun cdv A outer s H vs Q E hr h => ?_)
  · obtain ⟨p, dx, args, e, hl, _⟩ := h
    subst e
    simpa using hl
  · obtain ⟨p, dx, args, e, hl, hp, hv, k⟩ := h
    subst e
    obtain ⟨x0, rfl⟩ : ∃ x0, args = [x0] := by
      match args, hl with
      | [x0], _ => exact ⟨x0, rfl⟩
    refine ⟨initTS K 1 ["shares"], PSs.nox (pss_cons (ps_fld (pv 0) (pe_call GC hr rfl (T.glo _ (by decide)) kp bc .nil pass0 (pa_cons (pv 1) pa_nil)) rfl) (pss_nil)), ?_⟩
    refine rd_init M.cl (p := p) (dx := dx) rfl ["shares"] 1 [] [] [] [x0] H (fun j v hj => ?_) rfl hp rfl (by decide) (by decide +kernel) M.na .nil hv fun vs' H' o hp' hc => k vs' H' o hp' hc
    match j, hj with
    | 0, hj => exact congrArg some hj
    | j + 1, hj => simp at hj

theorem sci_Hidden : FnScope ["self", "field"] ["self", "field"] (defScope (inClass (topS 4) 0)) := ⟨rfl, rfl, rfl, by decide +kernel, rfl, by decide +kernel, by decide +kernel⟩
theorem init_Hidden (F : FnP K "__init__" "Hidden.__init__" (inClass (topS 4) 0) f fd) (T : Tx K mg) : FnOk P w K mg base CX0 2 f fd ["self", "field"] (spInit (He.ga K "Hidden") ["field"]) := by
  obtain ⟨fdc, GC, kp, bc⟩ := g_copied (P := P) (w := w) (base := base) T
  have M := cf_of T.kn (c := "Hidden") (ns := ["field"]) (by simp [fieldsOf])
  refine F.ok sci_Hidden (fun vs H Q E h => ?_) (fun cdv A outer s H vs Q E hr h => ?_)
  · obtain ⟨p, dx, args, e, hl, _⟩ := h
    subst e
    simpa using hl
  · obtain ⟨p, dx, args, e, hl, hp, hv, k⟩ := h
    subst e
    obtain ⟨x0, rfl⟩ : ∃ x0, args = [x0] := by
      match args, hl with
      | [x0], _ => exact ⟨x0, rfl⟩
    refine ⟨initTS K 1 ["field"], PSs.nox (pss_cons (ps_fld (pv 0) (pe_call GC hr rfl (T.glo _ (by decide)) kp bc .nil pass0 (pa_cons (pv 1) pa_nil)) rfl) (pss_nil)), ?_⟩
    refine rd_init M.cl (p := p) (dx := dx) rfl ["field"] 1 [] [] [] [x0] H (fun j v hj => ?_) rfl hp rfl (by decide) (by decide +kernel) M.na .nil hv fun vs' H' o hp' hc => k vs' H' o hp' hc
    match j, hj with
    | 0, hj => exact congrArg some hj
    | j + 1, hj => simp at hj

theorem sci_Hiding : FnScope ["self", "number", "order"] ["self", "number", "order"] (defScope (inClass (topS 5) 0)) := ⟨rfl, rfl, rfl, by decide +kernel, rfl, by decide +kernel, by decide +kernel⟩
theorem init_Hiding (F : FnP K "__init__" "Hiding.__init__" (inClass (topS 5) 0) f fd) (T : Tx K mg) : FnOk P w K mg base CX0 2 f fd ["self", "number", "order"] (spInit (He.ga K "Hiding") ["number", "order"]) := by
  obtain ⟨fdc, GC, kp, bc⟩ := g_copied (P := P) (w := w) (base := base) T
  have M := cf_of T.kn (c := "Hiding") (ns := ["number", "order"]) (by simp [fieldsOf])
  refine F.ok sci_Hiding (fun vs H Q E h => ?_) (fun cdv A outer s H vs Q E hr h => ?_)
  · obtain ⟨p, dx, args, e, hl, _⟩ := h
    subst e
    simpa using hl
  · obtain ⟨p, dx, args, e, hl, hp, hv, k⟩ := h
    subst e
    obtain ⟨x0, x1, rfl⟩ : ∃ x0 x1, args = [x0, x1] := by
      match args, hl with
      | [x0, x1], _ => exact ⟨x0, x1, rfl⟩
    refine ⟨initTS K 1 ["number", "order"], PSs.nox (pss_cons (ps_fld (pv 0) (pe_call GC hr rfl (T.glo _ (by decide)) kp bc .nil pass0 (pa_cons (pv 1) pa_nil)) rfl) (pss_cons (ps_fld (pv 0) (pe_call GC hr rfl (T.glo _ (by decide)) kp bc .nil pass0 (pa_cons (pv 2) pa_nil)) rfl) (pss_nil))), ?_⟩
    refine rd_init M.cl (p := p) (dx := dx) rfl ["number", "order"] 1 [] [] [] [x0, x1] H (fun j v hj => ?_) rfl hp rfl (by decide) (by decide +kernel) M.na .nil hv fun vs' H' o hp' hc => k vs' H' o hp' hc
    match j, hj with
    | 0, hj => exact congrArg some hj
    | 1, hj => exact congrArg some hj
    | j + 2, hj => simp at hj

theorem sci_Formula : FnScope ["self", "top", "bottom"] ["self", "top", "bottom"] (defScope (inClass (topS 6) 0)) := ⟨rfl, rfl, rfl, by decide +kernel, rfl, by decide +kernel, by decide +kernel⟩
theorem init_Formula (F : FnP K "__init__" "Formula.__init__" (inClass (topS 6) 0) f fd) (T : Tx K mg) : FnOk P w K mg base CX0 2 f fd ["self", "top", "bottom"] (spInit (He.ga K "Formula") ["top", "bottom"]) := by
  obtain ⟨fdc, GC, kp, bc⟩ := g_copied (P := P) (w := w) (base := base) T
  have M := cf_of T.kn (c := "Formula") (ns := ["top", "bottom"]) (by simp [fieldsOf])
  refine F.ok sci_Formula (fun vs H Q E h => ?_) (fun cdv A outer s H vs Q E hr h => ?_)
  · obtain ⟨p, dx, args, e, hl, _⟩ := h
    subst e
    simpa using hl
  · obtain ⟨p, dx, args, e, hl, hp, hv, k⟩ := h
    subst e
    obtain ⟨x0, x1, rfl⟩ : ∃ x0 x1, args = [x0, x1] := by
      match args, hl with
      | [x0, x1], _ => exact ⟨x0, x1, rfl⟩
    refine ⟨initTS K 1 ["top", "bottom"], PSs.nox (pss_cons (ps_fld (pv 0) (pe_call GC hr rfl (T.glo _ (by decide)) kp bc .nil pass0 (pa_cons (pv 1) pa_nil)) rfl) (pss_cons (ps_fld (pv 0) (pe_call GC hr rfl (T.glo _ (by decide)) kp bc .nil pass0 (pa_cons (pv 2) pa_nil)) rfl) (pss_nil))), ?_⟩
    refine rd_init M.cl (p := p) (dx := dx) rfl ["top", "bottom"] 1 [] [] [] [x0, x1] H (fun j v hj => ?_) rfl hp rfl (by decide) (by decide +kernel) M.na .nil hv fun vs' H' o hp' hc => k vs' H' o hp' hc
    match j, hj with
    | 0, hj => exact congrArg some hj
    | 1, hj => exact congrArg some hj
    | j + 2, hj => simp at hj

theorem sci_NoFormula : FnScope ["self", "relations", "places"] ["self", "relations", "places"] (defScope (inClass (topS 7) 0)) := ⟨rfl, rfl, rfl, by decide +kernel, rfl, by decide +kernel, by decide +kernel⟩
theorem init_NoFormula (F : FnP K "__init__" "NoFormula.__init__" (inClass (topS 7) 0) f fd) (T : Tx K mg) : FnOk P w K mg base CX0 2 f fd ["self", "relations", "places"] (spInit (He.ga K "NoFormula") ["relations", "places"]) := by
  obtain ⟨fdc, GC, kp, bc⟩ := g_copied (P := P) (w := w) (base := base) T
  have M := cf_of T.kn (c := "NoFormula") (ns := ["relations", "places"]) (by simp [fieldsOf])
  refine F.ok sci_NoFormula (fun vs H Q E h => ?_) (fun cdv A outer s H vs Q E hr h => ?_)
  · obtain ⟨p, dx, args, e, hl, _⟩ := h
    subst e
    simpa using hl
  · obtain ⟨p, dx, args, e, hl, hp, hv, k⟩ := h
    subst e
    obtain ⟨x0, x1, rfl⟩ : ∃ x0 x1, args = [x0, x1] := by
      match args, hl with
      | [x0, x1], _ => exact ⟨x0, x1, rfl⟩
    refine ⟨initTS K 1 ["relations", "places"], PSs.nox (pss_cons (ps_fld (pv 0) (pe_call GC hr rfl (T.glo _ (by decide)) kp bc .nil pass0 (pa_cons (pv 1) pa_nil)) rfl) (pss_cons (ps_fld (pv 0) (pe_call GC hr rfl (T.glo _ (by decide)) kp bc .nil pass0 (pa_cons (pv 2) pa_nil)) rfl) (pss_nil))), ?_⟩
    refine rd_init M.cl (p := p) (dx := dx) rfl ["relations", "places"] 1 [] [] [] [x0, x1] H (fun j v hj => ?_) rfl hp rfl (by decide) (by decide +kernel) M.na .nil hv fun vs' H' o hp' hc => k vs' H' o hp' hc
    match j, hj with
    | 0, hj => exact congrArg some hj
    | 1, hj => exact congrArg some hj
    | j + 2, hj => simp at hj

theorem sci_Relation : FnScope ["self", "poly"] ["self", "poly"] (defScope (inClass (topS 8) 0)) := ⟨rfl, rfl, rfl, by decide +kernel, rfl, by decide +kernel, by decide +kernel⟩
theorem init_Relation (F : FnP K "__init__" "Relation.__init__" (inClass (topS 8) 0) f fd) (T : Tx K mg) : FnOk P w K mg base CX0 2 f fd ["self", "poly"] (spInit (He.ga K "Relation") ["poly"]) := by
  obtain ⟨fdc, GC, kp, bc⟩ := g_copied (P := P) (w := w) (base := base) T
  have M := cf_of T.kn (c := "Relation") (ns := ["poly"]) (by simp [fieldsOf])
  refine F.ok sci_Relation (fun vs H Q E h => ?_) (fun cdv A outer s H vs Q E hr h => ?_)
  · obtain ⟨p, dx, args, e, hl, _⟩ := h
    subst e
    simpa using hl
  · obtain ⟨p, dx, args, e, hl, hp, hv, k⟩ := h
    subst e
    obtain ⟨x0, rfl⟩ : ∃ x0, args = [x0] := by
      match args, hl with
      | [x0], _ => exact ⟨x0, rfl⟩
    refine ⟨initTS K 1 ["poly"], PSs.nox (pss_cons (ps_fld (pv 0) (pe_call GC hr rfl (T.glo _ (by decide)) kp bc .nil pass0 (pa_cons (pv 1) pa_nil)) rfl) (pss_nil)), ?_⟩
    refine rd_init M.cl (p := p) (dx := dx) rfl ["poly"] 1 [] [] [] [x0] H (fun j v hj => ?_) rfl hp rfl (by decide) (by decide +kernel) M.na .nil hv fun vs' H' o hp' hc => k vs' H' o hp' hc
    match j, hj with
    | 0, hj => exact congrArg some hj
    | j + 1, hj => simp at hj

theorem sci_NoRelation : FnScope ["self", "places"] ["self", "places"] (defScope (inClass (topS 9) 0)) := ⟨rfl, rfl, rfl, by decide +kernel, rfl, by decide +kernel, by decide +kernel⟩
theorem init_NoRelation (F : FnP K "__init__" "NoRelation.__init__" (inClass (topS 9) 0) f fd) (T : Tx K mg) : FnOk P w K mg base CX0 2 f fd ["self", "places"] (spInit (He.ga K "NoRelation") ["places"]) := by
  obtain ⟨fdc, GC, kp, bc⟩ := g_copied (P := P) (w := w) (base := base) T
  have M := cf_of T.kn (c := "NoRelation") (ns := ["places"]) (by simp [fieldsOf])
  refine F.ok sci_NoRelation (fun vs H Q E h => ?_) (fun cdv A outer s H vs Q E hr h => ?_)
  · obtain ⟨p, dx, args, e, hl, _⟩ := h
    subst e
    simpa using hl
  · obtain ⟨p, dx, args, e, hl, hp, hv, k⟩ := h
    subst e
    obtain ⟨x0, rfl⟩ : ∃ x0, args = [x0] := by
      match args, hl with
      | [x0], _ => exact ⟨x0, rfl⟩
    refine ⟨initTS K 1 ["places"], PSs.nox (pss_cons (ps_fld (pv 0) (pe_call GC hr rfl (T.glo _ (by decide)) kp bc .nil pass0 (pa_cons (pv 1) pa_nil)) rfl) (pss_nil)), ?_⟩
    refine rd_init M.cl (p := p) (dx := dx) rfl ["places"] 1 [] [] [] [x0] H (fun j v hj => ?_) rfl hp rfl (by decide) (by decide +kernel) M.na .nil hv fun vs' H' o hp' hc => k vs' H' o hp' hc
    match j, hj with
    | 0, hj => exact congrArg some hj
    | j + 1, hj => simp at hj

theorem sci_Model : FnScope ["self", "states", "numbers", "changes", "measured", "asks"] ["self", "states", "numbers", "changes", "measured", "asks"] (defScope (inClass (topS 11) 0)) := ⟨rfl, rfl, rfl, by decide +kernel, rfl, by decide +kernel, by decide +kernel⟩
theorem init_Model (F : FnP K "__init__" "Model.__init__" (inClass (topS 11) 0) f fd) (T : Tx K mg) : FnOk P w K mg base CX0 2 f fd ["self", "states", "numbers", "changes", "measured", "asks"] (spInit (He.ga K "Model") ["states", "numbers", "changes", "measured", "asks"]) := by
  obtain ⟨fdc, GC, kp, bc⟩ := g_copied (P := P) (w := w) (base := base) T
  have M := cf_of T.kn (c := "Model") (ns := ["states", "numbers", "changes", "measured", "asks"]) (by simp [fieldsOf])
  refine F.ok sci_Model (fun vs H Q E h => ?_) (fun cdv A outer s H vs Q E hr h => ?_)
  · obtain ⟨p, dx, args, e, hl, _⟩ := h
    subst e
    simpa using hl
  · obtain ⟨p, dx, args, e, hl, hp, hv, k⟩ := h
    subst e
    obtain ⟨x0, x1, x2, x3, x4, rfl⟩ : ∃ x0 x1 x2 x3 x4, args = [x0, x1, x2, x3, x4] := by
      match args, hl with
      | [x0, x1, x2, x3, x4], _ => exact ⟨x0, x1, x2, x3, x4, rfl⟩
    refine ⟨initTS K 1 ["states", "numbers", "changes", "measured", "asks"], PSs.nox (pss_cons (ps_fld (pv 0) (pe_call GC hr rfl (T.glo _ (by decide)) kp bc .nil pass0 (pa_cons (pv 1) pa_nil)) rfl) (pss_cons (ps_fld (pv 0) (pe_call GC hr rfl (T.glo _ (by decide)) kp bc .nil pass0 (pa_cons (pv 2) pa_nil)) rfl) (pss_cons (ps_fld (pv 0) (pe_call GC hr rfl (T.glo _ (by decide)) kp bc .nil pass0 (pa_cons (pv 3) pa_nil)) rfl) (pss_cons (ps_fld (pv 0) (pe_call GC hr rfl (T.glo _ (by decide)) kp bc .nil pass0 (pa_cons (pv 4) pa_nil)) rfl) (pss_cons (ps_fld (pv 0) (pe_call GC hr rfl (T.glo _ (by decide)) kp bc .nil pass0 (pa_cons (pv 5) pa_nil)) rfl) (pss_nil)))))), ?_⟩
    refine rd_init M.cl (p := p) (dx := dx) rfl ["states", "numbers", "changes", "measured", "asks"] 1 [] [] [] [x0, x1, x2, x3, x4] H (fun j v hj => ?_) rfl hp rfl (by decide) (by decide +kernel) M.na .nil hv fun vs' H' o hp' hc => k vs' H' o hp' hc
    match j, hj with
    | 0, hj => exact congrArg some hj
    | 1, hj => exact congrArg some hj
    | 2, hj => exact congrArg some hj
    | 3, hj => exact congrArg some hj
    | 4, hj => exact congrArg some hj
    | j + 5, hj => simp at hj

theorem sci_Paper : FnScope ["self", "places", "rows", "closing", "place", "asked"] ["self", "places", "rows", "closing", "place", "asked"] (defScope (inClass (topS 14) 0)) := ⟨rfl, rfl, rfl, by decide +kernel, rfl, by decide +kernel, by decide +kernel⟩
theorem init_Paper (F : FnP K "__init__" "Paper.__init__" (inClass (topS 14) 0) f fd) (T : Tx K mg) : FnOk P w K mg base CX0 2 f fd ["self", "places", "rows", "closing", "place", "asked"] (spInit (He.ga K "Paper") ["places", "rows", "closing", "place", "asked"]) := by
  obtain ⟨fdc, GC, kp, bc⟩ := g_copied (P := P) (w := w) (base := base) T
  have M := cf_of T.kn (c := "Paper") (ns := ["places", "rows", "closing", "place", "asked"]) (by simp [fieldsOf])
  refine F.ok sci_Paper (fun vs H Q E h => ?_) (fun cdv A outer s H vs Q E hr h => ?_)
  · obtain ⟨p, dx, args, e, hl, _⟩ := h
    subst e
    simpa using hl
  · obtain ⟨p, dx, args, e, hl, hp, hv, k⟩ := h
    subst e
    obtain ⟨x0, x1, x2, x3, x4, rfl⟩ : ∃ x0 x1 x2 x3 x4, args = [x0, x1, x2, x3, x4] := by
      match args, hl with
      | [x0, x1, x2, x3, x4], _ => exact ⟨x0, x1, x2, x3, x4, rfl⟩
    refine ⟨initTS K 1 ["places", "rows", "closing", "place", "asked"], PSs.nox (pss_cons (ps_fld (pv 0) (pe_call GC hr rfl (T.glo _ (by decide)) kp bc .nil pass0 (pa_cons (pv 1) pa_nil)) rfl) (pss_cons (ps_fld (pv 0) (pe_call GC hr rfl (T.glo _ (by decide)) kp bc .nil pass0 (pa_cons (pv 2) pa_nil)) rfl) (pss_cons (ps_fld (pv 0) (pe_call GC hr rfl (T.glo _ (by decide)) kp bc .nil pass0 (pa_cons (pv 3) pa_nil)) rfl) (pss_cons (ps_fld (pv 0) (pe_call GC hr rfl (T.glo _ (by decide)) kp bc .nil pass0 (pa_cons (pv 4) pa_nil)) rfl) (pss_cons (ps_fld (pv 0) (pe_call GC hr rfl (T.glo _ (by decide)) kp bc .nil pass0 (pa_cons (pv 5) pa_nil)) rfl) (pss_nil)))))), ?_⟩
    refine rd_init M.cl (p := p) (dx := dx) rfl ["places", "rows", "closing", "place", "asked"] 1 [] [] [] [x0, x1, x2, x3, x4] H (fun j v hj => ?_) rfl hp rfl (by decide) (by decide +kernel) M.na .nil hv fun vs' H' o hp' hc => k vs' H' o hp' hc
    match j, hj with
    | 0, hj => exact congrArg some hj
    | 1, hj => exact congrArg some hj
    | 2, hj => exact congrArg some hj
    | 3, hj => exact congrArg some hj
    | 4, hj => exact congrArg some hj
    | j + 5, hj => simp at hj

end
end Sn

namespace Sn
open PySem PySem.Spec PyProof.Rows L2
/-! ## equality of instances -/
theorem lk_zip {f : Str} {x : V} : ∀ {ns : List Str} {xs : List V} {i : Nat}, ns.Nodup → ns[i]? = some f → xs[i]? = some x → (ns.zip xs).lookup f = some x
  | [], _, _, _, h, _ => by simp at h
  | _ :: _, [], _, _, _, h => by simp at h
  | n :: ns, u :: xs, 0, _, h1, h2 => by
    have e1 : n = f := by simpa using h1
    have e2 : u = x := by simpa using h2
    show (match f == n with | true => some u | false => (ns.zip xs).lookup f) = _
    rw [e1, e2, beq_self_eq_true]
  | n :: ns, u :: xs, i + 1, nd, h1, h2 => by
    simp at h1 h2
    have nf : f ≠ n := fun z => by
      subst z
      exact (List.nodup_cons.mp nd).1 (List.mem_of_getElem? h1)
    show (match f == n with | true => some u | false => (ns.zip xs).lookup f) = _
    rw [beq_eq_false_iff_ne.mpr nf]
    exact lk_zip (List.nodup_cons.mp nd).2 h1 h2
theorem lk_none {f : Str} : ∀ {ns : List Str} {xs : List V}, f ∉ ns → (ns.zip xs).lookup f = none
  | [], _, _ => by simp
  | _ :: _, [], _ => by simp
  | n :: ns, u :: xs, h => by
    have nf : f ≠ n := fun z => h (by rw [z]; exact List.mem_cons_self)
    show (match f == n with | true => some u | false => (ns.zip xs).lookup f) = _
    rw [beq_eq_false_iff_ne.mpr nf]
    exact lk_none fun z => h (List.mem_cons_of_mem _ z)
mutual
theorem Dp_ext {K : PySem.W.Frag} {H H' : Hp} (e : Ext H H') : ∀ {v d}, Dp K H v d → Dp K H' v d
  | _, _, .non => .non
  | _, _, .bl b => .bl b
  | _, _, .int i => .int i
  | _, _, .str x => .str x
  | _, _, .lst h r => .lst (h.ext e) (DpAll_ext e r)
  | _, _, .tup h r => .tup (h.ext e) (DpAll_ext e r)
theorem DpAll_ext {K : PySem.W.Frag} {H H' : Hp} (e : Ext H H') : ∀ {v d}, DpAll K H v d → DpAll K H' v d
  | _, _, .nil => .nil
  | _, _, .cons r s => .cons (Dp_ext e r) (DpAll_ext e s)
end
theorem FEq.ext {K : PySem.W.Frag} {H H' : Hp} (e : Ext H H') {x y : V} {b : Bool} (h : FEq K x y H b) : FEq K x y H' b := by
  rcases h with h | ⟨h1, h2⟩ | ⟨h1, a, k, i, h2, h3, h4⟩ | ⟨d, d', h1, h2, h3, h4, h5⟩
  · exact .inl h
  · exact .inr (.inl ⟨h1, mon_tup mon1 _ _ _ _ e h2⟩)
  · exact .inr (.inr (.inl ⟨h1, a, k, i, h2, h3, e _ _ h4⟩))
  · exact .inr (.inr (.inr ⟨d, d', Dp_ext e h1, Dp_ext e h2, h3, h4, h5⟩))
def FEqs (K : PySem.W.Frag) (xs ys : List V) (H : Hp) (r : Bool) : Prop := (r = true ∧ Prs (D1 K) xs ys H) ∨
  ∃ ds es, DpAll K H xs ds ∧ DpAll K H ys es ∧ SeqAt.shaped (.tuple ds) = true ∧ SeqAt.shaped (.tuple es) = true ∧ r = PyData.eqv (.tuple ds) (.tuple es)
theorem FEqs.tup {K : PySem.W.Frag} {xs ys : List V} {H H' : Hp} {r : Bool} {t u : Addr} (h : FEqs K xs ys H r) (e : Ext H H') (ht : H' t = some (.tup xs)) (hu : H' u = some (.tup ys)) : FEq K (.ref t) (.ref u) H' r := by
  rcases h with ⟨h1, h2⟩ | ⟨ds, es, h1, h2, h3, h4, h5⟩
  · exact .inr (.inl ⟨h1, t, u, xs, ys, rfl, rfl, SqT.of ht, SqT.of hu, h2.mon mon1 e⟩)
  · exact .inr (.inr (.inr ⟨_, _, .tup (SqT.of ht) (DpAll_ext e h1), .tup (SqT.of hu) (DpAll_ext e h2), h3, h4, h5⟩))
def FEqN (K : PySem.W.Frag) : List V → List V → Hp → Bool → Prop
  | [x], [y], H, r => FEq K x y H r
  | xs, ys, H, r => FEqs K xs ys H r
/-- what __eq__, __ne__ promise: g tells the answer -/
def spCmp (K : PySem.W.Frag) (g : Bool → Bool) (c : Str) (ns : List Str) : Sp := fun vs H Q _ => ∃ a b dx dy xs d gs, vs = [.ref a, .ref b] ∧
  H a = some (.ins (He.ga K c) dx (ns.zip xs)) ∧ xs.length = ns.length ∧ d ∈ cls ∧ H b = some (.ins (He.ga K d) dy gs) ∧
  ((d ≠ c ∧ ∀ H', Ext H H' → Q (.bl (g false)) H') ∨ (d = c ∧ ∃ ys r, ys.length = ns.length ∧ gs = ns.zip ys ∧ FEqN K xs ys H r ∧ ∀ H', Ext H H' → Q (.bl (g r)) H'))
def spKey (K : PySem.W.Frag) (c : Str) (ns : List Str) : Sp := fun vs H Q _ => ∃ a dx xs, vs = [.ref a] ∧ H a = some (.ins (He.ga K c) dx (ns.zip xs)) ∧ xs.length = ns.length ∧
  ∀ p, H p = none → Q (.ref p) (upd H p (.tup xs))
theorem room_line {k : Nat} : k ≤ 5 → k ≤ sizeLine := fun h => by rw [sizeLine_eq]; omega
section
variable {P : Program} {w : World} {K : PySem.W.Frag} {mg : Str → Option Value} {base : Heap} {f : Addr} {fd : FuncData}
theorem cl_of (k : Kn K) {d : Str} (h : d ∈ cls) : Cls K (He.ga K d) := by
  have e : cls = fieldsOf.map (·.1) := rfl
  rw [e] at h
  obtain ⟨c, hc, ec⟩ := List.mem_map.mp h
  subst ec
  exact (cf_of k (c := c.1) (ns := c.2) hc).cl
/-- isinstance(o, C) -/
theorem rd_isiC (k : Kn K) {c d : Str} {H : Hp} {b dy : Addr} {gs : List (Str × V)} {Q : VK} (hc : c ∈ cls) (hd : d ∈ cls) (hb : H b = some (.ins (He.ga K d) dy gs)) (q : Q (.bl (d == c)) H) :
    rIsi K [.ref b, .ref (He.ga K c)] H Q :=
  ⟨_, _, _, _, _, rfl, .own _, .base (.ins hb (cl_of k hd) (k.ins d hd).1 k.spc k.tks (k.ins d hd).2), (k.two d hd c hc).1, q⟩
/-- isinstance(other, C) and rest -/
theorem rd_and (k : Kn K) {c d : Str} {σ : L2.St} {H : Hp} {b dy : Addr} {gs : List (Str × V)} {Q : VK} {tb : TE} (hc : c ∈ cls) (hd : d ∈ cls) (h1 : σ[1]? = some (some (.ref b))) (hb : H b = some (.ins (He.ga K d) dy gs))
    (q0 : d ≠ c → Q (.bl false) H) (q1 : d = c → tb σ H Q) : tAndV (tCB (rIsi K) (tCons (tVar 1) (tCons (tC (.ref (He.ga K c))) tNil))) tb σ H Q := by
  refine ⟨_, h1, rd_isiC (Q := fun x H1 => ∃ z, x = V.bl z ∧ if z = true then tb σ H1 Q else Q (.bl false) H1) k hc hd hb ⟨_, rfl, ?_⟩⟩
  by_cases e : d = c
  · rw [show (d == c) = true from beq_iff_eq.mpr e]
    exact iteT (q1 e)
  · rw [show (d == c) = false from beq_eq_false_iff_ne.mpr e]
    exact iteF (q0 e)
/-- self.f, other.f -/
theorem rd_fld {c : Str} {ns : List Str} (M : CF K c ns) (nd : ns.Nodup) {σ : L2.St} {H : Hp} {j i : Nat} {a dx : Addr} {xs : List V} {fl : Str} {x : V} {Q : VK} (hj : σ[j]? = some (some (.ref a))) (ha : H a = some (.ins (He.ga K c) dx (ns.zip xs)))
    (hi : ns[i]? = some fl) (hx : xs[i]? = some x) (q : Q x H) : tFld K (tVar j) fl σ H Q :=
  ⟨_, hj, a, _, dx, _, x, rfl, ha, M.cl, M.na _ (List.mem_of_getElem? hi), lk_zip nd hi hx, q⟩

theorem sce_Shows : FnScope ["self", "other"] ["self", "other"] (defScope (inClass (topS 3) 1)) := ⟨rfl, rfl, rfl, by decide +kernel, rfl, by decide +kernel, by decide +kernel⟩
theorem eq_Shows (F : FnP K "__eq__" "Shows.__eq__" (inClass (topS 3) 1) f fd) (T : Tx K mg) : FnOk P w K mg base CX0 3 f fd ["self", "other"] (spCmp K id "Shows" ["shares"]) := by
  have M := cf_of T.kn (c := "Shows") (ns := ["shares"]) (by simp [fieldsOf])
  refine F.ok sce_Shows (fun vs H Q E h => ?_) (fun cdv A outer s H vs Q E hr h => ?_)
  · obtain ⟨a, b, dx, dy, xs, d, gs, rfl, _⟩ := h
    rfl
  · have hr1 := hr.mono (show 1 ≤ 2 by decide)
    obtain ⟨a, b, dx, dy, xs, d, gs, rfl, ha, hx, hd, hb, k⟩ := h
    refine ⟨_, PSs.nox (pss_one (ps_ret (pe_and (pe_callB call_isi (by rfl) (T.free _ (by decide)) boot_isinstance (pa_cons (pv 1) (pa_cons (pe_glob (v := .ref (He.ga K "Shows")) (by rfl) (T.glo _ (by decide)) rfl) pa_nil))) (pe_one (pe_cmpR (op_feq hr) (pe_fld (pv 0) rfl) (pe_fld (pv 1) rfl) (nomark _)))))), ?_⟩
    refine rd_and T.kn (c := "Shows") (by decide) hd rfl hb (fun ne => ?_) (fun e => ?_)
    · rcases k with ⟨_, q⟩ | ⟨e, _⟩
      · exact q H Ext.rfl'
      · exact absurd e ne
    · rcases k with ⟨ne, _⟩ | ⟨_, ys, r, hy, eg, hr', q⟩
      · exact absurd e ne
      subst e eg
      obtain ⟨x, rfl⟩ : ∃ x, xs = [x] := by
        match xs, hx with
        | [x], _ => exact ⟨x, rfl⟩
      obtain ⟨y, rfl⟩ : ∃ y, ys = [y] := by
        match ys, hy with
        | [y], _ => exact ⟨y, rfl⟩
      exact rd_fld M (by decide) (i := 0) rfl ha rfl rfl (rd_fld M (by decide) (i := 0) rfl hb rfl rfl ⟨r, hr', q⟩)

theorem scn_Shows : FnScope ["self", "other"] ["self", "other"] (defScope (inClass (topS 3) 2)) := ⟨rfl, rfl, rfl, by decide +kernel, rfl, by decide +kernel, by decide +kernel⟩
theorem ge_Shows (T : Tx K mg) : ∃ fd, FnOk P w K mg base CX0 3 (He.ma K (He.ga K "Shows") "__eq__") fd ["self", "other"] (spCmp K id "Shows" ["shares"]) ∧ Binds K fd ["self", "other"] [] := by
  obtain ⟨fd, F⟩ := T.kn.df 2 rfl
  exact ⟨fd, eq_Shows F T, F.bindsN fun _ _ _ _ _ _ us hl => match us, hl with | [_, _], _ => rfl⟩
theorem ne_Shows (F : FnP K "__ne__" "Shows.__ne__" (inClass (topS 3) 2) f fd) (T : Tx K mg) : FnOk P w K mg base CX0 4 f fd ["self", "other"] (spCmp K not "Shows" ["shares"]) := by
  obtain ⟨fde, GE, be⟩ := ge_Shows (P := P) (w := w) (base := base) T
  have M := cf_of T.kn (c := "Shows") (ns := ["shares"]) (by simp [fieldsOf])
  refine F.ok scn_Shows (fun vs H Q E h => ?_) (fun cdv A outer s H vs Q E hr h => ?_)
  · obtain ⟨a, b, dx, dy, xs, d, gs, rfl, _⟩ := h
    rfl
  · obtain ⟨a, b, dx, dy, xs, d, gs, rfl, ha, hx, hd, hb, k⟩ := h
    refine ⟨_, PSs.nox (pss_one (ps_ret (pe_not (pe_cmpR (op_own (m := "__eq__") rfl (fun _ _ => rfl) hr) (pv 0) (pv 1) (nomark _))))), ?_⟩
    refine ⟨_, rfl, _, rfl, a, b, _, _, dx, dy, _, _, gs, fde, _, rfl, rfl, ha, hb, (T.kn.two _ (by decide) d hd).2, M.eq.at_, M.eq.fn, be, GE, a, b, dx, dy, xs, d, gs, rfl, ha, hx, hd, hb, ?_⟩
    rcases k with ⟨ne, q⟩ | ⟨e, ys, r, hy, eg, hr', q⟩
    · exact .inl ⟨ne, fun H' e => ⟨false, rfl, false, rfl, q H' e⟩⟩
    · exact .inr ⟨e, ys, r, hy, eg, hr', fun H' e => ⟨r, rfl, r, rfl, q H' e⟩⟩
theorem gn_Shows (T : Tx K mg) : ∃ fd, FnOk P w K mg base CX0 4 (He.ma K (He.ga K "Shows") "__ne__") fd ["self", "other"] (spCmp K not "Shows" ["shares"]) ∧ Binds K fd ["self", "other"] [] := by
  obtain ⟨fd, F⟩ := T.kn.df 3 rfl
  exact ⟨fd, ne_Shows F T, F.bindsN fun _ _ _ _ _ _ us hl => match us, hl with | [_, _], _ => rfl⟩

theorem sce_Hidden : FnScope ["self", "other"] ["self", "other"] (defScope (inClass (topS 4) 1)) := ⟨rfl, rfl, rfl, by decide +kernel, rfl, by decide +kernel, by decide +kernel⟩
theorem eq_Hidden (F : FnP K "__eq__" "Hidden.__eq__" (inClass (topS 4) 1) f fd) (T : Tx K mg) : FnOk P w K mg base CX0 3 f fd ["self", "other"] (spCmp K id "Hidden" ["field"]) := by
  have M := cf_of T.kn (c := "Hidden") (ns := ["field"]) (by simp [fieldsOf])
  refine F.ok sce_Hidden (fun vs H Q E h => ?_) (fun cdv A outer s H vs Q E hr h => ?_)
  · obtain ⟨a, b, dx, dy, xs, d, gs, rfl, _⟩ := h
    rfl
  · have hr1 := hr.mono (show 1 ≤ 2 by decide)
    obtain ⟨a, b, dx, dy, xs, d, gs, rfl, ha, hx, hd, hb, k⟩ := h
    refine ⟨_, PSs.nox (pss_one (ps_ret (pe_and (pe_callB call_isi (by rfl) (T.free _ (by decide)) boot_isinstance (pa_cons (pv 1) (pa_cons (pe_glob (v := .ref (He.ga K "Hidden")) (by rfl) (T.glo _ (by decide)) rfl) pa_nil))) (pe_one (pe_cmpR (op_feq hr) (pe_fld (pv 0) rfl) (pe_fld (pv 1) rfl) (nomark _)))))), ?_⟩
    refine rd_and T.kn (c := "Hidden") (by decide) hd rfl hb (fun ne => ?_) (fun e => ?_)
    · rcases k with ⟨_, q⟩ | ⟨e, _⟩
      · exact q H Ext.rfl'
      · exact absurd e ne
    · rcases k with ⟨ne, _⟩ | ⟨_, ys, r, hy, eg, hr', q⟩
      · exact absurd e ne
      subst e eg
      obtain ⟨x, rfl⟩ : ∃ x, xs = [x] := by
        match xs, hx with
        | [x], _ => exact ⟨x, rfl⟩
      obtain ⟨y, rfl⟩ : ∃ y, ys = [y] := by
        match ys, hy with
        | [y], _ => exact ⟨y, rfl⟩
      exact rd_fld M (by decide) (i := 0) rfl ha rfl rfl (rd_fld M (by decide) (i := 0) rfl hb rfl rfl ⟨r, hr', q⟩)

theorem scn_Hidden : FnScope ["self", "other"] ["self", "other"] (defScope (inClass (topS 4) 2)) := ⟨rfl, rfl, rfl, by decide +kernel, rfl, by decide +kernel, by decide +kernel⟩
theorem ge_Hidden (T : Tx K mg) : ∃ fd, FnOk P w K mg base CX0 3 (He.ma K (He.ga K "Hidden") "__eq__") fd ["self", "other"] (spCmp K id "Hidden" ["field"]) ∧ Binds K fd ["self", "other"] [] := by
  obtain ⟨fd, F⟩ := T.kn.df 5 rfl
  exact ⟨fd, eq_Hidden F T, F.bindsN fun _ _ _ _ _ _ us hl => match us, hl with | [_, _], _ => rfl⟩
theorem ne_Hidden (F : FnP K "__ne__" "Hidden.__ne__" (inClass (topS 4) 2) f fd) (T : Tx K mg) : FnOk P w K mg base CX0 4 f fd ["self", "other"] (spCmp K not "Hidden" ["field"]) := by
  obtain ⟨fde, GE, be⟩ := ge_Hidden (P := P) (w := w) (base := base) T
  have M := cf_of T.kn (c := "Hidden") (ns := ["field"]) (by simp [fieldsOf])
  refine F.ok scn_Hidden (fun vs H Q E h => ?_) (fun cdv A outer s H vs Q E hr h => ?_)
  · obtain ⟨a, b, dx, dy, xs, d, gs, rfl, _⟩ := h
    rfl
  · obtain ⟨a, b, dx, dy, xs, d, gs, rfl, ha, hx, hd, hb, k⟩ := h
    refine ⟨_, PSs.nox (pss_one (ps_ret (pe_not (pe_cmpR (op_own (m := "__eq__") rfl (fun _ _ => rfl) hr) (pv 0) (pv 1) (nomark _))))), ?_⟩
    refine ⟨_, rfl, _, rfl, a, b, _, _, dx, dy, _, _, gs, fde, _, rfl, rfl, ha, hb, (T.kn.two _ (by decide) d hd).2, M.eq.at_, M.eq.fn, be, GE, a, b, dx, dy, xs, d, gs, rfl, ha, hx, hd, hb, ?_⟩
    rcases k with ⟨ne, q⟩ | ⟨e, ys, r, hy, eg, hr', q⟩
    · exact .inl ⟨ne, fun H' e => ⟨false, rfl, false, rfl, q H' e⟩⟩
    · exact .inr ⟨e, ys, r, hy, eg, hr', fun H' e => ⟨r, rfl, r, rfl, q H' e⟩⟩
theorem gn_Hidden (T : Tx K mg) : ∃ fd, FnOk P w K mg base CX0 4 (He.ma K (He.ga K "Hidden") "__ne__") fd ["self", "other"] (spCmp K not "Hidden" ["field"]) ∧ Binds K fd ["self", "other"] [] := by
  obtain ⟨fd, F⟩ := T.kn.df 6 rfl
  exact ⟨fd, ne_Hidden F T, F.bindsN fun _ _ _ _ _ _ us hl => match us, hl with | [_, _], _ => rfl⟩

theorem sce_Hiding : FnScope ["self", "other"] ["self", "other"] (defScope (inClass (topS 5) 1)) := ⟨rfl, rfl, rfl, by decide +kernel, rfl, by decide +kernel, by decide +kernel⟩
theorem eq_Hiding (F : FnP K "__eq__" "Hiding.__eq__" (inClass (topS 5) 1) f fd) (T : Tx K mg) : FnOk P w K mg base CX0 3 f fd ["self", "other"] (spCmp K id "Hiding" ["number", "order"]) := by
  have M := cf_of T.kn (c := "Hiding") (ns := ["number", "order"]) (by simp [fieldsOf])
  refine F.ok sce_Hiding (fun vs H Q E h => ?_) (fun cdv A outer s H vs Q E hr h => ?_)
  · obtain ⟨a, b, dx, dy, xs, d, gs, rfl, _⟩ := h
    rfl
  · have hr1 := hr.mono (show 1 ≤ 2 by decide)
    obtain ⟨a, b, dx, dy, xs, d, gs, rfl, ha, hx, hd, hb, k⟩ := h
    refine ⟨_, PSs.nox (pss_one (ps_ret (pe_and (pe_callB call_isi (by rfl) (T.free _ (by decide)) boot_isinstance (pa_cons (pv 1) (pa_cons (pe_glob (v := .ref (He.ga K "Hiding")) (by rfl) (T.glo _ (by decide)) rfl) pa_nil))) (pe_one (pe_cmpR (op_feq hr) (pe_tup (pa_cons (pe_fld (pv 0) rfl) (pa_cons (pe_fld (pv 0) rfl) pa_nil))) (pe_tup (pa_cons (pe_fld (pv 1) rfl) (pa_cons (pe_fld (pv 1) rfl) pa_nil))) (nomark _)))))), ?_⟩
    refine rd_and T.kn (c := "Hiding") (by decide) hd rfl hb (fun ne => ?_) (fun e => ?_)
    · rcases k with ⟨_, q⟩ | ⟨e, _⟩
      · exact q H Ext.rfl'
      · exact absurd e ne
    · rcases k with ⟨ne, _⟩ | ⟨_, ys, r, hy, eg, hr', q⟩
      · exact absurd e ne
      subst e eg
      obtain ⟨x, x', rfl⟩ : ∃ x x', xs = [x, x'] := by
        match xs, hx with
        | [x, x'], _ => exact ⟨x, x', rfl⟩
      obtain ⟨y, y', rfl⟩ : ∃ y y', ys = [y, y'] := by
        match ys, hy with
        | [y, y'], _ => exact ⟨y, y', rfl⟩
      refine ⟨_, rfl, a, _, dx, _, _, rfl, ha, M.cl, M.na _ (List.mem_of_getElem? (i := 0) rfl), lk_zip (i := 0) (by decide) rfl rfl, ?_⟩
      refine ⟨_, rfl, a, _, dx, _, _, rfl, ha, M.cl, M.na _ (List.mem_of_getElem? (i := 1) rfl), lk_zip (i := 1) (by decide) rfl rfl, ?_⟩
      refine ⟨room_line (by simp), fun p hp => ?_⟩
      have e1 := Ext.upd (o := .tup [x, x']) hp
      refine ⟨_, rfl, b, _, dy, _, _, rfl, e1 _ _ hb, M.cl, M.na _ (List.mem_of_getElem? (i := 0) rfl), lk_zip (i := 0) (by decide) rfl rfl, ?_⟩
      refine ⟨_, rfl, b, _, dy, _, _, rfl, e1 _ _ hb, M.cl, M.na _ (List.mem_of_getElem? (i := 1) rfl), lk_zip (i := 1) (by decide) rfl rfl, ?_⟩
      refine ⟨room_line (by simp), fun u hu => ?_⟩
      have e2 := Ext.upd (o := .tup [y, y']) hu
      exact ⟨r, FEqs.tup hr' (e1.trans e2) (e2 _ _ upd_same) upd_same, fun H' e3 => q H' ((e1.trans e2).trans e3)⟩

theorem scn_Hiding : FnScope ["self", "other"] ["self", "other"] (defScope (inClass (topS 5) 2)) := ⟨rfl, rfl, rfl, by decide +kernel, rfl, by decide +kernel, by decide +kernel⟩
theorem ge_Hiding (T : Tx K mg) : ∃ fd, FnOk P w K mg base CX0 3 (He.ma K (He.ga K "Hiding") "__eq__") fd ["self", "other"] (spCmp K id "Hiding" ["number", "order"]) ∧ Binds K fd ["self", "other"] [] := by
  obtain ⟨fd, F⟩ := T.kn.df 8 rfl
  exact ⟨fd, eq_Hiding F T, F.bindsN fun _ _ _ _ _ _ us hl => match us, hl with | [_, _], _ => rfl⟩
theorem ne_Hiding (F : FnP K "__ne__" "Hiding.__ne__" (inClass (topS 5) 2) f fd) (T : Tx K mg) : FnOk P w K mg base CX0 4 f fd ["self", "other"] (spCmp K not "Hiding" ["number", "order"]) := by
  obtain ⟨fde, GE, be⟩ := ge_Hiding (P := P) (w := w) (base := base) T
  have M := cf_of T.kn (c := "Hiding") (ns := ["number", "order"]) (by simp [fieldsOf])
  refine F.ok scn_Hiding (fun vs H Q E h => ?_) (fun cdv A outer s H vs Q E hr h => ?_)
  · obtain ⟨a, b, dx, dy, xs, d, gs, rfl, _⟩ := h
    rfl
  · obtain ⟨a, b, dx, dy, xs, d, gs, rfl, ha, hx, hd, hb, k⟩ := h
    refine ⟨_, PSs.nox (pss_one (ps_ret (pe_not (pe_cmpR (op_own (m := "__eq__") rfl (fun _ _ => rfl) hr) (pv 0) (pv 1) (nomark _))))), ?_⟩
    refine ⟨_, rfl, _, rfl, a, b, _, _, dx, dy, _, _, gs, fde, _, rfl, rfl, ha, hb, (T.kn.two _ (by decide) d hd).2, M.eq.at_, M.eq.fn, be, GE, a, b, dx, dy, xs, d, gs, rfl, ha, hx, hd, hb, ?_⟩
    rcases k with ⟨ne, q⟩ | ⟨e, ys, r, hy, eg, hr', q⟩
    · exact .inl ⟨ne, fun H' e => ⟨false, rfl, false, rfl, q H' e⟩⟩
    · exact .inr ⟨e, ys, r, hy, eg, hr', fun H' e => ⟨r, rfl, r, rfl, q H' e⟩⟩
theorem gn_Hiding (T : Tx K mg) : ∃ fd, FnOk P w K mg base CX0 4 (He.ma K (He.ga K "Hiding") "__ne__") fd ["self", "other"] (spCmp K not "Hiding" ["number", "order"]) ∧ Binds K fd ["self", "other"] [] := by
  obtain ⟨fd, F⟩ := T.kn.df 9 rfl
  exact ⟨fd, ne_Hiding F T, F.bindsN fun _ _ _ _ _ _ us hl => match us, hl with | [_, _], _ => rfl⟩

theorem sce_Formula : FnScope ["self", "other"] ["self", "other"] (defScope (inClass (topS 6) 1)) := ⟨rfl, rfl, rfl, by decide +kernel, rfl, by decide +kernel, by decide +kernel⟩
theorem eq_Formula (F : FnP K "__eq__" "Formula.__eq__" (inClass (topS 6) 1) f fd) (T : Tx K mg) : FnOk P w K mg base CX0 3 f fd ["self", "other"] (spCmp K id "Formula" ["top", "bottom"]) := by
  have M := cf_of T.kn (c := "Formula") (ns := ["top", "bottom"]) (by simp [fieldsOf])
  refine F.ok sce_Formula (fun vs H Q E h => ?_) (fun cdv A outer s H vs Q E hr h => ?_)
  · obtain ⟨a, b, dx, dy, xs, d, gs, rfl, _⟩ := h
    rfl
  · have hr1 := hr.mono (show 1 ≤ 2 by decide)
    obtain ⟨a, b, dx, dy, xs, d, gs, rfl, ha, hx, hd, hb, k⟩ := h
    refine ⟨_, PSs.nox (pss_one (ps_ret (pe_and (pe_callB call_isi (by rfl) (T.free _ (by decide)) boot_isinstance (pa_cons (pv 1) (pa_cons (pe_glob (v := .ref (He.ga K "Formula")) (by rfl) (T.glo _ (by decide)) rfl) pa_nil))) (pe_one (pe_cmpR (op_feq hr) (pe_tup (pa_cons (pe_fld (pv 0) rfl) (pa_cons (pe_fld (pv 0) rfl) pa_nil))) (pe_tup (pa_cons (pe_fld (pv 1) rfl) (pa_cons (pe_fld (pv 1) rfl) pa_nil))) (nomark _)))))), ?_⟩
    refine rd_and T.kn (c := "Formula") (by decide) hd rfl hb (fun ne => ?_) (fun e => ?_)
    · rcases k with ⟨_, q⟩ | ⟨e, _⟩
      · exact q H Ext.rfl'
      · exact absurd e ne
    · rcases k with ⟨ne, _⟩ | ⟨_, ys, r, hy, eg, hr', q⟩
      · exact absurd e ne
      subst e eg
      obtain ⟨x, x', rfl⟩ : ∃ x x', xs = [x, x'] := by
        match xs, hx with
        | [x, x'], _ => exact ⟨x, x', rfl⟩
      obtain ⟨y, y', rfl⟩ : ∃ y y', ys = [y, y'] := by
        match ys, hy with
        | [y, y'], _ => exact ⟨y, y', rfl⟩
      refine ⟨_, rfl, a, _, dx, _, _, rfl, ha, M.cl, M.na _ (List.mem_of_getElem? (i := 0) rfl), lk_zip (i := 0) (by decide) rfl rfl, ?_⟩
      refine ⟨_, rfl, a, _, dx, _, _, rfl, ha, M.cl, M.na _ (List.mem_of_getElem? (i := 1) rfl), lk_zip (i := 1) (by decide) rfl rfl, ?_⟩
      refine ⟨room_line (by simp), fun p hp => ?_⟩
      have e1 := Ext.upd (o := .tup [x, x']) hp
      refine ⟨_, rfl, b, _, dy, _, _, rfl, e1 _ _ hb, M.cl, M.na _ (List.mem_of_getElem? (i := 0) rfl), lk_zip (i := 0) (by decide) rfl rfl, ?_⟩
      refine ⟨_, rfl, b, _, dy, _, _, rfl, e1 _ _ hb, M.cl, M.na _ (List.mem_of_getElem? (i := 1) rfl), lk_zip (i := 1) (by decide) rfl rfl, ?_⟩
      refine ⟨room_line (by simp), fun u hu => ?_⟩
      have e2 := Ext.upd (o := .tup [y, y']) hu
      exact ⟨r, FEqs.tup hr' (e1.trans e2) (e2 _ _ upd_same) upd_same, fun H' e3 => q H' ((e1.trans e2).trans e3)⟩

theorem scn_Formula : FnScope ["self", "other"] ["self", "other"] (defScope (inClass (topS 6) 2)) := ⟨rfl, rfl, rfl, by decide +kernel, rfl, by decide +kernel, by decide +kernel⟩
theorem ge_Formula (T : Tx K mg) : ∃ fd, FnOk P w K mg base CX0 3 (He.ma K (He.ga K "Formula") "__eq__") fd ["self", "other"] (spCmp K id "Formula" ["top", "bottom"]) ∧ Binds K fd ["self", "other"] [] := by
  obtain ⟨fd, F⟩ := T.kn.df 11 rfl
  exact ⟨fd, eq_Formula F T, F.bindsN fun _ _ _ _ _ _ us hl => match us, hl with | [_, _], _ => rfl⟩
theorem ne_Formula (F : FnP K "__ne__" "Formula.__ne__" (inClass (topS 6) 2) f fd) (T : Tx K mg) : FnOk P w K mg base CX0 4 f fd ["self", "other"] (spCmp K not "Formula" ["top", "bottom"]) := by
  obtain ⟨fde, GE, be⟩ := ge_Formula (P := P) (w := w) (base := base) T
  have M := cf_of T.kn (c := "Formula") (ns := ["top", "bottom"]) (by simp [fieldsOf])
  refine F.ok scn_Formula (fun vs H Q E h => ?_) (fun cdv A outer s H vs Q E hr h => ?_)
  · obtain ⟨a, b, dx, dy, xs, d, gs, rfl, _⟩ := h
    rfl
  · obtain ⟨a, b, dx, dy, xs, d, gs, rfl, ha, hx, hd, hb, k⟩ := h
    refine ⟨_, PSs.nox (pss_one (ps_ret (pe_not (pe_cmpR (op_own (m := "__eq__") rfl (fun _ _ => rfl) hr) (pv 0) (pv 1) (nomark _))))), ?_⟩
    refine ⟨_, rfl, _, rfl, a, b, _, _, dx, dy, _, _, gs, fde, _, rfl, rfl, ha, hb, (T.kn.two _ (by decide) d hd).2, M.eq.at_, M.eq.fn, be, GE, a, b, dx, dy, xs, d, gs, rfl, ha, hx, hd, hb, ?_⟩
    rcases k with ⟨ne, q⟩ | ⟨e, ys, r, hy, eg, hr', q⟩
    · exact .inl ⟨ne, fun H' e => ⟨false, rfl, false, rfl, q H' e⟩⟩
    · exact .inr ⟨e, ys, r, hy, eg, hr', fun H' e => ⟨r, rfl, r, rfl, q H' e⟩⟩
theorem gn_Formula (T : Tx K mg) : ∃ fd, FnOk P w K mg base CX0 4 (He.ma K (He.ga K "Formula") "__ne__") fd ["self", "other"] (spCmp K not "Formula" ["top", "bottom"]) ∧ Binds K fd ["self", "other"] [] := by
  obtain ⟨fd, F⟩ := T.kn.df 12 rfl
  exact ⟨fd, ne_Formula F T, F.bindsN fun _ _ _ _ _ _ us hl => match us, hl with | [_, _], _ => rfl⟩

theorem sce_NoFormula : FnScope ["self", "other"] ["self", "other"] (defScope (inClass (topS 7) 1)) := ⟨rfl, rfl, rfl, by decide +kernel, rfl, by decide +kernel, by decide +kernel⟩
theorem eq_NoFormula (F : FnP K "__eq__" "NoFormula.__eq__" (inClass (topS 7) 1) f fd) (T : Tx K mg) : FnOk P w K mg base CX0 3 f fd ["self", "other"] (spCmp K id "NoFormula" ["relations", "places"]) := by
  have M := cf_of T.kn (c := "NoFormula") (ns := ["relations", "places"]) (by simp [fieldsOf])
  refine F.ok sce_NoFormula (fun vs H Q E h => ?_) (fun cdv A outer s H vs Q E hr h => ?_)
  · obtain ⟨a, b, dx, dy, xs, d, gs, rfl, _⟩ := h
    rfl
  · have hr1 := hr.mono (show 1 ≤ 2 by decide)
    obtain ⟨a, b, dx, dy, xs, d, gs, rfl, ha, hx, hd, hb, k⟩ := h
    refine ⟨_, PSs.nox (pss_one (ps_ret (pe_and (pe_callB call_isi (by rfl) (T.free _ (by decide)) boot_isinstance (pa_cons (pv 1) (pa_cons (pe_glob (v := .ref (He.ga K "NoFormula")) (by rfl) (T.glo _ (by decide)) rfl) pa_nil))) (pe_one (pe_cmpR (op_feq hr) (pe_tup (pa_cons (pe_fld (pv 0) rfl) (pa_cons (pe_fld (pv 0) rfl) pa_nil))) (pe_tup (pa_cons (pe_fld (pv 1) rfl) (pa_cons (pe_fld (pv 1) rfl) pa_nil))) (nomark _)))))), ?_⟩
    refine rd_and T.kn (c := "NoFormula") (by decide) hd rfl hb (fun ne => ?_) (fun e => ?_)
    · rcases k with ⟨_, q⟩ | ⟨e, _⟩
      · exact q H Ext.rfl'
      · exact absurd e ne
    · rcases k with ⟨ne, _⟩ | ⟨_, ys, r, hy, eg, hr', q⟩
      · exact absurd e ne
      subst e eg
      obtain ⟨x, x', rfl⟩ : ∃ x x', xs = [x, x'] := by
        match xs, hx with
        | [x, x'], _ => exact ⟨x, x', rfl⟩
      obtain ⟨y, y', rfl⟩ : ∃ y y', ys = [y, y'] := by
        match ys, hy with
        | [y, y'], _ => exact ⟨y, y', rfl⟩
      refine ⟨_, rfl, a, _, dx, _, _, rfl, ha, M.cl, M.na _ (List.mem_of_getElem? (i := 0) rfl), lk_zip (i := 0) (by decide) rfl rfl, ?_⟩
      refine ⟨_, rfl, a, _, dx, _, _, rfl, ha, M.cl, M.na _ (List.mem_of_getElem? (i := 1) rfl), lk_zip (i := 1) (by decide) rfl rfl, ?_⟩
      refine ⟨room_line (by simp), fun p hp => ?_⟩
      have e1 := Ext.upd (o := .tup [x, x']) hp
      refine ⟨_, rfl, b, _, dy, _, _, rfl, e1 _ _ hb, M.cl, M.na _ (List.mem_of_getElem? (i := 0) rfl), lk_zip (i := 0) (by decide) rfl rfl, ?_⟩
      refine ⟨_, rfl, b, _, dy, _, _, rfl, e1 _ _ hb, M.cl, M.na _ (List.mem_of_getElem? (i := 1) rfl), lk_zip (i := 1) (by decide) rfl rfl, ?_⟩
      refine ⟨room_line (by simp), fun u hu => ?_⟩
      have e2 := Ext.upd (o := .tup [y, y']) hu
      exact ⟨r, FEqs.tup hr' (e1.trans e2) (e2 _ _ upd_same) upd_same, fun H' e3 => q H' ((e1.trans e2).trans e3)⟩

theorem scn_NoFormula : FnScope ["self", "other"] ["self", "other"] (defScope (inClass (topS 7) 2)) := ⟨rfl, rfl, rfl, by decide +kernel, rfl, by decide +kernel, by decide +kernel⟩
theorem ge_NoFormula (T : Tx K mg) : ∃ fd, FnOk P w K mg base CX0 3 (He.ma K (He.ga K "NoFormula") "__eq__") fd ["self", "other"] (spCmp K id "NoFormula" ["relations", "places"]) ∧ Binds K fd ["self", "other"] [] := by
  obtain ⟨fd, F⟩ := T.kn.df 14 rfl
  exact ⟨fd, eq_NoFormula F T, F.bindsN fun _ _ _ _ _ _ us hl => match us, hl with | [_, _], _ => rfl⟩
theorem ne_NoFormula (F : FnP K "__ne__" "NoFormula.__ne__" (inClass (topS 7) 2) f fd) (T : Tx K mg) : FnOk P w K mg base CX0 4 f fd ["self", "other"] (spCmp K not "NoFormula" ["relations", "places"]) := by
  obtain ⟨fde, GE, be⟩ := ge_NoFormula (P := P) (w := w) (base := base) T
  have M := cf_of T.kn (c := "NoFormula") (ns := ["relations", "places"]) (by simp [fieldsOf])
  refine F.ok scn_NoFormula (fun vs H Q E h => ?_) (fun cdv A outer s H vs Q E hr h => ?_)
  · obtain ⟨a, b, dx, dy, xs, d, gs, rfl, _⟩ := h
    rfl
  · obtain ⟨a, b, dx, dy, xs, d, gs, rfl, ha, hx, hd, hb, k⟩ := h
    refine ⟨_, PSs.nox (pss_one (ps_ret (pe_not (pe_cmpR (op_own (m := "__eq__") rfl (fun _ _ => rfl) hr) (pv 0) (pv 1) (nomark _))))), ?_⟩
    refine ⟨_, rfl, _, rfl, a, b, _, _, dx, dy, _, _, gs, fde, _, rfl, rfl, ha, hb, (T.kn.two _ (by decide) d hd).2, M.eq.at_, M.eq.fn, be, GE, a, b, dx, dy, xs, d, gs, rfl, ha, hx, hd, hb, ?_⟩
    rcases k with ⟨ne, q⟩ | ⟨e, ys, r, hy, eg, hr', q⟩
    · exact .inl ⟨ne, fun H' e => ⟨false, rfl, false, rfl, q H' e⟩⟩
    · exact .inr ⟨e, ys, r, hy, eg, hr', fun H' e => ⟨r, rfl, r, rfl, q H' e⟩⟩
theorem gn_NoFormula (T : Tx K mg) : ∃ fd, FnOk P w K mg base CX0 4 (He.ma K (He.ga K "NoFormula") "__ne__") fd ["self", "other"] (spCmp K not "NoFormula" ["relations", "places"]) ∧ Binds K fd ["self", "other"] [] := by
  obtain ⟨fd, F⟩ := T.kn.df 15 rfl
  exact ⟨fd, ne_NoFormula F T, F.bindsN fun _ _ _ _ _ _ us hl => match us, hl with | [_, _], _ => rfl⟩

theorem sce_Relation : FnScope ["self", "other"] ["self", "other"] (defScope (inClass (topS 8) 1)) := ⟨rfl, rfl, rfl, by decide +kernel, rfl, by decide +kernel, by decide +kernel⟩
theorem eq_Relation (F : FnP K "__eq__" "Relation.__eq__" (inClass (topS 8) 1) f fd) (T : Tx K mg) : FnOk P w K mg base CX0 3 f fd ["self", "other"] (spCmp K id "Relation" ["poly"]) := by
  have M := cf_of T.kn (c := "Relation") (ns := ["poly"]) (by simp [fieldsOf])
  refine F.ok sce_Relation (fun vs H Q E h => ?_) (fun cdv A outer s H vs Q E hr h => ?_)
  · obtain ⟨a, b, dx, dy, xs, d, gs, rfl, _⟩ := h
    rfl
  · have hr1 := hr.mono (show 1 ≤ 2 by decide)
    obtain ⟨a, b, dx, dy, xs, d, gs, rfl, ha, hx, hd, hb, k⟩ := h
    refine ⟨_, PSs.nox (pss_one (ps_ret (pe_and (pe_callB call_isi (by rfl) (T.free _ (by decide)) boot_isinstance (pa_cons (pv 1) (pa_cons (pe_glob (v := .ref (He.ga K "Relation")) (by rfl) (T.glo _ (by decide)) rfl) pa_nil))) (pe_one (pe_cmpR (op_feq hr) (pe_fld (pv 0) rfl) (pe_fld (pv 1) rfl) (nomark _)))))), ?_⟩
    refine rd_and T.kn (c := "Relation") (by decide) hd rfl hb (fun ne => ?_) (fun e => ?_)
    · rcases k with ⟨_, q⟩ | ⟨e, _⟩
      · exact q H Ext.rfl'
      · exact absurd e ne
    · rcases k with ⟨ne, _⟩ | ⟨_, ys, r, hy, eg, hr', q⟩
      · exact absurd e ne
      subst e eg
      obtain ⟨x, rfl⟩ : ∃ x, xs = [x] := by
        match xs, hx with
        | [x], _ => exact ⟨x, rfl⟩
      obtain ⟨y, rfl⟩ : ∃ y, ys = [y] := by
        match ys, hy with
        | [y], _ => exact ⟨y, rfl⟩
      exact rd_fld M (by decide) (i := 0) rfl ha rfl rfl (rd_fld M (by decide) (i := 0) rfl hb rfl rfl ⟨r, hr', q⟩)

theorem scn_Relation : FnScope ["self", "other"] ["self", "other"] (defScope (inClass (topS 8) 2)) := ⟨rfl, rfl, rfl, by decide +kernel, rfl, by decide +kernel, by decide +kernel⟩
theorem ge_Relation (T : Tx K mg) : ∃ fd, FnOk P w K mg base CX0 3 (He.ma K (He.ga K "Relation") "__eq__") fd ["self", "other"] (spCmp K id "Relation" ["poly"]) ∧ Binds K fd ["self", "other"] [] := by
  obtain ⟨fd, F⟩ := T.kn.df 17 rfl
  exact ⟨fd, eq_Relation F T, F.bindsN fun _ _ _ _ _ _ us hl => match us, hl with | [_, _], _ => rfl⟩
theorem ne_Relation (F : FnP K "__ne__" "Relation.__ne__" (inClass (topS 8) 2) f fd) (T : Tx K mg) : FnOk P w K mg base CX0 4 f fd ["self", "other"] (spCmp K not "Relation" ["poly"]) := by
  obtain ⟨fde, GE, be⟩ := ge_Relation (P := P) (w := w) (base := base) T
  have M := cf_of T.kn (c := "Relation") (ns := ["poly"]) (by simp [fieldsOf])
  refine F.ok scn_Relation (fun vs H Q E h => ?_) (fun cdv A outer s H vs Q E hr h => ?_)
  · obtain ⟨a, b, dx, dy, xs, d, gs, rfl, _⟩ := h
    rfl
  · obtain ⟨a, b, dx, dy, xs, d, gs, rfl, ha, hx, hd, hb, k⟩ := h
    refine ⟨_, PSs.nox (pss_one (ps_ret (pe_not (pe_cmpR (op_own (m := "__eq__") rfl (fun _ _ => rfl) hr) (pv 0) (pv 1) (nomark _))))), ?_⟩
    refine ⟨_, rfl, _, rfl, a, b, _, _, dx, dy, _, _, gs, fde, _, rfl, rfl, ha, hb, (T.kn.two _ (by decide) d hd).2, M.eq.at_, M.eq.fn, be, GE, a, b, dx, dy, xs, d, gs, rfl, ha, hx, hd, hb, ?_⟩
    rcases k with ⟨ne, q⟩ | ⟨e, ys, r, hy, eg, hr', q⟩
    · exact .inl ⟨ne, fun H' e => ⟨false, rfl, false, rfl, q H' e⟩⟩
    · exact .inr ⟨e, ys, r, hy, eg, hr', fun H' e => ⟨r, rfl, r, rfl, q H' e⟩⟩
theorem gn_Relation (T : Tx K mg) : ∃ fd, FnOk P w K mg base CX0 4 (He.ma K (He.ga K "Relation") "__ne__") fd ["self", "other"] (spCmp K not "Relation" ["poly"]) ∧ Binds K fd ["self", "other"] [] := by
  obtain ⟨fd, F⟩ := T.kn.df 18 rfl
  exact ⟨fd, ne_Relation F T, F.bindsN fun _ _ _ _ _ _ us hl => match us, hl with | [_, _], _ => rfl⟩

theorem sce_NoRelation : FnScope ["self", "other"] ["self", "other"] (defScope (inClass (topS 9) 1)) := ⟨rfl, rfl, rfl, by decide +kernel, rfl, by decide +kernel, by decide +kernel⟩
theorem eq_NoRelation (F : FnP K "__eq__" "NoRelation.__eq__" (inClass (topS 9) 1) f fd) (T : Tx K mg) : FnOk P w K mg base CX0 3 f fd ["self", "other"] (spCmp K id "NoRelation" ["places"]) := by
  have M := cf_of T.kn (c := "NoRelation") (ns := ["places"]) (by simp [fieldsOf])
  refine F.ok sce_NoRelation (fun vs H Q E h => ?_) (fun cdv A outer s H vs Q E hr h => ?_)
  · obtain ⟨a, b, dx, dy, xs, d, gs, rfl, _⟩ := h
    rfl
  · have hr1 := hr.mono (show 1 ≤ 2 by decide)
    obtain ⟨a, b, dx, dy, xs, d, gs, rfl, ha, hx, hd, hb, k⟩ := h
    refine ⟨_, PSs.nox (pss_one (ps_ret (pe_and (pe_callB call_isi (by rfl) (T.free _ (by decide)) boot_isinstance (pa_cons (pv 1) (pa_cons (pe_glob (v := .ref (He.ga K "NoRelation")) (by rfl) (T.glo _ (by decide)) rfl) pa_nil))) (pe_one (pe_cmpR (op_feq hr) (pe_fld (pv 0) rfl) (pe_fld (pv 1) rfl) (nomark _)))))), ?_⟩
    refine rd_and T.kn (c := "NoRelation") (by decide) hd rfl hb (fun ne => ?_) (fun e => ?_)
    · rcases k with ⟨_, q⟩ | ⟨e, _⟩
      · exact q H Ext.rfl'
      · exact absurd e ne
    · rcases k with ⟨ne, _⟩ | ⟨_, ys, r, hy, eg, hr', q⟩
      · exact absurd e ne
      subst e eg
      obtain ⟨x, rfl⟩ : ∃ x, xs = [x] := by
        match xs, hx with
        | [x], _ => exact ⟨x, rfl⟩
      obtain ⟨y, rfl⟩ : ∃ y, ys = [y] := by
        match ys, hy with
        | [y], _ => exact ⟨y, rfl⟩
      exact rd_fld M (by decide) (i := 0) rfl ha rfl rfl (rd_fld M (by decide) (i := 0) rfl hb rfl rfl ⟨r, hr', q⟩)

theorem scn_NoRelation : FnScope ["self", "other"] ["self", "other"] (defScope (inClass (topS 9) 2)) := ⟨rfl, rfl, rfl, by decide +kernel, rfl, by decide +kernel, by decide +kernel⟩
theorem ge_NoRelation (T : Tx K mg) : ∃ fd, FnOk P w K mg base CX0 3 (He.ma K (He.ga K "NoRelation") "__eq__") fd ["self", "other"] (spCmp K id "NoRelation" ["places"]) ∧ Binds K fd ["self", "other"] [] := by
  obtain ⟨fd, F⟩ := T.kn.df 20 rfl
  exact ⟨fd, eq_NoRelation F T, F.bindsN fun _ _ _ _ _ _ us hl => match us, hl with | [_, _], _ => rfl⟩
theorem ne_NoRelation (F : FnP K "__ne__" "NoRelation.__ne__" (inClass (topS 9) 2) f fd) (T : Tx K mg) : FnOk P w K mg base CX0 4 f fd ["self", "other"] (spCmp K not "NoRelation" ["places"]) := by
  obtain ⟨fde, GE, be⟩ := ge_NoRelation (P := P) (w := w) (base := base) T
  have M := cf_of T.kn (c := "NoRelation") (ns := ["places"]) (by simp [fieldsOf])
  refine F.ok scn_NoRelation (fun vs H Q E h => ?_) (fun cdv A outer s H vs Q E hr h => ?_)
  · obtain ⟨a, b, dx, dy, xs, d, gs, rfl, _⟩ := h
    rfl
  · obtain ⟨a, b, dx, dy, xs, d, gs, rfl, ha, hx, hd, hb, k⟩ := h
    refine ⟨_, PSs.nox (pss_one (ps_ret (pe_not (pe_cmpR (op_own (m := "__eq__") rfl (fun _ _ => rfl) hr) (pv 0) (pv 1) (nomark _))))), ?_⟩
    refine ⟨_, rfl, _, rfl, a, b, _, _, dx, dy, _, _, gs, fde, _, rfl, rfl, ha, hb, (T.kn.two _ (by decide) d hd).2, M.eq.at_, M.eq.fn, be, GE, a, b, dx, dy, xs, d, gs, rfl, ha, hx, hd, hb, ?_⟩
    rcases k with ⟨ne, q⟩ | ⟨e, ys, r, hy, eg, hr', q⟩
    · exact .inl ⟨ne, fun H' e => ⟨false, rfl, false, rfl, q H' e⟩⟩
    · exact .inr ⟨e, ys, r, hy, eg, hr', fun H' e => ⟨r, rfl, r, rfl, q H' e⟩⟩
theorem gn_NoRelation (T : Tx K mg) : ∃ fd, FnOk P w K mg base CX0 4 (He.ma K (He.ga K "NoRelation") "__ne__") fd ["self", "other"] (spCmp K not "NoRelation" ["places"]) ∧ Binds K fd ["self", "other"] [] := by
  obtain ⟨fd, F⟩ := T.kn.df 21 rfl
  exact ⟨fd, ne_NoRelation F T, F.bindsN fun _ _ _ _ _ _ us hl => match us, hl with | [_, _], _ => rfl⟩

theorem sck_Model : FnScope ["model"] ["model"] (defScope (topS 12)) := ⟨rfl, rfl, rfl, by decide +kernel, rfl, by decide +kernel, by decide +kernel⟩
theorem key_Model (F : FnP K "model_key" "model_key" (topS 12) f fd) (T : Tx K mg) : FnOk P w K mg base CX0 1 f fd ["model"] (spKey K "Model" ["states", "numbers", "changes", "measured", "asks"]) := by
  have M := cf_of T.kn (c := "Model") (ns := ["states", "numbers", "changes", "measured", "asks"]) (by simp [fieldsOf])
  refine F.ok sck_Model (fun vs H Q E h => ?_) (fun cdv A outer s H vs Q E hr h => ?_)
  · obtain ⟨a, dx, xs, rfl, _⟩ := h
    rfl
  · obtain ⟨a, dx, xs, rfl, ha, hx, k⟩ := h
    obtain ⟨x1, x2, x3, x4, x5, rfl⟩ : ∃ x1 x2 x3 x4 x5, xs = [x1, x2, x3, x4, x5] := by
      match xs, hx with
      | [x1, x2, x3, x4, x5], _ => exact ⟨x1, x2, x3, x4, x5, rfl⟩
    refine ⟨_, PSs.nox (pss_one (ps_ret (pe_tup (pa_cons (pe_fld (pv 0) rfl) (pa_cons (pe_fld (pv 0) rfl) (pa_cons (pe_fld (pv 0) rfl) (pa_cons (pe_fld (pv 0) rfl) (pa_cons (pe_fld (pv 0) rfl) (pa_nil))))))))), ?_⟩
    refine ⟨_, rfl, a, _, dx, _, _, rfl, ha, M.cl, M.na _ (List.mem_of_getElem? (i := 0) rfl), lk_zip (i := 0) (by decide) rfl rfl, ?_⟩
    refine ⟨_, rfl, a, _, dx, _, _, rfl, ha, M.cl, M.na _ (List.mem_of_getElem? (i := 1) rfl), lk_zip (i := 1) (by decide) rfl rfl, ?_⟩
    refine ⟨_, rfl, a, _, dx, _, _, rfl, ha, M.cl, M.na _ (List.mem_of_getElem? (i := 2) rfl), lk_zip (i := 2) (by decide) rfl rfl, ?_⟩
    refine ⟨_, rfl, a, _, dx, _, _, rfl, ha, M.cl, M.na _ (List.mem_of_getElem? (i := 3) rfl), lk_zip (i := 3) (by decide) rfl rfl, ?_⟩
    refine ⟨_, rfl, a, _, dx, _, _, rfl, ha, M.cl, M.na _ (List.mem_of_getElem? (i := 4) rfl), lk_zip (i := 4) (by decide) rfl rfl, ?_⟩
    exact ⟨room_line (by simp), k⟩
theorem gk_Model (T : Tx K mg) : ∃ fd, FnOk P w K mg base CX0 1 (He.ga K "model_key") fd ["model"] (spKey K "Model" ["states", "numbers", "changes", "measured", "asks"]) ∧ PySem.W.keepIn K (.ref (He.ga K "model_key")) = true ∧ Binds K fd ["model"] [] := by
  obtain ⟨fd, F⟩ := T.kn.df 25 rfl
  exact ⟨fd, key_Model F T, F.kp, F.bindsN fun _ _ _ _ _ _ us hl => match us, hl with | [_], _ => rfl⟩

theorem sce_Model : FnScope ["self", "other"] ["self", "other"] (defScope (inClass (topS 11) 1)) := ⟨rfl, rfl, rfl, by decide +kernel, rfl, by decide +kernel, by decide +kernel⟩
theorem eq_Model (F : FnP K "__eq__" "Model.__eq__" (inClass (topS 11) 1) f fd) (T : Tx K mg) : FnOk P w K mg base CX0 3 f fd ["self", "other"] (spCmp K id "Model" ["states", "numbers", "changes", "measured", "asks"]) := by
  obtain ⟨fdk, GK, kp, bk⟩ := gk_Model (P := P) (w := w) (base := base) T
  have M := cf_of T.kn (c := "Model") (ns := ["states", "numbers", "changes", "measured", "asks"]) (by simp [fieldsOf])
  refine F.ok sce_Model (fun vs H Q E h => ?_) (fun cdv A outer s H vs Q E hr h => ?_)
  · obtain ⟨a, b, dx, dy, xs, d, gs, rfl, _⟩ := h
    rfl
  · have hr1 := hr.mono (show 1 ≤ 2 by decide)
    obtain ⟨a, b, dx, dy, xs, d, gs, rfl, ha, hx, hd, hb, k⟩ := h
    refine ⟨_, PSs.nox (pss_one (ps_ret (pe_and (pe_callB call_isi (by rfl) (T.free _ (by decide)) boot_isinstance (pa_cons (pv 1) (pa_cons (pe_glob (v := .ref (He.ga K "Model")) (by rfl) (T.glo _ (by decide)) rfl) pa_nil))) (pe_one (pe_cmpR (op_feq hr) (pe_call GK hr1 rfl (T.glo _ (by decide)) kp bk .nil pass0 (pa_cons (pv 0) pa_nil)) (pe_call GK hr1 rfl (T.glo _ (by decide)) kp bk .nil pass0 (pa_cons (pv 1) pa_nil)) (nomark _)))))), ?_⟩
    refine rd_and T.kn (c := "Model") (by decide) hd rfl hb (fun ne => ?_) (fun e => ?_)
    · rcases k with ⟨_, q⟩ | ⟨e, _⟩
      · exact q H Ext.rfl'
      · exact absurd e ne
    · rcases k with ⟨ne, _⟩ | ⟨_, ys, r, hy, eg, hr', q⟩
      · exact absurd e ne
      subst e eg
      refine ⟨_, rfl, a, dx, xs, rfl, ha, hx, fun p hp => ?_⟩
      have e1 := Ext.upd (o := .tup xs) hp
      refine ⟨_, rfl, b, dy, ys, rfl, e1 _ _ hb, hy, fun u hu => ?_⟩
      have e2 := Ext.upd (o := .tup ys) hu
      have hq : FEqs K xs ys H r := by
        match xs, ys, hx, hy, hr' with
        | [_, _, _, _, _], [_, _, _, _, _], _, _, h => exact h
      exact ⟨r, FEqs.tup hq (e1.trans e2) (e2 _ _ upd_same) upd_same, fun H' e3 => q H' ((e1.trans e2).trans e3)⟩

theorem scn_Model : FnScope ["self", "other"] ["self", "other"] (defScope (inClass (topS 11) 2)) := ⟨rfl, rfl, rfl, by decide +kernel, rfl, by decide +kernel, by decide +kernel⟩
theorem ge_Model (T : Tx K mg) : ∃ fd, FnOk P w K mg base CX0 3 (He.ma K (He.ga K "Model") "__eq__") fd ["self", "other"] (spCmp K id "Model" ["states", "numbers", "changes", "measured", "asks"]) ∧ Binds K fd ["self", "other"] [] := by
  obtain ⟨fd, F⟩ := T.kn.df 23 rfl
  exact ⟨fd, eq_Model F T, F.bindsN fun _ _ _ _ _ _ us hl => match us, hl with | [_, _], _ => rfl⟩
theorem ne_Model (F : FnP K "__ne__" "Model.__ne__" (inClass (topS 11) 2) f fd) (T : Tx K mg) : FnOk P w K mg base CX0 4 f fd ["self", "other"] (spCmp K not "Model" ["states", "numbers", "changes", "measured", "asks"]) := by
  obtain ⟨fde, GE, be⟩ := ge_Model (P := P) (w := w) (base := base) T
  have M := cf_of T.kn (c := "Model") (ns := ["states", "numbers", "changes", "measured", "asks"]) (by simp [fieldsOf])
  refine F.ok scn_Model (fun vs H Q E h => ?_) (fun cdv A outer s H vs Q E hr h => ?_)
  · obtain ⟨a, b, dx, dy, xs, d, gs, rfl, _⟩ := h
    rfl
  · obtain ⟨a, b, dx, dy, xs, d, gs, rfl, ha, hx, hd, hb, k⟩ := h
    refine ⟨_, PSs.nox (pss_one (ps_ret (pe_not (pe_cmpR (op_own (m := "__eq__") rfl (fun _ _ => rfl) hr) (pv 0) (pv 1) (nomark _))))), ?_⟩
    refine ⟨_, rfl, _, rfl, a, b, _, _, dx, dy, _, _, gs, fde, _, rfl, rfl, ha, hb, (T.kn.two _ (by decide) d hd).2, M.eq.at_, M.eq.fn, be, GE, a, b, dx, dy, xs, d, gs, rfl, ha, hx, hd, hb, ?_⟩
    rcases k with ⟨ne, q⟩ | ⟨e, ys, r, hy, eg, hr', q⟩
    · exact .inl ⟨ne, fun H' e => ⟨false, rfl, false, rfl, q H' e⟩⟩
    · exact .inr ⟨e, ys, r, hy, eg, hr', fun H' e => ⟨r, rfl, r, rfl, q H' e⟩⟩
theorem gn_Model (T : Tx K mg) : ∃ fd, FnOk P w K mg base CX0 4 (He.ma K (He.ga K "Model") "__ne__") fd ["self", "other"] (spCmp K not "Model" ["states", "numbers", "changes", "measured", "asks"]) ∧ Binds K fd ["self", "other"] [] := by
  obtain ⟨fd, F⟩ := T.kn.df 24 rfl
  exact ⟨fd, ne_Model F T, F.bindsN fun _ _ _ _ _ _ us hl => match us, hl with | [_, _], _ => rfl⟩

theorem sck_Paper : FnScope ["paper"] ["paper"] (defScope (topS 15)) := ⟨rfl, rfl, rfl, by decide +kernel, rfl, by decide +kernel, by decide +kernel⟩
theorem key_Paper (F : FnP K "paper_key" "paper_key" (topS 15) f fd) (T : Tx K mg) : FnOk P w K mg base CX0 1 f fd ["paper"] (spKey K "Paper" ["places", "rows", "closing", "place", "asked"]) := by
  have M := cf_of T.kn (c := "Paper") (ns := ["places", "rows", "closing", "place", "asked"]) (by simp [fieldsOf])
  refine F.ok sck_Paper (fun vs H Q E h => ?_) (fun cdv A outer s H vs Q E hr h => ?_)
  · obtain ⟨a, dx, xs, rfl, _⟩ := h
    rfl
  · obtain ⟨a, dx, xs, rfl, ha, hx, k⟩ := h
    obtain ⟨x1, x2, x3, x4, x5, rfl⟩ : ∃ x1 x2 x3 x4 x5, xs = [x1, x2, x3, x4, x5] := by
      match xs, hx with
      | [x1, x2, x3, x4, x5], _ => exact ⟨x1, x2, x3, x4, x5, rfl⟩
    refine ⟨_, PSs.nox (pss_one (ps_ret (pe_tup (pa_cons (pe_fld (pv 0) rfl) (pa_cons (pe_fld (pv 0) rfl) (pa_cons (pe_fld (pv 0) rfl) (pa_cons (pe_fld (pv 0) rfl) (pa_cons (pe_fld (pv 0) rfl) (pa_nil))))))))), ?_⟩
    refine ⟨_, rfl, a, _, dx, _, _, rfl, ha, M.cl, M.na _ (List.mem_of_getElem? (i := 0) rfl), lk_zip (i := 0) (by decide) rfl rfl, ?_⟩
    refine ⟨_, rfl, a, _, dx, _, _, rfl, ha, M.cl, M.na _ (List.mem_of_getElem? (i := 1) rfl), lk_zip (i := 1) (by decide) rfl rfl, ?_⟩
    refine ⟨_, rfl, a, _, dx, _, _, rfl, ha, M.cl, M.na _ (List.mem_of_getElem? (i := 2) rfl), lk_zip (i := 2) (by decide) rfl rfl, ?_⟩
    refine ⟨_, rfl, a, _, dx, _, _, rfl, ha, M.cl, M.na _ (List.mem_of_getElem? (i := 3) rfl), lk_zip (i := 3) (by decide) rfl rfl, ?_⟩
    refine ⟨_, rfl, a, _, dx, _, _, rfl, ha, M.cl, M.na _ (List.mem_of_getElem? (i := 4) rfl), lk_zip (i := 4) (by decide) rfl rfl, ?_⟩
    exact ⟨room_line (by simp), k⟩
theorem gk_Paper (T : Tx K mg) : ∃ fd, FnOk P w K mg base CX0 1 (He.ga K "paper_key") fd ["paper"] (spKey K "Paper" ["places", "rows", "closing", "place", "asked"]) ∧ PySem.W.keepIn K (.ref (He.ga K "paper_key")) = true ∧ Binds K fd ["paper"] [] := by
  obtain ⟨fd, F⟩ := T.kn.df 29 rfl
  exact ⟨fd, key_Paper F T, F.kp, F.bindsN fun _ _ _ _ _ _ us hl => match us, hl with | [_], _ => rfl⟩

theorem sce_Paper : FnScope ["self", "other"] ["self", "other"] (defScope (inClass (topS 14) 1)) := ⟨rfl, rfl, rfl, by decide +kernel, rfl, by decide +kernel, by decide +kernel⟩
theorem eq_Paper (F : FnP K "__eq__" "Paper.__eq__" (inClass (topS 14) 1) f fd) (T : Tx K mg) : FnOk P w K mg base CX0 3 f fd ["self", "other"] (spCmp K id "Paper" ["places", "rows", "closing", "place", "asked"]) := by
  obtain ⟨fdk, GK, kp, bk⟩ := gk_Paper (P := P) (w := w) (base := base) T
  have M := cf_of T.kn (c := "Paper") (ns := ["places", "rows", "closing", "place", "asked"]) (by simp [fieldsOf])
  refine F.ok sce_Paper (fun vs H Q E h => ?_) (fun cdv A outer s H vs Q E hr h => ?_)
  · obtain ⟨a, b, dx, dy, xs, d, gs, rfl, _⟩ := h
    rfl
  · have hr1 := hr.mono (show 1 ≤ 2 by decide)
    obtain ⟨a, b, dx, dy, xs, d, gs, rfl, ha, hx, hd, hb, k⟩ := h
    refine ⟨_, PSs.nox (pss_one (ps_ret (pe_and (pe_callB call_isi (by rfl) (T.free _ (by decide)) boot_isinstance (pa_cons (pv 1) (pa_cons (pe_glob (v := .ref (He.ga K "Paper")) (by rfl) (T.glo _ (by decide)) rfl) pa_nil))) (pe_one (pe_cmpR (op_feq hr) (pe_call GK hr1 rfl (T.glo _ (by decide)) kp bk .nil pass0 (pa_cons (pv 0) pa_nil)) (pe_call GK hr1 rfl (T.glo _ (by decide)) kp bk .nil pass0 (pa_cons (pv 1) pa_nil)) (nomark _)))))), ?_⟩
    refine rd_and T.kn (c := "Paper") (by decide) hd rfl hb (fun ne => ?_) (fun e => ?_)
    · rcases k with ⟨_, q⟩ | ⟨e, _⟩
      · exact q H Ext.rfl'
      · exact absurd e ne
    · rcases k with ⟨ne, _⟩ | ⟨_, ys, r, hy, eg, hr', q⟩
      · exact absurd e ne
      subst e eg
      refine ⟨_, rfl, a, dx, xs, rfl, ha, hx, fun p hp => ?_⟩
      have e1 := Ext.upd (o := .tup xs) hp
      refine ⟨_, rfl, b, dy, ys, rfl, e1 _ _ hb, hy, fun u hu => ?_⟩
      have e2 := Ext.upd (o := .tup ys) hu
      have hq : FEqs K xs ys H r := by
        match xs, ys, hx, hy, hr' with
        | [_, _, _, _, _], [_, _, _, _, _], _, _, h => exact h
      exact ⟨r, FEqs.tup hq (e1.trans e2) (e2 _ _ upd_same) upd_same, fun H' e3 => q H' ((e1.trans e2).trans e3)⟩

theorem scn_Paper : FnScope ["self", "other"] ["self", "other"] (defScope (inClass (topS 14) 2)) := ⟨rfl, rfl, rfl, by decide +kernel, rfl, by decide +kernel, by decide +kernel⟩
theorem ge_Paper (T : Tx K mg) : ∃ fd, FnOk P w K mg base CX0 3 (He.ma K (He.ga K "Paper") "__eq__") fd ["self", "other"] (spCmp K id "Paper" ["places", "rows", "closing", "place", "asked"]) ∧ Binds K fd ["self", "other"] [] := by
  obtain ⟨fd, F⟩ := T.kn.df 27 rfl
  exact ⟨fd, eq_Paper F T, F.bindsN fun _ _ _ _ _ _ us hl => match us, hl with | [_, _], _ => rfl⟩
theorem ne_Paper (F : FnP K "__ne__" "Paper.__ne__" (inClass (topS 14) 2) f fd) (T : Tx K mg) : FnOk P w K mg base CX0 4 f fd ["self", "other"] (spCmp K not "Paper" ["places", "rows", "closing", "place", "asked"]) := by
  obtain ⟨fde, GE, be⟩ := ge_Paper (P := P) (w := w) (base := base) T
  have M := cf_of T.kn (c := "Paper") (ns := ["places", "rows", "closing", "place", "asked"]) (by simp [fieldsOf])
  refine F.ok scn_Paper (fun vs H Q E h => ?_) (fun cdv A outer s H vs Q E hr h => ?_)
  · obtain ⟨a, b, dx, dy, xs, d, gs, rfl, _⟩ := h
    rfl
  · obtain ⟨a, b, dx, dy, xs, d, gs, rfl, ha, hx, hd, hb, k⟩ := h
    refine ⟨_, PSs.nox (pss_one (ps_ret (pe_not (pe_cmpR (op_own (m := "__eq__") rfl (fun _ _ => rfl) hr) (pv 0) (pv 1) (nomark _))))), ?_⟩
    refine ⟨_, rfl, _, rfl, a, b, _, _, dx, dy, _, _, gs, fde, _, rfl, rfl, ha, hb, (T.kn.two _ (by decide) d hd).2, M.eq.at_, M.eq.fn, be, GE, a, b, dx, dy, xs, d, gs, rfl, ha, hx, hd, hb, ?_⟩
    rcases k with ⟨ne, q⟩ | ⟨e, ys, r, hy, eg, hr', q⟩
    · exact .inl ⟨ne, fun H' e => ⟨false, rfl, false, rfl, q H' e⟩⟩
    · exact .inr ⟨e, ys, r, hy, eg, hr', fun H' e => ⟨r, rfl, r, rfl, q H' e⟩⟩
theorem gn_Paper (T : Tx K mg) : ∃ fd, FnOk P w K mg base CX0 4 (He.ma K (He.ga K "Paper") "__ne__") fd ["self", "other"] (spCmp K not "Paper" ["places", "rows", "closing", "place", "asked"]) ∧ Binds K fd ["self", "other"] [] := by
  obtain ⟨fd, F⟩ := T.kn.df 28 rfl
  exact ⟨fd, ne_Paper F T, F.bindsN fun _ _ _ _ _ _ us hl => match us, hl with | [_, _], _ => rfl⟩

end
end Sn

namespace Sn
open PySem PySem.Spec PyProof.Rows L2
/-! ## the pen -/
def PenKV (l : Addr) (i d c f : Int) : List (Key × V) := [(.inr "cells", .ref l), (.inr "at", .int i), (.inr "digits", .int d), (.inr "count", .int c), (.inr "fold", .int f)]
theorem pen_cells (l : Addr) (i d c f : Int) : valV (PenKV l i d c f) (.inr "cells") = some (.ref l) := rfl
theorem pen_at (l : Addr) (i d c f : Int) : valV (PenKV l i d c f) (.inr "at") = some (.int i) := rfl
theorem pen_digits (l : Addr) (i d c f : Int) : valV (PenKV l i d c f) (.inr "digits") = some (.int d) := rfl
theorem pen_count (l : Addr) (i d c f : Int) : valV (PenKV l i d c f) (.inr "count") = some (.int c) := rfl
theorem pen_fold (l : Addr) (i d c f : Int) : valV (PenKV l i d c f) (.inr "fold") = some (.int f) := rfl
theorem put_at (l : Addr) (i d c f x : Int) : putK (PenKV l i d c f) (.inr "at") (.int x) = PenKV l x d c f := rfl
theorem put_digits (l : Addr) (i d c f x : Int) : putK (PenKV l i d c f) (.inr "digits") (.int x) = PenKV l i x c f := rfl
theorem put_count (l : Addr) (i d c f x : Int) : putK (PenKV l i d c f) (.inr "count") (.int x) = PenKV l i d x f := rfl
theorem put_fold (l : Addr) (i d c f x : Int) : putK (PenKV l i d c f) (.inr "fold") (.int x) = PenKV l i d c x := rfl
theorem pen_made (l : Addr) (f : Int) : mergeK [] (PenKV l 0 0 0 f) = PenKV l 0 0 0 f := rfl
/-- the pen as it stands -/
structure PenS (H : Hp) (p l : Addr) (cs : List Int) (i d c f : Int) : Prop where
  at_ : H p = some (.dK (PenKV l i d c f))
  cells : H l = some (.lst (cs.map V.int))
  few : cs.length ≤ 63
  i0 : 0 ≤ i
  i1 : i ≤ cs.length
  d0 : 0 ≤ d
  f0 : 0 ≤ f
  f1 : f < 2147483069
def PenAt (H : Hp) (p l : Addr) (c : Int) : Prop := ∃ cs i d f, PenS H p l cs i d c f
section
variable {H : Hp} {p l : Addr} {cs : List Int} {i d c f : Int}
theorem PenS.nlp (h : PenS H p l cs i d c f) : l ≠ p := fun z => by
  have := h.cells
  rw [z, h.at_] at this
  cases this
theorem PenS.g {k : Key} {v : V} (h : PenS H p l cs i d c f) (e : valV (PenKV l i d c f) k = some v) : DGet H p (kV k) (some v) := e ▸ DGet.k h.at_
theorem PenS.put {k : Key} {v : V} {i' d' c' f' : Int} (h : PenS H p l cs i d c f) (e : putK (PenKV l i d c f) k v = PenKV l i' d' c' f') : DPut H p (kV k) v (upd H p (.dK (PenKV l i' d' c' f'))) :=
  e ▸ DPut.k h.at_ (by show 5 < sizeLine; rw [sizeLine_eq]; decide)
theorem PenS.new {i' d' c' f' : Int} (h : PenS H p l cs i d c f) (a : 0 ≤ i') (b : i' ≤ cs.length) (e : 0 ≤ d') (g : 0 ≤ f') (k : f' < 2147483069) : PenS (upd H p (.dK (PenKV l i' d' c' f'))) p l cs i' d' c' f' :=
  ⟨upd_same, by rw [upd_ne h.nlp]; exact h.cells, h.few, a, b, e, g, k⟩
end
theorem off_upd {H : Hp} {p : Addr} {o : HO} : Off p H (upd H p o) := fun b u hb e => by rw [upd_ne hb]; exact e
theorem Off.trans {p : Addr} {H H1 H2 : Hp} (a : Off p H H1) (b : Off p H1 H2) : Off p H H2 := fun c o hc e => b c o hc (a c o hc e)
theorem Off.rfl' {p : Addr} {H : Hp} : Off p H H := fun _ _ _ e => e
def spPen (K : PySem.W.Frag) : Sp := fun vs H Q _ => ∃ (a : Addr) (ns : List Int), vs = [.ref a] ∧ SqL K H a (ns.map V.int) ∧ ns.length ≤ 63 ∧ ∀ p l H', Ext H H' → H p = none → H l = none → PenAt H' p l 0 → Q (.ref p) H'
def spDraw : Sp := fun vs H Q _ => ∃ (p l : Addr) (m c : Int), vs = [.ref p, .int m] ∧ PenAt H p l c ∧ 0 ≤ c ∧ c < 100000 ∧ 0 < m ∧ m < 1000000 ∧
  ∀ (d : Int) (H' : Hp), 0 ≤ d → d < m → Off p H H' → PenAt H' p l (c + 1) → Q (.int d) H'
section
variable {P : Program} {w : World} {K : PySem.W.Frag} {mg : Str → Option Value} {base : Heap} {f : Addr} {fd : FuncData}
theorem scPen : FnScope ["script", "fold", "cell"] ["script"] (defScope (topS 17)) := ⟨rfl, rfl, rfl, by decide +kernel, rfl, by decide +kernel, by decide +kernel⟩
theorem ok_pen (F : FnP K "_law_pen" "_law_pen" (topS 17) f fd) (T : Tx K mg) : FnOk P w K mg base CX0 1 f fd ["script"] (spPen K) := by
  refine F.ok scPen (fun vs H Q E h => ?_) (fun cdv A outer s H vs Q E hr h => ?_)
  · obtain ⟨a, ns, rfl, _⟩ := h
    rfl
  · obtain ⟨a, ns, rfl, hS, hlen, k⟩ := h
    refine ⟨_, PSs.nox (pss_cons (ps_set (i := 1) scPen.nd rfl (Or.inl rfl) pe_int)
      (pss_cons (ps_for PassesOwn.never rfl (pi_list (pv 0)) (pg_name (i := 2) scPen.nd rfl (Or.inl rfl))
        (pss_one (ps_set (i := 1) scPen.nd rfl (Or.inl rfl) (pe_op op_mod (pe_callTy call_int1 (by rfl) (T.free _ (by decide)) boot_int (pa_cons (pe_op op_add (pe_op op_mul (pv 1) pe_int) (pv 2)) pa_nil)) pe_int))))
      (pss_one (ps_ret (pe_disp (pps_cons pe_str (pe_callTy call_list_of (by rfl) (T.free _ (by decide)) boot_list (pa_cons (pv 0) pa_nil)) (pps_cons pe_str pe_int (pps_cons pe_str pe_int (pps_cons pe_str pe_int (pps_cons pe_str (pv 1) pps_nil)))))
        (by rfl) (by rfl) (fun z => by cases z) (by decide)))))), ?_⟩
    refine ⟨_, rfl, a, rfl, ⟨_, hS⟩, for_list (K := K) (a := a) (xs := ns.map V.int) (fun i σ H' => ∃ (z : Int) (v : Option V), σ = [some (.ref a), some (.int z), v] ∧ 0 ≤ z ∧ z < 999999271 ∧ H' = H)
      ⟨0, none, rfl, by decide, by decide, rfl⟩ (fun i σ H' _ ⟨_, _, _, _, _, e⟩ => e ▸ hS) ?_ ?_⟩
    · rintro i y σ H' hi ⟨z, v, rfl, h0, h1, rfl⟩
      obtain ⟨u, rfl⟩ : ∃ u, y = V.int u := by
        rw [List.getElem?_map] at hi
        cases e : ns[i]? with
        | none => rw [e] at hi; cases hi
        | some u => rw [e] at hi; exact ⟨u, (Option.some.inj hi).symm⟩
      refine ⟨_, rfl, _, _, rfl, rfl, .inl ⟨by omega, by omega⟩, _, rfl, _, _, rfl, rfl, .inl ⟨_, rfl, _, _, rfl, rfl, by show (0 : Int) < 999999271; decide, ?_⟩⟩
      refine ⟨_, _, rfl, Int.emod_nonneg _ (by decide), Int.emod_lt_of_pos _ (by decide), rfl⟩
    · rintro σ H' ⟨z, v, rfl, h0, h1, rfl⟩
      intro p hp
      have e1 := Ext.upd (o := .dK []) hp
      refine ⟨_, rfl, a, ns.map V.int, rfl, .inl (hS.ext e1), fun l hl => ?_⟩
      have npl : p ≠ l := fun q => by rw [← q, upd_same] at hl; cases hl
      have e2 := Ext.upd (o := .lst (ns.map V.int)) hl
      refine ⟨_, rfl, ?_⟩
      refine ⟨by rw [upd_ne npl, upd_same], PenKV l 0 0 0 z, rfl, by show 5 ≤ 15; decide, ?_⟩
      rw [pen_made]
      refine k p l _ (fun b o e => ?_) hp (by rw [upd_ne npl.symm] at hl; exact hl) ⟨ns, 0, 0, z, upd_same, by rw [upd_ne npl.symm, upd_same], hlen, by decide, by omega, by decide, h0, by omega⟩
      rw [upd_ne (ne_of_none e hp)]
      exact e2 _ _ (e1 _ _ e)
theorem scDraw : FnScope ["pen", "many", "cell", "digit", "blend"] ["pen", "many"] (defScope (topS 18)) := ⟨rfl, rfl, rfl, by decide +kernel, rfl, by decide +kernel, by decide +kernel⟩
theorem ok_draw (F : FnP K "_law_draw" "_law_draw" (topS 18) f fd) (T : Tx K mg) : FnOk P w K mg base CX0 1 f fd ["pen", "many"] spDraw := by
  refine F.ok scDraw (fun vs H Q E h => ?_) (fun cdv A outer s H vs Q E hr h => ?_)
  · obtain ⟨p, l, m, c, rfl, _⟩ := h
    rfl
  · obtain ⟨p, l, m, c, rfl, ⟨cs, i, d, z, R⟩, c0, c1, m0, m1, k⟩ := h
    have hu := hu_of hr
    have nd := scDraw.nd
    have fI := T.free "int" (by decide)
    have fL := T.free "len" (by decide)
    refine ⟨_, PSs.nox (pss_cons (ps_dput hu (pv 0) pe_str (pe_op op_add (pe_dget hu (pv 0) pe_str (fun _ _ => rfl)) pe_int) rfl)
      (pss_cons (ps_if (PW.pt (pw_and (pt_cmpR op_eq (pe_dget hu (pv 0) pe_str (fun _ _ => rfl)) pe_int (nomark _)) (pw_and1 (pt_cmpR op_lt (pe_dget hu (pv 0) pe_str (fun _ _ => rfl)) (pe_callB call_len_seq (by rfl) fL boot_len (pa_cons (pe_dget hu (pv 0) pe_str (fun _ _ => rfl)) pa_nil)) (nomark _)))))
          (pss_cons (ps_set (i := 2) nd rfl (Or.inl rfl) (pe_ix ix_list (pe_dget hu (pv 0) pe_str (fun _ _ => rfl)) (pe_dget hu (pv 0) pe_str (fun _ _ => rfl)) (fun _ _ => rfl)))
          (pss_cons (ps_dput hu (pv 0) pe_str (pe_op op_add (pe_dget hu (pv 0) pe_str (fun _ _ => rfl)) pe_int) rfl)
          (pss_one (ps_if (pt_cmpR op_ge (pv 2) (pe_op op_pow pe_int pe_int) (nomark _))
            (pss_one (ps_dput hu (pv 0) pe_str (pe_op op_sub (pv 2) (pe_op op_pow pe_int pe_int)) rfl))
            (pss_one (ps_dput hu (pv 0) pe_str (pe_op op_mod (pe_callTy call_int1 (by rfl) fI boot_int (pa_cons (pe_op op_add (pe_op op_mul (pe_dget hu (pv 0) pe_str (fun _ _ => rfl)) pe_int) (pv 2)) pa_nil)) pe_int) rfl))))))
          pss_nil)
      (pss_cons (ps_if (pt_cmpR op_gt (pe_dget hu (pv 0) pe_str (fun _ _ => rfl)) pe_int (nomark _))
          (pss_cons (ps_set (i := 3) nd rfl (Or.inl rfl) (pe_op op_mod (pe_callTy call_int1 (by rfl) fI boot_int (pa_cons (pe_dget hu (pv 0) pe_str (fun _ _ => rfl)) pa_nil)) (pv 1)))
          (pss_cons (ps_dput hu (pv 0) pe_str (pe_op op_fdivN (pe_dget hu (pv 0) pe_str (fun _ _ => rfl)) (pv 1)) rfl)
          (pss_one (ps_ret (pv 3)))))
          pss_nil)
      (pss_cons (ps_set (i := 4) nd rfl (Or.inl rfl) (pe_op op_add (pe_op op_add (pe_dget hu (pv 0) pe_str (fun _ _ => rfl)) (pe_op op_mul (pe_dget hu (pv 0) pe_str (fun _ _ => rfl)) pe_int)) pe_int))
      (pss_one (ps_ret (pe_op op_mod (pe_op op_fdiv (pe_callTy call_int1 (by rfl) fI boot_int (pa_cons (pe_op op_mod (pe_op op_pow (pv 4) pe_int) pe_int) pa_nil)) pe_int) (pv 1)))))))), ?_⟩
    -- what stands behind the draw's if: from any pen
    have rest : ∀ (H1 : Hp) (i d z : Int) (v2 : Option V), Off p H H1 → PenS H1 p l cs i d (c + 1) z →
        (tSeq (tIfS (tTest (tOp (rI0 fun i j => .bl (decide (j < i))) (tDGet (tVar 0) (tC (.str "digits"))) (tC (.int 0)))) (tSeq (tAsg (tOp (rI (fun _ j => 0 < j) fun i j => .int (i % j)) (tCB (fun xs H Q => (∃ i, xs = [.int i] ∧ Q (.int i) H) ∨ ∃ k, xs = [.bl k] ∧ Q (.int (if k then 1 else 0)) H) (tCons (tDGet (tVar 0) (tC (.str "digits"))) tNil)) (tVar 1)) (gName 3)) (tSeq (sDPut (tVar 0) (tC (.str "digits")) (tOp (rI CDivN fun i j => .int (i.fdiv j)) (tDGet (tVar 0) (tC (.str "digits"))) (tVar 1))) (tRet (tVar 3)))) tNext)
          (tSeq (tAsg (tOp (rI0 fun i j => .int (i + j)) (tOp (rI0 fun i j => .int (i + j)) (tDGet (tVar 0) (tC (.str "fold"))) (tOp (rI CMul fun i j => .int (i * j)) (tDGet (tVar 0) (tC (.str "count"))) (tC (.int 5011)))) (tC (.int 163))) (gName 4))
          (tRet (tOp (rI (fun _ j => 0 < j) fun i j => .int (i % j)) (tOp (rI CDiv fun i j => .int (i / j)) (tCB (fun xs H Q => (∃ i, xs = [.int i] ∧ Q (.int i) H) ∨ ∃ k, xs = [.bl k] ∧ Q (.int (if k then 1 else 0)) H) (tCons (tOp (rI (fun _ j => 0 < j) fun i j => .int (i % j)) (tOp (rI CPow fun i j => .int (i ^ j.toNat)) (tVar 4) (tC (.int 63))) (tC (.int 2305843009213693951))) tNil)) (tC (.int 64))) (tVar 1)))))
          { nx := fun _ H' => Q .non H', rt := Q } [some (.ref p), some (.int m), v2, none, none] H1 := by
      intro H1 i d z v2 o1 R1
      refine ⟨_, rfl, p, _, rfl, R1.g (pen_digits ..), _, _, rfl, rfl, _, rfl, ?_⟩
      refine ite2 (fun hd => ?_) (fun hd => ?_)
      · have hd' : 0 < d := of_decide_eq_true hd
        refine ⟨_, rfl, p, _, rfl, R1.g (pen_digits ..), .inl ⟨_, rfl, _, rfl, _, _, rfl, rfl, m0, ?_⟩⟩
        refine ⟨_, rfl, p, _, rfl, R1.g (pen_digits ..), _, rfl, _, _, rfl, rfl, ⟨by omega, by omega⟩, _, rfl, p, _, rfl, R1.put (put_digits ..), _, rfl, ?_⟩
        have hq : 0 ≤ d.fdiv m := by
          rw [Int.fdiv_eq_ediv_of_nonneg _ (by omega)]
          exact Int.ediv_nonneg (by omega) (by omega)
        exact k _ _ (Int.emod_nonneg _ (by omega)) (Int.emod_lt_of_pos _ m0) (o1.trans off_upd) ⟨cs, i, _, z, R1.new R1.i0 R1.i1 hq R1.f0 R1.f1⟩
      · refine ⟨_, rfl, p, _, rfl, R1.g (pen_fold ..), _, rfl, p, _, rfl, R1.g (pen_count ..), _, _, rfl, rfl, .inl ⟨by omega, by omega⟩, _, _, rfl, rfl, _, _, rfl, rfl, ?_⟩
        have f0 := R1.f0
        have f1 := R1.f1
        refine ⟨_, rfl, _, _, rfl, rfl, ⟨by decide, by decide, by omega⟩, _, _, rfl, rfl, (by show (0 : Int) < 2305843009213693951; decide), .inl ⟨_, rfl, _, _, rfl, rfl, ⟨by decide, by decide⟩, _, rfl, _, _, rfl, rfl, m0, ?_⟩⟩
        exact k _ _ (Int.emod_nonneg _ (by omega)) (Int.emod_lt_of_pos _ m0) o1 ⟨cs, i, d, z, R1⟩
    refine ⟨_, rfl, p, _, rfl, R.g (pen_count ..), _, _, rfl, rfl, _, rfl, p, _, rfl, R.put (put_count ..), ?_⟩
    have R1 := R.new (i' := i) (d' := d) (c' := c + 1) (f' := z) R.i0 R.i1 R.d0 R.f0 R.f1
    have o1 : Off p H (upd H p (.dK (PenKV l i d (c + 1) z))) := off_upd
    refine ⟨_, rfl, p, _, rfl, R1.g (pen_digits ..), rfl, _, rfl, ?_⟩
    refine ite2 (fun hd => ?_) (fun hd => ?_)
    · refine ⟨_, rfl, p, _, rfl, R1.g (pen_at ..), _, rfl, p, _, rfl, R1.g (pen_cells ..), l, _, rfl, .inl (SqL.of R1.cells), _, _, rfl, rfl, _, rfl, ?_⟩
      refine ite2 (fun hi => ?_) (fun hi => ?_)
      · have hi' : i < ((cs.map V.int).length : Int) := of_decide_eq_true hi
        rw [List.length_map] at hi'
        have i0 := R1.i0
        obtain ⟨j, rfl⟩ : ∃ j : Nat, i = (j : Int) := ⟨i.toNat, by omega⟩
        have hj : j < cs.length := by omega
        refine ⟨_, rfl, p, _, rfl, R1.g (pen_cells ..), _, rfl, p, _, rfl, R1.g (pen_at ..), l, _, _, V.int cs[j], rfl, rfl, SqL.of R1.cells, atI_nat (by simp [hj]), ?_⟩
        refine ⟨_, rfl, p, _, rfl, R1.g (pen_at ..), _, _, rfl, rfl, _, rfl, p, _, rfl, R1.put (put_at ..), ?_⟩
        have R2 := R1.new (i' := (j : Int) + 1) (d' := d) (c' := c + 1) (f' := z) (by omega) (by omega) R.d0 R.f0 R.f1
        refine ⟨_, rfl, _, _, rfl, rfl, ⟨by decide, by decide, by decide⟩, _, _, rfl, rfl, _, rfl, ?_⟩
        refine ite2 (fun hc => ?_) (fun hc => ?_)
        · have hc' : (10 : Int) ^ (18 : Int).toNat ≤ cs[j] := of_decide_eq_true hc
          refine ⟨_, rfl, _, _, rfl, rfl, ⟨by decide, by decide, by decide⟩, _, _, rfl, rfl, _, rfl, p, _, rfl, R2.put (put_digits ..), ?_⟩
          exact rest _ _ _ _ _ ((o1.trans off_upd).trans off_upd) (R2.new (by omega) (by omega) (by omega) R.f0 R.f1)
        · refine ⟨_, rfl, p, _, rfl, R2.g (pen_fold ..), _, _, rfl, rfl, .inr ⟨by omega, by omega⟩, _, rfl, _, _, rfl, rfl, .inl ⟨_, rfl, _, _, rfl, rfl, (by show (0 : Int) < 2147483069; decide), _, rfl, p, _, rfl, R2.put (put_fold ..), ?_⟩⟩
          exact rest _ _ _ _ _ ((o1.trans off_upd).trans off_upd) (R2.new (by omega) (by omega) R.d0 (Int.emod_nonneg _ (by decide)) (Int.emod_lt_of_pos _ (by decide)))
      · exact rest _ _ _ _ _ o1 R1
    · exact rest _ _ _ _ _ o1 R1
end
end Sn

namespace Sn
open PySem PySem.Spec PyProof.Rows L2
/-! ## a drawn value -/
def cp : PyData → PyData
  | .list ds => .tuple ds
  | d => d
def okE (d : PyData) : Bool := d.showable && (decide (d.depth ≤ 6) && decide (d.shown.length ≤ 100))
def lenD : PyData → Nat
  | .list ds => ds.length
  | _ => 0
def okD (d : PyData) : Bool := (okE d && decide (lenD d ≤ 100)) && okE (cp d)
/-- the heap without l -/
def hid (l : Addr) (H : Hp) : Hp := fun b => if b = l then none else H b
theorem hid_ne {l b : Addr} {H : Hp} (h : b ≠ l) : hid l H b = H b := if_neg h
theorem hid_some {l b : Addr} {H : Hp} {o : HO} (h : hid l H b = some o) : b ≠ l ∧ H b = some o := by
  by_cases e : b = l
  · rw [hid, if_pos e] at h
    cases h
  · rw [hid_ne e] at h
    exact ⟨e, h⟩
theorem hid_le {l : Addr} {H : Hp} : Ext (hid l H) H := fun _ _ h => (hid_some h).2
theorem hid_ext {l : Addr} {H H' : Hp} (e : Ext H H') : Ext (hid l H) (hid l H') := fun b o h => by
  obtain ⟨n, h⟩ := hid_some h
  rw [hid_ne n]
  exact e b o h
theorem hid_upd {l : Addr} {H : Hp} {o : HO} : hid l (upd H l o) = hid l H := funext fun b => by
  by_cases e : b = l
  · rw [hid, hid, if_pos e, if_pos e]
  · rw [hid_ne e, hid_ne e, upd_ne e]
theorem hid_in {l : Addr} {H H' : Hp} (e : Ext H H') (h : H l = none) : Ext H (hid l H') := fun b o hb => by
  rw [hid_ne (ne_of_none hb h)]
  exact e b o hb
/-- of hidden places: what is no new place of H' -/
def Old (H : Hp) (z : Addr) : Prop := ∃ o, H z = some o
theorem Old.ext {H H' : Hp} {z : Addr} (h : Old H z) (e : Ext H H') : Old H' z := let ⟨o, h⟩ := h; ⟨o, e _ _ h⟩
theorem Old.ne {H : Hp} {z p : Addr} (h : Old H z) (hp : H p = none) : p ≠ z := fun e => by
  obtain ⟨o, h⟩ := h
  rw [← e, hp] at h
  cases h
def ds0 : List PyData := [.tuple [.int 1, .int 2], .list [.int 1, .list [.int 2]], .list [], .tuple [], .str "web", .int 5, .none, .bool true, .tuple [.tuple [.int 0, .int 1]],
  .list [.list [.int 0], .list [.int 1]], .dict [(.str "a", .int 1)], .int (-3), .str "", .list [.none]]
theorem ok0 : ds0.all okD = true := by decide +kernel
theorem ok3F : ∀ i j k : Fin 9, okD (.list [.int (i.val : Nat), .int (j.val : Nat), .int (k.val : Nat)]) = true := by decide +kernel
theorem ok3 {i j k : Int} (hi : 0 ≤ i ∧ i < 9) (hj : 0 ≤ j ∧ j < 9) (hk : 0 ≤ k ∧ k < 9) : okD (.list [.int i, .int j, .int k]) = true := by
  have h := ok3F ⟨i.toNat, by omega⟩ ⟨j.toNat, by omega⟩ ⟨k.toNat, by omega⟩
  have e1 : ((i.toNat : Nat) : Int) = i := by omega
  have e2 : ((j.toNat : Nat) : Int) = j := by omega
  have e3 : ((k.toNat : Nat) : Int) = k := by omega
  simpa only [e1, e2, e3] using h
def GE (te : TE) (d : PyData) : Prop := ∀ σ H Q, (∀ v H', Ext H H' → (∀ z, Old H z → Rp (hid z H') v d) → Q v H') → te σ H Q
def GL (ta : TA) (ds : List PyData) : Prop := ∀ σ H Q, (∀ vs H', Ext H H' → vs.length = ds.length → (∀ z, Old H z → Rps (hid z H') vs ds) → Q vs H') → ta σ H Q
theorem Rps.len {H : Hp} : ∀ {vs ds}, Rps H vs ds → vs.length = ds.length
  | _, _, .nil => rfl
  | _, _, .cons _ t => by simp [t.len]
theorem Rps.get {H : Hp} : ∀ {vs ds} {i : Nat} {v : V}, Rps H vs ds → vs[i]? = some v → ∃ d, ds[i]? = some d ∧ Rp H v d
  | _, _, _, _, .nil, h => by simp at h
  | _, _, 0, v, .cons r _, h => by
    simp at h
    subst h
    exact ⟨_, rfl, r⟩
  | _, _, i + 1, v, .cons _ t, h => by
    obtain ⟨d, h1, h2⟩ := t.get (i := i) (v := v) (by simpa using h)
    exact ⟨d, by simpa using h1, h2⟩
theorem Rps.snoc {H : Hp} {v : V} {d : PyData} (h : Rp H v d) : ∀ {vs ds}, Rps H vs ds → Rps H (vs ++ [v]) (ds ++ [d])
  | _, _, .nil => .cons h .nil
  | _, _, .cons r t => .cons r (Rps.snoc h t)
theorem ge_c {v : V} {d : PyData} (h : ∀ H, Rp H v d) : GE (tC v) d := fun σ H Q k => k v H Ext.rfl' fun _ _ => h _
theorem gl_nil : GL tNil [] := fun σ H Q k => k [] H Ext.rfl' rfl fun _ _ => .nil
theorem gl_cons {te : TE} {ta : TA} {d : PyData} {ds : List PyData} (h : GE te d) (t : GL ta ds) : GL (tCons te ta) (d :: ds) := fun σ H Q k =>
  h σ H _ fun v H1 e1 r => t σ H1 _ fun vs H2 e2 hl rs => k (v :: vs) H2 (e1.trans e2) (by rw [List.length_cons, List.length_cons, hl]) fun z hz => .cons ((r z hz).ext (hid_ext e2)) (rs z (hz.ext e1))
theorem ge_lst {ta : TA} {ds : List PyData} (t : GL ta ds) (hz : ds.length ≤ 100) : GE (tLst ta) (.list ds) := fun σ H Q k =>
  t σ H _ fun vs H1 e1 hl rs => ⟨by rw [hl, sizeLine_eq]; omega, fun p hp => k _ _ (e1.trans (Ext.upd hp)) fun z hz =>
    .lst (by rw [hid_ne ((hz.ext e1).ne hp)]; exact upd_same) ((rs z hz).ext (hid_ext (Ext.upd hp)))⟩
theorem ge_tup {ta : TA} {ds : List PyData} (t : GL ta ds) (hz : ds.length ≤ 100) : GE (tTup ta) (.tuple ds) := fun σ H Q k =>
  t σ H _ fun vs H1 e1 hl rs => ⟨by rw [hl, sizeLine_eq]; omega, fun p hp => k _ _ (e1.trans (Ext.upd hp)) fun z hz =>
    .tup (by rw [hid_ne ((hz.ext e1).ne hp)]; exact upd_same) ((rs z hz).ext (hid_ext (Ext.upd hp)))⟩
theorem ge_dct : GE (tDisp [(tC (.str "a"), tC (.int 1))]) (.dict [(.str "a", .int 1)]) := fun σ H Q k => by
  intro p hp
  refine ⟨upd_same, [(.inr "a", .int 1)], rfl, by decide, ?_⟩
  rw [upd_upd]
  exact k _ _ (Ext.upd hp) fun z hz => .dct (by rw [hid_ne (hz.ne hp)]; exact upd_same)
theorem ge_neg : GE (tUn (rU fun i => .int (-i)) (tC (.int 3))) (.int (-3)) := fun σ H Q k => ⟨3, rfl, k _ _ Ext.rfl' fun _ _ => .int _⟩
theorem PenAt.ext {H H' : Hp} {p l : Addr} {c : Int} (h : PenAt H p l c) (e : Ext H H') : PenAt H' p l c :=
  let ⟨cs, i, d, f, R⟩ := h
  ⟨cs, i, d, f, e _ _ R.at_, e _ _ R.cells, R.few, R.i0, R.i1, R.d0, R.f0, R.f1⟩
theorem Ext.off {H H' : Hp} (e : Ext H H') (p : Addr) : Off p H H' := fun b o _ h => e b o h
theorem PenAt.hid {H : Hp} {p l z : Addr} {c : Int} (h : PenAt H p l c) (n1 : z ≠ p) (n2 : z ≠ l) : PenAt (hid z H) p l c :=
  let ⟨cs, i, d, f, R⟩ := h
  ⟨cs, i, d, f, by rw [hid_ne n1.symm]; exact R.at_, by rw [hid_ne n2.symm]; exact R.cells, R.few, R.i0, R.i1, R.d0, R.f0, R.f1⟩
theorem Off.hid {H H' : Hp} {p z : Addr} (e : Off p H H') : Off p (hid z H) (hid z H') := fun b o hb h => by
  obtain ⟨n, h⟩ := hid_some h
  rw [hid_ne n]
  exact e b o hb h
/-- what is no pen stands off the pen -/
theorem PenAt.no {H : Hp} {p l b : Addr} {c : Int} {o : HO} (h : PenAt H p l c) (hb : H b = some o) (hn : ∀ l i d c f, o ≠ .dK (PenKV l i d c f)) : b ≠ p := fun z => by
  obtain ⟨cs, i, d, f, R⟩ := h
  rw [z, R.at_] at hb
  exact hn _ _ _ _ _ (Option.some.inj hb).symm
mutual
theorem Rp.off {H H' : Hp} {p l : Addr} {c : Int} (P : PenAt H p l c) (e : Off p H H') : ∀ {v d}, Rp H v d → Rp H' v d
  | _, _, .non => .non
  | _, _, .bl b => .bl b
  | _, _, .int i => .int i
  | _, _, .str x => .str x
  | _, _, .lst h r => .lst (e _ _ (P.no h (by simp)) h) (r.off P e)
  | _, _, .tup h r => .tup (e _ _ (P.no h (by simp)) h) (r.off P e)
  | _, _, .dct h => .dct (e _ _ (P.no h (by simp [PenKV])) h)
theorem Rps.off {H H' : Hp} {p l : Addr} {c : Int} (P : PenAt H p l c) (e : Off p H H') : ∀ {v d}, Rps H v d → Rps H' v d
  | _, _, .nil => .nil
  | _, _, .cons r s => .cons (r.off P e) (s.off P e)
end
theorem Rp.kind {H : Hp} {v : V} {d : PyData} (h : Rp H v d) : NL H v ∨ IsL H v := by
  cases h with
  | non => exact .inl (.inl rfl)
  | bl b => exact .inl (.inr (.inl ⟨b, rfl⟩))
  | int i => exact .inl (.inr (.inr (.inl ⟨i, rfl⟩)))
  | str x => exact .inl (.inr (.inr (.inr (.inl ⟨x, rfl⟩))))
  | lst h r => exact .inr ⟨_, _, rfl, h⟩
  | tup h r => exact .inl (.inr (.inr (.inr (.inr (.inl ⟨_, _, rfl, h⟩)))))
  | dct h => exact .inl (.inr (.inr (.inr (.inr (.inr ⟨_, _, _, rfl, h⟩)))))
def notStar : Expr → Bool
  | .Starred .. => false
  | _ => true
theorem star_ok {e : Expr} {es : List Expr} {env : Env} (h : notStar e = true) : starEach (e :: es) env = (false, eval e env) :: starEach es env := by
  cases e <;> first | rfl | simp [notStar] at h
theorem pa_k {X : Cx} {e : Expr} {es : List Expr} {te : TE} {t : TA} (ha : PE X e te) (hr : PA X es t) (h : notStar e = true := by rfl) : PA X (e :: es) (tCons te t) :=
  pa_cons ha hr (star_ok h)
def spPick : Sp := fun vs H Q _ => ∃ (p q l : Addr) (xs : List V) (c : Int), vs = [.ref p, .ref l] ∧ PenAt H p q c ∧ 0 ≤ c ∧ c < 100000 ∧ H l = some (.lst xs) ∧ 0 < xs.length ∧ xs.length < 1000 ∧
  ∀ (j : Nat) v H', xs[j]? = some v → Off p H H' → PenAt H' p q (c + 1) → Q v H'
def spValue : Sp := fun vs H Q _ => ∃ (p q : Addr) (c : Int), vs = [.ref p] ∧ PenAt H p q c ∧ 0 ≤ c ∧ c < 90000 ∧
  ∀ v d H', okD d = true → Rp H' v d → (∀ z, z ≠ p → z ≠ q → Old H z → Rp (hid z H') v d) → Off p H H' → PenAt H' p q (c + 4) → Q v H'
section
variable {P : Program} {w : World} {K : PySem.W.Frag} {mg : Str → Option Value} {base : Heap} {f : Addr} {fd : FuncData}
theorem g_draw (T : Tx K mg) : ∃ fd, FnOk P w K mg base CX0 1 (He.ga K "_law_draw") fd ["pen", "many"] spDraw ∧ PySem.W.keepIn K (.ref (He.ga K "_law_draw")) = true ∧ Binds K fd ["pen", "many"] [] := by
  obtain ⟨fd, F⟩ := T.kn.df 31 rfl
  exact ⟨fd, ok_draw F T, F.kp, F.bindsN fun _ _ _ _ _ _ us hl => match us, hl with | [_, _], _ => rfl⟩
theorem scPick : FnScope ["pen", "some"] ["pen", "some"] (defScope (topS 19)) := ⟨rfl, rfl, rfl, by decide +kernel, rfl, by decide +kernel, by decide +kernel⟩
theorem ok_pick (F : FnP K "_law_pick" "_law_pick" (topS 19) f fd) (T : Tx K mg) : FnOk P w K mg base CX0 2 f fd ["pen", "some"] spPick := by
  obtain ⟨fdd, GD, kp, bd⟩ := g_draw (P := P) (w := w) (base := base) T
  refine F.ok scPick (fun vs H Q E h => ?_) (fun cdv A outer s H vs Q E hr h => ?_)
  · obtain ⟨p, q, l, xs, c, rfl, _⟩ := h
    rfl
  · obtain ⟨p, q, l, xs, c, rfl, R, c0, c1, hl, h0, h1, k⟩ := h
    refine ⟨_, PSs.nox (pss_one (ps_ret (pe_ix ix_list (pv 1) (pe_call GD hr rfl (T.glo _ (by decide)) kp bd .nil pass0 (pa_cons (pv 0) (pa_cons (pe_callB call_len_seq (by rfl) (T.free _ (by decide)) boot_len (pa_cons (pv 1) pa_nil)) pa_nil))) (fun _ _ => rfl)))), ?_⟩
    refine ⟨_, rfl, _, rfl, _, rfl, l, xs, rfl, .inl (SqL.of hl), p, q, (xs.length : Int), c, rfl, R, c0, c1, by omega, by omega, fun d H' d0 d1 o R' => ?_⟩
    obtain ⟨j, rfl⟩ : ∃ j : Nat, d = (j : Int) := ⟨d.toNat, by omega⟩
    have hj : j < xs.length := by omega
    have hl' := o _ _ (R.no hl (by simp)) hl
    exact ⟨l, xs, _, xs[j], rfl, rfl, SqL.of hl', atI_nat (by simp [hj]), k j _ H' (by simp [hj]) o R'⟩
theorem g_pick (T : Tx K mg) : ∃ fd, FnOk P w K mg base CX0 2 (He.ga K "_law_pick") fd ["pen", "some"] spPick ∧ PySem.W.keepIn K (.ref (He.ga K "_law_pick")) = true ∧ Binds K fd ["pen", "some"] [] := by
  obtain ⟨fd, F⟩ := T.kn.df 32 rfl
  exact ⟨fd, ok_pick F T, F.kp, F.bindsN fun _ _ _ _ _ _ us hl => match us, hl with | [_, _], _ => rfl⟩
end
end Sn

namespace Sn
open PySem PySem.Spec PyProof.Rows L2
def val20 : Expr := match defBody (topS 20) with | .Assign _ v _ :: _ => v | _ => .Tuple [] 0 ⟨0,0,0,0⟩
theorem pe_val20 : ∃ t, (∀ X, PE X val20 t) ∧ GE t (.list ds0) := by
  refine ⟨_, fun X => pe_lst
        (pa_k (pe_tup (pa_k pe_int (pa_k pe_int pa_nil)))
        (pa_k (pe_lst (pa_k pe_int (pa_k (pe_lst (pa_k pe_int pa_nil)) pa_nil)))
        (pa_k (pe_lst pa_nil) (pa_k (pe_tup pa_nil) (pa_k pe_str (pa_k pe_int (pa_k pe_non (pa_k pe_bl
        (pa_k (pe_tup (pa_k (pe_tup (pa_k pe_int (pa_k pe_int pa_nil))) pa_nil))
        (pa_k (pe_lst (pa_k (pe_lst (pa_k pe_int pa_nil)) (pa_k (pe_lst (pa_k pe_int pa_nil)) pa_nil)))
        (pa_k (pe_disp (pps_cons pe_str pe_int pps_nil) (by rfl) (by rfl) (fun z => by cases z) (by decide))
        (pa_k (pe_un un_neg pe_int) (pa_k pe_str (pa_k (pe_lst (pa_k pe_non pa_nil)) pa_nil)))))))))))))), ?_⟩
  exact (ge_lst (gl_cons (ge_tup (gl_cons (ge_c fun _ => .int _) (gl_cons (ge_c fun _ => .int _) gl_nil)) (by decide))
      (gl_cons (ge_lst (gl_cons (ge_c fun _ => .int _) (gl_cons (ge_lst (gl_cons (ge_c fun _ => .int _) gl_nil) (by decide)) gl_nil)) (by decide))
      (gl_cons (ge_lst gl_nil (by decide)) (gl_cons (ge_tup gl_nil (by decide)) (gl_cons (ge_c fun _ => .str _) (gl_cons (ge_c fun _ => .int _) (gl_cons (ge_c fun _ => .non) (gl_cons (ge_c fun _ => .bl _)
      (gl_cons (ge_tup (gl_cons (ge_tup (gl_cons (ge_c fun _ => .int _) (gl_cons (ge_c fun _ => .int _) gl_nil)) (by decide)) gl_nil) (by decide))
      (gl_cons (ge_lst (gl_cons (ge_lst (gl_cons (ge_c fun _ => .int _) gl_nil) (by decide)) (gl_cons (ge_lst (gl_cons (ge_c fun _ => .int _) gl_nil) (by decide)) gl_nil)) (by decide))
      (gl_cons ge_dct (gl_cons ge_neg (gl_cons (ge_c fun _ => .str _) (gl_cons (ge_lst (gl_cons (ge_c fun _ => .non) gl_nil) (by decide)) gl_nil)))))))))))))) (by decide))

def ret20 : Expr := match defBody (topS 20) with | _ :: .Return (some (.Call _ [_, e] _ _)) _ :: _ => e | _ => .Tuple [] 0 ⟨0,0,0,0⟩
section
variable {P : Program} {w : World} {K : PySem.W.Frag} {mg : Str → Option Value} {base : Heap} {f : Addr} {fd : FuncData}
theorem scValue : FnScope ["pen", "some", "k"] ["pen"] (defScope (topS 20)) := ⟨rfl, rfl, rfl, by decide +kernel, rfl, by decide +kernel, by decide +kernel⟩
def lc20 : Expr := match defBody (topS 20) with | _ :: .Return (some (.Call _ [_, .BinOp _ _ (.List [e] _) _] _ _)) _ :: _ => e | _ => .Tuple [] 0 ⟨0,0,0,0⟩
def lcs20 : Scope := match lc20 with | .ListComp _ _ sc _ => sc | _ => defScope (topS 20)
theorem bo : BlkOk (["pen", "some", "k"] : List Str) (defScope (topS 20)) lcs20 [("k", 2)] := blkOk_by (by decide +kernel)
abbrev tl20 : TE := tLc (iRng1 (tCons (tC (.int 3)) tNil)) (gName 2) tYes (tCall spDraw [] E0 (tCons (tVar 0) (tCons (tC (.int 9)) tNil))) [2]
theorem x1 (T : Tx K mg) {cdv : Value} {A : Around} {outer : List Env} {s : Shared} {H : Hp} {E : XK} (hr : Room 1 (A.deeper (envOfC "_law_value" (defScope (topS 20)) s.heap.objs.size f cdv))) : PE (cxOf CX0 P w K mg base ["pen", "some", "k"] "_law_value" (defScope (topS 20)) f cdv A outer s H E).nox lc20 tl20 := by
  obtain ⟨fdd, GD, kpd, bd⟩ := g_draw (P := P) (w := w) (base := base) T
  show PE _ (.ListComp _ [⟨_, _, [], 0⟩] lcs20 _) _
  refine pe_lc (own := [("k", 2)]) (g := gName 2) (tt := tYes) rfl scValue.nd ?_ bo ?_ ?_ ?_
  · exact pi_range1 rfl (T.free _ (by decide)) (pa_k pe_int pa_nil) (star_ok rfl)
  · exact fun _ _ _ _ _ => pg_name (i := 2) scValue.nd rfl (Or.inl rfl)
  · exact fun _ _ _ _ _ => pts_nil
  · intro s' H' C cl fp
    refine pe_call (k := 1) (dvs := []) (ds := []) GD hr ?_ ?_ kpd bd .nil pass0 (pa_k ?_ (pa_k pe_int pa_nil)) (by decide) (star_ok rfl)
    · rfl
    · exact T.glo _ (by decide)
    · exact pv 0
theorem x2 (T : Tx K mg) {cdv : Value} {A : Around} {outer : List Env} {s : Shared} {H : Hp} {E : XK} (hr : Room 2 (A.deeper (envOfC "_law_value" (defScope (topS 20)) s.heap.objs.size f cdv))) {t0 : TE} (p0 : ∀ X, PE X val20 t0) :
    PSs (cxOf CX0 P w K mg base ["pen", "some", "k"] "_law_value" (defScope (topS 20)) f cdv A outer s H E).nox (defBody (topS 20)) (tSeq (tAsg t0 (gName 1)) (tRet (tCall spPick [] E0 (tCons (tVar 0) (tCons (tOp rCat (tVar 1) (tLst (tCons tl20 tNil))) tNil))))) := by
  obtain ⟨fdp, GP, kpp, bp⟩ := g_pick (P := P) (w := w) (base := base) T
  have pl := x1 (P := P) (w := w) (base := base) (outer := outer) (E := E) (H := H) T (hr.mono (show 1 ≤ 2 by decide))
  refine pss_cons (ps_set (i := 1) scValue.nd rfl (Or.inl rfl) (p0 _)) (pss_one (ps_ret ?_))
  refine pe_call (k := 2) (dvs := []) (ds := []) GP hr ?_ ?_ kpp bp .nil pass0 (pa_k (pv 0) (pa_k (pe_op op_cat (pv 1) (pe_lst (pa_k pl pa_nil))) pa_nil)) (by decide) (star_ok rfl)
  · rfl
  · exact T.glo _ (by decide)
theorem tyIf {σ H} {A B : Hp → Prop} (h : A H) : tYes σ H (fun b H3 => if b = true then A H3 else B H3) := by
  show (if true = true then A H else B H)
  rw [if_pos rfl]
  exact h
theorem ok_value (F : FnP K "_law_value" "_law_value" (topS 20) f fd) (T : Tx K mg) : FnOk P w K mg base CX0 3 f fd ["pen"] spValue := by
  obtain ⟨t0, p0, g0⟩ := pe_val20
  refine F.ok scValue (fun vs H Q E h => ?_) (fun cdv A outer s H vs Q E hr h => ?_)
  · obtain ⟨p, q, c, rfl, _⟩ := h
    rfl
  · obtain ⟨p, q, c, rfl, R, c0, c1, k⟩ := h
    refine ⟨_, PSs.nox (x2 T hr p0), ?_⟩
    refine g0 _ _ _ fun v H1 e1 r => ?_
    have oldp : Old H p := let ⟨_, _, _, _, S⟩ := R; ⟨_, S.at_⟩
    obtain ⟨a, xs, ev, ha', rs'⟩ : ∃ a xs, v = .ref a ∧ hid p H1 a = some (.lst xs) ∧ Rps (hid p H1) xs ds0 := by
      cases r p oldp with
      | lst ha rs => exact ⟨_, _, rfl, ha, rs⟩
    subst ev
    have ha := (hid_some ha').2
    have rz : ∀ z, Old H z → Rps (hid z H1) xs ds0 := fun z hz => by
      cases r z hz with
      | lst hb rs =>
        have := (hid_some hb).2
        rw [ha] at this
        cases this
        exact rs
    have rs : Rps H1 xs ds0 := rs'.ext hid_le
    have R1 := R.ext e1
    have hl : xs.length = 14 := rs.len
    refine ⟨_, rfl, _, rfl, ?_⟩
    refine ⟨3, rfl, by decide, by decide, fun D hD => ?_⟩
    have nDp : D ≠ p := fun z => by
      obtain ⟨cs, i, d, f, S⟩ := R1
      rw [z, S.at_] at hD
      cases hD
    refine lc_range (lo := 0) (n := 3) (fun i H' => ∃ is : List Int, is.length = i ∧ (∀ x ∈ is, 0 ≤ x ∧ x < 9) ∧ H' D = some (.lst (is.map V.int)) ∧ PenAt H' p q (c + (i : Int)) ∧ Off p H1 H')
      ⟨[], rfl, by simp, upd_same, by simpa using R1.ext (Ext.upd hD), Ext.off (Ext.upd hD) p⟩ ?_ ?_
    · rintro i H' hi ⟨is, hn, hs, hDD, R', o⟩
      refine ⟨rfl, tyIf ?_⟩
      refine ⟨_, rfl, p, q, 9, c + (i : Int), rfl, R', by omega, by omega, by decide, by decide, fun d H2 d0 d1 o2 R2 => ?_⟩
      have hD2 := o2 _ _ nDp hDD
      refine ⟨_, hD2, by rw [List.length_map, sizeLine_eq]; omega, is ++ [d], by simp [hn], fun x hx => ?_, by rw [upd_same]; simp, ?_, fun b o' hb e => ?_⟩
      · rcases List.mem_append.mp hx with z | z
        · exact hs x z
        · have : x = d := by simpa using z
          subst this
          exact ⟨d0, d1⟩
      · obtain ⟨cs, i', d', f', S⟩ := R2
        have nq : q ≠ D := fun z => by
          obtain ⟨_, _, _, _, S1⟩ := R1
          have e := S1.cells
          rw [z, hD] at e
          cases e
        exact ⟨cs, i', d', f', by rw [upd_ne nDp.symm]; simpa [Int.add_assoc] using S.at_, by rw [upd_ne nq]; exact S.cells, S.few, S.i0, S.i1, S.d0, S.f0, S.f1⟩
      · have nb : b ≠ D := ne_of_none e hD
        rw [upd_ne nb]
        exact o2 b o' hb (o b o' hb e)
    · rintro H2 ⟨is, hn, hs, hDD, R2, o⟩
      obtain ⟨i, j, m, rfl⟩ : ∃ i j m, is = [i, j, m] := by
        match is, hn with
        | [i, j, m], _ => exact ⟨i, j, m, rfl⟩
      have ok : okD (.list [.int i, .int j, .int m]) = true := ok3 (hs i (by simp)) (hs j (by simp)) (hs m (by simp))
      have ha2 := o _ _ (R1.no ha (by simp)) ha
      have rs2 := rs.off R1 o
      refine ⟨by show 1 ≤ sizeLine; rw [sizeLine_eq]; decide, fun b hb => ?_⟩
      have eb := Ext.upd (o := .lst [V.ref D]) hb
      refine ⟨a, b, xs, [.ref D], rfl, rfl, eb _ _ ha2, upd_same, by rw [hl, sizeLine_eq]; simp, fun r hr' => ?_⟩
      have er := Ext.upd (o := .lst (xs ++ [V.ref D])) hr'
      have R3 := (R2.ext eb).ext er
      refine ⟨p, q, r, xs ++ [.ref D], _, rfl, R3, by omega, by omega, upd_same, by simp, by simp [hl], fun n v H' hv o3 R4 => ?_⟩
      have all : Rps (upd (upd H2 b (.lst [V.ref D])) r (.lst (xs ++ [V.ref D]))) (xs ++ [.ref D]) (ds0 ++ [.list [.int i, .int j, .int m]]) := by
        have one : Rp H2 (.ref D) (.list [.int i, .int j, .int m]) := .lst hDD (.cons (.int _) (.cons (.int _) (.cons (.int _) .nil)))
        exact ((Rps.snoc one rs2).ext eb).ext er
      have allz : ∀ z, z ≠ p → z ≠ q → Old H z → Rps (hid z (upd (upd H2 b (.lst [V.ref D])) r (.lst (xs ++ [V.ref D])))) (xs ++ [.ref D]) (ds0 ++ [.list [.int i, .int j, .int m]]) := fun z zp zq hz => by
        have nD : D ≠ z := (hz.ext e1).ne hD
        have one : Rp (hid z H2) (.ref D) (.list [.int i, .int j, .int m]) := .lst (by rw [hid_ne nD]; exact hDD) (.cons (.int _) (.cons (.int _) (.cons (.int _) .nil)))
        have two := (rz z hz).off (R1.hid zp zq) o.hid
        exact ((Rps.snoc one two).ext (hid_ext eb)).ext (hid_ext er)
      obtain ⟨d, hd, rd⟩ := all.get hv
      refine k v d H' ?_ (rd.off R3 o3) (fun z zp zq hz => ?_) (fun z o' hz e => ?_) (by simpa [Int.add_assoc] using R4)
      · have hm := List.mem_of_getElem? hd
        rcases List.mem_append.mp hm with z | z
        · exact List.all_eq_true.mp ok0 d z
        · have : d = .list [.int i, .int j, .int m] := by simpa using z
          rw [this]
          exact ok
      · obtain ⟨d', hd', rd'⟩ := (allz z zp zq hz).get hv
        rw [hd] at hd'
        cases hd'
        exact rd'.off (R3.hid zp zq) o3.hid
      · exact o3 z o' hz (er _ _ (eb _ _ (o z o' hz (e1 _ _ e))))
end
end Sn

namespace Sn
open PySem PySem.Spec PyProof.Rows L2
/-! ## the fields, told -/
def varsA : List Nat → TA
  | [] => tNil
  | i :: r => tCons (tVar i) (varsA r)
def fldsA (K : PySem.W.Frag) (j : Nat) : List Str → TA
  | [] => tNil
  | f :: r => tCons (tFld K (tVar j) f) (fldsA K j r)
def isiT (K : PySem.W.Frag) (c : Str) : TT := tB (tCB (rIsi K) (tCons (tVar 0) (tCons (tC (.ref (He.ga K c))) tNil)))
def ifTS (K : PySem.W.Frag) (c : Str) (ns : List Str) : TS := tIfS (isiT K c) (tRet (tLst (tCons (tC (.str c)) (fldsA K 0 ns)))) tNext
def chTS (K : PySem.W.Frag) : List (Str × List Str) → TS
  | [] => tRet (tLst (tCons (tC (.str "other")) tNil))
  | (c, ns) :: r => tSeq (ifTS K c ns) (chTS K r)
theorem rd_flds {K : PySem.W.Frag} {c : Str} {ns : List Str} (M : CF K c ns) (nd : ns.Nodup) {σ : L2.St} {H : Hp} {j : Nat} {a dx : Addr} {xs : List V} (hj : σ[j]? = some (some (.ref a))) (ha : H a = some (.ins (He.ga K c) dx (ns.zip xs))) :
    ∀ (ms : List Str) (i : Nat) (ys : List V) (Q : List V → Hp → Prop), (∀ k f, ms[k]? = some f → ns[i + k]? = some f) → (∀ k x, ys[k]? = some x → xs[i + k]? = some x) → ys.length = ms.length → Q ys H → fldsA K j ms σ H Q
  | [], i, ys, Q, _, _, hl, k => by
    have e : ys = [] := List.eq_nil_of_length_eq_zero hl
    subst e
    exact k
  | f :: r, i, [], Q, _, _, hl, k => by simp at hl
  | f :: r, i, y :: ys, Q, h1, h2, hl, k => by
    show tFld K (tVar j) f σ H fun v H1 => fldsA K j r σ H1 fun vs H2 => Q (v :: vs) H2
    refine rd_fld M nd hj ha (i := i) (h1 0 f rfl) (h2 0 y rfl) ?_
    refine rd_flds M nd hj ha r (i + 1) ys _ (fun k' g hk => ?_) (fun k' x hk => ?_) (by simpa using hl) k
    · have := h1 (k' + 1) g (by simpa using hk)
      rw [show i + 1 + k' = i + (k' + 1) by omega]
      exact this
    · have := h2 (k' + 1) x (by simpa using hk)
      rw [show i + 1 + k' = i + (k' + 1) by omega]
      exact this
def spFields (K : PySem.W.Frag) : Sp := fun vs H Q _ => ∃ a c ns dx xs, vs = [.ref a] ∧ (c, ns) ∈ fieldsOf ∧ H a = some (.ins (He.ga K c) dx (ns.zip xs)) ∧ xs.length = ns.length ∧
  ∀ p, H p = none → Q (.ref p) (upd H p (.lst (.str c :: xs)))
theorem fo_one : ∀ x ∈ fieldsOf, ∀ y ∈ fieldsOf, x.1 = y.1 → x.2 = y.2 := by decide +kernel
theorem fo_nd : ∀ x ∈ fieldsOf, x.2.Nodup ∧ x.2.length ≤ 5 := by decide +kernel
theorem fo_cls {c : Str} {ns : List Str} (h : (c, ns) ∈ fieldsOf) : c ∈ cls := by
  have e : cls = fieldsOf.map (·.1) := rfl
  rw [e]
  exact List.mem_map_of_mem (f := (·.1)) h
theorem rd_ch {K : PySem.W.Frag} (k : Kn K) {c : Str} {ns : List Str} (hm : (c, ns) ∈ fieldsOf) {σ : L2.St} {H : Hp} {a dx : Addr} {xs : List V} {D : Ends} (h0 : σ[0]? = some (some (.ref a)))
    (ha : H a = some (.ins (He.ga K c) dx (ns.zip xs))) (hl : xs.length = ns.length) (q : ∀ p, H p = none → D.rt (.ref p) (upd H p (.lst (.str c :: xs)))) :
    ∀ l : List (Str × List Str), (∀ x ∈ l, x ∈ fieldsOf) → (c, ns) ∈ l → chTS K l D σ H
  | [], _, h => by cases h
  | (d, ms) :: r, hs, h => by
    have hd := hs (d, ms) List.mem_cons_self
    refine ⟨_, h0, rd_isiC (Q := fun x H1 => ∃ z, x = V.bl z ∧ if z = true then _ else _) k (fo_cls hd) (fo_cls hm) ha ⟨_, rfl, ?_⟩⟩
    by_cases e : c = d
    · rw [show (c == d) = true from beq_iff_eq.mpr e]
      subst e
      have e2 : ns = ms := fo_one _ hm _ hd rfl
      subst e2
      refine iteT ?_
      have M := cf_of k hm
      refine rd_flds M (fo_nd _ hm).1 h0 ha ns 0 xs _ (fun k f h => by simpa using h) (fun k f h => by simpa using h) hl ⟨?_, q⟩
      have := (fo_nd _ hm).2
      rw [sizeLine_eq, List.length_cons, hl]
      show ns.length + 1 ≤ _
      have : ns.length ≤ 5 := this
      omega
    · rw [show (c == d) = false from beq_eq_false_iff_ne.mpr e]
      refine iteF ?_
      refine rd_ch k hm h0 ha hl q r (fun x hx => hs x (List.mem_cons_of_mem _ hx)) ?_
      rcases List.mem_cons.mp h with z | z
      · exact absurd (congrArg (·.1) z) e
      · exact z
section
variable {P : Program} {w : World} {K : PySem.W.Frag} {mg : Str → Option Value} {base : Heap} {f : Addr} {fd : FuncData}
theorem scFields : FnScope ["one"] ["one"] (defScope (topS 22)) := ⟨rfl, rfl, rfl, by decide +kernel, rfl, by decide +kernel, by decide +kernel⟩
abbrev XF (P : Program) (w : World) (K : PySem.W.Frag) (mg : Str → Option Value) (base : Heap) (f : Addr) (cdv : Value) (A : Around) (outer : List Env) (s : Shared) (H : Hp) (E : XK) : Cx :=
  (cxOf CX0 P w K mg base ["one"] "_law_fields" (defScope (topS 22)) f cdv A outer s H E).nox
variable {cdv : Value} {A : Around} {outer : List Env} {s : Shared} {H : Hp} {E : XK}
def stF (i : Nat) : Stmt := (defBody (topS 22)).getD i (.Pass ⟨0, 0, 0, 0⟩)
theorem fi_Shows (T : Tx K mg) : PS (XF P w K mg base f cdv A outer s H E) (stF 0) (ifTS K "Shows" ["shares"]) := by
  refine ps_if (pt_val (pe_callB call_isi (by rfl) (T.free _ (by decide)) boot_isinstance (pa_k (pv 0) (pa_k (pe_glob (v := .ref (He.ga K "Shows")) (by rfl) (T.glo _ (by decide)) rfl) pa_nil)))) (pss_one (ps_ret ?_)) pss_nil
  exact pe_lst (pa_k pe_str (pa_k (pe_fld (pv 0) rfl) pa_nil))
theorem fi_Hidden (T : Tx K mg) : PS (XF P w K mg base f cdv A outer s H E) (stF 1) (ifTS K "Hidden" ["field"]) := by
  refine ps_if (pt_val (pe_callB call_isi (by rfl) (T.free _ (by decide)) boot_isinstance (pa_k (pv 0) (pa_k (pe_glob (v := .ref (He.ga K "Hidden")) (by rfl) (T.glo _ (by decide)) rfl) pa_nil)))) (pss_one (ps_ret ?_)) pss_nil
  exact pe_lst (pa_k pe_str (pa_k (pe_fld (pv 0) rfl) pa_nil))
theorem fi_Hiding (T : Tx K mg) : PS (XF P w K mg base f cdv A outer s H E) (stF 2) (ifTS K "Hiding" ["number", "order"]) := by
  refine ps_if (pt_val (pe_callB call_isi (by rfl) (T.free _ (by decide)) boot_isinstance (pa_k (pv 0) (pa_k (pe_glob (v := .ref (He.ga K "Hiding")) (by rfl) (T.glo _ (by decide)) rfl) pa_nil)))) (pss_one (ps_ret ?_)) pss_nil
  exact pe_lst (pa_k pe_str (pa_k (pe_fld (pv 0) rfl) (pa_k (pe_fld (pv 0) rfl) pa_nil)))
theorem fi_Formula (T : Tx K mg) : PS (XF P w K mg base f cdv A outer s H E) (stF 3) (ifTS K "Formula" ["top", "bottom"]) := by
  refine ps_if (pt_val (pe_callB call_isi (by rfl) (T.free _ (by decide)) boot_isinstance (pa_k (pv 0) (pa_k (pe_glob (v := .ref (He.ga K "Formula")) (by rfl) (T.glo _ (by decide)) rfl) pa_nil)))) (pss_one (ps_ret ?_)) pss_nil
  exact pe_lst (pa_k pe_str (pa_k (pe_fld (pv 0) rfl) (pa_k (pe_fld (pv 0) rfl) pa_nil)))
theorem fi_NoFormula (T : Tx K mg) : PS (XF P w K mg base f cdv A outer s H E) (stF 4) (ifTS K "NoFormula" ["relations", "places"]) := by
  refine ps_if (pt_val (pe_callB call_isi (by rfl) (T.free _ (by decide)) boot_isinstance (pa_k (pv 0) (pa_k (pe_glob (v := .ref (He.ga K "NoFormula")) (by rfl) (T.glo _ (by decide)) rfl) pa_nil)))) (pss_one (ps_ret ?_)) pss_nil
  exact pe_lst (pa_k pe_str (pa_k (pe_fld (pv 0) rfl) (pa_k (pe_fld (pv 0) rfl) pa_nil)))
theorem fi_Relation (T : Tx K mg) : PS (XF P w K mg base f cdv A outer s H E) (stF 5) (ifTS K "Relation" ["poly"]) := by
  refine ps_if (pt_val (pe_callB call_isi (by rfl) (T.free _ (by decide)) boot_isinstance (pa_k (pv 0) (pa_k (pe_glob (v := .ref (He.ga K "Relation")) (by rfl) (T.glo _ (by decide)) rfl) pa_nil)))) (pss_one (ps_ret ?_)) pss_nil
  exact pe_lst (pa_k pe_str (pa_k (pe_fld (pv 0) rfl) pa_nil))
theorem fi_NoRelation (T : Tx K mg) : PS (XF P w K mg base f cdv A outer s H E) (stF 6) (ifTS K "NoRelation" ["places"]) := by
  refine ps_if (pt_val (pe_callB call_isi (by rfl) (T.free _ (by decide)) boot_isinstance (pa_k (pv 0) (pa_k (pe_glob (v := .ref (He.ga K "NoRelation")) (by rfl) (T.glo _ (by decide)) rfl) pa_nil)))) (pss_one (ps_ret ?_)) pss_nil
  exact pe_lst (pa_k pe_str (pa_k (pe_fld (pv 0) rfl) pa_nil))
theorem fi_Model (T : Tx K mg) : PS (XF P w K mg base f cdv A outer s H E) (stF 7) (ifTS K "Model" ["states", "numbers", "changes", "measured", "asks"]) := by
  refine ps_if (pt_val (pe_callB call_isi (by rfl) (T.free _ (by decide)) boot_isinstance (pa_k (pv 0) (pa_k (pe_glob (v := .ref (He.ga K "Model")) (by rfl) (T.glo _ (by decide)) rfl) pa_nil)))) (pss_one (ps_ret ?_)) pss_nil
  exact pe_lst (pa_k pe_str (pa_k (pe_fld (pv 0) rfl) (pa_k (pe_fld (pv 0) rfl) (pa_k (pe_fld (pv 0) rfl) (pa_k (pe_fld (pv 0) rfl) (pa_k (pe_fld (pv 0) rfl) pa_nil))))))
theorem fi_Paper (T : Tx K mg) : PS (XF P w K mg base f cdv A outer s H E) (stF 8) (ifTS K "Paper" ["places", "rows", "closing", "place", "asked"]) := by
  refine ps_if (pt_val (pe_callB call_isi (by rfl) (T.free _ (by decide)) boot_isinstance (pa_k (pv 0) (pa_k (pe_glob (v := .ref (He.ga K "Paper")) (by rfl) (T.glo _ (by decide)) rfl) pa_nil)))) (pss_one (ps_ret ?_)) pss_nil
  exact pe_lst (pa_k pe_str (pa_k (pe_fld (pv 0) rfl) (pa_k (pe_fld (pv 0) rfl) (pa_k (pe_fld (pv 0) rfl) (pa_k (pe_fld (pv 0) rfl) (pa_k (pe_fld (pv 0) rfl) pa_nil))))))
theorem ok_fields (F : FnP K "_law_fields" "_law_fields" (topS 22) f fd) (T : Tx K mg) : FnOk P w K mg base CX0 1 f fd ["one"] (spFields K) := by
  refine F.ok scFields (fun vs H Q E h => ?_) (fun cdv A outer s H vs Q E hr h => ?_)
  · obtain ⟨a, c, ns, dx, xs, rfl, _⟩ := h
    rfl
  · obtain ⟨a, c, ns, dx, xs, rfl, hm, ha, hl, k⟩ := h
    refine ⟨chTS K fieldsOf, PSs.nox ?_, rd_ch T.kn hm rfl ha hl k fieldsOf (fun x hx => hx) hm⟩
    refine pss_cons (fi_Shows T) (pss_cons (fi_Hidden T) (pss_cons (fi_Hiding T) (pss_cons (fi_Formula T) (pss_cons (fi_NoFormula T) (pss_cons (fi_Relation T) (pss_cons (fi_NoRelation T) (pss_cons (fi_Model T) (pss_cons (fi_Paper T) (pss_one (ps_ret (pe_lst (pa_k pe_str pa_nil))))))))))))
theorem g_fields (T : Tx K mg) : ∃ fd, FnOk P w K mg base CX0 1 (He.ga K "_law_fields") fd ["one"] (spFields K) ∧ PySem.W.keepIn K (.ref (He.ga K "_law_fields")) = true ∧ Binds K fd ["one"] [] := by
  obtain ⟨fd, F⟩ := T.kn.df 35 rfl
  exact ⟨fd, ok_fields F T, F.kp, F.bindsN fun _ _ _ _ _ _ us hl => match us, hl with | [_], _ => rfl⟩
end
end Sn

namespace Sn
open PySem PySem.Spec PyProof.Rows L2
/-! ## the rows -/
def Locs (σ : L2.St) : List Nat → List V → Prop
  | [], [] => True
  | i :: r, v :: t => σ[i]? = some (some v) ∧ Locs σ r t
  | _, _ => False
theorem rd_vars {σ : L2.St} {H : Hp} : ∀ {is : List Nat} {vs : List V} {Q : List V → Hp → Prop}, Locs σ is vs → Q vs H → varsA is σ H Q
  | [], [], _, _, q => q
  | i :: r, v :: t, Q, h, q => by
    show tVar i σ H fun v H1 => varsA r σ H1 fun vs H2 => Q (v :: vs) H2
    exact ⟨v, h.1, rd_vars h.2 q⟩
  | [], _ :: _, _, h, _ => h.elim
  | _ :: _, [], _, h, _ => h.elim
def RowAt (K : PySem.W.Frag) (H : Hp) (c : Str) (ns : List Str) (args : List V) (r : Addr) : Prop := ∃ p q l dx dy xs ys es, H r = some (.tup [.ref p, .ref q, .ref l]) ∧
  H p = some (.ins (He.ga K c) dx (ns.zip xs)) ∧ Cps H args xs ∧ H q = some (.ins (He.ga K c) dy (ns.zip ys)) ∧ Cps H args ys ∧ H l = some (.lst (.str c :: es)) ∧ Cps H args es
theorem RowAt.ext {K : PySem.W.Frag} {H H' : Hp} {c : Str} {ns : List Str} {args : List V} {r : Addr} (e : Ext H H') (h : RowAt K H c ns args r) : RowAt K H' c ns args r := by
  obtain ⟨p, q, l, dx, dy, xs, ys, es, h1, h2, h3, h4, h5, h6, h7⟩ := h
  exact ⟨p, q, l, dx, dy, xs, ys, es, e _ _ h1, e _ _ h2, h3.ext e, e _ _ h4, h5.ext e, e _ _ h6, h7.ext e⟩
def RowsAt (K : PySem.W.Frag) (H : Hp) : List (Str × List Str × List V) → List V → Prop
  | [], [] => True
  | x :: t, v :: r => (∃ p, v = .ref p ∧ RowAt K H x.1 x.2.1 x.2.2 p) ∧ RowsAt K H t r
  | _, _ => False
theorem RowsAt.ext {K : PySem.W.Frag} {H H' : Hp} (e : Ext H H') : ∀ {l : List (Str × List Str × List V)} {rs : List V}, RowsAt K H l rs → RowsAt K H' l rs
  | [], [], _ => trivial
  | _ :: _, _ :: _, ⟨⟨p, e1, h⟩, t⟩ => ⟨⟨p, e1, h.ext e⟩, RowsAt.ext e t⟩
theorem RowsAt.snoc {K : PySem.W.Frag} {H : Hp} {x : Str × List Str × List V} {p : Addr} (h : RowAt K H x.1 x.2.1 x.2.2 p) : ∀ {l : List (Str × List Str × List V)} {rs : List V}, RowsAt K H l rs → RowsAt K H (l ++ [x]) (rs ++ [.ref p])
  | [], [], _ => ⟨⟨p, rfl, h⟩, trivial⟩
  | _ :: _, _ :: _, ⟨a, t⟩ => ⟨a, RowsAt.snoc h t⟩
abbrev gVK : List V → List V → List V := fun us ws => us ++ ws.reverse
def rowT (K : PySem.W.Frag) (c : Str) (ns : List Str) (ais eis : List Nat) : TE :=
  tTup (tCons (tMake (He.ga K c) (spInit (He.ga K c) ns) [] E0 (varsA ais)) (tCons (tMakeK (He.ga K c) 0 ns.length (spInit (He.ga K c) ns) gVK E0 tNil (varsA ais.reverse)) (tCons (tLst (tCons (tC (.str c)) (varsA eis))) tNil)))
theorem kinds_ext {H H' : Hp} (e : Ext H H') {args : List V} (h : ∀ v ∈ args, NL H v ∨ IsL H v) : ∀ v ∈ args, NL H' v ∨ IsL H' v := fun v hv =>
  (h v hv).elim (fun z => .inl (z.ext e)) fun z => .inr (z.ext e)
/-- one instance made -/
theorem mk_ext {C : Addr} {H H' : Hp} {x dx : Addr} (hx : H x = none) (hdx : H dx = none) (ne : dx ≠ x) (o : Off x (upd (upd H dx (.own x)) x (.ins C dx [])) H') : Ext H H' := fun b u hb => by
  have b1 : b ≠ x := ne_of_none hb hx
  have b2 : b ≠ dx := ne_of_none hb hdx
  refine o b u b1 ?_
  rw [upd_ne b1, upd_ne b2]
  exact hb
theorem mk_ext0 {C : Addr} {H : Hp} {x dx : Addr} (hx : H x = none) (hdx : H dx = none) : Ext H (upd (upd H dx (.own x)) x (.ins C dx [])) := fun b u hb => by
  rw [upd_ne (ne_of_none hb hx), upd_ne (ne_of_none hb hdx)]
  exact hb
theorem rd_row {K : PySem.W.Frag} {c : Str} {ns : List Str} {ais eis : List Nat} {args es : List V} {σ : L2.St} {H : Hp} {Q : VK} (la : Locs σ ais args) (lr : Locs σ ais.reverse args.reverse) (le : Locs σ eis es) (hn : args.length = ns.length) (hes : es.length ≤ 5)
    (hv : ∀ v ∈ args, NL H v ∨ IsL H v) (hc : Cps H args es) (k : ∀ r H', Ext H H' → RowAt K H' c ns args r → Q (.ref r) H') : rowT K c ns ais eis σ H Q := by
  refine rd_vars la fun x dx hx hdx ne => ?_
  have e0 := mk_ext0 (C := He.ga K c) hx hdx
  refine ⟨x, dx, args, by simp, hn, upd_same, kinds_ext e0 hv, fun xs H1 o1 hp1 c1 => ⟨rfl, ?_⟩⟩
  have e1 := mk_ext hx hdx ne o1
  refine rd_vars lr ⟨rfl, by simp [hn], fun x2 dx2 hx2 hdx2 ne2 => ?_⟩
  have e2' := e1.trans (mk_ext0 (C := He.ga K c) hx2 hdx2)
  refine ⟨x2, dx2, args, by simp [gVK], hn, upd_same, kinds_ext e2' hv, fun ys H2 o2 hp2 c2 => ⟨rfl, ?_⟩⟩
  have e12 := mk_ext hx2 hdx2 ne2 o2
  refine rd_vars le ⟨by rw [sizeLine_eq, List.length_cons]; omega, fun l hl => ⟨by show 3 ≤ sizeLine; rw [sizeLine_eq]; decide, fun r hr => ?_⟩⟩
  have e23 := Ext.upd (o := .lst (.str c :: es)) hl
  have e34 := Ext.upd (o := .tup [.ref x, .ref x2, .ref l]) hr
  have e14 := e12.trans (e23.trans e34)
  have e24 := e23.trans e34
  refine k r _ (e1.trans e14) ⟨x, x2, l, dx, dx2, xs, ys, es, upd_same, e14 _ _ hp1, ?_, e24 _ _ hp2, ?_, e34 _ _ upd_same, hc.ext (e1.trans e14)⟩
  · exact Cps.ext e14 (c1)
  · exact Cps.ext e24 (c2)
def rowsOf (a b c d : V) : List (Str × List Str × List V) := [("Shows", ["shares"], [a]), ("Hidden", ["field"], [b]), ("Hiding", ["number", "order"], [a, b]), ("Formula", ["top", "bottom"], [c, d]), ("NoFormula", ["relations", "places"], [a, b]), ("Relation", ["poly"], [b]), ("NoRelation", ["places"], [c]), ("Model", ["states", "numbers", "changes", "measured", "asks"], [a, b, c, d, a]), ("Paper", ["places", "rows", "closing", "place", "asked"], [a, b, c, d, a])]
def spRows (K : PySem.W.Frag) : Sp := fun vs H Q _ => ∃ a b c d, vs = [a, b, c, d] ∧ (∀ v ∈ [a, b, c, d], NL H v ∨ IsL H v) ∧
  ∀ l rs H', Ext H H' → H' l = some (.lst rs) → RowsAt K H' (rowsOf a b c d) rs → Q (.ref l) H'
def appT (K : PySem.W.Frag) (t : TE) : TS := tDrop (tBM K "list" rAppend (tVar 8) (tCons t tNil))
def appsL (K : PySem.W.Frag) : List (Str × List Str × List Nat × List Nat) → TS
  | [] => tRet (tVar 8)
  | x :: r => tSeq (appT K (rowT K x.1 x.2.1 x.2.2.1 x.2.2.2)) (appsL K r)
section
variable {P : Program} {w : World} {K : PySem.W.Frag} {mg : Str → Option Value} {base : Heap} {f : Addr} {fd : FuncData}
theorem gi_Shows (T : Tx K mg) : ∃ fd, FnOk P w K mg base CX0 2 (He.ma K (He.ga K "Shows") "__init__") fd ["self", "shares"] (spInit (He.ga K "Shows") ["shares"]) ∧ Binds K fd ["self", "shares"] [] ∧ KBn K fd ["self", "shares"] 1 ["shares"] (fun us ws => us ++ ws.reverse) gVK := by
  obtain ⟨fd, F⟩ := T.kn.df 1 rfl
  exact ⟨fd, init_Shows F T, F.bindsN fun _ _ _ _ _ _ us hl => match us, hl with | [_, _], _ => rfl,
    kbn_of F 1 ["shares"] (fun us ws => us ++ ws.reverse) (fun r1 r2 => r1.append r2.reverse) fun _ _ _ _ _ _ us ws h1 h2 => match us, ws, h1, h2 with | [_], [_], _, _ => rfl⟩
theorem gi_Hidden (T : Tx K mg) : ∃ fd, FnOk P w K mg base CX0 2 (He.ma K (He.ga K "Hidden") "__init__") fd ["self", "field"] (spInit (He.ga K "Hidden") ["field"]) ∧ Binds K fd ["self", "field"] [] ∧ KBn K fd ["self", "field"] 1 ["field"] (fun us ws => us ++ ws.reverse) gVK := by
  obtain ⟨fd, F⟩ := T.kn.df 4 rfl
  exact ⟨fd, init_Hidden F T, F.bindsN fun _ _ _ _ _ _ us hl => match us, hl with | [_, _], _ => rfl,
    kbn_of F 1 ["field"] (fun us ws => us ++ ws.reverse) (fun r1 r2 => r1.append r2.reverse) fun _ _ _ _ _ _ us ws h1 h2 => match us, ws, h1, h2 with | [_], [_], _, _ => rfl⟩
theorem gi_Hiding (T : Tx K mg) : ∃ fd, FnOk P w K mg base CX0 2 (He.ma K (He.ga K "Hiding") "__init__") fd ["self", "number", "order"] (spInit (He.ga K "Hiding") ["number", "order"]) ∧ Binds K fd ["self", "number", "order"] [] ∧ KBn K fd ["self", "number", "order"] 1 ["order", "number"] (fun us ws => us ++ ws.reverse) gVK := by
  obtain ⟨fd, F⟩ := T.kn.df 7 rfl
  exact ⟨fd, init_Hiding F T, F.bindsN fun _ _ _ _ _ _ us hl => match us, hl with | [_, _, _], _ => rfl,
    kbn_of F 1 ["order", "number"] (fun us ws => us ++ ws.reverse) (fun r1 r2 => r1.append r2.reverse) fun _ _ _ _ _ _ us ws h1 h2 => match us, ws, h1, h2 with | [_], [_, _], _, _ => rfl⟩
theorem gi_Formula (T : Tx K mg) : ∃ fd, FnOk P w K mg base CX0 2 (He.ma K (He.ga K "Formula") "__init__") fd ["self", "top", "bottom"] (spInit (He.ga K "Formula") ["top", "bottom"]) ∧ Binds K fd ["self", "top", "bottom"] [] ∧ KBn K fd ["self", "top", "bottom"] 1 ["bottom", "top"] (fun us ws => us ++ ws.reverse) gVK := by
  obtain ⟨fd, F⟩ := T.kn.df 10 rfl
  exact ⟨fd, init_Formula F T, F.bindsN fun _ _ _ _ _ _ us hl => match us, hl with | [_, _, _], _ => rfl,
    kbn_of F 1 ["bottom", "top"] (fun us ws => us ++ ws.reverse) (fun r1 r2 => r1.append r2.reverse) fun _ _ _ _ _ _ us ws h1 h2 => match us, ws, h1, h2 with | [_], [_, _], _, _ => rfl⟩
theorem gi_NoFormula (T : Tx K mg) : ∃ fd, FnOk P w K mg base CX0 2 (He.ma K (He.ga K "NoFormula") "__init__") fd ["self", "relations", "places"] (spInit (He.ga K "NoFormula") ["relations", "places"]) ∧ Binds K fd ["self", "relations", "places"] [] ∧ KBn K fd ["self", "relations", "places"] 1 ["places", "relations"] (fun us ws => us ++ ws.reverse) gVK := by
  obtain ⟨fd, F⟩ := T.kn.df 13 rfl
  exact ⟨fd, init_NoFormula F T, F.bindsN fun _ _ _ _ _ _ us hl => match us, hl with | [_, _, _], _ => rfl,
    kbn_of F 1 ["places", "relations"] (fun us ws => us ++ ws.reverse) (fun r1 r2 => r1.append r2.reverse) fun _ _ _ _ _ _ us ws h1 h2 => match us, ws, h1, h2 with | [_], [_, _], _, _ => rfl⟩
theorem gi_Relation (T : Tx K mg) : ∃ fd, FnOk P w K mg base CX0 2 (He.ma K (He.ga K "Relation") "__init__") fd ["self", "poly"] (spInit (He.ga K "Relation") ["poly"]) ∧ Binds K fd ["self", "poly"] [] ∧ KBn K fd ["self", "poly"] 1 ["poly"] (fun us ws => us ++ ws.reverse) gVK := by
  obtain ⟨fd, F⟩ := T.kn.df 16 rfl
  exact ⟨fd, init_Relation F T, F.bindsN fun _ _ _ _ _ _ us hl => match us, hl with | [_, _], _ => rfl,
    kbn_of F 1 ["poly"] (fun us ws => us ++ ws.reverse) (fun r1 r2 => r1.append r2.reverse) fun _ _ _ _ _ _ us ws h1 h2 => match us, ws, h1, h2 with | [_], [_], _, _ => rfl⟩
theorem gi_NoRelation (T : Tx K mg) : ∃ fd, FnOk P w K mg base CX0 2 (He.ma K (He.ga K "NoRelation") "__init__") fd ["self", "places"] (spInit (He.ga K "NoRelation") ["places"]) ∧ Binds K fd ["self", "places"] [] ∧ KBn K fd ["self", "places"] 1 ["places"] (fun us ws => us ++ ws.reverse) gVK := by
  obtain ⟨fd, F⟩ := T.kn.df 19 rfl
  exact ⟨fd, init_NoRelation F T, F.bindsN fun _ _ _ _ _ _ us hl => match us, hl with | [_, _], _ => rfl,
    kbn_of F 1 ["places"] (fun us ws => us ++ ws.reverse) (fun r1 r2 => r1.append r2.reverse) fun _ _ _ _ _ _ us ws h1 h2 => match us, ws, h1, h2 with | [_], [_], _, _ => rfl⟩
theorem gi_Model (T : Tx K mg) : ∃ fd, FnOk P w K mg base CX0 2 (He.ma K (He.ga K "Model") "__init__") fd ["self", "states", "numbers", "changes", "measured", "asks"] (spInit (He.ga K "Model") ["states", "numbers", "changes", "measured", "asks"]) ∧ Binds K fd ["self", "states", "numbers", "changes", "measured", "asks"] [] ∧ KBn K fd ["self", "states", "numbers", "changes", "measured", "asks"] 1 ["asks", "measured", "changes", "numbers", "states"] (fun us ws => us ++ ws.reverse) gVK := by
  obtain ⟨fd, F⟩ := T.kn.df 22 rfl
  exact ⟨fd, init_Model F T, F.bindsN fun _ _ _ _ _ _ us hl => match us, hl with | [_, _, _, _, _, _], _ => rfl,
    kbn_of F 1 ["asks", "measured", "changes", "numbers", "states"] (fun us ws => us ++ ws.reverse) (fun r1 r2 => r1.append r2.reverse) fun _ _ _ _ _ _ us ws h1 h2 => match us, ws, h1, h2 with | [_], [_, _, _, _, _], _, _ => rfl⟩
theorem gi_Paper (T : Tx K mg) : ∃ fd, FnOk P w K mg base CX0 2 (He.ma K (He.ga K "Paper") "__init__") fd ["self", "places", "rows", "closing", "place", "asked"] (spInit (He.ga K "Paper") ["places", "rows", "closing", "place", "asked"]) ∧ Binds K fd ["self", "places", "rows", "closing", "place", "asked"] [] ∧ KBn K fd ["self", "places", "rows", "closing", "place", "asked"] 1 ["asked", "place", "closing", "rows", "places"] (fun us ws => us ++ ws.reverse) gVK := by
  obtain ⟨fd, F⟩ := T.kn.df 26 rfl
  exact ⟨fd, init_Paper F T, F.bindsN fun _ _ _ _ _ _ us hl => match us, hl with | [_, _, _, _, _, _], _ => rfl,
    kbn_of F 1 ["asked", "place", "closing", "rows", "places"] (fun us ws => us ++ ws.reverse) (fun r1 r2 => r1.append r2.reverse) fun _ _ _ _ _ _ us ws h1 h2 => match us, ws, h1, h2 with | [_], [_, _, _, _, _], _, _ => rfl⟩
def NR : List Str := ["a", "b", "c", "d", "e", "f", "g", "h", "rows"]
theorem scRows : FnScope NR ["a", "b", "c", "d"] (defScope (topS 23)) := ⟨rfl, rfl, rfl, by decide +kernel, rfl, by decide +kernel, by decide +kernel⟩
abbrev XR (P : Program) (w : World) (K : PySem.W.Frag) (mg : Str → Option Value) (base : Heap) (f : Addr) (cdv : Value) (A : Around) (outer : List Env) (s : Shared) (H : Hp) (E : XK) : Cx :=
  (cxOf CX0 P w K mg base NR "_law_rows" (defScope (topS 23)) f cdv A outer s H E).nox
variable {cdv : Value} {A : Around} {outer : List Env} {s : Shared} {H : Hp} {E : XK}
def stR (i : Nat) : Stmt := (defBody (topS 23)).getD i (.Pass ⟨0, 0, 0, 0⟩)
def rowE : Nat → Expr
  | 0 => match stR 1 with | .Assign _ (.List [e, _] _) _ => e | _ => .Tuple [] 0 ⟨0, 0, 0, 0⟩
  | 1 => match stR 1 with | .Assign _ (.List [_, e] _) _ => e | _ => .Tuple [] 0 ⟨0, 0, 0, 0⟩
  | i + 2 => match stR (i + 2) with | .Expr (.Call _ [e] _ _) _ => e | _ => .Tuple [] 0 ⟨0, 0, 0, 0⟩
theorem ro_Shows (T : Tx K mg) (hr : Room 3 (A.deeper (envOfC "_law_rows" (defScope (topS 23)) s.heap.objs.size f cdv))) : PE (XR P w K mg base f cdv A outer s H E) (rowE 0) (rowT K "Shows" ["shares"] [0] [4]) := by
  obtain ⟨fdi, GI, bi, ki⟩ := gi_Shows (P := P) (w := w) (base := base) T
  have M := cf_of T.kn (c := "Shows") (ns := ["shares"]) (by simp [fieldsOf])
  have h1 : PE (XR P w K mg base f cdv A outer s H E) (match rowE 0 with | .Tuple [e, _, _] _ _ => e | e => e) _ := pe_make (k := 2) M.mkr GI hr (by rfl) (T.glo _ (by decide)) bi .nil pass0 (pa_k (pv 0) pa_nil) (by decide) (star_ok rfl)
  have h2 : PE (XR P w K mg base f cdv A outer s H E) (match rowE 0 with | .Tuple [_, e, _] _ _ => e | e => e) _ := pe_makeK0 (k := 2) M.mkr GI hr (by rfl) (T.glo _ (by decide)) ki pass0 (pk_cons (pv 0) pk_nil)
  have h3 : PE (XR P w K mg base f cdv A outer s H E) (match rowE 0 with | .Tuple [_, _, e] _ _ => e | e => e) _ := pe_lst (pa_k (pe_str (x := "Shows")) (pa_k (pv 4) pa_nil))
  exact pe_tup (pa_k h1 (pa_k h2 (pa_k h3 pa_nil)))
theorem ro_Hidden (T : Tx K mg) (hr : Room 3 (A.deeper (envOfC "_law_rows" (defScope (topS 23)) s.heap.objs.size f cdv))) : PE (XR P w K mg base f cdv A outer s H E) (rowE 1) (rowT K "Hidden" ["field"] [1] [5]) := by
  obtain ⟨fdi, GI, bi, ki⟩ := gi_Hidden (P := P) (w := w) (base := base) T
  have M := cf_of T.kn (c := "Hidden") (ns := ["field"]) (by simp [fieldsOf])
  have h1 : PE (XR P w K mg base f cdv A outer s H E) (match rowE 1 with | .Tuple [e, _, _] _ _ => e | e => e) _ := pe_make (k := 2) M.mkr GI hr (by rfl) (T.glo _ (by decide)) bi .nil pass0 (pa_k (pv 1) pa_nil) (by decide) (star_ok rfl)
  have h2 : PE (XR P w K mg base f cdv A outer s H E) (match rowE 1 with | .Tuple [_, e, _] _ _ => e | e => e) _ := pe_makeK0 (k := 2) M.mkr GI hr (by rfl) (T.glo _ (by decide)) ki pass0 (pk_cons (pv 1) pk_nil)
  have h3 : PE (XR P w K mg base f cdv A outer s H E) (match rowE 1 with | .Tuple [_, _, e] _ _ => e | e => e) _ := pe_lst (pa_k (pe_str (x := "Hidden")) (pa_k (pv 5) pa_nil))
  exact pe_tup (pa_k h1 (pa_k h2 (pa_k h3 pa_nil)))
theorem ro_Hiding (T : Tx K mg) (hr : Room 3 (A.deeper (envOfC "_law_rows" (defScope (topS 23)) s.heap.objs.size f cdv))) : PE (XR P w K mg base f cdv A outer s H E) (rowE 2) (rowT K "Hiding" ["number", "order"] [0, 1] [4, 5]) := by
  obtain ⟨fdi, GI, bi, ki⟩ := gi_Hiding (P := P) (w := w) (base := base) T
  have M := cf_of T.kn (c := "Hiding") (ns := ["number", "order"]) (by simp [fieldsOf])
  have h1 : PE (XR P w K mg base f cdv A outer s H E) (match rowE 2 with | .Tuple [e, _, _] _ _ => e | e => e) _ := pe_make (k := 2) M.mkr GI hr (by rfl) (T.glo _ (by decide)) bi .nil pass0 (pa_k (pv 0) (pa_k (pv 1) pa_nil)) (by decide) (star_ok rfl)
  have h2 : PE (XR P w K mg base f cdv A outer s H E) (match rowE 2 with | .Tuple [_, e, _] _ _ => e | e => e) _ := pe_makeK0 (k := 2) M.mkr GI hr (by rfl) (T.glo _ (by decide)) ki pass0 (pk_cons (pv 1) (pk_cons (pv 0) pk_nil))
  have h3 : PE (XR P w K mg base f cdv A outer s H E) (match rowE 2 with | .Tuple [_, _, e] _ _ => e | e => e) _ := pe_lst (pa_k (pe_str (x := "Hiding")) (pa_k (pv 4) (pa_k (pv 5) pa_nil)))
  exact pe_tup (pa_k h1 (pa_k h2 (pa_k h3 pa_nil)))
theorem ro_Formula (T : Tx K mg) (hr : Room 3 (A.deeper (envOfC "_law_rows" (defScope (topS 23)) s.heap.objs.size f cdv))) : PE (XR P w K mg base f cdv A outer s H E) (rowE 3) (rowT K "Formula" ["top", "bottom"] [2, 3] [6, 7]) := by
  obtain ⟨fdi, GI, bi, ki⟩ := gi_Formula (P := P) (w := w) (base := base) T
  have M := cf_of T.kn (c := "Formula") (ns := ["top", "bottom"]) (by simp [fieldsOf])
  have h1 : PE (XR P w K mg base f cdv A outer s H E) (match rowE 3 with | .Tuple [e, _, _] _ _ => e | e => e) _ := pe_make (k := 2) M.mkr GI hr (by rfl) (T.glo _ (by decide)) bi .nil pass0 (pa_k (pv 2) (pa_k (pv 3) pa_nil)) (by decide) (star_ok rfl)
  have h2 : PE (XR P w K mg base f cdv A outer s H E) (match rowE 3 with | .Tuple [_, e, _] _ _ => e | e => e) _ := pe_makeK0 (k := 2) M.mkr GI hr (by rfl) (T.glo _ (by decide)) ki pass0 (pk_cons (pv 3) (pk_cons (pv 2) pk_nil))
  have h3 : PE (XR P w K mg base f cdv A outer s H E) (match rowE 3 with | .Tuple [_, _, e] _ _ => e | e => e) _ := pe_lst (pa_k (pe_str (x := "Formula")) (pa_k (pv 6) (pa_k (pv 7) pa_nil)))
  exact pe_tup (pa_k h1 (pa_k h2 (pa_k h3 pa_nil)))
theorem ro_NoFormula (T : Tx K mg) (hr : Room 3 (A.deeper (envOfC "_law_rows" (defScope (topS 23)) s.heap.objs.size f cdv))) : PE (XR P w K mg base f cdv A outer s H E) (rowE 4) (rowT K "NoFormula" ["relations", "places"] [0, 1] [4, 5]) := by
  obtain ⟨fdi, GI, bi, ki⟩ := gi_NoFormula (P := P) (w := w) (base := base) T
  have M := cf_of T.kn (c := "NoFormula") (ns := ["relations", "places"]) (by simp [fieldsOf])
  have h1 : PE (XR P w K mg base f cdv A outer s H E) (match rowE 4 with | .Tuple [e, _, _] _ _ => e | e => e) _ := pe_make (k := 2) M.mkr GI hr (by rfl) (T.glo _ (by decide)) bi .nil pass0 (pa_k (pv 0) (pa_k (pv 1) pa_nil)) (by decide) (star_ok rfl)
  have h2 : PE (XR P w K mg base f cdv A outer s H E) (match rowE 4 with | .Tuple [_, e, _] _ _ => e | e => e) _ := pe_makeK0 (k := 2) M.mkr GI hr (by rfl) (T.glo _ (by decide)) ki pass0 (pk_cons (pv 1) (pk_cons (pv 0) pk_nil))
  have h3 : PE (XR P w K mg base f cdv A outer s H E) (match rowE 4 with | .Tuple [_, _, e] _ _ => e | e => e) _ := pe_lst (pa_k (pe_str (x := "NoFormula")) (pa_k (pv 4) (pa_k (pv 5) pa_nil)))
  exact pe_tup (pa_k h1 (pa_k h2 (pa_k h3 pa_nil)))
theorem ro_Relation (T : Tx K mg) (hr : Room 3 (A.deeper (envOfC "_law_rows" (defScope (topS 23)) s.heap.objs.size f cdv))) : PE (XR P w K mg base f cdv A outer s H E) (rowE 5) (rowT K "Relation" ["poly"] [1] [5]) := by
  obtain ⟨fdi, GI, bi, ki⟩ := gi_Relation (P := P) (w := w) (base := base) T
  have M := cf_of T.kn (c := "Relation") (ns := ["poly"]) (by simp [fieldsOf])
  have h1 : PE (XR P w K mg base f cdv A outer s H E) (match rowE 5 with | .Tuple [e, _, _] _ _ => e | e => e) _ := pe_make (k := 2) M.mkr GI hr (by rfl) (T.glo _ (by decide)) bi .nil pass0 (pa_k (pv 1) pa_nil) (by decide) (star_ok rfl)
  have h2 : PE (XR P w K mg base f cdv A outer s H E) (match rowE 5 with | .Tuple [_, e, _] _ _ => e | e => e) _ := pe_makeK0 (k := 2) M.mkr GI hr (by rfl) (T.glo _ (by decide)) ki pass0 (pk_cons (pv 1) pk_nil)
  have h3 : PE (XR P w K mg base f cdv A outer s H E) (match rowE 5 with | .Tuple [_, _, e] _ _ => e | e => e) _ := pe_lst (pa_k (pe_str (x := "Relation")) (pa_k (pv 5) pa_nil))
  exact pe_tup (pa_k h1 (pa_k h2 (pa_k h3 pa_nil)))
theorem ro_NoRelation (T : Tx K mg) (hr : Room 3 (A.deeper (envOfC "_law_rows" (defScope (topS 23)) s.heap.objs.size f cdv))) : PE (XR P w K mg base f cdv A outer s H E) (rowE 6) (rowT K "NoRelation" ["places"] [2] [6]) := by
  obtain ⟨fdi, GI, bi, ki⟩ := gi_NoRelation (P := P) (w := w) (base := base) T
  have M := cf_of T.kn (c := "NoRelation") (ns := ["places"]) (by simp [fieldsOf])
  have h1 : PE (XR P w K mg base f cdv A outer s H E) (match rowE 6 with | .Tuple [e, _, _] _ _ => e | e => e) _ := pe_make (k := 2) M.mkr GI hr (by rfl) (T.glo _ (by decide)) bi .nil pass0 (pa_k (pv 2) pa_nil) (by decide) (star_ok rfl)
  have h2 : PE (XR P w K mg base f cdv A outer s H E) (match rowE 6 with | .Tuple [_, e, _] _ _ => e | e => e) _ := pe_makeK0 (k := 2) M.mkr GI hr (by rfl) (T.glo _ (by decide)) ki pass0 (pk_cons (pv 2) pk_nil)
  have h3 : PE (XR P w K mg base f cdv A outer s H E) (match rowE 6 with | .Tuple [_, _, e] _ _ => e | e => e) _ := pe_lst (pa_k (pe_str (x := "NoRelation")) (pa_k (pv 6) pa_nil))
  exact pe_tup (pa_k h1 (pa_k h2 (pa_k h3 pa_nil)))
theorem ro_Model (T : Tx K mg) (hr : Room 3 (A.deeper (envOfC "_law_rows" (defScope (topS 23)) s.heap.objs.size f cdv))) : PE (XR P w K mg base f cdv A outer s H E) (rowE 7) (rowT K "Model" ["states", "numbers", "changes", "measured", "asks"] [0, 1, 2, 3, 0] [4, 5, 6, 7, 4]) := by
  obtain ⟨fdi, GI, bi, ki⟩ := gi_Model (P := P) (w := w) (base := base) T
  have M := cf_of T.kn (c := "Model") (ns := ["states", "numbers", "changes", "measured", "asks"]) (by simp [fieldsOf])
  have h1 : PE (XR P w K mg base f cdv A outer s H E) (match rowE 7 with | .Tuple [e, _, _] _ _ => e | e => e) _ := pe_make (k := 2) M.mkr GI hr (by rfl) (T.glo _ (by decide)) bi .nil pass0 (pa_k (pv 0) (pa_k (pv 1) (pa_k (pv 2) (pa_k (pv 3) (pa_k (pv 0) pa_nil))))) (by decide) (star_ok rfl)
  have h2 : PE (XR P w K mg base f cdv A outer s H E) (match rowE 7 with | .Tuple [_, e, _] _ _ => e | e => e) _ := pe_makeK0 (k := 2) M.mkr GI hr (by rfl) (T.glo _ (by decide)) ki pass0 (pk_cons (pv 0) (pk_cons (pv 3) (pk_cons (pv 2) (pk_cons (pv 1) (pk_cons (pv 0) pk_nil)))))
  have h3 : PE (XR P w K mg base f cdv A outer s H E) (match rowE 7 with | .Tuple [_, _, e] _ _ => e | e => e) _ := pe_lst (pa_k (pe_str (x := "Model")) (pa_k (pv 4) (pa_k (pv 5) (pa_k (pv 6) (pa_k (pv 7) (pa_k (pv 4) pa_nil))))))
  exact pe_tup (pa_k h1 (pa_k h2 (pa_k h3 pa_nil)))
theorem ro_Paper (T : Tx K mg) (hr : Room 3 (A.deeper (envOfC "_law_rows" (defScope (topS 23)) s.heap.objs.size f cdv))) : PE (XR P w K mg base f cdv A outer s H E) (rowE 8) (rowT K "Paper" ["places", "rows", "closing", "place", "asked"] [0, 1, 2, 3, 0] [4, 5, 6, 7, 4]) := by
  obtain ⟨fdi, GI, bi, ki⟩ := gi_Paper (P := P) (w := w) (base := base) T
  have M := cf_of T.kn (c := "Paper") (ns := ["places", "rows", "closing", "place", "asked"]) (by simp [fieldsOf])
  have h1 : PE (XR P w K mg base f cdv A outer s H E) (match rowE 8 with | .Tuple [e, _, _] _ _ => e | e => e) _ := pe_make (k := 2) M.mkr GI hr (by rfl) (T.glo _ (by decide)) bi .nil pass0 (pa_k (pv 0) (pa_k (pv 1) (pa_k (pv 2) (pa_k (pv 3) (pa_k (pv 0) pa_nil))))) (by decide) (star_ok rfl)
  have h2 : PE (XR P w K mg base f cdv A outer s H E) (match rowE 8 with | .Tuple [_, e, _] _ _ => e | e => e) _ := pe_makeK0 (k := 2) M.mkr GI hr (by rfl) (T.glo _ (by decide)) ki pass0 (pk_cons (pv 0) (pk_cons (pv 3) (pk_cons (pv 2) (pk_cons (pv 1) (pk_cons (pv 0) pk_nil)))))
  have h3 : PE (XR P w K mg base f cdv A outer s H E) (match rowE 8 with | .Tuple [_, _, e] _ _ => e | e => e) _ := pe_lst (pa_k (pe_str (x := "Paper")) (pa_k (pv 4) (pa_k (pv 5) (pa_k (pv 6) (pa_k (pv 7) (pa_k (pv 4) pa_nil))))))
  exact pe_tup (pa_k h1 (pa_k h2 (pa_k h3 pa_nil)))
theorem g_copy (T : Tx K mg) : ∃ fd, FnOk P w K mg base CX0 1 (He.ga K "_law_copy") fd ["value"] spCopied ∧ PySem.W.keepIn K (.ref (He.ga K "_law_copy")) = true ∧ Binds K fd ["value"] [] := by
  obtain ⟨fd, F⟩ := T.kn.df 34 rfl
  exact ⟨fd, ok_copy F T, F.kp, F.bindsN fun _ _ _ _ _ _ us hl => match us, hl with | [_], _ => rfl⟩
theorem NL.hid {l : Addr} {H : Hp} {xs : List V} (hl : H l = some (.lst xs)) {v : V} (h : NL H v) : NL (hid l H) v := by
  have go : ∀ b o, H b = some o → o ≠ .lst xs → Sn.hid l H b = some o := fun b o e n => by
    rw [hid_ne fun z => by subst z; rw [hl] at e; exact n (Option.some.inj e).symm]
    exact e
  rcases h with h | h | h | h | ⟨a, ys, h, q⟩ | ⟨a, k, i, h, q⟩
  · exact .inl h
  · exact .inr (.inl h)
  · exact .inr (.inr (.inl h))
  · exact .inr (.inr (.inr (.inl h)))
  · exact .inr (.inr (.inr (.inr (.inl ⟨a, ys, h, go _ _ q (by simp)⟩))))
  · exact .inr (.inr (.inr (.inr (.inr ⟨a, k, i, h, go _ _ q (by simp)⟩))))
theorem CpV.hid {l : Addr} {H : Hp} {xs : List V} (hl : H l = some (.lst xs)) {v v' : V} (k : NL (hid l H) v ∨ IsL (hid l H) v) (h : CpV H v v') : CpV (hid l H) v v' := by
  rcases h with ⟨h, q⟩ | ⟨a, ys, b, h1, h2, h3, h4⟩
  · exact .inl ⟨h.hid hl, q⟩
  · subst h1
    have nb : b ≠ l := fun z => by subst z; rw [hl] at h4; cases h4
    have na : a ≠ l := by
      rcases k with (k | ⟨_, k⟩ | ⟨_, k⟩ | ⟨_, k⟩ | ⟨a', ys', k, q⟩ | ⟨a', k', i, k, q⟩) | ⟨a', ys', k, q⟩
      · cases k
      · cases k
      · cases k
      · cases k
      · cases k; exact (hid_some q).1
      · cases k; exact (hid_some q).1
      · cases k; exact (hid_some q).1
    exact .inr ⟨a, ys, b, rfl, by rw [hid_ne na]; exact h2, h3, by rw [hid_ne nb]; exact h4⟩
theorem Cps.hid {l : Addr} {H : Hp} {xs : List V} (hl : H l = some (.lst xs)) : ∀ {vs vs' : List V}, (∀ v ∈ vs, NL (hid l H) v ∨ IsL (hid l H) v) → Cps H vs vs' → Cps (hid l H) vs vs'
  | _, _, _, .nil => .nil
  | _, _, k, .cons r t => .cons (r.hid hl (k _ List.mem_cons_self)) (Cps.hid hl (fun v hv => k v (List.mem_cons_of_mem _ hv)) t)
theorem RowAt.hid {l : Addr} {H : Hp} {p0 : Addr} {rs : List V} (hl : H l = some (.lst (.ref p0 :: rs))) {c : Str} {ns : List Str} {args : List V} {r : Addr} (k : ∀ v ∈ args, NL (hid l H) v ∨ IsL (hid l H) v) (h : RowAt K H c ns args r) : RowAt K (hid l H) c ns args r := by
  have go : ∀ b o, H b = some o → o ≠ .lst (.ref p0 :: rs) → Sn.hid l H b = some o := fun b o e n => by
    rw [hid_ne fun z => by subst z; rw [hl] at e; exact n (Option.some.inj e).symm]
    exact e
  obtain ⟨p, q, m, dx, dy, xs, ys, es, h1, h2, h3, h4, h5, h6, h7⟩ := h
  exact ⟨p, q, m, dx, dy, xs, ys, es, go _ _ h1 (by simp), go _ _ h2 (by simp), Cps.hid hl k h3, go _ _ h4 (by simp), Cps.hid hl k h5, go _ _ h6 (by simp), Cps.hid hl k h7⟩
theorem rd_app {c : Str} {ns : List Str} {ais eis : List Nat} {args es : List V} {σ : L2.St} {H1 H : Hp} {D : Ends} {l p0 : Addr} {rs : List V} {rows : List (Str × List Str × List V)} (h8 : σ[8]? = some (some (.ref l))) (hl : H l = some (.lst (.ref p0 :: rs))) (hz : rs.length < 100)
    (b0 : Ext H1 (hid l H)) (R : RowsAt K (hid l H) rows (.ref p0 :: rs)) (la : Locs σ ais args) (lr : Locs σ ais.reverse args.reverse) (le : Locs σ eis es) (hn : args.length = ns.length) (hes : es.length ≤ 5)
    (hv : ∀ v ∈ args, NL H1 v ∨ IsL H1 v) (hc : Cps H1 args es)
    (k : ∀ r H', H' l = some (.lst (.ref p0 :: (rs ++ [.ref r]))) → Ext H1 (hid l H') → RowsAt K (hid l H') (rows ++ [(c, ns, args)]) (.ref p0 :: (rs ++ [.ref r])) → D.nx σ H') : appT K (rowT K c ns ais eis) D σ H := by
  refine ⟨_, h8, .inl ⟨rfl, _, SqL.of hl⟩, ?_⟩
  refine rd_row la lr le hn hes (kinds_ext (b0.trans hid_le) hv) (Cps.ext (b0.trans hid_le) hc) fun r H' e1 R1 => ?_
  have hl' := e1 _ _ hl
  have b1 : Ext H1 (Sn.hid l H') := b0.trans (hid_ext e1)
  refine ⟨l, _, .ref r, rfl, rfl, hl', by rw [sizeLine_eq, List.length_cons]; omega, ?_⟩
  refine k r _ upd_same ?_ ?_
  · rw [hid_upd]
    exact b1
  · rw [hid_upd]
    exact RowsAt.snoc (RowAt.hid hl' (kinds_ext b1 hv) R1) (RowsAt.ext (hid_ext e1) R)
abbrev cpT : TA := tCons (tCall spCopied [] E0 (tCons (tVar 0) tNil)) (tCons (tCall spCopied [] E0 (tCons (tVar 1) tNil)) (tCons (tCall spCopied [] E0 (tCons (tVar 2) tNil)) (tCons (tCall spCopied [] E0 (tCons (tVar 3) tNil)) tNil)))
def appsTS (K : PySem.W.Frag) : TS := (tSeq (appT K (rowT K "Hiding" ["number", "order"] [0, 1] [4, 5])) (tSeq (appT K (rowT K "Formula" ["top", "bottom"] [2, 3] [6, 7])) (tSeq (appT K (rowT K "NoFormula" ["relations", "places"] [0, 1] [4, 5])) (tSeq (appT K (rowT K "Relation" ["poly"] [1] [5])) (tSeq (appT K (rowT K "NoRelation" ["places"] [2] [6])) (tSeq (appT K (rowT K "Model" ["states", "numbers", "changes", "measured", "asks"] [0, 1, 2, 3, 0] [4, 5, 6, 7, 4])) (tSeq (appT K (rowT K "Paper" ["places", "rows", "closing", "place", "asked"] [0, 1, 2, 3, 0] [4, 5, 6, 7, 4])) (tRet (tVar 8)))))))))
abbrev rowsTS (K : PySem.W.Frag) : TS := tSeq (tAsg (tTup cpT) (gTup K 4 (gCons (gName 4) (gCons (gName 5) (gCons (gName 6) (gCons (gName 7) gNil))))))
  (tSeq (tAsg (tLst (tCons (rowT K "Shows" ["shares"] [0] [4]) (tCons (rowT K "Hidden" ["field"] [1] [5]) tNil))) (gName 8)) (appsTS K))
theorem rows_ps (T : Tx K mg) (hr : Room 3 (A.deeper (envOfC "_law_rows" (defScope (topS 23)) s.heap.objs.size f cdv))) : PSs (XR P w K mg base f cdv A outer s H E) (defBody (topS 23)) (rowsTS K) := by
  obtain ⟨fdc, GC, kpc, bc⟩ := g_copy (P := P) (w := w) (base := base) T
  have hr1 := hr.mono (show 1 ≤ 3 by decide)
  have c0 : PS (XR P w K mg base f cdv A outer s H E) (stR 0) (tAsg (tTup cpT) (gTup K 4 (gCons (gName 4) (gCons (gName 5) (gCons (gName 6) (gCons (gName 7) gNil)))))) := by
    refine ps_asg (pe_tup ?_) (pg_tup rfl ?_)
    · exact pa_k (pe_call GC hr1 (by rfl) (T.glo _ (by decide)) kpc bc .nil pass0 (pa_k (pv 0) pa_nil) (by decide) (star_ok rfl))
        (pa_k (pe_call GC hr1 (by rfl) (T.glo _ (by decide)) kpc bc .nil pass0 (pa_k (pv 1) pa_nil) (by decide) (star_ok rfl))
        (pa_k (pe_call GC hr1 (by rfl) (T.glo _ (by decide)) kpc bc .nil pass0 (pa_k (pv 2) pa_nil) (by decide) (star_ok rfl))
        (pa_k (pe_call GC hr1 (by rfl) (T.glo _ (by decide)) kpc bc .nil pass0 (pa_k (pv 3) pa_nil) (by decide) (star_ok rfl)) pa_nil)))
    · exact pgs_cons (pg_name (i := 4) scRows.nd rfl (Or.inl rfl)) (pgs_cons (pg_name (i := 5) scRows.nd rfl (Or.inl rfl)) (pgs_cons (pg_name (i := 6) scRows.nd rfl (Or.inl rfl)) (pgs_cons (pg_name (i := 7) scRows.nd rfl (Or.inl rfl)) pgs_nil)))
  have c1 : PS (XR P w K mg base f cdv A outer s H E) (stR 1) (tAsg (tLst (tCons (rowT K "Shows" ["shares"] [0] [4]) (tCons (rowT K "Hidden" ["field"] [1] [5]) tNil))) (gName 8)) :=
    ps_set (i := 8) scRows.nd rfl (Or.inl rfl) (pe_lst (pa_k (ro_Shows T hr) (pa_k (ro_Hidden T hr) pa_nil)))
  have ap_Hiding : PS (XR P w K mg base f cdv A outer s H E) (stR 2) (appT K (rowT K "Hiding" ["number", "order"] [0, 1] [4, 5])) := ps_expr (pe_bm PySem.F.plainAttrs_list PySem.F.slot_list_append PySem.F.type_list_append mt_append (pv 8) (pa_k (ro_Hiding T hr) pa_nil) (by rfl) (by rfl) (by rfl) (star_ok rfl))
  have ap_Formula : PS (XR P w K mg base f cdv A outer s H E) (stR 3) (appT K (rowT K "Formula" ["top", "bottom"] [2, 3] [6, 7])) := ps_expr (pe_bm PySem.F.plainAttrs_list PySem.F.slot_list_append PySem.F.type_list_append mt_append (pv 8) (pa_k (ro_Formula T hr) pa_nil) (by rfl) (by rfl) (by rfl) (star_ok rfl))
  have ap_NoFormula : PS (XR P w K mg base f cdv A outer s H E) (stR 4) (appT K (rowT K "NoFormula" ["relations", "places"] [0, 1] [4, 5])) := ps_expr (pe_bm PySem.F.plainAttrs_list PySem.F.slot_list_append PySem.F.type_list_append mt_append (pv 8) (pa_k (ro_NoFormula T hr) pa_nil) (by rfl) (by rfl) (by rfl) (star_ok rfl))
  have ap_Relation : PS (XR P w K mg base f cdv A outer s H E) (stR 5) (appT K (rowT K "Relation" ["poly"] [1] [5])) := ps_expr (pe_bm PySem.F.plainAttrs_list PySem.F.slot_list_append PySem.F.type_list_append mt_append (pv 8) (pa_k (ro_Relation T hr) pa_nil) (by rfl) (by rfl) (by rfl) (star_ok rfl))
  have ap_NoRelation : PS (XR P w K mg base f cdv A outer s H E) (stR 6) (appT K (rowT K "NoRelation" ["places"] [2] [6])) := ps_expr (pe_bm PySem.F.plainAttrs_list PySem.F.slot_list_append PySem.F.type_list_append mt_append (pv 8) (pa_k (ro_NoRelation T hr) pa_nil) (by rfl) (by rfl) (by rfl) (star_ok rfl))
  have ap_Model : PS (XR P w K mg base f cdv A outer s H E) (stR 7) (appT K (rowT K "Model" ["states", "numbers", "changes", "measured", "asks"] [0, 1, 2, 3, 0] [4, 5, 6, 7, 4])) := ps_expr (pe_bm PySem.F.plainAttrs_list PySem.F.slot_list_append PySem.F.type_list_append mt_append (pv 8) (pa_k (ro_Model T hr) pa_nil) (by rfl) (by rfl) (by rfl) (star_ok rfl))
  have ap_Paper : PS (XR P w K mg base f cdv A outer s H E) (stR 8) (appT K (rowT K "Paper" ["places", "rows", "closing", "place", "asked"] [0, 1, 2, 3, 0] [4, 5, 6, 7, 4])) := ps_expr (pe_bm PySem.F.plainAttrs_list PySem.F.slot_list_append PySem.F.type_list_append mt_append (pv 8) (pa_k (ro_Paper T hr) pa_nil) (by rfl) (by rfl) (by rfl) (star_ok rfl))
  exact pss_cons c0 (pss_cons c1 (pss_cons ap_Hiding (pss_cons ap_Formula (pss_cons ap_NoFormula (pss_cons ap_Relation (pss_cons ap_NoRelation (pss_cons ap_Model (pss_cons ap_Paper (pss_one (ps_ret (pv 8)))))))))))
end
end Sn

namespace Sn
open PySem PySem.Spec PyProof.Rows L2
section
variable {P : Program} {w : World} {K : PySem.W.Frag} {mg : Str → Option Value} {base : Heap} {f : Addr} {fd : FuncData}
variable {cdv : Value} {A : Around} {outer : List Env} {s : Shared} {H : Hp} {E : XK}
theorem sub_mem {as bs : List V} (h : ∀ v ∈ as, v ∈ bs) {v : V} (hv : v ∈ as) : v ∈ bs := h v hv
theorem rd_seq {t u : TS} {D : Ends} {σ : L2.St} {H : Hp} (h : t { D with nx := u D } σ H) : tSeq t u D σ H := h
theorem rd_first {t1 t2 : TE} {D : Ends} {σ : L2.St} {H : Hp} (k : t1 σ H fun v1 H1 => t2 σ H1 fun v2 H2 => 2 ≤ sizeLine ∧ ∀ p, H2 p = none → D.nx (σ.set 8 (some (.ref p))) (upd H2 p (.lst [v1, v2]))) :
    tAsg (tLst (tCons t1 (tCons t2 tNil))) (gName 8) D σ H := k
structure RD where
  c : Str
  ns : List Str
  ais : List Nat
  eis : List Nat
  args : List V
  es : List V
def RD.ok (σ : L2.St) (H1 : Hp) (x : RD) : Prop := Locs σ x.ais x.args ∧ Locs σ x.ais.reverse x.args.reverse ∧ Locs σ x.eis x.es ∧ x.args.length = x.ns.length ∧ x.es.length ≤ 5 ∧ (∀ v ∈ x.args, NL H1 v ∨ IsL H1 v) ∧ Cps H1 x.args x.es
def RD.oks (σ : L2.St) (H1 : Hp) : List RD → Prop
  | [] => True
  | x :: r => x.ok σ H1 ∧ RD.oks σ H1 r
theorem rd_apps {D : Ends} {σ : L2.St} {H1 : Hp} {l p0 : Addr} (h8 : σ[8]? = some (some (.ref l))) : ∀ (L : List RD) (rs : List V) (rows : List (Str × List Str × List V)) (H : Hp), RD.oks σ H1 L → rs.length + L.length < 100 →
    H l = some (.lst (.ref p0 :: rs)) → Ext H1 (hid l H) → RowsAt K (hid l H) rows (.ref p0 :: rs) →
    (∀ H' rs', H' l = some (.lst rs') → Ext H1 (hid l H') → RowsAt K (hid l H') (rows ++ L.map fun x => (x.c, x.ns, x.args)) rs' → D.rt (.ref l) H') →
    appsL K (L.map fun x => (x.c, x.ns, x.ais, x.eis)) D σ H
  | [], rs, rows, H, _, _, hl, b0, R0, k => ⟨_, h8, k H _ hl b0 (by rw [List.map_nil, List.append_nil]; exact R0)⟩
  | x :: L, rs, rows, H, ⟨⟨o1, o2, o3, o4, o5, o6, o7⟩, ox⟩, hz, hl, b0, R0, k => by
    have hz' : rs.length + (L.length + 1) < 100 := hz
    refine rd_app (D := { D with nx := appsL K (L.map fun x => (x.c, x.ns, x.ais, x.eis)) D }) h8 hl (by omega) b0 R0 o1 o2 o3 o4 o5 o6 o7 fun r H' hl' b1 R1 => ?_
    refine rd_apps h8 L (rs ++ [.ref r]) (rows ++ [(x.c, x.ns, x.args)]) H' ox (by simp; omega) hl' b1 R1 fun H2 rs2 hl2 b2 R2 => k H2 rs2 hl2 b2 ?_
    rw [List.append_assoc] at R2
    exact R2
def RDS (a b c d e' f' g' h' : V) : List RD := [⟨"Hiding", ["number", "order"], [0, 1], [4, 5], [a, b], [e', f']⟩, ⟨"Formula", ["top", "bottom"], [2, 3], [6, 7], [c, d], [g', h']⟩, ⟨"NoFormula", ["relations", "places"], [0, 1], [4, 5], [a, b], [e', f']⟩, ⟨"Relation", ["poly"], [1], [5], [b], [f']⟩, ⟨"NoRelation", ["places"], [2], [6], [c], [g']⟩, ⟨"Model", ["states", "numbers", "changes", "measured", "asks"], [0, 1, 2, 3, 0], [4, 5, 6, 7, 4], [a, b, c, d, a], [e', f', g', h', e']⟩, ⟨"Paper", ["places", "rows", "closing", "place", "asked"], [0, 1, 2, 3, 0], [4, 5, 6, 7, 4], [a, b, c, d, a], [e', f', g', h', e']⟩]
theorem appsTS_eq {a b c d e' f' g' h' : V} : appsTS K = appsL K ((RDS a b c d e' f' g' h').map fun x => (x.c, x.ns, x.ais, x.eis)) := rfl
theorem ok_rows (F : FnP K "_law_rows" "_law_rows" (topS 23) f fd) (T : Tx K mg) : FnOk P w K mg base CX0 4 f fd ["a", "b", "c", "d"] (spRows K) := by
  refine F.ok scRows (fun vs H Q E h => ?_) (fun cdv A outer s H vs Q E hr h => ?_)
  · obtain ⟨a, b, c, d, rfl, _⟩ := h
    rfl
  · obtain ⟨a, b, c, d, rfl, kk0, k⟩ := h
    refine ⟨rowsTS K, PSs.nox (rows_ps T hr), ?_⟩
    refine ⟨a, rfl, a, rfl, kk0 a (by simp), fun e' H1 x1 ce => ?_⟩
    refine ⟨b, rfl, b, rfl, kinds_ext x1 kk0 b (by simp), fun f' H2 x2 cf => ?_⟩
    refine ⟨c, rfl, c, rfl, kinds_ext (x1.trans x2) kk0 c (by simp), fun g' H3 x3 cg => ?_⟩
    refine ⟨d, rfl, d, rfl, kinds_ext (x1.trans (x2.trans x3)) kk0 d (by simp), fun h' H4 x4 ch => ?_⟩
    refine ⟨by show 4 ≤ sizeLine; rw [sizeLine_eq]; decide, fun t ht => ?_⟩
    refine ⟨t, [e', f', g', h'], rfl, SqT.of upd_same, rfl, e', _, rfl, f', _, rfl, g', _, rfl, h', _, rfl, rfl, ?_⟩
    have x5 := Ext.upd (o := .tup [e', f', g', h']) ht
    have x05 := x1.trans (x2.trans (x3.trans (x4.trans x5)))
    have kk := kinds_ext x05 kk0
    have ce := ce.ext (x2.trans (x3.trans (x4.trans x5)))
    have cf := cf.ext (x3.trans (x4.trans x5))
    have cg := cg.ext (x4.trans x5)
    have ch := ch.ext x5
    show tSeq (tAsg (tLst (tCons (rowT K "Shows" ["shares"] [0] [4]) (tCons (rowT K "Hidden" ["field"] [1] [5]) tNil))) (gName 8)) (appsTS K) { nx := fun _ H' => Q .non H', rt := Q } [some a, some b, some c, some d, some e', some f', some g', some h', none] _
    refine rd_seq (rd_first ?_)
    refine rd_row (K := K) (c := "Shows") (ns := ["shares"]) (ais := [0]) (eis := [4]) (σ := [some a, some b, some c, some d, some e', some f', some g', some h', none]) (args := [a]) (es := [e']) ⟨rfl, trivial⟩ ⟨rfl, trivial⟩ ⟨rfl, trivial⟩ rfl (by simp) (fun v hv => kk v (by simp at hv; simp [hv])) (.cons ce .nil) fun r1 H6 x6 R1 => ?_
    refine rd_row (K := K) (c := "Hidden") (ns := ["field"]) (ais := [1]) (eis := [5]) (σ := [some a, some b, some c, some d, some e', some f', some g', some h', none]) (args := [b]) (es := [f']) ⟨rfl, trivial⟩ ⟨rfl, trivial⟩ ⟨rfl, trivial⟩ rfl (by simp) (kinds_ext x6 fun v hv => kk v (by simp at hv; simp [hv])) (.cons (cf.ext x6) .nil) fun r2 H7 x7 R2 => ?_
    refine ⟨by show 2 ≤ sizeLine; rw [sizeLine_eq]; decide, fun l hl => ?_⟩
    have x8 := Ext.upd (o := .lst [.ref r1, .ref r2]) hl
    have l0 : upd H7 l (.lst [.ref r1, .ref r2]) l = some (.lst (.ref r1 :: [.ref r2])) := upd_same
    have hH7 : hid l (upd H7 l (.lst [.ref r1, .ref r2])) = H7 := by
      rw [hid_upd]
      exact funext fun z => by
        by_cases q : z = l
        · rw [hid, if_pos q, q, hl]
        · rw [hid_ne q]
    have b0 : Ext (upd H4 t (.tup [e', f', g', h'])) (hid l (upd H7 l (.lst [.ref r1, .ref r2]))) := by rw [hH7]; exact x6.trans x7
    have R0 : RowsAt K (hid l (upd H7 l (.lst [.ref r1, .ref r2]))) [("Shows", ["shares"], [a]), ("Hidden", ["field"], [b])] (.ref r1 :: [.ref r2]) := by
      rw [hH7]
      exact ⟨⟨r1, rfl, R1.ext x7⟩, ⟨r2, rfl, R2⟩, trivial⟩
    have kinds : ∀ as : List V, (∀ v ∈ as, v ∈ [a, b, c, d]) → ∀ v ∈ as, NL (upd H4 t (.tup [e', f', g', h'])) v ∨ IsL (upd H4 t (.tup [e', f', g', h'])) v := fun as h v hv => kk v (h v hv)
    have oks : RD.oks [some a, some b, some c, some d, some e', some f', some g', some h', some (.ref l)] (upd H4 t (.tup [e', f', g', h'])) (RDS a b c d e' f' g' h') :=
      ⟨⟨⟨rfl, rfl, trivial⟩, ⟨rfl, rfl, trivial⟩, ⟨rfl, rfl, trivial⟩, rfl, by simp, kinds _ (by simp), (.cons ce (.cons cf .nil))⟩, ⟨⟨⟨rfl, rfl, trivial⟩, ⟨rfl, rfl, trivial⟩, ⟨rfl, rfl, trivial⟩, rfl, by simp, kinds _ (by simp), (.cons cg (.cons ch .nil))⟩, ⟨⟨⟨rfl, rfl, trivial⟩, ⟨rfl, rfl, trivial⟩, ⟨rfl, rfl, trivial⟩, rfl, by simp, kinds _ (by simp), (.cons ce (.cons cf .nil))⟩, ⟨⟨⟨rfl, trivial⟩, ⟨rfl, trivial⟩, ⟨rfl, trivial⟩, rfl, by simp, kinds _ (by simp), (.cons cf .nil)⟩, ⟨⟨⟨rfl, trivial⟩, ⟨rfl, trivial⟩, ⟨rfl, trivial⟩, rfl, by simp, kinds _ (by simp), (.cons cg .nil)⟩, ⟨⟨⟨rfl, rfl, rfl, rfl, rfl, trivial⟩, ⟨rfl, rfl, rfl, rfl, rfl, trivial⟩, ⟨rfl, rfl, rfl, rfl, rfl, trivial⟩, rfl, by simp, kinds _ (by simp), (.cons ce (.cons cf (.cons cg (.cons ch (.cons ce .nil)))))⟩, ⟨⟨⟨rfl, rfl, rfl, rfl, rfl, trivial⟩, ⟨rfl, rfl, rfl, rfl, rfl, trivial⟩, ⟨rfl, rfl, rfl, rfl, rfl, trivial⟩, rfl, by simp, kinds _ (by simp), (.cons ce (.cons cf (.cons cg (.cons ch (.cons ce .nil)))))⟩, trivial⟩⟩⟩⟩⟩⟩⟩
    show appsTS K { nx := fun _ H' => Q .non H', rt := Q } [some a, some b, some c, some d, some e', some f', some g', some h', some (.ref l)] _
    rw [appsTS_eq (a := a) (b := b) (c := c) (d := d) (e' := e') (f' := f') (g' := g') (h' := h')]
    exact rd_apps (D := { nx := fun _ H' => Q .non H', rt := Q }) (σ := [some a, some b, some c, some d, some e', some f', some g', some h', some (.ref l)]) rfl (RDS a b c d e' f' g' h') [.ref r2] _ _ oks (by show 1 + 7 < 100; decide) l0 b0 R0
      fun H' rs hl' bb RR => k l _ _ ((x05.trans bb).trans hid_le) hl' (RowsAt.ext hid_le RR)
theorem g_rows (T : Tx K mg) : ∃ fd, FnOk P w K mg base CX0 4 (He.ga K "_law_rows") fd ["a", "b", "c", "d"] (spRows K) ∧ PySem.W.keepIn K (.ref (He.ga K "_law_rows")) = true ∧ Binds K fd ["a", "b", "c", "d"] [] := by
  obtain ⟨fd, F⟩ := T.kn.df 36 rfl
  exact ⟨fd, ok_rows F T, F.kp, F.bindsN fun _ _ _ _ _ _ us hl => match us, hl with | [_, _, _, _], _ => rfl⟩
end
end Sn

namespace Sn
open PySem PySem.Spec PyProof.Rows L2
/-! ## what is copied, as data -/
theorem CpV.data {H : Hp} {v x : V} {d : PyData} (h : Rp H v d) (c : CpV H v x) : Rp H x (cp d) := by
  rcases c with ⟨n, e⟩ | ⟨a, xs, b, e, h2, e2, h4⟩
  · subst e
    cases h with
    | non => exact .non
    | bl b => exact .bl b
    | int i => exact .int i
    | str z => exact .str z
    | tup h r => exact .tup h r
    | dct h => exact .dct h
    | lst h r =>
      exfalso
      rcases n with n | ⟨_, n⟩ | ⟨_, n⟩ | ⟨_, n⟩ | ⟨a', ys', n, q⟩ | ⟨a', k', i, n, q⟩
      · cases n
      · cases n
      · cases n
      · cases n
      · cases n
        rw [h] at q
        cases q
      · cases n
        rw [h] at q
        cases q
  · subst e e2
    cases h with
    | lst h r =>
      rw [h2] at h
      cases h
      exact .tup h4 r
    | tup h r =>
      rw [h2] at h
      cases h
    | dct h =>
      rw [h2] at h
      cases h
theorem Cps.data {H : Hp} : ∀ {vs xs : List V} {ds : List PyData}, Rps H vs ds → Cps H vs xs → Rps H xs (ds.map cp)
  | _, _, _, .nil, .nil => .nil
  | _, _, _, .cons r t, .cons c u => .cons (c.data r) (Cps.data t u)
theorem okEs : ∀ {es : List PyData}, (∀ d ∈ es, okE d = true) → PyData.showableAll es = true ∧ PyData.depthAll es ≤ 6 ∧ ((PyData.shownAll es).map (·.length)).sum ≤ 100 * es.length
  | [], _ => ⟨rfl, by decide, by simp [PyData.shownAll]⟩
  | d :: r, h => by
    obtain ⟨a, b, c⟩ := okEs fun x hx => h x (List.mem_cons_of_mem _ hx)
    have hd := h d List.mem_cons_self
    simp only [okE, Bool.and_eq_true, decide_eq_true_eq] at hd
    refine ⟨by simp only [PyData.showableAll, hd.1, a, Bool.and_self], by simp only [PyData.depthAll]; omega, ?_⟩
    simp only [PyData.shownAll, List.map_cons, List.sum_cons, List.length_cons]
    omega
theorem okE_list {es : List PyData} (h : ∀ d ∈ es, okE d = true) (hl : es.length ≤ 6) : (PyData.list es).showable = true ∧ (PyData.list es).depth ≤ 20 ∧ (PyData.list es).shown.length ≤ 5000 := by
  obtain ⟨a, b, c⟩ := okEs h
  refine ⟨by simpa only [PyData.showable] using a, by simp only [PyData.depth]; omega, ?_⟩
  have e := listText_len_le (PyData.shownAll es)
  have e2 := PyData.shownAll_length es
  simp only [PyData.shown]
  omega
theorem okE_cls : ∀ c ∈ cls, okE (.str c) = true := by decide +kernel
theorem okD_cp {d : PyData} (h : okD d = true) : okE (cp d) = true := by
  simp only [okD, Bool.and_eq_true] at h
  exact h.2
theorem ok_row {c : Str} (hc : c ∈ cls) {ds : List PyData} (h : ∀ d ∈ ds, okD d = true) (hl : ds.length ≤ 5) :
    (PyData.list (.str c :: ds.map cp)).showable = true ∧ (PyData.list (.str c :: ds.map cp)).depth ≤ 20 ∧ (PyData.list (.str c :: ds.map cp)).shown.length ≤ 5000 := by
  refine okE_list (fun d hd => ?_) (by simp; omega)
  rcases List.mem_cons.mp hd with e | e
  · rw [e]; exact okE_cls c hc
  · obtain ⟨x, hx, e⟩ := List.mem_map.mp e
    rw [← e]
    exact okD_cp (h x hx)
/-! ## two copies are equal -/
theorem rp_self {H : Hp} {v : V} {d : PyData} (h : Rp H v d) : D0 v v H := by
  cases h with
  | non => exact ⟨rfl, .inl rfl⟩
  | bl b => exact ⟨rfl, .inl rfl⟩
  | int i => exact ⟨rfl, .inl rfl⟩
  | str z => exact ⟨rfl, .inl rfl⟩
  | lst h r => exact ⟨rfl, .inr ⟨_, rfl⟩⟩
  | tup h r => exact ⟨rfl, .inr ⟨_, rfl⟩⟩
  | dct h => exact ⟨rfl, .inr ⟨_, rfl⟩⟩
theorem rps_self {H : Hp} {vs : List V} {ds : List PyData} (h : Rps H vs ds) : Prs D0 vs vs H := by
  refine ⟨rfl, fun i x y hx hy => ?_⟩
  rw [hx] at hy
  cases hy
  obtain ⟨d, _, r⟩ := h.get hx
  exact rp_self r
theorem cp_D1 {K : PySem.W.Frag} {H : Hp} {v x y : V} {d : PyData} (h : Rp H v d) (c : CpV H v x) (c' : CpV H v y) : D1 K x y H := by
  have hx := c.data h
  rcases c with ⟨n, e⟩ | ⟨a, xs, b, e, h2, e2, h4⟩
  · rcases c' with ⟨n', e'⟩ | ⟨a', xs', b', e', h2', e2', h4'⟩
    · subst e e'
      exact .inl (rp_self h)
    · subst e'
      exfalso
      rcases n with n | ⟨_, n⟩ | ⟨_, n⟩ | ⟨_, n⟩ | ⟨a', ys', n, q⟩ | ⟨a', k', i, n, q⟩
      · cases n
      · cases n
      · cases n
      · cases n
      · cases n
        rw [h2'] at q
        cases q
      · cases n
        rw [h2'] at q
        cases q
  · subst e
    rcases c' with ⟨n, e'⟩ | ⟨a', xs', b', e', h2', e2', h4'⟩
    · exfalso
      rcases n with n | ⟨_, n⟩ | ⟨_, n⟩ | ⟨_, n⟩ | ⟨a', ys', n, q⟩ | ⟨a', k', i, n, q⟩
      · cases n
      · cases n
      · cases n
      · cases n
      · cases n
        rw [h2] at q
        cases q
      · cases n
        rw [h2] at q
        cases q
    · cases e'
      rw [h2] at h2'
      cases h2'
      subst e2 e2'
      refine .inr ⟨b, b', xs, xs, rfl, rfl, SqT.of h4, SqT.of h4', ?_⟩
      cases h with
      | lst h r =>
        rw [h2] at h
        cases h
        exact rps_self r
      | tup h r =>
        rw [h2] at h
        cases h
      | dct h =>
        rw [h2] at h
        cases h
theorem prs_up {K : PySem.W.Frag} {xs ys : List V} {H : Hp} (h : Prs D0 xs ys H) : Prs (D1 K) xs ys H := ⟨h.1, fun i x y hx hy => .inl (h.2 i x y hx hy)⟩
theorem cp_FEq {K : PySem.W.Frag} {H : Hp} {v x y : V} {d : PyData} (h : Rp H v d) (c : CpV H v x) (c' : CpV H v y) : FEq K x y H true := by
  rcases cp_D1 (K := K) h c c' with ⟨e, f⟩ | ⟨a, b, xs, ys, e1, e2, h1, h2, h3⟩
  · subst e
    have hx := c.data h
    generalize cp d = d' at hx
    cases hx with
    | non => exact .inl ⟨rfl, by simp⟩
    | bl b => exact .inl ⟨rfl, by simp⟩
    | int i => exact .inl ⟨rfl, by simp⟩
    | str z => exact .inl ⟨rfl, by simp⟩
    | lst hh r =>
      exfalso
      rcases c with ⟨n, e⟩ | ⟨a, xs, b, e, h2, e2, h4⟩
      · subst e
        rcases n with n | ⟨_, n⟩ | ⟨_, n⟩ | ⟨_, n⟩ | ⟨a', ys', n, q⟩ | ⟨a', k', i, n, q⟩
        · cases n
        · cases n
        · cases n
        · cases n
        · cases n
          rw [hh] at q
          cases q
        · cases n
          rw [hh] at q
          cases q
      · cases e2
        rw [hh] at h4
        cases h4
    | tup h r => exact .inr (.inl ⟨rfl, _, _, _, _, rfl, rfl, SqT.of h, SqT.of h, prs_up (rps_self r)⟩)
    | dct h => exact .inr (.inr (.inl ⟨rfl, _, _, _, rfl, rfl, h⟩))
  · exact .inr (.inl ⟨rfl, a, b, xs, ys, e1, e2, h1, h2, prs_up h3⟩)
theorem cps_prs {K : PySem.W.Frag} {H : Hp} : ∀ {vs xs ys : List V} {ds : List PyData}, Rps H vs ds → Cps H vs xs → Cps H vs ys → Prs (D1 K) xs ys H
  | _, _, _, _, .nil, .nil, .nil => ⟨rfl, fun i x y hx _ => by simp at hx⟩
  | _, _, _, _, .cons r t, .cons c u, .cons c' u' => by
    obtain ⟨l, p⟩ := cps_prs (K := K) t u u'
    refine ⟨by rw [List.length_cons, List.length_cons, l], fun i x y hx hy => ?_⟩
    cases i with
    | zero =>
      simp at hx hy
      subst hx hy
      exact cp_D1 r c c'
    | succ i => exact p i x y (by simpa using hx) (by simpa using hy)
theorem cps_FEqN {K : PySem.W.Frag} {H : Hp} {vs xs ys : List V} {ds : List PyData} (h : Rps H vs ds) (c : Cps H vs xs) (c' : Cps H vs ys) : FEqN K xs ys H true := by
  have many : FEqs K xs ys H true := .inl ⟨rfl, cps_prs h c c'⟩
  match h, c, c' with
  | .cons r .nil, .cons c .nil, .cons c' .nil => exact cp_FEq r c c'
  | .nil, .nil, .nil => exact many
  | .cons _ (.cons _ _), .cons _ (.cons _ _), .cons _ (.cons _ _) => exact many
theorem Cps.len {H : Hp} : ∀ {vs xs : List V}, Cps H vs xs → xs.length = vs.length
  | _, _, .nil => rfl
  | _, _, .cons _ t => by rw [List.length_cons, List.length_cons, Cps.len t]
/-! ## a class's own comparisons -/
section
variable {P : Program} {w : World} {K : PySem.W.Frag} {mg : Str → Option Value} {base : Heap}
theorem g_eqC (T : Tx K mg) {c : Str} {ns : List Str} (h : (c, ns) ∈ fieldsOf) : ∃ fd, FnOk P w K mg base CX0 3 (He.ma K (He.ga K c) "__eq__") fd ["self", "other"] (spCmp K id c ns) ∧ Binds K fd ["self", "other"] [] := by
  simp only [fieldsOf, List.mem_cons, Prod.mk.injEq, List.not_mem_nil, or_false] at h
  rcases h with ⟨rfl, rfl⟩ | ⟨rfl, rfl⟩ | ⟨rfl, rfl⟩ | ⟨rfl, rfl⟩ | ⟨rfl, rfl⟩ | ⟨rfl, rfl⟩ | ⟨rfl, rfl⟩ | ⟨rfl, rfl⟩ | ⟨rfl, rfl⟩
  · exact ge_Shows T
  · exact ge_Hidden T
  · exact ge_Hiding T
  · exact ge_Formula T
  · exact ge_NoFormula T
  · exact ge_Relation T
  · exact ge_NoRelation T
  · exact ge_Model T
  · exact ge_Paper T
theorem g_neC (T : Tx K mg) {c : Str} {ns : List Str} (h : (c, ns) ∈ fieldsOf) : ∃ fd, FnOk P w K mg base CX0 4 (He.ma K (He.ga K c) "__ne__") fd ["self", "other"] (spCmp K not c ns) ∧ Binds K fd ["self", "other"] [] := by
  simp only [fieldsOf, List.mem_cons, Prod.mk.injEq, List.not_mem_nil, or_false] at h
  rcases h with ⟨rfl, rfl⟩ | ⟨rfl, rfl⟩ | ⟨rfl, rfl⟩ | ⟨rfl, rfl⟩ | ⟨rfl, rfl⟩ | ⟨rfl, rfl⟩ | ⟨rfl, rfl⟩ | ⟨rfl, rfl⟩ | ⟨rfl, rfl⟩
  · exact gn_Shows T
  · exact gn_Hidden T
  · exact gn_Hiding T
  · exact gn_Formula T
  · exact gn_NoFormula T
  · exact gn_Relation T
  · exact gn_NoRelation T
  · exact gn_Model T
  · exact gn_Paper T
theorem rd_eqC (T : Tx K mg) {X : Cx} (eP : X.prog = P) (ew : X.w = w) (eK : X.K = K) (em : X.mg = mg) (eb : X.base = base) {c d : Str} {ns : List Str} (h : (c, ns) ∈ fieldsOf) {H : Hp} {a b dx dy : Addr} {xs : List V} {gs : List (Str × V)} {Q : VK}
    (ha : H a = some (.ins (He.ga K c) dx (ns.zip xs))) (hx : xs.length = ns.length) (hd : d ∈ cls) (hb : H b = some (.ins (He.ga K d) dy gs))
    (k : (d ≠ c ∧ ∀ H', Ext H H' → Q (.bl false) H') ∨ (d = c ∧ ∃ ys r, ys.length = ns.length ∧ gs = ns.zip ys ∧ FEqN K xs ys H r ∧ ∀ H', Ext H H' → Q (.bl r) H')) : rOwn X "__eq__" 3 (.ref a) (.ref b) H Q := by
  subst eP ew eK em eb
  obtain ⟨fd, F, bd⟩ := g_eqC (P := X.prog) (w := X.w) (base := X.base) T h
  have M := cf_of T.kn h
  refine ⟨a, b, _, _, dx, dy, _, _, gs, fd, _, rfl, rfl, ha, hb, (T.kn.two _ (fo_cls h) d hd).2, M.eq.at_, M.eq.fn, bd, F, a, b, dx, dy, xs, d, gs, rfl, ha, hx, hd, hb, ?_⟩
  rcases k with ⟨ne, q⟩ | ⟨e, ys, r, hy, eg, hr', q⟩
  · exact .inl ⟨ne, fun H' e => ⟨false, rfl, q H' e⟩⟩
  · exact .inr ⟨e, ys, r, hy, eg, hr', fun H' e => ⟨r, rfl, q H' e⟩⟩
theorem rd_neC (T : Tx K mg) {X : Cx} (eP : X.prog = P) (ew : X.w = w) (eK : X.K = K) (em : X.mg = mg) (eb : X.base = base) {c d : Str} {ns : List Str} (h : (c, ns) ∈ fieldsOf) {H : Hp} {a b dx dy : Addr} {xs : List V} {gs : List (Str × V)} {Q : VK}
    (ha : H a = some (.ins (He.ga K c) dx (ns.zip xs))) (hx : xs.length = ns.length) (hd : d ∈ cls) (hb : H b = some (.ins (He.ga K d) dy gs))
    (k : (d ≠ c ∧ ∀ H', Ext H H' → Q (.bl true) H') ∨ (d = c ∧ ∃ ys r, ys.length = ns.length ∧ gs = ns.zip ys ∧ FEqN K xs ys H r ∧ ∀ H', Ext H H' → Q (.bl (!r)) H')) : rOwn X "__ne__" 4 (.ref a) (.ref b) H Q := by
  subst eP ew eK em eb
  obtain ⟨fd, F, bd⟩ := g_neC (P := X.prog) (w := X.w) (base := X.base) T h
  have M := cf_of T.kn h
  refine ⟨a, b, _, _, dx, dy, _, _, gs, fd, _, rfl, rfl, ha, hb, (T.kn.two _ (fo_cls h) d hd).2, M.ne.at_, M.ne.fn, bd, F, a, b, dx, dy, xs, d, gs, rfl, ha, hx, hd, hb, ?_⟩
  rcases k with ⟨ne, q⟩ | ⟨e, ys, r, hy, eg, hr', q⟩
  · exact .inl ⟨ne, fun H' e => ⟨_, rfl, q H' e⟩⟩
  · exact .inr ⟨e, ys, r, hy, eg, hr', fun H' e => ⟨_, rfl, q H' e⟩⟩
end
end Sn

namespace Sn
open PySem PySem.Spec PyProof.Rows L2
/-! ## the law -/
def NLw : List Str := ["script", "pen", "values", "a", "b", "c", "d", "rows", "one", "two", "due", "k", "other", "before", "value"]
theorem scLaw : FnScope NLw ["script"] (defScope (topS 24)) := ⟨rfl, rfl, rfl, by decide +kernel, rfl, by decide +kernel, by decide +kernel⟩
def stL (i : Nat) : Stmt := (defBody (topS 24)).getD i (.Pass ⟨0, 0, 0, 0⟩)
def comp1 : Expr := match stL 1 with | .Assign _ v _ => v | _ => .Tuple [] 0 ⟨0,0,0,0⟩
def comp2 : Expr := match stL 2 with | .Assign _ v _ => v | _ => .Tuple [] 0 ⟨0,0,0,0⟩
def sc1c : Scope := match comp1 with | .ListComp _ _ sc _ => sc | _ => defScope (topS 24)
def sc2c : Scope := match comp2 with | .ListComp _ _ sc _ => sc | _ => defScope (topS 24)
theorem bo1 : BlkOk NLw (defScope (topS 24)) sc1c [("k", 11)] := blkOk_by (by decide +kernel)
theorem bo2 : BlkOk NLw (defScope (topS 24)) sc2c [("value", 14)] := blkOk_by (by decide +kernel)
section
variable {P : Program} {w : World} {K : PySem.W.Frag} {mg : Str → Option Value} {base : Heap} {f : Addr} {fd : FuncData}
abbrev AL (s : Shared) (f : Addr) (cdv : Value) : Around := callerA.deeper (envOfC "law" (defScope (topS 24)) s.heap.objs.size f cdv)
abbrev XL (P : Program) (w : World) (K : PySem.W.Frag) (mg : Str → Option Value) (base : Heap) (f : Addr) (cdv : Value) (s : Shared) (H : Hp) : Cx :=
  (cxOf CX0 P w K mg base NLw "law" (defScope (topS 24)) f cdv callerA [] s H E0).nox
variable {cdv : Value} {s : Shared} {H0 : Hp}
theorem g_pen (T : Tx K mg) : ∃ fd, FnOk P w K mg base CX0 1 (He.ga K "_law_pen") fd ["script"] (spPen K) ∧ PySem.W.keepIn K (.ref (He.ga K "_law_pen")) = true ∧ Binds K fd ["script"] [] := by
  obtain ⟨fd, F⟩ := T.kn.df 30 rfl
  exact ⟨fd, ok_pen F T, F.kp, F.bindsN fun _ _ _ _ _ _ us hl => match us, hl with | [_], _ => rfl⟩
theorem g_value (T : Tx K mg) : ∃ fd, FnOk P w K mg base CX0 3 (He.ga K "_law_value") fd ["pen"] spValue ∧ PySem.W.keepIn K (.ref (He.ga K "_law_value")) = true ∧ Binds K fd ["pen"] [] := by
  obtain ⟨fd, F⟩ := T.kn.df 33 rfl
  exact ⟨fd, ok_value F T, F.kp, F.bindsN fun _ _ _ _ _ _ us hl => match us, hl with | [_], _ => rfl⟩
theorem st0 (T : Tx K mg) (hr : Room 4 (AL s f cdv)) : ∃ t, PS (XL P w K mg base f cdv s H0) (stL 0) t ∧ ∀ (D : Ends) (H : Hp) (a : Addr) (ns : List Int), SqL K H a (ns.map V.int) → ns.length ≤ 63 →
    (∀ p q H', PenAt H' p q 0 → D.nx [some (.ref a), some (.ref p), none, none, none, none, none, none, none, none, none, none, none, none, none] H') →
    t D [some (.ref a), none, none, none, none, none, none, none, none, none, none, none, none, none, none] H := by
  obtain ⟨fdp, GP, kp, bp⟩ := g_pen (P := P) (w := w) (base := base) T
  refine ⟨_, ps_set (i := 1) scLaw.nd rfl (Or.inr rfl) (pe_call GP (hr.mono (show 1 ≤ 4 by decide)) (by rfl) (T.glo _ (by decide)) kp bp .nil pass0 (pa_k (pv 0) pa_nil) (by decide) (star_ok rfl)), fun D H a ns hS hl k => ?_⟩
  exact ⟨_, rfl, a, ns, rfl, hS, hl, fun p q H' e h1 h2 R => k p q H' R⟩
theorem st1 (T : Tx K mg) (hr : Room 4 (AL s f cdv)) : ∃ t, PS (XL P w K mg base f cdv s H0) (stL 1) t ∧ ∀ (D : Ends) (H : Hp) (a p q : Addr), PenAt H p q 0 →
    (∀ V0 vs ds H', H' V0 = some (.lst vs) → vs.length = 4 → Rps H' vs ds → (∀ d ∈ ds, okD d = true) → PenAt H' p q 16 → D.nx [some (.ref a), some (.ref p), some (.ref V0), none, none, none, none, none, none, none, none, none, none, none, none] H') →
    t D [some (.ref a), some (.ref p), none, none, none, none, none, none, none, none, none, none, none, none, none] H := by
  obtain ⟨fdv, GV, kv, bv⟩ := g_value (P := P) (w := w) (base := base) T
  refine ⟨_, ps_setLc (i := 2) (own := [("k", 11)]) (g := gName 11) (tt := tYes) rfl scLaw.nd rfl rfl (sw_true rfl rfl rfl (by decide +kernel)) (pi_range1 rfl (T.free _ (by decide)) (pa_k pe_int pa_nil) (star_ok rfl)) bo1
    (fun _ _ _ _ _ => pg_name (i := 11) scLaw.nd rfl (Or.inl rfl)) (fun _ _ _ _ _ => pts_nil)
    (fun _ _ _ _ _ => pe_call (k := 3) (dvs := []) (ds := []) GV (hr.mono (show 3 ≤ 4 by decide)) rfl (T.glo _ (by decide)) kv bv .nil pass0 (pa_k (pv 1) pa_nil) (by decide) (star_ok rfl)), fun D H a p q R k => ?_⟩
  refine ⟨4, rfl, by decide, by decide, fun V0 hV => ?_⟩
  have nVp : V0 ≠ p := fun z => by
    obtain ⟨_, _, _, _, S⟩ := R
    rw [z, S.at_] at hV
    cases hV
  have nVq : V0 ≠ q := fun z => by
    obtain ⟨_, _, _, _, S⟩ := R
    rw [z, S.cells] at hV
    cases hV
  refine lc_range (lo := 0) (n := 4) (fun i H' => ∃ vs ds, vs.length = i ∧ Rps (hid V0 H') vs ds ∧ (∀ d ∈ ds, okD d = true) ∧ H' V0 = some (.lst vs) ∧ PenAt H' p q (4 * (i : Int)))
    ⟨[], [], rfl, .nil, by simp, upd_same, by simpa using R.ext (Ext.upd hV)⟩ ?_ ?_
  · rintro i H' hi ⟨vs, ds, hn, rs, hd, hVV, R'⟩
    refine ⟨rfl, tyIf ?_⟩
    refine ⟨_, rfl, p, q, 4 * (i : Int), rfl, R', by omega, by omega, fun v d H2 okd rp rz o2 R2 => ?_⟩
    have hV2 := o2 _ _ nVp hVV
    refine ⟨_, hV2, by rw [sizeLine_eq]; omega, vs ++ [v], ds ++ [d], by simp [hn], ?_, fun x hx => ?_, upd_same, ?_⟩
    · rw [hid_upd]
      exact Rps.snoc (rz V0 nVp nVq ⟨_, hVV⟩) (rs.off (R'.hid nVp nVq) o2.hid)
    · rcases List.mem_append.mp hx with z | z
      · exact hd x z
      · have : x = d := by simpa using z
        rw [this]
        exact okd
    · obtain ⟨cs, i', d', f', S⟩ := R2
      have e : (4 * ((i + 1 : Nat) : Int)) = 4 * (i : Int) + 4 := by omega
      rw [e]
      exact ⟨cs, i', d', f', by rw [upd_ne nVp.symm]; exact S.at_, by rw [upd_ne nVq.symm]; exact S.cells, S.few, S.i0, S.i1, S.d0, S.f0, S.f1⟩
  · rintro H2 ⟨vs, ds, hn, rs, hd, hVV, R2⟩
    exact k V0 vs ds H2 hVV hn (rs.ext hid_le) hd R2
/-- a value of the law's: no list, or a list made for it behind H2 -/
def NewL (H2 H : Hp) (v : V) (d : PyData) : Prop := (NL H v ∧ Rp H2 v d) ∨ ∃ r ys ds, v = .ref r ∧ H r = some (.lst ys) ∧ H2 r = none ∧ d = .list ds ∧ Rps H2 ys ds
theorem NewL.ext {H2 H H' : Hp} {v : V} {d : PyData} (e : Ext H H') (h : NewL H2 H v d) : NewL H2 H' v d := by
  rcases h with ⟨n, r⟩ | ⟨r, ys, ds, h1, h2, h3, h4, h5⟩
  · exact .inl ⟨n.ext e, r⟩
  · exact .inr ⟨r, ys, ds, h1, e _ _ h2, h3, h4, h5⟩
def Nws (H2 H : Hp) : List V → List PyData → Prop
  | [], [] => True
  | v :: t, d :: r => NewL H2 H v d ∧ Nws H2 H t r
  | _, _ => False
theorem Nws.ext {H2 H H' : Hp} (e : Ext H H') : ∀ {vs : List V} {ds : List PyData}, Nws H2 H vs ds → Nws H2 H' vs ds
  | [], [], _ => trivial
  | _ :: _, _ :: _, ⟨a, t⟩ => ⟨a.ext e, Nws.ext e t⟩
theorem Nws.snoc {H2 H : Hp} {v : V} {d : PyData} (h : NewL H2 H v d) : ∀ {vs : List V} {ds : List PyData}, Nws H2 H vs ds → Nws H2 H (vs ++ [v]) (ds ++ [d])
  | [], [], _ => ⟨h, trivial⟩
  | _ :: _, _ :: _, ⟨a, t⟩ => ⟨a, Nws.snoc h t⟩
abbrev rListQ (K : PySem.W.Frag) : List V → Hp → VK → Prop := fun xs H Q => ∃ p ys, xs = [.ref p] ∧ (SqL K H p ys ∨ SqT K H p ys) ∧ ∀ l, H l = none → Q (.ref l) (upd H l (.lst ys))
theorem st2 (T : Tx K mg) : ∃ t, PS (XL P w K mg base f cdv s H0) (stL 2) t ∧ ∀ (D : Ends) (H : Hp) (a p q V0 : Addr) (vs : List V) (ds : List PyData), H V0 = some (.lst vs) → vs.length = 4 → Rps H vs ds → PenAt H p q 16 →
    (∀ v1 v2 v3 v4 H', Nws H H' [v1, v2, v3, v4] ds → Ext H H' → D.nx [some (.ref a), some (.ref p), some (.ref V0), some v1, some v2, some v3, some v4, none, none, none, none, none, none, none, none] H') →
    t D [some (.ref a), some (.ref p), some (.ref V0), none, none, none, none, none, none, none, none, none, none, none, none] H := by
  have pl : ∃ te, (∀ s' H' C cl fp, PE ((XL P w K mg base f cdv s H0).blk s' H' sc2c (compEnvC sc2c cl C (XL P w K mg base f cdv s H0).env) fp) (match comp2 with | .ListComp e _ _ _ => e | e => e) te) ∧
      ∀ (σ : L2.St) (H : Hp) (v : V) (Q : VK), σ[14]? = some (some v) → (NL H v ∨ IsL H v) → (NL H v → Q v H) → (∀ r ys l, v = .ref r → H r = some (.lst ys) → H l = none → Q (.ref l) (upd H l (.lst ys))) → te σ H Q := by
    refine ⟨_, fun s' H' C cl fp => pe_ifExp (pt_val (pe_callB (r := rIsi K) call_isi (by rfl) (T.free _ (by decide)) boot_isinstance (pa_k (pv 14) (pa_k (pe_bltn (v := .ty "list") (by rfl) (T.free _ (by decide)) boot_list rfl) pa_nil))))
      (pe_callTy (r := rListQ K) call_list_of (by rfl) (T.free _ (by decide)) boot_list (pa_k (pv 14) pa_nil)) (pv 14), fun σ H v Q h0 hv k1 k2 => ?_⟩
    refine rd_isiIf h0 hv (fun n => ⟨v, h0, k1 n⟩) fun h => ?_
    obtain ⟨r, ys, e, q⟩ := h
    subst e
    exact ⟨_, h0, r, ys, rfl, .inl (SqL.of q), fun l hl => k2 r ys l rfl q hl⟩
  obtain ⟨te, he, hte⟩ := pl
  have lcp : PE (XL P w K mg base f cdv s H0) comp2 (tLc (iList K (tVar 2)) (gName 14) tYes te [14]) :=
    pe_lc (own := [("value", 14)]) (g := gName 14) (tt := tYes) rfl scLaw.nd (pi_list (pv 2)) bo2 (fun _ _ _ _ _ => pg_name (i := 14) scLaw.nd rfl (Or.inl rfl)) (fun _ _ _ _ _ => pts_nil) he
  refine ⟨_, ps_asg lcp (pg_lst rfl (pgs_cons (pg_name (i := 3) scLaw.nd rfl (Or.inl rfl)) (pgs_cons (pg_name (i := 4) scLaw.nd rfl (Or.inl rfl)) (pgs_cons (pg_name (i := 5) scLaw.nd rfl (Or.inl rfl)) (pgs_cons (pg_name (i := 6) scLaw.nd rfl (Or.inl rfl)) pgs_nil))))), fun D H a p q V0 vs ds hV hn rs R k => ?_⟩
  refine ⟨_, rfl, V0, rfl, ⟨_, SqL.of hV⟩, fun L hL => ?_⟩
  refine lc_list (K := K) (a := V0) (xs := vs) (fun i H' => ∃ ws, ws.length = i ∧ H' L = some (.lst ws) ∧ Ext H (hid L H') ∧ Nws H (hid L H') ws (ds.take i))
    ⟨[], rfl, upd_same, by rw [hid_upd]; exact hid_in Ext.rfl' hL, trivial⟩ (fun i H' _ ⟨ws, h1, h2, h3, h4⟩ => SqL.of (hid_le _ _ (h3 _ _ hV))) ?_ ?_
  · rintro i x H' hx ⟨ws, h1, h2, h3, h4⟩
    refine ⟨rfl, tyIf ?_⟩
    obtain ⟨d, hd, rd⟩ := rs.get hx
    have hi : i < ds.length := by
      have := List.getElem?_eq_some_iff.mp hd
      exact this.1
    have tk : ds.take (i + 1) = ds.take i ++ [d] := by
      rw [List.take_succ, hd]
      rfl
    have hlen : vs.length = ds.length := rs.len
    have hHH : Ext H H' := fun b o hb => hid_le _ _ (h3 b o hb)
    refine hte _ H' x _ rfl ((rd.kind).elim (fun z => .inl (z.ext hHH)) fun z => .inr (z.ext hHH)) (fun n => ?_) fun r ys l e hr hl => ?_
    · refine ⟨ws, h2, by rw [sizeLine_eq]; omega, ws ++ [x], by simp [h1], upd_same, by rw [hid_upd]; exact h3, ?_⟩
      rw [hid_upd, tk]
      refine Nws.snoc (.inl ⟨?_, rd⟩) h4
      have nx : NL H x := by
        rcases rd.kind with z | z
        · exact z
        · exfalso
          obtain ⟨r', ys', e', q'⟩ := z
          subst e'
          have q2 := hHH _ _ q'
          rcases n with n | ⟨_, n⟩ | ⟨_, n⟩ | ⟨_, n⟩ | ⟨a', ys', n, q⟩ | ⟨a', k', i, n, q⟩
          · cases n
          · cases n
          · cases n
          · cases n
          · cases n
            rw [q2] at q
            cases q
          · cases n
            rw [q2] at q
            cases q
      exact nx.ext h3
    · subst e
      have nl : l ≠ L := fun z => by rw [z, h2] at hl; cases hl
      have h2' : upd H' l (.lst ys) L = some (.lst ws) := by rw [upd_ne nl.symm]; exact h2
      have e1 : Ext (hid L H') (hid L (upd H' l (.lst ys))) := hid_ext (Ext.upd hl)
      refine ⟨ws, h2', by rw [sizeLine_eq]; omega, ws ++ [.ref l], by simp [h1], upd_same, by rw [hid_upd]; exact h3.trans e1, ?_⟩
      rw [hid_upd, tk]
      refine Nws.snoc (.inr ?_) (h4.ext e1)
      have hl0 : H l = none := by
        cases z : H l with
        | none => rfl
        | some o => rw [hHH _ _ z] at hl; cases hl
      have gr : ∃ ds', d = .list ds' ∧ Rps H ys ds' := by
        cases rd with
        | lst h r => exact ⟨_, rfl, by rw [hHH _ _ h] at hr; cases hr; exact r⟩
        | tup h r => rw [hHH _ _ h] at hr; cases hr
        | dct h => rw [hHH _ _ h] at hr; cases hr
      obtain ⟨ds', e1, e2⟩ := gr
      exact ⟨l, ys, ds', rfl, by rw [hid_ne nl]; exact upd_same, hl0, e1, e2⟩
  · rintro H2 ⟨ws, h1, h2, h3, h4⟩
    have hlen : vs.length = ds.length := rs.len
    rw [List.take_of_length_le (by omega)] at h4
    obtain ⟨v1, v2, v3, v4, rfl⟩ : ∃ v1 v2 v3 v4, ws = [v1, v2, v3, v4] := by
      rw [hn] at h1
      match ws, h1 with
      | [v1, v2, v3, v4], _ => exact ⟨_, _, _, _, rfl⟩
    exact ⟨L, _, rfl, SqL.of h2, rfl, v1, _, rfl, v2, _, rfl, v3, _, rfl, v4, _, rfl, rfl, k v1 v2 v3 v4 H2 (h4.ext hid_le) fun b o hb => hid_le _ _ (h3 b o hb)⟩
theorem st3 (T : Tx K mg) (hr : Room 4 (AL s f cdv)) : ∃ t, PS (XL P w K mg base f cdv s H0) (stL 3) t ∧ ∀ (D : Ends) (H : Hp) (o0 o1 o2 : Option V) (a b c d : V), (∀ v ∈ [a, b, c, d], NL H v ∨ IsL H v) →
    (∀ l rs H', Ext H H' → H' l = some (.lst rs) → RowsAt K H' (rowsOf a b c d) rs → D.nx [o0, o1, o2, some a, some b, some c, some d, some (.ref l), none, none, none, none, none, none, none] H') →
    t D [o0, o1, o2, some a, some b, some c, some d, none, none, none, none, none, none, none, none] H := by
  obtain ⟨fdr, GR, kr, br⟩ := g_rows (P := P) (w := w) (base := base) T
  refine ⟨_, ps_set (i := 7) scLaw.nd rfl (Or.inl rfl) (pe_call GR hr (by rfl) (T.glo _ (by decide)) kr br .nil pass0 (pa_k (pv 3) (pa_k (pv 4) (pa_k (pv 5) (pa_k (pv 6) pa_nil)))) (by decide) (star_ok rfl)), fun D H o0 o1 o2 a b c d hk k => ?_⟩
  exact ⟨_, rfl, _, rfl, _, rfl, _, rfl, a, b, c, d, rfl, hk, fun l rs H' e hl R => k l rs H' e hl R⟩
end
end Sn

namespace Sn
open PySem PySem.Spec PyProof.Rows L2
/-! ## rows as they are met -/
theorem RowsAt.get {K : PySem.W.Frag} {H : Hp} : ∀ {l : List (Str × List Str × List V)} {rs : List V} {i : Nat} {v : V}, RowsAt K H l rs → rs[i]? = some v → ∃ x p, l[i]? = some x ∧ v = .ref p ∧ RowAt K H x.1 x.2.1 x.2.2 p
  | [], [], _, _, _, h => by simp at h
  | x :: t, v :: r, 0, u, ⟨⟨p, e, h⟩, _⟩, hi => by
    simp at hi
    subst hi
    exact ⟨x, p, rfl, e, h⟩
  | x :: t, v :: r, i + 1, u, ⟨_, h⟩, hi => by
    obtain ⟨y, p, h1, h2, h3⟩ := RowsAt.get h (i := i) (v := u) (by simpa using hi)
    exact ⟨y, p, by simpa using h1, h2, h3⟩
theorem RowsAt.len {K : PySem.W.Frag} {H : Hp} : ∀ {l : List (Str × List Str × List V)} {rs : List V}, RowsAt K H l rs → rs.length = l.length
  | [], [], _ => rfl
  | _ :: _, _ :: _, ⟨_, h⟩ => by rw [List.length_cons, List.length_cons, RowsAt.len h]
theorem NL.offP {H H' : Hp} {p l : Addr} {c : Int} (R : PenAt H p l c) (e : Off p H H') {v : V} {d : PyData} (r : Rp H v d) (h : NL H v) : NL H' v := by
  have r' := r.off R e
  rcases r'.kind with z | z
  · exact z
  · exfalso
    obtain ⟨a, ys, e1, q⟩ := z
    subst e1
    rcases h with n | ⟨_, n⟩ | ⟨_, n⟩ | ⟨_, n⟩ | ⟨a', ys', n, q'⟩ | ⟨a', k', i, n, q'⟩
    · cases n
    · cases n
    · cases n
    · cases n
    · cases n
      have := e _ _ (R.no q' (by simp)) q'
      rw [q] at this
      cases this
    · cases n
      cases r with
      | dct hh =>
        have := e _ _ (R.no hh (by simp [PenKV])) hh
        rw [q] at this
        cases this
      | lst hh _ => rw [hh] at q'; cases q'
      | tup hh _ => rw [hh] at q'; cases q'
theorem CpV.offP {H H' : Hp} {p l : Addr} {c : Int} (R : PenAt H p l c) (e : Off p H H') {v v' : V} {d : PyData} (r : Rp H v d) (h : CpV H v v') : CpV H' v v' := by
  rcases h with ⟨n, q⟩ | ⟨a, xs, b, h1, h2, h3, h4⟩
  · exact .inl ⟨n.offP R e r, q⟩
  · exact .inr ⟨a, xs, b, h1, e _ _ (R.no h2 (by simp)) h2, h3, e _ _ (R.no h4 (by simp)) h4⟩
theorem Cps.offP {H H' : Hp} {p l : Addr} {c : Int} (R : PenAt H p l c) (e : Off p H H') : ∀ {vs xs : List V} {ds : List PyData}, Rps H vs ds → Cps H vs xs → Cps H' vs xs
  | _, _, _, .nil, .nil => .nil
  | _, _, _, .cons r t, .cons c u => .cons (c.offP R e r) (Cps.offP R e t u)
theorem RowAt.offP {K : PySem.W.Frag} {H H' : Hp} {p l : Addr} {c : Int} (R : PenAt H p l c) (e : Off p H H') {cn : Str} {ns : List Str} {args : List V} {r : Addr} {ds : List PyData} (hd : Rps H args ds) (h : RowAt K H cn ns args r) : RowAt K H' cn ns args r := by
  obtain ⟨a, b, m, dx, dy, xs, ys, es, h1, h2, h3, h4, h5, h6, h7⟩ := h
  have go : ∀ {b : Addr} {o : HO}, H b = some o → (∀ l i d c f, o ≠ .dK (PenKV l i d c f)) → H' b = some o := fun hb hn => e _ _ (R.no hb hn) hb
  exact ⟨a, b, m, dx, dy, xs, ys, es, go h1 (by simp), go h2 (by simp), Cps.offP R e hd h3, go h4 (by simp), Cps.offP R e hd h5, go h6 (by simp), Cps.offP R e hd h7⟩
/-- a row of the law's, its data good -/
def GoodRow (H : Hp) (x : Str × List Str × List V) : Prop := (x.1, x.2.1) ∈ fieldsOf ∧ x.2.2.length = x.2.1.length ∧ ∃ ds, Rps H x.2.2 ds ∧ ∀ d ∈ ds, okD d = true
theorem GoodRow.ext {H H' : Hp} {x : Str × List Str × List V} (e : Ext H H') (h : GoodRow H x) : GoodRow H' x := by
  obtain ⟨h1, h2, ds, h3, h4⟩ := h
  exact ⟨h1, h2, ds, h3.ext e, h4⟩
theorem GoodRow.offP {H H' : Hp} {p l : Addr} {c : Int} (R : PenAt H p l c) (e : Off p H H') {x : Str × List Str × List V} (h : GoodRow H x) : GoodRow H' x := by
  obtain ⟨h1, h2, ds, h3, h4⟩ := h
  exact ⟨h1, h2, ds, h3.off R e, h4⟩
theorem good_rows {H : Hp} {a b c d : V} {ds : List PyData} (h : Rps H [a, b, c, d] ds) (ok : ∀ d ∈ ds, okD d = true) : ∀ x ∈ rowsOf a b c d, GoodRow H x := by
  obtain ⟨d1, d2, d3, d4, rfl⟩ : ∃ d1 d2 d3 d4, ds = [d1, d2, d3, d4] := by
    have := h.len
    match ds, this with
    | [d1, d2, d3, d4], _ => exact ⟨_, _, _, _, rfl⟩
  cases h with
  | cons h1 h =>
  cases h with
  | cons h2 h =>
  cases h with
  | cons h3 h =>
  cases h with
  | cons h4 h =>
  have o1 := ok d1 (by simp)
  have o2 := ok d2 (by simp)
  have o3 := ok d3 (by simp)
  have o4 := ok d4 (by simp)
  intro x hx
  simp only [rowsOf, List.mem_cons, List.not_mem_nil, or_false] at hx
  rcases hx with rfl | rfl | rfl | rfl | rfl | rfl | rfl | rfl | rfl
  · exact ⟨by simp [fieldsOf], rfl, _, .cons h1 .nil, by simpa using o1⟩
  · exact ⟨by simp [fieldsOf], rfl, _, .cons h2 .nil, by simpa using o2⟩
  · exact ⟨by simp [fieldsOf], rfl, _, .cons h1 (.cons h2 .nil), by simpa using ⟨o1, o2⟩⟩
  · exact ⟨by simp [fieldsOf], rfl, _, .cons h3 (.cons h4 .nil), by simpa using ⟨o3, o4⟩⟩
  · exact ⟨by simp [fieldsOf], rfl, _, .cons h1 (.cons h2 .nil), by simpa using ⟨o1, o2⟩⟩
  · exact ⟨by simp [fieldsOf], rfl, _, .cons h2 .nil, by simpa using o2⟩
  · exact ⟨by simp [fieldsOf], rfl, _, .cons h3 .nil, by simpa using o3⟩
  · exact ⟨by simp [fieldsOf], rfl, _, .cons h1 (.cons h2 (.cons h3 (.cons h4 (.cons h1 .nil)))), by intro d hd; simp at hd; rcases hd with rfl | rfl | rfl | rfl | rfl <;> assumption⟩
  · exact ⟨by simp [fieldsOf], rfl, _, .cons h1 (.cons h2 (.cons h3 (.cons h4 (.cons h1 .nil)))), by intro d hd; simp at hd; rcases hd with rfl | rfl | rfl | rfl | rfl <;> assumption⟩
section
variable {P : Program} {w : World} {K : PySem.W.Frag} {mg : Str → Option Value} {base : Heap} {f : Addr} {fd : FuncData}
variable {cdv : Value} {s : Shared} {H0 : Hp}
/-- repr(_law_fields(x)) != repr(due), of a good row -/
theorem pt_shown (T : Tx K mg) (hr : Room 4 (AL s f cdv)) {j : Nat} {x : Str} (hj : NLw[j]? = some x) (hx : (defScope (topS 24)).names.lookup x = some .local) (hz1 : (x == ("__debug__" : Str)) = false) (hz2 : (x == ("__classdict__" : Str)) = false) :
    ∃ t, (∀ p1 p2 p3 p4 p5 p6 p7 p8 p9 : Pos, PT (XL P w K mg base f cdv s H0) (.Compare (.Call (.Name "repr" p1) [.Call (.Name "_law_fields" p2) [.Name x p3] [] p4] [] p5) [.NotEq] [.Call (.Name "repr" p6) [.Name "due" p7] [] p8] p9) t) ∧
      ∀ (σ : L2.St) (H : Hp) (Q : Bool → Hp → Prop) (c : Str) (ns : List Str) (a l dx : Addr) (args xs es : List V) (ds : List PyData), σ[j]? = some (some (.ref a)) → σ[10]? = some (some (.ref l)) → (c, ns) ∈ fieldsOf → H a = some (.ins (He.ga K c) dx (ns.zip xs)) → args.length = ns.length →
        Cps H args xs → H l = some (.lst (.str c :: es)) → Cps H args es → Rps H args ds → (∀ d ∈ ds, okD d = true) → (∀ H', Ext H H' → Q false H') → t σ H Q := by
  obtain ⟨fdf, GF, kf, bf⟩ := g_fields (P := P) (w := w) (base := base) T
  have cr : CallR (XL P w K mg base f cdv s H0) (.builtin "repr") (rRepr K) := call_repr T.kn.sys rfl (by have := hr.un; show (AL s f cdv).units + 64 < cLine; omega)
  refine ⟨_, fun p1 p2 p3 p4 p5 p6 p7 p8 p9 => pt_cmpR op_ne (pe_callB cr (by rfl) (T.free _ (by decide)) boot_repr (pa_k (pe_call GF (hr.mono (show 1 ≤ 4 by decide)) (by rfl) (T.glo _ (by decide)) kf bf .nil pass0 (pa_k (pe_var hj (.inl hx) hz1 hz2) pa_nil) (by decide) (star_ok rfl)) pa_nil))
    (pe_callB cr (by rfl) (T.free _ (by decide)) boot_repr (pa_k (pv 10) pa_nil)) (nomark _), fun σ H Q c ns a l dx args xs es ds h1 h2 hc ha hn cx hl ce rd ok k => ?_⟩
  have hdl : ds.length ≤ 5 := by
    have e1 := rd.len
    have e2 : ns.length ≤ 5 := (fo_nd _ hc).2
    omega
  obtain ⟨s1, s2, s3⟩ := ok_row (fo_cls hc) ok hdl
  refine ⟨_, h1, a, c, ns, dx, xs, rfl, hc, ha, by rw [Cps.len cx, hn], fun z hz => ?_⟩
  have e1 := Ext.upd (o := .lst (.str c :: xs)) hz
  refine ⟨.ref z, .list (.str c :: ds.map cp), rfl, .lst upd_same (.cons (.str c) ((Cps.data rd cx).ext e1)), s1, s2, s3, ?_⟩
  refine ⟨_, h2, .ref l, .list (.str c :: ds.map cp), rfl, .lst (e1 _ _ hl) (.cons (.str c) ((Cps.data rd ce).ext e1)), s1, s2, s3, ?_⟩
  refine ⟨rfl, _, rfl, ?_⟩
  have e : (!decide (V.str (PyData.list (.str c :: ds.map cp)).shown = V.str (PyData.list (.str c :: ds.map cp)).shown)) = false := by simp
  rw [e]
  exact k _ e1
end
end Sn

namespace Sn
open PySem PySem.Spec PyProof.Rows L2
theorem FEqN.ext' {K : PySem.W.Frag} {xs ys : List V} {H H' : Hp} {r : Bool} (h : FEqN K xs ys H r) (e : Ext H H') : FEqN K xs ys H' r := by
  have many : ∀ xs ys, FEqs K xs ys H r → FEqs K xs ys H' r := fun xs ys h => by
    rcases h with ⟨h1, h2⟩ | ⟨ds, es, h1, h2, h3⟩
    · exact .inl ⟨h1, h2.mon mon1 e⟩
    · exact .inr ⟨ds, es, DpAll_ext e h1, DpAll_ext e h2, h3⟩
  match xs, ys, h with
  | [_], [_], h => exact FEq.ext e h
  | [], _, h => exact many _ _ h
  | _ :: _ :: _, _, h => exact many _ _ h
  | [_], [], h => exact many _ _ h
  | [_], _ :: _ :: _, h => exact many _ _ h
section
variable {P : Program} {w : World} {K : PySem.W.Frag} {mg : Str → Option Value} {base : Heap} {f : Addr} {fd : FuncData}
variable {cdv : Value} {s : Shared} {H0 : Hp}
def ifC (i : Nat) (st : Stmt) : Expr := match st with | .If c _ _ _ => (match c with | .BoolOp _ es _ => es.getD i c | _ => c) | _ => .Tuple [] 0 ⟨0,0,0,0⟩
def forB (i : Nat) (st : Stmt) : Stmt := match st with | .For _ _ b _ _ => b.getD i st | _ => st
/-- the test in the first for -/
theorem pt_row (T : Tx K mg) (hr : Room 4 (AL s f cdv)) : ∃ t, PT (XL P w K mg base f cdv s H0) (match forB 0 (stL 4) with | .If c _ _ _ => c | _ => .Tuple [] 0 ⟨0,0,0,0⟩) t ∧
      ∀ (σ : L2.St) (H : Hp) (Q : Bool → Hp → Prop) (c : Str) (ns : List Str) (a b l dx dy : Addr) (args xs ys es : List V) (ds : List PyData), σ[8]? = some (some (.ref a)) → σ[9]? = some (some (.ref b)) → σ[10]? = some (some (.ref l)) → (c, ns) ∈ fieldsOf →
        H a = some (.ins (He.ga K c) dx (ns.zip xs)) → H b = some (.ins (He.ga K c) dy (ns.zip ys)) → args.length = ns.length → Cps H args xs → Cps H args ys → H l = some (.lst (.str c :: es)) → Cps H args es → Rps H args ds → (∀ d ∈ ds, okD d = true) →
        (∀ H', Ext H H' → Q false H') → t σ H Q := by
  obtain ⟨t1, p1, r1⟩ := pt_shown (P := P) (w := w) (base := base) (H0 := H0) (j := 8) (x := "one") T hr rfl rfl (by decide) (by decide)
  obtain ⟨t2, p2, r2⟩ := pt_shown (P := P) (w := w) (base := base) (H0 := H0) (j := 9) (x := "two") T hr rfl rfl (by decide) (by decide)
  refine ⟨_, PW.pt (pw_or (p1 _ _ _ _ _ _ _ _ _) (pw_or (p2 _ _ _ _ _ _ _ _ _) (pw_or (pt_cmpR (op_own (m := "__ne__") rfl (fun _ _ => rfl) hr) (pv 8) (pv 9) (nomark _)) (pw_or1 (pt_not (pt_cmpR (op_own (m := "__eq__") rfl (fun _ _ => rfl) (hr.mono (show 3 ≤ 4 by decide))) (pv 8) (pv 9) (nomark _))))))),
    fun σ H Q c ns a b l dx dy args xs ys es ds h8 h9 h10 hc ha hb hn cx cy hl ce rd ok k => ?_⟩
  have lx : xs.length = ns.length := by rw [Cps.len cx, hn]
  have ly : ys.length = ns.length := by rw [Cps.len cy, hn]
  refine r1 σ H _ c ns a l dx args xs es ds h8 h10 hc ha hn cx hl ce rd ok fun H1 e1 => ?_
  refine iteF (r2 σ H1 _ c ns b l dy args ys es ds h9 h10 hc (e1 _ _ hb) hn (Cps.ext e1 cy) (e1 _ _ hl) (Cps.ext e1 ce) (rd.ext e1) ok fun H2 e2 => ?_)
  have e12 := e1.trans e2
  refine iteF ⟨_, h8, _, h9, rd_neC T rfl rfl rfl rfl rfl hc (e12 _ _ ha) lx (fo_cls hc) (e12 _ _ hb) (.inr ⟨rfl, ys, true, ly, rfl, (cps_FEqN rd cx cy).ext' e12, fun H3 e3 => ⟨_, rfl, ?_⟩⟩)⟩
  have e123 := e12.trans e3
  refine iteF ⟨_, h8, _, h9, rd_eqC T rfl rfl rfl rfl rfl hc (e123 _ _ ha) lx (fo_cls hc) (e123 _ _ hb) (.inr ⟨rfl, ys, true, ly, rfl, (cps_FEqN rd cx cy).ext' e123, fun H4 e4 => ⟨_, rfl, ?_⟩⟩)⟩
  exact k _ (e123.trans e4)
/-- the first for -/
theorem st4 (T : Tx K mg) (hr : Room 4 (AL s f cdv)) : ∃ t, PS (XL P w K mg base f cdv s H0) (stL 4) t ∧ ∀ (D : Ends) (H : Hp) (o0 o1 o2 o3 o4 o5 o6 : Option V) (l : Addr) (rs : List V) (rows : List (Str × List Str × List V)), H l = some (.lst rs) → RowsAt K H rows rs → (∀ x ∈ rows, GoodRow H x) →
    (∀ o8 o9 o10 H', Ext H H' → D.nx [o0, o1, o2, o3, o4, o5, o6, some (.ref l), o8, o9, o10, none, none, none, none] H') →
    t D [o0, o1, o2, o3, o4, o5, o6, some (.ref l), none, none, none, none, none, none, none] H := by
  obtain ⟨tc, pc, rc⟩ := pt_row (P := P) (w := w) (base := base) (H0 := H0) T hr
  refine ⟨_, ps_for PassesOwn.never rfl (pi_list (pv 7)) (pg_tup rfl (pgs_cons (pg_name (i := 8) scLaw.nd rfl (Or.inl rfl)) (pgs_cons (pg_name (i := 9) scLaw.nd rfl (Or.inl rfl)) (pgs_cons (pg_name (i := 10) scLaw.nd rfl (Or.inl rfl)) pgs_nil))))
    (pss_one (ps_if pc (pss_one (ps_ret (pe_bl (b := false)))) pss_nil)), fun D H o0 o1 o2 o3 o4 o5 o6 l rs rows hl R G k => ?_⟩
  refine ⟨_, rfl, l, rfl, ⟨_, SqL.of hl⟩, for_list (K := K) (a := l) (xs := rs) (fun i σ H' => Ext H H' ∧ ∃ o8 o9 o10, σ = [o0, o1, o2, o3, o4, o5, o6, some (.ref l), o8, o9, o10, none, none, none, none])
    ⟨Ext.rfl', none, none, none, rfl⟩ (fun i σ H' _ ⟨e, _⟩ => SqL.of (e _ _ hl)) ?_ ?_⟩
  · rintro i x σ H' hx ⟨e, o8, o9, o10, rfl⟩
    obtain ⟨row, r, hrow, rfl, a, b, m, dx, dy, xs, ys, es, h1, h2, h3, h4, h5, h6, h7⟩ := R.get hx
    obtain ⟨g1, g2, ds, g3, g4⟩ := G row (List.mem_of_getElem? hrow)
    refine ⟨r, _, rfl, SqT.of (e _ _ h1), rfl, _, _, rfl, _, _, rfl, _, _, rfl, rfl, ?_⟩
    refine rc _ H' _ row.1 row.2.1 a b m dx dy row.2.2 xs ys es ds rfl rfl rfl g1 (e _ _ h2) (e _ _ h4) g2 (Cps.ext e h3) (Cps.ext e h5) (e _ _ h6) (Cps.ext e h7) (g3.ext e) g4 fun H2 e2 => iteF ?_
    exact ⟨e.trans e2, _, _, _, rfl⟩
  · rintro σ H' ⟨e, o8, o9, o10, rfl⟩
    exact k o8 o9 o10 H' e
end
end Sn

namespace Sn
open PySem PySem.Spec PyProof.Rows L2
theorem rows_cls {a b c d : V} : (rowsOf a b c d).map (·.1) = cls := rfl
theorem cls_nd : cls.Nodup := by decide +kernel
theorem rows_ne {a b c d : V} {i j : Nat} {x y : Str × List Str × List V} (hx : (rowsOf a b c d)[i]? = some x) (hy : (rowsOf a b c d)[j]? = some y) (ne : i ≠ j) : x.1 ≠ y.1 := fun e => by
  have h1 : cls[i]? = some x.1 := by rw [← rows_cls (a := a) (b := b) (c := c) (d := d), List.getElem?_map, hx]; rfl
  have h2 : cls[j]? = some y.1 := by rw [← rows_cls (a := a) (b := b) (c := c) (d := d), List.getElem?_map, hy]; rfl
  have hi : i < cls.length := (List.getElem?_eq_some_iff.mp h1).1
  rw [e] at h1
  exact ne ((List.getElem?_inj hi cls_nd).mp (h1.trans h2.symm))
abbrev rLenQ (K : PySem.W.Frag) : List V → Hp → VK → Prop := fun xs H Q => ∃ p ys, xs = [.ref p] ∧ (SqL K H p ys ∨ SqT K H p ys) ∧ Q (.int ys.length) H
section
variable {P : Program} {w : World} {K : PySem.W.Frag} {mg : Str → Option Value} {base : Heap} {f : Addr} {fd : FuncData}
variable {cdv : Value} {s : Shared} {H0 : Hp}
/-- the second for -/
theorem st5 (T : Tx K mg) (hr : Room 4 (AL s f cdv)) : ∃ t, PS (XL P w K mg base f cdv s H0) (stL 5) t ∧ ∀ (D : Ends) (H : Hp) (o0 o2 o3 o4 o5 o6 o8 o9 o10 : Option V) (p q l : Addr) (rs : List V) (a b c d : V), H l = some (.lst rs) → RowsAt K H (rowsOf a b c d) rs → (∀ x ∈ rowsOf a b c d, GoodRow H x) → PenAt H p q 16 →
    (∀ o11 o12 H' n, Off p H H' → PenAt H' p q n → D.nx [o0, some (.ref p), o2, o3, o4, o5, o6, some (.ref l), o8, o9, o10, o11, o12, none, none] H') →
    t D [o0, some (.ref p), o2, o3, o4, o5, o6, some (.ref l), o8, o9, o10, none, none, none, none] H := by
  obtain ⟨fdd, GD, kpd, bd⟩ := g_draw (P := P) (w := w) (base := base) T
  have hl1 := T.free "len" (by decide)
  refine ⟨_, ps_for PassesOwn.never rfl (pi_range1 rfl (T.free _ (by decide)) (pa_k (pe_callB call_len_seq (by rfl) hl1 boot_len (pa_k (pv 7) pa_nil)) pa_nil) (star_ok rfl)) (pg_name (i := 11) scLaw.nd rfl (Or.inl rfl))
    (pss_cons (ps_set (i := 12) scLaw.nd rfl (Or.inl rfl) (pe_ix ix_tup (pe_ix ix_list (pv 7) (pe_op op_mod (pe_callTy call_int1 (by rfl) (T.free _ (by decide)) boot_int (pa_k (pe_op op_add (pe_op op_add (pv 11) pe_int)
        (pe_call (k := 1) (dvs := []) (ds := []) GD (hr.mono (show 1 ≤ 4 by decide)) (by rfl) (T.glo _ (by decide)) kpd bd .nil pass0 (pa_k (pv 1) (pa_k (pe_op op_sub (pe_callB call_len_seq (by rfl) hl1 boot_len (pa_k (pv 7) pa_nil)) pe_int) pa_nil)) (by decide) (star_ok rfl))) pa_nil))
        (pe_callB call_len_seq (by rfl) hl1 boot_len (pa_k (pv 7) pa_nil))) (fun _ _ => rfl)) pe_int (fun _ _ => rfl)))
      (pss_one (ps_if (PW.pt (pw_or (pt_cmpR (op_own (m := "__eq__") rfl (fun _ _ => rfl) (hr.mono (show 3 ≤ 4 by decide))) (pe_ix ix_tup (pe_ix ix_list (pv 7) (pv 11) (fun _ _ => rfl)) pe_int (fun _ _ => rfl)) (pv 12) (nomark _))
        (pw_or1 (pt_not (pt_cmpR (op_own (m := "__ne__") rfl (fun _ _ => rfl) hr) (pe_ix ix_tup (pe_ix ix_list (pv 7) (pv 11) (fun _ _ => rfl)) pe_int (fun _ _ => rfl)) (pv 12) (nomark _))))))
        (pss_one (ps_ret (pe_bl (b := false)))) pss_nil))), fun D H o0 o2 o3 o4 o5 o6 o8 o9 o10 p q l rs a b c d hl RA G R k => ?_⟩
  have hlen : rs.length = 9 := RA.len
  refine ⟨_, rfl, l, rs, rfl, .inl (SqL.of hl), (rs.length : Int), rfl, by omega, by omega, ?_⟩
  have hn : ((rs.length : Int)).toNat = 9 := by omega
  rw [hn]
  refine for_range (lo := 0) (n := 9) (fun i σ H' => Off p H H' ∧ PenAt H' p q (16 + (i : Int)) ∧ ∃ o11 o12, σ = [o0, some (.ref p), o2, o3, o4, o5, o6, some (.ref l), o8, o9, o10, o11, o12, none, none])
    ⟨Off.rfl', by simpa using R, none, none, rfl⟩ ?_ ?_
  · rintro i σ H' hi ⟨o, R', o11, o12, rfl⟩
    have hl' := o _ _ (R.no hl (by simp)) hl
    refine ⟨_, rfl, _, rfl, _, _, rfl, rfl, _, rfl, _, rfl, l, rs, rfl, .inl (SqL.of hl'), _, _, rfl, rfl, p, q, (rs.length : Int) - 1, 16 + (i : Int), rfl, R', by omega, by omega, by omega, by omega, fun dd H2 d0 d1 o2' R2 => ?_⟩
    have oo := o.trans o2'
    have hl2 := oo _ _ (R.no hl (by simp)) hl
    obtain ⟨m, rfl⟩ : ∃ m : Nat, dd = (m : Int) := ⟨dd.toNat, by omega⟩
    have hm : m < 8 := by omega
    have hj : (i + 1 + m) % 9 < rs.length := by omega
    have nij : i ≠ (i + 1 + m) % 9 := by omega
    have hi' : i < rs.length := by omega
    obtain ⟨ri, r1, hri, er1, a1, b1, m1, dx1, dy1, xs1, ys1, es1, q1, q2, q3, q4, q5, q6, q7⟩ := RA.get (i := i) (v := rs[i]) (by simp [hi'])
    obtain ⟨rj, r2, hrj, er2, a2, b2, m2, dx2, dy2, xs2, ys2, es2, u1, u2, u3, u4, u5, u6, u7⟩ := RA.get (i := (i + 1 + m) % 9) (v := rs[(i + 1 + m) % 9]) (by simp [hj])
    have go : ∀ {b : Addr} {z : HO}, H b = some z → (∀ l i d c f, z ≠ .dK (PenKV l i d c f)) → H2 b = some z := fun hb hz => oo _ _ (R.no hb hz) hb
    have gi := (G ri (List.mem_of_getElem? hri))
    have gj := (G rj (List.mem_of_getElem? hrj))
    have ne := rows_ne hri hrj nij
    refine ⟨_, _, rfl, rfl, .inl ⟨_, rfl, _, rfl, l, rs, rfl, .inl (SqL.of hl2), _, _, rfl, rfl, by omega, ?_⟩⟩
    have ej : ((0 + (i : Int) + 1 + (m : Int)) % (rs.length : Int)) = (((i + 1 + m) % 9 : Nat) : Int) := by rw [hlen]; omega
    refine ⟨l, rs, _, rs[(i + 1 + m) % 9], rfl, rfl, SqL.of hl2, by rw [ej]; exact atI_nat (by simp [hj]), ?_⟩
    refine ⟨r2, _, _, .ref a2, by rw [er2], rfl, SqT.of (go u1 (by simp)), by exact atI_nat (j := 0) rfl, ?_⟩
    have lxi : xs1.length = ri.2.1.length := by rw [Cps.len q3, gi.2.1]
    refine ⟨_, rfl, _, rfl, l, rs, _, rs[i], rfl, rfl, SqL.of hl2, by rw [Int.zero_add]; exact atI_nat (by simp [hi']), r1, _, _, .ref a1, by rw [er1], rfl, SqT.of (go q1 (by simp)), by exact atI_nat (j := 0) rfl, _, rfl,
      rd_eqC T rfl rfl rfl rfl rfl gi.1 (go q2 (by simp)) lxi (fo_cls gj.1) (go u2 (by simp)) (.inl ⟨ne.symm, fun H3 e3 => ⟨_, rfl, iteF ?_⟩⟩)⟩
    refine ⟨_, rfl, _, rfl, l, rs, _, rs[i], rfl, rfl, SqL.of (e3 _ _ hl2), by rw [Int.zero_add]; exact atI_nat (by simp [hi']), r1, _, _, .ref a1, by rw [er1], rfl, SqT.of (e3 _ _ (go q1 (by simp))), by exact atI_nat (j := 0) rfl, _, rfl,
      rd_neC T rfl rfl rfl rfl rfl gi.1 (e3 _ _ (go q2 (by simp))) lxi (fo_cls gj.1) (e3 _ _ (go u2 (by simp))) (.inl ⟨ne.symm, fun H4 e4 => ⟨_, rfl, iteF ?_⟩⟩)⟩
    have e34 := e3.trans e4
    refine ⟨oo.trans (Ext.off e34 p), ?_, _, _, rfl⟩
    have e : (16 + ((i + 1 : Nat) : Int)) = 16 + (i : Int) + 1 := by omega
    rw [e]
    exact R2.ext e34
  · rintro σ H' ⟨o, R', o11, o12, rfl⟩
    exact k o11 o12 H' _ o R'
end
end Sn

namespace Sn
open PySem PySem.Spec PyProof.Rows L2
theorem dp_ints {K : PySem.W.Frag} {H : Hp} : ∀ {vs : List V} {is : List Int}, Rps H vs (is.map .int) → DpAll K H vs (is.map .int)
  | [], [], _ => .nil
  | v :: vs, i :: is, h => by
    cases h with
    | cons r t =>
      cases r
      exact .cons (.int i) (dp_ints t)
  | [], _ :: _, h => by cases h
  | _ :: _, [], h => by cases h
theorem dp_tup {K : PySem.W.Frag} {H : Hp} {v : V} {is : List Int} (h : Rp H v (.tuple (is.map .int))) : Dp K H v (.tuple (is.map .int)) := by
  cases h with
  | tup h r => exact .tup (SqT.of h) (dp_ints r)
theorem dp_int {K : PySem.W.Frag} {H : Hp} {v : V} {i : Int} (h : Rp H v (.int i)) : Dp K H v (.int i) := by
  cases h
  exact .int i
section
variable {P : Program} {w : World} {K : PySem.W.Frag} {mg : Str → Option Value} {base : Heap} {f : Addr} {fd : FuncData}
variable {cdv : Value} {s : Shared} {H0 : Hp}
/-- C(..) == C(..), both just made -/
theorem rd_new (T : Tx K mg) {X : Cx} (eP : X.prog = P) (ew : X.w = w) (eK : X.K = K) (em : X.mg = mg) (eb : X.base = base) {c : Str} {ns : List Str} (h : (c, ns) ∈ fieldsOf) {t1 t2 : TA} {ds es : List PyData} (g1 : GL t1 ds) (g2 : GL t2 es)
    (l1 : ds.length = ns.length) (l2 : es.length = ns.length) (c1 : ds.map cp = ds) (c2 : es.map cp = es) (hf : ∀ H xs ys, Rps H xs ds → Rps H ys es → FEqN K xs ys H false) {σ : L2.St} {H : Hp} {Q : Bool → Hp → Prop} {z : Addr} (hz : Old H z) (k : ∀ H', Ext H H' → Q false H') :
    tTest (tOp (rOwn X "__eq__" 3) (tMake (He.ga K c) (spInit (He.ga K c) ns) [] E0 t1) (tMake (He.ga K c) (spInit (He.ga K c) ns) [] E0 t2)) σ H Q := by
  refine g1 σ H _ fun vs H1 e1 hl1 r1 => ?_
  have r1 := (r1 z hz).ext hid_le
  intro x dx hx hdx ne
  have a0 := mk_ext0 (C := He.ga K c) hx hdx
  refine ⟨x, dx, vs, by simp, by omega, upd_same, fun v hv => ?_, fun xs H2 o2 hp2 cx => ⟨rfl, ?_⟩⟩
  · obtain ⟨i, hi⟩ := List.getElem?_of_mem hv
    obtain ⟨d, _, r⟩ := r1.get hi
    exact (r.ext a0).kind
  have a2 := mk_ext hx hdx ne o2
  have rx : Rps H2 xs ds := by
    have := Cps.data (r1.ext a2) cx
    rw [c1] at this
    exact this
  refine g2 σ H2 _ fun us H3 e3 hl3 r3 => ?_
  have r3 := (r3 z (hz.ext (e1.trans a2))).ext hid_le
  intro y dy hy hdy ne'
  have a4 := mk_ext0 (C := He.ga K c) hy hdy
  refine ⟨y, dy, us, by simp, by omega, upd_same, fun v hv => ?_, fun ys H4 o4 hp4 cy => ⟨rfl, ?_⟩⟩
  · obtain ⟨i, hi⟩ := List.getElem?_of_mem hv
    obtain ⟨d, _, r⟩ := r3.get hi
    exact (r.ext a4).kind
  have a5 := mk_ext hy hdy ne' o4
  have ry : Rps H4 ys es := by
    have := Cps.data (r3.ext a5) cy
    rw [c2] at this
    exact this
  have e35 := e3.trans a5
  have lx : xs.length = ns.length := by rw [Cps.len cx]; omega
  have ly : ys.length = ns.length := by rw [Cps.len cy]; omega
  exact rd_eqC T eP ew eK em eb h (e35 _ _ hp2) lx (fo_cls h) hp4 (.inr ⟨rfl, ys, false, ly, rfl, hf _ _ _ (rx.ext e35) ry, fun H' e' => ⟨_, rfl, k H' (((e1.trans a2).trans e35).trans e')⟩⟩)
/-- a test that answers False, over any heap -/
def NoT (t : TT) : Prop := ∀ (σ : L2.St) (H : Hp) (Q : Bool → Hp → Prop) (z : Addr), Old H z → (∀ H', Ext H H' → Q false H') → t σ H Q
theorem NoT.or {t u : TT} (a : NoT t) (b : NoT u) : NoT (tOr t u) := fun σ H Q z hz k =>
  a σ H _ z hz fun H1 e1 => iteF (b σ H1 _ z (hz.ext e1) fun H2 e2 => k H2 (e1.trans e2))
theorem no_Shows (T : Tx K mg) (hr : Room 4 (AL s f cdv)) : ∃ t, PT (XL P w K mg base f cdv s H0) (ifC 0 (stL 6)) t ∧ NoT t := by
  obtain ⟨fdi, GI, bi, ki⟩ := gi_Shows (P := P) (w := w) (base := base) T
  have hm : (("Shows" : Str), (["shares"] : List Str)) ∈ fieldsOf := by simp [fieldsOf]
  have M := cf_of T.kn hm
  have hr3 := hr.mono (show 3 ≤ 4 by decide)
  refine ⟨_, pt_cmpR (op_own (m := "__eq__") rfl (fun _ _ => rfl) hr3) (pe_make (k := 2) (sp := spInit (He.ga K "Shows") ["shares"]) M.mkr GI hr3 (by rfl) (T.glo _ (by decide)) bi .nil pass0 (pa_k (pe_tup (pa_k pe_int pa_nil)) pa_nil) (by decide) (star_ok rfl))
    (pe_make (k := 2) (sp := spInit (He.ga K "Shows") ["shares"]) M.mkr GI hr3 (by rfl) (T.glo _ (by decide)) bi .nil pass0 (pa_k (pe_tup (pa_k pe_int pa_nil)) pa_nil) (by decide) (star_ok rfl)) (nomark _), fun σ H Q z hz k => ?_⟩
  exact rd_new T rfl rfl rfl rfl rfl hm (ds := [.tuple [.int 1]]) (es := [.tuple [.int 2]]) (gl_cons (ge_tup (gl_cons (ge_c fun _ => .int _) gl_nil) (by decide)) gl_nil) (gl_cons (ge_tup (gl_cons (ge_c fun _ => .int _) gl_nil) (by decide)) gl_nil) rfl rfl rfl rfl (fun H xs ys h1 h2 => by
    cases h1 with
    | cons a t =>
    cases t
    cases h2 with
    | cons b t =>
    cases t
    exact .inr (.inr (.inr ⟨_, _, (dp_tup (is := [1]) a), (dp_tup (is := [2]) b), by decide +kernel, by decide +kernel, by decide +kernel⟩))) hz k
theorem no_Hidden (T : Tx K mg) (hr : Room 4 (AL s f cdv)) : ∃ t, PT (XL P w K mg base f cdv s H0) (ifC 1 (stL 6)) t ∧ NoT t := by
  obtain ⟨fdi, GI, bi, ki⟩ := gi_Hidden (P := P) (w := w) (base := base) T
  have hm : (("Hidden" : Str), (["field"] : List Str)) ∈ fieldsOf := by simp [fieldsOf]
  have M := cf_of T.kn hm
  have hr3 := hr.mono (show 3 ≤ 4 by decide)
  refine ⟨_, pt_cmpR (op_own (m := "__eq__") rfl (fun _ _ => rfl) hr3) (pe_make (k := 2) (sp := spInit (He.ga K "Hidden") ["field"]) M.mkr GI hr3 (by rfl) (T.glo _ (by decide)) bi .nil pass0 (pa_k (pe_tup pa_nil) pa_nil) (by decide) (star_ok rfl))
    (pe_make (k := 2) (sp := spInit (He.ga K "Hidden") ["field"]) M.mkr GI hr3 (by rfl) (T.glo _ (by decide)) bi .nil pass0 (pa_k (pe_tup (pa_k pe_int pa_nil)) pa_nil) (by decide) (star_ok rfl)) (nomark _), fun σ H Q z hz k => ?_⟩
  exact rd_new T rfl rfl rfl rfl rfl hm (ds := [.tuple []]) (es := [.tuple [.int 1]]) (gl_cons (ge_tup gl_nil (by decide)) gl_nil) (gl_cons (ge_tup (gl_cons (ge_c fun _ => .int _) gl_nil) (by decide)) gl_nil) rfl rfl rfl rfl (fun H xs ys h1 h2 => by
    cases h1 with
    | cons a t =>
    cases t
    cases h2 with
    | cons b t =>
    cases t
    exact .inr (.inr (.inr ⟨_, _, (dp_tup (is := []) a), (dp_tup (is := [1]) b), by decide +kernel, by decide +kernel, by decide +kernel⟩))) hz k
theorem no_Hiding (T : Tx K mg) (hr : Room 4 (AL s f cdv)) : ∃ t, PT (XL P w K mg base f cdv s H0) (ifC 2 (stL 6)) t ∧ NoT t := by
  obtain ⟨fdi, GI, bi, ki⟩ := gi_Hiding (P := P) (w := w) (base := base) T
  have hm : (("Hiding" : Str), (["number", "order"] : List Str)) ∈ fieldsOf := by simp [fieldsOf]
  have M := cf_of T.kn hm
  have hr3 := hr.mono (show 3 ≤ 4 by decide)
  refine ⟨_, pt_cmpR (op_own (m := "__eq__") rfl (fun _ _ => rfl) hr3) (pe_make (k := 2) (sp := spInit (He.ga K "Hiding") ["number", "order"]) M.mkr GI hr3 (by rfl) (T.glo _ (by decide)) bi .nil pass0 (pa_k pe_int (pa_k pe_int pa_nil)) (by decide) (star_ok rfl))
    (pe_make (k := 2) (sp := spInit (He.ga K "Hiding") ["number", "order"]) M.mkr GI hr3 (by rfl) (T.glo _ (by decide)) bi .nil pass0 (pa_k pe_int (pa_k pe_int pa_nil)) (by decide) (star_ok rfl)) (nomark _), fun σ H Q z hz k => ?_⟩
  exact rd_new T rfl rfl rfl rfl rfl hm (ds := [.int 1, .int 2]) (es := [.int 1, .int 3]) (gl_cons (ge_c fun _ => .int _) (gl_cons (ge_c fun _ => .int _) gl_nil)) (gl_cons (ge_c fun _ => .int _) (gl_cons (ge_c fun _ => .int _) gl_nil)) rfl rfl rfl rfl (fun H xs ys h1 h2 => by
    cases h1 with
    | cons a t =>
    cases t with
    | cons a2 t =>
    cases t
    cases h2 with
    | cons b t =>
    cases t with
    | cons b2 t =>
    cases t
    exact .inr ⟨[.int 1, .int 2], [.int 1, .int 3], .cons (dp_int a) (.cons (dp_int a2) .nil), .cons (dp_int b) (.cons (dp_int b2) .nil), by decide +kernel, by decide +kernel, by decide +kernel⟩) hz k
theorem no_Formula (T : Tx K mg) (hr : Room 4 (AL s f cdv)) : ∃ t, PT (XL P w K mg base f cdv s H0) (ifC 3 (stL 6)) t ∧ NoT t := by
  obtain ⟨fdi, GI, bi, ki⟩ := gi_Formula (P := P) (w := w) (base := base) T
  have hm : (("Formula" : Str), (["top", "bottom"] : List Str)) ∈ fieldsOf := by simp [fieldsOf]
  have M := cf_of T.kn hm
  have hr3 := hr.mono (show 3 ≤ 4 by decide)
  refine ⟨_, pt_cmpR (op_own (m := "__eq__") rfl (fun _ _ => rfl) hr3) (pe_make (k := 2) (sp := spInit (He.ga K "Formula") ["top", "bottom"]) M.mkr GI hr3 (by rfl) (T.glo _ (by decide)) bi .nil pass0 (pa_k pe_int (pa_k pe_int pa_nil)) (by decide) (star_ok rfl))
    (pe_make (k := 2) (sp := spInit (He.ga K "Formula") ["top", "bottom"]) M.mkr GI hr3 (by rfl) (T.glo _ (by decide)) bi .nil pass0 (pa_k pe_int (pa_k pe_int pa_nil)) (by decide) (star_ok rfl)) (nomark _), fun σ H Q z hz k => ?_⟩
  exact rd_new T rfl rfl rfl rfl rfl hm (ds := [.int 1, .int 2]) (es := [.int 2, .int 2]) (gl_cons (ge_c fun _ => .int _) (gl_cons (ge_c fun _ => .int _) gl_nil)) (gl_cons (ge_c fun _ => .int _) (gl_cons (ge_c fun _ => .int _) gl_nil)) rfl rfl rfl rfl (fun H xs ys h1 h2 => by
    cases h1 with
    | cons a t =>
    cases t with
    | cons a2 t =>
    cases t
    cases h2 with
    | cons b t =>
    cases t with
    | cons b2 t =>
    cases t
    exact .inr ⟨[.int 1, .int 2], [.int 2, .int 2], .cons (dp_int a) (.cons (dp_int a2) .nil), .cons (dp_int b) (.cons (dp_int b2) .nil), by decide +kernel, by decide +kernel, by decide +kernel⟩) hz k
theorem no_NoFormula (T : Tx K mg) (hr : Room 4 (AL s f cdv)) : ∃ t, PT (XL P w K mg base f cdv s H0) (ifC 0 (stL 7)) t ∧ NoT t := by
  obtain ⟨fdi, GI, bi, ki⟩ := gi_NoFormula (P := P) (w := w) (base := base) T
  have hm : (("NoFormula" : Str), (["relations", "places"] : List Str)) ∈ fieldsOf := by simp [fieldsOf]
  have M := cf_of T.kn hm
  have hr3 := hr.mono (show 3 ≤ 4 by decide)
  refine ⟨_, pt_cmpR (op_own (m := "__eq__") rfl (fun _ _ => rfl) hr3) (pe_make (k := 2) (sp := spInit (He.ga K "NoFormula") ["relations", "places"]) M.mkr GI hr3 (by rfl) (T.glo _ (by decide)) bi .nil pass0 (pa_k (pe_tup pa_nil) (pa_k (pe_tup pa_nil) pa_nil)) (by decide) (star_ok rfl))
    (pe_make (k := 2) (sp := spInit (He.ga K "NoFormula") ["relations", "places"]) M.mkr GI hr3 (by rfl) (T.glo _ (by decide)) bi .nil pass0 (pa_k (pe_tup pa_nil) (pa_k (pe_tup (pa_k pe_int pa_nil)) pa_nil)) (by decide) (star_ok rfl)) (nomark _), fun σ H Q z hz k => ?_⟩
  exact rd_new T rfl rfl rfl rfl rfl hm (ds := [.tuple [], .tuple []]) (es := [.tuple [], .tuple [.int 1]]) (gl_cons (ge_tup gl_nil (by decide)) (gl_cons (ge_tup gl_nil (by decide)) gl_nil)) (gl_cons (ge_tup gl_nil (by decide)) (gl_cons (ge_tup (gl_cons (ge_c fun _ => .int _) gl_nil) (by decide)) gl_nil)) rfl rfl rfl rfl (fun H xs ys h1 h2 => by
    cases h1 with
    | cons a t =>
    cases t with
    | cons a2 t =>
    cases t
    cases h2 with
    | cons b t =>
    cases t with
    | cons b2 t =>
    cases t
    exact .inr ⟨[.tuple [], .tuple []], [.tuple [], .tuple [.int 1]], .cons (dp_tup (is := []) a) (.cons (dp_tup (is := []) a2) .nil), .cons (dp_tup (is := []) b) (.cons (dp_tup (is := [1]) b2) .nil), by decide +kernel, by decide +kernel, by decide +kernel⟩) hz k
theorem no_Relation (T : Tx K mg) (hr : Room 4 (AL s f cdv)) : ∃ t, PT (XL P w K mg base f cdv s H0) (ifC 1 (stL 7)) t ∧ NoT t := by
  obtain ⟨fdi, GI, bi, ki⟩ := gi_Relation (P := P) (w := w) (base := base) T
  have hm : (("Relation" : Str), (["poly"] : List Str)) ∈ fieldsOf := by simp [fieldsOf]
  have M := cf_of T.kn hm
  have hr3 := hr.mono (show 3 ≤ 4 by decide)
  refine ⟨_, pt_cmpR (op_own (m := "__eq__") rfl (fun _ _ => rfl) hr3) (pe_make (k := 2) (sp := spInit (He.ga K "Relation") ["poly"]) M.mkr GI hr3 (by rfl) (T.glo _ (by decide)) bi .nil pass0 (pa_k pe_int pa_nil) (by decide) (star_ok rfl))
    (pe_make (k := 2) (sp := spInit (He.ga K "Relation") ["poly"]) M.mkr GI hr3 (by rfl) (T.glo _ (by decide)) bi .nil pass0 (pa_k pe_int pa_nil) (by decide) (star_ok rfl)) (nomark _), fun σ H Q z hz k => ?_⟩
  exact rd_new T rfl rfl rfl rfl rfl hm (ds := [.int 1]) (es := [.int 2]) (gl_cons (ge_c fun _ => .int _) gl_nil) (gl_cons (ge_c fun _ => .int _) gl_nil) rfl rfl rfl rfl (fun H xs ys h1 h2 => by
    cases h1 with
    | cons a t =>
    cases t
    cases h2 with
    | cons b t =>
    cases t
    exact .inr (.inr (.inr ⟨_, _, (dp_int a), (dp_int b), by decide +kernel, by decide +kernel, by decide +kernel⟩))) hz k
theorem no_NoRelation (T : Tx K mg) (hr : Room 4 (AL s f cdv)) : ∃ t, PT (XL P w K mg base f cdv s H0) (ifC 2 (stL 7)) t ∧ NoT t := by
  obtain ⟨fdi, GI, bi, ki⟩ := gi_NoRelation (P := P) (w := w) (base := base) T
  have hm : (("NoRelation" : Str), (["places"] : List Str)) ∈ fieldsOf := by simp [fieldsOf]
  have M := cf_of T.kn hm
  have hr3 := hr.mono (show 3 ≤ 4 by decide)
  refine ⟨_, pt_cmpR (op_own (m := "__eq__") rfl (fun _ _ => rfl) hr3) (pe_make (k := 2) (sp := spInit (He.ga K "NoRelation") ["places"]) M.mkr GI hr3 (by rfl) (T.glo _ (by decide)) bi .nil pass0 (pa_k (pe_tup pa_nil) pa_nil) (by decide) (star_ok rfl))
    (pe_make (k := 2) (sp := spInit (He.ga K "NoRelation") ["places"]) M.mkr GI hr3 (by rfl) (T.glo _ (by decide)) bi .nil pass0 (pa_k (pe_tup (pa_k pe_int pa_nil)) pa_nil) (by decide) (star_ok rfl)) (nomark _), fun σ H Q z hz k => ?_⟩
  exact rd_new T rfl rfl rfl rfl rfl hm (ds := [.tuple []]) (es := [.tuple [.int 1]]) (gl_cons (ge_tup gl_nil (by decide)) gl_nil) (gl_cons (ge_tup (gl_cons (ge_c fun _ => .int _) gl_nil) (by decide)) gl_nil) rfl rfl rfl rfl (fun H xs ys h1 h2 => by
    cases h1 with
    | cons a t =>
    cases t
    cases h2 with
    | cons b t =>
    cases t
    exact .inr (.inr (.inr ⟨_, _, (dp_tup (is := []) a), (dp_tup (is := [1]) b), by decide +kernel, by decide +kernel, by decide +kernel⟩))) hz k
theorem st6 (T : Tx K mg) (hr : Room 4 (AL s f cdv)) : ∃ t, PS (XL P w K mg base f cdv s H0) (stL 6) t ∧ ∀ (D : Ends) (H : Hp) (σ : L2.St) (z : Addr), Old H z → (∀ H', Ext H H' → D.nx σ H') → t D σ H := by
  obtain ⟨t1, p1, r1⟩ := no_Shows (P := P) (w := w) (base := base) (H0 := H0) T hr
  obtain ⟨t2, p2, r2⟩ := no_Hidden (P := P) (w := w) (base := base) (H0 := H0) T hr
  obtain ⟨t3, p3, r3⟩ := no_Hiding (P := P) (w := w) (base := base) (H0 := H0) T hr
  obtain ⟨t4, p4, r4⟩ := no_Formula (P := P) (w := w) (base := base) (H0 := H0) T hr
  refine ⟨_, ps_if (PW.pt (pw_or p1 (pw_or p2 (pw_or p3 (pw_or1 p4))))) (pss_one (ps_ret (pe_bl (b := false)))) pss_nil, fun D H σ z hz k => ?_⟩
  exact (r1.or (r2.or (r3.or r4))) σ H _ z hz fun H' e => iteF (k H' e)
theorem st7 (T : Tx K mg) (hr : Room 4 (AL s f cdv)) : ∃ t, PS (XL P w K mg base f cdv s H0) (stL 7) t ∧ ∀ (D : Ends) (H : Hp) (σ : L2.St) (z : Addr), Old H z → (∀ H', Ext H H' → D.nx σ H') → t D σ H := by
  obtain ⟨t1, p1, r1⟩ := no_NoFormula (P := P) (w := w) (base := base) (H0 := H0) T hr
  obtain ⟨t2, p2, r2⟩ := no_Relation (P := P) (w := w) (base := base) (H0 := H0) T hr
  obtain ⟨t3, p3, r3⟩ := no_NoRelation (P := P) (w := w) (base := base) (H0 := H0) T hr
  refine ⟨_, ps_if (PW.pt (pw_or p1 (pw_or p2 (pw_or1 p3)))) (pss_one (ps_ret (pe_bl (b := false)))) pss_nil, fun D H σ z hz k => ?_⟩
  exact (r1.or (r2.or r3)) σ H _ z hz fun H' e => iteF (k H' e)
/-- repr(rows[0][0].shares) -/
def shE : Expr := match stL 8 with | .Assign _ v _ => v | _ => .Tuple [] 0 ⟨0,0,0,0⟩
def shE2 : Expr := match stL 10 with | .Return (some (.Compare a _ _ _)) _ => a | _ => .Tuple [] 0 ⟨0,0,0,0⟩
theorem cp_ok {d : PyData} (h : okD d = true) : (cp d).showable = true ∧ (cp d).depth ≤ 20 ∧ (cp d).shown.length ≤ 5000 := by
  have := okD_cp h
  simp only [okE, Bool.and_eq_true, decide_eq_true_eq] at this
  exact ⟨this.1, by omega, by omega⟩
theorem pe_sh (T : Tx K mg) (hr : Room 4 (AL s f cdv)) : ∃ t, (PE (XL P w K mg base f cdv s H0) shE t ∧ PE (XL P w K mg base f cdv s H0) shE2 t) ∧
    ∀ (σ : L2.St) (H : Hp) (Q : VK) (l r a dx : Addr) (rs ts : List V) (x : V) (d : PyData), σ[7]? = some (some (.ref l)) → H l = some (.lst (.ref r :: rs)) → H r = some (.tup (.ref a :: ts)) → H a = some (.ins (He.ga K "Shows") dx ((["shares"] : List Str).zip [x])) → Rp H x (cp d) → okD d = true →
      Q (.str (cp d).shown) H → t σ H Q := by
  have cr : CallR (XL P w K mg base f cdv s H0) (.builtin "repr") (rRepr K) := call_repr T.kn.sys rfl (by have := hr.un; show (AL s f cdv).units + 64 < cLine; omega)
  have hm : (("Shows" : Str), (["shares"] : List Str)) ∈ fieldsOf := by simp [fieldsOf]
  have M := cf_of T.kn hm
  refine ⟨_, ⟨pe_callB cr (by rfl) (T.free _ (by decide)) boot_repr (pa_k (pe_fld (pe_ix ix_tup (pe_ix ix_list (pv 7) pe_int (fun _ _ => rfl)) pe_int (fun _ _ => rfl)) rfl) pa_nil), pe_callB cr (by rfl) (T.free _ (by decide)) boot_repr (pa_k (pe_fld (pe_ix ix_tup (pe_ix ix_list (pv 7) pe_int (fun _ _ => rfl)) pe_int (fun _ _ => rfl)) rfl) pa_nil)⟩,
    fun σ H Q l r a dx rs ts x d h7 hl hr' ha hx ok k => ?_⟩
  obtain ⟨s1, s2, s3⟩ := cp_ok ok
  refine ⟨_, h7, l, _, _, .ref r, rfl, rfl, SqL.of hl, by exact atI_nat (j := 0) rfl, r, _, _, .ref a, rfl, rfl, SqT.of hr', by exact atI_nat (j := 0) rfl, a, _, dx, _, x, rfl, ha, M.cl, M.na _ (by simp), lk_zip (by simp) (i := 0) rfl rfl, ?_⟩
  exact ⟨x, cp d, rfl, hx, s1, s2, s3, k⟩
theorem rd_ifS {σ : L2.St} {H : Hp} {v : V} {i : Nat} {t u : TS} {D : Ends} (h0 : σ[i]? = some (some v)) (hv : NL H v ∨ IsL H v) (h1 : NL H v → u D σ H) (h2 : IsL H v → t D σ H) :
    tIfS (tB (tCB (rIsi K) (tCons (tVar i) (tCons (tC (.ty "list")) tNil)))) t u D σ H :=
  ⟨v, h0, isi_list (K := K) (Q := fun x H1 => ∃ c, x = V.bl c ∧ if c = true then t D σ H1 else u D σ H1) hv
    (fun h => ⟨false, rfl, iteF (h1 h)⟩) fun h => ⟨true, rfl, iteT (h2 h)⟩⟩
theorem st8 (T : Tx K mg) (hr : Room 4 (AL s f cdv)) : ∃ t8 t9 t10, PS (XL P w K mg base f cdv s H0) (stL 8) t8 ∧ PS (XL P w K mg base f cdv s H0) (stL 9) t9 ∧ PS (XL P w K mg base f cdv s H0) (stL 10) t10 ∧
    ∀ (Q : VK) (o0 o1 o2 o4 o5 o6 o8 o9 o10 o11 o12 : Option V) (v : V) (p q : Addr) (H2 H : Hp) (l r : Addr) (rs : List V) (d : PyData), PenAt H2 p q 16 → Off p H2 H → NewL H2 H v d → okD d = true → H l = some (.lst (.ref r :: rs)) → RowAt K H "Shows" ["shares"] [v] r →
      (∀ H', Q (.bl true) H') →
      tSeq t8 (tSeq t9 t10) { nx := fun _ H' => Q .non H', rt := Q } [o0, o1, o2, some v, o4, o5, o6, some (.ref l), o8, o9, o10, o11, o12, none, none] H := by
  obtain ⟨ts, ⟨pe1, pe2⟩, rs⟩ := pe_sh (P := P) (w := w) (base := base) (H0 := H0) T hr
  refine ⟨_, _, _, ps_set (i := 13) scLaw.nd rfl (Or.inl rfl) pe1,
    ps_if (pt_val (pe_callB call_isi (by rfl) (T.free _ (by decide)) boot_isinstance (pa_k (pv 3) (pa_k (pe_bltn (v := .ty "list") (by rfl) (T.free _ (by decide)) boot_list rfl) pa_nil))))
      (pss_one (ps_expr (pe_bm PySem.F.plainAttrs_list PySem.F.slot_list_append PySem.F.type_list_append mt_append (pv 3) (pa_k pe_int pa_nil) (by rfl) (by rfl) (by rfl) (star_ok rfl)))) pss_nil,
    ps_ret (pe_cmpR op_eq pe2 (pv 13) (nomark _)), fun Q o0 o1 o2 o4 o5 o6 o8 o9 o10 o11 o12 v p q H2 H l r rws d R o nw ok hl RA k => ?_⟩
  have eqT : ∀ z : Str, decide (V.str z = V.str z) = true := fun z => decide_eq_true rfl
  obtain ⟨a, b, m, dx, dy, xs, ys, es, h1, h2, h3, h4, h5, h6, h7⟩ := RA
  obtain ⟨x, rfl⟩ : ∃ x, xs = [x] := by
    have := Cps.len h3
    match xs, this with
    | [x], _ => exact ⟨x, rfl⟩
  have cx : CpV H v x := by
    cases h3 with
    | cons c _ => exact c
  have rv : Rp H v d := by
    rcases nw with ⟨_, z⟩ | ⟨g, zs, ds, e1, e2, e3, e4, e5⟩
    · exact z.off R o
    · subst e1 e4
      exact .lst e2 (e5.off R o)
  have rx := cx.data rv
  refine rs _ H _ l r a dx rws _ x d rfl hl h1 h2 rx ok ?_
  rcases nw with ⟨n, z⟩ | ⟨g, zs, ds, e1, e2, e3, e4, e5⟩
  · refine rd_ifS (K := K) (v := v) rfl (.inl n) (fun _ => ?_) (fun h => ?_)
    · show tOp rEq ts (tVar 13) [o0, o1, o2, some v, o4, o5, o6, some (V.ref l), o8, o9, o10, o11, o12, some (.str (cp d).shown), none] H Q
      refine rs _ H _ l r a dx rws _ x d rfl hl h1 h2 rx ok ?_
      refine ⟨_, rfl, rfl, ?_⟩
      rw [eqT]
      exact k _
    · exfalso
      obtain ⟨g, zs, e1, e2⟩ := h
      subst e1
      rcases n with n | ⟨_, n⟩ | ⟨_, n⟩ | ⟨_, n⟩ | ⟨a', ys', n, q'⟩ | ⟨a', k', i, n, q'⟩
      · cases n
      · cases n
      · cases n
      · cases n
      · cases n
        rw [e2] at q'
        cases q'
      · cases n
        rw [e2] at q'
        cases q'
  · subst e1 e4
    refine rd_ifS (K := K) (v := .ref g) rfl (.inr ⟨g, zs, rfl, e2⟩) (fun n => ?_) (fun h => ?_)
    · exfalso
      rcases n with n | ⟨_, n⟩ | ⟨_, n⟩ | ⟨_, n⟩ | ⟨a', ys', n, q'⟩ | ⟨a', k', i, n, q'⟩
      · cases n
      · cases n
      · cases n
      · cases n
      · cases n
        rw [e2] at q'
        cases q'
      · cases n
        rw [e2] at q'
        cases q'
    · have hz : zs.length < 1000 := by
        have z1 := e5.len
        simp only [okD, Bool.and_eq_true, decide_eq_true_eq] at ok
        have z2 : ds.length ≤ 100 := ok.1.2
        omega
      refine ⟨_, rfl, .inl ⟨rfl, _, SqL.of e2⟩, g, zs, .int 7, rfl, rfl, e2, by rw [sizeLine_eq]; omega, ?_⟩
      rcases cx with ⟨n, ex⟩ | ⟨a', xs', b', f1, f2, f3, f4⟩
      · exfalso
        subst ex
        rcases n with n | ⟨_, n⟩ | ⟨_, n⟩ | ⟨_, n⟩ | ⟨a', ys', n, q'⟩ | ⟨a', k', i, n, q'⟩
        · cases n
        · cases n
        · cases n
        · cases n
        · cases n
          rw [e2] at q'
          cases q'
        · cases n
          rw [e2] at q'
          cases q'
      cases f1
      rw [e2] at f2
      cases f2
      subst f3
      have ng : ∀ {b : Addr} {z : HO}, H b = some z → (∀ xs, z ≠ .lst xs) → upd H g (.lst (zs ++ [V.int 7])) b = some z := fun hb hz => by
        rw [upd_ne fun e => by rw [e, e2] at hb; exact hz _ (Option.some.inj hb).symm]
        exact hb
      have nlg : l ≠ g := fun e => by
        rw [e, e2] at hl
        cases hl
        cases e5.off R o with
        | cons r0 _ =>
          cases r0 with
          | lst hh _ => rw [h1] at hh; cases hh
          | dct hh => rw [h1] at hh; cases hh
          | tup hh rr =>
            rw [h1] at hh
            cases hh
            cases rr with
            | cons r1 _ =>
              cases r1 with
              | lst hh _ => rw [h2] at hh; cases hh
              | dct hh => rw [h2] at hh; cases hh
              | tup hh _ => rw [h2] at hh; cases hh
      have og : Off p H2 (upd H g (.lst (zs ++ [V.int 7]))) := fun b z hb hz => by
        rw [upd_ne fun e => by rw [e, e3] at hz; cases hz]
        exact o b z hb hz
      refine rs _ _ _ l r a dx rws _ (.ref b') (.list ds) rfl (by rw [upd_ne nlg]; exact hl) (ng h1 (by simp)) (ng h2 (by simp)) (.tup (ng f4 (by simp)) (e5.off R og)) ok ?_
      refine ⟨_, rfl, rfl, ?_⟩
      rw [eqT]
      exact k _
end
end Sn

namespace Sn
open PySem PySem.Spec PyProof.Rows L2
theorem NewL.kind {H2 H : Hp} {v : V} {d : PyData} (h : NewL H2 H v d) : NL H v ∨ IsL H v := by
  rcases h with ⟨n, _⟩ | ⟨g, zs, ds, e1, e2, e3, e4, e5⟩
  · exact .inl n
  · exact .inr ⟨g, zs, e1, e2⟩
theorem NewL.rp {H2 H : Hp} {v : V} {d : PyData} (e : Ext H2 H) (h : NewL H2 H v d) : Rp H v d := by
  rcases h with ⟨_, r⟩ | ⟨g, zs, ds, e1, e2, e3, e4, e5⟩
  · exact r.ext e
  · subst e1 e4
    exact .lst e2 (e5.ext e)
theorem NewL.offP {H2 H H' : Hp} {p l : Addr} {c : Int} (R : PenAt H p l c) (e : Off p H H') {v : V} {d : PyData} (e2 : Ext H2 H) (h : NewL H2 H v d) : NewL H2 H' v d := by
  rcases h with ⟨n, r⟩ | ⟨g, zs, ds, e1, h2, e3, e4, e5⟩
  · exact .inl ⟨n.offP R e (r.ext e2), r⟩
  · exact .inr ⟨g, zs, ds, e1, e _ _ (R.no h2 (by simp)) h2, e3, e4, e5⟩
def spLaw (K : PySem.W.Frag) : Sp := fun vs H Q _ => ∃ (a : Addr) (ns : List Int), vs = [.ref a] ∧ SqL K H a (ns.map V.int) ∧ ns.length ≤ 63 ∧ ∀ H', Q (.bl true) H'
section
variable {P : Program} {w : World} {K : PySem.W.Frag} {mg : Str → Option Value} {base : Heap} {f : Addr} {fd : FuncData}
theorem ok_law (F : FnP K "law" "law" (topS 24) f fd) (T : Tx K mg) : AtCaller P w K mg base f fd ["script"] (spLaw K) := by
  refine atCaller (k := 4) F scLaw (fun vs H Q E h => ?_) ⟨rfl, by decide, by decide⟩ (fun cdv s H vs Q hr h => ?_)
  · obtain ⟨a, ns, rfl, _⟩ := h
    rfl
  obtain ⟨a, ns, rfl, hS, hlen, k⟩ := h
  obtain ⟨t0, p0, r0⟩ := st0 (P := P) (w := w) (base := base) (H0 := H) T hr
  obtain ⟨t1, p1, r1⟩ := st1 (P := P) (w := w) (base := base) (H0 := H) T hr
  obtain ⟨t2, p2, r2⟩ := st2 (P := P) (w := w) (base := base) (f := f) (cdv := cdv) (s := s) (H0 := H) T
  obtain ⟨t3, p3, r3⟩ := st3 (P := P) (w := w) (base := base) (H0 := H) T hr
  obtain ⟨t4, p4, r4⟩ := st4 (P := P) (w := w) (base := base) (H0 := H) T hr
  obtain ⟨t5, p5, r5⟩ := st5 (P := P) (w := w) (base := base) (H0 := H) T hr
  obtain ⟨t6, p6, r6⟩ := st6 (P := P) (w := w) (base := base) (H0 := H) T hr
  obtain ⟨t7, p7, r7⟩ := st7 (P := P) (w := w) (base := base) (H0 := H) T hr
  obtain ⟨t8, t9, t10, p8, p9, p10, r8⟩ := st8 (P := P) (w := w) (base := base) (H0 := H) T hr
  refine ⟨tSeq t0 (tSeq t1 (tSeq t2 (tSeq t3 (tSeq t4 (tSeq t5 (tSeq t6 (tSeq t7 (tSeq t8 (tSeq t9 t10))))))))), pss_cons p0 (pss_cons p1 (pss_cons p2 (pss_cons p3 (pss_cons p4 (pss_cons p5 (pss_cons p6 (pss_cons p7 (pss_cons p8 (pss_cons p9 (pss_one p10)))))))))), ?_⟩
  generalize hD : ({ nx := fun _ H' => Q .non H', rt := Q } : Ends) = D0
  refine rd_seq (r0 _ H a ns hS hlen fun p q H1 R1 => ?_)
  show tSeq t1 (tSeq t2 (tSeq t3 (tSeq t4 (tSeq t5 (tSeq t6 (tSeq t7 (tSeq t8 (tSeq t9 t10)))))))) D0 _ H1
  refine rd_seq (r1 _ H1 a p q R1 fun V0 vs ds Hb hV hn rps okds Rb => ?_)
  show tSeq t2 (tSeq t3 (tSeq t4 (tSeq t5 (tSeq t6 (tSeq t7 (tSeq t8 (tSeq t9 t10))))))) D0 _ Hb
  refine rd_seq (r2 _ Hb a p q V0 vs ds hV hn rps Rb fun v1 v2 v3 v4 Hc nws ec => ?_)
  show tSeq t3 (tSeq t4 (tSeq t5 (tSeq t6 (tSeq t7 (tSeq t8 (tSeq t9 t10)))))) D0 _ Hc
  obtain ⟨d1, d2, d3, d4, rfl⟩ : ∃ d1 d2 d3 d4, ds = [d1, d2, d3, d4] := by
    have := rps.len
    rw [hn] at this
    match ds, this with
    | [d1, d2, d3, d4], _ => exact ⟨_, _, _, _, rfl⟩
  obtain ⟨n1, n2, n3, n4, _⟩ := nws
  refine rd_seq (r3 _ Hc _ _ _ v1 v2 v3 v4 (fun v hv => ?_) fun l rs Hd ed hl RA => ?_)
  · simp only [List.mem_cons, List.not_mem_nil, or_false] at hv
    rcases hv with rfl | rfl | rfl | rfl
    · exact n1.kind
    · exact n2.kind
    · exact n3.kind
    · exact n4.kind
  show tSeq t4 (tSeq t5 (tSeq t6 (tSeq t7 (tSeq t8 (tSeq t9 t10))))) D0 _ Hd
  have good : ∀ x ∈ rowsOf v1 v2 v3 v4, GoodRow Hd x := good_rows ((Rps.cons (n1.rp ec) (.cons (n2.rp ec) (.cons (n3.rp ec) (.cons (n4.rp ec) .nil)))).ext ed) okds
  refine rd_seq (r4 _ Hd _ _ _ _ _ _ _ l rs (rowsOf v1 v2 v3 v4) hl RA good fun o8 o9 o10 He ee => ?_)
  show tSeq t5 (tSeq t6 (tSeq t7 (tSeq t8 (tSeq t9 t10)))) D0 _ He
  have eb : Ext Hb He := (ec.trans ed).trans ee
  have RA' := RowsAt.ext ee RA
  have Re := Rb.ext eb
  refine rd_seq (r5 _ He _ _ _ _ _ _ o8 o9 o10 p q l rs v1 v2 v3 v4 (ee _ _ hl) RA' (fun x hx => (good x hx).ext ee) Re fun o11 o12 Hf n of Rf => ?_)
  show tSeq t6 (tSeq t7 (tSeq t8 (tSeq t9 t10))) D0 _ Hf
  have old : Old Hf p := by
    obtain ⟨_, _, _, _, S⟩ := Rf
    exact ⟨_, S.at_⟩
  refine rd_seq (r6 _ Hf _ p old fun Hg eg => ?_)
  show tSeq t7 (tSeq t8 (tSeq t9 t10)) D0 _ Hg
  refine rd_seq (r7 _ Hg _ p (old.ext eg) fun Hh eh => ?_)
  show tSeq t8 (tSeq t9 t10) D0 _ Hh
  subst hD
  have egh := eg.trans eh
  obtain ⟨v0, rws, ers, r, e0, RA0⟩ : ∃ v0 rws, rs = v0 :: rws ∧ ∃ r, v0 = .ref r ∧ RowAt K He "Shows" ["shares"] [v1] r := by
    match rs, RA' with
    | v0 :: rws, ⟨⟨r, e, h⟩, _⟩ => exact ⟨v0, rws, rfl, r, e, h⟩
  subst ers e0
  have o1 := okds d1 (by simp)
  have rp1 : Rps He [v1] [d1] := (Rps.cons (n1.rp ec) .nil).ext (ed.trans ee)
  refine r8 Q _ _ _ _ _ _ o8 o9 o10 o11 o12 v1 p q Hb Hh l r rws d1 Rb (Off.trans (Ext.off eb p) (of.trans (Ext.off egh p))) ?_ o1 ?_ ?_ k
  · exact (NewL.offP Re of eb (n1.ext (ed.trans ee))).ext egh
  · exact egh _ _ (of _ _ (Re.no (ee _ _ hl) (by simp)) (ee _ _ hl))
  · exact (RowAt.offP Re of rp1 RA0).ext egh
end
end Sn
open PySem PySem.W PySem.Calls PyProof.Rows
theorem PySem.Challenge.cw_seenmodels_k90_classes_made_by_hand_holds : PySem.Challenge.rw_seenmodels_k90_classes_made_by_hand.Holds := by
  w_on; o_law
  refine HandSHeadRun.head_any (r := Sn.RR) (q := view Sn.RR.prog [24]) (H := Sn.hookK) (ob := Sn.obK) (M := 4000) (loose := Sn.looseN) (d := HandSHeadRun.topDef Sn.RR.prog 24) (kwd := []) Sn.obK_eq
    (by kernel_rfl) (fun s => by kernel_rfl) Sn.run (by kernel_rfl) (by kernel_rfl) (by kernel_rfl) (by rfl) (by first | assumption | decide +kernel) (by decide +kernel) ⟨rfl, rfl, rfl, rfl, rfl, by decide +kernel⟩ ?hw ?hc
  case hw => w_witness2
  case hc =>
    refine Sn.walkLaw (l := PySem.Challenge.rw_seenmodels_k90_classes_made_by_hand) (n := 63) (x := "script") rfl (by decide) (by kernel_rfl) ?F
    intro w mg fa h Y G hmg0
    obtain ⟨K, KX, c⟩ := Y
    have hmg : mg ("law" : PySem.Str) = some (.ref fa) := by
      have e : (HandSHeadRun.topDef Sn.RR.prog 24).name = ("law" : PySem.Str) := by kernel_rfl
      rw [← e]
      exact hmg0
    have kn := Sn.kn_of c
    have T := Sn.tx_of KX G kn
    have ef : fa = He.ga K "law" := by
      have e := hmg.symm.trans (T.glo "law" (by decide))
      cases e
      rfl
    subst ef
    obtain ⟨fd, F⟩ := kn.df 37 rfl
    have b := L2.FunD.bindsA (ps := ["script"]) F fun _ _ _ _ _ _ us hl => match us, hl with | [_], _ => rfl
    refine ⟨K, fd, Sn.spLaw K, KX, fun s v => b s [v] rfl, fun H a ns hl _ hS => ⟨a, ns, rfl, hS, hl, fun _ => rfl⟩, fun base hK hN => ?_⟩
    exact Sn.ok_law F (Sn.tx_of KX G kn)
