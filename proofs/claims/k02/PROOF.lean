import PyProof.Rows.All
import Wide.All
import OpenK.AllK
import Wide.FinOn
import HandS.ForMost
import HandS.IsInst
import HandS.Wide
import HandS.Style
import HandS.More
import PyProof.ReprLen
import PySem.Challenge.RW_neverhit_k02_integers_points_and_ways
set_option Elab.async false
set_option linter.all false
set_option maxRecDepth 100000
set_option maxHeartbeats 4000000
namespace NK
open PySem L2

/-! ## what stays of the heap -/
/-- all that is told stays -/
def Ext (H H' : Hp) : Prop := ∀ a o, H a = some o → H' a = some o
theorem Ext.rfl {H : Hp} : Ext H H := fun _ _ h => h
theorem Ext.tr {H H1 H2 : Hp} (x : Ext H H1) (y : Ext H1 H2) : Ext H H2 := fun a o h => y a o (x a o h)
theorem Ext.put {H : Hp} {p : Addr} {o : HO} (h : H p = none) : Ext H (upd H p o) := fun a u e => by
  rw [upd_ne (ne_of_none e h)]; exact e
theorem Ext.before {H H' : Hp} {p : Addr} (x : Ext H H') (h : H' p = none) : H p = none := by
  cases q : H p with
  | none => exact Eq.refl _
  | some o => have := x p o q; rw [h] at this; cases this
theorem Ext.rd {H H' : Hp} {a : Addr} {u : HO} (x : Ext H H') (h : Rd H a u) : Rd H' a u := by
  rcases h with h | ⟨o, h⟩
  · exact .inl (x a _ h)
  · exact .inr ⟨o, x a _ h⟩
theorem Ext.sqL {K : PySem.W.Frag} {H H' : Hp} {a : Addr} {xs : List V} (x : Ext H H') (h : SqL K H a xs) : SqL K H' a xs := by
  rcases h with h | h
  · exact .inl (x.rd h)
  · exact .inr h
theorem Ext.sqT {K : PySem.W.Frag} {H H' : Hp} {a : Addr} {xs : List V} (x : Ext H H') (h : SqT K H a xs) : SqT K H' a xs := by
  rcases h with h | h
  · exact .inl (x.rd h)
  · exact .inr h

/-! ## readings by names of their own -/
def rAdd : R2 := rI0 fun i j => .int (i + j)
def rSub : R2 := rI0 fun i j => .int (i - j)
def rMul : R2 := rI CMul fun i j => .int (i * j)
def rPow : R2 := rI CPow fun i j => .int (i ^ j.toNat)
def rMod : R2 := rI (fun _ j => 0 < j) fun i j => .int (i % j)
def rDiv : R2 := rI CDivW fun i j => .int (i / j)
def rLt : R2 := rI0 fun i j => .bl (decide (i < j))
def rLe : R2 := rI0 fun i j => .bl (decide (i ≤ j))
def rGt : R2 := rI0 fun i j => .bl (decide (j < i))
def rGe : R2 := rI0 fun i j => .bl (decide (j ≤ i))
def rIsNo : R2 := fun x y H Q => y = .non ∧ Q (.bl (decide (x = .non))) H
def rNotNo : R2 := fun x y H Q => y = .non ∧ Q (.bl (!decide (x = .non))) H
def rNeg : V → Hp → VK → Prop := rU fun i => .int (-i)
def cLen (K : PySem.W.Frag) : List V → Hp → VK → Prop := fun xs H Q => ∃ p ys, xs = [.ref p] ∧ (SqL K H p ys ∨ SqT K H p ys) ∧ Q (.int ys.length) H
def cAbs : List V → Hp → VK → Prop := fun xs H Q => ∃ i, xs = [.int i] ∧ Q (.int (if i < 0 then -i else i)) H
def cMax : List V → Hp → VK → Prop := fun xs H Q => ∃ i j, xs = [.int i, .int j] ∧ Q (.int (if j > i then j else i)) H
def cInt : List V → Hp → VK → Prop := fun xs H Q => (∃ i, xs = [.int i] ∧ Q (.int i) H) ∨ ∃ k, xs = [.bl k] ∧ Q (.int (if k then 1 else 0)) H
def cTuple (K : PySem.W.Frag) : List V → Hp → VK → Prop := fun xs H Q => ∃ p ys, xs = [.ref p] ∧ ((SqL K H p ys ∧ ∀ l, H l = none → Q (.ref l) (upd H l (.tup ys))) ∨ (SqT K H p ys ∧ Q (.ref p) H))
section
variable {X : Cx}
theorem o_add : OpR X (binaryOp .Add) rAdd := op_add
theorem o_sub : OpR X (binaryOp .Sub) rSub := op_sub
theorem o_mul : OpR X (binaryOp .Mult) rMul := op_mul
theorem o_pow : OpR X (binaryOp .Pow) rPow := op_pow
theorem o_mod : OpR X (binaryOp .Mod) rMod := op_mod
theorem o_div : OpR X (binaryOp .FloorDiv) rDiv := op_fdivW
theorem o_lt : OpR X (compareOp .Lt) rLt := op_lt
theorem o_le : OpR X (compareOp .LtE) rLe := op_le
theorem o_gt : OpR X (compareOp .Gt) rGt := op_gt
theorem o_ge : OpR X (compareOp .GtE) rGe := op_ge
theorem o_isNo : OpR X (compareOp .Is) rIsNo := op_isN
theorem o_notNo : OpR X (compareOp .IsNot) rNotNo := op_notN
theorem u_neg : UnR X (unaryOp .USub) rNeg := un_neg
theorem c_len : CallR X (.builtin "len") (cLen X.K) := call_len_seq
theorem c_abs : CallR X (.builtin "abs") cAbs := call_abs
theorem c_max (h : X.calm = true) : CallR X (.builtin "max") cMax := call_max2 h
theorem c_int : CallR X (.type "int") cInt := call_int1
theorem c_tuple : CallR X (.type "tuple") (cTuple X.K) := call_tuple_of
end

/-! ## walked: a list or a tuple -/
def iSeq (K : PySem.W.Frag) (tl : TE) : TI := fun σ H R => tl σ H fun x H1 => ∃ a, x = .ref a ∧ ((∃ xs, SqL K H1 a xs) ∧ R (Itl K a) H1 ∨ (∃ xs, SqT K H1 a xs) ∧ R (Itt K a) H1)
/-- a name that holds what was reckoned already -/
theorem pi_seq {X : Cx} {tg l : Expr} {tl : TE} (hl : PE X l tl) : PI X tg l (iSeq X.K tl) := by
  refine ⟨fun pins s σ H R I h => ?_⟩
  refine thn (hl.run pins s σ H _ I h) fun v s1 z => ?_
  obtain ⟨x, H1, J, rx, a, ex, w⟩ := z
  cases ex
  cases rx
  have sz : ∀ b, b ∈ [s1.heap.objs.size] → FpOk X pins H1 b := fun b hb => by
    cases List.mem_singleton.mp hb
    exact J.fpOk (Nat.le_refl _) (J.hok.fresh (Nat.le_refl _))
  rcases w with ⟨⟨xs, hx⟩, r⟩ | ⟨⟨xs, hx⟩, r⟩
  · obtain ⟨us, _, pl, _⟩ := J.list hx
    exact wpAny_pyIter_list pl.isList ⟨_, _, _, Itl X.K a, H1, rfl, J.kept (t' := s1.toks) fun b o e => Heap.get?_push_of_some _ e, turn_list a _, ⟨_, Heap.get?_push_size _ rfl, rfl, rfl⟩, sz, r⟩
  · obtain ⟨us, _, pl, _⟩ := J.tuple hx
    exact wpAny_pyIter_tuple (show s1.heap.IsTuple a us.toArray from pl) ⟨_, _, _, Itt X.K a, H1, rfl, J.kept (t' := s1.toks) fun b o e => Heap.get?_push_of_some _ e, turn_tuple a _, ⟨_, Heap.get?_push_size _ rfl, rfl, rfl⟩, sz, r⟩
end NK

namespace NK
open PySem PySem.Spec PyProof.Rows L2

/-! ## a def's promise where no repr is under way (Around.guards is the empty list) -/
structure FnG (P : Program) (w : World) (K : PySem.W.Frag) (mg : Str → Option Value) (base : Heap) (CX : CXT) (k : Nat) (f : Addr) (fd : FuncData) (ps : List Str) (sp : Sp) : Prop where
  cnt : ∀ vs H Q E, sp vs H Q E → vs.length = ps.length
  go : ∀ (B : Around) (outer : List Env) (s : Shared) (H : Hp) (args : Args) (us : List Value) (vs : List V) (Q : VK) (E : XK), Room k B → B.guards = some [] → Env0 P w K mg base B outer s H →
    BindsTo s fd args (ps.zip us) → Vals vs us → sp vs H Q E → codeAny (model P w) B (.call (.ref f) args) (CR CX outer P w H s Q E) s
theorem FnG.of {P : Program} {w : World} {K : PySem.W.Frag} {mg : Str → Option Value} {base : Heap} {CX : CXT} {k : Nat} {f : Addr} {fd : FuncData} {ps : List Str} {sp : Sp}
    (F : FnOk P w K mg base CX k f fd ps sp) : FnG P w K mg base CX k f fd ps sp :=
  ⟨F.len, fun B outer s H args us vs Q E hr _ => F.run B outer s H args us vs Q E hr⟩

/-- the rule for such a def -/
theorem fnG_of {CX : CXT} {P : Program} {w : World} {K : PySem.W.Frag} {mg : Str → Option Value} {base : Heap} {k : Nat} {f : Addr} {nm ql : Str} {pr : Arguments} {bd : List Stmt} {sc : Scope} {dV kV doc pm cdv ct oc : Value} {an od : Option Addr}
    {osl : Array (Option Value)} {N ps : List Str} {sp : Sp} (there : K.lookup f = some ⟨oc, od, .func (PySem.W.fnOf nm ql pr bd sc dV kV doc pm an cdv ct), osl⟩) (cdk : PySem.W.codeIn K cdv ql = true) (S : FnScope N ps sc)
    (cnt : ∀ vs H Q E, sp vs H Q E → vs.length = ps.length)
    (body : ∀ (B : Around) (outer : List Env) (s : Shared) (H : Hp) (vs : List V) (Q : VK) (E : XK), Room k (B.deeper (envOfC ql sc s.heap.objs.size f cdv)) → B.guards = some [] → sp vs H Q E →
      ∃ t, PSs (cxOf CX P w K mg base N ql sc f cdv B outer s H E) bd t ∧ t { nx := fun _ H' => Q .non H', rt := Q } (start N vs) H) :
    FnG P w K mg base CX (k + 1) f (PySem.W.fnOf nm ql pr bd sc dV kV doc pm an cdv ct) ps sp := by
  refine ⟨cnt, fun B outer s H args us vs Q E room gd z bnd rel want => ?_⟩
  have many := cnt _ _ _ _ want
  have inK : K.In s.heap := z.mod.kin.keeps fun b o e => (z.bs b o e).1
  have free := z.mod.nolimit.keeps (h' := s.heap) fun b o e => (z.bs b o e).1
  refine codeAny_call_function room.depth (inK f _ there) (by rfl) S.co S.gen (by rfl) (PySem.W.codeRec_of inK cdk) (bnd _ _ _ _ ?_)
  refine wpAny_newFunctionEnv_cells S.kind (fun y hy => ?_) fun env he s1 x => ?_
  · have m := (List.of_mem_zip (show (y.1, y.2) ∈ ps.zip us from hy)).1
    cases S.par y.1 m with
    | inl q => exact .inl q
    | inr q => exact .inr ⟨q, PySem.W.cellsFrom_some _ _ _ (.inl q)⟩
  · cases he
    refine ⟨free.keeps x.toInCall.keep, codeAny_func ?_⟩
    obtain ⟨t, der, rd⟩ := body B outer s H vs Q E (room.deeper _) gd want
    have J := inv_start (CX := CX) (E := E) (outer := outer) S room.hd z many rel x
    refine wpAny_mono (der.run [] s1 _ H _ J rd) (fun fl s' hs => ?_) fun e s' hs => hs
    cases fl with
    | ret u =>
      obtain ⟨v, _, H', J', rv, wq⟩ := hs
      exact ⟨v, H', J'.os, J'.bare, J'.base, J'.hok, rv, wq⟩
    | next =>
      obtain ⟨_, H', J', wq⟩ := hs
      exact ⟨V.non, H', J'.os, J'.bare, J'.base, J'.hok, rfl, wq⟩
    | brk => exact hs.elim fun _ h => h.elim fun _ h => h.2.elim
    | cont => exact hs.elim fun _ h => h.elim fun _ h => h.2.elim

/-- the same by the text's own words; no exception leaves -/
theorem funG {P : Program} {w : World} {K : PySem.W.Frag} {mg : Str → Option Value} {base : Heap} {x ql : Str} {st : Stmt} {f : Addr} {fd : FuncData} {N ps : List Str} {k : Nat} {sp : Sp} (F : Fun K x ql st f fd) (S : FnScope N ps (defScope st))
    (cnt : ∀ vs H Q E, sp vs H Q E → vs.length = ps.length)
    (body : ∀ (cdv : Value) (B : Around) (outer : List Env) (s : Shared) (H : Hp) (vs : List V) (Q : VK) (E : XK), Room k (B.deeper (envOfC ql (defScope st) s.heap.objs.size f cdv)) → B.guards = some [] → sp vs H Q E →
      ∃ t, PSs (cxOf CX0 P w K mg base N ql (defScope st) f cdv B outer s H E).nox (defBody st) t ∧ t { nx := fun _ H' => Q .non H', rt := Q } (start N vs) H) : FnG P w K mg base CX0 (k + 1) f fd ps sp := by
  obtain ⟨_, _, _, _, _, _, cdv, _, _, rfl, there, cdk⟩ := F.ex
  refine fnG_of there cdk S cnt fun B outer s H vs Q E hr gd want => ?_
  obtain ⟨t, der, rd⟩ := body cdv B outer s H vs Q E hr gd want
  exact ⟨t, der.nox, rd⟩

/-! ## a call of such a def -/
section
variable {X : Cx} {CX : CXT} {k : Nat} {f C : Addr} {fd : FuncData} {ps : List Str} {sp : Sp} {dvs : List V} {ds : List Value} {E : XK} {x m : Str} {p pos apos : Pos} {e o : Expr} {es : List Expr} {ta : TE} {t : TA}
theorem goG {pins : List (Addr × Obj)} {σ : L2.St} {H : Hp} {s : Shared} {Q : VK} {us : List Value} {vs : List V} (F : FnG X.prog X.w X.K X.mg X.base CX k f fd ps sp) (hr : Room k X.A) (gd : X.A.guards = some []) (hb : Binds X.K fd ps ds) (hd : Vals dvs ds) (hx : Passes CX X E)
    (J : Inv X pins σ H s) (r : Vals vs us) (want : sp (vs ++ dvs) H Q E) : wpAny (model X.prog X.w) X.A (call (.ref f) us) (EP X pins σ Q) X.xe s := by
  have r2 := Vals.append r hd
  have many : (us ++ ds).length = ps.length := r2.length.symm.trans (F.cnt _ _ _ _ want)
  refine wpAny_call (codeAny_mono (F.go _ _ _ _ _ _ _ Q E hr gd J.env0 (hb s us J.kIn many) r2 want) fun rs s' got => ?_)
  cases rs with
  | error e => exact hx _ _ _ _ _ _ J got
  | ok fl => cases fl with
    | ret u => exact J.after got
    | next => cases got
    | brk => cases got
    | cont => cases got
theorem pe_callG (F : FnG X.prog X.w X.K X.mg X.base CX k f fd ps sp) (hr : Room k X.A) (gd : X.A.guards = some []) (hg : Gl X x) (hm : X.mg x = some (.ref f)) (hk : PySem.W.keepIn X.K (.ref f) = true) (hb : Binds X.K fd ps ds) (hd : Vals dvs ds) (hx : Passes CX X E)
    (ha : PA X (e :: es) t) (hdb : (x == ("__debug__" : Str)) = false := by decide) (st : starEach (e :: es) X.env = (false, eval e X.env) :: starEach es X.env := by rfl) (pl : (backTo pos (starEach es X.env)).any (·.1) = false := by rfl) :
    PE X (.Call (.Name x p) (e :: es) [] pos) (tCall sp dvs E t) := ⟨fun pins s σ H Q J h =>
  wpAny_Call_Name_kw (ld_glob J hg hm (PySem.W.callWith_K (h₀ := X.base) J.ok.mod.kin hk (thn (ha.run pos pins s σ H _ J h) fun us s1 z => by
    obtain ⟨vs, H1, J1, r, want⟩ := z
    exact ⟨J1.kIn, goG F hr gd hb hd hx J1 r want⟩) st pl) hdb)⟩
end

/-! ## f(k = v, ..) with keywords alone -/
section
variable {X : Cx} {CX : CXT} {k : Nat} {f : Addr} {fd : FuncData} {ps ks : List Str} {sp : Sp} {E : XK} {x : Str} {p pos : Pos} {kws : List Keyword} {tk : TA} {g : List Value → List Value → List Value} {gV : List V → List V → List V}
def tCallK0 (sp : Sp) (gV : List V → List V → List V) (E : XK) (tk : TA) : TE := fun σ H Q => tk σ H fun zs H2 => sp (gV [] zs) H2 Q E
theorem pe_callK0 (F : FnOk X.prog X.w X.K X.mg X.base CX k f fd ps sp) (hr : Room k X.A) (hg : Gl X x) (hm : X.mg x = some (.ref f)) (hk : PySem.W.keepIn X.K (.ref f) = true) (hb : KBinds X.K fd ps ks g gV) (hx : Passes CX X E)
    (hkw : PK X kws tk) (named : (backToKw pos (keywordEach kws X.env)).all (·.1.isSome) = true := by rfl) (told : (backToKw pos (keywordEach kws X.env)).filterMap (·.1) = ks := by rfl)
    (hdb : (x == ("__debug__" : Str)) = false := by decide) (pl : ((backTo pos (starEach [] X.env)).any (·.1) || (backToKw pos (keywordEach kws X.env)).any (·.1.isNone)) = false := by rfl) :
    PE X (.Call (.Name x p) [] kws pos) (tCallK0 sp gV E tk) := ⟨fun pins s σ H Q J h =>
  wpAny_Call_Name_kw (ld_glob J hg hm (PySem.W.callWith_KW0 (h₀ := X.base) J.ok.mod.kin hk named (thn (hkw.run pos pins s σ H _ J h) fun ws s2 z => by
    obtain ⟨zs, H2, J2, rz, want⟩ := z
    rw [told]
    exact ⟨J2.kIn, run_fnk (us := []) (vs := []) F hr hb hx J2 .nil rz want⟩) pl) hdb)⟩
end

/-! ## repr of data made of lists and tuples -/
def cRepr (K : PySem.W.Frag) : List V → Hp → VK → Prop := fun xs H Q => ∃ a d, xs = [.ref a] ∧ Dp K H (.ref a) d ∧ d.showable = true ∧ d.hasDict = false ∧ d.depth ≤ 40 ∧ d.shown.length ≤ sizeLine ∧ Q (.str d.shown) H
theorem c_repr {X : Cx} (gd : X.A.guards = some []) (hu : X.A.units + 64 < cLine) : CallR X (.builtin "repr") (cRepr X.K) := by
  intro pins s σ H xs us Q J r h
  obtain ⟨a, d, rfl, dp, h1, h2, h3, h4, q⟩ := h
  obtain ⟨u, rfl, ru⟩ := vals1 r
  cases (show u = Value.ref a from ru)
  obtain ⟨as, rd⟩ := Dp.reads J d _ _ dp rfl
  exact repr_of_reads' rd h1 (PyData.noDict_hsm h2) gd (by omega) (fun _ _ e => e) (fun h' u tk hk => ⟨.str d.shown, H, J.kept hk, ⟨_, rfl⟩, q⟩) h4

/-! ## the end of a law whose promise wants that no repr is under way -/
theorem callG {P : Program} {w : World} {K : PySem.W.Frag} {mg mb : Str → Option Value} {CX : CXT} {k : Nat} {fa a : Addr} {fd : FuncData} {x : Str} {sp : Sp} {s : Shared} {us : List Value} {ns : List Int}
    (KX : K.In s.heap) (gl : s.heap.Ns mainGlobals mg) (bl : s.heap.Ns builtinsNs mb) (bb : ∀ x : Str, x ≠ "__name__" → mb x = bootBuiltins x) (nl : s.heap.NoLimit) (ng : s.gens = #[])
    (at_ : s.heap.get? a = some { cls := .type "list", data := .seq us.toArray }) (hi : IntsAre us ns) (hl : ns.length ≤ sizeLine) (hr : Room k callerA)
    (F : ∀ base : Heap, K.In base → base.Ns mainGlobals mg → FnG P w K mg base CX k fa fd [x] sp) (bnd : ∀ (s : Shared) (u : Value), BindsTo s fd ⟨[u], []⟩ [(x, u)])
    (want : ∀ H : Hp, Only H → SqL K H a (ns.map V.int) → sp [.ref a] H (fun v _ => v = .bl true) fun _ _ _ => False) (noX : ∀ H e s', CX [] H s (fun _ _ _ => False) e s' → False) :
    codeAny (model P w) callerA (.call (.ref fa) ⟨[.ref a], []⟩) (fun r s' => r = .ok (.ret (.bool true)) ∧ OldK s.heap s'.heap ∧ s'.os = s.os ∧ AllBare s'.gens) s := by
  have rel : Vals (ns.map V.int) us := vals_ints hi
  have many : (ns.map V.int).length = us.length := rel.length
  -- which objects are told: none, or the script alone
  obtain ⟨H, only, seq, ok, just, out⟩ : ∃ H : Hp, Only H ∧ SqL K H a (ns.map V.int) ∧ HOk P w H s.heap ∧ (∀ b, (H b).isSome = true → b = a) ∧ ((H a).isSome = true → K.lookup a = none) := by
    cases there : K.lookup a with
    | some o =>
      have e := KX a o there
      rw [at_] at e
      cases e
      refine ⟨fun _ => none, fun _ => .inl rfl, .inr ⟨_, us.toArray, _, there, rfl, rfl, rfl, ?_, by simpa using rel⟩, ?_, ?_, ?_⟩
      · simp only [List.size_toArray]
        rw [List.length_map] at many
        omega
      · intro b u e
        cases (show (none : Option HO) = some u from e)
      · intro b e
        cases (show false = true from e)
      · intro e
        cases (show false = true from e)
    | none =>
      refine ⟨fun b => if b = a then some (.frz { cls := .type "list", data := .seq us.toArray } (.lst (ns.map V.int))) else none, fun b => ?_, .inl (.inr ⟨_, if_pos rfl⟩), fun b u e => ?_, fun b e => ?_, fun _ => rfl⟩
      · by_cases c : b = a
        · exact .inr ⟨_, _, if_pos c⟩
        · exact .inl (if_neg c)
      · by_cases c : b = a
        · cases c
          have e' := (if_pos rfl).symm.trans e
          cases e'
          exact ⟨at_, (by rw [List.length_map]; exact hl), us, _, rel, at_⟩
        · have e' := (if_neg c).symm.trans e
          cases e'
      · by_cases c : b = a
        · exact c
        · simp [c] at e
  have hid : ∀ {b : Addr} {o : Obj}, s.heap.get? b = some o → H b = none → (hidT s.heap H).get? b = some o := fun e n => hidT_get e n
  have noneOf : ∀ {b : Addr} {o : Obj} {es : Array DictEntry} {ep : Nat}, s.heap.get? b = some o → o.data = .dict es ep → H b = none := fun {b o es ep} e d => by
    cases c : H b with
    | none => rfl
    | some u =>
      have z := just b (by rw [c]; rfl)
      rw [z, at_] at e
      cases e
      exact nomatch (show Data.seq us.toArray _ = Data.dict es ep from d)
  have dictK : ∀ {b : Addr} {m : Str → Option Value}, s.heap.Ns b m → (hidT s.heap H).Ns b m := fun {b m} z => by
    obtain ⟨o, es, ep, e, d, r⟩ := z
    exact ⟨o, es, ep, hid e (noneOf e d), d, r⟩
  have KB : K.In (hidT s.heap H) := fun b o e => hid (KX b o e) (by
    cases c : H b with
    | none => rfl
    | some u =>
      have c' : (H b).isSome = true := by rw [c]; rfl
      have z := just b c'
      cases z
      rw [out c'] at e
      cases e)
  have md : Mod K mg (hidT s.heap H) := by
    obtain ⟨mc, n1, n2⟩ := nl
    exact ⟨KB, dictK gl, ⟨mb, dictK bl, bb⟩, ⟨mc, dictK n1, n2⟩⟩
  have z0 : Env0 P w K mg (hidT s.heap H) callerA [] s H := ⟨rfl, md, fun b o e => of_hidT e, by rw [hidT_size]; exact Nat.le_refl _, True.intro, (fun b z => absurd (show b ∈ ([] : List Addr) from z) (by simp)), ok, .of_eq ng⟩
  refine codeAny_mono ((F _ KB (dictK gl)).go callerA [] s H ⟨[.ref a], []⟩ [.ref a] [.ref a] _ _ hr rfl z0 (bnd s (.ref a)) (.cons rfl .nil) (want H only seq)) fun r s' got => ?_
  cases r with
  | error e => exact (noX H e s' got).elim
  | ok fl => cases fl with
    | next => cases got
    | brk => cases got
    | cont => cases got
    | ret u =>
      obtain ⟨v, H', same, bare, un, ok', rv, q⟩ := got
      cases (show v = .bl true from q)
      cases (show u = Value.bool true from rv)
      refine ⟨rfl, OldK.of_keep fun b o e => ?_, same, bare⟩
      rcases only b with c | ⟨ob, xs, c⟩
      · exact un.keep b o e c (fun z => absurd (show b ∈ ([] : List Addr) from z) (by simp)) (by simp)
      · have e1 := (ok b _ c).1
        have e2 := (ok' b _ (un.frzs b ob _ c)).1
        rw [e1] at e
        cases e
        exact e2

/-- the goal that the head leaves, from such a promise -/
theorem walkG {l : PySem.W.OpenLaw} {n k : Nat} {q : Program} {loose : List Str} {XP : (Str → Option Value) → Heap → Prop} {YP : World → Heap → Prop} {d : DefRec} {K : Params → PySem.W.Frag} {CX : World → CXT} {sp : World → Sp} {x : Str}
    (hn : l.most = some n) (n2 : n ≤ sizeLine) (hdf : d.params.defaults = []) (hr : Room k callerA) (hY : ∀ (w : World) (h : Heap), YP w h → (K w.params).In h)
    (F : ∀ (w : World) (mg : Str → Option Value) (fa : Addr) (h : Heap), (K w.params).In h → h.Ns mainGlobals mg → mg d.name = some (.ref fa) →
      ∃ fd : FuncData, (∀ (s : Shared) (u : Value), BindsTo s fd ⟨[u], []⟩ [(x, u)]) ∧ ∀ base : Heap, (K w.params).In base → base.Ns mainGlobals mg → FnG l.prog w (K w.params) mg base (CX w) k fa fd [x] (sp w))
    (want : ∀ (w : World) (H : Hp) (a : Addr) (ns : List Int), ns.length ≤ n → Only H → SqL (K w.params) H a (ns.map V.int) → sp w [.ref a] H (fun v _ => v = .bl true) fun _ _ _ => False)
    (noX : ∀ (w : World) (H : Hp) (s : Shared) (e : Value) (s' : Shared), CX w [] H s (fun _ _ _ => False) e s' → False) : PySem.W.WalkO q loose XP YP l.row.toRowW d [] (fun f vs => PySem.call f vs) :=
  Att.attach_call hn hdf fun w _ s1 mg mb fa _ _ _ _ a us ns G Y _ _ _ hmg at_ hin many ng => by
    obtain ⟨fd, bnd, ok⟩ := F w mg fa _ (hY w _ Y) G.T.g hmg
    exact callG (hY w _ Y) G.T.g G.T.b G.T.builtins G.T.nolimit ng at_ hin (Nat.le_trans many n2) hr ok bnd (fun H o c => want w H a ns many o c) fun H e s' => noX w H s1 e s'
end NK

namespace NK
open PySem PySem.Spec L2

/-! ## one step of a reading, from outside -/
section
variable {K : PySem.W.Frag} {σ : L2.St} {H : Hp} {Q : VK} {QT : Bool → Hp → Prop} {QA : List V → Hp → Prop} {te ta tb tc : TE} {t u : TT} {tr : TA} {v x y : V} {r r' : R2} {D : Ends} {s1 s2 : TS} {g : TG} {i j : Int} {b : Bool}
theorem w_var {n : Nat} (h : σ[n]? = some (some v)) (q : Q v H) : tVar n σ H Q := ⟨v, h, q⟩
theorem w_c (q : Q v H) : tC v σ H Q := q
theorem w_op (q : ta σ H fun x H1 => tb σ H1 fun y H2 => r x y H2 Q) : tOp r ta tb σ H Q := q
theorem w_un {f : V → Hp → VK → Prop} (q : ta σ H fun x H1 => f x H1 Q) : tUn f ta σ H Q := q
theorem w_add (q : Q (.int (i + j)) H) : rAdd (.int i) (.int j) H Q := ⟨i, j, rfl, rfl, q⟩
theorem w_sub (q : Q (.int (i - j)) H) : rSub (.int i) (.int j) H Q := ⟨i, j, rfl, rfl, q⟩
theorem w_mul (h : CMul i j) (q : Q (.int (i * j)) H) : rMul (.int i) (.int j) H Q := ⟨i, j, rfl, rfl, h, q⟩
theorem w_pow (h : CPow i j) (q : Q (.int (i ^ j.toNat)) H) : rPow (.int i) (.int j) H Q := ⟨i, j, rfl, rfl, h, q⟩
theorem w_mod (h : 0 < j) (q : Q (.int (i % j)) H) : rMod (.int i) (.int j) H Q := ⟨i, j, rfl, rfl, h, q⟩
theorem w_div (h : CDivW i j) (q : Q (.int (i / j)) H) : rDiv (.int i) (.int j) H Q := ⟨i, j, rfl, rfl, h, q⟩
theorem w_neg (q : Q (.int (-i)) H) : rNeg (.int i) H Q := ⟨i, rfl, q⟩
theorem w_lt (q : Q (.bl (decide (i < j))) H) : rLt (.int i) (.int j) H Q := ⟨i, j, rfl, rfl, q⟩
theorem w_le (q : Q (.bl (decide (i ≤ j))) H) : rLe (.int i) (.int j) H Q := ⟨i, j, rfl, rfl, q⟩
theorem w_gt (q : Q (.bl (decide (j < i))) H) : rGt (.int i) (.int j) H Q := ⟨i, j, rfl, rfl, q⟩
theorem w_ge (q : Q (.bl (decide (j ≤ i))) H) : rGe (.int i) (.int j) H Q := ⟨i, j, rfl, rfl, q⟩
theorem w_eqI (q : Q (.bl (decide (i = j))) H) : rEq (.int i) (.int j) H Q := ⟨rfl, by rw [dec_int, ← Bool.beq_eq_decide_eq] at *; exact q⟩
theorem w_neI (q : Q (.bl (!decide (i = j))) H) : rNe (.int i) (.int j) H Q := ⟨rfl, by rw [dec_int, ← Bool.beq_eq_decide_eq] at *; exact q⟩
theorem w_eqB {c d : Bool} (q : Q (.bl (c == d)) H) : rEq (.bl c) (.bl d) H Q := ⟨rfl, by rw [dec_bl]; exact q⟩
theorem w_neB {c d : Bool} (q : Q (.bl (!(c == d))) H) : rNe (.bl c) (.bl d) H Q := ⟨rfl, by rw [dec_bl]; exact q⟩
theorem w_eqS {c d : Str} (q : Q (.bl (c == d)) H) : rEq (.str c) (.str d) H Q := ⟨rfl, by rw [dec_str]; exact q⟩
theorem w_neS {c d : Str} (q : Q (.bl (!(c == d))) H) : rNe (.str c) (.str d) H Q := ⟨rfl, by rw [dec_str]; exact q⟩
theorem w_isNo (q : Q (.bl (decide (x = .non))) H) : rIsNo x .non H Q := ⟨rfl, q⟩
theorem w_notNo (q : Q (.bl (!decide (x = .non))) H) : rNotNo x .non H Q := ⟨rfl, q⟩
theorem w_test (q : te σ H fun x H' => ∃ k, x = .bl k ∧ QT k H') : tTest te σ H QT := q
theorem w_tB (q : te σ H fun x H' => ∃ k, x = .bl k ∧ QT k H') : tB te σ H QT := q
theorem w_bl (q : QT b H) : ∃ k, V.bl b = .bl k ∧ QT k H := ⟨b, rfl, q⟩
theorem w_not (q : t σ H fun c H1 => QT (!c) H1) : tNot t σ H QT := q
theorem w_and (q : t σ H fun c H1 => if c = true then u σ H1 QT else QT false H1) : tAnd t u σ H QT := q
theorem w_or (q : t σ H fun c H1 => if c = true then QT true H1 else u σ H1 QT) : tOr t u σ H QT := q
theorem w_andV (q : ta σ H fun x H1 => ∃ c, x = .bl c ∧ if c = true then tb σ H1 Q else Q (.bl false) H1) : tAndV ta tb σ H Q := q
theorem w_orV (q : ta σ H fun x H1 => ∃ c, x = .bl c ∧ if c = true then Q (.bl true) H1 else tb σ H1 Q) : tOrV ta tb σ H Q := q
theorem w_notV (q : ta σ H fun x H1 => ∃ c, x = .bl c ∧ Q (.bl (!c)) H1) : tNotV ta σ H Q := q
theorem w_if (q : t σ H fun c H1 => if c = true then ta σ H1 Q else tb σ H1 Q) : tIf t ta tb σ H Q := q
theorem w_nil (q : QA [] H) : tNil σ H QA := q
theorem w_cons (q : ta σ H fun x H1 => tr σ H1 fun xs H2 => QA (x :: xs) H2) : tCons ta tr σ H QA := q
theorem w_cb {f : List V → Hp → VK → Prop} (q : tr σ H fun vs H1 => f vs H1 Q) : tCB f tr σ H Q := q
theorem w_call {sp : Sp} {E : XK} (q : tr σ H fun vs H1 => sp vs H1 Q E) : tCall sp [] E tr σ H Q := by
  have e : ∀ vs : List V, vs ++ [] = vs := fun vs => List.append_nil vs
  unfold tCall
  simp only [e]
  exact q
theorem w_callK {sp : Sp} {E : XK} {f : List V → List V → List V} {tk : TA} (q : tr σ H fun vs H1 => tk σ H1 fun zs H2 => sp (f vs zs) H2 Q E) : tCallK sp f E tr tk σ H Q := q
theorem w_callK0 {sp : Sp} {E : XK} {f : List V → List V → List V} {tk : TA} (q : tk σ H fun zs H2 => sp (f [] zs) H2 Q E) : tCallK0 sp f E tk σ H Q := q
theorem w_tup (q : tr σ H fun xs H1 => xs.length ≤ sizeLine ∧ ∀ p, H1 p = none → Q (.ref p) (upd H1 p (.tup xs))) : tTup tr σ H Q := q
theorem w_lst (q : tr σ H fun xs H1 => xs.length ≤ sizeLine ∧ ∀ p, H1 p = none → Q (.ref p) (upd H1 p (.lst xs))) : tLst tr σ H Q := q
theorem w_new {o : HO} (q : ∀ p H1, H p = none → Ext H H1 → H1 p = some o → (∀ b, b ≠ p → H1 b = H b) → Q (.ref p) H1) : ∀ p, H p = none → Q (.ref p) (upd H p o) := fun p hp => q p _ hp (.put hp) upd_same fun _ h => upd_ne h
theorem w_newS {o : HO} {n : Nat} (h : n ≤ 1000) (q : ∀ p H1, H p = none → Ext H H1 → H1 p = some o → (∀ b, b ≠ p → H1 b = H b) → Q (.ref p) H1) : n ≤ sizeLine ∧ ∀ p, H p = none → Q (.ref p) (upd H p o) := ⟨Nat.le_trans h (by decide), w_new q⟩
theorem w_len {p : Addr} {xs : List V} (h : SqL K H p xs ∨ SqT K H p xs) (q : Q (.int xs.length) H) : cLen K [.ref p] H Q := ⟨p, xs, rfl, h, q⟩
theorem w_abs (q : Q (.int (if i < 0 then -i else i)) H) : cAbs [.int i] H Q := ⟨i, rfl, q⟩
theorem w_max (q : Q (.int (if j > i then j else i)) H) : cMax [.int i, .int j] H Q := ⟨i, j, rfl, q⟩
theorem w_int (q : Q (.int i) H) : cInt [.int i] H Q := .inl ⟨i, rfl, q⟩
theorem w_intB (q : Q (.int (if b then 1 else 0)) H) : cInt [.bl b] H Q := .inr ⟨b, rfl, q⟩
theorem w_tupleL {p : Addr} {xs : List V} (h : SqL K H p xs) (q : ∀ l, H l = none → Q (.ref l) (upd H l (.tup xs))) : cTuple K [.ref p] H Q := ⟨p, xs, rfl, .inl ⟨h, q⟩⟩
theorem w_tupleT {p : Addr} {xs : List V} (h : SqT K H p xs) (q : Q (.ref p) H) : cTuple K [.ref p] H Q := ⟨p, xs, rfl, .inr ⟨h, q⟩⟩
theorem w_ixL {p : Addr} {xs : List V} (h : SqL K H p xs) (a : atI xs i = some v) (q : Q v H) : rIx K (.ref p) (.int i) H Q := .inl ⟨p, xs, i, v, rfl, rfl, h, a, q⟩
theorem w_ixT {p : Addr} {xs : List V} (h : SqT K H p xs) (a : atI xs i = some v) (q : Q v H) : rIx K (.ref p) (.int i) H Q := .inr (.inl ⟨p, xs, i, v, rfl, rfl, h, a, q⟩)
theorem w_ix {p : Addr} {xs : List V} (h : SqL K H p xs ∨ SqT K H p xs) (a : atI xs i = some v) (q : Q v H) : rIx K (.ref p) (.int i) H Q := h.elim (fun h => w_ixL h a q) fun h => w_ixT h a q
theorem w_all {p : Addr} {bs : List Bool} (h : SqL K H p (bs.map V.bl)) (q : Q (.bl (bs.all id)) H) : rAll K [.ref p] H Q := ⟨p, bs, rfl, h, q⟩
theorem w_repr {p : Addr} {d : PyData} (h : Dp K H (.ref p) d) (h1 : d.showable = true) (h2 : d.hasDict = false) (h3 : d.depth ≤ 40) (h4 : d.shown.length ≤ sizeLine) (q : Q (.str d.shown) H) : cRepr K [.ref p] H Q := ⟨p, d, rfl, h, h1, h2, h3, h4, q⟩
theorem w_eqD {d e : PyData} (h1 : Dp K H x d) (h2 : Dp K H y e) (h3 : SeqAt.shaped d = true) (h4 : SeqAt.shaped e = true) (q : Q (.bl (PyData.eqv d e)) H) : rEqD K x y H Q := ⟨d, e, h1, h2, h3, h4, q⟩
theorem w_neD {d e : PyData} (h1 : Dp K H x d) (h2 : Dp K H y e) (h3 : SeqAt.shaped d = true) (h4 : SeqAt.shaped e = true) (q : Q (.bl (!PyData.eqv d e)) H) : rNeD K x y H Q := ⟨d, e, h1, h2, h3, h4, q⟩
theorem w_cat {l p : Addr} {xs ys : List V} (h1 : H l = some (.lst xs)) (h2 : H p = some (.lst ys)) (hs : xs.length + ys.length ≤ 1000) (q : ∀ p, H p = none → Q (.ref p) (upd H p (.lst (xs ++ ys)))) : rCat (.ref l) (.ref p) H Q := ⟨l, p, xs, ys, rfl, rfl, h1, h2, Nat.le_trans hs (by decide), q⟩
/-! statements -/
theorem w_seq (q : s1 { D with nx := s2 D } σ H) : tSeq s1 s2 D σ H := q
theorem w_nx (q : D.nx σ H) : tNext D σ H := q
theorem w_ifS (q : t σ H fun b H1 => if b = true then s1 D σ H1 else s2 D σ H1) : tIfS t s1 s2 D σ H := q
theorem w_ret (q : te σ H D.rt) : tRet te D σ H := q
theorem w_retN (q : D.rt .non H) : tRetN D σ H := q
theorem w_asg (q : te σ H fun x H1 => g x σ H1 D.nx) : tAsg te g D σ H := q
theorem w_gName {n : Nat} {N : L2.St → Hp → Prop} (q : N (σ.set n (some v)) H) : gName n v σ H N := q
theorem w_drop (q : te σ H fun _ H1 => D.nx σ H1) : tDrop te D σ H := q
theorem w_par {n m : Nat} (q : tr σ H fun vs H1 => ∃ v w, vs = [v, w] ∧ D.nx ((σ.set n (some v)).set m (some w)) H1) : tPar n m tr D σ H := q
theorem w_par2 {n m : Nat} {w : V} {N : L2.St → Hp → Prop} (q : N ((σ.set n (some v)).set m (some w)) H) : ∃ v' w', [v, w] = [v', w'] ∧ N ((σ.set n (some v')).set m (some w')) H := ⟨v, w, rfl, q⟩
theorem w_gSub {to ti : TE} {ts : V → V → V → Hp → (Hp → Prop) → Prop} {N : L2.St → Hp → Prop} (q : to σ H fun o H1 => ti σ H1 fun i H2 => ts o i v H2 fun H3 => N σ H3) : gSub to ti ts v σ H N := q
theorem w_setL {p : Addr} {xs : List V} {n : Nat} {N : Hp → Prop} (h : H p = some (.lst xs)) (hj : ixN xs.length i = some n) (q : N (upd H p (.lst (xs.set n v)))) : rSetL (.ref p) (.int i) v H N := ⟨p, xs, i, n, rfl, rfl, h, hj, q⟩
theorem w_gTup {n : Nat} {tg : TGs} {p : Addr} {xs : List V} {N : L2.St → Hp → Prop} (h : SqT K H p xs) (hl : xs.length = n) (q : tg xs σ H N) : gTup K n tg (.ref p) σ H N := ⟨p, xs, rfl, h, hl, q⟩
theorem w_gCons {tg : TGs} {xs : List V} {N : L2.St → Hp → Prop} (q : g x σ H fun σ' H' => tg xs σ' H' N) : gCons g tg (x :: xs) σ H N := ⟨x, xs, rfl, q⟩
theorem w_gNil {N : L2.St → Hp → Prop} (q : N σ H) : gNil [] σ H N := ⟨rfl, q⟩
theorem w_sl {rs : V → Option Int → Option Int → Hp → VK → Prop} {tl th : TO} (q : te σ H fun x H1 => tl σ H1 fun lo H2 => th σ H2 fun hi H3 => rs x lo hi H3 Q) : tSl rs te tl th σ H Q := q
theorem w_noPart {QO : Option Int → Hp → Prop} (q : QO none H) : tNoPart σ H QO := q
theorem w_part {QO : Option Int → Hp → Prop} (q : te σ H fun x H1 => ∃ i, x = .int i ∧ QO (some i) H1) : tPart te σ H QO := q
theorem w_partI {QO : Option Int → Hp → Prop} (q : QO (some i) H) : ∃ j, V.int i = .int j ∧ QO (some j) H := ⟨i, rfl, q⟩
theorem w_slL {p : Addr} {xs : List V} {lo hi : Option Int} (h : SqL K H p xs) (q : ∀ p, H p = none → Q (.ref p) (upd H p (.lst (cutV xs lo hi)))) : rSlL K (.ref p) lo hi H Q := ⟨p, xs, rfl, h, q⟩
theorem w_yes (q : QT true H) : tYes σ H QT := q
/-- which way -/
theorem w_t {P R : Prop} (q : P) : if true = true then P else R := by rw [if_pos rfl]; exact q
theorem w_f {P R : Prop} (q : R) : if false = true then P else R := by rw [if_neg Bool.false_ne_true]; exact q
theorem w_both {P R : Prop} (h1 : b = true → P) (h2 : b = false → R) : if b = true then P else R := by
  cases b with
  | true => exact w_t (h1 rfl)
  | false => exact w_f (h2 rfl)
/-- an if's two ways, joined in one value -/
theorem w_andB {c d : Bool} (q : Q (.bl (c && d)) H) (h : ∀ (R : VK), R (.bl d) H → tb σ H R) : ∃ k, V.bl c = .bl k ∧ if k = true then tb σ H Q else Q (.bl false) H := ⟨c, rfl, w_both (fun e => by subst e; exact h Q q) fun e => by subst e; exact q⟩
end

/-! ## what is told of an address, some steps later -/
theorem f_l {K : PySem.W.Frag} {H H' : Hp} {a : Addr} {xs : List V} (h : SqL K H a xs) (x : Ext H H') : SqL K H' a xs := x.sqL h
end NK
local macro_rules | `(tactic| walk_at "nk1") => `(tactic| (first
  | with_reducible refine NK.w_var rfl ?_
  | with_reducible refine NK.w_c ?_
  | with_reducible refine NK.w_op ?_
  | with_reducible refine NK.w_un ?_
  | with_reducible refine NK.w_cb ?_
  | with_reducible refine NK.w_cons ?_
  | with_reducible refine NK.w_nil ?_))

namespace NK
open PySem PySem.Spec L2

/-! ## any value -/
def isIB : V → Bool
  | .int _ => true | .bl _ => true | _ => false
def isB : V → Bool
  | .bl _ => true | _ => false
def isI : V → Bool
  | .int _ => true | _ => false
theorem isI_eq (v : V) : (isIB v && !isB v) = isI v := by cases v <;> rfl
/-- any value; some xs: a list or a tuple of these -/
inductive AnyV (K : PySem.W.Frag) (H : Hp) : V → Option (List V) → Prop where
  | lst {a : Addr} {xs : List V} : SqL K H a xs → AnyV K H (.ref a) (some xs)
  | tup {a : Addr} {xs : List V} : SqT K H a xs → AnyV K H (.ref a) (some xs)
  | oth {v : V} {t : Value} : TyX K H v t → PySem.W.kitOne K t (.type "int") = some (isIB v) → PySem.W.kitOne K t (.type "bool") = some (isB v) → PySem.W.kitAny K t [.type "list", .type "tuple"] = some false → AnyV K H v none
theorem k_ll {K : PySem.W.Frag} : PySem.W.kitAny K (.type "list") [.type "list", .type "tuple"] = some true := kitAny_cons (b := true) (kit_ty (by decide +kernel)) (fun z => nomatch z) fun _ => rfl
theorem k_tt {K : PySem.W.Frag} : PySem.W.kitAny K (.type "tuple") [.type "list", .type "tuple"] = some true := kitAny_cons (b := false) (kit_ty (by decide +kernel)) (fun _ => kitAny_cons (b := true) (kit_ty (by decide +kernel)) (fun z => nomatch z) fun _ => rfl) fun z => nomatch z
theorem k_no {K : PySem.W.Frag} {t : String} (h1 : kitB t "list" = some false) (h2 : kitB t "tuple" = some false) : PySem.W.kitAny K (.type t) [.type "list", .type "tuple"] = some false :=
  kitAny_cons (b := false) (kit_ty h1) (fun _ => kitAny_cons (b := false) (kit_ty h2) (fun _ => kitAny_nil) fun z => nomatch z) fun z => nomatch z
section
variable {K : PySem.W.Frag} {H H' : Hp} {v : V} {s : Option (List V)} {a : Addr} {xs : List V}
theorem ty_L (h : SqL K H a xs) : TyX K H (.ref a) (.type "list") := by
  rcases h with (h | ⟨o, h⟩) | ⟨o, its, n, k, c, _⟩
  · exact .base (.lst h)
  · exact .base (.frz h)
  · exact .kList k c
theorem ty_T (h : SqT K H a xs) : TyX K H (.ref a) (.type "tuple") := by
  rcases h with (h | ⟨o, h⟩) | ⟨o, its, n, k, c, _⟩
  · exact .base (.tup h)
  · exact .fTuple h
  · exact .kTuple k c
theorem AnyV.int (i : Int) : AnyV K H (.int i) none := .oth (.base (.int i)) (kit_ty (show kitB "int" "int" = some true by decide +kernel)) (kit_ty (show kitB "int" "bool" = some false by decide +kernel)) (k_no (by decide +kernel) (by decide +kernel))
theorem AnyV.bl (b : Bool) : AnyV K H (.bl b) none := .oth (.base (.bl b)) (kit_ty (show kitB "bool" "int" = some true by decide +kernel)) (kit_ty (show kitB "bool" "bool" = some true by decide +kernel)) (k_no (by decide +kernel) (by decide +kernel))
theorem AnyV.non : AnyV K H .non none := .oth (.base .non) (kit_ty (by decide +kernel)) (kit_ty (by decide +kernel)) (k_no (by decide +kernel) (by decide +kernel))
theorem AnyV.str (x : Str) : AnyV K H (.str x) none := .oth (.base (.str x)) (kit_ty (show kitB "str" "int" = some false by decide +kernel)) (kit_ty (show kitB "str" "bool" = some false by decide +kernel)) (k_no (by decide +kernel) (by decide +kernel))
theorem AnyV.dict {kvs : List (Key × V)} (h : H a = some (.dK kvs)) : AnyV K H (.ref a) none := .oth (.base (.dK h)) (kit_ty (show kitB "dict" "int" = some false by decide +kernel)) (kit_ty (show kitB "dict" "bool" = some false by decide +kernel)) (k_no (by decide +kernel) (by decide +kernel))
theorem ty_ext {t : Value} (x : Ext H H') (h : TyX K H v t) : TyX K H' v t := by
  cases h with
  | base b => cases b with
    | non => exact .base .non
    | bl b => exact .base (.bl b)
    | int i => exact .base (.int i)
    | str y => exact .base (.str y)
    | flt y => exact .base (.flt y)
    | lst e => exact .base (.lst (x _ _ e))
    | frz e => exact .base (.frz (x _ _ e))
    | tup e => exact .base (.tup (x _ _ e))
    | dK e => exact .base (.dK (x _ _ e))
    | dT e => exact .base (.dT (x _ _ e))
    | ins e c h1 h2 h3 h4 => exact .base (.ins (x _ _ e) c h1 h2 h3 h4)
  | byt b => exact .byt b
  | set e => exact .set (x _ _ e)
  | kList k c => exact .kList k c
  | kTuple k c => exact .kTuple k c
  | kDict k c => exact .kDict k c
  | fTuple e => exact .fTuple (x _ _ e)
  | fDict e => exact .fDict (x _ _ e)
theorem AnyV.ext (x : Ext H H') (h : AnyV K H v s) : AnyV K H' v s := by
  cases h with
  | lst h => exact .lst (x.sqL h)
  | tup h => exact .tup (x.sqT h)
  | oth t h1 h2 h3 => exact .oth (ty_ext x t) h1 h2 h3
/-- all items are any values -/
def AnyVs (K : PySem.W.Frag) (H : Hp) (xs : List V) : Prop := ∀ x ∈ xs, ∃ s, AnyV K H x s
theorem AnyVs.ext (x : Ext H H') (h : AnyVs K H xs) : AnyVs K H' xs := fun y m => (h y m).elim fun s q => ⟨s, q.ext x⟩
/-- any value whose items are any values -/
def AnyD (K : PySem.W.Frag) (H : Hp) (v : V) (s : Option (List V)) : Prop := AnyV K H v s ∧ ∀ xs, s = some xs → AnyVs K H xs
theorem AnyD.ext (x : Ext H H') (h : AnyD K H v s) : AnyD K H' v s := ⟨h.1.ext x, fun xs e => (h.2 xs e).ext x⟩
theorem AnyD.flat (h : AnyV K H v none) : AnyD K H v none := ⟨h, fun _ e => nomatch e⟩

/-! ### isinstance of it -/
variable {Q : VK}
theorem w_isi {t : Value} {n : String} {b : Bool} (h : TyX K H v t) (e : PySem.W.kitOne K t (.type n) = some b) (q : Q (.bl b) H) : rIsi K [v, .ty n] H Q := ⟨v, .ty n, t, .type n, b, rfl, .ty n, h, e, q⟩
theorem w_isInt (h : AnyV K H v s) (q : Q (.bl (isIB v)) H) : rIsi K [v, .ty "int"] H Q := by
  cases h with
  | lst h => exact w_isi (b := false) (ty_L h) (kit_ty (by decide +kernel)) q
  | tup h => exact w_isi (b := false) (ty_T h) (kit_ty (by decide +kernel)) q
  | oth t h1 h2 h3 => exact w_isi t h1 q
theorem w_isBool (h : AnyV K H v s) (q : Q (.bl (isB v)) H) : rIsi K [v, .ty "bool"] H Q := by
  cases h with
  | lst h => exact w_isi (b := false) (ty_L h) (kit_ty (by decide +kernel)) q
  | tup h => exact w_isi (b := false) (ty_T h) (kit_ty (by decide +kernel)) q
  | oth t h1 h2 h3 => exact w_isi t h2 q
theorem two_ty : Paired ClsV [V.ty "list", V.ty "tuple"] [Value.type "list", Value.type "tuple"] := .cons (.ty _) (.cons (.ty _) .nil)
theorem w_isSeq {p : Addr} (h : AnyV K H v s) (hp : H p = some (.tup [.ty "list", .ty "tuple"])) (q : Q (.bl s.isSome) H) : rIsiT K [v, .ref p] H Q := by
  cases h with
  | lst h => exact ⟨_, p, _, _, _, true, rfl, hp, two_ty, ty_L h, k_ll, q⟩
  | tup h => exact ⟨_, p, _, _, _, true, rfl, hp, two_ty, ty_T h, k_tt, q⟩
  | oth t h1 h2 h3 => exact ⟨_, p, _, _, _, false, rfl, hp, two_ty, t, h3, q⟩
theorem AnyV.sq (h : AnyV K H v (some xs)) : ∃ a, v = .ref a ∧ (SqL K H a xs ∨ SqT K H a xs) := by
  cases h with
  | lst h => exact ⟨_, rfl, .inl h⟩
  | tup h => exact ⟨_, rfl, .inr h⟩

/-! ### a comprehension whose items are told one by one -/
variable {te : TE} {tt : TT} {g : TG} {tl : TE} {vs : List Nat} {σ : L2.St}
/-- the walk, once what is walked stands -/
def LcB (K : PySem.W.Frag) (g : TG) (tt : TT) (te : TE) (vs : List Nat) (σ : L2.St) (Q : VK) (x : V) (H : Hp) : Prop := tLc (iSeq K fun _ H' R => R x H') g tt te vs σ H Q
theorem w_lcS (q : tl σ H (LcB K g tt te vs σ Q)) : tLc (iSeq K tl) g tt te vs σ H Q := q
/-- over a list or a tuple, each item giving f of it; nothing else changes -/
theorem w_lc {a : Addr} (f : V → V) (hx : SqL K H a xs ∨ SqT K H a xs) (small : xs.length ≤ 100000) (bind : ∀ (x : V) H1 (N : L2.St → Hp → Prop), N ((wipe σ vs).set (vs.headD 0) (some x)) H1 → g x (wipe σ vs) H1 N)
    (w1 : ∀ x, wipe ((wipe σ vs).set (vs.headD 0) (some x)) vs = wipe σ vs)
    (el : ∀ x ∈ xs, ∀ H1, Ext H H1 → ∀ R : VK, (∀ H2, Ext H1 H2 → R (f x) H2) → te ((wipe σ vs).set (vs.headD 0) (some x)) H1 R)
    (q : ∀ D H', H D = none → Ext H H' → H' D = some (.lst (xs.map f)) → Q (.ref D) H') : LcB K g tYes te vs σ Q (.ref a) H := by
  have line : ∀ i, i < xs.length → i < sizeLine := fun i hi => Nat.lt_of_lt_of_le hi (Nat.le_trans small (by decide))
  -- one turn
  have turn : ∀ (D : Addr) (i : Nat) (x : V) (H1 : Hp) (N : Hp → Prop), H D = none → xs[i]? = some x → Ext H H1 → H1 D = some (.lst ((xs.take i).map f)) → (∀ H2, Ext H H2 → H2 D = some (.lst ((xs.take (i + 1)).map f)) → N H2) →
      g x (wipe σ vs) H1 fun σ2 H2 => wipe σ2 vs = wipe σ vs ∧ tYes σ2 H2 fun b H3 => if b = true then te σ2 H3 fun y H4 => ∃ acc, H4 D = some (.lst acc) ∧ acc.length < sizeLine ∧ N (upd H4 D (.lst (acc ++ [y]))) else N H3 := by
    intro D i x H1 N hD hi e1 h1 n
    refine bind _ _ _ ⟨w1 x, ?_⟩
    refine w_yes (w_t (el x (List.mem_of_getElem? hi) H1 e1 _ fun H2 e2 => ⟨_, e2 _ _ h1, ?_, n _ ?_ ?_⟩))
    · rw [List.length_map]
      have := (List.getElem?_eq_some_iff.mp hi).1
      have : (xs.take i).length ≤ i := by rw [List.length_take]; omega
      exact Nat.lt_of_le_of_lt this (line i (by omega))
    · intro b o e
      rw [upd_ne (ne_of_none e hD)]
      exact e2 _ _ (e1 _ _ e)
    · rw [upd_same, List.take_add_one, hi, List.map_append]
      rfl
  refine ⟨a, rfl, ?_⟩
  rcases hx with hx | hx
  · refine .inl ⟨⟨xs, hx⟩, fun D hD => ?_⟩
    refine lc_list (xs := xs) (fun i H1 => Ext H H1 ∧ H1 D = some (.lst ((xs.take i).map f))) ⟨.put hD, upd_same⟩ (fun i H1 _ p => p.1.sqL hx) (fun i x H1 hi p => ?_) fun H1 p => ?_
    · exact turn D i x H1 _ hD hi p.1 p.2 fun H2 e h => ⟨e, h⟩
    · exact q D H1 hD p.1 (by rw [p.2, List.take_length])
  · refine .inr ⟨⟨xs, hx⟩, fun D hD => ?_⟩
    refine lc_tup (xs := xs) (fun i H1 => Ext H H1 ∧ H1 D = some (.lst ((xs.take i).map f))) ⟨.put hD, upd_same⟩ (fun i H1 _ p => p.1.sqT hx) (fun i x H1 hi p => ?_) fun H1 p => ?_
    · exact turn D i x H1 _ hD hi p.1 p.2 fun H2 e h => ⟨e, h⟩
    · exact q D H1 hD p.1 (by rw [p.2, List.take_length])
end
end NK

namespace NK
open PySem PySem.Spec L2

/-! ## how keywords bind -/
theorem fun_kb {K : PySem.W.Frag} {x ql : Str} {st : Stmt} {f : Addr} {fd : FuncData} {ps ks : List Str} {g : List Value → List Value → List Value} {gV : List V → List V → List V} (F : Fun K x ql st f fd)
    (to : ∀ (kV doc pm : Value) (an : Option Addr) (cdv ct : Value) (us ws : List Value), (g us ws).length = ps.length → bindArgs (PySem.W.fnOf x ql (defArgs st) (defBody st) (defScope st) .none kV doc pm an cdv ct) ⟨us, ks.zip ws⟩ = pure (ps.zip (g us ws)))
    (rel : ∀ {vs : List V} {us : List Value} {zs : List V} {ws : List Value}, Vals vs us → Vals zs ws → Vals (gV vs zs) (g us ws)) : KBinds K fd ps ks g gV := by
  obtain ⟨_, _, kV, doc, pm, an, cdv, ct, _, rfl, _, _⟩ := F.ex
  exact ⟨fun s us ws _ hl => .of_eq (to kV doc pm an cdv ct us ws hl), rel⟩

/-! ## a statement, then the rest: what stands between may be said -/
def tThen (t u : TS) : TS := fun D σ H => ∃ M : L2.St → Hp → Prop, t { D with nx := M } σ H ∧ ∀ σ' H', M σ' H' → u D σ' H'
theorem pss_then {X : Cx} {st : Stmt} {rest : List Stmt} {t u : TS} (a : PS X st t) (b : PSs X rest u) : PSs X (st :: rest) (tThen t u) := by
  refine ⟨fun pins s σ H D J h => ?_⟩
  obtain ⟨M, m, on⟩ := h
  refine wpAny_execs_cons (thn (a.run pins s σ H { D with nx := M } J m) fun fl s1 z => ?_)
  cases fl with
  | next => exact z.elim fun σ' z => z.elim fun H' z => b.run pins s1 σ' H' D z.1 (on _ _ z.2)
  | ret v => exact z
  | brk => exact z
  | cont => exact z
section
variable {D : Ends} {σ : L2.St} {H : Hp} {t u : TS} {te : TE} {g : TG} {tr : TA} {n m : Nat}
theorem w_then (q : t { D with nx := u D } σ H) : tThen t u D σ H := ⟨u D, q, fun _ _ z => z⟩
theorem w_mid (M : L2.St → Hp → Prop) (q : t { D with nx := M } σ H) (k : ∀ σ' H', M σ' H' → u D σ' H') : tThen t u D σ H := ⟨M, q, k⟩
theorem w_thenA (q : tAsg te g { D with nx := u D } σ H) : tThen (tAsg te g) u D σ H := w_then q
theorem w_thenD (q : tDrop te { D with nx := u D } σ H) : tThen (tDrop te) u D σ H := w_then q
theorem w_thenP (q : tPar n m tr { D with nx := u D } σ H) : tThen (tPar n m tr) u D σ H := w_then q
theorem w_thenN (q : u D σ H) : tThen tNext u D σ H := w_then q
end

theorem w_for {wi : TI} {g : TG} {tb : TS} {D : Ends} {σ : L2.St} {H : Hp} (q : wi σ H fun J H1 => ∃ W : Nat → Nat → L2.St → Hp → Prop, (∃ m, W 0 m σ H1) ∧ ∀ i m σ H, W i m σ H → (J.stop i H ∧ D.nx σ H) ∨ (J.go i H ∧ ∃ N : L2.St → Hp → Prop, (∀ σ' H', N σ' H' → ∃ m', m' < m ∧ W (i + 1) m' σ' H') ∧
    ∀ x H', J.yld i H x H' → g x σ H' fun σ2 H2 => tb { D with nx := N, ct := N, bk := D.nx } σ2 H2)) : tFor wi g tb D σ H := q
theorem w_rng1 {ta : TA} {σ : L2.St} {H : Hp} {R : It → Hp → Prop} (q : ta σ H fun vs H1 => ∃ j : Int, vs = [.int j] ∧ -(2 ^ 62) ≤ j ∧ j < 2 ^ 62 ∧ R (Itr 0 j.toNat) H1) : iRng1 ta σ H R := q
/-- for x in range(j), j counted before -/
theorem w_forR1 {g : TG} {tb : TS} {D : Ends} {σ : L2.St} {H : Hp} {ta : TA} {j : Int} (n : Nat) (ha : ∀ R : List V → Hp → Prop, R [.int j] H → ta σ H R) (hj : j = n) (small : n ≤ 1000000) (Pv : Nat → L2.St → Hp → Prop) (h0 : Pv 0 σ H)
    (hs : ∀ (i : Nat) σ' H', i < n → Pv i σ' H' → g (.int (i : Int)) σ' H' fun σ2 H2 => tb { D with nx := Pv (i + 1), ct := Pv (i + 1), bk := D.nx } σ2 H2) (hd : ∀ σ' H', Pv n σ' H' → D.nx σ' H') : tFor (iRng1 ta) g tb D σ H := by
  refine ha _ ⟨j, rfl, by omega, by omega, ?_⟩
  rw [hj, Int.toNat_natCast]
  refine for_range (lo := 0) (n := n) Pv h0 (fun i σ' H' hi p => ?_) hd
  have q := hs i σ' H' hi p
  rw [Int.zero_add]
  exact q
theorem w_tupG {K : PySem.W.Frag} {n : Nat} {tg : TGs} {σ : L2.St} {H : Hp} {p : Addr} {xs : List V} {N : L2.St → Hp → Prop} (h : H p = some (.tup xs)) (hl : xs.length = n) (q : tg xs σ H N) : gTup K n tg (.ref p) σ H N := w_gTup (SqT.of h) hl q

/-! ## if repr([..]) != repr([..]): .., both of them telling the same data -/
theorem fits {d : PyData} (hl : d.layable0 = true) (hi : d.intsShort 13 = true) : d.shown.length ≤ sizeLine := Nat.le_trans (PyData.shown_le_of_layable0 hl hi) (by decide)
/-- the arguments of a display tell these data -/
def Tells (K : PySem.W.Frag) (a : TA) (σ : L2.St) (H : Hp) (ds : List PyData) : Prop := ∀ R : List V → Hp → Prop, (∀ xs H', xs.length = ds.length → Ext H H' → (∀ H2, Ext H' H2 → DpAll K H2 xs ds) → R xs H') → a σ H R
theorem w_repr2 {K : PySem.W.Frag} {a1 a2 : TA} {σ : L2.St} {H : Hp} {QT : Bool → Hp → Prop} (ds : List PyData) (hs : (PyData.list ds).showable = true) (hd : (PyData.list ds).hasDict = false) (hz : (PyData.list ds).depth ≤ 40) (hf : (PyData.list ds).shown.length ≤ sizeLine) (hn : ds.length ≤ 1000)
    (h1 : Tells K a1 σ H ds) (h2 : ∀ H1, Ext H H1 → Tells K a2 σ H1 ds) (k : ∀ H', Ext H H' → QT false H') :
    tTest (tOp rNe (tCB (cRepr K) (tCons (tLst a1) tNil)) (tCB (cRepr K) (tCons (tLst a2) tNil))) σ H QT := by
  refine w_test (w_op (w_cb (w_cons (w_lst (h1 _ fun xs H1 n1 e1 p1 => ⟨Nat.le_trans (by omega) (by decide : 1000 ≤ sizeLine), fun p np => ?_⟩)))))
  have e2 : Ext H1 (upd H1 p (.lst xs)) := .put np
  refine w_nil (w_repr (.lst (SqL.of upd_same) (p1 _ e2)) hs hd hz hf ?_)
  refine w_cb (w_cons (w_lst (h2 _ (e1.tr e2) _ fun ys H3 n3 e3 p3 => ⟨Nat.le_trans (by omega) (by decide : 1000 ≤ sizeLine), fun q nq => ?_⟩)))
  have e4 : Ext H3 (upd H3 q (.lst ys)) := .put nq
  refine w_nil (w_repr (.lst (SqL.of upd_same) (p3 _ e4)) hs hd hz hf (w_neS ⟨_, rfl, ?_⟩))
  rw [show (!((PyData.list ds).shown == (PyData.list ds).shown)) = false by simp]
  exact k _ (((e1.tr e2).tr e3).tr e4)
/-- two displays compared -/
theorem w_two {K : PySem.W.Frag} {a1 a2 : TA} {σ : L2.St} {H : Hp} {r : R2} {Q : VK} (ds es : List PyData) (hn : ds.length ≤ 1000) (hm : es.length ≤ 1000) (h1 : Tells K a1 σ H ds) (h2 : ∀ H1, Ext H H1 → Tells K a2 σ H1 es)
    (k : ∀ p q H', Ext H H' → Dp K H' (.ref p) (.list ds) → Dp K H' (.ref q) (.list es) → r (.ref p) (.ref q) H' Q) : tOp r (tLst a1) (tLst a2) σ H Q := by
  refine w_op (w_lst (h1 _ fun xs H1 n1 e1 p1 => ⟨Nat.le_trans (by omega) (by decide : 1000 ≤ sizeLine), fun p np => ?_⟩))
  have e2 : Ext H1 (upd H1 p (.lst xs)) := .put np
  refine w_lst (h2 _ (e1.tr e2) _ fun ys H3 n3 e3 p3 => ⟨Nat.le_trans (by omega) (by decide : 1000 ≤ sizeLine), fun q nq => ?_⟩)
  have e4 : Ext H3 (upd H3 q (.lst ys)) := .put nq
  exact k p q _ (((e1.tr e2).tr e3).tr e4) (.lst (SqL.of (e4 _ _ (e3 _ _ upd_same))) (p1 _ ((e2.tr e3).tr e4))) (.lst (SqL.of upd_same) (p3 _ e4))
theorem dp_bls {K : PySem.W.Frag} {H : Hp} : ∀ bs : List Bool, DpAll K H (bs.map V.bl) (bs.map PyData.bool)
  | [] => .nil
  | b :: bs => .cons (.bl b) (dp_bls bs)

/-! ## two lists of the same items are not unlike -/
def selfEq : V → Bool
  | .flt _ => false | .ty _ => false | _ => true
def rNeSame : R2 := fun x y H Q => ∃ p q xs, x = .ref p ∧ y = .ref q ∧ H p = some (.lst xs) ∧ H q = some (.lst xs) ∧ xs.all selfEq = true ∧ Q (.bl false) H
theorem self_at {B : Around} {s : Shared} {v : V} {u u' : Value} (r : RelV v u) (r' : RelV v u') (f : selfEq v = true) : SeqAt.EqAt B s u u' true := by
  cases v with
  | ref a => cases (show u = Value.ref a from r); cases (show u' = Value.ref a from r'); exact SeqAt.EqAt.same _
  | flt x => cases f
  | ty x => cases f
  | non => exact eqAt_same r r' rfl
  | bl x => exact eqAt_same r r' rfl
  | int x => exact eqAt_same r r' rfl
  | str x => exact eqAt_same r r' rfl
  | byt x => exact eqAt_same r r' rfl
theorem self_all {B : Around} {s : Shared} : ∀ {xs : List V} {us ws : List Value}, Vals xs us → Vals xs ws → xs.all selfEq = true → ∀ (j : Nat) (h1 : j < us.length) (h2 : j < ws.length), SeqAt.EqAt B s us[j] ws[j] true
  | [], _, _, .nil, .nil, _, j, h1, _ => absurd h1 (Nat.not_lt_zero j)
  | v :: xs, _, _, .cons r t, .cons r' t', f, j, h1, h2 => by
    rw [List.all_cons, Bool.and_eq_true] at f
    cases j with
    | zero => exact self_at r r' f.1
    | succ j => exact self_all t t' f.2 j (Nat.lt_of_succ_lt_succ h1) (Nat.lt_of_succ_lt_succ h2)
theorem o_neSame {X : Cx} (hu : X.A.units + 64 < cLine) : OpR X (compareOp .NotEq) rNeSame := by
  intro pins s σ H x y v u Q J rx ry h
  obtain ⟨p, q, xs, rfl, rfl, hp, hq, f, k⟩ := h
  cases rx
  cases ry
  obtain ⟨us, r1, p1, _⟩ := J.list (SqL.of (K := X.K) hp)
  obtain ⟨ws, r2, p2, _⟩ := J.list (SqL.of (K := X.K) hq)
  have many : us.toArray.size = ws.toArray.size := by rw [List.size_toArray, List.size_toArray, ← r1.length, ← r2.length]
  refine SeqAt.RcNeAt.lists (e := fun _ => true) p1.isList p2.isList many (by omega) (fun j h1 h2 => ?_) X.prog X.w X.xe _ ?_
  · have k := self_all (B := X.A.in1) (s := s) r1 r2 f j (by simpa using h1) (by simpa using h2)
    simpa using k
  · rw [show ((List.range us.toArray.size).all fun _ => true) = true from List.all_eq_true.mpr fun _ _ => rfl]
    exact ⟨.bl false, H, J, rfl, k⟩

/-! ## the classes of the package, by their addresses -/
structure CA where
  MirrorError : Addr := 0
  BadNumber : Addr := 0
  BadPoint : Addr := 0
  BadRoom : Addr := 0
  BadPlace : Addr := 0
  BadWay : Addr := 0
  BadSheet : Addr := 0
  BadBook : Addr := 0
  BadWord : Addr := 0
  BadName : Addr := 0
  BadPaper : Addr := 0
  Misfit : Addr := 0
  NoName : Addr := 0
  Twice : Addr := 0
  TooMany : Addr := 0
  BadText : Addr := 0
  BadLine : Addr := 0
  Scan : Addr := 0
  Room : Addr := 0
  Rows : Addr := 0
  Sheet : Addr := 0
  Turning : Addr := 0
  Marked : Addr := 0
  Book : Addr := 0
  Paper : Addr := 0
  Denial : Addr := 0
  Lit : Addr := 0
  Dark : Addr := 0

/-! ## a new object -/
theorem newly {H H1 : Hp} {p : Addr} {o : HO} (hp : H p = none) (hz : upd H p o = H1) : Ext H H1 ∧ H1 p = some o ∧ ∀ b, b ≠ p → H1 b = H b := by
  subst hz
  exact ⟨.put hp, upd_same, fun _ n => upd_ne n⟩
theorem sm {n : Nat} (h : n ≤ 100000) : n ≤ sizeLine := Nat.le_trans h (by decide)

/-! ## promises' ends -/
/-- a value, the heap grown -/
def Ret (v : V) (H : Hp) (Q : VK) : Prop := ∀ H', Ext H H' → Q v H'
theorem Ret.go {v : V} {H H' : Hp} {Q : VK} (k : Ret v H Q) (x : Ext H H') : Q v H' := k H' x

/-! ## checks.py -/
def oV : Option Int → V
  | none => .non | some i => .int i
def withinB (v : V) (l h : Option Int) : Bool := match v with
  | .int i => (match l with | none => true | some a => decide (a ≤ i)) && (match h with | none => true | some b => decide (i ≤ b))
  | _ => false
def ptB : Option (List V) → Bool
  | some [.int _, .int _] => true | _ => false
def wayI (p q : Int) : Bool := decide (-1000000000000 ≤ p) && decide (p ≤ 1000000000000) && (decide (-1000000000000 ≤ q) && decide (q ≤ 1000000000000)) && decide ((Int.gcd p q : Int) = 1)
def wayB : Option (List V) → Bool
  | some [.int p, .int q] => wayI p q | _ => false
def few (s : Option (List V)) : Prop := ∀ xs, s = some xs → xs.length ≤ 100000
def sp_is_integer (K : PySem.W.Frag) (_ : CA) : Sp := fun vs H Q _ => ∃ v s, vs = [v] ∧ AnyV K H v s ∧ Ret (.bl (isI v)) H Q
def sp_is_within (K : PySem.W.Frag) (_ : CA) : Sp := fun vs H Q _ => ∃ v s l h, vs = [v, oV l, oV h] ∧ AnyV K H v s ∧ Ret (.bl (withinB v l h)) H Q
def sp_is_list (K : PySem.W.Frag) (_ : CA) : Sp := fun vs H Q _ => ∃ v s, vs = [v] ∧ AnyV K H v s ∧ Ret (.bl s.isSome) H Q
def sp_is_point (K : PySem.W.Frag) (_ : CA) : Sp := fun vs H Q _ => ∃ v s, vs = [v] ∧ AnyD K H v s ∧ few s ∧ Ret (.bl (ptB s)) H Q
def sp_common (_ : PySem.W.Frag) (_ : CA) : Sp := fun vs H Q _ => ∃ i j, vs = [.int i, .int j] ∧ Ret (.int (Int.gcd i j)) H Q
def sp_is_way (K : PySem.W.Frag) (_ : CA) : Sp := fun vs H Q _ => ∃ v s, vs = [v] ∧ AnyD K H v s ∧ few s ∧ Ret (.bl (wayB s)) H Q

/-! ## what draws -/
/-- all but the lantern's own list stays -/
def Adv (L : Addr) (H H' : Hp) : Prop := ∀ a o, a ≠ L → H a = some o → H' a = some o
theorem Adv.rfl {L : Addr} {H : Hp} : Adv L H H := fun _ _ _ h => h
theorem Adv.tr {L : Addr} {H H1 H2 : Hp} (x : Adv L H H1) (y : Adv L H1 H2) : Adv L H H2 := fun a o n h => y a o n (x a o n h)
theorem Ext.adv {L : Addr} {H H' : Hp} (x : Ext H H') : Adv L H H' := fun a o _ h => x a o h
theorem Adv.put {L : Addr} {H : Hp} {o : HO} : Adv L H (upd H L o) := fun a u n e => by rw [upd_ne n]; exact e
theorem Adv.sqL {K : PySem.W.Frag} {L : Addr} {H H' : Hp} {a : Addr} {xs : List V} (x : Adv L H H') (n : a ≠ L) (h : SqL K H a xs) : SqL K H' a xs := by
  rcases h with (h | ⟨o, h⟩) | h
  · exact .inl (.inl (x _ _ n h))
  · exact .inl (.inr ⟨o, x _ _ n h⟩)
  · exact .inr h
theorem Adv.sqT {K : PySem.W.Frag} {L : Addr} {H H' : Hp} {a : Addr} {xs : List V} (x : Adv L H H') (n : a ≠ L) (h : SqT K H a xs) : SqT K H' a xs := by
  rcases h with (h | ⟨o, h⟩) | h
  · exact .inl (.inl (x _ _ n h))
  · exact .inl (.inr ⟨o, x _ _ n h⟩)
  · exact .inr h
/-- the lantern at L, at most n flicks old -/
def Lan (H : Hp) (L : Addr) (n : Nat) : Prop := ∃ (c : Addr) (t r : Int) (cells : List Int), H L = some (.lst [.ref c, .int t, .int r]) ∧ H c = some (.lst (cells.map V.int)) ∧ c ≠ L ∧ 0 ≤ t ∧ t ≤ n ∧ 0 ≤ r ∧ cells.length ≤ 60
theorem Lan.ext {H H' : Hp} {L : Addr} {n : Nat} (x : Ext H H') (h : Lan H L n) : Lan H' L n := by
  obtain ⟨c, t, r, cells, h1, h2, h3⟩ := h
  exact ⟨c, t, r, cells, x _ _ h1, x _ _ h2, h3⟩
theorem Lan.mono {H : Hp} {L : Addr} {n m : Nat} (e : n ≤ m) (h : Lan H L n) : Lan H L m := by
  obtain ⟨c, t, r, cells, h1, h2, h3, h4, h5, h6⟩ := h
  exact ⟨c, t, r, cells, h1, h2, h3, h4, by omega, h6⟩
theorem Lan.some {H : Hp} {L : Addr} {n : Nat} (h : Lan H L n) : ∃ o, H L = Option.some o := by
  obtain ⟨c, t, r, cells, h1, _⟩ := h
  exact ⟨_, h1⟩
theorem Lan.ne {H : Hp} {L p : Addr} {n : Nat} (h : Lan H L n) (hp : H p = none) : p ≠ L := by
  obtain ⟨o, e⟩ := h.some
  intro z
  rw [z, e] at hp
  cases hp
/-- any value, whatever the lantern does from now on -/
def Kr (K : PySem.W.Frag) (L : Addr) (H : Hp) (v : V) (s : Option (List V)) : Prop := ∀ H2, Adv L H H2 → AnyD K H2 v s
section
variable {K : PySem.W.Frag} {L p : Addr} {H H' : Hp} {v : V} {s : Option (List V)} {xs : List V}
theorem Kr.tr (a : Adv L H H') (k : Kr K L H v s) : Kr K L H' v s := fun H2 b => k H2 (a.tr b)
theorem Kr.ext (a : Ext H H') (k : Kr K L H v s) : Kr K L H' v s := k.tr a.adv
theorem Kr.now (k : Kr K L H v s) : AnyD K H v s := k H .rfl
theorem Kr.int (i : Int) : Kr K L H (.int i) none := fun _ _ => .flat (.int i)
theorem Kr.bl (b : Bool) : Kr K L H (.bl b) none := fun _ _ => .flat (.bl b)
theorem Kr.non : Kr K L H .non none := fun _ _ => .flat .non
theorem Kr.str (x : Str) : Kr K L H (.str x) none := fun _ _ => .flat (.str x)
theorem Kr.dict {kvs : List (Key × V)} (h : H p = some (.dK kvs)) (n : p ≠ L) : Kr K L H (.ref p) none := fun _ a => .flat (.dict (a _ _ n h))
theorem Kr.lst (h : H p = some (.lst xs)) (n : p ≠ L) (ks : ∀ x ∈ xs, ∃ s, Kr K L H x s) : Kr K L H (.ref p) (some xs) := fun H2 a =>
  ⟨.lst (SqL.of (a _ _ n h)), fun ys e x m => by cases e; obtain ⟨s, q⟩ := ks x m; exact ⟨s, (q H2 a).1⟩⟩
theorem Kr.tup (h : H p = some (.tup xs)) (n : p ≠ L) (ks : ∀ x ∈ xs, ∃ s, Kr K L H x s) : Kr K L H (.ref p) (some xs) := fun H2 a =>
  ⟨.tup (SqT.of (a _ _ n h)), fun ys e x m => by cases e; obtain ⟨s, q⟩ := ks x m; exact ⟨s, (q H2 a).1⟩⟩
end
def sp_law_lantern (K : PySem.W.Frag) (_ : CA) : Sp := fun vs H Q _ => ∃ (a : Addr) (ns : List Int), vs = [.ref a] ∧ SqL K H a (ns.map V.int) ∧ ns.length ≤ 63 ∧ ∀ L H', H L = none → Ext H H' → Lan H' L 0 → Q (.ref L) H'
def sp_law_flick (_ : PySem.W.Frag) (_ : CA) : Sp := fun vs H Q _ => ∃ (L : Addr) (n : Nat) (m : Int), vs = [.ref L, .int m] ∧ Lan H L n ∧ n ≤ 100000 ∧ 0 < m ∧ m < 2 ^ 200 ∧ ∀ v H', 0 ≤ v → v < m → Adv L H H' → Lan H' L (n + 1) → Q (.int v) H'
def sp_law_pick (K : PySem.W.Frag) (_ : CA) : Sp := fun vs H Q _ => ∃ (L : Addr) (n : Nat) (p : Addr) (xs : List V), vs = [.ref L, .ref p] ∧ Lan H L n ∧ n ≤ 100000 ∧ p ≠ L ∧ (SqL K H p xs ∨ SqT K H p xs) ∧ xs ≠ [] ∧ xs.length ≤ 100000 ∧
  ∀ v H', v ∈ xs → Adv L H H' → Lan H' L (n + 1) → Q v H'
def sp_law_common : PySem.W.Frag → CA → Sp := sp_common
end NK

local macro_rules | `(tactic| walk_at "nk1") => `(tactic| (first
  | with_reducible refine NK.w_var rfl ?_
  | with_reducible refine NK.w_c ?_
  | with_reducible refine NK.w_op ?_
  | with_reducible refine NK.w_un ?_
  | with_reducible refine NK.w_cb ?_
  | with_reducible refine NK.w_cons ?_
  | with_reducible refine NK.w_nil ?_
  | with_reducible refine NK.w_call ?_
  | with_reducible refine NK.w_callK ?_
  | with_reducible refine NK.w_callK0 ?_
  | with_reducible refine NK.w_tup ?_
  | with_reducible refine NK.w_lst ?_
  | with_reducible refine NK.w_add ?_
  | with_reducible refine NK.w_sub ?_
  | with_reducible refine NK.w_neg ?_
  | with_reducible refine NK.w_lt ?_
  | with_reducible refine NK.w_le ?_
  | with_reducible refine NK.w_gt ?_
  | with_reducible refine NK.w_ge ?_
  | with_reducible refine NK.w_eqI ?_
  | with_reducible refine NK.w_neI ?_
  | with_reducible refine NK.w_eqB ?_
  | with_reducible refine NK.w_neB ?_
  | with_reducible refine NK.w_isNo ?_
  | with_reducible refine NK.w_notNo ?_
  | with_reducible refine NK.w_abs ?_
  | with_reducible refine NK.w_max ?_
  | with_reducible refine NK.w_int ?_
  | with_reducible refine NK.w_intB ?_
  | with_reducible refine NK.w_lcS ?_
  | with_reducible refine NK.w_test ?_
  | with_reducible refine NK.w_tB ?_
  | with_reducible refine NK.w_bl ?_
  | with_reducible refine NK.w_not ?_
  | with_reducible refine NK.w_and ?_
  | with_reducible refine NK.w_or ?_
  | with_reducible refine NK.w_andV ?_
  | with_reducible refine NK.w_orV ?_
  | with_reducible refine NK.w_notV ?_
  | with_reducible refine NK.w_if ?_
  | with_reducible refine NK.w_sl ?_
  | with_reducible refine NK.w_noPart ?_
  | with_reducible refine NK.w_part ?_
  | with_reducible refine NK.w_partI ?_
  | with_reducible refine NK.w_yes ?_
  | with_reducible refine NK.w_thenA ?_
  | with_reducible refine NK.w_thenD ?_
  | with_reducible refine NK.w_thenP ?_
  | with_reducible refine NK.w_thenN ?_
  | with_reducible refine NK.w_nx ?_
  | with_reducible refine NK.w_ifS ?_
  | with_reducible refine NK.w_ret ?_
  | with_reducible refine NK.w_retN ?_
  | with_reducible refine NK.w_asg ?_
  | with_reducible refine NK.w_gName ?_
  | with_reducible refine NK.w_drop ?_
  | with_reducible refine NK.w_rng1 ?_
  | with_reducible refine NK.w_par ?_
  | with_reducible refine NK.w_par2 ?_
  | with_reducible refine NK.w_gSub ?_
  | with_reducible refine NK.w_gCons ?_
  | with_reducible refine NK.w_gNil ?_
  | with_reducible refine NK.w_t ?_
  | with_reducible refine NK.w_f ?_
  | dsimp only [List.set_cons_zero, List.set_cons_succ]))
local macro_rules | `(tactic| walk_at "nk") => `(tactic| repeat walk_at "nk1")
local macro_rules | `(tactic| walk_at "nx1") => `(tactic| (first
  | with_reducible refine NK.w_var rfl ?_
  | with_reducible refine NK.w_c ?_
  | with_reducible refine NK.w_op ?_
  | with_reducible refine NK.w_un ?_
  | with_reducible refine NK.w_cb ?_
  | with_reducible refine NK.w_cons ?_
  | with_reducible refine NK.w_nil ?_
  | with_reducible refine NK.w_call ?_
  | with_reducible refine NK.w_callK ?_
  | with_reducible refine NK.w_callK0 ?_
  | with_reducible refine NK.w_tup ?_
  | with_reducible refine NK.w_lst ?_
  | with_reducible refine NK.w_add ?_
  | with_reducible refine NK.w_sub ?_
  | with_reducible refine NK.w_neg ?_
  | with_reducible refine NK.w_lt ?_
  | with_reducible refine NK.w_le ?_
  | with_reducible refine NK.w_gt ?_
  | with_reducible refine NK.w_ge ?_
  | with_reducible refine NK.w_eqI ?_
  | with_reducible refine NK.w_neI ?_
  | with_reducible refine NK.w_eqB ?_
  | with_reducible refine NK.w_neB ?_
  | with_reducible refine NK.w_isNo ?_
  | with_reducible refine NK.w_notNo ?_
  | with_reducible refine NK.w_abs ?_
  | with_reducible refine NK.w_max ?_
  | with_reducible refine NK.w_int ?_
  | with_reducible refine NK.w_intB ?_
  | with_reducible refine NK.w_lcS ?_
  | with_reducible refine NK.w_test ?_
  | with_reducible refine NK.w_tB ?_
  | with_reducible refine NK.w_bl ?_
  | with_reducible refine NK.w_not ?_
  | with_reducible refine NK.w_and ?_
  | with_reducible refine NK.w_or ?_
  | with_reducible refine NK.w_andV ?_
  | with_reducible refine NK.w_orV ?_
  | with_reducible refine NK.w_notV ?_
  | with_reducible refine NK.w_if ?_
  | with_reducible refine NK.w_sl ?_
  | with_reducible refine NK.w_noPart ?_
  | with_reducible refine NK.w_part ?_
  | with_reducible refine NK.w_partI ?_
  | with_reducible refine NK.w_yes ?_
  | with_reducible refine NK.w_nx ?_
  | with_reducible refine NK.w_ifS ?_
  | with_reducible refine NK.w_ret ?_
  | with_reducible refine NK.w_retN ?_
  | with_reducible refine NK.w_asg ?_
  | with_reducible refine NK.w_gName ?_
  | with_reducible refine NK.w_drop ?_
  | with_reducible refine NK.w_rng1 ?_
  | with_reducible refine NK.w_par ?_
  | with_reducible refine NK.w_par2 ?_
  | with_reducible refine NK.w_gSub ?_
  | with_reducible refine NK.w_gCons ?_
  | with_reducible refine NK.w_gNil ?_
  | with_reducible refine NK.w_t ?_
  | with_reducible refine NK.w_f ?_
  | dsimp only [List.set_cons_zero, List.set_cons_succ]))
local macro_rules | `(tactic| walk_at "nx") => `(tactic| repeat walk_at "nx1")

namespace NK
open PySem PySem.Spec L2
def sp_law_any (K : PySem.W.Frag) (_ : CA) : Sp := fun vs H Q _ => ∃ (L : Addr) (n : Nat), vs = [.ref L] ∧ Lan H L n ∧ n ≤ 90000 ∧ ∀ (p : Addr) (v : V) (b : Bool) (s : Option (List V)) (H' : Hp), Adv L H H' → Lan H' L (n + 4) → p ≠ L → H' p = some (.tup [v, .bl b]) →
  Kr K L H' v s → few s → isI v = b → (b = true → ∃ i : Int, v = .int i ∧ i.natAbs ≤ 10 ^ 30) → ptB s = false → wayB s = false → selfEq v = true → Q (.ref p) H'
def sp_law (K : PySem.W.Frag) (_ : CA) : Sp := fun vs H Q _ => ∃ (a : Addr) (ns : List Int), vs = [.ref a] ∧ SqL K H a (ns.map V.int) ∧ ns.length ≤ 63 ∧ ∀ H', Q (.bl true) H'
end NK

namespace NK
open PySem PySem.Spec L2
def kb_is_integer_0_value_g {α : Type} : List α → List α → List α
  | [], [w0] => [w0]
  | _, _ => []
def kb_is_within_0_most_value_least_g {α : Type} : List α → List α → List α
  | [], [w0, w1, w2] => [w1, w2, w0]
  | _, _ => []
def kb_is_point_0_value_g {α : Type} : List α → List α → List α
  | [], [w0] => [w0]
  | _, _ => []
def kb_is_way_0_value_g {α : Type} : List α → List α → List α
  | [], [w0] => [w0]
  | _, _ => []
def t_is_integer (K : PySem.W.Frag) (C : CA) : TS :=
  (tRet (tAndV (tCB (rIsi K) (tCons (tVar 0) (tCons (tC (.ty "int")) tNil))) (tNotV (tCB (rIsi K) (tCons (tVar 0) (tCons (tC (.ty "bool")) tNil))))))
abbrev N_is_integer : List Str := ["value"]
def t_is_within (K : PySem.W.Frag) (C : CA) : TS :=
  (tThen (tIfS (tNot (tB (tCall (sp_is_integer K C) [] E0 (tCons (tVar 0) tNil)))) (tRet (tC (.bl false))) tNext) (tRet (tAndV (tOrV (tOp rIsNo (tVar 1) (tC .non)) (tOp rLe (tVar 1) (tVar 0))) (tOrV (tOp rIsNo (tVar 2) (tC .non)) (tOp rLe (tVar 0) (tVar 2))))))
abbrev N_is_within : List Str := ["value", "least", "most"]
def t_is_list (K : PySem.W.Frag) (C : CA) : TS :=
  (tRet (tCB (rIsiT K) (tCons (tVar 0) (tCons (tTup (tCons (tC (.ty "list")) (tCons (tC (.ty "tuple")) tNil))) tNil))))
abbrev N_is_list : List Str := ["value"]
def t_is_point (K : PySem.W.Frag) (C : CA) : TS :=
  (tRet (tAndV (tCall (sp_is_list K C) [] E0 (tCons (tVar 0) tNil)) (tAndV (tOp rEq (tCB (cLen K) (tCons (tVar 0) tNil)) (tC (.int 2))) (tCB (rAll K) (tCons (tLc (iSeq K (tVar 0)) (gName 1) tYes (tCall (sp_is_integer K C) [] E0 (tCons (tVar 1) tNil)) [1]) tNil)))))
abbrev N_is_point : List Str := ["value", "each"]
def t_common (K : PySem.W.Frag) (C : CA) : TS :=
  (tThen (tPar 0 1 (tCons (tCB cAbs (tCons (tVar 0) tNil)) (tCons (tCB cAbs (tCons (tVar 1) tNil)) tNil))) (tThen (tWhile (tTest (tOp rNe (tVar 1) (tC (.int 0)))) (tPar 0 1 (tCons (tVar 1) (tCons (tOp rMod (tVar 0) (tVar 1)) tNil)))) (tRet (tVar 0))))
abbrev N_common : List Str := ["one", "other"]
def t_is_way (K : PySem.W.Frag) (C : CA) : TS :=
  (tThen (tIfS (tOr (tNot (tB (tCall (sp_is_point K C) [] E0 (tCons (tVar 0) tNil)))) (tNot (tB (tCB (rAll K) (tCons (tLc (iSeq K (tVar 0)) (gName 1) tYes (tCall (sp_is_within K C) [] E0 (tCons (tVar 1) (tCons (tUn rNeg (tC (.int 1000000000000))) (tCons (tC (.int 1000000000000)) tNil)))) [1]) tNil))))) (tRet (tC (.bl false))) tNext) (tRet (tOp rEq (tCall (sp_common K C) [] E0 (tCons (tOp (rIx K) (tVar 0) (tC (.int 0))) (tCons (tOp (rIx K) (tVar 0) (tC (.int 1))) tNil))) (tC (.int 1)))))
abbrev N_is_way : List Str := ["value", "each"]
def t_law_lantern (K : PySem.W.Frag) (C : CA) : TS :=
  (tRet (tLst (tCons (tLc (iSeq K (tSl (rSlL K) (tVar 0) tNoPart (tPart (tC (.int 60))))) (gName 1) tYes (tCB cInt (tCons (tVar 1) tNil)) [1]) (tCons (tC (.int 0)) (tCons (tC (.int 0)) tNil)))))
abbrev N_law_lantern : List Str := ["_law_script", "_law_cell"]
def t_law_flick (K : PySem.W.Frag) (C : CA) : TS :=
  (tThen (tIfS (tTest (tOp rGt (tOp (rIx K) (tVar 0) (tC (.int 2))) (tC (.int 0)))) (tThen (tAsg (tCB cInt (tCons (tOp (rIx K) (tVar 0) (tC (.int 2))) tNil)) (gName 2)) (tThen (tAsg (tOp rDiv (tVar 2) (tVar 1)) (gSub (tVar 0) (tC (.int 2)) rSetL)) (tRet (tOp rMod (tCB cInt (tCons (tVar 2) tNil)) (tVar 1))))) tNext) (tThen (tAsg (tOp (rIx K) (tVar 0) (tC (.int 1))) (gName 3)) (tThen (tAsg (tOp rAdd (tVar 3) (tC (.int 1))) (gSub (tVar 0) (tC (.int 1)) rSetL)) (tThen (tAsg (tOp rAdd (tOp rMul (tC (.int 62965)) (tVar 3)) (tC (.int 5385))) (gName 4)) (tThen (tIfS (tTest (tOp (rNeD K) (tOp (rIx K) (tVar 0) (tC (.int 0))) (tLst tNil))) (tAsg (tOp (rIx K) (tOp (rIx K) (tVar 0) (tC (.int 0))) (tOp rMod (tCB cInt (tCons (tVar 3) tNil)) (tCB (cLen K) (tCons (tOp (rIx K) (tVar 0) (tC (.int 0))) tNil)))) (gName 4)) tNext) (tThen (tIfS (tAnd (tTest (tOp rLt (tVar 3) (tCB (cLen K) (tCons (tOp (rIx K) (tVar 0) (tC (.int 0))) tNil)))) (tTest (tOp rGe (tCB cAbs (tCons (tVar 4) tNil)) (tOp rPow (tC (.int 10)) (tC (.int 18)))))) (tThen (tAsg (tOp rAdd (tOp rMul (tC (.int 2)) (tOp rSub (tCB cAbs (tCons (tVar 4) tNil)) (tOp rPow (tC (.int 10)) (tC (.int 18))))) (tCB cInt (tCons (tOp rLt (tVar 4) (tC (.int 0))) tNil))) (gName 2)) (tThen (tAsg (tOp rDiv (tVar 2) (tVar 1)) (gSub (tVar 0) (tC (.int 2)) rSetL)) (tRet (tOp rMod (tCB cInt (tCons (tVar 2) tNil)) (tVar 1))))) tNext) (tThen (tAsg (tOp rMod (tCB cInt (tCons (tOp rPow (tOp rAdd (tOp rAdd (tOp rMod (tCB cInt (tCons (tVar 4) tNil)) (tC (.int 2147483269))) (tOp rMul (tC (.int 38235)) (tVar 3))) (tC (.int 5385))) (tC (.int 5))) tNil)) (tC (.int 2147483077))) (gName 5)) (tThen (tAsg (tOp rMod (tCB cInt (tCons (tOp rPow (tOp rAdd (tOp rAdd (tOp rMul (tVar 5) (tOp rAdd (tOp rMul (tC (.int 2)) (tVar 3)) (tC (.int 4505)))) (tOp rMul (tOp rMul (tC (.int 62965)) (tVar 3)) (tVar 3))) (tC (.int 38235))) (tC (.int 3))) tNil)) (tC (.int 2147483549))) (gName 5)) (tRet (tOp rMod (tCB cInt (tCons (tOp rDiv (tVar 5) (tC (.int 64))) tNil)) (tVar 1)))))))))))
abbrev N_law_flick : List Str := ["_law_lantern_here", "_law_many", "_law_rest", "_law_turn", "_law_cell", "_law_mixed"]
def t_law_pick (K : PySem.W.Frag) (C : CA) : TS :=
  (tRet (tOp (rIx K) (tVar 1) (tCall (sp_law_flick K C) [] E0 (tCons (tVar 0) (tCons (tCB (cLen K) (tCons (tVar 1) tNil)) tNil)))))
abbrev N_law_pick : List Str := ["_law_lantern_here", "_law_some"]
def t_law_common (K : PySem.W.Frag) (C : CA) : TS :=
  (tThen (tPar 0 1 (tCons (tCB cAbs (tCons (tVar 0) tNil)) (tCons (tCB cAbs (tCons (tVar 1) tNil)) tNil))) (tThen (tWhile (tTest (tOp rGt (tVar 1) (tC (.int 0)))) (tPar 0 1 (tCons (tVar 1) (tCons (tOp rMod (tCB cInt (tCons (tVar 0) tNil)) (tVar 1)) tNil)))) (tRet (tVar 0))))
abbrev N_law_common : List Str := ["_law_one", "_law_other"]
def t_law_any (K : PySem.W.Frag) (C : CA) : TS :=
  (tThen (tAsg (tCall (sp_law_pick K C) [] E0 (tCons (tVar 0) (tCons (tLst (tCons (tC (.int 0)) (tCons (tC (.int 1)) (tCons (tUn rNeg (tC (.int 1))) (tCons (tCall (sp_law_flick K C) [] E0 (tCons (tVar 0) (tCons (tC (.int 30)) tNil))) (tCons (tC (.int 200)) (tCons (tOp rPow (tC (.int 10)) (tC (.int 12))) (tCons (tOp rSub (tUn rNeg (tOp rPow (tC (.int 10)) (tC (.int 12)))) (tC (.int 1))) (tCons (tOp rPow (tC (.int 10)) (tC (.int 30))) tNil))))))))) tNil))) (gName 1)) (tThen (tAsg (tCall (sp_law_pick K C) [] E0 (tCons (tVar 0) (tCons (tLst (tCons (tC .non) (tCons (tC (.bl true)) (tCons (tC (.bl false)) (tCons (tC (.str "1")) (tCons (tTup (tCons (tC (.int 1)) tNil)) (tCons (tLst (tCons (tC (.int 0)) tNil)) (tCons tDNewK tNil)))))))) tNil))) (gName 2)) (tRet (tIf (tTest (tOp rGt (tCall (sp_law_flick K C) [] E0 (tCons (tVar 0) (tCons (tC (.int 3)) tNil))) (tC (.int 0)))) (tTup (tCons (tVar 1) (tCons (tC (.bl true)) tNil))) (tTup (tCons (tVar 2) (tCons (tC (.bl false)) tNil)))))))
abbrev N_law_any : List Str := ["_law_lantern_here", "_law_number", "_law_odd"]
def t_law (K : PySem.W.Frag) (C : CA) : TS :=
  (tThen (tAsg (tCall (sp_law_lantern K C) [] E0 (tCons (tVar 0) tNil)) (gName 1)) (tThen (tFor (iRng1 (tCons (tC (.int 6)) tNil)) (gName 2) (tThen (tAsg (tTup (tCons (tCall (sp_law_any K C) [] E0 (tCons (tVar 1) tNil)) (tCons (tCall (sp_law_any K C) [] E0 (tCons (tVar 1) tNil)) tNil))) (gTup K 2 (gCons (gTup K 2 (gCons (gName 10) (gCons (gName 11) gNil))) (gCons (gTup K 2 (gCons (gName 12) (gCons (gName 13) gNil))) gNil)))) (tThen (tPar 5 6 (tCons (tCall (sp_law_pick K C) [] E0 (tCons (tVar 1) (tCons (tLst (tCons (tC .non) (tCons (tC (.int 0)) (tCons (tUn rNeg (tC (.int 1))) (tCons (tCall (sp_law_flick K C) [] E0 (tCons (tVar 1) (tCons (tC (.int 30)) tNil))) tNil))))) tNil))) (tCons (tCall (sp_law_pick K C) [] E0 (tCons (tVar 1) (tCons (tLst (tCons (tC .non) (tCons (tC (.int 1)) (tCons (tC (.int 200)) (tCons (tCall (sp_law_flick K C) [] E0 (tCons (tVar 1) (tCons (tC (.int 30)) tNil))) tNil))))) tNil))) tNil))) (tThen (tAsg (tAndV (tVar 11) (tAndV (tOrV (tOp rIsNo (tVar 5) (tC .non)) (tOp rGe (tVar 10) (tVar 5))) (tOrV (tOp rIsNo (tVar 6) (tC .non)) (tOp rLe (tVar 10) (tVar 6))))) (gName 3)) (tThen (tIfS (tTest (tOp rNe (tCB (cRepr K) (tCons (tLst (tCons (tCall (sp_is_integer K C) [] E0 (tCons (tVar 10) tNil)) (tCons (tCallK0 (sp_is_integer K C) (kb_is_integer_0_value_g (α := V)) E0 (tCons (tVar 10) tNil)) tNil))) tNil)) (tCB (cRepr K) (tCons (tLst (tCons (tVar 11) (tCons (tVar 11) tNil))) tNil)))) (tRet (tC (.bl false))) tNext) (tThen (tIfS (tTest (tOp rNe (tCB (cRepr K) (tCons (tLst (tCons (tCall (sp_is_within K C) [] E0 (tCons (tVar 10) (tCons (tVar 5) (tCons (tVar 6) tNil)))) (tCons (tCallK0 (sp_is_within K C) (kb_is_within_0_most_value_least_g (α := V)) E0 (tCons (tVar 6) (tCons (tVar 10) (tCons (tVar 5) tNil)))) tNil))) tNil)) (tCB (cRepr K) (tCons (tLst (tCons (tVar 3) (tCons (tVar 3) tNil))) tNil)))) (tRet (tC (.bl false))) tNext) (tThen (tPar 7 3 (tCons (tLst (tCons (tVar 10) (tCons (tVar 12) tNil))) (tCons (tAndV (tVar 11) (tVar 13)) tNil))) (tThen (tIfS (tTest (tOp rNe (tCB (cRepr K) (tCons (tLst (tCons (tCall (sp_is_point K C) [] E0 (tCons (tVar 7) tNil)) (tCons (tCallK0 (sp_is_point K C) (kb_is_point_0_value_g (α := V)) E0 (tCons (tCB (cTuple K) (tCons (tVar 7) tNil)) tNil)) (tCons (tCall (sp_is_point K C) [] E0 (tCons (tSl (rSlL K) (tVar 7) tNoPart (tPart (tC (.int 1)))) tNil)) (tCons (tCall (sp_is_point K C) [] E0 (tCons (tOp rCat (tVar 7) (tLst (tCons (tC (.int 1)) tNil))) tNil)) (tCons (tCall (sp_is_point K C) [] E0 (tCons (tVar 10) tNil)) tNil)))))) tNil)) (tCB (cRepr K) (tCons (tLst (tCons (tVar 3) (tCons (tVar 3) (tCons (tC (.bl false)) (tCons (tC (.bl false)) (tCons (tC (.bl false)) tNil)))))) tNil)))) (tRet (tC (.bl false))) tNext) (tThen (tAsg (tAndV (tVar 3) (tAndV (tOp rLe (tCB cMax (tCons (tCB cAbs (tCons (tVar 10) tNil)) (tCons (tCB cAbs (tCons (tVar 12) tNil)) tNil))) (tOp rPow (tC (.int 10)) (tC (.int 12)))) (tOp rEq (tCall (sp_law_common K C) [] E0 (tCons (tVar 10) (tCons (tVar 12) tNil))) (tC (.int 1))))) (gName 3)) (tThen (tIfS (tOr (tTest (tOp rNe (tCB (cRepr K) (tCons (tLst (tCons (tCall (sp_is_way K C) [] E0 (tCons (tVar 7) tNil)) (tCons (tCallK0 (sp_is_way K C) (kb_is_way_0_value_g (α := V)) E0 (tCons (tCB (cTuple K) (tCons (tVar 7) tNil)) tNil)) (tCons (tCall (sp_is_way K C) [] E0 (tCons (tOp rCat (tVar 7) (tLst (tCons (tC (.int 1)) tNil))) tNil)) (tCons (tCall (sp_is_way K C) [] E0 (tCons (tVar 12) tNil)) tNil))))) tNil)) (tCB (cRepr K) (tCons (tLst (tCons (tVar 3) (tCons (tVar 3) (tCons (tC (.bl false)) (tCons (tC (.bl false)) tNil))))) tNil)))) (tTest (tOp rNeSame (tVar 7) (tLst (tCons (tVar 10) (tCons (tVar 12) tNil)))))) (tRet (tC (.bl false))) tNext) (tThen (tPar 8 9 (tCons (tCall (sp_law_flick K C) [] E0 (tCons (tVar 1) (tCons (tOp rPow (tC (.int 10)) (tC (.int 6))) tNil))) (tCons (tOp rSub (tCall (sp_law_flick K C) [] E0 (tCons (tVar 1) (tCons (tOp rPow (tC (.int 10)) (tC (.int 6))) tNil))) (tOp rMul (tC (.int 5)) (tOp rPow (tC (.int 10)) (tC (.int 5))))) tNil))) (tThen (tAsg (tCall (sp_law_pick K C) [] E0 (tCons (tVar 1) (tCons (tLst (tCons (tC (.int 1)) (tCons (tC (.int 1)) (tCons (tC (.int 2)) (tCons (tC (.int 3)) (tCons (tC (.int 7)) tNil)))))) tNil))) (gName 4)) (tIfS (tTest (tOp rNe (tCall (sp_is_way K C) [] E0 (tCons (tTup (tCons (tOp rMul (tVar 4) (tVar 8)) (tCons (tOp rMul (tVar 4) (tVar 9)) tNil))) tNil)) (tOp rEq (tCall (sp_law_common K C) [] E0 (tCons (tOp rMul (tVar 4) (tVar 8)) (tCons (tOp rMul (tVar 4) (tVar 9)) tNil))) (tC (.int 1))))) (tRet (tC (.bl false))) tNext))))))))))))) (tThen (tAsg (tCall (sp_law_pick K C) [] E0 (tCons (tVar 1) (tCons (tLst (tCons (tC .non) (tCons (tC (.int 5)) (tCons (tC (.str "12")) (tCons (tDisp [((tC (.int 1)), (tC (.int 2))), ((tC (.int 2)), (tC (.int 3)))]) (tCons (tLst (tCons (tLst (tCons (tC (.int 1)) (tCons (tC (.int 2)) tNil))) tNil)) (tCons (tC (.str "ab")) tNil))))))) tNil))) (gName 14)) (tThen (tIfS (tTest (tOp (rNeD K) (tLst (tCons (tCall (sp_is_way K C) [] E0 (tCons (tTup (tCons (tUn rNeg (tOp rPow (tC (.int 10)) (tC (.int 12)))) (tCons (tC (.int 1)) tNil))) tNil)) (tCons (tCall (sp_is_way K C) [] E0 (tCons (tTup (tCons (tC (.int 1)) (tCons (tUn rNeg (tOp rPow (tC (.int 10)) (tC (.int 12)))) tNil))) tNil)) (tCons (tCall (sp_is_way K C) [] E0 (tCons (tTup (tCons (tOp rSub (tUn rNeg (tOp rPow (tC (.int 10)) (tC (.int 12)))) (tC (.int 1))) (tCons (tC (.int 1)) tNil))) tNil)) (tCons (tCall (sp_is_way K C) [] E0 (tCons (tTup (tCons (tC (.int 1)) (tCons (tOp rSub (tUn rNeg (tOp rPow (tC (.int 10)) (tC (.int 12)))) (tC (.int 1))) tNil))) tNil)) tNil))))) (tLst (tCons (tC (.bl true)) (tCons (tC (.bl true)) (tCons (tC (.bl false)) (tCons (tC (.bl false)) tNil))))))) (tRet (tC (.bl false))) tNext) (tRet (tOp (rEqD K) (tLst (tCons (tCall (sp_is_point K C) [] E0 (tCons (tVar 14) tNil)) (tCons (tCall (sp_is_way K C) [] E0 (tCons (tVar 14) tNil)) (tCons (tCall (sp_is_way K C) [] E0 (tCons (tTup (tCons (tC (.int 0)) (tCons (tC (.int 0)) tNil))) tNil)) (tCons (tCall (sp_is_way K C) [] E0 (tCons (tTup (tCons (tC (.int 1)) (tCons (tC (.int 0)) tNil))) tNil)) (tCons (tCall (sp_is_way K C) [] E0 (tCons (tLst (tCons (tC (.int 0)) (tCons (tUn rNeg (tC (.int 1))) tNil))) tNil)) (tCons (tCall (sp_is_way K C) [] E0 (tCons (tTup (tCons (tC (.int 0)) (tCons (tC (.int 2)) tNil))) tNil)) (tCons (tCall (sp_is_way K C) [] E0 (tCons (tTup tNil) tNil)) tNil)))))))) (tLst (tCons (tC (.bl false)) (tCons (tC (.bl false)) (tCons (tC (.bl false)) (tCons (tC (.bl true)) (tCons (tC (.bl true)) (tCons (tC (.bl false)) (tCons (tC (.bl false)) tNil))))))))))))))
abbrev N_law : List Str := ["_law_script", "_law_lantern_here", "_law_turn", "_law_due", "_law_times", "_law_least", "_law_most", "_law_pair", "_law_one", "_law_two", "_law_value", "_law_is_one", "_law_other", "_law_is_other", "_law_odd"]
end NK
namespace NK
open PySem PySem.Spec L2
section
variable {K : PySem.W.Frag} {C : CA}
theorem pure_is_integer (vs : List V) (H : Hp) (Q : VK) (E : XK) (h : sp_is_integer K C vs H Q E) : vs.length = 1 ∧ t_is_integer K C { nx := fun _ H' => Q .non H', rt := Q } (start N_is_integer vs) H := by
  obtain ⟨v, s, rfl, hv, k⟩ := h
  refine ⟨rfl, ?_⟩
  unfold t_is_integer
  walk_at "nk"
  refine w_isInt hv ⟨_, rfl, w_both (fun e => ?_) fun e => ?_⟩
  · walk_at "nk"
    refine w_isBool hv ⟨_, rfl, ?_⟩
    have z : (!isB v) = isI v := by rw [← isI_eq, e]; rfl
    rw [z]
    exact k H .rfl
  · have z : isI v = false := by rw [← isI_eq, e]; rfl
    rw [z] at k
    exact k H .rfl
theorem withinB_no {v : V} {l h : Option Int} (e : isI v = false) : withinB v l h = false := by
  cases v <;> first | rfl | cases e
theorem pure_is_within (vs : List V) (H : Hp) (Q : VK) (E : XK) (h : sp_is_within K C vs H Q E) : vs.length = 3 ∧ t_is_within K C { nx := fun _ H' => Q .non H', rt := Q } (start N_is_within vs) H := by
  obtain ⟨v, s, l, h, rfl, hv, k⟩ := h
  refine ⟨rfl, ?_⟩
  unfold t_is_within
  refine w_then ?_
  walk_at "nk"
  refine ⟨v, s, rfl, hv, fun H1 e1 => ⟨_, rfl, w_both (fun e => ?_) fun e => ?_⟩⟩
  · walk_at "nk"
    rw [withinB_no (by simpa using e)] at k
    exact k H1 e1
  · have iv : isI v = true := by simpa using e
    obtain ⟨i, rfl⟩ : ∃ i, v = .int i := by
      cases v <;> first | exact ⟨_, rfl⟩ | cases iv
    walk_at "nk"
    have fin : ∀ b, withinB (.int i) l h = b → Q (.bl b) H1 := fun b z => by rw [← z]; exact k H1 e1
    cases l with
    | none =>
      refine ⟨true, rfl, w_t ⟨true, rfl, w_t ?_⟩⟩
      walk_at "nk"
      cases h with
      | none => exact ⟨true, rfl, w_t (fin _ rfl)⟩
      | some b =>
        refine ⟨false, rfl, w_f ?_⟩
        refine w_op (w_var rfl (w_var rfl (w_le (fin _ ?_))))
        simp [withinB]
    | some a =>
      refine ⟨false, rfl, w_f ?_⟩
      refine w_op (w_var rfl (w_var rfl (w_le ⟨_, rfl, w_both (fun e => ?_) fun e => ?_⟩)))
      · walk_at "nk"
        cases h with
        | none => exact ⟨true, rfl, w_t (fin _ (by simpa [withinB] using e))⟩
        | some b =>
          refine ⟨false, rfl, w_f ?_⟩
          refine w_op (w_var rfl (w_var rfl (w_le (fin _ ?_))))
          have : a ≤ i := by simpa using e
          simp [withinB, this]
      · refine fin _ ?_
        have : ¬ a ≤ i := by simpa using e
        cases h <;> simp [withinB, this]
theorem pure_is_list (vs : List V) (H : Hp) (Q : VK) (E : XK) (h : sp_is_list K C vs H Q E) : vs.length = 1 ∧ t_is_list K C { nx := fun _ H' => Q .non H', rt := Q } (start N_is_list vs) H := by
  obtain ⟨v, s, rfl, hv, k⟩ := h
  refine ⟨rfl, ?_⟩
  unfold t_is_list
  walk_at "nk"
  refine ⟨sm (by simp), ?_⟩
  intro p n_p
  generalize z_p : upd _ p _ = H1
  obtain ⟨e1, h1, m_p⟩ := newly n_p z_p
  clear z_p
  walk_at "nk"
  exact w_isSeq (hv.ext e1) h1 (k H1 e1)
theorem isI_of {v : V} (e : isI v = true) : ∃ i, v = .int i := by
  cases v <;> first | exact ⟨_, rfl⟩ | cases e
theorem ptB_two {s : Option (List V)} {xs : List V} (e : s = some xs) : ptB s = (decide ((xs.length : Int) = 2) && (xs.map fun x => isI x).all id) := by
  subst e
  match xs with
  | [] => rfl
  | [a] => cases a <;> rfl
  | [a, b] => cases a <;> cases b <;> rfl
  | a :: b :: c :: r =>
    have : decide (((a :: b :: c :: r).length : Int) = 2) = false := decide_eq_false (by simp only [List.length_cons]; omega)
    rw [this]
    cases a <;> cases b <;> rfl
theorem pure_is_point (vs : List V) (H : Hp) (Q : VK) (E : XK) (h : sp_is_point K C vs H Q E) : vs.length = 1 ∧ t_is_point K C { nx := fun _ H' => Q .non H', rt := Q } (start N_is_point vs) H := by
  obtain ⟨v, s, rfl, ⟨hv, ha⟩, hf, k⟩ := h
  refine ⟨rfl, ?_⟩
  unfold t_is_point
  walk_at "nk"
  refine ⟨v, s, rfl, hv, fun H1 e1 => ⟨_, rfl, w_both (fun e => ?_) fun e => ?_⟩⟩
  · obtain ⟨xs, rfl⟩ := Option.isSome_iff_exists.mp e
    obtain ⟨a, rfl, hx⟩ := hv.sq
    have hx1 : SqL K H1 a xs ∨ SqT K H1 a xs := hx.elim (fun z => .inl (e1.sqL z)) fun z => .inr (e1.sqT z)
    walk_at "nk"
    refine w_len hx1 ?_
    walk_at "nk"
    refine ⟨_, rfl, w_both (fun e => ?_) fun e => ?_⟩
    · walk_at "nk"
      refine w_lc (fun x => .bl (isI x)) hx1 (hf _ rfl) (fun _ _ _ n => n) (fun _ => rfl) (fun x hm H2 e2 R r => ?_) (fun D H2 hD e2 h2 => ?_)
      · walk_at "nk"
        obtain ⟨t, ht⟩ := ha _ rfl x hm
        exact ⟨x, t, rfl, ht.ext (e1.tr e2), r⟩
      · walk_at "nk"
        refine w_all (bs := xs.map fun x => isI x) (SqL.of (by rw [h2, List.map_map]; rfl)) ?_
        have z := ptB_two (xs := xs) rfl
        rw [e, Bool.true_and] at z
        rw [← z]
        exact k _ (e1.tr e2)
    · have z := ptB_two (xs := xs) rfl
      rw [e, Bool.false_and] at z
      rw [z] at k
      exact k _ e1
  · have z : ptB s = false := by cases s <;> first | rfl | cases e
    rw [z] at k
    exact k _ e1
theorem nt {b : Bool} (e : (!b) = true) : b = false := by cases b <;> first | rfl | cases e
theorem nf {b : Bool} (e : (!b) = false) : b = true := by cases b <;> first | rfl | cases e
theorem absN (i : Int) : (if i < 0 then -i else i) = ((i.natAbs : Nat) : Int) := by
  by_cases c : i < 0
  · rw [if_pos c]; omega
  · rw [if_neg c]; omega
/-- the loop of both: x, y; then y, x % y, as long as y is not 0 -/
def GW (H0 : Hp) (g : Nat) (m : Nat) (σ : L2.St) (H : Hp) : Prop := ∃ x y : Nat, σ = [some (.int (x : Int)), some (.int (y : Int))] ∧ Nat.gcd x y = g ∧ m = y ∧ Ext H0 H
theorem gw_step {H0 H : Hp} {g x y m : Nat} (h0 : y ≠ 0) (hg : Nat.gcd x y = g) (hm : m = y) (e : Ext H0 H) : ∃ m', m' < m ∧ GW H0 g m' [some (.int (y : Int)), some (.int ((x : Int) % (y : Int)))] H := by
  refine ⟨x % y, ?_, y, x % y, ?_, ?_, rfl, e⟩
  · rw [hm]; exact Nat.mod_lt _ (Nat.pos_of_ne_zero h0)
  · rw [Int.natCast_emod]
  · rw [← hg, Nat.gcd_comm x y, Nat.gcd_rec y x, Nat.gcd_comm]
theorem pure_common (vs : List V) (H : Hp) (Q : VK) (E : XK) (h : sp_common K C vs H Q E) : vs.length = 2 ∧ t_common K C { nx := fun _ H' => Q .non H', rt := Q } (start N_common vs) H := by
  obtain ⟨i, j, rfl, k⟩ := h
  refine ⟨rfl, ?_⟩
  unfold t_common
  walk_at "nk"
  refine w_then ?_
  refine ⟨GW H (Int.gcd i j), ⟨_, i.natAbs, j.natAbs, ?_, rfl, rfl, .rfl⟩, ?_⟩
  · rw [absN, absN]; rfl
  · rintro m σ H1 ⟨x, y, rfl, hg, hm, e⟩
    walk_at "nk"
    refine ⟨_, rfl, w_both (fun z => ?_) fun z => ?_⟩
    · have h0 : y ≠ 0 := by
        intro q
        subst q
        simp at z
      refine ⟨fun σ' H' => σ' = [some (.int (y : Int)), some (.int ((x : Int) % (y : Int)))] ∧ Ext H H', fun σ' H' q => ?_, ?_⟩
      · rw [q.1]
        exact gw_step h0 hg hm q.2
      · walk_at "nk"
        refine w_mod (by omega) ?_
        walk_at "nk"
        exact ⟨_, _, rfl, rfl, e⟩
    · have h0 : y = 0 := by
        have : (y : Int) = 0 := by simpa using z
        omega
      subst h0
      walk_at "nk"
      rw [Nat.gcd_zero_right] at hg
      rw [hg]
      exact k _ e
theorem wayB_pt {s : Option (List V)} (e : ptB s = false) : wayB s = false := by
  match s with
  | none => rfl
  | some [] => rfl
  | some [a] => cases a <;> rfl
  | some [a, b] => cases a <;> cases b <;> first | rfl | cases e
  | some (a :: b :: c :: r) => cases a <;> cases b <;> rfl
theorem pt_two {s : Option (List V)} (e : ptB s = true) : ∃ p q, s = some [.int p, .int q] := by
  match s with
  | none => cases e
  | some [] => cases e
  | some [a] => cases a <;> cases e
  | some [a, b] => cases a <;> cases b <;> first | exact ⟨_, _, rfl⟩ | cases e
  | some (a :: b :: c :: r) => cases a <;> cases b <;> cases e
theorem pure_is_way (vs : List V) (H : Hp) (Q : VK) (E : XK) (h : sp_is_way K C vs H Q E) : vs.length = 1 ∧ t_is_way K C { nx := fun _ H' => Q .non H', rt := Q } (start N_is_way vs) H := by
  obtain ⟨v, s, rfl, hd, hf, k⟩ := h
  refine ⟨rfl, ?_⟩
  unfold t_is_way
  refine w_then ?_
  walk_at "nk"
  refine ⟨v, s, rfl, hd, hf, fun H1 e1 => ⟨_, rfl, w_both (fun e => ?_) fun e => ?_⟩⟩
  · walk_at "nk"
    rw [wayB_pt (by simpa using e)] at k
    exact k _ e1
  · obtain ⟨p, q, rfl⟩ := pt_two (s := s) (by simpa using e)
    obtain ⟨a, rfl, hx⟩ := hd.1.sq
    have hx1 : SqL K H1 a [.int p, .int q] ∨ SqT K H1 a [.int p, .int q] := hx.elim (fun z => .inl (e1.sqL z)) fun z => .inr (e1.sqT z)
    walk_at "nk"
    refine w_lc (fun x => .bl (withinB x (some (-1000000000000)) (some 1000000000000))) hx1 (by simp) (fun _ _ _ n => n) (fun _ => rfl) (fun x hm H2 e2 R r => ?_) (fun D H2 hD e2 h2 => ?_)
    · walk_at "nk"
      have : ∃ i, x = .int i := by
        rcases List.mem_cons.mp hm with z | z
        · exact ⟨_, z⟩
        · exact ⟨_, List.mem_singleton.mp z⟩
      obtain ⟨i, rfl⟩ := this
      exact ⟨.int i, none, some (-1000000000000), some 1000000000000, rfl, .int i, r⟩
    · walk_at "nk"
      refine w_all (bs := [withinB (.int p) (some (-1000000000000)) (some 1000000000000), withinB (.int q) (some (-1000000000000)) (some 1000000000000)]) (SqL.of h2) ?_
      walk_at "nk"
      have way : wayB (some [V.int p, V.int q]) = ([withinB (.int p) (some (-1000000000000)) (some 1000000000000), withinB (.int q) (some (-1000000000000)) (some 1000000000000)].all id && decide ((Int.gcd p q : Int) = 1)) := by
        simp [wayB, wayI, withinB]
      refine ⟨_, rfl, w_both (fun e => ?_) fun e => ?_⟩
      · have e' : ([withinB (.int p) (some (-1000000000000)) (some 1000000000000), withinB (.int q) (some (-1000000000000)) (some 1000000000000)].all id) = false := nt e
        walk_at "nk"
        rw [e', Bool.false_and] at way
        rw [way] at k
        exact k _ (e1.tr e2)
      · have e' : ([withinB (.int p) (some (-1000000000000)) (some 1000000000000), withinB (.int q) (some (-1000000000000)) (some 1000000000000)].all id) = true := nf e
        have hx2 : SqL K H2 a [.int p, .int q] ∨ SqT K H2 a [.int p, .int q] := hx1.elim (fun z => .inl (e2.sqL z)) fun z => .inr (e2.sqT z)
        walk_at "nk"
        refine w_ix hx2 rfl ?_
        walk_at "nk"
        refine w_ix hx2 rfl ?_
        walk_at "nk"
        refine ⟨p, q, rfl, fun H3 e3 => ?_⟩
        walk_at "nk"
        rw [e', Bool.true_and] at way
        rw [← way]
        exact k _ ((e1.tr e2).tr e3)
end
end NK

namespace NK
open PySem PySem.Spec L2
section
variable {K : PySem.W.Frag} {C : CA}
theorem dp_ints {H : Hp} : ∀ ns : List Int, DpAll K H (ns.map V.int) (ns.map PyData.int)
  | [] => .nil
  | n :: ns => .cons (.int n) (dp_ints ns)
theorem lay_ints : ∀ ns : List Int, PyData.canLayAll0 (ns.map PyData.int) = true ∧ PyData.depthAll (ns.map PyData.int) ≤ 1
  | [] => ⟨rfl, Nat.zero_le _⟩
  | n :: ns => by
    obtain ⟨h1, h2⟩ := lay_ints ns
    simp only [List.map_cons, PyData.canLayAll0, PyData.depthAll, PyData.canLay0, PyData.depth, h1]
    exact ⟨rfl, Nat.max_le.2 ⟨Nat.zero_le _, h2⟩⟩
theorem shaped_ints (ns : List Int) : SeqAt.shaped (.list (ns.map PyData.int)) = true := by
  obtain ⟨h1, h2⟩ := lay_ints ns
  unfold SeqAt.shaped
  simp only [PyData.canLay0, PyData.depth, h1, Bool.true_and]
  exact decide_eq_true (by omega)
theorem map_same : ∀ l : List V, l.map (fun x => x) = l
  | [] => rfl
  | x :: l => by rw [List.map_cons, map_same l]
theorem eqv_nil (ns : List Int) : PyData.eqv (.list (ns.map PyData.int)) (.list []) = ns.isEmpty := by
  cases ns with
  | nil => rfl
  | cons n ns => rfl
/-- the greatest number that is raised to a power -/
theorem pow5_ok {a b t : Int} (h1 : 0 ≤ a) (h2 : a < 4294967296) (h3 : 0 ≤ t) (h4 : t ≤ 100000) (h5 : 0 ≤ b) (h6 : b ≤ 1000000) {c : Int} (h7 : 0 ≤ c) (h8 : c ≤ 1000000) : CPow (a + b * t + c) 5 := by
  have k1 : 0 ≤ b * t := Int.mul_nonneg h5 h3
  have k2 : b * t ≤ 1000000 * 100000 := Int.mul_le_mul h6 h4 h3 (by decide)
  refine ⟨by decide, by decide, ?_⟩
  omega
theorem pow3_ok {m d t a c : Int} (h1 : 0 ≤ m) (h2 : m < 4294967296) (h3 : 0 ≤ t) (h4 : t ≤ 100000) (h5 : 0 ≤ d) (h6 : d ≤ 1000000) (h7 : 0 ≤ a) (h8 : a ≤ 1000000) (h9 : 0 ≤ c) (h10 : c ≤ 1000000) : CPow (m * (2 * t + d) + a * t * t + c) 3 := by
  have k1 : 0 ≤ m * (2 * t + d) := Int.mul_nonneg h1 (by omega)
  have k2 : m * (2 * t + d) ≤ 4294967296 * 1200000 := Int.mul_le_mul (by omega) (by omega) (by omega) (by decide)
  have k3 : 0 ≤ a * t := Int.mul_nonneg h7 h3
  have k4 : a * t ≤ 1000000 * 100000 := Int.mul_le_mul h8 h4 h3 (by decide)
  have k5 : 0 ≤ a * t * t := Int.mul_nonneg k3 h3
  have k6 : a * t * t ≤ 1000000 * 100000 * 100000 := Int.mul_le_mul k4 h4 h3 (by decide)
  refine ⟨by decide, by decide, ?_⟩
  omega
theorem div_ok {i m : Int} (h1 : 0 < m) (h2 : m < 2 ^ 200) : CDivW i m := wide_div (b := 200) h1 (by omega) (by decide) (by decide)
theorem small_mul {i j : Int} (h1 : -1000000000000 < i) (h2 : i < 1000000000000) : CMul i j := .inl ⟨by omega, by omega⟩
theorem small_mulR {i j : Int} (h1 : -1000000000000 < j) (h2 : j < 1000000000000) : CMul i j := .inr ⟨by omega, by omega⟩

theorem pure_law_lantern (vs : List V) (H : Hp) (Q : VK) (E : XK) (h : sp_law_lantern K C vs H Q E) : vs.length = 1 ∧ t_law_lantern K C { nx := fun _ H' => Q .non H', rt := Q } (start N_law_lantern vs) H := by
  obtain ⟨a, ns, rfl, ha, hn, k⟩ := h
  refine ⟨rfl, ?_⟩
  unfold t_law_lantern
  walk_at "nk"
  refine ⟨_, rfl, w_slL ha ?_⟩
  intro p n_p
  generalize z_p : upd _ p _ = H1
  obtain ⟨e1, h1, m_p⟩ := newly n_p z_p
  clear z_p
  have cut : cutV (ns.map V.int) none (some 60) = (ns.take 60).map V.int := by
    unfold cutV
    rw [HT.sIx_none, show (some (60 : Int)) = some ((60 : Nat) : Int) from rfl, HT.sIx_nat, List.drop_zero, Nat.sub_zero, List.map_take, List.length_map]
    by_cases c : 60 ≤ ns.length
    · rw [Nat.min_eq_left c]
    · rw [Nat.min_eq_right (by omega), List.take_of_length_le (by simp), List.take_of_length_le (by rw [List.length_map]; omega)]
  rw [cut] at h1
  refine w_lc (fun x => x) (.inl (SqL.of h1)) ?_ (fun _ _ _ n => n) (fun _ => rfl) (fun x hm H2 e2 R r => ?_) (fun D H2 hD e2 h2 => ?_)
  · rw [List.length_map, List.length_take]; omega
  · obtain ⟨i, _, rfl⟩ := List.mem_map.mp hm
    walk_at "nk"
    exact r _ .rfl
  · walk_at "nk"
    refine ⟨sm (by simp), ?_⟩
    intro L n_L
    generalize z_L : upd _ L _ = H3
    obtain ⟨e3, h3, m_L⟩ := newly n_L z_L
    clear z_L
    have hD3 : H3 D = some (.lst ((ns.take 60).map V.int)) := by
      have q := e3 D _ h2
      rw [map_same] at q
      exact q
    refine k L H3 (((e1.tr e2)).before n_L) ((e1.tr e2).tr e3) ⟨D, 0, 0, ns.take 60, h3, ?_, ?_, by omega, by omega, by omega, ?_⟩
    · exact hD3
    · intro z
      rw [← z, h2] at n_L
      cases n_L
    · rw [List.length_take]; omega
theorem pure_law_flick (vs : List V) (H : Hp) (Q : VK) (E : XK) (h : sp_law_flick K C vs H Q E) : vs.length = 2 ∧ t_law_flick K C { nx := fun _ H' => Q .non H', rt := Q } (start N_law_flick vs) H := by
  obtain ⟨L, n, m, rfl, ⟨c, t, r, cells, hL, hc, ne, t0, t1, r0, few⟩, hn, m0, m1, k⟩ := h
  refine ⟨rfl, ?_⟩
  have md : ∀ x : Int, 0 ≤ x % m ∧ x % m < m := fun x => ⟨Int.emod_nonneg x (by omega), Int.emod_lt_of_pos x m0⟩
  unfold t_law_flick
  refine w_then ?_
  walk_at "nk"
  refine w_ixL (SqL.of hL) rfl ?_
  walk_at "nk"
  refine ⟨_, rfl, w_both (fun z => ?_) fun z => ?_⟩
  · have r1 : 0 < r := of_decide_eq_true z
    walk_at "nk"
    refine w_ixL (SqL.of hL) rfl ?_
    walk_at "nk"
    refine w_div (div_ok m0 m1) ?_
    walk_at "nk"
    refine w_setL hL rfl ?_
    walk_at "nk"
    refine w_mod m0 ?_
    exact k _ _ (md r).1 (md r).2 Adv.put ⟨c, t, r / m, cells, upd_same, by rw [upd_ne ne]; exact hc, ne, t0, by omega, Int.ediv_nonneg r0 (by omega), few⟩
  · walk_at "nk"
    refine w_ixL (SqL.of hL) rfl ?_
    walk_at "nk"
    refine w_setL hL rfl ?_
    -- the lantern behind the turn
    generalize zH : upd H L _ = H1
    have hL1 : H1 L = some (.lst [.ref c, .int (t + 1), .int r]) := by rw [← zH, upd_same]; rfl
    have hc1 : H1 c = some (.lst (cells.map V.int)) := by rw [← zH, upd_ne ne]; exact hc
    have a1 : Adv L H H1 := by rw [← zH]; exact Adv.put
    walk_at "nk"
    refine w_mul (small_mul (by decide) (by decide)) ?_
    walk_at "nk"
    -- which cell
    refine w_mid (fun σ' H' => ∃ x : Int, σ' = [some (.ref L), some (.int m), none, some (.int t), some (.int x), none] ∧ Ext H1 H') ?_ ?_
    · walk_at "nk"
      refine w_ixL (SqL.of hL1) rfl ?_
      walk_at "nk"
      refine ⟨sm (by simp), ?_⟩
      intro p n_p
      generalize z_p : upd _ p _ = H2
      obtain ⟨e2, h2, m_p⟩ := newly n_p z_p
      clear z_p
      refine w_neD (.lst (SqL.of (e2 _ _ hc1)) (dp_ints cells)) (.lst (SqL.of h2) .nil) (shaped_ints cells) rfl ?_
      rw [eqv_nil]
      refine ⟨_, rfl, w_both (fun z => ?_) fun z => ?_⟩
      · walk_at "nk"
        refine w_ixL (SqL.of (e2 _ _ hL1)) rfl ?_
        walk_at "nk"
        refine w_ixL (SqL.of (e2 _ _ hL1)) rfl ?_
        walk_at "nk"
        refine w_len (.inl (SqL.of (e2 _ _ hc1))) ?_
        have pos : 0 < cells.length := by
          cases cells with
          | nil => cases z
          | cons x xs => simp
        walk_at "nk"
        refine w_mod (by rw [List.length_map]; omega) ?_
        rw [List.length_map]
        have ix : ∃ j : Nat, t % (cells.length : Int) = j ∧ j < cells.length := ⟨(t % (cells.length : Int)).toNat, by have := Int.emod_nonneg t (b := (cells.length : Int)) (by omega); omega, by
          have := Int.emod_nonneg t (b := (cells.length : Int)) (by omega)
          have := Int.emod_lt_of_pos t (b := (cells.length : Int)) (by omega)
          omega⟩
        obtain ⟨j, ej, hj⟩ := ix
        rw [ej]
        refine w_ixL (SqL.of (e2 _ _ hc1)) (v := .int cells[j]) (atI_nat ?_) ?_
        · rw [List.getElem?_map, List.getElem?_eq_getElem hj]; rfl
        · walk_at "nk"
          exact ⟨cells[j], rfl, e2⟩
      · walk_at "nk"
        exact ⟨_, rfl, e2⟩
    · rintro _ H2 ⟨x, rfl, e2⟩
      have hL2 := e2 _ _ hL1
      have hc2 := e2 _ _ hc1
      have a2 : Adv L H H2 := a1.tr e2.adv
      refine w_mid (fun σ' H' => σ' = [some (.ref L), some (.int m), none, some (.int t), some (.int x), none] ∧ H' = H2) ?_ ?_
      · walk_at "nk"
        refine w_ixL (SqL.of hL2) rfl ?_
        walk_at "nk"
        refine w_len (.inl (SqL.of hc2)) ?_
        walk_at "nk"
        refine ⟨_, rfl, w_both (fun z => ?_) fun z => ?_⟩
        · walk_at "nk"
          refine w_pow (i := 10) (j := 18) ⟨by decide, by decide, by decide⟩ ?_
          walk_at "nk"
          refine ⟨_, rfl, w_both (fun z => ?_) fun z => ?_⟩
          · have big : (1000000000000000000 : Int) ≤ (if x < 0 then -x else x) := of_decide_eq_true z
            walk_at "nk"
            refine w_pow (i := 10) (j := 18) ⟨by decide, by decide, by decide⟩ ?_
            walk_at "nk"
            refine w_mul (small_mul (by decide) (by decide)) ?_
            walk_at "nk"
            have e18 : ((10 : Int) ^ (Int.toNat 18)) = 1000000000000000000 := by decide
            rw [e18]
            generalize zr : 2 * ((if x < 0 then -x else x) - 1000000000000000000) + (if decide (x < 0) = true then (1 : Int) else 0) = y
            have y0 : 0 ≤ y := by
              rw [← zr]
              split <;> omega
            refine w_div (div_ok m0 m1) ?_
            walk_at "nk"
            refine w_setL hL2 rfl ?_
            walk_at "nk"
            refine w_mod m0 ?_
            exact k _ _ (md y).1 (md y).2 (a2.tr Adv.put) ⟨c, t + 1, y / m, cells, upd_same, by rw [upd_ne ne]; exact hc2, ne, by omega, by omega, Int.ediv_nonneg y0 (by omega), few⟩
          · walk_at "nk"
            exact ⟨rfl, rfl⟩
        · walk_at "nk"
          exact ⟨rfl, rfl⟩
      · rintro _ _ ⟨rfl, rfl⟩
        walk_at "nk"
        refine w_mod (by decide) ?_
        walk_at "nk"
        refine w_mul (small_mul (by decide) (by decide)) ?_
        walk_at "nk"
        refine w_pow (pow5_ok (Int.emod_nonneg _ (by decide)) (Int.lt_trans (Int.emod_lt_of_pos _ (by decide)) (by decide)) t0 (by omega) (by decide) (by decide) (by decide) (by decide)) ?_
        walk_at "nk"
        refine w_mod (by decide) ?_
        walk_at "nk"
        generalize zx : ((_ : Int) ^ (Int.toNat 5)) % _ = y
        have y0 : 0 ≤ y := by rw [← zx]; exact Int.emod_nonneg _ (by decide)
        have y1 : y < 4294967296 := by rw [← zx]; exact Int.lt_trans (Int.emod_lt_of_pos _ (by decide)) (by decide)
        refine w_mul (small_mul (by decide) (by decide)) ?_
        walk_at "nk"
        refine w_mul (small_mul (by omega) (by omega)) ?_
        walk_at "nk"
        refine w_mul (small_mul (by decide) (by decide)) ?_
        walk_at "nk"
        refine w_mul (small_mulR (by omega) (by omega)) ?_
        walk_at "nk"
        refine w_pow (pow3_ok y0 y1 t0 (by omega) (by decide) (by decide) (by decide) (by decide) (by decide) (by decide)) ?_
        walk_at "nk"
        refine w_mod (by decide) ?_
        walk_at "nk"
        refine w_div (div_ok (by decide) (by decide)) ?_
        walk_at "nk"
        refine w_mod m0 ?_
        exact k _ _ (md _).1 (md _).2 a2 ⟨c, t + 1, r, cells, hL2, hc2, ne, by omega, by omega, r0, few⟩
theorem pure_law_pick (vs : List V) (H : Hp) (Q : VK) (E : XK) (h : sp_law_pick K C vs H Q E) : vs.length = 2 ∧ t_law_pick K C { nx := fun _ H' => Q .non H', rt := Q } (start N_law_pick vs) H := by
  obtain ⟨L, n, p, xs, rfl, hl, hn, np, hx, h0, hm, k⟩ := h
  refine ⟨rfl, ?_⟩
  have pos : 0 < xs.length := List.length_pos_iff.mpr h0
  unfold t_law_pick
  walk_at "nk"
  refine w_len hx ?_
  walk_at "nk"
  refine ⟨L, n, (xs.length : Int), rfl, hl, hn, by omega, by omega, fun v H' v0 v1 a hl' => ?_⟩
  have hx' : SqL K H' p xs ∨ SqT K H' p xs := hx.elim (fun z => .inl (a.sqL np z)) fun z => .inr (a.sqT np z)
  have hj : v.toNat < xs.length := by omega
  have ev : v = ((v.toNat : Nat) : Int) := by omega
  rw [ev]
  exact w_ix hx' (atI_nat (List.getElem?_eq_getElem hj)) (k _ _ (List.getElem_mem hj) a hl')
end
end NK

namespace NK
open PySem PySem.Spec L2
section
variable {K : PySem.W.Frag} {C : CA}
theorem pure_law_common (vs : List V) (H : Hp) (Q : VK) (E : XK) (h : sp_law_common K C vs H Q E) : vs.length = 2 ∧ t_law_common K C { nx := fun _ H' => Q .non H', rt := Q } (start N_law_common vs) H := by
  obtain ⟨i, j, rfl, k⟩ := h
  refine ⟨rfl, ?_⟩
  unfold t_law_common
  walk_at "nk"
  refine w_then ?_
  refine ⟨GW H (Int.gcd i j), ⟨_, i.natAbs, j.natAbs, ?_, rfl, rfl, .rfl⟩, ?_⟩
  · rw [absN, absN]; rfl
  · rintro m σ H1 ⟨x, y, rfl, hg, hm, e⟩
    walk_at "nk"
    refine ⟨_, rfl, w_both (fun z => ?_) fun z => ?_⟩
    · have h0 : y ≠ 0 := by
        intro q
        subst q
        simp at z
      refine ⟨fun σ' H' => σ' = [some (.int (y : Int)), some (.int ((x : Int) % (y : Int)))] ∧ Ext H H', fun σ' H' q => ?_, ?_⟩
      · rw [q.1]
        exact gw_step h0 hg hm q.2
      · walk_at "nk"
        refine w_mod (by omega) ?_
        walk_at "nk"
        exact ⟨_, _, rfl, rfl, e⟩
    · have h0 : y = 0 := by
        have : ¬ (0 : Int) < (y : Int) := of_decide_eq_false z
        omega
      subst h0
      walk_at "nk"
      rw [Nat.gcd_zero_right] at hg
      rw [hg]
      exact k _ e
theorem pure_law_any (vs : List V) (H : Hp) (Q : VK) (E : XK) (h : sp_law_any K C vs H Q E) : vs.length = 1 ∧ t_law_any K C { nx := fun _ H' => Q .non H', rt := Q } (start N_law_any vs) H := by
  obtain ⟨L, n, rfl, hl, hn, k⟩ := h
  refine ⟨rfl, ?_⟩
  unfold t_law_any
  walk_at "nk"
  refine ⟨L, n, 30, rfl, hl, by omega, by decide, by decide, fun f H1 f0 f1 a1 l1 => ?_⟩
  walk_at "nk"
  refine w_pow ⟨by decide, by decide, by decide⟩ ?_
  walk_at "nk"
  refine w_pow ⟨by decide, by decide, by decide⟩ ?_
  walk_at "nk"
  refine w_pow ⟨by decide, by decide, by decide⟩ ?_
  walk_at "nk"
  refine ⟨sm (by simp), ?_⟩
  intro p n_p
  generalize z_p : upd _ p _ = H2
  obtain ⟨e2, h2, m_p⟩ := newly n_p z_p
  clear z_p
  walk_at "nk"
  refine ⟨L, n + 1, p, _, rfl, l1.ext e2, by omega, l1.ne n_p, .inl (SqL.of h2), by simp, by simp, fun x H3 hx a3 l3 => ?_⟩
  have ex : ∃ i : Int, x = .int i ∧ i.natAbs ≤ 10 ^ 30 := by
    simp only [List.mem_cons, List.not_mem_nil, or_false] at hx
    rcases hx with rfl | rfl | rfl | rfl | rfl | rfl | rfl | rfl
    · exact ⟨_, rfl, by decide⟩
    · exact ⟨_, rfl, by decide⟩
    · exact ⟨_, rfl, by decide⟩
    · exact ⟨_, rfl, by omega⟩
    · exact ⟨_, rfl, by decide⟩
    · exact ⟨_, rfl, by decide⟩
    · exact ⟨_, rfl, by decide⟩
    · exact ⟨_, rfl, by decide⟩
  obtain ⟨i, rfl, hi⟩ := ex
  walk_at "nk"
  refine ⟨sm (by simp), ?_⟩
  intro t n_t
  generalize z_t : upd _ t _ = H4
  obtain ⟨e4, h4, m_t⟩ := newly n_t z_t
  clear z_t
  walk_at "nk"
  refine ⟨sm (by simp), ?_⟩
  intro l n_l
  generalize z_l : upd _ l _ = H5
  obtain ⟨e5, h5, m_l⟩ := newly n_l z_l
  clear z_l
  walk_at "nk"
  intro d n_d
  generalize z_d : upd _ d _ = H6
  obtain ⟨e6, h6, m_d⟩ := newly n_d z_d
  clear z_d
  walk_at "nk"
  refine ⟨sm (by simp), ?_⟩
  intro m n_m
  generalize z_m : upd _ m _ = H7
  obtain ⟨e7, h7, m_m⟩ := newly n_m z_m
  clear z_m
  walk_at "nk"
  have nt : t ≠ L := l3.ne n_t
  have nl : l ≠ L := (l3.ext e4).ne n_l
  have nd : d ≠ L := ((l3.ext e4).ext e5).ne n_d
  have l7 := (((l3.ext e4).ext e5).ext e6).ext e7
  refine ⟨L, n + 2, m, _, rfl, l7, by omega, (((l3.ext e4).ext e5).ext e6).ne n_m, .inl (SqL.of h7), by simp, by simp, fun y H8 hy a8 l8 => ?_⟩
  have t8 : H8 t = some (.tup [.int 1]) := a8 _ _ nt (e7 _ _ (e6 _ _ (e5 _ _ h4)))
  have m8 : H8 l = some (.lst [.int 0]) := a8 _ _ nl (e7 _ _ (e6 _ _ h5))
  have d8 : H8 d = some (.dK []) := a8 _ _ nd (e7 _ _ h6)
  have odd : ∃ s, Kr K L H8 y s ∧ few s ∧ isI y = false ∧ ptB s = false ∧ wayB s = false ∧ selfEq y = true := by
    have fn : few none := fun _ e => nomatch e
    have f1 : ∀ x : V, few (some [x]) := fun x ys e => by cases e; simp
    simp only [List.mem_cons, List.not_mem_nil, or_false] at hy
    rcases hy with rfl | rfl | rfl | rfl | rfl | rfl | rfl
    · exact ⟨none, .non, fn, rfl, rfl, rfl, rfl⟩
    · exact ⟨none, .bl _, fn, rfl, rfl, rfl, rfl⟩
    · exact ⟨none, .bl _, fn, rfl, rfl, rfl, rfl⟩
    · exact ⟨none, .str _, fn, rfl, rfl, rfl, rfl⟩
    · exact ⟨_, .tup t8 nt fun x hx => ⟨none, by rw [List.mem_singleton.mp hx]; exact .int 1⟩, f1 _, rfl, rfl, rfl, rfl⟩
    · exact ⟨_, .lst m8 nl fun x hx => ⟨none, by rw [List.mem_singleton.mp hx]; exact .int 0⟩, f1 _, rfl, rfl, rfl, rfl⟩
    · exact ⟨none, .dict d8 nd, fn, rfl, rfl, rfl, rfl⟩
  obtain ⟨s, ky, fy, iy, py, wy, sy⟩ := odd
  walk_at "nk"
  refine ⟨L, n + 3, 3, rfl, l8, by omega, by decide, by decide, fun g H9 g0 g1 a9 l9 => ?_⟩
  walk_at "nk"
  have aa : Adv L H H9 := ((((((((a1.tr e2.adv).tr a3).tr e4.adv).tr e5.adv).tr e6.adv).tr e7.adv).tr a8).tr a9)
  refine ⟨_, rfl, w_both (fun z => ?_) fun z => ?_⟩
  · walk_at "nk"
    refine ⟨sm (by simp), ?_⟩
    intro r n_r
    generalize z_r : upd _ r _ = H10
    obtain ⟨e10, h10, m_r⟩ := newly n_r z_r
    clear z_r
    exact k r _ _ none H10 (aa.tr e10.adv) (l9.ext e10) (l9.ne n_r) h10 (.int i) (fun _ e => nomatch e) rfl (fun _ => ⟨i, rfl, hi⟩) rfl rfl rfl
  · walk_at "nk"
    refine ⟨sm (by simp), ?_⟩
    intro r n_r
    generalize z_r : upd _ r _ = H10
    obtain ⟨e10, h10, m_r⟩ := newly n_r z_r
    clear z_r
    exact k r _ _ s H10 (aa.tr e10.adv) (l9.ext e10) (l9.ne n_r) h10 ((ky.tr a9).ext e10) fy iy (fun e => nomatch e) py wy sy
end
end NK

namespace NK
open PySem PySem.Spec L2
section
variable {K : PySem.W.Frag} {C : CA}
/-- the slots of law; a: the script, L: the lantern -/
def Sl (a L : Addr) (σ : L2.St) : Prop := ∃ x2 x3 x4 x5 x6 x7 x8 x9 x10 x11 x12 x13 x14, σ = [some (.ref a), some (.ref L), x2, x3, x4, x5, x6, x7, x8, x9, x10, x11, x12, x13, x14]
def geO (l : Option Int) (j : Int) : Bool := match l with | none => true | some a => decide (a ≤ j)
def leO (l : Option Int) (j : Int) : Bool := match l with | none => true | some a => decide (j ≤ a)
theorem withinB_int (lo hi : Option Int) (j : Int) : withinB (.int j) lo hi = (geO lo j && leO hi j) := by cases lo <;> cases hi <;> rfl
theorem wayB_int {x y : Int} (hx : x.natAbs ≤ 10000000) (hy : y.natAbs ≤ 10000000) : wayB (some [.int x, .int y]) = decide ((Int.gcd x y : Int) = 1) := by
  have h1 : decide (-1000000000000 ≤ x) = true := decide_eq_true (by omega)
  have h2 : decide (x ≤ 1000000000000) = true := decide_eq_true (by omega)
  have h3 : decide (-1000000000000 ≤ y) = true := decide_eq_true (by omega)
  have h4 : decide (y ≤ 1000000000000) = true := decide_eq_true (by omega)
  simp only [wayB, wayI, h1, h2, h3, h4, Bool.true_and]
theorem wayI_max (p q : Int) : wayI p q = (decide ((if (if q < 0 then -q else q) > (if p < 0 then -p else p) then (if q < 0 then -q else q) else (if p < 0 then -p else p)) ≤ 1000000000000) && decide ((Int.gcd p q : Int) = 1)) := by
  unfold wayI
  congr 1
  by_cases c : (if (if q < 0 then -q else q) > (if p < 0 then -p else p) then (if q < 0 then -q else q) else (if p < 0 then -p else p)) ≤ 1000000000000
  · rw [decide_eq_true c]
    have h1 : -1000000000000 ≤ p := by split at c <;> split at c <;> (try split at c) <;> omega
    have h2 : p ≤ 1000000000000 := by split at c <;> split at c <;> (try split at c) <;> omega
    have h3 : -1000000000000 ≤ q := by split at c <;> split at c <;> (try split at c) <;> omega
    have h4 : q ≤ 1000000000000 := by split at c <;> split at c <;> (try split at c) <;> omega
    rw [decide_eq_true h1, decide_eq_true h2, decide_eq_true h3, decide_eq_true h4]
    rfl
  · rw [decide_eq_false c]
    by_cases h1 : -1000000000000 ≤ p
    · by_cases h2 : p ≤ 1000000000000
      · by_cases h3 : -1000000000000 ≤ q
        · by_cases h4 : q ≤ 1000000000000
          · exfalso
            apply c
            split <;> split <;> (try split) <;> omega
          · rw [decide_eq_false h4]; simp
        · rw [decide_eq_false h3]; simp
      · rw [decide_eq_false h2]; simp
    · rw [decide_eq_false h1]; simp
theorem pairs_c {σ : L2.St} {H : Hp} : ∀ (kvs : List (Key × V)) (R : List (V × V) → Hp → Prop), R (kvs.map fun kv => (kV kv.1, kv.2)) H → tPairs (kvs.map fun kv => (tC (kV kv.1), tC kv.2)) σ H R
  | [], _, r => r
  | kv :: kvs, _, r => pairs_c kvs _ r
theorem w_dispC {σ : L2.St} {H : Hp} {Q : VK} (kvs : List (Key × V)) (h15 : kvs.length ≤ 15) (q : ∀ p H1, H p = none → Ext H H1 → H1 p = some (.dK (mergeK [] kvs)) → Q (.ref p) H1) : tDisp (kvs.map fun kv => (tC (kV kv.1), tC kv.2)) σ H Q := fun p hp =>
  pairs_c kvs _ ⟨upd_same, kvs, rfl, h15, by rw [upd_upd]; exact q p _ hp (.put hp) upd_same⟩
theorem w_way {Q : VK} {E : XK} {H : Hp} {p : Addr} {x y : Int} (b : Bool) (h : SqL K H p [.int x, .int y] ∨ SqT K H p [.int x, .int y]) (hb : wayB (some [.int x, .int y]) = b) (k : ∀ H', Ext H H' → Q (.bl b) H') : sp_is_way K C [.ref p] H Q E := by
  refine ⟨.ref p, some [.int x, .int y], rfl, ⟨h.elim .lst .tup, fun ys e x hx => ?_⟩, fun ys e => by cases e; simp, fun H' e => ?_⟩
  · cases e
    simp only [List.mem_cons, List.not_mem_nil, or_false] at hx
    rcases hx with rfl | rfl
    · exact ⟨none, .int _⟩
    · exact ⟨none, .int _⟩
  · rw [hb]; exact k H' e
theorem pure_law (vs : List V) (H : Hp) (Q : VK) (E : XK) (h : sp_law K C vs H Q E) : vs.length = 1 ∧ t_law K C { nx := fun _ H' => Q .non H', rt := Q } (start N_law vs) H := by
  obtain ⟨a, ns, rfl, ha, hn, k⟩ := h
  refine ⟨rfl, ?_⟩
  unfold t_law
  walk_at "nk"
  refine ⟨a, ns, rfl, ha, hn, fun L H1 hL e1 l1 => ?_⟩
  walk_at "nk"
  refine w_mid (fun σ' H' => Sl a L σ' ∧ ∃ n, n ≤ 1000 ∧ Lan H' L n) ?_ ?_
  · refine w_forR1 6 (fun R r => by walk_at "nk"; exact r) rfl (by decide) (fun i σ' H' => Sl a L σ' ∧ ∃ n, n ≤ 100 * i ∧ Lan H' L n) ⟨⟨_, _, _, _, _, _, _, _, _, _, _, _, _, rfl⟩, 0, Nat.zero_le _, l1⟩ (fun i σ' H' hi p => ?_) (fun σ' H' p => ?_)
    rotate_left
    · obtain ⟨p1, n, p2, p3⟩ := p
      exact ⟨p1, n, by omega, p3⟩
    obtain ⟨⟨x2, x3, x4, x5, x6, x7, x8, x9, x10, x11, x12, x13, x14, rfl⟩, n, hn, l⟩ := p
    walk_at "nk"
    -- (value, is_one), (other, is_other)
    refine ⟨L, n, rfl, l, by omega, fun p v b s Ha a1 la np hp kv fv iv bi pv wv sv => ?_⟩
    walk_at "nk"
    refine ⟨L, n + 4, rfl, la, by omega, fun q o c u Hb a2 lb nq hq ko fo io ci po wo so => ?_⟩
    walk_at "nk"
    refine ⟨sm (by simp), ?_⟩
    intro t n_t
    generalize z_t : upd _ t _ = Hc
    obtain ⟨e3, h3, m_t⟩ := newly n_t z_t
    clear z_t
    walk_at "nk"
    refine w_tupG h3 rfl ?_
    walk_at "nk"
    refine w_tupG (e3 _ _ (a2 _ _ np hp)) rfl ?_
    walk_at "nk"
    refine w_tupG (e3 _ _ hq) rfl ?_
    walk_at "nx"
    subst iv io
    have kv : Kr K L Hc v s := (kv.tr a2).ext e3
    have ko : Kr K L Hc o u := ko.ext e3
    have lc : Lan Hc L (n + 8) := lb.ext e3
    clear a1 la np hp a2 lb nq hq h3 m_t n_t e3 l
    -- least, most
    refine w_mid (fun σ' H' => ∃ lo hi : Option Int, σ' = [some (.ref a), some (.ref L), some (.int (i : Int)), x3, x4, some (oV lo), some (oV hi), x7, x8, x9, some v, some (.bl (isI v)), some o, some (.bl (isI o)), x14] ∧ Adv L Hc H' ∧ Lan H' L (n + 12)) ?_ ?_
    · walk_at "nk"
      refine ⟨L, n + 8, 30, rfl, lc, by omega, by decide, by decide, fun f H1 f0 f1 a1 l1 => ?_⟩
      walk_at "nk"
      refine ⟨sm (by simp), ?_⟩
      intro p n_p
      generalize z_p : upd _ p _ = H2
      obtain ⟨e2, h2, m_p⟩ := newly n_p z_p
      clear z_p
      walk_at "nk"
      refine ⟨L, n + 9, p, _, rfl, l1.ext e2, by omega, l1.ne n_p, .inl (SqL.of h2), by simp, by simp, fun x H3 hx a3 l3 => ?_⟩
      have ex : ∃ lo, x = oV lo := by
        simp only [List.mem_cons, List.not_mem_nil, or_false] at hx
        rcases hx with rfl | rfl | rfl | rfl
        · exact ⟨none, rfl⟩
        · exact ⟨some _, rfl⟩
        · exact ⟨some _, rfl⟩
        · exact ⟨some _, rfl⟩
      obtain ⟨lo, rfl⟩ := ex
      walk_at "nk"
      refine ⟨L, n + 10, 30, rfl, l3, by omega, by decide, by decide, fun g H4 g0 g1 a4 l4 => ?_⟩
      walk_at "nk"
      refine ⟨sm (by simp), ?_⟩
      intro q n_q
      generalize z_q : upd _ q _ = H5
      obtain ⟨e5, h5, m_q⟩ := newly n_q z_q
      clear z_q
      walk_at "nk"
      refine ⟨L, n + 11, q, _, rfl, l4.ext e5, by omega, l4.ne n_q, .inl (SqL.of h5), by simp, by simp, fun y H6 hy a6 l6 => ?_⟩
      have ey : ∃ hi, y = oV hi := by
        simp only [List.mem_cons, List.not_mem_nil, or_false] at hy
        rcases hy with rfl | rfl | rfl | rfl
        · exact ⟨none, rfl⟩
        · exact ⟨some _, rfl⟩
        · exact ⟨some _, rfl⟩
        · exact ⟨some _, rfl⟩
      obtain ⟨hi, rfl⟩ := ey
      walk_at "nk"
      exact ⟨_, _, rfl, lo, hi, rfl, ((((a1.tr e2.adv).tr a3).tr a4).tr e5.adv).tr a6, l6⟩
    rintro _ Hd ⟨lo, hi, rfl, ad, ld⟩
    -- due
    refine w_mid (fun σ' H' => σ' = [some (.ref a), some (.ref L), some (.int (i : Int)), some (.bl (withinB v lo hi)), x4, some (oV lo), some (oV hi), x7, x8, x9, some v, some (.bl (isI v)), some o, some (.bl (isI o)), x14] ∧ Hd = H') ?_ ?_
    · walk_at "nk"
      refine ⟨_, rfl, w_both (fun z => ?_) fun z => ?_⟩
      · obtain ⟨j, rfl⟩ := isI_of z
        have low : ∀ N : V → Hp → Prop, (∀ c : Bool, c = geO lo j → N (.bl c) Hd) → tOrV (tOp rIsNo (tVar 5) (tC .non)) (tOp rGe (tVar 10) (tVar 5)) [some (.ref a), some (.ref L), some (.int (i : Int)), x3, x4, some (oV lo), some (oV hi), x7, x8, x9, some (.int j), some (.bl (isI (.int j))), some o, some (.bl (isI o)), x14] Hd N := by
          intro N kN
          walk_at "nk"
          cases lo with
          | none => exact ⟨true, rfl, w_t (kN true rfl)⟩
          | some a =>
            refine ⟨false, rfl, w_f ?_⟩
            refine w_op (w_var rfl (w_var rfl (w_ge (kN _ rfl))))
        have high : ∀ N : V → Hp → Prop, (∀ c : Bool, c = leO hi j → N (.bl c) Hd) → tOrV (tOp rIsNo (tVar 6) (tC .non)) (tOp rLe (tVar 10) (tVar 6)) [some (.ref a), some (.ref L), some (.int (i : Int)), x3, x4, some (oV lo), some (oV hi), x7, x8, x9, some (.int j), some (.bl (isI (.int j))), some o, some (.bl (isI o)), x14] Hd N := by
          intro N kN
          walk_at "nk"
          cases hi with
          | none => exact ⟨true, rfl, w_t (kN true rfl)⟩
          | some a =>
            refine ⟨false, rfl, w_f ?_⟩
            refine w_op (w_var rfl (w_var rfl (w_le (kN _ rfl))))
        refine w_andV (low _ fun c ec => ⟨c, rfl, w_both (fun z => high _ fun d ed => ?_) fun z => ?_⟩)
        · walk_at "nk"
          refine ⟨?_, rfl⟩
          have : d = withinB (.int j) lo hi := by rw [withinB_int, ← ec, ← ed, z, Bool.true_and]
          rw [this]
        · walk_at "nk"
          refine ⟨?_, rfl⟩
          have : false = withinB (.int j) lo hi := by rw [withinB_int, ← ec, z, Bool.false_and]
          rw [this]
      · walk_at "nk"
        exact ⟨by rw [withinB_no z], rfl⟩
    rintro _ _ ⟨rfl, rfl⟩
    -- is_integer
    refine w_mid (fun σ' H' => σ' = [some (.ref a), some (.ref L), some (.int (i : Int)), some (.bl (withinB v lo hi)), x4, some (oV lo), some (oV hi), x7, x8, x9, some v, some (.bl (isI v)), some o, some (.bl (isI o)), x14] ∧ Ext Hd H') ?_ ?_
    · refine w_ifS (w_repr2 [.bool (isI v), .bool (isI v)] rfl rfl (by show 1 ≤ 40; decide) (fits rfl rfl) (by simp) (fun R r => ?_) (fun H1 e1 R r => ?_) fun H1 e1 => ?_)
      · walk_at "nk"
        refine ⟨v, s, rfl, (kv _ ad).1, fun H1 e1 => ?_⟩
        walk_at "nk"
        refine ⟨v, s, rfl, (kv _ (ad.tr e1.adv)).1, fun H2 e2 => ?_⟩
        walk_at "nk"
        exact r _ _ rfl (e1.tr e2) fun _ _ => dp_bls [isI v, isI v]
      · walk_at "nk"
        exact r _ _ rfl .rfl fun _ _ => dp_bls [isI v, isI v]
      · walk_at "nk"
        exact ⟨rfl, e1⟩
    rintro _ He ⟨rfl, ee⟩
    have ae := ad.tr ee.adv
    -- is_within
    refine w_mid (fun σ' H' => σ' = [some (.ref a), some (.ref L), some (.int (i : Int)), some (.bl (withinB v lo hi)), x4, some (oV lo), some (oV hi), x7, x8, x9, some v, some (.bl (isI v)), some o, some (.bl (isI o)), x14] ∧ Ext Hd H') ?_ ?_
    · refine w_ifS (w_repr2 [.bool (withinB v lo hi), .bool (withinB v lo hi)] rfl rfl (by show 1 ≤ 40; decide) (fits rfl rfl) (by simp) (fun R r => ?_) (fun H1 e1 R r => ?_) fun H1 e1 => ?_)
      · walk_at "nk"
        refine ⟨v, s, lo, hi, rfl, (kv _ ae).1, fun H1 e1 => ?_⟩
        walk_at "nk"
        refine ⟨v, s, lo, hi, rfl, (kv _ (ae.tr e1.adv)).1, fun H2 e2 => ?_⟩
        walk_at "nk"
        exact r _ _ rfl (e1.tr e2) fun _ _ => dp_bls [withinB v lo hi, withinB v lo hi]
      · walk_at "nk"
        exact r _ _ rfl .rfl fun _ _ => dp_bls [withinB v lo hi, withinB v lo hi]
      · walk_at "nk"
        exact ⟨rfl, ee.tr e1⟩
    rintro _ Hf ⟨rfl, ef⟩
    have af := ad.tr ef.adv
    -- pair
    refine w_mid (fun σ' H' => ∃ P, σ' = [some (.ref a), some (.ref L), some (.int (i : Int)), some (.bl (isI v && isI o)), x4, some (oV lo), some (oV hi), some (.ref P), x8, x9, some v, some (.bl (isI v)), some o, some (.bl (isI o)), x14] ∧ Ext Hd H' ∧ P ≠ L ∧ H' P = some (.lst [v, o])) ?_ ?_
    · walk_at "nx"
      refine ⟨sm (by simp), ?_⟩
      intro P n_P
      generalize z_P : upd _ P _ = H1
      obtain ⟨e1, h1, m_P⟩ := newly n_P z_P
      clear z_P
      walk_at "nx"
      refine w_andB (d := isI o) ?_ (fun R r => w_var rfl r)
      walk_at "nx"
      exact ⟨_, _, rfl, P, rfl, ef.tr e1, (ld.ext ef).ne n_P, h1⟩
    rintro _ Hg ⟨P, rfl, eg, nP, hP⟩
    have ag := ad.tr eg.adv
    have kP : Kr K L Hg (.ref P) (some [v, o]) := .lst hP nP fun x hx => by
      simp only [List.mem_cons, List.not_mem_nil, or_false] at hx
      rcases hx with rfl | rfl
      · exact ⟨s, kv.tr ag⟩
      · exact ⟨u, ko.tr ag⟩
    have fP : few (some [v, o]) := fun ys e => by cases e; simp
    have f1 : few (some [v]) := fun ys e => by cases e; simp
    have f3 : few (some [v, o, .int 1]) := fun ys e => by cases e; simp
    have iv : ∀ x ∈ [v, o], ∃ s, Kr K L Hg x s := fun x hx => by
      simp only [List.mem_cons, List.not_mem_nil, or_false] at hx
      rcases hx with rfl | rfl
      · exact ⟨s, kv.tr ag⟩
      · exact ⟨u, ko.tr ag⟩
    have iv3 : ∀ x ∈ [v, o, .int 1], ∃ s, Kr K L Hg x s := fun x hx => by
      simp only [List.mem_cons, List.not_mem_nil, or_false] at hx
      rcases hx with rfl | rfl | rfl
      · exact ⟨s, kv.tr ag⟩
      · exact ⟨u, ko.tr ag⟩
      · exact ⟨none, .int 1⟩
    have pt2 : ptB (some [v, o]) = (isI v && isI o) := by cases v <;> cases o <;> rfl
    have pt1 : ptB (some [v]) = false := by cases v <;> rfl
    have pt3 : ptB (some [v, o, .int 1]) = false := by cases v <;> cases o <;> rfl
    have lg : Lan Hg L (n + 12) := ld.ext eg
    -- is_point
    refine w_mid (fun σ' H' => σ' = [some (.ref a), some (.ref L), some (.int (i : Int)), some (.bl (isI v && isI o)), x4, some (oV lo), some (oV hi), some (.ref P), x8, x9, some v, some (.bl (isI v)), some o, some (.bl (isI o)), x14] ∧ Ext Hg H') ?_ ?_
    · refine w_ifS (w_repr2 [.bool (isI v && isI o), .bool (isI v && isI o), .bool false, .bool false, .bool false] rfl rfl (by show 1 ≤ 40; decide) (fits rfl rfl) (by simp) (fun R r => ?_) (fun H1 e1 R r => ?_) fun H1 e1 => ?_)
      · walk_at "nx"
        refine ⟨_, _, rfl, kP.now, fP, fun H1 e1 => ?_⟩
        rw [pt2]
        walk_at "nx"
        refine w_tupleL (SqL.of (e1 _ _ hP)) ?_
        intro t1 n_t1
        generalize z_t1 : upd _ t1 _ = H2
        obtain ⟨e2, h2, m_t1⟩ := newly n_t1 z_t1
        clear z_t1
        walk_at "nx"
        refine ⟨.ref t1, some [v, o], rfl, Kr.now (.tup h2 ((lg.ext e1).ne n_t1) fun x hx => (iv x hx).elim fun s q => ⟨s, (q.ext e1).ext e2⟩), fP, fun H3 e3 => ?_⟩
        rw [pt2]
        walk_at "nx"
        refine ⟨_, rfl, w_slL (SqL.of (e3 _ _ (e2 _ _ (e1 _ _ hP)))) ?_⟩
        rw [show cutV [v, o] none (some 1) = [v] from rfl]
        intro t2 n_t2
        generalize z_t2 : upd _ t2 _ = H4
        obtain ⟨e4, h4, m_t2⟩ := newly n_t2 z_t2
        clear z_t2
        walk_at "nx"
        refine ⟨.ref t2, some [v], rfl, Kr.now (.lst h4 ((((lg.ext e1).ext e2).ext e3).ne n_t2) fun x hx => ⟨s, by rw [List.mem_singleton.mp hx]; exact ((((kv.tr ag).ext e1).ext e2).ext e3).ext e4⟩), f1, fun H5 e5 => ?_⟩
        rw [pt1]
        walk_at "nx"
        refine ⟨sm (by simp), ?_⟩
        intro t3 n_t3
        generalize z_t3 : upd _ t3 _ = H6
        obtain ⟨e6, h6, m_t3⟩ := newly n_t3 z_t3
        clear z_t3
        have e16 := ((((e1.tr e2).tr e3).tr e4).tr e5).tr e6
        refine w_cat (e16 _ _ hP) h6 (by simp) ?_
        intro t4 n_t4
        generalize z_t4 : upd _ t4 _ = H7
        obtain ⟨e7, h7, m_t4⟩ := newly n_t4 z_t4
        clear z_t4
        walk_at "nx"
        refine ⟨.ref t4, some [v, o, .int 1], rfl, Kr.now (.lst h7 ((lg.ext e16).ne n_t4) fun x hx => (iv3 x hx).elim fun s q => ⟨s, (q.ext e16).ext e7⟩), f3, fun H8 e8 => ?_⟩
        rw [pt3]
        walk_at "nx"
        refine ⟨v, s, rfl, kv _ (((ag.tr e16.adv).tr e7.adv).tr e8.adv), fv, fun H9 e9 => ?_⟩
        rw [pv]
        walk_at "nx"
        exact r _ _ rfl (((e16.tr e7).tr e8).tr e9) fun _ _ => dp_bls [isI v && isI o, isI v && isI o, false, false, false]
      · walk_at "nx"
        exact r _ _ rfl .rfl fun _ _ => dp_bls [isI v && isI o, isI v && isI o, false, false, false]
      · walk_at "nx"
        exact ⟨rfl, e1⟩
    rintro _ Hi ⟨rfl, ei⟩
    have ai := ag.tr ei.adv
    have hPi := ei _ _ hP
    -- due
    refine w_mid (fun σ' H' => σ' = [some (.ref a), some (.ref L), some (.int (i : Int)), some (.bl (wayB (some [v, o]))), x4, some (oV lo), some (oV hi), some (.ref P), x8, x9, some v, some (.bl (isI v)), some o, some (.bl (isI o)), x14] ∧ Ext Hg H') ?_ ?_
    · walk_at "nx"
      refine ⟨_, rfl, w_both (fun z => ?_) fun z => ?_⟩
      · rw [Bool.and_eq_true] at z
        obtain ⟨x, rfl⟩ := isI_of z.1
        obtain ⟨y, rfl⟩ := isI_of z.2
        walk_at "nx"
        refine w_pow ⟨by decide, by decide, by decide⟩ ?_
        walk_at "nx"
        rw [show ((10 : Int) ^ (Int.toNat 12)) = 1000000000000 by decide]
        refine ⟨_, rfl, w_both (fun z => ?_) fun z => ?_⟩
        · walk_at "nx"
          refine ⟨x, y, rfl, fun H1 e1 => ?_⟩
          walk_at "nx"
          refine ⟨?_, ei.tr e1⟩
          rw [show wayB (some [V.int x, V.int y]) = wayI x y from rfl, wayI_max, z, Bool.true_and]
        · walk_at "nx"
          refine ⟨?_, ei⟩
          rw [show wayB (some [V.int x, V.int y]) = wayI x y from rfl, wayI_max, z, Bool.false_and]
      · walk_at "nx"
        rw [wayB_pt (pt2.trans z)]
        exact ⟨rfl, ei⟩
    rintro _ Hj ⟨rfl, ej⟩
    have aj := ag.tr ej.adv
    have hPj := ej _ _ hP
    have lj := lg.ext ej
    have w1 : wayB (some [v, o, .int 1]) = false := wayB_pt pt3
    -- is_way
    refine w_mid (fun σ' H' => σ' = [some (.ref a), some (.ref L), some (.int (i : Int)), some (.bl (wayB (some [v, o]))), x4, some (oV lo), some (oV hi), some (.ref P), x8, x9, some v, some (.bl (isI v)), some o, some (.bl (isI o)), x14] ∧ Lan H' L (n + 12)) ?_ ?_
    · refine w_ifS (w_or (w_repr2 [.bool (wayB (some [v, o])), .bool (wayB (some [v, o])), .bool false, .bool false] rfl rfl (by show 1 ≤ 40; decide) (fits rfl rfl) (by simp) (fun R r => ?_) (fun H1 e1 R r => ?_) fun H1 e1 => ?_))
      · walk_at "nx"
        refine ⟨.ref P, some [v, o], rfl, (kP.ext ej).now, fP, fun H1 e1 => ?_⟩
        walk_at "nx"
        refine w_tupleL (SqL.of (e1 _ _ hPj)) ?_
        intro t1 n_t1
        generalize z_t1 : upd _ t1 _ = H2
        obtain ⟨e2, h2, m_t1⟩ := newly n_t1 z_t1
        clear z_t1
        walk_at "nx"
        refine ⟨.ref t1, some [v, o], rfl, Kr.now (.tup h2 ((lj.ext e1).ne n_t1) fun x hx => (iv x hx).elim fun s q => ⟨s, ((q.ext ej).ext e1).ext e2⟩), fP, fun H3 e3 => ?_⟩
        walk_at "nx"
        refine ⟨sm (by simp), ?_⟩
        intro t3 n_t3
        generalize z_t3 : upd _ t3 _ = H6
        obtain ⟨e6, h6, m_t3⟩ := newly n_t3 z_t3
        clear z_t3
        have e16 := ((e1.tr e2).tr e3).tr e6
        refine w_cat (e16 _ _ hPj) h6 (by simp) ?_
        intro t4 n_t4
        generalize z_t4 : upd _ t4 _ = H7
        obtain ⟨e7, h7, m_t4⟩ := newly n_t4 z_t4
        clear z_t4
        walk_at "nx"
        refine ⟨.ref t4, some [v, o, .int 1], rfl, Kr.now (.lst h7 ((lj.ext e16).ne n_t4) fun x hx => (iv3 x hx).elim fun s q => ⟨s, ((q.ext ej).ext e16).ext e7⟩), f3, fun H8 e8 => ?_⟩
        rw [w1]
        walk_at "nx"
        refine ⟨o, u, rfl, ko _ (((aj.tr e16.adv).tr e7.adv).tr e8.adv), fo, fun H9 e9 => ?_⟩
        rw [wo]
        walk_at "nx"
        exact r _ _ rfl (((e16.tr e7).tr e8).tr e9) fun _ _ => dp_bls [wayB (some [v, o]), wayB (some [v, o]), false, false]
      · walk_at "nx"
        exact r _ _ rfl .rfl fun _ _ => dp_bls [wayB (some [v, o]), wayB (some [v, o]), false, false]
      · walk_at "nx"
        refine ⟨sm (by simp), ?_⟩
        intro t1 n_t1
        generalize z_t1 : upd _ t1 _ = H2
        obtain ⟨e2, h2, m_t1⟩ := newly n_t1 z_t1
        clear z_t1
        refine ⟨P, t1, [v, o], rfl, rfl, e2 _ _ (e1 _ _ hPj), h2, by simp [sv, so], ?_⟩
        refine ⟨false, rfl, w_f ?_⟩
        walk_at "nx"
        exact ⟨rfl, (lj.ext e1).ext e2⟩
    rintro _ Hk ⟨rfl, lk⟩
    -- one, two; times
    walk_at "nk"
    refine w_pow ⟨by decide, by decide, by decide⟩ ?_
    walk_at "nk"
    rw [show ((10 : Int) ^ (Int.toNat 6)) = 1000000 by decide]
    refine ⟨L, n + 12, 1000000, rfl, lk, by omega, by decide, by decide, fun f H1 f0 f1 a1 l1 => ?_⟩
    walk_at "nk"
    refine w_pow ⟨by decide, by decide, by decide⟩ ?_
    walk_at "nk"
    rw [show ((10 : Int) ^ (Int.toNat 6)) = 1000000 by decide]
    refine ⟨L, n + 13, 1000000, rfl, l1, by omega, by decide, by decide, fun g H2 g0 g1 a2 l2 => ?_⟩
    walk_at "nk"
    refine w_pow ⟨by decide, by decide, by decide⟩ ?_
    walk_at "nk"
    refine w_mul (small_mul (by decide) (by decide)) ?_
    walk_at "nk"
    rw [show (5 * (10 : Int) ^ (Int.toNat 5)) = 500000 by decide]
    refine ⟨_, _, rfl, ?_⟩
    walk_at "nk"
    refine ⟨sm (by simp), ?_⟩
    intro p n_p
    generalize z_p : upd _ p _ = H3
    obtain ⟨e3, h3, m_p⟩ := newly n_p z_p
    clear z_p
    walk_at "nk"
    refine ⟨L, n + 14, p, _, rfl, l2.ext e3, by omega, l2.ne n_p, .inl (SqL.of h3), by simp, by simp, fun x H4 hx a4 l4 => ?_⟩
    have ex : ∃ t : Int, x = .int t ∧ 0 ≤ t ∧ t ≤ 7 := by
      simp only [List.mem_cons, List.not_mem_nil, or_false] at hx
      rcases hx with rfl | rfl | rfl | rfl | rfl <;> exact ⟨_, rfl, by decide, by decide⟩
    obtain ⟨t, rfl, t0, t1⟩ := ex
    have b1 : (t * f).natAbs ≤ 10000000 := by
      have k1 : 0 ≤ t * f := Int.mul_nonneg t0 f0
      have k2 : t * f ≤ 7 * 1000000 := Int.mul_le_mul t1 (by omega) f0 (by decide)
      omega
    have b2 : (t * (g - 500000)).natAbs ≤ 10000000 := by
      rw [Int.natAbs_mul]
      have k2 : t.natAbs * (g - 500000).natAbs ≤ 7 * 500000 := Nat.mul_le_mul (by omega) (by omega)
      omega
    walk_at "nk"
    refine w_mul (small_mul (by omega) (by omega)) ?_
    walk_at "nk"
    refine w_mul (small_mul (by omega) (by omega)) ?_
    walk_at "nk"
    refine ⟨sm (by simp), ?_⟩
    intro q n_q
    generalize z_q : upd _ q _ = H5
    obtain ⟨e5, h5, m_q⟩ := newly n_q z_q
    clear z_q
    walk_at "nk"
    refine ⟨.ref q, some [.int (t * f), .int (t * (g - 500000))], rfl, ⟨.tup (SqT.of h5), fun ys e x hx => ?_⟩, fun ys e => by cases e; simp, fun H6 e6 => ?_⟩
    · cases e
      simp only [List.mem_cons, List.not_mem_nil, or_false] at hx
      rcases hx with rfl | rfl
      · exact ⟨none, .int _⟩
      · exact ⟨none, .int _⟩
    · rw [wayB_int b1 b2]
      walk_at "nk"
      refine w_mul (small_mul (by omega) (by omega)) ?_
      walk_at "nk"
      refine w_mul (small_mul (by omega) (by omega)) ?_
      walk_at "nk"
      refine ⟨_, _, rfl, fun H7 e7 => ?_⟩
      walk_at "nk"
      refine ⟨false, ?_, w_f ?_⟩
      · simp
      · walk_at "nk"
        refine ⟨⟨_, _, _, _, _, _, _, _, _, _, _, _, _, rfl⟩, n + 15, by omega, ((l4.ext e5).ext e6).ext e7⟩
  · rintro _ H2 ⟨⟨x2, x3, x4, x5, x6, x7, x8, x9, x10, x11, x12, x13, x14, rfl⟩, n, hn, l⟩
    walk_at "nk"
    refine w_dispC [(Sum.inl 1, .int 2), (Sum.inl 2, .int 3)] (by decide) fun d H3 nd e3 h3 => ?_
    walk_at "nk"
    refine ⟨sm (by simp), ?_⟩
    intro i n_i
    generalize z_i : upd _ i _ = H4
    obtain ⟨e4, h4, m_i⟩ := newly n_i z_i
    clear z_i
    walk_at "nk"
    refine ⟨sm (by simp), ?_⟩
    intro j n_j
    generalize z_j : upd _ j _ = H5
    obtain ⟨e5, h5, m_j⟩ := newly n_j z_j
    clear z_j
    walk_at "nk"
    refine ⟨sm (by simp), ?_⟩
    intro m n_m
    generalize z_m : upd _ m _ = H6
    obtain ⟨e6, h6, m_m⟩ := newly n_m z_m
    clear z_m
    walk_at "nk"
    have nd : d ≠ L := l.ne nd
    have ni : i ≠ L := (l.ext e3).ne n_i
    have nj : j ≠ L := ((l.ext e3).ext e4).ne n_j
    refine ⟨L, n, m, _, rfl, (((l.ext e3).ext e4).ext e5).ext e6, by omega, (((l.ext e3).ext e4).ext e5).ne n_m, .inl (SqL.of h6), by simp, by simp, fun y H7 hy a7 l7 => ?_⟩
    have d7 := a7 _ _ nd (e6 _ _ (e5 _ _ (e4 _ _ h3)))
    have i7 := a7 _ _ ni (e6 _ _ (e5 _ _ h4))
    have j7 := a7 _ _ nj (e6 _ _ h5)
    have odd : ∃ s, Kr K L H7 y s ∧ few s ∧ ptB s = false := by
      have fn : few none := fun _ e => nomatch e
      have f1 : ∀ x : V, few (some [x]) := fun x ys e => by cases e; simp
      simp only [List.mem_cons, List.not_mem_nil, or_false] at hy
      rcases hy with rfl | rfl | rfl | rfl | rfl | rfl
      · exact ⟨none, .non, fn, rfl⟩
      · exact ⟨none, .int _, fn, rfl⟩
      · exact ⟨none, .str _, fn, rfl⟩
      · exact ⟨none, .dict d7 nd, fn, rfl⟩
      · refine ⟨_, .lst j7 nj fun x hx => ⟨some [.int 1, .int 2], ?_⟩, f1 _, rfl⟩
        rw [List.mem_singleton.mp hx]
        refine Kr.lst i7 ni fun x hx => ⟨none, ?_⟩
        simp only [List.mem_cons, List.not_mem_nil, or_false] at hx
        rcases hx with rfl | rfl
        · exact .int _
        · exact .int _
      · exact ⟨none, .str _, fn, rfl⟩
    obtain ⟨s, ky, fy, py⟩ := odd
    walk_at "nx"
    have t12 : CPow 10 12 := ⟨by decide, by decide, by decide⟩
    refine w_mid (fun σ' H' => σ' = [some (.ref a), some (.ref L), x2, x3, x4, x5, x6, x7, x8, x9, x10, x11, x12, x13, some y] ∧ Ext H7 H') ?_ ?_
    · refine w_ifS (w_test (w_two [.bool true, .bool true, .bool false, .bool false] [.bool true, .bool true, .bool false, .bool false] (by simp) (by simp) (fun R r => ?_) (fun H1 e1 R r => ?_) fun p q H' e p1 q1 => w_neD p1 q1 rfl rfl ⟨false, rfl, w_f ?_⟩))
      · walk_at "nx"
        refine w_pow t12 ?_
        walk_at "nx"
        refine ⟨sm (by simp), ?_⟩
        intro p1 n_p1
        generalize z_p1 : upd _ p1 _ = H8
        obtain ⟨e8, h8, m_p1⟩ := newly n_p1 z_p1
        clear z_p1
        walk_at "nx"
        refine w_way true (.inr (SqT.of h8)) (by decide +kernel) fun H9 e9 => ?_
        walk_at "nx"
        refine w_pow t12 ?_
        walk_at "nx"
        refine ⟨sm (by simp), ?_⟩
        intro p2 n_p2
        generalize z_p2 : upd _ p2 _ = H10
        obtain ⟨e10, h10, m_p2⟩ := newly n_p2 z_p2
        clear z_p2
        walk_at "nx"
        refine w_way true (.inr (SqT.of h10)) (by decide +kernel) fun H11 e11 => ?_
        walk_at "nx"
        refine w_pow t12 ?_
        walk_at "nx"
        refine ⟨sm (by simp), ?_⟩
        intro p3 n_p3
        generalize z_p3 : upd _ p3 _ = H12
        obtain ⟨e12, h12, m_p3⟩ := newly n_p3 z_p3
        clear z_p3
        walk_at "nx"
        refine w_way false (.inr (SqT.of h12)) (by decide +kernel) fun H13 e13 => ?_
        walk_at "nx"
        refine w_pow t12 ?_
        walk_at "nx"
        refine ⟨sm (by simp), ?_⟩
        intro p4 n_p4
        generalize z_p4 : upd _ p4 _ = H14
        obtain ⟨e14, h14, m_p4⟩ := newly n_p4 z_p4
        clear z_p4
        walk_at "nx"
        refine w_way false (.inr (SqT.of h14)) (by decide +kernel) fun H15 e15 => ?_
        walk_at "nx"
        exact r _ _ rfl (((((((e8.tr e9).tr e10).tr e11).tr e12).tr e13).tr e14).tr e15) fun _ _ => dp_bls [true, true, false, false]
      · walk_at "nx"
        exact r _ _ rfl .rfl fun _ _ => dp_bls [true, true, false, false]
      · walk_at "nx"
        exact ⟨rfl, e⟩
    rintro _ H8 ⟨rfl, e8⟩
    refine w_ret (w_two [.bool false, .bool false, .bool false, .bool true, .bool true, .bool false, .bool false] [.bool false, .bool false, .bool false, .bool true, .bool true, .bool false, .bool false] (by simp) (by simp) (fun R r => ?_) (fun H1 e1 R r => ?_) fun p q H' e p1 q1 => w_eqD p1 q1 rfl rfl (k _))
    · walk_at "nx"
      refine ⟨y, s, rfl, ky _ e8.adv, fy, fun H9 e9 => ?_⟩
      rw [py]
      walk_at "nx"
      refine ⟨y, s, rfl, ky _ (e8.tr e9).adv, fy, fun H10 e10 => ?_⟩
      rw [wayB_pt py]
      walk_at "nx"
      refine ⟨sm (by simp), ?_⟩
      intro p1 n_p1
      generalize z_p1 : upd _ p1 _ = H11
      obtain ⟨e11, h11, m_p1⟩ := newly n_p1 z_p1
      clear z_p1
      walk_at "nx"
      refine w_way false (.inr (SqT.of h11)) (by decide +kernel) fun H12 e12 => ?_
      walk_at "nx"
      refine ⟨sm (by simp), ?_⟩
      intro p2 n_p2
      generalize z_p2 : upd _ p2 _ = H13
      obtain ⟨e13, h13, m_p2⟩ := newly n_p2 z_p2
      clear z_p2
      walk_at "nx"
      refine w_way true (.inr (SqT.of h13)) (by decide +kernel) fun H14 e14 => ?_
      walk_at "nx"
      refine ⟨sm (by simp), ?_⟩
      intro p3 n_p3
      generalize z_p3 : upd _ p3 _ = H15
      obtain ⟨e15, h15, m_p3⟩ := newly n_p3 z_p3
      clear z_p3
      walk_at "nx"
      refine w_way true (.inl (SqL.of h15)) (by decide +kernel) fun H16 e16 => ?_
      walk_at "nx"
      refine ⟨sm (by simp), ?_⟩
      intro p4 n_p4
      generalize z_p4 : upd _ p4 _ = H17
      obtain ⟨e17, h17, m_p4⟩ := newly n_p4 z_p4
      clear z_p4
      walk_at "nx"
      refine w_way false (.inr (SqT.of h17)) (by decide +kernel) fun H18 e18 => ?_
      walk_at "nx"
      refine ⟨sm (by simp), ?_⟩
      intro p5 n_p5
      generalize z_p5 : upd _ p5 _ = H19
      obtain ⟨e19, h19, m_p5⟩ := newly n_p5 z_p5
      clear z_p5
      walk_at "nx"
      refine ⟨.ref p5, some [], rfl, ⟨.tup (SqT.of h19), fun ys e x hx => by cases e; cases hx⟩, fun ys e => by cases e; simp, fun H20 e20 => ?_⟩
      walk_at "nx"
      exact r _ _ rfl (((((((((((e9.tr e10).tr e11).tr e12).tr e13).tr e14).tr e15).tr e16).tr e17).tr e18).tr e19).tr e20) fun _ _ => dp_bls [false, false, false, true, true, false, false]
    · walk_at "nx"
      exact r _ _ rfl .rfl fun _ _ => dp_bls [false, false, false, true, true, false, false]
end
end NK

namespace NK
open PySem L2
structure Ad where
  a_is_integer : Addr
  a_is_within : Addr
  a_is_list : Addr
  a_is_point : Addr
  a_common : Addr
  a_is_way : Addr
  a_law_lantern : Addr
  a_law_flick : Addr
  a_law_pick : Addr
  a_law_common : Addr
  a_law_any : Addr
  a_law : Addr
structure Txt (K : PySem.W.Frag) (mg : Str → Option Value) (C : CA) (A : Ad) : Prop where
  g_is_integer : mg "is_integer" = some (.ref A.a_is_integer)
  k_is_integer : PySem.W.keepIn K (.ref A.a_is_integer) = true
  g_is_within : mg "is_within" = some (.ref A.a_is_within)
  k_is_within : PySem.W.keepIn K (.ref A.a_is_within) = true
  g_is_list : mg "is_list" = some (.ref A.a_is_list)
  k_is_list : PySem.W.keepIn K (.ref A.a_is_list) = true
  g_is_point : mg "is_point" = some (.ref A.a_is_point)
  k_is_point : PySem.W.keepIn K (.ref A.a_is_point) = true
  g_common : mg "common" = some (.ref A.a_common)
  k_common : PySem.W.keepIn K (.ref A.a_common) = true
  g_is_way : mg "is_way" = some (.ref A.a_is_way)
  k_is_way : PySem.W.keepIn K (.ref A.a_is_way) = true
  g_law_lantern : mg "_law_lantern" = some (.ref A.a_law_lantern)
  k_law_lantern : PySem.W.keepIn K (.ref A.a_law_lantern) = true
  g_law_flick : mg "_law_flick" = some (.ref A.a_law_flick)
  k_law_flick : PySem.W.keepIn K (.ref A.a_law_flick) = true
  g_law_pick : mg "_law_pick" = some (.ref A.a_law_pick)
  k_law_pick : PySem.W.keepIn K (.ref A.a_law_pick) = true
  g_law_common : mg "_law_common" = some (.ref A.a_law_common)
  k_law_common : PySem.W.keepIn K (.ref A.a_law_common) = true
  g_law_any : mg "_law_any" = some (.ref A.a_law_any)
  k_law_any : PySem.W.keepIn K (.ref A.a_law_any) = true
  g_law : mg "law" = some (.ref A.a_law)
  k_law : PySem.W.keepIn K (.ref A.a_law) = true
  n_isinstance : mg "isinstance" = none
  n_int : mg "int" = none
  n_bool : mg "bool" = none
  n_tuple : mg "tuple" = none
  n_list : mg "list" = none
  n_len : mg "len" = none
  n_all : mg "all" = none
  n_abs : mg "abs" = none
  n_range : mg "range" = none
  n_repr : mg "repr" = none
  n_max : mg "max" = none
  c_MOST_WAY : ∃ t, mg "MOST_WAY" = some (.int 1000000000000 t)
structure Fds where
  f_is_integer : FuncData
  f_is_within : FuncData
  f_is_list : FuncData
  f_is_point : FuncData
  f_common : FuncData
  f_is_way : FuncData
  f_law_lantern : FuncData
  f_law_flick : FuncData
  f_law_pick : FuncData
  f_law_common : FuncData
  f_law_any : FuncData
  f_law : FuncData
structure Bnd (K : PySem.W.Frag) (D : Fds) : Prop where
  b_is_integer : Binds K D.f_is_integer ["value"] []
  b_is_within : Binds K D.f_is_within ["value", "least", "most"] []
  b_is_list : Binds K D.f_is_list ["value"] []
  b_is_point : Binds K D.f_is_point ["value"] []
  b_common : Binds K D.f_common ["one", "other"] []
  b_is_way : Binds K D.f_is_way ["value"] []
  b_law_lantern : Binds K D.f_law_lantern ["_law_script"] []
  b_law_flick : Binds K D.f_law_flick ["_law_lantern_here", "_law_many"] []
  b_law_pick : Binds K D.f_law_pick ["_law_lantern_here", "_law_some"] []
  b_law_common : Binds K D.f_law_common ["_law_one", "_law_other"] []
  b_law_any : Binds K D.f_law_any ["_law_lantern_here"] []
  b_law : Binds K D.f_law ["_law_script"] []
  kb_is_integer_0_value : KBinds K D.f_is_integer ["value"] ["value"] (kb_is_integer_0_value_g (α := Value)) (kb_is_integer_0_value_g (α := V))
  kb_is_within_0_most_value_least : KBinds K D.f_is_within ["value", "least", "most"] ["most", "value", "least"] (kb_is_within_0_most_value_least_g (α := Value)) (kb_is_within_0_most_value_least_g (α := V))
  kb_is_point_0_value : KBinds K D.f_is_point ["value"] ["value"] (kb_is_point_0_value_g (α := Value)) (kb_is_point_0_value_g (α := V))
  kb_is_way_0_value : KBinds K D.f_is_way ["value"] ["value"] (kb_is_way_0_value_g (α := Value)) (kb_is_way_0_value_g (α := V))
def top (i : Nat) : Stmt := PySem.Challenge.pw_neverhit_k02_integers_points_and_ways.main.body.getD i (.Pass ⟨0, 0, 0, 0⟩)
abbrev s_is_integer : Stmt := top 2
theorem sc_is_integer : FnScope N_is_integer ["value"] (defScope s_is_integer) := ⟨rfl, rfl, rfl, by decide +kernel, rfl, by decide +kernel, by decide +kernel⟩
abbrev s_is_within : Stmt := top 3
theorem sc_is_within : FnScope N_is_within ["value", "least", "most"] (defScope s_is_within) := ⟨rfl, rfl, rfl, by decide +kernel, rfl, by decide +kernel, by decide +kernel⟩
abbrev s_is_list : Stmt := top 4
theorem sc_is_list : FnScope N_is_list ["value"] (defScope s_is_list) := ⟨rfl, rfl, rfl, by decide +kernel, rfl, by decide +kernel, by decide +kernel⟩
abbrev s_is_point : Stmt := top 5
theorem sc_is_point : FnScope N_is_point ["value"] (defScope s_is_point) := ⟨rfl, rfl, rfl, by decide +kernel, rfl, by decide +kernel, by decide +kernel⟩
abbrev s_common : Stmt := top 6
theorem sc_common : FnScope N_common ["one", "other"] (defScope s_common) := ⟨rfl, rfl, rfl, by decide +kernel, rfl, by decide +kernel, by decide +kernel⟩
abbrev s_is_way : Stmt := top 7
theorem sc_is_way : FnScope N_is_way ["value"] (defScope s_is_way) := ⟨rfl, rfl, rfl, by decide +kernel, rfl, by decide +kernel, by decide +kernel⟩
abbrev s_law_lantern : Stmt := top 9
theorem sc_law_lantern : FnScope N_law_lantern ["_law_script"] (defScope s_law_lantern) := ⟨rfl, rfl, rfl, by decide +kernel, rfl, by decide +kernel, by decide +kernel⟩
abbrev s_law_flick : Stmt := top 10
theorem sc_law_flick : FnScope N_law_flick ["_law_lantern_here", "_law_many"] (defScope s_law_flick) := ⟨rfl, rfl, rfl, by decide +kernel, rfl, by decide +kernel, by decide +kernel⟩
abbrev s_law_pick : Stmt := top 11
theorem sc_law_pick : FnScope N_law_pick ["_law_lantern_here", "_law_some"] (defScope s_law_pick) := ⟨rfl, rfl, rfl, by decide +kernel, rfl, by decide +kernel, by decide +kernel⟩
abbrev s_law_common : Stmt := top 12
theorem sc_law_common : FnScope N_law_common ["_law_one", "_law_other"] (defScope s_law_common) := ⟨rfl, rfl, rfl, by decide +kernel, rfl, by decide +kernel, by decide +kernel⟩
abbrev s_law_any : Stmt := top 13
theorem sc_law_any : FnScope N_law_any ["_law_lantern_here"] (defScope s_law_any) := ⟨rfl, rfl, rfl, by decide +kernel, rfl, by decide +kernel, by decide +kernel⟩
abbrev s_law : Stmt := top 14
theorem sc_law : FnScope N_law ["_law_script"] (defScope s_law) := ⟨rfl, rfl, rfl, by decide +kernel, rfl, by decide +kernel, by decide +kernel⟩
theorem kb_is_integer_0_value_to (kV doc pm : Value) (an : Option Addr) (cdv ct : Value) (us ws : List Value) (hl : (kb_is_integer_0_value_g us ws).length = (["value"] : List Str).length) : bindArgs (PySem.W.fnOf "is_integer" "is_integer" (defArgs s_is_integer) (defBody s_is_integer) (defScope s_is_integer) .none kV doc pm an cdv ct) ⟨us, (["value"] : List Str).zip ws⟩ = pure ((["value"] : List Str).zip (kb_is_integer_0_value_g us ws)) := by
  unfold kb_is_integer_0_value_g at hl ⊢
  split at hl
  · rfl
  · exact absurd hl (by simp)
theorem kb_is_integer_0_value_rel {vs : List V} {us : List Value} {zs : List V} {ws : List Value} (r : Vals vs us) (s : Vals zs ws) : Vals (kb_is_integer_0_value_g vs zs) (kb_is_integer_0_value_g us ws) := by
  unfold kb_is_integer_0_value_g
  split
  · exact match r, s with | .nil, .cons q0 .nil => .cons q0 .nil
  · rename_i no
    split
    · exfalso
      revert no
      exact match r, s with | .nil, .cons q0 .nil => fun no => by apply no <;> rfl
    · exact .nil
theorem kb_is_within_0_most_value_least_to (kV doc pm : Value) (an : Option Addr) (cdv ct : Value) (us ws : List Value) (hl : (kb_is_within_0_most_value_least_g us ws).length = (["value", "least", "most"] : List Str).length) : bindArgs (PySem.W.fnOf "is_within" "is_within" (defArgs s_is_within) (defBody s_is_within) (defScope s_is_within) .none kV doc pm an cdv ct) ⟨us, (["most", "value", "least"] : List Str).zip ws⟩ = pure ((["value", "least", "most"] : List Str).zip (kb_is_within_0_most_value_least_g us ws)) := by
  unfold kb_is_within_0_most_value_least_g at hl ⊢
  split at hl
  · rfl
  · exact absurd hl (by simp)
theorem kb_is_within_0_most_value_least_rel {vs : List V} {us : List Value} {zs : List V} {ws : List Value} (r : Vals vs us) (s : Vals zs ws) : Vals (kb_is_within_0_most_value_least_g vs zs) (kb_is_within_0_most_value_least_g us ws) := by
  unfold kb_is_within_0_most_value_least_g
  split
  · exact match r, s with | .nil, .cons q0 (.cons q1 (.cons q2 .nil)) => .cons q1 (.cons q2 (.cons q0 .nil))
  · rename_i no
    split
    · exfalso
      revert no
      exact match r, s with | .nil, .cons q0 (.cons q1 (.cons q2 .nil)) => fun no => by apply no <;> rfl
    · exact .nil
theorem kb_is_point_0_value_to (kV doc pm : Value) (an : Option Addr) (cdv ct : Value) (us ws : List Value) (hl : (kb_is_point_0_value_g us ws).length = (["value"] : List Str).length) : bindArgs (PySem.W.fnOf "is_point" "is_point" (defArgs s_is_point) (defBody s_is_point) (defScope s_is_point) .none kV doc pm an cdv ct) ⟨us, (["value"] : List Str).zip ws⟩ = pure ((["value"] : List Str).zip (kb_is_point_0_value_g us ws)) := by
  unfold kb_is_point_0_value_g at hl ⊢
  split at hl
  · rfl
  · exact absurd hl (by simp)
theorem kb_is_point_0_value_rel {vs : List V} {us : List Value} {zs : List V} {ws : List Value} (r : Vals vs us) (s : Vals zs ws) : Vals (kb_is_point_0_value_g vs zs) (kb_is_point_0_value_g us ws) := by
  unfold kb_is_point_0_value_g
  split
  · exact match r, s with | .nil, .cons q0 .nil => .cons q0 .nil
  · rename_i no
    split
    · exfalso
      revert no
      exact match r, s with | .nil, .cons q0 .nil => fun no => by apply no <;> rfl
    · exact .nil
theorem kb_is_way_0_value_to (kV doc pm : Value) (an : Option Addr) (cdv ct : Value) (us ws : List Value) (hl : (kb_is_way_0_value_g us ws).length = (["value"] : List Str).length) : bindArgs (PySem.W.fnOf "is_way" "is_way" (defArgs s_is_way) (defBody s_is_way) (defScope s_is_way) .none kV doc pm an cdv ct) ⟨us, (["value"] : List Str).zip ws⟩ = pure ((["value"] : List Str).zip (kb_is_way_0_value_g us ws)) := by
  unfold kb_is_way_0_value_g at hl ⊢
  split at hl
  · rfl
  · exact absurd hl (by simp)
theorem kb_is_way_0_value_rel {vs : List V} {us : List Value} {zs : List V} {ws : List Value} (r : Vals vs us) (s : Vals zs ws) : Vals (kb_is_way_0_value_g vs zs) (kb_is_way_0_value_g us ws) := by
  unfold kb_is_way_0_value_g
  split
  · exact match r, s with | .nil, .cons q0 .nil => .cons q0 .nil
  · rename_i no
    split
    · exfalso
      revert no
      exact match r, s with | .nil, .cons q0 .nil => fun no => by apply no <;> rfl
    · exact .nil
section
variable {P : Program} {w : World} {K : PySem.W.Frag} {mg : Str → Option Value} {base : Heap} {C : CA} {A : Ad} {D : Fds}
theorem ok_is_integer (F : Fun K "is_integer" "is_integer" s_is_integer A.a_is_integer D.f_is_integer) (T : Txt K mg C A) (B : Bnd K D) 
    (pure : ∀ vs H Q E, sp_is_integer K C vs H Q E → vs.length = 1 ∧ t_is_integer K C { nx := fun _ H' => Q .non H', rt := Q } (start N_is_integer vs) H) : FnOk P w K mg base CX0 1 A.a_is_integer D.f_is_integer ["value"] (sp_is_integer K C) := by
  have nd := sc_is_integer.nd
  refine F.ok sc_is_integer (fun vs H Q E h => (pure vs H Q E h).1) (fun cdv A' outer s H vs Q E hr h => ⟨t_is_integer K C, ?_, (pure vs H Q E h).2⟩)
  have hu64 := hr.units
  exact (pss_one (ps_ret (pe_and (pe_callB call_isi (by rfl) T.n_isinstance (by decide +kernel) (pa_cons (pv 0) (pa_cons (pe_bltn (v := .ty "int") (by rfl) T.n_int (by decide +kernel) rfl) pa_nil))) (pe_one (pe_not (pe_callB call_isi (by rfl) T.n_isinstance (by decide +kernel) (pa_cons (pv 0) (pa_cons (pe_bltn (v := .ty "bool") (by rfl) T.n_bool (by decide +kernel) rfl) pa_nil))))))))
theorem ok_is_within (F : Fun K "is_within" "is_within" s_is_within A.a_is_within D.f_is_within) (T : Txt K mg C A) (B : Bnd K D) (O_is_integer : FnOk P w K mg base CX0 1 A.a_is_integer D.f_is_integer ["value"] (sp_is_integer K C))
    (pure : ∀ vs H Q E, sp_is_within K C vs H Q E → vs.length = 3 ∧ t_is_within K C { nx := fun _ H' => Q .non H', rt := Q } (start N_is_within vs) H) : FnOk P w K mg base CX0 2 A.a_is_within D.f_is_within ["value", "least", "most"] (sp_is_within K C) := by
  have nd := sc_is_within.nd
  refine F.ok sc_is_within (fun vs H Q E h => (pure vs H Q E h).1) (fun cdv A' outer s H vs Q E hr h => ⟨t_is_within K C, ?_, (pure vs H Q E h).2⟩)
  have hu64 := hr.units
  exact (pss_then (ps_if (pt_not (pt_val (pe_call O_is_integer (hr.mono (by decide)) rfl T.g_is_integer T.k_is_integer B.b_is_integer .nil pass0 (pa_cons (pv 0) pa_nil)))) (pss_one (ps_ret pe_bl)) pss_nil)
      (pss_one (ps_ret (pe_and (pe_or (pe_cmpR o_isNo (pv 1) pe_non (nomark _)) (pe_one (pe_cmpR o_le (pv 1) (pv 0) (nomark _)))) (pe_one (pe_or (pe_cmpR o_isNo (pv 2) pe_non (nomark _)) (pe_one (pe_cmpR o_le (pv 0) (pv 2) (nomark _)))))))))
theorem ok_is_list (F : Fun K "is_list" "is_list" s_is_list A.a_is_list D.f_is_list) (T : Txt K mg C A) (B : Bnd K D) 
    (pure : ∀ vs H Q E, sp_is_list K C vs H Q E → vs.length = 1 ∧ t_is_list K C { nx := fun _ H' => Q .non H', rt := Q } (start N_is_list vs) H) : FnOk P w K mg base CX0 1 A.a_is_list D.f_is_list ["value"] (sp_is_list K C) := by
  have nd := sc_is_list.nd
  refine F.ok sc_is_list (fun vs H Q E h => (pure vs H Q E h).1) (fun cdv A' outer s H vs Q E hr h => ⟨t_is_list K C, ?_, (pure vs H Q E h).2⟩)
  have hu64 := hr.units
  exact (pss_one (ps_ret (pe_callB call_isiT (by rfl) T.n_isinstance (by decide +kernel) (pa_cons (pv 0) (pa_cons (pe_tup (pa_cons (pe_bltn (v := .ty "list") (by rfl) T.n_list (by decide +kernel) rfl) (pa_cons (pe_bltn (v := .ty "tuple") (by rfl) T.n_tuple (by decide +kernel) rfl) pa_nil))) pa_nil)))))
theorem ok_is_point (F : Fun K "is_point" "is_point" s_is_point A.a_is_point D.f_is_point) (T : Txt K mg C A) (B : Bnd K D) (O_is_list : FnOk P w K mg base CX0 1 A.a_is_list D.f_is_list ["value"] (sp_is_list K C)) (O_is_integer : FnOk P w K mg base CX0 1 A.a_is_integer D.f_is_integer ["value"] (sp_is_integer K C))
    (pure : ∀ vs H Q E, sp_is_point K C vs H Q E → vs.length = 1 ∧ t_is_point K C { nx := fun _ H' => Q .non H', rt := Q } (start N_is_point vs) H) : FnOk P w K mg base CX0 2 A.a_is_point D.f_is_point ["value"] (sp_is_point K C) := by
  have nd := sc_is_point.nd
  refine F.ok sc_is_point (fun vs H Q E h => (pure vs H Q E h).1) (fun cdv A' outer s H vs Q E hr h => ⟨t_is_point K C, ?_, (pure vs H Q E h).2⟩)
  have hu64 := hr.units
  exact (pss_one (ps_ret (pe_and (pe_call O_is_list (hr.mono (by decide)) rfl T.g_is_list T.k_is_list B.b_is_list .nil pass0 (pa_cons (pv 0) pa_nil)) (pe_and (pe_cmpR op_eq (pe_callB c_len (by rfl) T.n_len (by decide +kernel) (pa_cons (pv 0) pa_nil)) pe_int (nomark _)) (pe_one (pe_callB (cr_all rfl) (by rfl) T.n_all (by decide +kernel) (pa_cons (pe_lc (own := [("each", 1)]) (tt := tYes) rfl nd (pi_seq (pv 0)) (blkOk_by (N := N_is_point) (sc := defScope s_is_point) (own := [("each", 1)]) (by decide +kernel)) (fun _ _ _ _ _ => (pg_name (i := 1) nd rfl (Or.inl rfl))) (fun _ _ _ _ _ => pts_nil) (fun _ _ _ _ _ => (pe_call O_is_integer (hr.mono (by decide)) rfl T.g_is_integer T.k_is_integer B.b_is_integer .nil pass0 (pa_cons (pv 1) pa_nil)))) pa_nil)))))))
theorem ok_common (F : Fun K "common" "common" s_common A.a_common D.f_common) (T : Txt K mg C A) (B : Bnd K D) 
    (pure : ∀ vs H Q E, sp_common K C vs H Q E → vs.length = 2 ∧ t_common K C { nx := fun _ H' => Q .non H', rt := Q } (start N_common vs) H) : FnOk P w K mg base CX0 1 A.a_common D.f_common ["one", "other"] (sp_common K C) := by
  have nd := sc_common.nd
  refine F.ok sc_common (fun vs H Q E h => (pure vs H Q E h).1) (fun cdv A' outer s H vs Q E hr h => ⟨t_common K C, ?_, (pure vs H Q E h).2⟩)
  have hu64 := hr.units
  exact (pss_then (ps_par rfl nd rfl rfl (by decide) rfl rfl (pa_cons (pe_callB c_abs (by rfl) T.n_abs (by decide +kernel) (pa_cons (pv 0) pa_nil)) (pa_cons (pe_callB c_abs (by rfl) T.n_abs (by decide +kernel) (pa_cons (pv 1) pa_nil)) pa_nil)) (by rfl))
      (pss_then (ps_while PassesOwn.never (pt_cmpR op_ne (pv 1) pe_int (nomark _)) (pss_one (ps_par rfl nd rfl rfl (by decide) rfl rfl (pa_cons (pv 1) (pa_cons (pe_op o_mod (pv 0) (pv 1)) pa_nil)) (by rfl))))
      (pss_one (ps_ret (pv 0)))))
theorem ok_is_way (F : Fun K "is_way" "is_way" s_is_way A.a_is_way D.f_is_way) (T : Txt K mg C A) (B : Bnd K D) (O_is_point : FnOk P w K mg base CX0 2 A.a_is_point D.f_is_point ["value"] (sp_is_point K C)) (O_is_within : FnOk P w K mg base CX0 2 A.a_is_within D.f_is_within ["value", "least", "most"] (sp_is_within K C)) (O_common : FnOk P w K mg base CX0 1 A.a_common D.f_common ["one", "other"] (sp_common K C))
    (pure : ∀ vs H Q E, sp_is_way K C vs H Q E → vs.length = 1 ∧ t_is_way K C { nx := fun _ H' => Q .non H', rt := Q } (start N_is_way vs) H) : FnOk P w K mg base CX0 3 A.a_is_way D.f_is_way ["value"] (sp_is_way K C) := by
  obtain ⟨tc_MOST_WAY, hc_MOST_WAY⟩ := T.c_MOST_WAY
  have nd := sc_is_way.nd
  refine F.ok sc_is_way (fun vs H Q E h => (pure vs H Q E h).1) (fun cdv A' outer s H vs Q E hr h => ⟨t_is_way K C, ?_, (pure vs H Q E h).2⟩)
  have hu64 := hr.units
  exact (pss_then (ps_if (PW.pt (pw_or (pt_not (pt_val (pe_call O_is_point (hr.mono (by decide)) rfl T.g_is_point T.k_is_point B.b_is_point .nil pass0 (pa_cons (pv 0) pa_nil)))) (pw_or1 (pt_not (pt_val (pe_callB (cr_all rfl) (by rfl) T.n_all (by decide +kernel) (pa_cons (pe_lc (own := [("each", 1)]) (tt := tYes) rfl nd (pi_seq (pv 0)) (blkOk_by (N := N_is_way) (sc := defScope s_is_way) (own := [("each", 1)]) (by decide +kernel)) (fun _ _ _ _ _ => (pg_name (i := 1) nd rfl (Or.inl rfl))) (fun _ _ _ _ _ => pts_nil) (fun _ _ _ _ _ => (pe_call O_is_within (hr.mono (by decide)) rfl T.g_is_within T.k_is_within B.b_is_within .nil pass0 (pa_cons (pv 1) (pa_cons (pe_un u_neg (pe_glob rfl hc_MOST_WAY ⟨_, rfl⟩)) (pa_cons (pe_glob rfl hc_MOST_WAY ⟨_, rfl⟩) pa_nil)))))) pa_nil))))))) (pss_one (ps_ret pe_bl)) pss_nil)
      (pss_one (ps_ret (pe_cmpR op_eq (pe_call O_common (hr.mono (by decide)) rfl T.g_common T.k_common B.b_common .nil pass0 (pa_cons (pe_ix ix_seq (pv 0) pe_int (fun _ _ => rfl)) (pa_cons (pe_ix ix_seq (pv 0) pe_int (fun _ _ => rfl)) pa_nil))) pe_int (nomark _)))))
theorem ok_law_lantern (F : Fun K "_law_lantern" "_law_lantern" s_law_lantern A.a_law_lantern D.f_law_lantern) (T : Txt K mg C A) (B : Bnd K D) 
    (pure : ∀ vs H Q E, sp_law_lantern K C vs H Q E → vs.length = 1 ∧ t_law_lantern K C { nx := fun _ H' => Q .non H', rt := Q } (start N_law_lantern vs) H) : FnOk P w K mg base CX0 1 A.a_law_lantern D.f_law_lantern ["_law_script"] (sp_law_lantern K C) := by
  have nd := sc_law_lantern.nd
  refine F.ok sc_law_lantern (fun vs H Q E h => (pure vs H Q E h).1) (fun cdv A' outer s H vs Q E hr h => ⟨t_law_lantern K C, ?_, (pure vs H Q E h).2⟩)
  have hu64 := hr.units
  exact (pss_one (ps_ret (pe_lst (pa_cons (pe_lc (own := [("_law_cell", 1)]) (tt := tYes) rfl nd (pi_seq (pe_slice sl_list (pv 0) po_none (po_some pe_int))) (blkOk_by (N := N_law_lantern) (sc := defScope s_law_lantern) (own := [("_law_cell", 1)]) (by decide +kernel)) (fun _ _ _ _ _ => (pg_name (i := 1) nd rfl (Or.inl rfl))) (fun _ _ _ _ _ => pts_nil) (fun _ _ _ _ _ => (pe_callTy c_int (by rfl) T.n_int (by decide +kernel) (pa_cons (pv 1) pa_nil)))) (pa_cons pe_int (pa_cons pe_int pa_nil))))))
theorem ok_law_flick (F : Fun K "_law_flick" "_law_flick" s_law_flick A.a_law_flick D.f_law_flick) (T : Txt K mg C A) (B : Bnd K D) 
    (pure : ∀ vs H Q E, sp_law_flick K C vs H Q E → vs.length = 2 ∧ t_law_flick K C { nx := fun _ H' => Q .non H', rt := Q } (start N_law_flick vs) H) : FnOk P w K mg base CX0 1 A.a_law_flick D.f_law_flick ["_law_lantern_here", "_law_many"] (sp_law_flick K C) := by
  have nd := sc_law_flick.nd
  refine F.ok sc_law_flick (fun vs H Q E h => (pure vs H Q E h).1) (fun cdv A' outer s H vs Q E hr h => ⟨t_law_flick K C, ?_, (pure vs H Q E h).2⟩)
  have hu64 := hr.units
  exact (pss_then (ps_if (pt_cmpR o_gt (pe_ix ix_seq (pv 0) pe_int (fun _ _ => rfl)) pe_int (nomark _)) (pss_then (ps_set (i := 2) nd rfl (Or.inl rfl) (pe_callTy c_int (by rfl) T.n_int (by decide +kernel) (pa_cons (pe_ix ix_seq (pv 0) pe_int (fun _ _ => rfl)) pa_nil)))
      (pss_then (ps_asg (pe_op o_div (pv 2) (pv 1)) (pg_sub (pv 0) pe_int set_list))
      (pss_one (ps_ret (pe_op o_mod (pe_callTy c_int (by rfl) T.n_int (by decide +kernel) (pa_cons (pv 2) pa_nil)) (pv 1)))))) pss_nil)
      (pss_then (ps_set (i := 3) nd rfl (Or.inl rfl) (pe_ix ix_seq (pv 0) pe_int (fun _ _ => rfl)))
      (pss_then (ps_asg (pe_op o_add (pv 3) pe_int) (pg_sub (pv 0) pe_int set_list))
      (pss_then (ps_set (i := 4) nd rfl (Or.inl rfl) (pe_op o_add (pe_op o_mul pe_int (pv 3)) pe_int))
      (pss_then (ps_if (pt_cmpR (op_neD hu64) (pe_ix ix_seq (pv 0) pe_int (fun _ _ => rfl)) (pe_lst pa_nil) (nomark _)) (pss_one (ps_set (i := 4) nd rfl (Or.inl rfl) (pe_ix ix_seq (pe_ix ix_seq (pv 0) pe_int (fun _ _ => rfl)) (pe_op o_mod (pe_callTy c_int (by rfl) T.n_int (by decide +kernel) (pa_cons (pv 3) pa_nil)) (pe_callB c_len (by rfl) T.n_len (by decide +kernel) (pa_cons (pe_ix ix_seq (pv 0) pe_int (fun _ _ => rfl)) pa_nil))) (fun _ _ => rfl)))) pss_nil)
      (pss_then (ps_if (PW.pt (pw_and (pt_cmpR o_lt (pv 3) (pe_callB c_len (by rfl) T.n_len (by decide +kernel) (pa_cons (pe_ix ix_seq (pv 0) pe_int (fun _ _ => rfl)) pa_nil)) (nomark _)) (pw_and1 (pt_cmpR o_ge (pe_callB c_abs (by rfl) T.n_abs (by decide +kernel) (pa_cons (pv 4) pa_nil)) (pe_op o_pow pe_int pe_int) (nomark _))))) (pss_then (ps_set (i := 2) nd rfl (Or.inl rfl) (pe_op o_add (pe_op o_mul pe_int (pe_op o_sub (pe_callB c_abs (by rfl) T.n_abs (by decide +kernel) (pa_cons (pv 4) pa_nil)) (pe_op o_pow pe_int pe_int))) (pe_callTy c_int (by rfl) T.n_int (by decide +kernel) (pa_cons (pe_cmpR o_lt (pv 4) pe_int (nomark _)) pa_nil))))
      (pss_then (ps_asg (pe_op o_div (pv 2) (pv 1)) (pg_sub (pv 0) pe_int set_list))
      (pss_one (ps_ret (pe_op o_mod (pe_callTy c_int (by rfl) T.n_int (by decide +kernel) (pa_cons (pv 2) pa_nil)) (pv 1)))))) pss_nil)
      (pss_then (ps_set (i := 5) nd rfl (Or.inl rfl) (pe_op o_mod (pe_callTy c_int (by rfl) T.n_int (by decide +kernel) (pa_cons (pe_op o_pow (pe_op o_add (pe_op o_add (pe_op o_mod (pe_callTy c_int (by rfl) T.n_int (by decide +kernel) (pa_cons (pv 4) pa_nil)) pe_int) (pe_op o_mul pe_int (pv 3))) pe_int) pe_int) pa_nil)) pe_int))
      (pss_then (ps_set (i := 5) nd rfl (Or.inl rfl) (pe_op o_mod (pe_callTy c_int (by rfl) T.n_int (by decide +kernel) (pa_cons (pe_op o_pow (pe_op o_add (pe_op o_add (pe_op o_mul (pv 5) (pe_op o_add (pe_op o_mul pe_int (pv 3)) pe_int)) (pe_op o_mul (pe_op o_mul pe_int (pv 3)) (pv 3))) pe_int) pe_int) pa_nil)) pe_int))
      (pss_one (ps_ret (pe_op o_mod (pe_callTy c_int (by rfl) T.n_int (by decide +kernel) (pa_cons (pe_op o_div (pv 5) pe_int) pa_nil)) (pv 1))))))))))))
theorem ok_law_pick (F : Fun K "_law_pick" "_law_pick" s_law_pick A.a_law_pick D.f_law_pick) (T : Txt K mg C A) (B : Bnd K D) (O_law_flick : FnOk P w K mg base CX0 1 A.a_law_flick D.f_law_flick ["_law_lantern_here", "_law_many"] (sp_law_flick K C))
    (pure : ∀ vs H Q E, sp_law_pick K C vs H Q E → vs.length = 2 ∧ t_law_pick K C { nx := fun _ H' => Q .non H', rt := Q } (start N_law_pick vs) H) : FnOk P w K mg base CX0 2 A.a_law_pick D.f_law_pick ["_law_lantern_here", "_law_some"] (sp_law_pick K C) := by
  have nd := sc_law_pick.nd
  refine F.ok sc_law_pick (fun vs H Q E h => (pure vs H Q E h).1) (fun cdv A' outer s H vs Q E hr h => ⟨t_law_pick K C, ?_, (pure vs H Q E h).2⟩)
  have hu64 := hr.units
  exact (pss_one (ps_ret (pe_ix ix_seq (pv 1) (pe_call O_law_flick (hr.mono (by decide)) rfl T.g_law_flick T.k_law_flick B.b_law_flick .nil pass0 (pa_cons (pv 0) (pa_cons (pe_callB c_len (by rfl) T.n_len (by decide +kernel) (pa_cons (pv 1) pa_nil)) pa_nil))) (fun _ _ => rfl))))
theorem ok_law_common (F : Fun K "_law_common" "_law_common" s_law_common A.a_law_common D.f_law_common) (T : Txt K mg C A) (B : Bnd K D) 
    (pure : ∀ vs H Q E, sp_law_common K C vs H Q E → vs.length = 2 ∧ t_law_common K C { nx := fun _ H' => Q .non H', rt := Q } (start N_law_common vs) H) : FnOk P w K mg base CX0 1 A.a_law_common D.f_law_common ["_law_one", "_law_other"] (sp_law_common K C) := by
  have nd := sc_law_common.nd
  refine F.ok sc_law_common (fun vs H Q E h => (pure vs H Q E h).1) (fun cdv A' outer s H vs Q E hr h => ⟨t_law_common K C, ?_, (pure vs H Q E h).2⟩)
  have hu64 := hr.units
  exact (pss_then (ps_par rfl nd rfl rfl (by decide) rfl rfl (pa_cons (pe_callB c_abs (by rfl) T.n_abs (by decide +kernel) (pa_cons (pv 0) pa_nil)) (pa_cons (pe_callB c_abs (by rfl) T.n_abs (by decide +kernel) (pa_cons (pv 1) pa_nil)) pa_nil)) (by rfl))
      (pss_then (ps_while PassesOwn.never (pt_cmpR o_gt (pv 1) pe_int (nomark _)) (pss_one (ps_par rfl nd rfl rfl (by decide) rfl rfl (pa_cons (pv 1) (pa_cons (pe_op o_mod (pe_callTy c_int (by rfl) T.n_int (by decide +kernel) (pa_cons (pv 0) pa_nil)) (pv 1)) pa_nil)) (by rfl))))
      (pss_one (ps_ret (pv 0)))))
theorem ok_law_any (F : Fun K "_law_any" "_law_any" s_law_any A.a_law_any D.f_law_any) (T : Txt K mg C A) (B : Bnd K D) (O_law_pick : FnOk P w K mg base CX0 2 A.a_law_pick D.f_law_pick ["_law_lantern_here", "_law_some"] (sp_law_pick K C)) (O_law_flick : FnOk P w K mg base CX0 1 A.a_law_flick D.f_law_flick ["_law_lantern_here", "_law_many"] (sp_law_flick K C))
    (pure : ∀ vs H Q E, sp_law_any K C vs H Q E → vs.length = 1 ∧ t_law_any K C { nx := fun _ H' => Q .non H', rt := Q } (start N_law_any vs) H) : FnOk P w K mg base CX0 3 A.a_law_any D.f_law_any ["_law_lantern_here"] (sp_law_any K C) := by
  have nd := sc_law_any.nd
  refine F.ok sc_law_any (fun vs H Q E h => (pure vs H Q E h).1) (fun cdv A' outer s H vs Q E hr h => ⟨t_law_any K C, ?_, (pure vs H Q E h).2⟩)
  have hu64 := hr.units
  exact (pss_then (ps_set (i := 1) nd rfl (Or.inl rfl) (pe_call O_law_pick (hr.mono (by decide)) rfl T.g_law_pick T.k_law_pick B.b_law_pick .nil pass0 (pa_cons (pv 0) (pa_cons (pe_lst (pa_cons pe_int (pa_cons pe_int (pa_cons (pe_un u_neg pe_int) (pa_cons (pe_call O_law_flick (hr.mono (by decide)) rfl T.g_law_flick T.k_law_flick B.b_law_flick .nil pass0 (pa_cons (pv 0) (pa_cons pe_int pa_nil))) (pa_cons pe_int (pa_cons (pe_op o_pow pe_int pe_int) (pa_cons (pe_op o_sub (pe_un u_neg (pe_op o_pow pe_int pe_int)) pe_int) (pa_cons (pe_op o_pow pe_int pe_int) pa_nil))))))))) pa_nil))))
      (pss_then (ps_set (i := 2) nd rfl (Or.inl rfl) (pe_call O_law_pick (hr.mono (by decide)) rfl T.g_law_pick T.k_law_pick B.b_law_pick .nil pass0 (pa_cons (pv 0) (pa_cons (pe_lst (pa_cons pe_non (pa_cons pe_bl (pa_cons pe_bl (pa_cons pe_str (pa_cons (pe_tup (pa_cons pe_int pa_nil)) (pa_cons (pe_lst (pa_cons pe_int pa_nil)) (pa_cons pe_dnewK pa_nil)))))))) pa_nil))))
      (pss_one (ps_ret (pe_ifExp (pt_cmpR o_gt (pe_call O_law_flick (hr.mono (by decide)) rfl T.g_law_flick T.k_law_flick B.b_law_flick .nil pass0 (pa_cons (pv 0) (pa_cons pe_int pa_nil))) pe_int (nomark _)) (pe_tup (pa_cons (pv 1) (pa_cons pe_bl pa_nil))) (pe_tup (pa_cons (pv 2) (pa_cons pe_bl pa_nil))))))))
theorem ok_law (F : Fun K "law" "law" s_law A.a_law D.f_law) (T : Txt K mg C A) (B : Bnd K D) (O_law_lantern : FnOk P w K mg base CX0 1 A.a_law_lantern D.f_law_lantern ["_law_script"] (sp_law_lantern K C)) (O_law_any : FnOk P w K mg base CX0 3 A.a_law_any D.f_law_any ["_law_lantern_here"] (sp_law_any K C)) (O_law_pick : FnOk P w K mg base CX0 2 A.a_law_pick D.f_law_pick ["_law_lantern_here", "_law_some"] (sp_law_pick K C)) (O_law_flick : FnOk P w K mg base CX0 1 A.a_law_flick D.f_law_flick ["_law_lantern_here", "_law_many"] (sp_law_flick K C)) (O_is_integer : FnOk P w K mg base CX0 1 A.a_is_integer D.f_is_integer ["value"] (sp_is_integer K C)) (O_is_within : FnOk P w K mg base CX0 2 A.a_is_within D.f_is_within ["value", "least", "most"] (sp_is_within K C)) (O_is_point : FnOk P w K mg base CX0 2 A.a_is_point D.f_is_point ["value"] (sp_is_point K C)) (O_law_common : FnOk P w K mg base CX0 1 A.a_law_common D.f_law_common ["_law_one", "_law_other"] (sp_law_common K C)) (O_is_way : FnOk P w K mg base CX0 3 A.a_is_way D.f_is_way ["value"] (sp_is_way K C))
    (pure : ∀ vs H Q E, sp_law K C vs H Q E → vs.length = 1 ∧ t_law K C { nx := fun _ H' => Q .non H', rt := Q } (start N_law vs) H) : FnG P w K mg base CX0 4 A.a_law D.f_law ["_law_script"] (sp_law K C) := by
  have nd := sc_law.nd
  refine funG F sc_law (fun vs H Q E h => (pure vs H Q E h).1) (fun cdv A' outer s H vs Q E hr hgd h => ⟨t_law K C, ?_, (pure vs H Q E h).2⟩)
  have hu64 := hr.units
  exact (pss_then (ps_set (i := 1) nd rfl (Or.inl rfl) (pe_call O_law_lantern (hr.mono (by decide)) rfl T.g_law_lantern T.k_law_lantern B.b_law_lantern .nil pass0 (pa_cons (pv 0) pa_nil)))
      (pss_then (ps_for PassesOwn.never rfl (pi_range1 rfl T.n_range (pa_cons pe_int pa_nil)) (pg_name (i := 2) nd rfl (Or.inl rfl)) (pss_then (ps_asg (pe_tup (pa_cons (pe_call O_law_any (hr.mono (by decide)) rfl T.g_law_any T.k_law_any B.b_law_any .nil pass0 (pa_cons (pv 1) pa_nil)) (pa_cons (pe_call O_law_any (hr.mono (by decide)) rfl T.g_law_any T.k_law_any B.b_law_any .nil pass0 (pa_cons (pv 1) pa_nil)) pa_nil))) (pg_tup rfl (pgs_cons (pg_tup rfl (pgs_cons (pg_name (i := 10) nd rfl (Or.inl rfl)) (pgs_cons (pg_name (i := 11) nd rfl (Or.inl rfl)) pgs_nil))) (pgs_cons (pg_tup rfl (pgs_cons (pg_name (i := 12) nd rfl (Or.inl rfl)) (pgs_cons (pg_name (i := 13) nd rfl (Or.inl rfl)) pgs_nil))) pgs_nil))))
      (pss_then (ps_par rfl nd rfl rfl (by decide) rfl rfl (pa_cons (pe_call O_law_pick (hr.mono (by decide)) rfl T.g_law_pick T.k_law_pick B.b_law_pick .nil pass0 (pa_cons (pv 1) (pa_cons (pe_lst (pa_cons pe_non (pa_cons pe_int (pa_cons (pe_un u_neg pe_int) (pa_cons (pe_call O_law_flick (hr.mono (by decide)) rfl T.g_law_flick T.k_law_flick B.b_law_flick .nil pass0 (pa_cons (pv 1) (pa_cons pe_int pa_nil))) pa_nil))))) pa_nil))) (pa_cons (pe_call O_law_pick (hr.mono (by decide)) rfl T.g_law_pick T.k_law_pick B.b_law_pick .nil pass0 (pa_cons (pv 1) (pa_cons (pe_lst (pa_cons pe_non (pa_cons pe_int (pa_cons pe_int (pa_cons (pe_call O_law_flick (hr.mono (by decide)) rfl T.g_law_flick T.k_law_flick B.b_law_flick .nil pass0 (pa_cons (pv 1) (pa_cons pe_int pa_nil))) pa_nil))))) pa_nil))) pa_nil)) (by rfl))
      (pss_then (ps_set (i := 3) nd rfl (Or.inl rfl) (pe_and (pv 11) (pe_and (pe_or (pe_cmpR o_isNo (pv 5) pe_non (nomark _)) (pe_one (pe_cmpR o_ge (pv 10) (pv 5) (nomark _)))) (pe_one (pe_or (pe_cmpR o_isNo (pv 6) pe_non (nomark _)) (pe_one (pe_cmpR o_le (pv 10) (pv 6) (nomark _))))))))
      (pss_then (ps_if (pt_cmpR op_ne (pe_callB (c_repr hgd hr.units) (by rfl) T.n_repr (by decide +kernel) (pa_cons (pe_lst (pa_cons (pe_call O_is_integer (hr.mono (by decide)) rfl T.g_is_integer T.k_is_integer B.b_is_integer .nil pass0 (pa_cons (pv 10) pa_nil)) (pa_cons (pe_callK0 O_is_integer (hr.mono (by decide)) rfl T.g_is_integer T.k_is_integer B.kb_is_integer_0_value pass0 (pk_cons (pv 10) pk_nil)) pa_nil))) pa_nil)) (pe_callB (c_repr hgd hr.units) (by rfl) T.n_repr (by decide +kernel) (pa_cons (pe_lst (pa_cons (pv 11) (pa_cons (pv 11) pa_nil))) pa_nil)) (nomark _)) (pss_one (ps_ret pe_bl)) pss_nil)
      (pss_then (ps_if (pt_cmpR op_ne (pe_callB (c_repr hgd hr.units) (by rfl) T.n_repr (by decide +kernel) (pa_cons (pe_lst (pa_cons (pe_call O_is_within (hr.mono (by decide)) rfl T.g_is_within T.k_is_within B.b_is_within .nil pass0 (pa_cons (pv 10) (pa_cons (pv 5) (pa_cons (pv 6) pa_nil)))) (pa_cons (pe_callK0 O_is_within (hr.mono (by decide)) rfl T.g_is_within T.k_is_within B.kb_is_within_0_most_value_least pass0 (pk_cons (pv 6) (pk_cons (pv 10) (pk_cons (pv 5) pk_nil)))) pa_nil))) pa_nil)) (pe_callB (c_repr hgd hr.units) (by rfl) T.n_repr (by decide +kernel) (pa_cons (pe_lst (pa_cons (pv 3) (pa_cons (pv 3) pa_nil))) pa_nil)) (nomark _)) (pss_one (ps_ret pe_bl)) pss_nil)
      (pss_then (ps_par rfl nd rfl rfl (by decide) rfl rfl (pa_cons (pe_lst (pa_cons (pv 10) (pa_cons (pv 12) pa_nil))) (pa_cons (pe_and (pv 11) (pe_one (pv 13))) pa_nil)) (by rfl))
      (pss_then (ps_if (pt_cmpR op_ne (pe_callB (c_repr hgd hr.units) (by rfl) T.n_repr (by decide +kernel) (pa_cons (pe_lst (pa_cons (pe_call O_is_point (hr.mono (by decide)) rfl T.g_is_point T.k_is_point B.b_is_point .nil pass0 (pa_cons (pv 7) pa_nil)) (pa_cons (pe_callK0 O_is_point (hr.mono (by decide)) rfl T.g_is_point T.k_is_point B.kb_is_point_0_value pass0 (pk_cons (pe_callTy c_tuple (by rfl) T.n_tuple (by decide +kernel) (pa_cons (pv 7) pa_nil)) pk_nil)) (pa_cons (pe_call O_is_point (hr.mono (by decide)) rfl T.g_is_point T.k_is_point B.b_is_point .nil pass0 (pa_cons (pe_slice sl_list (pv 7) po_none (po_some pe_int)) pa_nil)) (pa_cons (pe_call O_is_point (hr.mono (by decide)) rfl T.g_is_point T.k_is_point B.b_is_point .nil pass0 (pa_cons (pe_op op_cat (pv 7) (pe_lst (pa_cons pe_int pa_nil))) pa_nil)) (pa_cons (pe_call O_is_point (hr.mono (by decide)) rfl T.g_is_point T.k_is_point B.b_is_point .nil pass0 (pa_cons (pv 10) pa_nil)) pa_nil)))))) pa_nil)) (pe_callB (c_repr hgd hr.units) (by rfl) T.n_repr (by decide +kernel) (pa_cons (pe_lst (pa_cons (pv 3) (pa_cons (pv 3) (pa_cons pe_bl (pa_cons pe_bl (pa_cons pe_bl pa_nil)))))) pa_nil)) (nomark _)) (pss_one (ps_ret pe_bl)) pss_nil)
      (pss_then (ps_set (i := 3) nd rfl (Or.inl rfl) (pe_and (pv 3) (pe_and (pe_cmpR o_le (pe_callB (c_max rfl) (by rfl) T.n_max (by decide +kernel) (pa_cons (pe_callB c_abs (by rfl) T.n_abs (by decide +kernel) (pa_cons (pv 10) pa_nil)) (pa_cons (pe_callB c_abs (by rfl) T.n_abs (by decide +kernel) (pa_cons (pv 12) pa_nil)) pa_nil))) (pe_op o_pow pe_int pe_int) (nomark _)) (pe_one (pe_cmpR op_eq (pe_call O_law_common (hr.mono (by decide)) rfl T.g_law_common T.k_law_common B.b_law_common .nil pass0 (pa_cons (pv 10) (pa_cons (pv 12) pa_nil))) pe_int (nomark _))))))
      (pss_then (ps_if (PW.pt (pw_or (pt_cmpR op_ne (pe_callB (c_repr hgd hr.units) (by rfl) T.n_repr (by decide +kernel) (pa_cons (pe_lst (pa_cons (pe_call O_is_way (hr.mono (by decide)) rfl T.g_is_way T.k_is_way B.b_is_way .nil pass0 (pa_cons (pv 7) pa_nil)) (pa_cons (pe_callK0 O_is_way (hr.mono (by decide)) rfl T.g_is_way T.k_is_way B.kb_is_way_0_value pass0 (pk_cons (pe_callTy c_tuple (by rfl) T.n_tuple (by decide +kernel) (pa_cons (pv 7) pa_nil)) pk_nil)) (pa_cons (pe_call O_is_way (hr.mono (by decide)) rfl T.g_is_way T.k_is_way B.b_is_way .nil pass0 (pa_cons (pe_op op_cat (pv 7) (pe_lst (pa_cons pe_int pa_nil))) pa_nil)) (pa_cons (pe_call O_is_way (hr.mono (by decide)) rfl T.g_is_way T.k_is_way B.b_is_way .nil pass0 (pa_cons (pv 12) pa_nil)) pa_nil))))) pa_nil)) (pe_callB (c_repr hgd hr.units) (by rfl) T.n_repr (by decide +kernel) (pa_cons (pe_lst (pa_cons (pv 3) (pa_cons (pv 3) (pa_cons pe_bl (pa_cons pe_bl pa_nil))))) pa_nil)) (nomark _)) (pw_or1 (pt_cmpR (o_neSame hu64) (pv 7) (pe_lst (pa_cons (pv 10) (pa_cons (pv 12) pa_nil))) (nomark _))))) (pss_one (ps_ret pe_bl)) pss_nil)
      (pss_then (ps_par rfl nd rfl rfl (by decide) rfl rfl (pa_cons (pe_call O_law_flick (hr.mono (by decide)) rfl T.g_law_flick T.k_law_flick B.b_law_flick .nil pass0 (pa_cons (pv 1) (pa_cons (pe_op o_pow pe_int pe_int) pa_nil))) (pa_cons (pe_op o_sub (pe_call O_law_flick (hr.mono (by decide)) rfl T.g_law_flick T.k_law_flick B.b_law_flick .nil pass0 (pa_cons (pv 1) (pa_cons (pe_op o_pow pe_int pe_int) pa_nil))) (pe_op o_mul pe_int (pe_op o_pow pe_int pe_int))) pa_nil)) (by rfl))
      (pss_then (ps_set (i := 4) nd rfl (Or.inl rfl) (pe_call O_law_pick (hr.mono (by decide)) rfl T.g_law_pick T.k_law_pick B.b_law_pick .nil pass0 (pa_cons (pv 1) (pa_cons (pe_lst (pa_cons pe_int (pa_cons pe_int (pa_cons pe_int (pa_cons pe_int (pa_cons pe_int pa_nil)))))) pa_nil))))
      (pss_one (ps_if (pt_cmpR op_ne (pe_call O_is_way (hr.mono (by decide)) rfl T.g_is_way T.k_is_way B.b_is_way .nil pass0 (pa_cons (pe_tup (pa_cons (pe_op o_mul (pv 4) (pv 8)) (pa_cons (pe_op o_mul (pv 4) (pv 9)) pa_nil))) pa_nil)) (pe_cmpR op_eq (pe_call O_law_common (hr.mono (by decide)) rfl T.g_law_common T.k_law_common B.b_law_common .nil pass0 (pa_cons (pe_op o_mul (pv 4) (pv 8)) (pa_cons (pe_op o_mul (pv 4) (pv 9)) pa_nil))) pe_int (nomark _)) (nomark _)) (pss_one (ps_ret pe_bl)) pss_nil))))))))))))))
      (pss_then (ps_set (i := 14) nd rfl (Or.inl rfl) (pe_call O_law_pick (hr.mono (by decide)) rfl T.g_law_pick T.k_law_pick B.b_law_pick .nil pass0 (pa_cons (pv 1) (pa_cons (pe_lst (pa_cons pe_non (pa_cons pe_int (pa_cons pe_str (pa_cons (pe_disp (pps_cons pe_int pe_int (pps_cons pe_int pe_int pps_nil)) (by rfl) (by rfl) (fun z => by cases z) (by decide)) (pa_cons (pe_lst (pa_cons (pe_lst (pa_cons pe_int (pa_cons pe_int pa_nil))) pa_nil)) (pa_cons pe_str pa_nil))))))) pa_nil))))
      (pss_then (ps_if (pt_cmpR (op_neD hu64) (pe_lst (pa_cons (pe_call O_is_way (hr.mono (by decide)) rfl T.g_is_way T.k_is_way B.b_is_way .nil pass0 (pa_cons (pe_tup (pa_cons (pe_un u_neg (pe_op o_pow pe_int pe_int)) (pa_cons pe_int pa_nil))) pa_nil)) (pa_cons (pe_call O_is_way (hr.mono (by decide)) rfl T.g_is_way T.k_is_way B.b_is_way .nil pass0 (pa_cons (pe_tup (pa_cons pe_int (pa_cons (pe_un u_neg (pe_op o_pow pe_int pe_int)) pa_nil))) pa_nil)) (pa_cons (pe_call O_is_way (hr.mono (by decide)) rfl T.g_is_way T.k_is_way B.b_is_way .nil pass0 (pa_cons (pe_tup (pa_cons (pe_op o_sub (pe_un u_neg (pe_op o_pow pe_int pe_int)) pe_int) (pa_cons pe_int pa_nil))) pa_nil)) (pa_cons (pe_call O_is_way (hr.mono (by decide)) rfl T.g_is_way T.k_is_way B.b_is_way .nil pass0 (pa_cons (pe_tup (pa_cons pe_int (pa_cons (pe_op o_sub (pe_un u_neg (pe_op o_pow pe_int pe_int)) pe_int) pa_nil))) pa_nil)) pa_nil))))) (pe_lst (pa_cons pe_bl (pa_cons pe_bl (pa_cons pe_bl (pa_cons pe_bl pa_nil))))) (nomark _)) (pss_one (ps_ret pe_bl)) pss_nil)
      (pss_one (ps_ret (pe_cmpR (op_eqD hu64) (pe_lst (pa_cons (pe_call O_is_point (hr.mono (by decide)) rfl T.g_is_point T.k_is_point B.b_is_point .nil pass0 (pa_cons (pv 14) pa_nil)) (pa_cons (pe_call O_is_way (hr.mono (by decide)) rfl T.g_is_way T.k_is_way B.b_is_way .nil pass0 (pa_cons (pv 14) pa_nil)) (pa_cons (pe_call O_is_way (hr.mono (by decide)) rfl T.g_is_way T.k_is_way B.b_is_way .nil pass0 (pa_cons (pe_tup (pa_cons pe_int (pa_cons pe_int pa_nil))) pa_nil)) (pa_cons (pe_call O_is_way (hr.mono (by decide)) rfl T.g_is_way T.k_is_way B.b_is_way .nil pass0 (pa_cons (pe_tup (pa_cons pe_int (pa_cons pe_int pa_nil))) pa_nil)) (pa_cons (pe_call O_is_way (hr.mono (by decide)) rfl T.g_is_way T.k_is_way B.b_is_way .nil pass0 (pa_cons (pe_lst (pa_cons pe_int (pa_cons (pe_un u_neg pe_int) pa_nil))) pa_nil)) (pa_cons (pe_call O_is_way (hr.mono (by decide)) rfl T.g_is_way T.k_is_way B.b_is_way .nil pass0 (pa_cons (pe_tup (pa_cons pe_int (pa_cons pe_int pa_nil))) pa_nil)) (pa_cons (pe_call O_is_way (hr.mono (by decide)) rfl T.g_is_way T.k_is_way B.b_is_way .nil pass0 (pa_cons (pe_tup pa_nil) pa_nil)) pa_nil)))))))) (pe_lst (pa_cons pe_bl (pa_cons pe_bl (pa_cons pe_bl (pa_cons pe_bl (pa_cons pe_bl (pa_cons pe_bl (pa_cons pe_bl pa_nil)))))))) (nomark _))))))))
end
theorem all_mk {P : Program} {w : World} {K : PySem.W.Frag} {h : Heap} {mg : Str → Option Value} {fa f_is_integer f_is_within f_is_list f_is_point f_common f_is_way f_law_lantern f_law_flick f_law_pick f_law_common f_law_any f_law : Addr} (X : K.In h) (G : h.Ns mainGlobals mg) (hfa : mg "law" = some (.ref fa))
    {od0 an0 : Option Addr} {sl0 : Array (Option Value)} {oc0 kV0 dc0 pm0 cd0 ct0 : Value}
    {od1 an1 : Option Addr} {sl1 : Array (Option Value)} {oc1 kV1 dc1 pm1 cd1 ct1 : Value}
    {od2 an2 : Option Addr} {sl2 : Array (Option Value)} {oc2 kV2 dc2 pm2 cd2 ct2 : Value}
    {od3 an3 : Option Addr} {sl3 : Array (Option Value)} {oc3 kV3 dc3 pm3 cd3 ct3 : Value}
    {od4 an4 : Option Addr} {sl4 : Array (Option Value)} {oc4 kV4 dc4 pm4 cd4 ct4 : Value}
    {od5 an5 : Option Addr} {sl5 : Array (Option Value)} {oc5 kV5 dc5 pm5 cd5 ct5 : Value}
    {od6 an6 : Option Addr} {sl6 : Array (Option Value)} {oc6 kV6 dc6 pm6 cd6 ct6 : Value}
    {od7 an7 : Option Addr} {sl7 : Array (Option Value)} {oc7 kV7 dc7 pm7 cd7 ct7 : Value}
    {od8 an8 : Option Addr} {sl8 : Array (Option Value)} {oc8 kV8 dc8 pm8 cd8 ct8 : Value}
    {od9 an9 : Option Addr} {sl9 : Array (Option Value)} {oc9 kV9 dc9 pm9 cd9 ct9 : Value}
    {od10 an10 : Option Addr} {sl10 : Array (Option Value)} {oc10 kV10 dc10 pm10 cd10 ct10 : Value}
    {od11 an11 : Option Addr} {sl11 : Array (Option Value)} {oc11 kV11 dc11 pm11 cd11 ct11 : Value}
    {tk_MOST_WAY : Tok}
    (a0 : PySem.W.nsIn K mainGlobals "is_integer" = some (some (.ref f_is_integer))) (l0 : K.lookup f_is_integer = some ⟨oc0, od0, .func (PySem.W.fnOf "is_integer" "is_integer" (defArgs s_is_integer) (defBody s_is_integer) (defScope s_is_integer) .none kV0 dc0 pm0 an0 cd0 ct0), sl0⟩) (c0 : PySem.W.codeIn K cd0 "is_integer" = true) (k0 : PySem.W.keepIn K (.ref f_is_integer) = true)
    (a1 : PySem.W.nsIn K mainGlobals "is_within" = some (some (.ref f_is_within))) (l1 : K.lookup f_is_within = some ⟨oc1, od1, .func (PySem.W.fnOf "is_within" "is_within" (defArgs s_is_within) (defBody s_is_within) (defScope s_is_within) .none kV1 dc1 pm1 an1 cd1 ct1), sl1⟩) (c1 : PySem.W.codeIn K cd1 "is_within" = true) (k1 : PySem.W.keepIn K (.ref f_is_within) = true)
    (a2 : PySem.W.nsIn K mainGlobals "is_list" = some (some (.ref f_is_list))) (l2 : K.lookup f_is_list = some ⟨oc2, od2, .func (PySem.W.fnOf "is_list" "is_list" (defArgs s_is_list) (defBody s_is_list) (defScope s_is_list) .none kV2 dc2 pm2 an2 cd2 ct2), sl2⟩) (c2 : PySem.W.codeIn K cd2 "is_list" = true) (k2 : PySem.W.keepIn K (.ref f_is_list) = true)
    (a3 : PySem.W.nsIn K mainGlobals "is_point" = some (some (.ref f_is_point))) (l3 : K.lookup f_is_point = some ⟨oc3, od3, .func (PySem.W.fnOf "is_point" "is_point" (defArgs s_is_point) (defBody s_is_point) (defScope s_is_point) .none kV3 dc3 pm3 an3 cd3 ct3), sl3⟩) (c3 : PySem.W.codeIn K cd3 "is_point" = true) (k3 : PySem.W.keepIn K (.ref f_is_point) = true)
    (a4 : PySem.W.nsIn K mainGlobals "common" = some (some (.ref f_common))) (l4 : K.lookup f_common = some ⟨oc4, od4, .func (PySem.W.fnOf "common" "common" (defArgs s_common) (defBody s_common) (defScope s_common) .none kV4 dc4 pm4 an4 cd4 ct4), sl4⟩) (c4 : PySem.W.codeIn K cd4 "common" = true) (k4 : PySem.W.keepIn K (.ref f_common) = true)
    (a5 : PySem.W.nsIn K mainGlobals "is_way" = some (some (.ref f_is_way))) (l5 : K.lookup f_is_way = some ⟨oc5, od5, .func (PySem.W.fnOf "is_way" "is_way" (defArgs s_is_way) (defBody s_is_way) (defScope s_is_way) .none kV5 dc5 pm5 an5 cd5 ct5), sl5⟩) (c5 : PySem.W.codeIn K cd5 "is_way" = true) (k5 : PySem.W.keepIn K (.ref f_is_way) = true)
    (a6 : PySem.W.nsIn K mainGlobals "_law_lantern" = some (some (.ref f_law_lantern))) (l6 : K.lookup f_law_lantern = some ⟨oc6, od6, .func (PySem.W.fnOf "_law_lantern" "_law_lantern" (defArgs s_law_lantern) (defBody s_law_lantern) (defScope s_law_lantern) .none kV6 dc6 pm6 an6 cd6 ct6), sl6⟩) (c6 : PySem.W.codeIn K cd6 "_law_lantern" = true) (k6 : PySem.W.keepIn K (.ref f_law_lantern) = true)
    (a7 : PySem.W.nsIn K mainGlobals "_law_flick" = some (some (.ref f_law_flick))) (l7 : K.lookup f_law_flick = some ⟨oc7, od7, .func (PySem.W.fnOf "_law_flick" "_law_flick" (defArgs s_law_flick) (defBody s_law_flick) (defScope s_law_flick) .none kV7 dc7 pm7 an7 cd7 ct7), sl7⟩) (c7 : PySem.W.codeIn K cd7 "_law_flick" = true) (k7 : PySem.W.keepIn K (.ref f_law_flick) = true)
    (a8 : PySem.W.nsIn K mainGlobals "_law_pick" = some (some (.ref f_law_pick))) (l8 : K.lookup f_law_pick = some ⟨oc8, od8, .func (PySem.W.fnOf "_law_pick" "_law_pick" (defArgs s_law_pick) (defBody s_law_pick) (defScope s_law_pick) .none kV8 dc8 pm8 an8 cd8 ct8), sl8⟩) (c8 : PySem.W.codeIn K cd8 "_law_pick" = true) (k8 : PySem.W.keepIn K (.ref f_law_pick) = true)
    (a9 : PySem.W.nsIn K mainGlobals "_law_common" = some (some (.ref f_law_common))) (l9 : K.lookup f_law_common = some ⟨oc9, od9, .func (PySem.W.fnOf "_law_common" "_law_common" (defArgs s_law_common) (defBody s_law_common) (defScope s_law_common) .none kV9 dc9 pm9 an9 cd9 ct9), sl9⟩) (c9 : PySem.W.codeIn K cd9 "_law_common" = true) (k9 : PySem.W.keepIn K (.ref f_law_common) = true)
    (a10 : PySem.W.nsIn K mainGlobals "_law_any" = some (some (.ref f_law_any))) (l10 : K.lookup f_law_any = some ⟨oc10, od10, .func (PySem.W.fnOf "_law_any" "_law_any" (defArgs s_law_any) (defBody s_law_any) (defScope s_law_any) .none kV10 dc10 pm10 an10 cd10 ct10), sl10⟩) (c10 : PySem.W.codeIn K cd10 "_law_any" = true) (k10 : PySem.W.keepIn K (.ref f_law_any) = true)
    (a11 : PySem.W.nsIn K mainGlobals "law" = some (some (.ref f_law))) (l11 : K.lookup f_law = some ⟨oc11, od11, .func (PySem.W.fnOf "law" "law" (defArgs s_law) (defBody s_law) (defScope s_law) .none kV11 dc11 pm11 an11 cd11 ct11), sl11⟩) (c11 : PySem.W.codeIn K cd11 "law" = true) (k11 : PySem.W.keepIn K (.ref f_law) = true)
    (z_isinstance : PySem.W.nsIn K mainGlobals "isinstance" = some none)
    (z_int : PySem.W.nsIn K mainGlobals "int" = some none)
    (z_bool : PySem.W.nsIn K mainGlobals "bool" = some none)
    (z_tuple : PySem.W.nsIn K mainGlobals "tuple" = some none)
    (z_list : PySem.W.nsIn K mainGlobals "list" = some none)
    (z_len : PySem.W.nsIn K mainGlobals "len" = some none)
    (z_all : PySem.W.nsIn K mainGlobals "all" = some none)
    (z_abs : PySem.W.nsIn K mainGlobals "abs" = some none)
    (z_range : PySem.W.nsIn K mainGlobals "range" = some none)
    (z_repr : PySem.W.nsIn K mainGlobals "repr" = some none)
    (z_max : PySem.W.nsIn K mainGlobals "max" = some none)
    (y_MOST_WAY : PySem.W.nsIn K mainGlobals "MOST_WAY" = some (some (.int 1000000000000 tk_MOST_WAY))) :
    ∃ fd : FuncData, (∀ (s : Shared) (v : Value), BindsTo s fd ⟨[v], []⟩ [("_law_script", v)]) ∧ ∀ base : Heap, K.In base → base.Ns mainGlobals mg → FnG P w K mg base CX0 4 fa fd ["_law_script"] (sp_law K {}) := by
  have e := hfa.symm.trans (PySem.W.mg_of X G a11)
  cases e
  let A : Ad := ⟨f_is_integer, f_is_within, f_is_list, f_is_point, f_common, f_is_way, f_law_lantern, f_law_flick, f_law_pick, f_law_common, f_law_any, fa⟩
  have T : Txt K mg {} A := ⟨PySem.W.mg_of X G a0, k0, PySem.W.mg_of X G a1, k1, PySem.W.mg_of X G a2, k2, PySem.W.mg_of X G a3, k3, PySem.W.mg_of X G a4, k4, PySem.W.mg_of X G a5, k5, PySem.W.mg_of X G a6, k6, PySem.W.mg_of X G a7, k7, PySem.W.mg_of X G a8, k8, PySem.W.mg_of X G a9, k9, PySem.W.mg_of X G a10, k10, PySem.W.mg_of X G a11, k11, PySem.W.mg_none_of X G z_isinstance, PySem.W.mg_none_of X G z_int, PySem.W.mg_none_of X G z_bool, PySem.W.mg_none_of X G z_tuple, PySem.W.mg_none_of X G z_list, PySem.W.mg_none_of X G z_len, PySem.W.mg_none_of X G z_all, PySem.W.mg_none_of X G z_abs, PySem.W.mg_none_of X G z_range, PySem.W.mg_none_of X G z_repr, PySem.W.mg_none_of X G z_max, ⟨_, PySem.W.mg_of X G y_MOST_WAY⟩⟩
  have F0 := fun_mk (st := s_is_integer) l0 c0 k0
  have F1 := fun_mk (st := s_is_within) l1 c1 k1
  have F2 := fun_mk (st := s_is_list) l2 c2 k2
  have F3 := fun_mk (st := s_is_point) l3 c3 k3
  have F4 := fun_mk (st := s_common) l4 c4 k4
  have F5 := fun_mk (st := s_is_way) l5 c5 k5
  have F6 := fun_mk (st := s_law_lantern) l6 c6 k6
  have F7 := fun_mk (st := s_law_flick) l7 c7 k7
  have F8 := fun_mk (st := s_law_pick) l8 c8 k8
  have F9 := fun_mk (st := s_law_common) l9 c9 k9
  have F10 := fun_mk (st := s_law_any) l10 c10 k10
  have F11 := fun_mk (st := s_law) l11 c11 k11
  let D : Fds := ⟨PySem.W.fnOf "is_integer" "is_integer" (defArgs s_is_integer) (defBody s_is_integer) (defScope s_is_integer) .none kV0 dc0 pm0 an0 cd0 ct0,
    PySem.W.fnOf "is_within" "is_within" (defArgs s_is_within) (defBody s_is_within) (defScope s_is_within) .none kV1 dc1 pm1 an1 cd1 ct1,
    PySem.W.fnOf "is_list" "is_list" (defArgs s_is_list) (defBody s_is_list) (defScope s_is_list) .none kV2 dc2 pm2 an2 cd2 ct2,
    PySem.W.fnOf "is_point" "is_point" (defArgs s_is_point) (defBody s_is_point) (defScope s_is_point) .none kV3 dc3 pm3 an3 cd3 ct3,
    PySem.W.fnOf "common" "common" (defArgs s_common) (defBody s_common) (defScope s_common) .none kV4 dc4 pm4 an4 cd4 ct4,
    PySem.W.fnOf "is_way" "is_way" (defArgs s_is_way) (defBody s_is_way) (defScope s_is_way) .none kV5 dc5 pm5 an5 cd5 ct5,
    PySem.W.fnOf "_law_lantern" "_law_lantern" (defArgs s_law_lantern) (defBody s_law_lantern) (defScope s_law_lantern) .none kV6 dc6 pm6 an6 cd6 ct6,
    PySem.W.fnOf "_law_flick" "_law_flick" (defArgs s_law_flick) (defBody s_law_flick) (defScope s_law_flick) .none kV7 dc7 pm7 an7 cd7 ct7,
    PySem.W.fnOf "_law_pick" "_law_pick" (defArgs s_law_pick) (defBody s_law_pick) (defScope s_law_pick) .none kV8 dc8 pm8 an8 cd8 ct8,
    PySem.W.fnOf "_law_common" "_law_common" (defArgs s_law_common) (defBody s_law_common) (defScope s_law_common) .none kV9 dc9 pm9 an9 cd9 ct9,
    PySem.W.fnOf "_law_any" "_law_any" (defArgs s_law_any) (defBody s_law_any) (defScope s_law_any) .none kV10 dc10 pm10 an10 cd10 ct10,
    PySem.W.fnOf "law" "law" (defArgs s_law) (defBody s_law) (defScope s_law) .none kV11 dc11 pm11 an11 cd11 ct11⟩
  have B : Bnd K D := ⟨(F0.binds (ps := ["value"]) fun _ _ _ _ _ _ us hl => match us, hl with | [_], _ => rfl),
    (F1.binds (ps := ["value", "least", "most"]) fun _ _ _ _ _ _ us hl => match us, hl with | [_, _, _], _ => rfl),
    (F2.binds (ps := ["value"]) fun _ _ _ _ _ _ us hl => match us, hl with | [_], _ => rfl),
    (F3.binds (ps := ["value"]) fun _ _ _ _ _ _ us hl => match us, hl with | [_], _ => rfl),
    (F4.binds (ps := ["one", "other"]) fun _ _ _ _ _ _ us hl => match us, hl with | [_, _], _ => rfl),
    (F5.binds (ps := ["value"]) fun _ _ _ _ _ _ us hl => match us, hl with | [_], _ => rfl),
    (F6.binds (ps := ["_law_script"]) fun _ _ _ _ _ _ us hl => match us, hl with | [_], _ => rfl),
    (F7.binds (ps := ["_law_lantern_here", "_law_many"]) fun _ _ _ _ _ _ us hl => match us, hl with | [_, _], _ => rfl),
    (F8.binds (ps := ["_law_lantern_here", "_law_some"]) fun _ _ _ _ _ _ us hl => match us, hl with | [_, _], _ => rfl),
    (F9.binds (ps := ["_law_one", "_law_other"]) fun _ _ _ _ _ _ us hl => match us, hl with | [_, _], _ => rfl),
    (F10.binds (ps := ["_law_lantern_here"]) fun _ _ _ _ _ _ us hl => match us, hl with | [_], _ => rfl),
    (F11.binds (ps := ["_law_script"]) fun _ _ _ _ _ _ us hl => match us, hl with | [_], _ => rfl),
    (fun_kb (ps := ["value"]) (ks := ["value"]) (g := kb_is_integer_0_value_g) (gV := kb_is_integer_0_value_g) F0 (by exact kb_is_integer_0_value_to) (by exact kb_is_integer_0_value_rel)),
    (fun_kb (ps := ["value", "least", "most"]) (ks := ["most", "value", "least"]) (g := kb_is_within_0_most_value_least_g) (gV := kb_is_within_0_most_value_least_g) F1 (by exact kb_is_within_0_most_value_least_to) (by exact kb_is_within_0_most_value_least_rel)),
    (fun_kb (ps := ["value"]) (ks := ["value"]) (g := kb_is_point_0_value_g) (gV := kb_is_point_0_value_g) F3 (by exact kb_is_point_0_value_to) (by exact kb_is_point_0_value_rel)),
    (fun_kb (ps := ["value"]) (ks := ["value"]) (g := kb_is_way_0_value_g) (gV := kb_is_way_0_value_g) F5 (by exact kb_is_way_0_value_to) (by exact kb_is_way_0_value_rel))⟩
  refine ⟨D.f_law, fun s v => .of_eq rfl, fun base _ _ => ?_⟩
  have O_is_integer : FnOk P w K mg base CX0 1 f_is_integer D.f_is_integer ["value"] (sp_is_integer K {}) := ok_is_integer (A := A) (D := D) F0 T B  pure_is_integer
  have O_is_within : FnOk P w K mg base CX0 2 f_is_within D.f_is_within ["value", "least", "most"] (sp_is_within K {}) := ok_is_within (A := A) (D := D) F1 T B O_is_integer pure_is_within
  have O_is_list : FnOk P w K mg base CX0 1 f_is_list D.f_is_list ["value"] (sp_is_list K {}) := ok_is_list (A := A) (D := D) F2 T B  pure_is_list
  have O_is_point : FnOk P w K mg base CX0 2 f_is_point D.f_is_point ["value"] (sp_is_point K {}) := ok_is_point (A := A) (D := D) F3 T B O_is_list O_is_integer pure_is_point
  have O_common : FnOk P w K mg base CX0 1 f_common D.f_common ["one", "other"] (sp_common K {}) := ok_common (A := A) (D := D) F4 T B  pure_common
  have O_is_way : FnOk P w K mg base CX0 3 f_is_way D.f_is_way ["value"] (sp_is_way K {}) := ok_is_way (A := A) (D := D) F5 T B O_is_point O_is_within O_common pure_is_way
  have O_law_lantern : FnOk P w K mg base CX0 1 f_law_lantern D.f_law_lantern ["_law_script"] (sp_law_lantern K {}) := ok_law_lantern (A := A) (D := D) F6 T B  pure_law_lantern
  have O_law_flick : FnOk P w K mg base CX0 1 f_law_flick D.f_law_flick ["_law_lantern_here", "_law_many"] (sp_law_flick K {}) := ok_law_flick (A := A) (D := D) F7 T B  pure_law_flick
  have O_law_pick : FnOk P w K mg base CX0 2 f_law_pick D.f_law_pick ["_law_lantern_here", "_law_some"] (sp_law_pick K {}) := ok_law_pick (A := A) (D := D) F8 T B O_law_flick pure_law_pick
  have O_law_common : FnOk P w K mg base CX0 1 f_law_common D.f_law_common ["_law_one", "_law_other"] (sp_law_common K {}) := ok_law_common (A := A) (D := D) F9 T B  pure_law_common
  have O_law_any : FnOk P w K mg base CX0 3 f_law_any D.f_law_any ["_law_lantern_here"] (sp_law_any K {}) := ok_law_any (A := A) (D := D) F10 T B O_law_pick O_law_flick pure_law_any
  exact ok_law (A := A) (D := D) F11 T B O_law_lantern O_law_any O_law_pick O_law_flick O_is_integer O_is_within O_is_point O_law_common O_is_way pure_law
end NK
namespace NK
open PySem L2
theorem the_walk {l : PySem.W.OpenLaw} {q : Program} {loose : List Str} {XP : (Str → Option Value) → Heap → Prop} {YP : World → Heap → Prop} {d : DefRec} {K : Params → PySem.W.Frag} (hn : l.most = some 63) (hdf : d.params.defaults = [])
    (hY : ∀ (w : World) (h : Heap), YP w h → (K w.params).In h)
    (F : ∀ (w : World) (mg : Str → Option Value) (fa : Addr) (h : Heap), (K w.params).In h → h.Ns mainGlobals mg → mg d.name = some (.ref fa) →
      ∃ fd : FuncData, (∀ (s : Shared) (u : Value), BindsTo s fd ⟨[u], []⟩ [("_law_script", u)]) ∧ ∀ base : Heap, (K w.params).In base → base.Ns mainGlobals mg → FnG l.prog w (K w.params) mg base CX0 4 fa fd ["_law_script"] (sp_law (K w.params) {})) :
    PySem.W.WalkO q loose XP YP l.row.toRowW d [] (fun f vs => PySem.call f vs) :=
  walkG (n := 63) (k := 4) (x := "_law_script") (CX := fun _ => CX0) (sp := fun w => sp_law (K w.params) {}) hn (by decide) hdf ⟨rfl, by decide, by decide⟩ hY F (fun _ _ a ns hl _ hS => ⟨a, ns, rfl, hS, hl, fun _ => rfl⟩) fun _ _ _ _ _ z => z
end NK
open PySem PySem.W PyProof.Rows in
set_option maxRecDepth 100000 in
set_option maxHeartbeats 0 in
theorem PySem.Challenge.cw_neverhit_k02_integers_points_and_ways_holds : PySem.Challenge.rw_neverhit_k02_integers_points_and_ways.Holds := by
  w_on; o_law; k_head; (case hw => w_witness2)
  k_fill
  refine NK.the_walk (l := PySem.Challenge.rw_neverhit_k02_integers_points_and_ways) rfl rfl (fun w h Y => PySem.W.kIn_of Y) ?F
  case F =>
    intro w mg fa h KX G hmg
    refine' NK.all_mk KX G hmg ?a0 ?l0 ?c0 ?k0 ?a1 ?l1 ?c1 ?k1 ?a2 ?l2 ?c2 ?k2 ?a3 ?l3 ?c3 ?k3 ?a4 ?l4 ?c4 ?k4 ?a5 ?l5 ?c5 ?k5 ?a6 ?l6 ?c6 ?k6 ?a7 ?l7 ?c7 ?k7 ?a8 ?l8 ?c8 ?k8 ?a9 ?l9 ?c9 ?k9 ?a10 ?l10 ?c10 ?k10 ?a11 ?l11 ?c11 ?k11 ?z_isinstance ?z_int ?z_bool ?z_tuple ?z_list ?z_len ?z_all ?z_abs ?z_range ?z_repr ?z_max ?y_MOST_WAY
    (case a0 => k_is)
    (case l0 => k_is)
    (case c0 => k_is)
    (case k0 => k_is)
    (case a1 => k_is)
    (case l1 => k_is)
    (case c1 => k_is)
    (case k1 => k_is)
    (case a2 => k_is)
    (case l2 => k_is)
    (case c2 => k_is)
    (case k2 => k_is)
    (case a3 => k_is)
    (case l3 => k_is)
    (case c3 => k_is)
    (case k3 => k_is)
    (case a4 => k_is)
    (case l4 => k_is)
    (case c4 => k_is)
    (case k4 => k_is)
    (case a5 => k_is)
    (case l5 => k_is)
    (case c5 => k_is)
    (case k5 => k_is)
    (case a6 => k_is)
    (case l6 => k_is)
    (case c6 => k_is)
    (case k6 => k_is)
    (case a7 => k_is)
    (case l7 => k_is)
    (case c7 => k_is)
    (case k7 => k_is)
    (case a8 => k_is)
    (case l8 => k_is)
    (case c8 => k_is)
    (case k8 => k_is)
    (case a9 => k_is)
    (case l9 => k_is)
    (case c9 => k_is)
    (case k9 => k_is)
    (case a10 => k_is)
    (case l10 => k_is)
    (case c10 => k_is)
    (case k10 => k_is)
    (case a11 => k_is)
    (case l11 => k_is)
    (case c11 => k_is)
    (case k11 => k_is)
    (case z_isinstance => k_is)
    (case z_int => k_is)
    (case z_bool => k_is)
    (case z_tuple => k_is)
    (case z_list => k_is)
    (case z_len => k_is)
    (case z_all => k_is)
    (case z_abs => k_is)
    (case z_range => k_is)
    (case z_repr => k_is)
    (case z_max => k_is)
    (case y_MOST_WAY => k_is)
