import PyProof.Rows.All
import Wide.All
import OpenK.AllK
import Wide.FinOn
import HandS.ForMost
import HandS.IsInst
import HandS.Wide
import HandS.Style
import HandS.More
import PyProof.ReprLen
import HandS.ForSpec
import HandS.Lambda
import HandS.ExcInit
import HandS.ExcField
import HandS.ExcIs
import HandS.ExcSuper
import HandS.FStr
import KE.KExcSuper
import KE.KNest
import HandS.EndTab
import HandS.NoneIn
import HandS.Deep
import HandS.Rev
import HandS.WordsExc
import KE.DataMinMax
import KE.KRevSl
import PyProof.P3In
import PySem.Challenge.RW_neverhit_k24_words_and_ways
set_option Elab.async false
set_option linter.all false
set_option maxRecDepth 100000
set_option maxHeartbeats 4000000
namespace NK
open PySem L2

/-! ## what stays of the heap -/
/-- all that is told stays -/
def Ext (H H' : Hp) : Prop := ∀ a o, H a = some o → H' a = some o
theorem Ext.rfl {H : Hp} : Ext H H := fun _ _ h => h
theorem Ext.tr {H H1 H2 : Hp} (x : Ext H H1) (y : Ext H1 H2) : Ext H H2 := fun a o h => y a o (x a o h)
theorem Ext.put {H : Hp} {p : Addr} {o : HO} (h : H p = none) : Ext H (upd H p o) := fun a u e => by
  rw [upd_ne (ne_of_none e h)]; exact e
theorem Ext.before {H H' : Hp} {p : Addr} (x : Ext H H') (h : H' p = none) : H p = none := by
  cases q : H p with
  | none => exact Eq.refl _
  | some o => have := x p o q; rw [h] at this; cases this
theorem Ext.rd {H H' : Hp} {a : Addr} {u : HO} (x : Ext H H') (h : Rd H a u) : Rd H' a u := by
  rcases h with h | ⟨o, h⟩
  · exact .inl (x a _ h)
  · exact .inr ⟨o, x a _ h⟩
theorem Ext.sqL {K : PySem.W.Frag} {H H' : Hp} {a : Addr} {xs : List V} (x : Ext H H') (h : SqL K H a xs) : SqL K H' a xs := by
  rcases h with h | h
  · exact .inl (x.rd h)
  · exact .inr h
theorem Ext.sqT {K : PySem.W.Frag} {H H' : Hp} {a : Addr} {xs : List V} (x : Ext H H') (h : SqT K H a xs) : SqT K H' a xs := by
  rcases h with h | h
  · exact .inl (x.rd h)
  · exact .inr h

/-! ## readings by names of their own -/
def rAdd : R2 := rI0 fun i j => .int (i + j)
def rSub : R2 := rI0 fun i j => .int (i - j)
def rMul : R2 := rI CMul fun i j => .int (i * j)
def rPow : R2 := rI CPow fun i j => .int (i ^ j.toNat)
def rMod : R2 := rI (fun _ j => 0 < j) fun i j => .int (i % j)
def rDiv : R2 := rI CDivW fun i j => .int (i / j)
def rLt : R2 := rI0 fun i j => .bl (decide (i < j))
def rLe : R2 := rI0 fun i j => .bl (decide (i ≤ j))
def rGt : R2 := rI0 fun i j => .bl (decide (j < i))
def rGe : R2 := rI0 fun i j => .bl (decide (j ≤ i))
def rIsNo : R2 := fun x y H Q => y = .non ∧ Q (.bl (decide (x = .non))) H
def rNotNo : R2 := fun x y H Q => y = .non ∧ Q (.bl (!decide (x = .non))) H
def rNeg : V → Hp → VK → Prop := rU fun i => .int (-i)
def cLen (K : PySem.W.Frag) : List V → Hp → VK → Prop := fun xs H Q => ∃ p ys, xs = [.ref p] ∧ (SqL K H p ys ∨ SqT K H p ys) ∧ Q (.int ys.length) H
def cAbs : List V → Hp → VK → Prop := fun xs H Q => ∃ i, xs = [.int i] ∧ Q (.int (if i < 0 then -i else i)) H
def cMax : List V → Hp → VK → Prop := fun xs H Q => ∃ i j, xs = [.int i, .int j] ∧ Q (.int (if j > i then j else i)) H
def cInt : List V → Hp → VK → Prop := fun xs H Q => (∃ i, xs = [.int i] ∧ Q (.int i) H) ∨ ∃ k, xs = [.bl k] ∧ Q (.int (if k then 1 else 0)) H
def cTuple (K : PySem.W.Frag) : List V → Hp → VK → Prop := fun xs H Q => ∃ p ys, xs = [.ref p] ∧ ((SqL K H p ys ∧ ∀ l, H l = none → Q (.ref l) (upd H l (.tup ys))) ∨ (SqT K H p ys ∧ Q (.ref p) H))
section
variable {X : Cx}
theorem o_add : OpR X (binaryOp .Add) rAdd := op_add
theorem o_sub : OpR X (binaryOp .Sub) rSub := op_sub
theorem o_mul : OpR X (binaryOp .Mult) rMul := op_mul
theorem o_pow : OpR X (binaryOp .Pow) rPow := op_pow
theorem o_mod : OpR X (binaryOp .Mod) rMod := op_mod
theorem o_div : OpR X (binaryOp .FloorDiv) rDiv := op_fdivW
theorem o_lt : OpR X (compareOp .Lt) rLt := op_lt
theorem o_le : OpR X (compareOp .LtE) rLe := op_le
theorem o_gt : OpR X (compareOp .Gt) rGt := op_gt
theorem o_ge : OpR X (compareOp .GtE) rGe := op_ge
theorem o_isNo : OpR X (compareOp .Is) rIsNo := op_isN
theorem o_notNo : OpR X (compareOp .IsNot) rNotNo := op_notN
theorem u_neg : UnR X (unaryOp .USub) rNeg := un_neg
theorem c_len : CallR X (.builtin "len") (cLen X.K) := call_len_seq
theorem c_abs : CallR X (.builtin "abs") cAbs := call_abs
theorem c_max (h : X.calm = true) : CallR X (.builtin "max") cMax := call_max2 h
theorem c_int : CallR X (.type "int") cInt := call_int1
theorem c_tuple : CallR X (.type "tuple") (cTuple X.K) := call_tuple_of
end

/-! ## walked: a list or a tuple -/
def iSeq (K : PySem.W.Frag) (tl : TE) : TI := fun σ H R => tl σ H fun x H1 => ∃ a, x = .ref a ∧ ((∃ xs, SqL K H1 a xs) ∧ R (Itl K a) H1 ∨ (∃ xs, SqT K H1 a xs) ∧ R (Itt K a) H1)
/-- a name that holds what was reckoned already -/
theorem pi_seq {X : Cx} {tg l : Expr} {tl : TE} (hl : PE X l tl) : PI X tg l (iSeq X.K tl) := by
  refine ⟨fun pins s σ H R I h => ?_⟩
  refine thn (hl.run pins s σ H _ I h) fun v s1 z => ?_
  obtain ⟨x, H1, J, rx, a, ex, w⟩ := z
  cases ex
  cases rx
  have sz : ∀ b, b ∈ [s1.heap.objs.size] → FpOk X pins H1 b := fun b hb => by
    cases List.mem_singleton.mp hb
    exact J.fpOk (Nat.le_refl _) (J.hok.fresh (Nat.le_refl _))
  rcases w with ⟨⟨xs, hx⟩, r⟩ | ⟨⟨xs, hx⟩, r⟩
  · obtain ⟨us, _, pl, _⟩ := J.list hx
    exact wpAny_pyIter_list pl.isList ⟨_, _, _, Itl X.K a, H1, rfl, J.kept (t' := s1.toks) fun b o e => Heap.get?_push_of_some _ e, turn_list a _, ⟨_, Heap.get?_push_size _ rfl, rfl, rfl⟩, sz, r⟩
  · obtain ⟨us, _, pl, _⟩ := J.tuple hx
    exact wpAny_pyIter_tuple (show s1.heap.IsTuple a us.toArray from pl) ⟨_, _, _, Itt X.K a, H1, rfl, J.kept (t' := s1.toks) fun b o e => Heap.get?_push_of_some _ e, turn_tuple a _, ⟨_, Heap.get?_push_size _ rfl, rfl, rfl⟩, sz, r⟩
end NK

namespace NK
open PySem PySem.Spec PyProof.Rows L2

/-! ## a def's promise where no repr is under way (Around.guards is the empty list) -/
structure FnG (P : Program) (w : World) (K : PySem.W.Frag) (mg : Str → Option Value) (base : Heap) (CX : CXT) (k : Nat) (f : Addr) (fd : FuncData) (ps : List Str) (sp : Sp) : Prop where
  cnt : ∀ vs H Q E, sp vs H Q E → vs.length = ps.length
  go : ∀ (B : Around) (outer : List Env) (s : Shared) (H : Hp) (args : Args) (us : List Value) (vs : List V) (Q : VK) (E : XK), Room k B → B.guards = some [] → Env0 P w K mg base B outer s H →
    BindsTo s fd args (ps.zip us) → Vals vs us → sp vs H Q E → codeAny (model P w) B (.call (.ref f) args) (CR CX outer P w H s Q E) s
theorem FnG.of {P : Program} {w : World} {K : PySem.W.Frag} {mg : Str → Option Value} {base : Heap} {CX : CXT} {k : Nat} {f : Addr} {fd : FuncData} {ps : List Str} {sp : Sp}
    (F : FnOk P w K mg base CX k f fd ps sp) : FnG P w K mg base CX k f fd ps sp :=
  ⟨F.len, fun B outer s H args us vs Q E hr _ => F.run B outer s H args us vs Q E hr⟩

/-- the rule for such a def -/
theorem fnG_of {CX : CXT} {P : Program} {w : World} {K : PySem.W.Frag} {mg : Str → Option Value} {base : Heap} {k : Nat} {f : Addr} {nm ql : Str} {pr : Arguments} {bd : List Stmt} {sc : Scope} {dV kV doc pm cdv ct oc : Value} {an od : Option Addr}
    {osl : Array (Option Value)} {N ps : List Str} {sp : Sp} (there : K.lookup f = some ⟨oc, od, .func (PySem.W.fnOf nm ql pr bd sc dV kV doc pm an cdv ct), osl⟩) (cdk : PySem.W.codeIn K cdv ql = true) (S : FnScope N ps sc)
    (cnt : ∀ vs H Q E, sp vs H Q E → vs.length = ps.length)
    (body : ∀ (B : Around) (outer : List Env) (s : Shared) (H : Hp) (vs : List V) (Q : VK) (E : XK), Room k (B.deeper (envOfC ql sc s.heap.objs.size f cdv)) → B.guards = some [] → sp vs H Q E →
      ∃ t, PSs (cxOf CX P w K mg base N ql sc f cdv B outer s H E) bd t ∧ t { nx := fun _ H' => Q .non H', rt := Q } (start N vs) H) :
    FnG P w K mg base CX (k + 1) f (PySem.W.fnOf nm ql pr bd sc dV kV doc pm an cdv ct) ps sp := by
  refine ⟨cnt, fun B outer s H args us vs Q E room gd z bnd rel want => ?_⟩
  have many := cnt _ _ _ _ want
  have inK : K.In s.heap := z.mod.kin.keeps fun b o e => (z.bs b o e).1
  have free := z.mod.nolimit.keeps (h' := s.heap) fun b o e => (z.bs b o e).1
  refine codeAny_call_function room.depth (inK f _ there) (by rfl) S.co S.gen (by rfl) (PySem.W.codeRec_of inK cdk) (bnd _ _ _ _ ?_)
  refine wpAny_newFunctionEnv_cells S.kind (fun y hy => ?_) fun env he s1 x => ?_
  · have m := (List.of_mem_zip (show (y.1, y.2) ∈ ps.zip us from hy)).1
    cases S.par y.1 m with
    | inl q => exact .inl q
    | inr q => exact .inr ⟨q, PySem.W.cellsFrom_some _ _ _ (.inl q)⟩
  · cases he
    refine ⟨free.keeps x.toInCall.keep, codeAny_func ?_⟩
    obtain ⟨t, der, rd⟩ := body B outer s H vs Q E (room.deeper _) gd want
    have J := inv_start (CX := CX) (E := E) (outer := outer) S room.hd z many rel x
    refine wpAny_mono (der.run [] s1 _ H _ J rd) (fun fl s' hs => ?_) fun e s' hs => hs
    cases fl with
    | ret u =>
      obtain ⟨v, _, H', J', rv, wq⟩ := hs
      exact ⟨v, H', J'.os, J'.bare, J'.base, J'.hok, rv, wq⟩
    | next =>
      obtain ⟨_, H', J', wq⟩ := hs
      exact ⟨V.non, H', J'.os, J'.bare, J'.base, J'.hok, rfl, wq⟩
    | brk => exact hs.elim fun _ h => h.elim fun _ h => h.2.elim
    | cont => exact hs.elim fun _ h => h.elim fun _ h => h.2.elim

/-- the same by the text's own words; no exception leaves -/
theorem funG {P : Program} {w : World} {K : PySem.W.Frag} {mg : Str → Option Value} {base : Heap} {x ql : Str} {st : Stmt} {f : Addr} {fd : FuncData} {N ps : List Str} {k : Nat} {sp : Sp} (F : Fun K x ql st f fd) (S : FnScope N ps (defScope st))
    (cnt : ∀ vs H Q E, sp vs H Q E → vs.length = ps.length)
    (body : ∀ (cdv : Value) (B : Around) (outer : List Env) (s : Shared) (H : Hp) (vs : List V) (Q : VK) (E : XK), Room k (B.deeper (envOfC ql (defScope st) s.heap.objs.size f cdv)) → B.guards = some [] → sp vs H Q E →
      ∃ t, PSs (cxOf CX0 P w K mg base N ql (defScope st) f cdv B outer s H E).nox (defBody st) t ∧ t { nx := fun _ H' => Q .non H', rt := Q } (start N vs) H) : FnG P w K mg base CX0 (k + 1) f fd ps sp := by
  obtain ⟨_, _, _, _, _, _, cdv, _, _, rfl, there, cdk⟩ := F.ex
  refine fnG_of there cdk S cnt fun B outer s H vs Q E hr gd want => ?_
  obtain ⟨t, der, rd⟩ := body cdv B outer s H vs Q E hr gd want
  exact ⟨t, der.nox, rd⟩

/-! ## a call of such a def -/
section
variable {X : Cx} {CX : CXT} {k : Nat} {f C : Addr} {fd : FuncData} {ps : List Str} {sp : Sp} {dvs : List V} {ds : List Value} {E : XK} {x m : Str} {p pos apos : Pos} {e o : Expr} {es : List Expr} {ta : TE} {t : TA}
theorem goG {pins : List (Addr × Obj)} {σ : L2.St} {H : Hp} {s : Shared} {Q : VK} {us : List Value} {vs : List V} (F : FnG X.prog X.w X.K X.mg X.base CX k f fd ps sp) (hr : Room k X.A) (gd : X.A.guards = some []) (hb : Binds X.K fd ps ds) (hd : Vals dvs ds) (hx : Passes CX X E)
    (J : Inv X pins σ H s) (r : Vals vs us) (want : sp (vs ++ dvs) H Q E) : wpAny (model X.prog X.w) X.A (call (.ref f) us) (EP X pins σ Q) X.xe s := by
  have r2 := Vals.append r hd
  have many : (us ++ ds).length = ps.length := r2.length.symm.trans (F.cnt _ _ _ _ want)
  refine wpAny_call (codeAny_mono (F.go _ _ _ _ _ _ _ Q E hr gd J.env0 (hb s us J.kIn many) r2 want) fun rs s' got => ?_)
  cases rs with
  | error e => exact hx _ _ _ _ _ _ J got
  | ok fl => cases fl with
    | ret u => exact J.after got
    | next => cases got
    | brk => cases got
    | cont => cases got
theorem pe_callG (F : FnG X.prog X.w X.K X.mg X.base CX k f fd ps sp) (hr : Room k X.A) (gd : X.A.guards = some []) (hg : Gl X x) (hm : X.mg x = some (.ref f)) (hk : PySem.W.keepIn X.K (.ref f) = true) (hb : Binds X.K fd ps ds) (hd : Vals dvs ds) (hx : Passes CX X E)
    (ha : PA X (e :: es) t) (hdb : (x == ("__debug__" : Str)) = false := by decide) (st : starEach (e :: es) X.env = (false, eval e X.env) :: starEach es X.env := by rfl) (pl : (backTo pos (starEach es X.env)).any (·.1) = false := by rfl) :
    PE X (.Call (.Name x p) (e :: es) [] pos) (tCall sp dvs E t) := ⟨fun pins s σ H Q J h =>
  wpAny_Call_Name_kw (ld_glob J hg hm (PySem.W.callWith_K (h₀ := X.base) J.ok.mod.kin hk (thn (ha.run pos pins s σ H _ J h) fun us s1 z => by
    obtain ⟨vs, H1, J1, r, want⟩ := z
    exact ⟨J1.kIn, goG F hr gd hb hd hx J1 r want⟩) st pl) hdb)⟩
end

/-! ## f(k = v, ..) with keywords alone -/
section
variable {X : Cx} {CX : CXT} {k : Nat} {f : Addr} {fd : FuncData} {ps ks : List Str} {sp : Sp} {E : XK} {x : Str} {p pos : Pos} {kws : List Keyword} {tk : TA} {g : List Value → List Value → List Value} {gV : List V → List V → List V}
def tCallK0 (sp : Sp) (gV : List V → List V → List V) (E : XK) (tk : TA) : TE := fun σ H Q => tk σ H fun zs H2 => sp (gV [] zs) H2 Q E
theorem pe_callK0 (F : FnOk X.prog X.w X.K X.mg X.base CX k f fd ps sp) (hr : Room k X.A) (hg : Gl X x) (hm : X.mg x = some (.ref f)) (hk : PySem.W.keepIn X.K (.ref f) = true) (hb : KBinds X.K fd ps ks g gV) (hx : Passes CX X E)
    (hkw : PK X kws tk) (named : (backToKw pos (keywordEach kws X.env)).all (·.1.isSome) = true := by rfl) (told : (backToKw pos (keywordEach kws X.env)).filterMap (·.1) = ks := by rfl)
    (hdb : (x == ("__debug__" : Str)) = false := by decide) (pl : ((backTo pos (starEach [] X.env)).any (·.1) || (backToKw pos (keywordEach kws X.env)).any (·.1.isNone)) = false := by rfl) :
    PE X (.Call (.Name x p) [] kws pos) (tCallK0 sp gV E tk) := ⟨fun pins s σ H Q J h =>
  wpAny_Call_Name_kw (ld_glob J hg hm (PySem.W.callWith_KW0 (h₀ := X.base) J.ok.mod.kin hk named (thn (hkw.run pos pins s σ H _ J h) fun ws s2 z => by
    obtain ⟨zs, H2, J2, rz, want⟩ := z
    rw [told]
    exact ⟨J2.kIn, run_fnk (us := []) (vs := []) F hr hb hx J2 .nil rz want⟩) pl) hdb)⟩
end

/-! ## repr of data made of lists and tuples -/
def cRepr (K : PySem.W.Frag) : List V → Hp → VK → Prop := fun xs H Q => ∃ a d, xs = [.ref a] ∧ Dp K H (.ref a) d ∧ d.showable = true ∧ d.hasDict = false ∧ d.depth ≤ 40 ∧ d.shown.length ≤ sizeLine ∧ Q (.str d.shown) H
theorem c_repr {X : Cx} (gd : X.A.guards = some []) (hu : X.A.units + 64 < cLine) : CallR X (.builtin "repr") (cRepr X.K) := by
  intro pins s σ H xs us Q J r h
  obtain ⟨a, d, rfl, dp, h1, h2, h3, h4, q⟩ := h
  obtain ⟨u, rfl, ru⟩ := vals1 r
  cases (show u = Value.ref a from ru)
  obtain ⟨as, rd⟩ := Dp.reads J d _ _ dp rfl
  exact repr_of_reads' rd h1 (PyData.noDict_hsm h2) gd (by omega) (fun _ _ e => e) (fun h' u tk hk => ⟨.str d.shown, H, J.kept hk, ⟨_, rfl⟩, q⟩) h4

/-! ## the end of a law whose promise wants that no repr is under way -/
theorem callG {P : Program} {w : World} {K : PySem.W.Frag} {mg mb : Str → Option Value} {CX : CXT} {k : Nat} {fa a : Addr} {fd : FuncData} {x : Str} {sp : Sp} {s : Shared} {us : List Value} {ns : List Int}
    (KX : K.In s.heap) (gl : s.heap.Ns mainGlobals mg) (bl : s.heap.Ns builtinsNs mb) (bb : ∀ x : Str, x ≠ "__name__" → mb x = bootBuiltins x) (nl : s.heap.NoLimit) (ng : s.gens = #[])
    (at_ : s.heap.get? a = some { cls := .type "list", data := .seq us.toArray }) (hi : IntsAre us ns) (hl : ns.length ≤ sizeLine) (hr : Room k callerA)
    (F : ∀ base : Heap, K.In base → base.Ns mainGlobals mg → FnG P w K mg base CX k fa fd [x] sp) (bnd : ∀ (s : Shared) (u : Value), BindsTo s fd ⟨[u], []⟩ [(x, u)])
    (want : ∀ H : Hp, Only H → SqL K H a (ns.map V.int) → sp [.ref a] H (fun v _ => v = .bl true) fun _ _ _ => False) (noX : ∀ H e s', CX [] H s (fun _ _ _ => False) e s' → False) :
    codeAny (model P w) callerA (.call (.ref fa) ⟨[.ref a], []⟩) (fun r s' => r = .ok (.ret (.bool true)) ∧ OldK s.heap s'.heap ∧ s'.os = s.os ∧ AllBare s'.gens) s := by
  have rel : Vals (ns.map V.int) us := vals_ints hi
  have many : (ns.map V.int).length = us.length := rel.length
  -- which objects are told: none, or the script alone
  obtain ⟨H, only, seq, ok, just, out⟩ : ∃ H : Hp, Only H ∧ SqL K H a (ns.map V.int) ∧ HOk P w H s.heap ∧ (∀ b, (H b).isSome = true → b = a) ∧ ((H a).isSome = true → K.lookup a = none) := by
    cases there : K.lookup a with
    | some o =>
      have e := KX a o there
      rw [at_] at e
      cases e
      refine ⟨fun _ => none, fun _ => .inl rfl, .inr ⟨_, us.toArray, _, there, rfl, rfl, rfl, ?_, by simpa using rel⟩, ?_, ?_, ?_⟩
      · simp only [List.size_toArray]
        rw [List.length_map] at many
        omega
      · intro b u e
        cases (show (none : Option HO) = some u from e)
      · intro b e
        cases (show false = true from e)
      · intro e
        cases (show false = true from e)
    | none =>
      refine ⟨fun b => if b = a then some (.frz { cls := .type "list", data := .seq us.toArray } (.lst (ns.map V.int))) else none, fun b => ?_, .inl (.inr ⟨_, if_pos rfl⟩), fun b u e => ?_, fun b e => ?_, fun _ => rfl⟩
      · by_cases c : b = a
        · exact .inr ⟨_, _, if_pos c⟩
        · exact .inl (if_neg c)
      · by_cases c : b = a
        · cases c
          have e' := (if_pos rfl).symm.trans e
          cases e'
          exact ⟨at_, (by rw [List.length_map]; exact hl), us, _, rel, at_⟩
        · have e' := (if_neg c).symm.trans e
          cases e'
      · by_cases c : b = a
        · exact c
        · simp [c] at e
  have hid : ∀ {b : Addr} {o : Obj}, s.heap.get? b = some o → H b = none → (hidT s.heap H).get? b = some o := fun e n => hidT_get e n
  have noneOf : ∀ {b : Addr} {o : Obj} {es : Array DictEntry} {ep : Nat}, s.heap.get? b = some o → o.data = .dict es ep → H b = none := fun {b o es ep} e d => by
    cases c : H b with
    | none => rfl
    | some u =>
      have z := just b (by rw [c]; rfl)
      rw [z, at_] at e
      cases e
      exact nomatch (show Data.seq us.toArray _ = Data.dict es ep from d)
  have dictK : ∀ {b : Addr} {m : Str → Option Value}, s.heap.Ns b m → (hidT s.heap H).Ns b m := fun {b m} z => by
    obtain ⟨o, es, ep, e, d, r⟩ := z
    exact ⟨o, es, ep, hid e (noneOf e d), d, r⟩
  have KB : K.In (hidT s.heap H) := fun b o e => hid (KX b o e) (by
    cases c : H b with
    | none => rfl
    | some u =>
      have c' : (H b).isSome = true := by rw [c]; rfl
      have z := just b c'
      cases z
      rw [out c'] at e
      cases e)
  have md : Mod K mg (hidT s.heap H) := by
    obtain ⟨mc, n1, n2⟩ := nl
    exact ⟨KB, dictK gl, ⟨mb, dictK bl, bb⟩, ⟨mc, dictK n1, n2⟩⟩
  have z0 : Env0 P w K mg (hidT s.heap H) callerA [] s H := ⟨rfl, md, fun b o e => of_hidT e, by rw [hidT_size]; exact Nat.le_refl _, True.intro, (fun b z => absurd (show b ∈ ([] : List Addr) from z) (by simp)), ok, .of_eq ng⟩
  refine codeAny_mono ((F _ KB (dictK gl)).go callerA [] s H ⟨[.ref a], []⟩ [.ref a] [.ref a] _ _ hr rfl z0 (bnd s (.ref a)) (.cons rfl .nil) (want H only seq)) fun r s' got => ?_
  cases r with
  | error e => exact (noX H e s' got).elim
  | ok fl => cases fl with
    | next => cases got
    | brk => cases got
    | cont => cases got
    | ret u =>
      obtain ⟨v, H', same, bare, un, ok', rv, q⟩ := got
      cases (show v = .bl true from q)
      cases (show u = Value.bool true from rv)
      refine ⟨rfl, OldK.of_keep fun b o e => ?_, same, bare⟩
      rcases only b with c | ⟨ob, xs, c⟩
      · exact un.keep b o e c (fun z => absurd (show b ∈ ([] : List Addr) from z) (by simp)) (by simp)
      · have e1 := (ok b _ c).1
        have e2 := (ok' b _ (un.frzs b ob _ c)).1
        rw [e1] at e
        cases e
        exact e2

/-- the goal that the head leaves, from such a promise -/
theorem walkG {l : PySem.W.OpenLaw} {n k : Nat} {q : Program} {loose : List Str} {XP : (Str → Option Value) → Heap → Prop} {YP : World → Heap → Prop} {d : DefRec} {K : Params → PySem.W.Frag} {CX : World → CXT} {sp : World → Sp} {x : Str}
    (hn : l.most = some n) (n2 : n ≤ sizeLine) (hdf : d.params.defaults = []) (hr : Room k callerA) (hY : ∀ (w : World) (h : Heap), YP w h → (K w.params).In h)
    (F : ∀ (w : World) (mg : Str → Option Value) (fa : Addr) (h : Heap), (K w.params).In h → h.Ns mainGlobals mg → mg d.name = some (.ref fa) →
      ∃ fd : FuncData, (∀ (s : Shared) (u : Value), BindsTo s fd ⟨[u], []⟩ [(x, u)]) ∧ ∀ base : Heap, (K w.params).In base → base.Ns mainGlobals mg → FnG l.prog w (K w.params) mg base (CX w) k fa fd [x] (sp w))
    (want : ∀ (w : World) (H : Hp) (a : Addr) (ns : List Int), ns.length ≤ n → Only H → SqL (K w.params) H a (ns.map V.int) → sp w [.ref a] H (fun v _ => v = .bl true) fun _ _ _ => False)
    (noX : ∀ (w : World) (H : Hp) (s : Shared) (e : Value) (s' : Shared), CX w [] H s (fun _ _ _ => False) e s' → False) : PySem.W.WalkO q loose XP YP l.row.toRowW d [] (fun f vs => PySem.call f vs) :=
  Att.attach_call hn hdf fun w _ s1 mg mb fa _ _ _ _ a us ns G Y _ _ _ hmg at_ hin many ng => by
    obtain ⟨fd, bnd, ok⟩ := F w mg fa _ (hY w _ Y) G.T.g hmg
    exact callG (hY w _ Y) G.T.g G.T.b G.T.builtins G.T.nolimit ng at_ hin (Nat.le_trans many n2) hr ok bnd (fun H o c => want w H a ns many o c) fun H e s' => noX w H s1 e s'
end NK

namespace NK
open PySem PySem.Spec L2

/-! ## one step of a reading, from outside -/
section
variable {K : PySem.W.Frag} {σ : L2.St} {H : Hp} {Q : VK} {QT : Bool → Hp → Prop} {QA : List V → Hp → Prop} {te ta tb tc : TE} {t u : TT} {tr : TA} {v x y : V} {r r' : R2} {D : Ends} {s1 s2 : TS} {g : TG} {i j : Int} {b : Bool}
theorem w_var {n : Nat} (h : σ[n]? = some (some v)) (q : Q v H) : tVar n σ H Q := ⟨v, h, q⟩
theorem w_c (q : Q v H) : tC v σ H Q := q
theorem w_op (q : ta σ H fun x H1 => tb σ H1 fun y H2 => r x y H2 Q) : tOp r ta tb σ H Q := q
theorem w_un {f : V → Hp → VK → Prop} (q : ta σ H fun x H1 => f x H1 Q) : tUn f ta σ H Q := q
theorem w_add (q : Q (.int (i + j)) H) : rAdd (.int i) (.int j) H Q := ⟨i, j, rfl, rfl, q⟩
theorem w_sub (q : Q (.int (i - j)) H) : rSub (.int i) (.int j) H Q := ⟨i, j, rfl, rfl, q⟩
theorem w_mul (h : CMul i j) (q : Q (.int (i * j)) H) : rMul (.int i) (.int j) H Q := ⟨i, j, rfl, rfl, h, q⟩
theorem w_pow (h : CPow i j) (q : Q (.int (i ^ j.toNat)) H) : rPow (.int i) (.int j) H Q := ⟨i, j, rfl, rfl, h, q⟩
theorem w_mod (h : 0 < j) (q : Q (.int (i % j)) H) : rMod (.int i) (.int j) H Q := ⟨i, j, rfl, rfl, h, q⟩
theorem w_div (h : CDivW i j) (q : Q (.int (i / j)) H) : rDiv (.int i) (.int j) H Q := ⟨i, j, rfl, rfl, h, q⟩
theorem w_neg (q : Q (.int (-i)) H) : rNeg (.int i) H Q := ⟨i, rfl, q⟩
theorem w_lt (q : Q (.bl (decide (i < j))) H) : rLt (.int i) (.int j) H Q := ⟨i, j, rfl, rfl, q⟩
theorem w_le (q : Q (.bl (decide (i ≤ j))) H) : rLe (.int i) (.int j) H Q := ⟨i, j, rfl, rfl, q⟩
theorem w_gt (q : Q (.bl (decide (j < i))) H) : rGt (.int i) (.int j) H Q := ⟨i, j, rfl, rfl, q⟩
theorem w_ge (q : Q (.bl (decide (j ≤ i))) H) : rGe (.int i) (.int j) H Q := ⟨i, j, rfl, rfl, q⟩
theorem w_eqI (q : Q (.bl (decide (i = j))) H) : rEq (.int i) (.int j) H Q := ⟨rfl, by rw [dec_int, ← Bool.beq_eq_decide_eq] at *; exact q⟩
theorem w_neI (q : Q (.bl (!decide (i = j))) H) : rNe (.int i) (.int j) H Q := ⟨rfl, by rw [dec_int, ← Bool.beq_eq_decide_eq] at *; exact q⟩
theorem w_eqB {c d : Bool} (q : Q (.bl (c == d)) H) : rEq (.bl c) (.bl d) H Q := ⟨rfl, by rw [dec_bl]; exact q⟩
theorem w_neB {c d : Bool} (q : Q (.bl (!(c == d))) H) : rNe (.bl c) (.bl d) H Q := ⟨rfl, by rw [dec_bl]; exact q⟩
theorem w_eqS {c d : Str} (q : Q (.bl (c == d)) H) : rEq (.str c) (.str d) H Q := ⟨rfl, by rw [dec_str]; exact q⟩
theorem w_neS {c d : Str} (q : Q (.bl (!(c == d))) H) : rNe (.str c) (.str d) H Q := ⟨rfl, by rw [dec_str]; exact q⟩
theorem w_isNo (q : Q (.bl (decide (x = .non))) H) : rIsNo x .non H Q := ⟨rfl, q⟩
theorem w_notNo (q : Q (.bl (!decide (x = .non))) H) : rNotNo x .non H Q := ⟨rfl, q⟩
theorem w_test (q : te σ H fun x H' => ∃ k, x = .bl k ∧ QT k H') : tTest te σ H QT := q
theorem w_tB (q : te σ H fun x H' => ∃ k, x = .bl k ∧ QT k H') : tB te σ H QT := q
theorem w_bl (q : QT b H) : ∃ k, V.bl b = .bl k ∧ QT k H := ⟨b, rfl, q⟩
theorem w_not (q : t σ H fun c H1 => QT (!c) H1) : tNot t σ H QT := q
theorem w_and (q : t σ H fun c H1 => if c = true then u σ H1 QT else QT false H1) : tAnd t u σ H QT := q
theorem w_or (q : t σ H fun c H1 => if c = true then QT true H1 else u σ H1 QT) : tOr t u σ H QT := q
theorem w_andV (q : ta σ H fun x H1 => ∃ c, x = .bl c ∧ if c = true then tb σ H1 Q else Q (.bl false) H1) : tAndV ta tb σ H Q := q
theorem w_orV (q : ta σ H fun x H1 => ∃ c, x = .bl c ∧ if c = true then Q (.bl true) H1 else tb σ H1 Q) : tOrV ta tb σ H Q := q
theorem w_notV (q : ta σ H fun x H1 => ∃ c, x = .bl c ∧ Q (.bl (!c)) H1) : tNotV ta σ H Q := q
theorem w_if (q : t σ H fun c H1 => if c = true then ta σ H1 Q else tb σ H1 Q) : tIf t ta tb σ H Q := q
theorem w_nil (q : QA [] H) : tNil σ H QA := q
theorem w_cons (q : ta σ H fun x H1 => tr σ H1 fun xs H2 => QA (x :: xs) H2) : tCons ta tr σ H QA := q
theorem w_cb {f : List V → Hp → VK → Prop} (q : tr σ H fun vs H1 => f vs H1 Q) : tCB f tr σ H Q := q
theorem w_call {sp : Sp} {E : XK} (q : tr σ H fun vs H1 => sp vs H1 Q E) : tCall sp [] E tr σ H Q := by
  have e : ∀ vs : List V, vs ++ [] = vs := fun vs => List.append_nil vs
  unfold tCall
  simp only [e]
  exact q
theorem w_callK {sp : Sp} {E : XK} {f : List V → List V → List V} {tk : TA} (q : tr σ H fun vs H1 => tk σ H1 fun zs H2 => sp (f vs zs) H2 Q E) : tCallK sp f E tr tk σ H Q := q
theorem w_callK0 {sp : Sp} {E : XK} {f : List V → List V → List V} {tk : TA} (q : tk σ H fun zs H2 => sp (f [] zs) H2 Q E) : tCallK0 sp f E tk σ H Q := q
theorem w_tup (q : tr σ H fun xs H1 => xs.length ≤ sizeLine ∧ ∀ p, H1 p = none → Q (.ref p) (upd H1 p (.tup xs))) : tTup tr σ H Q := q
theorem w_lst (q : tr σ H fun xs H1 => xs.length ≤ sizeLine ∧ ∀ p, H1 p = none → Q (.ref p) (upd H1 p (.lst xs))) : tLst tr σ H Q := q
theorem w_new {o : HO} (q : ∀ p H1, H p = none → Ext H H1 → H1 p = some o → (∀ b, b ≠ p → H1 b = H b) → Q (.ref p) H1) : ∀ p, H p = none → Q (.ref p) (upd H p o) := fun p hp => q p _ hp (.put hp) upd_same fun _ h => upd_ne h
theorem w_newS {o : HO} {n : Nat} (h : n ≤ 1000) (q : ∀ p H1, H p = none → Ext H H1 → H1 p = some o → (∀ b, b ≠ p → H1 b = H b) → Q (.ref p) H1) : n ≤ sizeLine ∧ ∀ p, H p = none → Q (.ref p) (upd H p o) := ⟨Nat.le_trans h (by decide), w_new q⟩
theorem w_len {p : Addr} {xs : List V} (h : SqL K H p xs ∨ SqT K H p xs) (q : Q (.int xs.length) H) : cLen K [.ref p] H Q := ⟨p, xs, rfl, h, q⟩
theorem w_abs (q : Q (.int (if i < 0 then -i else i)) H) : cAbs [.int i] H Q := ⟨i, rfl, q⟩
theorem w_max (q : Q (.int (if j > i then j else i)) H) : cMax [.int i, .int j] H Q := ⟨i, j, rfl, q⟩
theorem w_int (q : Q (.int i) H) : cInt [.int i] H Q := .inl ⟨i, rfl, q⟩
theorem w_intB (q : Q (.int (if b then 1 else 0)) H) : cInt [.bl b] H Q := .inr ⟨b, rfl, q⟩
theorem w_tupleL {p : Addr} {xs : List V} (h : SqL K H p xs) (q : ∀ l, H l = none → Q (.ref l) (upd H l (.tup xs))) : cTuple K [.ref p] H Q := ⟨p, xs, rfl, .inl ⟨h, q⟩⟩
theorem w_tupleT {p : Addr} {xs : List V} (h : SqT K H p xs) (q : Q (.ref p) H) : cTuple K [.ref p] H Q := ⟨p, xs, rfl, .inr ⟨h, q⟩⟩
theorem w_ixL {p : Addr} {xs : List V} (h : SqL K H p xs) (a : atI xs i = some v) (q : Q v H) : rIx K (.ref p) (.int i) H Q := .inl ⟨p, xs, i, v, rfl, rfl, h, a, q⟩
theorem w_ixT {p : Addr} {xs : List V} (h : SqT K H p xs) (a : atI xs i = some v) (q : Q v H) : rIx K (.ref p) (.int i) H Q := .inr (.inl ⟨p, xs, i, v, rfl, rfl, h, a, q⟩)
theorem w_ix {p : Addr} {xs : List V} (h : SqL K H p xs ∨ SqT K H p xs) (a : atI xs i = some v) (q : Q v H) : rIx K (.ref p) (.int i) H Q := h.elim (fun h => w_ixL h a q) fun h => w_ixT h a q
theorem w_all {p : Addr} {bs : List Bool} (h : SqL K H p (bs.map V.bl)) (q : Q (.bl (bs.all id)) H) : rAll K [.ref p] H Q := ⟨p, bs, rfl, h, q⟩
theorem w_repr {p : Addr} {d : PyData} (h : Dp K H (.ref p) d) (h1 : d.showable = true) (h2 : d.hasDict = false) (h3 : d.depth ≤ 40) (h4 : d.shown.length ≤ sizeLine) (q : Q (.str d.shown) H) : cRepr K [.ref p] H Q := ⟨p, d, rfl, h, h1, h2, h3, h4, q⟩
theorem w_eqD {d e : PyData} (h1 : Dp K H x d) (h2 : Dp K H y e) (h3 : SeqAt.shaped d = true) (h4 : SeqAt.shaped e = true) (q : Q (.bl (PyData.eqv d e)) H) : rEqD K x y H Q := ⟨d, e, h1, h2, h3, h4, q⟩
theorem w_neD {d e : PyData} (h1 : Dp K H x d) (h2 : Dp K H y e) (h3 : SeqAt.shaped d = true) (h4 : SeqAt.shaped e = true) (q : Q (.bl (!PyData.eqv d e)) H) : rNeD K x y H Q := ⟨d, e, h1, h2, h3, h4, q⟩
theorem w_cat {l p : Addr} {xs ys : List V} (h1 : H l = some (.lst xs)) (h2 : H p = some (.lst ys)) (hs : xs.length + ys.length ≤ 1000) (q : ∀ p, H p = none → Q (.ref p) (upd H p (.lst (xs ++ ys)))) : rCat (.ref l) (.ref p) H Q := ⟨l, p, xs, ys, rfl, rfl, h1, h2, Nat.le_trans hs (by decide), q⟩
/-! statements -/
theorem w_seq (q : s1 { D with nx := s2 D } σ H) : tSeq s1 s2 D σ H := q
theorem w_nx (q : D.nx σ H) : tNext D σ H := q
theorem w_ifS (q : t σ H fun b H1 => if b = true then s1 D σ H1 else s2 D σ H1) : tIfS t s1 s2 D σ H := q
theorem w_ret (q : te σ H D.rt) : tRet te D σ H := q
theorem w_retN (q : D.rt .non H) : tRetN D σ H := q
theorem w_asg (q : te σ H fun x H1 => g x σ H1 D.nx) : tAsg te g D σ H := q
theorem w_gName {n : Nat} {N : L2.St → Hp → Prop} (q : N (σ.set n (some v)) H) : gName n v σ H N := q
theorem w_drop (q : te σ H fun _ H1 => D.nx σ H1) : tDrop te D σ H := q
theorem w_par {n m : Nat} (q : tr σ H fun vs H1 => ∃ v w, vs = [v, w] ∧ D.nx ((σ.set n (some v)).set m (some w)) H1) : tPar n m tr D σ H := q
theorem w_par2 {n m : Nat} {w : V} {N : L2.St → Hp → Prop} (q : N ((σ.set n (some v)).set m (some w)) H) : ∃ v' w', [v, w] = [v', w'] ∧ N ((σ.set n (some v')).set m (some w')) H := ⟨v, w, rfl, q⟩
theorem w_gSub {to ti : TE} {ts : V → V → V → Hp → (Hp → Prop) → Prop} {N : L2.St → Hp → Prop} (q : to σ H fun o H1 => ti σ H1 fun i H2 => ts o i v H2 fun H3 => N σ H3) : gSub to ti ts v σ H N := q
theorem w_setL {p : Addr} {xs : List V} {n : Nat} {N : Hp → Prop} (h : H p = some (.lst xs)) (hj : ixN xs.length i = some n) (q : N (upd H p (.lst (xs.set n v)))) : rSetL (.ref p) (.int i) v H N := ⟨p, xs, i, n, rfl, rfl, h, hj, q⟩
theorem w_gTup {n : Nat} {tg : TGs} {p : Addr} {xs : List V} {N : L2.St → Hp → Prop} (h : SqT K H p xs) (hl : xs.length = n) (q : tg xs σ H N) : gTup K n tg (.ref p) σ H N := ⟨p, xs, rfl, h, hl, q⟩
theorem w_gCons {tg : TGs} {xs : List V} {N : L2.St → Hp → Prop} (q : g x σ H fun σ' H' => tg xs σ' H' N) : gCons g tg (x :: xs) σ H N := ⟨x, xs, rfl, q⟩
theorem w_gNil {N : L2.St → Hp → Prop} (q : N σ H) : gNil [] σ H N := ⟨rfl, q⟩
theorem w_sl {rs : V → Option Int → Option Int → Hp → VK → Prop} {tl th : TO} (q : te σ H fun x H1 => tl σ H1 fun lo H2 => th σ H2 fun hi H3 => rs x lo hi H3 Q) : tSl rs te tl th σ H Q := q
theorem w_noPart {QO : Option Int → Hp → Prop} (q : QO none H) : tNoPart σ H QO := q
theorem w_part {QO : Option Int → Hp → Prop} (q : te σ H fun x H1 => ∃ i, x = .int i ∧ QO (some i) H1) : tPart te σ H QO := q
theorem w_partI {QO : Option Int → Hp → Prop} (q : QO (some i) H) : ∃ j, V.int i = .int j ∧ QO (some j) H := ⟨i, rfl, q⟩
theorem w_slL {p : Addr} {xs : List V} {lo hi : Option Int} (h : SqL K H p xs) (q : ∀ p, H p = none → Q (.ref p) (upd H p (.lst (cutV xs lo hi)))) : rSlL K (.ref p) lo hi H Q := ⟨p, xs, rfl, h, q⟩
theorem w_yes (q : QT true H) : tYes σ H QT := q
/-- which way -/
theorem w_t {P R : Prop} (q : P) : if true = true then P else R := by rw [if_pos rfl]; exact q
theorem w_f {P R : Prop} (q : R) : if false = true then P else R := by rw [if_neg Bool.false_ne_true]; exact q
theorem w_both {P R : Prop} (h1 : b = true → P) (h2 : b = false → R) : if b = true then P else R := by
  cases b with
  | true => exact w_t (h1 rfl)
  | false => exact w_f (h2 rfl)
/-- an if's two ways, joined in one value -/
theorem w_andB {c d : Bool} (q : Q (.bl (c && d)) H) (h : ∀ (R : VK), R (.bl d) H → tb σ H R) : ∃ k, V.bl c = .bl k ∧ if k = true then tb σ H Q else Q (.bl false) H := ⟨c, rfl, w_both (fun e => by subst e; exact h Q q) fun e => by subst e; exact q⟩
end

/-! ## what is told of an address, some steps later -/
theorem f_l {K : PySem.W.Frag} {H H' : Hp} {a : Addr} {xs : List V} (h : SqL K H a xs) (x : Ext H H') : SqL K H' a xs := x.sqL h
end NK
local macro_rules | `(tactic| walk_at "nk1") => `(tactic| (first
  | with_reducible refine NK.w_var rfl ?_
  | with_reducible refine NK.w_c ?_
  | with_reducible refine NK.w_op ?_
  | with_reducible refine NK.w_un ?_
  | with_reducible refine NK.w_cb ?_
  | with_reducible refine NK.w_cons ?_
  | with_reducible refine NK.w_nil ?_))

namespace NK
open PySem PySem.Spec L2

/-! ## any value -/
def isIB : V → Bool
  | .int _ => true | .bl _ => true | _ => false
def isB : V → Bool
  | .bl _ => true | _ => false
def isI : V → Bool
  | .int _ => true | _ => false
theorem isI_eq (v : V) : (isIB v && !isB v) = isI v := by cases v <;> rfl
/-- any value; some xs: a list or a tuple of these -/
inductive AnyV (K : PySem.W.Frag) (H : Hp) : V → Option (List V) → Prop where
  | lst {a : Addr} {xs : List V} : SqL K H a xs → AnyV K H (.ref a) (some xs)
  | tup {a : Addr} {xs : List V} : SqT K H a xs → AnyV K H (.ref a) (some xs)
  | oth {v : V} {t : Value} : TyX K H v t → PySem.W.kitOne K t (.type "int") = some (isIB v) → PySem.W.kitOne K t (.type "bool") = some (isB v) → PySem.W.kitAny K t [.type "list", .type "tuple"] = some false → AnyV K H v none
theorem k_ll {K : PySem.W.Frag} : PySem.W.kitAny K (.type "list") [.type "list", .type "tuple"] = some true := kitAny_cons (b := true) (kit_ty (by decide +kernel)) (fun z => nomatch z) fun _ => rfl
theorem k_tt {K : PySem.W.Frag} : PySem.W.kitAny K (.type "tuple") [.type "list", .type "tuple"] = some true := kitAny_cons (b := false) (kit_ty (by decide +kernel)) (fun _ => kitAny_cons (b := true) (kit_ty (by decide +kernel)) (fun z => nomatch z) fun _ => rfl) fun z => nomatch z
theorem k_no {K : PySem.W.Frag} {t : String} (h1 : kitB t "list" = some false) (h2 : kitB t "tuple" = some false) : PySem.W.kitAny K (.type t) [.type "list", .type "tuple"] = some false :=
  kitAny_cons (b := false) (kit_ty h1) (fun _ => kitAny_cons (b := false) (kit_ty h2) (fun _ => kitAny_nil) fun z => nomatch z) fun z => nomatch z
section
variable {K : PySem.W.Frag} {H H' : Hp} {v : V} {s : Option (List V)} {a : Addr} {xs : List V}
theorem ty_L (h : SqL K H a xs) : TyX K H (.ref a) (.type "list") := by
  rcases h with (h | ⟨o, h⟩) | ⟨o, its, n, k, c, _⟩
  · exact .base (.lst h)
  · exact .base (.frz h)
  · exact .kList k c
theorem ty_T (h : SqT K H a xs) : TyX K H (.ref a) (.type "tuple") := by
  rcases h with (h | ⟨o, h⟩) | ⟨o, its, n, k, c, _⟩
  · exact .base (.tup h)
  · exact .fTuple h
  · exact .kTuple k c
theorem AnyV.int (i : Int) : AnyV K H (.int i) none := .oth (.base (.int i)) (kit_ty (show kitB "int" "int" = some true by decide +kernel)) (kit_ty (show kitB "int" "bool" = some false by decide +kernel)) (k_no (by decide +kernel) (by decide +kernel))
theorem AnyV.bl (b : Bool) : AnyV K H (.bl b) none := .oth (.base (.bl b)) (kit_ty (show kitB "bool" "int" = some true by decide +kernel)) (kit_ty (show kitB "bool" "bool" = some true by decide +kernel)) (k_no (by decide +kernel) (by decide +kernel))
theorem AnyV.non : AnyV K H .non none := .oth (.base .non) (kit_ty (by decide +kernel)) (kit_ty (by decide +kernel)) (k_no (by decide +kernel) (by decide +kernel))
theorem AnyV.str (x : Str) : AnyV K H (.str x) none := .oth (.base (.str x)) (kit_ty (show kitB "str" "int" = some false by decide +kernel)) (kit_ty (show kitB "str" "bool" = some false by decide +kernel)) (k_no (by decide +kernel) (by decide +kernel))
theorem AnyV.dict {kvs : List (Key × V)} (h : H a = some (.dK kvs)) : AnyV K H (.ref a) none := .oth (.base (.dK h)) (kit_ty (show kitB "dict" "int" = some false by decide +kernel)) (kit_ty (show kitB "dict" "bool" = some false by decide +kernel)) (k_no (by decide +kernel) (by decide +kernel))
theorem ty_ext {t : Value} (x : Ext H H') (h : TyX K H v t) : TyX K H' v t := by
  cases h with
  | base b => cases b with
    | non => exact .base .non
    | bl b => exact .base (.bl b)
    | int i => exact .base (.int i)
    | str y => exact .base (.str y)
    | flt y => exact .base (.flt y)
    | lst e => exact .base (.lst (x _ _ e))
    | frz e => exact .base (.frz (x _ _ e))
    | tup e => exact .base (.tup (x _ _ e))
    | dK e => exact .base (.dK (x _ _ e))
    | dT e => exact .base (.dT (x _ _ e))
    | ins e c h1 h2 h3 h4 => exact .base (.ins (x _ _ e) c h1 h2 h3 h4)
  | byt b => exact .byt b
  | set e => exact .set (x _ _ e)
  | kList k c => exact .kList k c
  | kTuple k c => exact .kTuple k c
  | kDict k c => exact .kDict k c
  | fTuple e => exact .fTuple (x _ _ e)
  | fDict e => exact .fDict (x _ _ e)
theorem AnyV.ext (x : Ext H H') (h : AnyV K H v s) : AnyV K H' v s := by
  cases h with
  | lst h => exact .lst (x.sqL h)
  | tup h => exact .tup (x.sqT h)
  | oth t h1 h2 h3 => exact .oth (ty_ext x t) h1 h2 h3
/-- all items are any values -/
def AnyVs (K : PySem.W.Frag) (H : Hp) (xs : List V) : Prop := ∀ x ∈ xs, ∃ s, AnyV K H x s
theorem AnyVs.ext (x : Ext H H') (h : AnyVs K H xs) : AnyVs K H' xs := fun y m => (h y m).elim fun s q => ⟨s, q.ext x⟩
/-- any value whose items are any values -/
def AnyD (K : PySem.W.Frag) (H : Hp) (v : V) (s : Option (List V)) : Prop := AnyV K H v s ∧ ∀ xs, s = some xs → AnyVs K H xs
theorem AnyD.ext (x : Ext H H') (h : AnyD K H v s) : AnyD K H' v s := ⟨h.1.ext x, fun xs e => (h.2 xs e).ext x⟩
theorem AnyD.flat (h : AnyV K H v none) : AnyD K H v none := ⟨h, fun _ e => nomatch e⟩

/-! ### isinstance of it -/
variable {Q : VK}
theorem w_isi {t : Value} {n : String} {b : Bool} (h : TyX K H v t) (e : PySem.W.kitOne K t (.type n) = some b) (q : Q (.bl b) H) : rIsi K [v, .ty n] H Q := ⟨v, .ty n, t, .type n, b, rfl, .ty n, h, e, q⟩
theorem w_isInt (h : AnyV K H v s) (q : Q (.bl (isIB v)) H) : rIsi K [v, .ty "int"] H Q := by
  cases h with
  | lst h => exact w_isi (b := false) (ty_L h) (kit_ty (by decide +kernel)) q
  | tup h => exact w_isi (b := false) (ty_T h) (kit_ty (by decide +kernel)) q
  | oth t h1 h2 h3 => exact w_isi t h1 q
theorem w_isBool (h : AnyV K H v s) (q : Q (.bl (isB v)) H) : rIsi K [v, .ty "bool"] H Q := by
  cases h with
  | lst h => exact w_isi (b := false) (ty_L h) (kit_ty (by decide +kernel)) q
  | tup h => exact w_isi (b := false) (ty_T h) (kit_ty (by decide +kernel)) q
  | oth t h1 h2 h3 => exact w_isi t h2 q
theorem two_ty : Paired ClsV [V.ty "list", V.ty "tuple"] [Value.type "list", Value.type "tuple"] := .cons (.ty _) (.cons (.ty _) .nil)
theorem w_isSeq {p : Addr} (h : AnyV K H v s) (hp : H p = some (.tup [.ty "list", .ty "tuple"])) (q : Q (.bl s.isSome) H) : rIsiT K [v, .ref p] H Q := by
  cases h with
  | lst h => exact ⟨_, p, _, _, _, true, rfl, hp, two_ty, ty_L h, k_ll, q⟩
  | tup h => exact ⟨_, p, _, _, _, true, rfl, hp, two_ty, ty_T h, k_tt, q⟩
  | oth t h1 h2 h3 => exact ⟨_, p, _, _, _, false, rfl, hp, two_ty, t, h3, q⟩
theorem AnyV.sq (h : AnyV K H v (some xs)) : ∃ a, v = .ref a ∧ (SqL K H a xs ∨ SqT K H a xs) := by
  cases h with
  | lst h => exact ⟨_, rfl, .inl h⟩
  | tup h => exact ⟨_, rfl, .inr h⟩

/-! ### a comprehension whose items are told one by one -/
variable {te : TE} {tt : TT} {g : TG} {tl : TE} {vs : List Nat} {σ : L2.St}
/-- the walk, once what is walked stands -/
def LcB (K : PySem.W.Frag) (g : TG) (tt : TT) (te : TE) (vs : List Nat) (σ : L2.St) (Q : VK) (x : V) (H : Hp) : Prop := tLc (iSeq K fun _ H' R => R x H') g tt te vs σ H Q
theorem w_lcS (q : tl σ H (LcB K g tt te vs σ Q)) : tLc (iSeq K tl) g tt te vs σ H Q := q
/-- over a list or a tuple, each item giving f of it; nothing else changes -/
theorem w_lc {a : Addr} (f : V → V) (hx : SqL K H a xs ∨ SqT K H a xs) (small : xs.length ≤ 100000) (bind : ∀ (x : V) H1 (N : L2.St → Hp → Prop), N ((wipe σ vs).set (vs.headD 0) (some x)) H1 → g x (wipe σ vs) H1 N)
    (w1 : ∀ x, wipe ((wipe σ vs).set (vs.headD 0) (some x)) vs = wipe σ vs)
    (el : ∀ x ∈ xs, ∀ H1, Ext H H1 → ∀ R : VK, (∀ H2, Ext H1 H2 → R (f x) H2) → te ((wipe σ vs).set (vs.headD 0) (some x)) H1 R)
    (q : ∀ D H', H D = none → Ext H H' → H' D = some (.lst (xs.map f)) → Q (.ref D) H') : LcB K g tYes te vs σ Q (.ref a) H := by
  have line : ∀ i, i < xs.length → i < sizeLine := fun i hi => Nat.lt_of_lt_of_le hi (Nat.le_trans small (by decide))
  -- one turn
  have turn : ∀ (D : Addr) (i : Nat) (x : V) (H1 : Hp) (N : Hp → Prop), H D = none → xs[i]? = some x → Ext H H1 → H1 D = some (.lst ((xs.take i).map f)) → (∀ H2, Ext H H2 → H2 D = some (.lst ((xs.take (i + 1)).map f)) → N H2) →
      g x (wipe σ vs) H1 fun σ2 H2 => wipe σ2 vs = wipe σ vs ∧ tYes σ2 H2 fun b H3 => if b = true then te σ2 H3 fun y H4 => ∃ acc, H4 D = some (.lst acc) ∧ acc.length < sizeLine ∧ N (upd H4 D (.lst (acc ++ [y]))) else N H3 := by
    intro D i x H1 N hD hi e1 h1 n
    refine bind _ _ _ ⟨w1 x, ?_⟩
    refine w_yes (w_t (el x (List.mem_of_getElem? hi) H1 e1 _ fun H2 e2 => ⟨_, e2 _ _ h1, ?_, n _ ?_ ?_⟩))
    · rw [List.length_map]
      have := (List.getElem?_eq_some_iff.mp hi).1
      have : (xs.take i).length ≤ i := by rw [List.length_take]; omega
      exact Nat.lt_of_le_of_lt this (line i (by omega))
    · intro b o e
      rw [upd_ne (ne_of_none e hD)]
      exact e2 _ _ (e1 _ _ e)
    · rw [upd_same, List.take_add_one, hi, List.map_append]
      rfl
  refine ⟨a, rfl, ?_⟩
  rcases hx with hx | hx
  · refine .inl ⟨⟨xs, hx⟩, fun D hD => ?_⟩
    refine lc_list (xs := xs) (fun i H1 => Ext H H1 ∧ H1 D = some (.lst ((xs.take i).map f))) ⟨.put hD, upd_same⟩ (fun i H1 _ p => p.1.sqL hx) (fun i x H1 hi p => ?_) fun H1 p => ?_
    · exact turn D i x H1 _ hD hi p.1 p.2 fun H2 e h => ⟨e, h⟩
    · exact q D H1 hD p.1 (by rw [p.2, List.take_length])
  · refine .inr ⟨⟨xs, hx⟩, fun D hD => ?_⟩
    refine lc_tup (xs := xs) (fun i H1 => Ext H H1 ∧ H1 D = some (.lst ((xs.take i).map f))) ⟨.put hD, upd_same⟩ (fun i H1 _ p => p.1.sqT hx) (fun i x H1 hi p => ?_) fun H1 p => ?_
    · exact turn D i x H1 _ hD hi p.1 p.2 fun H2 e h => ⟨e, h⟩
    · exact q D H1 hD p.1 (by rw [p.2, List.take_length])
end
end NK

namespace NK
open PySem PySem.Spec L2

/-! ## how keywords bind -/
theorem fun_kb {K : PySem.W.Frag} {x ql : Str} {st : Stmt} {f : Addr} {fd : FuncData} {ps ks : List Str} {g : List Value → List Value → List Value} {gV : List V → List V → List V} (F : Fun K x ql st f fd)
    (to : ∀ (kV doc pm : Value) (an : Option Addr) (cdv ct : Value) (us ws : List Value), (g us ws).length = ps.length → bindArgs (PySem.W.fnOf x ql (defArgs st) (defBody st) (defScope st) .none kV doc pm an cdv ct) ⟨us, ks.zip ws⟩ = pure (ps.zip (g us ws)))
    (rel : ∀ {vs : List V} {us : List Value} {zs : List V} {ws : List Value}, Vals vs us → Vals zs ws → Vals (gV vs zs) (g us ws)) : KBinds K fd ps ks g gV := by
  obtain ⟨_, _, kV, doc, pm, an, cdv, ct, _, rfl, _, _⟩ := F.ex
  exact ⟨fun s us ws _ hl => .of_eq (to kV doc pm an cdv ct us ws hl), rel⟩

/-! ## a statement, then the rest: what stands between may be said -/
def tThen (t u : TS) : TS := fun D σ H => ∃ M : L2.St → Hp → Prop, t { D with nx := M } σ H ∧ ∀ σ' H', M σ' H' → u D σ' H'
theorem pss_then {X : Cx} {st : Stmt} {rest : List Stmt} {t u : TS} (a : PS X st t) (b : PSs X rest u) : PSs X (st :: rest) (tThen t u) := by
  refine ⟨fun pins s σ H D J h => ?_⟩
  obtain ⟨M, m, on⟩ := h
  refine wpAny_execs_cons (thn (a.run pins s σ H { D with nx := M } J m) fun fl s1 z => ?_)
  cases fl with
  | next => exact z.elim fun σ' z => z.elim fun H' z => b.run pins s1 σ' H' D z.1 (on _ _ z.2)
  | ret v => exact z
  | brk => exact z
  | cont => exact z
section
variable {D : Ends} {σ : L2.St} {H : Hp} {t u : TS} {te : TE} {g : TG} {tr : TA} {n m : Nat}
theorem w_then (q : t { D with nx := u D } σ H) : tThen t u D σ H := ⟨u D, q, fun _ _ z => z⟩
theorem w_mid (M : L2.St → Hp → Prop) (q : t { D with nx := M } σ H) (k : ∀ σ' H', M σ' H' → u D σ' H') : tThen t u D σ H := ⟨M, q, k⟩
theorem w_thenA (q : tAsg te g { D with nx := u D } σ H) : tThen (tAsg te g) u D σ H := w_then q
theorem w_thenD (q : tDrop te { D with nx := u D } σ H) : tThen (tDrop te) u D σ H := w_then q
theorem w_thenP (q : tPar n m tr { D with nx := u D } σ H) : tThen (tPar n m tr) u D σ H := w_then q
theorem w_thenN (q : u D σ H) : tThen tNext u D σ H := w_then q
end

theorem w_for {wi : TI} {g : TG} {tb : TS} {D : Ends} {σ : L2.St} {H : Hp} (q : wi σ H fun J H1 => ∃ W : Nat → Nat → L2.St → Hp → Prop, (∃ m, W 0 m σ H1) ∧ ∀ i m σ H, W i m σ H → (J.stop i H ∧ D.nx σ H) ∨ (J.go i H ∧ ∃ N : L2.St → Hp → Prop, (∀ σ' H', N σ' H' → ∃ m', m' < m ∧ W (i + 1) m' σ' H') ∧
    ∀ x H', J.yld i H x H' → g x σ H' fun σ2 H2 => tb { D with nx := N, ct := N, bk := D.nx } σ2 H2)) : tFor wi g tb D σ H := q
theorem w_rng1 {ta : TA} {σ : L2.St} {H : Hp} {R : It → Hp → Prop} (q : ta σ H fun vs H1 => ∃ j : Int, vs = [.int j] ∧ -(2 ^ 62) ≤ j ∧ j < 2 ^ 62 ∧ R (Itr 0 j.toNat) H1) : iRng1 ta σ H R := q
/-- for x in range(j), j counted before -/
theorem w_forR1 {g : TG} {tb : TS} {D : Ends} {σ : L2.St} {H : Hp} {ta : TA} {j : Int} (n : Nat) (ha : ∀ R : List V → Hp → Prop, R [.int j] H → ta σ H R) (hj : j = n) (small : n ≤ 1000000) (Pv : Nat → L2.St → Hp → Prop) (h0 : Pv 0 σ H)
    (hs : ∀ (i : Nat) σ' H', i < n → Pv i σ' H' → g (.int (i : Int)) σ' H' fun σ2 H2 => tb { D with nx := Pv (i + 1), ct := Pv (i + 1), bk := D.nx } σ2 H2) (hd : ∀ σ' H', Pv n σ' H' → D.nx σ' H') : tFor (iRng1 ta) g tb D σ H := by
  refine ha _ ⟨j, rfl, by omega, by omega, ?_⟩
  rw [hj, Int.toNat_natCast]
  refine for_range (lo := 0) (n := n) Pv h0 (fun i σ' H' hi p => ?_) hd
  have q := hs i σ' H' hi p
  rw [Int.zero_add]
  exact q
theorem w_tupG {K : PySem.W.Frag} {n : Nat} {tg : TGs} {σ : L2.St} {H : Hp} {p : Addr} {xs : List V} {N : L2.St → Hp → Prop} (h : H p = some (.tup xs)) (hl : xs.length = n) (q : tg xs σ H N) : gTup K n tg (.ref p) σ H N := w_gTup (SqT.of h) hl q

/-! ## if repr([..]) != repr([..]): .., both of them telling the same data -/
theorem fits {d : PyData} (hl : d.layable0 = true) (hi : d.intsShort 13 = true) : d.shown.length ≤ sizeLine := Nat.le_trans (PyData.shown_le_of_layable0 hl hi) (by decide)
/-- the arguments of a display tell these data -/
def Tells (K : PySem.W.Frag) (a : TA) (σ : L2.St) (H : Hp) (ds : List PyData) : Prop := ∀ R : List V → Hp → Prop, (∀ xs H', xs.length = ds.length → Ext H H' → (∀ H2, Ext H' H2 → DpAll K H2 xs ds) → R xs H') → a σ H R
theorem w_repr2 {K : PySem.W.Frag} {a1 a2 : TA} {σ : L2.St} {H : Hp} {QT : Bool → Hp → Prop} (ds : List PyData) (hs : (PyData.list ds).showable = true) (hd : (PyData.list ds).hasDict = false) (hz : (PyData.list ds).depth ≤ 40) (hf : (PyData.list ds).shown.length ≤ sizeLine) (hn : ds.length ≤ 1000)
    (h1 : Tells K a1 σ H ds) (h2 : ∀ H1, Ext H H1 → Tells K a2 σ H1 ds) (k : ∀ H', Ext H H' → QT false H') :
    tTest (tOp rNe (tCB (cRepr K) (tCons (tLst a1) tNil)) (tCB (cRepr K) (tCons (tLst a2) tNil))) σ H QT := by
  refine w_test (w_op (w_cb (w_cons (w_lst (h1 _ fun xs H1 n1 e1 p1 => ⟨Nat.le_trans (by omega) (by decide : 1000 ≤ sizeLine), fun p np => ?_⟩)))))
  have e2 : Ext H1 (upd H1 p (.lst xs)) := .put np
  refine w_nil (w_repr (.lst (SqL.of upd_same) (p1 _ e2)) hs hd hz hf ?_)
  refine w_cb (w_cons (w_lst (h2 _ (e1.tr e2) _ fun ys H3 n3 e3 p3 => ⟨Nat.le_trans (by omega) (by decide : 1000 ≤ sizeLine), fun q nq => ?_⟩)))
  have e4 : Ext H3 (upd H3 q (.lst ys)) := .put nq
  refine w_nil (w_repr (.lst (SqL.of upd_same) (p3 _ e4)) hs hd hz hf (w_neS ⟨_, rfl, ?_⟩))
  rw [show (!((PyData.list ds).shown == (PyData.list ds).shown)) = false by simp]
  exact k _ (((e1.tr e2).tr e3).tr e4)
/-- two displays compared -/
theorem w_two {K : PySem.W.Frag} {a1 a2 : TA} {σ : L2.St} {H : Hp} {r : R2} {Q : VK} (ds es : List PyData) (hn : ds.length ≤ 1000) (hm : es.length ≤ 1000) (h1 : Tells K a1 σ H ds) (h2 : ∀ H1, Ext H H1 → Tells K a2 σ H1 es)
    (k : ∀ p q H', Ext H H' → Dp K H' (.ref p) (.list ds) → Dp K H' (.ref q) (.list es) → r (.ref p) (.ref q) H' Q) : tOp r (tLst a1) (tLst a2) σ H Q := by
  refine w_op (w_lst (h1 _ fun xs H1 n1 e1 p1 => ⟨Nat.le_trans (by omega) (by decide : 1000 ≤ sizeLine), fun p np => ?_⟩))
  have e2 : Ext H1 (upd H1 p (.lst xs)) := .put np
  refine w_lst (h2 _ (e1.tr e2) _ fun ys H3 n3 e3 p3 => ⟨Nat.le_trans (by omega) (by decide : 1000 ≤ sizeLine), fun q nq => ?_⟩)
  have e4 : Ext H3 (upd H3 q (.lst ys)) := .put nq
  exact k p q _ (((e1.tr e2).tr e3).tr e4) (.lst (SqL.of (e4 _ _ (e3 _ _ upd_same))) (p1 _ ((e2.tr e3).tr e4))) (.lst (SqL.of upd_same) (p3 _ e4))
theorem dp_bls {K : PySem.W.Frag} {H : Hp} : ∀ bs : List Bool, DpAll K H (bs.map V.bl) (bs.map PyData.bool)
  | [] => .nil
  | b :: bs => .cons (.bl b) (dp_bls bs)

/-! ## two lists of the same items are not unlike -/
def selfEq : V → Bool
  | .flt _ => false | .ty _ => false | _ => true
def rNeSame : R2 := fun x y H Q => ∃ p q xs, x = .ref p ∧ y = .ref q ∧ H p = some (.lst xs) ∧ H q = some (.lst xs) ∧ xs.all selfEq = true ∧ Q (.bl false) H
theorem self_at {B : Around} {s : Shared} {v : V} {u u' : Value} (r : RelV v u) (r' : RelV v u') (f : selfEq v = true) : SeqAt.EqAt B s u u' true := by
  cases v with
  | ref a => cases (show u = Value.ref a from r); cases (show u' = Value.ref a from r'); exact SeqAt.EqAt.same _
  | flt x => cases f
  | ty x => cases f
  | non => exact eqAt_same r r' rfl
  | bl x => exact eqAt_same r r' rfl
  | int x => exact eqAt_same r r' rfl
  | str x => exact eqAt_same r r' rfl
  | byt x => exact eqAt_same r r' rfl
theorem self_all {B : Around} {s : Shared} : ∀ {xs : List V} {us ws : List Value}, Vals xs us → Vals xs ws → xs.all selfEq = true → ∀ (j : Nat) (h1 : j < us.length) (h2 : j < ws.length), SeqAt.EqAt B s us[j] ws[j] true
  | [], _, _, .nil, .nil, _, j, h1, _ => absurd h1 (Nat.not_lt_zero j)
  | v :: xs, _, _, .cons r t, .cons r' t', f, j, h1, h2 => by
    rw [List.all_cons, Bool.and_eq_true] at f
    cases j with
    | zero => exact self_at r r' f.1
    | succ j => exact self_all t t' f.2 j (Nat.lt_of_succ_lt_succ h1) (Nat.lt_of_succ_lt_succ h2)
theorem o_neSame {X : Cx} (hu : X.A.units + 64 < cLine) : OpR X (compareOp .NotEq) rNeSame := by
  intro pins s σ H x y v u Q J rx ry h
  obtain ⟨p, q, xs, rfl, rfl, hp, hq, f, k⟩ := h
  cases rx
  cases ry
  obtain ⟨us, r1, p1, _⟩ := J.list (SqL.of (K := X.K) hp)
  obtain ⟨ws, r2, p2, _⟩ := J.list (SqL.of (K := X.K) hq)
  have many : us.toArray.size = ws.toArray.size := by rw [List.size_toArray, List.size_toArray, ← r1.length, ← r2.length]
  refine SeqAt.RcNeAt.lists (e := fun _ => true) p1.isList p2.isList many (by omega) (fun j h1 h2 => ?_) X.prog X.w X.xe _ ?_
  · have k := self_all (B := X.A.in1) (s := s) r1 r2 f j (by simpa using h1) (by simpa using h2)
    simpa using k
  · rw [show ((List.range us.toArray.size).all fun _ => true) = true from List.all_eq_true.mpr fun _ _ => rfl]
    exact ⟨.bl false, H, J, rfl, k⟩

/-! ## the classes of the package, by their addresses -/
structure CA where
  MirrorError : Addr := 0
  BadNumber : Addr := 0
  BadPoint : Addr := 0
  BadRoom : Addr := 0
  BadPlace : Addr := 0
  BadWay : Addr := 0
  BadSheet : Addr := 0
  BadBook : Addr := 0
  BadWord : Addr := 0
  BadName : Addr := 0
  BadPaper : Addr := 0
  Misfit : Addr := 0
  NoName : Addr := 0
  Twice : Addr := 0
  TooMany : Addr := 0
  BadText : Addr := 0
  BadLine : Addr := 0
  Scan : Addr := 0
  Room : Addr := 0
  Rows : Addr := 0
  Sheet : Addr := 0
  Turning : Addr := 0
  Marked : Addr := 0
  Book : Addr := 0
  Paper : Addr := 0
  Denial : Addr := 0
  Lit : Addr := 0
  Dark : Addr := 0
  tabs : List (Addr × Str) := []

/-! ## a new object -/
theorem newly {H H1 : Hp} {p : Addr} {o : HO} (hp : H p = none) (hz : upd H p o = H1) : Ext H H1 ∧ H1 p = some o ∧ ∀ b, b ≠ p → H1 b = H b := by
  subst hz
  exact ⟨.put hp, upd_same, fun _ n => upd_ne n⟩
theorem sm {n : Nat} (h : n ≤ 100000) : n ≤ sizeLine := Nat.le_trans h (by decide)

/-! ## promises' ends -/
/-- a value, the heap grown -/
def Ret (v : V) (H : Hp) (Q : VK) : Prop := ∀ H', Ext H H' → Q v H'
theorem Ret.go {v : V} {H H' : Hp} {Q : VK} (k : Ret v H Q) (x : Ext H H') : Q v H' := k H' x

/-! ## checks.py -/
def oV : Option Int → V
  | none => .non | some i => .int i
def withinB (v : V) (l h : Option Int) : Bool := match v with
  | .int i => (match l with | none => true | some a => decide (a ≤ i)) && (match h with | none => true | some b => decide (i ≤ b))
  | _ => false
def ptB : Option (List V) → Bool
  | some [.int _, .int _] => true | _ => false
def wayI (p q : Int) : Bool := decide (-1000000000000 ≤ p) && decide (p ≤ 1000000000000) && (decide (-1000000000000 ≤ q) && decide (q ≤ 1000000000000)) && decide ((Int.gcd p q : Int) = 1)
def wayB : Option (List V) → Bool
  | some [.int p, .int q] => wayI p q | _ => false
def few (s : Option (List V)) : Prop := ∀ xs, s = some xs → xs.length ≤ 100000
def sp_is_integer (K : PySem.W.Frag) (_ : CA) : Sp := fun vs H Q _ => ∃ v s, vs = [v] ∧ AnyV K H v s ∧ Ret (.bl (isI v)) H Q
def sp_is_within (K : PySem.W.Frag) (_ : CA) : Sp := fun vs H Q _ => ∃ v s l h, vs = [v, oV l, oV h] ∧ AnyV K H v s ∧ Ret (.bl (withinB v l h)) H Q
def sp_is_list (K : PySem.W.Frag) (_ : CA) : Sp := fun vs H Q _ => ∃ v s, vs = [v] ∧ AnyV K H v s ∧ Ret (.bl s.isSome) H Q
def sp_is_point (K : PySem.W.Frag) (_ : CA) : Sp := fun vs H Q _ => ∃ v s, vs = [v] ∧ AnyD K H v s ∧ few s ∧ Ret (.bl (ptB s)) H Q
def sp_common (_ : PySem.W.Frag) (_ : CA) : Sp := fun vs H Q _ => ∃ i j, vs = [.int i, .int j] ∧ Ret (.int (Int.gcd i j)) H Q
def sp_is_way (K : PySem.W.Frag) (_ : CA) : Sp := fun vs H Q _ => ∃ v s, vs = [v] ∧ AnyD K H v s ∧ few s ∧ Ret (.bl (wayB s)) H Q

/-! ## what draws -/
/-- all but the lantern's own list stays -/
structure Adv (L : Addr) (H H' : Hp) : Prop where
  run : ∀ a o, a ≠ L → H a = some o → H' a = some o
  same : ∀ (c : Addr) (t r : Int), H L = some (.lst [.ref c, .int t, .int r]) → ∃ t' r' : Int, H' L = some (.lst [.ref c, .int t', .int r'])
theorem Adv.rfl {L : Addr} {H : Hp} : Adv L H H := ⟨fun _ _ _ h => h, fun _ t r h => ⟨t, r, h⟩⟩
theorem Adv.tr {L : Addr} {H H1 H2 : Hp} (x : Adv L H H1) (y : Adv L H1 H2) : Adv L H H2 := ⟨fun a o n h => y.run a o n (x.run a o n h), fun c t r h => by
  obtain ⟨t1, r1, h1⟩ := x.same c t r h
  exact y.same c t1 r1 h1⟩
theorem Ext.adv {L : Addr} {H H' : Hp} (x : Ext H H') : Adv L H H' := ⟨fun a o _ h => x a o h, fun _ t r h => ⟨t, r, x _ _ h⟩⟩
theorem Adv.put {L c : Addr} {H : Hp} {t r t' r' : Int} (h : H L = some (.lst [.ref c, .int t, .int r])) : Adv L H (upd H L (.lst [.ref c, .int t', .int r'])) := ⟨fun a u n e => by rw [upd_ne n]; exact e, fun d t2 r2 h2 => by
  rw [h] at h2
  cases h2
  exact ⟨t', r', upd_same⟩⟩
theorem Adv.sqL {K : PySem.W.Frag} {L : Addr} {H H' : Hp} {a : Addr} {xs : List V} (x : Adv L H H') (n : a ≠ L) (h : SqL K H a xs) : SqL K H' a xs := by
  rcases h with (h | ⟨o, h⟩) | h
  · exact .inl (.inl (x.run _ _ n h))
  · exact .inl (.inr ⟨o, x.run _ _ n h⟩)
  · exact .inr h
theorem Adv.sqT {K : PySem.W.Frag} {L : Addr} {H H' : Hp} {a : Addr} {xs : List V} (x : Adv L H H') (n : a ≠ L) (h : SqT K H a xs) : SqT K H' a xs := by
  rcases h with (h | ⟨o, h⟩) | h
  · exact .inl (.inl (x.run _ _ n h))
  · exact .inl (.inr ⟨o, x.run _ _ n h⟩)
  · exact .inr h
/-- the lantern at L, at most n flicks old -/
def Lan (H : Hp) (L : Addr) (n : Nat) : Prop := ∃ (c : Addr) (t r : Int) (cells : List Int), H L = some (.lst [.ref c, .int t, .int r]) ∧ H c = some (.lst (cells.map V.int)) ∧ c ≠ L ∧ 0 ≤ t ∧ t ≤ n ∧ 0 ≤ r ∧ cells.length ≤ 60
theorem Lan.ext {H H' : Hp} {L : Addr} {n : Nat} (x : Ext H H') (h : Lan H L n) : Lan H' L n := by
  obtain ⟨c, t, r, cells, h1, h2, h3⟩ := h
  exact ⟨c, t, r, cells, x _ _ h1, x _ _ h2, h3⟩
theorem Lan.mono {H : Hp} {L : Addr} {n m : Nat} (e : n ≤ m) (h : Lan H L n) : Lan H L m := by
  obtain ⟨c, t, r, cells, h1, h2, h3, h4, h5, h6⟩ := h
  exact ⟨c, t, r, cells, h1, h2, h3, h4, by omega, h6⟩
theorem Lan.some {H : Hp} {L : Addr} {n : Nat} (h : Lan H L n) : ∃ o, H L = Option.some o := by
  obtain ⟨c, t, r, cells, h1, _⟩ := h
  exact ⟨_, h1⟩
theorem Lan.ne {H : Hp} {L p : Addr} {n : Nat} (h : Lan H L n) (hp : H p = none) : p ≠ L := by
  obtain ⟨o, e⟩ := h.some
  intro z
  rw [z, e] at hp
  cases hp
/-- any value, whatever the lantern does from now on -/
def Kr (K : PySem.W.Frag) (L : Addr) (H : Hp) (v : V) (s : Option (List V)) : Prop := ∀ H2, Adv L H H2 → AnyD K H2 v s
section
variable {K : PySem.W.Frag} {L p : Addr} {H H' : Hp} {v : V} {s : Option (List V)} {xs : List V}
theorem Kr.tr (a : Adv L H H') (k : Kr K L H v s) : Kr K L H' v s := fun H2 b => k H2 (a.tr b)
theorem Kr.ext (a : Ext H H') (k : Kr K L H v s) : Kr K L H' v s := k.tr a.adv
theorem Kr.now (k : Kr K L H v s) : AnyD K H v s := k H .rfl
theorem Kr.int (i : Int) : Kr K L H (.int i) none := fun _ _ => .flat (.int i)
theorem Kr.bl (b : Bool) : Kr K L H (.bl b) none := fun _ _ => .flat (.bl b)
theorem Kr.non : Kr K L H .non none := fun _ _ => .flat .non
theorem Kr.str (x : Str) : Kr K L H (.str x) none := fun _ _ => .flat (.str x)
theorem Kr.dict {kvs : List (Key × V)} (h : H p = some (.dK kvs)) (n : p ≠ L) : Kr K L H (.ref p) none := fun _ a => .flat (.dict (a.run _ _ n h))
theorem Kr.lst (h : H p = some (.lst xs)) (n : p ≠ L) (ks : ∀ x ∈ xs, ∃ s, Kr K L H x s) : Kr K L H (.ref p) (some xs) := fun H2 a =>
  ⟨.lst (SqL.of (a.run _ _ n h)), fun ys e x m => by cases e; obtain ⟨s, q⟩ := ks x m; exact ⟨s, (q H2 a).1⟩⟩
theorem Kr.tup (h : H p = some (.tup xs)) (n : p ≠ L) (ks : ∀ x ∈ xs, ∃ s, Kr K L H x s) : Kr K L H (.ref p) (some xs) := fun H2 a =>
  ⟨.tup (SqT.of (a.run _ _ n h)), fun ys e x m => by cases e; obtain ⟨s, q⟩ := ks x m; exact ⟨s, (q H2 a).1⟩⟩
end
def sp_law_lantern (K : PySem.W.Frag) (_ : CA) : Sp := fun vs H Q _ => ∃ (a : Addr) (ns : List Int), vs = [.ref a] ∧ SqL K H a (ns.map V.int) ∧ ns.length ≤ 63 ∧ ∀ L H', H L = none → Ext H H' → Lan H' L 0 → Q (.ref L) H'
def sp_law_flick (_ : PySem.W.Frag) (_ : CA) : Sp := fun vs H Q _ => ∃ (L : Addr) (n : Nat) (m : Int), vs = [.ref L, .int m] ∧ Lan H L n ∧ n ≤ 100000 ∧ 0 < m ∧ m < 2 ^ 200 ∧ ∀ v H', 0 ≤ v → v < m → Adv L H H' → Lan H' L (n + 1) → Q (.int v) H'
def sp_law_pick (K : PySem.W.Frag) (_ : CA) : Sp := fun vs H Q _ => ∃ (L : Addr) (n : Nat) (p : Addr) (xs : List V), vs = [.ref L, .ref p] ∧ Lan H L n ∧ n ≤ 100000 ∧ p ≠ L ∧ (SqL K H p xs ∨ SqT K H p xs) ∧ xs ≠ [] ∧ xs.length ≤ 100000 ∧
  ∀ v H', v ∈ xs → Adv L H H' → Lan H' L (n + 1) → Q v H'
def sp_law_common : PySem.W.Frag → CA → Sp := sp_common
end NK

/-! Errors of the package: a class over MirrorError(ValueError) with one field, made by super().__init__(f'..{part}') and self.part = part. -/
namespace NK
open PySem PySem.Spec PyProof.Rows PySem.W PySem.Calls L2

/-- the parameters, the body, the names of such an __init__ -/
def erA (q : Nat → Pos) : Arguments := { posonlyargs := [], args := [⟨"self", none, q 0⟩, ⟨"part", none, q 1⟩], vararg := none, kwonlyargs := [], kw_defaults := [], kwarg := none, defaults := [] }
def erB (t1 : Str) (k : Nat) (q : Nat → Pos) : List Stmt :=
  [.Expr (.Call (.Attribute (.Call (.Name "super" (q 2)) [] [] (q 3)) "__init__" (q 4)) [.JoinedStr [.Constant (.str t1) k (q 5), .FormattedValue (.Name "part" (q 6)) (-1) none (q 7)] (q 8)] [] (q 9)) (q 10),
   .Assign [.Attribute (.Name "self" (q 11)) "part" (q 12)] (.Name "part" (q 13)) (q 14)]
def erS : Scope := { kind := .function, names := [(PySem.Str.ofString "self", .local), (PySem.Str.ofString "part", .local), (PySem.Str.ofString "__class__", .free), (PySem.Str.ofString "super", .globalImplicit)], isGenerator := false, isCoroutine := false, more := [] }

/-- what the written part says of the error class at C and its __init__ at f -/
structure ErrC (prog : Program) (K : Frag) (C f : Addr) : Prop where
  cls : ∃ nm q N bs bm sn sub ab col dd k0 k1 k2 k3 k5, K.lookup C = some (excClassObj nm q C N bs bm true sn sub ab col dd k0 k1 k2 k3 k5 "ValueError.__new__") ∧ HandSPX.refsVE bm = true
  sa : findIn K (.ref C) "__setattr__" = some (some (.builtin "object.__setattr__"))
  ga : findIn K (.ref C) "__getattribute__" = some (some (.builtin "BaseException.__getattribute__"))
  gg : findIn K (.ref C) "__getattr__" = some none
  noP : findIn K (.ref C) "part" = some none
  ini : findIn K (.ref C) "__init__" = some (some (.ref f))
  tyF : typeIn K (.ref f) = some (.type "function")
  kC : keepIn K (.ref C) = true
  exC : subIn K (.ref C) (.type "BaseException") = some true
  veC : subIn K (.ref C) (.type "ValueError") = some true
  tyC : typeIn K (.ref C) = some (.type "type")
  hdC : hasDictIn K C = true
  self_ : mroIn K C (.ref C) = some true
  sup : ks_superIn K C C "__init__" = some (some (.builtin "ValueError.__init__"))
  opq : nsIn K cStatics "thirdparty.any" = some none
  nsS : nsIn K mainGlobals "super" = some none
  top : (prog.main.scope.names.lookup ("super" : Str)).isSome = false
  fn : ∃ (oc : Value) (od : Option Addr) (doc pm : Value) (an : Option Addr) (cdv ct : Value) (osl : Array (Option Value)) (t1 : Str) (k : Nat) (q : Nat → Pos) (ql : Str) (cc cda : Addr) (vs : Array Value) (file : Str) (tf : Tok) (ccl : Value) (cdd : Option Addr) (ccs : Array (Option Value)) (cl : Value) (cld : Option Addr) (csl : Array (Option Value)),
    K.lookup f = some ⟨oc, od, .func (ksFn "__init__" ql (erA q) (erB t1 k q) erS .none .none doc pm an cdv ct cc), osl⟩ ∧ codeIn K cdv ql = true ∧ t1.length ≤ 1000 ∧ ((q 4).endLine == (q 9).line) = true ∧
    cdv = .ref cda ∧ K.lookup cda = some ⟨ccl, cdd, .fields vs, ccs⟩ ∧ vs[2]? = some (.str file tf) ∧ ((prog.main.file : Str) == file) = true ∧ K.lookup cc = some ⟨cl, cld, .cell (some (.ref C)), csl⟩

/-- what __init__ leaves of a new exception at x -/
structure ErrEnd (h h' : Heap) (x C dx t1 : Addr) (v : Value) : Prop where
  keep : ∀ b o, b ≠ x → h.get? b = some o → h'.get? b = some o
  obj : h'.get? x = some { cls := .ref C, dict := some dx, data := .fields #[.ref t1, .none, .none, .none, .bool false, .none] }
  big : h.objs.size ≤ dx
  ne : dx ≠ x
  ns : h'.Ns1 dx (fun y => if y = "part" then some v else none)

section
variable {prog : Program} {w : World} {A : Around} {R : Result → Shared → Prop} {s : Shared} {K : Frag} {C f : Addr} {mg mb : Str → Option Value}
theorem sup_eval {env : Env} {p1 p2 p3 p4 pj : Pos} {js : List Expr} (hp : (p3.endLine == p4.line) = true) : ∃ pl : Sem Bool, eval (.Call (.Attribute (.Call (.Name "super" p1) [] [] p2) "__init__" p3) [.JoinedStr js pj] [] p4) env = (do
      let ov ← attributeBase (.Call (.Name "super" p1) [] [] p2) "__init__" env (eval (.Call (.Name "super" p1) [] [] p2) env)
      standAt p3.atName
      let (f, first) ← holding [ov] (getMethod ov "__init__" pl)
      callWith p4 f first (backTo p4 (starEach [.JoinedStr js pj] env)) []) := by
  refine ⟨do return (← importBound (.Call (.Name "super" p1) [] [] p2) env).getD true, ?_⟩
  simp only [eval, methodCall, methodCallPos, hp]
  rfl
theorem loads_local {M : Model} {E : Value → Shared → Prop} {env : Env} {m : Str → Option Value} {y : Str} {v : Value} {Q : Value → Shared → Prop} (hk : env.scope.kind = .function) (hl : env.kindOf y = some .local) (hn : s.heap.Ns env.locals m) (hv : m y = some v) (h : Q v s) {p : Pos}
    (hd : (y == ("__debug__" : Str)) = false := by decide) : wpAny M A (eval (.Name y p) env) Q E s := wpAny_Name (wpAny_loadName_local hk hl hn hv h) hd
theorem size_small {n : Nat} (h : n ≤ 2000000) : n ≤ sizeLine := by
  rw [sizeLine_eq]
  omega
/-- the call of the bound ValueError.__init__ -/
theorem call_mw (T : ErrC prog K C f) {E : Value → Shared → Prop} {u e t0 : Addr} {rest : List Value} {Q : Value → Shared → Prop} (X : K.In s.heap) (he : s.heap.get? e = some (HandSPX.excO C t0)) (hu : s.heap.get? u = some (kxs_mw "ValueError.__init__" e)) (hz : rest.length ≤ sizeLine)
    (hq : ∀ h' t1, (∀ b o, b ≠ e → s.heap.get? b = some o → h'.get? b = some o) → h'.get? e = some (HandSPX.excO C t1) → Q .none { s with heap := h' }) :
    wpAny (model prog w) A (call (.ref u) rest) Q E s := by
  obtain ⟨nm, qn, N, bs, bm, sn, sub, ab, col, dd, k0, k1, k2, k3, k5, hC, hbm⟩ := T.cls
  obtain ⟨hh, g, d, tk, os⟩ := s
  refine wpAny_call (codeAny_of_tree ?_)
  show wpAny _ A.in1 (callAny (.ref u) ⟨rest, []⟩) _ _ _
  simp only [callAny]
  refine wpAny_bind (wpAny_load hu ?_)
  have e1 : (Value.type "method-wrapper" == Value.type "method" || Value.type "method-wrapper" == Value.type "builtin_function_or_method" || Value.type "method-wrapper" == Value.type "method-wrapper") = true := by decide
  simp only [kxs_mw, e1, if_true]
  refine KFB.if_so (by decide) (wpAny_bind ?_)
  refine check_bound_init F.excBase_ValueError.toExcCallFacts (X _ _ hC) he rfl (wpAny_bind (wpAny_pure (wpAny_pure ⟨plainId_quiet F.excBase_ValueError.init.plain _, codeAny_builtin F.excBase_ValueError.initEntry ?_⟩)))
  exact exc_init_tree (cls := .ref C) (t0 := t0) (dv := none) (c2 := .none) (c3 := .none) (b4 := .bool false) he hz fun h' k1 k2 _ => hq h' _ k1 k2

theorem err_init (T : ErrC prog K C f) {x t0 : Addr} {y : Str} {tk : Tok} (X : K.In s.heap) (hlim : s.heap.NoLimit) (gl : s.heap.Ns mainGlobals mg) (bl : s.heap.Ns builtinsNs mb) (ms : mg "super" = none) (bb : mb "super" = some (.type "super"))
    (hx : s.heap.get? x = some (HandSPX.excO C t0)) (nx : K.lookup x = none) (hroom : A.depth < recursionLimit) (hy : y.length ≤ 1000000)
    (hq : ∀ h' tk' dx t1, ErrEnd s.heap h' x C dx t1 (.str y tk) → R (.ok (.ret .none)) { s with heap := h', toks := tk' }) :
    codeAny (model prog w) A (.call (.ref f) ⟨[.ref x, .str y tk], []⟩) R s := by
  obtain ⟨oc, od, doc, pm, an, cdv, ct, osl, t1, k, q, ql, cc, cda, vs, file, tf, ccl, cdd, ccs, cl, cld, csl, ho, hcd, ht1, hps, rfl, hcda, hvs, hfile, hcc⟩ := T.fn
  obtain ⟨nm, qn, N, bs, bm, sn, sub, ab, col, dd, k0, k1, k2, k3, k5, hC, hbm⟩ := T.cls
  have hcl : clsIn K C = some { name := nm, bases := bs, mro := .ref C :: bm, ns := N, qualname := qn, hasDict := true, slotNames := sn, subclasses := sub, abstract := ab, collection := col, hasDel := false } := by unfold clsIn; rw [hC] <;> rfl
  refine ks_codeAny_call_defAt (fd := ksFn "__init__" ql (erA q) (erB t1 k q) erS .none .none doc pm an (.ref cda) ct cc) (body := erB t1 k q) (binds := [("self", .ref x), ("part", .str y tk)]) hroom (X _ _ ho) rfl hlim (codeRec_of X hcd) rfl (BindsTo.of_eq (by first | rfl | with_unfolding_all rfl))
    (show ∀ z ∈ erS.names, z.2 ≠ .cell by decide) (fun z hz => ?_) (fun h₁ hns kp => ?_)
  · rcases List.mem_cons.mp hz with e | hz
    · rw [e]; rfl
    · rcases List.mem_cons.mp hz with e | hz
      · rw [e]; rfl
      · exact absurd hz (by simp)
  · obtain ⟨hh, g, d, tk0, os⟩ := s
    have X₁ : K.In h₁ := X.keeps kp
    have hx₁ := kp _ _ hx
    have hL : hh.objs.size ≠ x := Nat.ne_of_gt (Heap.lt_size hx)
    obtain ⟨pl, hev⟩ := sup_eval (env := callEnv (ksFn "__init__" ql (erA q) (erB t1 k q) erS .none .none doc pm an (.ref cda) ct cc) hh.objs.size f) (p1 := q 2) (p2 := q 3) (p3 := q 4) (p4 := q 9) (pj := q 8) (js := [.Constant (.str t1) k (q 5), .FormattedValue (.Name "part" (q 6)) (-1) none (q 7)]) hps
    refine ks_wpAt_execs_cons (ks_wpAt_Expr_any (ks_wpAt_MethodCall (he := hev) (ks_wpAt_super_base (of := _) (oc := _) (ar := ⟨"self", none, q 0⟩) (by rfl) (by rfl) (by decide) rfl (X₁ _ _ ho) rfl rfl rfl (X₁ _ _ hcda) rfl hvs hfile T.top ?_)))
    refine ks_loadName_global rfl (by rfl) (loadGlobal_builtin (mg := mg) (mb := mb) (gl.keeps kp) ms (bl.keeps kp) bb ⟨rfl, ?_⟩)
    refine wpAny_loadName_free rfl (by rfl) (by rfl) ⟨_, X₁ _ _ hcc, rfl⟩ ?_
    refine wpAny_loadName_local rfl (by rfl) hns (by first | rfl | with_unfolding_all rfl | kernel_rfl) ?_
    refine ks_wpAny_isType_cls (X₁ _ _ hC) rfl ⟨rfl, ?_⟩
    refine ks_wpAny_call_super (X₁ _ _ hC) rfl hx₁ rfl (fun c z => by cases z) (looks_mroIn X₁ T.self_) fun h₂ so₂ kp₂ => ?_
    have X₂ : K.In h₂ := X₁.keeps kp₂
    have hx₂ := kp₂ _ _ hx₁
    have I₂ : InstAt h₂ x (HandSPX.excO C t0) C none := ⟨hx₂, rfl, rfl, trivial⟩
    have xC : x ≠ C := ks_ne X₂ I₂ hcl
    have sup : alongIn K "__init__" bm = some (some (.builtin "ValueError.__init__")) := by
      have z := T.sup
      unfold ks_superIn at z
      rw [hcl, Option.bind_some] at z
      dsimp only at z
      rw [ESX.drop_own] at z
      exact z
    refine kxs_getMethod kxs_ValueError so₂ (looks_opaque X₂ T.opq) (l₀ := .ref C :: bm) ((looks_clsIn X₂ hcl).andThen .now) (ESX.drop_own C bm) X₂ sup (I₂.type.andThen (looks_subIn X₂ T.veC)) xC (by decide) ?_
    have kp₃ : ∀ b o, h₂.get? b = some o → (h₂.push (kxs_mw "ValueError.__init__" x)).get? b = some o := fun b o e => Heap.get?_push_of_some _ e
    have hmw : (h₂.push (kxs_mw "ValueError.__init__" x)).get? h₂.objs.size = some (kxs_mw "ValueError.__init__" x) := Heap.get?_push_size _ rfl
    dsimp only
    have est : starEach [.JoinedStr [.Constant (.str t1) k (q 5), .FormattedValue (.Name "part" (q 6)) (-1) none (q 7)] (q 8)] (callEnv (ksFn "__init__" ql (erA q) (erB t1 k q) erS .none .none doc pm an (.ref cda) ct cc) hh.objs.size f) = (false, eval (.JoinedStr [.Constant (.str t1) k (q 5), .FormattedValue (.Name "part" (q 6)) (-1) none (q 7)] (q 8)) (callEnv (ksFn "__init__" ql (erA q) (erB t1 k q) erS .none .none doc pm an (.ref cda) ct cc) hh.objs.size f)) :: starEach [] (callEnv (ksFn "__init__" ql (erA q) (erB t1 k q) erS .none .none doc pm an (.ref cda) ct cc) hh.objs.size f) := by rfl
    rw [est]
    refine kxs_callWith (i := "ValueError.__init__") (x := x) (by rfl) (evalArgs_plain (Calls.spliced_cons ?_))
    -- the text
    have ns₃ : (h₂.push (kxs_mw "ValueError.__init__" x)).Ns hh.objs.size fun y_1 => List.lookup y_1 [(Str.ofString "self", Value.ref x), (Str.ofString "part", Value.str y tk)].reverse := hns.keeps fun b o e => kp₃ b o (kp₂ b o e)
    refine wpAny_JoinedStr (pos := q 8) ?_
    refine Calls.Constant_str (pos := q 5) (k := k) ⟨t1, _, rfl, size_small (by rw [strLen_append]; show 0 + t1.length ≤ 2000000; omega), ?_⟩
    refine wpAny_FormattedValue_plain (value := .Name "part" (q 6)) (pos := q 7) (loads_local (p := q 6) rfl (by rfl) (env := callEnv (ksFn "__init__" ql (erA q) (erB t1 k q) erS .none .none doc pm an (.ref cda) ct cc) hh.objs.size f) ns₃ (v := .str y tk) (by first | rfl | with_unfolding_all rfl | kernel_rfl) ?_)
    have sz : (Str.empty ++ t1 ++ y).length ≤ sizeLine := size_small (by rw [strLen_append, strLen_append]; show 0 + t1.length + y.length ≤ 2000000; omega)
    refine wpAny_formatField_str ⟨y, _, rfl, sz, ?_⟩ ⟨y, _, rfl, sz, ?_⟩ (size_small (by omega))
    all_goals refine ⟨sz, Calls.spliced_nil ⟨hmw, call_mw T (X₂.keeps kp₃) (kp₃ _ _ hx₂) hmw (size_small (by simp)) fun h₄ t₄ kp₄ hx₄ => ?_⟩⟩
    all_goals
      have xL : hh.objs.size ≠ x := hL
      have up₄ : ∀ b o, b ≠ x → h₁.get? b = some o → h₄.get? b = some o := fun b o hb e => kp₄ b o hb (kp₃ b o (kp₂ b o e))
      have X₄ : K.In h₄ := fun b o e => up₄ b o (fun z => by rw [z, nx] at e; cases e) (X₁ b o e)
      have ns₄ : h₄.Ns hh.objs.size fun y_1 => List.lookup y_1 [(Str.ofString "self", Value.ref x), (Str.ofString "part", Value.str y tk)].reverse := by
        obtain ⟨oL, es, ep, hoL, rest⟩ := hns
        exact ⟨oL, es, ep, up₄ _ _ xL hoL, rest⟩
      dsimp only
      refine wpAt_of_wpAny (wpAny_execs_cons (plainObj_wpAny_Assign_Attribute ?_))
      refine loads_local (p := q 13) rfl (by rfl) (env := callEnv (ksFn "__init__" ql (erA q) (erB t1 k q) erS .none .none doc pm an (.ref cda) ct cc) hh.objs.size f) ns₄ (v := .str y tk) (by first | rfl | with_unfolding_all rfl | kernel_rfl) ?_
      refine loads_local (p := q 11) rfl (by rfl) (env := callEnv (ksFn "__init__" ql (erA q) (erB t1 k q) erS .none .none doc pm an (.ref cda) ct cc) hh.objs.size f) ns₄ (v := .ref x) (by first | rfl | with_unfolding_all rfl | kernel_rfl) ?_
      refine set_plain X₄ (ox := HandSPX.excO C t₄) (od := none) ⟨hx₄, rfl, rfl, trivial⟩ T.sa ?_
      refine HandSPX.exc_osa X₄ hx₄ hcl (show HandSPX.refsVE (.ref C :: bm) = true from hbm) rfl T.noP fun h₅ tk₅ dx kp₅ dn dne hx₅ hn₅ => ?_
      refine wpAny_execs_nil (hq h₅ tk₅ dx t₄ ⟨fun b o hb e => kp₅ b o hb (up₄ b o hb (kp b o e)), hx₅, ?_, dne, hn₅⟩)
      have z : hh.objs.size < h₄.objs.size := ns₄.lt
      exact Nat.le_of_lt (Nat.lt_of_lt_of_le z dn)
end
end NK

/-! raise X(e) for such errors; a caught error kept as a value behind the try: its class, its field. -/
namespace NK
open PySem PySem.Spec PyProof.Rows PySem.W PySem.Calls L2

/-! ## the making -/
structure ErrMade (h h' : Heap) (e C d : Addr) (v : Value) : Prop where
  keep : ∀ b o, h.get? b = some o → h'.get? b = some o
  new : h.objs.size ≤ e
  obj : ∃ oe vs, h'.get? e = some oe ∧ oe.cls = .ref C ∧ oe.dict = some d ∧ oe.data = .fields vs ∧ vs[1]? = some .none
  big : h.objs.size ≤ d
  ne : d ≠ e
  ns : h'.Ns1 d (fun y => if y = "part" then some v else none)
section
variable {prog : Program} {w : World} {A : Around} {R : Result → Shared → Prop} {s : Shared} {K : Frag} {C f : Addr} {mg mb : Str → Option Value}
theorem err_made (T : ErrC prog K C f) {y : Str} {tk : Tok} (X : K.In s.heap) (hlim : s.heap.NoLimit) (gl : s.heap.Ns mainGlobals mg) (bl : s.heap.Ns builtinsNs mb) (ms : mg "super" = none) (bb : mb "super" = some (.type "super")) (hroom : A.depth + 1 < recursionLimit) (hy : y.length ≤ 1000000)
    (hq : ∀ h' tk' e d, ErrMade s.heap h' e C d (.str y tk) → R (.ok (.ret (.ref e))) { s with heap := h', toks := tk' }) :
    codeAny (model prog w) A (.call (.ref C) ⟨[.str y tk], []⟩) R s := by
  obtain ⟨nm, qn, N, bs, bm, sn, sub, ab, col, dd, k0, k1, k2, k3, k5, hC, hbm⟩ := T.cls
  obtain ⟨hp, g, dr, tk0, os⟩ := s
  have up : ∀ b o, hp.get? b = some o → ((hp.push (kdv_tup [.str y tk])).push (HandSPX.excO C hp.objs.size)).get? b = some o := fun b o e => Heap.get?_push_of_some _ (Heap.get?_push_of_some _ e)
  have there : ((hp.push (kdv_tup [.str y tk])).push (HandSPX.excO C hp.objs.size)).get? (hp.objs.size + 1) = some (HandSPX.excO C hp.objs.size) := by heap_get
  have nx : K.lookup (hp.objs.size + 1) = none := by
    cases e : K.lookup (hp.objs.size + 1) with
    | none => rfl
    | some o => exact absurd (Nat.lt_of_succ_lt (Heap.lt_size (show hp.get? (hp.objs.size + 1) = some o from X _ _ e))) (Nat.lt_irrefl _)
  refine HandSPX.call_own F.excBase_ValueError (fun Z => HandSPX.refsVE_contains Z bm hbm) (X _ _ hC) (looks_findIn X T.ini) (fun self => bind_fn X self T.tyF) (size_small (by simp)) ?_
  refine err_init (s := ⟨(hp.push (kdv_tup [.str y tk])).push (HandSPX.excO C hp.objs.size), g, dr, tk0, os⟩) T (X.keeps up) (hlim.keeps up) (gl.keeps up) (bl.keeps up) ms bb there nx (show A.depth + 1 < recursionLimit from hroom) hy fun h' tk' dx t1 M => ?_
  have z : hp.objs.size + 1 + 1 ≤ dx := by
    have q := M.big
    rw [Heap.size_push, Heap.size_push] at q
    exact q
  exact ⟨rfl, hq h' tk' (hp.objs.size + 1) dx ⟨fun b o e => M.keep b o (Nat.ne_of_lt (Nat.lt_succ_of_lt (Heap.lt_size e))) (up b o e), Nat.le_succ _, ⟨_, _, M.obj, rfl, rfl, rfl, rfl⟩, Nat.le_trans (Nat.le_trans (Nat.le_succ _) (Nat.le_succ _)) z, M.ne, M.ns⟩⟩
end

theorem relO_part {v : V} {u : Value} (r : RelV v u) (f : Str) : RelO (List.lookup f [(("part" : Str), v)]) (if f = "part" then some u else none) := by
  by_cases c : f = "part"
  · subst c
    rw [if_pos rfl, show List.lookup ("part" : Str) [(("part" : Str), v)] = some v by simp [List.lookup]]
    exact r
  · rw [if_neg c, show List.lookup f [(("part" : Str), v)] = none by simp [List.lookup, show (f == ("part" : Str)) = false by simpa using c]]
    trivial
section
variable {X : Cx} {C f : Addr} {a : Expr} {ta : TA} {W : WX} {x : Str} {p pos pos2 : Pos} {k : Nat}
def tMkE (C : Addr) (ta : TA) : L2.St → Hp → XK → Prop := fun σ H Q => ta σ H fun vs H1 => ∃ y : Str, vs = [.str y] ∧ y.length ≤ 1000000 ∧ ∀ d, H1 d = none → Q (.ref C) (some d) (upd H1 d (.xd [(("part" : Str), .str y)]))
theorem pmk_err (T : ErrC X.prog X.K C f) (hr : Room k X.A) (hg : Gl X x) (hm : X.mg x = some (.ref C)) (ms : X.mg "super" = none) (ha : PA X [a] ta) (hdb : (x == ("__debug__" : Str)) = false := by decide)
    (he : starEach (a :: []) X.env = (false, eval a X.env) :: starEach [] X.env := by rfl) (hpl : (backTo pos (starEach [] X.env)).any (·.1) = false := by rfl) :
    PMk X (.Call (.Name x p) [a] [] pos) (tMkE C ta) := by
  intro pins s σ H Q I h
  refine wpAny_Call_Name_kw (ld_glob I hg hm ?_ hdb)
  refine PySem.W.callWith_K (h₀ := X.base) I.ok.mod.kin T.kC (thn (ha.run pos pins s σ H _ I h) fun us s1 hh => ?_) he hpl
  obtain ⟨vs, H1, I1, r1, y, ev, hy, q1⟩ := hh
  subst ev
  refine ⟨I1.kIn, ?_⟩
  obtain ⟨u, rfl, tk, rfl⟩ := vals1 r1
  show wpAny _ _ (call (.ref C) [.str y tk]) _ _ _
  have hlim := I1.nolimit
  have gl1 := I1.mod.glob.keeps I1.bk
  obtain ⟨mb, bl0, bb0⟩ := I1.mod.blt
  have bl1 := bl0.keeps I1.bk
  have bb1 : mb "super" = some (.type "super") := (bb0 "super" (by decide)).trans (by decide +kernel)
  obtain ⟨hp, g, dr, tk1, os⟩ := s1
  refine wpAny_call (err_made T I1.kIn hlim gl1 bl1 ms bb1 (by have := hr.dp; omega) hy fun h' tk' e d M => ?_)
  show MkP X pins σ Q (.ref e) ⟨h', g, dr, tk', os⟩
  obtain ⟨oe, fv, hoe, hc, hd, hdat, h1⟩ := M.obj
  obtain ⟨G', g1, g2⟩ := restrict h' fun b => decide (b ≠ e)
  have off : ∀ b, b ≠ e → G'.get? b = h'.get? b := fun b hb => g1 b (decide_eq_true hb)
  have none_ : G'.get? e = none := g2 e (by simp)
  have old : ∀ b o, hp.get? b = some o → G'.get? b = some o := fun b o q => (off b (Nat.ne_of_lt (Nat.lt_of_lt_of_le (Heap.lt_size q) M.new))).trans (M.keep b o q)
  have J : Inv X pins σ (upd H1 d (.xd [(("part" : Str), .str y)])) ⟨G', g, dr, tk', os⟩ := I1.laid (t' := tk') old M.big ⟨_, M.ns.at (fun o q => (off d M.ne).trans q), fun z => relO_part (v := .str y) (u := .str y tk) ⟨tk, rfl⟩ z⟩
  refine ⟨e, oe, fv, ⟨G', g, dr, tk', os⟩, _, .ref C, some d, rfl, J, fun b o q => ?_, none_, hoe, ⟨hc, hd⟩, hdat, h1, ?_, rfl, I1.bare, raises_own T.exC T.tyC, q1 d (I1.hok.fresh M.big)⟩
  · by_cases hb : b = e
    · rw [hb, show G'.get? e = none from none_] at q
      cases q
    · exact (off b hb).symm.trans q
  · rw [upd_ne (Ne.symm M.ne)]
    exact I1.hok.fresh M.new
/-- raise X(e) -/
def tRaiseE (C : Addr) (W : WX) (ta : TA) : TS := fun _ σ H => tMkE C ta σ H fun cls d H' => W cls d σ H'
theorem ps_raiseE (hc : X.calm = true) (T : ErrC X.prog X.K C f) (hr : Room k X.A) (tk : Takes X W) (hg : Gl X x) (hm : X.mg x = some (.ref C)) (ms : X.mg "super" = none) (ha : PA X [a] ta) (hdb : (x == ("__debug__" : Str)) = false := by decide)
    (he : starEach (a :: []) X.env = (false, eval a X.env) :: starEach [] X.env := by rfl) (hpl : (backTo pos (starEach [] X.env)).any (·.1) = false := by rfl) :
    PS X (.Raise (some (.Call (.Name x p) [a] [] pos)) none pos2) (tRaiseE C W ta) := ps_raise hc tk (pmk_err T hr hg hm ms ha hdb he hpl)
end

/-! ## a caught error kept as a value -/
/-- at a: an error of the class cls with the dict d (raised, caught, not in flight any more) -/
def ExK (cls : Value) (d : Option Addr) (a : Addr) : HO := .ext fun h => ∃ (oe : Obj) (vs : Array Value), h.get? a = some oe ∧ Zc cls d oe ∧ oe.data = .fields vs
theorem exK_ok {P : Program} {w : World} {H : Hp} {h : Heap} {a : Addr} {cls : Value} {d : Option Addr} {oe : Obj} {vs : Array Value} (e : h.get? a = some oe) (z : Zc cls d oe) (q : oe.data = .fields vs) : ObjOk P w H h a (ExK cls d a) :=
  ⟨⟨oe, vs, e, z, q⟩, ⟨oe, e⟩, fun _ _ ⟨o, v, b, r⟩ k => ⟨o, v, k o b, r⟩⟩
theorem exK_at {P : Program} {w : World} {H : Hp} {h : Heap} {a : Addr} {cls : Value} {d : Option Addr} (hok : HOk P w H h) (e : H a = some (ExK cls d a)) : ∃ (oe : Obj) (vs : Array Value), h.get? a = some oe ∧ Zc cls d oe ∧ oe.data = .fields vs := by
  have z : ObjOk P w H h a (.ext fun h => ∃ (oe : Obj) (vs : Array Value), h.get? a = some oe ∧ Zc cls d oe ∧ oe.data = .fields vs) := hok a _ e
  exact z.1
section
variable {X : Cx} {pins : List (Addr × Obj)} {σ : L2.St} {H : Hp} {s : Shared}
/-- an object that stands, is not tracked and is new since the entry, is tracked from now on -/
theorem track {a : Addr} {o : HO} (I : Inv X pins σ H s) (na : H a = none) (n0 : X.s_0.heap.get? a = none) (nL : a ≠ X.env.locals) (nC : ∀ x c, X.env.cells.lookup x = some c → a ≠ c) (nP : ∀ p ∈ X.pn ++ pins, p.1 ≠ a)
    (new : ObjOk X.prog X.w (upd H a o) s.heap a o) : Inv X pins σ (upd H a o) s := by
  have same : ∀ {b : Addr} {u : HO}, H b = some u → upd H a o b = some u := fun {b u} e => by rw [upd_ne (ne_of_none e na)]; exact e
  refine ⟨I.ok, I.os, I.bare, ⟨I.base.keep, I.base.slot, fun b u e n hx => ?_, I.base.there, fun b xs e => same (I.base.tups b xs e), fun b u v e => same (I.base.frzs b u v e), fun b ps e => ?_⟩, I.loc, I.cell, ?_, fun x c e => ?_, fun p hp => ?_, fun b u e => ?_, I.len⟩
  · rw [upd_ne (fun z => by rw [z, n0] at e; cases e)]
    exact I.base.free b u e n hx
  · obtain ⟨m, q⟩ := I.base.tbls b ps e
    exact ⟨m, same q⟩
  · rw [upd_ne (Ne.symm nL)]
    exact I.free
  · rw [upd_ne (Ne.symm (nC x c e))]
    exact I.freeC x c e
  · obtain ⟨h1, h2, h3⟩ := I.pin p hp
    exact ⟨h1, by rw [upd_ne (nP p hp)]; exact h2, h3⟩
  · by_cases hb : b = a
    · subst hb
      rw [upd_same] at e
      cases e
      exact new
    · rw [upd_ne hb] at e
      exact (I.hok b u e).stay (fun _ _ _ q => q) (fun _ q => same q) fun _ _ q => same q
end

/-- what 'except x as n: m = n' wishes of an error of the body: slot i is n's, slot j is m's -/
def wKeep (K : Frag) (c : Value) (i j : Nat) (Wout : WX) (D : Ends) : WX := fun cls d σ H =>
  ∃ b, exmOne K cls c = some b ∧ (b = true → ∀ a, H a = none → D.nx (((σ.set i (some (.ref a))).set j (some (.ref a))).set i none) (upd H a (ExK cls d a))) ∧ (b = false → Wout cls d σ H)
section
variable {X : Cx} {x n m : Str} {c : Value} {i j : Nat} {body : List Stmt} {np p1 p2 p3 pos pos' : Pos} {tb : WX → TS} {Wout : WX}
theorem ps_try_keep (hs : X.stack = X.env :: X.outer) (hf : X.env.frame = some X.env.locals) (hex : X.ex = []) (hN : X.N.Nodup) (hi : X.N[i]? = some n) (hj : X.N[j]? = some m) (hln : X.env.kindOf n = some .local) (hlm : X.env.kindOf m = some .local) (hc : Names X x c) (tk : Takes X Wout)
    (hb : ∀ (W : WX) (pn : List (Addr × Obj)) (xe : Value → Shared → Prop), Takes (X.tr pn xe) W → PassesOwn (model X.prog X.w) X.A X.env xe → PSs (X.tr pn xe) body (tb W))
    (hdn : (n == ("__debug__" : Str)) = false := by decide) (hcn : (n == ("__classdict__" : Str)) = false := by decide) :
    PS X (.Try body [.ExceptHandler (some (.Name x np)) (some n) [.Assign [.Name m p1] (.Name n p2) p3] pos'] [] [] pos) (fun D σ H => tb (wKeep X.K c i j Wout D) D σ H) := by
  refine ⟨fun pins s σ H D I0 want => ?_⟩
  have ok := I0.ok
  have frs_ : X.A.frames = some (X.env :: X.outer) := by rw [ok.frames, hs]
  refine wpAny_Try_except (wpAny_mono ((hb (wKeep X.K c i j Wout D) (X.pn ++ pins) (fun er sA => wpAny (model X.prog X.w) X.A (noteFrame er X.env) (fun _ sB => wpAny (model X.prog X.w) X.A (setFlight er none)
    (fun _ sC => wpAny (model X.prog X.w) X.A (handleBy er X.env [.ExceptHandler (some (.Name x np)) (some n) [.Assign [.Name m p1] (.Name n p2) p3] pos']) (SP X pins D) X.xe sC) X.xe sB) X.xe sA) (fun u sT air => ?_) PassesOwn.looking).run [] s σ H D (I0.toTry _) want) (fun fl sE got => ?_) (fun er sE q => q))
  · obtain ⟨a, B, sI, pins1, σ1, H1, cls, d, rfl, J0, nb, up, sky, na, os, ag, b, hb1, yes, no⟩ := air
    have J : Inv X pins σ1 H1 sI := J0.ofTry ok
    have aI : sI.heap.get? a = none := by
      have aB : B.get? a = none := by
        rcases sky with z | z | z
        · exact z.2.1
        · exact z.2.1
        · exact z.2.1
      cases e : sI.heap.get? a with
      | none => rfl
      | some o =>
        refine absurd (nb a o e fun hm => ?_) (by rw [aB]; exact fun z => nomatch z)
        have ff : sT.heap.FunFrames B X.stack := by
          rcases sky with z | z | z
          · exact z.2.2.1
          · exact z.2.2.1
          · exact z.2.2.1
        have th : ∃ oe vs, sT.heap.get? a = some oe ∧ oe.data = .fields vs := by
          rcases sky with ⟨_, _, _, oe, vs, q1, _, q2, _⟩ | ⟨_, _, _, oe, vs, _, _, _, q1, _, q2, _⟩ | ⟨_, _, _, oe, vs, _, _, _, q1, _, q2, _⟩ <;> exact ⟨oe, vs, q1, q2⟩
        obtain ⟨oe, vs, q1, q2⟩ := th
        obtain ⟨_, o2, q3, nf⟩ := ff.mem hm
        rw [q1] at q3
        cases q3
        exact nf vs q2
    have a0 : X.s_0.heap.get? a = none := by
      cases e : X.s_0.heap.get? a with
      | none => rfl
      | some o =>
        obtain ⟨o2, q⟩ := J.base.there a o e (by rw [hex]; exact fun z => nomatch z)
        rw [aI] at q
        cases q
    have aP : ∀ p ∈ X.pn ++ pins, p.1 ≠ a := fun p hp z => by
      have q := (J.pin p hp).1
      rw [z, aI] at q
      cases q
    have aC : ∀ y e, X.env.cells.lookup y = some e → a ≠ e := fun y e q z => by
      obtain ⟨v, o, h1, _⟩ := J.cell y e q
      rw [← z, aI] at h1
      cases h1
    have skyE : Sky B (X.env :: X.outer) a (Zc cls d) X.env.locals sT.heap := by rw [← hs]; exact sky
    show wpAny (model X.prog X.w) X.A (noteFrame (.ref a) X.env) _ _ _
    refine Sky.land Zc.steady frs_ hf skyE fun g3 fl3 up3 => ?_
    have J3 : Inv X pins σ1 H1 { sT with heap := g3 } := J.landed nb fl3.1 (up.trans up3) os ag
    obtain ⟨oe3, vs3, at3, z3, d3⟩ := fl3.there
    have nfr : a ∉ frs (X.env :: X.outer) := fun hm => by
      obtain ⟨_, o2, q3, nf⟩ := fl3.2.2.1.mem hm
      rw [at3] at q3
      cases q3
      exact nf vs3 d3
    have nL : a ≠ X.env.locals := fun z => nfr (List.mem_filterMap.mpr ⟨X.env, List.mem_cons_self, by rw [hf, z]⟩)
    have nF : a ∉ X.fs := fun hm => by
      obtain ⟨e, he, q⟩ := List.mem_filterMap.mp hm
      exact nfr (List.mem_filterMap.mpr ⟨e, List.mem_cons_of_mem _ he, q⟩)
    have S3 := J3.suite at3 d3 na nL nF
    refine wpAny_handleBy_cons (codeAny_handlers_test ?_) (by intro q; cases q)
    have tyA : Looks (model X.prog X.w) g3 (typeOf (.ref a)) cls := fun A Q E s k q => wpAny_typeOf_ref (k _ _ at3) (by rw [z3.1]; exact q)
    have same := exm_one (M := model X.prog X.w) (J3.kIn) tyA hb1
    have ask : ∀ {Q : Value → Shared → Prop} {E : Value → Shared → Prop}, Q c { sT with heap := g3 } → wpAny (model X.prog X.w) (X.A.mark (some (.ref a))) (eval (.Name x np) X.env) Q E { sT with heap := g3 } := fun {Q E} q => by
      obtain ⟨hg, hdbg, hm | ⟨hm, hv, hnn⟩⟩ := hc
      · exact ld_glob (X := X.suite a ((a, oe3) :: (X.pn ++ pins))) S3 hg hm q hdbg
      · exact ld_blt (X := X.suite a ((a, oe3) :: (X.pn ++ pins))) S3 hg hm hv q hnn hdbg
    refine ask (same.here ?_)
    cases b with
    | true =>
      refine codeAny_handlers_suite_as (HandSPX.lands_againZ fl3 fun g4 fl4 up4 => ?_)
      have J4 : Inv X pins σ1 H1 { sT with heap := g4 } := J.landed nb fl4.1 ((up.trans up3).trans up4) os ag
      obtain ⟨oe4, vs4, at4, z4, d4⟩ := fl4.there
      have S4 := J4.suite at4 d4 na nL nF
      refine store_ok (X := X.suite a ((a, oe4) :: (X.pn ++ pins))) (v := .ref a) S4 hN hi (.inl hln) rfl (fun s5 S5 => ?_) (.inr hln)
      have lt : i < σ1.length := by
        rw [J.len]
        exact (List.getElem?_eq_some_iff.mp hi).1
      have suite : PSs (X.suite a ((a, oe4) :: (X.pn ++ pins))) [.Assign [.Name m p1] (.Name n p2) p3] (tAsg (tVar i) (gName j)) :=
        pss_one (ps_asg (pe_var hi (.inl hln) hdn hcn) (pg_name hN hj (.inl hlm) (.inr hlm)))
      refine wpAny_mono (suite.run [] s5 _ H1 { nx := fun σ6 H6 => σ6 = (σ1.set i (some (.ref a))).set j (some (.ref a)) ∧ H6 = H1, rt := fun _ _ => False, bk := fun _ _ => False, ct := fun _ _ => False } S5 ?_) (fun fl s6 hsp => ?_) (fun _ _ z => False.elim z)
      · exact ⟨.ref a, List.getElem?_set_self lt, rfl, rfl⟩
      · cases fl with
        | next =>
          obtain ⟨σ6, H6, S6, rfl, rfl⟩ := hsp
          have J6 : Inv X ((a, oe4) :: pins) ((σ1.set i (some (.ref a))).set j (some (.ref a))) H6 s6 :=
            ⟨ok, S6.os, S6.bare, S6.base, S6.loc, S6.cell, S6.free, S6.freeC, fun p hp => S6.pin p (by
              rcases List.mem_append.mp hp with q | q
              · exact List.mem_append_left _ (List.mem_cons_of_mem _ (List.mem_append_left _ q))
              · rcases List.mem_cons.mp q with q | q
                · rw [q]; exact List.mem_append_left _ List.mem_cons_self
                · exact List.mem_append_left _ (List.mem_cons_of_mem _ (List.mem_append_right _ q))), S6.hok, S6.len⟩
          refine gone_ok J6 hN hi hln fun s7 J7 => ?_
          obtain ⟨at7, na7, _⟩ := J7.pin (a, oe4) (List.mem_append_right _ List.mem_cons_self)
          have J8 : Inv X pins (((σ1.set i (some (.ref a))).set j (some (.ref a))).set i none) H6 s7 :=
            ⟨ok, J7.os, J7.bare, J7.base, J7.loc, J7.cell, J7.free, J7.freeC, fun p hp => J7.pin p (by
              rcases List.mem_append.mp hp with q | q
              · exact List.mem_append_left _ q
              · exact List.mem_append_right _ (List.mem_cons_of_mem _ q)), J7.hok, J7.len⟩
          exact ⟨_, _, track J8 na a0 nL aC aP (exK_ok at7 z4 d4), yes rfl a na⟩
        | brk => exact (fun ⟨_, _, _, q⟩ => False.elim q) hsp
        | cont => exact (fun ⟨_, _, _, q⟩ => False.elim q) hsp
        | ret u => exact (fun ⟨_, _, _, _, _, q⟩ => False.elim q) hsp
    | false =>
      show wpAny _ X.A (handleBy (.ref a) X.env []) _ _ _
      refine wpAny_handleBy_nil ?_
      obtain ⟨k1, k2, k3, oe, vs, T, oT, ts2, he, hz, hd, h1, hr⟩ := id fl3
      unfold PySem.passOn
      refine wpAny_bind (wpAny_field he hd h1 ?_)
      rw [if_neg (show ¬ ((Value.ref T == Value.none) = true) by simp)]
      have on : wpAny (model X.prog X.w) X.A (setFlight (.ref a) X.env.frame) (fun _ sF => wpAny (model X.prog X.w) X.A (throw (.ref a) : Sem Flow) (SP X pins D) X.xe sF) X.xe { sT with heap := g3 } := by
        rw [hf]
        refine HandSPX.setFlight_upZ fl3 fun g4 hh4 up4 => wpAny_throw (tk _ _ ?_)
        exact ⟨a, B, sI, pins, σ1, H1, cls, d, rfl, J, nb, (up.trans up3).trans up4, .inr (.inr (by rw [hs]; exact hh4)), na, os, ag, no rfl⟩
      first | exact wpAny_bind (wpAny_pure (wpAny_bind on)) | exact wpAny_bind on
  · cases fl with
    | next =>
      obtain ⟨σ1, H1, J1, q⟩ := got
      exact wpAny_execs_nil ⟨σ1, H1, J1.ofTry ok, q⟩
    | brk => exact (fun ⟨σ1, H1, J1, q⟩ => ⟨σ1, H1, J1.ofTry ok, q⟩) got
    | cont => exact (fun ⟨σ1, H1, J1, q⟩ => ⟨σ1, H1, J1.ofTry ok, q⟩) got
    | ret u => exact (fun ⟨v, σ1, H1, J1, r, q⟩ => ⟨v, σ1, H1, J1.ofTry ok, r, q⟩) got
end
end NK

/-! isinstance of a kept error, its field. -/
namespace NK
open PySem PySem.Spec PyProof.Rows PySem.W PySem.Calls L2

section
variable {prog : Program} {w : World} {A : Around} {E : Value → Shared → Prop} {s : Shared} {K : Frag} {x D : Addr} {ox : Obj} {odx : Option Obj}
theorem findObj_cls {C : Addr} {od : Option Obj} {name : Str} {a g : Value} (hc : (clsIn K C).isSome = true) (ha : findIn K (.ref C) name = some (some a)) (hg : specialIn K a "__get__" = some (some g)) (ht : takesIn K a = some true) : findObj K C od name = some (.bind g a) := by
  obtain ⟨cd, e⟩ := Option.isSome_iff_exists.mp hc
  unfold findObj
  rw [e, Option.bind_some, ha, Option.bind_some]
  simp [hg, ht]
/-- e.__class__ -/
theorem exc_class (T : ExcC K D) {Q : Option Value → Shared → Prop} (X : K.In s.heap) (I : InstAt s.heap x ox D odx) (h : Q (some (.ref D)) { s with toks := s.toks + 1 }) : wpAny (model prog w) A (getAttr? (.ref x) "__class__") Q E s := by
  have found : findObj K D odx "__class__" = some (.bind (.builtin "getset_descriptor.__get__") (.builtin "object.__class__")) := findObj_cls (by obtain ⟨cd, hc, _⟩ := any_some T.hd; rw [hc]; rfl) T.ha T.hn T.ht
  obtain ⟨hp, g, d, t, os⟩ := s
  have k0 := I.type (M := model prog w)
  have k1 := looks_findIn (M := model prog w) X T.hg
  have k2 := looks_findIn (M := model prog w) X T.hk
  have k3 := looks_find (M := model prog w) X I found
  have isB : Looks (model prog w) hp (isInstance (.ref x) (.type "BaseException")) true := k0.andThen (looks_subIn X T.hs)
  have n2 : (Value.builtin "BaseException.__getattribute__" == Value.builtin "object.__getattribute__") = false := by decide +kernel
  have n1 : (onTheHeap (Value.ref D) && Value.builtin "BaseException.__getattribute__" == Value.builtin "object.__getattribute__") = false := by rw [n2]; rfl
  unfold getAttr? getAttrBy? getAttrBy
  refine wpAny_bind (wpAny_mkText (wpAny_bind (wpAny_attempt (wpAny_holding (wpAny_bind (k0.at (wpAny_bind (k1.at ?_))))))))
  show wpAny _ _ (if (onTheHeap (Value.ref D) && Value.builtin "BaseException.__getattribute__" == Value.builtin "object.__getattribute__") = true then _ else _) _ _ _
  rw [n1, if_neg Bool.false_ne_true]
  unfold getAttrByItsOwn hookBefore
  refine wpAny_bind ?_
  rw [if_pos (show onTheHeap (Value.ref D) = true from rfl)]
  refine k2.at (wpAny_bind (wpAny_attempt (wpAny_holding ?_)))
  unfold callGetattribute
  rw [show (false && onTheHeap (Value.builtin "BaseException.__getattribute__")) = false from rfl, if_neg Bool.false_ne_true]
  unfold boundAndCalled
  rw [F.excAttr_ValueError.ga.bind (.ref x)]
  refine wpAny_bind (wpAny_pure ?_)
  show wpAny _ _ (call (.builtin "BaseException.__getattribute__") [.ref x, .str "__class__" t]) _ _ _
  refine wpAny_call (codeAny_call_builtin F.excAttr_ValueError.ga.plain F.entry_bexc_ga ?_)
  refine @check_slot (model prog w) _ _ ⟨hp, g, d, t + 1, os⟩ "BaseException.__getattribute__" "BaseException" "__getattribute__" (.ref x) [.str "__class__" t] [] _ (by decide +kernel) (by decide +kernel) isB (F.args_bexc_ga (.ref x) (.str "__class__" t)) ?_
  unfold Builtin.«object.__getattribute__»
  refine wpAny_bind (wpAny_of_eq (a := ((Value.ref x : Value), [Value.str "__class__" t])) (by first | rfl | (simp only [slotArgs]; rfl)) (wpAny_bind (wpAny_pure (wpAny_bind (k0.at (wpAny_bind (k3.at ?_)))))))
  show wpAny _ _ (holding [Value.builtin "object.__class__"] (call (.builtin "getset_descriptor.__get__") [.builtin "object.__class__", .ref x, .ref D]) >>= ret) _ _ _
  refine wpAny_bind (wpAny_holding (wpAny_call (class_get (s := ⟨hp, g, d, t + 1, os⟩) (ox := ox) (od := odx) X I T.hm (wpAny_pure ?_))))
  show wpAny _ _ (handedOut (.ref D)) _ _ _
  rw [handedOut_of (v := .ref D) rfl]
  first | exact wpAny_pure (wpAny_pure h) | exact wpAny_pure h | exact wpAny_pure (wpAny_bind (wpAny_pure (wpAny_pure h)))
theorem kitx_err (T : ExcC K D) : KitX K (.ref x) (.ref D) (fun h => InstAt h x ox D odx) where
  ty := fun _ _ _ I => I.type
  it := fun _ _ X _ => by
    obtain ⟨cd, e, _⟩ := any_some T.hd
    unfold clsIn at e
    split at e
    · rename_i ho
      intro A2 Q2 E2 s2 kp q
      unfold isType loadHead
      exact wpAny_bind (wpAny_loadPart (kp _ _ (X _ _ ho)) (wpAny_pure q))
    · cases e
  ne := fun h tp dd its n sl X htp => by
    obtain ⟨cd, e, _⟩ := any_some T.hd
    refine Bool.eq_false_iff.mpr fun q => ?_
    cases Value.ref.inj (beq_iff_eq.mp q)
    unfold clsIn at e
    split at e
    · rename_i ho
      cases (X _ _ ho).symm.trans htp
    · cases e
  ca := fun X I k => exc_class T X I k
end

/-- the kept error at a: of the class at D, its fields fs -/
def Kept (H : Hp) (a D : Addr) (fs : List (Str × V)) : Prop := ∃ dd : Addr, H a = some (ExK (.ref D) (some dd) a) ∧ H dd = some (.xd fs)
theorem Kept.inst {X : Cx} {pins : List (Addr × Obj)} {σ : L2.St} {H : Hp} {s : Shared} {a D : Addr} {fs : List (Str × V)} (k : Kept H a D fs) (I : Inv X pins σ H s) : ∃ (oe od : Obj) (dd : Addr) (mA : Str → Option Value), InstAt s.heap a oe D (some od) ∧ s.heap.Ns1 dd mA ∧ s.heap.get? dd = some od ∧ ∀ f, RelO (fs.lookup f) (mA f) := by
  obtain ⟨dd, h1, h2⟩ := k
  obtain ⟨oe, vs, ha, hz, hd⟩ := exK_at I.hok h1
  obtain ⟨mA, hns, hr⟩ : ObjOk X.prog X.w H s.heap dd (.xd fs) := I.hok dd _ h2
  obtain ⟨od, ho, hl⟩ := lookIn_ns hns
  exact ⟨oe, od, dd, mA, ⟨ha, hz.1, by unfold notCls; rw [hd] <;> rfl, by rw [hz.2]; exact ho⟩, hns, ho, hr⟩
/-- isinstance(x, C): an error that was kept, or any other value -/
def rIsE (K : Frag) : List V → Hp → VK → Prop := fun xs H Q => L2.rIsi K xs H Q ∨ ∃ (a D C : Addr) (fs : List (Str × V)) (b : Bool), xs = [.ref a, .ref C] ∧ Kept H a D fs ∧ ExcC K D ∧ kitOne K (.ref D) (.ref C) = some b ∧ Q (.bl b) H
section
variable {X : Cx}
theorem c_isE : CallR X (.builtin "isinstance") (rIsE X.K) := by
  intro pins s σ H xs us Q I r h
  rcases h with h | ⟨a, D, C, fs, b, rfl, k, T, e, q⟩
  · exact call_isi pins s σ H xs us Q I r h
  · obtain ⟨u1, u2, rfl, r1, r2⟩ := vals2 r
    cases (show u1 = Value.ref a from r1)
    cases (show u2 = Value.ref C from r2)
    obtain ⟨oe, od, dd, mA, J, _⟩ := k.inst I
    exact kia_one (kitx_err T) I.kIn J e (fun z => nomatch z) fun tk => ⟨.bl b, H, I.tok tk, rfl, q⟩
/-- x.f of a kept error -/
def tXk (K : Frag) (f : Str) (te : TE) : TE := fun σ H Q => te σ H fun x H1 => ∃ (a D : Addr) (fs : List (Str × V)) (v : V), x = .ref a ∧ Kept H1 a D fs ∧ ExcC K D ∧ findIn K (.ref D) f = some none ∧ fs.lookup f = some v ∧ Q v H1
theorem pe_xk {e : Expr} {te : TE} {f : Str} {pos : Pos} (he : PE X e te) (hb : attributeBase e f X.env (eval e X.env) = eval e X.env := by rfl) : PE X (.Attribute e f pos) (tXk X.K f te) := by
  refine ⟨fun pins s σ H Q I h => attr_of hb (thn (he.run pins s σ H _ I h) fun u s1 hh => ?_)⟩
  obtain ⟨x, H1, I1, rx, a, D, fs, v, rfl, k, T, hno, l, q⟩ := hh
  cases (show u = Value.ref a from rx)
  obtain ⟨dd, h1, h2⟩ := k
  obtain ⟨oe, vs, ha, hz, hd⟩ := exK_at I1.hok h1
  obtain ⟨mA, hns, hr⟩ : ObjOk X.prog X.w H1 s1.heap dd (.xd fs) := I1.hok dd _ h2
  obtain ⟨od, ho, hl⟩ := lookIn_ns hns
  obtain ⟨u, hu, ru⟩ := RelO.some_of (v := v) (o := mA f) (by rw [← l]; exact hr f)
  have J : InstAt s1.heap a oe D (some od) := ⟨ha, hz.1, by unfold notCls; rw [hd] <;> rfl, by rw [hz.2]; exact ho⟩
  exact HandSPX.exc_get I1.kIn J T.hg T.hk T.hs (findObj_own T.hd hno rfl (by rw [hl, hu])) (handed_of ru) ⟨v, H1, I1.tok _, ru, q⟩
end
end NK

/-! x(lambda: e), x(lambda a=0: e): a lambda handed to a def of the text that calls it. -/
namespace NK
open PySem PySem.Spec PyProof.Rows PySem.W PySem.Calls L2 LamX

abbrev lamFn (q : Str) (params : Arguments) (body : Expr) (scope : Scope) (cl : List (Str × Addr)) (dV pm cdv ct : Value) : FuncData :=
  { name := "<lambda>", qualname := q, params := params, body := .expr body, scope := scope, globals := mainGlobals, closure := cl, defaults := dV, kwdefaults := .none, doc := .none, pyModule := pm, annotations := none, code := cdv, closureTuple := ct, builtins := builtinsNs }
abbrev lamO (q : Str) (params : Arguments) (body : Expr) (scope : Scope) (cl : List (Str × Addr)) (dV pm : Value) (c' : Addr) (ct : Value) : Obj := { cls := .type "function", data := .func (lamFn q params body scope cl dV pm (.ref c') ct) }
/-- its parameters: none, or one with a whole number as its default -/
inductive LamDef (env : Env) (params : Arguments) : List (Str × Int) → Prop where
  | no (h : defaultsOf params env = ([], [])) (hb : ∀ (q : Str) (body : Expr) (scope : Scope) (cl : List (Str × Addr)) (pm cv ct : Value), bindArgs (lamFn q params body scope cl .none pm cv ct) ⟨[], []⟩ = pure []) : LamDef env params []
  | one (a : Str) (c : Int) (k : Nat) (p : Pos) (h : defaultsOf params env = ([eval (.Constant (.int c) k p) env], []))
      (hb : ∀ (q : Str) (body : Expr) (scope : Scope) (cl : List (Str × Addr)) (T : Addr) (pm cv ct : Value) (t : Tok), ∃ kk, bindArgs (lamFn q params body scope cl (.ref T) pm cv ct) ⟨[], []⟩ = seqItems? (.ref T) >>= kk ∧ kk (some #[.int c t]) = pure [(a, .int c t)]) : LamDef env params [(a, c)]
/-- where the default stands -/
def DfAt (fs : List Addr) (dV : Value) (ds : List (Str × Int)) (h : Heap) (H : Hp) : Prop := (ds = [] ∧ dV = .none) ∨ ∃ (T : Addr) (a : Str) (c : Int) (t : Tok), ds = [(a, c)] ∧ dV = .ref T ∧ h.get? T = some (kdv_tup [.int c t]) ∧ H T = none ∧ T ∉ fs

section
variable {M : Model} {A : Around} {E : Value → Shared → Prop} {s : Shared} {q : Str} {params : Arguments} {body : Expr} {scope : Scope} {env : Env} {c P : Addr} {ps : Array Value} {pos : Pos} {ln : Nat} {mg : Str → Option Value} {cl : List (Str × Addr)} {dV : Value} {Q : Value → Shared → Prop}
theorem tail_new (hcl : closureFor scope env = pure cl) (hge : env.globals = mainGlobals) (hg : s.heap.Ns mainGlobals mg) (hcode : env.code = .ref c) (C : CodeHd s.heap c P) (hP : s.heap.get? P = some (tabObj ps)) (ht : TriplesOk ps.toList) (nf : codeAmong pos ps.toList = none) (gP : mainGlobals ≠ P) (hb : s.heap.BuiltinsAt mg P)
    (h : ∀ c' ctv h' tk, Heap.ExtBut P s.heap h' → s.heap.objs.size ≤ c' → c' < h'.objs.size → h'.CodeRec (.ref c') q → h'.get? P = some (tabObj (ps ++ #[rawInt pos.line, rawInt pos.col, .ref c'])) → Q (.ref h'.objs.size) { s with heap := h'.push (lamO q params body scope cl dV ((mg "__name__").getD .none) c' ctv), toks := tk }) :
    wpAny M A (makeTail "<lambda>" q params (.expr body) scope env dV .none none pos ln) Q E s := by
  obtain ⟨bm, ob, b1, b2, _, b4, b5, b6, b7, b8⟩ := hb
  unfold makeTail
  rw [hcl, hge]
  refine wpAny_bind (wpAny_pure ?_)
  cases cl with
  | nil =>
    simp only [List.isEmpty_nil, if_true]
    refine wpAny_bind (wpAny_pure (wpAny_bind (wpAny_functionCodeX hcode (C.code hP ht) (C.tab hP) nf fun c' h' tk hx ge lt _ rec_ tb _ => ?_)))
    have g2 := hg.extBut hx gP
    exact wpAny_bind (wpAny_builtinsFor g2 b1 b2 (hx _ _ b4 b5) b6 b7 b8 (wpAny_bind (wpAny_nsGet g2 (wpAny_bind (wpAny_pure (wpAny_newObj_type (h c' .none h' tk hx ge lt rec_ tb.2) (by size_fits)))))))
  | cons z zs =>
    simp only [List.isEmpty_cons, Bool.false_eq_true, if_false]
    refine wpAny_bind (wpAny_newTextTuple ?_)
    have up : ∀ {o : Obj} {b u}, s.heap.get? b = some u → (s.heap.push o).get? b = some u := fun e => Heap.get?_push_of_some _ e
    refine wpAny_bind (wpAny_functionCodeX hcode ((C.keeps fun b o e => up e).code (up hP) ht) ((C.keeps fun b o e => up e).tab (up hP)) nf fun c' h' tk hx ge lt _ rec_ tb _ => ?_)
    have g2 := (hg.push _).extBut hx gP
    have hx2 : Heap.ExtBut P s.heap h' := fun b o n e => hx b o n (up e)
    refine wpAny_bind (wpAny_builtinsFor g2 b1 b2 (hx2 _ _ b4 b5) b6 b7 b8 (wpAny_bind (wpAny_nsGet g2 (wpAny_bind (wpAny_pure (wpAny_newObj_type (h c' _ h' tk hx2 (Nat.le_trans ?_ ge) lt rec_ tb.2) (by size_fits)))))))
    rw [Heap.size_push]
    omega
theorem tail_hit {cv : Value} (hcl : closureFor scope env = pure cl) (hge : env.globals = mainGlobals) (hg : s.heap.Ns mainGlobals mg) (hcode : env.code = .ref c) (C : CodeHd s.heap c P) (hP : s.heap.get? P = some (tabObj ps)) (ht : TriplesOk ps.toList) (hf : codeAmong pos ps.toList = some cv) (hb : s.heap.BuiltinsAt mg P)
    (h : ∀ (ctv : Value) (h' : Heap) (tk : Tok), (∀ b o, s.heap.get? b = some o → h'.get? b = some o) → s.heap.objs.size ≤ h'.objs.size → Q (.ref h'.objs.size) { s with heap := h'.push { cls := .type "function", data := .func (lamFn q params body scope cl dV ((mg "__name__").getD .none) cv ctv) }, toks := tk }) :
    wpAny M A (makeTail "<lambda>" q params (.expr body) scope env dV .none none pos ln) Q E s := by
  obtain ⟨bm, ob, b1, b2, _, b4, b5, b6, b7, b8⟩ := hb
  unfold makeTail
  rw [hcl, hge]
  refine wpAny_bind (wpAny_pure ?_)
  cases cl with
  | nil =>
    simp only [List.isEmpty_nil, if_true]
    exact wpAny_bind (wpAny_pure (wpAny_bind (wpAny_functionCode_hit hcode (C.code hP ht) hf (wpAny_bind (wpAny_builtinsFor hg b1 b2 b5 b6 b7 b8 (wpAny_bind (wpAny_nsGet hg (wpAny_bind (wpAny_pure (wpAny_newObj_type (h .none s.heap s.toks (fun _ _ e => e) (Nat.le_refl _)) (by size_fits)))))))))))
  | cons z zs =>
    simp only [List.isEmpty_cons, Bool.false_eq_true, if_false]
    refine wpAny_bind (wpAny_newTextTuple ?_)
    have up : ∀ {o : Obj} {b u}, s.heap.get? b = some u → (s.heap.push o).get? b = some u := fun e => Heap.get?_push_of_some _ e
    refine wpAny_bind (wpAny_functionCode_hit hcode ((C.keeps fun b o e => up e).code (up hP) ht) hf (wpAny_bind (wpAny_builtinsFor (hg.push _) b1 b2 (up b5) b6 b7 b8 (wpAny_bind (wpAny_nsGet (hg.push _) (wpAny_bind (wpAny_pure (wpAny_newObj_type (h _ _ s.toks (fun b o e => up e) ?_) (by size_fits)))))))))
    rw [Heap.size_push]
    omega
end

section
variable {X : Cx} {pins : List (Addr × Obj)} {σ : L2.St} {H HZ : Hp} {s s1 : Shared}
/-- the lambda is made -/
theorem lam_made {T : List (Addr × Str)} {c P : Addr} {params : Arguments} {body : Expr} {scope : Scope} {pos : Pos} {E : Value → Shared → Prop} {Q : Value → Shared → Prop} {ds : List (Str × Int)} (I : Inv X pins σ H s) (TB : TabB X.base X.mg c P) (hcode : X.env.code = .ref c) (hm : (P, X.env.qual ++ "<lambda>") ∈ T)
    (hu : ∀ p ∈ T, p.1 = P → p.2 = X.env.qual ++ "<lambda>") (hT : Tabs T H) (df : LamDef X.env params ds) (hfree : ∀ y ∈ scope.names, y.2 = .free → ∃ c, X.env.cells.lookup y.1 = some c)
    (h : ∀ (f c' : Addr) (dV pm ctv : Value) (H1 : Hp) (s' : Shared), Inv X pins σ H1 s' → ExtN H H1 → Tabs T H1 → s'.heap.get? f = some (lamO (X.env.qual ++ "<lambda>") params body scope (cloFrom X.env.cells scope.names []) dV pm c' ctv) → H1 f = none → f ∉ frs X.stack →
      H1 c' = some (CodeO c' (X.env.qual ++ "<lambda>")) → DfAt (frs X.stack) dV ds s'.heap H1 → Q (.ref f) s') :
    wpAny (model X.prog X.w) X.A (eval (.Lambda params body scope pos) X.env) Q E s := by
  -- what follows the defaults
  have rest : ∀ (dV : Value) (s0 : Shared), Inv X pins σ H s0 → DfAt (frs X.stack) dV ds s0.heap H → wpAny (model X.prog X.w) X.A (makeTail "<lambda>" (X.env.qual ++ "<lambda>") params (.expr body) scope X.env dV .none none pos pos.line) Q E s0 := fun dV s0 I0 at0 => by
    obtain ⟨ps, hP, ht, ha⟩ := hT _ hm
    have bP : s0.heap.BuiltinsAt X.mg P := TB.bm.keeps I0.bk
    have atP : s0.heap.get? P = some { cls := .none, data := .fields ps } := I0.hok P _ hP
    have nofr : ∀ f, s0.heap.objs.size ≤ f → f ∉ frs X.stack := fun f hf z => by
      rcases List.mem_cons.mp (I0.stkSub _ z) with e | e
      · have lt := I0.lt
        rw [← e] at lt
        exact absurd (Nat.lt_of_lt_of_le lt hf) (Nat.lt_irrefl _)
      · exact I0.nofs hf e
    have keepD : ∀ {h' : Heap} {H' : Hp}, (∀ b o, b ≠ P → s0.heap.get? b = some o → h'.get? b = some o) → (∀ b, (∃ o, s0.heap.get? b = some o) → H b = none → H' b = none) → DfAt (frs X.stack) dV ds h' H' := fun {h' H'} k n => by
      rcases at0 with z | ⟨U, a, c0, t, e1, e2, e3, e4, e5⟩
      · exact .inl z
      · exact .inr ⟨U, a, c0, t, e1, e2, k _ _ (fun z => by rw [z, hP] at e4; cases e4) e3, n _ ⟨_, e3⟩ e4, e5⟩
    cases hc : codeAmong pos ps.toList with
    | none =>
      refine tail_new (mg := X.mg) (c := c) (P := P) (ps := ps) (closure_ok hfree) I0.ok.glob (I0.mod.glob.keeps I0.bk) hcode (TB.code.keeps I0.bk) atP ht hc TB.gP bP fun c' ctv h' tk hx ge lt rec_ tb => ?_
      obtain ⟨c2, oc, vs, t, e2, oc1, oc2, oc3⟩ := rec_
      cases e2
      have nC : H c' = none := I0.hok.fresh ge
      have J := inv_table (t' := tk) (more := #[rawInt pos.line, rawInt pos.col, .ref c']) (h' := h'.push (lamO (X.env.qual ++ "<lambda>") params body scope (cloFrom X.env.cells scope.names []) dV ((X.mg "__name__").getD .none) c' ctv)) I0 hP
        (fun b o n e => Heap.get?_push_of_some _ (hx b o n e)) (Heap.get?_push_of_some _ tb) ge ⟨oc, vs, t, Heap.get?_push_of_some _ oc1, oc2, oc3⟩
      have ext : ExtN H (upd (upd H P (.tbl (ps ++ #[rawInt pos.line, rawInt pos.col, .ref c']))) c' (CodeO c' (X.env.qual ++ "<lambda>"))) := fun b o e n => by
        rw [upd_ne (ne_of_none e nC), upd_ne (fun z => n ps (Option.some.inj (e.symm.trans (by rw [z]; exact hP))))]
        exact e
      have big := Nat.le_trans ge (Nat.le_of_lt lt)
      have toL : (ps ++ #[rawInt pos.line, rawInt pos.col, .ref c']).toList = ps.toList ++ [rawInt pos.line, rawInt pos.col, .ref c'] := by simp
      refine h h'.objs.size c' dV _ ctv _ _ J ext (fun p hp => ?_) (Heap.get?_push_size _ rfl) ?_ (nofr _ big) upd_same (keepD (fun b o n e => Heap.get?_push_of_some _ (hx b o n e)) fun b z n => ?_)
      · by_cases hb : p.1 = P
        · rw [hu p hp hb, hb]
          refine ⟨_, by rw [upd_ne (ne_of_none hP nC), upd_same], by rw [toL]; exact TriplesOk_snoc _ _ _ _ ht, fun p2 cv e => ?_⟩
          rw [toL] at e
          rcases among_app _ ht e with z | z
          · obtain ⟨c0, e1, e2⟩ := ha p2 cv z
            exact ⟨c0, e1, ext _ _ e2 codeO_ne⟩
          · exact ⟨c', z, upd_same⟩
        · obtain ⟨ps2, a1, a2, a3⟩ := hT p hp
          refine ⟨ps2, by rw [upd_ne (ne_of_none a1 nC), upd_ne hb]; exact a1, a2, fun p2 cv e => ?_⟩
          obtain ⟨c0, e1, e2⟩ := a3 p2 cv e
          exact ⟨c0, e1, ext _ _ e2 codeO_ne⟩
      · rw [upd_ne (Nat.ne_of_gt lt), upd_ne (Nat.ne_of_gt (Nat.lt_of_lt_of_le (Heap.lt_size atP) big))]
        exact I0.hok.fresh big
      · obtain ⟨o, e⟩ := z
        rw [upd_ne (fun z => by rw [z] at e; exact Nat.lt_irrefl _ (Nat.lt_of_lt_of_le (Heap.lt_size e) ge)), upd_ne (fun z => by rw [z, hP] at n; cases n)]
        exact n
    | some cv =>
      obtain ⟨c', e, hco⟩ := ha pos cv hc
      subst e
      refine tail_hit (mg := X.mg) (c := c) (P := P) (ps := ps) (closure_ok hfree) I0.ok.glob (I0.mod.glob.keeps I0.bk) hcode (TB.code.keeps I0.bk) atP ht hc bP fun ctv h' tk hx big => ?_
      have J : Inv X pins σ H { s0 with heap := h'.push (lamO (X.env.qual ++ "<lambda>") params body scope (cloFrom X.env.cells scope.names []) dV ((X.mg "__name__").getD .none) c' ctv), toks := tk } := I0.kept fun b o e => Heap.get?_push_of_some _ (hx b o e)
      exact h h'.objs.size c' dV _ ctv H _ J (ExtN.refl H) hT (Heap.get?_push_size _ rfl) (I0.hok.fresh big) (nofr _ big) hco (keepD (fun b o _ e => Heap.get?_push_of_some _ (hx b o e)) fun b _ n => n)
  rw [arm_eval_Lambda]
  cases df with
  | no hd hb =>
    rw [hd]
    refine wpAny_bind (wpAny_pure (wpAny_bind (wpAny_holding (wpAny_pure ?_))))
    rw [makeFunction_eq]
    simp only [List.zip_nil_right, List.filterMap_nil, List.isEmpty_nil, if_true, pure_bind]
    exact rest .none s I (.inl ⟨rfl, rfl⟩)
  | one a c0 k p hd hb =>
    rw [hd]
    have one_ : wpAny (model X.prog X.w) X.A (evalAll [eval (.Constant (.int c0) k p) X.env]) (fun dv s0 => ∃ t, dv = [.int c0 t] ∧ Inv X pins σ H s0) E s := by
      show wpAny _ _ (do let v ← eval (.Constant (.int c0) k p) X.env; let vs ← holding [v] (evalAll []); pure (v :: vs)) _ _ _
      refine wpAny_bind (wpAny_Constant_int ?_)
      exact wpAny_bind (wpAny_holding (wpAny_pure (wpAny_pure ⟨_, rfl, I.tok _⟩)))
    refine wpAny_bind (wpAny_mono one_ (fun dv s0 z => ?_) fun _ _ z => z)
    obtain ⟨t, rfl, I0⟩ := z
    refine wpAny_bind (wpAny_holding (wpAny_pure ?_))
    rw [makeFunction_eq]
    simp only [List.zip_nil_right, List.filterMap_nil, List.isEmpty_nil, List.isEmpty_cons, Bool.false_eq_true, if_false, if_true, pure_bind]
    refine wpAny_bind (wpAny_newTextTuple ?_)
    have big := Nat.le_refl s0.heap.objs.size
    have nofr : s0.heap.objs.size ∉ frs X.stack := fun z => by
      rcases List.mem_cons.mp (I0.stkSub _ z) with e | e
      · have lt := I0.lt
        rw [← e] at lt
        exact absurd lt (Nat.lt_irrefl _)
      · exact I0.nofs big e
    exact rest (.ref s0.heap.objs.size) _ (I0.kept (h' := s0.heap.push (kdv_tup [.int c0 t])) (t' := s0.toks) fun b o e => Heap.get?_push_of_some _ e) (.inr ⟨_, a, c0, t, rfl, rfl, Heap.get?_push_size _ rfl, I0.hok.fresh big, nofr⟩)
end

/-! ## the lambda called -/
/-- its names: parameters that the maker does not know, captured ones, globals -/
structure LamN (N : List Str) (sc scope : Scope) (ds : List (Str × Int)) : Prop where
  kind : scope.kind = .function
  co : scope.isCoroutine = false
  gen : scope.isGenerator = false
  own : ∀ y ∈ scope.names, y.2 ≠ .cell ∧ (y.2 = .local → y.1 ∉ N)
  par : ∀ d ∈ ds, scope.names.lookup d.1 = some .local
  free : ∀ y ∈ scope.names, y.2 = .free → sc.names.lookup y.1 = some .cell ∨ sc.names.lookup y.1 = some .free
def lamNB (N : List Str) (sc scope : Scope) (ds : List (Str × Int)) : Bool :=
  decide (scope.kind = .function) && !scope.isCoroutine && !scope.isGenerator && (scope.names.all fun y => !decide (y.2 = .cell) && (!decide (y.2 = .local) || !N.contains y.1) && (!decide (y.2 = .free) || decide (sc.names.lookup y.1 = some .cell) || decide (sc.names.lookup y.1 = some .free))) && ds.all fun d => decide (scope.names.lookup d.1 = some .local)
theorem lamN_by {N : List Str} {sc scope : Scope} {ds : List (Str × Int)} (h : lamNB N sc scope ds = true) : LamN N sc scope ds := by
  unfold lamNB at h
  simp only [Bool.and_eq_true, Bool.or_eq_true, Bool.not_eq_true', decide_eq_true_eq, decide_eq_false_iff_not, List.all_eq_true] at h
  obtain ⟨⟨⟨⟨h1, h2⟩, h3⟩, h4⟩, h5⟩ := h
  refine ⟨h1, h2, h3, fun y hy => ⟨(h4 y hy).1.1, fun e hN => ?_⟩, h5, fun y hy e => ?_⟩
  · rcases (h4 y hy).1.2 with z | z
    · exact z e
    · rw [List.contains_iff_mem.mpr hN] at z
      cases z
  · rcases (h4 y hy).2 with (z | z) | z
    · exact absurd e z
    · exact .inl z
    · exact .inr z
section
variable {X : Cx} {pins : List (Addr × Obj)} {σ : L2.St} {H HZ : Hp} {s s1 : Shared} {ds : List (Str × Int)}
theorem LamN.has {scope : Scope} (L : LamN X.N X.env.scope scope ds) (ok : X.Ok) : ∀ y ∈ scope.names, y.2 = .free → ∃ c, X.env.cells.lookup y.1 = some c := fun y hy e => by
  rcases L.free y hy e with k | k
  · exact ok.has _ (.inl k)
  · exact ok.has _ (.inr k)
theorem lam_enter {A : Around} {outer : List Env} {E : XK} {scope : Scope} {f c' : Addr} {h₁ : Heap} {tk : Nat} {m : Str → Option Value} (I : Inv X pins σ H s) (L : LamN X.N X.env.scope scope ds) (e0 : Env0 X.prog X.w X.K X.mg X.base A outer s1 HZ) (hd : A.handled = none)
    (un : Un (frs X.stack) [] H HZ s.heap s1.heap) (hns : h₁.Ns s1.heap.objs.size m) (kp : ∀ b o, s1.heap.get? b = some o → h₁.get? b = some o) : Inv (lamCx X A outer s1 HZ E scope f c') [] σ HZ { s1 with heap := h₁, toks := tk } := by
  have hfree := L.has I.ok
  have cm : ∀ {y c}, (cloFrom X.env.cells scope.names []).lookup y = some c → X.env.cells.lookup y = some c := fun {y c} e => by
    rcases cloFrom_mem (PySem.mem_of_lookup e) with hm | ⟨h1, h2⟩
    · cases hm
    · obtain ⟨c1, hc⟩ := hfree _ h1 rfl
      have hc1 : X.env.cells.lookup y = some c1 := hc
      rw [show c = c1 by rw [h2, hc1] <;> rfl]
      exact hc1
  have look : ∀ {y}, scope.names.lookup y = some .free → ∃ c, (cloFrom X.env.cells scope.names []).lookup y = some c := fun {y} hl =>
    mem_lookup (cloFrom_has (cells := X.env.cells) (acc := []) (show (y, NameKind.free) ∈ scope.names from PySem.mem_of_lookup hl))
  have cellK : ∀ {c : Addr} {v : Option Value}, H c = none → s.heap.IsCell c v → h₁.IsCell c v := fun {c v} n ⟨o, ho, hd⟩ => by
    obtain ⟨sl, z⟩ := un.any ho n (by simp)
    exact ⟨_, kp _ _ z, hd⟩
  have noX : ∀ b : Addr, b ∉ (lamCx X A outer s1 HZ E scope f c').ex := fun b z => absurd (show b ∈ ([] : List Addr) from z) (by simp)
  refine ⟨⟨e0.mod, L.kind, rfl, rfl, Nat.le_refl _, fun y z c e1 e2 => I.ok.inj y z c (cm e1) (cm e2), fun y hy => ?_, fun y c z _ => ?_, fun _ => hd, Around.frames_deeper e0.frames, .inr ⟨rfl, rfl⟩, fun b z => absurd z (noX b), e0.bs, e0.bsz, fun b _ _ => noX b, fun b z => absurd z (noX b), e0.funs, e0.frf⟩,
    rfl, e0.bare, Un.kept kp, ⟨_, hns, fun i y v e1 e2 e3 => ?_⟩, fun y c e => ?_, e0.hok.fresh (Nat.le_refl _), fun y c e => ?_, fun z hz => absurd (show z ∈ ([] : List (Addr × Obj)) ++ [] from hz) (by simp), e0.hok.kept kp, I.len⟩
  · have hy : scope.names.lookup y = some .cell ∨ scope.names.lookup y = some .free := hy
    rcases hy with hy | hy
    · exact absurd rfl (L.own _ (PySem.mem_of_lookup hy)).1
    · exact look hy
  · cases (show false = true from z)
  · have e3 : Vis scope y := e3
    have e1 : X.N[i]? = some y := e1
    rcases e3 with k | k | k
    · exact absurd (List.mem_of_getElem? e1) ((L.own _ (PySem.mem_of_lookup k)).2 rfl)
    · exact absurd rfl (L.own _ (PySem.mem_of_lookup k)).1
    · obtain ⟨m2, hn, hl⟩ := I.loc
      have fr := L.free _ (PySem.mem_of_lookup k) rfl
      obtain ⟨w2, r, z⟩ := hl i y v e1 e2 (fr.elim (fun k => .inr (.inl k)) fun k => .inr (.inr k))
      obtain ⟨c2, h2⟩ := look k
      refine ⟨w2, r, .inr ⟨.inr k, c2, h2, ?_⟩⟩
      have c1 := cm h2
      rcases z with ⟨k2, _⟩ | ⟨_, c3, e4, z⟩
      · have k2 : X.env.scope.names.lookup y = some .local := k2
        rcases fr with k3 | k3 <;> rw [show X.env.scope.names.lookup y = _ from k3] at k2 <;> cases k2
      · rw [c1] at e4
        cases e4
        exact cellK (I.freeC y _ c1) z
  · obtain ⟨w2, z⟩ := I.cell y c (cm e)
    exact ⟨w2, cellK (I.freeC y c (cm e)) z⟩
  · obtain ⟨v, o, ho, hd⟩ := I.cell y c (cm e)
    exact un.free c o ho (I.freeC y c (cm e)) (by simp)
/-- a(), with what is wished of an error: it may speak of the slots as they stand -/
def tAsk (i : Nat) (f c' : Addr) (q : Str) (W : WX) (tl : XK → Hp → VK → Prop) : TE := fun σ H Q => σ[i]? = some (some (.ref f)) ∧ H c' = some (CodeO c' q) ∧ ∃ E : XK, (∀ cls d H', E cls d H' → W cls d σ H') ∧ tl E H Q
/-- a(), in the def that got the lambda -/
theorem pe_acts {CXg : CXT} {Eg : XK} {Ng : List Str} {qg : Str} {sg : Scope} {g f c' : Addr} {cdg dV pm ctv : Value} {params : Arguments} {body : Expr} {scope : Scope} {k i : Nat} {a : Str} {pn : List (Addr × Obj)} {xe : Value → Shared → Prop} {W : WX} {tb : XK → TE} {p1 p2 : Pos}
    (I : Inv X pins σ H s) (L : LamN X.N X.env.scope scope ds) (df : LamDef X.env params ds) (hf : s.heap.get? f = some (lamO (X.env.qual ++ "<lambda>") params body scope (cloFrom X.env.cells scope.names []) dV pm c' ctv)) (hfn : H f = none) (hfr : f ∉ frs X.stack) (at0 : DfAt (frs X.stack) dV ds s.heap H)
    (tk : Takes ((cxOf CXg X.prog X.w X.K X.mg X.base Ng qg sg g cdg X.A X.stack s H Eg).tr pn xe) W) (hr : Room (k + 1) (X.A.deeper (envOfC qg sg s.heap.objs.size g cdg)))
    (hbody : ∀ (A : Around) (outer : List Env) (s : Shared) (H : Hp) (E : XK), Room k (A.deeper (lamEnv X scope s.heap.objs.size f c')) → PE (lamCx X A outer s H E scope f c') body (tb E))
    (hN : Ng[i]? = some a) (hv : Vis sg a) (hd : (a == ("__debug__" : Str)) = false := by decide) (hcd : (a == ("__classdict__" : Str)) = false := by decide) :
    PE ((cxOf CXg X.prog X.w X.K X.mg X.base Ng qg sg g cdg X.A X.stack s H Eg).tr pn xe) (.Call (.Name a p1) [] [] p2) (tAsk i f c' (X.env.qual ++ "<lambda>") W fun E H' Q' => tb E σ H' Q') := by
  refine ⟨fun pinsZ sZ σZ HZ Q IZ ⟨hs, hc, E, hW, ht⟩ => ?_⟩
  refine wpAny_Call_Name_kw (thn ((pe_var (pos := p1) (i := i) hN hv hd hcd).run pinsZ sZ σZ HZ (fun v H1 => v = .ref f ∧ H1 = HZ) IZ ⟨.ref f, hs, rfl, rfl⟩) fun u s1 ⟨v, H1, I1, r1, ev, eH⟩ => ?_)
  subst ev
  rw [eH] at I1
  cases (show u = Value.ref f from r1)
  have keep := fun {b : Addr} {o : Obj} (e : s.heap.get? b = some o) (n : H b = none) (nf : b ∉ frs X.stack) => I1.base.keep b o e n nf (fun z => nomatch (show b ∈ ([] : List Addr) from z))
  have at1 := keep hf hfn hfr
  refine callWith_F0 ⟨_, _, _, _, at1⟩ ?_
  have un : Un (frs X.stack) [] H HZ s.heap s1.heap := I1.base
  obtain ⟨⟨oc, vs, t, hoc, hdc, hvc⟩, _, _⟩ := I1.hok c' _ hc
  obtain ⟨us, hus, hbind⟩ : ∃ us : List (Str × Value), (∀ y ∈ us, scope.names.lookup y.1 = some .local) ∧ BindsTo s1 (lamFn (X.env.qual ++ "<lambda>") params body scope (cloFrom X.env.cells scope.names []) dV pm (.ref c') ctv) ⟨[], []⟩ us := by
    cases df with
    | no _ hb =>
      rcases at0 with ⟨_, rfl⟩ | ⟨_, _, _, _, z, _⟩
      · exact ⟨[], fun y hy => absurd hy (by simp), BindsTo.of_eq (hb _ _ _ _ _ _ _)⟩
      · cases z
    | one b c0 _ _ _ hb =>
      rcases at0 with ⟨z, _⟩ | ⟨U, b2, c2, t2, e1, rfl, e3, e4, e5⟩
      · cases z
      · cases e1
        obtain ⟨kk, k1, k2⟩ := hb (X.env.qual ++ "<lambda>") body scope (cloFrom X.env.cells scope.names []) U pm (.ref c') ctv t2
        refine ⟨[(b, .int c0 t2)], fun y hy => ?_, fun M A E Q z => ?_⟩
        · cases List.mem_singleton.mp hy
          exact L.par (b, c0) List.mem_cons_self
        · rw [k1]
          refine wpAny_bind (wpAny_seqItems (keep e3 e4 e5) rfl ?_)
          rw [k2]
          exact wpAny_pure z
  have rc : codeAny (model X.prog X.w) (X.A.deeper (envOfC qg sg s.heap.objs.size g cdg)) (.call (.ref f) ⟨[], []⟩) (CR (L2.CX X.prog X.w) (envOfC qg sg s.heap.objs.size g cdg :: X.stack) X.prog X.w HZ s1 Q E) s1 := by
    refine kla_callFunE hr.depth at1 rfl L.co L.gen rfl ⟨c', oc, vs, t, rfl, hoc, hdc, hvc⟩ (hbind _ _ _ _ ?_)
    refine wpAny_newFunctionEnv (fun y hy => (L.own y hy).1) hus (fun h₁ hns hsb => ⟨I1.nolimit.fresh _ hsb, ?_⟩) L.kind
    show codeAny _ _ (.expr body (lamEnv X scope s1.heap.objs.size f c')) _ _
    have kp : ∀ b o, s1.heap.get? b = some o → h₁.get? b = some o := fun b o e => hsb.extBut b o (Nat.ne_of_lt (Heap.lt_size e)) (Heap.get?_push_of_some _ e)
    have J := lam_enter (E := E) (f := f) (c' := c') (tk := s1.toks + us.length) I L I1.env0 hr.hd un hns kp
    refine kla_codeExpr (wpAny_mono ((hbody _ _ s1 HZ E (hr.deeper _)).run [] _ _ HZ Q J ht) (fun v s2 z => ?_) fun e s2 z => z)
    obtain ⟨w2, H2, J2, rv, z⟩ := z
    exact ⟨w2, H2, J2.os, J2.bare, J2.base, J2.hok, rv, z⟩
  refine wpAny_call (codeAny_mono rc fun r s2 z => ?_)
  cases r with
  | error e => exact tk e s2 (XE.of_call I1 hW z)
  | ok fl => cases fl with
    | ret u => exact I1.after z
    | next => exact False.elim z
    | brk => exact False.elim z
    | cont => exact False.elim z
end

/-- the def at g, body bg, makes TT of what its parameter a, a lambda of the name q, does when it is called -/
def Hears (X : Cx) (Ng : List Str) (x : Str) (sg : Scope) (g : Addr) (cdg : Value) (bg : List Stmt) (a : Str) (q : Str) (TT : (XK → Hp → VK → Prop) → Hp → VK → Prop) : Prop :=
  ∀ (f c' : Addr) (s : Shared) (H : Hp) (Q : VK) (tl : XK → Hp → VK → Prop),
    (∀ (W : WX) (pn : List (Addr × Obj)) (xe : Value → Shared → Prop) (p1 p2 : Pos), Takes ((cxOf L2.CX0 X.prog X.w X.K X.mg X.base Ng x sg g cdg X.A X.stack s H L2.E0).tr pn xe) W → PE ((cxOf L2.CX0 X.prog X.w X.K X.mg X.base Ng x sg g cdg X.A X.stack s H L2.E0).tr pn xe) (.Call (.Name a p1) [] [] p2) (tAsk 0 f c' q W tl)) →
    H c' = some (CodeO c' q) → TT tl H Q → ∃ t, PSs (cxOf L2.CX0 X.prog X.w X.K X.mg X.base Ng x sg g cdg X.A X.stack s H L2.E0).nox bg t ∧ t { nx := fun _ H' => Q .non H', rt := Q } (L2.start Ng [.ref f]) H
section
variable {X : Cx}
/-- x(lambda ..: e), x a def of the text -/
theorem pe_hands {T : List (Addr × Str)} {TT : (XK → Hp → VK → Prop) → Hp → VK → Prop} {x a : Str} {g c P : Addr} {k : Nat} {pg : Arguments} {bg : List Stmt} {sg : Scope} {dV kV doc pm cdv ct oc : Value} {an od : Option Addr} {osl : Array (Option Value)} {Ng : List Str}
    {params : Arguments} {body : Expr} {scope : Scope} {t : XK → TE} {p lpos pos : Pos} {ds : List (Str × Int)} (hg : Gl X x) (hm : X.mg x = some (.ref g)) (hk : keepIn X.K (.ref g) = true) (lk : X.K.lookup g = some ⟨oc, od, .func (fnOf x x pg bg sg dV kV doc pm an cdv ct), osl⟩) (hcg : codeIn X.K cdv x = true)
    (hb : L2.Binds X.K (fnOf x x pg bg sg dV kV doc pm an cdv ct) [a] []) (Sg : FnScope Ng [a] sg) (hNg : Ng[0]? = some a) (hva : Vis sg a) (hG : Hears X Ng x sg g cdv bg a (X.env.qual ++ "<lambda>") TT) (TB : TabB X.base X.mg c P) (hcode : X.env.code = .ref c) (hmT : (P, X.env.qual ++ "<lambda>") ∈ T)
    (hu : ∀ p ∈ T, p.1 = P → p.2 = X.env.qual ++ "<lambda>") (hr : Room (k + 2) X.A) (L : LamN X.N X.env.scope scope ds) (df : LamDef X.env params ds)
    (hbody : ∀ (A : Around) (outer : List Env) (s : Shared) (H : Hp) (E : XK) (f c' : Addr), Room k (A.deeper (lamEnv X scope s.heap.objs.size f c')) → PE (lamCx X A outer s H E scope f c') body (t E))
    (hdb : (x == ("__debug__" : Str)) = false := by decide) (hd : (a == ("__debug__" : Str)) = false := by decide) (hcd : (a == ("__classdict__" : Str)) = false := by decide) : PE X (.Call (.Name x p) [.Lambda params body scope lpos] [] pos) (tLam T TT t) := by
  refine ⟨fun pins s σ H Q I ⟨hT, h⟩ => wpAny_Call_Name_kw (ld_glob I hg hm (callWith_K (h₀ := X.base) I.ok.mod.kin hk ?_ (by rfl) (by rfl)) hdb)⟩
  show wpAny _ _ (spliced ((false, eval (.Lambda params body scope lpos) X.env) :: backTo pos (starEach [] X.env))) _ _ s
  refine Calls.spliced_cons (lam_made I TB hcode hmT hu hT df (L.has I.ok) fun f c' dV2 pm2 ctv H1 s2 I1 eN T1 hf hfn hfr hco at1 => Calls.spliced_nil ⟨I1.kIn, ?_⟩)
  have rc : codeAny (model X.prog X.w) X.A (.call (.ref g) ⟨[.ref f], []⟩) (CR L2.CX0 X.stack X.prog X.w H1 s2 Q L2.E0) s2 :=
    run_ofS (N := Ng) (ps := [a]) (us := [.ref f]) (vs := [.ref f]) lk hcg Sg hr I1.env0 (hb s2 [.ref f] I1.kIn rfl) (.cons rfl .nil) rfl fun hr2 => by
      obtain ⟨t2, d2, q2⟩ := hG f c' s2 H1 Q (fun E H' Q' => t E σ H' Q') (fun W pn xe p1 p2 tk => pe_acts (i := 0) (tb := t) I1 L df hf hfn hfr at1 tk hr2 (fun A outer s H E hr3 => hbody A outer s H E f c' hr3) hNg hva hd hcd) hco (h H1 eN T1)
      exact ⟨t2, d2.nox, q2⟩
  refine wpAny_call (codeAny_mono rc fun r s3 z => ?_)
  cases r with
  | error e => exact (show False from z).elim
  | ok fl => cases fl with
    | ret u => exact I1.after z
    | next => exact False.elim z
    | brk => exact False.elim z
    | cont => exact False.elim z
end
end NK

/-! The end of a law with tables of code objects; no repr is under way at its call. -/
namespace NK
open PySem PySem.Spec PyProof.Rows L2 LamX

theorem callGT {P : Program} {w : World} {K : PySem.W.Frag} {mg mb : Str → Option Value} {CX : CXT} {k : Nat} {fa a : Addr} {cs : List (Addr × Addr)} {fd : FuncData} {x : Str} {sp : Sp} {s : Shared} {us : List Value} {ns : List Int}
    (KX : K.In s.heap) (gl : s.heap.Ns mainGlobals mg) (bl : s.heap.Ns builtinsNs mb) (bb : ∀ x : Str, x ≠ "__name__" → mb x = bootBuiltins x) (nl : s.heap.NoLimit) (ng : s.gens = #[])
    (empty : ∀ p ∈ cs, s.heap.get? p.2 = some { cls := .none, data := .fields #[] }) (out : ∀ p ∈ cs, K.lookup p.2 = none) (heads : ∀ p ∈ cs, PySem.W.CodeHd s.heap p.1 p.2)
    (bm : ∃ (bm : Addr) (ob : Obj), mg "__builtins__" = some (.ref bm) ∧ bm ≠ builtinsNs ∧ s.heap.get? bm = some ob ∧ ob.cls = .type "module" ∧ ob.dict = some builtinsNs ∧ ob.data = .plain)
    (at_ : s.heap.get? a = some { cls := .type "list", data := .seq us.toArray }) (hi : IntsAre us ns) (hl : ns.length ≤ sizeLine) (hr : Room k callerA)
    (F : ∀ base : Heap, K.In base → base.Ns mainGlobals mg → (∀ p ∈ cs, TabB base mg p.1 p.2) → FnG P w K mg base CX k fa fd [x] sp) (bnd : ∀ (s : Shared) (u : Value), BindsTo s fd ⟨[u], []⟩ [(x, u)])
    (want : ∀ H : Hp, (∀ p ∈ cs, H p.2 = some (.tbl #[])) → SqL K H a (ns.map V.int) → sp [.ref a] H (fun v _ => v = .bl true) fun _ _ _ => False) (noX : ∀ H e s', CX [] H s (fun _ _ _ => False) e s' → False) :
    codeAny (model P w) callerA (.call (.ref fa) ⟨[.ref a], []⟩) (fun r s' => r = .ok (.ret (.bool true)) ∧ OldK s.heap s'.heap ∧ s'.os = s.os ∧ AllBare s'.gens) s := by
  have rel : Vals (ns.map V.int) us := vals_ints hi
  have many := hi.length
  have isTab : ∀ b ∈ cs.map (·.2), s.heap.get? b = some { cls := .none, data := .fields #[] } := fun b hb => by
    obtain ⟨p, hp, rfl⟩ := List.mem_map.mp hb
    exact empty p hp
  have mem2 : ∀ p ∈ cs, p.2 ∈ cs.map (·.2) := fun p hp => List.mem_map_of_mem hp
  have aNo : a ∉ cs.map (·.2) := fun z => by
    have q := isTab a z
    rw [at_] at q
    exact nomatch (show Data.seq us.toArray _ = Data.fields #[] from congrArg Obj.data (Option.some.inj q))
  -- which objects are told: the tables, and the script's list unless it stands in K
  obtain ⟨H, tabs, kinds, seq, ok, just, outA⟩ : ∃ H : Hp, (∀ p ∈ cs, H p.2 = some (.tbl #[])) ∧ (∀ b u, H b = some u → b ∈ cs.map (·.2) ∨ ∃ o xs, H b = some (.frz o (.lst xs))) ∧ SqL K H a (ns.map V.int) ∧ HOk P w H s.heap ∧ (∀ b, H b ≠ none → b = a ∨ b ∈ cs.map (·.2)) ∧ (H a ≠ none → K.lookup a = none) := by
    cases there : K.lookup a with
    | some o =>
      have e := KX a o there
      rw [at_] at e
      cases e
      obtain ⟨G, atT, atN⟩ : ∃ G : Hp, (∀ b ∈ cs.map (·.2), G b = some (.tbl #[])) ∧ ∀ b, b ∉ cs.map (·.2) → G b = none := ⟨fun b => if b ∈ cs.map (·.2) then some (.tbl #[]) else none, fun b hb => if_pos hb, fun b hb => if_neg hb⟩
      refine ⟨G, fun p hp => atT _ (mem2 p hp), fun b u z => ?_, .inr ⟨_, us.toArray, _, there, rfl, rfl, rfl, by rw [List.size_toArray, many]; exact hl, by simpa using rel⟩, fun b u z => ?_, fun b z => ?_, fun z => absurd (atN a aNo) z⟩
      · by_cases hb : b ∈ cs.map (·.2)
        · exact .inl hb
        · exact nomatch z.symm.trans (atN b hb)
      · by_cases hb : b ∈ cs.map (·.2)
        · cases z.symm.trans (atT b hb)
          exact isTab b hb
        · exact nomatch z.symm.trans (atN b hb)
      · by_cases hb : b ∈ cs.map (·.2)
        · exact .inr hb
        · exact absurd (atN b hb) z
    | none =>
      obtain ⟨G, atA, atT, atN⟩ : ∃ G : Hp, G a = some (.frz { cls := .type "list", data := .seq us.toArray } (.lst (ns.map V.int))) ∧ (∀ b ∈ cs.map (·.2), G b = some (.tbl #[])) ∧ ∀ b, b ≠ a → b ∉ cs.map (·.2) → G b = none :=
        ⟨fun b => if b = a then some (.frz { cls := .type "list", data := .seq us.toArray } (.lst (ns.map V.int))) else if b ∈ cs.map (·.2) then some (.tbl #[]) else none, if_pos rfl, fun b hb => (if_neg fun z => aNo (by rw [← z]; exact hb)).trans (if_pos hb), fun b h1 h2 => (if_neg h1).trans (if_neg h2)⟩
      refine ⟨G, fun p hp => atT _ (mem2 p hp), fun b u z => ?_, .inl (.inr ⟨_, atA⟩), fun b u z => ?_, fun b z => ?_, fun _ => rfl⟩
      · by_cases h1 : b = a
        · exact .inr ⟨_, _, by rw [h1]; exact atA⟩
        · by_cases h2 : b ∈ cs.map (·.2)
          · exact .inl h2
          · exact nomatch z.symm.trans (atN b h1 h2)
      · by_cases h1 : b = a
        · rw [h1, atA] at z
          cases z
          rw [h1]
          exact ⟨at_, (by rw [List.length_map]; exact hl), us, _, rel, at_⟩
        · by_cases h2 : b ∈ cs.map (·.2)
          · cases z.symm.trans (atT b h2)
            exact isTab b h2
          · exact nomatch z.symm.trans (atN b h1 h2)
      · by_cases h1 : b = a
        · exact .inl h1
        · by_cases h2 : b ∈ cs.map (·.2)
          · exact .inr h2
          · exact absurd (atN b h1 h2) z
  have hid : ∀ {b : Addr} {o : Obj}, s.heap.get? b = some o → H b = none → (hidT s.heap H).get? b = some o := fun e n => hidT_get e n
  -- what is no list and no empty table is not told
  have untold : ∀ {b : Addr} {o : Obj}, s.heap.get? b = some o → (∀ vs n, o.data ≠ .seq vs n) → o.data ≠ .fields #[] → H b = none := fun {b o} e h1 h2 => by
    by_cases c : H b = none
    · exact c
    · rcases just b c with z | z
      · rw [z, at_] at e
        cases e
        exact (h1 _ _ rfl).elim
      · rw [isTab b z] at e
        cases e
        exact (h2 rfl).elim
  have noneOf : ∀ {b : Addr} {o : Obj} {es : Array DictEntry} {ep : Nat}, s.heap.get? b = some o → o.data = .dict es ep → H b = none := fun {b o es ep} e d => untold e (fun vs n z => by rw [d] at z; cases z) fun z => by rw [d] at z; cases z
  have dictK : ∀ {b : Addr} {m : Str → Option Value}, s.heap.Ns b m → (hidT s.heap H).Ns b m := fun {b m} z => by
    obtain ⟨o, es, ep, e, d, r⟩ := z
    exact ⟨o, es, ep, hid e (noneOf e d), d, r⟩
  have KB : K.In (hidT s.heap H) := fun b o e => hid (KX b o e) (by
    by_cases c : H b = none
    · exact c
    · rcases just b c with z | z
      · subst z
        rw [outA c] at e
        cases e
      · obtain ⟨p, hp, rfl⟩ := List.mem_map.mp z
        rw [out p hp] at e
        cases e)
  have md : Mod K mg (hidT s.heap H) := by
    obtain ⟨mc, n1, n2⟩ := nl
    exact ⟨KB, dictK gl, ⟨mb, dictK bl, bb⟩, ⟨mc, dictK n1, n2⟩⟩
  have TB : ∀ p ∈ cs, TabB (hidT s.heap H) mg p.1 p.2 := fun p hp => by
    refine ⟨?_, ?_, fun z => ?_⟩
    · obtain ⟨o, vs, file, tf, flags, tg, inF, text, tt, e1, r1, r2, r3, rest⟩ := heads p hp
      refine ⟨o, vs, file, tf, flags, tg, inF, text, tt, hid e1 (untold e1 (fun vs2 n z => ?_) fun z => ?_), r1, r2, r3, rest⟩
      · rw [r2] at z
        cases z
      · rw [r2] at z
        cases z
        simp at r3
    · obtain ⟨b0, ob, b1, b2, b3, b4, b5, b6⟩ := bm
      refine ⟨b0, ob, b1, b2, fun z => ?_, fun z => ?_, hid b3 (untold b3 (fun vs n z => ?_) fun z => ?_), b4, b5, b6⟩
      · obtain ⟨o, es, ep, e, d, _⟩ := gl
        rw [z, e] at b3
        cases b3
        rw [d] at b6
        cases b6
      · rw [z, empty p hp] at b3
        cases b3
        cases b6
      · rw [b6] at z
        cases z
      · rw [b6] at z
        cases z
    · obtain ⟨o, es, ep, e, d, _⟩ := gl
      rw [z, empty p hp] at e
      cases e
      cases d
  have z0 : Env0 P w K mg (hidT s.heap H) callerA [] s H := ⟨rfl, md, fun b o e => of_hidT e, by rw [hidT_size]; exact Nat.le_refl _, True.intro, (fun b z => absurd (show b ∈ ([] : List Addr) from z) (by simp)), ok, .of_eq ng⟩
  refine codeAny_mono ((F _ KB (dictK gl) TB).go callerA [] s H ⟨[.ref a], []⟩ [.ref a] [.ref a] _ _ hr rfl z0 (bnd s (.ref a)) (.cons rfl .nil) (want H tabs seq)) fun r s' got => ?_
  cases r with
  | error e => exact (noX H e s' got).elim
  | ok fl => cases fl with
    | next => cases got
    | brk => cases got
    | cont => cases got
    | ret u =>
      obtain ⟨v, H', same, bare, un, ok', rv, q⟩ := got
      cases (show v = .bl true from q)
      cases (show u = Value.bool true from rv)
      have kept : ∀ b o, b ∉ cs.map (·.2) → s.heap.get? b = some o → s'.heap.get? b = some o := fun b o nb e => by
        cases c : H b with
        | none => exact un.keep b o e c (fun z => absurd (show b ∈ ([] : List Addr) from z) (by simp)) (by simp)
        | some u =>
          rcases kinds b u c with z | ⟨ob, xs, z⟩
          · exact absurd z nb
          · have e1 := (ok b _ z).1
            have e2 := (ok' b _ (un.frzs b ob _ z)).1
            rw [e1] at e
            cases e
            exact e2
      have grown : ∀ b ∈ cs.map (·.2), ∃ p ∈ cs, p.2 = b ∧ ∃ more : Array Value, s'.heap.get? b = some { cls := .none, data := .fields more } := fun b hb => by
        obtain ⟨p, hp, rfl⟩ := List.mem_map.mp hb
        obtain ⟨more, z⟩ := un.tbls p.2 #[] (tabs p hp)
        exact ⟨p, hp, rfl, _, ok' p.2 _ z⟩
      refine ⟨rfl, ⟨fun b o e => ?_, fun b o e => ?_⟩, same, bare⟩
      · by_cases hb : b ∈ cs.map (·.2)
        · obtain ⟨p, hp, rfl, more, z⟩ := grown b hb
          rw [empty p hp] at e
          cases e
          exact .inr (.inl ⟨((heads p hp).tab (empty p hp)).isCodeTable, rfl, #[], more, rfl, by rw [Array.empty_append]; exact z⟩)
        · exact .inl (kept b o hb e)
      · by_cases hb : b ∈ cs.map (·.2)
        · obtain ⟨p, hp, rfl, more, z⟩ := grown b hb
          exact ⟨_, z⟩
        · exact ⟨o, kept b o hb e⟩

/-- the goal that the head leaves, from such a promise; tabs: how a def's code object and its table are found -/
theorem walkGT {l : PySem.W.OpenLaw} {n k : Nat} {q : Program} {loose : List Str} {XP : (Str → Option Value) → Heap → Prop} {YP : World → Heap → Prop} {d : DefRec} {K : Params → PySem.W.Frag} {CX : World → CXT} {x : Str}
    (hn : l.most = some n) (n2 : n ≤ sizeLine) (hdf : d.params.defaults = []) (hr : Room k callerA) (hY : ∀ (w : World) (h : Heap), YP w h → (K w.params).In h)
    (F : ∀ (w : World) (mg : Str → Option Value) (fa : Addr) (h : Heap), (K w.params).In h → h.Ns mainGlobals mg → mg d.name = some (.ref fa) → (∀ (x : Str) (c P : Addr), ((recsOf q).any fun e => e.name == x) = true → PySem.W.tabIn (K w.params) x = some (c, P) → PySem.W.CodeHd h c P ∧ h.get? P = some { cls := .none, data := .fields #[] }) →
      ∃ (fd : FuncData) (cs : List (Addr × Addr)) (sp : Sp), (∀ p ∈ cs, h.get? p.2 = some { cls := .none, data := .fields #[] }) ∧ (∀ p ∈ cs, (K w.params).lookup p.2 = none) ∧ (∀ p ∈ cs, PySem.W.CodeHd h p.1 p.2) ∧ (∀ (s : Shared) (u : Value), BindsTo s fd ⟨[u], []⟩ [(x, u)]) ∧
        (∀ (H : Hp) (a : Addr) (ns : List Int), ns.length ≤ n → (∀ p ∈ cs, H p.2 = some (.tbl #[])) → SqL (K w.params) H a (ns.map V.int) → sp [.ref a] H (fun v _ => v = .bl true) fun _ _ _ => False) ∧
        ∀ base : Heap, (K w.params).In base → base.Ns mainGlobals mg → (∀ p ∈ cs, TabB base mg p.1 p.2) → FnG l.prog w (K w.params) mg base (CX w) k fa fd [x] sp)
    (noX : ∀ (w : World) (H : Hp) (s : Shared) (e : Value) (s' : Shared), CX w [] H s (fun _ _ _ => False) e s' → False) : PySem.W.WalkO q loose XP YP l.row.toRowW d [] (fun f vs => PySem.call f vs) :=
  Att.attach_call hn hdf fun w _ s1 mg mb fa _ _ _ _ a us ns G Y _ _ _ hmg at_ hin many ng => by
    obtain ⟨fd, cs, sp, h1, h2, h3, bnd, want, ok⟩ := F w mg fa _ (hY w _ Y) G.T.g hmg fun x c P hx ht => by
      obtain ⟨dx, hm⟩ : ∃ dx, (recsOf q).find? (fun e => e.name == x) = some dx := by
        cases e : (recsOf q).find? (fun e => e.name == x) with
        | some dx => exact ⟨dx, rfl⟩
        | none =>
          obtain ⟨y, my, ey⟩ := List.any_eq_true.mp hx
          exact absurd ey (List.find?_eq_none.mp e y my)
      exact PySem.W.tab_of G.T (hY w _ Y) hm ht
    exact callGT (hY w _ Y) G.T.g G.T.b G.T.builtins G.T.nolimit ng h1 h2 h3 G.T.bmain at_ hin (Nat.le_trans many n2) hr ok bnd (fun H o c => want H a ns many o c) fun H e s' => noX w H s1 e s'
end NK

/-! More rules: a list or a tuple unpacked, looked through, its greatest; a list backward; a def that makes lambdas. -/
namespace NK
open PySem PySem.Spec PyProof.Rows L2
open PySem.W (AlikeAll maxD maxD_ints max_list_data max_tuple_data)

section
variable {X : Cx}
/-! ## (a, b, ..) = a list or a tuple -/
def gSeq (K : PySem.W.Frag) (n : Nat) (t : TGs) : TG := fun v σ H Q => gTup K n t v σ H Q ∨ gUnl K n t v σ H Q
theorem pg_seq {es : List Expr} {k : Nat} {t : TGs} {n : Nat} {pos : Pos} (hc : X.calm = true) (h : PGs X es t) (hn : (assignEach es X.env).length = n := by rfl) (hst : (assignEach es X.env).findIdx? (·.1) = none := by rfl) : PG X (.Tuple es k pos) (gSeq X.K n t) :=
  ⟨fun pins s σ H v u Q J r w => w.elim (fun w => (pg_tup hc h hn hst).run pins s σ H v u Q J r w) fun w => (pg_unl hc h hn hst).run pins s σ H v u Q J r w⟩
theorem w_gSeq {K : PySem.W.Frag} {n : Nat} {tg : TGs} {σ : L2.St} {H : Hp} {p : Addr} {xs : List V} {N : L2.St → Hp → Prop} (h : SqL K H p xs ∨ SqT K H p xs) (hl : xs.length = n) (q : tg xs σ H N) : gSeq K n tg (.ref p) σ H N := by
  rcases h with h | h
  · exact .inr ⟨p, xs, rfl, h, hl, q⟩
  · exact .inl ⟨p, xs, rfl, h, hl, q⟩

/-! ## x in a list or a tuple of data -/
def InS (K : PySem.W.Frag) (b : Bool) : R2 := fun x y H Q => ∃ d ds, Dp K H x d ∧ (Dp K H y (.list ds) ∨ Dp K H y (.tuple ds)) ∧ SeqAt.shaped d = true ∧ SeqAt.shaped (.list ds) = true ∧ Q (.bl (Bool.xor b (ds.any fun z => PyData.eqv z d))) H
def rInS (K : PySem.W.Frag) : R2 := InS K false
def rNotInS (K : PySem.W.Frag) : R2 := InS K true
theorem o_inS (hu : X.A.units + 64 < cLine) (hu2 : X.A.units + 65 < cLine) : OpR X (compareOp .In) (rInS X.K) := by
  intro pins s σ H x y v u Q J rx ry h
  obtain ⟨d, ds, hd, he, sd, se, q⟩ := h
  rw [Bool.false_xor] at q
  obtain ⟨as, r1⟩ := Dp.reads J d x v hd rx
  rcases he with he | he
  · obtain ⟨bs, r2⟩ := Dp.reads J (.list ds) y u he ry
    exact SeqAt.in_list_reads r2 r1 (SeqAt.canLay_of_shaped se) (SeqAt.canLay_of_shaped sd) (room_in_shaped sd hu2) ⟨.bl _, H, J, rfl, q⟩
  · obtain ⟨bs, r2⟩ := Dp.reads J (.tuple ds) y u he ry
    exact SeqAt.in_tuple_reads r2 r1 (SeqAt.canLay_of_shaped se) (SeqAt.canLay_of_shaped sd) (room_in_shaped sd hu2) ⟨.bl _, H, J, rfl, q⟩
theorem o_notInS (hu2 : X.A.units + 65 < cLine) : OpR X (compareOp .NotIn) (rNotInS X.K) := by
  intro pins s σ H x y v u Q J rx ry h
  obtain ⟨d, ds, hd, he, sd, se, q⟩ := h
  rw [Bool.true_xor] at q
  obtain ⟨as, r1⟩ := Dp.reads J d x v hd rx
  rcases he with he | he
  · obtain ⟨bs, r2⟩ := Dp.reads J (.list ds) y u he ry
    exact SeqAt.notIn_list_reads r2 r1 (SeqAt.canLay_of_shaped se) (SeqAt.canLay_of_shaped sd) (room_in_shaped sd hu2) ⟨.bl _, H, J, rfl, q⟩
  · obtain ⟨bs, r2⟩ := Dp.reads J (.tuple ds) y u he ry
    exact SeqAt.notIn_tuple_reads r2 r1 (SeqAt.canLay_of_shaped se) (SeqAt.canLay_of_shaped sd) (room_in_shaped sd hu2) ⟨.bl _, H, J, rfl, q⟩

/-! ## max(xs), xs a list or a tuple of whole numbers -/
def cMaxS (K : PySem.W.Frag) : List V → Hp → VK → Prop := fun xs H Q => ∃ (a : Addr) (n : Int) (ns : List Int), xs = [.ref a] ∧ (SqL K H a ((n :: ns).map V.int) ∨ SqT K H a ((n :: ns).map V.int)) ∧ Q (.int (ns.foldl max n)) H
theorem dps_ints {K : PySem.W.Frag} {H : Hp} : ∀ ns : List Int, DpAll K H (ns.map V.int) (ns.map PyData.int)
  | [] => .nil
  | n :: ns => .cons (.int n) (dps_ints ns)
theorem depth_ints : ∀ ns : List Int, PyData.depthAll (ns.map PyData.int) = 0
  | [] => rfl
  | n :: ns => by
    rw [List.map_cons, PyData.depthAll, depth_ints ns]
    rfl
theorem alike_ints (ns : List Int) : AlikeAll (ns.map PyData.int) :=
  ⟨fun x hx y hy => by
    obtain ⟨i, _, rfl⟩ := List.mem_map.mp hx
    obtain ⟨j, _, rfl⟩ := List.mem_map.mp hy
    rfl, fun x hx => by
    obtain ⟨i, _, rfl⟩ := List.mem_map.mp hx
    exact fun z => nomatch z⟩
theorem c_maxS (hc : X.calm = true) (hu : X.A.units + 64 < cLine) : CallR X (.builtin "max") (cMaxS X.K) := by
  intro pins s σ H xs us Q J r h
  obtain ⟨a, n, ns, rfl, hs, q⟩ := h
  rw [Vals.ref1 r]
  have room : X.A.units + 1 + PyData.depthAll (PyData.int n :: ns.map PyData.int) < cLine := by
    have e := depth_ints (n :: ns)
    rw [List.map_cons] at e
    rw [e]
    omega
  have like : AlikeAll (PyData.int n :: ns.map PyData.int) := by
    have e := alike_ints (n :: ns)
    rwa [List.map_cons] at e
  have fin : ∀ (v : Value) (h' : Heap) (tk : Nat) (bs : List Addr), Reads h' v (maxD (.int n) (ns.map .int)) bs → (∀ b o, s.heap.get? b = some o → h'.get? b = some o) → EP X pins σ Q v { s with heap := h', toks := tk } := fun v h' tk bs rv k => by
    rw [maxD_ints] at rv
    cases rv
    exact ⟨.int _, H, J.kept k, ⟨_, rfl⟩, q⟩
  rcases hs with hs | hs
  · obtain ⟨its, rv, hl, _⟩ := J.list hs
    obtain ⟨as, ra⟩ := Dp.readsAll J _ _ _ (dps_ints (n :: ns)) rv
    refine max_list_data (vs := its.toArray) (J.ok.hd hc) hl.isList (by simpa using ra) like room fun i v h' tk bs _ rv k => fin v h' tk bs rv k
  · obtain ⟨its, rv, hl, _⟩ := J.tuple hs
    obtain ⟨as, ra⟩ := Dp.readsAll J _ _ _ (dps_ints (n :: ns)) rv
    refine max_tuple_data (vs := its.toArray) (J.ok.hd hc) (show s.heap.IsTuple a its.toArray from hl) (by simpa using ra) like room fun i v h' tk bs _ rv k => fin v h' tk bs rv k

/-! ## xs[::-1] -/
def tBack (K : PySem.W.Frag) (te : TE) : TE := fun σ H Q => te σ H fun x H1 => ∃ a xs, x = .ref a ∧ SqL K H1 a xs ∧ ∀ p, H1 p = none → Q (.ref p) (upd H1 p (.lst xs.reverse))
theorem pe_back {e : Expr} {te : TE} {k : Nat} {p1 p2 p3 pos : Pos} (he : PE X e te) : PE X (.Subscript e (.Slice none none (some (.UnaryOp .USub (.Constant (.int 1) k p1) p2)) p3) pos) (tBack X.K te) := by
  refine ⟨fun pins s σ H Q J h => ?_⟩
  refine Subscript_ (thn (he.run pins s σ H _ J h) fun v s1 ⟨x, H1, J1, r1, a, xs, ex, hx, q⟩ => ?_)
  subst ex
  cases (show v = Value.ref a from r1)
  refine wpAny_Slice ?_
  rw [evalPart_none]
  refine wpAny_pure (wpAny_pure ?_)
  rw [evalPart_some]
  refine thn ((pe_un u_neg pe_int).run pins s1 σ H1 (fun x H2 => x = .int (-1) ∧ H2 = H1) J1 ⟨1, rfl, rfl, rfl⟩) fun st s2 ⟨y, H2, J2, r2, ey, eH⟩ => ?_
  subst ey
  subst eH
  obtain ⟨t, rfl⟩ := r2
  have J3 : Inv X pins σ H2 { s2 with heap := s2.heap.push { cls := .type "slice", data := .fields #[.none, .none, .int (-1) t] } } := J2.kept (t' := s2.toks) fun b o z => Heap.get?_push_of_some _ z
  obtain ⟨its, rv, pl, hz⟩ := J3.list hx
  show wpAny (model X.prog X.w) X.A (subscriptTail e _ (.ref a) (.ref s2.heap.objs.size)) (EP X pins σ Q) X.xe _
  refine tail_any (ops := [.ref a, .ref s2.heap.objs.size]) pl.isList.typeIs slot_list_getitem.lookup ?_ (by with_unfolding_all rfl)
  refine wpAny_getItem_list_slice (st := some (-1)) pl.isList (Heap.IsSliceOf.new ..) .none .none (.int (-1) t) (by decide) ?_ (by rw [List.size_toArray, ← rv.length]; exact hz)
  rw [PySem.W.krv_pick]
  refine ⟨.ref _, _, J3.laid (t' := s2.toks) (o := .lst xs.reverse) (fun b o z => Heap.get?_push_of_some _ z) (Nat.le_refl _) ⟨by rw [List.length_reverse]; exact hz, its.reverse, 0, rv.reverse, ?_⟩, rfl, q _ (J3.hok.fresh (Nat.le_refl _))⟩
  exact Heap.get?_push_size _ rfl
end

/-! ## defs that make lambdas -/
theorem funGt {P : Program} {w : World} {K : PySem.W.Frag} {mg : Str → Option Value} {base : Heap} {x ql : Str} {st : Stmt} {f c : Addr} {fd : FuncData} {N ps : List Str} {k : Nat} {sp : Sp} (F : Fun K x ql st f fd) (hc : fd.code = .ref c) (S : FnScope N ps (defScope st))
    (cnt : ∀ vs H Q E, sp vs H Q E → vs.length = ps.length)
    (body : ∀ (B : Around) (outer : List Env) (s : Shared) (H : Hp) (vs : List V) (Q : VK) (E : XK), Room k (B.deeper (envOfC ql (defScope st) s.heap.objs.size f (.ref c))) → B.guards = some [] → sp vs H Q E →
      ∃ t, PSs (cxOf CX0 P w K mg base N ql (defScope st) f (.ref c) B outer s H E).nox (defBody st) t ∧ t { nx := fun _ H' => Q .non H', rt := Q } (start N vs) H) : FnG P w K mg base CX0 (k + 1) f fd ps sp := by
  obtain ⟨_, _, _, _, _, _, cdv, _, _, rfl, there, cdk⟩ := F.ex
  cases (show cdv = .ref c from hc)
  refine fnG_of there cdk S cnt fun B outer s H vs Q E hr gd want => ?_
  obtain ⟨t, der, rd⟩ := body B outer s H vs Q E hr gd want
  exact ⟨t, der.nox, rd⟩
section
variable {X : Cx}
theorem pe_hear {T : List (Addr × Str)} {TT : (XK → Hp → VK → Prop) → Hp → VK → Prop} {x a : Str} {st : Stmt} {g c P : Addr} {fd : FuncData} {k : Nat} {Ng : List Str} {params : Arguments} {body : Expr} {scope : Scope} {t : XK → TE} {p lpos pos : Pos} {ds : List (Str × Int)} (F : Fun X.K x x st g fd) (Sg : FnScope Ng [a] (defScope st))
    (hNg : Ng[0]? = some a) (hva : Vis (defScope st) a) (b : Binds X.K fd [a] []) (hears : ∀ (cdg : Value) (q : Str), Hears X Ng x (defScope st) g cdg (defBody st) a q TT) (hg : Gl X x) (hm : X.mg x = some (.ref g)) (hk : PySem.W.keepIn X.K (.ref g) = true) (TB : LamX.TabB X.base X.mg c P) (hcode : X.env.code = .ref c)
    (hmT : (P, X.env.qual ++ "<lambda>") ∈ T) (hu : ∀ p ∈ T, p.1 = P → p.2 = X.env.qual ++ "<lambda>") (hr : Room (k + 2) X.A) (L : LamN X.N X.env.scope scope ds) (df : LamDef X.env params ds)
    (hbody : ∀ (A : Around) (outer : List Env) (s : Shared) (H : Hp) (E : XK) (f c' : Addr), Room k (A.deeper (LamX.lamEnv X scope s.heap.objs.size f c')) → PE (LamX.lamCx X A outer s H E scope f c') body (t E))
    (hdb : (x == ("__debug__" : Str)) = false := by decide) (hd : (a == ("__debug__" : Str)) = false := by decide) (hcd : (a == ("__classdict__" : Str)) = false := by decide) : PE X (.Call (.Name x p) [.Lambda params body scope lpos] [] pos) (LamX.tLam T TT t) := by
  obtain ⟨oc, od, kV, doc, pm, an, cdv, ct, osl, rfl, lk, cdk⟩ := F.ex
  exact pe_hands hg hm hk lk cdk b Sg hNg hva (hears cdv _) TB hcode hmT hu hr L df hbody hdb hd hcd
end

/-- places of a text -/
def pq (l : List Pos) (n : Nat) : Pos := l.getD n ⟨0, 0, 0, 0⟩
def tTryK (K : PySem.W.Frag) (c : Value) (i j : Nat) (tb : WX → TS) : TS := fun D σ H => tb (wKeep K c i j (fun _ _ _ _ => False) D) D σ H
def cListOf (K : PySem.W.Frag) : List V → Hp → VK → Prop := fun xs H Q => ∃ p ys, xs = [.ref p] ∧ (SqL K H p ys ∨ SqT K H p ys) ∧ ∀ l, H l = none → Q (.ref l) (upd H l (.lst ys))
theorem c_listOf {X : Cx} : CallR X (.type "list") (cListOf X.K) := call_list_of
theorem u65 {k : Nat} {A : Around} (r : Room k A) : A.units + 65 < cLine := by
  have := r.un
  omega
theorem ps_tryK {X : Cx} {x n m : Str} {c : Value} {i j : Nat} {body : List Stmt} {np p1 p2 p3 pos pos' : Pos} {tb : WX → TS} (hs : X.stack = X.env :: X.outer) (hf : X.env.frame = some X.env.locals) (hex : X.ex = []) (hN : X.N.Nodup) (hi : X.N[i]? = some n) (hj : X.N[j]? = some m) (hln : X.env.kindOf n = some .local) (hlm : X.env.kindOf m = some .local) (hc : Names X x c)
    (hb : ∀ (W : WX) (pn : List (Addr × Obj)) (xe : Value → Shared → Prop), Takes (X.tr pn xe) W → PSs (X.tr pn xe) body (tb W)) (hdn : (n == ("__debug__" : Str)) = false := by decide) (hcn : (n == ("__classdict__" : Str)) = false := by decide) :
    PS X (.Try body [.ExceptHandler (some (.Name x np)) (some n) [.Assign [.Name m p1] (.Name n p2) p3] pos'] [] [] pos) (tTryK X.K c i j tb) := ps_try_keep hs hf hex hN hi hj hln hlm hc takes0 (fun W pn xe tk _ => hb W pn xe tk) hdn hcn
end NK

/-! Words for readings with errors and lambdas; what stays of the heap beside the lantern and the tables. -/
namespace NK
open PySem PySem.Spec L2
/-! ## what stays: all but the object at L and the tables -/
def isT : HO → Bool
  | .tbl _ => true | _ => false
def Sta (L : Addr) (H H' : Hp) : Prop := ∀ a o, a ≠ L → H a = some o → isT o = false → H' a = some o
theorem Sta.rfl {L : Addr} {H : Hp} : Sta L H H := fun _ _ _ h _ => h
theorem Sta.tr {L : Addr} {H H1 H2 : Hp} (x : Sta L H H1) (y : Sta L H1 H2) : Sta L H H2 := fun a o n h t => y a o n (x a o n h t) t
theorem Ext.sta {L : Addr} {H H' : Hp} (x : Ext H H') : Sta L H H' := fun a o _ h _ => x a o h
theorem Adv.sta {L : Addr} {H H' : Hp} (x : Adv L H H') : Sta L H H' := fun a o n h _ => x.run a o n h
theorem ext_sta {L : Addr} {H H' : Hp} (x : LamX.ExtN H H') : Sta L H H' := fun a o _ h t => x a o h fun ps z => by rw [z] at t; cases t
theorem Sta.sqL {K : PySem.W.Frag} {L : Addr} {H H' : Hp} {a : Addr} {xs : List V} (x : Sta L H H') (n : a ≠ L) (h : SqL K H a xs) : SqL K H' a xs := by
  rcases h with (h | ⟨o, h⟩) | h
  · exact .inl (.inl (x _ _ n h (Eq.refl _)))
  · exact .inl (.inr ⟨o, x _ _ n h (Eq.refl _)⟩)
  · exact .inr h
theorem Sta.sqT {K : PySem.W.Frag} {L : Addr} {H H' : Hp} {a : Addr} {xs : List V} (x : Sta L H H') (n : a ≠ L) (h : SqT K H a xs) : SqT K H' a xs := by
  rcases h with (h | ⟨o, h⟩) | h
  · exact .inl (.inl (x _ _ n h (Eq.refl _)))
  · exact .inl (.inr ⟨o, x _ _ n h (Eq.refl _)⟩)
  · exact .inr h
theorem Lan.extN {H H' : Hp} {L : Addr} {n : Nat} (x : LamX.ExtN H H') (h : Lan H L n) : Lan H' L n := by
  obtain ⟨c, t, r, cells, h1, h2, h3⟩ := h
  exact ⟨c, t, r, cells, x _ _ h1 (fun _ z => nomatch z), x _ _ h2 (fun _ z => nomatch z), h3⟩
/-- the tables stand a draw -/
theorem tabs_adv {L : Addr} {n : Nat} {T : List (Addr × Str)} {H H' : Hp} (x : Adv L H H') (l : Lan H L n) (t : LamX.Tabs T H) : LamX.Tabs T H' := fun p hp => by
  obtain ⟨o, e⟩ := l.some
  obtain ⟨c0, t0, r0, cells, hL, _⟩ := l
  obtain ⟨ps, h1, h2, h3⟩ := t p hp
  refine ⟨ps, x.run _ _ (fun z => ?_) h1, h2, fun pos cv hc => ?_⟩
  · rw [z, hL] at h1
    cases h1
  · obtain ⟨c, e1, e2⟩ := h3 pos cv hc
    refine ⟨c, e1, x.run _ _ (fun z => ?_) e2⟩
    rw [z, hL] at e2
    exact nomatch (show HO.lst _ = HO.ext _ from Option.some.inj e2)
theorem tabs_ext {T : List (Addr × Str)} {H H' : Hp} (x : Ext H H') (t : LamX.Tabs T H) : LamX.Tabs T H' := t.ext x

/-! ## values told by data: dicts stand for any dict -/
mutual
def Dq (K : PySem.W.Frag) (H : Hp) : PyData → V → Prop
  | .none, v => v = .non
  | .bool b, v => v = .bl b
  | .int i, v => v = .int i
  | .str x, v => v = .str x
  | .list ds, v => ∃ a xs, v = .ref a ∧ SqL K H a xs ∧ DqAll K H ds xs
  | .tuple ds, v => ∃ a xs, v = .ref a ∧ SqT K H a xs ∧ DqAll K H ds xs
  | .dict _, v => ∃ a kvs, v = .ref a ∧ H a = some (.dK kvs)
def DqAll (K : PySem.W.Frag) (H : Hp) : List PyData → List V → Prop
  | [], xs => xs = []
  | d :: ds, xs => ∃ x r, xs = x :: r ∧ Dq K H d x ∧ DqAll K H ds r
end
mutual
theorem Dq.ext {K : PySem.W.Frag} {H H' : Hp} (x : Ext H H') : ∀ (d : PyData) (v : V), Dq K H d v → Dq K H' d v
  | .none, v, h => by simpa [Dq] using h
  | .bool b, v, h => by simpa [Dq] using h
  | .int i, v, h => by simpa [Dq] using h
  | .str y, v, h => by simpa [Dq] using h
  | .list ds, v, h => by
    unfold Dq at h ⊢
    obtain ⟨a, xs, e, h1, h2⟩ := h
    exact ⟨a, xs, e, x.sqL h1, DqAll.ext x ds xs h2⟩
  | .tuple ds, v, h => by
    unfold Dq at h ⊢
    obtain ⟨a, xs, e, h1, h2⟩ := h
    exact ⟨a, xs, e, x.sqT h1, DqAll.ext x ds xs h2⟩
  | .dict _, v, h => by
    unfold Dq at h ⊢
    obtain ⟨a, kvs, e, h1⟩ := h
    exact ⟨a, kvs, e, x _ _ h1⟩
theorem DqAll.ext {K : PySem.W.Frag} {H H' : Hp} (x : Ext H H') : ∀ (ds : List PyData) (xs : List V), DqAll K H ds xs → DqAll K H' ds xs
  | [], xs, h => by simpa [DqAll] using h
  | d :: ds, xs, h => by
    unfold DqAll at h ⊢
    obtain ⟨v, r, e, h1, h2⟩ := h
    exact ⟨v, r, e, Dq.ext x d v h1, DqAll.ext x ds r h2⟩
end
mutual
def Dk (K : PySem.W.Frag) (L : Addr) (H : Hp) : PyData → V → Prop
  | .none, v => v = .non
  | .bool b, v => v = .bl b
  | .int i, v => v = .int i
  | .str x, v => v = .str x
  | .list ds, v => ∃ a xs, v = .ref a ∧ a ≠ L ∧ SqL K H a xs ∧ DkAll K L H ds xs
  | .tuple ds, v => ∃ a xs, v = .ref a ∧ a ≠ L ∧ SqT K H a xs ∧ DkAll K L H ds xs
  | .dict _, v => ∃ a kvs, v = .ref a ∧ a ≠ L ∧ H a = some (.dK kvs)
def DkAll (K : PySem.W.Frag) (L : Addr) (H : Hp) : List PyData → List V → Prop
  | [], xs => xs = []
  | d :: ds, xs => ∃ x r, xs = x :: r ∧ Dk K L H d x ∧ DkAll K L H ds r
end
mutual
theorem Dk.sta {K : PySem.W.Frag} {L : Addr} {H H' : Hp} (x : Sta L H H') : ∀ (d : PyData) (v : V), Dk K L H d v → Dk K L H' d v
  | .none, v, h => by simpa [Dk] using h
  | .bool b, v, h => by simpa [Dk] using h
  | .int i, v, h => by simpa [Dk] using h
  | .str y, v, h => by simpa [Dk] using h
  | .list ds, v, h => by
    unfold Dk at h ⊢
    obtain ⟨a, xs, e, n, h1, h2⟩ := h
    exact ⟨a, xs, e, n, x.sqL n h1, DkAll.sta x ds xs h2⟩
  | .tuple ds, v, h => by
    unfold Dk at h ⊢
    obtain ⟨a, xs, e, n, h1, h2⟩ := h
    exact ⟨a, xs, e, n, x.sqT n h1, DkAll.sta x ds xs h2⟩
  | .dict _, v, h => by
    unfold Dk at h ⊢
    obtain ⟨a, kvs, e, n, h1⟩ := h
    exact ⟨a, kvs, e, n, x _ _ n h1 rfl⟩
theorem DkAll.sta {K : PySem.W.Frag} {L : Addr} {H H' : Hp} (x : Sta L H H') : ∀ (ds : List PyData) (xs : List V), DkAll K L H ds xs → DkAll K L H' ds xs
  | [], xs, h => by simpa [DkAll] using h
  | d :: ds, xs, h => by
    unfold DkAll at h ⊢
    obtain ⟨v, r, e, h1, h2⟩ := h
    exact ⟨v, r, e, Dk.sta x d v h1, DkAll.sta x ds r h2⟩
end
mutual
theorem Dk.q {K : PySem.W.Frag} {L : Addr} {H : Hp} : ∀ (d : PyData) (v : V), Dk K L H d v → Dq K H d v
  | .none, v, h => by simpa [Dk, Dq] using h
  | .bool b, v, h => by simpa [Dk, Dq] using h
  | .int i, v, h => by simpa [Dk, Dq] using h
  | .str y, v, h => by simpa [Dk, Dq] using h
  | .list ds, v, h => by
    unfold Dk at h
    unfold Dq
    obtain ⟨a, xs, e, n, h1, h2⟩ := h
    exact ⟨a, xs, e, h1, DkAll.q ds xs h2⟩
  | .tuple ds, v, h => by
    unfold Dk at h
    unfold Dq
    obtain ⟨a, xs, e, n, h1, h2⟩ := h
    exact ⟨a, xs, e, h1, DkAll.q ds xs h2⟩
  | .dict _, v, h => by
    unfold Dk at h
    unfold Dq
    obtain ⟨a, kvs, e, n, h1⟩ := h
    exact ⟨a, kvs, e, h1⟩
theorem DkAll.q {K : PySem.W.Frag} {L : Addr} {H : Hp} : ∀ (ds : List PyData) (xs : List V), DkAll K L H ds xs → DqAll K H ds xs
  | [], xs, h => by simpa [DkAll, DqAll] using h
  | d :: ds, xs, h => by
    unfold DkAll at h
    unfold DqAll
    obtain ⟨v, r, e, h1, h2⟩ := h
    exact ⟨v, r, e, Dk.q d v h1, DkAll.q ds r h2⟩
end
mutual
theorem Dq.dp {K : PySem.W.Frag} {H : Hp} : ∀ (d : PyData) (v : V), d.hasDict = false → Dq K H d v → Dp K H v d
  | .none, v, _, h => by unfold Dq at h; subst h; exact .non
  | .bool b, v, _, h => by unfold Dq at h; subst h; exact .bl b
  | .int i, v, _, h => by unfold Dq at h; subst h; exact .int i
  | .str y, v, _, h => by unfold Dq at h; subst h; exact .str y
  | .list ds, v, f, h => by
    unfold Dq at h
    obtain ⟨a, xs, rfl, h1, h2⟩ := h
    exact .lst h1 (DqAll.dp ds xs (by simpa [PyData.hasDict] using f) h2)
  | .tuple ds, v, f, h => by
    unfold Dq at h
    obtain ⟨a, xs, rfl, h1, h2⟩ := h
    exact .tup h1 (DqAll.dp ds xs (by simpa [PyData.hasDict] using f) h2)
  | .dict _, v, f, h => by simp [PyData.hasDict] at f
theorem DqAll.dp {K : PySem.W.Frag} {H : Hp} : ∀ (ds : List PyData) (xs : List V), PyData.hasDictAll ds = false → DqAll K H ds xs → DpAll K H xs ds
  | [], xs, _, h => by unfold DqAll at h; subst h; exact .nil
  | d :: ds, xs, f, h => by
    unfold DqAll at h
    obtain ⟨v, r, rfl, h1, h2⟩ := h
    simp only [PyData.hasDictAll, Bool.or_eq_false_iff] at f
    exact .cons (Dq.dp d v f.1 h1) (DqAll.dp ds r f.2 h2)
end
end NK

/-! More steps of readings. -/
namespace NK
open PySem PySem.Spec L2
section
variable {K : PySem.W.Frag} {σ : L2.St} {H H0 : Hp} {Q : VK} {QT : Bool → Hp → Prop} {te to ta tb : TE} {tr : TA} {v x y : V} {D : Ends} {l p : Addr} {xs : List V} {o : HO} {T : String} {r : V → List V → Hp → VK → Prop}
theorem w_bm (q : to σ H fun x H1 => tyV K T x H1 ∧ tr σ H1 fun ys H2 => r x ys H2 Q) : tBM K T r to tr σ H Q := q
theorem w_bm0 (q : to σ H fun x H1 => tyV K T x H1 ∧ r x [] H1 Q) : tBM0 K T r to σ H Q := q
theorem tyL (h : SqL K H p xs) : tyV K "list" (.ref p) H := .inl ⟨rfl, _, h⟩
theorem w_app (h : H l = some (.lst xs)) (n : xs.length ≤ 1000000) (q : Q .non (upd H l (.lst (xs ++ [v])))) : rAppend (.ref l) [v] H Q := ⟨l, xs, v, rfl, rfl, h, Nat.lt_of_le_of_lt n (by decide), q⟩
theorem Ext.mut (e : Ext H0 H) (n : H0 l = none) : Ext H0 (upd H l o) := fun a u z => by
  rw [upd_ne (ne_of_none z n)]
  exact e a u z
theorem w_in {d : PyData} {ds : List PyData} (hx : Dp K H x d) (hy : Dp K H y (.list ds) ∨ Dp K H y (.tuple ds)) (s1 : SeqAt.shaped d = true) (s2 : SeqAt.shaped (.list ds) = true) (q : Q (.bl (ds.any fun z => PyData.eqv z d)) H) : rInS K x y H Q := ⟨d, ds, hx, hy, s1, s2, by rwa [Bool.false_xor]⟩
theorem w_notIn {d : PyData} {ds : List PyData} (hx : Dp K H x d) (hy : Dp K H y (.list ds) ∨ Dp K H y (.tuple ds)) (s1 : SeqAt.shaped d = true) (s2 : SeqAt.shaped (.list ds) = true) (q : Q (.bl (!ds.any fun z => PyData.eqv z d)) H) : rNotInS K x y H Q := ⟨d, ds, hx, hy, s1, s2, by rwa [Bool.true_xor]⟩
theorem w_maxS {a : Addr} {n : Int} {ns : List Int} (h : SqL K H a ((n :: ns).map V.int) ∨ SqT K H a ((n :: ns).map V.int)) (q : Q (.int (ns.foldl max n)) H) : cMaxS K [.ref a] H Q := ⟨a, n, ns, rfl, h, q⟩
theorem w_back (q : te σ H fun x H1 => ∃ a xs, x = .ref a ∧ SqL K H1 a xs ∧ ∀ p, H1 p = none → Q (.ref p) (upd H1 p (.lst xs.reverse))) : tBack K te σ H Q := q
theorem w_listOf (h : SqL K H p xs ∨ SqT K H p xs) (q : ∀ l, H l = none → Q (.ref l) (upd H l (.lst xs))) : cListOf K [.ref p] H Q := ⟨p, xs, rfl, h, q⟩
theorem w_raiseE {C : Addr} {W : WX} {ta : TA} (q : ta σ H fun vs H1 => ∃ y : Str, vs = [.str y] ∧ y.length ≤ 1000000 ∧ ∀ d, H1 d = none → W (.ref C) (some d) σ (upd H1 d (.xd [(("part" : Str), .str y)]))) : tRaiseE C W ta D σ H := q
theorem w_tryK {c : Value} {i j : Nat} {tb : WX → TS} (q : tb (wKeep K c i j (fun _ _ _ _ => False) D) D σ H) : tTryK K c i j tb D σ H := q
theorem w_xk {f : Str} (q : te σ H fun x H1 => ∃ (a D : Addr) (fs : List (Str × V)) (v : V), x = .ref a ∧ Kept H1 a D fs ∧ ExcC K D ∧ PySem.W.findIn K (.ref D) f = some none ∧ fs.lookup f = some v ∧ Q v H1) : tXk K f te σ H Q := q
/-- for x in reversed(xs): from place n to place n + 1, counted from the end -/
theorem w_forRev {g : TG} {tb : TS} {a : Addr} (hx : SqL K H a xs ∨ SqT K H a xs) (Pv : Nat → L2.St → Hp → Prop) (h0 : Pv 0 σ H) (hq : ∀ i σ H', Pv i σ H' → Ext H H')
    (hs : ∀ (i : Nat) (x : V) (σ' : L2.St) (H' : Hp), i < xs.length → xs[xs.length - 1 - i]? = some x → Pv i σ' H' → g x σ' H' fun σ2 H2 => tb { D with nx := Pv (i + 1), ct := Pv (i + 1), bk := D.nx } σ2 H2) (hd : ∀ σ' H', Pv xs.length σ' H' → D.nx σ' H') {tl : TE} (ha : ∀ R : VK, R (.ref a) H → tl σ H R) : tFor (RT.iRevA K tl) g tb D σ H := by
  refine ha _ ?_
  rcases hx with hx | hx
  · exact ⟨a, xs, rfl, .inl ⟨hx, RT.for_Itv Pv h0 (fun i σ' H' p => (hq i σ' H' p).sqL hx) hs hd⟩⟩
  · exact ⟨a, xs, rfl, .inr ⟨hx, RT.for_ItvT Pv h0 (fun i σ' H' p => (hq i σ' H' p).sqT hx) hs hd⟩⟩
end
/-! ## pairs of a letter and a number -/
def ltr (b : Bool) : Str := if b = true then "a" else "b"
def Pairs (K : PySem.W.Frag) (H : Hp) : List V → List (Bool × Int) → Prop
  | [], [] => True
  | v :: vs, x :: l => (∃ a, v = .ref a ∧ SqT K H a [.str (ltr x.1), .int x.2]) ∧ Pairs K H vs l
  | _, _ => False
section
variable {K : PySem.W.Frag}
theorem Pairs.imp {H H' : Hp} (f : ∀ a xs, SqT K H a xs → SqT K H' a xs) : ∀ (vs : List V) (l : List (Bool × Int)), Pairs K H vs l → Pairs K H' vs l
  | [], [], _ => trivial
  | v :: vs, x :: l, h => by
    obtain ⟨⟨a, e, h1⟩, h2⟩ := h
    exact ⟨⟨a, e, f _ _ h1⟩, Pairs.imp f vs l h2⟩
  | [], _ :: _, h => h.elim
  | _ :: _, [], h => h.elim
theorem Pairs.ext {H H' : Hp} {vs : List V} {l : List (Bool × Int)} (x : Ext H H') (h : Pairs K H vs l) : Pairs K H' vs l := h.imp (fun a xs e => x.sqT e)
theorem sqT_mut {H : Hp} {p : Addr} {ys : List V} {o : HO} {a : Addr} {xs : List V} (hp : H p = some (.lst ys)) (h : SqT K H a xs) : SqT K (upd H p o) a xs := by
  rcases h with (h | ⟨u, h⟩) | h
  · exact .inl (.inl (by rw [upd_ne (fun z => by rw [z, hp] at h; cases h)]; exact h))
  · exact .inl (.inr ⟨u, by rw [upd_ne (fun z => by rw [z, hp] at h; cases h)]; exact h⟩)
  · exact .inr h
theorem Pairs.mut {H : Hp} {p : Addr} {ys : List V} {o : HO} {vs : List V} {l : List (Bool × Int)} (hp : H p = some (.lst ys)) (h : Pairs K H vs l) : Pairs K (upd H p o) vs l := h.imp fun a xs e => sqT_mut hp e
theorem Pairs.len {H : Hp} : ∀ {vs : List V} {l : List (Bool × Int)}, Pairs K H vs l → vs.length = l.length
  | [], [], _ => rfl
  | v :: vs, x :: l, h => by rw [List.length_cons, List.length_cons, Pairs.len h.2]
  | [], _ :: _, h => h.elim
  | _ :: _, [], h => h.elim
theorem Pairs.snoc {H : Hp} {a : Addr} {x : Bool × Int} (hx : SqT K H a [.str (ltr x.1), .int x.2]) : ∀ {vs : List V} {l : List (Bool × Int)}, Pairs K H vs l → Pairs K H (vs ++ [.ref a]) (l ++ [x])
  | [], [], _ => ⟨⟨a, rfl, hx⟩, trivial⟩
  | v :: vs, y :: l, h => ⟨h.1, Pairs.snoc hx h.2⟩
  | [], _ :: _, h => h.elim
  | _ :: _, [], h => h.elim
theorem Pairs.at {H : Hp} : ∀ {vs : List V} {l : List (Bool × Int)} (i : Nat) {v : V}, Pairs K H vs l → vs[i]? = some v → ∃ a x, l[i]? = some x ∧ v = .ref a ∧ SqT K H a [.str (ltr x.1), .int x.2]
  | v :: vs, x :: l, 0, w, h, e => by
    cases e
    obtain ⟨⟨a, e, h1⟩, _⟩ := h
    exact ⟨a, x, rfl, e, h1⟩
  | v :: vs, x :: l, i + 1, w, h, e => Pairs.at i h.2 e
  | [], _, i, w, h, e => by simp at e
  | _ :: _, [], _, w, h, e => h.elim
def pairD (x : Bool × Int) : PyData := .tuple [.str (ltr x.1), .int x.2]
theorem Pairs.dp {H : Hp} : ∀ {vs : List V} {l : List (Bool × Int)}, Pairs K H vs l → DpAll K H vs (l.map pairD)
  | [], [], _ => .nil
  | v :: vs, x :: l, h => by
    obtain ⟨⟨a, e, h1⟩, h2⟩ := h
    subst e
    exact .cons (.tup h1 (.cons (.str _) (.cons (.int _) .nil))) (Pairs.dp h2)
  | [], _ :: _, h => h.elim
  | _ :: _, [], h => h.elim
theorem Pairs.sta {L : Addr} {H H' : Hp} (x : Sta L H H') (hL : ∃ ys, H L = some (.lst ys)) {vs : List V} {l : List (Bool × Int)} (h : Pairs K H vs l) : Pairs K H' vs l := h.imp fun a xs e => by
  obtain ⟨ys, hL⟩ := hL
  rcases e with (e | ⟨u, e⟩) | e
  · exact .inl (.inl (x _ _ (fun z => by rw [z, hL] at e; cases e) e (Eq.refl _)))
  · exact .inl (.inr ⟨u, x _ _ (fun z => by rw [z, hL] at e; cases e) e (Eq.refl _)⟩)
  · exact .inr e
end
/-- pairs of two numbers -/
def Twos (H : Hp) : List V → List (Int × Int) → Prop
  | [], [] => True
  | v :: vs, x :: l => (∃ a, v = .ref a ∧ H a = some (.tup [.int x.1, .int x.2])) ∧ Twos H vs l
  | _, _ => False
theorem Twos.imp {H H' : Hp} (f : ∀ a xs, H a = some (.tup xs) → H' a = some (.tup xs)) : ∀ (vs : List V) (l : List (Int × Int)), Twos H vs l → Twos H' vs l
  | [], [], _ => trivial
  | v :: vs, x :: l, h => by
    obtain ⟨⟨a, e, h1⟩, h2⟩ := h
    exact ⟨⟨a, e, f _ _ h1⟩, Twos.imp f vs l h2⟩
  | [], _ :: _, h => h.elim
  | _ :: _, [], h => h.elim
theorem Twos.ext {H H' : Hp} {vs : List V} {l : List (Int × Int)} (x : Ext H H') (h : Twos H vs l) : Twos H' vs l := h.imp (fun a xs e => x a _ e)
theorem Twos.len {H : Hp} : ∀ {vs : List V} {l : List (Int × Int)}, Twos H vs l → vs.length = l.length
  | [], [], _ => rfl
  | v :: vs, x :: l, h => by rw [List.length_cons, List.length_cons, Twos.len h.2]
  | [], _ :: _, h => h.elim
  | _ :: _, [], h => h.elim
theorem Twos.at {H : Hp} : ∀ {vs : List V} {l : List (Int × Int)} (i : Nat) {v : V}, Twos H vs l → vs[i]? = some v → ∃ a x, l[i]? = some x ∧ v = .ref a ∧ H a = some (.tup [.int x.1, .int x.2])
  | v :: vs, x :: l, 0, w, h, e => by
    cases e
    obtain ⟨⟨a, e, h1⟩, _⟩ := h
    exact ⟨a, x, rfl, e, h1⟩
  | v :: vs, x :: l, i + 1, w, h, e => Twos.at i h.2 e
  | [], _, i, w, h, e => by simp at e
  | _ :: _, [], _, w, h, e => h.elim
def twoD (x : Int × Int) : PyData := .tuple [.int x.1, .int x.2]
theorem Twos.dp {K : PySem.W.Frag} {H : Hp} : ∀ {vs : List V} {l : List (Int × Int)}, Twos H vs l → DpAll K H vs (l.map twoD)
  | [], [], _ => .nil
  | v :: vs, x :: l, h => by
    obtain ⟨⟨a, e, h1⟩, h2⟩ := h
    subst e
    exact .cons (.tup (SqT.of h1) (.cons (.int _) (.cons (.int _) .nil))) (Twos.dp h2)
  | [], _ :: _, h => h.elim
  | _ :: _, [], h => h.elim

/-! ## any comprehension over a list or a tuple: each item gives a value, or none -/
section
variable {K : PySem.W.Frag} {σ : L2.St} {H : Hp} {Q : VK} {te tl : TE} {tt : TT} {g : TG} {vs : List Nat} {xs : List V}
theorem take_fm {α : Type} {os : List (Option α)} {i : Nat} {o : Option α} (h : os[i]? = some o) : (os.take (i + 1)).filterMap id = (os.take i).filterMap id ++ o.toList := by
  rw [List.take_add_one, h, List.filterMap_append]
  cases o <;> rfl
theorem w_lcG {a : Addr} (os : List (Option V)) (hx : SqL K H a xs ∨ SqT K H a xs) (small : xs.length ≤ 100000) (same : os.length = xs.length)
    (el : ∀ (i : Nat) (x : V) (o : Option V), xs[i]? = some x → os[i]? = some o → ∀ H1, Ext H H1 → ∀ (R : VK) (N : Hp → Prop), (∀ y, o = some y → ∀ H2, Ext H1 H2 → R y H2) → (o = none → ∀ H2, Ext H1 H2 → N H2) →
      g x (wipe σ vs) H1 fun σ2 H2 => wipe σ2 vs = wipe σ vs ∧ tt σ2 H2 fun b H3 => if b = true then te σ2 H3 R else N H3)
    (q : ∀ D H', H D = none → Ext H H' → H' D = some (.lst (os.filterMap id)) → Q (.ref D) H') : LcB K g tt te vs σ Q (.ref a) H := by
  have turn : ∀ (D : Addr) (i : Nat) (x : V) (H1 : Hp) (N : Hp → Prop), H D = none → i < xs.length → xs[i]? = some x → Ext H H1 → H1 D = some (.lst ((os.take i).filterMap id)) → (∀ H2, Ext H H2 → H2 D = some (.lst ((os.take (i + 1)).filterMap id)) → N H2) →
      g x (wipe σ vs) H1 fun σ2 H2 => wipe σ2 vs = wipe σ vs ∧ tt σ2 H2 fun b H3 => if b = true then te σ2 H3 fun y H4 => ∃ acc, H4 D = some (.lst acc) ∧ acc.length < sizeLine ∧ N (upd H4 D (.lst (acc ++ [y]))) else N H3 := by
    intro D i x H1 N hD lt hi e1 h1 n
    obtain ⟨o, ho⟩ : ∃ o, os[i]? = some o := ⟨_, List.getElem?_eq_getElem (by omega)⟩
    refine el i x o hi ho H1 e1 _ _ (fun y eo H2 e2 => ⟨_, e2 _ _ h1, ?_, n _ ?_ ?_⟩) fun eo H2 e2 => n _ (e1.tr e2) ?_
    · have k1 := List.length_filterMap_le (f := id) (l := os.take i)
      have k2 : (os.take i).length ≤ i := by rw [List.length_take]; omega
      exact Nat.lt_of_le_of_lt (Nat.le_trans k1 k2) (Nat.lt_of_lt_of_le lt (Nat.le_trans small (by decide)))
    · exact (e1.tr e2).mut hD
    · rw [upd_same, take_fm ho, eo]
      rfl
    · rw [take_fm ho, eo]
      simpa using e2 _ _ h1
  refine ⟨a, rfl, ?_⟩
  have all : os.take xs.length = os := by rw [← same, List.take_length]
  rcases hx with hx | hx
  · refine .inl ⟨⟨xs, hx⟩, fun D hD => ?_⟩
    refine lc_list (xs := xs) (fun i H1 => Ext H H1 ∧ H1 D = some (.lst ((os.take i).filterMap id))) ⟨.put hD, upd_same⟩ (fun i H1 _ p => p.1.sqL hx) (fun i x H1 hi p => ?_) fun H1 p => ?_
    · exact turn D i x H1 _ hD (List.getElem?_eq_some_iff.mp hi).1 hi p.1 p.2 fun H2 e h => ⟨e, h⟩
    · exact q D H1 hD p.1 (by rw [p.2, all])
  · refine .inr ⟨⟨xs, hx⟩, fun D hD => ?_⟩
    refine lc_tup (xs := xs) (fun i H1 => Ext H H1 ∧ H1 D = some (.lst ((os.take i).filterMap id))) ⟨.put hD, upd_same⟩ (fun i H1 _ p => p.1.sqT hx) (fun i x H1 hi p => ?_) fun H1 p => ?_
    · exact turn D i x H1 _ hD (List.getElem?_eq_some_iff.mp hi).1 hi p.1 p.2 fun H2 e h => ⟨e, h⟩
    · exact q D H1 hD p.1 (by rw [p.2, all])
theorem fm_some {α : Type} : ∀ l : List α, (l.map some).filterMap id = l
  | [] => rfl
  | x :: l => by
    show x :: (l.map some).filterMap id = _
    rw [fm_some l]
/-- .. each item gives one value -/
theorem w_lcV {a : Addr} (ys : List V) (hx : SqL K H a xs ∨ SqT K H a xs) (small : xs.length ≤ 100000) (same : ys.length = xs.length)
    (el : ∀ (i : Nat) (x y : V), xs[i]? = some x → ys[i]? = some y → ∀ H1, Ext H H1 → ∀ (R : VK), (∀ H2, Ext H1 H2 → R y H2) → ∀ N : Hp → Prop,
      g x (wipe σ vs) H1 fun σ2 H2 => wipe σ2 vs = wipe σ vs ∧ tt σ2 H2 fun b H3 => if b = true then te σ2 H3 R else N H3)
    (q : ∀ D H', H D = none → Ext H H' → H' D = some (.lst ys) → Q (.ref D) H') : LcB K g tt te vs σ Q (.ref a) H :=
  w_lcG (ys.map some) hx small (by rw [List.length_map, same]) (fun i x o h1 h2 H1 e1 R N r n => by
    rw [List.getElem?_map] at h2
    cases h3 : ys[i]? with
    | none => rw [h3] at h2; cases h2
    | some y =>
      rw [h3] at h2
      cases h2
      exact el i x y h1 h3 H1 e1 R (fun H2 e2 => r y rfl H2 e2) N) fun D H' n e h => q D H' n e (by rw [h, fm_some])
end

/-! ## a comprehension whose values are told by what holds of them -/
section
variable {K : PySem.W.Frag} {σ : L2.St} {H : Hp} {Q : VK} {te tl : TE} {tt : TT} {g : TG} {vs : List Nat} {xs : List V}
/-- all but the object at D stays -/
def ButD (D : Addr) (H H' : Hp) : Prop := ∀ a o, a ≠ D → H a = some o → H' a = some o
theorem Ext.butD {D : Addr} {H H' : Hp} (x : Ext H H') : ButD D H H' := fun a o _ h => x a o h
theorem butD_put {D : Addr} {H : Hp} {o : HO} : ButD D H (upd H D o) := fun a u n h => by rw [upd_ne n]; exact h
theorem w_lcR {a : Addr} (P : Addr → Nat → V → Hp → Prop) (stab : ∀ D i y H1 H2, ButD D H1 H2 → P D i y H1 → P D i y H2) (hx : SqL K H a xs ∨ SqT K H a xs) (small : xs.length ≤ 100000)
    (el : ∀ (D : Addr) (i : Nat) (x : V), xs[i]? = some x → ∀ H1, Ext H H1 → (∃ zs, H1 D = some (.lst zs)) → ∀ (R : VK), (∀ y H2, Ext H1 H2 → P D i y H2 → R y H2) → ∀ N : Hp → Prop,
      g x (wipe σ vs) H1 fun σ2 H2 => wipe σ2 vs = wipe σ vs ∧ tt σ2 H2 fun b H3 => if b = true then te σ2 H3 R else N H3)
    (q : ∀ D H' ys, H D = none → Ext H H' → H' D = some (.lst ys) → ys.length = xs.length → (∀ i y, ys[i]? = some y → P D i y H') → Q (.ref D) H') : LcB K g tt te vs σ Q (.ref a) H := by
  have turn : ∀ (D : Addr) (i : Nat) (x : V) (H1 : Hp) (N : Hp → Prop), H D = none → i < xs.length → xs[i]? = some x → Ext H H1 → (∃ acc, H1 D = some (.lst acc) ∧ acc.length = i ∧ ∀ j y, acc[j]? = some y → P D j y H1) → (∀ H2, Ext H H2 → (∃ acc, H2 D = some (.lst acc) ∧ acc.length = i + 1 ∧ ∀ j y, acc[j]? = some y → P D j y H2) → N H2) →
      g x (wipe σ vs) H1 fun σ2 H2 => wipe σ2 vs = wipe σ vs ∧ tt σ2 H2 fun b H3 => if b = true then te σ2 H3 fun y H4 => ∃ acc, H4 D = some (.lst acc) ∧ acc.length < sizeLine ∧ N (upd H4 D (.lst (acc ++ [y]))) else N H3 := by
    intro D i x H1 N hD lt hi e1 ⟨acc, h1, la, pa⟩ n
    refine el D i x hi H1 e1 ⟨acc, h1⟩ _ (fun y H2 e2 py => ⟨acc, e2 _ _ h1, by rw [la]; exact Nat.lt_of_lt_of_le lt (Nat.le_trans small (by decide)), n _ ((e1.tr e2).mut hD) ⟨acc ++ [y], upd_same, by rw [List.length_append, la]; rfl, fun j z hz => ?_⟩⟩) _
    by_cases c : j < acc.length
    · rw [List.getElem?_append_left c] at hz
      exact stab _ _ _ _ _ butD_put (stab _ _ _ _ _ e2.butD (pa j z hz))
    · rw [List.getElem?_append_right (by omega)] at hz
      have e : j - acc.length = 0 := by
        cases k : j - acc.length with
        | zero => exact Eq.refl _
        | succ m => rw [k] at hz; simp at hz
      rw [e] at hz
      cases hz
      have : j = i := by omega
      rw [this]
      exact stab _ _ _ _ _ butD_put py
  refine ⟨a, rfl, ?_⟩
  rcases hx with hx | hx
  · refine .inl ⟨⟨xs, hx⟩, fun D hD => ?_⟩
    refine lc_list (xs := xs) (fun i H1 => Ext H H1 ∧ ∃ acc, H1 D = some (.lst acc) ∧ acc.length = i ∧ ∀ j y, acc[j]? = some y → P D j y H1) ⟨.put hD, [], upd_same, rfl, fun j y z => by simp at z⟩ (fun i H1 _ p => p.1.sqL hx) (fun i x H1 hi p => ?_) fun H1 p => ?_
    · exact turn D i x H1 _ hD (List.getElem?_eq_some_iff.mp hi).1 hi p.1 p.2 fun H2 e h => ⟨e, h⟩
    · obtain ⟨e, acc, h1, la, pa⟩ := p
      exact q D H1 acc hD e h1 la pa
  · refine .inr ⟨⟨xs, hx⟩, fun D hD => ?_⟩
    refine lc_tup (xs := xs) (fun i H1 => Ext H H1 ∧ ∃ acc, H1 D = some (.lst acc) ∧ acc.length = i ∧ ∀ j y, acc[j]? = some y → P D j y H1) ⟨.put hD, [], upd_same, rfl, fun j y z => by simp at z⟩ (fun i H1 _ p => p.1.sqT hx) (fun i x H1 hi p => ?_) fun H1 p => ?_
    · exact turn D i x H1 _ hD (List.getElem?_eq_some_iff.mp hi).1 hi p.1 p.2 fun H2 e h => ⟨e, h⟩
    · obtain ⟨e, acc, h1, la, pa⟩ := p
      exact q D H1 acc hD e h1 la pa
end

/-! ## data and values -/
def itemsD : PyData → Option (List PyData)
  | .list ds => some ds | .tuple ds => some ds | _ => none
section
variable {K : PySem.W.Frag} {H : Hp} {Q : VK}
theorem Dq.seq {d : PyData} {v : V} {ds : List PyData} (h : Dq K H d v) (e : itemsD d = some ds) : ∃ a xs, v = .ref a ∧ (SqL K H a xs ∨ SqT K H a xs) ∧ DqAll K H ds xs := by
  cases d with
  | list es =>
    cases e
    unfold Dq at h
    obtain ⟨a, xs, e, h1, h2⟩ := h
    exact ⟨a, xs, e, .inl h1, h2⟩
  | tuple es =>
    cases e
    unfold Dq at h
    obtain ⟨a, xs, e, h1, h2⟩ := h
    exact ⟨a, xs, e, .inr h1, h2⟩
  | _ => cases e
theorem Dq.anyV {d : PyData} {v : V} (h : Dq K H d v) : ∃ s, AnyV K H v s ∧ (s.isSome = (itemsD d).isSome) ∧ ∀ ds, itemsD d = some ds → ∃ a xs, v = .ref a ∧ s = some xs ∧ (SqL K H a xs ∨ SqT K H a xs) ∧ DqAll K H ds xs := by
  cases d with
  | list es =>
    unfold Dq at h
    obtain ⟨a, xs, rfl, h1, h2⟩ := h
    exact ⟨some xs, .lst h1, rfl, fun ds e => by cases e; exact ⟨a, xs, rfl, rfl, .inl h1, h2⟩⟩
  | tuple es =>
    unfold Dq at h
    obtain ⟨a, xs, rfl, h1, h2⟩ := h
    exact ⟨some xs, .tup h1, rfl, fun ds e => by cases e; exact ⟨a, xs, rfl, rfl, .inr h1, h2⟩⟩
  | none => unfold Dq at h; subst h; exact ⟨none, .non, rfl, fun ds e => nomatch e⟩
  | bool b => unfold Dq at h; subst h; exact ⟨none, .bl b, rfl, fun ds e => nomatch e⟩
  | int i => unfold Dq at h; subst h; exact ⟨none, .int i, rfl, fun ds e => nomatch e⟩
  | str x => unfold Dq at h; subst h; exact ⟨none, .str x, rfl, fun ds e => nomatch e⟩
  | dict kvs =>
    unfold Dq at h
    obtain ⟨a, kvs, rfl, h1⟩ := h
    exact ⟨none, .dict h1, rfl, fun ds e => nomatch e⟩
theorem DqAll.at : ∀ {ds : List PyData} {xs : List V} (i : Nat) {v : V}, DqAll K H ds xs → xs[i]? = some v → ∃ d, ds[i]? = some d ∧ Dq K H d v
  | [], xs, i, v, h, e => by
    unfold DqAll at h
    subst h
    simp at e
  | d :: ds, xs, 0, v, h, e => by
    unfold DqAll at h
    obtain ⟨x, r, rfl, h1, h2⟩ := h
    cases e
    exact ⟨d, rfl, h1⟩
  | d :: ds, xs, i + 1, v, h, e => by
    unfold DqAll at h
    obtain ⟨x, r, rfl, h1, h2⟩ := h
    exact DqAll.at i h2 e
theorem DqAll.len : ∀ {ds : List PyData} {xs : List V}, DqAll K H ds xs → xs.length = ds.length
  | [], xs, h => by unfold DqAll at h; subst h; rfl
  | d :: ds, xs, h => by
    unfold DqAll at h
    obtain ⟨x, r, rfl, h1, h2⟩ := h
    rw [List.length_cons, List.length_cons, DqAll.len h2]
/-- any value with any items -/
theorem Dq.anyD {d : PyData} {v : V} (h : Dq K H d v) : ∃ s, AnyD K H v s ∧ (s.isSome = (itemsD d).isSome) ∧ ∀ ds, itemsD d = some ds → ∃ xs, s = some xs ∧ DqAll K H ds xs := by
  obtain ⟨s, h1, h2, h3⟩ := h.anyV
  refine ⟨s, ⟨h1, fun xs e x hx => ?_⟩, h2, fun ds e => ?_⟩
  · cases ei : itemsD d with
    | none => rw [ei, e] at h2; cases h2
    | some ds =>
      obtain ⟨a, ys, _, e2, _, h4⟩ := h3 ds ei
      rw [e] at e2
      cases e2
      obtain ⟨i, hi⟩ := List.getElem?_of_mem hx
      obtain ⟨d2, _, h5⟩ := h4.at i hi
      obtain ⟨s2, h6, _⟩ := h5.anyV
      exact ⟨s2, h6⟩
  · obtain ⟨a, xs, _, e2, _, h4⟩ := h3 ds e
    exact ⟨xs, e2, h4⟩
def isS : PyData → Bool
  | .str _ => true | _ => false
theorem w_isStr {d : PyData} {v : V} (h : Dq K H d v) (q : Q (.bl (isS d)) H) : rIsi K [v, .ty "str"] H Q := by
  cases d with
  | none => unfold Dq at h; subst h; exact w_isi (b := false) (.base .non) (kit_ty (by decide +kernel)) q
  | bool b => unfold Dq at h; subst h; exact w_isi (b := false) (.base (.bl b)) (kit_ty (by decide +kernel)) q
  | int i => unfold Dq at h; subst h; exact w_isi (b := false) (.base (.int i)) (kit_ty (by decide +kernel)) q
  | str x => unfold Dq at h; subst h; exact w_isi (b := true) (.base (.str x)) (kit_ty (by decide +kernel)) q
  | list ds =>
    unfold Dq at h
    obtain ⟨a, xs, rfl, h1, h2⟩ := h
    exact w_isi (b := false) (ty_L h1) (kit_ty (by decide +kernel)) q
  | tuple ds =>
    unfold Dq at h
    obtain ⟨a, xs, rfl, h1, h2⟩ := h
    exact w_isi (b := false) (ty_T h1) (kit_ty (by decide +kernel)) q
  | dict kvs =>
    unfold Dq at h
    obtain ⟨a, kvs, rfl, h1⟩ := h
    exact w_isi (b := false) (.base (.dK h1)) (kit_ty (by decide +kernel)) q
end
end NK

/-! Loops once more: over a list or a tuple; over a drawn range; a comprehension over a drawn range. -/
namespace NK
open PySem PySem.Spec L2
section
variable {K : PySem.W.Frag} {D : Ends} {σ : L2.St} {H : Hp} {xs : List V}
/-- for x in xs -/
theorem w_forSeq {g : TG} {tb : TS} {a : Addr} {tl : TE} (hx : SqL K H a xs ∨ SqT K H a xs) (ha : ∀ R : VK, R (.ref a) H → tl σ H R) (Pv : Nat → L2.St → Hp → Prop) (h0 : Pv 0 σ H) (hq : ∀ i σ H', Pv i σ H' → Ext H H')
    (hs : ∀ (i : Nat) (x : V) (σ' : L2.St) (H' : Hp), xs[i]? = some x → Pv i σ' H' → g x σ' H' fun σ2 H2 => tb { D with nx := Pv (i + 1), ct := Pv (i + 1), bk := D.nx } σ2 H2) (hd : ∀ σ' H', Pv xs.length σ' H' → D.nx σ' H') : tFor (iSeq K tl) g tb D σ H := by
  refine ha _ ?_
  rcases hx with hx | hx
  · exact ⟨a, rfl, .inl ⟨⟨xs, hx⟩, for_list (xs := xs) Pv h0 (fun i σ' H' _ p => (hq i σ' H' p).sqL hx) (fun i x σ' H' h p => hs i x σ' H' h p) hd⟩⟩
  · exact ⟨a, rfl, .inr ⟨⟨xs, hx⟩, for_tup (xs := xs) Pv h0 (fun i σ' H' _ p => (hq i σ' H' p).sqT hx) (fun i x σ' H' h p => hs i x σ' H' h p) hd⟩⟩
/-- for x in range(page(lantern, c)) -/
theorem w_forPage {g : TG} {tb : TS} {C : CA} {E : XK} {L : Addr} {n : Nat} {c : Int} (hL : σ[0]? = some (some (.ref L))) (l : Lan H L n) (hn : n ≤ 100000) (c0 : 0 < c) (c1 : c < 1000000)
    (q : ∀ (r : Nat) H1, (r : Int) < c → Adv L H H1 → Lan H1 L (n + 1) → ∃ Pv : Nat → L2.St → Hp → Prop, Pv 0 σ H1 ∧ (∀ (i : Nat) σ' H', i < r → Pv i σ' H' → g (.int (i : Int)) σ' H' fun σ2 H2 => tb { D with nx := Pv (i + 1), ct := Pv (i + 1), bk := D.nx } σ2 H2) ∧ ∀ σ' H', Pv r σ' H' → D.nx σ' H') :
    tFor (iRng1 (tCons (tCall (sp_law_flick K C) [] E (tCons (tVar 0) (tCons (tC (.int c)) tNil))) tNil)) g tb D σ H := by
  refine w_for (w_rng1 (w_cons (w_call (w_cons (w_var hL (w_cons (w_c (w_nil ⟨L, n, c, rfl, l, hn, c0, by omega, fun v H1 v0 v1 a1 l1 => w_nil ?_⟩))))))))
  obtain ⟨r, rfl⟩ : ∃ n : Nat, v = n := ⟨v.toNat, (Int.toNat_of_nonneg v0).symm⟩
  obtain ⟨Pv, h0, hs, hd⟩ := q r H1 v1 a1 l1
  refine ⟨r, rfl, by omega, by omega, ?_⟩
  rw [Int.toNat_natCast]
  refine for_range (lo := 0) (n := r) Pv h0 (fun i σ' H' hi p => ?_) hd
  have q := hs i σ' H' hi p
  rw [Int.zero_add]
  exact q
/-- [.. for x in range(page(lantern, c))] -/
theorem w_lcPage {g : TG} {tt : TT} {te : TE} {vs : List Nat} {Q : VK} {C : CA} {E : XK} {L : Addr} {n : Nat} {c : Int} (hL : σ[0]? = some (some (.ref L))) (l : Lan H L n) (hn : n ≤ 100000) (c0 : 0 < c) (c1 : c < 1000000)
    (q : ∀ (r : Nat) H1, (r : Int) < c → Adv L H H1 → Lan H1 L (n + 1) → ∀ D, H1 D = none → ∃ Pv : Nat → Hp → Prop, Pv 0 (upd H1 D (.lst [])) ∧
      (∀ (i : Nat) H2, i < r → Pv i H2 → g (.int (i : Int)) (wipe σ vs) H2 fun σ2 H3 => wipe σ2 vs = wipe σ vs ∧ tt σ2 H3 fun b H3 => if b = true then te σ2 H3 fun y H4 => ∃ acc, H4 D = some (.lst acc) ∧ acc.length < sizeLine ∧ Pv (i + 1) (upd H4 D (.lst (acc ++ [y]))) else Pv (i + 1) H3) ∧
      ∀ H2, Pv r H2 → Q (.ref D) H2) : tLc (iRng1 (tCons (tCall (sp_law_flick K C) [] E (tCons (tVar 0) (tCons (tC (.int c)) tNil))) tNil)) g tt te vs σ H Q := by
  refine w_rng1 (w_cons (w_call (w_cons (w_var hL (w_cons (w_c (w_nil ⟨L, n, c, rfl, l, hn, c0, by omega, fun v H1 v0 v1 a1 l1 => w_nil ?_⟩)))))))
  obtain ⟨r, rfl⟩ : ∃ n : Nat, v = n := ⟨v.toNat, (Int.toNat_of_nonneg v0).symm⟩
  refine ⟨r, rfl, by omega, by omega, ?_⟩
  rw [Int.toNat_natCast]
  intro D hD
  obtain ⟨Pv, h0, hs, hd⟩ := q r H1 v1 a1 l1 D hD
  refine lc_range (lo := 0) (n := r) Pv h0 (fun i H2 hi p => ?_) hd
  have q := hs i H2 hi p
  rw [Int.zero_add]
  exact q
theorem w_iSeq {tl : TE} {R : It → Hp → Prop} (q : tl σ H fun x H1 => ∃ a, x = .ref a ∧ ((∃ xs, SqL K H1 a xs) ∧ R (Itl K a) H1 ∨ (∃ xs, SqT K H1 a xs) ∧ R (Itt K a) H1)) : iSeq K tl σ H R := q
/-- range(n), n drawn -/
theorem w_rngE {n : Nat} {R : It → Hp → Prop} (small : n ≤ 1000000) (q : R (Itr 0 n) H) : ∃ j : Int, [V.int (n : Int)] = [.int j] ∧ -(2 ^ 62) ≤ j ∧ j < 2 ^ 62 ∧ R (Itr 0 j.toNat) H := ⟨n, rfl, by omega, by omega, by rw [Int.toNat_natCast]; exact q⟩
theorem w_lcAny {wi : TI} {g : TG} {tt : TT} {te : TE} {vs : List Nat} {Q : VK} (q : wi σ H fun J H1 => ∀ D, H1 D = none → ∃ W : Nat → Nat → Hp → Prop, (∃ m, W 0 m (upd H1 D (.lst []))) ∧ ∀ i m H, W i m H →
  (J.stop i H ∧ Q (.ref D) H) ∨ (J.go i H ∧ ∃ Nx : Hp → Prop, (∀ H', Nx H' → ∃ m', m' < m ∧ W (i + 1) m' H') ∧ ∀ x H', J.yld i H x H' → g x (wipe σ vs) H' fun σ2 H2 => wipe σ2 vs = wipe σ vs ∧ tt σ2 H2 fun b H3 =>
    if b = true then te σ2 H3 fun y H4 => ∃ acc, H4 D = some (.lst acc) ∧ acc.length < sizeLine ∧ Nx (upd H4 D (.lst (acc ++ [y]))) else Nx H3)) : tLc wi g tt te vs σ H Q := q
theorem nat_of {v : Int} (h : 0 ≤ v) : ∃ n : Nat, v = n := ⟨v.toNat, (Int.toNat_of_nonneg h).symm⟩
end

/-! ## data that is small -/
structure Fine (d : PyData) (k w : Nat) : Prop where
  lay : d.canLay0 = true
  sh : d.showable = true
  itg : d.intsShort 13 = true
  deep : d.depth ≤ k
  big : d.weight ≤ w
theorem log2_small {n k : Nat} (h : n < 2 ^ k) (hk : 0 < k) : n.log2 < k := by
  by_cases z : n = 0
  · subst z; rw [show Nat.log2 0 = 0 from by decide]; exact hk
  · exact (Nat.log2_lt z).mpr h
theorem Fine.int {i : Int} (h0 : 0 ≤ i) (h1 : i ≤ 1000000000000) : Fine (.int i) 0 40 := by
  have n : i.natAbs < 2 ^ 40 := by
    have : (2 : Nat) ^ 40 = 1099511627776 := by decide
    omega
  refine ⟨by simp only [PyData.canLay0], ?_, ?_, Nat.le_refl _, ?_⟩
  · simp only [PyData.showable]
    exact decide_eq_true (Nat.lt_of_lt_of_le (log2_small n (by decide)) (by decide))
  · simp only [PyData.intsShort]
    refine decide_eq_true ?_
    by_cases c : i.natAbs < 10 ^ 12
    · exact PyData.shown_int_le c
    · have : i = 1000000000000 := by
        have : (10 : Nat) ^ 12 = 1000000000000 := by decide
        omega
      rw [this]
      decide
  · simp only [PyData.weight]
    split
    · omega
    · exact log2_small n (by decide)
theorem Fine.str {x : Str} (h : PyData.strOk x = true) (w : Nat) (hw : x.cps.size ≤ w) : Fine (.str x) 0 w := ⟨by simpa only [PyData.canLay0] using h, by simp only [PyData.showable], by simp only [PyData.intsShort], Nat.le_refl _, by simpa only [PyData.weight] using hw⟩
theorem Fine.mono {d : PyData} {k w k' w' : Nat} (h : Fine d k w) (hk : k ≤ k') (hw : w ≤ w') : Fine d k' w' := ⟨h.lay, h.sh, h.itg, Nat.le_trans h.deep hk, Nat.le_trans h.big hw⟩
theorem fine_all {k w : Nat} : ∀ {ds : List PyData}, (∀ d ∈ ds, Fine d k w) → PyData.canLayAll0 ds = true ∧ PyData.showableAll ds = true ∧ PyData.intsShortAll 13 ds = true ∧ PyData.depthAll ds ≤ k ∧ PyData.weightAll ds ≤ ds.length * (w + 1)
  | [], _ => ⟨by simp only [PyData.canLayAll0], by simp only [PyData.showableAll], by simp only [PyData.intsShortAll], by simp only [PyData.depthAll]; omega, by simp only [PyData.weightAll]; omega⟩
  | d :: ds, h => by
    obtain ⟨h1, h2, h3, h4, h5⟩ := fine_all (ds := ds) fun x m => h x (List.mem_cons_of_mem _ m)
    have f := h d List.mem_cons_self
    refine ⟨?_, ?_, ?_, ?_, ?_⟩
    · simp only [PyData.canLayAll0, f.lay, h1, Bool.and_self]
    · simp only [PyData.showableAll, f.sh, h2, Bool.and_self]
    · simp only [PyData.intsShortAll, f.itg, h3, Bool.and_self]
    · simp only [PyData.depthAll]
      exact Nat.max_le.mpr ⟨f.deep, h4⟩
    · simp only [PyData.weightAll, List.length_cons, Nat.add_mul, Nat.one_mul]
      have := f.big
      omega
theorem Fine.tup {ds : List PyData} {k w : Nat} (h : ∀ d ∈ ds, Fine d k w) : Fine (.tuple ds) (k + 1) (ds.length * (w + 1)) := by
  obtain ⟨h1, h2, h3, h4, h5⟩ := fine_all h
  exact ⟨by simpa only [PyData.canLay0] using h1, by simpa only [PyData.showable] using h2, by simpa only [PyData.intsShort] using h3, by simp only [PyData.depth]; omega, by simpa only [PyData.weight] using h5⟩
theorem Fine.lst {ds : List PyData} {k w : Nat} (h : ∀ d ∈ ds, Fine d k w) : Fine (.list ds) (k + 1) (ds.length * (w + 1)) := by
  obtain ⟨h1, h2, h3, h4, h5⟩ := fine_all h
  exact ⟨by simpa only [PyData.canLay0] using h1, by simpa only [PyData.showable] using h2, by simpa only [PyData.intsShort] using h3, by simp only [PyData.depth]; omega, by simpa only [PyData.weight] using h5⟩
theorem Fine.shaped {d : PyData} {k w : Nat} (h : Fine d k w) (hk : k ≤ 40) : SeqAt.shaped d = true := by
  unfold SeqAt.shaped
  rw [h.lay, Bool.true_and]
  exact decide_eq_true (by have := h.deep; omega)
theorem Fine.fits {d : PyData} {k w : Nat} (h : Fine d k w) (hk : k ≤ 40) (hw : w ≤ 1000000) : d.shown.length ≤ sizeLine := by
  refine NK.fits ?_ h.itg
  unfold PyData.layable0
  rw [h.lay, Bool.true_and, Bool.and_eq_true]
  exact ⟨decide_eq_true (by have := h.deep; omega), decide_eq_true (by have := h.big; omega)⟩
theorem w_reprF {K : PySem.W.Frag} {H : Hp} {Q : VK} {p : Addr} {d : PyData} {k w : Nat} (f : Fine d k w) (h : Dp K H (.ref p) d) (hk : k ≤ 40) (hw : w ≤ 1000000) (q : Q (.str d.shown) H) : cRepr K [.ref p] H Q :=
  w_repr h f.sh (PyData.hasDict_of_canLay d f.lay) (Nat.le_trans f.deep hk) (f.fits hk hw) q
theorem eqv_self {d : PyData} (h : d.canLay0 = true) : PyData.eqv d d = true := SeqAt.eqv_refl d h

/-! ## a list of one's own beside the lantern -/
theorem Adv.mut {L D : Addr} {n : Nat} {H1 H4 : Hp} {o : HO} (a : Adv L H1 H4) (l : Lan H1 L n) (hD : H1 D = none) : Adv L H1 (upd H4 D o) := by
  have ne : D ≠ L := l.ne hD
  refine ⟨fun b u n h => ?_, fun c t r h => ?_⟩
  · rw [upd_ne (fun z => by rw [z, hD] at h; cases h)]
    exact a.run b u n h
  · rw [upd_ne (fun z => ne z.symm)]
    exact a.same c t r h
theorem Lan.mutD {L D : Addr} {n m : Nat} {H1 H4 : Hp} {o : HO} (l1 : Lan H1 L n) (hD : H1 D = none) (a : Adv L H1 H4) (l4 : Lan H4 L m) : Lan (upd H4 D o) L m := by
  have ne : D ≠ L := l1.ne hD
  obtain ⟨c, t, r, cells, h1, h2, h3⟩ := l1
  obtain ⟨t1, r1, e1⟩ := a.same c t r h1
  obtain ⟨c4, t4, r4, cells4, k1, k2, k3⟩ := l4
  rw [e1] at k1
  cases k1
  refine ⟨c, t1, r1, cells4, by rw [upd_ne (fun z => ne z.symm)]; exact e1, ?_, k3⟩
  rw [upd_ne (fun z => by rw [z, hD] at h2; cases h2)]
  exact k2
section
variable {K : PySem.W.Frag} {D : Ends} {σ : L2.St} {H : Hp} {xs : List V}
/-- for x in xs[::-1] -/
theorem w_forBack {g : TG} {tb : TS} {n : Nat} {a : Addr} (hv : σ[n]? = some (some (.ref a))) (hx : SqL K H a xs) (q : ∀ p H1, H p = none → Ext H H1 → H1 p = some (.lst xs.reverse) → ∃ Pv : Nat → L2.St → Hp → Prop, Pv 0 σ H1 ∧ (∀ i σ' H', Pv i σ' H' → Ext H1 H') ∧
    (∀ (i : Nat) (x : V) (σ' : L2.St) (H' : Hp), i < xs.length → xs[xs.length - 1 - i]? = some x → Pv i σ' H' → g x σ' H' fun σ2 H2 => tb { D with nx := Pv (i + 1), ct := Pv (i + 1), bk := D.nx } σ2 H2) ∧ ∀ σ' H', Pv xs.length σ' H' → D.nx σ' H') : tFor (iSeq K (tBack K (tVar n))) g tb D σ H := by
  refine w_for (w_iSeq (w_back (w_var hv ⟨a, xs, rfl, hx, fun p hp => ?_⟩)))
  obtain ⟨Pv, h0, hq, hs, hd⟩ := q p _ hp (.put hp) upd_same
  refine ⟨p, rfl, .inl ⟨⟨_, SqL.of upd_same⟩, for_list (xs := xs.reverse) Pv h0 (fun i σ' H' _ p => (hq i σ' H' p).sqL (SqL.of upd_same)) (fun i x σ' H' h p => ?_) ?_⟩⟩
  · have lt : i < xs.reverse.length := (List.getElem?_eq_some_iff.mp h).1
    rw [List.length_reverse] at lt
    rw [List.getElem?_reverse lt] at h
    exact hs i x σ' H' lt h p
  · rw [List.length_reverse]
    exact hd
end
end NK

namespace NK
/-! ## the word of a way, in plain numbers -/
def steps : Nat → Nat → Nat → List (Bool × Int) × (Nat × Nat)
  | 0, p, q => ([], (p, q))
  | n + 1, p, q => if 0 < p ∧ 0 < q then
      (if q ≤ p then ((true, ((p / q : Nat) : Int)) :: (steps n (p % q) q).1, (steps n (p % q) q).2)
       else ((false, ((q / p : Nat) : Int)) :: (steps n p (q % p)).1, (steps n p (q % p)).2))
    else ([], (p, q))
/-- a pair of a word, undone -/
def ap (x : Bool × Int) (v : Int × Int) : Int × Int := if x.1 = true then (v.1 + x.2 * v.2, v.2) else (v.1, v.2 + x.2 * v.1)
def apf (l : List (Bool × Int)) (v : Int × Int) : Int × Int := l.foldr ap v
theorem apf_cons (x : Bool × Int) (l : List (Bool × Int)) (v : Int × Int) : apf (x :: l) v = ap x (apf l v) := rfl
/-- a pair of a word, done -/
def un (x : Bool × Int) (v : Int × Int) : Int × Int := if x.1 = true then (v.1 - x.2 * v.2, v.2) else (v.1, v.2 - x.2 * v.1)
def led (l : List (Bool × Int)) (v : Int × Int) : Int × Int := l.foldl (fun u x => un x u) v
theorem un_ap (x : Bool × Int) (v : Int × Int) : un x (ap x v) = v := by
  obtain ⟨b, t⟩ := x
  obtain ⟨p, q⟩ := v
  cases b with
  | true => simp [un, ap]
  | false => simp [un, ap]
theorem led_apf : ∀ (l : List (Bool × Int)) (v : Int × Int), led l (apf l v) = v
  | [], v => rfl
  | x :: l, v => by
    show led l (un x (ap x (apf l v))) = v
    rw [un_ap]
    exact led_apf l v
theorem mod_lt' {p q : Nat} (h : 0 < q) : p % q < q := Nat.mod_lt p h
theorem steps_fuel : ∀ (n m p q : Nat), p + q ≤ n → p + q ≤ m → steps n p q = steps m p q
  | 0, m, p, q, h, _ => by
    obtain ⟨rfl, rfl⟩ : p = 0 ∧ q = 0 := by omega
    cases m <;> simp [steps]
  | n + 1, 0, p, q, _, h => by
    obtain ⟨rfl, rfl⟩ : p = 0 ∧ q = 0 := by omega
    simp [steps]
  | n + 1, m + 1, p, q, h1, h2 => by
    unfold steps
    by_cases c : 0 < p ∧ 0 < q
    · rw [if_pos c, if_pos c]
      by_cases d : q ≤ p
      · have l : p % q < q := Nat.mod_lt p c.2
        rw [if_pos d, if_pos d, steps_fuel n m (p % q) q (by omega) (by omega)]
      · have l : q % p < p := Nat.mod_lt q c.1
        rw [if_neg d, if_neg d, steps_fuel n m p (q % p) (by omega) (by omega)]
    · rw [if_neg c, if_neg c]
def wordOf (p q : Nat) : List (Bool × Int) := (steps (p + q) p q).1
def endOf (p q : Nat) : Nat × Nat := (steps (p + q) p q).2
theorem steps_a {p q : Nat} (hq : 0 < q) (h : q ≤ p) : wordOf p q = (true, ((p / q : Nat) : Int)) :: wordOf (p % q) q ∧ endOf p q = endOf (p % q) q := by
  have e := steps_fuel (p + q) (p + q - 1 + 1) p q (Nat.le_refl _) (by omega)
  have l : p % q < q := Nat.mod_lt p hq
  unfold wordOf endOf
  rw [e, steps, if_pos ⟨by omega, hq⟩, if_pos h, steps_fuel (p + q - 1) (p % q + q) (p % q) q (by omega) (Nat.le_refl _)]
  exact ⟨rfl, rfl⟩
theorem steps_b {p q : Nat} (hp : 0 < p) (h : ¬ q ≤ p) : wordOf p q = (false, ((q / p : Nat) : Int)) :: wordOf p (q % p) ∧ endOf p q = endOf p (q % p) := by
  have e := steps_fuel (p + q) (p + q - 1 + 1) p q (Nat.le_refl _) (by omega)
  have l : q % p < p := Nat.mod_lt q hp
  unfold wordOf endOf
  rw [e, steps, if_pos ⟨hp, by omega⟩, if_neg h, steps_fuel (p + q - 1) (p + q % p) p (q % p) (by omega) (Nat.le_refl _)]
  exact ⟨rfl, rfl⟩
theorem steps_z {p q : Nat} (h : ¬ (0 < p ∧ 0 < q)) : wordOf p q = [] ∧ endOf p q = (p, q) := by
  unfold wordOf endOf
  cases e : p + q with
  | zero => exact ⟨rfl, rfl⟩
  | succ n =>
    rw [steps, if_neg h]
    exact ⟨rfl, rfl⟩
/-- a walk along the word: what holds at the ends and is carried back by each pair holds of all -/
theorem word_ind {P : Nat → Nat → Prop} (z : ∀ p q, ¬ (0 < p ∧ 0 < q) → P p q) (a : ∀ p q, 0 < q → q ≤ p → P (p % q) q → P p q) (b : ∀ p q, 0 < p → ¬ q ≤ p → P p (q % p) → P p q) : ∀ (n p q : Nat), p + q ≤ n → P p q
  | 0, p, q, h => z p q (by omega)
  | n + 1, p, q, h => by
    by_cases c : 0 < p ∧ 0 < q
    · by_cases d : q ≤ p
      · have l : p % q < q := Nat.mod_lt p c.2
        exact a p q c.2 d (word_ind z a b n (p % q) q (by omega))
      · have l : q % p < p := Nat.mod_lt q c.1
        exact b p q c.1 d (word_ind z a b n p (q % p) (by omega))
    · exact z p q c
theorem end_is (p q : Nat) (g : Nat.gcd p q = 1) : endOf p q = (1, 0) ∨ endOf p q = (0, 1) := by
  refine word_ind (P := fun p q => Nat.gcd p q = 1 → endOf p q = (1, 0) ∨ endOf p q = (0, 1)) (fun p q c g => ?_) (fun p q hq h ih g => ?_) (fun p q hp h ih g => ?_) (p + q) p q (Nat.le_refl _) g
  · rw [(steps_z c).2]
    by_cases hp : p = 0
    · subst hp
      rw [Nat.gcd_zero_left] at g
      subst g
      exact .inr rfl
    · have hq : q = 0 := by omega
      subst hq
      rw [Nat.gcd_zero_right] at g
      subst g
      exact .inl rfl
  · rw [(steps_a hq h).2]
    exact ih (by rw [Nat.gcd_comm, Nat.gcd_rec] at g; exact g)
  · rw [(steps_b hp h).2]
    exact ih (by rw [Nat.gcd_rec] at g; rw [Nat.gcd_comm]; exact g)
theorem div_mod_int (p q : Nat) : ((p % q : Nat) : Int) + ((p / q : Nat) : Int) * (q : Int) = p := by
  have h := Nat.mod_add_div p q
  have h2 : ((p % q + q * (p / q) : Nat) : Int) = (p : Int) := by rw [h]
  rw [Int.natCast_add, Int.natCast_mul, Int.mul_comm] at h2
  exact h2
/-- the word leads back -/
theorem apf_word (p q : Nat) : apf (wordOf p q) (((endOf p q).1 : Int), ((endOf p q).2 : Int)) = ((p : Int), (q : Int)) := by
  refine word_ind (P := fun p q => apf (wordOf p q) (((endOf p q).1 : Int), ((endOf p q).2 : Int)) = ((p : Int), (q : Int))) (fun p q c => ?_) (fun p q hq h ih => ?_) (fun p q hp h ih => ?_) (p + q) p q (Nat.le_refl _)
  · rw [(steps_z c).1, (steps_z c).2]
    rfl
  · rw [(steps_a hq h).1, (steps_a hq h).2]
    rw [apf_cons, ih]
    show (((p % q : Nat) : Int) + ((p / q : Nat) : Int) * (q : Int), (q : Int)) = _
    rw [div_mod_int]
  · rw [(steps_b hp h).1, (steps_b hp h).2]
    rw [apf_cons, ih]
    show ((p : Int), ((q % p : Nat) : Int) + ((q / p : Nat) : Int) * (p : Int)) = _
    rw [div_mod_int]
theorem led_word (p q : Nat) : led (wordOf p q) ((p : Int), (q : Int)) = (((endOf p q).1 : Int), ((endOf p q).2 : Int)) := by
  have e := led_apf (wordOf p q) (((endOf p q).1 : Int), ((endOf p q).2 : Int))
  rwa [apf_word] at e
/-- the numbers of a word -/
theorem word_times (p q : Nat) : ∀ x ∈ wordOf p q, 1 ≤ x.2 ∧ (x.2 ≤ p ∨ x.2 ≤ q) := by
  refine word_ind (P := fun p q => ∀ x ∈ wordOf p q, 1 ≤ x.2 ∧ (x.2 ≤ p ∨ x.2 ≤ q)) (fun p q c x hx => ?_) (fun p q hq h ih x hx => ?_) (fun p q hp h ih x hx => ?_) (p + q) p q (Nat.le_refl _)
  · rw [(steps_z c).1] at hx
    cases hx
  · rw [(steps_a hq h).1] at hx
    have l : p % q ≤ p := Nat.mod_le p q
    rcases List.mem_cons.mp hx with rfl | hx
    · have k1 : 1 ≤ p / q := Nat.div_pos h hq
      have k2 : p / q ≤ p := Nat.div_le_self p q
      refine ⟨?_, .inl ?_⟩
      · show (1 : Int) ≤ ((p / q : Nat) : Int)
        omega
      · show ((p / q : Nat) : Int) ≤ (p : Int)
        omega
    · have := ih x hx
      omega
  · rw [(steps_b hp h).1] at hx
    have l : q % p ≤ q := Nat.mod_le q p
    rcases List.mem_cons.mp hx with rfl | hx
    · have k1 : 1 ≤ q / p := Nat.div_pos (by omega) hp
      have k2 : q / p ≤ q := Nat.div_le_self q p
      refine ⟨?_, .inr ?_⟩
      · show (1 : Int) ≤ ((q / p : Nat) : Int)
        omega
      · show ((q / p : Nat) : Int) ≤ (q : Int)
        omega
    · have := ih x hx
      omega
theorem half_mod {p q : Nat} (hq : 0 < q) (h : q ≤ p) : 2 * (p % q) ≤ p := by
  have k := Nat.mod_add_div p q
  have l : p % q < q := Nat.mod_lt p hq
  have d : 1 ≤ p / q := Nat.div_pos h hq
  have m : q * 1 ≤ q * (p / q) := Nat.mul_le_mul_left q d
  omega
theorem word_len : ∀ (n p q : Nat), p * q < 2 ^ n → (wordOf p q).length ≤ n
  | 0, p, q, h => by
    have z : p * q = 0 := by omega
    have c : ¬ (0 < p ∧ 0 < q) := fun c => by
      have := Nat.mul_pos c.1 c.2
      omega
    rw [(steps_z c).1]
    exact Nat.le_refl _
  | n + 1, p, q, h => by
    rw [Nat.pow_succ] at h
    by_cases c : 0 < p ∧ 0 < q
    · by_cases d : q ≤ p
      · rw [(steps_a c.2 d).1, List.length_cons]
        have k : 2 * (p % q) * q ≤ p * q := Nat.mul_le_mul_right q (half_mod c.2 d)
        rw [Nat.mul_assoc] at k
        exact Nat.succ_le_succ (word_len n (p % q) q (by omega))
      · rw [(steps_b c.1 d).1, List.length_cons]
        have k : p * (2 * (q % p)) ≤ p * q := Nat.mul_le_mul_left p (half_mod c.1 (by omega))
        have k2 : p * (2 * (q % p)) = 2 * (p * (q % p)) := by rw [Nat.mul_left_comm]
        exact Nat.succ_le_succ (word_len n p (q % p) (by omega))
    · rw [(steps_z c).1]
      exact Nat.zero_le _
/-- the other way of a word is not greater -/
theorem other_n (p q : Nat) : endOf p q = (0, 1) → (p = 0 → apf (wordOf p q) (1, 0) = (1, 0)) ∧ (0 < p → 0 ≤ (apf (wordOf p q) (1, 0)).1 ∧ (apf (wordOf p q) (1, 0)).1 ≤ p ∧ 0 ≤ (apf (wordOf p q) (1, 0)).2 ∧ (apf (wordOf p q) (1, 0)).2 ≤ q) := by
  refine word_ind (P := fun p q => endOf p q = (0, 1) → (p = 0 → apf (wordOf p q) (1, 0) = (1, 0)) ∧ (0 < p → 0 ≤ (apf (wordOf p q) (1, 0)).1 ∧ (apf (wordOf p q) (1, 0)).1 ≤ p ∧ 0 ≤ (apf (wordOf p q) (1, 0)).2 ∧ (apf (wordOf p q) (1, 0)).2 ≤ q)) (fun p q c e => ?_) (fun p q hq h ih e => ?_) (fun p q hp h ih e => ?_) (p + q) p q (Nat.le_refl _)
  · rw [(steps_z c).1]
    rw [(steps_z c).2] at e
    cases e
    exact ⟨fun _ => rfl, fun z => absurd z (Nat.lt_irrefl 0)⟩
  · rw [(steps_a hq h).2] at e
    obtain ⟨h0, h1⟩ := ih e
    refine ⟨fun z => by omega, fun hp => ?_⟩
    rw [(steps_a hq h).1, apf_cons]
    have dm := div_mod_int p q
    have d0 : (0 : Int) ≤ ((p / q : Nat) : Int) := Int.natCast_nonneg _
    have d1 : (1 : Int) ≤ ((p / q : Nat) : Int) := by have := Nat.div_pos h hq; omega
    by_cases m : p % q = 0
    · rw [h0 m]
      show 0 ≤ (1 : Int) + ((p / q : Nat) : Int) * 0 ∧ (1 : Int) + ((p / q : Nat) : Int) * 0 ≤ p ∧ (0 : Int) ≤ 0 ∧ (0 : Int) ≤ q
      rw [Int.mul_zero]
      omega
    · obtain ⟨a1, a2, a3, a4⟩ := h1 (Nat.pos_of_ne_zero m)
      generalize apf (wordOf (p % q) q) (1, 0) = u at a1 a2 a3 a4 ⊢
      show 0 ≤ u.1 + ((p / q : Nat) : Int) * u.2 ∧ u.1 + ((p / q : Nat) : Int) * u.2 ≤ p ∧ 0 ≤ u.2 ∧ u.2 ≤ q
      have k1 : 0 ≤ ((p / q : Nat) : Int) * u.2 := Int.mul_nonneg d0 a3
      have k2 : ((p / q : Nat) : Int) * u.2 ≤ ((p / q : Nat) : Int) * q := Int.mul_le_mul_of_nonneg_left a4 d0
      omega
  · rw [(steps_b hp h).2] at e
    obtain ⟨h0, h1⟩ := ih e
    refine ⟨fun z => by omega, fun _ => ?_⟩
    rw [(steps_b hp h).1, apf_cons]
    have dm := div_mod_int q p
    have d0 : (0 : Int) ≤ ((q / p : Nat) : Int) := Int.natCast_nonneg _
    obtain ⟨a1, a2, a3, a4⟩ := h1 hp
    generalize apf (wordOf p (q % p)) (1, 0) = u at a1 a2 a3 a4 ⊢
    show 0 ≤ u.1 ∧ u.1 ≤ p ∧ 0 ≤ u.2 + ((q / p : Nat) : Int) * u.1 ∧ u.2 + ((q / p : Nat) : Int) * u.1 ≤ q
    have k1 : 0 ≤ ((q / p : Nat) : Int) * u.1 := Int.mul_nonneg d0 a1
    have k2 : ((q / p : Nat) : Int) * u.1 ≤ ((q / p : Nat) : Int) * p := Int.mul_le_mul_of_nonneg_left a2 d0
    omega
theorem other_e (p q : Nat) : endOf p q = (1, 0) → (q = 0 → apf (wordOf p q) (0, 1) = (0, 1)) ∧ (0 < q → 0 ≤ (apf (wordOf p q) (0, 1)).1 ∧ (apf (wordOf p q) (0, 1)).1 ≤ p ∧ 0 ≤ (apf (wordOf p q) (0, 1)).2 ∧ (apf (wordOf p q) (0, 1)).2 ≤ q) := by
  refine word_ind (P := fun p q => endOf p q = (1, 0) → (q = 0 → apf (wordOf p q) (0, 1) = (0, 1)) ∧ (0 < q → 0 ≤ (apf (wordOf p q) (0, 1)).1 ∧ (apf (wordOf p q) (0, 1)).1 ≤ p ∧ 0 ≤ (apf (wordOf p q) (0, 1)).2 ∧ (apf (wordOf p q) (0, 1)).2 ≤ q)) (fun p q c e => ?_) (fun p q hq h ih e => ?_) (fun p q hp h ih e => ?_) (p + q) p q (Nat.le_refl _)
  · rw [(steps_z c).1]
    rw [(steps_z c).2] at e
    cases e
    exact ⟨fun _ => rfl, fun z => absurd z (Nat.lt_irrefl 0)⟩
  · rw [(steps_a hq h).2] at e
    obtain ⟨h0, h1⟩ := ih e
    refine ⟨fun z => by omega, fun _ => ?_⟩
    rw [(steps_a hq h).1, apf_cons]
    have dm := div_mod_int p q
    have d0 : (0 : Int) ≤ ((p / q : Nat) : Int) := Int.natCast_nonneg _
    obtain ⟨a1, a2, a3, a4⟩ := h1 hq
    generalize apf (wordOf (p % q) q) (0, 1) = u at a1 a2 a3 a4 ⊢
    show 0 ≤ u.1 + ((p / q : Nat) : Int) * u.2 ∧ u.1 + ((p / q : Nat) : Int) * u.2 ≤ p ∧ 0 ≤ u.2 ∧ u.2 ≤ q
    have k1 : 0 ≤ ((p / q : Nat) : Int) * u.2 := Int.mul_nonneg d0 a3
    have k2 : ((p / q : Nat) : Int) * u.2 ≤ ((p / q : Nat) : Int) * q := Int.mul_le_mul_of_nonneg_left a4 d0
    omega
  · rw [(steps_b hp h).2] at e
    obtain ⟨h0, h1⟩ := ih e
    refine ⟨fun z => by omega, fun hq => ?_⟩
    rw [(steps_b hp h).1, apf_cons]
    have dm := div_mod_int q p
    have d0 : (0 : Int) ≤ ((q / p : Nat) : Int) := Int.natCast_nonneg _
    have d1 : (1 : Int) ≤ ((q / p : Nat) : Int) := by have := Nat.div_pos (show p ≤ q by omega) hp; omega
    by_cases m : q % p = 0
    · rw [h0 m]
      show (0 : Int) ≤ 0 ∧ (0 : Int) ≤ p ∧ 0 ≤ (1 : Int) + ((q / p : Nat) : Int) * 0 ∧ (1 : Int) + ((q / p : Nat) : Int) * 0 ≤ q
      rw [Int.mul_zero]
      omega
    · obtain ⟨a1, a2, a3, a4⟩ := h1 (Nat.pos_of_ne_zero m)
      generalize apf (wordOf p (q % p)) (0, 1) = u at a1 a2 a3 a4 ⊢
      show 0 ≤ u.1 ∧ u.1 ≤ p ∧ 0 ≤ u.2 + ((q / p : Nat) : Int) * u.1 ∧ u.2 + ((q / p : Nat) : Int) * u.1 ≤ q
      have k1 : 0 ≤ ((q / p : Nat) : Int) * u.1 := Int.mul_nonneg d0 a1
      have k2 : ((q / p : Nat) : Int) * u.1 ≤ ((q / p : Nat) : Int) * p := Int.mul_le_mul_of_nonneg_left a2 d0
      omega
end NK

local macro_rules | `(tactic| walk_at "nk1") => `(tactic| (first
  | with_reducible refine NK.w_var rfl ?_
  | with_reducible refine NK.w_c ?_
  | with_reducible refine NK.w_op ?_
  | with_reducible refine NK.w_un ?_
  | with_reducible refine NK.w_cb ?_
  | with_reducible refine NK.w_cons ?_
  | with_reducible refine NK.w_nil ?_
  | with_reducible refine NK.w_call ?_
  | with_reducible refine NK.w_callK ?_
  | with_reducible refine NK.w_callK0 ?_
  | with_reducible refine NK.w_tup ?_
  | with_reducible refine NK.w_lst ?_
  | with_reducible refine NK.w_add ?_
  | with_reducible refine NK.w_sub ?_
  | with_reducible refine NK.w_neg ?_
  | with_reducible refine NK.w_lt ?_
  | with_reducible refine NK.w_le ?_
  | with_reducible refine NK.w_gt ?_
  | with_reducible refine NK.w_ge ?_
  | with_reducible refine NK.w_eqI ?_
  | with_reducible refine NK.w_neI ?_
  | with_reducible refine NK.w_eqB ?_
  | with_reducible refine NK.w_neB ?_
  | with_reducible refine NK.w_isNo ?_
  | with_reducible refine NK.w_notNo ?_
  | with_reducible refine NK.w_abs ?_
  | with_reducible refine NK.w_max ?_
  | with_reducible refine NK.w_int ?_
  | with_reducible refine NK.w_intB ?_
  | with_reducible refine NK.w_lcS ?_
  | with_reducible refine NK.w_test ?_
  | with_reducible refine NK.w_tB ?_
  | with_reducible refine NK.w_bl ?_
  | with_reducible refine NK.w_not ?_
  | with_reducible refine NK.w_and ?_
  | with_reducible refine NK.w_or ?_
  | with_reducible refine NK.w_andV ?_
  | with_reducible refine NK.w_orV ?_
  | with_reducible refine NK.w_notV ?_
  | with_reducible refine NK.w_if ?_
  | with_reducible refine NK.w_sl ?_
  | with_reducible refine NK.w_noPart ?_
  | with_reducible refine NK.w_part ?_
  | with_reducible refine NK.w_partI ?_
  | with_reducible refine NK.w_yes ?_
  | with_reducible refine NK.w_thenA ?_
  | with_reducible refine NK.w_thenD ?_
  | with_reducible refine NK.w_thenP ?_
  | with_reducible refine NK.w_thenN ?_
  | with_reducible refine NK.w_nx ?_
  | with_reducible refine NK.w_ifS ?_
  | with_reducible refine NK.w_ret ?_
  | with_reducible refine NK.w_retN ?_
  | with_reducible refine NK.w_asg ?_
  | with_reducible refine NK.w_gName ?_
  | with_reducible refine NK.w_drop ?_
  | with_reducible refine NK.w_rng1 ?_
  | with_reducible refine NK.w_par ?_
  | with_reducible refine NK.w_par2 ?_
  | with_reducible refine NK.w_gSub ?_
  | with_reducible refine NK.w_gCons ?_
  | with_reducible refine NK.w_gNil ?_
  | with_reducible refine NK.w_bm ?_
  | with_reducible refine NK.w_bm0 ?_
  | with_reducible refine NK.w_back ?_
  | with_reducible refine NK.w_raiseE ?_
  | with_reducible refine NK.w_tryK ?_
  | with_reducible refine NK.w_xk ?_
  | with_reducible refine NK.w_t ?_
  | with_reducible refine NK.w_f ?_
  | dsimp only [List.set_cons_zero, List.set_cons_succ]))
local macro_rules | `(tactic| walk_at "nk") => `(tactic| repeat walk_at "nk1")
local macro_rules | `(tactic| walk_at "nx1") => `(tactic| (first
  | with_reducible refine NK.w_var rfl ?_
  | with_reducible refine NK.w_c ?_
  | with_reducible refine NK.w_op ?_
  | with_reducible refine NK.w_un ?_
  | with_reducible refine NK.w_cb ?_
  | with_reducible refine NK.w_cons ?_
  | with_reducible refine NK.w_nil ?_
  | with_reducible refine NK.w_call ?_
  | with_reducible refine NK.w_callK ?_
  | with_reducible refine NK.w_callK0 ?_
  | with_reducible refine NK.w_tup ?_
  | with_reducible refine NK.w_lst ?_
  | with_reducible refine NK.w_add ?_
  | with_reducible refine NK.w_sub ?_
  | with_reducible refine NK.w_neg ?_
  | with_reducible refine NK.w_lt ?_
  | with_reducible refine NK.w_le ?_
  | with_reducible refine NK.w_gt ?_
  | with_reducible refine NK.w_ge ?_
  | with_reducible refine NK.w_eqI ?_
  | with_reducible refine NK.w_neI ?_
  | with_reducible refine NK.w_eqB ?_
  | with_reducible refine NK.w_neB ?_
  | with_reducible refine NK.w_isNo ?_
  | with_reducible refine NK.w_notNo ?_
  | with_reducible refine NK.w_abs ?_
  | with_reducible refine NK.w_max ?_
  | with_reducible refine NK.w_int ?_
  | with_reducible refine NK.w_intB ?_
  | with_reducible refine NK.w_lcS ?_
  | with_reducible refine NK.w_test ?_
  | with_reducible refine NK.w_tB ?_
  | with_reducible refine NK.w_bl ?_
  | with_reducible refine NK.w_not ?_
  | with_reducible refine NK.w_and ?_
  | with_reducible refine NK.w_or ?_
  | with_reducible refine NK.w_andV ?_
  | with_reducible refine NK.w_orV ?_
  | with_reducible refine NK.w_notV ?_
  | with_reducible refine NK.w_if ?_
  | with_reducible refine NK.w_sl ?_
  | with_reducible refine NK.w_noPart ?_
  | with_reducible refine NK.w_part ?_
  | with_reducible refine NK.w_partI ?_
  | with_reducible refine NK.w_yes ?_
  | with_reducible refine NK.w_nx ?_
  | with_reducible refine NK.w_ifS ?_
  | with_reducible refine NK.w_ret ?_
  | with_reducible refine NK.w_retN ?_
  | with_reducible refine NK.w_asg ?_
  | with_reducible refine NK.w_gName ?_
  | with_reducible refine NK.w_drop ?_
  | with_reducible refine NK.w_rng1 ?_
  | with_reducible refine NK.w_par ?_
  | with_reducible refine NK.w_par2 ?_
  | with_reducible refine NK.w_gSub ?_
  | with_reducible refine NK.w_gCons ?_
  | with_reducible refine NK.w_gNil ?_
  | with_reducible refine NK.w_bm ?_
  | with_reducible refine NK.w_bm0 ?_
  | with_reducible refine NK.w_back ?_
  | with_reducible refine NK.w_raiseE ?_
  | with_reducible refine NK.w_tryK ?_
  | with_reducible refine NK.w_xk ?_
  | with_reducible refine NK.w_t ?_
  | with_reducible refine NK.w_f ?_
  | dsimp only [List.set_cons_zero, List.set_cons_succ]))
local macro_rules | `(tactic| walk_at "nx") => `(tactic| repeat walk_at "nx1")

namespace NK
open PySem PySem.Spec L2
/-! ## specs of law k24 -/
/-- the word of (p, q), as it is told -/
def WordR (K : PySem.W.Frag) (H : Hp) (r : V) (p q : Nat) : Prop := ∃ (a w : Addr) (xs : List V), r = .ref a ∧ H a = some (.tup [.ref w, .str (if (endOf p q).2 = 0 then "east" else "north")]) ∧ H w = some (.tup xs) ∧ Pairs K H xs (wordOf p q)
def okWay (p q : Nat) : Prop := p ≤ 1000000000000 ∧ q ≤ 1000000000000 ∧ Nat.gcd p q = 1
def sp_word_in (K : PySem.W.Frag) (_ : CA) : Sp := fun vs H Q _ => ∃ (a : Addr) (p q : Nat), vs = [.ref a] ∧ (SqL K H a [.int p, .int q] ∨ SqT K H a [.int p, .int q]) ∧ okWay p q ∧ ∀ r H', Ext H H' → WordR K H' r p q → Q r H'
/-- the two ways of a word, as they are told -/
def WaysR (H : Hp) (r : V) (l : List (Bool × Int)) : Prop := ∃ (a : Addr) (xs : List V), r = .ref a ∧ H a = some (.tup xs) ∧ Twos H xs [apf l (1, 0), apf l (0, 1)]
def smallT (l : List (Bool × Int)) : Prop := l.length ≤ 200 ∧ ∀ x ∈ l, 1 ≤ x.2 ∧ x.2 ≤ 1000000000000
def sp_ways_in (K : PySem.W.Frag) (_ : CA) : Sp := fun vs H Q _ => ∃ (a : Addr) (xs : List V) (l : List (Bool × Int)), vs = [.ref a] ∧ (SqL K H a xs ∨ SqT K H a xs) ∧ Pairs K H xs l ∧ smallT l ∧ ∀ r H', Ext H H' → WaysR H' r l → Q r H'
def isLtr : PyData → Bool
  | .str x => x == "a" || x == "b" | _ => false
def sp_is_letter (K : PySem.W.Frag) (_ : CA) : Sp := fun vs H Q _ => ∃ d v, vs = [v] ∧ Dq K H d v ∧ d.canLay0 = true ∧ Ret (.bl (isLtr d)) H Q
/-- a word of any data -/
def pairOf (d : PyData) : Option (Bool × Int) := match itemsD d with
  | some [.str x, .int t] => if (x == "a" || x == "b") && decide (1 ≤ t) && decide (t ≤ 1000000000000) then some (x == "a", t) else none
  | _ => none
def pairsOf : List PyData → Option (List (Bool × Int))
  | [] => some []
  | d :: ds => match pairOf d, pairsOf ds with
    | some x, some l => some (x :: l) | _, _ => none
def wordD (d : PyData) : Option (List (Bool × Int)) := match itemsD d with
  | some ds => if ds.length ≤ 200 then pairsOf ds else none
  | none => none
/-- a refusal -/
def Refuse (D : Addr) (y : Str) (H : Hp) (E : XK) : Prop := ∀ H' d, Ext H H' → H' d = some (.xd [(("part" : Str), .str y)]) → E (.ref D) (some d) H'
def layW (d : PyData) : Prop := ∀ ds, itemsD d = some ds → PyData.canLayAll0 ds = true
def sp_need_word (K : PySem.W.Frag) (C : CA) : Sp := fun vs H Q E => ∃ d v, vs = [v] ∧ Dq K H d v ∧ layW d ∧ (∀ ds, itemsD d = some ds → ds.length ≤ 100000) ∧ (wordD d = none → Refuse C.BadWord "word" H E) ∧ ∀ l, wordD d = some l → ∀ a xs H', Ext H H' → H' a = some (.tup xs) → Pairs K H' xs l → Q (.ref a) H'
def sp_word_of (K : PySem.W.Frag) (C : CA) : Sp := fun vs H Q E => ∃ v s, vs = [v] ∧ AnyD K H v s ∧ few s ∧ ((∃ p q : Nat, s = some [.int p, .int q] ∧ okWay p q ∧ ∀ r H', Ext H H' → WordR K H' r p q → Q r H') ∨
  ((∀ p q : Nat, s = some [.int p, .int q] → ¬ okWay p q) ∧ Refuse C.BadWay "way" H E))
def great (l : List (Bool × Int)) : Bool := decide (1000000000000 < max (max (apf l (1, 0)).1 (apf l (1, 0)).2) (max (apf l (0, 1)).1 (apf l (0, 1)).2))
def sp_ways_of (K : PySem.W.Frag) (C : CA) : Sp := fun vs H Q E => ∃ d v, vs = [v] ∧ Dq K H d v ∧ layW d ∧ (∀ ds, itemsD d = some ds → ds.length ≤ 100000) ∧ (wordD d = none → Refuse C.BadWord "word" H E) ∧ ∀ l, wordD d = some l → (great l = true → Refuse C.Misfit "word" H E) ∧ (great l = false → ∀ r H', Ext H H' → WaysR H' r l → Q r H')
/-- what _law_heard tells of an error -/
def Told (C : CA) (cls : Value) (d : Option Addr) (H : Hp) (Q : VK) : Prop := ∃ (D dd : Addr) (w : Str), cls = .ref D ∧ d = some dd ∧ H dd = some (.xd [(("part" : Str), .str w)]) ∧
  ∃ n : Str, ((D = C.BadWay ∧ n = "way") ∨ (D = C.BadWord ∧ n = "word") ∨ (D = C.Misfit ∧ n = "misfit")) ∧ ∀ H' p, Ext H H' → H' p = some (.tup [.str n, .str w]) → Q (.ref p) H'
def TT_law_heard (_ : PySem.W.Frag) (C : CA) : (XK → Hp → VK → Prop) → Hp → VK → Prop := fun tl H Q => ∀ (E : XK) (N : VK), (∀ cls d H1, Told C cls d H1 Q → E cls d H1) → (∀ v H1, (∀ H', Ext H1 H' → Q .non H') → N v H1) → tl E H N
abbrev sp_law_lexicon := sp_law_lantern
abbrev sp_law_page := sp_law_flick
abbrev sp_law_one_of := sp_law_pick
def sp_law_way (K : PySem.W.Frag) (_ : CA) : Sp := fun vs H Q _ => ∃ (L : Addr) (n : Nat), vs = [.ref L] ∧ Lan H L n ∧ n ≤ 90000 ∧ ∀ (a : Addr) (p q : Nat) (m : Nat) (H' : Hp), Adv L H H' → m ≤ n + 100 → Lan H' L m → a ≠ L → H' a = some (.tup [.int p, .int q]) → okWay p q → Q (.ref a) H'
def sp_law_due (K : PySem.W.Frag) (_ : CA) : Sp := fun vs H Q _ => ∃ (a : Addr) (p q : Nat), vs = [.ref a] ∧ SqT K H a [.int p, .int q] ∧ okWay p q ∧ ∀ r H', Ext H H' → WordR K H' r p q → Q r H'
def sp_law_led (K : PySem.W.Frag) (_ : CA) : Sp := fun vs H Q _ => ∃ (a b : Addr) (p q : Int) (xs : List V) (l : List (Bool × Int)), vs = [.ref a, .ref b] ∧ SqT K H a [.int p, .int q] ∧ (SqL K H b xs ∨ SqT K H b xs) ∧ Pairs K H xs l ∧ smallT l ∧ ∀ r H', Ext H H' → H' r = some (.tup [.int (led l (p, q)).1, .int (led l (p, q)).2]) → Q (.ref r) H'
def sp_law_word_right (K : PySem.W.Frag) (C : CA) : Sp := fun vs H Q _ => ∃ (L : Addr) (n : Nat), vs = [.ref L] ∧ Lan H L n ∧ n ≤ 80000 ∧ LamX.Tabs C.tabs H ∧ ∀ (m : Nat) (H' : Hp), Sta L H H' → m ≤ n + 1000 → Lan H' L m → LamX.Tabs C.tabs H' → Q (.bl true) H'
abbrev sp_law_refused_right := sp_law_word_right
def sp_law (K : PySem.W.Frag) (C : CA) : Sp := fun vs H Q _ => ∃ (a : Addr) (ns : List Int), vs = [.ref a] ∧ SqL K H a (ns.map V.int) ∧ ns.length ≤ 63 ∧ LamX.Tabs C.tabs H ∧ ∀ H', Q (.bl true) H'
end NK

namespace NK
open PySem PySem.Spec L2
def kb_ways_of_0_word_g {α : Type} : List α → List α → List α
  | [], [w0] => [w0]
  | _, _ => []
def kb_word_of_0_way_g {α : Type} : List α → List α → List α
  | [], [w0] => [w0]
  | _, _ => []
/-- what is known of the error classes -/
structure Cls (K : PySem.W.Frag) (C : CA) : Prop where
  x_BadWord : ExcC K C.BadWord
  m_BadWord : PySem.W.exmOne K (.ref C.BadWord) (.ref C.MirrorError) = some true
  p_BadWord : PySem.W.findIn K (.ref C.BadWord) "part" = some none
  x_BadWay : ExcC K C.BadWay
  m_BadWay : PySem.W.exmOne K (.ref C.BadWay) (.ref C.MirrorError) = some true
  p_BadWay : PySem.W.findIn K (.ref C.BadWay) "part" = some none
  x_Misfit : ExcC K C.Misfit
  m_Misfit : PySem.W.exmOne K (.ref C.Misfit) (.ref C.MirrorError) = some true
  p_Misfit : PySem.W.findIn K (.ref C.Misfit) "part" = some none
  k_BadWord_TooMany : PySem.W.kitOne K (.ref C.BadWord) (.ref C.TooMany) = some false
  k_BadWord_Misfit : PySem.W.kitOne K (.ref C.BadWord) (.ref C.Misfit) = some false
  k_BadWord_BadWord : PySem.W.kitOne K (.ref C.BadWord) (.ref C.BadWord) = some true
  k_BadWord_BadWay : PySem.W.kitOne K (.ref C.BadWord) (.ref C.BadWay) = some false
  k_BadWay_TooMany : PySem.W.kitOne K (.ref C.BadWay) (.ref C.TooMany) = some false
  k_BadWay_Misfit : PySem.W.kitOne K (.ref C.BadWay) (.ref C.Misfit) = some false
  k_BadWay_BadWord : PySem.W.kitOne K (.ref C.BadWay) (.ref C.BadWord) = some false
  k_BadWay_BadWay : PySem.W.kitOne K (.ref C.BadWay) (.ref C.BadWay) = some true
  k_Misfit_TooMany : PySem.W.kitOne K (.ref C.Misfit) (.ref C.TooMany) = some false
  k_Misfit_Misfit : PySem.W.kitOne K (.ref C.Misfit) (.ref C.Misfit) = some true
  k_Misfit_BadWord : PySem.W.kitOne K (.ref C.Misfit) (.ref C.BadWord) = some false
  k_Misfit_BadWay : PySem.W.kitOne K (.ref C.Misfit) (.ref C.BadWay) = some false
  z_TooMany : PySem.W.kitOne K (.type "NoneType") (.ref C.TooMany) = some false
  z_Misfit : PySem.W.kitOne K (.type "NoneType") (.ref C.Misfit) = some false
  z_BadWord : PySem.W.kitOne K (.type "NoneType") (.ref C.BadWord) = some false
  z_BadWay : PySem.W.kitOne K (.type "NoneType") (.ref C.BadWay) = some false
def t_is_integer (K : PySem.W.Frag) (C : CA) : TS :=
  (tRet (tAndV (tCB (rIsi K) (tCons (tVar 0) (tCons (tC (.ty "int")) tNil))) (tNotV (tCB (rIsi K) (tCons (tVar 0) (tCons (tC (.ty "bool")) tNil))))))
abbrev N_is_integer : List Str := ["value"]
def t_is_within (K : PySem.W.Frag) (C : CA) : TS :=
  (tThen (tIfS (tNot (tB (tCall (sp_is_integer K C) [] E0 (tCons (tVar 0) tNil)))) (tRet (tC (.bl false))) tNext) (tRet (tAndV (tOrV (tOp rIsNo (tVar 1) (tC .non)) (tOp rLe (tVar 1) (tVar 0))) (tOrV (tOp rIsNo (tVar 2) (tC .non)) (tOp rLe (tVar 0) (tVar 2))))))
abbrev N_is_within : List Str := ["value", "least", "most"]
def t_is_list (K : PySem.W.Frag) (C : CA) : TS :=
  (tRet (tCB (rIsiT K) (tCons (tVar 0) (tCons (tTup (tCons (tC (.ty "list")) (tCons (tC (.ty "tuple")) tNil))) tNil))))
abbrev N_is_list : List Str := ["value"]
def t_is_point (K : PySem.W.Frag) (C : CA) : TS :=
  (tRet (tAndV (tCall (sp_is_list K C) [] E0 (tCons (tVar 0) tNil)) (tAndV (tOp rEq (tCB (cLen K) (tCons (tVar 0) tNil)) (tC (.int 2))) (tCB (rAll K) (tCons (tLc (iSeq K (tVar 0)) (gName 1) tYes (tCall (sp_is_integer K C) [] E0 (tCons (tVar 1) tNil)) [1]) tNil)))))
abbrev N_is_point : List Str := ["value", "each"]
def t_common (K : PySem.W.Frag) (C : CA) : TS :=
  (tThen (tPar 0 1 (tCons (tCB cAbs (tCons (tVar 0) tNil)) (tCons (tCB cAbs (tCons (tVar 1) tNil)) tNil))) (tThen (tWhile (tTest (tOp rNe (tVar 1) (tC (.int 0)))) (tPar 0 1 (tCons (tVar 1) (tCons (tOp rMod (tVar 0) (tVar 1)) tNil)))) (tRet (tVar 0))))
abbrev N_common : List Str := ["one", "other"]
def t_is_way (K : PySem.W.Frag) (C : CA) : TS :=
  (tThen (tIfS (tOr (tNot (tB (tCall (sp_is_point K C) [] E0 (tCons (tVar 0) tNil)))) (tNot (tB (tCB (rAll K) (tCons (tLc (iSeq K (tVar 0)) (gName 1) tYes (tCall (sp_is_within K C) [] E0 (tCons (tVar 1) (tCons (tUn rNeg (tC (.int 1000000000000))) (tCons (tC (.int 1000000000000)) tNil)))) [1]) tNil))))) (tRet (tC (.bl false))) tNext) (tRet (tOp rEq (tCall (sp_common K C) [] E0 (tCons (tOp (rIx K) (tVar 0) (tC (.int 0))) (tCons (tOp (rIx K) (tVar 0) (tC (.int 1))) tNil))) (tC (.int 1)))))
abbrev N_is_way : List Str := ["value", "each"]
def t_word_in (K : PySem.W.Frag) (C : CA) : TS :=
  (tThen (tAsg (tVar 0) (gSeq K 2 (gCons (gName 1) (gCons (gName 2) gNil)))) (tThen (tAsg (tLst tNil) (gName 3)) (tThen (tWhile (tAnd (tTest (tOp rGt (tVar 1) (tC (.int 0)))) (tTest (tOp rGt (tVar 2) (tC (.int 0))))) (tIfS (tTest (tOp rGe (tVar 1) (tVar 2))) (tThen (tDrop (tBM K "list" rAppend (tVar 3) (tCons (tTup (tCons (tC (.str "a")) (tCons (tOp rDiv (tVar 1) (tVar 2)) tNil))) tNil))) (tAsg (tOp rSub (tVar 1) (tOp rMul (tOp rDiv (tVar 1) (tVar 2)) (tVar 2))) (gName 1))) (tThen (tDrop (tBM K "list" rAppend (tVar 3) (tCons (tTup (tCons (tC (.str "b")) (tCons (tOp rDiv (tVar 2) (tVar 1)) tNil))) tNil))) (tAsg (tOp rSub (tVar 2) (tOp rMul (tOp rDiv (tVar 2) (tVar 1)) (tVar 1))) (gName 2))))) (tRet (tTup (tCons (tCB (cTuple K) (tCons (tVar 3) tNil)) (tCons (tIf (tTest (tOp rEq (tVar 2) (tC (.int 0)))) (tC (.str "east")) (tC (.str "north"))) tNil)))))))
abbrev N_word_in : List Str := ["way", "p", "q", "found"]
def t_ways_in (K : PySem.W.Frag) (C : CA) : TS :=
  (tThen (tAsg (tLst (tCons (tTup (tCons (tC (.int 1)) (tCons (tC (.int 0)) tNil))) (tCons (tTup (tCons (tC (.int 0)) (tCons (tC (.int 1)) tNil))) tNil))) (gName 1)) (tThen (tFor (RT.iRevA K (tVar 0)) (gTup K 2 (gCons (gName 2) (gCons (gName 3) gNil))) (tAsg (tLc (iSeq K (tVar 1)) (gTup K 2 (gCons (gName 4) (gCons (gName 5) gNil))) tYes (tIf (tTest (tOp rEq (tVar 2) (tC (.str "a")))) (tTup (tCons (tOp rAdd (tVar 4) (tOp rMul (tVar 3) (tVar 5))) (tCons (tVar 5) tNil))) (tTup (tCons (tVar 4) (tCons (tOp rAdd (tVar 5) (tOp rMul (tVar 3) (tVar 4))) tNil)))) [4, 5]) (gName 1))) (tRet (tCB (cTuple K) (tCons (tVar 1) tNil)))))
abbrev N_ways_in : List Str := ["word", "ways", "letter", "times", "p", "q"]
def t_is_letter (K : PySem.W.Frag) (C : CA) : TS :=
  (tRet (tAndV (tCB (rIsi K) (tCons (tVar 0) (tCons (tC (.ty "str")) tNil))) (tOp (rInS K) (tVar 0) (tTup (tCons (tC (.str "a")) (tCons (tC (.str "b")) tNil))))))
abbrev N_is_letter : List Str := ["value"]
def t_need_word (K : PySem.W.Frag) (C : CA) (E : XK) : TS :=
  (tThen (tIfS (tOr (tNot (tB (tCall (sp_is_list K C) [] E0 (tCons (tVar 0) tNil)))) (tOr (tTest (tOp rGt (tCB (cLen K) (tCons (tVar 0) tNil)) (tC (.int 200)))) (tNot (tB (tCB (rAll K) (tCons (tLc (iSeq K (tVar 0)) (gName 1) tYes (tAndV (tCall (sp_is_list K C) [] E0 (tCons (tVar 1) tNil)) (tOp rEq (tCB (cLen K) (tCons (tVar 1) tNil)) (tC (.int 2)))) [1]) tNil)))))) (tRaiseE C.BadWord (fun cls d _ H => E cls d H) (tCons (tC (.str "word")) tNil)) tNext) (tThen (tIfS (tNot (tB (tCB (rAll K) (tCons (tLc (iSeq K (tVar 0)) (gSeq K 2 (gCons (gName 2) (gCons (gName 3) gNil))) tYes (tAndV (tCall (sp_is_letter K C) [] E0 (tCons (tVar 2) tNil)) (tCall (sp_is_within K C) [] E0 (tCons (tVar 3) (tCons (tC (.int 1)) (tCons (tC (.int 1000000000000)) tNil))))) [2, 3]) tNil)))) (tRaiseE C.BadWord (fun cls d _ H => E cls d H) (tCons (tC (.str "word")) tNil)) tNext) (tRet (tCB (cTuple K) (tCons (tLc (iSeq K (tVar 0)) (gName 1) tYes (tCB (cTuple K) (tCons (tVar 1) tNil)) [1]) tNil)))))
abbrev N_need_word : List Str := ["value", "each", "letter", "times"]
def t_word_of (K : PySem.W.Frag) (C : CA) (E : XK) : TS :=
  (tThen (tIfS (tOr (tNot (tB (tCall (sp_is_way K C) [] E0 (tCons (tVar 0) tNil)))) (tOr (tTest (tOp rLt (tOp (rIx K) (tVar 0) (tC (.int 0))) (tC (.int 0)))) (tTest (tOp rLt (tOp (rIx K) (tVar 0) (tC (.int 1))) (tC (.int 0)))))) (tRaiseE C.BadWay (fun cls d _ H => E cls d H) (tCons (tC (.str "way")) tNil)) tNext) (tRet (tCall (sp_word_in K C) [] E0 (tCons (tVar 0) tNil))))
abbrev N_word_of : List Str := ["way"]
def t_ways_of (K : PySem.W.Frag) (C : CA) (E : XK) : TS :=
  (tThen (tAsg (tCall (sp_ways_in K C) [] E0 (tCons (tCall (sp_need_word K C) [] E (tCons (tVar 0) tNil)) tNil)) (gName 1)) (tThen (tIfS (tTest (tOp rGt (tCB (cMaxS K) (tCons (tLc (iSeq K (tVar 1)) (gName 2) tYes (tCB (cMaxS K) (tCons (tVar 2) tNil)) [2]) tNil)) (tC (.int 1000000000000)))) (tRaiseE C.Misfit (fun cls d _ H => E cls d H) (tCons (tC (.str "word")) tNil)) tNext) (tRet (tVar 1))))
abbrev N_ways_of : List Str := ["word", "found", "way"]
def t_law_lexicon (K : PySem.W.Frag) (C : CA) : TS :=
  (tRet (tLst (tCons (tLc (iSeq K (tSl (rSlL K) (tVar 0) tNoPart (tPart (tC (.int 60))))) (gName 1) tYes (tCB cInt (tCons (tVar 1) tNil)) [1]) (tCons (tC (.int 0)) (tCons (tC (.int 0)) tNil)))))
abbrev N_law_lexicon : List Str := ["_law_script", "_law_cell"]
def t_law_page (K : PySem.W.Frag) (C : CA) : TS :=
  (tThen (tIfS (tTest (tOp rGt (tOp (rIx K) (tVar 0) (tC (.int 2))) (tC (.int 0)))) (tThen (tAsg (tCB cInt (tCons (tOp (rIx K) (tVar 0) (tC (.int 2))) tNil)) (gName 2)) (tThen (tAsg (tOp rDiv (tVar 2) (tVar 1)) (gSub (tVar 0) (tC (.int 2)) rSetL)) (tRet (tOp rMod (tCB cInt (tCons (tVar 2) tNil)) (tVar 1))))) tNext) (tThen (tAsg (tOp (rIx K) (tVar 0) (tC (.int 1))) (gName 3)) (tThen (tAsg (tOp rAdd (tVar 3) (tC (.int 1))) (gSub (tVar 0) (tC (.int 1)) rSetL)) (tThen (tAsg (tOp rAdd (tOp rMul (tC (.int 61057)) (tVar 3)) (tC (.int 4513))) (gName 4)) (tThen (tIfS (tTest (tOp (rNeD K) (tOp (rIx K) (tVar 0) (tC (.int 0))) (tLst tNil))) (tAsg (tOp (rIx K) (tOp (rIx K) (tVar 0) (tC (.int 0))) (tOp rMod (tCB cInt (tCons (tVar 3) tNil)) (tCB (cLen K) (tCons (tOp (rIx K) (tVar 0) (tC (.int 0))) tNil)))) (gName 4)) tNext) (tThen (tIfS (tAnd (tTest (tOp rLt (tVar 3) (tCB (cLen K) (tCons (tOp (rIx K) (tVar 0) (tC (.int 0))) tNil)))) (tTest (tOp rGe (tCB cAbs (tCons (tVar 4) tNil)) (tOp rPow (tC (.int 10)) (tC (.int 18)))))) (tThen (tAsg (tOp rAdd (tOp rMul (tC (.int 2)) (tOp rSub (tCB cAbs (tCons (tVar 4) tNil)) (tOp rPow (tC (.int 10)) (tC (.int 18))))) (tCB cInt (tCons (tOp rLt (tVar 4) (tC (.int 0))) tNil))) (gName 2)) (tThen (tAsg (tOp rDiv (tVar 2) (tVar 1)) (gSub (tVar 0) (tC (.int 2)) rSetL)) (tRet (tOp rMod (tCB cInt (tCons (tVar 2) tNil)) (tVar 1))))) tNext) (tThen (tAsg (tOp rMod (tCB cInt (tCons (tOp rPow (tOp rAdd (tOp rAdd (tOp rMod (tCB cInt (tCons (tVar 4) tNil)) (tC (.int 2147483563))) (tOp rMul (tC (.int 31417)) (tVar 3))) (tC (.int 4513))) (tC (.int 5))) tNil)) (tC (.int 2147483587))) (gName 5)) (tThen (tAsg (tOp rMod (tCB cInt (tCons (tOp rPow (tOp rAdd (tOp rAdd (tOp rMul (tVar 5) (tOp rAdd (tOp rMul (tC (.int 2)) (tVar 3)) (tC (.int 2269)))) (tOp rMul (tOp rMul (tC (.int 61057)) (tVar 3)) (tVar 3))) (tC (.int 31417))) (tC (.int 3))) tNil)) (tC (.int 2147483629))) (gName 5)) (tRet (tOp rMod (tCB cInt (tCons (tOp rDiv (tVar 5) (tC (.int 64))) tNil)) (tVar 1)))))))))))
abbrev N_law_page : List Str := ["_law_lexicon_here", "_law_many", "_law_rest", "_law_turn", "_law_cell", "_law_mixed"]
def t_law_one_of (K : PySem.W.Frag) (C : CA) : TS :=
  (tRet (tOp (rIx K) (tVar 1) (tCall (sp_law_page K C) [] E0 (tCons (tVar 0) (tCons (tCB (cLen K) (tCons (tVar 1) tNil)) tNil)))))
abbrev N_law_one_of : List Str := ["_law_lexicon_here", "_law_some"]
def t_law_heard (K : PySem.W.Frag) (C : CA) (f c' : Addr) (q : Str) (tl : XK → Hp → VK → Prop) : TS :=
  (tThen (tAsg (tC .non) (gName 1)) (tThen (tTryK K (.ref C.MirrorError) 2 1 (fun W => tDrop (tAsk 0 f c' q W tl))) (tThen (tIfS (tB (tCB (rIsE K) (tCons (tVar 1) (tCons (tC (.ref C.TooMany)) tNil)))) (tRet (tTup (tCons (tC (.str "many")) (tCons (tXk K "what" (tVar 1)) (tCons (tXk K "most" (tVar 1)) tNil))))) tNext) (tThen (tAsg (tLst (tCons (tTup (tCons (tC (.str "way")) (tCons (tCB (rIsE K) (tCons (tVar 1) (tCons (tC (.ref C.BadWay)) tNil))) tNil))) (tCons (tTup (tCons (tC (.str "word")) (tCons (tCB (rIsE K) (tCons (tVar 1) (tCons (tC (.ref C.BadWord)) tNil))) tNil))) (tCons (tTup (tCons (tC (.str "misfit")) (tCons (tCB (rIsE K) (tCons (tVar 1) (tCons (tC (.ref C.Misfit)) tNil))) tNil))) tNil)))) (gName 3)) (tThen (tAsg (tLc (iSeq K (tVar 3)) (gTup K 2 (gCons (gName 5) (gCons (gName 6) gNil))) (tB (tVar 6)) (tVar 5) [5, 6]) (gName 4)) (tThen (tIfS (tTest (tOp rEq (tCB (cLen K) (tCons (tVar 4) tNil)) (tC (.int 1)))) (tRet (tTup (tCons (tOp (rIx K) (tVar 4) (tC (.int 0))) (tCons (tXk K "part" (tVar 1)) tNil)))) tNext) (tRet (tIf (tTest (tOp rIsNo (tVar 1) (tC .non))) (tC .non) (tTup (tCons (tC (.str "other")) (tCons (tC .non) tNil)))))))))))
abbrev N_law_heard : List Str := ["_law_ask", "_law_caught", "error", "_law_kinds", "_law_words", "_law_word", "_law_is_so"]
def t_law_way (K : PySem.W.Frag) (C : CA) : TS :=
  (tThen (tAsg (tCall (sp_law_page K C) [] E0 (tCons (tVar 0) (tCons (tC (.int 5)) tNil))) (gName 1)) (tThen (tIfS (tTest (tOp rEq (tVar 1) (tC (.int 0)))) (tThen (tAsg (tTup (tCons (tC (.int 1)) (tCons (tC (.int 1)) tNil))) (gTup K 2 (gCons (gName 4) (gCons (gName 5) gNil)))) (tFor (iRng1 (tCons (tCall (sp_law_page K C) [] E0 (tCons (tVar 0) (tCons (tC (.int 40)) tNil))) tNil)) (gName 2) (tPar 4 5 (tCons (tOp rAdd (tVar 4) (tVar 5)) (tCons (tVar 4) tNil))))) (tThen (tAsg (tCall (sp_law_one_of K C) [] E0 (tCons (tVar 0) (tCons (tLst (tCons (tC (.int 7)) (tCons (tC (.int 100)) (tCons (tOp rPow (tC (.int 10)) (tC (.int 6))) (tCons (tOp rPow (tC (.int 10)) (tC (.int 12))) tNil))))) tNil))) (gName 3)) (tPar 4 5 (tCons (tCall (sp_law_page K C) [] E0 (tCons (tVar 0) (tCons (tOp rAdd (tVar 3) (tC (.int 1))) tNil))) (tCons (tIf (tTest (tOp rLt (tVar 1) (tC (.int 3)))) (tCall (sp_law_page K C) [] E0 (tCons (tVar 0) (tCons (tOp rAdd (tVar 3) (tC (.int 1))) tNil))) (tCall (sp_law_one_of K C) [] E0 (tCons (tVar 0) (tCons (tLst (tCons (tC (.int 1)) (tCons (tC (.int 0)) (tCons (tC (.int 2)) (tCons (tC (.int 3)) tNil))))) tNil)))) tNil))))) (tThen (tPar 6 7 (tCons (tVar 4) (tCons (tVar 5) tNil))) (tThen (tWhile (tTest (tOp rGt (tVar 7) (tC (.int 0)))) (tPar 6 7 (tCons (tVar 7) (tCons (tOp rMod (tCB cInt (tCons (tVar 6) tNil)) (tVar 7)) tNil)))) (tThen (tAsg (tIf (tTest (tOp rGt (tVar 6) (tC (.int 0)))) (tTup (tCons (tOp rDiv (tVar 4) (tVar 6)) (tCons (tOp rDiv (tVar 5) (tVar 6)) tNil))) (tTup (tCons (tC (.int 0)) (tCons (tC (.int 1)) tNil)))) (gTup K 2 (gCons (gName 4) (gCons (gName 5) gNil)))) (tRet (tIf (tTest (tOp rEq (tCall (sp_law_page K C) [] E0 (tCons (tVar 0) (tCons (tC (.int 2)) tNil))) (tC (.int 0)))) (tTup (tCons (tVar 4) (tCons (tVar 5) tNil))) (tTup (tCons (tVar 5) (tCons (tVar 4) tNil))))))))))
abbrev N_law_way : List Str := ["_law_lexicon_here", "_law_kind", "_law_turn", "_law_top", "_law_p", "_law_q", "_law_one", "_law_other"]
def t_law_due (K : PySem.W.Frag) (C : CA) : TS :=
  (tThen (tAsg (tTup (tCons (tVar 0) (tCons (tLst tNil) tNil))) (gTup K 2 (gCons (gTup K 2 (gCons (gName 2) (gCons (gName 3) gNil))) (gCons (gName 1) gNil)))) (tThen (tWhile (tAnd (tTest (tOp rGt (tVar 2) (tC (.int 0)))) (tTest (tOp rGt (tVar 3) (tC (.int 0))))) (tThen (tAsg (tIf (tTest (tOp rGe (tVar 2) (tVar 3))) (tTup (tCons (tC (.str "a")) (tCons (tOp rDiv (tVar 2) (tVar 3)) tNil))) (tTup (tCons (tC (.str "b")) (tCons (tOp rDiv (tVar 3) (tVar 2)) tNil)))) (gTup K 2 (gCons (gName 4) (gCons (gName 5) gNil)))) (tThen (tDrop (tBM K "list" rAppend (tVar 1) (tCons (tTup (tCons (tVar 4) (tCons (tVar 5) tNil))) tNil))) (tAsg (tIf (tTest (tOp rEq (tVar 4) (tC (.str "a")))) (tTup (tCons (tOp rSub (tVar 2) (tOp rMul (tVar 5) (tVar 3))) (tCons (tVar 3) tNil))) (tTup (tCons (tVar 2) (tCons (tOp rSub (tVar 3) (tOp rMul (tVar 5) (tVar 2))) tNil)))) (gTup K 2 (gCons (gName 2) (gCons (gName 3) gNil))))))) (tRet (tTup (tCons (tCB (cTuple K) (tCons (tVar 1) tNil)) (tCons (tIf (tTest (tOp (rEqD K) (tTup (tCons (tVar 2) (tCons (tVar 3) tNil))) (tTup (tCons (tC (.int 1)) (tCons (tC (.int 0)) tNil))))) (tC (.str "east")) (tC (.str "north"))) tNil))))))
abbrev N_law_due : List Str := ["_law_way_here", "_law_found", "_law_p", "_law_q", "_law_letter", "_law_times"]
def t_law_led (K : PySem.W.Frag) (C : CA) : TS :=
  (tThen (tAsg (tVar 0) (gTup K 2 (gCons (gName 2) (gCons (gName 3) gNil)))) (tThen (tFor (iSeq K (tVar 1)) (gTup K 2 (gCons (gName 4) (gCons (gName 5) gNil))) (tAsg (tIf (tTest (tOp rEq (tVar 4) (tC (.str "a")))) (tTup (tCons (tOp rSub (tVar 2) (tOp rMul (tVar 5) (tVar 3))) (tCons (tVar 3) tNil))) (tTup (tCons (tVar 2) (tCons (tOp rSub (tVar 3) (tOp rMul (tVar 5) (tVar 2))) tNil)))) (gTup K 2 (gCons (gName 2) (gCons (gName 3) gNil))))) (tRet (tTup (tCons (tVar 2) (tCons (tVar 3) tNil))))))
abbrev N_law_led : List Str := ["_law_way_here", "_law_word", "_law_p", "_law_q", "_law_letter", "_law_times"]
def t_law_word_right (K : PySem.W.Frag) (C : CA) : TS :=
  (tThen (tAsg (tLc (iRng1 (tCons (tCall (sp_law_page K C) [] E0 (tCons (tVar 0) (tCons (tC (.int 10)) tNil))) tNil)) (gName 2) tYes (tTup (tCons (tCall (sp_law_one_of K C) [] E0 (tCons (tVar 0) (tCons (tLst (tCons (tC (.str "a")) (tCons (tC (.str "b")) tNil))) tNil))) (tCons (tCall (sp_law_one_of K C) [] E0 (tCons (tVar 0) (tCons (tLst (tCons (tC (.int 1)) (tCons (tC (.int 2)) (tCons (tC (.int 3)) (tCons (tC (.int 1)) (tCons (tOp rAdd (tC (.int 1)) (tCall (sp_law_page K C) [] E0 (tCons (tVar 0) (tCons (tC (.int 30)) tNil)))) tNil)))))) tNil))) tNil))) [2]) (gName 1)) (tThen (tAsg (tLst (tCons (tTup (tCons (tC (.int 1)) (tCons (tC (.int 0)) tNil))) (tCons (tTup (tCons (tC (.int 0)) (tCons (tC (.int 1)) tNil))) tNil))) (gName 3)) (tThen (tFor (iSeq K (tBack K (tVar 1))) (gTup K 2 (gCons (gName 4) (gCons (gName 5) gNil))) (tAsg (tLc (iSeq K (tVar 3)) (gTup K 2 (gCons (gName 6) (gCons (gName 7) gNil))) tYes (tIf (tTest (tOp rEq (tVar 4) (tC (.str "a")))) (tTup (tCons (tOp rAdd (tVar 6) (tOp rMul (tVar 5) (tVar 7))) (tCons (tVar 7) tNil))) (tTup (tCons (tVar 6) (tCons (tOp rAdd (tVar 7) (tOp rMul (tVar 5) (tVar 6))) tNil)))) [6, 7]) (gName 3))) (tThen (tIfS (tTest (tOp rGt (tCB (cMaxS K) (tCons (tLc (iSeq K (tVar 3)) (gName 8) tYes (tCB (cMaxS K) (tCons (tVar 8) tNil)) [8]) tNil)) (tOp rPow (tC (.int 10)) (tC (.int 12))))) (tRet (tOp (rEqD K) (LamX.tLam C.tabs (TT_law_heard K C) (fun E => (tCall (sp_ways_of K C) [] E (tCons (tVar 1) tNil)))) (tTup (tCons (tC (.str "misfit")) (tCons (tC (.str "word")) tNil))))) tNext) (tThen (tAsg (tCall (sp_ways_of K C) [] E0 (tCons (tVar 1) tNil)) (gName 9)) (tThen (tIfS (tOr (tTest (tOp rNe (tCB (cRepr K) (tCons (tVar 9) tNil)) (tCB (cRepr K) (tCons (tCB (cTuple K) (tCons (tVar 3) tNil)) tNil)))) (tTest (tOp (rNeD K) (tCallK0 (sp_ways_of K C) (kb_ways_of_0_word_g (α := V)) E0 (tCons (tCB (cTuple K) (tCons (tLc (iSeq K (tVar 1)) (gName 10) tYes (tCB (cListOf K) (tCons (tVar 10) tNil)) [10]) tNil)) tNil)) (tVar 9)))) (tRet (tC (.bl false))) tNext) (tRet (tOp (rEqD K) (tLc (iSeq K (tVar 9)) (gName 8) tYes (tCall (sp_law_led K C) [] E0 (tCons (tVar 8) (tCons (tVar 1) tNil))) [8]) (tLst (tCons (tTup (tCons (tC (.int 1)) (tCons (tC (.int 0)) tNil))) (tCons (tTup (tCons (tC (.int 0)) (tCons (tC (.int 1)) tNil))) tNil)))))))))))
abbrev N_law_word_right : List Str := ["_law_lexicon_here", "_law_word", "_law_turn", "_law_due_here", "_law_letter", "_law_times", "_law_p", "_law_q", "_law_way_here", "_law_told", "_law_pair"]
def t_law_refused_right (K : PySem.W.Frag) (C : CA) : TS :=
  (tThen (tAsg (tCall (sp_law_one_of K C) [] E0 (tCons (tVar 0) (tCons (tLst (tCons (tC .non) (tCons (tC (.int 5)) (tCons (tTup (tCons (tC (.int 0)) (tCons (tC (.int 0)) tNil))) (tCons (tTup (tCons (tC (.int 2)) (tCons (tC (.int 2)) tNil))) (tCons (tTup (tCons (tUn rNeg (tC (.int 1))) (tCons (tC (.int 1)) tNil))) (tCons (tTup (tCons (tC (.int 1)) (tCons (tUn rNeg (tC (.int 1))) tNil))) (tCons (tTup (tCons (tC (.int 0)) (tCons (tUn rNeg (tC (.int 1))) tNil))) (tCons (tTup (tCons (tOp rAdd (tOp rPow (tC (.int 10)) (tC (.int 12))) (tC (.int 1))) (tCons (tC (.int 1)) tNil))) (tCons (tTup (tCons (tC (.int 1)) (tCons (tC (.bl true)) tNil))) (tCons (tTup (tCons (tC (.int 1)) tNil)) (tCons (tC (.str "11")) (tCons (tTup (tCons (tC (.int 0)) (tCons (tC (.int 2)) tNil))) (tCons tDNewK (tCons (tTup (tCons (tC (.int 1)) (tCons (tC (.int 2)) (tCons (tC (.int 3)) tNil)))) tNil))))))))))))))) tNil))) (gName 1)) (tThen (tAsg (tCall (sp_law_one_of K C) [] E0 (tCons (tVar 0) (tCons (tLst (tCons (tC .non) (tCons (tTup (tCons (tC (.str "c")) (tCons (tC (.int 1)) tNil))) (tCons (tTup (tCons (tC (.str "a")) (tCons (tC (.int 0)) tNil))) (tCons (tTup (tCons (tC (.str "a")) (tCons (tUn rNeg (tC (.int 1))) tNil))) (tCons (tTup (tCons (tC (.str "a")) (tCons (tC (.bl true)) tNil))) (tCons (tTup (tCons (tC (.str "a")) tNil)) (tCons (tTup (tCons (tC (.str "a")) (tCons (tC (.int 1)) (tCons (tC (.int 1)) tNil)))) (tCons (tTup (tCons (tC (.int 1)) (tCons (tC (.str "a")) tNil))) (tCons (tTup (tCons (tC (.str "ab")) (tCons (tC (.int 1)) tNil))) (tCons (tTup (tCons (tC (.str "a")) (tCons (tOp rAdd (tOp rPow (tC (.int 10)) (tC (.int 12))) (tC (.int 1))) tNil))) (tCons (tC (.str "a1")) (tCons (tTup (tCons (tC (.str "")) (tCons (tC (.int 1)) tNil))) (tCons (tTup (tCons (tLst (tCons (tC (.str "a")) tNil)) (tCons (tC (.int 1)) tNil))) tNil)))))))))))))) tNil))) (gName 2)) (tThen (tAsg (tCall (sp_law_one_of K C) [] E0 (tCons (tVar 0) (tCons (tLst (tCons (tC .non) (tCons (tC (.int 5)) (tCons (tC (.str "a")) (tCons tDNewK (tCons (tLst (tCons (tVar 2) tNil)) (tCons (tLst (tCons (tTup (tCons (tC (.str "a")) (tCons (tC (.int 1)) tNil))) (tCons (tVar 2) tNil))) (tCons (tTup (tCons (tVar 2) (tCons (tTup (tCons (tC (.str "b")) (tCons (tC (.int 2)) tNil))) tNil))) (tCons (tOp rRep (tLst (tCons (tTup (tCons (tC (.str "a")) (tCons (tC (.int 1)) tNil))) tNil)) (tC (.int 201))) tNil))))))))) tNil))) (gName 3)) (tThen (tAsg (tCall (sp_law_one_of K C) [] E0 (tCons (tVar 0) (tCons (tLst (tCons (tLst (tCons (tTup (tCons (tC (.str "a")) (tCons (tOp rPow (tC (.int 10)) (tC (.int 12))) tNil))) (tCons (tTup (tCons (tC (.str "b")) (tCons (tC (.int 1)) tNil))) (tCons (tTup (tCons (tC (.str "a")) (tCons (tC (.int 1)) tNil))) tNil)))) (tCons (tOp rRep (tLst (tCons (tTup (tCons (tC (.str "a")) (tCons (tC (.int 1)) tNil))) (tCons (tTup (tCons (tC (.str "b")) (tCons (tC (.int 1)) tNil))) tNil))) (tC (.int 100))) (tCons (tLst (tCons (tTup (tCons (tC (.str "b")) (tCons (tOp rPow (tC (.int 10)) (tC (.int 12))) tNil))) (tCons (tTup (tCons (tC (.str "a")) (tCons (tC (.int 2)) tNil))) tNil))) tNil)))) tNil))) (gName 4)) (tThen (tAsg (tLst (tCons (LamX.tLam C.tabs (TT_law_heard K C) (fun E => (tCall (sp_word_of K C) [] E (tCons (tVar 1) tNil)))) (tCons (LamX.tLam C.tabs (TT_law_heard K C) (fun E => (tCall (sp_ways_of K C) [] E (tCons (tVar 3) tNil)))) (tCons (LamX.tLam C.tabs (TT_law_heard K C) (fun E => (tCall (sp_ways_of K C) [] E (tCons (tVar 4) tNil)))) tNil)))) (gName 5)) (tRet (tOp (rEqD K) (tVar 5) (tLst (tCons (tTup (tCons (tC (.str "way")) (tCons (tC (.str "way")) tNil))) (tCons (tTup (tCons (tC (.str "word")) (tCons (tC (.str "word")) tNil))) (tCons (tTup (tCons (tC (.str "misfit")) (tCons (tC (.str "word")) tNil))) tNil)))))))))))
abbrev N_law_refused_right : List Str := ["_law_lexicon_here", "_law_way_here", "_law_pair", "_law_word", "_law_great", "_law_heard_here"]
def t_law (K : PySem.W.Frag) (C : CA) : TS :=
  (tThen (tAsg (tCall (sp_law_lexicon K C) [] E0 (tCons (tVar 0) tNil)) (gName 1)) (tThen (tFor (iRng1 (tCons (tC (.int 6)) tNil)) (gName 2) (tThen (tAsg (tCall (sp_law_way K C) [] E0 (tCons (tVar 1) tNil)) (gName 3)) (tThen (tPar 4 5 (tCons (tCall (sp_word_of K C) [] E0 (tCons (tVar 3) tNil)) (tCons (tCall (sp_law_due K C) [] E0 (tCons (tVar 3) tNil)) tNil))) (tThen (tIfS (tOr (tTest (tOp rNe (tCB (cRepr K) (tCons (tVar 4) tNil)) (tCB (cRepr K) (tCons (tVar 5) tNil)))) (tOr (tTest (tOp (rNeD K) (tCallK0 (sp_word_of K C) (kb_word_of_0_way_g (α := V)) E0 (tCons (tCB (cListOf K) (tCons (tVar 3) tNil)) tNil)) (tVar 5))) (tTest (tOp (rNeD K) (tCall (sp_law_led K C) [] E0 (tCons (tVar 3) (tCons (tOp (rIx K) (tVar 4) (tC (.int 0))) tNil))) (tDGet (tDisp [((tC (.str "east")), (tTup (tCons (tC (.int 1)) (tCons (tC (.int 0)) tNil)))), ((tC (.str "north")), (tTup (tCons (tC (.int 0)) (tCons (tC (.int 1)) tNil))))]) (tOp (rIx K) (tVar 4) (tC (.int 1)))))))) (tRet (tC (.bl false))) tNext) (tThen (tIfS (tTest (tOp (rNotInS K) (tVar 3) (tCall (sp_ways_of K C) [] E0 (tCons (tOp (rIx K) (tVar 4) (tC (.int 0))) tNil)))) (tRet (tC (.bl false))) tNext) (tIfS (tOr (tNot (tB (tCall (sp_law_word_right K C) [] E0 (tCons (tVar 1) tNil)))) (tNot (tB (tCall (sp_law_refused_right K C) [] E0 (tCons (tVar 1) tNil))))) (tRet (tC (.bl false))) tNext)))))) (tRet (tOp (rEqD K) (tLst (tCons (tCall (sp_ways_of K C) [] E0 (tCons (tLst (tCons (tTup (tCons (tC (.str "a")) (tCons (tOp rPow (tC (.int 10)) (tC (.int 12))) tNil))) tNil)) tNil)) (tCons (tCall (sp_word_of K C) [] E0 (tCons (tTup (tCons (tOp rPow (tC (.int 10)) (tC (.int 12))) (tCons (tOp rSub (tOp rPow (tC (.int 10)) (tC (.int 12))) (tC (.int 1))) tNil))) tNil)) tNil))) (tLst (tCons (tTup (tCons (tTup (tCons (tC (.int 1)) (tCons (tC (.int 0)) tNil))) (tCons (tTup (tCons (tOp rPow (tC (.int 10)) (tC (.int 12))) (tCons (tC (.int 1)) tNil))) tNil))) (tCons (tTup (tCons (tTup (tCons (tTup (tCons (tC (.str "a")) (tCons (tC (.int 1)) tNil))) (tCons (tTup (tCons (tC (.str "b")) (tCons (tOp rSub (tOp rPow (tC (.int 10)) (tC (.int 12))) (tC (.int 1))) tNil))) tNil))) (tCons (tC (.str "east")) tNil))) tNil)))))))
abbrev N_law : List Str := ["_law_script", "_law_lexicon_here", "_law_turn", "_law_way_here", "_law_told", "_law_due_here"]
end NK
namespace NK
open PySem PySem.Spec L2
section
variable {K : PySem.W.Frag} {C : CA}
theorem pure_is_integer (vs : List V) (H : Hp) (Q : VK) (E : XK) (h : sp_is_integer K C vs H Q E) : vs.length = 1 ∧ t_is_integer K C { nx := fun _ H' => Q .non H', rt := Q } (start N_is_integer vs) H := by
  obtain ⟨v, s, rfl, hv, k⟩ := h
  refine ⟨rfl, ?_⟩
  unfold t_is_integer
  walk_at "nk"
  refine w_isInt hv ⟨_, rfl, w_both (fun e => ?_) fun e => ?_⟩
  · walk_at "nk"
    refine w_isBool hv ⟨_, rfl, ?_⟩
    have z : (!isB v) = isI v := by rw [← isI_eq, e]; rfl
    rw [z]
    exact k H .rfl
  · have z : isI v = false := by rw [← isI_eq, e]; rfl
    rw [z] at k
    exact k H .rfl
theorem withinB_no {v : V} {l h : Option Int} (e : isI v = false) : withinB v l h = false := by
  cases v <;> first | rfl | cases e
theorem pure_is_within (vs : List V) (H : Hp) (Q : VK) (E : XK) (h : sp_is_within K C vs H Q E) : vs.length = 3 ∧ t_is_within K C { nx := fun _ H' => Q .non H', rt := Q } (start N_is_within vs) H := by
  obtain ⟨v, s, l, h, rfl, hv, k⟩ := h
  refine ⟨rfl, ?_⟩
  unfold t_is_within
  refine w_then ?_
  walk_at "nk"
  refine ⟨v, s, rfl, hv, fun H1 e1 => ⟨_, rfl, w_both (fun e => ?_) fun e => ?_⟩⟩
  · walk_at "nk"
    rw [withinB_no (by simpa using e)] at k
    exact k H1 e1
  · have iv : isI v = true := by simpa using e
    obtain ⟨i, rfl⟩ : ∃ i, v = .int i := by
      cases v <;> first | exact ⟨_, rfl⟩ | cases iv
    walk_at "nk"
    have fin : ∀ b, withinB (.int i) l h = b → Q (.bl b) H1 := fun b z => by rw [← z]; exact k H1 e1
    cases l with
    | none =>
      refine ⟨true, rfl, w_t ⟨true, rfl, w_t ?_⟩⟩
      walk_at "nk"
      cases h with
      | none => exact ⟨true, rfl, w_t (fin _ rfl)⟩
      | some b =>
        refine ⟨false, rfl, w_f ?_⟩
        refine w_op (w_var rfl (w_var rfl (w_le (fin _ ?_))))
        simp [withinB]
    | some a =>
      refine ⟨false, rfl, w_f ?_⟩
      refine w_op (w_var rfl (w_var rfl (w_le ⟨_, rfl, w_both (fun e => ?_) fun e => ?_⟩)))
      · walk_at "nk"
        cases h with
        | none => exact ⟨true, rfl, w_t (fin _ (by simpa [withinB] using e))⟩
        | some b =>
          refine ⟨false, rfl, w_f ?_⟩
          refine w_op (w_var rfl (w_var rfl (w_le (fin _ ?_))))
          have : a ≤ i := by simpa using e
          simp [withinB, this]
      · refine fin _ ?_
        have : ¬ a ≤ i := by simpa using e
        cases h <;> simp [withinB, this]
theorem pure_is_list (vs : List V) (H : Hp) (Q : VK) (E : XK) (h : sp_is_list K C vs H Q E) : vs.length = 1 ∧ t_is_list K C { nx := fun _ H' => Q .non H', rt := Q } (start N_is_list vs) H := by
  obtain ⟨v, s, rfl, hv, k⟩ := h
  refine ⟨rfl, ?_⟩
  unfold t_is_list
  walk_at "nk"
  refine ⟨sm (by simp), ?_⟩
  intro p n_p
  generalize z_p : upd _ p _ = H1
  obtain ⟨e1, h1, m_p⟩ := newly n_p z_p
  clear z_p
  walk_at "nk"
  exact w_isSeq (hv.ext e1) h1 (k H1 e1)
theorem isI_of {v : V} (e : isI v = true) : ∃ i, v = .int i := by
  cases v <;> first | exact ⟨_, rfl⟩ | cases e
theorem ptB_two {s : Option (List V)} {xs : List V} (e : s = some xs) : ptB s = (decide ((xs.length : Int) = 2) && (xs.map fun x => isI x).all id) := by
  subst e
  match xs with
  | [] => rfl
  | [a] => cases a <;> rfl
  | [a, b] => cases a <;> cases b <;> rfl
  | a :: b :: c :: r =>
    have : decide (((a :: b :: c :: r).length : Int) = 2) = false := decide_eq_false (by simp only [List.length_cons]; omega)
    rw [this]
    cases a <;> cases b <;> rfl
theorem pure_is_point (vs : List V) (H : Hp) (Q : VK) (E : XK) (h : sp_is_point K C vs H Q E) : vs.length = 1 ∧ t_is_point K C { nx := fun _ H' => Q .non H', rt := Q } (start N_is_point vs) H := by
  obtain ⟨v, s, rfl, ⟨hv, ha⟩, hf, k⟩ := h
  refine ⟨rfl, ?_⟩
  unfold t_is_point
  walk_at "nk"
  refine ⟨v, s, rfl, hv, fun H1 e1 => ⟨_, rfl, w_both (fun e => ?_) fun e => ?_⟩⟩
  · obtain ⟨xs, rfl⟩ := Option.isSome_iff_exists.mp e
    obtain ⟨a, rfl, hx⟩ := hv.sq
    have hx1 : SqL K H1 a xs ∨ SqT K H1 a xs := hx.elim (fun z => .inl (e1.sqL z)) fun z => .inr (e1.sqT z)
    walk_at "nk"
    refine w_len hx1 ?_
    walk_at "nk"
    refine ⟨_, rfl, w_both (fun e => ?_) fun e => ?_⟩
    · walk_at "nk"
      refine w_lc (fun x => .bl (isI x)) hx1 (hf _ rfl) (fun _ _ _ n => n) (fun _ => rfl) (fun x hm H2 e2 R r => ?_) (fun D H2 hD e2 h2 => ?_)
      · walk_at "nk"
        obtain ⟨t, ht⟩ := ha _ rfl x hm
        exact ⟨x, t, rfl, ht.ext (e1.tr e2), r⟩
      · walk_at "nk"
        refine w_all (bs := xs.map fun x => isI x) (SqL.of (by rw [h2, List.map_map]; rfl)) ?_
        have z := ptB_two (xs := xs) rfl
        rw [e, Bool.true_and] at z
        rw [← z]
        exact k _ (e1.tr e2)
    · have z := ptB_two (xs := xs) rfl
      rw [e, Bool.false_and] at z
      rw [z] at k
      exact k _ e1
  · have z : ptB s = false := by cases s <;> first | rfl | cases e
    rw [z] at k
    exact k _ e1
theorem nt {b : Bool} (e : (!b) = true) : b = false := by cases b <;> first | rfl | cases e
theorem nf {b : Bool} (e : (!b) = false) : b = true := by cases b <;> first | rfl | cases e
theorem absN (i : Int) : (if i < 0 then -i else i) = ((i.natAbs : Nat) : Int) := by
  by_cases c : i < 0
  · rw [if_pos c]; omega
  · rw [if_neg c]; omega
/-- the loop of both: x, y; then y, x % y, as long as y is not 0 -/
def GW (H0 : Hp) (g : Nat) (m : Nat) (σ : L2.St) (H : Hp) : Prop := ∃ x y : Nat, σ = [some (.int (x : Int)), some (.int (y : Int))] ∧ Nat.gcd x y = g ∧ m = y ∧ Ext H0 H
theorem gw_step {H0 H : Hp} {g x y m : Nat} (h0 : y ≠ 0) (hg : Nat.gcd x y = g) (hm : m = y) (e : Ext H0 H) : ∃ m', m' < m ∧ GW H0 g m' [some (.int (y : Int)), some (.int ((x : Int) % (y : Int)))] H := by
  refine ⟨x % y, ?_, y, x % y, ?_, ?_, rfl, e⟩
  · rw [hm]; exact Nat.mod_lt _ (Nat.pos_of_ne_zero h0)
  · rw [Int.natCast_emod]
  · rw [← hg, Nat.gcd_comm x y, Nat.gcd_rec y x, Nat.gcd_comm]
theorem pure_common (vs : List V) (H : Hp) (Q : VK) (E : XK) (h : sp_common K C vs H Q E) : vs.length = 2 ∧ t_common K C { nx := fun _ H' => Q .non H', rt := Q } (start N_common vs) H := by
  obtain ⟨i, j, rfl, k⟩ := h
  refine ⟨rfl, ?_⟩
  unfold t_common
  walk_at "nk"
  refine w_then ?_
  refine ⟨GW H (Int.gcd i j), ⟨_, i.natAbs, j.natAbs, ?_, rfl, rfl, .rfl⟩, ?_⟩
  · rw [absN, absN]; rfl
  · rintro m σ H1 ⟨x, y, rfl, hg, hm, e⟩
    walk_at "nk"
    refine ⟨_, rfl, w_both (fun z => ?_) fun z => ?_⟩
    · have h0 : y ≠ 0 := by
        intro q
        subst q
        simp at z
      refine ⟨fun σ' H' => σ' = [some (.int (y : Int)), some (.int ((x : Int) % (y : Int)))] ∧ Ext H H', fun σ' H' q => ?_, ?_⟩
      · rw [q.1]
        exact gw_step h0 hg hm q.2
      · walk_at "nk"
        refine w_mod (by omega) ?_
        walk_at "nk"
        exact ⟨_, _, rfl, rfl, e⟩
    · have h0 : y = 0 := by
        have : (y : Int) = 0 := by simpa using z
        omega
      subst h0
      walk_at "nk"
      rw [Nat.gcd_zero_right] at hg
      rw [hg]
      exact k _ e
theorem wayB_pt {s : Option (List V)} (e : ptB s = false) : wayB s = false := by
  match s with
  | none => rfl
  | some [] => rfl
  | some [a] => cases a <;> rfl
  | some [a, b] => cases a <;> cases b <;> first | rfl | cases e
  | some (a :: b :: c :: r) => cases a <;> cases b <;> rfl
theorem pt_two {s : Option (List V)} (e : ptB s = true) : ∃ p q, s = some [.int p, .int q] := by
  match s with
  | none => cases e
  | some [] => cases e
  | some [a] => cases a <;> cases e
  | some [a, b] => cases a <;> cases b <;> first | exact ⟨_, _, rfl⟩ | cases e
  | some (a :: b :: c :: r) => cases a <;> cases b <;> cases e
theorem pure_is_way (vs : List V) (H : Hp) (Q : VK) (E : XK) (h : sp_is_way K C vs H Q E) : vs.length = 1 ∧ t_is_way K C { nx := fun _ H' => Q .non H', rt := Q } (start N_is_way vs) H := by
  obtain ⟨v, s, rfl, hd, hf, k⟩ := h
  refine ⟨rfl, ?_⟩
  unfold t_is_way
  refine w_then ?_
  walk_at "nk"
  refine ⟨v, s, rfl, hd, hf, fun H1 e1 => ⟨_, rfl, w_both (fun e => ?_) fun e => ?_⟩⟩
  · walk_at "nk"
    rw [wayB_pt (by simpa using e)] at k
    exact k _ e1
  · obtain ⟨p, q, rfl⟩ := pt_two (s := s) (by simpa using e)
    obtain ⟨a, rfl, hx⟩ := hd.1.sq
    have hx1 : SqL K H1 a [.int p, .int q] ∨ SqT K H1 a [.int p, .int q] := hx.elim (fun z => .inl (e1.sqL z)) fun z => .inr (e1.sqT z)
    walk_at "nk"
    refine w_lc (fun x => .bl (withinB x (some (-1000000000000)) (some 1000000000000))) hx1 (by simp) (fun _ _ _ n => n) (fun _ => rfl) (fun x hm H2 e2 R r => ?_) (fun D H2 hD e2 h2 => ?_)
    · walk_at "nk"
      have : ∃ i, x = .int i := by
        rcases List.mem_cons.mp hm with z | z
        · exact ⟨_, z⟩
        · exact ⟨_, List.mem_singleton.mp z⟩
      obtain ⟨i, rfl⟩ := this
      exact ⟨.int i, none, some (-1000000000000), some 1000000000000, rfl, .int i, r⟩
    · walk_at "nk"
      refine w_all (bs := [withinB (.int p) (some (-1000000000000)) (some 1000000000000), withinB (.int q) (some (-1000000000000)) (some 1000000000000)]) (SqL.of h2) ?_
      walk_at "nk"
      have way : wayB (some [V.int p, V.int q]) = ([withinB (.int p) (some (-1000000000000)) (some 1000000000000), withinB (.int q) (some (-1000000000000)) (some 1000000000000)].all id && decide ((Int.gcd p q : Int) = 1)) := by
        simp [wayB, wayI, withinB]
      refine ⟨_, rfl, w_both (fun e => ?_) fun e => ?_⟩
      · have e' : ([withinB (.int p) (some (-1000000000000)) (some 1000000000000), withinB (.int q) (some (-1000000000000)) (some 1000000000000)].all id) = false := nt e
        walk_at "nk"
        rw [e', Bool.false_and] at way
        rw [way] at k
        exact k _ (e1.tr e2)
      · have e' : ([withinB (.int p) (some (-1000000000000)) (some 1000000000000), withinB (.int q) (some (-1000000000000)) (some 1000000000000)].all id) = true := nf e
        have hx2 : SqL K H2 a [.int p, .int q] ∨ SqT K H2 a [.int p, .int q] := hx1.elim (fun z => .inl (e2.sqL z)) fun z => .inr (e2.sqT z)
        walk_at "nk"
        refine w_ix hx2 rfl ?_
        walk_at "nk"
        refine w_ix hx2 rfl ?_
        walk_at "nk"
        refine ⟨p, q, rfl, fun H3 e3 => ?_⟩
        walk_at "nk"
        rw [e', Bool.true_and] at way
        rw [← way]
        exact k _ ((e1.tr e2).tr e3)
end
end NK

namespace NK
open PySem PySem.Spec L2
section
variable {K : PySem.W.Frag} {C : CA}
theorem dp_ints {H : Hp} : ∀ ns : List Int, DpAll K H (ns.map V.int) (ns.map PyData.int)
  | [] => .nil
  | n :: ns => .cons (.int n) (dp_ints ns)
theorem lay_ints : ∀ ns : List Int, PyData.canLayAll0 (ns.map PyData.int) = true ∧ PyData.depthAll (ns.map PyData.int) ≤ 1
  | [] => ⟨rfl, Nat.zero_le _⟩
  | n :: ns => by
    obtain ⟨h1, h2⟩ := lay_ints ns
    simp only [List.map_cons, PyData.canLayAll0, PyData.depthAll, PyData.canLay0, PyData.depth, h1]
    exact ⟨rfl, Nat.max_le.2 ⟨Nat.zero_le _, h2⟩⟩
theorem shaped_ints (ns : List Int) : SeqAt.shaped (.list (ns.map PyData.int)) = true := by
  obtain ⟨h1, h2⟩ := lay_ints ns
  unfold SeqAt.shaped
  simp only [PyData.canLay0, PyData.depth, h1, Bool.true_and]
  exact decide_eq_true (by omega)
theorem map_same : ∀ l : List V, l.map (fun x => x) = l
  | [] => rfl
  | x :: l => by rw [List.map_cons, map_same l]
theorem eqv_nil (ns : List Int) : PyData.eqv (.list (ns.map PyData.int)) (.list []) = ns.isEmpty := by
  cases ns with
  | nil => rfl
  | cons n ns => rfl
/-- the greatest number that is raised to a power -/
theorem pow5_ok {a b t : Int} (h1 : 0 ≤ a) (h2 : a < 4294967296) (h3 : 0 ≤ t) (h4 : t ≤ 100000) (h5 : 0 ≤ b) (h6 : b ≤ 1000000) {c : Int} (h7 : 0 ≤ c) (h8 : c ≤ 1000000) : CPow (a + b * t + c) 5 := by
  have k1 : 0 ≤ b * t := Int.mul_nonneg h5 h3
  have k2 : b * t ≤ 1000000 * 100000 := Int.mul_le_mul h6 h4 h3 (by decide)
  refine ⟨by decide, by decide, ?_⟩
  omega
theorem pow3_ok {m d t a c : Int} (h1 : 0 ≤ m) (h2 : m < 4294967296) (h3 : 0 ≤ t) (h4 : t ≤ 100000) (h5 : 0 ≤ d) (h6 : d ≤ 1000000) (h7 : 0 ≤ a) (h8 : a ≤ 1000000) (h9 : 0 ≤ c) (h10 : c ≤ 1000000) : CPow (m * (2 * t + d) + a * t * t + c) 3 := by
  have k1 : 0 ≤ m * (2 * t + d) := Int.mul_nonneg h1 (by omega)
  have k2 : m * (2 * t + d) ≤ 4294967296 * 1200000 := Int.mul_le_mul (by omega) (by omega) (by omega) (by decide)
  have k3 : 0 ≤ a * t := Int.mul_nonneg h7 h3
  have k4 : a * t ≤ 1000000 * 100000 := Int.mul_le_mul h8 h4 h3 (by decide)
  have k5 : 0 ≤ a * t * t := Int.mul_nonneg k3 h3
  have k6 : a * t * t ≤ 1000000 * 100000 * 100000 := Int.mul_le_mul k4 h4 h3 (by decide)
  refine ⟨by decide, by decide, ?_⟩
  omega
theorem div_ok {i m : Int} (h1 : 0 < m) (h2 : m < 2 ^ 200) : CDivW i m := wide_div (b := 200) h1 (by omega) (by decide) (by decide)
theorem small_mul {i j : Int} (h1 : -1000000000000 < i) (h2 : i < 1000000000000) : CMul i j := .inl ⟨by omega, by omega⟩
theorem small_mulR {i j : Int} (h1 : -1000000000000 < j) (h2 : j < 1000000000000) : CMul i j := .inr ⟨by omega, by omega⟩

theorem pure_law_lexicon (vs : List V) (H : Hp) (Q : VK) (E : XK) (h : sp_law_lexicon K C vs H Q E) : vs.length = 1 ∧ t_law_lexicon K C { nx := fun _ H' => Q .non H', rt := Q } (start N_law_lexicon vs) H := by
  obtain ⟨a, ns, rfl, ha, hn, k⟩ := h
  refine ⟨rfl, ?_⟩
  unfold t_law_lexicon
  walk_at "nk"
  refine ⟨_, rfl, w_slL ha ?_⟩
  intro p n_p
  generalize z_p : upd _ p _ = H1
  obtain ⟨e1, h1, m_p⟩ := newly n_p z_p
  clear z_p
  have cut : cutV (ns.map V.int) none (some 60) = (ns.take 60).map V.int := by
    unfold cutV
    rw [HT.sIx_none, show (some (60 : Int)) = some ((60 : Nat) : Int) from rfl, HT.sIx_nat, List.drop_zero, Nat.sub_zero, List.map_take, List.length_map]
    by_cases c : 60 ≤ ns.length
    · rw [Nat.min_eq_left c]
    · rw [Nat.min_eq_right (by omega), List.take_of_length_le (by simp), List.take_of_length_le (by rw [List.length_map]; omega)]
  rw [cut] at h1
  refine w_lc (fun x => x) (.inl (SqL.of h1)) ?_ (fun _ _ _ n => n) (fun _ => rfl) (fun x hm H2 e2 R r => ?_) (fun D H2 hD e2 h2 => ?_)
  · rw [List.length_map, List.length_take]; omega
  · obtain ⟨i, _, rfl⟩ := List.mem_map.mp hm
    walk_at "nk"
    exact r _ .rfl
  · walk_at "nk"
    refine ⟨sm (by simp), ?_⟩
    intro L n_L
    generalize z_L : upd _ L _ = H3
    obtain ⟨e3, h3, m_L⟩ := newly n_L z_L
    clear z_L
    have hD3 : H3 D = some (.lst ((ns.take 60).map V.int)) := by
      have q := e3 D _ h2
      rw [map_same] at q
      exact q
    refine k L H3 (((e1.tr e2)).before n_L) ((e1.tr e2).tr e3) ⟨D, 0, 0, ns.take 60, h3, ?_, ?_, by omega, by omega, by omega, ?_⟩
    · exact hD3
    · intro z
      rw [← z, h2] at n_L
      cases n_L
    · rw [List.length_take]; omega
theorem pure_law_page (vs : List V) (H : Hp) (Q : VK) (E : XK) (h : sp_law_page K C vs H Q E) : vs.length = 2 ∧ t_law_page K C { nx := fun _ H' => Q .non H', rt := Q } (start N_law_page vs) H := by
  obtain ⟨L, n, m, rfl, ⟨c, t, r, cells, hL, hc, ne, t0, t1, r0, few⟩, hn, m0, m1, k⟩ := h
  refine ⟨rfl, ?_⟩
  have md : ∀ x : Int, 0 ≤ x % m ∧ x % m < m := fun x => ⟨Int.emod_nonneg x (by omega), Int.emod_lt_of_pos x m0⟩
  unfold t_law_page
  refine w_then ?_
  walk_at "nk"
  refine w_ixL (SqL.of hL) rfl ?_
  walk_at "nk"
  refine ⟨_, rfl, w_both (fun z => ?_) fun z => ?_⟩
  · have r1 : 0 < r := of_decide_eq_true z
    walk_at "nk"
    refine w_ixL (SqL.of hL) rfl ?_
    walk_at "nk"
    refine w_div (div_ok m0 m1) ?_
    walk_at "nk"
    refine w_setL hL rfl ?_
    walk_at "nk"
    refine w_mod m0 ?_
    exact k _ _ (md r).1 (md r).2 (Adv.put hL) ⟨c, t, r / m, cells, upd_same, by rw [upd_ne ne]; exact hc, ne, t0, by omega, Int.ediv_nonneg r0 (by omega), few⟩
  · walk_at "nk"
    refine w_ixL (SqL.of hL) rfl ?_
    walk_at "nk"
    refine w_setL hL rfl ?_
    -- the lantern behind the turn
    generalize zH : upd H L _ = H1
    have hL1 : H1 L = some (.lst [.ref c, .int (t + 1), .int r]) := by rw [← zH, upd_same]; rfl
    have hc1 : H1 c = some (.lst (cells.map V.int)) := by rw [← zH, upd_ne ne]; exact hc
    have a1 : Adv L H H1 := by rw [← zH]; exact Adv.put hL
    walk_at "nk"
    refine w_mul (small_mul (by decide) (by decide)) ?_
    walk_at "nk"
    -- which cell
    refine w_mid (fun σ' H' => ∃ x : Int, σ' = [some (.ref L), some (.int m), none, some (.int t), some (.int x), none] ∧ Ext H1 H') ?_ ?_
    · walk_at "nk"
      refine w_ixL (SqL.of hL1) rfl ?_
      walk_at "nk"
      refine ⟨sm (by simp), ?_⟩
      intro p n_p
      generalize z_p : upd _ p _ = H2
      obtain ⟨e2, h2, m_p⟩ := newly n_p z_p
      clear z_p
      refine w_neD (.lst (SqL.of (e2 _ _ hc1)) (dp_ints cells)) (.lst (SqL.of h2) .nil) (shaped_ints cells) rfl ?_
      rw [eqv_nil]
      refine ⟨_, rfl, w_both (fun z => ?_) fun z => ?_⟩
      · walk_at "nk"
        refine w_ixL (SqL.of (e2 _ _ hL1)) rfl ?_
        walk_at "nk"
        refine w_ixL (SqL.of (e2 _ _ hL1)) rfl ?_
        walk_at "nk"
        refine w_len (.inl (SqL.of (e2 _ _ hc1))) ?_
        have pos : 0 < cells.length := by
          cases cells with
          | nil => cases z
          | cons x xs => simp
        walk_at "nk"
        refine w_mod (by rw [List.length_map]; omega) ?_
        rw [List.length_map]
        have ix : ∃ j : Nat, t % (cells.length : Int) = j ∧ j < cells.length := ⟨(t % (cells.length : Int)).toNat, by have := Int.emod_nonneg t (b := (cells.length : Int)) (by omega); omega, by
          have := Int.emod_nonneg t (b := (cells.length : Int)) (by omega)
          have := Int.emod_lt_of_pos t (b := (cells.length : Int)) (by omega)
          omega⟩
        obtain ⟨j, ej, hj⟩ := ix
        rw [ej]
        refine w_ixL (SqL.of (e2 _ _ hc1)) (v := .int cells[j]) (atI_nat ?_) ?_
        · rw [List.getElem?_map, List.getElem?_eq_getElem hj]; rfl
        · walk_at "nk"
          exact ⟨cells[j], rfl, e2⟩
      · walk_at "nk"
        exact ⟨_, rfl, e2⟩
    · rintro _ H2 ⟨x, rfl, e2⟩
      have hL2 := e2 _ _ hL1
      have hc2 := e2 _ _ hc1
      have a2 : Adv L H H2 := a1.tr e2.adv
      refine w_mid (fun σ' H' => σ' = [some (.ref L), some (.int m), none, some (.int t), some (.int x), none] ∧ H' = H2) ?_ ?_
      · walk_at "nk"
        refine w_ixL (SqL.of hL2) rfl ?_
        walk_at "nk"
        refine w_len (.inl (SqL.of hc2)) ?_
        walk_at "nk"
        refine ⟨_, rfl, w_both (fun z => ?_) fun z => ?_⟩
        · walk_at "nk"
          refine w_pow (i := 10) (j := 18) ⟨by decide, by decide, by decide⟩ ?_
          walk_at "nk"
          refine ⟨_, rfl, w_both (fun z => ?_) fun z => ?_⟩
          · have big : (1000000000000000000 : Int) ≤ (if x < 0 then -x else x) := of_decide_eq_true z
            walk_at "nk"
            refine w_pow (i := 10) (j := 18) ⟨by decide, by decide, by decide⟩ ?_
            walk_at "nk"
            refine w_mul (small_mul (by decide) (by decide)) ?_
            walk_at "nk"
            have e18 : ((10 : Int) ^ (Int.toNat 18)) = 1000000000000000000 := by decide
            rw [e18]
            generalize zr : 2 * ((if x < 0 then -x else x) - 1000000000000000000) + (if decide (x < 0) = true then (1 : Int) else 0) = y
            have y0 : 0 ≤ y := by
              rw [← zr]
              split <;> omega
            refine w_div (div_ok m0 m1) ?_
            walk_at "nk"
            refine w_setL hL2 rfl ?_
            walk_at "nk"
            refine w_mod m0 ?_
            exact k _ _ (md y).1 (md y).2 (a2.tr (Adv.put hL2)) ⟨c, t + 1, y / m, cells, upd_same, by rw [upd_ne ne]; exact hc2, ne, by omega, by omega, Int.ediv_nonneg y0 (by omega), few⟩
          · walk_at "nk"
            exact ⟨rfl, rfl⟩
        · walk_at "nk"
          exact ⟨rfl, rfl⟩
      · rintro _ _ ⟨rfl, rfl⟩
        walk_at "nk"
        refine w_mod (by decide) ?_
        walk_at "nk"
        refine w_mul (small_mul (by decide) (by decide)) ?_
        walk_at "nk"
        refine w_pow (pow5_ok (Int.emod_nonneg _ (by decide)) (Int.lt_trans (Int.emod_lt_of_pos _ (by decide)) (by decide)) t0 (by omega) (by decide) (by decide) (by decide) (by decide)) ?_
        walk_at "nk"
        refine w_mod (by decide) ?_
        walk_at "nk"
        generalize zx : ((_ : Int) ^ (Int.toNat 5)) % _ = y
        have y0 : 0 ≤ y := by rw [← zx]; exact Int.emod_nonneg _ (by decide)
        have y1 : y < 4294967296 := by rw [← zx]; exact Int.lt_trans (Int.emod_lt_of_pos _ (by decide)) (by decide)
        refine w_mul (small_mul (by decide) (by decide)) ?_
        walk_at "nk"
        refine w_mul (small_mul (by omega) (by omega)) ?_
        walk_at "nk"
        refine w_mul (small_mul (by decide) (by decide)) ?_
        walk_at "nk"
        refine w_mul (small_mulR (by omega) (by omega)) ?_
        walk_at "nk"
        refine w_pow (pow3_ok y0 y1 t0 (by omega) (by decide) (by decide) (by decide) (by decide) (by decide) (by decide)) ?_
        walk_at "nk"
        refine w_mod (by decide) ?_
        walk_at "nk"
        refine w_div (div_ok (by decide) (by decide)) ?_
        walk_at "nk"
        refine w_mod m0 ?_
        exact k _ _ (md _).1 (md _).2 a2 ⟨c, t + 1, r, cells, hL2, hc2, ne, by omega, by omega, r0, few⟩
theorem pure_law_one_of (vs : List V) (H : Hp) (Q : VK) (E : XK) (h : sp_law_one_of K C vs H Q E) : vs.length = 2 ∧ t_law_one_of K C { nx := fun _ H' => Q .non H', rt := Q } (start N_law_one_of vs) H := by
  obtain ⟨L, n, p, xs, rfl, hl, hn, np, hx, h0, hm, k⟩ := h
  refine ⟨rfl, ?_⟩
  have pos : 0 < xs.length := List.length_pos_iff.mpr h0
  unfold t_law_one_of
  walk_at "nk"
  refine w_len hx ?_
  walk_at "nk"
  refine ⟨L, n, (xs.length : Int), rfl, hl, hn, by omega, by omega, fun v H' v0 v1 a hl' => ?_⟩
  have hx' : SqL K H' p xs ∨ SqT K H' p xs := hx.elim (fun z => .inl (a.sqL np z)) fun z => .inr (a.sqT np z)
  have hj : v.toNat < xs.length := by omega
  have ev : v = ((v.toNat : Nat) : Int) := by omega
  rw [ev]
  exact w_ix hx' (atI_nat (List.getElem?_eq_getElem hj)) (k _ _ (List.getElem_mem hj) a hl')
end
end NK

namespace NK
open PySem PySem.Spec L2
section
variable {K : PySem.W.Frag} {C : CA}
/-- the loop of word_in -/
def WIn (K : PySem.W.Frag) (H0 : Hp) (l : Addr) (v0 : V) (p0 q0 : Nat) (m : Nat) (σ : L2.St) (H : Hp) : Prop := ∃ (p q : Nat) (xs : List V) (done : List (Bool × Int)), σ = [some v0, some (.int (p : Int)), some (.int (q : Int)), some (.ref l)] ∧ Ext H0 H ∧ H l = some (.lst xs) ∧ Pairs K H xs done ∧
  done ++ wordOf p q = wordOf p0 q0 ∧ endOf p q = endOf p0 q0 ∧ m = p + q ∧ p ≤ 1000000000000 ∧ q ≤ 1000000000000
theorem okW_len {p q : Nat} (h : okWay p q) : (wordOf p q).length ≤ 80 := word_len 80 p q (by
  have k : p * q ≤ 1000000000000 * 1000000000000 := Nat.mul_le_mul h.1 h.2.1
  have : 1000000000000 * 1000000000000 < 2 ^ 80 := by decide
  omega)
theorem okW_small {p q : Nat} (h : okWay p q) : smallT (wordOf p q) := ⟨Nat.le_trans (okW_len h) (by decide), fun x hx => by
  have := word_times p q x hx
  have h1 := h.1
  have h2 := h.2.1
  omega⟩
theorem ediv_nat (p q : Nat) : ((p : Int) / (q : Int)) = ((p / q : Nat) : Int) := (Int.natCast_ediv p q).symm
theorem sub_div (p q : Nat) : (p : Int) - ((p / q : Nat) : Int) * (q : Int) = ((p % q : Nat) : Int) := by
  have := div_mod_int p q
  omega
theorem div_fits {p q : Nat} (hq : 0 < q) (h : q ≤ 1000000000000) : CDivW (p : Int) (q : Int) := wide_div (b := 200) (by omega) (by omega) (by decide) (by decide)
theorem mul_fits {i j : Int} (h1 : 0 ≤ i) (h2 : i ≤ 1000000000000) : CMul i j := .inl ⟨by omega, by omega⟩
theorem pure_word_in (vs : List V) (H : Hp) (Q : VK) (E : XK) (h : sp_word_in K C vs H Q E) : vs.length = 1 ∧ t_word_in K C { nx := fun _ H' => Q .non H', rt := Q } (start N_word_in vs) H := by
  obtain ⟨a, p0, q0, rfl, ha, ok, k⟩ := h
  refine ⟨rfl, ?_⟩
  unfold t_word_in
  walk_at "nk"
  refine w_gSeq ha rfl ?_
  walk_at "nk"
  refine ⟨sm (by simp), ?_⟩
  intro l n_l
  generalize z_l : upd _ l _ = H1
  obtain ⟨e1, h1, m_l⟩ := newly n_l z_l
  clear z_l
  walk_at "nk"
  refine w_then ?_
  refine ⟨WIn K H l (.ref a) p0 q0, ⟨_, p0, q0, [], [], rfl, e1, h1, trivial, rfl, rfl, rfl, ok.1, ok.2.1⟩, ?_⟩
  rintro m σ H2 ⟨p, q, xs, done, rfl, e2, hl, hp, hd, he, hm, hp1, hq1⟩
  have n_l0 : H l = none := n_l
  have fin : ¬ (0 < p ∧ 0 < q) → (tRet (tTup (tCons (tCB (cTuple K) (tCons (tVar 3) tNil)) (tCons (tIf (tTest (tOp rEq (tVar 2) (tC (.int 0)))) (tC (.str "east")) (tC (.str "north"))) tNil)))) { nx := fun _ H' => Q .non H', rt := Q } [some (.ref a), some (.int (p : Int)), some (.int (q : Int)), some (.ref l)] H2 := fun z => by
    have zz := steps_z z
    rw [zz.1, List.append_nil] at hd
    rw [zz.2] at he
    walk_at "nk"
    refine w_tupleL (SqL.of hl) ?_
    intro w n_w
    generalize z_w : upd _ w _ = H3
    obtain ⟨e3, h3, m_w⟩ := newly n_w z_w
    clear z_w
    walk_at "nk"
    refine ⟨_, rfl, w_both (fun y => ?_) fun y => ?_⟩
    all_goals
      walk_at "nk"
      refine ⟨sm (by simp), ?_⟩
      intro r n_r
      generalize z_r : upd _ r _ = H4
      obtain ⟨e4, h4, m_r⟩ := newly n_r z_r
      clear z_r
      refine k _ H4 ((e2.tr e3).tr e4) ⟨r, w, xs, rfl, ?_, e4 _ _ h3, ?_⟩
    · rw [h4, ← he, if_pos (show q = 0 by simpa using y)]
    · rw [← hd]
      exact hp.ext (e3.tr e4)
    · rw [h4, ← he, if_neg (show ¬ q = 0 by simpa using y)]
    · rw [← hd]
      exact hp.ext (e3.tr e4)
  refine w_and ?_
  walk_at "nk"
  refine ⟨_, rfl, w_both (fun c1 => ?_) fun c1 => ?_⟩
  · walk_at "nk"
    refine ⟨_, rfl, w_both (fun c2 => ?_) fun c2 => ?_⟩
    · have hp0 : 0 < p := by have : (0 : Int) < p := of_decide_eq_true c1; omega
      have hq0 : 0 < q := by have : (0 : Int) < q := of_decide_eq_true c2; omega
      refine ⟨fun σ' H' => ∃ m', m' < m ∧ WIn K H l (.ref a) p0 q0 m' σ' H', fun σ' H' z => z, ?_⟩
      have small : xs.length ≤ 1000000 := by
        have z := congrArg List.length hd
        rw [List.length_append] at z
        have := okW_len ok
        rw [hp.len]
        omega
      walk_at "nk"
      refine ⟨_, rfl, w_both (fun c3 => ?_) fun c3 => ?_⟩
      · have h3 : q ≤ p := by have : (q : Int) ≤ p := of_decide_eq_true c3; omega
        have st := steps_a hq0 h3
        walk_at "nk"
        refine ⟨tyL (SqL.of hl), ?_⟩
        walk_at "nk"
        refine w_div (div_fits hq0 hq1) ?_
        walk_at "nk"
        refine ⟨sm (by simp), ?_⟩
        intro t n_t
        generalize z_t : upd _ t _ = H3
        obtain ⟨e3, h4, m_t⟩ := newly n_t z_t
        clear z_t
        walk_at "nk"
        refine w_app (e3 _ _ hl) small ?_
        walk_at "nk"
        refine w_div (div_fits hq0 hq1) ?_
        walk_at "nk"
        refine w_mul (mul_fits (by rw [ediv_nat]; exact Int.natCast_nonneg _) (by rw [ediv_nat]; have := Nat.div_le_self p q; omega)) ?_
        walk_at "nk"
        rw [ediv_nat, sub_div]
        have lt : p % q < q := Nat.mod_lt p hq0
        refine ⟨p % q + q, by omega, p % q, q, xs ++ [.ref t], done ++ [(true, ((p / q : Nat) : Int))], rfl, (e2.tr e3).mut n_l0, upd_same, ?_, ?_, ?_, rfl, by omega, hq1⟩
        · refine Pairs.snoc (SqT.of ?_) ((hp.ext e3).mut (e3 _ _ hl))
          rw [upd_ne (fun z => by rw [z, e3 _ _ hl] at h4; cases h4), h4]
          rfl
        · rw [List.append_assoc]
          show done ++ ((true, ((p / q : Nat) : Int)) :: wordOf (p % q) q) = _
          rw [← st.1, hd]
        · rw [← st.2, he]
      · have h3 : ¬ q ≤ p := by have : ¬ (q : Int) ≤ p := of_decide_eq_false c3; omega
        have st := steps_b hp0 h3
        walk_at "nk"
        refine ⟨tyL (SqL.of hl), ?_⟩
        walk_at "nk"
        refine w_div (div_fits hp0 hp1) ?_
        walk_at "nk"
        refine ⟨sm (by simp), ?_⟩
        intro t n_t
        generalize z_t : upd _ t _ = H3
        obtain ⟨e3, h4, m_t⟩ := newly n_t z_t
        clear z_t
        walk_at "nk"
        refine w_app (e3 _ _ hl) small ?_
        walk_at "nk"
        refine w_div (div_fits hp0 hp1) ?_
        walk_at "nk"
        refine w_mul (mul_fits (by rw [ediv_nat]; exact Int.natCast_nonneg _) (by rw [ediv_nat]; have := Nat.div_le_self q p; omega)) ?_
        walk_at "nk"
        rw [ediv_nat, sub_div]
        have lt : q % p < p := Nat.mod_lt q hp0
        refine ⟨p + q % p, by omega, p, q % p, xs ++ [.ref t], done ++ [(false, ((q / p : Nat) : Int))], rfl, (e2.tr e3).mut n_l0, upd_same, ?_, ?_, ?_, rfl, hp1, by omega⟩
        · refine Pairs.snoc (SqT.of ?_) ((hp.ext e3).mut (e3 _ _ hl))
          rw [upd_ne (fun z => by rw [z, e3 _ _ hl] at h4; cases h4), h4]
          rfl
        · rw [List.append_assoc]
          show done ++ ((false, ((q / p : Nat) : Int)) :: wordOf p (q % p)) = _
          rw [← st.1, hd]
        · rw [← st.2, he]
    · exact (fin fun z => absurd c2 (by rw [decide_eq_true (show (0 : Int) < q by have := z.2; omega)]; exact fun z => nomatch z))
  · refine w_f ?_
    exact (fin fun z => absurd c1 (by rw [decide_eq_true (show (0 : Int) < p by have := z.1; omega)]; exact fun z => nomatch z))
/-- word_of refuses, or tells the word -/
theorem way_nat {p q : Int} (w : wayI p q = true) (h1 : ¬ p < 0) (h2 : ¬ q < 0) : ∃ a b : Nat, p = a ∧ q = b ∧ okWay a b := by
  unfold wayI at w
  simp only [Bool.and_eq_true, decide_eq_true_eq] at w
  refine ⟨p.toNat, q.toNat, by omega, by omega, by omega, by omega, ?_⟩
  have g := w.2
  have e : Int.gcd p q = Nat.gcd p.natAbs q.natAbs := rfl
  rw [e] at g
  rw [show p.natAbs = p.toNat by omega, show q.natAbs = q.toNat by omega] at g
  omega
theorem nat_way {a b : Nat} (h : okWay a b) : wayI (a : Int) (b : Int) = true := by
  unfold wayI
  have g : Int.gcd (a : Int) (b : Int) = 1 := h.2.2
  rw [g]
  have h1 := h.1
  have h2 := h.2.1
  simp only [Bool.and_eq_true, decide_eq_true_eq]
  omega
theorem way_two {s : Option (List V)} (e : wayB s = true) : ∃ p q, s = some [.int p, .int q] ∧ wayI p q = true := by
  by_cases c : ptB s = true
  · obtain ⟨p, q, rfl⟩ := pt_two c
    exact ⟨p, q, rfl, e⟩
  · rw [wayB_pt (by simpa using c)] at e
    cases e
theorem two_atI {p q : V} : atI [p, q] 0 = some p ∧ atI [p, q] 1 = some q := ⟨rfl, rfl⟩
theorem refuse_xd {D : Addr} {y : Str} {H H1 : Hp} {E : XK} (r : Refuse D y H E) (e : Ext H H1) {d : Addr} (n : H1 d = none) : E (.ref D) (some d) (upd H1 d (.xd [(("part" : Str), .str y)])) := r _ d (e.tr (.put n)) upd_same
theorem pure_word_of (vs : List V) (H : Hp) (Q : VK) (E : XK) (h : sp_word_of K C vs H Q E) : vs.length = 1 ∧ t_word_of K C E { nx := fun _ H' => Q .non H', rt := Q } (start N_word_of vs) H := by
  obtain ⟨v, s, rfl, hv, hf, k⟩ := h
  refine ⟨rfl, ?_⟩
  unfold t_word_of
  have refuse : (∀ p q : Nat, s = some [.int p, .int q] → ¬ okWay p q) → ∀ {H1 : Hp}, Ext H H1 → ∀ d, H1 d = none → E (.ref C.BadWay) (some d) (upd H1 d (.xd [(("part" : Str), .str "way")])) := fun no H1 e d n => by
    rcases k with ⟨p, q, e1, ok, _⟩ | ⟨_, r⟩
    · exact absurd ok (no p q e1)
    · exact refuse_xd r e n
  refine w_then ?_
  walk_at "nk"
  refine ⟨v, s, rfl, hv, hf, fun H1 e1 => ?_⟩
  refine ⟨_, rfl, w_both (fun c => ?_) fun c => ?_⟩
  · walk_at "nk"
    refine ⟨_, rfl, by decide, refuse (fun p q es ok => ?_) e1⟩
    subst es
    rw [show wayB (some [.int (p : Int), .int (q : Int)]) = true from nat_way ok] at c
    cases c
  · obtain ⟨p, q, rfl, w⟩ := way_two (nf c)
    obtain ⟨a, rfl, hx⟩ := hv.1.sq
    have hx1 : SqL K H1 a [.int p, .int q] ∨ SqT K H1 a [.int p, .int q] := hx.elim (fun z => .inl (e1.sqL z)) fun z => .inr (e1.sqT z)
    walk_at "nk"
    refine w_ix hx1 two_atI.1 ?_
    walk_at "nk"
    refine ⟨_, rfl, w_both (fun c1 => ?_) fun c1 => ?_⟩
    · walk_at "nk"
      refine ⟨_, rfl, by decide, refuse (fun p' q' es ok => ?_) e1⟩
      cases es
      have := of_decide_eq_true c1
      omega
    · walk_at "nk"
      refine w_ix hx1 two_atI.2 ?_
      walk_at "nk"
      refine ⟨_, rfl, w_both (fun c2 => ?_) fun c2 => ?_⟩
      · walk_at "nk"
        refine ⟨_, rfl, by decide, refuse (fun p' q' es ok => ?_) e1⟩
        cases es
        have := of_decide_eq_true c2
        omega
      · obtain ⟨m, n, rfl, rfl, ok⟩ := way_nat w (of_decide_eq_false c1) (of_decide_eq_false c2)
        walk_at "nk"
        refine ⟨a, m, n, rfl, hx1, ok, fun r H2 e2 wr => ?_⟩
        rcases k with ⟨p', q', es, _, k⟩ | ⟨no, _⟩
        · cases es
          exact k r H2 (e1.tr e2) wr
        · exact absurd ok (no m n rfl)
end
end NK

namespace NK
open PySem PySem.Spec L2
section
variable {K : PySem.W.Frag} {C : CA}
/-- the loop of ways_in: what is done lies behind -/
def WWays (K : PySem.W.Frag) (H0 : Hp) (v0 : V) (l : List (Bool × Int)) (i : Nat) (σ : L2.St) (H : Hp) : Prop := ∃ (w : Addr) (xs : List V) (r : List (Option V)), σ = some v0 :: some (.ref w) :: r ∧ r.length = 4 ∧ Ext H0 H ∧ H w = some (.lst xs) ∧ Twos H xs [apf (l.drop (l.length - i)) (1, 0), apf (l.drop (l.length - i)) (0, 1)]
theorem drop_one {l : List (Bool × Int)} {i : Nat} (h : i < l.length) {x : Bool × Int} (hx : l[l.length - 1 - i]? = some x) : l.drop (l.length - (i + 1)) = x :: l.drop (l.length - i) := by
  have e : l.length - (i + 1) = l.length - 1 - i := by omega
  have e2 : l.length - i = l.length - 1 - i + 1 := by omega
  rw [e, e2]
  obtain ⟨lt, hx⟩ := List.getElem?_eq_some_iff.mp hx
  rw [← hx]
  exact List.drop_eq_getElem_cons lt
theorem ltr_a (b : Bool) : (ltr b == ("a" : Str)) = b := by cases b <;> decide
theorem pure_is_letter (vs : List V) (H : Hp) (Q : VK) (E : XK) (h : sp_is_letter K C vs H Q E) : vs.length = 1 ∧ t_is_letter K C { nx := fun _ H' => Q .non H', rt := Q } (start N_is_letter vs) H := by
  obtain ⟨d, v, rfl, hd, hs, k⟩ := h
  refine ⟨rfl, ?_⟩
  unfold t_is_letter
  walk_at "nk"
  refine w_isStr hd ⟨_, rfl, w_both (fun c => ?_) fun c => ?_⟩
  · obtain ⟨x, rfl⟩ : ∃ x, d = .str x := by
      cases d <;> first | exact ⟨_, rfl⟩ | cases c
    unfold Dq at hd
    subst hd
    walk_at "nk"
    refine ⟨sm (by simp), ?_⟩
    intro p n_p
    generalize z_p : upd _ p _ = H1
    obtain ⟨e1, h1, m_p⟩ := newly n_p z_p
    clear z_p
    refine w_in (.str x) (.inr (.tup (SqT.of h1) (.cons (.str _) (.cons (.str _) .nil)))) (by unfold SeqAt.shaped; rw [hs]; rfl) (by decide +kernel) ?_
    have z : (List.any [PyData.str "a", .str "b"] fun z => PyData.eqv z (.str x)) = isLtr (.str x) := by
      simp only [List.any_cons, List.any_nil, Bool.or_false, isLtr, PyData.eqv]
      rw [BEq.comm (a := ("a" : Str)), BEq.comm (a := ("b" : Str))]
    rw [z]
    exact k _ e1
  · have z : isLtr d = false := by cases d <;> first | rfl | cases c
    rw [z] at k
    exact k _ .rfl
theorem smallT_mul {l : List (Bool × Int)} (h : smallT l) {x : Bool × Int} (hx : x ∈ l) (j : Int) : CMul x.2 j := by
  have := h.2 x hx
  exact .inl ⟨by omega, by omega⟩
theorem pure_ways_in (vs : List V) (H : Hp) (Q : VK) (E : XK) (h : sp_ways_in K C vs H Q E) : vs.length = 1 ∧ t_ways_in K C { nx := fun _ H' => Q .non H', rt := Q } (start N_ways_in vs) H := by
  obtain ⟨a, xs, l, rfl, ha, hp, sm_, k⟩ := h
  refine ⟨rfl, ?_⟩
  have many : xs.length = l.length := hp.len
  unfold t_ways_in
  walk_at "nk"
  refine ⟨sm (by simp), ?_⟩
  intro t1 n_t1
  generalize z_t1 : upd _ t1 _ = H1
  obtain ⟨e1, h1, m_t1⟩ := newly n_t1 z_t1
  clear z_t1
  walk_at "nk"
  refine ⟨sm (by simp), ?_⟩
  intro t2 n_t2
  generalize z_t2 : upd _ t2 _ = H2
  obtain ⟨e2, h2, m_t2⟩ := newly n_t2 z_t2
  clear z_t2
  walk_at "nk"
  refine ⟨sm (by simp), ?_⟩
  intro w n_w
  generalize z_w : upd _ w _ = H3
  obtain ⟨e3, h3, m_w⟩ := newly n_w z_w
  clear z_w
  walk_at "nk"
  have e03 := (e1.tr e2).tr e3
  have ha3 : SqL K H3 a xs ∨ SqT K H3 a xs := ha.elim (fun z => .inl (e03.sqL z)) fun z => .inr (e03.sqT z)
  refine w_then ?_
  refine w_forRev ha3 (WWays K H3 (.ref a) l) ⟨w, _, _, rfl, rfl, .rfl, h3, ?_⟩ (fun i σ' H' p => by obtain ⟨_, _, _, _, _, e, _⟩ := p; exact e) (fun i x σ' H' lt hx p => ?_) (fun σ' H' p => ?_) (fun R r => w_var rfl r)
  · rw [Nat.sub_zero, List.drop_length]
    exact ⟨⟨t1, rfl, e3 _ _ (e2 _ _ h1)⟩, ⟨t2, rfl, e3 _ _ h2⟩, trivial⟩
  · obtain ⟨w', ys, r, rfl, lr, e, hw, tw⟩ := p
    match r, lr with
    | [r2, r3, r4, r5], _ =>
      obtain ⟨pa, x', hx', rfl, px⟩ := hp.at _ hx
      have lt' : i < l.length := by omega
      rw [many] at hx'
      have dr := drop_one lt' hx'
      have px3 : SqT K H' pa [.str (ltr x'.1), .int x'.2] := (e03.tr e).sqT px
      refine w_gTup px3 rfl ?_
      walk_at "nk"
      have mx : x' ∈ l := List.mem_of_getElem? hx'
      refine w_lcR (fun D j y H2 => ∃ (t : Addr) (z : Int × Int), [apf (l.drop (l.length - i)) (1, 0), apf (l.drop (l.length - i)) (0, 1)][j]? = some z ∧ y = .ref t ∧ t ≠ D ∧ H2 t = some (.tup [.int (ap x' z).1, .int (ap x' z).2])) (fun D j y H1 H2 b p => ?_) (.inl (SqL.of hw)) (by rw [tw.len]; show 2 ≤ 100000; decide) (fun D j y hy H4 e4 hD R r N => ?_) fun D H4 zs nD e4 hD lz pz => ?_
      · obtain ⟨t, z, h1, h2, h3, h4⟩ := p
        exact ⟨t, z, h1, h2, h3, b _ _ h3 h4⟩
      · obtain ⟨t, z, hz, rfl, ht⟩ := tw.at j hy
        refine w_gTup (SqT.of (e4 _ _ ht)) rfl ?_
        walk_at "nk"
        refine ⟨rfl, w_yes (w_t ?_)⟩
        walk_at "nk"
        refine w_eqS ⟨_, rfl, ?_⟩
        rw [ltr_a]
        obtain ⟨zs, hD⟩ := hD
        refine w_both (fun c => ?_) fun c => ?_
        · walk_at "nk"
          refine w_mul (smallT_mul sm_ mx _) ?_
          walk_at "nk"
          refine ⟨sm (by simp), ?_⟩
          intro s1 n_s1
          generalize z_s1 : upd _ s1 _ = H5
          obtain ⟨e5, h5, m_s1⟩ := newly n_s1 z_s1
          clear z_s1
          refine r _ _ e5 ⟨s1, z, hz, rfl, fun q => ?_, ?_⟩
          · rw [q, hD] at n_s1
            cases n_s1
          · rw [h5]
            unfold ap
            rw [if_pos c]
        · walk_at "nk"
          refine w_mul (smallT_mul sm_ mx _) ?_
          walk_at "nk"
          refine ⟨sm (by simp), ?_⟩
          intro s1 n_s1
          generalize z_s1 : upd _ s1 _ = H5
          obtain ⟨e5, h5, m_s1⟩ := newly n_s1 z_s1
          clear z_s1
          refine r _ _ e5 ⟨s1, z, hz, rfl, fun q => ?_, ?_⟩
          · rw [q, hD] at n_s1
            cases n_s1
          · rw [h5]
            unfold ap
            rw [if_neg (by rw [c]; exact Bool.false_ne_true)]
      · walk_at "nk"
        refine ⟨D, zs, _, rfl, rfl, e.tr e4, hD, ?_⟩
        rw [dr]
        rw [tw.len] at lz
        match zs, lz with
        | [y0, y1], _ =>
          obtain ⟨t0, z0, h0, rfl, _, k0⟩ := pz 0 y0 rfl
          obtain ⟨t1, z1, h1, rfl, _, k1⟩ := pz 1 y1 rfl
          cases h0
          cases h1
          exact ⟨⟨t0, rfl, k0⟩, ⟨t1, rfl, k1⟩, trivial⟩
  · obtain ⟨w', ys, r, rfl, lr, e, hw, tw⟩ := p
    walk_at "nk"
    refine w_tupleL (SqL.of hw) ?_
    intro q n_q
    generalize z_q : upd _ q _ = H5
    obtain ⟨e5, h5, m_q⟩ := newly n_q z_q
    clear z_q
    refine k _ H5 ((e03.tr e).tr e5) ⟨q, ys, rfl, h5, ?_⟩
    rw [many, Nat.sub_self, List.drop_zero] at tw
    exact tw.ext e5
end
end NK

namespace NK
open PySem PySem.Spec L2
section
variable {K : PySem.W.Frag} {C : CA}
def isTwo (d : PyData) : Bool := match itemsD d with
  | some [_, _] => true | _ => false
def okPair (d : PyData) : Bool := (pairOf d).isSome
theorem pairsOf_all : ∀ ds : List PyData, (pairsOf ds).isSome = (ds.map okPair).all id
  | [] => rfl
  | d :: ds => by
    have ih := pairsOf_all ds
    rw [List.map_cons, List.all_cons]
    unfold pairsOf okPair
    cases pairOf d with
    | none => rfl
    | some x =>
      show _ = (true && (ds.map okPair).all id)
      rw [Bool.true_and, ← ih]
      cases pairsOf ds <;> rfl
theorem okPair_two {d : PyData} (h : isTwo d = false) : okPair d = false := by
  unfold okPair pairOf
  unfold isTwo at h
  match itemsD d, h with
  | none, _ => rfl
  | some [], _ => rfl
  | some [a], _ => cases a <;> rfl
  | some (a :: b :: c :: r), _ => cases a <;> first | rfl | (cases b <;> rfl)
def timesOk : PyData → Bool
  | .int t => decide (1 ≤ t) && decide (t ≤ 1000000000000) | _ => false
theorem withD {d : PyData} {v : V} {H : Hp} (h : Dq K H d v) : withinB v (some 1) (some 1000000000000) = timesOk d := by
  cases d with
  | int t => unfold Dq at h; subst h; rfl
  | none => unfold Dq at h; subst h; rfl
  | bool b => unfold Dq at h; subst h; rfl
  | str x => unfold Dq at h; subst h; rfl
  | list ds => unfold Dq at h; obtain ⟨a, xs, rfl, _⟩ := h; rfl
  | tuple ds => unfold Dq at h; obtain ⟨a, xs, rfl, _⟩ := h; rfl
  | dict kvs => unfold Dq at h; obtain ⟨a, xs, rfl, _⟩ := h; rfl
theorem okPair_is {d x t : PyData} (h : itemsD d = some [x, t]) : okPair d = (isLtr x && timesOk t) := by
  unfold okPair pairOf
  rw [h]
  cases x with
  | str x =>
    cases t with
    | int t =>
      show (if ((x == "a" || x == "b") && decide (1 ≤ t) && decide (t ≤ 1000000000000)) = true then some (x == "a", t) else none).isSome = ((x == "a" || x == "b") && (decide (1 ≤ t) && decide (t ≤ 1000000000000)))
      rw [Bool.and_assoc]
      cases ((x == "a" || x == "b") && (decide (1 ≤ t) && decide (t ≤ 1000000000000))) <;> rfl
    | _ => exact (Bool.and_false _).symm
  | _ => rfl
theorem lay_at {ds : List PyData} (h : PyData.canLayAll0 ds = true) : ∀ d ∈ ds, d.canLay0 = true := by
  induction ds with
  | nil => intro d m; cases m
  | cons e es ih =>
    simp only [PyData.canLayAll0, Bool.and_eq_true] at h
    intro d m
    rcases List.mem_cons.mp m with rfl | m
    · exact h.1
    · exact ih h.2 d m
theorem lay_items {d : PyData} {ds : List PyData} (h : d.canLay0 = true) (e : itemsD d = some ds) : PyData.canLayAll0 ds = true := by
  cases d with
  | list es => cases e; simpa [PyData.canLay0] using h
  | tuple es => cases e; simpa [PyData.canLay0] using h
  | _ => cases e
/-- the pairs of a word, made tuples -/
theorem pairs_tup {H H0 : Hp} : ∀ (ds : List PyData) (l : List (Bool × Int)) (ys : List V), pairsOf ds = some l → ys.length = ds.length → (∀ (i : Nat) (y : V), ys[i]? = some y → ∃ a d es xs, ds[i]? = some d ∧ itemsD d = some es ∧ y = .ref a ∧ SqT K H a xs ∧ DqAll K H0 es xs) → Pairs K H ys l
  | [], l, ys, h, hl, _ => by
    cases h
    match ys, hl with
    | [], _ => trivial
  | d :: ds, l, [], h, hl, _ => by cases hl
  | d :: ds, l, y :: ys, h, hl, f => by
    unfold pairsOf at h
    cases e1 : pairOf d with
    | none => rw [e1] at h; cases h
    | some x =>
      cases e2 : pairsOf ds with
      | none => rw [e1, e2] at h; cases h
      | some l2 =>
        rw [e1, e2] at h
        cases h
        refine ⟨?_, pairs_tup ds l2 ys e2 (by simpa using hl) fun i z hz => f (i + 1) z hz⟩
        obtain ⟨a, d', es, xs, h1, h2, rfl, h4, h5⟩ := f 0 y rfl
        cases h1
        unfold pairOf at e1
        rw [h2] at e1
        match es, e1, h5 with
        | [.str s, .int t], e1, h5 =>
          dsimp only at e1
          split at e1
          · rename_i c
            cases e1
            simp only [Bool.and_eq_true, Bool.or_eq_true, beq_iff_eq] at c
            refine ⟨a, rfl, ?_⟩
            unfold DqAll at h5
            obtain ⟨v1, r1, rfl, k1, h6⟩ := h5
            unfold DqAll at h6
            obtain ⟨v2, r2, rfl, k2, h7⟩ := h6
            unfold DqAll at h7
            unfold Dq at k1 k2
            subst k1 k2 h7
            have e : ltr (s == "a") = s := by
              rcases c.1.1 with z | z
              · subst z; decide
              · subst z; decide
            show SqT K H a [.str (ltr (s == "a")), .int t]
            rw [e]
            exact h4
          · cases e1
theorem pure_need_word (vs : List V) (H : Hp) (Q : VK) (E : XK) (h : sp_need_word K C vs H Q E) : vs.length = 1 ∧ t_need_word K C E { nx := fun _ H' => Q .non H', rt := Q } (start N_need_word vs) H := by
  obtain ⟨d, v, rfl, hd, lay, few_, no, yes⟩ := h
  refine ⟨rfl, ?_⟩
  unfold t_need_word
  have refuse : wordD d = none → ∀ {H1 : Hp}, Ext H H1 → ∀ p, H1 p = none → E (.ref C.BadWord) (some p) (upd H1 p (.xd [(("part" : Str), .str "word")])) := fun z H1 e p n => refuse_xd (no z) e n
  obtain ⟨s, av, si, items⟩ := hd.anyV
  refine w_then ?_
  walk_at "nk"
  refine ⟨v, s, rfl, av, fun H1 e1 => ⟨_, rfl, w_both (fun c => ?_) fun c => ?_⟩⟩
  · walk_at "nk"
    refine ⟨_, rfl, by decide, refuse ?_ e1⟩
    unfold wordD
    cases e : itemsD d with
    | none => rfl
    | some ds => rw [e] at si; rw [si] at c; cases c
  · obtain ⟨ds, eds⟩ : ∃ ds, itemsD d = some ds := Option.isSome_iff_exists.mp (by rw [← si]; exact nf c)
    obtain ⟨a, xs, rfl, rfl, hx, dx⟩ := items ds eds
    have many : xs.length = ds.length := dx.len
    have few2 := few_ ds eds
    have lays := lay ds eds
    have hx1 : SqL K H1 a xs ∨ SqT K H1 a xs := hx.elim (fun z => .inl (e1.sqL z)) fun z => .inr (e1.sqT z)
    have dx1 : DqAll K H1 ds xs := DqAll.ext e1 ds xs dx
    walk_at "nk"
    refine w_len hx1 ?_
    walk_at "nk"
    refine ⟨_, rfl, w_both (fun c => ?_) fun c => ?_⟩
    · walk_at "nk"
      refine ⟨_, rfl, by decide, refuse ?_ e1⟩
      unfold wordD
      rw [eds]
      have : (200 : Int) < xs.length := of_decide_eq_true c
      exact if_neg (by omega)
    · have short : ds.length ≤ 200 := by
        have : ¬ (200 : Int) < xs.length := of_decide_eq_false c
        omega
      have wd : wordD d = pairsOf ds := by
        unfold wordD
        rw [eds]
        exact if_pos short
      walk_at "nk"
      -- all pairs are of two
      refine w_lcV (ds.map fun d => .bl (isTwo d)) hx1 (by omega) (by rw [List.length_map, many]) (fun i x y hi hy H2 e2 R r N => ?_) fun D H2 nD e2 hD => ?_
      · obtain ⟨di, hdi, qi⟩ := dx1.at i hi
        rw [List.getElem?_map, hdi] at hy
        cases hy
        have r : ∀ H3, Ext H2 H3 → R (.bl (isTwo di)) H3 := r
        walk_at "nk"
        refine ⟨rfl, w_yes (w_t ?_)⟩
        walk_at "nk"
        obtain ⟨si, ai, ei, ti⟩ := (Dq.ext e2 _ _ qi).anyV
        refine ⟨x, si, rfl, ai, fun H3 e3 => ⟨_, rfl, w_both (fun c => ?_) fun c => ?_⟩⟩
        · obtain ⟨es, ees⟩ : ∃ es, itemsD di = some es := Option.isSome_iff_exists.mp (by rw [← ei]; exact c)
          obtain ⟨b, zs, rfl, rfl, hz, dz⟩ := ti es ees
          walk_at "nk"
          refine w_len (hz.elim (fun z => .inl (e3.sqL z)) fun z => .inr (e3.sqT z)) ?_
          walk_at "nk"
          have z : decide ((zs.length : Int) = 2) = isTwo di := by
            unfold isTwo
            rw [ees, dz.len]
            match es with
            | [] => rfl
            | [a] => rfl
            | [a, b] => rfl
            | a :: b :: c :: r => exact decide_eq_false (by simp only [List.length_cons]; omega)
          rw [z]
          exact r _ e3
        · have z : isTwo di = false := by
            unfold isTwo
            cases e : itemsD di with
            | none => rfl
            | some es => rw [e] at ei; rw [ei] at c; cases c
          rw [z] at r
          exact r _ e3
      walk_at "nk"
      refine w_all (bs := ds.map isTwo) (SqL.of (by rw [hD, List.map_map]; rfl)) ?_
      walk_at "nk"
      have e12 := e1.tr e2
      refine ⟨_, rfl, w_both (fun c => ?_) fun c => ?_⟩
      · walk_at "nk"
        refine ⟨_, rfl, by decide, refuse ?_ e12⟩
        rw [wd]
        have z := pairsOf_all ds
        have n : (ds.map okPair).all id = false := by
          have c' := nt c
          rw [List.all_eq_false] at c' ⊢
          obtain ⟨b, hb, nb⟩ := c'
          obtain ⟨d', md, rfl⟩ := List.mem_map.mp hb
          exact ⟨okPair d', List.mem_map_of_mem md, by rw [okPair_two (by simpa using nb)]; simp⟩
        rw [n] at z
        cases e : pairsOf ds with
        | none => rfl
        | some l => rw [e] at z; cases z
      · have two := List.all_eq_true.mp (nf c)
        have hx2 : SqL K H2 a xs ∨ SqT K H2 a xs := hx.elim (fun z => .inl (e12.sqL z)) fun z => .inr (e12.sqT z)
        have dx2 : DqAll K H2 ds xs := DqAll.ext e12 ds xs dx
        have pair : ∀ (i : Nat) (di : PyData), ds[i]? = some di → ∃ p q, itemsD di = some [p, q] := fun i di hi => by
          have z : isTwo di = true := two _ (List.mem_map_of_mem (List.mem_of_getElem? hi))
          unfold isTwo at z
          split at z
          · rename_i p q e
            exact ⟨p, q, e⟩
          · cases z
        walk_at "nk"
        refine w_then ?_
        walk_at "nk"
        -- all are letters with numbers
        refine w_lcV (ds.map fun d => .bl (okPair d)) hx2 (by omega) (by rw [List.length_map, many]) (fun i x y hi hy H3 e3 R r N => ?_) fun D2 H3 nD2 e3 hD2 => ?_
        · obtain ⟨di, hdi, qi⟩ := dx2.at i hi
          rw [List.getElem?_map, hdi] at hy
          cases hy
          have r : ∀ H4, Ext H3 H4 → R (.bl (okPair di)) H4 := r
          obtain ⟨p, q, epq⟩ := pair i di hdi
          obtain ⟨b, zs, rfl, hz, dz⟩ := (Dq.ext e3 _ _ qi).seq epq
          have lz := dz.len
          match zs, lz, dz with
          | [z1, z2], _, dz =>
            unfold DqAll at dz
            obtain ⟨_, _, ee, k1, dz2⟩ := dz
            cases ee
            unfold DqAll at dz2
            obtain ⟨_, _, ee, k2, _⟩ := dz2
            cases ee
            have ldi := lay_at lays di (List.mem_of_getElem? hdi)
            have lpq := lay_items ldi epq
            simp only [PyData.canLayAll0, Bool.and_eq_true] at lpq
            refine w_gSeq hz rfl ?_
            walk_at "nk"
            refine ⟨rfl, w_yes (w_t ?_)⟩
            walk_at "nk"
            refine ⟨p, z1, rfl, k1, lpq.1, fun H4 e4 => ⟨_, rfl, w_both (fun c => ?_) fun c => ?_⟩⟩
            · walk_at "nk"
              obtain ⟨s2, a2, _, _⟩ := (Dq.ext e4 _ _ k2).anyV
              refine ⟨z2, s2, some 1, some 1000000000000, rfl, a2, fun H5 e5 => ?_⟩
              have z := okPair_is epq
              rw [c, Bool.true_and] at z
              rw [withD k2, ← z]
              exact r _ (e4.tr e5)
            · have z := okPair_is epq
              rw [c, Bool.false_and] at z
              rw [z] at r
              exact r _ e4
        walk_at "nk"
        refine w_all (bs := ds.map okPair) (SqL.of (by rw [hD2, List.map_map]; rfl)) ?_
        walk_at "nk"
        have e13 := e12.tr e3
        refine ⟨_, rfl, w_both (fun c => ?_) fun c => ?_⟩
        · walk_at "nk"
          refine ⟨_, rfl, by decide, refuse ?_ e13⟩
          rw [wd]
          have z := pairsOf_all ds
          rw [nt c] at z
          cases e : pairsOf ds with
          | none => rfl
          | some l => rw [e] at z; cases z
        · have z := pairsOf_all ds
          rw [nf c] at z
          obtain ⟨l, el⟩ := Option.isSome_iff_exists.mp z
          have hx3 : SqL K H3 a xs ∨ SqT K H3 a xs := hx.elim (fun z => .inl (e13.sqL z)) fun z => .inr (e13.sqT z)
          have dx3 : DqAll K H3 ds xs := DqAll.ext e13 ds xs dx
          walk_at "nk"
          refine w_lcR (fun D i y H4 => ∃ b d es zs, ds[i]? = some d ∧ itemsD d = some es ∧ y = .ref b ∧ ((∀ H', SqT K H' b zs) ∨ (b ≠ D ∧ SqT K H4 b zs)) ∧ DqAll K H es zs) (fun D i y H4 H5 b p => ?_) hx3 (by omega) (fun D i x hi H4 e4 hD R r N => ?_) fun D H4 ys nD e4 hD ly py => ?_
          · obtain ⟨p, d, es, zs, h1, h2, h3, h4, h6⟩ := p
            refine ⟨p, d, es, zs, h1, h2, h3, ?_, h6⟩
            rcases h4 with h4 | ⟨h4, h5⟩
            · exact .inl h4
            · refine .inr ⟨h4, ?_⟩
              rcases h5 with (h5 | ⟨o, h5⟩) | h5
              · exact .inl (.inl (b _ _ h4 h5))
              · exact .inl (.inr ⟨o, b _ _ h4 h5⟩)
              · exact .inr h5
          · obtain ⟨di, hdi, qi⟩ := dx.at i hi
            obtain ⟨p, q, epq⟩ := pair i di hdi
            obtain ⟨b, zs, rfl, hz, dz⟩ := qi.seq epq
            have e14 := e13.tr e4
            obtain ⟨z0, hD⟩ := hD
            walk_at "nk"
            refine ⟨rfl, w_yes (w_t ?_)⟩
            walk_at "nk"
            rcases hz with hz | hz
            · refine w_tupleL (e14.sqL hz) ?_
              intro c n_c
              generalize z_c : upd _ c _ = H5
              obtain ⟨e5, h5, m_c⟩ := newly n_c z_c
              clear z_c
              refine r _ _ e5 ⟨c, di, [p, q], zs, hdi, epq, rfl, .inr ⟨fun z => ?_, SqT.of h5⟩, dz⟩
              rw [z, hD] at n_c
              cases n_c
            · refine w_tupleT (e14.sqT hz) (r _ _ .rfl ⟨b, di, [p, q], zs, hdi, epq, rfl, ?_, dz⟩)
              rcases e14.sqT hz with (hb | ⟨o, hb⟩) | hb
              · exact .inr ⟨fun z => (by rw [z, hD] at hb; cases hb), .inl (.inl hb)⟩
              · exact .inr ⟨fun z => (by rw [z, hD] at hb; cases hb), .inl (.inr ⟨o, hb⟩)⟩
              · exact .inl fun _ => .inr hb
          · walk_at "nk"
            refine w_tupleL (SqL.of hD) ?_
            intro c n_c
            generalize z_c : upd _ c _ = H5
            obtain ⟨e5, h5, m_c⟩ := newly n_c z_c
            clear z_c
            refine yes l (by rw [wd, el]) c ys H5 ((e13.tr e4).tr e5) h5 ?_
            refine pairs_tup (H0 := H) ds l ys el (by rw [ly, many]) fun i y hy => ?_
            obtain ⟨b, d, es, zs, h1, h2, h3, h6, h7⟩ := py i y hy
            exact ⟨b, d, es, zs, h1, h2, h3, h6.elim (fun z => z _) fun z => e5.sqT z.2, h7⟩
theorem pairsOf_small : ∀ (ds : List PyData) (l : List (Bool × Int)), pairsOf ds = some l → l.length = ds.length ∧ ∀ x ∈ l, 1 ≤ x.2 ∧ x.2 ≤ 1000000000000
  | [], l, h => by cases h; exact ⟨rfl, fun x m => by cases m⟩
  | d :: ds, l, h => by
    unfold pairsOf at h
    cases e1 : pairOf d with
    | none => rw [e1] at h; cases h
    | some x =>
      cases e2 : pairsOf ds with
      | none => rw [e1, e2] at h; cases h
      | some l2 =>
        rw [e1, e2] at h
        cases h
        obtain ⟨k1, k2⟩ := pairsOf_small ds l2 e2
        refine ⟨by rw [List.length_cons, List.length_cons, k1], fun y m => ?_⟩
        rcases List.mem_cons.mp m with rfl | m
        · unfold pairOf at e1
          split at e1
          · split at e1
            · rename_i c
              cases e1
              simp only [Bool.and_eq_true, decide_eq_true_eq] at c
              exact ⟨c.1.2, c.2⟩
            · cases e1
          · cases e1
        · exact k2 y m
theorem wordD_small {d : PyData} {l : List (Bool × Int)} (h : wordD d = some l) : smallT l := by
  unfold wordD at h
  split at h
  · split at h
    · rename_i c
      obtain ⟨k1, k2⟩ := pairsOf_small _ _ h
      exact ⟨by omega, k2⟩
    · cases h
  · cases h
end
end NK

namespace NK
open PySem PySem.Spec L2
section
variable {K : PySem.W.Frag} {C : CA}
theorem max_two (a b : Int) : [b].foldl max a = max a b := rfl
theorem pure_ways_of (vs : List V) (H : Hp) (Q : VK) (E : XK) (h : sp_ways_of K C vs H Q E) : vs.length = 1 ∧ t_ways_of K C E { nx := fun _ H' => Q .non H', rt := Q } (start N_ways_of vs) H := by
  obtain ⟨d, v, rfl, hd, lay, few_, no, yes⟩ := h
  refine ⟨rfl, ?_⟩
  unfold t_ways_of
  walk_at "nk"
  refine ⟨d, v, rfl, hd, lay, few_, fun z => no z, fun l el a xs H1 e1 h1 px => ?_⟩
  obtain ⟨gr, ok⟩ := yes l el
  walk_at "nk"
  refine ⟨a, xs, l, rfl, .inr (SqT.of h1), px, wordD_small el, fun r H2 e2 wr => ?_⟩
  have wr0 := wr
  obtain ⟨b, ys, rfl, hb, tw⟩ := wr
  walk_at "nk"
  refine w_then ?_
  walk_at "nk"
  refine w_lcV [.int (max (apf l (1, 0)).1 (apf l (1, 0)).2), .int (max (apf l (0, 1)).1 (apf l (0, 1)).2)] (.inr (SqT.of hb)) (by rw [tw.len]; show 2 ≤ 100000; decide) (by rw [tw.len]; rfl) (fun i x y hi hy H3 e3 R r N => ?_) fun D H3 nD e3 hD => ?_
  · obtain ⟨p, z, hz, rfl, hp⟩ := tw.at i hi
    have hz2 : y = .int (max z.1 z.2) := by
      match i, hz, hy with
      | 0, hz, hy => cases hz; cases hy; rfl
      | 1, hz, hy => cases hz; cases hy; rfl
      | n + 2, hz, hy => simp at hz
    subst hz2
    walk_at "nk"
    refine ⟨rfl, w_yes (w_t ?_)⟩
    walk_at "nk"
    exact w_maxS (n := z.1) (ns := [z.2]) (.inr (SqT.of (e3 _ _ hp))) (r _ .rfl)
  · walk_at "nk"
    refine w_maxS (n := max (apf l (1, 0)).1 (apf l (1, 0)).2) (ns := [max (apf l (0, 1)).1 (apf l (0, 1)).2]) (.inl (SqL.of hD)) ?_
    rw [max_two]
    walk_at "nk"
    refine ⟨_, rfl, w_both (fun c => ?_) fun c => ?_⟩
    · walk_at "nk"
      refine ⟨_, rfl, by decide, fun d n => refuse_xd (gr c) ((e1.tr e2).tr e3) n⟩
    · walk_at "nk"
      refine ok c _ H3 ((e1.tr e2).tr e3) ⟨b, ys, rfl, e3 _ _ hb, tw.ext e3⟩
end
end NK

namespace NK
open PySem PySem.Spec L2
section
variable {K : PySem.W.Frag} {C : CA}
/-- isinstance of None -/
theorem w_isNone {H : Hp} {Q : VK} {X : Addr} (z : PySem.W.kitOne K (.type "NoneType") (.ref X) = some false) (q : Q (.bl false) H) : rIsE K [.non, .ref X] H Q := .inl ⟨.non, .ref X, .type "NoneType", .ref X, false, rfl, .own _, .base .non, z, q⟩
theorem w_isK {H : Hp} {Q : VK} {a D X : Addr} {fs : List (Str × V)} {b : Bool} (k : Kept H a D fs) (x : ExcC K D) (z : PySem.W.kitOne K (.ref D) (.ref X) = some b) (q : Q (.bl b) H) : rIsE K [.ref a, .ref X] H Q := .inr ⟨a, D, X, fs, b, rfl, k, x, z, q⟩
theorem Kept.ext {H H' : Hp} {a D : Addr} {fs : List (Str × V)} (x : Ext H H') (k : Kept H a D fs) : Kept H' a D fs := by
  obtain ⟨dd, h1, h2⟩ := k
  exact ⟨dd, x _ _ h1, x _ _ h2⟩
/-- what is caught: nothing, or an error of a class that answers isinstance so -/
def Caught (K : PySem.W.Frag) (C : CA) (v : V) (b1 b2 b3 : Bool) (w : Str) (H : Hp) : Prop := (v = .non ∧ b1 = false ∧ b2 = false ∧ b3 = false) ∨
  ∃ a D, v = .ref a ∧ Kept H a D [(("part" : Str), .str w)] ∧ ExcC K D ∧ PySem.W.findIn K (.ref D) "part" = some none ∧ PySem.W.kitOne K (.ref D) (.ref C.TooMany) = some false ∧
    PySem.W.kitOne K (.ref D) (.ref C.BadWay) = some b1 ∧ PySem.W.kitOne K (.ref D) (.ref C.BadWord) = some b2 ∧ PySem.W.kitOne K (.ref D) (.ref C.Misfit) = some b3 ∧ ((b1 = true ∧ b2 = false ∧ b3 = false) ∨ (b1 = false ∧ b2 = true ∧ b3 = false) ∨ (b1 = false ∧ b2 = false ∧ b3 = true))
theorem Caught.ext {v : V} {b1 b2 b3 : Bool} {w : Str} {H H' : Hp} (x : Ext H H') (c : Caught K C v b1 b2 b3 w H) : Caught K C v b1 b2 b3 w H' := by
  rcases c with c | ⟨a, D, h1, h2, h3⟩
  · exact .inl c
  · exact .inr ⟨a, D, h1, h2.ext x, h3⟩
theorem Caught.tm (cl : Cls K C) {v : V} {b1 b2 b3 : Bool} {w : Str} {H : Hp} {Q : VK} (c : Caught K C v b1 b2 b3 w H) (q : Q (.bl false) H) : rIsE K [v, .ref C.TooMany] H Q := by
  rcases c with ⟨rfl, _⟩ | ⟨a, D, rfl, h2, h3, h4, h5, _⟩
  · exact w_isNone cl.z_TooMany q
  · exact w_isK h2 h3 h5 q
theorem Caught.c1 (cl : Cls K C) {v : V} {b1 b2 b3 : Bool} {w : Str} {H : Hp} {Q : VK} (c : Caught K C v b1 b2 b3 w H) (q : Q (.bl b1) H) : rIsE K [v, .ref C.BadWay] H Q := by
  rcases c with ⟨rfl, e, _⟩ | ⟨a, D, rfl, h2, h3, h4, h5, h6, _⟩
  · rw [e] at q; exact w_isNone cl.z_BadWay q
  · exact w_isK h2 h3 h6 q
theorem Caught.c2 (cl : Cls K C) {v : V} {b1 b2 b3 : Bool} {w : Str} {H : Hp} {Q : VK} (c : Caught K C v b1 b2 b3 w H) (q : Q (.bl b2) H) : rIsE K [v, .ref C.BadWord] H Q := by
  rcases c with ⟨rfl, _, e, _⟩ | ⟨a, D, rfl, h2, h3, h4, h5, h6, h7, _⟩
  · rw [e] at q; exact w_isNone cl.z_BadWord q
  · exact w_isK h2 h3 h7 q
theorem Caught.c3 (cl : Cls K C) {v : V} {b1 b2 b3 : Bool} {w : Str} {H : Hp} {Q : VK} (c : Caught K C v b1 b2 b3 w H) (q : Q (.bl b3) H) : rIsE K [v, .ref C.Misfit] H Q := by
  rcases c with ⟨rfl, _, _, e⟩ | ⟨a, D, rfl, h2, h3, h4, h5, h6, h7, h8, _⟩
  · rw [e] at q; exact w_isNone cl.z_Misfit q
  · exact w_isK h2 h3 h8 q
def kindsOf (b1 b2 b3 : Bool) : List (Option V) := [if b1 = true then some (.str "way") else none, if b2 = true then some (.str "word") else none, if b3 = true then some (.str "misfit") else none]
theorem pure_law_heard (cl : Cls K C) (f c' : Addr) (q : Str) (tl : XK → Hp → VK → Prop) (H : Hp) (Q : VK) (hc : H c' = some (LamX.CodeO c' q)) (h : TT_law_heard K C tl H Q) : t_law_heard K C f c' q tl { nx := fun _ H' => Q .non H', rt := Q } (start N_law_heard [.ref f]) H := by
  unfold t_law_heard
  walk_at "nk"
  refine w_mid (fun σ' H' => ∃ v b1 b2 b3 w, σ' = [some (.ref f), some v, none, none, none, none, none] ∧ Caught K C v b1 b2 b3 w H' ∧ (v = .non → ∀ H2, Ext H' H2 → Q .non H2) ∧
    (∀ n H2 p, v ≠ .non → (kindsOf b1 b2 b3).filterMap id = [.str n] → Ext H' H2 → H2 p = some (.tup [.str n, .str w]) → Q (.ref p) H2)) ?_ ?_
  · walk_at "nk"
    refine ⟨rfl, hc, _, fun cls d H1 e => e, ?_⟩
    refine h _ _ (fun cls d H1 t => ?_) fun v H1 k => ?_
    · obtain ⟨D, dd, w, rfl, rfl, hdd, n, cases_, k⟩ := t
      refine ⟨true, ?_, fun _ a ha => ?_, (fun z => nomatch z)⟩
      · rcases cases_ with ⟨rfl, _⟩ | ⟨rfl, _⟩ | ⟨rfl, _⟩
        · exact cl.m_BadWay
        · exact cl.m_BadWord
        · exact cl.m_Misfit
      · have ex : Ext H1 (upd H1 a (ExK (.ref D) (some dd) a)) := .put ha
        have kp : Kept (upd H1 a (ExK (.ref D) (some dd) a)) a D [(("part" : Str), .str w)] := ⟨dd, upd_same, ex _ _ hdd⟩
        rcases cases_ with ⟨rfl, rfl⟩ | ⟨rfl, rfl⟩ | ⟨rfl, rfl⟩
        · exact ⟨.ref a, true, false, false, w, rfl, .inr ⟨a, _, rfl, kp, cl.x_BadWay, cl.p_BadWay, cl.k_BadWay_TooMany, cl.k_BadWay_BadWay, cl.k_BadWay_BadWord, cl.k_BadWay_Misfit, .inl ⟨rfl, rfl, rfl⟩⟩, (fun z => nomatch z), fun n H2 p _ e x hp => by cases e; exact k H2 p (ex.tr x) hp⟩
        · exact ⟨.ref a, false, true, false, w, rfl, .inr ⟨a, _, rfl, kp, cl.x_BadWord, cl.p_BadWord, cl.k_BadWord_TooMany, cl.k_BadWord_BadWay, cl.k_BadWord_BadWord, cl.k_BadWord_Misfit, .inr (.inl ⟨rfl, rfl, rfl⟩)⟩, (fun z => nomatch z), fun n H2 p _ e x hp => by cases e; exact k H2 p (ex.tr x) hp⟩
        · exact ⟨.ref a, false, false, true, w, rfl, .inr ⟨a, _, rfl, kp, cl.x_Misfit, cl.p_Misfit, cl.k_Misfit_TooMany, cl.k_Misfit_BadWay, cl.k_Misfit_BadWord, cl.k_Misfit_Misfit, .inr (.inr ⟨rfl, rfl, rfl⟩)⟩, (fun z => nomatch z), fun n H2 p _ e x hp => by cases e; exact k H2 p (ex.tr x) hp⟩
    · exact ⟨.non, false, false, false, "", rfl, .inl ⟨rfl, rfl, rfl, rfl⟩, fun _ H2 x => k H2 x, fun n H2 p z => absurd rfl z⟩
  · rintro _ H1 ⟨v, b1, b2, b3, w, rfl, ct, kn, ke⟩
    refine w_then ?_
    walk_at "nk"
    refine ct.tm cl ⟨_, rfl, w_f ?_⟩
    walk_at "nk"
    refine ct.c1 cl ?_
    walk_at "nk"
    refine ⟨sm (by simp), ?_⟩
    intro p1 n_p1
    generalize z_p1 : upd _ p1 _ = H2
    obtain ⟨e2, h2, m_p1⟩ := newly n_p1 z_p1
    clear z_p1
    walk_at "nk"
    refine (ct.ext e2).c2 cl ?_
    walk_at "nk"
    refine ⟨sm (by simp), ?_⟩
    intro p2 n_p2
    generalize z_p2 : upd _ p2 _ = H3
    obtain ⟨e3, h3, m_p2⟩ := newly n_p2 z_p2
    clear z_p2
    walk_at "nk"
    refine (ct.ext (e2.tr e3)).c3 cl ?_
    walk_at "nk"
    refine ⟨sm (by simp), ?_⟩
    intro p3 n_p3
    generalize z_p3 : upd _ p3 _ = H4
    obtain ⟨e4, h4, m_p3⟩ := newly n_p3 z_p3
    clear z_p3
    walk_at "nk"
    refine ⟨sm (by simp), ?_⟩
    intro pk n_pk
    generalize z_pk : upd _ pk _ = H5
    obtain ⟨e5, h5, m_pk⟩ := newly n_pk z_pk
    clear z_pk
    have e15 := ((e2.tr e3).tr e4).tr e5
    have k2 : H5 p1 = _ := e5 _ _ (e4 _ _ (e3 _ _ h2))
    have k3 : H5 p2 = _ := e5 _ _ (e4 _ _ h3)
    have k4 : H5 p3 = _ := e5 _ _ h4
    walk_at "nk"
    refine w_lcG (kindsOf b1 b2 b3) (.inl (SqL.of h5)) (by show 3 ≤ 100000; decide) rfl (fun i x o hi ho H6 e6 R N r n => ?_) fun D H6 nD e6 hD => ?_
    · have key : ∀ (p : Addr) (s : Str) (b : Bool), H5 p = some (.tup [.str s, .bl b]) → x = .ref p → o = (if b = true then some (.str s) else none) →
        gTup K 2 (gCons (gName 5) (gCons (gName 6) gNil)) x (wipe [some (.ref f), some v, none, some (.ref pk), none, none, none] [5, 6]) H6 fun σ2 H2 => wipe σ2 [5, 6] = wipe [some (.ref f), some v, none, some (.ref pk), none, none, none] [5, 6] ∧ tB (tVar 6) σ2 H2 fun b H3 => if b = true then tVar 5 σ2 H3 R else N H3 := fun p s b hp ex eo => by
        subst ex
        refine w_gTup (SqT.of (e6 _ _ hp)) rfl ?_
        walk_at "nk"
        refine ⟨rfl, ?_⟩
        walk_at "nk"
        refine ⟨_, rfl, w_both (fun c => ?_) fun c => ?_⟩
        · walk_at "nk"
          exact r _ (by rw [eo, if_pos c]) _ .rfl
        · exact n (by rw [eo, if_neg (by rw [c]; exact Bool.false_ne_true)]) _ .rfl
      match i, hi, ho with
      | 0, hi, ho => cases hi; cases ho; exact key p1 "way" b1 k2 rfl rfl
      | 1, hi, ho => cases hi; cases ho; exact key p2 "word" b2 k3 rfl rfl
      | 2, hi, ho => cases hi; cases ho; exact key p3 "misfit" b3 k4 rfl rfl
      | j + 3, hi, ho => simp at hi
    · have ct6 := ct.ext (e15.tr e6)
      walk_at "nk"
      refine w_then ?_
      walk_at "nk"
      refine w_len (.inl (SqL.of hD)) ?_
      walk_at "nk"
      refine ⟨_, rfl, ?_⟩
      rcases ct6 with ⟨rfl, rfl, rfl, rfl⟩ | ⟨a, D2, rfl, kp, xc, pc, _, _, _, _, bs⟩
      · refine w_both (fun c => by cases (show decide ((0 : Int) = 1) = true from c)) fun _ => ?_
        walk_at "nk"
        refine ⟨_, rfl, w_both (fun _ => ?_) fun c => by simp at c⟩
        walk_at "nk"
        exact kn rfl _ (e15.tr e6)
      · obtain ⟨n, en⟩ : ∃ n, (kindsOf b1 b2 b3).filterMap id = [.str n] := by
          rcases bs with ⟨rfl, rfl, rfl⟩ | ⟨rfl, rfl, rfl⟩ | ⟨rfl, rfl, rfl⟩ <;> exact ⟨_, rfl⟩
        rw [en] at hD ⊢
        refine w_both (fun _ => ?_) fun c => by cases (show decide ((1 : Int) = 1) = false from c)
        walk_at "nk"
        refine w_ixL (SqL.of hD) (show atI [V.str n] 0 = some (.str n) from rfl) ?_
        walk_at "nk"
        refine ⟨a, D2, _, .str w, rfl, kp, xc, pc, rfl, ?_⟩
        walk_at "nk"
        refine ⟨sm (by simp), ?_⟩
        intro p n_p
        generalize z_p : upd _ p _ = H7
        obtain ⟨e7, h7, m_p⟩ := newly n_p z_p
        clear z_p
        exact ke n H7 p (fun z => nomatch z) en ((e15.tr e6).tr e7) h7
end
end NK

namespace NK
open PySem PySem.Spec L2
section
variable {K : PySem.W.Frag} {C : CA}
/-- the loop of _law_due -/
def WDue (K : PySem.W.Frag) (H0 : Hp) (l : Addr) (v0 : V) (p0 q0 : Nat) (m : Nat) (σ : L2.St) (H : Hp) : Prop := ∃ (p q : Nat) (xs : List V) (done : List (Bool × Int)) (o1 o2 : Option V), σ = [some v0, some (.ref l), some (.int (p : Int)), some (.int (q : Int)), o1, o2] ∧ Ext H0 H ∧ H l = some (.lst xs) ∧ Pairs K H xs done ∧
  done ++ wordOf p q = wordOf p0 q0 ∧ endOf p q = endOf p0 q0 ∧ m = p + q ∧ p ≤ 1000000000000 ∧ q ≤ 1000000000000
theorem eqv_ints (a b c d : Int) : PyData.eqv (.tuple [.int a, .int b]) (.tuple [.int c, .int d]) = (decide (a = c) && decide (b = d)) := by
  simp [PyData.eqv, PyData.eqvAll]
  rfl
theorem shaped_two (a b : Int) : SeqAt.shaped (.tuple [.int a, .int b]) = true := rfl
theorem pure_law_due (vs : List V) (H : Hp) (Q : VK) (E : XK) (h : sp_law_due K C vs H Q E) : vs.length = 1 ∧ t_law_due K C { nx := fun _ H' => Q .non H', rt := Q } (start N_law_due vs) H := by
  obtain ⟨a, p0, q0, rfl, ha, ok, k⟩ := h
  refine ⟨rfl, ?_⟩
  unfold t_law_due
  walk_at "nk"
  refine ⟨sm (by simp), ?_⟩
  intro l n_l
  generalize z_l : upd _ l _ = H1
  obtain ⟨e1, h1, m_l⟩ := newly n_l z_l
  clear z_l
  walk_at "nk"
  refine ⟨sm (by simp), ?_⟩
  intro t0 n_t0
  generalize z_t0 : upd _ t0 _ = H2
  obtain ⟨e2, h2, m_t0⟩ := newly n_t0 z_t0
  clear z_t0
  refine w_tupG h2 rfl ?_
  walk_at "nk"
  refine w_gTup ((e1.tr e2).sqT ha) rfl ?_
  walk_at "nk"
  refine w_then ?_
  have e12 := e1.tr e2
  refine ⟨WDue K H l (.ref a) p0 q0, ⟨_, p0, q0, [], [], none, none, rfl, e12, e2 _ _ h1, trivial, rfl, rfl, rfl, ok.1, ok.2.1⟩, ?_⟩
  rintro m σ H2 ⟨p, q, xs, done, o1, o2, rfl, e2, hl, hp, hd, he, hm, hp1, hq1⟩
  have n_l0 : H l = none := n_l
  have fin : ¬ (0 < p ∧ 0 < q) → (tRet (tTup (tCons (tCB (cTuple K) (tCons (tVar 1) tNil)) (tCons (tIf (tTest (tOp (rEqD K) (tTup (tCons (tVar 2) (tCons (tVar 3) tNil))) (tTup (tCons (tC (.int 1)) (tCons (tC (.int 0)) tNil))))) (tC (.str "east")) (tC (.str "north"))) tNil)))) { nx := fun _ H' => Q .non H', rt := Q } [some (.ref a), some (.ref l), some (.int (p : Int)), some (.int (q : Int)), o1, o2] H2 := fun z => by
    have zz := steps_z z
    rw [zz.1, List.append_nil] at hd
    rw [zz.2] at he
    have es := end_is p0 q0 ok.2.2
    rw [← he] at es
    walk_at "nk"
    refine w_tupleL (SqL.of hl) ?_
    intro w n_w
    generalize z_w : upd _ w _ = H3
    obtain ⟨e3, h3, m_w⟩ := newly n_w z_w
    clear z_w
    walk_at "nk"
    refine ⟨sm (by simp), ?_⟩
    intro t1 n_t1
    generalize z_t1 : upd _ t1 _ = H4
    obtain ⟨e4, h4, m_t1⟩ := newly n_t1 z_t1
    clear z_t1
    walk_at "nk"
    refine ⟨sm (by simp), ?_⟩
    intro t2 n_t2
    generalize z_t2 : upd _ t2 _ = H5
    obtain ⟨e5, h5, m_t2⟩ := newly n_t2 z_t2
    clear z_t2
    refine w_eqD (.tup (SqT.of (e5 _ _ h4)) (.cons (.int _) (.cons (.int _) .nil))) (.tup (SqT.of h5) (.cons (.int _) (.cons (.int _) .nil))) (shaped_two _ _) (shaped_two _ _) ?_
    rw [eqv_ints]
    refine ⟨_, rfl, w_both (fun y => ?_) fun y => ?_⟩
    all_goals
      walk_at "nk"
      refine ⟨sm (by simp), ?_⟩
      intro r n_r
      generalize z_r : upd _ r _ = H6
      obtain ⟨e6, h6, m_r⟩ := newly n_r z_r
      clear z_r
      refine k _ H6 ((((e2.tr e3).tr e4).tr e5).tr e6) ⟨r, w, xs, rfl, ?_, e6 _ _ (e5 _ _ (e4 _ _ h3)), ?_⟩
    · have y2 : q = 0 := by
        simp only [Bool.and_eq_true, decide_eq_true_eq] at y
        omega
      rw [h6, ← he, if_pos y2]
    · rw [← hd]
      exact hp.ext (((e3.tr e4).tr e5).tr e6)
    · have y2 : ¬ q = 0 := fun z0 => by
        rcases es with es | es
        · cases es
          simp at y
        · cases es
          cases z0
      rw [h6, ← he, if_neg y2]
    · rw [← hd]
      exact hp.ext (((e3.tr e4).tr e5).tr e6)
  refine w_and ?_
  walk_at "nk"
  refine ⟨_, rfl, w_both (fun c1 => ?_) fun c1 => ?_⟩
  · walk_at "nk"
    refine ⟨_, rfl, w_both (fun c2 => ?_) fun c2 => ?_⟩
    · have hp0 : 0 < p := by have : (0 : Int) < p := of_decide_eq_true c1; omega
      have hq0 : 0 < q := by have : (0 : Int) < q := of_decide_eq_true c2; omega
      refine ⟨fun σ' H' => ∃ m', m' < m ∧ WDue K H l (.ref a) p0 q0 m' σ' H', fun σ' H' z => z, ?_⟩
      have small : xs.length ≤ 1000000 := by
        have z := congrArg List.length hd
        rw [List.length_append] at z
        have := okW_len ok
        rw [hp.len]
        omega
      walk_at "nk"
      refine ⟨_, rfl, w_both (fun c3 => ?_) fun c3 => ?_⟩
      · have h3 : q ≤ p := by have : (q : Int) ≤ p := of_decide_eq_true c3; omega
        have st := steps_a hq0 h3
        walk_at "nk"
        refine w_div (div_fits hq0 hq1) ?_
        walk_at "nk"
        refine ⟨sm (by simp), ?_⟩
        intro t n_t
        generalize z_t : upd _ t _ = H3
        obtain ⟨e3, h4, m_t⟩ := newly n_t z_t
        clear z_t
        refine w_tupG h4 rfl ?_
        walk_at "nk"
        refine ⟨tyL (SqL.of (e3 _ _ hl)), ?_⟩
        walk_at "nk"
        refine ⟨sm (by simp), ?_⟩
        intro u n_u
        generalize z_u : upd _ u _ = H4
        obtain ⟨e4, h5, m_u⟩ := newly n_u z_u
        clear z_u
        walk_at "nk"
        have e34 := e3.tr e4
        refine w_app (e34 _ _ hl) small ?_
        walk_at "nk"
        refine w_eqS ⟨true, congrArg V.bl (by decide), w_t ?_⟩
        walk_at "nk"
        refine w_mul (mul_fits (by rw [ediv_nat]; exact Int.natCast_nonneg _) (by rw [ediv_nat]; have := Nat.div_le_self p q; omega)) ?_
        walk_at "nk"
        rw [ediv_nat, sub_div]
        have lt : p % q < q := Nat.mod_lt p hq0
        generalize zU : upd H4 l _ = H5
        have hl5 : H5 l = some (.lst (xs ++ [.ref u])) := by rw [← zU]; exact upd_same
        have ex5 : Ext H H5 := by rw [← zU]; exact (e2.tr e34).mut n_l0
        have pr5 : Pairs K H5 (xs ++ [.ref u]) (done ++ [(true, ((p / q : Nat) : Int))]) := by
          rw [← zU]
          refine Pairs.snoc (SqT.of ?_) ((hp.ext e34).mut (e34 _ _ hl))
          rw [upd_ne (fun z => by rw [z, e34 _ _ hl] at h5; cases h5), h5]
          rfl
        refine ⟨sm (by simp), ?_⟩
        intro w n_w
        generalize z_w : upd _ w _ = H6
        obtain ⟨e6, h6, m_w⟩ := newly n_w z_w
        clear z_w
        refine w_tupG h6 rfl ?_
        walk_at "nk"
        refine ⟨p % q + q, by omega, p % q, q, xs ++ [.ref u], done ++ [(true, ((p / q : Nat) : Int))], _, _, rfl, ex5.tr e6, e6 _ _ hl5, pr5.ext e6, ?_, ?_, rfl, by omega, hq1⟩
        · rw [List.append_assoc]
          show done ++ ((true, ((p / q : Nat) : Int)) :: wordOf (p % q) q) = _
          rw [← st.1, hd]
        · rw [← st.2, he]
      · have h3 : ¬ q ≤ p := by have : ¬ (q : Int) ≤ p := of_decide_eq_false c3; omega
        have st := steps_b hp0 h3
        walk_at "nk"
        refine w_div (div_fits hp0 hp1) ?_
        walk_at "nk"
        refine ⟨sm (by simp), ?_⟩
        intro t n_t
        generalize z_t : upd _ t _ = H3
        obtain ⟨e3, h4, m_t⟩ := newly n_t z_t
        clear z_t
        refine w_tupG h4 rfl ?_
        walk_at "nk"
        refine ⟨tyL (SqL.of (e3 _ _ hl)), ?_⟩
        walk_at "nk"
        refine ⟨sm (by simp), ?_⟩
        intro u n_u
        generalize z_u : upd _ u _ = H4
        obtain ⟨e4, h5, m_u⟩ := newly n_u z_u
        clear z_u
        walk_at "nk"
        have e34 := e3.tr e4
        refine w_app (e34 _ _ hl) small ?_
        walk_at "nk"
        refine w_eqS ⟨false, congrArg V.bl (by decide), w_f ?_⟩
        walk_at "nk"
        refine w_mul (mul_fits (by rw [ediv_nat]; exact Int.natCast_nonneg _) (by rw [ediv_nat]; have := Nat.div_le_self q p; omega)) ?_
        walk_at "nk"
        rw [ediv_nat, sub_div]
        have lt : q % p < p := Nat.mod_lt q hp0
        generalize zU : upd H4 l _ = H5
        have hl5 : H5 l = some (.lst (xs ++ [.ref u])) := by rw [← zU]; exact upd_same
        have ex5 : Ext H H5 := by rw [← zU]; exact (e2.tr e34).mut n_l0
        have pr5 : Pairs K H5 (xs ++ [.ref u]) (done ++ [(false, ((q / p : Nat) : Int))]) := by
          rw [← zU]
          refine Pairs.snoc (SqT.of ?_) ((hp.ext e34).mut (e34 _ _ hl))
          rw [upd_ne (fun z => by rw [z, e34 _ _ hl] at h5; cases h5), h5]
          rfl
        refine ⟨sm (by simp), ?_⟩
        intro w n_w
        generalize z_w : upd _ w _ = H6
        obtain ⟨e6, h6, m_w⟩ := newly n_w z_w
        clear z_w
        refine w_tupG h6 rfl ?_
        walk_at "nk"
        refine ⟨p + q % p, by omega, p, q % p, xs ++ [.ref u], done ++ [(false, ((q / p : Nat) : Int))], _, _, rfl, ex5.tr e6, e6 _ _ hl5, pr5.ext e6, ?_, ?_, rfl, hp1, by omega⟩
        · rw [List.append_assoc]
          show done ++ ((false, ((q / p : Nat) : Int)) :: wordOf p (q % p)) = _
          rw [← st.1, hd]
        · rw [← st.2, he]
    · exact (fin fun z => absurd c2 (by rw [decide_eq_true (show (0 : Int) < q by have := z.2; omega)]; exact fun z => nomatch z))
  · refine w_f ?_
    exact (fin fun z => absurd c1 (by rw [decide_eq_true (show (0 : Int) < p by have := z.1; omega)]; exact fun z => nomatch z))
end
end NK

namespace NK
open PySem PySem.Spec L2
section
variable {K : PySem.W.Frag} {C : CA}
theorem led_snoc (l : List (Bool × Int)) (x : Bool × Int) (v : Int × Int) : led (l ++ [x]) v = un x (led l v) := by unfold led; rw [List.foldl_append]; rfl
theorem led_take {l : List (Bool × Int)} {i : Nat} {x : Bool × Int} (h : l[i]? = some x) (v : Int × Int) : led (l.take (i + 1)) v = un x (led (l.take i) v) := by
  rw [List.take_add_one, h]
  exact led_snoc _ _ _
theorem pure_law_led (vs : List V) (H : Hp) (Q : VK) (E : XK) (h : sp_law_led K C vs H Q E) : vs.length = 2 ∧ t_law_led K C { nx := fun _ H' => Q .non H', rt := Q } (start N_law_led vs) H := by
  obtain ⟨a, b, p, q, xs, l, rfl, ha, hb, hp, sz, k⟩ := h
  refine ⟨rfl, ?_⟩
  unfold t_law_led
  walk_at "nk"
  refine w_gTup ha rfl ?_
  walk_at "nk"
  refine w_mid (fun σ' H' => ∃ (o1 o2 : Option V), σ' = [some (.ref a), some (.ref b), some (.int (led l (p, q)).1), some (.int (led l (p, q)).2), o1, o2] ∧ Ext H H') ?_ ?_
  · refine w_forSeq hb (fun R r => w_var rfl r) (fun i σ' H' => Ext H H' ∧ ∃ (o1 o2 : Option V), σ' = [some (.ref a), some (.ref b), some (.int (led (l.take i) (p, q)).1), some (.int (led (l.take i) (p, q)).2), o1, o2]) ⟨.rfl, none, none, rfl⟩ (fun i σ' H' z => z.1) (fun i x σ' H' hi z => ?_) (fun σ' H' z => ?_)
    · obtain ⟨e1, o1, o2, rfl⟩ := z
      obtain ⟨t, y, hy, rfl, ht⟩ := hp.at i hi
      refine w_gTup (e1.sqT ht) rfl ?_
      walk_at "nk"
      refine w_eqS ⟨_, rfl, w_both (fun c => ?_) fun c => ?_⟩
      · rw [ltr_a] at c
        walk_at "nk"
        refine w_mul (smallT_mul sz (List.mem_of_getElem? hy) _) ?_
        walk_at "nk"
        refine ⟨sm (by simp), ?_⟩
        intro u n_u
        generalize z_u : upd _ u _ = H2
        obtain ⟨e2, h2, m_u⟩ := newly n_u z_u
        clear z_u
        refine w_tupG h2 rfl ?_
        walk_at "nk"
        have r := led_take hy (p, q)
        rw [un, if_pos c] at r
        exact ⟨e1.tr e2, _, _, by rw [r]⟩
      · rw [ltr_a] at c
        walk_at "nk"
        refine w_mul (smallT_mul sz (List.mem_of_getElem? hy) _) ?_
        walk_at "nk"
        refine ⟨sm (by simp), ?_⟩
        intro u n_u
        generalize z_u : upd _ u _ = H2
        obtain ⟨e2, h2, m_u⟩ := newly n_u z_u
        clear z_u
        refine w_tupG h2 rfl ?_
        walk_at "nk"
        have r := led_take hy (p, q)
        rw [un, if_neg (by rw [c]; exact Bool.false_ne_true)] at r
        exact ⟨e1.tr e2, _, _, by rw [r]⟩
    · obtain ⟨e1, o1, o2, rfl⟩ := z
      refine ⟨o1, o2, ?_, e1⟩
      rw [hp.len, List.take_length]
  · rintro _ H1 ⟨o1, o2, rfl, e1⟩
    walk_at "nk"
    refine ⟨sm (by simp), ?_⟩
    intro r n_r
    generalize z_r : upd _ r _ = H2
    obtain ⟨e2, h2, m_r⟩ := newly n_r z_r
    clear z_r
    exact k r H2 (e1.tr e2) h2
end
end NK

namespace NK
open PySem PySem.Spec L2
section
variable {K : PySem.W.Frag} {C : CA}
theorem gcd_div (p q : Nat) (g : 0 < Nat.gcd p q) : Nat.gcd (p / Nat.gcd p q) (q / Nat.gcd p q) = 1 := by rw [Nat.gcd_div (Nat.gcd_dvd_left p q) (Nat.gcd_dvd_right p q), Nat.div_self g]
theorem okW_div {p q : Nat} (h1 : p ≤ 1000000000000) (h2 : q ≤ 1000000000000) (g : 0 < Nat.gcd p q) : okWay (p / Nat.gcd p q) (q / Nat.gcd p q) := ⟨Nat.le_trans (Nat.div_le_self _ _) h1, Nat.le_trans (Nat.div_le_self _ _) h2, gcd_div p q g⟩
theorem okW_swap {p q : Nat} (h : okWay p q) : okWay q p := ⟨h.2.1, h.1, by rw [Nat.gcd_comm]; exact h.2.2⟩
/-- the loop of _law_way -/
def WGcd (L : Addr) (H0 : Hp) (n : Nat) (x1 x2 x3 : Option V) (p q : Nat) (m : Nat) (σ : L2.St) (H : Hp) : Prop := ∃ a b : Nat, σ = [some (.ref L), x1, x2, x3, some (.int (p : Int)), some (.int (q : Int)), some (.int (a : Int)), some (.int (b : Int))] ∧ H0 = H ∧ Nat.gcd a b = Nat.gcd p q ∧ m = b
theorem pure_law_way (vs : List V) (H : Hp) (Q : VK) (E : XK) (h : sp_law_way K C vs H Q E) : vs.length = 1 ∧ t_law_way K C { nx := fun _ H' => Q .non H', rt := Q } (start N_law_way vs) H := by
  obtain ⟨L, n, rfl, lan, hn, k⟩ := h
  refine ⟨rfl, ?_⟩
  unfold t_law_way
  walk_at "nk"
  refine ⟨L, n, 5, rfl, lan, by omega, by decide, by decide, fun v H1 v0 v1 a1 l1 => ?_⟩
  walk_at "nk"
  refine w_mid (fun σ' H' => ∃ (x1 x2 x3 : Option V) (p q m : Nat), σ' = [some (.ref L), x1, x2, x3, some (.int (p : Int)), some (.int (q : Int)), none, none] ∧ p ≤ 1000000000000 ∧ q ≤ 1000000000000 ∧ Adv L H H' ∧ m ≤ n + 50 ∧ Lan H' L m) ?_ ?_
  · walk_at "nk"
    refine ⟨_, rfl, w_both (fun c => ?_) fun c => ?_⟩
    · walk_at "nk"
      refine ⟨sm (by simp), ?_⟩
      intro t n_t
      generalize z_t : upd _ t _ = H2
      obtain ⟨e2, h2, m_t⟩ := newly n_t z_t
      clear z_t
      refine w_tupG h2 rfl ?_
      walk_at "nk"
      refine w_forPage rfl (l1.ext e2) (by omega) (by decide) (by decide) fun r H3 r1 a3 l3 => ⟨fun i σ' H' => H3 = H' ∧ ∃ (x1 x2 x3 : Option V) (p q : Nat), σ' = [some (.ref L), x1, x2, x3, some (.int (p : Int)), some (.int (q : Int)), none, none] ∧ p ≤ 2 ^ i ∧ q ≤ 2 ^ i, ⟨rfl, _, _, _, 1, 1, rfl, Nat.le_refl _, Nat.le_refl _⟩, fun i σ' H' hi p => ?_, fun σ' H' p => ?_⟩
      · obtain ⟨rfl, x1, x2, x3, p, q, rfl, hp, hq⟩ := p
        walk_at "nk"
        exact ⟨rfl, _, _, _, p + q, p, rfl, by rw [Nat.pow_succ]; omega, by rw [Nat.pow_succ]; omega⟩
      · obtain ⟨rfl, x1, x2, x3, p, q, rfl, hp, hq⟩ := p
        have big : 2 ^ r ≤ 2 ^ 39 := Nat.pow_le_pow_right (by decide) (by omega)
        have b2 : 2 ^ 39 ≤ 1000000000000 := by decide
        exact ⟨x1, x2, x3, p, q, n + 2, rfl, by omega, by omega, (a1.tr e2.adv).tr a3, by omega, l3⟩
    · walk_at "nk"
      refine w_pow ⟨by decide, by decide, by decide⟩ ?_
      walk_at "nk"
      refine w_pow ⟨by decide, by decide, by decide⟩ ?_
      walk_at "nk"
      refine ⟨sm (by simp), ?_⟩
      intro t n_t
      generalize z_t : upd _ t _ = H2
      obtain ⟨e2, h2, m_t⟩ := newly n_t z_t
      clear z_t
      walk_at "nk"
      refine ⟨L, n + 1, t, _, rfl, l1.ext e2, by omega, l1.ne n_t, .inl (SqL.of h2), by simp, by simp, fun x H3 hx a3 l3 => ?_⟩
      obtain ⟨top, rfl, tb⟩ : ∃ top : Int, x = .int top ∧ 0 ≤ top ∧ top ≤ 1000000000000 := by
        simp only [List.mem_cons, List.not_mem_nil, or_false] at hx
        rcases hx with rfl | rfl | rfl | rfl
        · exact ⟨_, rfl, by decide, by decide⟩
        · exact ⟨_, rfl, by decide, by decide⟩
        · exact ⟨_, rfl, by decide, by decide⟩
        · exact ⟨_, rfl, by decide, by decide⟩
      walk_at "nk"
      refine ⟨L, n + 2, top + 1, rfl, l3, by omega, by omega, by omega, fun p H4 p0 p1 a4 l4 => ?_⟩
      obtain ⟨p, rfl⟩ := nat_of p0
      have a14 := ((a1.tr e2.adv).tr a3).tr a4
      walk_at "nk"
      refine ⟨_, rfl, w_both (fun c => ?_) fun c => ?_⟩
      · walk_at "nk"
        refine ⟨L, n + 3, top + 1, rfl, l4, by omega, by omega, by omega, fun q H5 q0 q1 a5 l5 => ?_⟩
        obtain ⟨q, rfl⟩ := nat_of q0
        walk_at "nk"
        exact ⟨_, _, rfl, _, _, _, p, q, n + 4, rfl, by omega, by omega, a14.tr a5, by omega, l5⟩
      · walk_at "nk"
        refine ⟨sm (by simp), ?_⟩
        intro u n_u
        generalize z_u : upd _ u _ = H5
        obtain ⟨e5, h5, m_u⟩ := newly n_u z_u
        clear z_u
        walk_at "nk"
        refine ⟨L, n + 3, u, _, rfl, l4.ext e5, by omega, l4.ne n_u, .inl (SqL.of h5), by simp, by simp, fun x H6 hx a6 l6 => ?_⟩
        obtain ⟨q, rfl, qb⟩ : ∃ q : Nat, x = .int (q : Int) ∧ q ≤ 3 := by
          simp only [List.mem_cons, List.not_mem_nil, or_false] at hx
          rcases hx with rfl | rfl | rfl | rfl
          · exact ⟨1, rfl, by decide⟩
          · exact ⟨0, rfl, by decide⟩
          · exact ⟨2, rfl, by decide⟩
          · exact ⟨3, rfl, by decide⟩
        walk_at "nk"
        exact ⟨_, _, rfl, _, _, _, p, q, n + 4, rfl, by omega, by omega, (a14.tr e5.adv).tr a6, by omega, l6⟩
  · rintro _ H2 ⟨x1, x2, x3, p, q, m, rfl, hp, hq, a2, hm, l2⟩
    walk_at "nk"
    refine w_then ?_
    refine ⟨WGcd L H2 n x1 x2 x3 p q, ⟨_, p, q, rfl, rfl, rfl, rfl⟩, ?_⟩
    rintro m2 σ H3 ⟨a, b, rfl, rfl, g, rfl⟩
    walk_at "nk"
    refine ⟨_, rfl, w_both (fun c => ?_) fun c => ?_⟩
    · have hb : 0 < m2 := by have : (0 : Int) < m2 := of_decide_eq_true c; omega
      refine ⟨fun σ' H' => ∃ m', m' < m2 ∧ WGcd L H2 n x1 x2 x3 p q m' σ' H', fun σ' H' z => z, ?_⟩
      walk_at "nk"
      refine w_mod (by omega) ?_
      walk_at "nk"
      refine ⟨_, _, rfl, a % m2, Nat.mod_lt _ hb, m2, a % m2, by rw [Int.natCast_emod], rfl, ?_, rfl⟩
      rw [← g, Nat.gcd_comm a m2, Nat.gcd_rec m2 a, Nat.gcd_comm]
    · have hb : m2 = 0 := by have : ¬ (0 : Int) < m2 := of_decide_eq_false c; omega
      subst hb
      rw [Nat.gcd_zero_right] at g
      -- divided
      refine w_mid (fun σ' H' => ∃ (x1 x2 x3 x6 x7 : Option V) (p q : Nat), σ' = [some (.ref L), x1, x2, x3, some (.int (p : Int)), some (.int (q : Int)), x6, x7] ∧ okWay p q ∧ Adv L H H' ∧ Lan H' L m) ?_ ?_
      · walk_at "nk"
        refine ⟨_, rfl, w_both (fun c => ?_) fun c => ?_⟩
        · have ha : 0 < a := by have : (0 : Int) < a := of_decide_eq_true c; omega
          have hle : a ≤ 1000000000000 := by
            rw [g]
            rcases Nat.eq_zero_or_pos p with z | z
            · subst z; rw [Nat.gcd_zero_left]; exact hq
            · exact Nat.le_trans (Nat.gcd_le_left q z) hp
          walk_at "nk"
          refine w_div (div_fits ha hle) ?_
          walk_at "nk"
          refine w_div (div_fits ha hle) ?_
          walk_at "nk"
          refine ⟨sm (by simp), ?_⟩
          intro t n_t
          generalize z_t : upd _ t _ = H4
          obtain ⟨e4, h4, m_t⟩ := newly n_t z_t
          clear z_t
          refine w_tupG h4 rfl ?_
          walk_at "nk"
          refine ⟨_, _, _, _, _, p / a, q / a, by rw [ediv_nat, ediv_nat], ?_, a2.tr e4.adv, l2.ext e4⟩
          rw [g]
          exact okW_div hp hq (by rw [← g]; exact ha)
        · walk_at "nk"
          refine ⟨sm (by simp), ?_⟩
          intro t n_t
          generalize z_t : upd _ t _ = H4
          obtain ⟨e4, h4, m_t⟩ := newly n_t z_t
          clear z_t
          refine w_tupG h4 rfl ?_
          walk_at "nk"
          exact ⟨_, _, _, _, _, 0, 1, rfl, ⟨by decide, by decide, by decide⟩, a2.tr e4.adv, l2.ext e4⟩
      · rintro _ H4 ⟨x1, x2, x3, x6, x7, p, q, rfl, ok, a4, l4⟩
        walk_at "nk"
        refine ⟨L, m, 2, rfl, l4, by omega, by decide, by decide, fun v H5 v0 v1 a5 l5 => ?_⟩
        walk_at "nk"
        refine ⟨_, rfl, w_both (fun c => ?_) fun c => ?_⟩
        · walk_at "nk"
          refine ⟨sm (by simp), ?_⟩
          intro t n_t
          generalize z_t : upd _ t _ = H6
          obtain ⟨e6, h6, m_t⟩ := newly n_t z_t
          clear z_t
          exact k _ p q _ H6 ((a4.tr a5).tr e6.adv) (by omega) (l5.ext e6) (l5.ne n_t) h6 ok
        · walk_at "nk"
          refine ⟨sm (by simp), ?_⟩
          intro t n_t
          generalize z_t : upd _ t _ = H6
          obtain ⟨e6, h6, m_t⟩ := newly n_t z_t
          clear z_t
          exact k _ q p _ H6 ((a4.tr a5).tr e6.adv) (by omega) (l5.ext e6) (l5.ne n_t) h6 (okW_swap ok)
end
end NK

namespace NK
open PySem PySem.Spec L2
section
variable {K : PySem.W.Frag} {C : CA}
def dirOf (p q : Nat) : Str := if (endOf p q).2 = 0 then "east" else "north"
def dataW (p q : Nat) : PyData := .tuple [.tuple ((wordOf p q).map pairD), .str (dirOf p q)]
theorem WordR.dp {H : Hp} {r : V} {p q : Nat} (h : WordR K H r p q) : ∃ a, r = .ref a ∧ Dp K H (.ref a) (dataW p q) := by
  obtain ⟨a, w, xs, rfl, h1, h2, hp⟩ := h
  exact ⟨a, rfl, .tup (SqT.of h1) (.cons (.tup (SqT.of h2) hp.dp) (.cons (.str _) .nil))⟩
theorem WordR.ext {H H' : Hp} {r : V} {p q : Nat} (e : Ext H H') (h : WordR K H r p q) : WordR K H' r p q := by
  obtain ⟨a, w, xs, rfl, h1, h2, hp⟩ := h
  exact ⟨a, w, xs, rfl, e _ _ h1, e _ _ h2, hp.ext e⟩
theorem fine_pair {x : Bool × Int} (h : 1 ≤ x.2 ∧ x.2 ≤ 1000000000000) : Fine (pairD x) 1 82 := by
  refine Fine.tup (ds := [.str (ltr x.1), .int x.2]) (k := 0) (w := 40) fun d m => ?_
  simp only [List.mem_cons, List.not_mem_nil, or_false] at m
  rcases m with rfl | rfl
  · cases x.1
    · exact Fine.str (by decide +kernel) _ (by decide +kernel)
    · exact Fine.str (by decide +kernel) _ (by decide +kernel)
  · exact .int (by omega) h.2
theorem fine_word {l : List (Bool × Int)} (h : smallT l) : Fine (.tuple (l.map pairD)) 2 16600 := by
  have z := Fine.tup (ds := l.map pairD) (k := 1) (w := 82) fun d m => by
    obtain ⟨x, hx, rfl⟩ := List.mem_map.mp m
    exact fine_pair (h.2 x hx)
  refine z.mono (Nat.le_refl _) ?_
  rw [List.length_map]
  have := h.1
  omega
theorem fine_dir (p q : Nat) : Fine (.str (dirOf p q)) 0 40 := by
  unfold dirOf
  split
  · exact Fine.str (by decide +kernel) _ (by decide +kernel)
  · exact Fine.str (by decide +kernel) _ (by decide +kernel)
theorem fine_data {p q : Nat} (ok : okWay p q) : Fine (dataW p q) 3 33202 := by
  refine Fine.tup (ds := [.tuple ((wordOf p q).map pairD), .str (dirOf p q)]) (k := 2) (w := 16600) fun d m => ?_
  simp only [List.mem_cons, List.not_mem_nil, or_false] at m
  rcases m with rfl | rfl
  · exact fine_word (okW_small ok)
  · exact (fine_dir p q).mono (by decide) (by decide)
theorem w_wordOf {H : Hp} {Q : VK} {E : XK} {a : Addr} {p q : Nat} (h : SqL K H a [.int p, .int q] ∨ SqT K H a [.int p, .int q]) (ok : okWay p q) (k : ∀ r H', Ext H H' → WordR K H' r p q → Q r H') : sp_word_of K C [.ref a] H Q E := by
  refine ⟨.ref a, some [.int p, .int q], rfl, ⟨h.elim .lst .tup, fun ys e x hx => ?_⟩, fun ys e => by cases e; simp, .inl ⟨p, q, rfl, ok, k⟩⟩
  cases e
  simp only [List.mem_cons, List.not_mem_nil, or_false] at hx
  rcases hx with rfl | rfl
  · exact ⟨none, .int _⟩
  · exact ⟨none, .int _⟩
/-- the data of a good word -/
theorem pairOf_pair {x : Bool × Int} (h : 1 ≤ x.2 ∧ x.2 ≤ 1000000000000) : pairOf (pairD x) = some x := by
  obtain ⟨b, t⟩ := x
  show (if ((ltr b == "a" || ltr b == "b") && decide (1 ≤ t) && decide (t ≤ 1000000000000)) = true then some (ltr b == "a", t) else none) = some (b, t)
  rw [decide_eq_true h.1, decide_eq_true h.2, ltr_a]
  cases b
  · rw [show (ltr false == "b") = true from by decide]; rfl
  · rfl
theorem pairsOf_pairs : ∀ {l : List (Bool × Int)}, (∀ x ∈ l, 1 ≤ x.2 ∧ x.2 ≤ 1000000000000) → pairsOf (l.map pairD) = some l
  | [], _ => rfl
  | x :: l, h => by
    rw [List.map_cons, pairsOf, pairOf_pair (h x List.mem_cons_self), pairsOf_pairs fun y m => h y (List.mem_cons_of_mem _ m)]
theorem wordD_good {d : PyData} {l : List (Bool × Int)} (e : itemsD d = some (l.map pairD)) (h : smallT l) : wordD d = some l := by
  unfold wordD
  rw [e]
  dsimp only
  rw [List.length_map, if_pos h.1, pairsOf_pairs h.2]
theorem Pairs.dq {H : Hp} : ∀ {vs : List V} {l : List (Bool × Int)}, Pairs K H vs l → DqAll K H (l.map pairD) vs
  | [], [], _ => by simp [DqAll]
  | v :: vs, x :: l, h => by
    obtain ⟨⟨a, e, h1⟩, h2⟩ := h
    subst e
    rw [List.map_cons]
    unfold DqAll
    refine ⟨_, _, rfl, ?_, Pairs.dq h2⟩
    unfold pairD Dq
    refine ⟨a, _, rfl, h1, ?_⟩
    simp [DqAll, Dq]
  | [], _ :: _, h => h.elim
  | _ :: _, [], h => h.elim
theorem w_waysOf {H : Hp} {Q : VK} {E : XK} {a : Addr} {xs : List V} {l : List (Bool × Int)} (h : SqL K H a xs ∨ SqT K H a xs) (hp : Pairs K H xs l) (sz : smallT l) (g : great l = false) (k : ∀ r H', Ext H H' → WaysR H' r l → Q r H') : sp_ways_of K C [.ref a] H Q E := by
  have lay : PyData.canLayAll0 (l.map pairD) = true := by simpa only [PyData.canLay0] using (fine_word sz).lay
  rcases h with h | h
  · refine ⟨.list (l.map pairD), .ref a, rfl, by unfold Dq; exact ⟨a, xs, rfl, h, hp.dq⟩, (fun ds e => by cases e; exact lay), fun ds e => ?_, fun z => ?_, fun l' e => ?_⟩
    · cases e
      rw [List.length_map]
      have := sz.1
      omega
    · rw [wordD_good rfl sz] at z
      cases z
    · rw [wordD_good rfl sz] at e
      cases e
      exact ⟨fun z => (by rw [g] at z; cases z), fun _ => k⟩
  · refine ⟨.tuple (l.map pairD), .ref a, rfl, by unfold Dq; exact ⟨a, xs, rfl, h, hp.dq⟩, (fun ds e => by cases e; exact lay), fun ds e => ?_, fun z => ?_, fun l' e => ?_⟩
    · cases e
      rw [List.length_map]
      have := sz.1
      omega
    · rw [wordD_good rfl sz] at z
      cases z
    · rw [wordD_good rfl sz] at e
      cases e
      exact ⟨fun z => (by rw [g] at z; cases z), fun _ => k⟩
/-- the ways of the word of (p, q): one is (p, q), neither is great -/
theorem ways_word {p q : Nat} (ok : okWay p q) : great (wordOf p q) = false ∧ (apf (wordOf p q) (1, 0) = ((p : Int), (q : Int)) ∨ apf (wordOf p q) (0, 1) = ((p : Int), (q : Int))) := by
  have h1 := ok.1
  have h2 := ok.2.1
  have ap := apf_word p q
  have gr : ∀ {a b c d : Int}, apf (wordOf p q) (1, 0) = (a, b) → apf (wordOf p q) (0, 1) = (c, d) → a ≤ 1000000000000 → b ≤ 1000000000000 → c ≤ 1000000000000 → d ≤ 1000000000000 → great (wordOf p q) = false := by
    intro a b c d e1 e2 k1 k2 k3 k4
    unfold great
    rw [e1, e2]
    exact decide_eq_false (by dsimp only; omega)
  rcases end_is p q ok.2.2 with e | e
  · rw [e] at ap
    have ap : apf (wordOf p q) (1, 0) = ((p : Int), (q : Int)) := ap
    refine ⟨?_, .inl ap⟩
    obtain ⟨o1, o2⟩ := other_e p q e
    rcases Nat.eq_zero_or_pos q with z | z
    · exact gr ap (o1 z) (by omega) (by omega) (by decide) (by decide)
    · obtain ⟨b1, b2, b3, b4⟩ := o2 z
      exact gr ap (show apf (wordOf p q) (0, 1) = ((apf (wordOf p q) (0, 1)).1, (apf (wordOf p q) (0, 1)).2) from rfl) (by omega) (by omega) (by omega) (by omega)
  · rw [e] at ap
    have ap : apf (wordOf p q) (0, 1) = ((p : Int), (q : Int)) := ap
    refine ⟨?_, .inr ap⟩
    obtain ⟨o1, o2⟩ := other_n p q e
    rcases Nat.eq_zero_or_pos p with z | z
    · exact gr (o1 z) ap (by decide) (by decide) (by omega) (by omega)
    · obtain ⟨b1, b2, b3, b4⟩ := o2 z
      exact gr (show apf (wordOf p q) (1, 0) = ((apf (wordOf p q) (1, 0)).1, (apf (wordOf p q) (1, 0)).2) from rfl) ap (by omega) (by omega) (by omega) (by omega)
end
end NK

namespace NK
open PySem PySem.Spec L2
section
variable {K : PySem.W.Frag} {C : CA}
theorem w_dget {σ : L2.St} {H : Hp} {Q : VK} {td ty : TE} (q : td σ H fun x H1 => ty σ H1 fun y H2 => ∃ a v, x = .ref a ∧ DGet H2 a y (some v) ∧ Q v H2) : tDGet td ty σ H Q := q
theorem end_dir {p q : Nat} (ok : okWay p q) : (dirOf p q = "east" ∧ endOf p q = (1, 0)) ∨ (dirOf p q = "north" ∧ endOf p q = (0, 1)) := by
  unfold dirOf
  rcases end_is p q ok.2.2 with e | e
  · rw [e]; exact .inl ⟨rfl, rfl⟩
  · rw [e]; exact .inr ⟨rfl, rfl⟩
theorem east_word : wordOf 1000000000000 999999999999 = [(true, 1), (false, 999999999999)] ∧ dirOf 1000000000000 999999999999 = "east" := by
  have a := steps_a (p := 1000000000000) (q := 999999999999) (by decide) (by decide)
  have b := steps_b (p := 1) (q := 999999999999) (by decide) (by decide)
  have z := steps_z (p := 1) (q := 0) (by decide)
  have e1 : 1000000000000 / 999999999999 = 1 := by decide
  have e2 : 1000000000000 % 999999999999 = 1 := by decide
  have e3 : 999999999999 / 1 = 999999999999 := by decide
  have e4 : 999999999999 % 1 = 0 := by decide
  rw [e1, e2] at a
  rw [e3, e4] at b
  unfold dirOf
  rw [a.1, b.1, z.1, a.2, b.2, z.2]
  exact ⟨rfl, rfl⟩
theorem twoD_fine {x : Int × Int} (h : (0 ≤ x.1 ∧ x.1 ≤ 1000000000000) ∧ 0 ≤ x.2 ∧ x.2 ≤ 1000000000000) : Fine (twoD x) 1 82 := by
  refine Fine.tup (ds := [.int x.1, .int x.2]) (k := 0) (w := 40) fun d m => ?_
  simp only [List.mem_cons, List.not_mem_nil, or_false] at m
  rcases m with rfl | rfl
  · exact .int h.1.1 h.1.2
  · exact .int h.2.1 h.2.2
theorem pairs_cons {σ : L2.St} {H : Hp} {tk tv : TE} {r : List (TE × TE)} {R : List (V × V) → Hp → Prop} (q : tk σ H fun x H1 => tv σ H1 fun y H2 => tPairs r σ H2 fun ps H3 => R ((x, y) :: ps) H3) : tPairs ((tk, tv) :: r) σ H R := q
theorem pairs_nil {σ : L2.St} {H : Hp} {R : List (V × V) → Hp → Prop} (q : R [] H) : tPairs [] σ H R := q
theorem w_pow12 {H : Hp} {Q : VK} (q : Q (.int 1000000000000) H) : rPow (.int 10) (.int 12) H Q := w_pow ⟨by decide, by decide, by decide⟩ (by rw [show (10 : Int) ^ Int.toNat 12 = 1000000000000 from by decide]; exact q)
theorem dp_two {H : Hp} {a : Addr} {x : Int × Int} (h : SqT K H a [.int x.1, .int x.2]) : Dp K H (.ref a) (twoD x) := .tup h (.cons (.int _) (.cons (.int _) .nil))
theorem dp_pair {H : Hp} {a : Addr} {x : Bool × Int} (h : SqT K H a [.str (ltr x.1), .int x.2]) : Dp K H (.ref a) (pairD x) := .tup h (.cons (.str _) (.cons (.int _) .nil))
theorem two_lay (x : Int × Int) : (twoD x).canLay0 = true := rfl
theorem two_shaped (x : Int × Int) : SeqAt.shaped (twoD x) = true := rfl
theorem WordR.dpAt {H H' : Hp} {a : Addr} {p q : Nat} (h : WordR K H (.ref a) p q) (e : Ext H H') : Dp K H' (.ref a) (dataW p q) := by
  obtain ⟨b, eb, d⟩ := (h.ext e).dp
  cases eb
  exact d
def waysD (l : List (Bool × Int)) : List PyData := [twoD (apf l (1, 0)), twoD (apf l (0, 1))]
theorem any_ways {p q : Nat} (ok : okWay p q) : ((waysD (wordOf p q)).any fun z => PyData.eqv z (twoD ((p : Int), (q : Int)))) = true := by
  unfold waysD
  rw [List.any_cons, List.any_cons]
  rcases (ways_word ok).2 with e | e
  · rw [e, eqv_self (two_lay _)]; rfl
  · rw [e, eqv_self (two_lay _)]; simp
theorem pure_law (vs : List V) (H : Hp) (Q : VK) (E : XK) (h : sp_law K C vs H Q E) : vs.length = 1 ∧ t_law K C { nx := fun _ H' => Q .non H', rt := Q } (start N_law vs) H := by
  obtain ⟨a, ns, rfl, ha, hn, tb, k⟩ := h
  refine ⟨rfl, ?_⟩
  unfold t_law
  walk_at "nk"
  refine ⟨a, ns, rfl, ha, hn, fun L H1 hL e1 l1 => ?_⟩
  walk_at "nk"
  refine w_mid (fun σ' H' => ∃ x2 x3 x4 x5, σ' = [some (.ref a), some (.ref L), x2, x3, x4, x5]) ?_ ?_
  · refine w_forR1 6 (fun R r => by walk_at "nk"; exact r) rfl (by decide) (fun i σ' H' => (∃ x2 x3 x4 x5, σ' = [some (.ref a), some (.ref L), x2, x3, x4, x5]) ∧ ∃ n, n ≤ 3000 * i ∧ Lan H' L n ∧ LamX.Tabs C.tabs H') ⟨⟨_, _, _, _, rfl⟩, 0, Nat.zero_le _, l1, tabs_ext e1 tb⟩ (fun i σ' H' hi p => ?_) (fun σ' H' p => p.1)
    obtain ⟨⟨x2, x3, x4, x5, rfl⟩, n, hn, l, tb⟩ := p
    walk_at "nk"
    refine ⟨L, n, rfl, l, by omega, fun b p q m H2 a2 hm l2 nb hb ok => ?_⟩
    have tb2 := tabs_adv a2 l tb
    walk_at "nk"
    refine w_wordOf (.inr (SqT.of hb)) ok fun r H3 e3 w3 => ?_
    walk_at "nk"
    refine ⟨b, p, q, rfl, SqT.of (e3 _ _ hb), ok, fun r2 H4 e4 w4 => ?_⟩
    walk_at "nk"
    refine ⟨_, _, rfl, ?_⟩
    have w3 := w3.ext e4
    obtain ⟨c, rfl, d3⟩ := w3.dp
    have w4' := w4
    obtain ⟨c2, rfl, d4⟩ := w4.dp
    obtain ⟨_, w, xs, ee, hc, hw, hp⟩ := w3
    cases ee
    have hb4 := e4 _ _ (e3 _ _ hb)
    walk_at "nk"
    refine w_then ?_
    walk_at "nk"
    refine w_reprF (fine_data ok) d3 (by decide) (by decide) ?_
    walk_at "nk"
    refine w_reprF (fine_data ok) d4 (by decide) (by decide) ?_
    refine w_neS ⟨false, congrArg V.bl (by simp), w_f ?_⟩
    walk_at "nk"
    refine w_listOf (.inr (SqT.of hb4)) ?_
    intro l5 n_l5
    generalize z_l5 : upd _ l5 _ = H5
    obtain ⟨e5, h5, m_l5⟩ := newly n_l5 z_l5
    clear z_l5
    walk_at "nk"
    refine w_wordOf (.inl (SqL.of h5)) ok fun r6 H6 e6 w6 => ?_
    walk_at "nk"
    obtain ⟨c6, rfl, d6⟩ := w6.dp
    have e46 := e5.tr e6
    refine w_neD d6 (w4'.dpAt e46) ((fine_data ok).shaped (by decide)) ((fine_data ok).shaped (by decide)) ?_
    rw [eqv_self (fine_data ok).lay]
    refine ⟨false, rfl, w_f ?_⟩
    walk_at "nk"
    refine w_ix (.inr (SqT.of (e46 _ _ hc))) rfl ?_
    walk_at "nk"
    refine ⟨b, w, p, q, xs, wordOf p q, rfl, SqT.of (e46 _ _ hb4), .inr (SqT.of (e46 _ _ hw)), hp.ext e46, okW_small ok, fun r7 H7 e7 h7 => ?_⟩
    rw [led_word] at h7
    have e47 := e46.tr e7
    refine w_dget ?_
    intro P nP
    have eP : Ext H7 (upd H7 P (.dK [])) := .put nP
    have hP : (upd H7 P (.dK [])) P = some (.dK []) := upd_same
    generalize upd H7 P (.dK []) = H8 at eP hP ⊢
    refine pairs_cons ?_
    walk_at "nk"
    refine ⟨sm (by simp), ?_⟩
    intro t1 n_t1
    generalize z_t1 : upd _ t1 _ = H9
    obtain ⟨e9, h9, m_t1⟩ := newly n_t1 z_t1
    clear z_t1
    refine pairs_cons ?_
    walk_at "nk"
    refine ⟨sm (by simp), ?_⟩
    intro t2 n_t2
    generalize z_t2 : upd _ t2 _ = H10
    obtain ⟨e10, h10, m_t2⟩ := newly n_t2 z_t2
    clear z_t2
    refine pairs_nil ?_
    refine ⟨e10 _ _ (e9 _ _ hP), [(.inr "east", .ref t1), (.inr "north", .ref t2)], rfl, by show 2 ≤ 15; decide, ?_⟩
    have e7b : Ext H7 (upd H10 P (.dK (mergeK [] [(.inr "east", .ref t1), (.inr "north", .ref t2)]))) := ((eP.tr e9).tr e10).mut nP
    have e8b : Ext H10 H10 := .rfl
    have hP2 : (upd H10 P (.dK (mergeK [] [(.inr "east", .ref t1), (.inr "north", .ref t2)]))) P = some (.dK (mergeK [] [(.inr "east", .ref t1), (.inr "north", .ref t2)])) := upd_same
    have k1 : (upd H10 P (.dK (mergeK [] [(.inr "east", .ref t1), (.inr "north", .ref t2)]))) t1 = some (.tup [.int 1, .int 0]) := by
      rw [upd_ne (fun z => by rw [z, e9 _ _ hP] at h9; cases h9)]
      exact e10 _ _ h9
    have k2 : (upd H10 P (.dK (mergeK [] [(.inr "east", .ref t1), (.inr "north", .ref t2)]))) t2 = some (.tup [.int 0, .int 1]) := by
      rw [upd_ne (fun z => by rw [z, e10 _ _ (e9 _ _ hP)] at h10; cases h10)]
      exact h10
    generalize upd H10 P (.dK (mergeK [] [(.inr "east", .ref t1), (.inr "north", .ref t2)])) = H11 at e7b hP2 k1 k2 ⊢
    walk_at "nk"
    have e411 := e47.tr e7b
    refine w_ix (.inr (SqT.of (e411 _ _ hc))) rfl ?_
    refine ⟨P, if (endOf p q).2 = 0 then .ref t1 else .ref t2, rfl, ?_, ?_⟩
    · by_cases z : (endOf p q).2 = 0
      · rw [if_pos z, if_pos z]
        exact DGet.k (k := .inr "east") hP2
      · rw [if_neg z, if_neg z]
        exact DGet.k (k := .inr "north") hP2
    refine w_neD (d := twoD (((endOf p q).1 : Int), ((endOf p q).2 : Int))) (e := twoD (((endOf p q).1 : Int), ((endOf p q).2 : Int))) (dp_two (SqT.of (e7b _ _ h7))) ?_ (two_shaped _) (two_shaped _) ?_
    · rcases end_is p q ok.2.2 with e | e
      · rw [e, if_pos rfl]
        exact dp_two (SqT.of k1)
      · rw [e, if_neg (by decide)]
        exact dp_two (SqT.of k2)
    rw [eqv_self (two_lay _)]
    refine ⟨false, rfl, w_f ?_⟩
    walk_at "nk"
    -- the way is one of the two ways of its word
    refine w_then ?_
    walk_at "nk"
    refine w_ix (.inr (SqT.of (e411 _ _ hc))) rfl ?_
    walk_at "nk"
    refine w_waysOf (.inr (SqT.of (e411 _ _ hw))) (hp.ext e411) (okW_small ok) (ways_word ok).1 fun r12 H12 e12 w12 => ?_
    obtain ⟨y, ys, rfl, hy, tw⟩ := w12
    have e412 := e411.tr e12
    walk_at "nk"
    refine w_notIn (d := twoD ((p : Int), (q : Int))) (ds := waysD (wordOf p q)) (dp_two (SqT.of (e412 _ _ hb4))) (.inr (.tup (SqT.of hy) tw.dp)) (two_shaped _) rfl ?_
    rw [any_ways ok]
    refine ⟨false, rfl, w_f ?_⟩
    walk_at "nk"
    have e212 := (e3.tr e4).tr e412
    refine ⟨L, m, rfl, l2.ext e212, by omega, tabs_ext e212 tb2, fun m13 H13 s13 hm13 l13 tb13 => ?_⟩
    refine ⟨true, rfl, w_f ?_⟩
    walk_at "nk"
    refine ⟨L, m13, rfl, l13, by omega, tb13, fun m14 H14 s14 hm14 l14 tb14 => ?_⟩
    refine ⟨true, rfl, w_f ?_⟩
    walk_at "nk"
    exact ⟨⟨_, _, _, _, rfl⟩, m14, by omega, l14, tb14⟩
  · rintro _ H2 ⟨x2, x3, x4, x5, rfl⟩
    walk_at "nk"
    refine w_pow12 ?_
    walk_at "nk"
    refine ⟨sm (by simp), ?_⟩
    intro t1 n_t1
    generalize z_t1 : upd _ t1 _ = H3
    obtain ⟨e3, h3, m_t1⟩ := newly n_t1 z_t1
    clear z_t1
    walk_at "nk"
    refine ⟨sm (by simp), ?_⟩
    intro t2 n_t2
    generalize z_t2 : upd _ t2 _ = H4
    obtain ⟨e4, h4, m_t2⟩ := newly n_t2 z_t2
    clear z_t2
    walk_at "nk"
    refine w_waysOf (l := [(true, 1000000000000)]) (.inl (SqL.of h4)) ⟨⟨t1, rfl, SqT.of (e4 _ _ h3)⟩, trivial⟩ ⟨by decide, fun x m => ?_⟩ (by decide) fun r5 H5 e5 w5 => ?_
    · simp only [List.mem_cons, List.not_mem_nil, or_false] at m
      subst m
      exact ⟨by decide, by decide⟩
    obtain ⟨y, ys, rfl, hy, tw⟩ := w5
    walk_at "nk"
    refine w_pow12 ?_
    walk_at "nk"
    refine w_pow12 ?_
    walk_at "nk"
    refine ⟨sm (by simp), ?_⟩
    intro t6 n_t6
    generalize z_t6 : upd _ t6 _ = H6
    obtain ⟨e6, h6, m_t6⟩ := newly n_t6 z_t6
    clear z_t6
    walk_at "nk"
    refine w_wordOf (p := 1000000000000) (q := 999999999999) (.inr (SqT.of h6)) ⟨by decide, by decide, by decide⟩ fun r7 H7 e7 w7 => ?_
    have w7' := w7
    obtain ⟨c7, rfl, _⟩ := w7.dp
    have de : dataW 1000000000000 999999999999 = .tuple [.tuple [pairD (true, 1), pairD (false, 999999999999)], .str "east"] := by
      unfold dataW
      rw [east_word.1, east_word.2]
      rfl
    walk_at "nk"
    refine ⟨sm (by simp), ?_⟩
    intro t8 n_t8
    generalize z_t8 : upd _ t8 _ = H8
    obtain ⟨e8, h8, m_t8⟩ := newly n_t8 z_t8
    clear z_t8
    walk_at "nk"
    refine ⟨sm (by simp), ?_⟩
    intro t9 n_t9
    generalize z_t9 : upd _ t9 _ = H9
    obtain ⟨e9, h9, m_t9⟩ := newly n_t9 z_t9
    clear z_t9
    walk_at "nk"
    refine w_pow12 ?_
    walk_at "nk"
    refine ⟨sm (by simp), ?_⟩
    intro t10 n_t10
    generalize z_t10 : upd _ t10 _ = H10
    obtain ⟨e10, h10, m_t10⟩ := newly n_t10 z_t10
    clear z_t10
    walk_at "nk"
    refine ⟨sm (by simp), ?_⟩
    intro t11 n_t11
    generalize z_t11 : upd _ t11 _ = H11
    obtain ⟨e11, h11, m_t11⟩ := newly n_t11 z_t11
    clear z_t11
    walk_at "nk"
    refine ⟨sm (by simp), ?_⟩
    intro t12 n_t12
    generalize z_t12 : upd _ t12 _ = H12
    obtain ⟨e12, h12, m_t12⟩ := newly n_t12 z_t12
    clear z_t12
    walk_at "nk"
    refine w_pow12 ?_
    walk_at "nk"
    refine ⟨sm (by simp), ?_⟩
    intro t13 n_t13
    generalize z_t13 : upd _ t13 _ = H13
    obtain ⟨e13, h13, m_t13⟩ := newly n_t13 z_t13
    clear z_t13
    walk_at "nk"
    refine ⟨sm (by simp), ?_⟩
    intro t14 n_t14
    generalize z_t14 : upd _ t14 _ = H14
    obtain ⟨e14, h14, m_t14⟩ := newly n_t14 z_t14
    clear z_t14
    walk_at "nk"
    refine ⟨sm (by simp), ?_⟩
    intro t15 n_t15
    generalize z_t15 : upd _ t15 _ = H15
    obtain ⟨e15, h15, m_t15⟩ := newly n_t15 z_t15
    clear z_t15
    walk_at "nk"
    refine ⟨sm (by simp), ?_⟩
    intro t16 n_t16
    generalize z_t16 : upd _ t16 _ = H16
    obtain ⟨e16, h16, m_t16⟩ := newly n_t16 z_t16
    clear z_t16
    have x15 := e16
    have x14 := e15.tr x15
    have x13 := e14.tr x14
    have x12 := e13.tr x13
    have x11 := e12.tr x12
    have x10 := e11.tr x11
    have x9 := e10.tr x10
    have x8 := e9.tr x9
    have x7 := e8.tr x8
    have x5 := (e6.tr e7).tr x7
    refine w_eqD (d := .list [.tuple [twoD (1, 0), twoD (1000000000000, 1)], .tuple [.tuple [pairD (true, 1), pairD (false, 999999999999)], .str "east"]]) (e := .list [.tuple [twoD (1, 0), twoD (1000000000000, 1)], .tuple [.tuple [pairD (true, 1), pairD (false, 999999999999)], .str "east"]]) (.lst (SqL.of (x8 _ _ h8)) (.cons (.tup (SqT.of (x5 _ _ hy)) (tw.ext x5).dp) (.cons (by rw [← de]; exact w7'.dpAt x7) .nil))) (.lst (SqL.of h16) (.cons (.tup (SqT.of (x11 _ _ h11)) (.cons (dp_two (SqT.of (x9 _ _ h9))) (.cons (dp_two (SqT.of (x10 _ _ h10))) .nil))) (.cons (.tup (SqT.of (x15 _ _ h15)) (.cons (.tup (SqT.of (x14 _ _ h14)) (.cons (dp_pair (x := (true, 1)) (SqT.of (x12 _ _ h12))) (.cons (dp_pair (x := (false, 999999999999)) (SqT.of (x13 _ _ h13))) .nil))) (.cons (.str _) .nil))) .nil))) (by decide +kernel) (by decide +kernel) ?_
    rw [eqv_self (by decide +kernel)]
    exact k _
end
end NK

namespace NK
open PySem PySem.Spec L2
section
variable {K : PySem.W.Frag} {C : CA}
theorem apf_nonneg : ∀ (l : List (Bool × Int)) (v : Int × Int), (∀ x ∈ l, 1 ≤ x.2) → 0 ≤ v.1 → 0 ≤ v.2 → 0 ≤ (apf l v).1 ∧ 0 ≤ (apf l v).2
  | [], v, _, h1, h2 => ⟨h1, h2⟩
  | x :: l, v, h, h1, h2 => by
    obtain ⟨k1, k2⟩ := apf_nonneg l v (fun y m => h y (List.mem_cons_of_mem _ m)) h1 h2
    have hx := h x List.mem_cons_self
    rw [apf_cons]
    unfold ap
    split
    · exact ⟨Int.add_nonneg k1 (Int.mul_nonneg (by omega) k2), k2⟩
    · exact ⟨k1, Int.add_nonneg k2 (Int.mul_nonneg (by omega) k1)⟩
theorem fine_ways {l : List (Bool × Int)} (sz : smallT l) (g : great l = false) : Fine (.tuple (waysD l)) 2 166 := by
  have n1 := apf_nonneg l (1, 0) (fun x m => (sz.2 x m).1) (by decide) (by decide)
  have n2 := apf_nonneg l (0, 1) (fun x m => (sz.2 x m).1) (by decide) (by decide)
  have gg := of_decide_eq_false g
  refine Fine.tup (ds := waysD l) (k := 1) (w := 82) fun d m => ?_
  unfold waysD at m
  simp only [List.mem_cons, List.not_mem_nil, or_false] at m
  rcases m with rfl | rfl
  · exact twoD_fine ⟨⟨n1.1, by omega⟩, n1.2, by omega⟩
  · exact twoD_fine ⟨⟨n2.1, by omega⟩, n2.2, by omega⟩
/-- the word that is drawn, at turn i -/
def WDraw (K : PySem.W.Frag) (C : CA) (L D : Addr) (H1 : Hp) (n i : Nat) (H : Hp) : Prop := Adv L H1 H ∧ Lan H L (n + 3 * i) ∧ ∃ xs l, H D = some (.lst xs) ∧ Pairs K H xs l ∧ l.length = i ∧ ∀ x ∈ l, 1 ≤ x.2 ∧ x.2 ≤ 30
/-- the ways at turn i -/
def WDueR (K : PySem.W.Frag) (H1 : Hp) (v0 v1 : V) (l : List (Bool × Int)) (i : Nat) (σ : L2.St) (H : Hp) : Prop := ∃ (w : Addr) (xs : List V) (o2 o4 o5 : Option V), σ = [some v0, some v1, o2, some (.ref w), o4, o5, none, none, none, none, none] ∧ Ext H1 H ∧ H w = some (.lst xs) ∧ Twos H xs [apf (l.drop (l.length - i)) (1, 0), apf (l.drop (l.length - i)) (0, 1)]
theorem w_heardW {H : Hp} {Q : VK} {E : XK} {N : VK} {w : Addr} {xs : List V} {l : List (Bool × Int)} (h : H w = some (.lst xs)) (hp : Pairs K H xs l) (sz : smallT l) (g : great l = true) (hE : ∀ cls d H1, Told C cls d H1 Q → E cls d H1)
    (k : ∀ H' p, Ext H H' → H' p = some (.tup [.str "misfit", .str "word"]) → Q (.ref p) H') : sp_ways_of K C [.ref w] H N E := by
  have lay : PyData.canLayAll0 (l.map pairD) = true := by simpa only [PyData.canLay0] using (fine_word sz).lay
  refine ⟨.list (l.map pairD), .ref w, rfl, by unfold Dq; exact ⟨w, xs, rfl, SqL.of h, hp.dq⟩, (fun ds e => by cases e; exact lay), fun ds e => ?_, fun z => ?_, fun l' e => ?_⟩
  · cases e
    rw [List.length_map]
    have := sz.1
    omega
  · rw [wordD_good rfl sz] at z
    cases z
  · rw [wordD_good rfl sz] at e
    cases e
    refine ⟨fun _ H' d ex hd => hE _ _ _ ⟨C.Misfit, d, "word", rfl, rfl, hd, "misfit", .inr (.inr ⟨rfl, rfl⟩), fun H2 p e2 h2 => k H2 p (ex.tr e2) h2⟩, fun z => (by rw [g] at z; cases z)⟩
theorem sqT_extN {H H' : Hp} {a : Addr} {xs : List V} (x : LamX.ExtN H H') (h : SqT K H a xs) : SqT K H' a xs := by
  rcases h with (h | ⟨o, h⟩) | h
  · exact .inl (.inl (x _ _ h (fun _ z => nomatch z)))
  · exact .inl (.inr ⟨o, x _ _ h (fun _ z => nomatch z)⟩)
  · exact .inr h
def pairL (x : Bool × Int) : PyData := .list [.str (ltr x.1), .int x.2]
theorem pairOf_list {x : Bool × Int} (h : 1 ≤ x.2 ∧ x.2 ≤ 1000000000000) : pairOf (pairL x) = some x := pairOf_pair (x := x) h
theorem pairsOf_lists : ∀ {l : List (Bool × Int)}, (∀ x ∈ l, 1 ≤ x.2 ∧ x.2 ≤ 1000000000000) → pairsOf (l.map pairL) = some l
  | [], _ => rfl
  | x :: l, h => by
    rw [List.map_cons, pairsOf, pairOf_list (h x List.mem_cons_self), pairsOf_lists fun y m => h y (List.mem_cons_of_mem _ m)]
theorem lists_lay : ∀ (l : List (Bool × Int)), PyData.canLayAll0 (l.map pairL) = true
  | [] => by simp only [List.map_nil, PyData.canLayAll0]
  | x :: l => by
    rw [List.map_cons]
    have z : PyData.strOk (ltr x.1) = true := by
      cases x.1
      · decide +kernel
      · decide +kernel
    simp only [PyData.canLayAll0, lists_lay l, pairL, PyData.canLay0, z, Bool.and_self]
theorem lists_dq {H : Hp} : ∀ {vs : List V} {l : List (Bool × Int)}, vs.length = l.length → (∀ (i : Nat) (y : V), vs[i]? = some y → ∃ b x, l[i]? = some x ∧ y = .ref b ∧ H b = some (.lst [.str (ltr x.1), .int x.2])) → DqAll K H (l.map pairL) vs
  | [], [], _, _ => by simp [DqAll]
  | v :: vs, x :: l, hl, h => by
    obtain ⟨b, x', e1, rfl, hb⟩ := h 0 v rfl
    cases e1
    rw [List.map_cons]
    unfold DqAll
    refine ⟨_, _, rfl, ?_, lists_dq (by simpa using hl) fun i y hy => h (i + 1) y hy⟩
    unfold pairL Dq
    refine ⟨b, _, rfl, SqL.of hb, ?_⟩
    simp [DqAll, Dq]
  | [], _ :: _, hl, _ => by cases hl
  | _ :: _, [], hl, _ => by cases hl
theorem w_waysL {H : Hp} {Q : VK} {E : XK} {a : Addr} {xs : List V} {l : List (Bool × Int)} (h : H a = some (.tup xs)) (hp : DqAll K H (l.map pairL) xs) (sz : smallT l) (g : great l = false) (k : ∀ r H', Ext H H' → WaysR H' r l → Q r H') : sp_ways_of K C [.ref a] H Q E := by
  have wd : wordD (.tuple (l.map pairL)) = some l := by
    show (if (l.map pairL).length ≤ 200 then pairsOf (l.map pairL) else none) = some l
    rw [List.length_map, if_pos sz.1, pairsOf_lists sz.2]
  refine ⟨.tuple (l.map pairL), .ref a, rfl, by unfold Dq; exact ⟨a, xs, rfl, SqT.of h, hp⟩, (fun ds e => by cases e; exact lists_lay l), fun ds e => ?_, fun z => ?_, fun l' e => ?_⟩
  · cases e
    rw [List.length_map]
    have := sz.1
    omega
  · rw [wd] at z
    cases z
  · rw [wd] at e
    cases e
    exact ⟨fun z => (by rw [g] at z; cases z), fun _ => k⟩
theorem pure_law_word_right (vs : List V) (H : Hp) (Q : VK) (E : XK) (h : sp_law_word_right K C vs H Q E) : vs.length = 1 ∧ t_law_word_right K C { nx := fun _ H' => Q .non H', rt := Q } (start N_law_word_right vs) H := by
  obtain ⟨L, n, rfl, lan, hn, tb, k⟩ := h
  refine ⟨rfl, ?_⟩
  unfold t_law_word_right
  walk_at "nk"
  refine w_lcPage rfl lan (by omega) (by decide) (by decide) fun r H1 r1 a1 l1 D nD => ⟨WDraw K C L D H1 (n + 1), ⟨Adv.rfl.mut l1 nD, l1.mutD nD .rfl l1, [], [], upd_same, trivial, rfl, fun x m => by cases m⟩, fun i H2 hi p => ?_, fun H2 p => ?_⟩
  · obtain ⟨a2, l2, xs, l, hD, hp, hl, hs⟩ := p
    walk_at "nk"
    refine ⟨rfl, w_yes (w_t ?_)⟩
    walk_at "nk"
    refine ⟨sm (by simp), ?_⟩
    intro t3 n_t3
    generalize z_t3 : upd _ t3 _ = H3
    obtain ⟨e3, h3, m_t3⟩ := newly n_t3 z_t3
    clear z_t3
    walk_at "nk"
    refine ⟨L, n + 1 + 3 * i, t3, _, rfl, l2.ext e3, by omega, l2.ne n_t3, .inl (SqL.of h3), by simp, by simp, fun x H4 hx a4 l4 => ?_⟩
    obtain ⟨b, rfl⟩ : ∃ b : Bool, x = .str (ltr b) := by
      simp only [List.mem_cons, List.not_mem_nil, or_false] at hx
      rcases hx with rfl | rfl
      · exact ⟨true, rfl⟩
      · exact ⟨false, rfl⟩
    walk_at "nk"
    refine ⟨L, n + 1 + 3 * i + 1, 30, rfl, l4, by omega, by decide, by decide, fun v H5 v0 v1 a5 l5 => ?_⟩
    walk_at "nk"
    refine ⟨sm (by simp), ?_⟩
    intro t6 n_t6
    generalize z_t6 : upd _ t6 _ = H6
    obtain ⟨e6, h6, m_t6⟩ := newly n_t6 z_t6
    clear z_t6
    walk_at "nk"
    refine ⟨L, n + 1 + 3 * i + 2, t6, _, rfl, l5.ext e6, by omega, l5.ne n_t6, .inl (SqL.of h6), by simp, by simp, fun y H7 hy a7 l7 => ?_⟩
    obtain ⟨t, rfl, ht⟩ : ∃ t : Int, y = .int t ∧ 1 ≤ t ∧ t ≤ 30 := by
      simp only [List.mem_cons, List.not_mem_nil, or_false] at hy
      rcases hy with rfl | rfl | rfl | rfl | rfl
      · exact ⟨_, rfl, by decide, by decide⟩
      · exact ⟨_, rfl, by decide, by decide⟩
      · exact ⟨_, rfl, by decide, by decide⟩
      · exact ⟨_, rfl, by decide, by decide⟩
      · exact ⟨_, rfl, by omega, by omega⟩
    walk_at "nk"
    refine ⟨sm (by simp), ?_⟩
    intro t8 n_t8
    generalize z_t8 : upd _ t8 _ = H8
    obtain ⟨e8, h8, m_t8⟩ := newly n_t8 z_t8
    clear z_t8
    have a28 : Adv L H2 H8 := (((e3.adv.tr a4).tr a5).tr (e6.adv.tr a7)).tr e8.adv
    have a18 := a2.tr a28
    have nDL : D ≠ L := l1.ne nD
    have hD8 : H8 D = some (.lst xs) := a28.run _ _ nDL hD
    obtain ⟨oL, eL⟩ := l2.some
    have hL2 : ∃ ys, H2 L = some (.lst ys) := by
      obtain ⟨c, t, r, cells, q, _⟩ := l2
      exact ⟨_, q⟩
    refine ⟨xs, hD8, by rw [hp.len, hl]; exact Nat.lt_of_lt_of_le hi (Nat.le_trans (by omega : r ≤ 1000) (by decide)), a18.mut l1 nD, l1.mutD nD a18 ((l7.ext e8).mono (by omega)), xs ++ [.ref t8], l ++ [(b, t)], upd_same, ?_, by rw [List.length_append, hl]; rfl, fun x m => ?_⟩
    · refine Pairs.snoc (SqT.of ?_) ((hp.sta a28.sta hL2).mut hD8)
      rw [upd_ne (fun z => by rw [z, hD8] at h8; cases h8), h8]
    · rcases List.mem_append.mp m with m | m
      · exact hs x m
      · simp only [List.mem_cons, List.not_mem_nil, or_false] at m
        subst m
        exact ht
  obtain ⟨a2, l2, xs, l, hD, hp, hl, hs⟩ := p
  have sz : smallT l := ⟨by omega, fun x m => by have := hs x m; omega⟩
  have a02 := a1.tr a2
  have tb2 : LamX.Tabs C.tabs H2 := tabs_adv a02 lan tb
  have many : xs.length = l.length := hp.len
  have hm : n + 1 + 3 * r ≤ n + 1000 := by omega
  clear a1 a2 l1 nD hl
  walk_at "nk"
  refine ⟨sm (by simp), ?_⟩
  intro t1 n_t1
  generalize z_t1 : upd _ t1 _ = H3
  obtain ⟨e3, h3, m_t1⟩ := newly n_t1 z_t1
  clear z_t1
  walk_at "nk"
  refine ⟨sm (by simp), ?_⟩
  intro t2 n_t2
  generalize z_t2 : upd _ t2 _ = H4
  obtain ⟨e4, h4, m_t2⟩ := newly n_t2 z_t2
  clear z_t2
  walk_at "nk"
  refine ⟨sm (by simp), ?_⟩
  intro w n_w
  generalize z_w : upd _ w _ = H5
  obtain ⟨e5, h5, m_w⟩ := newly n_w z_w
  clear z_w
  walk_at "nk"
  have e25 := (e3.tr e4).tr e5
  have hD5 := e25 _ _ hD
  refine w_mid (fun σ' H' => WDueR K H5 (.ref L) (.ref D) l l.length σ' H') ?_ ?_
  · refine w_forBack (a := D) rfl (SqL.of hD5) fun P H6 nP e6 h6 => ⟨fun i σ' H' => Ext H6 H' ∧ WDueR K H5 (.ref L) (.ref D) l i σ' H', ⟨.rfl, w, _, _, _, _, rfl, e6, e6 _ _ h5, ?_⟩, fun i σ' H' p => p.1, fun i x σ' H' lt hx p => ?_, fun σ' H' p => ?_⟩
    · rw [Nat.sub_zero, List.drop_length]
      exact ⟨⟨t1, rfl, e6 _ _ (e5 _ _ (e4 _ _ h3))⟩, ⟨t2, rfl, e6 _ _ (e5 _ _ h4)⟩, trivial⟩
    · obtain ⟨e67, w', ys, o2, o4, o5, rfl, e, hw, tw⟩ := p
      obtain ⟨pa, x', hx', rfl, px⟩ := hp.at _ hx
      have lt' : i < l.length := by omega
      rw [many] at hx'
      have dr := drop_one lt' hx'
      have px3 : SqT K H' pa [.str (ltr x'.1), .int x'.2] := (e25.tr e).sqT px
      refine w_gTup px3 rfl ?_
      walk_at "nk"
      have mx : x' ∈ l := List.mem_of_getElem? hx'
      refine w_lcR (fun D j y H2 => ∃ (t : Addr) (z : Int × Int), [apf (l.drop (l.length - i)) (1, 0), apf (l.drop (l.length - i)) (0, 1)][j]? = some z ∧ y = .ref t ∧ t ≠ D ∧ H2 t = some (.tup [.int (ap x' z).1, .int (ap x' z).2])) (fun D j y H1 H2 b p => ?_) (.inl (SqL.of hw)) (by rw [tw.len]; show 2 ≤ 100000; decide) (fun D j y hy H4 e4 hD R r N => ?_) fun D H4 zs nD e4 hD lz pz => ?_
      · obtain ⟨t, z, h1, h2, h3, h4⟩ := p
        exact ⟨t, z, h1, h2, h3, b _ _ h3 h4⟩
      · obtain ⟨t, z, hz, rfl, ht⟩ := tw.at j hy
        refine w_gTup (SqT.of (e4 _ _ ht)) rfl ?_
        walk_at "nk"
        refine ⟨rfl, w_yes (w_t ?_)⟩
        walk_at "nk"
        refine w_eqS ⟨_, rfl, ?_⟩
        rw [ltr_a]
        obtain ⟨zs, hD⟩ := hD
        refine w_both (fun c => ?_) fun c => ?_
        · walk_at "nk"
          refine w_mul (smallT_mul sz mx _) ?_
          walk_at "nk"
          refine ⟨sm (by simp), ?_⟩
          intro s1 n_s1
          generalize z_s1 : upd _ s1 _ = H5
          obtain ⟨e5, h5, m_s1⟩ := newly n_s1 z_s1
          clear z_s1
          refine r _ _ e5 ⟨s1, z, hz, rfl, fun q => ?_, ?_⟩
          · rw [q, hD] at n_s1
            cases n_s1
          · rw [h5]
            unfold ap
            rw [if_pos c]
        · walk_at "nk"
          refine w_mul (smallT_mul sz mx _) ?_
          walk_at "nk"
          refine ⟨sm (by simp), ?_⟩
          intro s1 n_s1
          generalize z_s1 : upd _ s1 _ = H5
          obtain ⟨e5, h5, m_s1⟩ := newly n_s1 z_s1
          clear z_s1
          refine r _ _ e5 ⟨s1, z, hz, rfl, fun q => ?_, ?_⟩
          · rw [q, hD] at n_s1
            cases n_s1
          · rw [h5]
            unfold ap
            rw [if_neg (by rw [c]; exact Bool.false_ne_true)]
      · walk_at "nk"
        refine ⟨e67.tr e4, D, zs, _, _, _, rfl, e.tr e4, hD, ?_⟩
        rw [dr]
        rw [tw.len] at lz
        match zs, lz with
        | [y0, y1], _ =>
          obtain ⟨t0, z0, h0, rfl, _, k0⟩ := pz 0 y0 rfl
          obtain ⟨t1, z1, h1, rfl, _, k1⟩ := pz 1 y1 rfl
          cases h0
          cases h1
          exact ⟨⟨t0, rfl, k0⟩, ⟨t1, rfl, k1⟩, trivial⟩
    · rw [many] at p
      exact p.2
  rintro _ H6 ⟨w', ys, o2, o4, o5, rfl, e, hw, tw⟩
  rw [Nat.sub_self, List.drop_zero] at tw
  have e26 := e25.tr e
  have hp6 := hp.ext e26
  have hD6 := e26 _ _ hD
  have s06 : Sta L H H6 := a02.sta.tr e26.sta
  have l6 := l2.ext e26
  have tb6 := tabs_ext e26 tb2
  clear e25 e3 e4 e5 h3 h4 h5 hD5 e m_t1 m_t2 m_w n_t1 n_t2 n_w
  refine w_then ?_
  walk_at "nk"
  refine w_lcV [.int (max (apf l (1, 0)).1 (apf l (1, 0)).2), .int (max (apf l (0, 1)).1 (apf l (0, 1)).2)] (.inl (SqL.of hw)) (by rw [tw.len]; show 2 ≤ 100000; decide) (by rw [tw.len]; rfl) (fun i x y hi hy H3 e3 R r N => ?_) fun P H7 nP e7 hP => ?_
  · obtain ⟨p, z, hz, rfl, hp⟩ := tw.at i hi
    have hz2 : y = .int (max z.1 z.2) := by
      match i, hz, hy with
      | 0, hz, hy => cases hz; cases hy; rfl
      | 1, hz, hy => cases hz; cases hy; rfl
      | n + 2, hz, hy => simp at hz
    subst hz2
    walk_at "nk"
    refine ⟨rfl, w_yes (w_t ?_)⟩
    walk_at "nk"
    exact w_maxS (n := z.1) (ns := [z.2]) (.inr (SqT.of (e3 _ _ hp))) (r _ .rfl)
  walk_at "nk"
  refine w_maxS (n := max (apf l (1, 0)).1 (apf l (1, 0)).2) (ns := [max (apf l (0, 1)).1 (apf l (0, 1)).2]) (.inl (SqL.of hP)) ?_
  rw [max_two]
  walk_at "nk"
  refine w_pow12 ?_
  walk_at "nk"
  have hp7 := hp6.ext e7
  have hD7 := e7 _ _ hD6
  refine ⟨great l, rfl, w_both (fun c => ?_) fun c => ?_⟩
  · walk_at "nk"
    refine ⟨tabs_ext e7 tb6, fun H8 x8 tb8 E N hE hN => ?_⟩
    have s08 := (s06.tr e7.sta).tr (ext_sta (L := L) x8)
    have l8 : Lan H8 L (n + 1 + 3 * r) := (l6.ext e7).extN x8
    walk_at "nk"
    refine w_heardW (x8 _ _ hD7 (fun _ z => nomatch z)) (hp7.imp fun a xs e => sqT_extN x8 e) sz c hE fun H9 p e9 h9 => ?_
    · walk_at "nk"
      refine ⟨sm (by simp), ?_⟩
      intro t n_t
      generalize z_t : upd _ t _ = H10
      obtain ⟨e10, h10, m_t⟩ := newly n_t z_t
      clear z_t
      refine w_eqD (d := .tuple [.str "misfit", .str "word"]) (e := .tuple [.str "misfit", .str "word"]) (.tup (SqT.of (e10 _ _ h9)) (.cons (.str _) (.cons (.str _) .nil))) (.tup (SqT.of h10) (.cons (.str _) (.cons (.str _) .nil))) (by decide +kernel) (by decide +kernel) ?_
      rw [eqv_self (by decide +kernel)]
      have e810 := e9.tr e10
      exact k _ H10 (s08.tr e810.sta) hm (l8.ext e810) (tabs_ext e810 tb8)
  · walk_at "nk"
    refine w_waysOf (.inl (SqL.of hD7)) hp7 sz c fun r8 H8 e8 w8 => ?_
    obtain ⟨y, zs, rfl, hy, tz⟩ := w8
    have e68 := e7.tr e8
    walk_at "nk"
    refine w_then ?_
    walk_at "nk"
    refine w_reprF (fine_ways sz c) (.tup (SqT.of hy) tz.dp) (by decide) (by decide) ?_
    walk_at "nk"
    refine w_tupleL (SqL.of (e68 _ _ hw)) ?_
    intro q n_q
    generalize z_q : upd _ q _ = H9
    obtain ⟨e9, h9, m_q⟩ := newly n_q z_q
    clear z_q
    walk_at "nk"
    refine w_reprF (fine_ways sz c) (.tup (SqT.of h9) (tw.ext (e68.tr e9)).dp) (by decide) (by decide) ?_
    refine w_neS ⟨false, congrArg V.bl (by simp), w_f ?_⟩
    walk_at "nk"
    have hp9 := hp7.ext (e8.tr e9)
    have hD9 := e9 _ _ (e8 _ _ hD7)
    refine w_lcR (fun D' i y H => ∃ (b : Addr) (x : Bool × Int), l[i]? = some x ∧ y = .ref b ∧ b ≠ D' ∧ H b = some (.lst [.str (ltr x.1), .int x.2])) (fun D' j y H1 H2 b p => ?_) (.inl (SqL.of hD9)) (by have := sz.1; omega) (fun D' i x hi H1 e1 hD' R r N => ?_) fun D' H10 vs nD' e10 hD' ly py => ?_
    · obtain ⟨t, z, h1, h2, h3, h4⟩ := p
      exact ⟨t, z, h1, h2, h3, b _ _ h3 h4⟩
    · obtain ⟨pa, x', hx', rfl, px⟩ := hp9.at i hi
      obtain ⟨us, hD'⟩ := hD'
      walk_at "nk"
      refine ⟨rfl, w_yes (w_t ?_)⟩
      walk_at "nk"
      refine w_listOf (.inr (e1.sqT px)) ?_
      intro b n_b
      generalize z_b : upd _ b _ = H2
      obtain ⟨e2, h2, m_b⟩ := newly n_b z_b
      clear z_b
      exact r _ _ e2 ⟨b, x', hx', rfl, (fun z => by rw [z, hD'] at n_b; cases n_b), h2⟩
    walk_at "nk"
    refine w_tupleL (SqL.of hD') ?_
    intro q2 n_q2
    generalize z_q2 : upd _ q2 _ = H11
    obtain ⟨e11, h11, m_q2⟩ := newly n_q2 z_q2
    clear z_q2
    walk_at "nk"
    refine w_waysL h11 (lists_dq (by rw [ly, many]) fun i y hy => ?_) sz c fun r12 H12 e12 w12 => ?_
    · obtain ⟨b, x, h1, h2, _, h4⟩ := py i y hy
      exact ⟨b, x, h1, h2, e11 _ _ h4⟩
    obtain ⟨y2, zs2, rfl, hy2, tz2⟩ := w12
    walk_at "nk"
    have e812 := ((e9.tr e10).tr e11).tr e12
    refine w_neD (d := .tuple (waysD l)) (e := .tuple (waysD l)) (.tup (SqT.of hy2) tz2.dp) (.tup (SqT.of (e812 _ _ hy)) (tz.ext e812).dp) ((fine_ways sz c).shaped (by decide)) ((fine_ways sz c).shaped (by decide)) ?_
    rw [eqv_self (fine_ways sz c).lay]
    refine ⟨false, rfl, w_f ?_⟩
    walk_at "nk"
    have hy12 := e812 _ _ hy
    have tz12 := tz.ext e812
    have hD12 := e812 _ _ (e8 _ _ hD7)
    have hp12 := (hp7.ext e8).ext e812
    refine w_lcR (fun D' i y H => ∃ (b : Addr) (v : Int × Int), [((1 : Int), (0 : Int)), (0, 1)][i]? = some v ∧ y = .ref b ∧ b ≠ D' ∧ H b = some (.tup [.int v.1, .int v.2])) (fun D' j y H1 H2 b p => ?_) (.inr (SqT.of hy12)) (by rw [tz12.len]; show 2 ≤ 100000; decide) (fun D' i x hi H1 e1 hD' R r N => ?_) fun D' H13 vs nD' e13 hD' ly py => ?_
    · obtain ⟨t, z, h1, h2, h3, h4⟩ := p
      exact ⟨t, z, h1, h2, h3, b _ _ h3 h4⟩
    · obtain ⟨pa, z, hz, rfl, hpa⟩ := tz12.at i hi
      obtain ⟨us, hD'⟩ := hD'
      walk_at "nk"
      refine ⟨rfl, w_yes (w_t ?_)⟩
      walk_at "nk"
      refine ⟨pa, D, z.1, z.2, xs, l, rfl, SqT.of (e1 _ _ hpa), .inl (SqL.of (e1 _ _ hD12)), hp12.ext e1, sz, fun b H2 e2 h2 => ?_⟩
      refine r _ _ e2 ⟨b, led l (z.1, z.2), ?_, rfl, (fun q => by rw [q, e2 _ _ hD'] at h2; cases h2), h2⟩
      match i, hz with
      | 0, hz => cases hz; rw [show ((apf l (1, 0)).1, (apf l (1, 0)).2) = apf l (1, 0) from rfl, led_apf]; rfl
      | 1, hz => cases hz; rw [show ((apf l (0, 1)).1, (apf l (0, 1)).2) = apf l (0, 1) from rfl, led_apf]; rfl
      | n + 2, hz => simp at hz
    walk_at "nk"
    refine ⟨sm (by simp), ?_⟩
    intro t1 n_t1
    generalize z_t1 : upd _ t1 _ = H14
    obtain ⟨e14, h14, m_t1⟩ := newly n_t1 z_t1
    clear z_t1
    walk_at "nk"
    refine ⟨sm (by simp), ?_⟩
    intro t2 n_t2
    generalize z_t2 : upd _ t2 _ = H15
    obtain ⟨e15, h15, m_t2⟩ := newly n_t2 z_t2
    clear z_t2
    walk_at "nk"
    refine ⟨sm (by simp), ?_⟩
    intro t3 n_t3
    generalize z_t3 : upd _ t3 _ = H16
    obtain ⟨e16, h16, m_t3⟩ := newly n_t3 z_t3
    clear z_t3
    rw [tz12.len] at ly
    match vs, ly with
    | [v0, v1], _ =>
      obtain ⟨b0, z0, g0, rfl, _, k0⟩ := py 0 v0 rfl
      obtain ⟨b1, z1, g1, rfl, _, k1⟩ := py 1 v1 rfl
      cases g0
      cases g1
      have e1316 := (e14.tr e15).tr e16
      refine w_eqD (d := .list [twoD (1, 0), twoD (0, 1)]) (e := .list [twoD (1, 0), twoD (0, 1)]) (.lst (SqL.of (e1316 _ _ hD')) (.cons (dp_two (SqT.of (e1316 _ _ k0))) (.cons (dp_two (SqT.of (e1316 _ _ k1))) .nil))) (.lst (SqL.of h16) (.cons (dp_two (SqT.of (e16 _ _ (e15 _ _ h14)))) (.cons (dp_two (SqT.of (e16 _ _ h15))) .nil))) (by decide +kernel) (by decide +kernel) ?_
      rw [eqv_self (by decide +kernel)]
      have e616 := ((e68.tr e812).tr e13).tr e1316
      exact k _ H16 (s06.tr e616.sta) hm (l6.ext e616) (tabs_ext e616 tb6)
end
end NK

namespace NK
open PySem PySem.Spec L2
section
variable {K : PySem.W.Frag} {C : CA}
section
variable {L : Addr} {H : Hp}
theorem w_dnew {σ : L2.St} {Q : VK} (q : ∀ p, H p = none → Q (.ref p) (upd H p (.dK []))) : tDNewK σ H Q := q
theorem dk_non : Dk K L H .none .non := by simp [Dk]
theorem dk_bl (b : Bool) : Dk K L H (.bool b) (.bl b) := by simp [Dk]
theorem dk_int (i : Int) : Dk K L H (.int i) (.int i) := by simp [Dk]
theorem dk_str (x : Str) : Dk K L H (.str x) (.str x) := by simp [Dk]
theorem dk_nil : DkAll K L H [] [] := by simp [DkAll]
theorem dk_cons {d : PyData} {v : V} {ds : List PyData} {vs : List V} (h : Dk K L H d v) (t : DkAll K L H ds vs) : DkAll K L H (d :: ds) (v :: vs) := by
  unfold DkAll
  exact ⟨_, _, rfl, h, t⟩
theorem dk_tup {p : Addr} {xs : List V} {ds : List PyData} (n : p ≠ L) (h : H p = some (.tup xs)) (a : DkAll K L H ds xs) : Dk K L H (.tuple ds) (.ref p) := by
  unfold Dk
  exact ⟨p, xs, rfl, n, SqT.of h, a⟩
theorem dk_lst {p : Addr} {xs : List V} {ds : List PyData} (n : p ≠ L) (h : H p = some (.lst xs)) (a : DkAll K L H ds xs) : Dk K L H (.list ds) (.ref p) := by
  unfold Dk
  exact ⟨p, xs, rfl, n, SqL.of h, a⟩
theorem dk_dict {p : Addr} {kvs : List (Key × V)} (n : p ≠ L) (h : H p = some (.dK kvs)) : Dk K L H (.dict []) (.ref p) := by
  unfold Dk
  exact ⟨p, kvs, rfl, n, h⟩
theorem dk_app : ∀ {ds : List PyData} {xs : List V} {es : List PyData} {ys : List V}, DkAll K L H ds xs → DkAll K L H es ys → DkAll K L H (ds ++ es) (xs ++ ys)
  | [], xs, es, ys, h, k => by
    unfold DkAll at h
    subst h
    exact k
  | d :: ds, xs, es, ys, h, k => by
    unfold DkAll at h
    obtain ⟨v, r, rfl, h1, h2⟩ := h
    exact dk_cons h1 (dk_app h2 k)
theorem dk_rep {ds : List PyData} {xs : List V} : ∀ (n : Nat), DkAll K L H ds xs → DkAll K L H (List.replicate n ds).flatten (List.replicate n xs).flatten
  | 0, _ => dk_nil
  | n + 1, h => by
    rw [List.replicate_succ, List.replicate_succ, List.flatten_cons, List.flatten_cons]
    exact dk_app h (dk_rep n h)
theorem dk_pick : ∀ {ds : List PyData} {xs : List V} {v : V}, DkAll K L H ds xs → v ∈ xs → ∃ d, d ∈ ds ∧ Dk K L H d v
  | [], xs, v, h, m => by
    unfold DkAll at h
    subst h
    cases m
  | d :: ds, xs, v, h, m => by
    unfold DkAll at h
    obtain ⟨x, r, rfl, h1, h2⟩ := h
    rcases List.mem_cons.mp m with rfl | m
    · exact ⟨d, List.mem_cons_self, h1⟩
    · obtain ⟨d', m', k⟩ := dk_pick h2 m
      exact ⟨d', List.mem_cons_of_mem _ m', k⟩
end
/-- data that is no way -/
def badWay (d : PyData) : Bool := match itemsD d with
  | some [.int p, .int q] => !(wayI p q && decide (0 ≤ p) && decide (0 ≤ q))
  | some ds => decide (ds.length ≤ 1000)
  | none => true
theorem dq_int {H : Hp} {d : PyData} {i : Int} (h : Dq K H d (.int i)) : d = .int i := by
  cases d with
  | int j => unfold Dq at h; cases h; rfl
  | none => unfold Dq at h; cases h
  | bool b => unfold Dq at h; cases h
  | str x => unfold Dq at h; cases h
  | list ds => unfold Dq at h; obtain ⟨a, xs, e, _⟩ := h; cases e
  | tuple ds => unfold Dq at h; obtain ⟨a, xs, e, _⟩ := h; cases e
  | dict kvs => unfold Dq at h; obtain ⟨a, xs, e, _⟩ := h; cases e
theorem w_heard1 {H : Hp} {N Q : VK} {E : XK} {v : V} {d : PyData} (hd : Dq K H d v) (b : badWay d = true) (hE : ∀ cls d H1, Told C cls d H1 Q → E cls d H1) (k : ∀ H' p, Ext H H' → H' p = some (.tup [.str "way", .str "way"]) → Q (.ref p) H') : sp_word_of K C [v] H N E := by
  obtain ⟨s, h1, h2, h3⟩ := hd.anyD
  refine ⟨v, s, rfl, h1, fun xs e => ?_, .inr ⟨fun p q e ok => ?_, fun H' d ex hd => hE _ _ _ ⟨C.BadWay, d, "way", rfl, rfl, hd, "way", .inl ⟨rfl, rfl⟩, fun H2 p e2 h2 => k H2 p (ex.tr e2) h2⟩⟩⟩
  · cases ei : itemsD d with
    | none => rw [ei, e] at h2; cases h2
    | some ds =>
      obtain ⟨ys, e2, all⟩ := h3 ds ei
      rw [e] at e2
      cases e2
      rw [all.len]
      unfold badWay at b
      rw [ei] at b
      split at b
      · rename_i hq
        cases hq
        show 2 ≤ 100000
        decide
      · rename_i hq
        cases hq
        have := of_decide_eq_true b
        omega
      · rename_i hq
        cases hq
  · cases ei : itemsD d with
    | none => rw [ei, e] at h2; cases h2
    | some ds =>
      obtain ⟨ys, e2, all⟩ := h3 ds ei
      rw [e] at e2
      cases e2
      have ln := all.len
      match ds, ln, all with
      | [x, y], _, all =>
        unfold DqAll at all
        obtain ⟨_, _, ee, k1, all⟩ := all
        cases ee
        unfold DqAll at all
        obtain ⟨_, _, ee, k2, _⟩ := all
        cases ee
        have z1 := dq_int k1
        have z2 := dq_int k2
        subst z1 z2
        unfold badWay at b
        rw [ei] at b
        dsimp only at b
        rw [nat_way ok, decide_eq_true (Int.natCast_nonneg p), decide_eq_true (Int.natCast_nonneg q)] at b
        cases b
theorem w_heard2 {H : Hp} {N Q : VK} {E : XK} {v : V} {d : PyData} (hd : Dq K H d v) (b : wordD d = none) (lay : layW d) (few_ : ∀ ds, itemsD d = some ds → ds.length ≤ 100000) (hE : ∀ cls d H1, Told C cls d H1 Q → E cls d H1) (k : ∀ H' p, Ext H H' → H' p = some (.tup [.str "word", .str "word"]) → Q (.ref p) H') : sp_ways_of K C [v] H N E :=
  ⟨d, v, rfl, hd, lay, few_, fun _ H' d ex hd => hE _ _ _ ⟨C.BadWord, d, "word", rfl, rfl, hd, "word", .inr (.inl ⟨rfl, rfl⟩), fun H2 p e2 h2 => k H2 p (ex.tr e2) h2⟩, fun l e => by rw [b] at e; cases e⟩
theorem w_heard3 {H : Hp} {N Q : VK} {E : XK} {v : V} {d : PyData} {l : List (Bool × Int)} (hd : Dq K H d v) (b : wordD d = some l) (g : great l = true) (lay : layW d) (few_ : ∀ ds, itemsD d = some ds → ds.length ≤ 100000) (hE : ∀ cls d H1, Told C cls d H1 Q → E cls d H1) (k : ∀ H' p, Ext H H' → H' p = some (.tup [.str "misfit", .str "word"]) → Q (.ref p) H') : sp_ways_of K C [v] H N E :=
  ⟨d, v, rfl, hd, lay, few_, fun z => (by rw [b] at z; cases z), fun l' e => by
    rw [b] at e
    cases e
    exact ⟨fun _ H' d ex hd => hE _ _ _ ⟨C.Misfit, d, "word", rfl, rfl, hd, "misfit", .inr (.inr ⟨rfl, rfl⟩), fun H2 p e2 h2 => k H2 p (ex.tr e2) h2⟩, fun z => (by rw [g] at z; cases z)⟩⟩
theorem dp_ss {H : Hp} {p : Addr} {x y : Str} (h : H p = some (.tup [.str x, .str y])) : Dp K H (.ref p) (.tuple [.str x, .str y]) := .tup (SqT.of h) (.cons (.str _) (.cons (.str _) .nil))
def waysB : List PyData := [.none, .int 5, .tuple [.int 0, .int 0], .tuple [.int 2, .int 2], .tuple [.int (-1), .int 1], .tuple [.int 1, .int (-1)], .tuple [.int 0, .int (-1)], .tuple [.int 1000000000001, .int 1], .tuple [.int 1, .bool true], .tuple [.int 1], .str "11", .tuple [.int 0, .int 2], .dict [], .tuple [.int 1, .int 2, .int 3]]
def pairsB : List PyData := [.none, .tuple [.str "c", .int 1], .tuple [.str "a", .int 0], .tuple [.str "a", .int (-1)], .tuple [.str "a", .bool true], .tuple [.str "a"], .tuple [.str "a", .int 1, .int 1], .tuple [.int 1, .str "a"], .tuple [.str "ab", .int 1], .tuple [.str "a", .int 1000000000001], .str "a1", .tuple [.str "", .int 1], .tuple [.list [.str "a"], .int 1]]
def wordsB (dP : PyData) : List PyData := [.none, .int 5, .str "a", .dict [], .list [dP], .list [.tuple [.str "a", .int 1], dP], .tuple [dP, .tuple [.str "b", .int 2]], .list (List.replicate 201 [.tuple [.str "a", .int 1]]).flatten]
def greatsB : List PyData := [.list [.tuple [.str "a", .int 1000000000000], .tuple [.str "b", .int 1], .tuple [.str "a", .int 1]], .list (List.replicate 100 [.tuple [.str "a", .int 1], .tuple [.str "b", .int 1]]).flatten, .list [.tuple [.str "b", .int 1000000000000], .tuple [.str "a", .int 2]]]
theorem waysB_bad : waysB.all badWay = true := by decide +kernel
theorem pairsB_bad : pairsB.all (fun d => (pairOf d).isNone && d.canLay0) = true := by decide +kernel
def fewB (d : PyData) : Bool := match itemsD d with
  | some ds => decide (ds.length ≤ 100000) && PyData.canLayAll0 ds
  | none => true
theorem fewB_lay {d : PyData} (h : fewB d = true) : layW d ∧ ∀ ds, itemsD d = some ds → ds.length ≤ 100000 := by
  unfold fewB at h
  refine ⟨fun ds e => ?_, fun ds e => ?_⟩
  · rw [e] at h
    simp only [Bool.and_eq_true] at h
    exact h.2
  · rw [e] at h
    simp only [Bool.and_eq_true, decide_eq_true_eq] at h
    exact h.1
theorem greatsB_ok : greatsB.all (fun d => fewB d && (match wordD d with | some l => great l | none => false)) = true := by decide +kernel
theorem wordsB_bad {dP : PyData} (h1 : pairOf dP = none) (h2 : dP.canLay0 = true) : ∀ d ∈ wordsB dP, wordD d = none ∧ fewB d = true := by
  intro d m
  unfold wordsB at m
  simp only [List.mem_cons, List.not_mem_nil, or_false] at m
  rcases m with rfl | rfl | rfl | rfl | rfl | rfl | rfl | rfl
  · exact ⟨rfl, rfl⟩
  · exact ⟨rfl, rfl⟩
  · exact ⟨rfl, rfl⟩
  · exact ⟨rfl, rfl⟩
  · refine ⟨?_, ?_⟩
    · show (if 1 ≤ 200 then pairsOf [dP] else none) = none
      rw [if_pos (by decide), pairsOf, h1]
    · show (decide (1 ≤ 100000) && PyData.canLayAll0 [dP]) = true
      simp only [PyData.canLayAll0, h2]
      decide
  · refine ⟨?_, ?_⟩
    · show (if 2 ≤ 200 then pairsOf [.tuple [.str "a", .int 1], dP] else none) = none
      rw [if_pos (by decide), pairsOf, pairsOf, h1]
      cases pairOf (.tuple [.str "a", .int 1]) <;> rfl
    · show (decide (2 ≤ 100000) && PyData.canLayAll0 [.tuple [.str "a", .int 1], dP]) = true
      have z : PyData.canLay0 (.tuple [.str "a", .int 1]) = true := by decide +kernel
      simp only [PyData.canLayAll0, h2, z]
      decide
  · refine ⟨?_, ?_⟩
    · show (if 2 ≤ 200 then pairsOf [dP, .tuple [.str "b", .int 2]] else none) = none
      rw [if_pos (by decide), pairsOf, h1]
    · show (decide (2 ≤ 100000) && PyData.canLayAll0 [dP, .tuple [.str "b", .int 2]]) = true
      have z : PyData.canLay0 (.tuple [.str "b", .int 2]) = true := by decide +kernel
      simp only [PyData.canLayAll0, h2, z]
      decide
  · exact ⟨by decide +kernel, by decide +kernel⟩
theorem pure_law_refused_right (vs : List V) (H_0 : Hp) (Q : VK) (E : XK) (h : sp_law_refused_right K C vs H_0 Q E) : vs.length = 1 ∧ t_law_refused_right K C { nx := fun _ H' => Q .non H', rt := Q } (start N_law_refused_right vs) H_0 := by
  obtain ⟨L, n, rfl, l_0, hn, tb, k⟩ := h
  refine ⟨rfl, ?_⟩
  have b_0 := tb
  unfold t_law_refused_right
  walk_at "nk"
  refine ⟨sm (by simp), ?_⟩
  intro u_1 n_u_1
  generalize z_u_1 : upd _ u_1 _ = H_1
  obtain ⟨e_1, h_1, m_u_1⟩ := newly n_u_1 z_u_1
  clear z_u_1
  have l_1 := l_0.ext e_1
  have s_1 : Sta L H_0 H_1 := e_1.sta
  have b_1 : LamX.Tabs C.tabs H_1 := tabs_ext e_1 b_0
  have n_1 := l_0.ne n_u_1
  have a_1 : DkAll K L H_1 [.int 0, .int 0] _ := dk_cons (dk_int (0)) (dk_cons (dk_int (0)) (dk_nil))
  have d_1 : Dk K L H_1 (.tuple [.int 0, .int 0]) (.ref u_1) := dk_tup n_1 h_1 a_1
  walk_at "nk"
  refine ⟨sm (by simp), ?_⟩
  intro u_2 n_u_2
  generalize z_u_2 : upd _ u_2 _ = H_2
  obtain ⟨e_2, h_2, m_u_2⟩ := newly n_u_2 z_u_2
  clear z_u_2
  have l_2 := l_1.ext e_2
  have s_2 : Sta L H_1 H_2 := e_2.sta
  have b_2 : LamX.Tabs C.tabs H_2 := tabs_ext e_2 b_1
  have n_2 := l_1.ne n_u_2
  have a_2 : DkAll K L H_2 [.int 2, .int 2] _ := dk_cons (dk_int (2)) (dk_cons (dk_int (2)) (dk_nil))
  have d_2 : Dk K L H_2 (.tuple [.int 2, .int 2]) (.ref u_2) := dk_tup n_2 h_2 a_2
  walk_at "nk"
  refine ⟨sm (by simp), ?_⟩
  intro u_3 n_u_3
  generalize z_u_3 : upd _ u_3 _ = H_3
  obtain ⟨e_3, h_3, m_u_3⟩ := newly n_u_3 z_u_3
  clear z_u_3
  have l_3 := l_2.ext e_3
  have s_3 : Sta L H_2 H_3 := e_3.sta
  have b_3 : LamX.Tabs C.tabs H_3 := tabs_ext e_3 b_2
  have n_3 := l_2.ne n_u_3
  have a_3 : DkAll K L H_3 [.int (-1), .int 1] _ := dk_cons (dk_int (-1)) (dk_cons (dk_int (1)) (dk_nil))
  have d_3 : Dk K L H_3 (.tuple [.int (-1), .int 1]) (.ref u_3) := dk_tup n_3 h_3 a_3
  walk_at "nk"
  refine ⟨sm (by simp), ?_⟩
  intro u_4 n_u_4
  generalize z_u_4 : upd _ u_4 _ = H_4
  obtain ⟨e_4, h_4, m_u_4⟩ := newly n_u_4 z_u_4
  clear z_u_4
  have l_4 := l_3.ext e_4
  have s_4 : Sta L H_3 H_4 := e_4.sta
  have b_4 : LamX.Tabs C.tabs H_4 := tabs_ext e_4 b_3
  have n_4 := l_3.ne n_u_4
  have a_4 : DkAll K L H_4 [.int 1, .int (-1)] _ := dk_cons (dk_int (1)) (dk_cons (dk_int (-1)) (dk_nil))
  have d_4 : Dk K L H_4 (.tuple [.int 1, .int (-1)]) (.ref u_4) := dk_tup n_4 h_4 a_4
  walk_at "nk"
  refine ⟨sm (by simp), ?_⟩
  intro u_5 n_u_5
  generalize z_u_5 : upd _ u_5 _ = H_5
  obtain ⟨e_5, h_5, m_u_5⟩ := newly n_u_5 z_u_5
  clear z_u_5
  have l_5 := l_4.ext e_5
  have s_5 : Sta L H_4 H_5 := e_5.sta
  have b_5 : LamX.Tabs C.tabs H_5 := tabs_ext e_5 b_4
  have n_5 := l_4.ne n_u_5
  have a_5 : DkAll K L H_5 [.int 0, .int (-1)] _ := dk_cons (dk_int (0)) (dk_cons (dk_int (-1)) (dk_nil))
  have d_5 : Dk K L H_5 (.tuple [.int 0, .int (-1)]) (.ref u_5) := dk_tup n_5 h_5 a_5
  walk_at "nk"
  refine w_pow12 ?_
  walk_at "nk"
  refine ⟨sm (by simp), ?_⟩
  intro u_6 n_u_6
  generalize z_u_6 : upd _ u_6 _ = H_6
  obtain ⟨e_6, h_6, m_u_6⟩ := newly n_u_6 z_u_6
  clear z_u_6
  have l_6 := l_5.ext e_6
  have s_6 : Sta L H_5 H_6 := e_6.sta
  have b_6 : LamX.Tabs C.tabs H_6 := tabs_ext e_6 b_5
  have n_6 := l_5.ne n_u_6
  have a_6 : DkAll K L H_6 [.int 1000000000001, .int 1] _ := dk_cons (dk_int (1000000000001)) (dk_cons (dk_int (1)) (dk_nil))
  have d_6 : Dk K L H_6 (.tuple [.int 1000000000001, .int 1]) (.ref u_6) := dk_tup n_6 h_6 a_6
  walk_at "nk"
  refine ⟨sm (by simp), ?_⟩
  intro u_7 n_u_7
  generalize z_u_7 : upd _ u_7 _ = H_7
  obtain ⟨e_7, h_7, m_u_7⟩ := newly n_u_7 z_u_7
  clear z_u_7
  have l_7 := l_6.ext e_7
  have s_7 : Sta L H_6 H_7 := e_7.sta
  have b_7 : LamX.Tabs C.tabs H_7 := tabs_ext e_7 b_6
  have n_7 := l_6.ne n_u_7
  have a_7 : DkAll K L H_7 [.int 1, .bool true] _ := dk_cons (dk_int (1)) (dk_cons (dk_bl _) (dk_nil))
  have d_7 : Dk K L H_7 (.tuple [.int 1, .bool true]) (.ref u_7) := dk_tup n_7 h_7 a_7
  walk_at "nk"
  refine ⟨sm (by simp), ?_⟩
  intro u_8 n_u_8
  generalize z_u_8 : upd _ u_8 _ = H_8
  obtain ⟨e_8, h_8, m_u_8⟩ := newly n_u_8 z_u_8
  clear z_u_8
  have l_8 := l_7.ext e_8
  have s_8 : Sta L H_7 H_8 := e_8.sta
  have b_8 : LamX.Tabs C.tabs H_8 := tabs_ext e_8 b_7
  have n_8 := l_7.ne n_u_8
  have a_8 : DkAll K L H_8 [.int 1] _ := dk_cons (dk_int (1)) (dk_nil)
  have d_8 : Dk K L H_8 (.tuple [.int 1]) (.ref u_8) := dk_tup n_8 h_8 a_8
  walk_at "nk"
  refine ⟨sm (by simp), ?_⟩
  intro u_9 n_u_9
  generalize z_u_9 : upd _ u_9 _ = H_9
  obtain ⟨e_9, h_9, m_u_9⟩ := newly n_u_9 z_u_9
  clear z_u_9
  have l_9 := l_8.ext e_9
  have s_9 : Sta L H_8 H_9 := e_9.sta
  have b_9 : LamX.Tabs C.tabs H_9 := tabs_ext e_9 b_8
  have n_9 := l_8.ne n_u_9
  have a_9 : DkAll K L H_9 [.int 0, .int 2] _ := dk_cons (dk_int (0)) (dk_cons (dk_int (2)) (dk_nil))
  have d_9 : Dk K L H_9 (.tuple [.int 0, .int 2]) (.ref u_9) := dk_tup n_9 h_9 a_9
  walk_at "nk"
  refine w_dnew ?_
  intro u_10 n_u_10
  generalize z_u_10 : upd _ u_10 _ = H_10
  obtain ⟨e_10, h_10, m_u_10⟩ := newly n_u_10 z_u_10
  clear z_u_10
  have l_10 := l_9.ext e_10
  have s_10 : Sta L H_9 H_10 := e_10.sta
  have b_10 : LamX.Tabs C.tabs H_10 := tabs_ext e_10 b_9
  have n_10 := l_9.ne n_u_10
  have d_10 : Dk K L H_10 (.dict []) (.ref u_10) := dk_dict n_10 h_10
  walk_at "nk"
  refine ⟨sm (by simp), ?_⟩
  intro u_11 n_u_11
  generalize z_u_11 : upd _ u_11 _ = H_11
  obtain ⟨e_11, h_11, m_u_11⟩ := newly n_u_11 z_u_11
  clear z_u_11
  have l_11 := l_10.ext e_11
  have s_11 : Sta L H_10 H_11 := e_11.sta
  have b_11 : LamX.Tabs C.tabs H_11 := tabs_ext e_11 b_10
  have n_11 := l_10.ne n_u_11
  have a_11 : DkAll K L H_11 [.int 1, .int 2, .int 3] _ := dk_cons (dk_int (1)) (dk_cons (dk_int (2)) (dk_cons (dk_int (3)) (dk_nil)))
  have d_11 : Dk K L H_11 (.tuple [.int 1, .int 2, .int 3]) (.ref u_11) := dk_tup n_11 h_11 a_11
  walk_at "nk"
  refine ⟨sm (by simp), ?_⟩
  intro u_12 n_u_12
  generalize z_u_12 : upd _ u_12 _ = H_12
  obtain ⟨e_12, h_12, m_u_12⟩ := newly n_u_12 z_u_12
  clear z_u_12
  have l_12 := l_11.ext e_12
  have s_12 : Sta L H_11 H_12 := e_12.sta
  have b_12 : LamX.Tabs C.tabs H_12 := tabs_ext e_12 b_11
  have n_12 := l_11.ne n_u_12
  have a_12 : DkAll K L H_12 [.none, .int 5, .tuple [.int 0, .int 0], .tuple [.int 2, .int 2], .tuple [.int (-1), .int 1], .tuple [.int 1, .int (-1)], .tuple [.int 0, .int (-1)], .tuple [.int 1000000000001, .int 1], .tuple [.int 1, .bool true], .tuple [.int 1], .str "11", .tuple [.int 0, .int 2], .dict [], .tuple [.int 1, .int 2, .int 3]] _ := dk_cons (dk_non) (dk_cons (dk_int (5)) (dk_cons (Dk.sta (((((((((((s_2).tr s_3).tr s_4).tr s_5).tr s_6).tr s_7).tr s_8).tr s_9).tr s_10).tr s_11).tr s_12) _ _ d_1) (dk_cons (Dk.sta ((((((((((s_3).tr s_4).tr s_5).tr s_6).tr s_7).tr s_8).tr s_9).tr s_10).tr s_11).tr s_12) _ _ d_2) (dk_cons (Dk.sta (((((((((s_4).tr s_5).tr s_6).tr s_7).tr s_8).tr s_9).tr s_10).tr s_11).tr s_12) _ _ d_3) (dk_cons (Dk.sta ((((((((s_5).tr s_6).tr s_7).tr s_8).tr s_9).tr s_10).tr s_11).tr s_12) _ _ d_4) (dk_cons (Dk.sta (((((((s_6).tr s_7).tr s_8).tr s_9).tr s_10).tr s_11).tr s_12) _ _ d_5) (dk_cons (Dk.sta ((((((s_7).tr s_8).tr s_9).tr s_10).tr s_11).tr s_12) _ _ d_6) (dk_cons (Dk.sta (((((s_8).tr s_9).tr s_10).tr s_11).tr s_12) _ _ d_7) (dk_cons (Dk.sta ((((s_9).tr s_10).tr s_11).tr s_12) _ _ d_8) (dk_cons (dk_str _) (dk_cons (Dk.sta (((s_10).tr s_11).tr s_12) _ _ d_9) (dk_cons (Dk.sta ((s_11).tr s_12) _ _ d_10) (dk_cons (Dk.sta (s_12) _ _ d_11) (dk_nil))))))))))))))
  have d_12 : Dk K L H_12 (.list [.none, .int 5, .tuple [.int 0, .int 0], .tuple [.int 2, .int 2], .tuple [.int (-1), .int 1], .tuple [.int 1, .int (-1)], .tuple [.int 0, .int (-1)], .tuple [.int 1000000000001, .int 1], .tuple [.int 1, .bool true], .tuple [.int 1], .str "11", .tuple [.int 0, .int 2], .dict [], .tuple [.int 1, .int 2, .int 3]]) (.ref u_12) := dk_lst n_12 h_12 a_12
  walk_at "nk"
  refine ⟨L, n + 0, u_12, _, rfl, l_12, by omega, n_12, .inl (SqL.of h_12), by simp, by simp, fun vW H_13 hx e_13 l_13 => ?_⟩
  have s_13 : Sta L H_12 H_13 := e_13.sta
  have b_13 : LamX.Tabs C.tabs H_13 := tabs_adv e_13 l_12 b_12
  obtain ⟨dW, mW, dkW⟩ := dk_pick a_12 hx
  have tW : Dk K L H_13 dW vW := Dk.sta s_13 _ _ dkW
  clear hx dkW
  walk_at "nk"
  refine ⟨sm (by simp), ?_⟩
  intro u_14 n_u_14
  generalize z_u_14 : upd _ u_14 _ = H_14
  obtain ⟨e_14, h_14, m_u_14⟩ := newly n_u_14 z_u_14
  clear z_u_14
  have l_14 := l_13.ext e_14
  have s_14 : Sta L H_13 H_14 := e_14.sta
  have b_14 : LamX.Tabs C.tabs H_14 := tabs_ext e_14 b_13
  have n_14 := l_13.ne n_u_14
  have a_14 : DkAll K L H_14 [.str "c", .int 1] _ := dk_cons (dk_str _) (dk_cons (dk_int (1)) (dk_nil))
  have d_14 : Dk K L H_14 (.tuple [.str "c", .int 1]) (.ref u_14) := dk_tup n_14 h_14 a_14
  walk_at "nk"
  refine ⟨sm (by simp), ?_⟩
  intro u_15 n_u_15
  generalize z_u_15 : upd _ u_15 _ = H_15
  obtain ⟨e_15, h_15, m_u_15⟩ := newly n_u_15 z_u_15
  clear z_u_15
  have l_15 := l_14.ext e_15
  have s_15 : Sta L H_14 H_15 := e_15.sta
  have b_15 : LamX.Tabs C.tabs H_15 := tabs_ext e_15 b_14
  have n_15 := l_14.ne n_u_15
  have a_15 : DkAll K L H_15 [.str "a", .int 0] _ := dk_cons (dk_str _) (dk_cons (dk_int (0)) (dk_nil))
  have d_15 : Dk K L H_15 (.tuple [.str "a", .int 0]) (.ref u_15) := dk_tup n_15 h_15 a_15
  walk_at "nk"
  refine ⟨sm (by simp), ?_⟩
  intro u_16 n_u_16
  generalize z_u_16 : upd _ u_16 _ = H_16
  obtain ⟨e_16, h_16, m_u_16⟩ := newly n_u_16 z_u_16
  clear z_u_16
  have l_16 := l_15.ext e_16
  have s_16 : Sta L H_15 H_16 := e_16.sta
  have b_16 : LamX.Tabs C.tabs H_16 := tabs_ext e_16 b_15
  have n_16 := l_15.ne n_u_16
  have a_16 : DkAll K L H_16 [.str "a", .int (-1)] _ := dk_cons (dk_str _) (dk_cons (dk_int (-1)) (dk_nil))
  have d_16 : Dk K L H_16 (.tuple [.str "a", .int (-1)]) (.ref u_16) := dk_tup n_16 h_16 a_16
  walk_at "nk"
  refine ⟨sm (by simp), ?_⟩
  intro u_17 n_u_17
  generalize z_u_17 : upd _ u_17 _ = H_17
  obtain ⟨e_17, h_17, m_u_17⟩ := newly n_u_17 z_u_17
  clear z_u_17
  have l_17 := l_16.ext e_17
  have s_17 : Sta L H_16 H_17 := e_17.sta
  have b_17 : LamX.Tabs C.tabs H_17 := tabs_ext e_17 b_16
  have n_17 := l_16.ne n_u_17
  have a_17 : DkAll K L H_17 [.str "a", .bool true] _ := dk_cons (dk_str _) (dk_cons (dk_bl _) (dk_nil))
  have d_17 : Dk K L H_17 (.tuple [.str "a", .bool true]) (.ref u_17) := dk_tup n_17 h_17 a_17
  walk_at "nk"
  refine ⟨sm (by simp), ?_⟩
  intro u_18 n_u_18
  generalize z_u_18 : upd _ u_18 _ = H_18
  obtain ⟨e_18, h_18, m_u_18⟩ := newly n_u_18 z_u_18
  clear z_u_18
  have l_18 := l_17.ext e_18
  have s_18 : Sta L H_17 H_18 := e_18.sta
  have b_18 : LamX.Tabs C.tabs H_18 := tabs_ext e_18 b_17
  have n_18 := l_17.ne n_u_18
  have a_18 : DkAll K L H_18 [.str "a"] _ := dk_cons (dk_str _) (dk_nil)
  have d_18 : Dk K L H_18 (.tuple [.str "a"]) (.ref u_18) := dk_tup n_18 h_18 a_18
  walk_at "nk"
  refine ⟨sm (by simp), ?_⟩
  intro u_19 n_u_19
  generalize z_u_19 : upd _ u_19 _ = H_19
  obtain ⟨e_19, h_19, m_u_19⟩ := newly n_u_19 z_u_19
  clear z_u_19
  have l_19 := l_18.ext e_19
  have s_19 : Sta L H_18 H_19 := e_19.sta
  have b_19 : LamX.Tabs C.tabs H_19 := tabs_ext e_19 b_18
  have n_19 := l_18.ne n_u_19
  have a_19 : DkAll K L H_19 [.str "a", .int 1, .int 1] _ := dk_cons (dk_str _) (dk_cons (dk_int (1)) (dk_cons (dk_int (1)) (dk_nil)))
  have d_19 : Dk K L H_19 (.tuple [.str "a", .int 1, .int 1]) (.ref u_19) := dk_tup n_19 h_19 a_19
  walk_at "nk"
  refine ⟨sm (by simp), ?_⟩
  intro u_20 n_u_20
  generalize z_u_20 : upd _ u_20 _ = H_20
  obtain ⟨e_20, h_20, m_u_20⟩ := newly n_u_20 z_u_20
  clear z_u_20
  have l_20 := l_19.ext e_20
  have s_20 : Sta L H_19 H_20 := e_20.sta
  have b_20 : LamX.Tabs C.tabs H_20 := tabs_ext e_20 b_19
  have n_20 := l_19.ne n_u_20
  have a_20 : DkAll K L H_20 [.int 1, .str "a"] _ := dk_cons (dk_int (1)) (dk_cons (dk_str _) (dk_nil))
  have d_20 : Dk K L H_20 (.tuple [.int 1, .str "a"]) (.ref u_20) := dk_tup n_20 h_20 a_20
  walk_at "nk"
  refine ⟨sm (by simp), ?_⟩
  intro u_21 n_u_21
  generalize z_u_21 : upd _ u_21 _ = H_21
  obtain ⟨e_21, h_21, m_u_21⟩ := newly n_u_21 z_u_21
  clear z_u_21
  have l_21 := l_20.ext e_21
  have s_21 : Sta L H_20 H_21 := e_21.sta
  have b_21 : LamX.Tabs C.tabs H_21 := tabs_ext e_21 b_20
  have n_21 := l_20.ne n_u_21
  have a_21 : DkAll K L H_21 [.str "ab", .int 1] _ := dk_cons (dk_str _) (dk_cons (dk_int (1)) (dk_nil))
  have d_21 : Dk K L H_21 (.tuple [.str "ab", .int 1]) (.ref u_21) := dk_tup n_21 h_21 a_21
  walk_at "nk"
  refine w_pow12 ?_
  walk_at "nk"
  refine ⟨sm (by simp), ?_⟩
  intro u_22 n_u_22
  generalize z_u_22 : upd _ u_22 _ = H_22
  obtain ⟨e_22, h_22, m_u_22⟩ := newly n_u_22 z_u_22
  clear z_u_22
  have l_22 := l_21.ext e_22
  have s_22 : Sta L H_21 H_22 := e_22.sta
  have b_22 : LamX.Tabs C.tabs H_22 := tabs_ext e_22 b_21
  have n_22 := l_21.ne n_u_22
  have a_22 : DkAll K L H_22 [.str "a", .int 1000000000001] _ := dk_cons (dk_str _) (dk_cons (dk_int (1000000000001)) (dk_nil))
  have d_22 : Dk K L H_22 (.tuple [.str "a", .int 1000000000001]) (.ref u_22) := dk_tup n_22 h_22 a_22
  walk_at "nk"
  refine ⟨sm (by simp), ?_⟩
  intro u_23 n_u_23
  generalize z_u_23 : upd _ u_23 _ = H_23
  obtain ⟨e_23, h_23, m_u_23⟩ := newly n_u_23 z_u_23
  clear z_u_23
  have l_23 := l_22.ext e_23
  have s_23 : Sta L H_22 H_23 := e_23.sta
  have b_23 : LamX.Tabs C.tabs H_23 := tabs_ext e_23 b_22
  have n_23 := l_22.ne n_u_23
  have a_23 : DkAll K L H_23 [.str "", .int 1] _ := dk_cons (dk_str _) (dk_cons (dk_int (1)) (dk_nil))
  have d_23 : Dk K L H_23 (.tuple [.str "", .int 1]) (.ref u_23) := dk_tup n_23 h_23 a_23
  walk_at "nk"
  refine ⟨sm (by simp), ?_⟩
  intro u_24 n_u_24
  generalize z_u_24 : upd _ u_24 _ = H_24
  obtain ⟨e_24, h_24, m_u_24⟩ := newly n_u_24 z_u_24
  clear z_u_24
  have l_24 := l_23.ext e_24
  have s_24 : Sta L H_23 H_24 := e_24.sta
  have b_24 : LamX.Tabs C.tabs H_24 := tabs_ext e_24 b_23
  have n_24 := l_23.ne n_u_24
  have a_24 : DkAll K L H_24 [.str "a"] _ := dk_cons (dk_str _) (dk_nil)
  have d_24 : Dk K L H_24 (.list [.str "a"]) (.ref u_24) := dk_lst n_24 h_24 a_24
  walk_at "nk"
  refine ⟨sm (by simp), ?_⟩
  intro u_25 n_u_25
  generalize z_u_25 : upd _ u_25 _ = H_25
  obtain ⟨e_25, h_25, m_u_25⟩ := newly n_u_25 z_u_25
  clear z_u_25
  have l_25 := l_24.ext e_25
  have s_25 : Sta L H_24 H_25 := e_25.sta
  have b_25 : LamX.Tabs C.tabs H_25 := tabs_ext e_25 b_24
  have n_25 := l_24.ne n_u_25
  have a_25 : DkAll K L H_25 [.list [.str "a"], .int 1] _ := dk_cons (Dk.sta (s_25) _ _ d_24) (dk_cons (dk_int (1)) (dk_nil))
  have d_25 : Dk K L H_25 (.tuple [.list [.str "a"], .int 1]) (.ref u_25) := dk_tup n_25 h_25 a_25
  walk_at "nk"
  refine ⟨sm (by simp), ?_⟩
  intro u_26 n_u_26
  generalize z_u_26 : upd _ u_26 _ = H_26
  obtain ⟨e_26, h_26, m_u_26⟩ := newly n_u_26 z_u_26
  clear z_u_26
  have l_26 := l_25.ext e_26
  have s_26 : Sta L H_25 H_26 := e_26.sta
  have b_26 : LamX.Tabs C.tabs H_26 := tabs_ext e_26 b_25
  have n_26 := l_25.ne n_u_26
  have a_26 : DkAll K L H_26 [.none, .tuple [.str "c", .int 1], .tuple [.str "a", .int 0], .tuple [.str "a", .int (-1)], .tuple [.str "a", .bool true], .tuple [.str "a"], .tuple [.str "a", .int 1, .int 1], .tuple [.int 1, .str "a"], .tuple [.str "ab", .int 1], .tuple [.str "a", .int 1000000000001], .str "a1", .tuple [.str "", .int 1], .tuple [.list [.str "a"], .int 1]] _ := dk_cons (dk_non) (dk_cons (Dk.sta ((((((((((((s_15).tr s_16).tr s_17).tr s_18).tr s_19).tr s_20).tr s_21).tr s_22).tr s_23).tr s_24).tr s_25).tr s_26) _ _ d_14) (dk_cons (Dk.sta (((((((((((s_16).tr s_17).tr s_18).tr s_19).tr s_20).tr s_21).tr s_22).tr s_23).tr s_24).tr s_25).tr s_26) _ _ d_15) (dk_cons (Dk.sta ((((((((((s_17).tr s_18).tr s_19).tr s_20).tr s_21).tr s_22).tr s_23).tr s_24).tr s_25).tr s_26) _ _ d_16) (dk_cons (Dk.sta (((((((((s_18).tr s_19).tr s_20).tr s_21).tr s_22).tr s_23).tr s_24).tr s_25).tr s_26) _ _ d_17) (dk_cons (Dk.sta ((((((((s_19).tr s_20).tr s_21).tr s_22).tr s_23).tr s_24).tr s_25).tr s_26) _ _ d_18) (dk_cons (Dk.sta (((((((s_20).tr s_21).tr s_22).tr s_23).tr s_24).tr s_25).tr s_26) _ _ d_19) (dk_cons (Dk.sta ((((((s_21).tr s_22).tr s_23).tr s_24).tr s_25).tr s_26) _ _ d_20) (dk_cons (Dk.sta (((((s_22).tr s_23).tr s_24).tr s_25).tr s_26) _ _ d_21) (dk_cons (Dk.sta ((((s_23).tr s_24).tr s_25).tr s_26) _ _ d_22) (dk_cons (dk_str _) (dk_cons (Dk.sta (((s_24).tr s_25).tr s_26) _ _ d_23) (dk_cons (Dk.sta (s_26) _ _ d_25) (dk_nil)))))))))))))
  have d_26 : Dk K L H_26 (.list [.none, .tuple [.str "c", .int 1], .tuple [.str "a", .int 0], .tuple [.str "a", .int (-1)], .tuple [.str "a", .bool true], .tuple [.str "a"], .tuple [.str "a", .int 1, .int 1], .tuple [.int 1, .str "a"], .tuple [.str "ab", .int 1], .tuple [.str "a", .int 1000000000001], .str "a1", .tuple [.str "", .int 1], .tuple [.list [.str "a"], .int 1]]) (.ref u_26) := dk_lst n_26 h_26 a_26
  walk_at "nk"
  refine ⟨L, n + 1, u_26, _, rfl, l_26, by omega, n_26, .inl (SqL.of h_26), by simp, by simp, fun vP H_27 hx e_27 l_27 => ?_⟩
  have s_27 : Sta L H_26 H_27 := e_27.sta
  have b_27 : LamX.Tabs C.tabs H_27 := tabs_adv e_27 l_26 b_26
  obtain ⟨dP, mP, dkP⟩ := dk_pick a_26 hx
  have tP : Dk K L H_27 dP vP := Dk.sta s_27 _ _ dkP
  clear hx dkP
  walk_at "nk"
  refine w_dnew ?_
  intro u_28 n_u_28
  generalize z_u_28 : upd _ u_28 _ = H_28
  obtain ⟨e_28, h_28, m_u_28⟩ := newly n_u_28 z_u_28
  clear z_u_28
  have l_28 := l_27.ext e_28
  have s_28 : Sta L H_27 H_28 := e_28.sta
  have b_28 : LamX.Tabs C.tabs H_28 := tabs_ext e_28 b_27
  have n_28 := l_27.ne n_u_28
  have d_28 : Dk K L H_28 (.dict []) (.ref u_28) := dk_dict n_28 h_28
  walk_at "nk"
  walk_at "nk"
  refine ⟨sm (by simp), ?_⟩
  intro u_29 n_u_29
  generalize z_u_29 : upd _ u_29 _ = H_29
  obtain ⟨e_29, h_29, m_u_29⟩ := newly n_u_29 z_u_29
  clear z_u_29
  have l_29 := l_28.ext e_29
  have s_29 : Sta L H_28 H_29 := e_29.sta
  have b_29 : LamX.Tabs C.tabs H_29 := tabs_ext e_29 b_28
  have n_29 := l_28.ne n_u_29
  have a_29 : DkAll K L H_29 [dP] _ := dk_cons (Dk.sta ((s_28).tr s_29) _ _ tP) (dk_nil)
  have d_29 : Dk K L H_29 (.list [dP]) (.ref u_29) := dk_lst n_29 h_29 a_29
  walk_at "nk"
  refine ⟨sm (by simp), ?_⟩
  intro u_30 n_u_30
  generalize z_u_30 : upd _ u_30 _ = H_30
  obtain ⟨e_30, h_30, m_u_30⟩ := newly n_u_30 z_u_30
  clear z_u_30
  have l_30 := l_29.ext e_30
  have s_30 : Sta L H_29 H_30 := e_30.sta
  have b_30 : LamX.Tabs C.tabs H_30 := tabs_ext e_30 b_29
  have n_30 := l_29.ne n_u_30
  have a_30 : DkAll K L H_30 [.str "a", .int 1] _ := dk_cons (dk_str _) (dk_cons (dk_int (1)) (dk_nil))
  have d_30 : Dk K L H_30 (.tuple [.str "a", .int 1]) (.ref u_30) := dk_tup n_30 h_30 a_30
  walk_at "nk"
  walk_at "nk"
  refine ⟨sm (by simp), ?_⟩
  intro u_31 n_u_31
  generalize z_u_31 : upd _ u_31 _ = H_31
  obtain ⟨e_31, h_31, m_u_31⟩ := newly n_u_31 z_u_31
  clear z_u_31
  have l_31 := l_30.ext e_31
  have s_31 : Sta L H_30 H_31 := e_31.sta
  have b_31 : LamX.Tabs C.tabs H_31 := tabs_ext e_31 b_30
  have n_31 := l_30.ne n_u_31
  have a_31 : DkAll K L H_31 [.tuple [.str "a", .int 1], dP] _ := dk_cons (Dk.sta (s_31) _ _ d_30) (dk_cons (Dk.sta ((((s_28).tr s_29).tr s_30).tr s_31) _ _ tP) (dk_nil))
  have d_31 : Dk K L H_31 (.list [.tuple [.str "a", .int 1], dP]) (.ref u_31) := dk_lst n_31 h_31 a_31
  walk_at "nk"
  walk_at "nk"
  refine ⟨sm (by simp), ?_⟩
  intro u_32 n_u_32
  generalize z_u_32 : upd _ u_32 _ = H_32
  obtain ⟨e_32, h_32, m_u_32⟩ := newly n_u_32 z_u_32
  clear z_u_32
  have l_32 := l_31.ext e_32
  have s_32 : Sta L H_31 H_32 := e_32.sta
  have b_32 : LamX.Tabs C.tabs H_32 := tabs_ext e_32 b_31
  have n_32 := l_31.ne n_u_32
  have a_32 : DkAll K L H_32 [.str "b", .int 2] _ := dk_cons (dk_str _) (dk_cons (dk_int (2)) (dk_nil))
  have d_32 : Dk K L H_32 (.tuple [.str "b", .int 2]) (.ref u_32) := dk_tup n_32 h_32 a_32
  walk_at "nk"
  refine ⟨sm (by simp), ?_⟩
  intro u_33 n_u_33
  generalize z_u_33 : upd _ u_33 _ = H_33
  obtain ⟨e_33, h_33, m_u_33⟩ := newly n_u_33 z_u_33
  clear z_u_33
  have l_33 := l_32.ext e_33
  have s_33 : Sta L H_32 H_33 := e_33.sta
  have b_33 : LamX.Tabs C.tabs H_33 := tabs_ext e_33 b_32
  have n_33 := l_32.ne n_u_33
  have a_33 : DkAll K L H_33 [dP, .tuple [.str "b", .int 2]] _ := dk_cons (Dk.sta ((((((s_28).tr s_29).tr s_30).tr s_31).tr s_32).tr s_33) _ _ tP) (dk_cons (Dk.sta (s_33) _ _ d_32) (dk_nil))
  have d_33 : Dk K L H_33 (.tuple [dP, .tuple [.str "b", .int 2]]) (.ref u_33) := dk_tup n_33 h_33 a_33
  walk_at "nk"
  refine ⟨sm (by simp), ?_⟩
  intro u_34 n_u_34
  generalize z_u_34 : upd _ u_34 _ = H_34
  obtain ⟨e_34, h_34, m_u_34⟩ := newly n_u_34 z_u_34
  clear z_u_34
  have l_34 := l_33.ext e_34
  have s_34 : Sta L H_33 H_34 := e_34.sta
  have b_34 : LamX.Tabs C.tabs H_34 := tabs_ext e_34 b_33
  have n_34 := l_33.ne n_u_34
  have a_34 : DkAll K L H_34 [.str "a", .int 1] _ := dk_cons (dk_str _) (dk_cons (dk_int (1)) (dk_nil))
  have d_34 : Dk K L H_34 (.tuple [.str "a", .int 1]) (.ref u_34) := dk_tup n_34 h_34 a_34
  walk_at "nk"
  refine ⟨sm (by simp), ?_⟩
  intro u_35 n_u_35
  generalize z_u_35 : upd _ u_35 _ = H_35
  obtain ⟨e_35, h_35, m_u_35⟩ := newly n_u_35 z_u_35
  clear z_u_35
  have l_35 := l_34.ext e_35
  have s_35 : Sta L H_34 H_35 := e_35.sta
  have b_35 : LamX.Tabs C.tabs H_35 := tabs_ext e_35 b_34
  have n_35 := l_34.ne n_u_35
  have a_35 : DkAll K L H_35 [.tuple [.str "a", .int 1]] _ := dk_cons (Dk.sta (s_35) _ _ d_34) (dk_nil)
  have d_35 : Dk K L H_35 (.list [.tuple [.str "a", .int 1]]) (.ref u_35) := dk_lst n_35 h_35 a_35
  walk_at "nk"
  refine ⟨u_35, 201, _, rfl, rfl, h_35, by decide, by decide, Nat.le_trans (by show 1 * 201 ≤ 1000; decide) (by decide : 1000 ≤ sizeLine), ?_⟩
  intro u_36 n_u_36
  generalize z_u_36 : upd _ u_36 _ = H_36
  obtain ⟨e_36, h_36, m_u_36⟩ := newly n_u_36 z_u_36
  clear z_u_36
  have l_36 := l_35.ext e_36
  have s_36 : Sta L H_35 H_36 := e_36.sta
  have b_36 : LamX.Tabs C.tabs H_36 := tabs_ext e_36 b_35
  have n_36 := l_35.ne n_u_36
  have d_36 : Dk K L H_36 (.list (List.replicate 201 [.tuple [.str "a", .int 1]]).flatten) (.ref u_36) := dk_lst n_36 h_36 (dk_rep 201 (DkAll.sta (s_36) _ _ a_35))
  walk_at "nk"
  refine ⟨sm (by simp), ?_⟩
  intro u_37 n_u_37
  generalize z_u_37 : upd _ u_37 _ = H_37
  obtain ⟨e_37, h_37, m_u_37⟩ := newly n_u_37 z_u_37
  clear z_u_37
  have l_37 := l_36.ext e_37
  have s_37 : Sta L H_36 H_37 := e_37.sta
  have b_37 : LamX.Tabs C.tabs H_37 := tabs_ext e_37 b_36
  have n_37 := l_36.ne n_u_37
  have a_37 : DkAll K L H_37 [.none, .int 5, .str "a", .dict [], .list [dP], .list [.tuple [.str "a", .int 1], dP], .tuple [dP, .tuple [.str "b", .int 2]], .list (List.replicate 201 [.tuple [.str "a", .int 1]]).flatten] _ := dk_cons (dk_non) (dk_cons (dk_int (5)) (dk_cons (dk_str _) (dk_cons (Dk.sta (((((((((s_29).tr s_30).tr s_31).tr s_32).tr s_33).tr s_34).tr s_35).tr s_36).tr s_37) _ _ d_28) (dk_cons (Dk.sta ((((((((s_30).tr s_31).tr s_32).tr s_33).tr s_34).tr s_35).tr s_36).tr s_37) _ _ d_29) (dk_cons (Dk.sta ((((((s_32).tr s_33).tr s_34).tr s_35).tr s_36).tr s_37) _ _ d_31) (dk_cons (Dk.sta ((((s_34).tr s_35).tr s_36).tr s_37) _ _ d_33) (dk_cons (Dk.sta (s_37) _ _ d_36) (dk_nil))))))))
  have d_37 : Dk K L H_37 (.list [.none, .int 5, .str "a", .dict [], .list [dP], .list [.tuple [.str "a", .int 1], dP], .tuple [dP, .tuple [.str "b", .int 2]], .list (List.replicate 201 [.tuple [.str "a", .int 1]]).flatten]) (.ref u_37) := dk_lst n_37 h_37 a_37
  walk_at "nk"
  refine ⟨L, n + 2, u_37, _, rfl, l_37, by omega, n_37, .inl (SqL.of h_37), by simp, by simp, fun vD H_38 hx e_38 l_38 => ?_⟩
  have s_38 : Sta L H_37 H_38 := e_38.sta
  have b_38 : LamX.Tabs C.tabs H_38 := tabs_adv e_38 l_37 b_37
  obtain ⟨dD, mD, dkD⟩ := dk_pick a_37 hx
  have tD : Dk K L H_38 dD vD := Dk.sta s_38 _ _ dkD
  clear hx dkD
  walk_at "nk"
  refine w_pow12 ?_
  walk_at "nk"
  refine ⟨sm (by simp), ?_⟩
  intro u_39 n_u_39
  generalize z_u_39 : upd _ u_39 _ = H_39
  obtain ⟨e_39, h_39, m_u_39⟩ := newly n_u_39 z_u_39
  clear z_u_39
  have l_39 := l_38.ext e_39
  have s_39 : Sta L H_38 H_39 := e_39.sta
  have b_39 : LamX.Tabs C.tabs H_39 := tabs_ext e_39 b_38
  have n_39 := l_38.ne n_u_39
  have a_39 : DkAll K L H_39 [.str "a", .int 1000000000000] _ := dk_cons (dk_str _) (dk_cons (dk_int (1000000000000)) (dk_nil))
  have d_39 : Dk K L H_39 (.tuple [.str "a", .int 1000000000000]) (.ref u_39) := dk_tup n_39 h_39 a_39
  walk_at "nk"
  refine ⟨sm (by simp), ?_⟩
  intro u_40 n_u_40
  generalize z_u_40 : upd _ u_40 _ = H_40
  obtain ⟨e_40, h_40, m_u_40⟩ := newly n_u_40 z_u_40
  clear z_u_40
  have l_40 := l_39.ext e_40
  have s_40 : Sta L H_39 H_40 := e_40.sta
  have b_40 : LamX.Tabs C.tabs H_40 := tabs_ext e_40 b_39
  have n_40 := l_39.ne n_u_40
  have a_40 : DkAll K L H_40 [.str "b", .int 1] _ := dk_cons (dk_str _) (dk_cons (dk_int (1)) (dk_nil))
  have d_40 : Dk K L H_40 (.tuple [.str "b", .int 1]) (.ref u_40) := dk_tup n_40 h_40 a_40
  walk_at "nk"
  refine ⟨sm (by simp), ?_⟩
  intro u_41 n_u_41
  generalize z_u_41 : upd _ u_41 _ = H_41
  obtain ⟨e_41, h_41, m_u_41⟩ := newly n_u_41 z_u_41
  clear z_u_41
  have l_41 := l_40.ext e_41
  have s_41 : Sta L H_40 H_41 := e_41.sta
  have b_41 : LamX.Tabs C.tabs H_41 := tabs_ext e_41 b_40
  have n_41 := l_40.ne n_u_41
  have a_41 : DkAll K L H_41 [.str "a", .int 1] _ := dk_cons (dk_str _) (dk_cons (dk_int (1)) (dk_nil))
  have d_41 : Dk K L H_41 (.tuple [.str "a", .int 1]) (.ref u_41) := dk_tup n_41 h_41 a_41
  walk_at "nk"
  refine ⟨sm (by simp), ?_⟩
  intro u_42 n_u_42
  generalize z_u_42 : upd _ u_42 _ = H_42
  obtain ⟨e_42, h_42, m_u_42⟩ := newly n_u_42 z_u_42
  clear z_u_42
  have l_42 := l_41.ext e_42
  have s_42 : Sta L H_41 H_42 := e_42.sta
  have b_42 : LamX.Tabs C.tabs H_42 := tabs_ext e_42 b_41
  have n_42 := l_41.ne n_u_42
  have a_42 : DkAll K L H_42 [.tuple [.str "a", .int 1000000000000], .tuple [.str "b", .int 1], .tuple [.str "a", .int 1]] _ := dk_cons (Dk.sta (((s_40).tr s_41).tr s_42) _ _ d_39) (dk_cons (Dk.sta ((s_41).tr s_42) _ _ d_40) (dk_cons (Dk.sta (s_42) _ _ d_41) (dk_nil)))
  have d_42 : Dk K L H_42 (.list [.tuple [.str "a", .int 1000000000000], .tuple [.str "b", .int 1], .tuple [.str "a", .int 1]]) (.ref u_42) := dk_lst n_42 h_42 a_42
  walk_at "nk"
  refine ⟨sm (by simp), ?_⟩
  intro u_43 n_u_43
  generalize z_u_43 : upd _ u_43 _ = H_43
  obtain ⟨e_43, h_43, m_u_43⟩ := newly n_u_43 z_u_43
  clear z_u_43
  have l_43 := l_42.ext e_43
  have s_43 : Sta L H_42 H_43 := e_43.sta
  have b_43 : LamX.Tabs C.tabs H_43 := tabs_ext e_43 b_42
  have n_43 := l_42.ne n_u_43
  have a_43 : DkAll K L H_43 [.str "a", .int 1] _ := dk_cons (dk_str _) (dk_cons (dk_int (1)) (dk_nil))
  have d_43 : Dk K L H_43 (.tuple [.str "a", .int 1]) (.ref u_43) := dk_tup n_43 h_43 a_43
  walk_at "nk"
  refine ⟨sm (by simp), ?_⟩
  intro u_44 n_u_44
  generalize z_u_44 : upd _ u_44 _ = H_44
  obtain ⟨e_44, h_44, m_u_44⟩ := newly n_u_44 z_u_44
  clear z_u_44
  have l_44 := l_43.ext e_44
  have s_44 : Sta L H_43 H_44 := e_44.sta
  have b_44 : LamX.Tabs C.tabs H_44 := tabs_ext e_44 b_43
  have n_44 := l_43.ne n_u_44
  have a_44 : DkAll K L H_44 [.str "b", .int 1] _ := dk_cons (dk_str _) (dk_cons (dk_int (1)) (dk_nil))
  have d_44 : Dk K L H_44 (.tuple [.str "b", .int 1]) (.ref u_44) := dk_tup n_44 h_44 a_44
  walk_at "nk"
  refine ⟨sm (by simp), ?_⟩
  intro u_45 n_u_45
  generalize z_u_45 : upd _ u_45 _ = H_45
  obtain ⟨e_45, h_45, m_u_45⟩ := newly n_u_45 z_u_45
  clear z_u_45
  have l_45 := l_44.ext e_45
  have s_45 : Sta L H_44 H_45 := e_45.sta
  have b_45 : LamX.Tabs C.tabs H_45 := tabs_ext e_45 b_44
  have n_45 := l_44.ne n_u_45
  have a_45 : DkAll K L H_45 [.tuple [.str "a", .int 1], .tuple [.str "b", .int 1]] _ := dk_cons (Dk.sta ((s_44).tr s_45) _ _ d_43) (dk_cons (Dk.sta (s_45) _ _ d_44) (dk_nil))
  have d_45 : Dk K L H_45 (.list [.tuple [.str "a", .int 1], .tuple [.str "b", .int 1]]) (.ref u_45) := dk_lst n_45 h_45 a_45
  walk_at "nk"
  refine ⟨u_45, 100, _, rfl, rfl, h_45, by decide, by decide, Nat.le_trans (by show 2 * 100 ≤ 1000; decide) (by decide : 1000 ≤ sizeLine), ?_⟩
  intro u_46 n_u_46
  generalize z_u_46 : upd _ u_46 _ = H_46
  obtain ⟨e_46, h_46, m_u_46⟩ := newly n_u_46 z_u_46
  clear z_u_46
  have l_46 := l_45.ext e_46
  have s_46 : Sta L H_45 H_46 := e_46.sta
  have b_46 : LamX.Tabs C.tabs H_46 := tabs_ext e_46 b_45
  have n_46 := l_45.ne n_u_46
  have d_46 : Dk K L H_46 (.list (List.replicate 100 [.tuple [.str "a", .int 1], .tuple [.str "b", .int 1]]).flatten) (.ref u_46) := dk_lst n_46 h_46 (dk_rep 100 (DkAll.sta (s_46) _ _ a_45))
  walk_at "nk"
  refine w_pow12 ?_
  walk_at "nk"
  refine ⟨sm (by simp), ?_⟩
  intro u_47 n_u_47
  generalize z_u_47 : upd _ u_47 _ = H_47
  obtain ⟨e_47, h_47, m_u_47⟩ := newly n_u_47 z_u_47
  clear z_u_47
  have l_47 := l_46.ext e_47
  have s_47 : Sta L H_46 H_47 := e_47.sta
  have b_47 : LamX.Tabs C.tabs H_47 := tabs_ext e_47 b_46
  have n_47 := l_46.ne n_u_47
  have a_47 : DkAll K L H_47 [.str "b", .int 1000000000000] _ := dk_cons (dk_str _) (dk_cons (dk_int (1000000000000)) (dk_nil))
  have d_47 : Dk K L H_47 (.tuple [.str "b", .int 1000000000000]) (.ref u_47) := dk_tup n_47 h_47 a_47
  walk_at "nk"
  refine ⟨sm (by simp), ?_⟩
  intro u_48 n_u_48
  generalize z_u_48 : upd _ u_48 _ = H_48
  obtain ⟨e_48, h_48, m_u_48⟩ := newly n_u_48 z_u_48
  clear z_u_48
  have l_48 := l_47.ext e_48
  have s_48 : Sta L H_47 H_48 := e_48.sta
  have b_48 : LamX.Tabs C.tabs H_48 := tabs_ext e_48 b_47
  have n_48 := l_47.ne n_u_48
  have a_48 : DkAll K L H_48 [.str "a", .int 2] _ := dk_cons (dk_str _) (dk_cons (dk_int (2)) (dk_nil))
  have d_48 : Dk K L H_48 (.tuple [.str "a", .int 2]) (.ref u_48) := dk_tup n_48 h_48 a_48
  walk_at "nk"
  refine ⟨sm (by simp), ?_⟩
  intro u_49 n_u_49
  generalize z_u_49 : upd _ u_49 _ = H_49
  obtain ⟨e_49, h_49, m_u_49⟩ := newly n_u_49 z_u_49
  clear z_u_49
  have l_49 := l_48.ext e_49
  have s_49 : Sta L H_48 H_49 := e_49.sta
  have b_49 : LamX.Tabs C.tabs H_49 := tabs_ext e_49 b_48
  have n_49 := l_48.ne n_u_49
  have a_49 : DkAll K L H_49 [.tuple [.str "b", .int 1000000000000], .tuple [.str "a", .int 2]] _ := dk_cons (Dk.sta ((s_48).tr s_49) _ _ d_47) (dk_cons (Dk.sta (s_49) _ _ d_48) (dk_nil))
  have d_49 : Dk K L H_49 (.list [.tuple [.str "b", .int 1000000000000], .tuple [.str "a", .int 2]]) (.ref u_49) := dk_lst n_49 h_49 a_49
  walk_at "nk"
  refine ⟨sm (by simp), ?_⟩
  intro u_50 n_u_50
  generalize z_u_50 : upd _ u_50 _ = H_50
  obtain ⟨e_50, h_50, m_u_50⟩ := newly n_u_50 z_u_50
  clear z_u_50
  have l_50 := l_49.ext e_50
  have s_50 : Sta L H_49 H_50 := e_50.sta
  have b_50 : LamX.Tabs C.tabs H_50 := tabs_ext e_50 b_49
  have n_50 := l_49.ne n_u_50
  have a_50 : DkAll K L H_50 [.list [.tuple [.str "a", .int 1000000000000], .tuple [.str "b", .int 1], .tuple [.str "a", .int 1]], .list (List.replicate 100 [.tuple [.str "a", .int 1], .tuple [.str "b", .int 1]]).flatten, .list [.tuple [.str "b", .int 1000000000000], .tuple [.str "a", .int 2]]] _ := dk_cons (Dk.sta ((((((((s_43).tr s_44).tr s_45).tr s_46).tr s_47).tr s_48).tr s_49).tr s_50) _ _ d_42) (dk_cons (Dk.sta ((((s_47).tr s_48).tr s_49).tr s_50) _ _ d_46) (dk_cons (Dk.sta (s_50) _ _ d_49) (dk_nil)))
  have d_50 : Dk K L H_50 (.list [.list [.tuple [.str "a", .int 1000000000000], .tuple [.str "b", .int 1], .tuple [.str "a", .int 1]], .list (List.replicate 100 [.tuple [.str "a", .int 1], .tuple [.str "b", .int 1]]).flatten, .list [.tuple [.str "b", .int 1000000000000], .tuple [.str "a", .int 2]]]) (.ref u_50) := dk_lst n_50 h_50 a_50
  walk_at "nk"
  refine ⟨L, n + 3, u_50, _, rfl, l_50, by omega, n_50, .inl (SqL.of h_50), by simp, by simp, fun vG H_51 hx e_51 l_51 => ?_⟩
  have s_51 : Sta L H_50 H_51 := e_51.sta
  have b_51 : LamX.Tabs C.tabs H_51 := tabs_adv e_51 l_50 b_50
  obtain ⟨dG, mG, dkG⟩ := dk_pick a_50 hx
  have tG : Dk K L H_51 dG vG := Dk.sta s_51 _ _ dkG
  clear hx dkG
  walk_at "nk"
  have tb4 : LamX.Tabs C.tabs H_51 := b_51
  have gW : Dk K L H_51 dW vW := Dk.sta ((((((((((((((((((((((((((((((((((((((s_14).tr s_15).tr s_16).tr s_17).tr s_18).tr s_19).tr s_20).tr s_21).tr s_22).tr s_23).tr s_24).tr s_25).tr s_26).tr s_27).tr s_28).tr s_29).tr s_30).tr s_31).tr s_32).tr s_33).tr s_34).tr s_35).tr s_36).tr s_37).tr s_38).tr s_39).tr s_40).tr s_41).tr s_42).tr s_43).tr s_44).tr s_45).tr s_46).tr s_47).tr s_48).tr s_49).tr s_50).tr s_51) _ _ tW
  have gD : Dk K L H_51 dD vD := Dk.sta (((((((((((((s_39).tr s_40).tr s_41).tr s_42).tr s_43).tr s_44).tr s_45).tr s_46).tr s_47).tr s_48).tr s_49).tr s_50).tr s_51) _ _ tD
  have gG := tG
  have sH : Sta L H_0 H_51 := ((((((((((((((((((((((((((((((((((((((((((((((((((s_1).tr s_2).tr s_3).tr s_4).tr s_5).tr s_6).tr s_7).tr s_8).tr s_9).tr s_10).tr s_11).tr s_12).tr s_13).tr s_14).tr s_15).tr s_16).tr s_17).tr s_18).tr s_19).tr s_20).tr s_21).tr s_22).tr s_23).tr s_24).tr s_25).tr s_26).tr s_27).tr s_28).tr s_29).tr s_30).tr s_31).tr s_32).tr s_33).tr s_34).tr s_35).tr s_36).tr s_37).tr s_38).tr s_39).tr s_40).tr s_41).tr s_42).tr s_43).tr s_44).tr s_45).tr s_46).tr s_47).tr s_48).tr s_49).tr s_50).tr s_51
  have lH := l_51
  have tbH := tb4
  generalize H_51 = HH at gW gD gG sH lH tbH ⊢
  have bW := List.all_eq_true.mp waysB_bad dW mW
  have bP := List.all_eq_true.mp pairsB_bad dP mP
  simp only [Bool.and_eq_true, Option.isNone_iff_eq_none] at bP
  obtain ⟨bD, fD⟩ := wordsB_bad bP.1 bP.2 dD mD
  have bG := List.all_eq_true.mp greatsB_ok dG mG
  obtain ⟨lg, wg, gg, fG⟩ : ∃ l, wordD dG = some l ∧ great l = true ∧ fewB dG = true := by
    simp only [Bool.and_eq_true] at bG
    cases e : wordD dG with
    | none => rw [e] at bG; exact absurd bG.2 Bool.false_ne_true
    | some l => rw [e] at bG; exact ⟨l, rfl, bG.2, bG.1⟩
  refine ⟨tbH, fun G1 x1 t1 E N hE hN => ?_⟩
  walk_at "nk"
  refine w_heard1 (Dk.q _ _ (Dk.sta (ext_sta x1) _ _ gW)) bW hE fun G2 p1 e2 h2 => ?_
  have s2 : Sta L HH G2 := (ext_sta (L := L) x1).tr e2.sta
  have lan2 := (lH.extN x1).ext e2
  have q2 := tabs_ext e2 t1
  walk_at "nk"
  refine ⟨q2, fun G3 x3 t3 E N hE hN => ?_⟩
  walk_at "nk"
  refine w_heard2 (Dk.q _ _ (Dk.sta (s2.tr (ext_sta x3)) _ _ gD)) bD (fewB_lay fD).1 (fewB_lay fD).2 hE fun G4 p2 e4 h4 => ?_
  have s4 : Sta L HH G4 := (s2.tr (ext_sta (L := L) x3)).tr e4.sta
  have lan4 := (lan2.extN x3).ext e4
  have q4 := tabs_ext e4 t3
  have k1 := e4 _ _ (x3 _ _ h2 (fun _ z => nomatch z))
  walk_at "nk"
  refine ⟨q4, fun G5 x5 t5 E N hE hN => ?_⟩
  walk_at "nk"
  refine w_heard3 (Dk.q _ _ (Dk.sta (s4.tr (ext_sta x5)) _ _ gG)) wg gg (fewB_lay fG).1 (fewB_lay fG).2 hE fun G6 p3 e6 h6 => ?_
  have s6 : Sta L HH G6 := (s4.tr (ext_sta (L := L) x5)).tr e6.sta
  have lan6 := (lan4.extN x5).ext e6
  have q6 := tabs_ext e6 t5
  have k1 := e6 _ _ (x5 _ _ k1 (fun _ z => nomatch z))
  have k2 := e6 _ _ (x5 _ _ h4 (fun _ z => nomatch z))
  walk_at "nk"
  refine ⟨sm (by simp), ?_⟩
  intro y1 n_y1
  generalize z_y1 : upd _ y1 _ = G7
  obtain ⟨e7, h7, m_y1⟩ := newly n_y1 z_y1
  clear z_y1
  walk_at "nk"
  refine ⟨sm (by simp), ?_⟩
  intro y2 n_y2
  generalize z_y2 : upd _ y2 _ = G8
  obtain ⟨e8, h8, m_y2⟩ := newly n_y2 z_y2
  clear z_y2
  walk_at "nk"
  refine ⟨sm (by simp), ?_⟩
  intro y3 n_y3
  generalize z_y3 : upd _ y3 _ = G9
  obtain ⟨e9, h9, m_y3⟩ := newly n_y3 z_y3
  clear z_y3
  walk_at "nk"
  refine ⟨sm (by simp), ?_⟩
  intro y4 n_y4
  generalize z_y4 : upd _ y4 _ = G10
  obtain ⟨e10, h10, m_y4⟩ := newly n_y4 z_y4
  clear z_y4
  walk_at "nk"
  refine ⟨sm (by simp), ?_⟩
  intro y5 n_y5
  generalize z_y5 : upd _ y5 _ = G11
  obtain ⟨e11, h11, m_y5⟩ := newly n_y5 z_y5
  clear z_y5
  have x10 := e11
  have x9 := e10.tr x10
  have x8 := e9.tr x9
  have x7 := e8.tr x8
  have x6 := e7.tr x7
  refine w_eqD (d := .list [.tuple [.str "way", .str "way"], .tuple [.str "word", .str "word"], .tuple [.str "misfit", .str "word"]]) (e := .list [.tuple [.str "way", .str "way"], .tuple [.str "word", .str "word"], .tuple [.str "misfit", .str "word"]]) (.lst (SqL.of (x7 _ _ h7)) (.cons (dp_ss (x6 _ _ k1)) (.cons (dp_ss (x6 _ _ k2)) (.cons (dp_ss (x6 _ _ h6)) .nil)))) (.lst (SqL.of h11) (.cons (dp_ss (x8 _ _ h8)) (.cons (dp_ss (x9 _ _ h9)) (.cons (dp_ss (x10 _ _ h10)) .nil)))) (by decide +kernel) (by decide +kernel) ?_
  rw [eqv_self (by decide +kernel)]
  exact k _ _ ((sH.tr s6).tr x6.sta) (by omega) (lan6.ext x6) (tabs_ext x6 q6)
end
end NK

namespace NK
open PySem PySem.Spec L2
structure Ad where
  a_is_integer : Addr
  a_is_within : Addr
  a_is_list : Addr
  a_is_point : Addr
  a_common : Addr
  a_is_way : Addr
  a_word_in : Addr
  a_ways_in : Addr
  a_is_letter : Addr
  a_need_word : Addr
  a_word_of : Addr
  a_ways_of : Addr
  a_law_lexicon : Addr
  a_law_page : Addr
  a_law_one_of : Addr
  a_law_heard : Addr
  a_law_way : Addr
  a_law_due : Addr
  a_law_led : Addr
  a_law_word_right : Addr
  a_law_refused_right : Addr
  a_law : Addr
  i_BadWord : Addr
  i_BadWay : Addr
  i_Misfit : Addr
  c_law_word_right : Addr
  p_law_word_right : Addr
  c_law_refused_right : Addr
  p_law_refused_right : Addr
structure Txt (P : Program) (K : PySem.W.Frag) (mg : Str → Option Value) (C : CA) (A : Ad) : Prop where
  g_is_integer : mg "is_integer" = some (.ref A.a_is_integer)
  k_is_integer : PySem.W.keepIn K (.ref A.a_is_integer) = true
  g_is_within : mg "is_within" = some (.ref A.a_is_within)
  k_is_within : PySem.W.keepIn K (.ref A.a_is_within) = true
  g_is_list : mg "is_list" = some (.ref A.a_is_list)
  k_is_list : PySem.W.keepIn K (.ref A.a_is_list) = true
  g_is_point : mg "is_point" = some (.ref A.a_is_point)
  k_is_point : PySem.W.keepIn K (.ref A.a_is_point) = true
  g_common : mg "common" = some (.ref A.a_common)
  k_common : PySem.W.keepIn K (.ref A.a_common) = true
  g_is_way : mg "is_way" = some (.ref A.a_is_way)
  k_is_way : PySem.W.keepIn K (.ref A.a_is_way) = true
  g_word_in : mg "word_in" = some (.ref A.a_word_in)
  k_word_in : PySem.W.keepIn K (.ref A.a_word_in) = true
  g_ways_in : mg "ways_in" = some (.ref A.a_ways_in)
  k_ways_in : PySem.W.keepIn K (.ref A.a_ways_in) = true
  g_is_letter : mg "is_letter" = some (.ref A.a_is_letter)
  k_is_letter : PySem.W.keepIn K (.ref A.a_is_letter) = true
  g_need_word : mg "need_word" = some (.ref A.a_need_word)
  k_need_word : PySem.W.keepIn K (.ref A.a_need_word) = true
  g_word_of : mg "word_of" = some (.ref A.a_word_of)
  k_word_of : PySem.W.keepIn K (.ref A.a_word_of) = true
  g_ways_of : mg "ways_of" = some (.ref A.a_ways_of)
  k_ways_of : PySem.W.keepIn K (.ref A.a_ways_of) = true
  g_law_lexicon : mg "_law_lexicon" = some (.ref A.a_law_lexicon)
  k_law_lexicon : PySem.W.keepIn K (.ref A.a_law_lexicon) = true
  g_law_page : mg "_law_page" = some (.ref A.a_law_page)
  k_law_page : PySem.W.keepIn K (.ref A.a_law_page) = true
  g_law_one_of : mg "_law_one_of" = some (.ref A.a_law_one_of)
  k_law_one_of : PySem.W.keepIn K (.ref A.a_law_one_of) = true
  g_law_heard : mg "_law_heard" = some (.ref A.a_law_heard)
  k_law_heard : PySem.W.keepIn K (.ref A.a_law_heard) = true
  g_law_way : mg "_law_way" = some (.ref A.a_law_way)
  k_law_way : PySem.W.keepIn K (.ref A.a_law_way) = true
  g_law_due : mg "_law_due" = some (.ref A.a_law_due)
  k_law_due : PySem.W.keepIn K (.ref A.a_law_due) = true
  g_law_led : mg "_law_led" = some (.ref A.a_law_led)
  k_law_led : PySem.W.keepIn K (.ref A.a_law_led) = true
  g_law_word_right : mg "_law_word_right" = some (.ref A.a_law_word_right)
  k_law_word_right : PySem.W.keepIn K (.ref A.a_law_word_right) = true
  g_law_refused_right : mg "_law_refused_right" = some (.ref A.a_law_refused_right)
  k_law_refused_right : PySem.W.keepIn K (.ref A.a_law_refused_right) = true
  g_law : mg "law" = some (.ref A.a_law)
  k_law : PySem.W.keepIn K (.ref A.a_law) = true
  n_isinstance : mg "isinstance" = none
  n_int : mg "int" = none
  n_bool : mg "bool" = none
  n_tuple : mg "tuple" = none
  n_list : mg "list" = none
  n_len : mg "len" = none
  n_all : mg "all" = none
  n_abs : mg "abs" = none
  n_reversed : mg "reversed" = none
  n_str : mg "str" = none
  n_super : mg "super" = none
  n_max : mg "max" = none
  n_range : mg "range" = none
  n_repr : mg "repr" = none
  c_MOST_WAY : ∃ t, mg "MOST_WAY" = some (.int 1000000000000 t)
  c_A : ∃ t, mg "A" = some (.str "a" t)
  c_B : ∃ t, mg "B" = some (.str "b" t)
  c_EAST : ∃ t, mg "EAST" = some (.str "east" t)
  c_NORTH : ∃ t, mg "NORTH" = some (.str "north" t)
  c_MOST_PAIRS : ∃ t, mg "MOST_PAIRS" = some (.int 200 t)
  c_MOST_TIMES : ∃ t, mg "MOST_TIMES" = some (.int 1000000000000 t)
  g_BadWord : mg "BadWord" = some (.ref C.BadWord)
  g_BadWay : mg "BadWay" = some (.ref C.BadWay)
  g_Misfit : mg "Misfit" = some (.ref C.Misfit)
  g_MirrorError : mg "MirrorError" = some (.ref C.MirrorError)
  g_TooMany : mg "TooMany" = some (.ref C.TooMany)
  e_BadWord : ErrC P K C.BadWord A.i_BadWord
  e_BadWay : ErrC P K C.BadWay A.i_BadWay
  e_Misfit : ErrC P K C.Misfit A.i_Misfit
  tm_law_word_right : (A.p_law_word_right, (("_law_word_right" : Str) ++ ".<locals>.") ++ "<lambda>") ∈ C.tabs
  tu_law_word_right : ∀ p ∈ C.tabs, p.1 = A.p_law_word_right → p.2 = (("_law_word_right" : Str) ++ ".<locals>.") ++ "<lambda>"
  tm_law_refused_right : (A.p_law_refused_right, (("_law_refused_right" : Str) ++ ".<locals>.") ++ "<lambda>") ∈ C.tabs
  tu_law_refused_right : ∀ p ∈ C.tabs, p.1 = A.p_law_refused_right → p.2 = (("_law_refused_right" : Str) ++ ".<locals>.") ++ "<lambda>"
structure Fds where
  f_is_integer : FuncData
  f_is_within : FuncData
  f_is_list : FuncData
  f_is_point : FuncData
  f_common : FuncData
  f_is_way : FuncData
  f_word_in : FuncData
  f_ways_in : FuncData
  f_is_letter : FuncData
  f_need_word : FuncData
  f_word_of : FuncData
  f_ways_of : FuncData
  f_law_lexicon : FuncData
  f_law_page : FuncData
  f_law_one_of : FuncData
  f_law_heard : FuncData
  f_law_way : FuncData
  f_law_due : FuncData
  f_law_led : FuncData
  f_law_word_right : FuncData
  f_law_refused_right : FuncData
  f_law : FuncData
structure Bnd (K : PySem.W.Frag) (D : Fds) : Prop where
  b_is_integer : Binds K D.f_is_integer ["value"] []
  b_is_within : Binds K D.f_is_within ["value", "least", "most"] []
  b_is_list : Binds K D.f_is_list ["value"] []
  b_is_point : Binds K D.f_is_point ["value"] []
  b_common : Binds K D.f_common ["one", "other"] []
  b_is_way : Binds K D.f_is_way ["value"] []
  b_word_in : Binds K D.f_word_in ["way"] []
  b_ways_in : Binds K D.f_ways_in ["word"] []
  b_is_letter : Binds K D.f_is_letter ["value"] []
  b_need_word : Binds K D.f_need_word ["value"] []
  b_word_of : Binds K D.f_word_of ["way"] []
  b_ways_of : Binds K D.f_ways_of ["word"] []
  b_law_lexicon : Binds K D.f_law_lexicon ["_law_script"] []
  b_law_page : Binds K D.f_law_page ["_law_lexicon_here", "_law_many"] []
  b_law_one_of : Binds K D.f_law_one_of ["_law_lexicon_here", "_law_some"] []
  b_law_heard : Binds K D.f_law_heard ["_law_ask"] []
  b_law_way : Binds K D.f_law_way ["_law_lexicon_here"] []
  b_law_due : Binds K D.f_law_due ["_law_way_here"] []
  b_law_led : Binds K D.f_law_led ["_law_way_here", "_law_word"] []
  b_law_word_right : Binds K D.f_law_word_right ["_law_lexicon_here"] []
  b_law_refused_right : Binds K D.f_law_refused_right ["_law_lexicon_here"] []
  b_law : Binds K D.f_law ["_law_script"] []
  kb_ways_of_0_word : KBinds K D.f_ways_of ["word"] ["word"] (kb_ways_of_0_word_g (α := Value)) (kb_ways_of_0_word_g (α := V))
  kb_word_of_0_way : KBinds K D.f_word_of ["way"] ["way"] (kb_word_of_0_way_g (α := Value)) (kb_word_of_0_way_g (α := V))
def top (i : Nat) : Stmt := PySem.Challenge.pw_neverhit_k24_words_and_ways.main.body.getD i (.Pass ⟨0, 0, 0, 0⟩)
abbrev s_is_integer : Stmt := top 8
theorem sc_is_integer : FnScope N_is_integer ["value"] (defScope s_is_integer) := ⟨rfl, rfl, rfl, by decide +kernel, rfl, by decide +kernel, by decide +kernel⟩
abbrev s_is_within : Stmt := top 9
theorem sc_is_within : FnScope N_is_within ["value", "least", "most"] (defScope s_is_within) := ⟨rfl, rfl, rfl, by decide +kernel, rfl, by decide +kernel, by decide +kernel⟩
abbrev s_is_list : Stmt := top 10
theorem sc_is_list : FnScope N_is_list ["value"] (defScope s_is_list) := ⟨rfl, rfl, rfl, by decide +kernel, rfl, by decide +kernel, by decide +kernel⟩
abbrev s_is_point : Stmt := top 11
theorem sc_is_point : FnScope N_is_point ["value"] (defScope s_is_point) := ⟨rfl, rfl, rfl, by decide +kernel, rfl, by decide +kernel, by decide +kernel⟩
abbrev s_common : Stmt := top 12
theorem sc_common : FnScope N_common ["one", "other"] (defScope s_common) := ⟨rfl, rfl, rfl, by decide +kernel, rfl, by decide +kernel, by decide +kernel⟩
abbrev s_is_way : Stmt := top 13
theorem sc_is_way : FnScope N_is_way ["value"] (defScope s_is_way) := ⟨rfl, rfl, rfl, by decide +kernel, rfl, by decide +kernel, by decide +kernel⟩
abbrev s_word_in : Stmt := top 21
theorem sc_word_in : FnScope N_word_in ["way"] (defScope s_word_in) := ⟨rfl, rfl, rfl, by decide +kernel, rfl, by decide +kernel, by decide +kernel⟩
abbrev s_ways_in : Stmt := top 22
theorem sc_ways_in : FnScope N_ways_in ["word"] (defScope s_ways_in) := ⟨rfl, rfl, rfl, by decide +kernel, rfl, by decide +kernel, by decide +kernel⟩
abbrev s_is_letter : Stmt := top 23
theorem sc_is_letter : FnScope N_is_letter ["value"] (defScope s_is_letter) := ⟨rfl, rfl, rfl, by decide +kernel, rfl, by decide +kernel, by decide +kernel⟩
abbrev s_need_word : Stmt := top 24
theorem sc_need_word : FnScope N_need_word ["value"] (defScope s_need_word) := ⟨rfl, rfl, rfl, by decide +kernel, rfl, by decide +kernel, by decide +kernel⟩
abbrev s_word_of : Stmt := top 25
theorem sc_word_of : FnScope N_word_of ["way"] (defScope s_word_of) := ⟨rfl, rfl, rfl, by decide +kernel, rfl, by decide +kernel, by decide +kernel⟩
abbrev s_ways_of : Stmt := top 26
theorem sc_ways_of : FnScope N_ways_of ["word"] (defScope s_ways_of) := ⟨rfl, rfl, rfl, by decide +kernel, rfl, by decide +kernel, by decide +kernel⟩
abbrev s_law_lexicon : Stmt := top 28
theorem sc_law_lexicon : FnScope N_law_lexicon ["_law_script"] (defScope s_law_lexicon) := ⟨rfl, rfl, rfl, by decide +kernel, rfl, by decide +kernel, by decide +kernel⟩
abbrev s_law_page : Stmt := top 29
theorem sc_law_page : FnScope N_law_page ["_law_lexicon_here", "_law_many"] (defScope s_law_page) := ⟨rfl, rfl, rfl, by decide +kernel, rfl, by decide +kernel, by decide +kernel⟩
abbrev s_law_one_of : Stmt := top 30
theorem sc_law_one_of : FnScope N_law_one_of ["_law_lexicon_here", "_law_some"] (defScope s_law_one_of) := ⟨rfl, rfl, rfl, by decide +kernel, rfl, by decide +kernel, by decide +kernel⟩
abbrev s_law_heard : Stmt := top 31
theorem sc_law_heard : FnScope N_law_heard ["_law_ask"] (defScope s_law_heard) := ⟨rfl, rfl, rfl, by decide +kernel, rfl, by decide +kernel, by decide +kernel⟩
abbrev s_law_way : Stmt := top 32
theorem sc_law_way : FnScope N_law_way ["_law_lexicon_here"] (defScope s_law_way) := ⟨rfl, rfl, rfl, by decide +kernel, rfl, by decide +kernel, by decide +kernel⟩
abbrev s_law_due : Stmt := top 33
theorem sc_law_due : FnScope N_law_due ["_law_way_here"] (defScope s_law_due) := ⟨rfl, rfl, rfl, by decide +kernel, rfl, by decide +kernel, by decide +kernel⟩
abbrev s_law_led : Stmt := top 34
theorem sc_law_led : FnScope N_law_led ["_law_way_here", "_law_word"] (defScope s_law_led) := ⟨rfl, rfl, rfl, by decide +kernel, rfl, by decide +kernel, by decide +kernel⟩
abbrev s_law_word_right : Stmt := top 35
theorem sc_law_word_right : FnScope N_law_word_right ["_law_lexicon_here"] (defScope s_law_word_right) := ⟨rfl, rfl, rfl, by decide +kernel, rfl, by decide +kernel, by decide +kernel⟩
abbrev s_law_refused_right : Stmt := top 36
theorem sc_law_refused_right : FnScope N_law_refused_right ["_law_lexicon_here"] (defScope s_law_refused_right) := ⟨rfl, rfl, rfl, by decide +kernel, rfl, by decide +kernel, by decide +kernel⟩
abbrev s_law : Stmt := top 37
theorem sc_law : FnScope N_law ["_law_script"] (defScope s_law) := ⟨rfl, rfl, rfl, by decide +kernel, rfl, by decide +kernel, by decide +kernel⟩
theorem kb_ways_of_0_word_to (kV doc pm : Value) (an : Option Addr) (cdv ct : Value) (us ws : List Value) (hl : (kb_ways_of_0_word_g us ws).length = (["word"] : List Str).length) : bindArgs (PySem.W.fnOf "ways_of" "ways_of" (defArgs s_ways_of) (defBody s_ways_of) (defScope s_ways_of) .none kV doc pm an cdv ct) ⟨us, (["word"] : List Str).zip ws⟩ = pure ((["word"] : List Str).zip (kb_ways_of_0_word_g us ws)) := by
  unfold kb_ways_of_0_word_g at hl ⊢
  split at hl
  · rfl
  · exact absurd hl (by simp)
theorem kb_ways_of_0_word_rel {vs : List V} {us : List Value} {zs : List V} {ws : List Value} (r : Vals vs us) (s : Vals zs ws) : Vals (kb_ways_of_0_word_g vs zs) (kb_ways_of_0_word_g us ws) := by
  unfold kb_ways_of_0_word_g
  split
  · exact match r, s with | .nil, .cons q0 .nil => .cons q0 .nil
  · rename_i no
    split
    · exfalso
      revert no
      exact match r, s with | .nil, .cons q0 .nil => fun no => by apply no <;> rfl
    · exact .nil
theorem kb_word_of_0_way_to (kV doc pm : Value) (an : Option Addr) (cdv ct : Value) (us ws : List Value) (hl : (kb_word_of_0_way_g us ws).length = (["way"] : List Str).length) : bindArgs (PySem.W.fnOf "word_of" "word_of" (defArgs s_word_of) (defBody s_word_of) (defScope s_word_of) .none kV doc pm an cdv ct) ⟨us, (["way"] : List Str).zip ws⟩ = pure ((["way"] : List Str).zip (kb_word_of_0_way_g us ws)) := by
  unfold kb_word_of_0_way_g at hl ⊢
  split at hl
  · rfl
  · exact absurd hl (by simp)
theorem kb_word_of_0_way_rel {vs : List V} {us : List Value} {zs : List V} {ws : List Value} (r : Vals vs us) (s : Vals zs ws) : Vals (kb_word_of_0_way_g vs zs) (kb_word_of_0_way_g us ws) := by
  unfold kb_word_of_0_way_g
  split
  · exact match r, s with | .nil, .cons q0 .nil => .cons q0 .nil
  · rename_i no
    split
    · exfalso
      revert no
      exact match r, s with | .nil, .cons q0 .nil => fun no => by apply no <;> rfl
    · exact .nil
section
variable {P : Program} {w : World} {K : PySem.W.Frag} {mg : Str → Option Value} {base : Heap} {C : CA} {A : Ad} {D : Fds}
theorem ok_is_integer (F : Fun K "is_integer" "is_integer" s_is_integer A.a_is_integer D.f_is_integer) (T : Txt P K mg C A) (B : Bnd K D) 
    (pure : ∀ vs H Q E, sp_is_integer K C vs H Q E → vs.length = 1 ∧ t_is_integer K C { nx := fun _ H' => Q .non H', rt := Q } (start N_is_integer vs) H) : FnOk P w K mg base CX0 1 A.a_is_integer D.f_is_integer ["value"] (sp_is_integer K C) := by
  have nd := sc_is_integer.nd
  refine F.ok sc_is_integer (fun vs H Q E h => (pure vs H Q E h).1) fun cdv A' outer s H vs Q E hr h => ⟨t_is_integer K C, ?_, (pure vs H Q E h).2⟩
  have hu64 := hr.units
  have hu65 := u65 hr
  exact (pss_one (ps_ret (pe_and (pe_callB call_isi (by rfl) T.n_isinstance (by decide +kernel) (pa_cons (pv 0) (pa_cons (pe_bltn (v := .ty "int") (by rfl) T.n_int (by decide +kernel) rfl) pa_nil))) (pe_one (pe_not (pe_callB call_isi (by rfl) T.n_isinstance (by decide +kernel) (pa_cons (pv 0) (pa_cons (pe_bltn (v := .ty "bool") (by rfl) T.n_bool (by decide +kernel) rfl) pa_nil))))))))
theorem ok_is_within (F : Fun K "is_within" "is_within" s_is_within A.a_is_within D.f_is_within) (T : Txt P K mg C A) (B : Bnd K D) (O_is_integer : FnOk P w K mg base CX0 1 A.a_is_integer D.f_is_integer ["value"] (sp_is_integer K C))
    (pure : ∀ vs H Q E, sp_is_within K C vs H Q E → vs.length = 3 ∧ t_is_within K C { nx := fun _ H' => Q .non H', rt := Q } (start N_is_within vs) H) : FnOk P w K mg base CX0 2 A.a_is_within D.f_is_within ["value", "least", "most"] (sp_is_within K C) := by
  have nd := sc_is_within.nd
  refine F.ok sc_is_within (fun vs H Q E h => (pure vs H Q E h).1) fun cdv A' outer s H vs Q E hr h => ⟨t_is_within K C, ?_, (pure vs H Q E h).2⟩
  have hu64 := hr.units
  have hu65 := u65 hr
  exact (pss_then (ps_if (pt_not (pt_val (pe_call O_is_integer (hr.mono (by decide)) rfl T.g_is_integer T.k_is_integer B.b_is_integer .nil pass0 (pa_cons (pv 0) pa_nil)))) (pss_one (ps_ret pe_bl)) pss_nil)
      (pss_one (ps_ret (pe_and (pe_or (pe_cmpR o_isNo (pv 1) pe_non (by first | rfl | exact nomark _)) (pe_one (pe_cmpR o_le (pv 1) (pv 0) (by first | rfl | exact nomark _)))) (pe_one (pe_or (pe_cmpR o_isNo (pv 2) pe_non (by first | rfl | exact nomark _)) (pe_one (pe_cmpR o_le (pv 0) (pv 2) (by first | rfl | exact nomark _)))))))))
theorem ok_is_list (F : Fun K "is_list" "is_list" s_is_list A.a_is_list D.f_is_list) (T : Txt P K mg C A) (B : Bnd K D) 
    (pure : ∀ vs H Q E, sp_is_list K C vs H Q E → vs.length = 1 ∧ t_is_list K C { nx := fun _ H' => Q .non H', rt := Q } (start N_is_list vs) H) : FnOk P w K mg base CX0 1 A.a_is_list D.f_is_list ["value"] (sp_is_list K C) := by
  have nd := sc_is_list.nd
  refine F.ok sc_is_list (fun vs H Q E h => (pure vs H Q E h).1) fun cdv A' outer s H vs Q E hr h => ⟨t_is_list K C, ?_, (pure vs H Q E h).2⟩
  have hu64 := hr.units
  have hu65 := u65 hr
  exact (pss_one (ps_ret (pe_callB call_isiT (by rfl) T.n_isinstance (by decide +kernel) (pa_cons (pv 0) (pa_cons (pe_tup (pa_cons (pe_bltn (v := .ty "list") (by rfl) T.n_list (by decide +kernel) rfl) (pa_cons (pe_bltn (v := .ty "tuple") (by rfl) T.n_tuple (by decide +kernel) rfl) pa_nil))) pa_nil)))))
theorem ok_is_point (F : Fun K "is_point" "is_point" s_is_point A.a_is_point D.f_is_point) (T : Txt P K mg C A) (B : Bnd K D) (O_is_list : FnOk P w K mg base CX0 1 A.a_is_list D.f_is_list ["value"] (sp_is_list K C)) (O_is_integer : FnOk P w K mg base CX0 1 A.a_is_integer D.f_is_integer ["value"] (sp_is_integer K C))
    (pure : ∀ vs H Q E, sp_is_point K C vs H Q E → vs.length = 1 ∧ t_is_point K C { nx := fun _ H' => Q .non H', rt := Q } (start N_is_point vs) H) : FnOk P w K mg base CX0 2 A.a_is_point D.f_is_point ["value"] (sp_is_point K C) := by
  have nd := sc_is_point.nd
  refine F.ok sc_is_point (fun vs H Q E h => (pure vs H Q E h).1) fun cdv A' outer s H vs Q E hr h => ⟨t_is_point K C, ?_, (pure vs H Q E h).2⟩
  have hu64 := hr.units
  have hu65 := u65 hr
  exact (pss_one (ps_ret (pe_and (pe_call O_is_list (hr.mono (by decide)) rfl T.g_is_list T.k_is_list B.b_is_list .nil pass0 (pa_cons (pv 0) pa_nil)) (pe_and (pe_cmpR op_eq (pe_callB c_len (by rfl) T.n_len (by decide +kernel) (pa_cons (pv 0) pa_nil)) pe_int (by first | rfl | exact nomark _)) (pe_one (pe_callB (cr_all rfl) (by rfl) T.n_all (by decide +kernel) (pa_cons (pe_lc (own := [("each", 1)]) (tt := tYes) rfl nd (pi_seq (pv 0)) (blkOk_by (N := N_is_point) (sc := defScope s_is_point) (own := [("each", 1)]) (by decide +kernel)) (fun _ _ _ _ _ => (pg_name (i := 1) nd rfl (Or.inl rfl))) (fun _ _ _ _ _ => pts_nil) (fun _ _ _ _ _ => (pe_call O_is_integer (hr.mono (by decide)) rfl T.g_is_integer T.k_is_integer B.b_is_integer .nil pass0 (pa_cons (pv 1) pa_nil)))) pa_nil)))))))
theorem ok_common (F : Fun K "common" "common" s_common A.a_common D.f_common) (T : Txt P K mg C A) (B : Bnd K D) 
    (pure : ∀ vs H Q E, sp_common K C vs H Q E → vs.length = 2 ∧ t_common K C { nx := fun _ H' => Q .non H', rt := Q } (start N_common vs) H) : FnOk P w K mg base CX0 1 A.a_common D.f_common ["one", "other"] (sp_common K C) := by
  have nd := sc_common.nd
  refine F.ok sc_common (fun vs H Q E h => (pure vs H Q E h).1) fun cdv A' outer s H vs Q E hr h => ⟨t_common K C, ?_, (pure vs H Q E h).2⟩
  have hu64 := hr.units
  have hu65 := u65 hr
  exact (pss_then (ps_par rfl nd rfl rfl (by decide) rfl rfl (pa_cons (pe_callB c_abs (by rfl) T.n_abs (by decide +kernel) (pa_cons (pv 0) pa_nil)) (pa_cons (pe_callB c_abs (by rfl) T.n_abs (by decide +kernel) (pa_cons (pv 1) pa_nil)) pa_nil)) (by rfl))
      (pss_then (ps_while PassesOwn.never (pt_cmpR op_ne (pv 1) pe_int (by first | rfl | exact nomark _)) (pss_one (ps_par rfl nd rfl rfl (by decide) rfl rfl (pa_cons (pv 1) (pa_cons (pe_op o_mod (pv 0) (pv 1)) pa_nil)) (by rfl))))
      (pss_one (ps_ret (pv 0)))))
theorem ok_is_way (F : Fun K "is_way" "is_way" s_is_way A.a_is_way D.f_is_way) (T : Txt P K mg C A) (B : Bnd K D) (O_is_point : FnOk P w K mg base CX0 2 A.a_is_point D.f_is_point ["value"] (sp_is_point K C)) (O_is_within : FnOk P w K mg base CX0 2 A.a_is_within D.f_is_within ["value", "least", "most"] (sp_is_within K C)) (O_common : FnOk P w K mg base CX0 1 A.a_common D.f_common ["one", "other"] (sp_common K C))
    (pure : ∀ vs H Q E, sp_is_way K C vs H Q E → vs.length = 1 ∧ t_is_way K C { nx := fun _ H' => Q .non H', rt := Q } (start N_is_way vs) H) : FnOk P w K mg base CX0 3 A.a_is_way D.f_is_way ["value"] (sp_is_way K C) := by
  obtain ⟨tc_MOST_WAY, hc_MOST_WAY⟩ := T.c_MOST_WAY
  have nd := sc_is_way.nd
  refine F.ok sc_is_way (fun vs H Q E h => (pure vs H Q E h).1) fun cdv A' outer s H vs Q E hr h => ⟨t_is_way K C, ?_, (pure vs H Q E h).2⟩
  have hu64 := hr.units
  have hu65 := u65 hr
  exact (pss_then (ps_if (PW.pt (pw_or (pt_not (pt_val (pe_call O_is_point (hr.mono (by decide)) rfl T.g_is_point T.k_is_point B.b_is_point .nil pass0 (pa_cons (pv 0) pa_nil)))) (pw_or1 (pt_not (pt_val (pe_callB (cr_all rfl) (by rfl) T.n_all (by decide +kernel) (pa_cons (pe_lc (own := [("each", 1)]) (tt := tYes) rfl nd (pi_seq (pv 0)) (blkOk_by (N := N_is_way) (sc := defScope s_is_way) (own := [("each", 1)]) (by decide +kernel)) (fun _ _ _ _ _ => (pg_name (i := 1) nd rfl (Or.inl rfl))) (fun _ _ _ _ _ => pts_nil) (fun _ _ _ _ _ => (pe_call O_is_within (hr.mono (by decide)) rfl T.g_is_within T.k_is_within B.b_is_within .nil pass0 (pa_cons (pv 1) (pa_cons (pe_un u_neg (pe_glob rfl hc_MOST_WAY ⟨_, rfl⟩)) (pa_cons (pe_glob rfl hc_MOST_WAY ⟨_, rfl⟩) pa_nil)))))) pa_nil))))))) (pss_one (ps_ret pe_bl)) pss_nil)
      (pss_one (ps_ret (pe_cmpR op_eq (pe_call O_common (hr.mono (by decide)) rfl T.g_common T.k_common B.b_common .nil pass0 (pa_cons (pe_ix ix_seq (pv 0) pe_int (fun _ _ => rfl)) (pa_cons (pe_ix ix_seq (pv 0) pe_int (fun _ _ => rfl)) pa_nil))) pe_int (by first | rfl | exact nomark _)))))
theorem ok_word_in (F : Fun K "word_in" "word_in" s_word_in A.a_word_in D.f_word_in) (T : Txt P K mg C A) (B : Bnd K D) 
    (pure : ∀ vs H Q E, sp_word_in K C vs H Q E → vs.length = 1 ∧ t_word_in K C { nx := fun _ H' => Q .non H', rt := Q } (start N_word_in vs) H) : FnOk P w K mg base CX0 1 A.a_word_in D.f_word_in ["way"] (sp_word_in K C) := by
  obtain ⟨tc_A, hc_A⟩ := T.c_A
  obtain ⟨tc_B, hc_B⟩ := T.c_B
  obtain ⟨tc_EAST, hc_EAST⟩ := T.c_EAST
  obtain ⟨tc_NORTH, hc_NORTH⟩ := T.c_NORTH
  have nd := sc_word_in.nd
  refine F.ok sc_word_in (fun vs H Q E h => (pure vs H Q E h).1) fun cdv A' outer s H vs Q E hr h => ⟨t_word_in K C, ?_, (pure vs H Q E h).2⟩
  have hu64 := hr.units
  have hu65 := u65 hr
  exact (pss_then (ps_asg (pv 0) (pg_seq rfl (pgs_cons (pg_name (i := 1) nd rfl (Or.inl rfl)) (pgs_cons (pg_name (i := 2) nd rfl (Or.inl rfl)) pgs_nil))))
      (pss_then (ps_set (i := 3) nd rfl (Or.inl rfl) (pe_lst pa_nil))
      (pss_then (ps_while PassesOwn.never (PW.pt (pw_and (pt_cmpR o_gt (pv 1) pe_int (by first | rfl | exact nomark _)) (pw_and1 (pt_cmpR o_gt (pv 2) pe_int (by first | rfl | exact nomark _))))) (pss_one (ps_if (pt_cmpR o_ge (pv 1) (pv 2) (by first | rfl | exact nomark _)) (pss_then (ps_expr (pe_bm PySem.F.plainAttrs_list PySem.F.slot_list_append PySem.F.type_list_append mt_append (pv 3) (pa_cons (pe_tup (pa_cons (pe_glob rfl hc_A ⟨_, rfl⟩) (pa_cons (pe_op o_div (pv 1) (pv 2)) pa_nil))) pa_nil)))
      (pss_one (ps_set (i := 1) nd rfl (Or.inl rfl) (pe_op o_sub (pv 1) (pe_op o_mul (pe_op o_div (pv 1) (pv 2)) (pv 2)))))) (pss_then (ps_expr (pe_bm PySem.F.plainAttrs_list PySem.F.slot_list_append PySem.F.type_list_append mt_append (pv 3) (pa_cons (pe_tup (pa_cons (pe_glob rfl hc_B ⟨_, rfl⟩) (pa_cons (pe_op o_div (pv 2) (pv 1)) pa_nil))) pa_nil)))
      (pss_one (ps_set (i := 2) nd rfl (Or.inl rfl) (pe_op o_sub (pv 2) (pe_op o_mul (pe_op o_div (pv 2) (pv 1)) (pv 1)))))))))
      (pss_one (ps_ret (pe_tup (pa_cons (pe_callTy c_tuple (by rfl) T.n_tuple (by decide +kernel) (pa_cons (pv 3) pa_nil)) (pa_cons (pe_ifExp (pt_cmpR op_eq (pv 2) pe_int (by first | rfl | exact nomark _)) (pe_glob rfl hc_EAST ⟨_, rfl⟩) (pe_glob rfl hc_NORTH ⟨_, rfl⟩)) pa_nil))))))))
theorem ok_ways_in (F : Fun K "ways_in" "ways_in" s_ways_in A.a_ways_in D.f_ways_in) (T : Txt P K mg C A) (B : Bnd K D) 
    (pure : ∀ vs H Q E, sp_ways_in K C vs H Q E → vs.length = 1 ∧ t_ways_in K C { nx := fun _ H' => Q .non H', rt := Q } (start N_ways_in vs) H) : FnOk P w K mg base CX0 1 A.a_ways_in D.f_ways_in ["word"] (sp_ways_in K C) := by
  obtain ⟨tc_A, hc_A⟩ := T.c_A
  have nd := sc_ways_in.nd
  refine F.ok sc_ways_in (fun vs H Q E h => (pure vs H Q E h).1) fun cdv A' outer s H vs Q E hr h => ⟨t_ways_in K C, ?_, (pure vs H Q E h).2⟩
  have hu64 := hr.units
  have hu65 := u65 hr
  exact (pss_then (ps_set (i := 1) nd rfl (Or.inl rfl) (pe_lst (pa_cons (pe_tup (pa_cons pe_int (pa_cons pe_int pa_nil))) (pa_cons (pe_tup (pa_cons pe_int (pa_cons pe_int pa_nil))) pa_nil))))
      (pss_then (ps_for PassesOwn.never rfl (RT.pi_revA rfl T.n_reversed (pv 0)) (pg_tup rfl (pgs_cons (pg_name (i := 2) nd rfl (Or.inr rfl)) (pgs_cons (pg_name (i := 3) nd rfl (Or.inr rfl)) pgs_nil))) (pss_one (ps_setLc (i := 1) (own := [("p", 4), ("q", 5)]) (tt := tYes) rfl nd rfl rfl (sw_true rfl rfl rfl (by decide +kernel)) (pi_seq (pv 1)) (blkOk_by (N := N_ways_in) (sc := defScope s_ways_in) (own := [("p", 4), ("q", 5)]) (by decide +kernel)) (fun _ _ _ _ _ => (pg_tup rfl (pgs_cons (pg_name (i := 4) nd rfl (Or.inl rfl)) (pgs_cons (pg_name (i := 5) nd rfl (Or.inl rfl)) pgs_nil)))) (fun _ _ _ _ _ => pts_nil) (fun _ _ _ _ _ => (pe_ifExp (pt_cmpR op_eq (pv 2) (pe_glob rfl hc_A ⟨_, rfl⟩) (by first | rfl | exact nomark _)) (pe_tup (pa_cons (pe_op o_add (pv 4) (pe_op o_mul (pv 3) (pv 5))) (pa_cons (pv 5) pa_nil))) (pe_tup (pa_cons (pv 4) (pa_cons (pe_op o_add (pv 5) (pe_op o_mul (pv 3) (pv 4))) pa_nil))))))))
      (pss_one (ps_ret (pe_callTy c_tuple (by rfl) T.n_tuple (by decide +kernel) (pa_cons (pv 1) pa_nil))))))
theorem ok_is_letter (F : Fun K "is_letter" "is_letter" s_is_letter A.a_is_letter D.f_is_letter) (T : Txt P K mg C A) (B : Bnd K D) 
    (pure : ∀ vs H Q E, sp_is_letter K C vs H Q E → vs.length = 1 ∧ t_is_letter K C { nx := fun _ H' => Q .non H', rt := Q } (start N_is_letter vs) H) : FnOk P w K mg base CX0 1 A.a_is_letter D.f_is_letter ["value"] (sp_is_letter K C) := by
  obtain ⟨tc_B, hc_B⟩ := T.c_B
  obtain ⟨tc_A, hc_A⟩ := T.c_A
  have nd := sc_is_letter.nd
  refine F.ok sc_is_letter (fun vs H Q E h => (pure vs H Q E h).1) fun cdv A' outer s H vs Q E hr h => ⟨t_is_letter K C, ?_, (pure vs H Q E h).2⟩
  have hu64 := hr.units
  have hu65 := u65 hr
  exact (pss_one (ps_ret (pe_and (pe_callB call_isi (by rfl) T.n_isinstance (by decide +kernel) (pa_cons (pv 0) (pa_cons (pe_bltn (v := .ty "str") (by rfl) T.n_str (by decide +kernel) rfl) pa_nil))) (pe_one (pe_cmpR (o_inS hu64 hu65) (pv 0) (pe_tup (pa_cons (pe_glob rfl hc_A ⟨_, rfl⟩) (pa_cons (pe_glob rfl hc_B ⟨_, rfl⟩) pa_nil))) (by first | rfl | exact nomark _))))))
theorem ok_need_word (F : Fun K "need_word" "need_word" s_need_word A.a_need_word D.f_need_word) (T : Txt P K mg C A) (B : Bnd K D) (O_is_list : FnOk P w K mg base CX0 1 A.a_is_list D.f_is_list ["value"] (sp_is_list K C)) (O_is_letter : FnOk P w K mg base CX0 1 A.a_is_letter D.f_is_letter ["value"] (sp_is_letter K C)) (O_is_within : FnOk P w K mg base CX0 2 A.a_is_within D.f_is_within ["value", "least", "most"] (sp_is_within K C))
    (pure : ∀ vs H Q E, sp_need_word K C vs H Q E → vs.length = 1 ∧ t_need_word K C E { nx := fun _ H' => Q .non H', rt := Q } (start N_need_word vs) H) : FnOk P w K mg base (L2.CX P w) 3 A.a_need_word D.f_need_word ["value"] (sp_need_word K C) := by
  obtain ⟨tc_MOST_PAIRS, hc_MOST_PAIRS⟩ := T.c_MOST_PAIRS
  obtain ⟨tc_MOST_TIMES, hc_MOST_TIMES⟩ := T.c_MOST_TIMES
  have nd := sc_need_word.nd
  refine F.okX sc_need_word (fun vs H Q E h => (pure vs H Q E h).1) fun cdv A' outer s H vs Q E hr h => ⟨t_need_word K C E, ?_, (pure vs H Q E h).2⟩
  have hu64 := hr.units
  have hu65 := u65 hr
  exact (pss_then (ps_if (PW.pt (pw_or (pt_not (pt_val (pe_call O_is_list (hr.mono (by decide)) rfl T.g_is_list T.k_is_list B.b_is_list .nil pass0 (pa_cons (pv 0) pa_nil)))) (pw_or (pt_cmpR o_gt (pe_callB c_len (by rfl) T.n_len (by decide +kernel) (pa_cons (pv 0) pa_nil)) (pe_glob rfl hc_MOST_PAIRS ⟨_, rfl⟩) (by first | rfl | exact nomark _)) (pw_or1 (pt_not (pt_val (pe_callB (cr_all rfl) (by rfl) T.n_all (by decide +kernel) (pa_cons (pe_lc (own := [("each", 1)]) (tt := tYes) rfl nd (pi_seq (pv 0)) (blkOk_by (N := N_need_word) (sc := defScope s_need_word) (own := [("each", 1)]) (by decide +kernel)) (fun _ _ _ _ _ => (pg_name (i := 1) nd rfl (Or.inl rfl))) (fun _ _ _ _ _ => pts_nil) (fun _ _ _ _ _ => (pe_and (pe_call O_is_list (hr.mono (by decide)) rfl T.g_is_list T.k_is_list B.b_is_list .nil pass0 (pa_cons (pv 1) pa_nil)) (pe_one (pe_cmpR op_eq (pe_callB c_len (by rfl) T.n_len (by decide +kernel) (pa_cons (pv 1) pa_nil)) pe_int (by first | rfl | exact nomark _)))))) pa_nil)))))))) (pss_one (ps_raiseE rfl T.e_BadWord hr (takes_of rfl rfl rfl rfl) rfl T.g_BadWord T.n_super (pa_cons pe_str pa_nil))) pss_nil)
      (pss_then (ps_if (pt_not (pt_val (pe_callB (cr_all rfl) (by rfl) T.n_all (by decide +kernel) (pa_cons (pe_lc (own := [("letter", 2), ("times", 3)]) (tt := tYes) rfl nd (pi_seq (pv 0)) (blkOk_by (N := N_need_word) (sc := defScope s_need_word) (own := [("letter", 2), ("times", 3)]) (by decide +kernel)) (fun _ _ _ _ _ => (pg_seq rfl (pgs_cons (pg_name (i := 2) nd rfl (Or.inl rfl)) (pgs_cons (pg_name (i := 3) nd rfl (Or.inl rfl)) pgs_nil)))) (fun _ _ _ _ _ => pts_nil) (fun _ _ _ _ _ => (pe_and (pe_call O_is_letter (hr.mono (by decide)) rfl T.g_is_letter T.k_is_letter B.b_is_letter .nil pass0 (pa_cons (pv 2) pa_nil)) (pe_one (pe_call O_is_within (hr.mono (by decide)) rfl T.g_is_within T.k_is_within B.b_is_within .nil pass0 (pa_cons (pv 3) (pa_cons pe_int (pa_cons (pe_glob rfl hc_MOST_TIMES ⟨_, rfl⟩) pa_nil)))))))) pa_nil)))) (pss_one (ps_raiseE rfl T.e_BadWord hr (takes_of rfl rfl rfl rfl) rfl T.g_BadWord T.n_super (pa_cons pe_str pa_nil))) pss_nil)
      (pss_one (ps_ret (pe_callTy c_tuple (by rfl) T.n_tuple (by decide +kernel) (pa_cons (pe_lc (own := [("each", 1)]) (tt := tYes) rfl nd (pi_seq (pv 0)) (blkOk_by (N := N_need_word) (sc := defScope s_need_word) (own := [("each", 1)]) (by decide +kernel)) (fun _ _ _ _ _ => (pg_name (i := 1) nd rfl (Or.inl rfl))) (fun _ _ _ _ _ => pts_nil) (fun _ _ _ _ _ => (pe_callTy c_tuple (by rfl) T.n_tuple (by decide +kernel) (pa_cons (pv 1) pa_nil)))) pa_nil))))))
theorem ok_word_of (F : Fun K "word_of" "word_of" s_word_of A.a_word_of D.f_word_of) (T : Txt P K mg C A) (B : Bnd K D) (O_is_way : FnOk P w K mg base CX0 3 A.a_is_way D.f_is_way ["value"] (sp_is_way K C)) (O_word_in : FnOk P w K mg base CX0 1 A.a_word_in D.f_word_in ["way"] (sp_word_in K C))
    (pure : ∀ vs H Q E, sp_word_of K C vs H Q E → vs.length = 1 ∧ t_word_of K C E { nx := fun _ H' => Q .non H', rt := Q } (start N_word_of vs) H) : FnOk P w K mg base (L2.CX P w) 4 A.a_word_of D.f_word_of ["way"] (sp_word_of K C) := by
  have nd := sc_word_of.nd
  refine F.okX sc_word_of (fun vs H Q E h => (pure vs H Q E h).1) fun cdv A' outer s H vs Q E hr h => ⟨t_word_of K C E, ?_, (pure vs H Q E h).2⟩
  have hu64 := hr.units
  have hu65 := u65 hr
  exact (pss_then (ps_if (PW.pt (pw_or (pt_not (pt_val (pe_call O_is_way (hr.mono (by decide)) rfl T.g_is_way T.k_is_way B.b_is_way .nil pass0 (pa_cons (pv 0) pa_nil)))) (pw_or (pt_cmpR o_lt (pe_ix ix_seq (pv 0) pe_int (fun _ _ => rfl)) pe_int (by first | rfl | exact nomark _)) (pw_or1 (pt_cmpR o_lt (pe_ix ix_seq (pv 0) pe_int (fun _ _ => rfl)) pe_int (by first | rfl | exact nomark _)))))) (pss_one (ps_raiseE rfl T.e_BadWay hr (takes_of rfl rfl rfl rfl) rfl T.g_BadWay T.n_super (pa_cons pe_str pa_nil))) pss_nil)
      (pss_one (ps_ret (pe_call O_word_in (hr.mono (by decide)) rfl T.g_word_in T.k_word_in B.b_word_in .nil pass0 (pa_cons (pv 0) pa_nil)))))
theorem ok_ways_of (F : Fun K "ways_of" "ways_of" s_ways_of A.a_ways_of D.f_ways_of) (T : Txt P K mg C A) (B : Bnd K D) (O_ways_in : FnOk P w K mg base CX0 1 A.a_ways_in D.f_ways_in ["word"] (sp_ways_in K C)) (O_need_word : FnOk P w K mg base (L2.CX P w) 3 A.a_need_word D.f_need_word ["value"] (sp_need_word K C))
    (pure : ∀ vs H Q E, sp_ways_of K C vs H Q E → vs.length = 1 ∧ t_ways_of K C E { nx := fun _ H' => Q .non H', rt := Q } (start N_ways_of vs) H) : FnOk P w K mg base (L2.CX P w) 4 A.a_ways_of D.f_ways_of ["word"] (sp_ways_of K C) := by
  obtain ⟨tc_MOST_WAY, hc_MOST_WAY⟩ := T.c_MOST_WAY
  have nd := sc_ways_of.nd
  refine F.okX sc_ways_of (fun vs H Q E h => (pure vs H Q E h).1) fun cdv A' outer s H vs Q E hr h => ⟨t_ways_of K C E, ?_, (pure vs H Q E h).2⟩
  have hu64 := hr.units
  have hu65 := u65 hr
  exact (pss_then (ps_set (i := 1) nd rfl (Or.inl rfl) (pe_call O_ways_in (hr.mono (by decide)) rfl T.g_ways_in T.k_ways_in B.b_ways_in .nil pass0 (pa_cons (pe_call O_need_word (hr.mono (by decide)) rfl T.g_need_word T.k_need_word B.b_need_word .nil (passes_call (takes_of rfl rfl rfl rfl) (fun _ _ _ _ h => h)) (pa_cons (pv 0) pa_nil)) pa_nil)))
      (pss_then (ps_if (pt_cmpR o_gt (pe_callB (c_maxS rfl hu64) (by rfl) T.n_max (by decide +kernel) (pa_cons (pe_lc (own := [("way", 2)]) (tt := tYes) rfl nd (pi_seq (pv 1)) (blkOk_by (N := N_ways_of) (sc := defScope s_ways_of) (own := [("way", 2)]) (by decide +kernel)) (fun _ _ _ _ _ => (pg_name (i := 2) nd rfl (Or.inl rfl))) (fun _ _ _ _ _ => pts_nil) (fun _ _ _ _ _ => (pe_callB (c_maxS rfl hu64) (by rfl) T.n_max (by decide +kernel) (pa_cons (pv 2) pa_nil)))) pa_nil)) (pe_glob rfl hc_MOST_WAY ⟨_, rfl⟩) (by first | rfl | exact nomark _)) (pss_one (ps_raiseE rfl T.e_Misfit hr (takes_of rfl rfl rfl rfl) rfl T.g_Misfit T.n_super (pa_cons pe_str pa_nil))) pss_nil)
      (pss_one (ps_ret (pv 1)))))
theorem ok_law_lexicon (F : Fun K "_law_lexicon" "_law_lexicon" s_law_lexicon A.a_law_lexicon D.f_law_lexicon) (T : Txt P K mg C A) (B : Bnd K D) 
    (pure : ∀ vs H Q E, sp_law_lexicon K C vs H Q E → vs.length = 1 ∧ t_law_lexicon K C { nx := fun _ H' => Q .non H', rt := Q } (start N_law_lexicon vs) H) : FnOk P w K mg base CX0 1 A.a_law_lexicon D.f_law_lexicon ["_law_script"] (sp_law_lexicon K C) := by
  have nd := sc_law_lexicon.nd
  refine F.ok sc_law_lexicon (fun vs H Q E h => (pure vs H Q E h).1) fun cdv A' outer s H vs Q E hr h => ⟨t_law_lexicon K C, ?_, (pure vs H Q E h).2⟩
  have hu64 := hr.units
  have hu65 := u65 hr
  exact (pss_one (ps_ret (pe_lst (pa_cons (pe_lc (own := [("_law_cell", 1)]) (tt := tYes) rfl nd (pi_seq (pe_slice sl_list (pv 0) po_none (po_some pe_int))) (blkOk_by (N := N_law_lexicon) (sc := defScope s_law_lexicon) (own := [("_law_cell", 1)]) (by decide +kernel)) (fun _ _ _ _ _ => (pg_name (i := 1) nd rfl (Or.inl rfl))) (fun _ _ _ _ _ => pts_nil) (fun _ _ _ _ _ => (pe_callTy c_int (by rfl) T.n_int (by decide +kernel) (pa_cons (pv 1) pa_nil)))) (pa_cons pe_int (pa_cons pe_int pa_nil))))))
theorem ok_law_page (F : Fun K "_law_page" "_law_page" s_law_page A.a_law_page D.f_law_page) (T : Txt P K mg C A) (B : Bnd K D) 
    (pure : ∀ vs H Q E, sp_law_page K C vs H Q E → vs.length = 2 ∧ t_law_page K C { nx := fun _ H' => Q .non H', rt := Q } (start N_law_page vs) H) : FnOk P w K mg base CX0 1 A.a_law_page D.f_law_page ["_law_lexicon_here", "_law_many"] (sp_law_page K C) := by
  have nd := sc_law_page.nd
  refine F.ok sc_law_page (fun vs H Q E h => (pure vs H Q E h).1) fun cdv A' outer s H vs Q E hr h => ⟨t_law_page K C, ?_, (pure vs H Q E h).2⟩
  have hu64 := hr.units
  have hu65 := u65 hr
  exact (pss_then (ps_if (pt_cmpR o_gt (pe_ix ix_seq (pv 0) pe_int (fun _ _ => rfl)) pe_int (by first | rfl | exact nomark _)) (pss_then (ps_set (i := 2) nd rfl (Or.inl rfl) (pe_callTy c_int (by rfl) T.n_int (by decide +kernel) (pa_cons (pe_ix ix_seq (pv 0) pe_int (fun _ _ => rfl)) pa_nil)))
      (pss_then (ps_asg (pe_op o_div (pv 2) (pv 1)) (pg_sub (pv 0) pe_int set_list))
      (pss_one (ps_ret (pe_op o_mod (pe_callTy c_int (by rfl) T.n_int (by decide +kernel) (pa_cons (pv 2) pa_nil)) (pv 1)))))) pss_nil)
      (pss_then (ps_set (i := 3) nd rfl (Or.inl rfl) (pe_ix ix_seq (pv 0) pe_int (fun _ _ => rfl)))
      (pss_then (ps_asg (pe_op o_add (pv 3) pe_int) (pg_sub (pv 0) pe_int set_list))
      (pss_then (ps_set (i := 4) nd rfl (Or.inl rfl) (pe_op o_add (pe_op o_mul pe_int (pv 3)) pe_int))
      (pss_then (ps_if (pt_cmpR (op_neD hu64) (pe_ix ix_seq (pv 0) pe_int (fun _ _ => rfl)) (pe_lst pa_nil) (by first | rfl | exact nomark _)) (pss_one (ps_set (i := 4) nd rfl (Or.inl rfl) (pe_ix ix_seq (pe_ix ix_seq (pv 0) pe_int (fun _ _ => rfl)) (pe_op o_mod (pe_callTy c_int (by rfl) T.n_int (by decide +kernel) (pa_cons (pv 3) pa_nil)) (pe_callB c_len (by rfl) T.n_len (by decide +kernel) (pa_cons (pe_ix ix_seq (pv 0) pe_int (fun _ _ => rfl)) pa_nil))) (fun _ _ => rfl)))) pss_nil)
      (pss_then (ps_if (PW.pt (pw_and (pt_cmpR o_lt (pv 3) (pe_callB c_len (by rfl) T.n_len (by decide +kernel) (pa_cons (pe_ix ix_seq (pv 0) pe_int (fun _ _ => rfl)) pa_nil)) (by first | rfl | exact nomark _)) (pw_and1 (pt_cmpR o_ge (pe_callB c_abs (by rfl) T.n_abs (by decide +kernel) (pa_cons (pv 4) pa_nil)) (pe_op o_pow pe_int pe_int) (by first | rfl | exact nomark _))))) (pss_then (ps_set (i := 2) nd rfl (Or.inl rfl) (pe_op o_add (pe_op o_mul pe_int (pe_op o_sub (pe_callB c_abs (by rfl) T.n_abs (by decide +kernel) (pa_cons (pv 4) pa_nil)) (pe_op o_pow pe_int pe_int))) (pe_callTy c_int (by rfl) T.n_int (by decide +kernel) (pa_cons (pe_cmpR o_lt (pv 4) pe_int (by first | rfl | exact nomark _)) pa_nil))))
      (pss_then (ps_asg (pe_op o_div (pv 2) (pv 1)) (pg_sub (pv 0) pe_int set_list))
      (pss_one (ps_ret (pe_op o_mod (pe_callTy c_int (by rfl) T.n_int (by decide +kernel) (pa_cons (pv 2) pa_nil)) (pv 1)))))) pss_nil)
      (pss_then (ps_set (i := 5) nd rfl (Or.inl rfl) (pe_op o_mod (pe_callTy c_int (by rfl) T.n_int (by decide +kernel) (pa_cons (pe_op o_pow (pe_op o_add (pe_op o_add (pe_op o_mod (pe_callTy c_int (by rfl) T.n_int (by decide +kernel) (pa_cons (pv 4) pa_nil)) pe_int) (pe_op o_mul pe_int (pv 3))) pe_int) pe_int) pa_nil)) pe_int))
      (pss_then (ps_set (i := 5) nd rfl (Or.inl rfl) (pe_op o_mod (pe_callTy c_int (by rfl) T.n_int (by decide +kernel) (pa_cons (pe_op o_pow (pe_op o_add (pe_op o_add (pe_op o_mul (pv 5) (pe_op o_add (pe_op o_mul pe_int (pv 3)) pe_int)) (pe_op o_mul (pe_op o_mul pe_int (pv 3)) (pv 3))) pe_int) pe_int) pa_nil)) pe_int))
      (pss_one (ps_ret (pe_op o_mod (pe_callTy c_int (by rfl) T.n_int (by decide +kernel) (pa_cons (pe_op o_div (pv 5) pe_int) pa_nil)) (pv 1))))))))))))
theorem ok_law_one_of (F : Fun K "_law_one_of" "_law_one_of" s_law_one_of A.a_law_one_of D.f_law_one_of) (T : Txt P K mg C A) (B : Bnd K D) (O_law_page : FnOk P w K mg base CX0 1 A.a_law_page D.f_law_page ["_law_lexicon_here", "_law_many"] (sp_law_page K C))
    (pure : ∀ vs H Q E, sp_law_one_of K C vs H Q E → vs.length = 2 ∧ t_law_one_of K C { nx := fun _ H' => Q .non H', rt := Q } (start N_law_one_of vs) H) : FnOk P w K mg base CX0 2 A.a_law_one_of D.f_law_one_of ["_law_lexicon_here", "_law_some"] (sp_law_one_of K C) := by
  have nd := sc_law_one_of.nd
  refine F.ok sc_law_one_of (fun vs H Q E h => (pure vs H Q E h).1) fun cdv A' outer s H vs Q E hr h => ⟨t_law_one_of K C, ?_, (pure vs H Q E h).2⟩
  have hu64 := hr.units
  have hu65 := u65 hr
  exact (pss_one (ps_ret (pe_ix ix_seq (pv 1) (pe_call O_law_page (hr.mono (by decide)) rfl T.g_law_page T.k_law_page B.b_law_page .nil pass0 (pa_cons (pv 0) (pa_cons (pe_callB c_len (by rfl) T.n_len (by decide +kernel) (pa_cons (pv 1) pa_nil)) pa_nil))) (fun _ _ => rfl))))
theorem hears_law_heard {X : Cx} (T : Txt X.prog X.K X.mg C A) (B : Bnd X.K D)
    (pure : ∀ (f c' : Addr) (q : Str) (tl : XK → Hp → VK → Prop) (H : Hp) (Q : VK), H c' = some (LamX.CodeO c' q) → TT_law_heard X.K C tl H Q → t_law_heard X.K C f c' q tl { nx := fun _ H' => Q .non H', rt := Q } (start N_law_heard [.ref f]) H) (cdg : Value) (q : Str) :
    Hears X N_law_heard "_law_heard" (defScope s_law_heard) A.a_law_heard cdg (defBody s_law_heard) "_law_ask" q (TT_law_heard X.K C) := by
  have nd := sc_law_heard.nd
  intro f c' s H Q tl act hc h
  refine ⟨t_law_heard X.K C f c' q tl, ?_, pure f c' q tl H Q hc h⟩
  exact (pss_then (ps_set (i := 1) nd rfl (Or.inl rfl) pe_non)
      (pss_then (ps_tryK rfl rfl rfl nd rfl rfl rfl rfl ⟨rfl, by decide, .inl T.g_MirrorError⟩ (fun W pn xe tk => pss_one (ps_expr (act W pn xe _ _ tk))))
      (pss_then (ps_if (pt_val (pe_callB c_isE (by rfl) T.n_isinstance (by decide +kernel) (pa_cons (pv 1) (pa_cons (pe_glob rfl T.g_TooMany rfl) pa_nil)))) (pss_one (ps_ret (pe_tup (pa_cons pe_str (pa_cons (pe_xk (pv 1)) (pa_cons (pe_xk (pv 1)) pa_nil)))))) pss_nil)
      (pss_then (ps_set (i := 3) nd rfl (Or.inl rfl) (pe_lst (pa_cons (pe_tup (pa_cons pe_str (pa_cons (pe_callB c_isE (by rfl) T.n_isinstance (by decide +kernel) (pa_cons (pv 1) (pa_cons (pe_glob rfl T.g_BadWay rfl) pa_nil))) pa_nil))) (pa_cons (pe_tup (pa_cons pe_str (pa_cons (pe_callB c_isE (by rfl) T.n_isinstance (by decide +kernel) (pa_cons (pv 1) (pa_cons (pe_glob rfl T.g_BadWord rfl) pa_nil))) pa_nil))) (pa_cons (pe_tup (pa_cons pe_str (pa_cons (pe_callB c_isE (by rfl) T.n_isinstance (by decide +kernel) (pa_cons (pv 1) (pa_cons (pe_glob rfl T.g_Misfit rfl) pa_nil))) pa_nil))) pa_nil)))))
      (pss_then (ps_setLc (i := 4) (own := [("_law_word", 5), ("_law_is_so", 6)]) (tt := (tB (tVar 6))) rfl nd rfl rfl (sw_true rfl rfl rfl (by decide +kernel)) (pi_seq (pv 3)) (blkOk_by (N := N_law_heard) (sc := defScope s_law_heard) (own := [("_law_word", 5), ("_law_is_so", 6)]) (by decide +kernel)) (fun _ _ _ _ _ => (pg_tup rfl (pgs_cons (pg_name (i := 5) nd rfl (Or.inl rfl)) (pgs_cons (pg_name (i := 6) nd rfl (Or.inl rfl)) pgs_nil)))) (fun _ _ _ _ _ => (pts_one (pt_val (pv 6)))) (fun _ _ _ _ _ => (pv 5)))
      (pss_then (ps_if (pt_cmpR op_eq (pe_callB c_len (by rfl) T.n_len (by decide +kernel) (pa_cons (pv 4) pa_nil)) pe_int (by first | rfl | exact nomark _)) (pss_one (ps_ret (pe_tup (pa_cons (pe_ix ix_seq (pv 4) pe_int (fun _ _ => rfl)) (pa_cons (pe_xk (pv 1)) pa_nil))))) pss_nil)
      (pss_one (ps_ret (pe_ifExp (pt_cmpR o_isNo (pv 1) pe_non (by first | rfl | exact nomark _)) pe_non (pe_tup (pa_cons pe_str (pa_cons pe_non pa_nil))))))))))))
theorem ok_law_way (F : Fun K "_law_way" "_law_way" s_law_way A.a_law_way D.f_law_way) (T : Txt P K mg C A) (B : Bnd K D) (O_law_page : FnOk P w K mg base CX0 1 A.a_law_page D.f_law_page ["_law_lexicon_here", "_law_many"] (sp_law_page K C)) (O_law_one_of : FnOk P w K mg base CX0 2 A.a_law_one_of D.f_law_one_of ["_law_lexicon_here", "_law_some"] (sp_law_one_of K C))
    (pure : ∀ vs H Q E, sp_law_way K C vs H Q E → vs.length = 1 ∧ t_law_way K C { nx := fun _ H' => Q .non H', rt := Q } (start N_law_way vs) H) : FnOk P w K mg base CX0 3 A.a_law_way D.f_law_way ["_law_lexicon_here"] (sp_law_way K C) := by
  have nd := sc_law_way.nd
  refine F.ok sc_law_way (fun vs H Q E h => (pure vs H Q E h).1) fun cdv A' outer s H vs Q E hr h => ⟨t_law_way K C, ?_, (pure vs H Q E h).2⟩
  have hu64 := hr.units
  have hu65 := u65 hr
  exact (pss_then (ps_set (i := 1) nd rfl (Or.inl rfl) (pe_call O_law_page (hr.mono (by decide)) rfl T.g_law_page T.k_law_page B.b_law_page .nil pass0 (pa_cons (pv 0) (pa_cons pe_int pa_nil))))
      (pss_then (ps_if (pt_cmpR op_eq (pv 1) pe_int (by first | rfl | exact nomark _)) (pss_then (ps_asg (pe_tup (pa_cons pe_int (pa_cons pe_int pa_nil))) (pg_tup rfl (pgs_cons (pg_name (i := 4) nd rfl (Or.inl rfl)) (pgs_cons (pg_name (i := 5) nd rfl (Or.inl rfl)) pgs_nil))))
      (pss_one (ps_for PassesOwn.never rfl (pi_range1 rfl T.n_range (pa_cons (pe_call O_law_page (hr.mono (by decide)) rfl T.g_law_page T.k_law_page B.b_law_page .nil pass0 (pa_cons (pv 0) (pa_cons pe_int pa_nil))) pa_nil)) (pg_name (i := 2) nd rfl (Or.inl rfl)) (pss_one (ps_par rfl nd rfl rfl (by decide) rfl rfl (pa_cons (pe_op o_add (pv 4) (pv 5)) (pa_cons (pv 4) pa_nil)) (by rfl)))))) (pss_then (ps_set (i := 3) nd rfl (Or.inl rfl) (pe_call O_law_one_of (hr.mono (by decide)) rfl T.g_law_one_of T.k_law_one_of B.b_law_one_of .nil pass0 (pa_cons (pv 0) (pa_cons (pe_lst (pa_cons pe_int (pa_cons pe_int (pa_cons (pe_op o_pow pe_int pe_int) (pa_cons (pe_op o_pow pe_int pe_int) pa_nil))))) pa_nil))))
      (pss_one (ps_par rfl nd rfl rfl (by decide) rfl rfl (pa_cons (pe_call O_law_page (hr.mono (by decide)) rfl T.g_law_page T.k_law_page B.b_law_page .nil pass0 (pa_cons (pv 0) (pa_cons (pe_op o_add (pv 3) pe_int) pa_nil))) (pa_cons (pe_ifExp (pt_cmpR o_lt (pv 1) pe_int (by first | rfl | exact nomark _)) (pe_call O_law_page (hr.mono (by decide)) rfl T.g_law_page T.k_law_page B.b_law_page .nil pass0 (pa_cons (pv 0) (pa_cons (pe_op o_add (pv 3) pe_int) pa_nil))) (pe_call O_law_one_of (hr.mono (by decide)) rfl T.g_law_one_of T.k_law_one_of B.b_law_one_of .nil pass0 (pa_cons (pv 0) (pa_cons (pe_lst (pa_cons pe_int (pa_cons pe_int (pa_cons pe_int (pa_cons pe_int pa_nil))))) pa_nil)))) pa_nil)) (by rfl)))))
      (pss_then (ps_par rfl nd rfl rfl (by decide) rfl rfl (pa_cons (pv 4) (pa_cons (pv 5) pa_nil)) (by rfl))
      (pss_then (ps_while PassesOwn.never (pt_cmpR o_gt (pv 7) pe_int (by first | rfl | exact nomark _)) (pss_one (ps_par rfl nd rfl rfl (by decide) rfl rfl (pa_cons (pv 7) (pa_cons (pe_op o_mod (pe_callTy c_int (by rfl) T.n_int (by decide +kernel) (pa_cons (pv 6) pa_nil)) (pv 7)) pa_nil)) (by rfl))))
      (pss_then (ps_asg (pe_ifExp (pt_cmpR o_gt (pv 6) pe_int (by first | rfl | exact nomark _)) (pe_tup (pa_cons (pe_op o_div (pv 4) (pv 6)) (pa_cons (pe_op o_div (pv 5) (pv 6)) pa_nil))) (pe_tup (pa_cons pe_int (pa_cons pe_int pa_nil)))) (pg_tup rfl (pgs_cons (pg_name (i := 4) nd rfl (Or.inl rfl)) (pgs_cons (pg_name (i := 5) nd rfl (Or.inl rfl)) pgs_nil))))
      (pss_one (ps_ret (pe_ifExp (pt_cmpR op_eq (pe_call O_law_page (hr.mono (by decide)) rfl T.g_law_page T.k_law_page B.b_law_page .nil pass0 (pa_cons (pv 0) (pa_cons pe_int pa_nil))) pe_int (by first | rfl | exact nomark _)) (pe_tup (pa_cons (pv 4) (pa_cons (pv 5) pa_nil))) (pe_tup (pa_cons (pv 5) (pa_cons (pv 4) pa_nil)))))))))))
theorem ok_law_due (F : Fun K "_law_due" "_law_due" s_law_due A.a_law_due D.f_law_due) (T : Txt P K mg C A) (B : Bnd K D) 
    (pure : ∀ vs H Q E, sp_law_due K C vs H Q E → vs.length = 1 ∧ t_law_due K C { nx := fun _ H' => Q .non H', rt := Q } (start N_law_due vs) H) : FnOk P w K mg base CX0 1 A.a_law_due D.f_law_due ["_law_way_here"] (sp_law_due K C) := by
  have nd := sc_law_due.nd
  refine F.ok sc_law_due (fun vs H Q E h => (pure vs H Q E h).1) fun cdv A' outer s H vs Q E hr h => ⟨t_law_due K C, ?_, (pure vs H Q E h).2⟩
  have hu64 := hr.units
  have hu65 := u65 hr
  exact (pss_then (ps_asg (pe_tup (pa_cons (pv 0) (pa_cons (pe_lst pa_nil) pa_nil))) (pg_tup rfl (pgs_cons (pg_tup rfl (pgs_cons (pg_name (i := 2) nd rfl (Or.inl rfl)) (pgs_cons (pg_name (i := 3) nd rfl (Or.inl rfl)) pgs_nil))) (pgs_cons (pg_name (i := 1) nd rfl (Or.inl rfl)) pgs_nil))))
      (pss_then (ps_while PassesOwn.never (PW.pt (pw_and (pt_cmpR o_gt (pv 2) pe_int (by first | rfl | exact nomark _)) (pw_and1 (pt_cmpR o_gt (pv 3) pe_int (by first | rfl | exact nomark _))))) (pss_then (ps_asg (pe_ifExp (pt_cmpR o_ge (pv 2) (pv 3) (by first | rfl | exact nomark _)) (pe_tup (pa_cons pe_str (pa_cons (pe_op o_div (pv 2) (pv 3)) pa_nil))) (pe_tup (pa_cons pe_str (pa_cons (pe_op o_div (pv 3) (pv 2)) pa_nil)))) (pg_tup rfl (pgs_cons (pg_name (i := 4) nd rfl (Or.inl rfl)) (pgs_cons (pg_name (i := 5) nd rfl (Or.inl rfl)) pgs_nil))))
      (pss_then (ps_expr (pe_bm PySem.F.plainAttrs_list PySem.F.slot_list_append PySem.F.type_list_append mt_append (pv 1) (pa_cons (pe_tup (pa_cons (pv 4) (pa_cons (pv 5) pa_nil))) pa_nil)))
      (pss_one (ps_asg (pe_ifExp (pt_cmpR op_eq (pv 4) pe_str (by first | rfl | exact nomark _)) (pe_tup (pa_cons (pe_op o_sub (pv 2) (pe_op o_mul (pv 5) (pv 3))) (pa_cons (pv 3) pa_nil))) (pe_tup (pa_cons (pv 2) (pa_cons (pe_op o_sub (pv 3) (pe_op o_mul (pv 5) (pv 2))) pa_nil)))) (pg_tup rfl (pgs_cons (pg_name (i := 2) nd rfl (Or.inl rfl)) (pgs_cons (pg_name (i := 3) nd rfl (Or.inl rfl)) pgs_nil))))))))
      (pss_one (ps_ret (pe_tup (pa_cons (pe_callTy c_tuple (by rfl) T.n_tuple (by decide +kernel) (pa_cons (pv 1) pa_nil)) (pa_cons (pe_ifExp (pt_cmpR (op_eqD hu64) (pe_tup (pa_cons (pv 2) (pa_cons (pv 3) pa_nil))) (pe_tup (pa_cons pe_int (pa_cons pe_int pa_nil))) (by first | rfl | exact nomark _)) pe_str pe_str) pa_nil)))))))
theorem ok_law_led (F : Fun K "_law_led" "_law_led" s_law_led A.a_law_led D.f_law_led) (T : Txt P K mg C A) (B : Bnd K D) 
    (pure : ∀ vs H Q E, sp_law_led K C vs H Q E → vs.length = 2 ∧ t_law_led K C { nx := fun _ H' => Q .non H', rt := Q } (start N_law_led vs) H) : FnOk P w K mg base CX0 1 A.a_law_led D.f_law_led ["_law_way_here", "_law_word"] (sp_law_led K C) := by
  have nd := sc_law_led.nd
  refine F.ok sc_law_led (fun vs H Q E h => (pure vs H Q E h).1) fun cdv A' outer s H vs Q E hr h => ⟨t_law_led K C, ?_, (pure vs H Q E h).2⟩
  have hu64 := hr.units
  have hu65 := u65 hr
  exact (pss_then (ps_asg (pv 0) (pg_tup rfl (pgs_cons (pg_name (i := 2) nd rfl (Or.inl rfl)) (pgs_cons (pg_name (i := 3) nd rfl (Or.inl rfl)) pgs_nil))))
      (pss_then (ps_for PassesOwn.never rfl (pi_seq (pv 1)) (pg_tup rfl (pgs_cons (pg_name (i := 4) nd rfl (Or.inl rfl)) (pgs_cons (pg_name (i := 5) nd rfl (Or.inl rfl)) pgs_nil))) (pss_one (ps_asg (pe_ifExp (pt_cmpR op_eq (pv 4) pe_str (by first | rfl | exact nomark _)) (pe_tup (pa_cons (pe_op o_sub (pv 2) (pe_op o_mul (pv 5) (pv 3))) (pa_cons (pv 3) pa_nil))) (pe_tup (pa_cons (pv 2) (pa_cons (pe_op o_sub (pv 3) (pe_op o_mul (pv 5) (pv 2))) pa_nil)))) (pg_tup rfl (pgs_cons (pg_name (i := 2) nd rfl (Or.inl rfl)) (pgs_cons (pg_name (i := 3) nd rfl (Or.inl rfl)) pgs_nil))))))
      (pss_one (ps_ret (pe_tup (pa_cons (pv 2) (pa_cons (pv 3) pa_nil)))))))
theorem ok_law_word_right (F : Fun K "_law_word_right" "_law_word_right" s_law_word_right A.a_law_word_right D.f_law_word_right) (T : Txt P K mg C A) (B : Bnd K D) (O_law_page : FnOk P w K mg base CX0 1 A.a_law_page D.f_law_page ["_law_lexicon_here", "_law_many"] (sp_law_page K C)) (O_law_one_of : FnOk P w K mg base CX0 2 A.a_law_one_of D.f_law_one_of ["_law_lexicon_here", "_law_some"] (sp_law_one_of K C)) (O_ways_of : FnOk P w K mg base (L2.CX P w) 4 A.a_ways_of D.f_ways_of ["word"] (sp_ways_of K C)) (O_law_led : FnOk P w K mg base CX0 1 A.a_law_led D.f_law_led ["_law_way_here", "_law_word"] (sp_law_led K C)) (F_law_heard : Fun K "_law_heard" "_law_heard" s_law_heard A.a_law_heard D.f_law_heard) (pure_law_heard : ∀ (f c' : Addr) (q : Str) (tl : XK → Hp → VK → Prop) (H : Hp) (Q : VK), H c' = some (LamX.CodeO c' q) → TT_law_heard K C tl H Q → t_law_heard K C f c' q tl { nx := fun _ H' => Q .non H', rt := Q } (start N_law_heard [.ref f]) H) (hcd : D.f_law_word_right.code = .ref A.c_law_word_right) (TB : LamX.TabB base mg A.c_law_word_right A.p_law_word_right)
    (pure : ∀ vs H Q E, sp_law_word_right K C vs H Q E → vs.length = 1 ∧ t_law_word_right K C { nx := fun _ H' => Q .non H', rt := Q } (start N_law_word_right vs) H) : FnG P w K mg base CX0 7 A.a_law_word_right D.f_law_word_right ["_law_lexicon_here"] (sp_law_word_right K C) := by
  have nd := sc_law_word_right.nd
  refine funGt F hcd sc_law_word_right (fun vs H Q E h => (pure vs H Q E h).1) fun A' outer s H vs Q E hr hgd h => ⟨t_law_word_right K C, ?_, (pure vs H Q E h).2⟩
  have hu64 := hr.units
  have hu65 := u65 hr
  exact (pss_then (ps_set (i := 1) nd rfl (Or.inr rfl) (pe_lc (own := [("_law_turn", 2)]) (tt := tYes) rfl nd (pi_range1 rfl T.n_range (pa_cons (pe_call O_law_page (hr.mono (by decide)) rfl T.g_law_page T.k_law_page B.b_law_page .nil pass0 (pa_cons (pv 0) (pa_cons pe_int pa_nil))) pa_nil)) (blkOk_by (N := N_law_word_right) (sc := defScope s_law_word_right) (own := [("_law_turn", 2)]) (by decide +kernel)) (fun _ _ _ _ _ => (pg_name (i := 2) nd rfl (Or.inl rfl))) (fun _ _ _ _ _ => pts_nil) (fun _ _ _ _ _ => (pe_tup (pa_cons (pe_call O_law_one_of (hr.mono (by decide)) rfl T.g_law_one_of T.k_law_one_of B.b_law_one_of .nil pass0 (pa_cons (pv 0) (pa_cons (pe_lst (pa_cons pe_str (pa_cons pe_str pa_nil))) pa_nil))) (pa_cons (pe_call O_law_one_of (hr.mono (by decide)) rfl T.g_law_one_of T.k_law_one_of B.b_law_one_of .nil pass0 (pa_cons (pv 0) (pa_cons (pe_lst (pa_cons pe_int (pa_cons pe_int (pa_cons pe_int (pa_cons pe_int (pa_cons (pe_op o_add pe_int (pe_call O_law_page (hr.mono (by decide)) rfl T.g_law_page T.k_law_page B.b_law_page .nil pass0 (pa_cons (pv 0) (pa_cons pe_int pa_nil)))) pa_nil)))))) pa_nil))) pa_nil))))))
      (pss_then (ps_set (i := 3) nd rfl (Or.inl rfl) (pe_lst (pa_cons (pe_tup (pa_cons pe_int (pa_cons pe_int pa_nil))) (pa_cons (pe_tup (pa_cons pe_int (pa_cons pe_int pa_nil))) pa_nil))))
      (pss_then (ps_for PassesOwn.never rfl (pi_seq (pe_back (pv 1))) (pg_tup rfl (pgs_cons (pg_name (i := 4) nd rfl (Or.inr rfl)) (pgs_cons (pg_name (i := 5) nd rfl (Or.inr rfl)) pgs_nil))) (pss_one (ps_setLc (i := 3) (own := [("_law_p", 6), ("_law_q", 7)]) (tt := tYes) rfl nd rfl rfl (sw_true rfl rfl rfl (by decide +kernel)) (pi_seq (pv 3)) (blkOk_by (N := N_law_word_right) (sc := defScope s_law_word_right) (own := [("_law_p", 6), ("_law_q", 7)]) (by decide +kernel)) (fun _ _ _ _ _ => (pg_tup rfl (pgs_cons (pg_name (i := 6) nd rfl (Or.inl rfl)) (pgs_cons (pg_name (i := 7) nd rfl (Or.inl rfl)) pgs_nil)))) (fun _ _ _ _ _ => pts_nil) (fun _ _ _ _ _ => (pe_ifExp (pt_cmpR op_eq (pv 4) pe_str (by first | rfl | exact nomark _)) (pe_tup (pa_cons (pe_op o_add (pv 6) (pe_op o_mul (pv 5) (pv 7))) (pa_cons (pv 7) pa_nil))) (pe_tup (pa_cons (pv 6) (pa_cons (pe_op o_add (pv 7) (pe_op o_mul (pv 5) (pv 6))) pa_nil))))))))
      (pss_then (ps_if (pt_cmpR o_gt (pe_callB (c_maxS rfl hu64) (by rfl) T.n_max (by decide +kernel) (pa_cons (pe_lc (own := [("_law_way_here", 8)]) (tt := tYes) rfl nd (pi_seq (pv 3)) (blkOk_by (N := N_law_word_right) (sc := defScope s_law_word_right) (own := [("_law_way_here", 8)]) (by decide +kernel)) (fun _ _ _ _ _ => (pg_name (i := 8) nd rfl (Or.inl rfl))) (fun _ _ _ _ _ => pts_nil) (fun _ _ _ _ _ => (pe_callB (c_maxS rfl hu64) (by rfl) T.n_max (by decide +kernel) (pa_cons (pv 8) pa_nil)))) pa_nil)) (pe_op o_pow pe_int pe_int) (by first | rfl | exact nomark _)) (pss_one (ps_ret (pe_cmpR (op_eqD hu64) (pe_hear (T := C.tabs) (k := 4) (ds := []) F_law_heard sc_law_heard rfl (Or.inl rfl) B.b_law_heard (fun cdg q => hears_law_heard T B pure_law_heard cdg q) rfl T.g_law_heard T.k_law_heard TB rfl T.tm_law_word_right T.tu_law_word_right (hr.mono (by decide)) (lamN_by (N := N_law_word_right) (sc := defScope s_law_word_right) (by decide +kernel)) (.no rfl (fun _ _ _ _ _ _ _ => rfl)) (fun _ _ _ _ E _ _ hrl => (pe_call O_ways_of (hrl.mono (by decide)) rfl T.g_ways_of T.k_ways_of B.b_ways_of .nil (passes_call (takes_of rfl rfl rfl rfl) (fun _ _ _ _ h => h)) (pa_cons (pv 1) pa_nil)))) (pe_tup (pa_cons pe_str (pa_cons pe_str pa_nil))) (by first | rfl | exact nomark _)))) pss_nil)
      (pss_then (ps_set (i := 9) nd rfl (Or.inl rfl) (pe_call O_ways_of (hr.mono (by decide)) rfl T.g_ways_of T.k_ways_of B.b_ways_of .nil passL (pa_cons (pv 1) pa_nil)))
      (pss_then (ps_if (PW.pt (pw_or (pt_cmpR op_ne (pe_callB (c_repr hgd hr.units) (by rfl) T.n_repr (by decide +kernel) (pa_cons (pv 9) pa_nil)) (pe_callB (c_repr hgd hr.units) (by rfl) T.n_repr (by decide +kernel) (pa_cons (pe_callTy c_tuple (by rfl) T.n_tuple (by decide +kernel) (pa_cons (pv 3) pa_nil)) pa_nil)) (by first | rfl | exact nomark _)) (pw_or1 (pt_cmpR (op_neD hu64) (pe_callK0 O_ways_of (hr.mono (by decide)) rfl T.g_ways_of T.k_ways_of B.kb_ways_of_0_word passL (pk_cons (pe_callTy c_tuple (by rfl) T.n_tuple (by decide +kernel) (pa_cons (pe_lc (own := [("_law_pair", 10)]) (tt := tYes) rfl nd (pi_seq (pv 1)) (blkOk_by (N := N_law_word_right) (sc := defScope s_law_word_right) (own := [("_law_pair", 10)]) (by decide +kernel)) (fun _ _ _ _ _ => (pg_name (i := 10) nd rfl (Or.inl rfl))) (fun _ _ _ _ _ => pts_nil) (fun _ _ _ _ _ => (pe_callTy c_listOf (by rfl) T.n_list (by decide +kernel) (pa_cons (pv 10) pa_nil)))) pa_nil)) pk_nil)) (pv 9) (by first | rfl | exact nomark _))))) (pss_one (ps_ret pe_bl)) pss_nil)
      (pss_one (ps_ret (pe_cmpR (op_eqD hu64) (pe_lc (own := [("_law_way_here", 8)]) (tt := tYes) rfl nd (pi_seq (pv 9)) (blkOk_by (N := N_law_word_right) (sc := defScope s_law_word_right) (own := [("_law_way_here", 8)]) (by decide +kernel)) (fun _ _ _ _ _ => (pg_name (i := 8) nd rfl (Or.inl rfl))) (fun _ _ _ _ _ => pts_nil) (fun _ _ _ _ _ => (pe_call O_law_led (hr.mono (by decide)) rfl T.g_law_led T.k_law_led B.b_law_led .nil pass0 (pa_cons (pv 8) (pa_cons (pv 1) pa_nil))))) (pe_lst (pa_cons (pe_tup (pa_cons pe_int (pa_cons pe_int pa_nil))) (pa_cons (pe_tup (pa_cons pe_int (pa_cons pe_int pa_nil))) pa_nil))) (by first | rfl | exact nomark _))))))))))
theorem ok_law_refused_right (F : Fun K "_law_refused_right" "_law_refused_right" s_law_refused_right A.a_law_refused_right D.f_law_refused_right) (T : Txt P K mg C A) (B : Bnd K D) (O_law_one_of : FnOk P w K mg base CX0 2 A.a_law_one_of D.f_law_one_of ["_law_lexicon_here", "_law_some"] (sp_law_one_of K C)) (O_ways_of : FnOk P w K mg base (L2.CX P w) 4 A.a_ways_of D.f_ways_of ["word"] (sp_ways_of K C)) (O_word_of : FnOk P w K mg base (L2.CX P w) 4 A.a_word_of D.f_word_of ["way"] (sp_word_of K C)) (F_law_heard : Fun K "_law_heard" "_law_heard" s_law_heard A.a_law_heard D.f_law_heard) (pure_law_heard : ∀ (f c' : Addr) (q : Str) (tl : XK → Hp → VK → Prop) (H : Hp) (Q : VK), H c' = some (LamX.CodeO c' q) → TT_law_heard K C tl H Q → t_law_heard K C f c' q tl { nx := fun _ H' => Q .non H', rt := Q } (start N_law_heard [.ref f]) H) (hcd : D.f_law_refused_right.code = .ref A.c_law_refused_right) (TB : LamX.TabB base mg A.c_law_refused_right A.p_law_refused_right)
    (pure : ∀ vs H Q E, sp_law_refused_right K C vs H Q E → vs.length = 1 ∧ t_law_refused_right K C { nx := fun _ H' => Q .non H', rt := Q } (start N_law_refused_right vs) H) : FnG P w K mg base CX0 7 A.a_law_refused_right D.f_law_refused_right ["_law_lexicon_here"] (sp_law_refused_right K C) := by
  have nd := sc_law_refused_right.nd
  refine funGt F hcd sc_law_refused_right (fun vs H Q E h => (pure vs H Q E h).1) fun A' outer s H vs Q E hr hgd h => ⟨t_law_refused_right K C, ?_, (pure vs H Q E h).2⟩
  have hu64 := hr.units
  have hu65 := u65 hr
  exact (pss_then (ps_set (i := 1) nd rfl (Or.inr rfl) (pe_call O_law_one_of (hr.mono (by decide)) rfl T.g_law_one_of T.k_law_one_of B.b_law_one_of .nil pass0 (pa_cons (pv 0) (pa_cons (pe_lst (pa_cons pe_non (pa_cons pe_int (pa_cons (pe_tup (pa_cons pe_int (pa_cons pe_int pa_nil))) (pa_cons (pe_tup (pa_cons pe_int (pa_cons pe_int pa_nil))) (pa_cons (pe_tup (pa_cons (pe_un u_neg pe_int) (pa_cons pe_int pa_nil))) (pa_cons (pe_tup (pa_cons pe_int (pa_cons (pe_un u_neg pe_int) pa_nil))) (pa_cons (pe_tup (pa_cons pe_int (pa_cons (pe_un u_neg pe_int) pa_nil))) (pa_cons (pe_tup (pa_cons (pe_op o_add (pe_op o_pow pe_int pe_int) pe_int) (pa_cons pe_int pa_nil))) (pa_cons (pe_tup (pa_cons pe_int (pa_cons pe_bl pa_nil))) (pa_cons (pe_tup (pa_cons pe_int pa_nil)) (pa_cons pe_str (pa_cons (pe_tup (pa_cons pe_int (pa_cons pe_int pa_nil))) (pa_cons pe_dnewK (pa_cons (pe_tup (pa_cons pe_int (pa_cons pe_int (pa_cons pe_int pa_nil)))) pa_nil))))))))))))))) pa_nil))))
      (pss_then (ps_set (i := 2) nd rfl (Or.inl rfl) (pe_call O_law_one_of (hr.mono (by decide)) rfl T.g_law_one_of T.k_law_one_of B.b_law_one_of .nil pass0 (pa_cons (pv 0) (pa_cons (pe_lst (pa_cons pe_non (pa_cons (pe_tup (pa_cons pe_str (pa_cons pe_int pa_nil))) (pa_cons (pe_tup (pa_cons pe_str (pa_cons pe_int pa_nil))) (pa_cons (pe_tup (pa_cons pe_str (pa_cons (pe_un u_neg pe_int) pa_nil))) (pa_cons (pe_tup (pa_cons pe_str (pa_cons pe_bl pa_nil))) (pa_cons (pe_tup (pa_cons pe_str pa_nil)) (pa_cons (pe_tup (pa_cons pe_str (pa_cons pe_int (pa_cons pe_int pa_nil)))) (pa_cons (pe_tup (pa_cons pe_int (pa_cons pe_str pa_nil))) (pa_cons (pe_tup (pa_cons pe_str (pa_cons pe_int pa_nil))) (pa_cons (pe_tup (pa_cons pe_str (pa_cons (pe_op o_add (pe_op o_pow pe_int pe_int) pe_int) pa_nil))) (pa_cons pe_str (pa_cons (pe_tup (pa_cons pe_str (pa_cons pe_int pa_nil))) (pa_cons (pe_tup (pa_cons (pe_lst (pa_cons pe_str pa_nil)) (pa_cons pe_int pa_nil))) pa_nil)))))))))))))) pa_nil))))
      (pss_then (ps_set (i := 3) nd rfl (Or.inr rfl) (pe_call O_law_one_of (hr.mono (by decide)) rfl T.g_law_one_of T.k_law_one_of B.b_law_one_of .nil pass0 (pa_cons (pv 0) (pa_cons (pe_lst (pa_cons pe_non (pa_cons pe_int (pa_cons pe_str (pa_cons pe_dnewK (pa_cons (pe_lst (pa_cons (pv 2) pa_nil)) (pa_cons (pe_lst (pa_cons (pe_tup (pa_cons pe_str (pa_cons pe_int pa_nil))) (pa_cons (pv 2) pa_nil))) (pa_cons (pe_tup (pa_cons (pv 2) (pa_cons (pe_tup (pa_cons pe_str (pa_cons pe_int pa_nil))) pa_nil))) (pa_cons (pe_op op_rep (pe_lst (pa_cons (pe_tup (pa_cons pe_str (pa_cons pe_int pa_nil))) pa_nil)) pe_int) pa_nil))))))))) pa_nil))))
      (pss_then (ps_set (i := 4) nd rfl (Or.inr rfl) (pe_call O_law_one_of (hr.mono (by decide)) rfl T.g_law_one_of T.k_law_one_of B.b_law_one_of .nil pass0 (pa_cons (pv 0) (pa_cons (pe_lst (pa_cons (pe_lst (pa_cons (pe_tup (pa_cons pe_str (pa_cons (pe_op o_pow pe_int pe_int) pa_nil))) (pa_cons (pe_tup (pa_cons pe_str (pa_cons pe_int pa_nil))) (pa_cons (pe_tup (pa_cons pe_str (pa_cons pe_int pa_nil))) pa_nil)))) (pa_cons (pe_op op_rep (pe_lst (pa_cons (pe_tup (pa_cons pe_str (pa_cons pe_int pa_nil))) (pa_cons (pe_tup (pa_cons pe_str (pa_cons pe_int pa_nil))) pa_nil))) pe_int) (pa_cons (pe_lst (pa_cons (pe_tup (pa_cons pe_str (pa_cons (pe_op o_pow pe_int pe_int) pa_nil))) (pa_cons (pe_tup (pa_cons pe_str (pa_cons pe_int pa_nil))) pa_nil))) pa_nil)))) pa_nil))))
      (pss_then (ps_set (i := 5) nd rfl (Or.inl rfl) (pe_lst (pa_cons (pe_hear (T := C.tabs) (k := 4) (ds := []) F_law_heard sc_law_heard rfl (Or.inl rfl) B.b_law_heard (fun cdg q => hears_law_heard T B pure_law_heard cdg q) rfl T.g_law_heard T.k_law_heard TB rfl T.tm_law_refused_right T.tu_law_refused_right (hr.mono (by decide)) (lamN_by (N := N_law_refused_right) (sc := defScope s_law_refused_right) (by decide +kernel)) (.no rfl (fun _ _ _ _ _ _ _ => rfl)) (fun _ _ _ _ E _ _ hrl => (pe_call O_word_of (hrl.mono (by decide)) rfl T.g_word_of T.k_word_of B.b_word_of .nil (passes_call (takes_of rfl rfl rfl rfl) (fun _ _ _ _ h => h)) (pa_cons (pv 1) pa_nil)))) (pa_cons (pe_hear (T := C.tabs) (k := 4) (ds := [("_law_a1", 0)]) F_law_heard sc_law_heard rfl (Or.inl rfl) B.b_law_heard (fun cdg q => hears_law_heard T B pure_law_heard cdg q) rfl T.g_law_heard T.k_law_heard TB rfl T.tm_law_refused_right T.tu_law_refused_right (hr.mono (by decide)) (lamN_by (N := N_law_refused_right) (sc := defScope s_law_refused_right) (by decide +kernel)) (.one "_law_a1" 0 _ _ rfl (fun _ _ _ _ _ _ _ _ _ => ⟨_, rfl, rfl⟩)) (fun _ _ _ _ E _ _ hrl => (pe_call O_ways_of (hrl.mono (by decide)) rfl T.g_ways_of T.k_ways_of B.b_ways_of .nil (passes_call (takes_of rfl rfl rfl rfl) (fun _ _ _ _ h => h)) (pa_cons (pv 3) pa_nil)))) (pa_cons (pe_hear (T := C.tabs) (k := 4) (ds := [("_law_a2", 0)]) F_law_heard sc_law_heard rfl (Or.inl rfl) B.b_law_heard (fun cdg q => hears_law_heard T B pure_law_heard cdg q) rfl T.g_law_heard T.k_law_heard TB rfl T.tm_law_refused_right T.tu_law_refused_right (hr.mono (by decide)) (lamN_by (N := N_law_refused_right) (sc := defScope s_law_refused_right) (by decide +kernel)) (.one "_law_a2" 0 _ _ rfl (fun _ _ _ _ _ _ _ _ _ => ⟨_, rfl, rfl⟩)) (fun _ _ _ _ E _ _ hrl => (pe_call O_ways_of (hrl.mono (by decide)) rfl T.g_ways_of T.k_ways_of B.b_ways_of .nil (passes_call (takes_of rfl rfl rfl rfl) (fun _ _ _ _ h => h)) (pa_cons (pv 4) pa_nil)))) pa_nil)))))
      (pss_one (ps_ret (pe_cmpR (op_eqD hu64) (pv 5) (pe_lst (pa_cons (pe_tup (pa_cons pe_str (pa_cons pe_str pa_nil))) (pa_cons (pe_tup (pa_cons pe_str (pa_cons pe_str pa_nil))) (pa_cons (pe_tup (pa_cons pe_str (pa_cons pe_str pa_nil))) pa_nil)))) (by first | rfl | exact nomark _)))))))))
theorem ok_law (F : Fun K "law" "law" s_law A.a_law D.f_law) (T : Txt P K mg C A) (B : Bnd K D) (O_law_lexicon : FnOk P w K mg base CX0 1 A.a_law_lexicon D.f_law_lexicon ["_law_script"] (sp_law_lexicon K C)) (O_law_way : FnOk P w K mg base CX0 3 A.a_law_way D.f_law_way ["_law_lexicon_here"] (sp_law_way K C)) (O_law_due : FnOk P w K mg base CX0 1 A.a_law_due D.f_law_due ["_law_way_here"] (sp_law_due K C)) (O_word_of : FnOk P w K mg base (L2.CX P w) 4 A.a_word_of D.f_word_of ["way"] (sp_word_of K C)) (O_law_led : FnOk P w K mg base CX0 1 A.a_law_led D.f_law_led ["_law_way_here", "_law_word"] (sp_law_led K C)) (O_ways_of : FnOk P w K mg base (L2.CX P w) 4 A.a_ways_of D.f_ways_of ["word"] (sp_ways_of K C)) (O_law_word_right : FnG P w K mg base CX0 7 A.a_law_word_right D.f_law_word_right ["_law_lexicon_here"] (sp_law_word_right K C)) (O_law_refused_right : FnG P w K mg base CX0 7 A.a_law_refused_right D.f_law_refused_right ["_law_lexicon_here"] (sp_law_refused_right K C))
    (pure : ∀ vs H Q E, sp_law K C vs H Q E → vs.length = 1 ∧ t_law K C { nx := fun _ H' => Q .non H', rt := Q } (start N_law vs) H) : FnG P w K mg base CX0 8 A.a_law D.f_law ["_law_script"] (sp_law K C) := by
  have nd := sc_law.nd
  refine funG F sc_law (fun vs H Q E h => (pure vs H Q E h).1) fun cdv A' outer s H vs Q E hr hgd h => ⟨t_law K C, ?_, (pure vs H Q E h).2⟩
  have hu64 := hr.units
  have hu65 := u65 hr
  exact (pss_then (ps_set (i := 1) nd rfl (Or.inl rfl) (pe_call O_law_lexicon (hr.mono (by decide)) rfl T.g_law_lexicon T.k_law_lexicon B.b_law_lexicon .nil pass0 (pa_cons (pv 0) pa_nil)))
      (pss_then (ps_for PassesOwn.never rfl (pi_range1 rfl T.n_range (pa_cons pe_int pa_nil)) (pg_name (i := 2) nd rfl (Or.inl rfl)) (pss_then (ps_set (i := 3) nd rfl (Or.inl rfl) (pe_call O_law_way (hr.mono (by decide)) rfl T.g_law_way T.k_law_way B.b_law_way .nil pass0 (pa_cons (pv 1) pa_nil)))
      (pss_then (ps_par rfl nd rfl rfl (by decide) rfl rfl (pa_cons (pe_call O_word_of (hr.mono (by decide)) rfl T.g_word_of T.k_word_of B.b_word_of .nil passL (pa_cons (pv 3) pa_nil)) (pa_cons (pe_call O_law_due (hr.mono (by decide)) rfl T.g_law_due T.k_law_due B.b_law_due .nil pass0 (pa_cons (pv 3) pa_nil)) pa_nil)) (by rfl))
      (pss_then (ps_if (PW.pt (pw_or (pt_cmpR op_ne (pe_callB (c_repr hgd hr.units) (by rfl) T.n_repr (by decide +kernel) (pa_cons (pv 4) pa_nil)) (pe_callB (c_repr hgd hr.units) (by rfl) T.n_repr (by decide +kernel) (pa_cons (pv 5) pa_nil)) (by first | rfl | exact nomark _)) (pw_or (pt_cmpR (op_neD hu64) (pe_callK0 O_word_of (hr.mono (by decide)) rfl T.g_word_of T.k_word_of B.kb_word_of_0_way passL (pk_cons (pe_callTy c_listOf (by rfl) T.n_list (by decide +kernel) (pa_cons (pv 3) pa_nil)) pk_nil)) (pv 5) (by first | rfl | exact nomark _)) (pw_or1 (pt_cmpR (op_neD hu64) (pe_call O_law_led (hr.mono (by decide)) rfl T.g_law_led T.k_law_led B.b_law_led .nil pass0 (pa_cons (pv 3) (pa_cons (pe_ix ix_seq (pv 4) pe_int (fun _ _ => rfl)) pa_nil))) (pe_dget (hu_of hr) (pe_disp (pps_cons pe_str (pe_tup (pa_cons pe_int (pa_cons pe_int pa_nil))) (pps_cons pe_str (pe_tup (pa_cons pe_int (pa_cons pe_int pa_nil))) pps_nil)) (by rfl) (by rfl) (fun z => by cases z) (by decide)) (pe_ix ix_seq (pv 4) pe_int (fun _ _ => rfl)) (fun _ _ => rfl)) (by first | rfl | exact nomark _)))))) (pss_one (ps_ret pe_bl)) pss_nil)
      (pss_then (ps_if (pt_cmpR (o_notInS hu65) (pv 3) (pe_call O_ways_of (hr.mono (by decide)) rfl T.g_ways_of T.k_ways_of B.b_ways_of .nil passL (pa_cons (pe_ix ix_seq (pv 4) pe_int (fun _ _ => rfl)) pa_nil)) (by first | rfl | exact nomark _)) (pss_one (ps_ret pe_bl)) pss_nil)
      (pss_one (ps_if (PW.pt (pw_or (pt_not (pt_val (pe_callG O_law_word_right (hr.mono (by decide)) hgd rfl T.g_law_word_right T.k_law_word_right B.b_law_word_right .nil pass0 (pa_cons (pv 1) pa_nil)))) (pw_or1 (pt_not (pt_val (pe_callG O_law_refused_right (hr.mono (by decide)) hgd rfl T.g_law_refused_right T.k_law_refused_right B.b_law_refused_right .nil pass0 (pa_cons (pv 1) pa_nil))))))) (pss_one (ps_ret pe_bl)) pss_nil)))))))
      (pss_one (ps_ret (pe_cmpR (op_eqD hu64) (pe_lst (pa_cons (pe_call O_ways_of (hr.mono (by decide)) rfl T.g_ways_of T.k_ways_of B.b_ways_of .nil passL (pa_cons (pe_lst (pa_cons (pe_tup (pa_cons pe_str (pa_cons (pe_op o_pow pe_int pe_int) pa_nil))) pa_nil)) pa_nil)) (pa_cons (pe_call O_word_of (hr.mono (by decide)) rfl T.g_word_of T.k_word_of B.b_word_of .nil passL (pa_cons (pe_tup (pa_cons (pe_op o_pow pe_int pe_int) (pa_cons (pe_op o_sub (pe_op o_pow pe_int pe_int) pe_int) pa_nil))) pa_nil)) pa_nil))) (pe_lst (pa_cons (pe_tup (pa_cons (pe_tup (pa_cons pe_int (pa_cons pe_int pa_nil))) (pa_cons (pe_tup (pa_cons (pe_op o_pow pe_int pe_int) (pa_cons pe_int pa_nil))) pa_nil))) (pa_cons (pe_tup (pa_cons (pe_tup (pa_cons (pe_tup (pa_cons pe_str (pa_cons pe_int pa_nil))) (pa_cons (pe_tup (pa_cons pe_str (pa_cons (pe_op o_sub (pe_op o_pow pe_int pe_int) pe_int) pa_nil))) pa_nil))) (pa_cons pe_str pa_nil))) pa_nil))) (by first | rfl | exact nomark _))))))
end
theorem all_mk {P PQ : Program} {w : World} {K : PySem.W.Frag} {h : Heap} {mg : Str → Option Value} {fa f_is_integer f_is_within f_is_list f_is_point f_common f_is_way f_word_in f_ways_in f_is_letter f_need_word f_word_of f_ways_of f_law_lexicon f_law_page f_law_one_of f_law_heard f_law_way f_law_due f_law_led f_law_word_right f_law_refused_right f_law C_BadWord C_BadWay C_Misfit C_MirrorError C_TooMany i_BadWord cc_BadWord co_BadWord i_BadWay cc_BadWay co_BadWay i_Misfit cc_Misfit co_Misfit c_law_word_right p_law_word_right c_law_refused_right p_law_refused_right : Addr} (X : K.In h) (G : h.Ns mainGlobals mg) (hfa : mg "law" = some (.ref fa))
    (tabs : ∀ (x : Str) (c P : Addr), ((PyProof.Rows.recsOf PQ).any fun e => e.name == x) = true → PySem.W.tabIn K x = some (c, P) → PySem.W.CodeHd h c P ∧ h.get? P = some { cls := .none, data := .fields #[] })
    {od0 an0 : Option Addr} {sl0 : Array (Option Value)} {oc0 kV0 dc0 pm0 cd0 ct0 : Value}
    {od1 an1 : Option Addr} {sl1 : Array (Option Value)} {oc1 kV1 dc1 pm1 cd1 ct1 : Value}
    {od2 an2 : Option Addr} {sl2 : Array (Option Value)} {oc2 kV2 dc2 pm2 cd2 ct2 : Value}
    {od3 an3 : Option Addr} {sl3 : Array (Option Value)} {oc3 kV3 dc3 pm3 cd3 ct3 : Value}
    {od4 an4 : Option Addr} {sl4 : Array (Option Value)} {oc4 kV4 dc4 pm4 cd4 ct4 : Value}
    {od5 an5 : Option Addr} {sl5 : Array (Option Value)} {oc5 kV5 dc5 pm5 cd5 ct5 : Value}
    {od6 an6 : Option Addr} {sl6 : Array (Option Value)} {oc6 kV6 dc6 pm6 cd6 ct6 : Value}
    {od7 an7 : Option Addr} {sl7 : Array (Option Value)} {oc7 kV7 dc7 pm7 cd7 ct7 : Value}
    {od8 an8 : Option Addr} {sl8 : Array (Option Value)} {oc8 kV8 dc8 pm8 cd8 ct8 : Value}
    {od9 an9 : Option Addr} {sl9 : Array (Option Value)} {oc9 kV9 dc9 pm9 cd9 ct9 : Value}
    {od10 an10 : Option Addr} {sl10 : Array (Option Value)} {oc10 kV10 dc10 pm10 cd10 ct10 : Value}
    {od11 an11 : Option Addr} {sl11 : Array (Option Value)} {oc11 kV11 dc11 pm11 cd11 ct11 : Value}
    {od12 an12 : Option Addr} {sl12 : Array (Option Value)} {oc12 kV12 dc12 pm12 cd12 ct12 : Value}
    {od13 an13 : Option Addr} {sl13 : Array (Option Value)} {oc13 kV13 dc13 pm13 cd13 ct13 : Value}
    {od14 an14 : Option Addr} {sl14 : Array (Option Value)} {oc14 kV14 dc14 pm14 cd14 ct14 : Value}
    {od15 an15 : Option Addr} {sl15 : Array (Option Value)} {oc15 kV15 dc15 pm15 cd15 ct15 : Value}
    {od16 an16 : Option Addr} {sl16 : Array (Option Value)} {oc16 kV16 dc16 pm16 cd16 ct16 : Value}
    {od17 an17 : Option Addr} {sl17 : Array (Option Value)} {oc17 kV17 dc17 pm17 cd17 ct17 : Value}
    {od18 an18 : Option Addr} {sl18 : Array (Option Value)} {oc18 kV18 dc18 pm18 cd18 ct18 : Value}
    {od19 an19 : Option Addr} {sl19 : Array (Option Value)} {oc19 kV19 dc19 pm19 ct19 : Value}
    {od20 an20 : Option Addr} {sl20 : Array (Option Value)} {oc20 kV20 dc20 pm20 ct20 : Value}
    {od21 an21 : Option Addr} {sl21 : Array (Option Value)} {oc21 kV21 dc21 pm21 cd21 ct21 : Value}
    {tk_MOST_WAY : Tok}
    {tk_A : Tok}
    {tk_B : Tok}
    {tk_EAST : Tok}
    {tk_NORTH : Tok}
    {tk_MOST_PAIRS : Tok}
    {tk_MOST_TIMES : Tok}
    {nm_BadWord ql_BadWord : Str} {N_BadWord : Addr} {bs_BadWord su_BadWord : List Value} {sn_BadWord : List Str} {ab_BadWord : Bool} {cl_BadWord : Option Bool} {dd_BadWord : Option Addr} {m0_BadWord m1_BadWord m2_BadWord m3_BadWord m5_BadWord : Option Value}
    {fa_BadWord fd_BadWord fe_BadWord ff_BadWord : Value} {fb_BadWord fc_BadWord fg_BadWord fk_BadWord : Option Addr} {fh_BadWord fi_BadWord fj_BadWord : Array (Option Value)} {vs_BadWord : Array Value} {fl_BadWord : Str} {ft_BadWord : Tok} {fy_BadWord fz_BadWord : Value}
    {nm_BadWay ql_BadWay : Str} {N_BadWay : Addr} {bs_BadWay su_BadWay : List Value} {sn_BadWay : List Str} {ab_BadWay : Bool} {cl_BadWay : Option Bool} {dd_BadWay : Option Addr} {m0_BadWay m1_BadWay m2_BadWay m3_BadWay m5_BadWay : Option Value}
    {fa_BadWay fd_BadWay fe_BadWay ff_BadWay : Value} {fb_BadWay fc_BadWay fg_BadWay fk_BadWay : Option Addr} {fh_BadWay fi_BadWay fj_BadWay : Array (Option Value)} {vs_BadWay : Array Value} {fl_BadWay : Str} {ft_BadWay : Tok} {fy_BadWay fz_BadWay : Value}
    {nm_Misfit ql_Misfit : Str} {N_Misfit : Addr} {bs_Misfit su_Misfit : List Value} {sn_Misfit : List Str} {ab_Misfit : Bool} {cl_Misfit : Option Bool} {dd_Misfit : Option Addr} {m0_Misfit m1_Misfit m2_Misfit m3_Misfit m5_Misfit : Option Value}
    {fa_Misfit fd_Misfit fe_Misfit ff_Misfit : Value} {fb_Misfit fc_Misfit fg_Misfit fk_Misfit : Option Addr} {fh_Misfit fi_Misfit fj_Misfit : Array (Option Value)} {vs_Misfit : Array Value} {fl_Misfit : Str} {ft_Misfit : Tok} {fy_Misfit fz_Misfit : Value}
    (a0 : PySem.W.nsIn K mainGlobals "is_integer" = some (some (.ref f_is_integer))) (l0 : K.lookup f_is_integer = some ⟨oc0, od0, .func (PySem.W.fnOf "is_integer" "is_integer" (defArgs s_is_integer) (defBody s_is_integer) (defScope s_is_integer) .none kV0 dc0 pm0 an0 cd0 ct0), sl0⟩) (c0 : PySem.W.codeIn K cd0 "is_integer" = true) (k0 : PySem.W.keepIn K (.ref f_is_integer) = true)
    (a1 : PySem.W.nsIn K mainGlobals "is_within" = some (some (.ref f_is_within))) (l1 : K.lookup f_is_within = some ⟨oc1, od1, .func (PySem.W.fnOf "is_within" "is_within" (defArgs s_is_within) (defBody s_is_within) (defScope s_is_within) .none kV1 dc1 pm1 an1 cd1 ct1), sl1⟩) (c1 : PySem.W.codeIn K cd1 "is_within" = true) (k1 : PySem.W.keepIn K (.ref f_is_within) = true)
    (a2 : PySem.W.nsIn K mainGlobals "is_list" = some (some (.ref f_is_list))) (l2 : K.lookup f_is_list = some ⟨oc2, od2, .func (PySem.W.fnOf "is_list" "is_list" (defArgs s_is_list) (defBody s_is_list) (defScope s_is_list) .none kV2 dc2 pm2 an2 cd2 ct2), sl2⟩) (c2 : PySem.W.codeIn K cd2 "is_list" = true) (k2 : PySem.W.keepIn K (.ref f_is_list) = true)
    (a3 : PySem.W.nsIn K mainGlobals "is_point" = some (some (.ref f_is_point))) (l3 : K.lookup f_is_point = some ⟨oc3, od3, .func (PySem.W.fnOf "is_point" "is_point" (defArgs s_is_point) (defBody s_is_point) (defScope s_is_point) .none kV3 dc3 pm3 an3 cd3 ct3), sl3⟩) (c3 : PySem.W.codeIn K cd3 "is_point" = true) (k3 : PySem.W.keepIn K (.ref f_is_point) = true)
    (a4 : PySem.W.nsIn K mainGlobals "common" = some (some (.ref f_common))) (l4 : K.lookup f_common = some ⟨oc4, od4, .func (PySem.W.fnOf "common" "common" (defArgs s_common) (defBody s_common) (defScope s_common) .none kV4 dc4 pm4 an4 cd4 ct4), sl4⟩) (c4 : PySem.W.codeIn K cd4 "common" = true) (k4 : PySem.W.keepIn K (.ref f_common) = true)
    (a5 : PySem.W.nsIn K mainGlobals "is_way" = some (some (.ref f_is_way))) (l5 : K.lookup f_is_way = some ⟨oc5, od5, .func (PySem.W.fnOf "is_way" "is_way" (defArgs s_is_way) (defBody s_is_way) (defScope s_is_way) .none kV5 dc5 pm5 an5 cd5 ct5), sl5⟩) (c5 : PySem.W.codeIn K cd5 "is_way" = true) (k5 : PySem.W.keepIn K (.ref f_is_way) = true)
    (a6 : PySem.W.nsIn K mainGlobals "word_in" = some (some (.ref f_word_in))) (l6 : K.lookup f_word_in = some ⟨oc6, od6, .func (PySem.W.fnOf "word_in" "word_in" (defArgs s_word_in) (defBody s_word_in) (defScope s_word_in) .none kV6 dc6 pm6 an6 cd6 ct6), sl6⟩) (c6 : PySem.W.codeIn K cd6 "word_in" = true) (k6 : PySem.W.keepIn K (.ref f_word_in) = true)
    (a7 : PySem.W.nsIn K mainGlobals "ways_in" = some (some (.ref f_ways_in))) (l7 : K.lookup f_ways_in = some ⟨oc7, od7, .func (PySem.W.fnOf "ways_in" "ways_in" (defArgs s_ways_in) (defBody s_ways_in) (defScope s_ways_in) .none kV7 dc7 pm7 an7 cd7 ct7), sl7⟩) (c7 : PySem.W.codeIn K cd7 "ways_in" = true) (k7 : PySem.W.keepIn K (.ref f_ways_in) = true)
    (a8 : PySem.W.nsIn K mainGlobals "is_letter" = some (some (.ref f_is_letter))) (l8 : K.lookup f_is_letter = some ⟨oc8, od8, .func (PySem.W.fnOf "is_letter" "is_letter" (defArgs s_is_letter) (defBody s_is_letter) (defScope s_is_letter) .none kV8 dc8 pm8 an8 cd8 ct8), sl8⟩) (c8 : PySem.W.codeIn K cd8 "is_letter" = true) (k8 : PySem.W.keepIn K (.ref f_is_letter) = true)
    (a9 : PySem.W.nsIn K mainGlobals "need_word" = some (some (.ref f_need_word))) (l9 : K.lookup f_need_word = some ⟨oc9, od9, .func (PySem.W.fnOf "need_word" "need_word" (defArgs s_need_word) (defBody s_need_word) (defScope s_need_word) .none kV9 dc9 pm9 an9 cd9 ct9), sl9⟩) (c9 : PySem.W.codeIn K cd9 "need_word" = true) (k9 : PySem.W.keepIn K (.ref f_need_word) = true)
    (a10 : PySem.W.nsIn K mainGlobals "word_of" = some (some (.ref f_word_of))) (l10 : K.lookup f_word_of = some ⟨oc10, od10, .func (PySem.W.fnOf "word_of" "word_of" (defArgs s_word_of) (defBody s_word_of) (defScope s_word_of) .none kV10 dc10 pm10 an10 cd10 ct10), sl10⟩) (c10 : PySem.W.codeIn K cd10 "word_of" = true) (k10 : PySem.W.keepIn K (.ref f_word_of) = true)
    (a11 : PySem.W.nsIn K mainGlobals "ways_of" = some (some (.ref f_ways_of))) (l11 : K.lookup f_ways_of = some ⟨oc11, od11, .func (PySem.W.fnOf "ways_of" "ways_of" (defArgs s_ways_of) (defBody s_ways_of) (defScope s_ways_of) .none kV11 dc11 pm11 an11 cd11 ct11), sl11⟩) (c11 : PySem.W.codeIn K cd11 "ways_of" = true) (k11 : PySem.W.keepIn K (.ref f_ways_of) = true)
    (a12 : PySem.W.nsIn K mainGlobals "_law_lexicon" = some (some (.ref f_law_lexicon))) (l12 : K.lookup f_law_lexicon = some ⟨oc12, od12, .func (PySem.W.fnOf "_law_lexicon" "_law_lexicon" (defArgs s_law_lexicon) (defBody s_law_lexicon) (defScope s_law_lexicon) .none kV12 dc12 pm12 an12 cd12 ct12), sl12⟩) (c12 : PySem.W.codeIn K cd12 "_law_lexicon" = true) (k12 : PySem.W.keepIn K (.ref f_law_lexicon) = true)
    (a13 : PySem.W.nsIn K mainGlobals "_law_page" = some (some (.ref f_law_page))) (l13 : K.lookup f_law_page = some ⟨oc13, od13, .func (PySem.W.fnOf "_law_page" "_law_page" (defArgs s_law_page) (defBody s_law_page) (defScope s_law_page) .none kV13 dc13 pm13 an13 cd13 ct13), sl13⟩) (c13 : PySem.W.codeIn K cd13 "_law_page" = true) (k13 : PySem.W.keepIn K (.ref f_law_page) = true)
    (a14 : PySem.W.nsIn K mainGlobals "_law_one_of" = some (some (.ref f_law_one_of))) (l14 : K.lookup f_law_one_of = some ⟨oc14, od14, .func (PySem.W.fnOf "_law_one_of" "_law_one_of" (defArgs s_law_one_of) (defBody s_law_one_of) (defScope s_law_one_of) .none kV14 dc14 pm14 an14 cd14 ct14), sl14⟩) (c14 : PySem.W.codeIn K cd14 "_law_one_of" = true) (k14 : PySem.W.keepIn K (.ref f_law_one_of) = true)
    (a15 : PySem.W.nsIn K mainGlobals "_law_heard" = some (some (.ref f_law_heard))) (l15 : K.lookup f_law_heard = some ⟨oc15, od15, .func (PySem.W.fnOf "_law_heard" "_law_heard" (defArgs s_law_heard) (defBody s_law_heard) (defScope s_law_heard) .none kV15 dc15 pm15 an15 cd15 ct15), sl15⟩) (c15 : PySem.W.codeIn K cd15 "_law_heard" = true) (k15 : PySem.W.keepIn K (.ref f_law_heard) = true)
    (a16 : PySem.W.nsIn K mainGlobals "_law_way" = some (some (.ref f_law_way))) (l16 : K.lookup f_law_way = some ⟨oc16, od16, .func (PySem.W.fnOf "_law_way" "_law_way" (defArgs s_law_way) (defBody s_law_way) (defScope s_law_way) .none kV16 dc16 pm16 an16 cd16 ct16), sl16⟩) (c16 : PySem.W.codeIn K cd16 "_law_way" = true) (k16 : PySem.W.keepIn K (.ref f_law_way) = true)
    (a17 : PySem.W.nsIn K mainGlobals "_law_due" = some (some (.ref f_law_due))) (l17 : K.lookup f_law_due = some ⟨oc17, od17, .func (PySem.W.fnOf "_law_due" "_law_due" (defArgs s_law_due) (defBody s_law_due) (defScope s_law_due) .none kV17 dc17 pm17 an17 cd17 ct17), sl17⟩) (c17 : PySem.W.codeIn K cd17 "_law_due" = true) (k17 : PySem.W.keepIn K (.ref f_law_due) = true)
    (a18 : PySem.W.nsIn K mainGlobals "_law_led" = some (some (.ref f_law_led))) (l18 : K.lookup f_law_led = some ⟨oc18, od18, .func (PySem.W.fnOf "_law_led" "_law_led" (defArgs s_law_led) (defBody s_law_led) (defScope s_law_led) .none kV18 dc18 pm18 an18 cd18 ct18), sl18⟩) (c18 : PySem.W.codeIn K cd18 "_law_led" = true) (k18 : PySem.W.keepIn K (.ref f_law_led) = true)
    (a19 : PySem.W.nsIn K mainGlobals "_law_word_right" = some (some (.ref f_law_word_right))) (l19 : K.lookup f_law_word_right = some ⟨oc19, od19, .func (PySem.W.fnOf "_law_word_right" "_law_word_right" (defArgs s_law_word_right) (defBody s_law_word_right) (defScope s_law_word_right) .none kV19 dc19 pm19 an19 (.ref c_law_word_right) ct19), sl19⟩) (c19 : PySem.W.codeIn K (.ref c_law_word_right) "_law_word_right" = true) (k19 : PySem.W.keepIn K (.ref f_law_word_right) = true)
    (a20 : PySem.W.nsIn K mainGlobals "_law_refused_right" = some (some (.ref f_law_refused_right))) (l20 : K.lookup f_law_refused_right = some ⟨oc20, od20, .func (PySem.W.fnOf "_law_refused_right" "_law_refused_right" (defArgs s_law_refused_right) (defBody s_law_refused_right) (defScope s_law_refused_right) .none kV20 dc20 pm20 an20 (.ref c_law_refused_right) ct20), sl20⟩) (c20 : PySem.W.codeIn K (.ref c_law_refused_right) "_law_refused_right" = true) (k20 : PySem.W.keepIn K (.ref f_law_refused_right) = true)
    (a21 : PySem.W.nsIn K mainGlobals "law" = some (some (.ref f_law))) (l21 : K.lookup f_law = some ⟨oc21, od21, .func (PySem.W.fnOf "law" "law" (defArgs s_law) (defBody s_law) (defScope s_law) .none kV21 dc21 pm21 an21 cd21 ct21), sl21⟩) (c21 : PySem.W.codeIn K cd21 "law" = true) (k21 : PySem.W.keepIn K (.ref f_law) = true)
    (z_isinstance : PySem.W.nsIn K mainGlobals "isinstance" = some none)
    (z_int : PySem.W.nsIn K mainGlobals "int" = some none)
    (z_bool : PySem.W.nsIn K mainGlobals "bool" = some none)
    (z_tuple : PySem.W.nsIn K mainGlobals "tuple" = some none)
    (z_list : PySem.W.nsIn K mainGlobals "list" = some none)
    (z_len : PySem.W.nsIn K mainGlobals "len" = some none)
    (z_all : PySem.W.nsIn K mainGlobals "all" = some none)
    (z_abs : PySem.W.nsIn K mainGlobals "abs" = some none)
    (z_reversed : PySem.W.nsIn K mainGlobals "reversed" = some none)
    (z_str : PySem.W.nsIn K mainGlobals "str" = some none)
    (z_super : PySem.W.nsIn K mainGlobals "super" = some none)
    (z_max : PySem.W.nsIn K mainGlobals "max" = some none)
    (z_range : PySem.W.nsIn K mainGlobals "range" = some none)
    (z_repr : PySem.W.nsIn K mainGlobals "repr" = some none)
    (y_MOST_WAY : PySem.W.nsIn K mainGlobals "MOST_WAY" = some (some (.int 1000000000000 tk_MOST_WAY)))
    (y_A : PySem.W.nsIn K mainGlobals "A" = some (some (.str "a" tk_A)))
    (y_B : PySem.W.nsIn K mainGlobals "B" = some (some (.str "b" tk_B)))
    (y_EAST : PySem.W.nsIn K mainGlobals "EAST" = some (some (.str "east" tk_EAST)))
    (y_NORTH : PySem.W.nsIn K mainGlobals "NORTH" = some (some (.str "north" tk_NORTH)))
    (y_MOST_PAIRS : PySem.W.nsIn K mainGlobals "MOST_PAIRS" = some (some (.int 200 tk_MOST_PAIRS)))
    (y_MOST_TIMES : PySem.W.nsIn K mainGlobals "MOST_TIMES" = some (some (.int 1000000000000 tk_MOST_TIMES)))
    (g_BadWord : PySem.W.nsIn K mainGlobals "BadWord" = some (some (.ref C_BadWord)))
    (g_BadWay : PySem.W.nsIn K mainGlobals "BadWay" = some (some (.ref C_BadWay)))
    (g_Misfit : PySem.W.nsIn K mainGlobals "Misfit" = some (some (.ref C_Misfit)))
    (g_MirrorError : PySem.W.nsIn K mainGlobals "MirrorError" = some (some (.ref C_MirrorError)))
    (g_TooMany : PySem.W.nsIn K mainGlobals "TooMany" = some (some (.ref C_TooMany)))
    (xL_BadWord : K.lookup C_BadWord = some (excClassObj nm_BadWord ql_BadWord C_BadWord N_BadWord bs_BadWord [.ref C_MirrorError, .type "ValueError", .type "Exception", .type "BaseException", .type "object"] true sn_BadWord su_BadWord ab_BadWord cl_BadWord dd_BadWord m0_BadWord m1_BadWord m2_BadWord m3_BadWord m5_BadWord "ValueError.__new__"))
    (sa_BadWord : PySem.W.findIn K (.ref C_BadWord) "__setattr__" = some (some (.builtin "object.__setattr__")))
    (ga_BadWord : PySem.W.findIn K (.ref C_BadWord) "__getattribute__" = some (some (.builtin "BaseException.__getattribute__")))
    (gg_BadWord : PySem.W.findIn K (.ref C_BadWord) "__getattr__" = some none)
    (np_BadWord : PySem.W.findIn K (.ref C_BadWord) "part" = some none)
    (in_BadWord : PySem.W.findIn K (.ref C_BadWord) "__init__" = some (some (.ref i_BadWord)))
    (tf_BadWord : PySem.W.typeIn K (.ref i_BadWord) = some (.type "function"))
    (kc_BadWord : PySem.W.keepIn K (.ref C_BadWord) = true)
    (eC_BadWord : PySem.W.subIn K (.ref C_BadWord) (.type "BaseException") = some true)
    (vC_BadWord : PySem.W.subIn K (.ref C_BadWord) (.type "ValueError") = some true)
    (tC_BadWord : PySem.W.typeIn K (.ref C_BadWord) = some (.type "type"))
    (hC_BadWord : PySem.W.hasDictIn K C_BadWord = true)
    (sC_BadWord : PySem.W.mroIn K C_BadWord (.ref C_BadWord) = some true)
    (su_BadWord : PySem.W.ks_superIn K C_BadWord C_BadWord "__init__" = some (some (.builtin "ValueError.__init__")))
    (fn_BadWord : K.lookup i_BadWord = some ⟨fa_BadWord, fb_BadWord, .func (PySem.W.ksFn "__init__" "BadWord.__init__" (erA (pq [⟨11, 17, 11, 21⟩, ⟨11, 23, 11, 27⟩, ⟨12, 8, 12, 13⟩, ⟨12, 8, 12, 15⟩, ⟨12, 8, 12, 24⟩, ⟨12, 27, 12, 36⟩, ⟨12, 37, 12, 41⟩, ⟨12, 36, 12, 42⟩, ⟨12, 25, 12, 43⟩, ⟨12, 8, 12, 44⟩, ⟨12, 8, 12, 44⟩, ⟨13, 8, 13, 12⟩, ⟨13, 8, 13, 17⟩, ⟨13, 20, 13, 24⟩, ⟨13, 8, 13, 24⟩])) (erB "is none: " 0 (pq [⟨11, 17, 11, 21⟩, ⟨11, 23, 11, 27⟩, ⟨12, 8, 12, 13⟩, ⟨12, 8, 12, 15⟩, ⟨12, 8, 12, 24⟩, ⟨12, 27, 12, 36⟩, ⟨12, 37, 12, 41⟩, ⟨12, 36, 12, 42⟩, ⟨12, 25, 12, 43⟩, ⟨12, 8, 12, 44⟩, ⟨12, 8, 12, 44⟩, ⟨13, 8, 13, 12⟩, ⟨13, 8, 13, 17⟩, ⟨13, 20, 13, 24⟩, ⟨13, 8, 13, 24⟩])) erS .none .none fd_BadWord fe_BadWord fc_BadWord (.ref co_BadWord) ff_BadWord cc_BadWord), fh_BadWord⟩)
    (cd_BadWord : PySem.W.codeIn K (.ref co_BadWord) "BadWord.__init__" = true)
    (cl_BadWord : K.lookup co_BadWord = some ⟨fy_BadWord, fg_BadWord, .fields vs_BadWord, fi_BadWord⟩)
    (v2_BadWord : vs_BadWord[2]? = some (.str fl_BadWord ft_BadWord))
    (fl_BadWord : ((P.main.file : Str) == fl_BadWord) = true)
    (ce_BadWord : K.lookup cc_BadWord = some ⟨fz_BadWord, fk_BadWord, .cell (some (.ref C_BadWord)), fj_BadWord⟩)
    (ha_BadWord : PySem.W.findIn K (.ref C_BadWord) "__class__" = some (some (.builtin "object.__class__")))
    (hm_BadWord : PySem.W.mroIn K C_BadWord (.type "object") = some true)
    (xm_BadWord : PySem.W.exmOne K (.ref C_BadWord) (.ref C_MirrorError) = some true)
    (xL_BadWay : K.lookup C_BadWay = some (excClassObj nm_BadWay ql_BadWay C_BadWay N_BadWay bs_BadWay [.ref C_MirrorError, .type "ValueError", .type "Exception", .type "BaseException", .type "object"] true sn_BadWay su_BadWay ab_BadWay cl_BadWay dd_BadWay m0_BadWay m1_BadWay m2_BadWay m3_BadWay m5_BadWay "ValueError.__new__"))
    (sa_BadWay : PySem.W.findIn K (.ref C_BadWay) "__setattr__" = some (some (.builtin "object.__setattr__")))
    (ga_BadWay : PySem.W.findIn K (.ref C_BadWay) "__getattribute__" = some (some (.builtin "BaseException.__getattribute__")))
    (gg_BadWay : PySem.W.findIn K (.ref C_BadWay) "__getattr__" = some none)
    (np_BadWay : PySem.W.findIn K (.ref C_BadWay) "part" = some none)
    (in_BadWay : PySem.W.findIn K (.ref C_BadWay) "__init__" = some (some (.ref i_BadWay)))
    (tf_BadWay : PySem.W.typeIn K (.ref i_BadWay) = some (.type "function"))
    (kc_BadWay : PySem.W.keepIn K (.ref C_BadWay) = true)
    (eC_BadWay : PySem.W.subIn K (.ref C_BadWay) (.type "BaseException") = some true)
    (vC_BadWay : PySem.W.subIn K (.ref C_BadWay) (.type "ValueError") = some true)
    (tC_BadWay : PySem.W.typeIn K (.ref C_BadWay) = some (.type "type"))
    (hC_BadWay : PySem.W.hasDictIn K C_BadWay = true)
    (sC_BadWay : PySem.W.mroIn K C_BadWay (.ref C_BadWay) = some true)
    (su_BadWay : PySem.W.ks_superIn K C_BadWay C_BadWay "__init__" = some (some (.builtin "ValueError.__init__")))
    (fn_BadWay : K.lookup i_BadWay = some ⟨fa_BadWay, fb_BadWay, .func (PySem.W.ksFn "__init__" "BadWay.__init__" (erA (pq [⟨6, 17, 6, 21⟩, ⟨6, 23, 6, 27⟩, ⟨7, 8, 7, 13⟩, ⟨7, 8, 7, 15⟩, ⟨7, 8, 7, 24⟩, ⟨7, 27, 7, 36⟩, ⟨7, 37, 7, 41⟩, ⟨7, 36, 7, 42⟩, ⟨7, 25, 7, 43⟩, ⟨7, 8, 7, 44⟩, ⟨7, 8, 7, 44⟩, ⟨8, 8, 8, 12⟩, ⟨8, 8, 8, 17⟩, ⟨8, 20, 8, 24⟩, ⟨8, 8, 8, 24⟩])) (erB "is none: " 0 (pq [⟨6, 17, 6, 21⟩, ⟨6, 23, 6, 27⟩, ⟨7, 8, 7, 13⟩, ⟨7, 8, 7, 15⟩, ⟨7, 8, 7, 24⟩, ⟨7, 27, 7, 36⟩, ⟨7, 37, 7, 41⟩, ⟨7, 36, 7, 42⟩, ⟨7, 25, 7, 43⟩, ⟨7, 8, 7, 44⟩, ⟨7, 8, 7, 44⟩, ⟨8, 8, 8, 12⟩, ⟨8, 8, 8, 17⟩, ⟨8, 20, 8, 24⟩, ⟨8, 8, 8, 24⟩])) erS .none .none fd_BadWay fe_BadWay fc_BadWay (.ref co_BadWay) ff_BadWay cc_BadWay), fh_BadWay⟩)
    (cd_BadWay : PySem.W.codeIn K (.ref co_BadWay) "BadWay.__init__" = true)
    (cl_BadWay : K.lookup co_BadWay = some ⟨fy_BadWay, fg_BadWay, .fields vs_BadWay, fi_BadWay⟩)
    (v2_BadWay : vs_BadWay[2]? = some (.str fl_BadWay ft_BadWay))
    (fl_BadWay : ((P.main.file : Str) == fl_BadWay) = true)
    (ce_BadWay : K.lookup cc_BadWay = some ⟨fz_BadWay, fk_BadWay, .cell (some (.ref C_BadWay)), fj_BadWay⟩)
    (ha_BadWay : PySem.W.findIn K (.ref C_BadWay) "__class__" = some (some (.builtin "object.__class__")))
    (hm_BadWay : PySem.W.mroIn K C_BadWay (.type "object") = some true)
    (xm_BadWay : PySem.W.exmOne K (.ref C_BadWay) (.ref C_MirrorError) = some true)
    (xL_Misfit : K.lookup C_Misfit = some (excClassObj nm_Misfit ql_Misfit C_Misfit N_Misfit bs_Misfit [.ref C_MirrorError, .type "ValueError", .type "Exception", .type "BaseException", .type "object"] true sn_Misfit su_Misfit ab_Misfit cl_Misfit dd_Misfit m0_Misfit m1_Misfit m2_Misfit m3_Misfit m5_Misfit "ValueError.__new__"))
    (sa_Misfit : PySem.W.findIn K (.ref C_Misfit) "__setattr__" = some (some (.builtin "object.__setattr__")))
    (ga_Misfit : PySem.W.findIn K (.ref C_Misfit) "__getattribute__" = some (some (.builtin "BaseException.__getattribute__")))
    (gg_Misfit : PySem.W.findIn K (.ref C_Misfit) "__getattr__" = some none)
    (np_Misfit : PySem.W.findIn K (.ref C_Misfit) "part" = some none)
    (in_Misfit : PySem.W.findIn K (.ref C_Misfit) "__init__" = some (some (.ref i_Misfit)))
    (tf_Misfit : PySem.W.typeIn K (.ref i_Misfit) = some (.type "function"))
    (kc_Misfit : PySem.W.keepIn K (.ref C_Misfit) = true)
    (eC_Misfit : PySem.W.subIn K (.ref C_Misfit) (.type "BaseException") = some true)
    (vC_Misfit : PySem.W.subIn K (.ref C_Misfit) (.type "ValueError") = some true)
    (tC_Misfit : PySem.W.typeIn K (.ref C_Misfit) = some (.type "type"))
    (hC_Misfit : PySem.W.hasDictIn K C_Misfit = true)
    (sC_Misfit : PySem.W.mroIn K C_Misfit (.ref C_Misfit) = some true)
    (su_Misfit : PySem.W.ks_superIn K C_Misfit C_Misfit "__init__" = some (some (.builtin "ValueError.__init__")))
    (fn_Misfit : K.lookup i_Misfit = some ⟨fa_Misfit, fb_Misfit, .func (PySem.W.ksFn "__init__" "Misfit.__init__" (erA (pq [⟨16, 17, 16, 21⟩, ⟨16, 23, 16, 27⟩, ⟨17, 8, 17, 13⟩, ⟨17, 8, 17, 15⟩, ⟨17, 8, 17, 24⟩, ⟨17, 27, 17, 41⟩, ⟨17, 42, 17, 46⟩, ⟨17, 41, 17, 47⟩, ⟨17, 25, 17, 48⟩, ⟨17, 8, 17, 49⟩, ⟨17, 8, 17, 49⟩, ⟨18, 8, 18, 12⟩, ⟨18, 8, 18, 17⟩, ⟨18, 20, 18, 24⟩, ⟨18, 8, 18, 24⟩])) (erB "does not fit: " 0 (pq [⟨16, 17, 16, 21⟩, ⟨16, 23, 16, 27⟩, ⟨17, 8, 17, 13⟩, ⟨17, 8, 17, 15⟩, ⟨17, 8, 17, 24⟩, ⟨17, 27, 17, 41⟩, ⟨17, 42, 17, 46⟩, ⟨17, 41, 17, 47⟩, ⟨17, 25, 17, 48⟩, ⟨17, 8, 17, 49⟩, ⟨17, 8, 17, 49⟩, ⟨18, 8, 18, 12⟩, ⟨18, 8, 18, 17⟩, ⟨18, 20, 18, 24⟩, ⟨18, 8, 18, 24⟩])) erS .none .none fd_Misfit fe_Misfit fc_Misfit (.ref co_Misfit) ff_Misfit cc_Misfit), fh_Misfit⟩)
    (cd_Misfit : PySem.W.codeIn K (.ref co_Misfit) "Misfit.__init__" = true)
    (cl_Misfit : K.lookup co_Misfit = some ⟨fy_Misfit, fg_Misfit, .fields vs_Misfit, fi_Misfit⟩)
    (v2_Misfit : vs_Misfit[2]? = some (.str fl_Misfit ft_Misfit))
    (fl_Misfit : ((P.main.file : Str) == fl_Misfit) = true)
    (ce_Misfit : K.lookup cc_Misfit = some ⟨fz_Misfit, fk_Misfit, .cell (some (.ref C_Misfit)), fj_Misfit⟩)
    (ha_Misfit : PySem.W.findIn K (.ref C_Misfit) "__class__" = some (some (.builtin "object.__class__")))
    (hm_Misfit : PySem.W.mroIn K C_Misfit (.type "object") = some true)
    (xm_Misfit : PySem.W.exmOne K (.ref C_Misfit) (.ref C_MirrorError) = some true)
    (opq : PySem.W.nsIn K PySem.cStatics "thirdparty.any" = some none)
    (top_ : (P.main.scope.names.lookup ("super" : Str)).isSome = false)
    (hn_ : PySem.W.specialIn K (.builtin "object.__class__") "__get__" = some (some (.builtin "getset_descriptor.__get__")))
    (ht_ : PySem.W.takesIn K (.builtin "object.__class__") = some true)
    (kt_BadWord_TooMany : PySem.W.kitOne K (.ref C_BadWord) (.ref C_TooMany) = some false)
    (kt_BadWord_Misfit : PySem.W.kitOne K (.ref C_BadWord) (.ref C_Misfit) = some false)
    (kt_BadWord_BadWord : PySem.W.kitOne K (.ref C_BadWord) (.ref C_BadWord) = some true)
    (kt_BadWord_BadWay : PySem.W.kitOne K (.ref C_BadWord) (.ref C_BadWay) = some false)
    (kt_BadWay_TooMany : PySem.W.kitOne K (.ref C_BadWay) (.ref C_TooMany) = some false)
    (kt_BadWay_Misfit : PySem.W.kitOne K (.ref C_BadWay) (.ref C_Misfit) = some false)
    (kt_BadWay_BadWord : PySem.W.kitOne K (.ref C_BadWay) (.ref C_BadWord) = some false)
    (kt_BadWay_BadWay : PySem.W.kitOne K (.ref C_BadWay) (.ref C_BadWay) = some true)
    (kt_Misfit_TooMany : PySem.W.kitOne K (.ref C_Misfit) (.ref C_TooMany) = some false)
    (kt_Misfit_Misfit : PySem.W.kitOne K (.ref C_Misfit) (.ref C_Misfit) = some true)
    (kt_Misfit_BadWord : PySem.W.kitOne K (.ref C_Misfit) (.ref C_BadWord) = some false)
    (kt_Misfit_BadWay : PySem.W.kitOne K (.ref C_Misfit) (.ref C_BadWay) = some false)
    (kz_TooMany : PySem.W.kitOne K (.type "NoneType") (.ref C_TooMany) = some false)
    (kz_Misfit : PySem.W.kitOne K (.type "NoneType") (.ref C_Misfit) = some false)
    (kz_BadWord : PySem.W.kitOne K (.type "NoneType") (.ref C_BadWord) = some false)
    (kz_BadWay : PySem.W.kitOne K (.type "NoneType") (.ref C_BadWay) = some false)
    (r_law_word_right : ((PyProof.Rows.recsOf PQ).any fun e => e.name == ("_law_word_right" : Str)) = true) (t_law_word_right : PySem.W.tabIn K "_law_word_right" = some (c_law_word_right, p_law_word_right)) (nt_law_word_right : K.lookup p_law_word_right = none)
    (r_law_refused_right : ((PyProof.Rows.recsOf PQ).any fun e => e.name == ("_law_refused_right" : Str)) = true) (t_law_refused_right : PySem.W.tabIn K "_law_refused_right" = some (c_law_refused_right, p_law_refused_right)) (nt_law_refused_right : K.lookup p_law_refused_right = none)
    (d_law_word_right_law_refused_right : (p_law_word_right == p_law_refused_right) = false) :
    ∃ (fd : FuncData) (cs : List (Addr × Addr)) (sp : Sp), (∀ p ∈ cs, h.get? p.2 = some { cls := .none, data := .fields #[] }) ∧ (∀ p ∈ cs, K.lookup p.2 = none) ∧ (∀ p ∈ cs, PySem.W.CodeHd h p.1 p.2) ∧ (∀ (s : Shared) (u : Value), BindsTo s fd ⟨[u], []⟩ [("_law_script", u)]) ∧
      (∀ (H : Hp) (a : Addr) (ns : List Int), ns.length ≤ 63 → (∀ p ∈ cs, H p.2 = some (.tbl #[])) → SqL K H a (ns.map V.int) → sp [.ref a] H (fun v _ => v = .bl true) fun _ _ _ => False) ∧
      ∀ base : Heap, K.In base → base.Ns mainGlobals mg → (∀ p ∈ cs, LamX.TabB base mg p.1 p.2) → FnG P w K mg base CX0 8 fa fd ["_law_script"] sp := by
  have e := hfa.symm.trans (PySem.W.mg_of X G a21)
  cases e
  let C : CA := { BadWord := C_BadWord, BadWay := C_BadWay, Misfit := C_Misfit, MirrorError := C_MirrorError, TooMany := C_TooMany, tabs := [(p_law_word_right, (("_law_word_right" : Str) ++ ".<locals>.") ++ "<lambda>"), (p_law_refused_right, (("_law_refused_right" : Str) ++ ".<locals>.") ++ "<lambda>")] }
  let A : Ad := ⟨f_is_integer, f_is_within, f_is_list, f_is_point, f_common, f_is_way, f_word_in, f_ways_in, f_is_letter, f_need_word, f_word_of, f_ways_of, f_law_lexicon, f_law_page, f_law_one_of, f_law_heard, f_law_way, f_law_due, f_law_led, f_law_word_right, f_law_refused_right, fa, i_BadWord, i_BadWay, i_Misfit, c_law_word_right, p_law_word_right, c_law_refused_right, p_law_refused_right⟩
  have cl : Cls K C := ⟨⟨ga_BadWord, gg_BadWord, eC_BadWord, hC_BadWord, ha_BadWord, hn_, ht_, hm_BadWord⟩, xm_BadWord, np_BadWord, ⟨ga_BadWay, gg_BadWay, eC_BadWay, hC_BadWay, ha_BadWay, hn_, ht_, hm_BadWay⟩, xm_BadWay, np_BadWay, ⟨ga_Misfit, gg_Misfit, eC_Misfit, hC_Misfit, ha_Misfit, hn_, ht_, hm_Misfit⟩, xm_Misfit, np_Misfit, kt_BadWord_TooMany, kt_BadWord_Misfit, kt_BadWord_BadWord, kt_BadWord_BadWay, kt_BadWay_TooMany, kt_BadWay_Misfit, kt_BadWay_BadWord, kt_BadWay_BadWay, kt_Misfit_TooMany, kt_Misfit_Misfit, kt_Misfit_BadWord, kt_Misfit_BadWay, kz_TooMany, kz_Misfit, kz_BadWord, kz_BadWay⟩
  have e_BadWord : ErrC P K C_BadWord i_BadWord := ⟨⟨_, _, _, _, _, _, _, _, _, _, _, _, _, _, _, xL_BadWord, rfl⟩, sa_BadWord, ga_BadWord, gg_BadWord, np_BadWord, in_BadWord, tf_BadWord, kc_BadWord, eC_BadWord, vC_BadWord, tC_BadWord, hC_BadWord, sC_BadWord, su_BadWord, opq, z_super, top_, ⟨_, _, _, _, _, _, _, _, _, _, _, _, _, _, _, _, _, _, _, _, _, _, _, fn_BadWord, cd_BadWord, by decide, rfl, rfl, cl_BadWord, v2_BadWord, fl_BadWord, ce_BadWord⟩⟩
  have e_BadWay : ErrC P K C_BadWay i_BadWay := ⟨⟨_, _, _, _, _, _, _, _, _, _, _, _, _, _, _, xL_BadWay, rfl⟩, sa_BadWay, ga_BadWay, gg_BadWay, np_BadWay, in_BadWay, tf_BadWay, kc_BadWay, eC_BadWay, vC_BadWay, tC_BadWay, hC_BadWay, sC_BadWay, su_BadWay, opq, z_super, top_, ⟨_, _, _, _, _, _, _, _, _, _, _, _, _, _, _, _, _, _, _, _, _, _, _, fn_BadWay, cd_BadWay, by decide, rfl, rfl, cl_BadWay, v2_BadWay, fl_BadWay, ce_BadWay⟩⟩
  have e_Misfit : ErrC P K C_Misfit i_Misfit := ⟨⟨_, _, _, _, _, _, _, _, _, _, _, _, _, _, _, xL_Misfit, rfl⟩, sa_Misfit, ga_Misfit, gg_Misfit, np_Misfit, in_Misfit, tf_Misfit, kc_Misfit, eC_Misfit, vC_Misfit, tC_Misfit, hC_Misfit, sC_Misfit, su_Misfit, opq, z_super, top_, ⟨_, _, _, _, _, _, _, _, _, _, _, _, _, _, _, _, _, _, _, _, _, _, _, fn_Misfit, cd_Misfit, by decide, rfl, rfl, cl_Misfit, v2_Misfit, fl_Misfit, ce_Misfit⟩⟩
  have tu_law_word_right : ∀ p ∈ C.tabs, p.1 = p_law_word_right → p.2 = (("_law_word_right" : Str) ++ ".<locals>.") ++ "<lambda>" := fun p hp e => by
    rcases List.mem_cons.mp hp with rfl | hp
    · rfl
    rcases List.mem_cons.mp hp with rfl | hp
    · exact absurd (show p_law_word_right = p_law_refused_right from e.symm) (by simpa using d_law_word_right_law_refused_right)
    · cases hp
  have tu_law_refused_right : ∀ p ∈ C.tabs, p.1 = p_law_refused_right → p.2 = (("_law_refused_right" : Str) ++ ".<locals>.") ++ "<lambda>" := fun p hp e => by
    rcases List.mem_cons.mp hp with rfl | hp
    · exact absurd (show p_law_word_right = p_law_refused_right from e) (by simpa using d_law_word_right_law_refused_right)
    rcases List.mem_cons.mp hp with rfl | hp
    · rfl
    · cases hp
  have T : Txt P K mg C A := ⟨PySem.W.mg_of X G a0, k0, PySem.W.mg_of X G a1, k1, PySem.W.mg_of X G a2, k2, PySem.W.mg_of X G a3, k3, PySem.W.mg_of X G a4, k4, PySem.W.mg_of X G a5, k5, PySem.W.mg_of X G a6, k6, PySem.W.mg_of X G a7, k7, PySem.W.mg_of X G a8, k8, PySem.W.mg_of X G a9, k9, PySem.W.mg_of X G a10, k10, PySem.W.mg_of X G a11, k11, PySem.W.mg_of X G a12, k12, PySem.W.mg_of X G a13, k13, PySem.W.mg_of X G a14, k14, PySem.W.mg_of X G a15, k15, PySem.W.mg_of X G a16, k16, PySem.W.mg_of X G a17, k17, PySem.W.mg_of X G a18, k18, PySem.W.mg_of X G a19, k19, PySem.W.mg_of X G a20, k20, PySem.W.mg_of X G a21, k21, PySem.W.mg_none_of X G z_isinstance, PySem.W.mg_none_of X G z_int, PySem.W.mg_none_of X G z_bool, PySem.W.mg_none_of X G z_tuple, PySem.W.mg_none_of X G z_list, PySem.W.mg_none_of X G z_len, PySem.W.mg_none_of X G z_all, PySem.W.mg_none_of X G z_abs, PySem.W.mg_none_of X G z_reversed, PySem.W.mg_none_of X G z_str, PySem.W.mg_none_of X G z_super, PySem.W.mg_none_of X G z_max, PySem.W.mg_none_of X G z_range, PySem.W.mg_none_of X G z_repr, ⟨_, PySem.W.mg_of X G y_MOST_WAY⟩, ⟨_, PySem.W.mg_of X G y_A⟩, ⟨_, PySem.W.mg_of X G y_B⟩, ⟨_, PySem.W.mg_of X G y_EAST⟩, ⟨_, PySem.W.mg_of X G y_NORTH⟩, ⟨_, PySem.W.mg_of X G y_MOST_PAIRS⟩, ⟨_, PySem.W.mg_of X G y_MOST_TIMES⟩, PySem.W.mg_of X G g_BadWord, PySem.W.mg_of X G g_BadWay, PySem.W.mg_of X G g_Misfit, PySem.W.mg_of X G g_MirrorError, PySem.W.mg_of X G g_TooMany, e_BadWord, e_BadWay, e_Misfit, (.head _), tu_law_word_right, (.tail _ (.head _)), tu_law_refused_right⟩
  have F0 := fun_mk (st := s_is_integer) l0 c0 k0
  have F1 := fun_mk (st := s_is_within) l1 c1 k1
  have F2 := fun_mk (st := s_is_list) l2 c2 k2
  have F3 := fun_mk (st := s_is_point) l3 c3 k3
  have F4 := fun_mk (st := s_common) l4 c4 k4
  have F5 := fun_mk (st := s_is_way) l5 c5 k5
  have F6 := fun_mk (st := s_word_in) l6 c6 k6
  have F7 := fun_mk (st := s_ways_in) l7 c7 k7
  have F8 := fun_mk (st := s_is_letter) l8 c8 k8
  have F9 := fun_mk (st := s_need_word) l9 c9 k9
  have F10 := fun_mk (st := s_word_of) l10 c10 k10
  have F11 := fun_mk (st := s_ways_of) l11 c11 k11
  have F12 := fun_mk (st := s_law_lexicon) l12 c12 k12
  have F13 := fun_mk (st := s_law_page) l13 c13 k13
  have F14 := fun_mk (st := s_law_one_of) l14 c14 k14
  have F15 := fun_mk (st := s_law_heard) l15 c15 k15
  have F16 := fun_mk (st := s_law_way) l16 c16 k16
  have F17 := fun_mk (st := s_law_due) l17 c17 k17
  have F18 := fun_mk (st := s_law_led) l18 c18 k18
  have F19 := fun_mk (st := s_law_word_right) l19 c19 k19
  have F20 := fun_mk (st := s_law_refused_right) l20 c20 k20
  have F21 := fun_mk (st := s_law) l21 c21 k21
  let D : Fds := ⟨PySem.W.fnOf "is_integer" "is_integer" (defArgs s_is_integer) (defBody s_is_integer) (defScope s_is_integer) .none kV0 dc0 pm0 an0 cd0 ct0,
    PySem.W.fnOf "is_within" "is_within" (defArgs s_is_within) (defBody s_is_within) (defScope s_is_within) .none kV1 dc1 pm1 an1 cd1 ct1,
    PySem.W.fnOf "is_list" "is_list" (defArgs s_is_list) (defBody s_is_list) (defScope s_is_list) .none kV2 dc2 pm2 an2 cd2 ct2,
    PySem.W.fnOf "is_point" "is_point" (defArgs s_is_point) (defBody s_is_point) (defScope s_is_point) .none kV3 dc3 pm3 an3 cd3 ct3,
    PySem.W.fnOf "common" "common" (defArgs s_common) (defBody s_common) (defScope s_common) .none kV4 dc4 pm4 an4 cd4 ct4,
    PySem.W.fnOf "is_way" "is_way" (defArgs s_is_way) (defBody s_is_way) (defScope s_is_way) .none kV5 dc5 pm5 an5 cd5 ct5,
    PySem.W.fnOf "word_in" "word_in" (defArgs s_word_in) (defBody s_word_in) (defScope s_word_in) .none kV6 dc6 pm6 an6 cd6 ct6,
    PySem.W.fnOf "ways_in" "ways_in" (defArgs s_ways_in) (defBody s_ways_in) (defScope s_ways_in) .none kV7 dc7 pm7 an7 cd7 ct7,
    PySem.W.fnOf "is_letter" "is_letter" (defArgs s_is_letter) (defBody s_is_letter) (defScope s_is_letter) .none kV8 dc8 pm8 an8 cd8 ct8,
    PySem.W.fnOf "need_word" "need_word" (defArgs s_need_word) (defBody s_need_word) (defScope s_need_word) .none kV9 dc9 pm9 an9 cd9 ct9,
    PySem.W.fnOf "word_of" "word_of" (defArgs s_word_of) (defBody s_word_of) (defScope s_word_of) .none kV10 dc10 pm10 an10 cd10 ct10,
    PySem.W.fnOf "ways_of" "ways_of" (defArgs s_ways_of) (defBody s_ways_of) (defScope s_ways_of) .none kV11 dc11 pm11 an11 cd11 ct11,
    PySem.W.fnOf "_law_lexicon" "_law_lexicon" (defArgs s_law_lexicon) (defBody s_law_lexicon) (defScope s_law_lexicon) .none kV12 dc12 pm12 an12 cd12 ct12,
    PySem.W.fnOf "_law_page" "_law_page" (defArgs s_law_page) (defBody s_law_page) (defScope s_law_page) .none kV13 dc13 pm13 an13 cd13 ct13,
    PySem.W.fnOf "_law_one_of" "_law_one_of" (defArgs s_law_one_of) (defBody s_law_one_of) (defScope s_law_one_of) .none kV14 dc14 pm14 an14 cd14 ct14,
    PySem.W.fnOf "_law_heard" "_law_heard" (defArgs s_law_heard) (defBody s_law_heard) (defScope s_law_heard) .none kV15 dc15 pm15 an15 cd15 ct15,
    PySem.W.fnOf "_law_way" "_law_way" (defArgs s_law_way) (defBody s_law_way) (defScope s_law_way) .none kV16 dc16 pm16 an16 cd16 ct16,
    PySem.W.fnOf "_law_due" "_law_due" (defArgs s_law_due) (defBody s_law_due) (defScope s_law_due) .none kV17 dc17 pm17 an17 cd17 ct17,
    PySem.W.fnOf "_law_led" "_law_led" (defArgs s_law_led) (defBody s_law_led) (defScope s_law_led) .none kV18 dc18 pm18 an18 cd18 ct18,
    PySem.W.fnOf "_law_word_right" "_law_word_right" (defArgs s_law_word_right) (defBody s_law_word_right) (defScope s_law_word_right) .none kV19 dc19 pm19 an19 (.ref c_law_word_right) ct19,
    PySem.W.fnOf "_law_refused_right" "_law_refused_right" (defArgs s_law_refused_right) (defBody s_law_refused_right) (defScope s_law_refused_right) .none kV20 dc20 pm20 an20 (.ref c_law_refused_right) ct20,
    PySem.W.fnOf "law" "law" (defArgs s_law) (defBody s_law) (defScope s_law) .none kV21 dc21 pm21 an21 cd21 ct21⟩
  have B : Bnd K D := ⟨(F0.binds (ps := ["value"]) fun _ _ _ _ _ _ us hl => match us, hl with | [_], _ => rfl),
    (F1.binds (ps := ["value", "least", "most"]) fun _ _ _ _ _ _ us hl => match us, hl with | [_, _, _], _ => rfl),
    (F2.binds (ps := ["value"]) fun _ _ _ _ _ _ us hl => match us, hl with | [_], _ => rfl),
    (F3.binds (ps := ["value"]) fun _ _ _ _ _ _ us hl => match us, hl with | [_], _ => rfl),
    (F4.binds (ps := ["one", "other"]) fun _ _ _ _ _ _ us hl => match us, hl with | [_, _], _ => rfl),
    (F5.binds (ps := ["value"]) fun _ _ _ _ _ _ us hl => match us, hl with | [_], _ => rfl),
    (F6.binds (ps := ["way"]) fun _ _ _ _ _ _ us hl => match us, hl with | [_], _ => rfl),
    (F7.binds (ps := ["word"]) fun _ _ _ _ _ _ us hl => match us, hl with | [_], _ => rfl),
    (F8.binds (ps := ["value"]) fun _ _ _ _ _ _ us hl => match us, hl with | [_], _ => rfl),
    (F9.binds (ps := ["value"]) fun _ _ _ _ _ _ us hl => match us, hl with | [_], _ => rfl),
    (F10.binds (ps := ["way"]) fun _ _ _ _ _ _ us hl => match us, hl with | [_], _ => rfl),
    (F11.binds (ps := ["word"]) fun _ _ _ _ _ _ us hl => match us, hl with | [_], _ => rfl),
    (F12.binds (ps := ["_law_script"]) fun _ _ _ _ _ _ us hl => match us, hl with | [_], _ => rfl),
    (F13.binds (ps := ["_law_lexicon_here", "_law_many"]) fun _ _ _ _ _ _ us hl => match us, hl with | [_, _], _ => rfl),
    (F14.binds (ps := ["_law_lexicon_here", "_law_some"]) fun _ _ _ _ _ _ us hl => match us, hl with | [_, _], _ => rfl),
    (F15.binds (ps := ["_law_ask"]) fun _ _ _ _ _ _ us hl => match us, hl with | [_], _ => rfl),
    (F16.binds (ps := ["_law_lexicon_here"]) fun _ _ _ _ _ _ us hl => match us, hl with | [_], _ => rfl),
    (F17.binds (ps := ["_law_way_here"]) fun _ _ _ _ _ _ us hl => match us, hl with | [_], _ => rfl),
    (F18.binds (ps := ["_law_way_here", "_law_word"]) fun _ _ _ _ _ _ us hl => match us, hl with | [_, _], _ => rfl),
    (F19.binds (ps := ["_law_lexicon_here"]) fun _ _ _ _ _ _ us hl => match us, hl with | [_], _ => rfl),
    (F20.binds (ps := ["_law_lexicon_here"]) fun _ _ _ _ _ _ us hl => match us, hl with | [_], _ => rfl),
    (F21.binds (ps := ["_law_script"]) fun _ _ _ _ _ _ us hl => match us, hl with | [_], _ => rfl),
    (fun_kb (ps := ["word"]) (ks := ["word"]) (g := kb_ways_of_0_word_g) (gV := kb_ways_of_0_word_g) F11 (by exact kb_ways_of_0_word_to) (by exact kb_ways_of_0_word_rel)),
    (fun_kb (ps := ["way"]) (ks := ["way"]) (g := kb_word_of_0_way_g) (gV := kb_word_of_0_way_g) F10 (by exact kb_word_of_0_way_to) (by exact kb_word_of_0_way_rel))⟩
  refine ⟨D.f_law, [(c_law_word_right, p_law_word_right), (c_law_refused_right, p_law_refused_right)], sp_law K C, fun p hp => ?_, fun p hp => ?_, fun p hp => ?_, fun s v => .of_eq rfl, fun H a ns hl ht hs => ?_, fun base _ _ TB => ?_⟩
  · rcases List.mem_cons.mp hp with rfl | hp
    · exact (tabs _ _ _ r_law_word_right t_law_word_right).2
    rcases List.mem_cons.mp hp with rfl | hp
    · exact (tabs _ _ _ r_law_refused_right t_law_refused_right).2
    · cases hp
  · rcases List.mem_cons.mp hp with rfl | hp
    · exact nt_law_word_right
    rcases List.mem_cons.mp hp with rfl | hp
    · exact nt_law_refused_right
    · cases hp
  · rcases List.mem_cons.mp hp with rfl | hp
    · exact (tabs _ _ _ r_law_word_right t_law_word_right).1
    rcases List.mem_cons.mp hp with rfl | hp
    · exact (tabs _ _ _ r_law_refused_right t_law_refused_right).1
    · cases hp
  · refine ⟨a, ns, rfl, hs, hl, fun p hp => ?_, fun _ => rfl⟩
    rcases List.mem_cons.mp hp with rfl | hp
    · exact LamX.TabS.nil (ht (c_law_word_right, p_law_word_right) (.head _))
    rcases List.mem_cons.mp hp with rfl | hp
    · exact LamX.TabS.nil (ht (c_law_refused_right, p_law_refused_right) (.tail _ (.head _)))
    · cases hp
  have TB_law_word_right := TB (c_law_word_right, p_law_word_right) (.head _)
  have TB_law_refused_right := TB (c_law_refused_right, p_law_refused_right) (.tail _ (.head _))
  have O_is_integer : FnOk P w K mg base CX0 1 f_is_integer D.f_is_integer ["value"] (sp_is_integer K C) := ok_is_integer (A := A) (D := D) F0 T B  pure_is_integer
  have O_is_within : FnOk P w K mg base CX0 2 f_is_within D.f_is_within ["value", "least", "most"] (sp_is_within K C) := ok_is_within (A := A) (D := D) F1 T B O_is_integer pure_is_within
  have O_is_list : FnOk P w K mg base CX0 1 f_is_list D.f_is_list ["value"] (sp_is_list K C) := ok_is_list (A := A) (D := D) F2 T B  pure_is_list
  have O_is_point : FnOk P w K mg base CX0 2 f_is_point D.f_is_point ["value"] (sp_is_point K C) := ok_is_point (A := A) (D := D) F3 T B O_is_list O_is_integer pure_is_point
  have O_common : FnOk P w K mg base CX0 1 f_common D.f_common ["one", "other"] (sp_common K C) := ok_common (A := A) (D := D) F4 T B  pure_common
  have O_is_way : FnOk P w K mg base CX0 3 f_is_way D.f_is_way ["value"] (sp_is_way K C) := ok_is_way (A := A) (D := D) F5 T B O_is_point O_is_within O_common pure_is_way
  have O_word_in : FnOk P w K mg base CX0 1 f_word_in D.f_word_in ["way"] (sp_word_in K C) := ok_word_in (A := A) (D := D) F6 T B  pure_word_in
  have O_ways_in : FnOk P w K mg base CX0 1 f_ways_in D.f_ways_in ["word"] (sp_ways_in K C) := ok_ways_in (A := A) (D := D) F7 T B  pure_ways_in
  have O_is_letter : FnOk P w K mg base CX0 1 f_is_letter D.f_is_letter ["value"] (sp_is_letter K C) := ok_is_letter (A := A) (D := D) F8 T B  pure_is_letter
  have O_need_word : FnOk P w K mg base (L2.CX P w) 3 f_need_word D.f_need_word ["value"] (sp_need_word K C) := ok_need_word (A := A) (D := D) F9 T B O_is_list O_is_letter O_is_within pure_need_word
  have O_word_of : FnOk P w K mg base (L2.CX P w) 4 f_word_of D.f_word_of ["way"] (sp_word_of K C) := ok_word_of (A := A) (D := D) F10 T B O_is_way O_word_in pure_word_of
  have O_ways_of : FnOk P w K mg base (L2.CX P w) 4 f_ways_of D.f_ways_of ["word"] (sp_ways_of K C) := ok_ways_of (A := A) (D := D) F11 T B O_ways_in O_need_word pure_ways_of
  have O_law_lexicon : FnOk P w K mg base CX0 1 f_law_lexicon D.f_law_lexicon ["_law_script"] (sp_law_lexicon K C) := ok_law_lexicon (A := A) (D := D) F12 T B  pure_law_lexicon
  have O_law_page : FnOk P w K mg base CX0 1 f_law_page D.f_law_page ["_law_lexicon_here", "_law_many"] (sp_law_page K C) := ok_law_page (A := A) (D := D) F13 T B  pure_law_page
  have O_law_one_of : FnOk P w K mg base CX0 2 f_law_one_of D.f_law_one_of ["_law_lexicon_here", "_law_some"] (sp_law_one_of K C) := ok_law_one_of (A := A) (D := D) F14 T B O_law_page pure_law_one_of
  have O_law_way : FnOk P w K mg base CX0 3 f_law_way D.f_law_way ["_law_lexicon_here"] (sp_law_way K C) := ok_law_way (A := A) (D := D) F16 T B O_law_page O_law_one_of pure_law_way
  have O_law_due : FnOk P w K mg base CX0 1 f_law_due D.f_law_due ["_law_way_here"] (sp_law_due K C) := ok_law_due (A := A) (D := D) F17 T B  pure_law_due
  have O_law_led : FnOk P w K mg base CX0 1 f_law_led D.f_law_led ["_law_way_here", "_law_word"] (sp_law_led K C) := ok_law_led (A := A) (D := D) F18 T B  pure_law_led
  have O_law_word_right : FnG P w K mg base CX0 7 f_law_word_right D.f_law_word_right ["_law_lexicon_here"] (sp_law_word_right K C) := ok_law_word_right (A := A) (D := D) F19 T B O_law_page O_law_one_of O_ways_of O_law_led F15 (pure_law_heard cl) rfl TB_law_word_right pure_law_word_right
  have O_law_refused_right : FnG P w K mg base CX0 7 f_law_refused_right D.f_law_refused_right ["_law_lexicon_here"] (sp_law_refused_right K C) := ok_law_refused_right (A := A) (D := D) F20 T B O_law_one_of O_ways_of O_word_of F15 (pure_law_heard cl) rfl TB_law_refused_right pure_law_refused_right
  exact ok_law (A := A) (D := D) F21 T B O_law_lexicon O_law_way O_law_due O_word_of O_law_led O_ways_of O_law_word_right O_law_refused_right pure_law
end NK

open PySem PySem.W PyProof.Rows in
set_option maxRecDepth 100000 in
set_option maxHeartbeats 0 in
set_option pp.maxSteps 6 in
theorem PySem.Challenge.cw_neverhit_k24_words_and_ways_holds : PySem.Challenge.rw_neverhit_k24_words_and_ways.Holds := by
  w_on; o_law; k_head; (case hw => w_witness2)
  k_fill
  refine NK.walkGT (l := PySem.Challenge.rw_neverhit_k24_words_and_ways) (n := 63) (k := 8) (x := "_law_script") (CX := fun _ => L2.CX0) rfl (by decide) rfl ⟨rfl, by decide, by decide⟩ (fun w h Y => by first | exact PySem.W.kIn_of Y | exact PySem.W.km_in_of Y) ?F (fun _ _ _ _ _ z => z)
  case F =>
    intro w mg fa h KX G hmg tabs
    refine' NK.all_mk KX G hmg tabs ?a0 ?l0 ?c0 ?k0 ?a1 ?l1 ?c1 ?k1 ?a2 ?l2 ?c2 ?k2 ?a3 ?l3 ?c3 ?k3 ?a4 ?l4 ?c4 ?k4 ?a5 ?l5 ?c5 ?k5 ?a6 ?l6 ?c6 ?k6 ?a7 ?l7 ?c7 ?k7 ?a8 ?l8 ?c8 ?k8 ?a9 ?l9 ?c9 ?k9 ?a10 ?l10 ?c10 ?k10 ?a11 ?l11 ?c11 ?k11 ?a12 ?l12 ?c12 ?k12 ?a13 ?l13 ?c13 ?k13 ?a14 ?l14 ?c14 ?k14 ?a15 ?l15 ?c15 ?k15 ?a16 ?l16 ?c16 ?k16 ?a17 ?l17 ?c17 ?k17 ?a18 ?l18 ?c18 ?k18 ?a19 ?l19 ?c19 ?k19 ?a20 ?l20 ?c20 ?k20 ?a21 ?l21 ?c21 ?k21 ?z_isinstance ?z_int ?z_bool ?z_tuple ?z_list ?z_len ?z_all ?z_abs ?z_reversed ?z_str ?z_super ?z_max ?z_range ?z_repr ?y_MOST_WAY ?y_A ?y_B ?y_EAST ?y_NORTH ?y_MOST_PAIRS ?y_MOST_TIMES ?g_BadWord ?g_BadWay ?g_Misfit ?g_MirrorError ?g_TooMany ?xL_BadWord ?sa_BadWord ?ga_BadWord ?gg_BadWord ?np_BadWord ?in_BadWord ?tf_BadWord ?kc_BadWord ?eC_BadWord ?vC_BadWord ?tC_BadWord ?hC_BadWord ?sC_BadWord ?su_BadWord ?fn_BadWord ?cd_BadWord ?cl_BadWord ?v2_BadWord ?fl_BadWord ?ce_BadWord ?ha_BadWord ?hm_BadWord ?xm_BadWord ?xL_BadWay ?sa_BadWay ?ga_BadWay ?gg_BadWay ?np_BadWay ?in_BadWay ?tf_BadWay ?kc_BadWay ?eC_BadWay ?vC_BadWay ?tC_BadWay ?hC_BadWay ?sC_BadWay ?su_BadWay ?fn_BadWay ?cd_BadWay ?cl_BadWay ?v2_BadWay ?fl_BadWay ?ce_BadWay ?ha_BadWay ?hm_BadWay ?xm_BadWay ?xL_Misfit ?sa_Misfit ?ga_Misfit ?gg_Misfit ?np_Misfit ?in_Misfit ?tf_Misfit ?kc_Misfit ?eC_Misfit ?vC_Misfit ?tC_Misfit ?hC_Misfit ?sC_Misfit ?su_Misfit ?fn_Misfit ?cd_Misfit ?cl_Misfit ?v2_Misfit ?fl_Misfit ?ce_Misfit ?ha_Misfit ?hm_Misfit ?xm_Misfit ?opq ?top_ ?hn_ ?ht_ ?kt_BadWord_TooMany ?kt_BadWord_Misfit ?kt_BadWord_BadWord ?kt_BadWord_BadWay ?kt_BadWay_TooMany ?kt_BadWay_Misfit ?kt_BadWay_BadWord ?kt_BadWay_BadWay ?kt_Misfit_TooMany ?kt_Misfit_Misfit ?kt_Misfit_BadWord ?kt_Misfit_BadWay ?kz_TooMany ?kz_Misfit ?kz_BadWord ?kz_BadWay ?r_law_word_right ?t_law_word_right ?nt_law_word_right ?r_law_refused_right ?t_law_refused_right ?nt_law_refused_right ?d_law_word_right_law_refused_right
    (case a0 => first | k_is | rfl | decide +kernel)
    (case l0 => first | k_is | rfl | decide +kernel)
    (case c0 => first | k_is | rfl | decide +kernel)
    (case k0 => first | k_is | rfl | decide +kernel)
    (case a1 => first | k_is | rfl | decide +kernel)
    (case l1 => first | k_is | rfl | decide +kernel)
    (case c1 => first | k_is | rfl | decide +kernel)
    (case k1 => first | k_is | rfl | decide +kernel)
    (case a2 => first | k_is | rfl | decide +kernel)
    (case l2 => first | k_is | rfl | decide +kernel)
    (case c2 => first | k_is | rfl | decide +kernel)
    (case k2 => first | k_is | rfl | decide +kernel)
    (case a3 => first | k_is | rfl | decide +kernel)
    (case l3 => first | k_is | rfl | decide +kernel)
    (case c3 => first | k_is | rfl | decide +kernel)
    (case k3 => first | k_is | rfl | decide +kernel)
    (case a4 => first | k_is | rfl | decide +kernel)
    (case l4 => first | k_is | rfl | decide +kernel)
    (case c4 => first | k_is | rfl | decide +kernel)
    (case k4 => first | k_is | rfl | decide +kernel)
    (case a5 => first | k_is | rfl | decide +kernel)
    (case l5 => first | k_is | rfl | decide +kernel)
    (case c5 => first | k_is | rfl | decide +kernel)
    (case k5 => first | k_is | rfl | decide +kernel)
    (case a6 => first | k_is | rfl | decide +kernel)
    (case l6 => first | k_is | rfl | decide +kernel)
    (case c6 => first | k_is | rfl | decide +kernel)
    (case k6 => first | k_is | rfl | decide +kernel)
    (case a7 => first | k_is | rfl | decide +kernel)
    (case l7 => first | k_is | rfl | decide +kernel)
    (case c7 => first | k_is | rfl | decide +kernel)
    (case k7 => first | k_is | rfl | decide +kernel)
    (case a8 => first | k_is | rfl | decide +kernel)
    (case l8 => first | k_is | rfl | decide +kernel)
    (case c8 => first | k_is | rfl | decide +kernel)
    (case k8 => first | k_is | rfl | decide +kernel)
    (case a9 => first | k_is | rfl | decide +kernel)
    (case l9 => first | k_is | rfl | decide +kernel)
    (case c9 => first | k_is | rfl | decide +kernel)
    (case k9 => first | k_is | rfl | decide +kernel)
    (case a10 => first | k_is | rfl | decide +kernel)
    (case l10 => first | k_is | rfl | decide +kernel)
    (case c10 => first | k_is | rfl | decide +kernel)
    (case k10 => first | k_is | rfl | decide +kernel)
    (case a11 => first | k_is | rfl | decide +kernel)
    (case l11 => first | k_is | rfl | decide +kernel)
    (case c11 => first | k_is | rfl | decide +kernel)
    (case k11 => first | k_is | rfl | decide +kernel)
    (case a12 => first | k_is | rfl | decide +kernel)
    (case l12 => first | k_is | rfl | decide +kernel)
    (case c12 => first | k_is | rfl | decide +kernel)
    (case k12 => first | k_is | rfl | decide +kernel)
    (case a13 => first | k_is | rfl | decide +kernel)
    (case l13 => first | k_is | rfl | decide +kernel)
    (case c13 => first | k_is | rfl | decide +kernel)
    (case k13 => first | k_is | rfl | decide +kernel)
    (case a14 => first | k_is | rfl | decide +kernel)
    (case l14 => first | k_is | rfl | decide +kernel)
    (case c14 => first | k_is | rfl | decide +kernel)
    (case k14 => first | k_is | rfl | decide +kernel)
    (case a15 => first | k_is | rfl | decide +kernel)
    (case l15 => first | k_is | rfl | decide +kernel)
    (case c15 => first | k_is | rfl | decide +kernel)
    (case k15 => first | k_is | rfl | decide +kernel)
    (case a16 => first | k_is | rfl | decide +kernel)
    (case l16 => first | k_is | rfl | decide +kernel)
    (case c16 => first | k_is | rfl | decide +kernel)
    (case k16 => first | k_is | rfl | decide +kernel)
    (case a17 => first | k_is | rfl | decide +kernel)
    (case l17 => first | k_is | rfl | decide +kernel)
    (case c17 => first | k_is | rfl | decide +kernel)
    (case k17 => first | k_is | rfl | decide +kernel)
    (case a18 => first | k_is | rfl | decide +kernel)
    (case l18 => first | k_is | rfl | decide +kernel)
    (case c18 => first | k_is | rfl | decide +kernel)
    (case k18 => first | k_is | rfl | decide +kernel)
    (case a19 => first | k_is | rfl | decide +kernel)
    (case l19 => first | k_is | rfl | decide +kernel)
    (case c19 => first | k_is | rfl | decide +kernel)
    (case k19 => first | k_is | rfl | decide +kernel)
    (case a20 => first | k_is | rfl | decide +kernel)
    (case l20 => first | k_is | rfl | decide +kernel)
    (case c20 => first | k_is | rfl | decide +kernel)
    (case k20 => first | k_is | rfl | decide +kernel)
    (case a21 => first | k_is | rfl | decide +kernel)
    (case l21 => first | k_is | rfl | decide +kernel)
    (case c21 => first | k_is | rfl | decide +kernel)
    (case k21 => first | k_is | rfl | decide +kernel)
    (case z_isinstance => first | k_is | rfl | decide +kernel)
    (case z_int => first | k_is | rfl | decide +kernel)
    (case z_bool => first | k_is | rfl | decide +kernel)
    (case z_tuple => first | k_is | rfl | decide +kernel)
    (case z_list => first | k_is | rfl | decide +kernel)
    (case z_len => first | k_is | rfl | decide +kernel)
    (case z_all => first | k_is | rfl | decide +kernel)
    (case z_abs => first | k_is | rfl | decide +kernel)
    (case z_reversed => first | k_is | rfl | decide +kernel)
    (case z_str => first | k_is | rfl | decide +kernel)
    (case z_super => first | k_is | rfl | decide +kernel)
    (case z_max => first | k_is | rfl | decide +kernel)
    (case z_range => first | k_is | rfl | decide +kernel)
    (case z_repr => first | k_is | rfl | decide +kernel)
    (case y_MOST_WAY => first | k_is | rfl | decide +kernel)
    (case y_A => first | k_is | rfl | decide +kernel)
    (case y_B => first | k_is | rfl | decide +kernel)
    (case y_EAST => first | k_is | rfl | decide +kernel)
    (case y_NORTH => first | k_is | rfl | decide +kernel)
    (case y_MOST_PAIRS => first | k_is | rfl | decide +kernel)
    (case y_MOST_TIMES => first | k_is | rfl | decide +kernel)
    (case g_BadWord => first | k_is | rfl | decide +kernel)
    (case g_BadWay => first | k_is | rfl | decide +kernel)
    (case g_Misfit => first | k_is | rfl | decide +kernel)
    (case g_MirrorError => first | k_is | rfl | decide +kernel)
    (case g_TooMany => first | k_is | rfl | decide +kernel)
    (case xL_BadWord => first | k_is | rfl | decide +kernel)
    (case sa_BadWord => first | k_is | rfl | decide +kernel)
    (case ga_BadWord => first | k_is | rfl | decide +kernel)
    (case gg_BadWord => first | k_is | rfl | decide +kernel)
    (case np_BadWord => first | k_is | rfl | decide +kernel)
    (case in_BadWord => first | k_is | rfl | decide +kernel)
    (case tf_BadWord => first | k_is | rfl | decide +kernel)
    (case kc_BadWord => first | k_is | rfl | decide +kernel)
    (case eC_BadWord => first | k_is | rfl | decide +kernel)
    (case vC_BadWord => first | k_is | rfl | decide +kernel)
    (case tC_BadWord => first | k_is | rfl | decide +kernel)
    (case hC_BadWord => first | k_is | rfl | decide +kernel)
    (case sC_BadWord => first | k_is | rfl | decide +kernel)
    (case su_BadWord => first | k_is | rfl | decide +kernel)
    (case fn_BadWord => first | k_is | rfl | decide +kernel)
    (case cd_BadWord => first | k_is | rfl | decide +kernel)
    (case cl_BadWord => first | k_is | rfl | decide +kernel)
    (case v2_BadWord => first | k_is | rfl | decide +kernel)
    (case fl_BadWord => first | k_is | rfl | decide +kernel)
    (case ce_BadWord => first | k_is | rfl | decide +kernel)
    (case ha_BadWord => first | k_is | rfl | decide +kernel)
    (case hm_BadWord => first | k_is | rfl | decide +kernel)
    (case xm_BadWord => first | k_is | rfl | decide +kernel)
    (case xL_BadWay => first | k_is | rfl | decide +kernel)
    (case sa_BadWay => first | k_is | rfl | decide +kernel)
    (case ga_BadWay => first | k_is | rfl | decide +kernel)
    (case gg_BadWay => first | k_is | rfl | decide +kernel)
    (case np_BadWay => first | k_is | rfl | decide +kernel)
    (case in_BadWay => first | k_is | rfl | decide +kernel)
    (case tf_BadWay => first | k_is | rfl | decide +kernel)
    (case kc_BadWay => first | k_is | rfl | decide +kernel)
    (case eC_BadWay => first | k_is | rfl | decide +kernel)
    (case vC_BadWay => first | k_is | rfl | decide +kernel)
    (case tC_BadWay => first | k_is | rfl | decide +kernel)
    (case hC_BadWay => first | k_is | rfl | decide +kernel)
    (case sC_BadWay => first | k_is | rfl | decide +kernel)
    (case su_BadWay => first | k_is | rfl | decide +kernel)
    (case fn_BadWay => first | k_is | rfl | decide +kernel)
    (case cd_BadWay => first | k_is | rfl | decide +kernel)
    (case cl_BadWay => first | k_is | rfl | decide +kernel)
    (case v2_BadWay => first | k_is | rfl | decide +kernel)
    (case fl_BadWay => first | k_is | rfl | decide +kernel)
    (case ce_BadWay => first | k_is | rfl | decide +kernel)
    (case ha_BadWay => first | k_is | rfl | decide +kernel)
    (case hm_BadWay => first | k_is | rfl | decide +kernel)
    (case xm_BadWay => first | k_is | rfl | decide +kernel)
    (case xL_Misfit => first | k_is | rfl | decide +kernel)
    (case sa_Misfit => first | k_is | rfl | decide +kernel)
    (case ga_Misfit => first | k_is | rfl | decide +kernel)
    (case gg_Misfit => first | k_is | rfl | decide +kernel)
    (case np_Misfit => first | k_is | rfl | decide +kernel)
    (case in_Misfit => first | k_is | rfl | decide +kernel)
    (case tf_Misfit => first | k_is | rfl | decide +kernel)
    (case kc_Misfit => first | k_is | rfl | decide +kernel)
    (case eC_Misfit => first | k_is | rfl | decide +kernel)
    (case vC_Misfit => first | k_is | rfl | decide +kernel)
    (case tC_Misfit => first | k_is | rfl | decide +kernel)
    (case hC_Misfit => first | k_is | rfl | decide +kernel)
    (case sC_Misfit => first | k_is | rfl | decide +kernel)
    (case su_Misfit => first | k_is | rfl | decide +kernel)
    (case fn_Misfit => first | k_is | rfl | decide +kernel)
    (case cd_Misfit => first | k_is | rfl | decide +kernel)
    (case cl_Misfit => first | k_is | rfl | decide +kernel)
    (case v2_Misfit => first | k_is | rfl | decide +kernel)
    (case fl_Misfit => first | k_is | rfl | decide +kernel)
    (case ce_Misfit => first | k_is | rfl | decide +kernel)
    (case ha_Misfit => first | k_is | rfl | decide +kernel)
    (case hm_Misfit => first | k_is | rfl | decide +kernel)
    (case xm_Misfit => first | k_is | rfl | decide +kernel)
    (case opq => first | k_is | rfl | decide +kernel)
    (case top_ => first | k_is | rfl | decide +kernel)
    (case hn_ => first | k_is | rfl | decide +kernel)
    (case ht_ => first | k_is | rfl | decide +kernel)
    (case kt_BadWord_TooMany => first | k_is | rfl | decide +kernel)
    (case kt_BadWord_Misfit => first | k_is | rfl | decide +kernel)
    (case kt_BadWord_BadWord => first | k_is | rfl | decide +kernel)
    (case kt_BadWord_BadWay => first | k_is | rfl | decide +kernel)
    (case kt_BadWay_TooMany => first | k_is | rfl | decide +kernel)
    (case kt_BadWay_Misfit => first | k_is | rfl | decide +kernel)
    (case kt_BadWay_BadWord => first | k_is | rfl | decide +kernel)
    (case kt_BadWay_BadWay => first | k_is | rfl | decide +kernel)
    (case kt_Misfit_TooMany => first | k_is | rfl | decide +kernel)
    (case kt_Misfit_Misfit => first | k_is | rfl | decide +kernel)
    (case kt_Misfit_BadWord => first | k_is | rfl | decide +kernel)
    (case kt_Misfit_BadWay => first | k_is | rfl | decide +kernel)
    (case kz_TooMany => first | k_is | rfl | decide +kernel)
    (case kz_Misfit => first | k_is | rfl | decide +kernel)
    (case kz_BadWord => first | k_is | rfl | decide +kernel)
    (case kz_BadWay => first | k_is | rfl | decide +kernel)
    (case r_law_word_right => first | k_is | rfl | decide +kernel)
    (case t_law_word_right => first | k_is | rfl | decide +kernel)
    (case nt_law_word_right => first | k_is | rfl | decide +kernel)
    (case r_law_refused_right => first | k_is | rfl | decide +kernel)
    (case t_law_refused_right => first | k_is | rfl | decide +kernel)
    (case nt_law_refused_right => first | k_is | rfl | decide +kernel)
    (case d_law_word_right_law_refused_right => first | k_is | rfl | decide +kernel)
